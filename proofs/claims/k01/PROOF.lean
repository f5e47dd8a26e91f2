import PyProof.Rows.All
import Wide.All
import OpenK.AllK
import Wide.FinOn
import HandS.ForMost
import HandS.ForExc
import HandS.Deep
import HandS.IsInst
import HandS.Defaults
import HandS.Flow
import HandS.HeadHook1
import HandS.MakeKwOnly
import HandS.MakeKw
import KE.GoesMore
import HandS.Zip
import HandS.More
import HandS.TryMany
import HandS.ExcInit
import HandS.ExcField
import HandS.HeadHook2
import HandS.HeadEnd
import HandS.Words
import HandS.WordsExc
import KE.KStateDown
import HandS.Head0
import HandS.Head1
import HandS.Head2
import HandS.Strs
import PySem.Challenge.RW_groupsure_k01_tables_refused
set_option Elab.async false
set_option linter.all false
set_option maxRecDepth 100000
/-! The functional layer: data, states, outcomes, and how they lie in the abstract heap. -/
namespace G
open PySem PySem.Spec L2

/-- pure data; an instance by its class's name -/
inductive D where
  | non | bl (b : Bool) | int (i : Int) | str (x : Str)
  | tup (xs : List D) | lst (xs : List D) | tupB (xs : List D)
  | dK (kvs : List (Key × D)) | dT (kvs : List (List Key × D))
  | ins (c : Str) (fs : List (Str × D))
/-- a value: data, the n-th cell, what the i-th slot owns -/
inductive Val where
  | d (x : D) | r (n : Nat) | s (i : Nat)
/-- a thing that may change -/
inductive Cell where
  | lst (xs : List Val) | dK (kvs : List (Key × Val)) | dT (kvs : List (List Key × Val)) | ins (c : Str) (fs : List (Str × Val))
inductive Slot where
  | no | v (x : Val) | acc (c : Cell)
structure Exc where
  cls : Str
  fs : List (Str × D)
/-- the state: slots by place, cells -/
structure Sg where
  rhq : List Slot
  Omq : List (Option Cell)
inductive Out (α : Type) where
  | ok (a : α) (s : Sg) | exc (x : Exc) (s : Sg) | stuck
abbrev M (α : Type) := Sg → Out α
@[reducible] def M.pure {α : Type} (a : α) : M α := fun s => .ok a s
@[reducible] def Out.bind {α β : Type} (o : Out α) (k : α → M β) : Out β := match o with
  | .ok a s => k a s
  | .exc x s => .exc x s
  | .stuck => .stuck
@[reducible] def M.bind {α β : Type} (m : M α) (k : α → M β) : M β := fun s => (m s).bind k
instance : Monad M where
  pure := M.pure
  bind := M.bind
def stuck {α : Type} : M α := fun _ => .stuck
def orStuck {α : Type} : Option α → M α
  | some a => M.pure a
  | none => stuck

/-! ### how data lie in a heap F of things that never change (K: the written part) -/
def KT (K : PySem.W.Frag) (a : Addr) (xs : List V) : Prop := ∃ (o : Obj) (its : Array Value) (n : Nat), K.lookup a = some o ∧ o.cls = .type "tuple" ∧ o.data = .seq its n ∧ its.size ≤ sizeLine ∧ Vals xs its.toList
mutual
inductive Rl (K : PySem.W.Frag) (F : Hp) : D → V → Prop
  | non : Rl K F .non .non
  | bl (b : Bool) : Rl K F (.bl b) (.bl b)
  | int (i : Int) : Rl K F (.int i) (.int i)
  | str (x : Str) : Rl K F (.str x) (.str x)
  | tup {a : Addr} {vs : List V} {ds : List D} : (F a = some (.tup vs) ∨ (vs = [] ∧ KT K a [])) → Rls K F ds vs → Rl K F (.tup ds) (.ref a)
  | tupB {a : Addr} {o : Obj} {vs : List V} {ds : List D} : F a = some (.frz o (.tup vs)) → o.dict = none → Rls K F ds vs → Rl K F (.tupB ds) (.ref a)
  | lst {a : Addr} {vs : List V} {ds : List D} : F a = some (.lst vs) → Rls K F ds vs → Rl K F (.lst ds) (.ref a)
  | dK {a : Addr} {kvs : List (Key × D)} {kws : List (Key × V)} : F a = some (.dK kws) → kvs.map (·.1) = kws.map (·.1) → Rls K F (kvs.map (·.2)) (kws.map (·.2)) → Rl K F (.dK kvs) (.ref a)
  | dT {a : Addr} {kvs : List (List Key × D)} {kws : List (List Key × V)} : F a = some (.dT kws) → kvs.map (·.1) = kws.map (·.1) → Rls K F (kvs.map (·.2)) (kws.map (·.2)) → Rl K F (.dT kvs) (.ref a)
  | ins {a dx : Addr} {c : Str} {fs : List (Str × D)} {ws : List (Str × V)} : F a = some (.ins (He.ga K c) dx ws) → fs.map (·.1) = ws.map (·.1) → Rls K F (fs.map (·.2)) (ws.map (·.2)) → Rl K F (.ins c fs) (.ref a)
inductive Rls (K : PySem.W.Frag) (F : Hp) : List D → List V → Prop
  | nil : Rls K F [] []
  | cons {x : D} {v : V} {xs : List D} {vs : List V} : Rl K F x v → Rls K F xs vs → Rls K F (x :: xs) (v :: vs)
end
/-- F lies within F' -/
def Sub (F F' : Hp) : Prop := ∀ a u, F a = some u → F' a = some u
theorem Sub.refl (F : Hp) : Sub F F := fun _ _ h => h
theorem Sub.trans {F G H : Hp} (a : Sub F G) (b : Sub G H) : Sub F H := fun x u h => b x u (a x u h)
theorem Sub.upd {F : Hp} {a : Addr} {o : HO} (h : F a = none) : Sub F (upd F a o) := fun b u e => by
  rw [upd_ne (ne_of_none e h)]; exact e
mutual
theorem Rl.mono {K : PySem.W.Frag} {F F' : Hp} (s : Sub F F') : ∀ {d : D} {v : V}, Rl K F d v → Rl K F' d v
  | _, _, .non => .non
  | _, _, .bl b => .bl b
  | _, _, .int i => .int i
  | _, _, .str x => .str x
  | _, _, .tup h r => .tup (h.imp (s _ _) id) (r.mono s)
  | _, _, .tupB h e r => .tupB (s _ _ h) e (r.mono s)
  | _, _, .lst h r => .lst (s _ _ h) (r.mono s)
  | _, _, .dK h e r => .dK (s _ _ h) e (r.mono s)
  | _, _, .dT h e r => .dT (s _ _ h) e (r.mono s)
  | _, _, .ins h e r => .ins (s _ _ h) e (r.mono s)
theorem Rls.mono {K : PySem.W.Frag} {F F' : Hp} (s : Sub F F') : ∀ {ds : List D} {vs : List V}, Rls K F ds vs → Rls K F' ds vs
  | _, _, .nil => .nil
  | _, _, .cons a b => .cons (a.mono s) (b.mono s)
end

/-! ### worlds -/
/-- F: what never changes; muq: where the cells lie; H: the abstract heap -/
structure Wd where
  F : Hp
  muq : Nat → Addr
  H : Hp
def lockable : HO → Bool
  | .lst _ => true
  | .dK _ => true
  | .dT _ => true
  | _ => false
/-- u is to be read at a: it stands there, maybe locked -/
def Has (H : Hp) (a : Addr) (u : HO) : Prop := H a = some u ∨ (lockable u = true ∧ ∃ o, H a = some (.frz o u))
theorem Has.rd {H : Hp} {a : Addr} {u : HO} (h : Has H a u) : Rd H a u := h.imp id fun ⟨_, o, e⟩ => ⟨o, e⟩
/-- a value by a world, n cells -/
def RlV (K : PySem.W.Frag) (w : Wd) (n : Nat) : Val → V → Prop
  | .d x, v => Rl K w.F x v
  | .r k, v => k < n ∧ v = .ref (w.muq k)
  | .s _, _ => False
inductive RlVs (K : PySem.W.Frag) (w : Wd) (n : Nat) : List Val → List V → Prop
  | nil : RlVs K w n [] []
  | cons {x : Val} {v : V} {xs : List Val} {vs : List V} : RlV K w n x v → RlVs K w n xs vs → RlVs K w n (x :: xs) (v :: vs)
def CellR (K : PySem.W.Frag) (w : Wd) (n : Nat) : Cell → HO → Prop
  | .lst xs, .lst vs => RlVs K w n xs vs
  | .dK kvs, .dK kws => kvs.map (·.1) = kws.map (·.1) ∧ RlVs K w n (kvs.map (·.2)) (kws.map (·.2))
  | .dT kvs, .dT kws => kvs.map (·.1) = kws.map (·.1) ∧ RlVs K w n (kvs.map (·.2)) (kws.map (·.2))
  | .ins c fs, .ins C _ ws => C = He.ga K c ∧ fs.map (·.1) = ws.map (·.1) ∧ RlVs K w n (fs.map (·.2)) (ws.map (·.2))
  | _, _ => False
/-- what survives: F grows, the cells stay where they are -/
structure Ext (w : Wd) (n : Nat) (w' : Wd) (n' : Nat) : Prop where
  F : Sub w.F w'.F
  len : n ≤ n'
  mu : ∀ k, k < n → w'.muq k = w.muq k
theorem Ext.refl (w : Wd) (n : Nat) : Ext w n w n := ⟨Sub.refl _, Nat.le_refl _, fun _ _ => rfl⟩
theorem Ext.trans {a b c : Wd} {n m k : Nat} (x : Ext a n b m) (y : Ext b m c k) : Ext a n c k :=
  ⟨x.F.trans y.F, Nat.le_trans x.len y.len, fun i h => (y.mu i (Nat.lt_of_lt_of_le h x.len)).trans (x.mu i h)⟩
theorem RlV.ext {K : PySem.W.Frag} {w w' : Wd} {n n' : Nat} (e : Ext w n w' n') : ∀ {x : Val} {v : V}, RlV K w n x v → RlV K w' n' x v
  | .d _, _, h => Rl.mono e.F h
  | .r k, _, ⟨h, q⟩ => ⟨Nat.lt_of_lt_of_le h e.len, by rw [e.mu k h]; exact q⟩
theorem RlVs.ext {K : PySem.W.Frag} {w w' : Wd} {n n' : Nat} (e : Ext w n w' n') : ∀ {xs : List Val} {vs : List V}, RlVs K w n xs vs → RlVs K w' n' xs vs
  | _, _, .nil => .nil
  | _, _, .cons a b => .cons (a.ext e) (b.ext e)
theorem CellR.ext {K : PySem.W.Frag} {w w' : Wd} {n n' : Nat} (e : Ext w n w' n') {c : Cell} {o : HO} (h : CellR K w n c o) : CellR K w' n' c o := by
  unfold CellR at h ⊢
  split at h
  · exact RlVs.ext e h
  · exact ⟨h.1, h.2.ext e⟩
  · exact ⟨h.1, h.2.ext e⟩
  · exact ⟨h.1, h.2.1, h.2.2.ext e⟩
  · exact h.elim

/-- the world holds F and the cells -/
structure Sim (K : PySem.W.Frag) (w : Wd) (Omq : List (Option Cell)) : Prop where
  fz : ∀ a u, w.F a = some u → Has w.H a u
  cell : ∀ (n : Nat) (c : Cell), Omq[n]? = some (some c) → ∃ o, w.H (w.muq n) = some o ∧ w.F (w.muq n) = none ∧ CellR K w Omq.length c o
  inj : ∀ (n m : Nat) (c c' : Cell), Omq[n]? = some (some c) → Omq[m]? = some (some c') → w.muq n = w.muq m → n = m
/-- a thing that is nobody's here: neither in F nor a cell -/
def Alien (w : Wd) (Omq : List (Option Cell)) (a : Addr) : Prop := w.F a = none ∧ ∀ (n : Nat) (c : Cell), Omq[n]? = some (some c) → w.muq n ≠ a
structure Stp (w : Wd) (Omq : List (Option Cell)) (w' : Wd) (Omq' : List (Option Cell)) : Prop where
  ext : Ext w Omq.length w' Omq'.length
  keep : ∀ a o, w.H a = some o → Alien w Omq a → w'.H a = some o ∧ Alien w' Omq' a
  dom : ∀ a, w'.H a = none → w.H a = none
  fk : ∀ a u o, w.F a = some u → w.H a = some o → w'.H a = some o
theorem Stp.refl (w : Wd) (Omq : List (Option Cell)) : Stp w Omq w Omq := ⟨Ext.refl _ _, fun _ _ h q => ⟨h, q⟩, fun _ h => h, fun _ _ _ _ h => h⟩
theorem Stp.trans {a b c : Wd} {x y z : List (Option Cell)} (s : Stp a x b y) (t : Stp b y c z) : Stp a x c z :=
  ⟨s.ext.trans t.ext, fun p o h q => let ⟨h1, q1⟩ := s.keep p o h q; t.keep p o h1 q1, fun p h => s.dom p (t.dom p h), fun p u o e h => t.fk p u o (s.ext.F p u e) (s.fk p u o e h)⟩
/-- a thing that is nobody's, not even a slot's -/
def Free (w : Wd) (s : Sg) (sgq : St) (a : Addr) : Prop := Alien w s.Omq a ∧ ∀ (i : Nat) (c : Cell), s.rhq[i]? = some (Slot.acc c) → sgq[i]? ≠ some (some (V.ref a))
/-- within an expression, at the slots sgq: what is nobody's stays -/
structure Stx (sgq : St) (w : Wd) (s : Sg) (w' : Wd) (s' : Sg) : Prop where
  ext : Ext w s.Omq.length w' s'.Omq.length
  keep : ∀ a o, w.H a = some o → Free w s sgq a → w'.H a = some o ∧ Free w' s' sgq a
  dom : ∀ a, w'.H a = none → w.H a = none
  fk : ∀ a u o, w.F a = some u → w.H a = some o → w'.H a = some o
theorem Stx.refl (sgq : St) (w : Wd) (s : Sg) : Stx sgq w s w s := ⟨Ext.refl _ _, fun _ _ h q => ⟨h, q⟩, fun _ h => h, fun _ _ _ _ h => h⟩
theorem Stx.trans {sgq : St} {a b c : Wd} {x y z : Sg} (s : Stx sgq a x b y) (t : Stx sgq b y c z) : Stx sgq a x c z :=
  ⟨s.ext.trans t.ext, fun p o h q => let ⟨h1, q1⟩ := s.keep p o h q; t.keep p o h1 q1, fun p h => s.dom p (t.dom p h), fun p u o e h => t.fk p u o (s.ext.F p u e) (s.fk p u o e h)⟩
theorem Stp.stx {sgq : St} {a b : Wd} {rhq : List Slot} {x y : List (Option Cell)} (s : Stp a x b y) : Stx sgq a ⟨rhq, x⟩ b ⟨rhq, y⟩ := ⟨s.ext, fun p o h q => let ⟨h1, q1⟩ := s.keep p o h q.1; ⟨h1, q1, q.2⟩, s.dom, s.fk⟩
/-- a slot's thing -/
structure AccR (K : PySem.W.Frag) (w0 w : Wd) (Omq : List (Option Cell)) (c : Cell) (a : Addr) : Prop where
  at_ : ∃ o, w.H a = some o ∧ CellR K w Omq.length c o
  al : Alien w Omq a
  new : w0.H a = none
/-- THE STATE: w0, Omq0: at the def's entry -/
structure Ins (K : PySem.W.Frag) (w0 : Wd) (Omq0 : List (Option Cell)) (w : Wd) (s : Sg) (sgq : St) : Prop where
  sim : Sim K w s.Omq
  stp : Stp w0 Omq0 w s.Omq
  len : s.rhq.length = sgq.length
  val : ∀ (i : Nat) (x : Val), s.rhq[i]? = some (Slot.v x) → ∃ v, sgq[i]? = some (some v) ∧ RlV K w s.Omq.length x v
  acc : ∀ (i : Nat) (c : Cell), s.rhq[i]? = some (Slot.acc c) → ∃ a, sgq[i]? = some (some (V.ref a)) ∧ AccR K w0 w s.Omq c a
  dis : ∀ (i j : Nat) (c c' : Cell) (a : Addr), s.rhq[i]? = some (Slot.acc c) → s.rhq[j]? = some (Slot.acc c') → sgq[i]? = some (some (V.ref a)) → sgq[j]? = some (some (V.ref a)) → i = j
/-- a value within an expression: slots too -/
def RlS (K : PySem.W.Frag) (w : Wd) (n : Nat) (sgq : St) : Val → V → Prop
  | .s i, v => sgq[i]? = some (some v)
  | x, v => RlV K w n x v
theorem RlS.ext {K : PySem.W.Frag} {w w' : Wd} {n n' : Nat} {sgq : St} (e : Ext w n w' n') : ∀ {x : Val} {v : V}, RlS K w n sgq x v → RlS K w' n' sgq x v
  | .d x, _, h => RlV.ext (K := K) (x := .d x) e h
  | .r k, _, h => RlV.ext (K := K) (x := .r k) e h
  | .s _, _, h => h
theorem RlS.of {K : PySem.W.Frag} {w : Wd} {n : Nat} {sgq : St} : ∀ {x : Val} {v : V}, RlV K w n x v → RlS K w n sgq x v
  | .d _, _, h => h
  | .r _, _, h => h
/-- an exception: its class, its dict -/
def ExcR (K : PySem.W.Frag) (w : Wd) (x : Exc) (c : Value) (d : Option Addr) : Prop :=
  c = .ref (He.ga K x.cls) ∧ ((x.fs = [] ∧ d = none) ∨ ∃ a ws, d = some a ∧ w.F a = some (.xd ws) ∧ ∀ f y, x.fs.lookup f = some y → ∃ v, ws.lookup f = some v ∧ Rl K w.F y v)

/-! ### the readings -/
structure Base0 where
  w0 : Wd
  Omq0 : List (Option Cell)
  W : WX
abbrev IN (K : PySem.W.Frag) (B : Base0) := Ins K B.w0 B.Omq0
def PoX (K : PySem.W.Frag) (B : Base0) (w : Wd) (s : Sg) (sgq : St) (x : Exc) (s' : Sg) : Prop :=
  ∀ (w' : Wd) (c : Value) (d : Option Addr), Stx sgq w s w' s' → IN K B w' s' sgq → ExcR K w' x c d → B.W c d sgq w'.H
/-- the outcome o of a run that began at w (n cells): P of what it hands on -/
def Endz {α : Type} (K : PySem.W.Frag) (B : Base0) (w : Wd) (s : Sg) (sgq : St) (o : Out α) (P : α → Sg → Wd → Prop) : Prop := match o with
  | .ok a s' => ∀ w' : Wd, Stx sgq w s w' s' → IN K B w' s' sgq → P a s' w'
  | .exc x s' => PoX K B w s sgq x s'
  | .stuck => False
inductive RlSs (K : PySem.W.Frag) (w : Wd) (n : Nat) (sgq : St) : List Val → List V → Prop
  | nil : RlSs K w n sgq [] []
  | cons {x : Val} {v : V} {xs : List Val} {vs : List V} : RlS K w n sgq x v → RlSs K w n sgq xs vs → RlSs K w n sgq (x :: xs) (v :: vs)
theorem RlSs.ext {K : PySem.W.Frag} {w w' : Wd} {n n' : Nat} {sgq : St} (e : Ext w n w' n') : ∀ {xs : List Val} {vs : List V}, RlSs K w n sgq xs vs → RlSs K w' n' sgq xs vs
  | _, _, .nil => .nil
  | _, _, .cons a b => .cons (a.ext e) (b.ext e)
abbrev EndsV (K : PySem.W.Frag) (B : Base0) (w : Wd) (s : Sg) (sgq : St) (o : Out Val) (Q : VK) : Prop := Endz K B w s sgq o fun x s' w' => ∀ v, RlS K w' s'.Omq.length sgq x v → Q v w'.H
abbrev EndsA (K : PySem.W.Frag) (B : Base0) (w : Wd) (s : Sg) (sgq : St) (o : Out (List Val)) (Q : List V → Hp → Prop) : Prop := Endz K B w s sgq o fun xs s' w' => ∀ vs, RlSs K w' s'.Omq.length sgq xs vs → Q vs w'.H
abbrev EndsB (K : PySem.W.Frag) (B : Base0) (w : Wd) (s : Sg) (sgq : St) (o : Out Bool) (Q : Bool → Hp → Prop) : Prop := Endz K B w s sgq o fun b s' w' => Q b w'.H
def tE (K : PySem.W.Frag) (B : Base0) (m : M Val) : TE := fun sgq H Q => ∃ (w : Wd) (s : Sg), w.H = H ∧ IN K B w s sgq ∧ EndsV K B w s sgq (m s) Q
def tA (K : PySem.W.Frag) (B : Base0) (m : M (List Val)) : TA := fun sgq H Q => ∃ (w : Wd) (s : Sg), w.H = H ∧ IN K B w s sgq ∧ EndsA K B w s sgq (m s) Q
def tT (K : PySem.W.Frag) (B : Base0) (m : M Bool) : TT := fun sgq H Q => ∃ (w : Wd) (s : Sg), w.H = H ∧ IN K B w s sgq ∧ EndsB K B w s sgq (m s) Q
inductive Fl where
  | nx | rt (x : Val) | bk | ct
def PoXS (K : PySem.W.Frag) (B : Base0) (w : Wd) (n : Nat) (x : Exc) (s' : Sg) : Prop :=
  ∀ (w' : Wd) (sgq' : St) (c : Value) (d : Option Addr), Ext w n w' s'.Omq.length → IN K B w' s' sgq' → ExcR K w' x c d → B.W c d sgq' w'.H
def EndsS (K : PySem.W.Frag) (B : Base0) (w : Wd) (n : Nat) (o : Out Fl) (D : Ends) : Prop := match o with
  | .ok .nx s' => ∀ (w' : Wd) (sgq' : St), Ext w n w' s'.Omq.length → IN K B w' s' sgq' → D.nx sgq' w'.H
  | .ok (.rt x) s' => ∀ (w' : Wd) (sgq' : St) (v : V), Ext w n w' s'.Omq.length → IN K B w' s' sgq' → RlV K w' s'.Omq.length x v → D.rt v w'.H
  | .ok .bk s' => ∀ (w' : Wd) (sgq' : St), Ext w n w' s'.Omq.length → IN K B w' s' sgq' → D.bk sgq' w'.H
  | .ok .ct s' => ∀ (w' : Wd) (sgq' : St), Ext w n w' s'.Omq.length → IN K B w' s' sgq' → D.ct sgq' w'.H
  | .exc x s' => PoXS K B w n x s'
  | .stuck => False
def tS (K : PySem.W.Frag) (B : Base0) (m : M Fl) : TS := fun D sgq H => ∃ (w : Wd) (s : Sg), w.H = H ∧ IN K B w s sgq ∧ EndsS K B w s.Omq.length (m s) D
theorem EndsS.start {K : PySem.W.Frag} {B : Base0} {w w' : Wd} {n n' : Nat} {o : Out Fl} {D : Ends} (e : Ext w n w' n') (h : EndsS K B w n o D) : EndsS K B w' n' o D := by
  cases o with
  | stuck => exact h
  | exc x s' => exact fun w2 sgq' c d e2 I q => h w2 sgq' c d (e.trans e2) I q
  | ok f s' =>
    cases f with
    | nx => exact fun w2 sgq' e2 I => h w2 sgq' (e.trans e2) I
    | rt x => exact fun w2 sgq' v e2 I r => h w2 sgq' v (e.trans e2) I r
    | bk => exact fun w2 sgq' e2 I => h w2 sgq' (e.trans e2) I
    | ct => exact fun w2 sgq' e2 I => h w2 sgq' (e.trans e2) I
end G
set_option maxRecDepth 100000
/-! The steps of a world. -/
namespace G
open PySem PySem.Spec L2

theorem Sub.dom {H H' : Hp} (h : Sub H H') {a : Addr} (e : H' a = none) : H a = none := by
  cases q : H a with
  | none => rfl
  | some u => rw [h a u q] at e; cases e
theorem upd_dom {H : Hp} {p a : Addr} {o : HO} (e : upd H p o a = none) : H a = none := by
  by_cases h : a = p
  · subst h; rw [upd_same] at e; cases e
  · rw [upd_ne h] at e; exact e
section
variable {K : PySem.W.Frag} {w0 w : Wd} {Omq0 : List (Option Cell)} {s : Sg} {sgq : St}

theorem Sim.free {Omq : List (Option Cell)} (S : Sim K w Omq) {p : Addr} (h : w.H p = none) : w.F p = none := by
  cases e : w.F p with
  | none => rfl
  | some u =>
    rcases S.fz p u e with q | ⟨_, o, q⟩
    · rw [h] at q; cases q
    · rw [h] at q; cases q
theorem Sim.nocell {Omq : List (Option Cell)} (S : Sim K w Omq) {p : Addr} (h : w.H p = none) : ∀ (n : Nat) (c : Cell), Omq[n]? = some (some c) → w.muq n ≠ p := fun n c e z => by
  obtain ⟨o, q, _⟩ := S.cell n c e
  rw [z, h] at q; cases q
/-- only new things -/
theorem Has.sub {H H' : Hp} (h : Sub H H') {a : Addr} {u : HO} (x : Has H a u) : Has H' a u := x.imp (h _ _) fun ⟨l, o, e⟩ => ⟨l, o, h _ _ e⟩
theorem Ins.grow {H' : Hp} (I : Ins K w0 Omq0 w s sgq) (h : Sub w.H H') : Ins K w0 Omq0 { w with H := H' } s sgq ∧ Stx sgq w s { w with H := H' } s := by
  have ex : Ext w s.Omq.length { w with H := H' } s.Omq.length := ⟨Sub.refl _, Nat.le_refl _, fun _ _ => rfl⟩
  refine ⟨⟨⟨fun a u e => (I.sim.fz a u e).sub h, fun n c e => ?_, I.sim.inj⟩, I.stp.trans ⟨ex, fun a o e q => ⟨h _ _ e, q⟩, fun a e => h.dom e, fun a u o _ e => h _ _ e⟩, I.len, fun i x e => ?_, fun i c e => ?_, I.dis⟩, ⟨ex, fun a o e q => ⟨h _ _ e, q⟩, fun a e => h.dom e, fun a u o _ e => h _ _ e⟩⟩
  · obtain ⟨o, q, f, r⟩ := I.sim.cell n c e
    exact ⟨o, h _ _ q, f, r.ext ex⟩
  · obtain ⟨v, e1, r⟩ := I.val i x e
    exact ⟨v, e1, r.ext ex⟩
  · obtain ⟨a, e1, ⟨o, q, r⟩, al, nw⟩ := I.acc i c e
    exact ⟨a, e1, ⟨o, h _ _ q, r.ext ex⟩, al, nw⟩
/-- a new thing that never changes -/
def Wd.frz (w : Wd) (p : Addr) (o : HO) : Wd := { w with F := upd w.F p o, H := upd w.H p o }
theorem Ins.frz {p : Addr} {o : HO} (I : Ins K w0 Omq0 w s sgq) (hp : w.H p = none) : Ins K w0 Omq0 (w.frz p o) s sgq ∧ Stx sgq w s (w.frz p o) s := by
  have fp := I.sim.free hp
  have nc := I.sim.nocell hp
  have sF : Sub w.F (upd w.F p o) := Sub.upd fp
  have sH : Sub w.H (upd w.H p o) := Sub.upd hp
  have ex : Ext w s.Omq.length (w.frz p o) s.Omq.length := ⟨sF, Nat.le_refl _, fun _ _ => rfl⟩
  have nF : ∀ b, b ≠ p → (w.frz p o).F b = w.F b := fun b hb => upd_ne hb
  have al : ∀ a u, w.H a = some u → Alien w s.Omq a → Alien (w.frz p o) s.Omq a := fun a u e ⟨f, n⟩ => ⟨by rw [nF a (ne_of_none e hp)]; exact f, n⟩
  refine ⟨⟨⟨fun a u e => ?_, fun n c e => ?_, I.sim.inj⟩, I.stp.trans ⟨ex, fun a u e q => ⟨sH _ _ e, al a u e q⟩, fun a e => sH.dom e, fun a _ u _ e => sH _ _ e⟩, I.len, fun i x e => ?_, fun i c e => ?_, I.dis⟩, ⟨ex, fun a u e q => ⟨sH _ _ e, al a u e q.1, q.2⟩, fun a e => sH.dom e, fun a _ u _ e => sH _ _ e⟩⟩
  · by_cases ha : a = p
    · subst ha
      have : (w.frz a o).F a = some o := upd_same
      rw [this] at e; cases e
      exact .inl upd_same
    · rw [nF a ha] at e
      exact (I.sim.fz a u e).sub sH
  · obtain ⟨u, q, f, r⟩ := I.sim.cell n c e
    exact ⟨u, sH _ _ q, by rw [show (w.frz p o).muq n = w.muq n from rfl, nF _ (nc n c e)]; exact f, r.ext ex⟩
  · obtain ⟨v, e1, r⟩ := I.val i x e
    exact ⟨v, e1, r.ext ex⟩
  · obtain ⟨a, e1, ⟨u, q, r⟩, a2, nw⟩ := I.acc i c e
    exact ⟨a, e1, ⟨u, sH _ _ q, r.ext ex⟩, al a u q a2, nw⟩
/-- a new cell -/
def Wd.cel (w : Wd) (n : Nat) (p : Addr) (o : HO) : Wd := { w with muq := fun k => if k = n then p else w.muq k, H := upd w.H p o }
theorem Wd.cel_ext {n : Nat} {p : Addr} {o : HO} : Ext w n (w.cel n p o) (n + 1) := ⟨Sub.refl _, Nat.le_succ _, fun k h => if_neg (Nat.ne_of_lt h)⟩
theorem get_snoc {Omq : List (Option Cell)} {c x : Cell} {n : Nat} (e : (Omq ++ [some c])[n]? = some (some x)) : (n < Omq.length ∧ Omq[n]? = some (some x)) ∨ (n = Omq.length ∧ x = c) := by
  by_cases h : n < Omq.length
  · rw [List.getElem?_append_left h] at e; exact .inl ⟨h, e⟩
  · rw [List.getElem?_append_right (Nat.le_of_not_lt h)] at e
    cases k : n - Omq.length with
    | zero => rw [k] at e; simp at e; exact .inr ⟨by omega, e.symm⟩
    | succ j => rw [k] at e; simp at e
theorem Ins.cel {p : Addr} {o : HO} {c : Cell} (I : Ins K w0 Omq0 w s sgq) (hp : w.H p = none) (hc : CellR K w s.Omq.length c o) :
    Ins K w0 Omq0 (w.cel s.Omq.length p o) { s with Omq := s.Omq ++ [some c] } sgq ∧ Stx sgq w s (w.cel s.Omq.length p o) { s with Omq := s.Omq ++ [some c] } := by
  have fp := I.sim.free hp
  have nc := I.sim.nocell hp
  have sH : Sub w.H (upd w.H p o) := Sub.upd hp
  have ex : Ext w s.Omq.length (w.cel s.Omq.length p o) (s.Omq ++ [some c]).length := by
    rw [List.length_append, List.length_singleton]; exact Wd.cel_ext
  have mu1 : ∀ n, n < s.Omq.length → (w.cel s.Omq.length p o).muq n = w.muq n := fun n h => if_neg (Nat.ne_of_lt h)
  have mu2 : (w.cel s.Omq.length p o).muq s.Omq.length = p := if_pos rfl
  have al : ∀ a u, w.H a = some u → Alien w s.Omq a → Alien (w.cel s.Omq.length p o) (s.Omq ++ [some c]) a := fun a u e ⟨f, n⟩ => ⟨f, fun m x q => by
    rcases get_snoc q with ⟨hm, q⟩ | ⟨hm, _⟩
    · rw [mu1 m hm]; exact n m x q
    · rw [hm, mu2]; exact fun z => by rw [← z, hp] at e; cases e⟩
  refine ⟨⟨⟨fun a u e => (I.sim.fz a u e).sub sH, fun n x e => ?_, fun n m x y e e' q => ?_⟩, I.stp.trans ⟨ex, fun a u e q => ⟨sH _ _ e, al a u e q⟩, fun a e => sH.dom e, fun a _ u _ e => sH _ _ e⟩, I.len, fun i x e => ?_, fun i x e => ?_, I.dis⟩, ⟨ex, fun a u e q => ⟨sH _ _ e, al a u e q.1, q.2⟩, fun a e => sH.dom e, fun a _ u _ e => sH _ _ e⟩⟩
  · rcases get_snoc e with ⟨hn, e⟩ | ⟨hn, hx⟩
    · obtain ⟨u, q, f, r⟩ := I.sim.cell n x e
      rw [mu1 n hn]
      exact ⟨u, sH _ _ q, f, r.ext ex⟩
    · subst hn; subst hx
      rw [mu2]
      exact ⟨o, upd_same, fp, hc.ext ex⟩
  · rcases get_snoc e with ⟨hn, e⟩ | ⟨hn, _⟩
    · rcases get_snoc e' with ⟨hm, e'⟩ | ⟨hm, _⟩
      · rw [mu1 n hn, mu1 m hm] at q; exact I.sim.inj n m x y e e' q
      · rw [mu1 n hn, hm, mu2] at q; exact absurd q (nc n x e)
    · rcases get_snoc e' with ⟨hm, e'⟩ | ⟨hm, _⟩
      · rw [hn, mu2, mu1 m hm] at q; exact absurd q.symm (nc m y e')
      · rw [hn, hm]
  · obtain ⟨v, e1, r⟩ := I.val i x e
    exact ⟨v, e1, r.ext ex⟩
  · obtain ⟨a, e1, ⟨u, q, r⟩, a2, nw⟩ := I.acc i x e
    exact ⟨a, e1, ⟨u, sH _ _ q, r.ext ex⟩, al a u q a2, nw⟩
/-- a thing changed: the heap at a -/
def Wd.put (w : Wd) (a : Addr) (o : HO) : Wd := { w with H := upd w.H a o }
theorem Wd.put_ext {n : Nat} {a : Addr} {o : HO} : Ext w n (w.put a o) n := ⟨Sub.refl _, Nat.le_refl _, fun _ _ => rfl⟩
theorem Ins.put_cell {n : Nat} {c c' : Cell} {o : HO} (I : Ins K w0 Omq0 w s sgq) (hn : s.Omq[n]? = some (some c)) (hc : CellR K w s.Omq.length c' o) :
    Ins K w0 Omq0 (w.put (w.muq n) o) { s with Omq := s.Omq.set n (some c') } sgq ∧ Stx sgq w s (w.put (w.muq n) o) { s with Omq := s.Omq.set n (some c') } := by
  have hl : n < s.Omq.length := (List.getElem?_eq_some_iff.mp hn).1
  have ex : Ext w s.Omq.length (w.put (w.muq n) o) (s.Omq.set n (some c')).length := by rw [List.length_set]; exact Wd.put_ext
  obtain ⟨o0, q0, f0, _⟩ := I.sim.cell n c hn
  have hv : ∀ m x, (s.Omq.set n (some c'))[m]? = some (some x) → (m = n ∧ x = c') ∨ (m ≠ n ∧ s.Omq[m]? = some (some x)) := fun m x e => by
    by_cases hm : m = n
    · subst hm; rw [List.getElem?_set_self hl] at e; cases e; exact .inl ⟨rfl, rfl⟩
    · rw [List.getElem?_set_ne (Ne.symm hm)] at e; exact .inr ⟨hm, e⟩
  have live : ∀ m x, (s.Omq.set n (some c'))[m]? = some (some x) → ∃ y, s.Omq[m]? = some (some y) := fun m x e => by
    rcases hv m x e with ⟨h, _⟩ | ⟨_, h⟩
    · exact ⟨c, by rw [h]; exact hn⟩
    · exact ⟨x, h⟩
  have al : ∀ a, Alien w s.Omq a → Alien (w.put (w.muq n) o) (s.Omq.set n (some c')) a := fun a ⟨f, k⟩ => ⟨f, fun m x e => by obtain ⟨y, e'⟩ := live m x e; exact k m y e'⟩
  have kp : ∀ a u, w.H a = some u → Alien w s.Omq a → (w.put (w.muq n) o).H a = some u := fun a u e q => by
    show upd w.H (w.muq n) o a = some u
    rw [upd_ne (Ne.symm (q.2 n c hn))]; exact e
  have fkp : ∀ a u o', w.F a = some u → w.H a = some o' → (w.put (w.muq n) o).H a = some o' := fun a u o' ef e => by
    show upd w.H (w.muq n) o a = some o'
    rw [upd_ne (fun z => by rw [z, f0] at ef; cases ef)]; exact e
  refine ⟨⟨⟨fun a u e => ?_, fun m x e => ?_, fun m k x y e e' q => ?_⟩, I.stp.trans ⟨ex, fun a u e q => ⟨kp a u e q, al a q⟩, fun a e => upd_dom e, fkp⟩, I.len, fun i x e => ?_, fun i x e => ?_, I.dis⟩, ⟨ex, fun a u e q => ⟨kp a u e q.1, al a q.1, q.2⟩, fun a e => upd_dom e, fkp⟩⟩
  · have e : w.F a = some u := e
    have na : a ≠ w.muq n := fun z => by rw [z, f0] at e; cases e
    have e' : (w.put (w.muq n) o).H a = w.H a := upd_ne na
    rcases I.sim.fz a u e with q | ⟨l, ob, q⟩
    · exact .inl (e'.trans q)
    · exact .inr ⟨l, ob, e'.trans q⟩
  · rcases hv m x e with ⟨h1, h2⟩ | ⟨h1, h2⟩
    · subst h1; subst h2
      exact ⟨o, upd_same, f0, hc.ext ex⟩
    · obtain ⟨u, q, f, r⟩ := I.sim.cell m x h2
      refine ⟨u, ?_, f, r.ext ex⟩
      show upd w.H (w.muq n) o (w.muq m) = some u
      rw [upd_ne (fun z => h1 (I.sim.inj m n x c h2 hn z))]; exact q
  · obtain ⟨x', e1⟩ := live m x e
    obtain ⟨y', e2⟩ := live k y e'
    exact I.sim.inj m k x' y' e1 e2 q
  · obtain ⟨v, e1, r⟩ := I.val i x e
    exact ⟨v, e1, r.ext ex⟩
  · obtain ⟨a, e1, ⟨u, q, r⟩, a2, nw⟩ := I.acc i x e
    exact ⟨a, e1, ⟨u, kp a u q a2, r.ext ex⟩, al a a2, nw⟩
theorem Ins.put_acc {i : Nat} {c c' : Cell} {a : Addr} {o : HO} (I : Ins K w0 Omq0 w s sgq) (hi : s.rhq[i]? = some (Slot.acc c)) (ha : sgq[i]? = some (some (V.ref a))) (hc : CellR K w s.Omq.length c' o) :
    Ins K w0 Omq0 (w.put a o) { s with rhq := s.rhq.set i (.acc c') } sgq ∧ Stx sgq w s (w.put a o) { s with rhq := s.rhq.set i (.acc c') } := by
  have hl : i < s.rhq.length := (List.getElem?_eq_some_iff.mp hi).1
  have ex : Ext w s.Omq.length (w.put a o) s.Omq.length := Wd.put_ext
  obtain ⟨a1, ea, ⟨o0, q0, r0⟩, al0, nw0⟩ := I.acc i c hi
  rw [ha] at ea; cases ea
  have hv : ∀ j x, (s.rhq.set i (Slot.acc c'))[j]? = some x → (j = i ∧ x = .acc c') ∨ (j ≠ i ∧ s.rhq[j]? = some x) := fun m x e => by
    by_cases hm : m = i
    · subst hm; rw [List.getElem?_set_self hl] at e; cases e; exact .inl ⟨rfl, rfl⟩
    · rw [List.getElem?_set_ne (Ne.symm hm)] at e; exact .inr ⟨hm, e⟩
  have al : ∀ b, Alien w s.Omq b → Alien (w.put a o) s.Omq b := fun b q => q
  have fkp : ∀ b u o', w.F b = some u → w.H b = some o' → (w.put a o).H b = some o' := fun b u o' ef e => by
    show upd w.H a o b = some o'
    rw [upd_ne (fun z => by rw [z, al0.1] at ef; cases ef)]; exact e
  have st : Stp w0 Omq0 (w.put a o) s.Omq := by
    refine ⟨I.stp.ext.trans ex, fun b u e q => ?_, fun b e => I.stp.dom b (upd_dom e), fun b u o' ef e => fkp b u o' (I.stp.ext.F b u ef) (I.stp.fk b u o' ef e)⟩
    obtain ⟨h1, h2⟩ := I.stp.keep b u e q
    refine ⟨?_, h2⟩
    show upd w.H a o b = some u
    rw [upd_ne (fun z => by rw [z, nw0] at e; cases e)]; exact h1
  refine ⟨⟨⟨fun b u e => ?_, fun m x e => ?_, I.sim.inj⟩, st, by simpa using I.len, fun j x e => ?_, fun j x e => ?_, fun j k x y b e e' q q' => ?_⟩, ⟨ex, fun b u e q => ⟨by
    show upd w.H a o b = some u
    rw [upd_ne (fun z => q.2 i c hi (by rw [z]; exact ha))]; exact e, q.1, fun j x hj => by
    rcases hv j _ hj with ⟨h1, _⟩ | ⟨_, h2⟩
    · rw [h1]; exact q.2 i c hi
    · exact q.2 j x h2⟩, fun b e => upd_dom e, fkp⟩⟩
  · have e : w.F b = some u := e
    have na : b ≠ a := fun z => by rw [z, al0.1] at e; cases e
    have e' : (w.put a o).H b = w.H b := upd_ne na
    rcases I.sim.fz b u e with q | ⟨l, ob, q⟩
    · exact .inl (e'.trans q)
    · exact .inr ⟨l, ob, e'.trans q⟩
  · obtain ⟨u, q, f, r⟩ := I.sim.cell m x e
    refine ⟨u, ?_, f, r.ext ex⟩
    show upd w.H a o (w.muq m) = some u
    rw [upd_ne (al0.2 m x e)]; exact q
  · rcases hv j _ e with ⟨_, h⟩ | ⟨_, h⟩
    · cases h
    · obtain ⟨v, e1, r⟩ := I.val j x h
      exact ⟨v, e1, r.ext ex⟩
  · rcases hv j _ e with ⟨h1, h⟩ | ⟨h1, h⟩
    · subst h1; cases h
      exact ⟨a, ha, ⟨o, upd_same, hc.ext ex⟩, al0, nw0⟩
    · obtain ⟨b, e1, ⟨u, q, r⟩, a2, nw⟩ := I.acc j x h
      refine ⟨b, e1, ⟨u, ?_, r.ext ex⟩, a2, nw⟩
      show upd w.H a o b = some u
      rw [upd_ne (fun z => h1 (I.dis j i x c a h hi (by rw [e1, z]) ha))]; exact q
  · have get : ∀ {m : Nat} {z : Cell}, (s.rhq.set i (Slot.acc c'))[m]? = some (Slot.acc z) → ∃ z', s.rhq[m]? = some (Slot.acc z') := fun {m z} h => by
      rcases hv m _ h with ⟨h1, _⟩ | ⟨_, h2⟩
      · exact ⟨c, by rw [h1]; exact hi⟩
      · exact ⟨z, h2⟩
    obtain ⟨x', e1⟩ := get e
    obtain ⟨y', e2⟩ := get e'
    exact I.dis j k x' y' b e1 e2 q q'
/-- a slot's thing is frozen -/
def Wd.ice (w : Wd) (a : Addr) (o : HO) : Wd := { w with F := upd w.F a o }
theorem set_get {α : Type} {l : List α} {i j : Nat} {y x : α} (hl : i < l.length) (e : (l.set i y)[j]? = some x) : (j = i ∧ x = y) ∨ (j ≠ i ∧ l[j]? = some x) := by
  by_cases hm : j = i
  · subst hm; rw [List.getElem?_set_self hl] at e; cases e; exact .inl ⟨rfl, rfl⟩
  · rw [List.getElem?_set_ne (Ne.symm hm)] at e; exact .inr ⟨hm, e⟩
theorem Ins.ice_acc {i : Nat} {c : Cell} {a : Addr} {o : HO} {x : D} (I : Ins K w0 Omq0 w s sgq) (hi : s.rhq[i]? = some (Slot.acc c)) (ha : sgq[i]? = some (some (V.ref a))) (ho : w.H a = some o)
    (hr : Rl K (upd w.F a o) x (.ref a)) :
    Ins K w0 Omq0 (w.ice a o) { s with rhq := s.rhq.set i (.v (.d x)) } sgq ∧ Stx sgq w s (w.ice a o) { s with rhq := s.rhq.set i (.v (.d x)) } := by
  have hl : i < s.rhq.length := (List.getElem?_eq_some_iff.mp hi).1
  obtain ⟨a1, ea, ⟨o0, q0, r0⟩, al0, nw0⟩ := I.acc i c hi
  rw [ha] at ea; cases ea
  have ex : Ext w s.Omq.length (w.ice a o) s.Omq.length := ⟨Sub.upd al0.1, Nat.le_refl _, fun _ _ => rfl⟩
  have nF : ∀ b, b ≠ a → (w.ice a o).F b = w.F b := fun b hb => upd_ne hb
  have st : Stp w0 Omq0 (w.ice a o) s.Omq := by
    refine ⟨I.stp.ext.trans ex, fun b u e q => ?_, fun b e => I.stp.dom b e, I.stp.fk⟩
    obtain ⟨h1, h2⟩ := I.stp.keep b u e q
    exact ⟨h1, by rw [nF b (fun z => by rw [z, nw0] at e; cases e)]; exact h2.1, h2.2⟩
  refine ⟨⟨⟨fun b u e => ?_, fun m y e => ?_, I.sim.inj⟩, st, by simpa using I.len, fun j y e => ?_, fun j y e => ?_, fun j k y z b e e' q q' => ?_⟩, ⟨ex, fun b u e q => ⟨e, ⟨by rw [nF b (fun z => q.2 i c hi (by rw [z]; exact ha))]; exact q.1.1, q.1.2⟩, fun j y hj => by
    rcases set_get hl hj with ⟨_, h2⟩ | ⟨_, h2⟩
    · cases h2
    · exact q.2 j y h2⟩, fun b e => e, fun _ _ _ _ e => e⟩⟩
  · by_cases hb : b = a
    · subst hb
      have : (w.ice b o).F b = some o := upd_same
      rw [this] at e; cases e
      exact .inl ho
    · rw [nF b hb] at e; exact I.sim.fz b u e
  · obtain ⟨u, q, f, r⟩ := I.sim.cell m y e
    exact ⟨u, q, by rw [show (w.ice a o).muq m = w.muq m from rfl, nF _ (al0.2 m y e)]; exact f, r.ext ex⟩
  · rcases set_get hl e with ⟨h1, h⟩ | ⟨_, h⟩
    · subst h1; cases h
      exact ⟨_, ha, hr⟩
    · obtain ⟨v, e1, r⟩ := I.val j y h
      exact ⟨v, e1, r.ext ex⟩
  · rcases set_get hl e with ⟨h1, h⟩ | ⟨h1, h⟩
    · cases h
    · obtain ⟨b, e1, ⟨u, q, r⟩, a2, nw⟩ := I.acc j y h
      have nb : b ≠ a := fun z => h1 (I.dis j i y c a h hi (by rw [e1, z]) ha)
      exact ⟨b, e1, ⟨u, q, r.ext ex⟩, ⟨by rw [nF b nb]; exact a2.1, a2.2⟩, nw⟩
  · rcases set_get hl e with ⟨_, h⟩ | ⟨_, h⟩
    · cases h
    · rcases set_get hl e' with ⟨_, h'⟩ | ⟨_, h'⟩
      · cases h'
      · exact I.dis j k y z b h h' q q'
theorem Ins.ice_cell {n : Nat} {c : Cell} {o : HO} (I : Ins K w0 Omq0 w s sgq) (hn : s.Omq[n]? = some (some c)) (ho : w.H (w.muq n) = some o) :
    Ins K w0 Omq0 (w.ice (w.muq n) o) { s with Omq := s.Omq.set n none } sgq ∧ Stx sgq w s (w.ice (w.muq n) o) { s with Omq := s.Omq.set n none } := by
  have hl : n < s.Omq.length := (List.getElem?_eq_some_iff.mp hn).1
  obtain ⟨o0, q0, f0, _⟩ := I.sim.cell n c hn
  have ex : Ext w s.Omq.length (w.ice (w.muq n) o) (s.Omq.set n none).length := ⟨Sub.upd f0, by rw [List.length_set]; exact Nat.le_refl _, fun _ _ => rfl⟩
  have nF : ∀ b, b ≠ w.muq n → (w.ice (w.muq n) o).F b = w.F b := fun b hb => upd_ne hb
  have hv : ∀ m x, (s.Omq.set n none)[m]? = some (some x) → m ≠ n ∧ s.Omq[m]? = some (some x) := fun m x e => by
    rcases set_get hl e with ⟨_, h⟩ | h
    · cases h
    · exact h
  have al : ∀ a, Alien w s.Omq a → Alien (w.ice (w.muq n) o) (s.Omq.set n none) a := fun a ⟨f, k⟩ => ⟨by rw [nF a (Ne.symm (k n c hn))]; exact f, fun m x e => k m x (hv m x e).2⟩
  refine ⟨⟨⟨fun b u e => ?_, fun m y e => ?_, fun m k x y e e' q => I.sim.inj m k x y (hv m x e).2 (hv k y e').2 q⟩, I.stp.trans ⟨ex, fun a u e q => ⟨e, al a q⟩, fun a e => e, fun _ _ _ _ e => e⟩, I.len, fun j y e => ?_, fun j y e => ?_, I.dis⟩, ⟨ex, fun a u e q => ⟨e, al a q.1, q.2⟩, fun a e => e, fun _ _ _ _ e => e⟩⟩
  · by_cases hb : b = w.muq n
    · subst hb
      have : (w.ice (w.muq n) o).F (w.muq n) = some o := upd_same
      rw [this] at e; cases e
      exact .inl ho
    · rw [nF b hb] at e; exact I.sim.fz b u e
  · obtain ⟨h1, h2⟩ := hv m y e
    obtain ⟨u, q, f, r⟩ := I.sim.cell m y h2
    exact ⟨u, q, by rw [show (w.ice (w.muq n) o).muq m = w.muq m from rfl, nF _ (fun z => h1 (I.sim.inj m n y c h2 hn z))]; exact f, r.ext ex⟩
  · obtain ⟨v, e1, r⟩ := I.val j y e
    exact ⟨v, e1, r.ext ex⟩
  · obtain ⟨b, e1, ⟨u, q, r⟩, a2, nw⟩ := I.acc j y e
    exact ⟨b, e1, ⟨u, q, r.ext ex⟩, al b a2, nw⟩
/-- a slot takes a value -/
theorem Ins.slot {i : Nat} {x : Val} {v : V} (I : Ins K w0 Omq0 w s sgq) (hr : RlV K w s.Omq.length x v) (hi : i < sgq.length) :
    Ins K w0 Omq0 w { s with rhq := s.rhq.set i (.v x) } (sgq.set i (some v)) := by
  have hl : i < s.rhq.length := by rw [I.len]; exact hi
  refine ⟨I.sim, I.stp, by simpa using I.len, fun j y e => ?_, fun j y e => ?_, fun j k y z b e e' q q' => ?_⟩
  · rcases set_get hl e with ⟨h1, h⟩ | ⟨h1, h⟩
    · subst h1; cases h
      exact ⟨v, by rw [List.getElem?_set_self hi], hr⟩
    · obtain ⟨u, e1, r⟩ := I.val j y h
      exact ⟨u, by rw [List.getElem?_set_ne (Ne.symm h1)]; exact e1, r⟩
  · rcases set_get hl e with ⟨_, h⟩ | ⟨h1, h⟩
    · cases h
    · obtain ⟨b, e1, r⟩ := I.acc j y h
      exact ⟨b, by rw [List.getElem?_set_ne (Ne.symm h1)]; exact e1, r⟩
  · rcases set_get hl e with ⟨_, h⟩ | ⟨h1, h⟩
    · cases h
    · rcases set_get hl e' with ⟨_, h'⟩ | ⟨h1', h'⟩
      · cases h'
      · rw [List.getElem?_set_ne (Ne.symm h1)] at q
        rw [List.getElem?_set_ne (Ne.symm h1')] at q'
        exact I.dis j k y z b h h' q q'
/-- a slot is forgotten -/
theorem Ins.drop {i : Nat} {u : Option V} (I : Ins K w0 Omq0 w s sgq) (hi : i < sgq.length) :
    Ins K w0 Omq0 w { s with rhq := s.rhq.set i .no } (sgq.set i u) := by
  have hl : i < s.rhq.length := by rw [I.len]; exact hi
  refine ⟨I.sim, I.stp, by simpa using I.len, fun j y e => ?_, fun j y e => ?_, fun j k y z b e e' q q' => ?_⟩
  · rcases set_get hl e with ⟨_, h⟩ | ⟨h1, h⟩
    · cases h
    · obtain ⟨u, e1, r⟩ := I.val j y h
      exact ⟨u, by rw [List.getElem?_set_ne (Ne.symm h1)]; exact e1, r⟩
  · rcases set_get hl e with ⟨_, h⟩ | ⟨h1, h⟩
    · cases h
    · obtain ⟨b, e1, r⟩ := I.acc j y h
      exact ⟨b, by rw [List.getElem?_set_ne (Ne.symm h1)]; exact e1, r⟩
  · rcases set_get hl e with ⟨_, h⟩ | ⟨h1, h⟩
    · cases h
    · rcases set_get hl e' with ⟨_, h'⟩ | ⟨h1', h'⟩
      · cases h'
      · rw [List.getElem?_set_ne (Ne.symm h1)] at q
        rw [List.getElem?_set_ne (Ne.symm h1')] at q'
        exact I.dis j k y z b h h' q q'
/-- a slot takes a new thing of its own -/
theorem Ins.own {i : Nat} {p : Addr} {c : Cell} {o : HO} (I : Ins K w0 Omq0 w s sgq) (hp : w.H p = none) (hc : CellR K w s.Omq.length c o) (hi : i < sgq.length) :
    Ins K w0 Omq0 (w.put p o) { s with rhq := s.rhq.set i (.acc c) } (sgq.set i (some (.ref p))) := by
  have hl : i < s.rhq.length := by rw [I.len]; exact hi
  have sH : Sub w.H (upd w.H p o) := Sub.upd hp
  obtain ⟨J, ex0⟩ := I.grow sH
  have ex := ex0.ext
  have nw : w0.H p = none := I.stp.dom p hp
  have fp := I.sim.free hp
  have nc := I.sim.nocell hp
  refine ⟨J.sim, J.stp, by simpa using I.len, fun j y e => ?_, fun j y e => ?_, fun j k y z b e e' q q' => ?_⟩
  · rcases set_get hl e with ⟨_, h⟩ | ⟨h1, h⟩
    · cases h
    · obtain ⟨u, e1, r⟩ := J.val j y h
      exact ⟨u, by rw [List.getElem?_set_ne (Ne.symm h1)]; exact e1, r⟩
  · rcases set_get hl e with ⟨h1, h⟩ | ⟨h1, h⟩
    · subst h1; cases h
      exact ⟨p, by rw [List.getElem?_set_self hi], ⟨o, upd_same, hc.ext ex⟩, ⟨fp, nc⟩, nw⟩
    · obtain ⟨b, e1, r⟩ := J.acc j y h
      exact ⟨b, by rw [List.getElem?_set_ne (Ne.symm h1)]; exact e1, r⟩
  · have old : ∀ {m : Nat} {x : Cell} {b : Addr}, s.rhq[m]? = some (Slot.acc x) → sgq[m]? = some (some (V.ref b)) → b ≠ p := fun {m x b} h1 h2 z => by
      obtain ⟨b', e1, ⟨u, q, _⟩, _⟩ := I.acc m x h1
      rw [h2] at e1; cases e1
      rw [z, hp] at q; cases q
    rcases set_get hl e with ⟨h1, h⟩ | ⟨h1, h⟩
    · rw [h1, List.getElem?_set_self hi] at q
      cases q
      rcases set_get hl e' with ⟨h1', _⟩ | ⟨h1', h'⟩
      · rw [h1, h1']
      · rw [List.getElem?_set_ne (Ne.symm h1')] at q'
        exact absurd rfl (old h' q')
    · rw [List.getElem?_set_ne (Ne.symm h1)] at q
      rcases set_get hl e' with ⟨h1', _⟩ | ⟨h1', h'⟩
      · rw [h1', List.getElem?_set_self hi] at q'
        cases q'
        exact absurd rfl (old h q)
      · rw [List.getElem?_set_ne (Ne.symm h1')] at q'
        exact I.dis j k y z b h h' q q'
end
end G
set_option maxRecDepth 100000
/-! The judgements of the functional layer, and how they are put together. -/
namespace G
open PySem PySem.Spec L2

section
variable {K : PySem.W.Frag} {B : Base0} {w w' : Wd} {s s' : Sg} {sgq : St} {α β : Type} {o : Out α} {P P' : α → Sg → Wd → Prop}
theorem PoX.start {x : Exc} {s2 : Sg} (e : Stx sgq w s w' s') (h : PoX K B w s sgq x s2) : PoX K B w' s' sgq x s2 := fun w2 c d e2 I q => h w2 c d (e.trans e2) I q
theorem Endz.start (e : Stx sgq w s w' s') (h : Endz K B w s sgq o P) : Endz K B w' s' sgq o P := by
  cases o with
  | ok a s' => exact fun w2 e2 I => h w2 (e.trans e2) I
  | exc x s' => exact PoX.start e h
  | stuck => exact h
theorem Endz.mono (h : Endz K B w s sgq o P) (f : ∀ a s' w', Stx sgq w s w' s' → IN K B w' s' sgq → P a s' w' → P' a s' w') : Endz K B w s sgq o P' := by
  cases o with
  | ok a s' => exact fun w2 e2 I => f a s' w2 e2 I (h w2 e2 I)
  | exc x s' => exact h
  | stuck => exact h
theorem Endz.bind {k : α → M β} {R : β → Sg → Wd → Prop} (h : Endz K B w s sgq (o.bind k) R) : Endz K B w s sgq o (fun a s' w' => Endz K B w' s' sgq (k a s') R) := by
  cases o with
  | ok a s' => exact fun w2 e2 I => Endz.start e2 h
  | exc x s' => exact h
  | stuck => exact h
/-- at its end -/
theorem Endz.now {a : α} {s2 : Sg} (h : Endz K B w s sgq (.ok a s2) P) (e : Stx sgq w s w' s2) (I : IN K B w' s2 sgq) : P a s2 w' := h w' e I
end

abbrev FE (X : Cx) (B : Base0) (e : Expr) (m : M Val) : Prop := PE X e (tE X.K B m)
abbrev FA (X : Cx) (B : Base0) (es : List Expr) (m : M (List Val)) : Prop := PA X es (tA X.K B m)
abbrev FT (X : Cx) (B : Base0) (e : Expr) (m : M Bool) : Prop := PT X e (tT X.K B m)
abbrev FS (X : Cx) (B : Base0) (st : Stmt) (m : M Fl) : Prop := PS X st (tS X.K B m)
abbrev FSs (X : Cx) (B : Base0) (st : List Stmt) (m : M Fl) : Prop := PSs X st (tS X.K B m)

section
variable {X : Cx} {B : Base0} {e a b : Expr} {m ma mb : M Val} {pos : Pos} {sgq : St} {H : Hp} {Q : VK}
theorem wkE {t t' : TE} (h : PE X e t) (f : ∀ sgq H Q, t' sgq H Q → t sgq H Q) : PE X e t' := ⟨fun pins s sgq H Q I q => h.run pins s sgq H Q I (f sgq H Q q)⟩
theorem wkT {t t' : TT} (h : PT X e t) (f : ∀ sgq H Q, t' sgq H Q → t sgq H Q) : PT X e t' := ⟨fun pins s sgq H Q I q => h.run pins s sgq H Q I (f sgq H Q q)⟩
theorem wkA {es : List Expr} {t t' : TA} (h : PA X es t) (f : ∀ sgq H Q, t' sgq H Q → t sgq H Q) : PA X es t' := ⟨fun pos pins s sgq H Q I q => h.run pos pins s sgq H Q I (f sgq H Q q)⟩
theorem wkS {st : Stmt} {t t' : TS} (h : PS X st t) (f : ∀ D sgq H, t' D sgq H → t D sgq H) : PS X st t' := ⟨fun pins s sgq H D I q => h.run pins s sgq H D I (f D sgq H q)⟩
theorem wkSs {st : List Stmt} {t t' : TS} (h : PSs X st t) (f : ∀ D sgq H, t' D sgq H → t D sgq H) : PSs X st t' := ⟨fun pins s sgq H D I q => h.run pins s sgq H D I (f D sgq H q)⟩
/-- the first part of a run -/
theorem tE.first {β : Type} {K : PySem.W.Frag} {k : Val → M β} {w : Wd} {s : Sg} {P : β → Sg → Wd → Prop} (I : IN K B w s sgq) (h : Endz K B w s sgq ((m s).bind k) P)
    (f : ∀ x s' w' v, Stx sgq w s w' s' → IN K B w' s' sgq → RlS K w' s'.Omq.length sgq x v → Endz K B w' s' sgq (k x s') P → Q v w'.H) : tE K B m sgq w.H Q :=
  ⟨w, s, rfl, I, (Endz.bind h).mono fun x s' w' e I' q v r => f x s' w' v e I' r q⟩
theorem tA.first {β : Type} {K : PySem.W.Frag} {m : M (List Val)} {Q : List V → Hp → Prop} {k : List Val → M β} {w : Wd} {s : Sg} {P : β → Sg → Wd → Prop} (I : IN K B w s sgq) (h : Endz K B w s sgq ((m s).bind k) P)
    (f : ∀ xs s' w' vs, Stx sgq w s w' s' → IN K B w' s' sgq → RlSs K w' s'.Omq.length sgq xs vs → Endz K B w' s' sgq (k xs s') P → Q vs w'.H) : tA K B m sgq w.H Q :=
  ⟨w, s, rfl, I, (Endz.bind h).mono fun x s' w' e I' q v r => f x s' w' v e I' r q⟩
theorem tT.first {β : Type} {K : PySem.W.Frag} {m : M Bool} {Q : Bool → Hp → Prop} {k : Bool → M β} {w : Wd} {s : Sg} {P : β → Sg → Wd → Prop} (I : IN K B w s sgq) (h : Endz K B w s sgq ((m s).bind k) P)
    (f : ∀ b s' w', Stx sgq w s w' s' → IN K B w' s' sgq → Endz K B w' s' sgq (k b s') P → Q b w'.H) : tT K B m sgq w.H Q :=
  ⟨w, s, rfl, I, (Endz.bind h).mono fun x s' w' e I' q => f x s' w' e I' q⟩

/-! ### operators by values -/
/-- r is served by g -/
def Cov2 (K : PySem.W.Frag) (B : Base0) (r : R2) (g : Val → Val → M Val) : Prop :=
  ∀ (sgq : St) (w : Wd) (s : Sg) (x y : Val) (v u : V) (Q : VK), IN K B w s sgq → RlS K w s.Omq.length sgq x v → RlS K w s.Omq.length sgq y u → EndsV K B w s sgq (g x y s) Q → r v u w.H Q
def Cov1 (K : PySem.W.Frag) (B : Base0) (r : V → Hp → VK → Prop) (g : Val → M Val) : Prop :=
  ∀ (sgq : St) (w : Wd) (s : Sg) (x : Val) (v : V) (Q : VK), IN K B w s sgq → RlS K w s.Omq.length sgq x v → EndsV K B w s sgq (g x s) Q → r v w.H Q
def CovA (K : PySem.W.Frag) (B : Base0) (r : List V → Hp → VK → Prop) (g : List Val → M Val) : Prop :=
  ∀ (sgq : St) (w : Wd) (s : Sg) (xs : List Val) (vs : List V) (Q : VK), IN K B w s sgq → RlSs K w s.Omq.length sgq xs vs → EndsV K B w s sgq (g xs s) Q → r vs w.H Q
def OpF (X : Cx) (B : Base0) (f : Value → Value → Sem Value) (g : Val → Val → M Val) : Prop := ∃ r, OpR X f r ∧ Cov2 X.K B r g
def CallF (X : Cx) (B : Base0) (f : Value) (g : List Val → M Val) : Prop := ∃ r, CallR X f r ∧ CovA X.K B r g
def op2 (g : Val → Val → M Val) (ma mb : M Val) : M Val := ma.bind fun x => mb.bind fun y => g x y
theorem tOp.of {K : PySem.W.Frag} {r : R2} {g : Val → Val → M Val} (c : Cov2 K B r g) (h : tE K B (op2 g ma mb) sgq H Q) : tOp r (tE K B ma) (tE K B mb) sgq H Q := by
  obtain ⟨w, s, rfl, I, h⟩ := h
  refine tE.first I h fun x s1 w1 v e1 I1 r1 h1 => ?_
  refine tE.first I1 h1 fun y s2 w2 u e2 I2 r2 h2 => ?_
  exact c sgq w2 s2 x y v u Q I2 (r1.ext e2.ext) r2 h2
theorem fe_op {op : Operator} {g : Val → Val → M Val} (ho : OpF X B (binaryOp op) g) (ha : FE X B a ma) (hb : FE X B b mb) : FE X B (.BinOp a op b pos) (op2 g ma mb) := by
  obtain ⟨r, h1, h2⟩ := ho
  exact wkE (pe_op h1 ha hb) fun sgq H Q h => tOp.of h2 h
theorem fe_cmp {op : CmpOp} {g : Val → Val → M Val} (ho : OpF X B (compareOp op) g) (ha : FE X B a ma) (hb : FE X B b mb) (hm : behindInMarks op b = false) : FE X B (.Compare a [op] [b] pos) (op2 g ma mb) := by
  obtain ⟨r, h1, h2⟩ := ho
  exact wkE (pe_cmpR h1 ha hb hm) fun sgq H Q h => tOp.of h2 h
/-! ### atoms -/
def lit (x : D) : M Val := fun s => .ok (.d x) s
theorem tC.of {K : PySem.W.Frag} {v : V} {x : D} (r : ∀ F, Rl K F x v) (h : tE K B (lit x) sgq H Q) : tC v sgq H Q := by
  obtain ⟨w, s, rfl, I, h⟩ := h
  exact h w (Stx.refl _ _ _) I v (r w.F)
theorem fe_int {i : Int} {j} : FE X B (.Constant (.int i) j pos) (lit (.int i)) := wkE pe_int fun _ _ _ h => tC.of (fun _ => .int i) h
theorem fe_str {x : Str} {j} : FE X B (.Constant (.str x) j pos) (lit (.str x)) := wkE pe_str fun _ _ _ h => tC.of (fun _ => .str x) h
theorem fe_bl {x : Bool} {j} : FE X B (.Constant (.bool x) j pos) (lit (.bl x)) := wkE pe_bl fun _ _ _ h => tC.of (fun _ => .bl x) h
theorem fe_non {j} : FE X B (.Constant .none j pos) (lit .non) := wkE pe_non fun _ _ _ h => tC.of (fun _ => .non) h
def rd (i : Nat) : M Val := fun s => match s.rhq[i]? with
  | some (.v x) => .ok x s
  | some (.acc _) => .ok (.s i) s
  | _ => .stuck
theorem fe_var (i : Nat) {x : Str} (hN : X.N[i]? = some x := by rfl) (hv : Vis X.env.scope x := by first | exact Or.inl rfl | exact Or.inr (Or.inl rfl) | exact Or.inr (Or.inr rfl)) (hd : (x == ("__debug__" : Str)) = false := by decide)
    (hcd : (x == ("__classdict__" : Str)) = false := by decide) : FE X B (.Name x pos) (rd i) := by
  refine wkE (pe_var (i := i) hN hv hd hcd) fun sgq H Q h => ?_
  obtain ⟨w, s, rfl, I, h⟩ := h
  unfold rd at h
  split at h
  · next y e =>
    obtain ⟨v, e1, r⟩ := I.val i y e
    exact ⟨v, e1, h w (Stx.refl _ _ _) I v (RlS.of r)⟩
  · next c e =>
    obtain ⟨a, e1, r⟩ := I.acc i c e
    exact ⟨_, e1, h w (Stx.refl _ _ _) I _ e1⟩
  · exact h.elim
/-- a module's constant -/
theorem fe_glob {x : Str} {v : V} {u : Value} {d : D} (hm : X.mg x = some u) (r : RelV v u) (q : ∀ F, Rl X.K F d v) (hg : Gl X x := by rfl) (hd : (x == ("__debug__" : Str)) = false := by decide) : FE X B (.Name x pos) (lit d) :=
  wkE (pe_glob hg hm r hd) fun _ _ _ h => tC.of q h
/-! ### argument lists -/
def consA (ma : M Val) (mr : M (List Val)) : M (List Val) := ma.bind fun x => mr.bind fun xs => M.pure (x :: xs)
theorem fa_nil : FA X B [] (M.pure []) := wkA pa_nil fun sgq H Q h => by
  obtain ⟨w, s, rfl, I, h⟩ := h
  exact h w (Stx.refl _ _ _) I [] .nil
theorem fa_cons {es : List Expr} {mr : M (List Val)} (ha : FE X B e ma) (hr : FA X B es mr) (hs : starEach (e :: es) X.env = (false, eval e X.env) :: starEach es X.env := by rfl) : FA X B (e :: es) (consA ma mr) := by
  refine wkA (pa_cons ha hr hs) fun sgq H Q h => ?_
  obtain ⟨w, s, rfl, I, h⟩ := h
  refine tE.first I h fun x s1 w1 v e1 I1 r1 h1 => ?_
  refine tA.first I1 h1 fun xs s2 w2 vs e2 I2 r2 h2 => ?_
  exact h2 w2 (Stx.refl _ _ _) I2 (v :: vs) (.cons (r1.ext e2.ext) r2)
theorem fe_callB {x : Str} {p : Pos} {es : List Expr} {mr : M (List Val)} {id : String} {g : List Val → M Val} (hc : CallF X B (.builtin id) g) (hm : X.mg x = none) (hv : bootBuiltins x = some (.builtin id)) (ha : FA X B (e :: es) mr)
    (hg : Gl X x := by rfl) (hn : x ≠ "__name__" := by decide) (hdb : (x == ("__debug__" : Str)) = false := by decide) (he : starEach (e :: es) X.env = (false, eval e X.env) :: starEach es X.env := by rfl) (hp : (backTo pos (starEach es X.env)).any (·.1) = false := by rfl) :
    FE X B (.Call (.Name x p) (e :: es) [] pos) (mr.bind g) := by
  obtain ⟨r, h1, h2⟩ := hc
  refine wkE (pe_callB h1 hg hm hv ha hn hdb he hp) fun sgq H Q h => ?_
  obtain ⟨w, s, rfl, I, h⟩ := h
  exact tA.first I h fun xs s1 w1 vs e1 I1 r1 q => h2 sgq w1 s1 xs vs Q I1 r1 q
theorem fe_callTy {x : Str} {p : Pos} {es : List Expr} {mr : M (List Val)} {T : String} {g : List Val → M Val} (hc : CallF X B (.type T) g) (hm : X.mg x = none) (hv : bootBuiltins x = some (.type T)) (ha : FA X B (e :: es) mr)
    (hg : Gl X x := by rfl) (hn : x ≠ "__name__" := by decide) (hdb : (x == ("__debug__" : Str)) = false := by decide) (he : starEach (e :: es) X.env = (false, eval e X.env) :: starEach es X.env := by rfl) (hp : (backTo pos (starEach es X.env)).any (·.1) = false := by rfl) :
    FE X B (.Call (.Name x p) (e :: es) [] pos) (mr.bind g) := by
  obtain ⟨r, h1, h2⟩ := hc
  refine wkE (pe_callTy h1 hg hm hv ha hn hdb he hp) fun sgq H Q h => ?_
  obtain ⟨w, s, rfl, I, h⟩ := h
  exact tA.first I h fun xs s1 w1 vs e1 I1 r1 q => h2 sgq w1 s1 xs vs Q I1 r1 q
end
end G
set_option maxRecDepth 100000
/-! Calls whose wish about exceptions knows the slots. -/
namespace G
open PySem PySem.Spec L2
section
variable {X : Cx} {CXq : CXT} {k n : Nat} {f C : Addr} {fd : FuncData} {ps ks : List Str} {sp : Sp} {dvs : List V} {ds : List Value} {Eq : St → XK} {x mth : Str} {p pos apos : Pos} {e o : Expr} {es : List Expr} {ta : TE} {t tk : TA}
  {kws : List Keyword} {g : List Value → List Value → List Value} {gV : List V → List V → List V}
/-- the callee runs at the slots sgq -/
theorem go_fn {pins : List (Addr × Obj)} {sgq : St} {H : Hp} {s : Shared} {Q : VK} {us all : List Value} {kw : List (Str × Value)} {vs : List V} {E : XK} (F : FnOk X.prog X.w X.K X.mg X.base CXq k f fd ps sp) (rm : Room k X.A)
    (pa : PassesAt CXq X sgq E) (J : Inv X pins sgq H s) (bd : BindsTo s fd ⟨us, kw⟩ (ps.zip all)) (rv : Vals vs all) (hs : sp vs H Q E) : wpAny (model X.prog X.w) X.A (call (.ref f) us kw) (EP X pins sgq Q) X.xe s := by
  refine wpAny_call (codeAny_mono (F.run X.A X.stack s H ⟨us, kw⟩ all vs Q E rm J.env0 bd rv hs) fun res s' hq => ?_)
  cases res with
  | error ee => exact pa pins H s ee s' J hq
  | ok fl => cases fl with
    | ret u => exact J.after hq
    | next => exact hq.elim
    | brk => exact hq.elim
    | cont => exact hq.elim
theorem go_pos {pins : List (Addr × Obj)} {sgq : St} {H : Hp} {s : Shared} {Q : VK} {us : List Value} {vs : List V} {E : XK} (F : FnOk X.prog X.w X.K X.mg X.base CXq k f fd ps sp) (rm : Room k X.A) (bn : Binds X.K fd ps ds) (dv : Vals dvs ds)
    (pa : PassesAt CXq X sgq E) (J : Inv X pins sgq H s) (rv : Vals vs us) (hs : sp (vs ++ dvs) H Q E) : wpAny (model X.prog X.w) X.A (call (.ref f) us) (EP X pins sgq Q) X.xe s := by
  have r2 : Vals (vs ++ dvs) (us ++ ds) := rv.append dv
  refine go_fn F rm pa J (bn s us J.kIn ?_) r2 hs
  rw [← r2.length]; exact F.len _ _ _ _ hs
def tCallQ (sp : Sp) (dvs : List V) (Eq : St → XK) (t : TA) : TE := fun sgq H Q => t sgq H fun vs H1 => sp (vs ++ dvs) H1 Q (Eq sgq)
theorem pe_callQ (F : FnOk X.prog X.w X.K X.mg X.base CXq k f fd ps sp) (rm : Room k X.A) (hm : X.mg x = some (.ref f)) (kp : PySem.W.keepIn X.K (.ref f) = true) (bn : Binds X.K fd ps ds) (dv : Vals dvs ds) (pa : ∀ sgq, PassesAt CXq X sgq (Eq sgq))
    (ha : PA X (e :: es) t) (hg : Gl X x := by rfl) (hdb : (x == ("__debug__" : Str)) = false := by decide) (st : starEach (e :: es) X.env = (false, eval e X.env) :: starEach es X.env := by rfl) (np : (backTo pos (starEach es X.env)).any (·.1) = false := by rfl) :
    PE X (.Call (.Name x p) (e :: es) [] pos) (tCallQ sp dvs Eq t) := by
  refine ⟨fun pins s sgq H Q J h => wpAny_Call_Name_kw (ld_glob J hg hm ?_ hdb)⟩
  refine PySem.W.callWith_K (h₀ := X.base) J.ok.mod.kin kp (thn (ha.run pos pins s sgq H _ J h) fun us s1 hh => ?_) st np
  obtain ⟨vs, H1, J1, rv, q⟩ := hh
  exact ⟨J1.kIn, go_pos F rm bn dv (pa sgq) J1 rv q⟩
theorem pe_callQ0 (F : FnOk X.prog X.w X.K X.mg X.base CXq k f fd ps sp) (rm : Room k X.A) (hm : X.mg x = some (.ref f)) (kp : PySem.W.keepIn X.K (.ref f) = true) (bn : Binds X.K fd ps ds) (dv : Vals dvs ds) (pa : ∀ sgq, PassesAt CXq X sgq (Eq sgq))
    (hg : Gl X x := by rfl) (hdb : (x == ("__debug__" : Str)) = false := by decide) : PE X (.Call (.Name x p) [] [] pos) (tCallQ sp dvs Eq tNil) := by
  refine ⟨fun pins s sgq H Q J h => wpAny_Call_Name_kw (ld_glob J hg hm ?_ hdb)⟩
  exact PySem.W.callWith_K0 J.kIn kp (go_pos (us := []) F rm bn dv (pa sgq) J .nil h)
def tMethQ (C : Addr) (mth : Str) (sp : Sp) (dvs : List V) (Eq : St → XK) (ta : TE) (t : TA) : TE := fun sgq H Q => ta sgq H fun v H1 => ∃ a dx fs, v = .ref a ∧ H1 a = some (.ins C dx fs) ∧ fs.lookup mth = none ∧
  t sgq H1 fun vs H2 => sp (v :: (vs ++ dvs)) H2 Q (Eq sgq)
theorem pe_methQ {pl : Sem Bool} (he : PE X o ta) (c : Cls X.K C) (hm : Meth X.K C mth f) (F : FnOk X.prog X.w X.K X.mg X.base CXq k f fd ps sp) (rm : Room k X.A) (bn : Binds X.K fd ps ds) (dv : Vals dvs ds) (pa : ∀ sgq, PassesAt CXq X sgq (Eq sgq)) (ha : PA X (e :: es) t)
    (st : starEach (e :: es) X.env = (false, eval e X.env) :: starEach es X.env := by rfl) (np : (backTo pos (starEach es X.env)).any (·.1) = false := by rfl)
    (ht : eval (.Call (.Attribute o mth apos) (e :: es) [] pos) X.env = (eval o X.env >>= fun ov => standAt apos.atName >>= fun _ => holding [ov] (getMethod ov mth pl) >>= fun fq =>
      callWith pos fq.1 fq.2 (backTo pos (starEach (e :: es) X.env)) (backToKw pos (keywordEach [] X.env))) := by rfl) :
    PE X (.Call (.Attribute o mth apos) (e :: es) [] pos) (tMethQ C mth sp dvs Eq ta t) := by
  refine ⟨fun pins s sgq H Q J h => PySem.W.methodCall_KW (pl := pl) (thn (he.run pins s sgq H _ J h) fun u s1 hh => ?_) ht⟩
  obtain ⟨v, H1, J1, rv, a, dx, fs, rfl, ea, l, q⟩ := hh
  cases rv
  refine getmeth_ok J1 ea c hm l ?_
  refine PySem.W.callWith_K (first := [.ref a]) (h₀ := X.base) J.ok.mod.kin hm.kp (thn (ha.run pos pins s1 sgq H1 _ J1 q) fun us s2 hh => ?_) st np
  obtain ⟨vs, H2, J2, rw2, q2⟩ := hh
  exact ⟨J2.kIn, go_pos (us := .ref a :: us) (vs := .ref a :: vs) F rm bn dv (pa sgq) J2 (.cons rfl rw2) q2⟩
theorem pe_methQ0 {pl : Sem Bool} (he : PE X o ta) (c : Cls X.K C) (hm : Meth X.K C mth f) (F : FnOk X.prog X.w X.K X.mg X.base CXq k f fd ps sp) (rm : Room k X.A) (bn : Binds X.K fd ps ds) (dv : Vals dvs ds) (pa : ∀ sgq, PassesAt CXq X sgq (Eq sgq))
    (ht : eval (.Call (.Attribute o mth apos) [] [] pos) X.env = (eval o X.env >>= fun ov => standAt apos.atName >>= fun _ => holding [ov] (getMethod ov mth pl) >>= fun fq =>
      callWith pos fq.1 fq.2 (backTo pos (starEach [] X.env)) (backToKw pos (keywordEach [] X.env))) := by rfl) :
    PE X (.Call (.Attribute o mth apos) [] [] pos) (tMethQ C mth sp dvs Eq ta tNil) := by
  refine ⟨fun pins s sgq H Q J h => PySem.W.methodCall_KW (pl := pl) (thn (he.run pins s sgq H _ J h) fun u s1 hh => ?_) ht⟩
  obtain ⟨v, H1, J1, rv, a, dx, fs, rfl, ea, l, q⟩ := hh
  cases rv
  refine getmeth_ok J1 ea c hm l ?_
  exact PySem.W.callWith_K0 (first := [.ref a]) J1.kIn hm.kp (go_pos (us := [.ref a]) (vs := [.ref a]) F rm bn dv (pa sgq) J1 (.cons rfl .nil) q)
/-- a new instance, then __init__ -/
theorem go_make {pins : List (Addr × Obj)} {sgq : St} {H : Hp} {s : Shared} {Q : VK} {us : List Value} {kw : List (Str × Value)} {all : List Value → List Value} {vs : List V → List V} {E : XK} (M : Mk X.K C f) (F : FnOk X.prog X.w X.K X.mg X.base CXq k f fd ps sp) (rm : Room (k + 1) X.A)
    (bd : ∀ (s : Shared) (a : Addr), X.K.In s.heap → BindsTo s fd ⟨.ref a :: us, kw⟩ (ps.zip (all [.ref a]))) (rv : ∀ a : Addr, Vals (vs [.ref a]) (all [.ref a])) (pa : PassesAt CXq X sgq E) (J : Inv X pins sgq H s)
    (h : ∀ a dx, H a = none → H dx = none → dx ≠ a → sp (vs [.ref a]) (upd (upd H dx (.own a)) a (.ins C dx [])) (fun v H2 => v = .non ∧ Q (.ref a) H2) E) :
    wpAny (model X.prog X.w) X.A (call (.ref C) us kw) (EP X pins sgq Q) X.xe s := by
  have hq := h (s.heap.objs.size + 1) s.heap.objs.size (J.hok.fresh (Nat.le_succ _)) (J.hok.fresh (Nat.le_refl _)) (Nat.ne_of_lt (Nat.lt_succ_self _))
  have J2 := Inv.made (C := C) J
  refine wpAny_call (make_map (f := f) J.kIn M.makes M.init (beq_iff_eq.mp M.fn) (codeAny_mono (F.run _ X.stack _ _ _ _ _ _ E (rm.make C us kw)
    (J2.env0.make C us kw) (bd _ (s.heap.objs.size + 1) J2.kIn) (rv _) hq) fun res s' hq' => ?_))
  cases res with
  | error ee => exact pa pins _ _ ee s' J2 hq'
  | ok fl => cases fl with
    | ret u =>
      obtain ⟨v, H', J3, rz, ev, q3⟩ := J2.after hq'
      subst ev
      exact ⟨rz, V.ref (s.heap.objs.size + 1), H', J3, rfl, q3⟩
    | next => exact hq'.elim
    | brk => exact hq'.elim
    | cont => exact hq'.elim
def tMakeQ (C : Addr) (sp : Sp) (dvs : List V) (Eq : St → XK) (t : TA) : TE := fun sgq H Q => t sgq H fun vs H1 => (V.non :: (vs ++ dvs)).length = n ∧ ∀ a dx, H1 a = none → H1 dx = none → dx ≠ a →
  sp (.ref a :: (vs ++ dvs)) (upd (upd H1 dx (.own a)) a (.ins C dx [])) (fun v H2 => v = .non ∧ Q (.ref a) H2) (Eq sgq)
theorem pe_makeQ (M : Mk X.K C f) (F : FnOk X.prog X.w X.K X.mg X.base CXq k f fd ps sp) (rm : Room (k + 1) X.A) (hm : X.mg x = some (.ref C)) (bn : Binds X.K fd ps ds) (dv : Vals dvs ds) (pa : ∀ sgq, PassesAt CXq X sgq (Eq sgq))
    (ha : PA X (e :: es) t) (hg : Gl X x := by rfl) (hdb : (x == ("__debug__" : Str)) = false := by decide) (st : starEach (e :: es) X.env = (false, eval e X.env) :: starEach es X.env := by rfl) (np : (backTo pos (starEach es X.env)).any (·.1) = false := by rfl) :
    PE X (.Call (.Name x p) (e :: es) [] pos) (tMakeQ (n := ps.length) C sp dvs Eq t) := by
  refine ⟨fun pins s sgq H Q J h => wpAny_Call_Name_kw (ld_glob J hg hm ?_ hdb)⟩
  refine PySem.W.callWith_K (h₀ := X.base) J.ok.mod.kin M.kp (thn (ha.run pos pins s sgq H _ J h) fun us s1 hh => ?_) st np
  obtain ⟨vs, H1, J1, rv, hl, q⟩ := hh
  refine ⟨J1.kIn, go_make (all := fun z => z ++ (us ++ ds)) (vs := fun z => z ++ (vs ++ dvs)) M F rm (fun s2 a kin => ?_) (fun a => ?_) (pa sgq) J1 fun a dx h1 h2 h3 => q a dx h1 h2 h3⟩
  · have r2 : Vals (vs ++ dvs) (us ++ ds) := rv.append dv
    refine bn s2 (.ref a :: us) kin ?_
    have := r2.length
    simp only [List.length_cons, List.length_append] at *
    omega
  · exact .cons rfl (rv.append dv)
def tMakeQK (C : Addr) (n m : Nat) (sp : Sp) (gV : List V → List V → List V) (Eq : St → XK) (t tk : TA) : TE := fun sgq H Q => t sgq H fun vs H1 => tk sgq H1 fun zs H2 => vs.length = n ∧ zs.length = m ∧ ∀ a dx, H2 a = none → H2 dx = none → dx ≠ a →
  sp (gV (.ref a :: vs) zs) (upd (upd H2 dx (.own a)) a (.ins C dx [])) (fun v H3 => v = .non ∧ Q (.ref a) H3) (Eq sgq)
theorem pe_makeQK (M : Mk X.K C f) (F : FnOk X.prog X.w X.K X.mg X.base CXq k f fd ps sp) (rm : Room (k + 1) X.A) (hm : X.mg x = some (.ref C)) (bk : KBn X.K fd ps (n + 1) ks g gV) (pa : ∀ sgq, PassesAt CXq X sgq (Eq sgq)) (ha : PA X (e :: es) t) (hkw : PK X kws tk)
    (hg : Gl X x := by rfl) (ka : (backToKw pos (keywordEach kws X.env)).all (·.1.isSome) = true := by rfl) (kf : (backToKw pos (keywordEach kws X.env)).filterMap (·.1) = ks := by rfl) (hdb : (x == ("__debug__" : Str)) = false := by decide)
    (st : starEach (e :: es) X.env = (false, eval e X.env) :: starEach es X.env := by rfl) (np : ((backTo pos (starEach (e :: es) X.env)).any (·.1) || (backToKw pos (keywordEach kws X.env)).any (·.1.isNone)) = false := by rfl) :
    PE X (.Call (.Name x p) (e :: es) kws pos) (tMakeQK C n ks.length sp gV Eq t tk) := by
  refine ⟨fun pins s sgq H Q J h => wpAny_Call_Name_kw (ld_glob J hg hm ?_ hdb)⟩
  refine PySem.W.callWith_KW (h₀ := X.base) J.ok.mod.kin M.kp ka (thn (ha.run pos pins s sgq H _ J h) fun us s1 hh => ?_) np st
  obtain ⟨vs, H1, J1, rv, q⟩ := hh
  refine thn (hkw.run pos pins s1 sgq H1 _ J1 q) fun ws s2 hh => ?_
  obtain ⟨zs, H2, J2, rz, l1, l2, q2⟩ := hh
  rw [kf]
  refine ⟨J2.kIn, go_make (all := fun z => g (z ++ us) ws) (vs := fun z => gV (z ++ vs) zs) M F rm (fun s3 a kin => bk.to s3 (.ref a :: us) ws kin ?_ (rz.length.symm.trans l2)) (fun a => bk.rel (.cons rfl rv) rz) (pa sgq) J2 q2⟩
  rw [List.length_cons, ← rv.length, l1]
end
end G
set_option maxRecDepth 100000
/-! Freezing, calls, defs. -/
namespace G
open PySem PySem.Spec L2

/-! ### freezing what a slot owns -/
def allD : List Val → Option (List D)
  | [] => some []
  | .d x :: r => (allD r).map (x :: ·)
  | _ :: _ => none
theorem allD_map (xs : List D) : allD (xs.map Val.d) = some xs := by
  induction xs with
  | nil => rfl
  | cons x r ih => simp [allD, ih]
theorem allD_eq : ∀ {xs : List Val} {ds : List D}, allD xs = some ds → xs = ds.map Val.d
  | [], ds, h => by simp [allD] at h; subst h; rfl
  | .d x :: r, ds, h => by
    simp only [allD, Option.map_eq_some_iff] at h
    obtain ⟨es, h1, h2⟩ := h
    subst h2
    simp [allD_eq h1]
  | .r _ :: _, ds, h => by simp [allD] at h
  | .s _ :: _, ds, h => by simp [allD] at h
def Cell.toD : Cell → Option D
  | .lst xs => (allD xs).map D.lst
  | .dK kvs => (allD (kvs.map (·.2))).map fun ds => .dK ((kvs.map (·.1)).zip ds)
  | .dT kvs => (allD (kvs.map (·.2))).map fun ds => .dT ((kvs.map (·.1)).zip ds)
  | .ins c fs => (allD (fs.map (·.2))).map fun ds => .ins c ((fs.map (·.1)).zip ds)
theorem rlVs_d {K : PySem.W.Frag} {w : Wd} {n : Nat} : ∀ {ds : List D} {vs : List V}, RlVs K w n (ds.map Val.d) vs → Rls K w.F ds vs
  | [], _, .nil => .nil
  | _ :: _, _, .cons a b => .cons a (rlVs_d b)
theorem rls_V {K : PySem.W.Frag} {w : Wd} {n : Nat} : ∀ {ds : List D} {vs : List V}, Rls K w.F ds vs → RlVs K w n (ds.map Val.d) vs
  | [], _, .nil => .nil
  | _ :: _, _, .cons a b => .cons a (rls_V b)
theorem Rls.length {K : PySem.W.Frag} {F : Hp} : ∀ {ds : List D} {vs : List V}, Rls K F ds vs → ds.length = vs.length
  | _, _, .nil => rfl
  | _, _, .cons _ b => congrArg Nat.succ b.length
theorem RlVs.length {K : PySem.W.Frag} {w : Wd} {n : Nat} : ∀ {ds : List Val} {vs : List V}, RlVs K w n ds vs → ds.length = vs.length
  | _, _, .nil => rfl
  | _, _, .cons _ b => congrArg Nat.succ b.length
theorem zip_fst {α β : Type} : ∀ {l : List α} {r : List β}, l.length = r.length → (l.zip r).map (·.1) = l
  | [], [], _ => rfl
  | a :: l, b :: r, h => by simp only [List.zip_cons_cons, List.map_cons]; rw [zip_fst (by simpa using h)]
theorem zip_snd {α β : Type} : ∀ {l : List α} {r : List β}, l.length = r.length → (l.zip r).map (·.2) = r
  | [], [], _ => rfl
  | a :: l, b :: r, h => by simp only [List.zip_cons_cons, List.map_cons]; rw [zip_snd (by simpa using h)]
/-- a cell of data lies as data, once frozen -/
theorem CellR.rl {K : PySem.W.Frag} {w : Wd} {n : Nat} {a : Addr} {c : Cell} {o : HO} {x : D} (ha : w.F a = none) (h : CellR K w n c o) (e : c.toD = some x) : Rl K (upd w.F a o) x (.ref a) := by
  have sb : Sub w.F (upd w.F a o) := Sub.upd ha
  have len : ∀ {α β : Type} {kvs : List (α × Val)} {kws : List (β × V)}, RlVs K w n (kvs.map (·.2)) (kws.map (·.2)) → ∀ {ds}, allD (kvs.map (·.2)) = some ds → kvs.length = ds.length ∧ Rls K (upd w.F a o) ds (kws.map (·.2)) := fun {α β kvs kws} r {ds} q => by
    have q2 := allD_eq q
    rw [q2] at r
    refine ⟨?_, (rlVs_d r).mono sb⟩
    have := congrArg List.length q2
    simpa using this
  unfold CellR at h
  split at h
  · next xs vs =>
    simp only [Cell.toD, Option.map_eq_some_iff] at e
    obtain ⟨ds, e1, rfl⟩ := e
    rw [allD_eq e1] at h
    exact .lst upd_same ((rlVs_d h).mono sb)
  · next kvs kws =>
    simp only [Cell.toD, Option.map_eq_some_iff] at e
    obtain ⟨ds, e1, rfl⟩ := e
    obtain ⟨l, r⟩ := len h.2 e1
    have l2 : (kvs.map (·.1)).length = ds.length := by simpa using l
    exact .dK upd_same (by rw [zip_fst l2]; exact h.1) (by rw [zip_snd l2]; exact r)
  · next kvs kws =>
    simp only [Cell.toD, Option.map_eq_some_iff] at e
    obtain ⟨ds, e1, rfl⟩ := e
    obtain ⟨l, r⟩ := len h.2 e1
    have l2 : (kvs.map (·.1)).length = ds.length := by simpa using l
    exact .dT upd_same (by rw [zip_fst l2]; exact h.1) (by rw [zip_snd l2]; exact r)
  · next c fs C dx ws =>
    simp only [Cell.toD, Option.map_eq_some_iff] at e
    obtain ⟨ds, e1, rfl⟩ := e
    obtain ⟨h0, h1, h2⟩ := h
    subst h0
    obtain ⟨l, r⟩ := len h2 e1
    have l2 : (fs.map (·.1)).length = ds.length := by simpa using l
    exact .ins upd_same (by rw [zip_fst l2]; exact h1) (by rw [zip_snd l2]; exact r)
  · exact h.elim
/-- what a slot owns is frozen when it is handed on -/
def fz (x : Val) : M Val := fun s => match x with
  | .s i => (match s.rhq[i]? with
    | some (.acc c) => (match c.toD with
      | some d => .ok (.d d) { s with rhq := s.rhq.set i (.v (.d d)) }
      | none => .stuck)
    | some (.v (.d d)) => .ok (.d d) s
    | _ => .stuck)
  | x => .ok x s
section
variable {K : PySem.W.Frag} {B : Base0} {sgq : St} {w : Wd} {s : Sg} {x : Val} {v : V} {P : Val → Sg → Wd → Prop}
theorem fz_ok (I : IN K B w s sgq) (r : RlS K w s.Omq.length sgq x v) (h : Endz K B w s sgq (fz x s) P) :
    ∃ y s' w', w'.H = w.H ∧ Stx sgq w s w' s' ∧ IN K B w' s' sgq ∧ RlV K w' s'.Omq.length y v ∧ P y s' w' := by
  cases x with
  | d x => exact ⟨.d x, s, w, rfl, Stx.refl _ _ _, I, r, h w (Stx.refl _ _ _) I⟩
  | r k => exact ⟨.r k, s, w, rfl, Stx.refl _ _ _, I, r, h w (Stx.refl _ _ _) I⟩
  | s i =>
    have r : sgq[i]? = some (some v) := r
    unfold fz at h
    dsimp only at h
    split at h
    · next c e =>
      obtain ⟨a, e1, ⟨o, ho, hc⟩, al, nw⟩ := I.acc i c e
      rw [r] at e1; cases e1
      split at h
      · next d q =>
        have hr := CellR.rl al.1 hc q
        obtain ⟨J, ex⟩ := Ins.ice_acc I e r ho hr
        exact ⟨.d d, { s with rhq := s.rhq.set i (.v (.d d)) }, w.ice a o, rfl, ex, J, hr, h _ ex J⟩
      · exact h.elim
    · next d e =>
      obtain ⟨u, e1, q⟩ := I.val i _ e
      rw [r] at e1; cases e1
      exact ⟨.d d, s, w, rfl, Stx.refl _ _ _, I, q, h w (Stx.refl _ _ _) I⟩
    · exact h.elim
end
/-! ### arguments that are handed on -/
def tAp (K : PySem.W.Frag) (B : Base0) (m : M (List Val)) : TA := fun sgq H Q => ∃ (w : Wd) (s : Sg), w.H = H ∧ IN K B w s sgq ∧ Endz K B w s sgq (m s) fun xs s' w' => ∀ vs, RlVs K w' s'.Omq.length xs vs → Q vs w'.H
abbrev FAp (X : Cx) (B : Base0) (es : List Expr) (m : M (List Val)) : Prop := PA X es (tAp X.K B m)
def fzM (m : M Val) : M Val := m.bind fz
section
variable {X : Cx} {B : Base0} {e : Expr} {es : List Expr} {ma : M Val} {mr : M (List Val)} {pos : Pos}
theorem fap_nil : FAp X B [] (M.pure []) := wkA pa_nil fun sgq H Q h => by
  obtain ⟨w, s, rfl, I, h⟩ := h
  exact h w (Stx.refl _ _ _) I [] .nil
theorem tAp.first {β : Type} {K : PySem.W.Frag} {sgq : St} {m : M (List Val)} {Q : List V → Hp → Prop} {k : List Val → M β} {w : Wd} {s : Sg} {P : β → Sg → Wd → Prop} (I : IN K B w s sgq) (h : Endz K B w s sgq ((m s).bind k) P)
    (f : ∀ xs s' w' vs, Stx sgq w s w' s' → IN K B w' s' sgq → RlVs K w' s'.Omq.length xs vs → Endz K B w' s' sgq (k xs s') P → Q vs w'.H) : tAp K B m sgq w.H Q :=
  ⟨w, s, rfl, I, (Endz.bind h).mono fun x s' w' e I' q v r => f x s' w' v e I' r q⟩
/-- an expression whose value is handed on -/
theorem tE.fz {β : Type} {K : PySem.W.Frag} {sgq : St} {Q : VK} {k : Val → M β} {w : Wd} {s : Sg} {P : β → Sg → Wd → Prop} (I : IN K B w s sgq) (h : Endz K B w s sgq ((fzM ma s).bind k) P)
    (f : ∀ x s' w' v, Stx sgq w s w' s' → IN K B w' s' sgq → RlV K w' s'.Omq.length x v → Endz K B w' s' sgq (k x s') P → Q v w'.H) : tE K B ma sgq w.H Q := by
  have h' : Endz K B w s sgq ((ma s).bind fun x => (G.fz x).bind k) P := by
    show Endz K B w s sgq ((ma s).bind fun x s => (G.fz x s).bind k) P
    have e : ((fzM ma s).bind k) = ((ma s).bind fun x s => (G.fz x s).bind k) := by
      show ((ma s).bind G.fz).bind k = _
      cases ma s <;> rfl
    rw [← e]; exact h
  refine tE.first I h' fun x s1 w1 v e1 I1 r1 h1 => ?_
  obtain ⟨y, s2, w2, hH, e2, I2, r2, q2⟩ := fz_ok (P := fun y s' w' => Endz K B w' s' sgq (k y s') P) I1 r1 (Endz.bind h1)
  rw [← hH]
  exact f y s2 w2 v (e1.trans e2) I2 r2 q2
theorem fap_cons (ha : FE X B e ma) (hr : FAp X B es mr) (hs : starEach (e :: es) X.env = (false, eval e X.env) :: starEach es X.env := by rfl) : FAp X B (e :: es) (consA (fzM ma) mr) := by
  refine wkA (pa_cons ha hr hs) fun sgq H Q h => ?_
  obtain ⟨w, s, rfl, I, h⟩ := h
  refine tE.fz I h fun x s1 w1 v e1 I1 r1 h1 => ?_
  refine tAp.first I1 h1 fun xs s2 w2 vs e2 I2 r2 h2 => ?_
  exact h2 w2 (Stx.refl _ _ _) I2 (v :: vs) (.cons (r1.ext e2.ext) r2)
end
/-! ### defs -/
inductive OutF where
  | ok (x : Val) (Omq : List (Option Cell)) | exc (x : Exc) (Omq : List (Option Cell)) | stuck
abbrev SemF := List Val → List (Option Cell) → OutF
def PoF (K : PySem.W.Frag) (w : Wd) (Omq : List (Option Cell)) (o : OutF) (Q : VK) (E : XK) : Prop := match o with
  | .ok x Omq' => ∀ (w' : Wd) (v : V), Sim K w' Omq' → Stp w Omq w' Omq' → RlV K w' Omq'.length x v → Q v w'.H
  | .exc x Omq' => ∀ (w' : Wd) (c : Value) (d : Option Addr), Sim K w' Omq' → Stp w Omq w' Omq' → ExcR K w' x c d → E c d w'.H
  | .stuck => False
/-- the promise of a def by its meaning -/
def spF (K : PySem.W.Frag) (n : Nat) (sem : SemF) : Sp := fun vs H Q E => ∃ (w : Wd) (Omq : List (Option Cell)) (xs : List Val), w.H = H ∧ Sim K w Omq ∧ RlVs K w Omq.length xs vs ∧ xs.length = n ∧ PoF K w Omq (sem xs Omq) Q E
def callM (sem : SemF) (xs : List Val) : M Val := fun s => match sem xs s.Omq with
  | .ok x Omq' => .ok x { s with Omq := Omq' }
  | .exc x Omq' => .exc x { s with Omq := Omq' }
  | .stuck => .stuck
/-- the state behind a call -/
theorem Ins.after {K : PySem.W.Frag} {w0 w w' : Wd} {Omq0 Omq' : List (Option Cell)} {s : Sg} {sgq : St} (I : Ins K w0 Omq0 w s sgq) (S : Sim K w' Omq') (st : Stp w s.Omq w' Omq') : Ins K w0 Omq0 w' { s with Omq := Omq' } sgq := by
  refine ⟨S, I.stp.trans st, I.len, fun i x e => ?_, fun i c e => ?_, I.dis⟩
  · obtain ⟨v, e1, r⟩ := I.val i x e
    exact ⟨v, e1, r.ext st.ext⟩
  · obtain ⟨a, e1, ⟨o, q, r⟩, al, nw⟩ := I.acc i c e
    obtain ⟨k1, k2⟩ := st.keep a o q al
    exact ⟨a, e1, ⟨o, k1, r.ext st.ext⟩, k2, nw⟩
/-- the caller's side -/
theorem spF.of {K : PySem.W.Frag} {B : Base0} {sgq : St} {w : Wd} {s : Sg} {sem : SemF} {xs : List Val} {vs : List V} {Q : VK} {n : Nat} (I : IN K B w s sgq) (r : RlVs K w s.Omq.length xs vs) (hn : xs.length = n)
    (h : EndsV K B w s sgq (callM sem xs s) Q) : spF K n sem vs w.H Q (WE B.W sgq) := by
  refine ⟨w, s.Omq, xs, rfl, I.sim, r, hn, ?_⟩
  unfold callM at h
  unfold PoF
  split at h
  · next x Omq' e =>
    exact fun w' v S st rv => h w' st.stx (I.after S st) v (RlS.of rv)
  · next x Omq' e =>
    exact fun w' c d S st rv => h w' c d st.stx (I.after S st) rv
  · exact h.elim
def slots (n : Nat) (xs : List Val) : List Slot := xs.map Slot.v ++ List.replicate (n - xs.length) .no
def runF (n : Nat) (m : M Fl) : SemF := fun xs Omq => match m ⟨slots n xs, Omq⟩ with
  | .ok .nx s => .ok (.d .non) s.Omq
  | .ok (.rt x) s => .ok x s.Omq
  | .ok _ _ => .stuck
  | .exc x s => .exc x s.Omq
  | .stuck => .stuck
theorem ins_start {K : PySem.W.Frag} {w : Wd} {Omq : List (Option Cell)} {N : List Str} {xs : List Val} {vs : List V} (S : Sim K w Omq) (r : RlVs K w Omq.length xs vs) : Ins K w Omq w ⟨slots N.length xs, Omq⟩ (L2.start N vs) := by
  have hl := r.length
  have get : ∀ (xs : List Val) (i : Nat) (y : Slot), (xs.map Slot.v ++ List.replicate (N.length - xs.length) Slot.no)[i]? = some y → y = .no ∨ ∃ x, y = .v x ∧ xs[i]? = some x := fun xs i y e => by
    by_cases h : i < xs.length
    · rw [List.getElem?_append_left (by simpa using h), List.getElem?_map] at e
      cases q : xs[i]? with
      | none => (rw [q] at e; cases e)
      | some x => rw [q] at e; cases e; exact .inr ⟨x, rfl, rfl⟩
    · rw [List.getElem?_append_right (by simpa using Nat.le_of_not_lt h)] at e
      have := List.mem_of_getElem? e
      exact .inl (List.eq_of_mem_replicate this)
  have nth : ∀ {xs : List Val} {vs : List V} {i : Nat} {x : Val}, RlVs K w Omq.length xs vs → xs[i]? = some x → ∃ v, vs[i]? = some v ∧ RlV K w Omq.length x v := by
    intro xs vs i x r
    induction r generalizing i with
    | nil => intro e; simp at e
    | cons a b ih =>
      intro e
      cases i with
      | zero => simp at e; subst e; exact ⟨_, rfl, a⟩
      | succ j => simpa using ih (i := j) (by simpa using e)
  refine ⟨S, Stp.refl _ _, ?_, fun i x e => ?_, fun i c e => ?_, fun i j c c' a e => ?_⟩
  · simp [slots, L2.start, hl]
  · rcases get xs i _ e with q | ⟨x', q, q2⟩
    · cases q
    · cases q
      obtain ⟨v, e1, rv⟩ := nth r q2
      refine ⟨v, ?_, rv⟩
      unfold L2.start
      rw [List.getElem?_append_left (by rw [List.length_map, ← hl]; exact (List.getElem?_eq_some_iff.mp q2).1), List.getElem?_map, e1]
      rfl
  · rcases get xs i _ e with q | ⟨x', q, q2⟩ <;> cases q
  · rcases get xs i _ e with q | ⟨x', q, q2⟩ <;> cases q
/-- the def's side: CXd the classes' way out -/
theorem spF.body {K : PySem.W.Frag} {X : Cx} {N : List Str} {vs : List V} {H : Hp} {Q : VK} {E : XK} {n : Nat} {m : M Fl} {body : List Stmt} (hK : X.K = K) (h : spF K n (runF N.length m) vs H Q E)
    (d : ∀ B : Base0, B.W = (fun c d _ H => E c d H) → FSs X B body m) : ∃ t, PSs X body t ∧ t { nx := fun _ H' => Q .non H', rt := Q } (L2.start N vs) H := by
  obtain ⟨w, Omq, xs, rfl, S, r, hn, h⟩ := h
  subst hK
  refine ⟨_, d ⟨w, Omq, fun c d _ H => E c d H⟩ rfl, w, ⟨slots N.length xs, Omq⟩, rfl, ins_start S r, ?_⟩
  unfold runF at h
  unfold EndsS
  split at h
  · next s e =>
    rw [e]
    exact fun w' sgq' _ I => h w' .non I.sim I.stp Rl.non
  · next x s e =>
    rw [e]
    exact fun w' sgq' v _ I rv => h w' v I.sim I.stp rv
  · exact h.elim
  · next x s e =>
    rw [e]
    exact fun w' sgq' c d _ I q => h w' c d I.sim I.stp q
  · exact h.elim
theorem spF.len {K : PySem.W.Frag} {n : Nat} {sem : SemF} {vs : List V} {H : Hp} {Q : VK} {E : XK} (h : spF K n sem vs H Q E) : vs.length = n := by
  obtain ⟨w, Omq, xs, _, _, r, hn, _⟩ := h
  rw [← r.length]; exact hn
/-! ### calls -/
section
variable {X : Cx} {B : Base0} {k n : Nat} {f C : Addr} {fd : FuncData} {ps : List Str} {x mth : Str} {p pos apos : Pos} {e o : Expr} {es : List Expr} {ma : M Val} {mr : M (List Val)} {sem : SemF} {dvs : List V} {dds : List D} {ds : List Value}
abbrev FnG (X : Cx) (k : Nat) (f : Addr) (fd : FuncData) (ps : List Str) (sem : SemF) : Prop := FnOk X.prog X.w X.K X.mg X.base (L2.CX X.prog X.w) k f fd ps (spF X.K ps.length sem)
/-- f(e, ..): the defaults dds fill up -/
def callE (n : Nat) (sem : SemF) (dds : List D) (mr : M (List Val)) : M Val := mr.bind fun xs => if xs.length + dds.length = n then callM sem (xs ++ dds.map Val.d) else stuck
theorem RlVs.append {K : PySem.W.Frag} {w : Wd} {n : Nat} : ∀ {xs ys : List Val} {vs us : List V}, RlVs K w n xs vs → RlVs K w n ys us → RlVs K w n (xs ++ ys) (vs ++ us)
  | _, _, _, _, .nil, r => r
  | _, _, _, _, .cons a b, r => .cons a (b.append r)
theorem fe_call (tk : Takes X B.W) (F : FnG X k f fd ps sem) (rm : Room k X.A) (hm : X.mg x = some (.ref f)) (kp : PySem.W.keepIn X.K (.ref f) = true) (bn : Binds X.K fd ps ds) (dv : Vals dvs ds) (rd : ∀ F, Rls X.K F dds dvs)
    (ha : FAp X B (e :: es) mr) (hg : Gl X x := by rfl) (hdb : (x == ("__debug__" : Str)) = false := by decide) (st : starEach (e :: es) X.env = (false, eval e X.env) :: starEach es X.env := by rfl) (np : (backTo pos (starEach es X.env)).any (·.1) = false := by rfl) :
    FE X B (.Call (.Name x p) (e :: es) [] pos) (callE ps.length sem dds mr) := by
  refine wkE (pe_callQ F rm hm kp bn dv (fun sgq => passAt tk sgq) ha hg hdb st np) fun sgq H Q h => ?_
  obtain ⟨w, s, rfl, I, h⟩ := h
  refine tAp.first I h fun xs s1 w1 vs e1 I1 r1 q => ?_
  split at q
  · next hl => exact spF.of I1 (r1.append (rls_V (rd w1.F))) (by simp [hl]) q
  · exact q.elim
theorem fe_call0 (tk : Takes X B.W) (F : FnG X k f fd ps sem) (rm : Room k X.A) (hm : X.mg x = some (.ref f)) (kp : PySem.W.keepIn X.K (.ref f) = true) (bn : Binds X.K fd ps ds) (dv : Vals dvs ds) (rd : ∀ F, Rls X.K F dds dvs)
    (hg : Gl X x := by rfl) (hdb : (x == ("__debug__" : Str)) = false := by decide) : FE X B (.Call (.Name x p) [] [] pos) (callE ps.length sem dds (M.pure [])) := by
  refine wkE (pe_callQ0 F rm hm kp bn dv (fun sgq => passAt tk sgq) hg hdb) fun sgq H Q h => ?_
  obtain ⟨w, s, rfl, I, h⟩ := h
  have h : EndsV X.K B w s sgq ((if [].length + dds.length = ps.length then callM sem ([] ++ dds.map Val.d) else stuck) s) Q := h
  split at h
  · next hl => exact spF.of I (rls_V (rd w.F)) (by simpa using hl) h
  · exact h.elim
end
end G
set_option maxRecDepth 100000
/-! Statements, tests, loops. -/
namespace G
open PySem PySem.Spec L2
section
variable {X : Cx} {B : Base0} {e a b c : Expr} {m ma mb : M Val} {mc : M Bool} {st : Stmt} {rest : List Stmt} {ms mt : M Fl} {pos : Pos}
theorem EndsS.exc {K : PySem.W.Frag} {α : Type} {w : Wd} {s : Sg} {sgq : St} {x : Exc} {s' : Sg} (h : PoXS K B w s.Omq.length x s') : PoX K B w s sgq x s' := fun w' c d e I q => h w' sgq c d e.ext I q
/-- a statement's run, from an expression's -/
theorem tE.stmt {α : Type} {K : PySem.W.Frag} {sgq : St} {o : Out α} {k : α → M Fl} {w : Wd} {s : Sg} {D : Ends} {P : α → Sg → Wd → Prop} (h : EndsS K B w s.Omq.length (o.bind k) D)
    (f : ∀ x s' w', Stx sgq w s w' s' → IN K B w' s' sgq → EndsS K B w' s'.Omq.length (k x s') D → P x s' w') : Endz K B w s sgq o P := by
  cases o with
  | ok x s' => exact fun w' e I => f x s' w' e I (EndsS.start e.ext h)
  | exc x s' => exact fun w' c d e I q => h w' sgq c d e.ext I q
  | stuck => exact h
/-! ### blocks -/
def seqS (m1 m2 : M Fl) : M Fl := m1.bind fun f => match f with
  | .nx => m2
  | f => M.pure f
theorem fs_nil : FSs X B [] (M.pure .nx) := wkSs pss_nil fun D sgq H h => by
  obtain ⟨w, s, rfl, I, h⟩ := h
  exact h w sgq (Ext.refl _ _) I
theorem fs_one (h : FS X B st ms) : FSs X B [st] ms := pss_one h
theorem fs_cons (h1 : FS X B st ms) (h2 : FSs X B rest mt) : FSs X B (st :: rest) (seqS ms mt) := by
  refine wkSs (pss_cons h1 h2) fun D sgq H h => ?_
  obtain ⟨w, s, rfl, I, h⟩ := h
  refine ⟨w, s, rfl, I, ?_⟩
  unfold seqS M.bind at h
  cases q : ms s with
  | stuck => rw [q] at h; exact h
  | exc x s' => rw [q] at h; exact h
  | ok f s' =>
    rw [q] at h
    cases f with
    | nx => exact fun w' sgq' e' I' => ⟨w', s', rfl, I', EndsS.start e' h⟩
    | rt x => exact h
    | bk => exact h
    | ct => exact h
/-! ### small statements -/
theorem fs_pass : FS X B (.Pass pos) (M.pure .nx) := wkS ps_pass fun D sgq H h => by
  obtain ⟨w, s, rfl, I, h⟩ := h
  exact h w sgq (Ext.refl _ _) I
theorem fs_continue : FS X B (.Continue pos) (M.pure .ct) := wkS ps_continue fun D sgq H h => by
  obtain ⟨w, s, rfl, I, h⟩ := h
  exact h w sgq (Ext.refl _ _) I
theorem fs_break : FS X B (.Break pos) (M.pure .bk) := wkS ps_break fun D sgq H h => by
  obtain ⟨w, s, rfl, I, h⟩ := h
  exact h w sgq (Ext.refl _ _) I
def exprS (m : M Val) : M Fl := m.bind fun _ => M.pure .nx
theorem fs_expr (he : FE X B e m) (hs : swapsWith e none pos.line X.env = pure false := by rfl) : FS X B (.Expr e pos) (exprS m) := by
  refine wkS (ps_expr he hs) fun D sgq H h => ?_
  obtain ⟨w, s, rfl, I, h⟩ := h
  exact ⟨w, s, rfl, I, tE.stmt h fun x s' w' e' I' h' v _ => h' w' sgq (Ext.refl _ _) I'⟩
/-- the run of fz behind m -/
theorem tE.fzS {K : PySem.W.Frag} {sgq : St} {Q : VK} {k : Val → M Fl} {w : Wd} {s : Sg} {D : Ends} (I : IN K B w s sgq) (h : EndsS K B w s.Omq.length ((fzM m s).bind k) D)
    (f : ∀ x s' w' v, Stx sgq w s w' s' → IN K B w' s' sgq → RlV K w' s'.Omq.length x v → EndsS K B w' s'.Omq.length (k x s') D → Q v w'.H) : tE K B m sgq w.H Q := by
  refine ⟨w, s, rfl, I, ?_⟩
  have h' : EndsS K B w s.Omq.length ((m s).bind fun x s => (G.fz x s).bind k) D := by
    have e : ((fzM m s).bind k) = ((m s).bind fun x s => (G.fz x s).bind k) := by
      show ((m s).bind G.fz).bind k = _
      cases m s <;> rfl
    rw [← e]; exact h
  refine tE.stmt (w := w) (s := s) (sgq := sgq) h' fun x s1 w1 e1 I1 h1 v r1 => ?_
  have h2 : Endz K B w1 s1 sgq (G.fz x s1) (fun y s' w' => EndsS K B w' s'.Omq.length (k y s') D) := tE.stmt h1 fun y s' w' _ _ q => q
  obtain ⟨y, s2, w2, hH, e2, I2, r2, q2⟩ := fz_ok I1 r1 h2
  rw [← hH]
  exact f y s2 w2 v (e1.trans e2) I2 r2 q2
def retS (m : M Val) : M Fl := (fzM m).bind fun x => M.pure (.rt x)
theorem fs_ret (he : FE X B e m) : FS X B (.Return (some e) pos) (retS m) := by
  refine wkS (ps_ret he) fun D sgq H h => ?_
  obtain ⟨w, s, rfl, I, h⟩ := h
  exact tE.fzS I h fun x s' w' v e' I' r h' => h' w' sgq v (Ext.refl _ _) I' r
theorem fs_retN : FS X B (.Return none pos) (M.pure (.rt (.d .non))) := wkS ps_retN fun D sgq H h => by
  obtain ⟨w, s, rfl, I, h⟩ := h
  exact h w sgq .non (Ext.refl _ _) I Rl.non
def setSlot (i : Nat) (x : Val) : M Fl := fun s => .ok .nx { s with rhq := s.rhq.set i (.v x) }
def setS (i : Nat) (m : M Val) : M Fl := (fzM m).bind (setSlot i)
theorem fs_set (i : Nat) {x : Str} {pos' : Pos} (nd : X.N.Nodup) (he : FE X B e m) (hl : X.env.scope.names.lookup x = some .local ∨ X.env.scope.names.lookup x = some .cell := by first | exact Or.inl rfl | exact Or.inr rfl) (hi : X.N[i]? = some x := by rfl)
    (hs : swapsWith e (some (.Name x pos')) pos.line X.env = pure false := by rfl) (hf : X.fn x = true ∨ X.env.scope.names.lookup x = some .local := by first | exact .inl rfl | exact .inr rfl | assumption) : FS X B (.Assign [.Name x pos'] e pos) (setS i m) := by
  refine ⟨fun pins sh sgq H D J h => ?_⟩
  refine (ps_set (i := i) nd hi hl he hs hf).run pins sh sgq H D J ?_
  obtain ⟨w, s, rfl, I, h⟩ := h
  have lsgq : i < sgq.length := by rw [J.len]; exact (List.getElem?_eq_some_iff.mp hi).1
  exact tE.fzS I h fun y s' w' v e' I' r h' => h' w' _ (Ext.refl _ _) (I'.slot r lsgq)
/-! ### tests -/
theorem ft_val {e : Expr} (h : FE X B e m) (he : ∀ whole, isTrue e X.env whole = (do let v ← whole; standAt e.pos; holding [v] (truthy v)) := by intro _; rfl) : FT X B e (m.bind fun x => match x with
    | .d (.bl b) => M.pure b
    | _ => stuck) := by
  refine wkT (pt_val h he) fun sgq H Q h => ?_
  obtain ⟨w, s, rfl, I, h⟩ := h
  refine tE.first I h fun x s1 w1 v e1 I1 r1 q => ?_
  split at q
  · cases r1; exact ⟨_, rfl, q w1 (Stx.refl _ _ _) I1⟩
  · exact q.elim
def tst (x : Val) : M Bool := match x with
  | .d (.bl b) => M.pure b
  | _ => stuck
def cmpT (g : Val → Val → M Val) (ma mb : M Val) : M Bool := (op2 g ma mb).bind tst
theorem ft_cmp {op : CmpOp} {g : Val → Val → M Val} (ho : OpF X B (compareOp op) g) (ha : FE X B a ma) (hb : FE X B b mb) (hm : behindInMarks op b = false) : FT X B (.Compare a [op] [b] pos) (cmpT g ma mb) := by
  obtain ⟨r, h1, h2⟩ := ho
  refine wkT (pt_cmpR h1 ha hb hm) fun sgq H Q h => ?_
  refine tOp.of (B := B) (g := g) h2 ?_
  obtain ⟨w, s, rfl, I, h⟩ := h
  refine tE.first I h fun x s1 w1 v e1 I1 r1 q => ?_
  unfold tst at q
  split at q
  · cases r1; exact ⟨_, rfl, q w1 (Stx.refl _ _ _) I1⟩
  · exact q.elim
def notT (m : M Bool) : M Bool := m.bind fun b => M.pure (!b)
theorem ft_not (h : FT X B e mc) : FT X B (.UnaryOp .Not e pos) (notT mc) := by
  refine wkT (pt_not h) fun sgq H Q h => ?_
  obtain ⟨w, s, rfl, I, h⟩ := h
  exact tT.first I h fun x s1 w1 e1 I1 q => q w1 (Stx.refl _ _ _) I1
abbrev FW (X : Cx) (B : Base0) (e : Expr) (m : M Bool) : Prop := PW X e (tT X.K B m)
theorem wkW {t t' : TT} (h : PW X e t) (f : ∀ sgq H Q, t' sgq H Q → t sgq H Q) : PW X e t' := ⟨fun wh pins s sgq H Q I q => h.run wh pins s sgq H Q I (f sgq H Q q)⟩
def andT (m1 m2 : M Bool) : M Bool := m1.bind fun b => if b then m2 else M.pure false
def orT (m1 m2 : M Bool) : M Bool := m1.bind fun b => if b then M.pure true else m2
variable {es : List Expr} {m1 m2 : M Bool}
theorem fw_and1 (h : FT X B a m1) : FW X B (.BoolOp .And [a] pos) m1 := pw_and1 h
theorem fw_or1 (h : FT X B a m1) : FW X B (.BoolOp .Or [a] pos) m1 := pw_or1 h
theorem fw_and (h : FT X B a m1) (hb : FW X B (.BoolOp .And (b :: es) pos) m2) : FW X B (.BoolOp .And (a :: b :: es) pos) (andT m1 m2) := by
  refine wkW (pw_and h hb) fun sgq H Q h => ?_
  obtain ⟨w, s, rfl, I, h⟩ := h
  refine tT.first I h fun x s1 w1 e1 I1 q => ?_
  cases x with
  | true => exact ⟨w1, s1, rfl, I1, q⟩
  | false => exact q w1 (Stx.refl _ _ _) I1
theorem fw_or (h : FT X B a m1) (hb : FW X B (.BoolOp .Or (b :: es) pos) m2) : FW X B (.BoolOp .Or (a :: b :: es) pos) (orT m1 m2) := by
  refine wkW (pw_or h hb) fun sgq H Q h => ?_
  obtain ⟨w, s, rfl, I, h⟩ := h
  refine tT.first I h fun x s1 w1 e1 I1 q => ?_
  cases x with
  | false => exact ⟨w1, s1, rfl, I1, q⟩
  | true => exact q w1 (Stx.refl _ _ _) I1
theorem ft_w (h : FW X B e m1) : FT X B e m1 := h.pt
def ifS (c : M Bool) (m1 m2 : M Fl) : M Fl := c.bind fun b => if b then m1 else m2
theorem fs_if {sa sb : List Stmt} (hc : FT X B c mc) (ha : FSs X B sa ms) (hb : FSs X B sb mt) : FS X B (.If c sa sb pos) (ifS mc ms mt) := by
  refine wkS (ps_if hc ha hb) fun D sgq H h => ?_
  obtain ⟨w, s, rfl, I, h⟩ := h
  refine ⟨w, s, rfl, I, tE.stmt h fun x s' w' e' I' h' => ?_⟩
  cases x with
  | true => exact ⟨w', s', rfl, I', h'⟩
  | false => exact ⟨w', s', rfl, I', h'⟩
def ifE (c : M Bool) (m1 m2 : M Val) : M Val := c.bind fun b => if b then m1 else m2
theorem fe_if {m1 m2 : M Val} (hc : FT X B c mc) (ha : FE X B a m1) (hb : FE X B b m2) : FE X B (.IfExp c a b pos) (ifE mc m1 m2) := by
  refine wkE (pe_ifExp hc ha hb) fun sgq H Q h => ?_
  obtain ⟨w, s, rfl, I, h⟩ := h
  refine tT.first I h fun x s1 w1 e1 I1 q => ?_
  cases x with
  | true => exact ⟨w1, s1, rfl, I1, q⟩
  | false => exact ⟨w1, s1, rfl, I1, q⟩
/-! ### and, or, not as values, of bools -/
theorem fe_not (h : FE X B e m) : FE X B (.UnaryOp .Not e pos) ((m.bind tst).bind fun b => M.pure (.d (.bl (!b)))) := by
  refine wkE (pe_not h) fun sgq H Q h => ?_
  obtain ⟨w, s, rfl, I, h⟩ := h
  have e : (((m.bind tst).bind fun b => M.pure (Val.d (.bl (!b)))) s) = ((m s).bind fun x s => (tst x s).bind fun b => M.pure (Val.d (.bl (!b)))) := by
    show ((m s).bind tst).bind _ = _
    cases m s <;> rfl
  rw [e] at h
  refine tE.first I h fun x s1 w1 v e1 I1 r1 q => ?_
  unfold tst at q
  split at q
  · cases r1; exact ⟨_, rfl, q w1 (Stx.refl _ _ _) I1 _ (Rl.bl _)⟩
  · exact q.elim
def andV (m1 m2 : M Val) : M Val := m1.bind fun x => (tst x).bind fun b => if b then m2 else lit (.bl false)
def orV (m1 m2 : M Val) : M Val := m1.bind fun x => (tst x).bind fun b => if b then lit (.bl true) else m2
theorem tst_ok {K : PySem.W.Frag} {β : Type} {sgq : St} {w : Wd} {s : Sg} {x : Val} {v : V} {k : Bool → M β} {P : β → Sg → Wd → Prop} (r : RlS K w s.Omq.length sgq x v) (h : Endz K B w s sgq ((tst x s).bind k) P) : ∃ b, v = .bl b ∧ Endz K B w s sgq (k b s) P := by
  unfold tst at h
  split at h
  · cases r; exact ⟨_, rfl, h⟩
  · exact h.elim
theorem fe_one {op} (h : FE X B a m) : FE X B (.BoolOp op [a] pos) m := pe_one h
theorem fe_and {mx my : M Val} (ha : FE X B a mx) (hb : FE X B (.BoolOp .And (b :: es) pos) my) : FE X B (.BoolOp .And (a :: b :: es) pos) (andV mx my) := by
  refine wkE (pe_and ha hb) fun sgq H Q h => ?_
  obtain ⟨w, s, rfl, I, h⟩ := h
  refine tE.first I h fun x s1 w1 v e1 I1 r1 q => ?_
  obtain ⟨d, rfl, q⟩ := tst_ok r1 q
  refine ⟨d, rfl, ?_⟩
  cases d with
  | true => exact ⟨w1, s1, rfl, I1, q⟩
  | false => exact q w1 (Stx.refl _ _ _) I1 _ (Rl.bl _)
theorem fe_or {mx my : M Val} (ha : FE X B a mx) (hb : FE X B (.BoolOp .Or (b :: es) pos) my) : FE X B (.BoolOp .Or (a :: b :: es) pos) (orV mx my) := by
  refine wkE (pe_or ha hb) fun sgq H Q h => ?_
  obtain ⟨w, s, rfl, I, h⟩ := h
  refine tE.first I h fun x s1 w1 v e1 I1 r1 q => ?_
  obtain ⟨d, rfl, q⟩ := tst_ok r1 q
  refine ⟨d, rfl, ?_⟩
  cases d with
  | false => exact ⟨w1, s1, rfl, I1, q⟩
  | true => exact q w1 (Stx.refl _ _ _) I1 _ (Rl.bl _)
/-! ### while -/
def whileS : Nat → M Bool → M Fl → M Fl
  | 0, _, _ => stuck
  | k + 1, c, body => c.bind fun b => if b then body.bind fun f => (match f with
    | .nx => whileS k c body
    | .ct => whileS k c body
    | .bk => M.pure .nx
    | .rt x => M.pure (.rt x)) else M.pure .nx
theorem fs_while {sb : List Stmt} (po : PassesOwn (model X.prog X.w) X.A X.env X.xe) (n : Nat) (hc : FT X B c mc) (hb : FSs X B sb ms) : FS X B (.While c sb [] pos) (whileS n mc ms) := by
  refine wkS (ps_while po hc hb) fun D sgq H h => ?_
  obtain ⟨w, s, rfl, I, h⟩ := h
  refine ⟨fun k sgq H => ∃ w s, w.H = H ∧ IN X.K B w s sgq ∧ EndsS X.K B w s.Omq.length (whileS k mc ms s) D, ⟨n, w, s, rfl, I, h⟩, ?_⟩
  rintro k sgq H ⟨w, s, rfl, I, h⟩
  cases k with
  | zero => exact h.elim
  | succ k =>
    refine ⟨w, s, rfl, I, tE.stmt h fun b s' w' e' I' h' => ?_⟩
    cases b with
    | false => exact h' w' sgq (Ext.refl _ _) I'
    | true =>
      refine ⟨fun sgq H => ∃ w s, w.H = H ∧ IN X.K B w s sgq ∧ EndsS X.K B w s.Omq.length (whileS k mc ms s) D, fun sgq' H' q => ⟨k, Nat.lt_succ_self k, q⟩, ?_⟩
      refine ⟨w', s', rfl, I', ?_⟩
      have h' : EndsS X.K B w' s'.Omq.length ((ms s').bind _) D := h'
      cases q : ms s' with
      | stuck => rw [q] at h'; exact h'
      | exc x s2 => rw [q] at h'; exact h'
      | ok f s2 =>
        rw [q] at h'
        cases f with
        | nx => exact fun w2 sgq2 e2 I2 => ⟨w2, s2, rfl, I2, EndsS.start e2 h'⟩
        | ct => exact fun w2 sgq2 e2 I2 => ⟨w2, s2, rfl, I2, EndsS.start e2 h'⟩
        | bk => exact h'
        | rt x => exact h'
/-! ### targets: the slots js are stored -/
def gSet (i : Nat) : Val → M Unit := fun x s => .ok () { s with rhq := s.rhq.set i (.v x) }
def gAll : List Nat → List Val → M Unit
  | [], [] => M.pure ()
  | i :: is, x :: xs => (gSet i x).bind fun _ => gAll is xs
  | _, _ => stuck
def gTupM (is : List Nat) : Val → M Unit := fun x => match x with
  | .d (.tup xs) => gAll is (xs.map Val.d)
  | _ => stuck
inductive Tgt where
  | nm (i : Nat) | tp (is : List Nat)
def Tgt.js : Tgt → List Nat
  | .nm i => [i]
  | .tp is => is
def Tgt.g : Tgt → Val → M Unit
  | .nm i => gSet i
  | .tp is => gTupM is
theorem gAll_ok : ∀ (is : List Nat) (xs : List Val) (s : Sg), gAll is xs s = .stuck ∨ ∃ s', gAll is xs s = .ok () s' ∧ s'.Omq = s.Omq
  | [], [], s => .inr ⟨s, rfl, rfl⟩
  | [], _ :: _, _ => .inl rfl
  | _ :: _, [], _ => .inl rfl
  | i :: is, x :: xs, s => gAll_ok is xs { s with rhq := s.rhq.set i (.v x) }
theorem Tgt.ok (t : Tgt) (x : Val) (s : Sg) : t.g x s = .stuck ∨ ∃ s', t.g x s = .ok () s' ∧ s'.Omq = s.Omq := by
  cases t with
  | nm i => exact .inr ⟨_, rfl, rfl⟩
  | tp is =>
    cases x with
    | r k => exact .inl rfl
    | s i => exact .inl rfl
    | d y =>
      cases y with
      | tup xs => exact gAll_ok is _ s
      | _ => exact .inl rfl
def tG (K : PySem.W.Frag) (B : Base0) (js : List Nat) (g : Val → M Unit) : TG := fun v sgq H Q => ∃ (w : Wd) (s : Sg) (x : Val), w.H = H ∧ IN K B w s sgq ∧ RlV K w s.Omq.length x v ∧ match g x s with
  | .ok _ s' => s'.Omq = s.Omq ∧ ∀ sgq' : St, IN K B w s' sgq' → sgq'.length = sgq.length → (∀ j, j ∉ js → sgq'[j]? = sgq[j]?) → Q sgq' w.H
  | _ => False
abbrev FG (X : Cx) (B : Base0) (tg : Expr) (t : Tgt) : Prop := PG X tg (tG X.K B t.js t.g)
theorem wkG {tg : Expr} {t t' : TG} (h : PG X tg t) (f : ∀ v sgq H Q, t' v sgq H Q → t v sgq H Q) : PG X tg t' := ⟨fun pins s sgq H v u Q I r q => h.run pins s sgq H v u Q I r (f v sgq H Q q)⟩
theorem fg_name (i : Nat) {x : Str} (nd : X.N.Nodup) (hl : X.env.scope.names.lookup x = some .local ∨ X.env.scope.names.lookup x = some .cell := by first | exact Or.inl rfl | exact Or.inr rfl) (hi : X.N[i]? = some x := by rfl)
    (hf : X.fn x = true ∨ X.env.scope.names.lookup x = some .local := by first | exact .inl rfl | exact .inr rfl | assumption) : FG X B (.Name x pos) (.nm i) := by
  refine ⟨fun pins sh sgq H v u Q J r h => ?_⟩
  refine (pg_name (i := i) nd hi hl hf).run pins sh sgq H v u Q J r ?_
  obtain ⟨w, s, x, rfl, I, r, h⟩ := h
  have lsgq : i < sgq.length := by rw [J.len]; exact (List.getElem?_eq_some_iff.mp hi).1
  exact h.2 (sgq.set i (some v)) (I.slot r lsgq) (List.length_set ..) fun j hj => List.getElem?_set_ne (fun z => hj (by simp [z, Tgt.js]))
def tGs (K : PySem.W.Frag) (B : Base0) (is : List Nat) : TGs := fun vs sgq H Q => ∃ (w : Wd) (s : Sg) (xs : List Val), w.H = H ∧ IN K B w s sgq ∧ RlVs K w s.Omq.length xs vs ∧ match gAll is xs s with
  | .ok _ s' => s'.Omq = s.Omq ∧ ∀ sgq' : St, IN K B w s' sgq' → sgq'.length = sgq.length → (∀ j, j ∉ is → sgq'[j]? = sgq[j]?) → Q sgq' w.H
  | _ => False
abbrev FGs (X : Cx) (B : Base0) (tg : List Expr) (is : List Nat) : Prop := PGs X tg (tGs X.K B is)
theorem wkGs {tg : List Expr} {t t' : TGs} (h : PGs X tg t) (f : ∀ v sgq H Q, t' v sgq H Q → t v sgq H Q) : PGs X tg t' := ⟨fun pins s sgq H v u Q I r q => h.run pins s sgq H v u Q I r (f v sgq H Q q)⟩
theorem fgs_nil : FGs X B [] [] := wkGs pgs_nil fun vs sgq H Q h => by
  obtain ⟨w, s, xs, rfl, I, r, h⟩ := h
  cases xs with
  | nil => cases r; exact ⟨rfl, h.2 sgq I rfl fun _ _ => rfl⟩
  | cons x xs => exact h.elim
theorem fgs_cons {tg : Expr} {tgs : List Expr} {i : Nat} {is : List Nat} (h1 : FG X B tg (.nm i)) (h2 : FGs X B tgs is)
    (hs : (assignEach (tg :: tgs) X.env).map (·.2) = assign tg X.env :: (assignEach tgs X.env).map (·.2) := by rfl) : FGs X B (tg :: tgs) (i :: is) := by
  refine wkGs (pgs_cons h1 h2 hs) fun vs sgq H Q h => ?_
  obtain ⟨w, s, xs, rfl, I, r, h⟩ := h
  cases xs with
  | nil => exact h.elim
  | cons x xs =>
    cases r with
    | cons ra rb =>
      refine ⟨_, _, rfl, w, s, x, rfl, I, ra, rfl, fun sgq' I' l' k' => ⟨w, _, xs, rfl, I', rb, ?_⟩⟩
      have h : (match gAll is xs { s with rhq := s.rhq.set i (.v x) } with
        | .ok _ s' => s'.Omq = s.Omq ∧ ∀ sgq' : St, IN X.K B w s' sgq' → sgq'.length = sgq.length → (∀ j, j ∉ i :: is → sgq'[j]? = sgq[j]?) → Q sgq' w.H
        | _ => False) := h
      split at h
      · next s' _ =>
        refine ⟨h.1, fun sgq2 I2 l2 k2 => h.2 sgq2 I2 (l2.trans l') fun j hj => ?_⟩
        rw [k2 j (fun z => hj (List.mem_cons_of_mem _ z)), k' j (fun z => hj (by simp [Tgt.js] at z; simp [z]))]
      · exact h.elim
theorem sqT_up {K : PySem.W.Frag} {w : Wd} {Omq : List (Option Cell)} {a : Addr} {vs : List V} (S : Sim K w Omq) (h : w.F a = some (.tup vs) ∨ (vs = [] ∧ KT K a [])) : SqT K w.H a vs := by
  rcases h with h | ⟨rfl, h⟩
  · exact .inl (S.fz a _ h).rd
  · exact .inr h
theorem rdL_up {K : PySem.W.Frag} {w : Wd} {Omq : List (Option Cell)} {a : Addr} {vs : List V} (S : Sim K w Omq) (h : w.F a = some (.lst vs)) : Rd w.H a (.lst vs) := (S.fz a _ h).rd
theorem sqL_up {K : PySem.W.Frag} {w : Wd} {Omq : List (Option Cell)} {a : Addr} {vs : List V} (S : Sim K w Omq) (h : w.F a = some (.lst vs)) : SqL K w.H a vs := .inl (rdL_up S h)
theorem gAll_len : ∀ {is : List Nat} {xs : List Val} {s : Sg} {u : Unit} {s' : Sg}, gAll is xs s = .ok u s' → xs.length = is.length
  | [], [], _, _, _, _ => rfl
  | [], _ :: _, _, _, _, h => by cases h
  | _ :: _, [], _, _, _, h => by cases h
  | i :: is, x :: xs, s, u, s', h => congrArg Nat.succ (gAll_len (is := is) (xs := xs) (s := { s with rhq := s.rhq.set i (.v x) }) h)
theorem fg_tup {tgs : List Expr} {kk : Nat} {is : List Nat} (hc : X.calm = true) (h : FGs X B tgs is) (hl : (assignEach tgs X.env).length = is.length := by rfl) (hst : (assignEach tgs X.env).findIdx? (·.1) = none := by rfl) : FG X B (.Tuple tgs kk pos) (.tp is) := by
  refine wkG (pg_tup hc h hl hst) fun v sgq H Q h => ?_
  obtain ⟨w, s, x, rfl, I, r, h⟩ := h
  cases x with
  | r k => exact h.elim
  | s i => exact r.elim
  | d y =>
   cases y with
   | non | bl _ | int _ | str _ | lst _ | tupB _ | dK _ | dT _ | ins _ _ => exact h.elim
   | tup xs =>
    cases r with
    | tup ha rs =>
      rename_i a vs
      refine ⟨a, vs, rfl, sqT_up I.sim ha, ?_, w, s, xs.map Val.d, rfl, I, rls_V rs, h⟩
      have h : (match gAll is (xs.map Val.d) s with
        | .ok _ s' => s'.Omq = s.Omq ∧ ∀ sgq' : St, IN X.K B w s' sgq' → sgq'.length = sgq.length → (∀ j, j ∉ is → sgq'[j]? = sgq[j]?) → Q sgq' w.H
        | _ => False) := h
      split at h
      · next e =>
        have := gAll_len e
        rw [← rs.length]; simpa using this
      · exact h.elim
/-! ### what is walked -/
/-- J walks the items in every world behind w0 -/
def Walk (K : PySem.W.Frag) (B : Base0) (w0 : Wd) (n0 : Nat) (J : It) (items : List Val) : Prop := ∀ (w : Wd) (s : Sg) (sgq : St), Ext w0 n0 w s.Omq.length → IN K B w s sgq → ∀ i : Nat,
  (∀ x, items[i]? = some x → J.go i w.H ∧ ∀ v H', J.yld i w.H v H' → ∃ w' : Wd, w'.H = H' ∧ Stx sgq w s w' s ∧ IN K B w' s sgq ∧ RlV K w' s.Omq.length x v) ∧ (items.length = i → J.stop i w.H)
def tI (K : PySem.W.Frag) (B : Base0) (mi : M (List Val)) : TI := fun sgq H R => ∃ (w : Wd) (s : Sg), w.H = H ∧ IN K B w s sgq ∧ Endz K B w s sgq (mi s) fun items s' w' => ∀ J, Walk K B w' s'.Omq.length J items → items.length ≤ sizeLine → R J w'.H
abbrev FI (X : Cx) (B : Base0) (tg iter : Expr) (mi : M (List Val)) : Prop := PI X tg iter (tI X.K B mi)
theorem wkI {tg iter : Expr} {t t' : TI} (h : PI X tg iter t) (f : ∀ sgq H R, t' sgq H R → t sgq H R) : PI X tg iter t' := ⟨fun pins s sgq H R I q => h.run pins s sgq H R I (f sgq H R q)⟩
def loopS (f : Val → M Fl) : List Val → M Fl
  | [] => M.pure .nx
  | x :: xs => (f x).bind fun fl => match fl with
    | .nx => loopS f xs
    | .ct => loopS f xs
    | .bk => M.pure .nx
    | .rt v => M.pure (.rt v)
def forS (mi : M (List Val)) (g : Val → M Unit) (body : M Fl) : M Fl := mi.bind fun items => loopS (fun x => (g x).bind fun _ => body) items
theorem fs_for {tg iter : Expr} {sb : List Stmt} {mi : M (List Val)} {t : Tgt} (po : PassesOwn (model X.prog X.w) X.A X.env X.xe) (hc : X.calm = true) (hi : FI X B tg iter mi) (hg : FG X B tg t) (hb : FSs X B sb ms)
    (hs : ∀ x, foldedSetIterable iter X.env x = pure x := by intro _; rfl) : FS X B (.For tg iter sb [] pos) (forS mi t.g ms) := by
  refine wkS (ps_for po hc hi hg hb hs) fun D sgq H h => ?_
  obtain ⟨w, s, rfl, I, h⟩ := h
  refine ⟨w, s, rfl, I, tE.stmt h fun items s0 w0 e0 I0 h0 J wk _ => ?_⟩
  refine ⟨fun i k sgq H => ∃ w s, w.H = H ∧ IN X.K B w s sgq ∧ Ext w0 s0.Omq.length w s.Omq.length ∧ k = items.length - i ∧ i ≤ items.length ∧ EndsS X.K B w s.Omq.length (loopS (fun x => (t.g x).bind fun _ => ms) (items.drop i) s) D,
    ⟨items.length, w0, s0, rfl, I0, Ext.refl _ _, by simp, Nat.zero_le _, h0⟩, ?_⟩
  rintro i k sgq H ⟨w, s, rfl, I, ex, rfl, hi, h⟩
  obtain ⟨w1, w2⟩ := wk w s sgq ex I i
  by_cases lt : i < items.length
  · refine .inr ?_
    have ei : items[i]? = some items[i] := by simp [lt]
    obtain ⟨go, yl⟩ := w1 _ ei
    rw [List.drop_eq_getElem_cons lt] at h
    refine ⟨go, fun sgq H => ∃ w s, w.H = H ∧ IN X.K B w s sgq ∧ Ext w0 s0.Omq.length w s.Omq.length ∧ EndsS X.K B w s.Omq.length (loopS (fun x => (t.g x).bind fun _ => ms) (items.drop (i + 1)) s) D, ?_, fun v H' y => ?_⟩
    · rintro sgq' H' ⟨w', s', e', I', ex', h'⟩
      exact ⟨items.length - (i + 1), by omega, w', s', e', I', ex', rfl, lt, h'⟩
    · obtain ⟨w3, rfl, ex3, I3, r3⟩ := yl v H' y
      refine ⟨w3, s, items[i], rfl, I3, r3, ?_⟩
      have h : EndsS X.K B w s.Omq.length (((t.g items[i] s).bind fun _ => ms).bind fun fl => match fl with
        | .nx => loopS (fun x => (t.g x).bind fun _ => ms) (items.drop (i + 1))
        | .ct => loopS (fun x => (t.g x).bind fun _ => ms) (items.drop (i + 1))
        | .bk => M.pure .nx
        | .rt v => M.pure (.rt v)) D := h
      rcases t.ok items[i] s with q | ⟨s', q, qOmq⟩
      · rw [q] at h; exact h.elim
      · rw [q] at h ⊢
        refine ⟨qOmq, fun sgq' I' l' k' => ⟨w3, s', rfl, I', ?_⟩⟩
        have h : EndsS X.K B w3 s'.Omq.length ((ms s').bind _) D := EndsS.start (by rw [qOmq]; exact ex3.ext) h
        have ex' : Ext w0 s0.Omq.length w3 s'.Omq.length := by rw [qOmq]; exact ex.trans ex3.ext
        cases qq : ms s' with
        | stuck => rw [qq] at h; exact h
        | exc y s2 => rw [qq] at h; exact h
        | ok f s2 =>
          rw [qq] at h
          cases f with
          | nx => exact fun w4 sgq4 e4 I4 => ⟨w4, s2, rfl, I4, ex'.trans e4, EndsS.start e4 h⟩
          | ct => exact fun w4 sgq4 e4 I4 => ⟨w4, s2, rfl, I4, ex'.trans e4, EndsS.start e4 h⟩
          | bk => exact h
          | rt y => exact h
  · exact .inl ⟨w2 (by omega), by
      rw [List.drop_eq_nil_of_le (by omega)] at h
      exact h w sgq (Ext.refl _ _) I⟩
end
end G
set_option maxRecDepth 100000
/-! enumerate over a tuple. -/
namespace G
open PySem PySem.Spec L2
open AutoSeq1  (wpAny_loadPart')
section
open Sem (wp)
set_option maxHeartbeats 1234000 in
theorem enumT_new (t : Addr) (xs : Array Value) (n : Nat) (dd : Option Addr) (sl : Array (Option Value)) :
    Meets (Builtin.«enumerate.__new__» ⟨[.type "enumerate", .ref t], []⟩) (fun _ Rz s => s.heap.get? t = some { cls := .type "tuple", dict := dd, data := .seq xs n, slots := sl } ∧
      Rz (.ok (.ret (.ref (s.heap.push { cls := .type "tuple_iterator", data := .fields #[.ref t, .int 0 0] }).objs.size)))
        { s with heap := (s.heap.push { cls := .type "tuple_iterator", data := .fields #[.ref t, .int 0 0] }).push { cls := .type "enumerate", data := .fields #[.none, .bool false, .ref s.heap.objs.size, rawInt 0, .none, .none] } }) :=
  .of_wp fun prz w A Rz s h => by
    obtain ⟨hp, g, d, tkz, os⟩ := s
    obtain ⟨hlz, h⟩ := h
    have hsub := sub_enumerate
    have hT : Heap.IsTuple (Shared.heap ⟨hp, g, d, tkz, os⟩) t xs := ⟨_, hlz, rfl, n, rfl⟩
    wp_walk using wpAny_loadPart' hlz
    refine wpAny_stack_any fun stz => wpAny_pure ?_
    split
    · rename_i cc _ _ _ _ _
      cases (cc == Value.type "enumerate")
      · wp_walk using wpAny_loadPart' hlz, wpAny_pyIter_tuple hT
        exact ⟨_, rfl, h⟩
      · wp_walk using wpAny_loadPart' hlz, wpAny_pyIter_tuple hT
        exact ⟨_, rfl, h⟩
    · wp_walk using wpAny_loadPart' hlz, wpAny_pyIter_tuple hT
      exact ⟨_, rfl, h⟩
end
section
variable {prz : Program} {w : World} {A : Around} {Ez : Value → Shared → Prop} {s : Shared}
theorem call_enumT {t : Addr} {xs : Array Value} {Q : Value → Shared → Prop} (hT : s.heap.IsTuple t xs)
    (h : ∀ hq1, IsEnum hq1 (s.heap.objs.size + 1) s.heap.objs.size 0 .none → hq1.IsTupleIter s.heap.objs.size t 0 → hq1.objs.size = s.heap.objs.size + 2 →
      (∀ bz oz, s.heap.get? bz = some oz → hq1.get? bz = some oz) → Q (.ref (s.heap.objs.size + 1)) { s with heap := hq1 }) :
    wpAny (model prz w) A (call (.type "enumerate") [.ref t]) Q Ez s := by
  obtain ⟨⟨c, dd, dt, sl⟩, hlz, hcz, n, hdz⟩ := hT
  have hcz : c = .type "tuple" := hcz
  have hdz : dt = .seq xs n := hdz
  subst hcz; subst hdz
  refine callType_new F.called_enumerate (by decide) (F.typeCall_enumerate_1 _) (F.newCall_enumerate_1 _) (fun obj => F.args_object_init_2 obj _) F.entry_enumerate_new (enumT_new t xs n dd sl) ⟨hlz, ?_⟩
  have hzz : (s.heap.push { cls := .type "tuple_iterator", data := .fields #[.ref t, .int 0 0] }).objs.size = s.heap.objs.size + 1 := Heap.size_push ..
  show _ ∧ _
  rw [hzz]
  have hez : IsEnum ((s.heap.push { cls := .type "tuple_iterator", data := .fields #[.ref t, .int 0 0] }).push { cls := .type "enumerate", data := .fields #[.none, .bool false, .ref s.heap.objs.size, rawInt 0, .none, .none] }) (s.heap.objs.size + 1) s.heap.objs.size 0 .none := by
    have q := Heap.get?_push_size (s.heap.push { cls := .type "tuple_iterator", data := .fields #[.ref t, .int 0 0] }) (o := { cls := .type "enumerate", data := .fields #[.none, .bool false, .ref s.heap.objs.size, rawInt 0, .none, .none] }) rfl
    rw [hzz] at q; exact q
  refine ⟨⟨_, hez, rfl⟩, h _ hez ⟨_, Heap.get?_push_of_some _ (Heap.get?_push_size _ rfl), rfl, rfl⟩ (by rw [Heap.size_push, hzz]) fun bz oz x => Heap.get?_push_of_some _ (Heap.get?_push_of_some _ x)⟩
end
def IteT (K : PySem.W.Frag) (a : Addr) : It :=
  ⟨fun i H => ∃ (xs : List V) (x : V), SqT K H a xs ∧ xs[i]? = some x, fun i H v H' => ∃ T x, v = .ref T ∧ H T = none ∧ H' = upd H T (.tup [.int (i : Nat), x]) ∧ ∀ xs, SqT K H a xs → xs[i]? = some x, fun i H => ∃ xs : List V, SqT K H a xs ∧ xs.length = i⟩
theorem turn_enumT {P : Program} {w : World} {K : PySem.W.Frag} {elts : List Expr} {kk : Nat} {tpos : Pos} (a e it : Addr) :
    Turn P w K (.Tuple elts kk tpos) (IteT K a) [e, it] e (fun i h => (∃ olz, IsEnum h e it ((i : Nat) : Int) olz) ∧ h.IsTupleIter it a i ∧ e ≠ it ∧ a ≠ it ∧ e ≠ a) where
  mem := by simp
  obj := fun i h stz bz hb => by
    obtain ⟨⟨olz, hez⟩, ⟨oz, hoz, hcz, hdz⟩, _⟩ := stz
    rcases (show bz = e ∨ bz = it by simpa using hb) with zz | zz
    · rw [zz]; exact ⟨_, hez, fun v q => nomatch q⟩
    · rw [zz]; exact ⟨oz, hoz, fun v q => by rw [hdz] at q; cases q⟩
  keep := fun i h hq1 stz k => let ⟨⟨olz, hez⟩, hi, hne⟩ := stz; ⟨⟨olz, k e (by simp) _ hez⟩, hi.at fun oz q => k it (by simp) oz q, hne⟩
  item := by
    intro X hP hw hK hcz i pins s sgq H Ez I hf stz hg
    subst hP; subst hw; subst hK
    obtain ⟨⟨olz, hez⟩, hiz, hne, hai, hea⟩ := stz
    obtain ⟨xs, x, hq, hx⟩ := hg
    obtain ⟨iz, rvz, p, hzz⟩ := I.tuple hq
    have hel : e < s.heap.objs.size := Heap.lt_size hez
    have hil : it < s.heap.objs.size := by obtain ⟨_, q, _⟩ := hiz; exact Heap.lt_size q
    have hlt : i < iz.toArray.size := by
      have := (List.getElem?_eq_some_iff.mp hx).1
      simp only [List.size_toArray]
      rw [← rvz.length]; exact this
    have DD := Draws.tuple (prog := X.prog) (w := X.w) (A := X.A.in1) (I.ok.hd hcz) it a hai iz.toArray
    refine wpAny_pyNext_enum_itemD DD hez ⟨hiz, p⟩ hlt hne (by simp [hne, hea]) fun u hq1 tkz hu hoz st' hT hsx hkz => ?_
    obtain ⟨u', hu', ru⟩ := rvz.get hx
    have eu : u = u' := by
      have hu : iz.toArray[i]? = some u := hu
      simp only [List.getElem?_toArray] at hu
      rw [hu'] at hu; exact (Option.some.inj hu).symm
    subst eu
    refine ⟨_, rfl, wpAny_letOwnedTupleGo_enum (s := { s with heap := hq1, toks := tkz + 1 }) hoz fun hq2 he' sb => ?_⟩
    have hT2 : hq2.get? s.heap.objs.size = some { cls := .type "tuple", data := .seq #[.int i tkz, u] } := (sb.2 _ (Nat.ne_of_gt hel)).trans hT
    have nwz : ObjOk X.prog X.w (upd H s.heap.objs.size (.tup [.int (i : Nat), x])) hq2 s.heap.objs.size (.tup [.int (i : Nat), x]) :=
      ⟨by show 2 ≤ sizeLine; decide, [.int i tkz, u], .cons ⟨_, rfl⟩ (.cons ru .nil), ⟨_, hT2, rfl, _, rfl⟩⟩
    have J1 : Inv X pins sgq (upd H s.heap.objs.size (.tup [.int (i : Nat), x])) { s with heap := hq2, toks := tkz + 1 } :=
      I.turnedNew (ch := [e, it]) (fun bz ob hb q => (sb.2 bz (fun zz => hb (by simp [zz]))).trans (hkz bz ob (fun zz => hb (by simp [zz])) (fun zz => hb (by simp [zz])) q)) hf (Nat.le_refl _) nwz
    refine ⟨.ref s.heap.objs.size, _, J1, rfl, ⟨_, x, rfl, I.hok.fresh (Nat.le_refl _), rfl, fun ys hy => by rw [I.tuple_inj hy hq]; exact hx⟩, ⟨⟨u, ?_⟩, st'.1.at fun oz q => (sb.2 it (Ne.symm hne)).trans q, hne, hai, hea⟩, fun bz hb => ?_⟩
    · have ez1 : ((i + 1 : Nat) : Int) = (i : Int) + 1 := by omega
      rw [ez1]; exact he'
    · have hbz : bz < s.heap.objs.size := by
        rcases (show bz = e ∨ bz = it by simpa using hb) with zz | zz
        · rw [zz]; exact hel
        · rw [zz]; exact hil
      rw [upd_ne (Nat.ne_of_lt hbz)]
      exact (hf bz hb).1
  done := by
    intro X hP hw hK hcz i pins s sgq H Ez I hf stz hg
    subst hP; subst hw; subst hK
    obtain ⟨⟨olz, hez⟩, hiz, hne, hai, hea⟩ := stz
    obtain ⟨xs, hq, hx⟩ := hg
    obtain ⟨iz, rvz, p, hzz⟩ := I.tuple hq
    obtain ⟨fz0, f1, f2, f3, f4, fz5⟩ := hf it (by simp)
    have DD := Draws.tuple (prog := X.prog) (w := X.w) (A := X.A.in1) (I.ok.hd hcz) it a hai iz.toArray
    have hn : iz.toArray.size = i := by
      simp only [List.size_toArray]
      rw [← rvz.length]; exact hx
    exact wpAny_pyNext_enum_endD DD hez ⟨by rw [hn]; exact hiz, p⟩ fun hq1 eb => ⟨rfl, I.turned (t' := s.toks) (fun bz oz hb q => eb bz oz hb q) fz0 f1 f3 f4 fz5⟩
  self := fun A i s Q Ez stz h => let ⟨⟨_, hez⟩, _⟩ := stz; wpAny_pyIter_enum hez h
def iEnumT (K : PySem.W.Frag) (ta : TA) : TI := fun sgq H Rz => ta sgq H fun vs H1 => ∃ a xs, vs = [.ref a] ∧ ((SqL K H1 a xs ∧ (xs.length ≤ sizeLine → Rz (Ite K a) H1)) ∨ (SqT K H1 a xs ∧ (xs.length ≤ sizeLine → Rz (IteT K a) H1)))
open PyProof.Rows in
theorem pi_enumA {X : Cx} {e : Expr} {ta : TA} {p pos tpos : Pos} {elts : List Expr} {kk : Nat} (hm : X.mg "enumerate" = none) (ha : PA X [e] ta) (hg : Gl X "enumerate" := by rfl) (hs : starEach [e] X.env = [(false, eval e X.env)] := by rfl) :
    PI X (.Tuple elts kk tpos) (.Call (.Name "enumerate" p) [e] [] pos) (iEnumT X.K ta) := by
  refine ⟨fun pins s sgq H Rz I h => ?_⟩
  refine Call_ (ld_blt I hg hm boot_enumerate (PyProof.Rows.callWith_type1 (thn (ha.run pos pins s sgq H _ I h) fun us s1 hh => ?_) hs rfl))
  obtain ⟨vs, H1, Iz, r1, a, xs, ex, hq⟩ := hh
  subst ex
  cases r1 with
  | cons r rr =>
    cases rr
    cases r
    have fresh : ∀ bz, bz ∈ [s1.heap.objs.size + 1, s1.heap.objs.size] → FpOk X pins H1 bz := fun bz hb => by
      have lez : s1.heap.objs.size ≤ bz := by
        rcases (show bz = s1.heap.objs.size + 1 ∨ bz = s1.heap.objs.size by simpa using hb) with zz | zz
        · rw [zz]; exact Nat.le_add_right _ _
        · rw [zz]; exact Nat.le_refl _
      exact Iz.fpOk lez (Iz.hok.fresh lez)
    rcases hq with ⟨hq, q⟩ | ⟨hq, q⟩
    · obtain ⟨iz, rvz, p', hzz⟩ := Iz.list hq
      refine call_enumerate_list p'.isList fun hq1 hez hiz hsx hkz => wpAny_pyIter_enum hez ?_
      exact ⟨s1.heap.objs.size + 1, [s1.heap.objs.size + 1, s1.heap.objs.size], _, _, H1, rfl, Iz.kept (t' := s1.toks) hkz, turn_enum a (s1.heap.objs.size + 1) s1.heap.objs.size, ⟨⟨.none, hez⟩, hiz, Nat.succ_ne_self _⟩, fresh, q hzz⟩
    · obtain ⟨iz, rvz, p', hzz⟩ := Iz.tuple hq
      have al : a < s1.heap.objs.size := p'.lt
      refine call_enumT p' fun hq1 hez hiz hsx hkz => wpAny_pyIter_enum hez ?_
      exact ⟨s1.heap.objs.size + 1, [s1.heap.objs.size + 1, s1.heap.objs.size], _, _, H1, rfl, Iz.kept (t' := s1.toks) hkz, turn_enumT a (s1.heap.objs.size + 1) s1.heap.objs.size, ⟨⟨.none, hez⟩, hiz, Nat.succ_ne_self _, Nat.ne_of_lt al, Nat.ne_of_gt (Nat.lt_succ_of_lt al)⟩, fresh, q hzz⟩
end G
set_option maxRecDepth 100000
/-! What is walked; comprehensions. -/
namespace G
open PySem PySem.Spec L2
theorem Rls.get {K : PySem.W.Frag} {F : Hp} : ∀ {ds : List D} {vs : List V} {i : Nat} {x : D}, Rls K F ds vs → ds[i]? = some x → ∃ v, vs[i]? = some v ∧ Rl K F x v
  | _, _, _, _, .nil, nx => by simp at nx
  | _, _, 0, _, .cons a _, e => by simp at e; subst e; exact ⟨_, rfl, a⟩
  | _, _, i + 1, x, .cons _ b, e => by
    obtain ⟨v, h1, h2⟩ := b.get (i := i) (by simpa using e)
    exact ⟨v, by simpa using h1, h2⟩
theorem map_get {α β : Type} {f : α → β} {l : List α} {i : Nat} {y : β} (h : (l.map f)[i]? = some y) : ∃ x, l[i]? = some x ∧ f x = y := by
  rw [List.getElem?_map] at h
  cases q : l[i]? with
  | none => rw [q] at h; cases h
  | some x => rw [q] at h; exact ⟨x, rfl, Option.some.inj h⟩
section
variable {X : Cx} {B : Base0} {tg e e2 : Expr} {m ma mb : M Val} {mr : M (List Val)} {pos p : Pos}
/-- an observed sequence: frozen -/
def seqD (x : Val) : M (List Val) := match x with
  | .d (.lst xs) => M.pure (xs.map Val.d)
  | .d (.tup xs) => M.pure (xs.map Val.d)
  | _ => stuck
theorem walk_l {K : PySem.W.Frag} {w0 : Wd} {n0 : Nat} {a : Addr} {vs : List V} {xs : List D} (h : w0.F a = some (.lst vs)) (r : Rls K w0.F xs vs) : Walk K B w0 n0 (Itl K a) (xs.map Val.d) := fun w s sgq ex I i => by
  have sq : SqL K w.H a vs := sqL_up I.sim (ex.F _ _ h)
  have r' := r.mono ex.F
  refine ⟨fun x hx => ?_, fun hl => ⟨vs, sq, ?_⟩⟩
  · obtain ⟨d, hd, rfl⟩ := map_get hx
    obtain ⟨v, hv, rv⟩ := r'.get hd
    refine ⟨⟨vs, v, sq, hv⟩, fun u H' y => ?_⟩
    obtain ⟨e, y⟩ := y
    have := y vs sq
    rw [hv] at this; cases this
    exact ⟨w, e.symm, Stx.refl _ _ _, I, rv⟩
  · rw [← r.length, ← hl]; simp
theorem walk_t {K : PySem.W.Frag} {w0 : Wd} {n0 : Nat} {a : Addr} {vs : List V} {xs : List D} (h : w0.F a = some (.tup vs) ∨ (vs = [] ∧ KT K a [])) (r : Rls K w0.F xs vs) : Walk K B w0 n0 (Itt K a) (xs.map Val.d) := fun w s sgq ex I i => by
  have sq : SqT K w.H a vs := sqT_up I.sim (h.imp (ex.F _ _) id)
  have r' := r.mono ex.F
  refine ⟨fun x hx => ?_, fun hl => ⟨vs, sq, ?_⟩⟩
  · obtain ⟨d, hd, rfl⟩ := map_get hx
    obtain ⟨v, hv, rv⟩ := r'.get hd
    refine ⟨⟨vs, v, sq, hv⟩, fun u H' y => ?_⟩
    obtain ⟨e, y⟩ := y
    have := y vs sq
    rw [hv] at this; cases this
    exact ⟨w, e.symm, Stx.refl _ _ _, I, rv⟩
  · rw [← r.length, ← hl]; simp
/-- a choice between two walks -/
theorem pi_or {t u : TI} (h : PI X tg e t) (h' : PI X tg e u) : PI X tg e (fun sgq H R => t sgq H R ∨ u sgq H R) := ⟨fun pins s sgq H R I q => q.elim (h.run pins s sgq H R I) (h'.run pins s sgq H R I)⟩
/-- for x in a list or a tuple that is frozen -/
def iSeq (m : M Val) : M (List Val) := (fzM m).bind seqD
theorem tE.fzI {K : PySem.W.Frag} {sgq : St} {Q : VK} {k : Val → M (List Val)} {w : Wd} {s : Sg} {P : List Val → Sg → Wd → Prop} (I : IN K B w s sgq) (h : Endz K B w s sgq ((fzM m s).bind k) P)
    (f : ∀ x s' w' v, Stx sgq w s w' s' → IN K B w' s' sgq → RlV K w' s'.Omq.length x v → Endz K B w' s' sgq (k x s') P → Q v w'.H) : tE K B m sgq w.H Q := tE.fz I h f
theorem pi_list0 {l : Expr} {tl : TE} (hl : PE X l tl) : PI X tg l (fun sgq H R => tl sgq H fun x H1 => ∃ a, x = .ref a ∧ ((∃ xs, SqL X.K H1 a xs ∧ (xs.length ≤ sizeLine → R (Itl X.K a) H1)) ∨ ∃ xs, SqT X.K H1 a xs ∧ (xs.length ≤ sizeLine → R (Itt X.K a) H1))) := by
  refine ⟨fun pins s sgq H Rr I h => ?_⟩
  refine thn (hl.run pins s sgq H _ I h) fun v s1 hh => ?_
  obtain ⟨x, H1, I1, r1, a, rfl, q⟩ := hh
  cases r1
  have fp : ∀ b, b ∈ [s1.heap.objs.size] → FpOk X pins H1 b := fun b hb => by
    have eb : b = s1.heap.objs.size := by simpa using hb
    subst eb
    exact I1.fpOk (Nat.le_refl s1.heap.objs.size) (I1.hok.fresh (Nat.le_refl _))
  rcases q with ⟨xs, hq, q⟩ | ⟨xs, hq, q⟩
  · obtain ⟨its, rv, p, hz⟩ := I1.list hq
    refine wpAny_pyIter_list p.isList ⟨s1.heap.objs.size, [s1.heap.objs.size], _, _, H1, rfl, I1.kept (t' := s1.toks) fun b o e => Heap.get?_push_of_some _ e, turn_list a _, ⟨_, Heap.get?_push_size _ rfl, rfl, rfl⟩, fp, q hz⟩
  · obtain ⟨its, rv, p, hz⟩ := I1.tuple hq
    refine wpAny_pyIter_tuple (show s1.heap.IsTuple a its.toArray from p) ⟨s1.heap.objs.size, [s1.heap.objs.size], _, _, H1, rfl, I1.kept (t' := s1.toks) fun b o e => Heap.get?_push_of_some _ e, turn_tuple a _, ⟨_, Heap.get?_push_size _ rfl, rfl, rfl⟩, fp, q hz⟩
theorem fi_seq (h : FE X B e m) : FI X B tg e (iSeq m) := by
  refine wkI (pi_list0 h) fun sgq H R h => ?_
  obtain ⟨w, s, rfl, I, h⟩ := h
  refine tE.fz I h fun x s' w' v ex I' r q => ?_
  unfold seqD at q
  split at q
  · cases r with
    | lst ha rs => exact ⟨_, rfl, .inl ⟨_, sqL_up I'.sim ha, fun hz => q w' (Stx.refl _ _ _) I' _ (walk_l ha rs) (by rw [List.length_map, rs.length]; exact hz)⟩⟩
  · cases r with
    | tup ha rs => exact ⟨_, rfl, .inr ⟨_, sqT_up I'.sim ha, fun hz => q w' (Stx.refl _ _ _) I' _ (walk_t ha rs) (by rw [List.length_map, rs.length]; exact hz)⟩⟩
  · exact q.elim
/-! ### range -/
def rng (lo : Int) (n : Nat) : List Val := (List.range n).map fun (i : Nat) => Val.d (.int (lo + (i : Int)))
theorem walk_r {K : PySem.W.Frag} {w0 : Wd} {n0 : Nat} (lo : Int) (n : Nat) : Walk K B w0 n0 (Itr lo n) (rng lo n) := fun w s sgq ex I i => by
  refine ⟨fun x hx => ?_, fun hl => ?_⟩
  · obtain ⟨d, hd, rfl⟩ := map_get hx
    obtain ⟨h1, h2⟩ := List.getElem?_eq_some_iff.mp hd
    simp only [List.getElem_range] at h2
    subst h2
    simp only [List.length_range] at h1
    refine ⟨h1, fun u H' y => ?_⟩
    obtain ⟨e, y⟩ := y
    subst y
    exact ⟨w, e.symm, Stx.refl _ _ _, I, Rl.int _⟩
  · have : (rng lo n).length = n := by simp [rng]
    show n ≤ i
    omega
def rng1 (xs : List Val) : M (List Val) := match xs with
  | [.d (.int j)] => if -1000000 ≤ j ∧ j ≤ 1000000 then M.pure (rng 0 j.toNat) else stuck
  | _ => stuck
def rng2 (xs : List Val) : M (List Val) := match xs with
  | [.d (.int i), .d (.int j)] => if (-1000000 ≤ i ∧ i ≤ 1000000) ∧ -1000000 ≤ j ∧ j ≤ 1000000 then M.pure (rng i (j - i).toNat) else stuck
  | _ => stuck
theorem fi_range1 (hm : X.mg "range" = none) (ha : FA X B [e] mr) (hg : Gl X "range" := by rfl) (hs : starEach [e] X.env = [(false, eval e X.env)] := by rfl) : FI X B tg (.Call (.Name "range" p) [e] [] pos) (mr.bind rng1) := by
  refine wkI (pi_range1 hg hm ha hs) fun sgq H R h => ?_
  obtain ⟨w, s, rfl, I, h⟩ := h
  refine tA.first I h fun xs s' w' vs ex I' r q => ?_
  unfold rng1 at q
  split at q
  · next j =>
    split at q
    · next hj =>
      cases r with
      | cons r1 r2 =>
        cases r2; cases r1
        exact ⟨j, rfl, by omega, by omega, q w' (Stx.refl _ _ _) I' _ (walk_r 0 _) (by simp only [rng, List.length_map, List.length_range]; rw [sizeLine_eq]; omega)⟩
    · exact q.elim
  · exact q.elim
theorem fi_range2 (hm : X.mg "range" = none) (ha : FA X B [e, e2] mr) (hg : Gl X "range" := by rfl) (hs : starEach [e, e2] X.env = [(false, eval e X.env), (false, eval e2 X.env)] := by rfl) (hs2 : starEach [e2] X.env = [(false, eval e2 X.env)] := by rfl) : FI X B tg (.Call (.Name "range" p) [e, e2] [] pos) (mr.bind rng2) := by
  refine wkI (pi_range2 hg hm ha hs hs2) fun sgq H R h => ?_
  obtain ⟨w, s, rfl, I, h⟩ := h
  refine tA.first I h fun xs s' w' vs ex I' r q => ?_
  unfold rng2 at q
  split at q
  · next i j =>
    split at q
    · next hj =>
      cases r with
      | cons r1 r2 =>
        cases r2 with
        | cons r2 r3 =>
          cases r3; cases r1; cases r2
          exact ⟨i, j, rfl, ⟨by omega, by omega, by omega, by omega⟩, q w' (Stx.refl _ _ _) I' _ (walk_r i _) (by simp only [rng, List.length_map, List.length_range]; rw [sizeLine_eq]; omega)⟩
    · exact q.elim
  · exact q.elim
/-! ### a text, sign by sign -/
def signs (x : Str) : List Val := x.cps.toList.map fun c => Val.d (.str ⟨#[c]⟩)
theorem walk_s {K : PySem.W.Frag} {w0 : Wd} {n0 : Nat} (z : Str) : Walk K B w0 n0 (Its z) (signs z) := fun w s sgq ex I i => by
  refine ⟨fun x hx => ?_, fun hl => ?_⟩
  · obtain ⟨c, hc, rfl⟩ := map_get hx
    rw [Array.getElem?_toList] at hc
    obtain ⟨h1, h2⟩ := Array.getElem?_eq_some_iff.mp hc
    refine ⟨h1, fun u H' y => ?_⟩
    obtain ⟨e, c', hc', y⟩ := y
    subst y
    rw [hc] at hc'; cases hc'
    exact ⟨w, e.symm, Stx.refl _ _ _, I, Rl.str _⟩
  · have : (signs z).length = z.cps.size := by simp [signs]
    show z.cps.size ≤ i
    omega
def strD (x : Val) : M (List Val) := match x with
  | .d (.str z) => if z.cps.size ≤ 1000000 then M.pure (signs z) else stuck
  | _ => stuck
theorem fi_str (h : FE X B e m) : FI X B tg e (m.bind strD) := by
  refine wkI (pi_str h) fun sgq H R h => ?_
  obtain ⟨w, s, rfl, I, h⟩ := h
  refine tE.first I h fun x s' w' v ex I' r q => ?_
  unfold strD at q
  split at q
  · split at q
    · next hz => cases r; exact ⟨_, rfl, q w' (Stx.refl _ _ _) I' _ (walk_s _) (by simp only [signs, List.length_map, Array.length_toList]; rw [sizeLine_eq]; omega)⟩
    · exact q.elim
  · exact q.elim
/-! ### enumerate, zip: new pairs -/
def enumL (xs : List D) : List Val := xs.zipIdx.map fun p => Val.d (.tup [.int (p.2 : Nat), p.1])
theorem enumL_get {xs : List D} {i : Nat} {y : Val} (h : (enumL xs)[i]? = some y) : ∃ d, xs[i]? = some d ∧ y = .d (.tup [.int (i : Nat), d]) := by
  obtain ⟨p, hp, rfl⟩ := map_get h
  rw [List.getElem?_zipIdx] at hp
  cases q : xs[i]? with
  | none => rw [q] at hp; cases hp
  | some d => rw [q] at hp; simp at hp; subst hp; exact ⟨d, rfl, rfl⟩
/-- a new pair in a turn -/
theorem new_pair {K : PySem.W.Frag} {w : Wd} {s : Sg} {sgq : St} {T : Addr} {vs : List V} {ds : List D} (I : IN K B w s sgq) (hT : w.H T = none) (r : Rls K w.F ds vs) :
    ∃ w' : Wd, w'.H = upd w.H T (.tup vs) ∧ Stx sgq w s w' s ∧ IN K B w' s sgq ∧ RlV K w' s.Omq.length (.d (.tup ds)) (.ref T) := by
  obtain ⟨J, ex⟩ := I.frz (o := .tup vs) hT
  exact ⟨w.frz T (.tup vs), rfl, ex, J, Rl.tup (.inl upd_same) (r.mono ex.ext.F)⟩
theorem walk_el {K : PySem.W.Frag} {w0 : Wd} {n0 : Nat} {a : Addr} {vs : List V} {xs : List D} (h : w0.F a = some (.lst vs)) (r : Rls K w0.F xs vs) : Walk K B w0 n0 (Ite K a) (enumL xs) := fun w s sgq ex I i => by
  have sq : SqL K w.H a vs := sqL_up I.sim (ex.F _ _ h)
  have r' := r.mono ex.F
  refine ⟨fun x hx => ?_, fun hl => ⟨vs, sq, ?_⟩⟩
  · obtain ⟨d, hd, rfl⟩ := enumL_get hx
    obtain ⟨v, hv, rv⟩ := r'.get hd
    refine ⟨⟨vs, v, sq, hv⟩, fun u H' y => ?_⟩
    obtain ⟨T, z, rfl, hT, rfl, y⟩ := y
    have := y vs sq
    rw [hv] at this; cases this
    exact new_pair I hT (.cons (.int _) (.cons rv .nil))
  · have : (enumL xs).length = xs.length := by simp [enumL]
    rw [← r.length]; omega
theorem walk_et {K : PySem.W.Frag} {w0 : Wd} {n0 : Nat} {a : Addr} {vs : List V} {xs : List D} (h : w0.F a = some (.tup vs) ∨ (vs = [] ∧ KT K a [])) (r : Rls K w0.F xs vs) : Walk K B w0 n0 (IteT K a) (enumL xs) := fun w s sgq ex I i => by
  have sq : SqT K w.H a vs := sqT_up I.sim (h.imp (ex.F _ _) id)
  have r' := r.mono ex.F
  refine ⟨fun x hx => ?_, fun hl => ⟨vs, sq, ?_⟩⟩
  · obtain ⟨d, hd, rfl⟩ := enumL_get hx
    obtain ⟨v, hv, rv⟩ := r'.get hd
    refine ⟨⟨vs, v, sq, hv⟩, fun u H' y => ?_⟩
    obtain ⟨T, z, rfl, hT, rfl, y⟩ := y
    have := y vs sq
    rw [hv] at this; cases this
    exact new_pair I hT (.cons (.int _) (.cons rv .nil))
  · have : (enumL xs).length = xs.length := by simp [enumL]
    rw [← r.length]; omega
def enumD (xs : List Val) : M (List Val) := match xs with
  | [.d (.lst ds)] => M.pure (enumL ds)
  | [.d (.tup ds)] => M.pure (enumL ds)
  | _ => stuck
theorem fi_enum {elts : List Expr} {kk : Nat} {tpos : Pos} (hm : X.mg "enumerate" = none) (ha : FAp X B [e] mr) (hg : Gl X "enumerate" := by rfl) (hs : starEach [e] X.env = [(false, eval e X.env)] := by rfl) :
    FI X B (.Tuple elts kk tpos) (.Call (.Name "enumerate" p) [e] [] pos) (mr.bind enumD) := by
  refine wkI (pi_enumA hm ha hg hs) fun sgq H R h => ?_
  obtain ⟨w, s, rfl, I, h⟩ := h
  refine tAp.first I h fun xs s' w' vs ex I' r q => ?_
  unfold enumD at q
  split at q
  · cases r with
    | cons r1 r2 =>
      cases r2
      cases r1 with
      | lst ha rs => exact ⟨_, _, rfl, .inl ⟨sqL_up I'.sim ha, fun hz => q w' (Stx.refl _ _ _) I' _ (walk_el ha rs) (by simp only [enumL, List.length_map, List.length_zipIdx]; rw [rs.length]; exact hz)⟩⟩
  · cases r with
    | cons r1 r2 =>
      cases r2
      cases r1 with
      | tup ha rs => exact ⟨_, _, rfl, .inr ⟨sqT_up I'.sim ha, fun hz => q w' (Stx.refl _ _ _) I' _ (walk_et ha rs) (by simp only [enumL, List.length_map, List.length_zipIdx]; rw [rs.length]; exact hz)⟩⟩
  · exact q.elim
end
end G
set_option maxRecDepth 100000
/-! Comprehensions. -/
namespace G
open PySem PySem.Spec L2
/-- the slots js hold nothing -/
def wipeR (rhq : List Slot) : List Nat → List Slot
  | [] => rhq
  | j :: js => (wipeR rhq js).set j .no
/-- the slots js as they stood in rhq0 -/
def backR (rhq0 rhq : List Slot) : List Nat → List Slot
  | [] => rhq
  | j :: js => (backR rhq0 rhq js).set j (rhq0.getD j .no)
def noAcc (rhq : List Slot) (js : List Nat) : Bool := js.all fun j => match rhq[j]? with
  | some (.acc _) => false
  | _ => true
def valD (x : Val) : M D := match x with
  | .d d => M.pure d
  | _ => stuck
def compL (js : List Nat) (t : Tgt) (mc : M Bool) (me : M Val) : List Val → M (List D)
  | [] => M.pure []
  | x :: xs => fun s => (t.g x { s with rhq := wipeR s.rhq js }).bind fun _ => mc.bind fun b => if b then (fzM me).bind fun y => (valD y).bind fun d => (compL js t mc me xs).bind fun ds => M.pure (d :: ds) else compL js t mc me xs
def compM (mi : M (List Val)) (js : List Nat) (t : Tgt) (mc : M Bool) (me : M Val) : M Val := mi.bind fun items s => if noAcc s.rhq js = true then (match compL js t mc me items s with
  | .ok ds s' => .ok (.d (.lst ds)) { s' with rhq := backR s.rhq (wipeR s'.rhq js) js }
  | _ => .stuck) else .stuck
abbrev Base0.nox (B : Base0) : Base0 := { B with W := fun _ _ _ _ => False }
theorem wipeR_len (rhq : List Slot) : ∀ js, (wipeR rhq js).length = rhq.length
  | [] => rfl
  | j :: js => by simp [wipeR, wipeR_len rhq js]
theorem backR_len (rhq0 rhq : List Slot) : ∀ js, (backR rhq0 rhq js).length = rhq.length
  | [] => rfl
  | j :: js => by simp [backR, backR_len rhq0 rhq js]
theorem backR_get {rhq0 rhq : List Slot} {i : Nat} {x : Slot} : ∀ {js : List Nat}, (backR rhq0 rhq js)[i]? = some x → (i ∈ js ∧ x = rhq0.getD i .no) ∨ (i ∉ js ∧ rhq[i]? = some x)
  | [], h => .inr ⟨by simp, h⟩
  | j :: js, h => by
    unfold backR at h
    by_cases hj : j = i
    · subst hj
      rw [List.getElem?_set] at h
      simp only [if_true] at h
      split at h
      · exact .inl ⟨by simp, (Option.some.inj h).symm⟩
      · cases h
    · rw [List.getElem?_set_ne hj] at h
      rcases backR_get h with ⟨h1, h2⟩ | ⟨h1, h2⟩
      · exact .inl ⟨by simp [h1], h2⟩
      · exact .inr ⟨by simp [h1, Ne.symm hj], h2⟩
section
variable {K : PySem.W.Frag} {w0 w : Wd} {Omq0 : List (Option Cell)} {s : Sg} {sgq sgq2 : St}
theorem Ins.wipe (I : Ins K w0 Omq0 w s sgq) : ∀ {js : List Nat}, (∀ j ∈ js, j < sgq.length) → Ins K w0 Omq0 w { s with rhq := wipeR s.rhq js } (wipe sgq js)
  | [], _ => I
  | j :: js, h => (Ins.wipe I (js := js) fun k hk => h k (List.mem_cons_of_mem _ hk)).drop (by rw [wipe_length]; exact h j (by simp))
theorem wipe_out' {sgq : St} {i : Nat} : ∀ {vs : List Nat}, i ∉ vs → (wipe sgq vs)[i]? = sgq[i]?
  | [], _ => rfl
  | v :: vs, h => by
    unfold wipe
    rw [List.getElem?_set_ne (fun z => h (by simp [z])), wipe_out' fun z => h (List.mem_cons_of_mem _ z)]
theorem wipe_in {sgq : St} {i : Nat} : ∀ {vs : List Nat}, i ∈ vs → i < sgq.length → (wipe sgq vs)[i]? = some none
  | v :: vs, h, hl => by
    unfold wipe
    by_cases hv : v = i
    · subst hv; rw [List.getElem?_set_self (by rw [wipe_length]; exact hl)]
    · rw [List.getElem?_set_ne hv]
      exact wipe_in (by simpa [Ne.symm hv] using h) hl
theorem wipe_eq {sgq sgq' : St} {vs : List Nat} (hl : sgq'.length = sgq.length) (h : ∀ j, j ∉ vs → sgq'[j]? = sgq[j]?) : L2.wipe sgq' vs = L2.wipe sgq vs := by
  apply List.ext_getElem?
  intro i
  by_cases hi : i ∈ vs
  · by_cases hb : i < sgq.length
    · rw [wipe_in hi hb, wipe_in hi (by rw [hl]; exact hb)]
    · rw [List.getElem?_eq_none (by rw [wipe_length, hl]; omega), List.getElem?_eq_none (by rw [wipe_length]; omega)]
  · rw [wipe_out' hi, wipe_out' hi]; exact h i hi
theorem wipe_wipe {sgq : St} {vs : List Nat} : L2.wipe (L2.wipe sgq vs) vs = L2.wipe sgq vs := wipe_eq (wipe_length ..) fun j hj => wipe_out' hj
/-- the comprehension is left: its slots stand as before -/
theorem Ins.back {s0 : Sg} {wA : Wd} {js : List Nat} (I0 : Ins K w0 Omq0 wA s0 sgq) (hn : noAcc s0.rhq js = true) (ex : Ext wA s0.Omq.length w s.Omq.length) (I : Ins K w0 Omq0 w s (L2.wipe sgq js)) :
    Ins K w0 Omq0 w { s with rhq := backR s0.rhq s.rhq js } sgq := by
  have acc0 : ∀ {i : Nat} {c : Cell}, i ∈ js → s0.rhq.getD i .no = .acc c → False := fun {i c} hi e => by
    have q := List.all_eq_true.mp hn i hi
    rw [List.getD_eq_getElem?_getD] at e
    cases z : s0.rhq[i]? with
    | none => rw [z] at e; cases e
    | some y =>
      rw [z] at e q
      have e : y = .acc c := e
      subst e; cases q
  refine ⟨I.sim, I.stp, ?_, fun i x e => ?_, fun i c e => ?_, fun i j c c' a e e' q q' => ?_⟩
  · show (backR s0.rhq s.rhq js).length = _
    rw [backR_len, I.len, wipe_length]
  · rcases backR_get e with ⟨h1, h2⟩ | ⟨h1, h2⟩
    · rw [List.getD_eq_getElem?_getD] at h2
      cases z : s0.rhq[i]? with
      | none => rw [z] at h2; cases h2
      | some y =>
        rw [z] at h2
        have h2 : Slot.v x = y := h2
        subst h2
        obtain ⟨v, e1, r⟩ := I0.val i x z
        exact ⟨v, e1, r.ext ex⟩
    · obtain ⟨v, e1, r⟩ := I.val i x h2
      rw [wipe_out' h1] at e1
      exact ⟨v, e1, r⟩
  · rcases backR_get e with ⟨h1, h2⟩ | ⟨h1, h2⟩
    · exact (acc0 h1 h2.symm).elim
    · obtain ⟨a, e1, r⟩ := I.acc i c h2
      rw [wipe_out' h1] at e1
      exact ⟨a, e1, r⟩
  · rcases backR_get e with ⟨h1, h2⟩ | ⟨h1, h2⟩
    · exact (acc0 h1 h2.symm).elim
    · rcases backR_get e' with ⟨h1', h2'⟩ | ⟨h1', h2'⟩
      · exact (acc0 h1' h2'.symm).elim
      · exact I.dis i j c c' a h2 h2' (by rw [wipe_out' h1]; exact q) (by rw [wipe_out' h1']; exact q')
end
theorem wipeR_acc {rhq : List Slot} {i : Nat} {c : Cell} : ∀ {js : List Nat}, (wipeR rhq js)[i]? = some (Slot.acc c) → i ∉ js ∧ rhq[i]? = some (Slot.acc c)
  | [], h => ⟨by simp, h⟩
  | j :: js, h => by
    unfold wipeR at h
    by_cases hj : j = i
    · subst hj
      rw [List.getElem?_set] at h
      simp only [if_true] at h
      split at h
      · cases h
      · cases h
    · rw [List.getElem?_set_ne hj] at h
      obtain ⟨h1, h2⟩ := wipeR_acc h
      exact ⟨by simp [h1, Ne.symm hj], h2⟩
theorem set_acc {rhq : List Slot} {i j : Nat} {x : Val} {c : Cell} (h : (rhq.set j (.v x))[i]? = some (Slot.acc c)) : i ≠ j ∧ rhq[i]? = some (Slot.acc c) := by
  by_cases hj : j = i
  · subst hj
    rw [List.getElem?_set] at h
    simp only [if_true] at h
    split at h <;> cases h
  · rw [List.getElem?_set_ne hj] at h; exact ⟨Ne.symm hj, h⟩
theorem gAll_acc : ∀ {is : List Nat} {xs : List Val} {s s' : Sg} {u : Unit} {i : Nat} {c : Cell}, gAll is xs s = .ok u s' → s'.rhq[i]? = some (Slot.acc c) → i ∉ is ∧ s.rhq[i]? = some (Slot.acc c)
  | [], [], s, s', u, i, c, h, e => by cases h; exact ⟨by simp, e⟩
  | [], _ :: _, _, _, _, _, _, h, _ => by cases h
  | _ :: _, [], _, _, _, _, _, h, _ => by cases h
  | j :: is, x :: xs, s, s', u, i, c, h, e => by
    obtain ⟨h1, h2⟩ := gAll_acc (is := is) (xs := xs) (s := { s with rhq := s.rhq.set j (.v x) }) h e
    obtain ⟨h3, h4⟩ := set_acc h2
    exact ⟨by simp [h1, h3], h4⟩
theorem Tgt.acc {t : Tgt} {x : Val} {s s' : Sg} {u : Unit} {i : Nat} {c : Cell} (h : t.g x s = .ok u s') (e : s'.rhq[i]? = some (Slot.acc c)) : i ∉ t.js ∧ s.rhq[i]? = some (Slot.acc c) := by
  cases t with
  | nm j =>
    cases h
    obtain ⟨h3, h4⟩ := set_acc e
    exact ⟨by simp [Tgt.js, h3], h4⟩
  | tp is =>
    cases x with
    | r k => cases h
    | s i => cases h
    | d y =>
      cases y with
      | tup xs => exact gAll_acc h e
      | _ => cases h
section
variable {K : PySem.W.Frag} {w0 w : Wd} {Omq0 : List (Option Cell)} {s : Sg} {sgq : St} {L : Addr} {o o' : HO}
/-- a thing that is nobody's is changed -/
theorem Ins.free_put (I : Ins K w0 Omq0 w s sgq) (fr : Free w s sgq L) (n0 : w0.H L = none) : Ins K w0 Omq0 { w with H := upd w.H L o } s sgq := by
  have ex : Ext w s.Omq.length { w with H := upd w.H L o } s.Omq.length := ⟨Sub.refl _, Nat.le_refl _, fun _ _ => rfl⟩
  refine ⟨⟨fun a u e => ?_, fun n c e => ?_, I.sim.inj⟩, ⟨I.stp.ext.trans ex, fun a u e q => ?_, fun a e => I.stp.dom a (upd_dom e), fun a u o' ef e => (upd_ne (fun z => by rw [z, n0] at e; cases e)).trans (I.stp.fk a u o' ef e)⟩, I.len, fun i x e => ?_, fun i c e => ?_, I.dis⟩
  · have e : w.F a = some u := e
    have na : a ≠ L := fun z => by rw [z, fr.1.1] at e; cases e
    exact (I.sim.fz a u e).imp (fun q => (upd_ne na).trans q) fun ⟨l, ob, q⟩ => ⟨l, ob, (upd_ne na).trans q⟩
  · obtain ⟨u, q, f, r⟩ := I.sim.cell n c e
    exact ⟨u, (upd_ne (fr.1.2 n c e)).trans q, f, r.ext ex⟩
  · obtain ⟨h1, h2⟩ := I.stp.keep a u e q
    exact ⟨(upd_ne (fun z => by rw [z, n0] at e; cases e)).trans h1, h2⟩
  · obtain ⟨v, e1, r⟩ := I.val i x e
    exact ⟨v, e1, r.ext ex⟩
  · obtain ⟨a, e1, ⟨u, q, r⟩, al, nw⟩ := I.acc i c e
    exact ⟨a, e1, ⟨u, (upd_ne (fun z => fr.2 i c e (by rw [e1, z]))).trans q, r.ext ex⟩, al, nw⟩
theorem Ins.free_ice (I : Ins K w0 Omq0 w s sgq) (fr : Free w s sgq L) (n0 : w0.H L = none) (ho : w.H L = some o) : Ins K w0 Omq0 (w.ice L o) s sgq ∧ Ext w s.Omq.length (w.ice L o) s.Omq.length := by
  have ex : Ext w s.Omq.length (w.ice L o) s.Omq.length := ⟨Sub.upd fr.1.1, Nat.le_refl _, fun _ _ => rfl⟩
  have nF : ∀ b, b ≠ L → (w.ice L o).F b = w.F b := fun b hb => upd_ne hb
  refine ⟨⟨⟨fun a u e => ?_, fun n c e => ?_, I.sim.inj⟩, ⟨I.stp.ext.trans ex, fun a u e q => ?_, fun a e => I.stp.dom a e, I.stp.fk⟩, I.len, fun i x e => ?_, fun i c e => ?_, I.dis⟩, ex⟩
  · by_cases ha : a = L
    · subst ha
      have : (w.ice a o).F a = some o := upd_same
      rw [this] at e; cases e
      exact .inl ho
    · rw [nF a ha] at e; exact I.sim.fz a u e
  · obtain ⟨u, q, f, r⟩ := I.sim.cell n c e
    exact ⟨u, q, by rw [show (w.ice L o).muq n = w.muq n from rfl, nF _ (fr.1.2 n c e)]; exact f, r.ext ex⟩
  · obtain ⟨h1, h2⟩ := I.stp.keep a u e q
    exact ⟨h1, by rw [nF a (fun z => by rw [z, n0] at e; cases e)]; exact h2.1, h2.2⟩
  · obtain ⟨v, e1, r⟩ := I.val i x e
    exact ⟨v, e1, r.ext ex⟩
  · obtain ⟨a, e1, ⟨u, q, r⟩, al, nw⟩ := I.acc i c e
    exact ⟨a, e1, ⟨u, q, r.ext ex⟩, ⟨by rw [nF a (fun z => fr.2 i c e (by rw [e1, z]))]; exact al.1, al.2⟩, nw⟩
end
theorem Rls.snoc {K : PySem.W.Frag} {F : Hp} {x : D} {v : V} : ∀ {ds : List D} {vs : List V}, Rls K F ds vs → Rl K F x v → Rls K F (ds ++ [x]) (vs ++ [v])
  | _, _, .nil, r => .cons r .nil
  | _, _, .cons a b, r => .cons a (b.snoc r)
/-- the block's run: what is told of it (no exception leaves) -/
abbrev PTm (X : Cx) (B : Base0) (ifs : List Expr) (mc : M Bool) : Prop := PTs X ifs (tT X.K B mc)
theorem pt_nil {X : Cx} {B : Base0} : PTm X B [] (M.pure true) := ⟨fun pins s sgq H Q I h => pts_nil.run pins s sgq H Q I (by
  obtain ⟨w, s, rfl, I, h⟩ := h
  exact h w (Stx.refl _ _ _) I)⟩
theorem pt_one {X : Cx} {B : Base0} {c : Expr} {mc : M Bool} (h : FT X B c mc) : PTm X B [c] mc := pts_one h
section
variable {X : Cx} {B : Base0} {elt tg iter : Expr} {ifs : List Expr} {scope : Scope} {own : List (Str × Nat)} {pos : Pos} {mi : M (List Val)} {t : Tgt} {mc : M Bool} {me : M Val}
/-- the heart: from the run to the reading -/
theorem tLc.of {js : List Nat} {sgq : St} {H : Hp} {Q : VK} (hjs : ∀ j ∈ js, j < sgq.length) (htj : ∀ j ∈ t.js, j ∈ js) (h : tE X.K B (compM mi js t mc me) sgq H Q) :
    tLc (tI X.K B mi) (tG X.K B.nox t.js t.g) (tT X.K B.nox mc) (tE X.K B.nox me) js sgq H Q := by
  obtain ⟨w, s, rfl, I, h⟩ := h
  refine ⟨w, s, rfl, I, (Endz.bind h).mono fun items s0 w0 e0 I0 h0 J wk slen L hD => ?_⟩
  have hn : noAcc s0.rhq js = true := by
    by_cases q : noAcc s0.rhq js = true
    · exact q
    · simp only [if_neg q] at h0; exact h0.elim
  simp only [if_pos hn] at h0
  obtain ⟨I1, st1⟩ := I0.grow (H' := upd w0.H L (.lst [])) (Sub.upd hD)
  have nL : B.w0.H L = none := I0.stp.dom L hD
  have fr1 : Free { w0 with H := upd w0.H L (.lst []) } s0 sgq L := ⟨⟨I0.sim.free hD, I0.sim.nocell hD⟩, fun i c e q => by
    obtain ⟨a, e1, ⟨o, ho, _⟩, _⟩ := I0.acc i c e
    rw [q] at e1; cases e1
    rw [hD] at ho; cases ho⟩
  have freeW : ∀ {a : Addr} {w : Wd} {s : Sg} {sgq' : St}, Free w s sgq' a → (∀ j, j ∉ js → sgq'[j]? = (L2.wipe sgq js)[j]?) → Free w { s with rhq := wipeR s.rhq js } (L2.wipe sgq js) a := fun {a w s sgq'} fr k => ⟨fr.1, fun i c e => by
    obtain ⟨h1, h2⟩ := wipeR_acc e
    rw [← k i h1]; exact fr.2 i c h2⟩
  let Rest : Nat → Hp → Prop := fun i H => ∃ (w : Wd) (s : Sg) (ds : List D) (vs : List V), w.H = H ∧ IN X.K B w { s with rhq := wipeR s.rhq js } (L2.wipe sgq js) ∧ Ext w0 s0.Omq.length w s.Omq.length ∧ i ≤ items.length ∧
    w.H L = some (.lst vs) ∧ Free w { s with rhq := wipeR s.rhq js } (L2.wipe sgq js) L ∧ Rls X.K w.F ds vs ∧ ds.length ≤ i ∧
    (∀ a o, w0.H a = some o → Free w0 s0 sgq a → w.H a = some o ∧ Free w { s with rhq := wipeR s.rhq js } (L2.wipe sgq js) a) ∧ (∀ a, w.H a = none → w0.H a = none) ∧ (∀ a u o, w0.F a = some u → w0.H a = some o → w.H a = some o) ∧
    ∃ es s', compL js t mc me (items.drop i) s = .ok es s' ∧ EndsV X.K B w0 s0 sgq (.ok (.d (.lst (ds ++ es))) { s' with rhq := backR s0.rhq (wipeR s'.rhq js) js }) Q
  refine ⟨fun i k H => k = items.length - i ∧ Rest i H, ⟨items.length, by simp, ?_⟩, ?_⟩
  · refine ⟨{ w0 with H := upd w0.H L (.lst []) }, s0, [], [], rfl, I1.wipe hjs, st1.ext, Nat.zero_le _, upd_same, freeW fr1 (fun j hj => (wipe_out' hj).symm), .nil, Nat.zero_le _, fun a o e fr => ?_, fun a e => upd_dom e, fun a u o _ e => (upd_ne (fun z => by rw [z, hD] at e; cases e)).trans e, ?_⟩
    · obtain ⟨k1, k2⟩ := st1.keep a o e fr
      exact ⟨k1, freeW k2 (fun j hj => (wipe_out' hj).symm)⟩
    · split at h0
      · next ds s' q => exact ⟨ds, s', q, h0⟩
      · exact h0.elim
  · rintro i k H ⟨rfl, w, s, ds, vs, rfl, I, ex, hi, hL, fr, rs, dl, kp, dm, fq, es, s', run, fin⟩
    obtain ⟨w1, w2⟩ := wk w { s with rhq := wipeR s.rhq js } (L2.wipe sgq js) ex I i
    by_cases lt : i < items.length
    · refine .inr ?_
      have ei : items[i]? = some items[i] := by simp [lt]
      obtain ⟨go, yl⟩ := w1 _ ei
      rw [List.drop_eq_getElem_cons lt] at run
      refine ⟨go, Rest (i + 1), fun H' q => ⟨items.length - (i + 1), by omega, rfl, q⟩, fun v H' y => ?_⟩
      obtain ⟨w3, rfl, st3, I3, r3⟩ := yl v H' y
      have run : ((t.g items[i] { s with rhq := wipeR s.rhq js }).bind fun _ => mc.bind fun b => if b then (fzM me).bind fun y => (valD y).bind fun d => (compL js t mc me (items.drop (i + 1))).bind fun ds => M.pure (d :: ds) else compL js t mc me (items.drop (i + 1))) = .ok es s' := run
      refine ⟨w3, { s with rhq := wipeR s.rhq js }, items[i], rfl, I3, r3, ?_⟩
      rcases t.ok items[i] { s with rhq := wipeR s.rhq js } with q | ⟨s4, q, qOmq⟩
      · rw [q] at run; cases run
      · rw [q] at run ⊢
        refine ⟨qOmq, fun sgq4 I4 l4 k4 => ?_⟩
        have k4' : ∀ j, j ∉ js → sgq4[j]? = (L2.wipe sgq js)[j]? := fun j hj => k4 j fun z => hj (htj j z)
        have wq : L2.wipe sgq4 js = L2.wipe sgq js := (wipe_eq l4 k4').trans wipe_wipe
        have lsgq4 : ∀ j ∈ js, j < sgq4.length := fun j hj => by rw [l4, wipe_length]; exact hjs j hj
        -- what is nobody's, from the turn's start to behind the target
        have c4 : ∀ a o, w.H a = some o → Free w { s with rhq := wipeR s.rhq js } (L2.wipe sgq js) a → w3.H a = some o ∧ Free w3 s4 sgq4 a := fun a o e fra => by
          obtain ⟨p1, p2⟩ := st3.keep a o e fra
          refine ⟨p1, ⟨by rw [qOmq]; exact p2.1, fun j c hj => ?_⟩⟩
          obtain ⟨n1, n2⟩ := Tgt.acc q hj
          rw [k4 j n1]; exact p2.2 j c n2
        have ex3 : Ext w0 s0.Omq.length w3 s4.Omq.length := by rw [qOmq]; exact ex.trans st3.ext
        have dm3 : ∀ a, w3.H a = none → w0.H a = none := fun a e => dm a (st3.dom a e)
        have run : ((mc s4).bind fun b => if b then (fzM me).bind fun y => (valD y).bind fun d => (compL js t mc me (items.drop (i + 1))).bind fun ds => M.pure (d :: ds) else compL js t mc me (items.drop (i + 1))) = .ok es s' := run
        refine ⟨wq, w3, s4, rfl, I4, ?_⟩
        cases qm : mc s4 with
        | stuck => rw [qm] at run; cases run
        | exc x s5 => rw [qm] at run; cases run
        | ok b s5 =>
          rw [qm] at run
          intro w5 st5 I5
          have I5 : IN X.K B w5 s5 sgq4 := I5
          obtain ⟨L3, F3⟩ := c4 L _ hL fr
          obtain ⟨L5, F5⟩ := st5.keep L _ L3 F3
          cases b with
          | false =>
            have run : compL js t mc me (items.drop (i + 1)) s5 = .ok es s' := run
            refine ⟨w5, s5, ds, vs, rfl, by rw [← wq]; exact I5.wipe lsgq4, ex3.trans st5.ext, lt, L5, freeW F5 k4', rs.mono (st3.ext.F.trans st5.ext.F), Nat.le_succ_of_le dl, fun a o e fra => ?_, fun a e => dm3 a (st5.dom a e), fun a u o ef e => st5.fk a u o (st3.ext.F a u (ex.F a u ef)) (st3.fk a u o (ex.F a u ef) (fq a u o ef e)), es, s', run, fin⟩
            obtain ⟨p1, p2⟩ := kp a o e fra
            obtain ⟨p3, p4⟩ := c4 a o p1 p2
            obtain ⟨p5, p6⟩ := st5.keep a o p3 p4
            exact ⟨p5, freeW p6 k4'⟩
          | true =>
            have run : ((fzM me s5).bind fun y => (valD y).bind fun d => (compL js t mc me (items.drop (i + 1))).bind fun ds => M.pure (d :: ds)) = .ok es s' := run
            cases qe : fzM me s5 with
            | stuck => rw [qe] at run; cases run
            | exc x s6 => rw [qe] at run; cases run
            | ok y s6 =>
              rw [qe] at run
              have hk : Endz X.K B.nox w5 s5 sgq4 ((fzM me s5).bind fun x => M.pure x) (fun x s' w' => x = y ∧ s' = s6) := by
                rw [qe]; exact fun w' _ _ => ⟨rfl, rfl⟩
              refine tE.fz (B := B.nox) I5 hk fun x s7 w7 u st7 I7 r7 q7 => ?_
              obtain ⟨rfl, rfl⟩ := q7 w7 (Stx.refl _ _ _) I7
              have I7 : IN X.K B w7 s7 sgq4 := I7
              cases x with
              | r n => cases run
              | s n => cases run
              | d d =>
                have run : ((compL js t mc me (items.drop (i + 1)) s7).bind fun ds => M.pure (d :: ds)) = .ok es s' := run
                cases qc : compL js t mc me (items.drop (i + 1)) s7 with
                | stuck => rw [qc] at run; cases run
                | exc x s8 => rw [qc] at run; cases run
                | ok es' s8 =>
                  rw [qc] at run
                  cases run
                  obtain ⟨L7, F7⟩ := st7.keep L _ L5 F5
                  have len : vs.length = ds.length := rs.length.symm
                  refine ⟨vs, L7, by omega, { w7 with H := upd w7.H L (.lst (vs ++ [u])) }, s7, ds ++ [d], vs ++ [u], rfl, ?_, ?_, lt, upd_same, freeW F7 k4', ?_, by simp; omega, fun a o e fra => ?_, fun a e => dm3 a (st5.dom a (st7.dom a (upd_dom e))), fun a u o ef e => (upd_ne (fun z => by rw [z, hD] at e; cases e)).trans (st7.fk a u o (st5.ext.F a u (st3.ext.F a u (ex.F a u ef))) (st5.fk a u o (st3.ext.F a u (ex.F a u ef)) (st3.fk a u o (ex.F a u ef) (fq a u o ef e)))), es', s', qc, ?_⟩
                  · rw [← wq]; exact (I7.free_put F7 nL).wipe lsgq4
                  · exact (ex3.trans st5.ext).trans ⟨st7.ext.F, st7.ext.len, st7.ext.mu⟩
                  · exact (rs.mono ((st3.ext.F.trans st5.ext.F).trans st7.ext.F)).snoc r7
                  · obtain ⟨p1, p2⟩ := kp a o e fra
                    obtain ⟨p3, p4⟩ := c4 a o p1 p2
                    obtain ⟨p5, p6⟩ := st5.keep a o p3 p4
                    obtain ⟨p7, p8⟩ := st7.keep a o p5 p6
                    exact ⟨(upd_ne (fun z => by rw [z, hD] at e; cases e)).trans p7, freeW p8 k4'⟩
                  · rw [List.append_assoc]; exact fin
    · have el : i = items.length := by omega
      refine .inl ⟨w2 el.symm, ?_⟩
      rw [List.drop_eq_nil_of_le (by omega)] at run
      cases run
      rw [List.append_nil] at fin
      obtain ⟨I9, ex9⟩ := I.free_ice fr nL hL
      have Ib := Ins.back I0 hn (ex.trans ex9) I9
      refine fin (w.ice L (.lst vs)) ⟨ex.trans ex9, fun a o e fra => ?_, fun a e => dm a e, fq⟩ Ib (.ref L) (Rl.lst upd_same (rs.mono ex9.F))
      obtain ⟨p1, p2⟩ := kp a o e fra
      have na : a ≠ L := fun z => by rw [z, hD] at e; cases e
      refine ⟨p1, ⟨by rw [show (w.ice L (.lst vs)).F a = w.F a from upd_ne na]; exact p2.1.1, p2.1.2⟩, fun j c hj => ?_⟩
      rcases backR_get hj with ⟨h1, h2⟩ | ⟨h1, h2⟩
      · exfalso
        have q := List.all_eq_true.mp hn j h1
        rw [List.getD_eq_getElem?_getD] at h2
        cases z : s0.rhq[j]? with
        | none => rw [z] at h2; cases h2
        | some y =>
          rw [z] at h2 q
          have h2 : Slot.acc c = y := h2
          subst h2; cases q
      · have := p2.2 j c h2
        rw [wipe_out' h1] at this; exact this
theorem own_lt {N : List Str} {sc scope : Scope} {own : List (Str × Nat)} (ok : BlkOk N sc scope own) : ∀ j ∈ own.map (·.2), j < N.length := fun j q => by
  obtain ⟨pp, hpp, rfl⟩ := List.mem_map.mp q
  exact (List.getElem?_eq_some_iff.mp (ok.ix pp hpp)).1
theorem fe_lc (hc : X.calm = true) (nd : X.N.Nodup) (hi : FI X B tg iter mi) (ok : BlkOk X.N X.env.scope scope own)
    (hg : ∀ (s : Shared) (H : Hp) (C : Addr) (cl : List (Str × Addr)) (fp : List Addr), FG (X.blk s H scope (compEnvC scope cl C X.env) fp) B.nox tg t) (ht : ∀ (s : Shared) (H : Hp) (C : Addr) (cl : List (Str × Addr)) (fp : List Addr), PTm (X.blk s H scope (compEnvC scope cl C X.env) fp) B.nox ifs mc)
    (he : ∀ (s : Shared) (H : Hp) (C : Addr) (cl : List (Str × Addr)) (fp : List Addr), FE (X.blk s H scope (compEnvC scope cl C X.env) fp) B.nox elt me) (hs : ∀ x, foldedSetIterable iter X.env x = pure x := by intro _; rfl)
    (htj : t.js.all (fun j => (own.map (·.2)).contains j) = true := by decide) :
    FE X B (.ListComp elt [⟨tg, iter, ifs, 0⟩] scope pos) (compM mi (own.map (·.2)) t mc me) := by
  refine ⟨fun pins sh sgq H Q J h => (pe_lc (tt := tT X.K B.nox mc) (te := tE X.K B.nox me) (g := tG X.K B.nox t.js t.g) hc nd hi ok hg ht he hs).run pins sh sgq H Q J (tLc.of (fun j q => ?_) (fun j q => ?_) h)⟩
  · rw [J.len]; exact own_lt ok j q
  · simpa using List.all_eq_true.mp htj j q
/-- name = [..] on one line -/
theorem fs_setLc (i : Nat) {y : Str} {py spos : Pos} (hc : X.calm = true) (nd : X.N.Nodup) (hi : FI X B tg iter mi) (ok : BlkOk X.N X.env.scope scope own)
    (hg : ∀ (s : Shared) (H : Hp) (C : Addr) (cl : List (Str × Addr)) (fp : List Addr), FG (X.blk s H scope (compEnvC scope cl C X.env) fp) B.nox tg t) (ht : ∀ (s : Shared) (H : Hp) (C : Addr) (cl : List (Str × Addr)) (fp : List Addr), PTm (X.blk s H scope (compEnvC scope cl C X.env) fp) B.nox ifs mc)
    (he : ∀ (s : Shared) (H : Hp) (C : Addr) (cl : List (Str × Addr)) (fp : List Addr), FE (X.blk s H scope (compEnvC scope cl C X.env) fp) B.nox elt me)
    (hsw : swapsWith (.ListComp elt [⟨tg, iter, ifs, 0⟩] scope pos) (some (.Name y py)) spos.line X.env = pure true) (hy : X.N[i]? = some y := by rfl) (hyl : X.env.scope.names.lookup y = some .local := by rfl) (hs : ∀ x, foldedSetIterable iter X.env x = pure x := by intro _; rfl)
    (htj : t.js.all (fun j => (own.map (·.2)).contains j) = true := by decide) :
    FS X B (.Assign [.Name y py] (.ListComp elt [⟨tg, iter, ifs, 0⟩] scope pos) spos) (setS i (compM mi (own.map (·.2)) t mc me)) := by
  refine ⟨fun pins sh sgq H D J h => (ps_setLc (tt := tT X.K B.nox mc) (te := tE X.K B.nox me) (g := tG X.K B.nox t.js t.g) hc nd hy hyl hsw hi ok hg ht he hs).run pins sh sgq H D J ?_⟩
  have lsgq : i < sgq.length := by rw [J.len]; exact (List.getElem?_eq_some_iff.mp hy).1
  have h1 : tE X.K B (compM mi (own.map (·.2)) t mc me) sgq H (fun x H1 => D.nx (sgq.set i (some x)) H1) := by
    obtain ⟨w, s, rfl, I, h⟩ := h
    exact tE.fzS I h fun y s' w' v e' I' r h' => h' w' _ (Ext.refl _ _) (I'.slot r lsgq)
  exact tLc.of (fun j q => by rw [J.len]; exact own_lt ok j q) (fun j q => by simpa using List.all_eq_true.mp htj j q) h1
end
end G
set_option maxRecDepth 100000
/-! Values: arithmetic, comparisons, sequences. -/
namespace G
open PySem PySem.Spec L2
def cap : Nat := 1000000
/-! ### what is seen of a list -/
def obsL (s : Sg) : Val → Option (List Val)
  | .d (.lst xs) => some (xs.map Val.d)
  | .d _ => none
  | .r n => (match s.Omq[n]? with
    | some (some (.lst xs)) => some xs
    | _ => none)
  | .s i => (match s.rhq[i]? with
    | some (.acc (.lst xs)) => some xs
    | some (.v (.d (.lst xs))) => some (xs.map Val.d)
    | _ => none)
section
variable {K : PySem.W.Frag} {B : Base0} {sgq : St} {w : Wd} {s : Sg} {x y : Val} {v u : V} {xs : List Val} {Q : VK}
theorem obsL_ok (I : IN K B w s sgq) (r : RlS K w s.Omq.length sgq x v) (e : obsL s x = some xs) : ∃ a vs, v = .ref a ∧ Rd w.H a (.lst vs) ∧ RlVs K w s.Omq.length xs vs := by
  cases x with
  | d d =>
    cases d with
    | lst ds =>
      cases e
      cases r with
      | lst ha rs => exact ⟨_, _, rfl, rdL_up I.sim ha, rls_V rs⟩
    | _ => cases e
  | r n =>
    obtain ⟨hn, rfl⟩ := r
    have e : (match s.Omq[n]? with
      | some (some (.lst xs)) => some xs
      | _ => none) = some xs := e
    split at e
    · next ys q =>
      cases e
      obtain ⟨o, ho, _, hc⟩ := I.sim.cell n _ q
      cases o with
      | lst vs => exact ⟨_, _, rfl, .inl ho, hc⟩
      | _ => exact hc.elim
    · cases e
  | s i =>
    have r : sgq[i]? = some (some v) := r
    have e : (match s.rhq[i]? with
      | some (.acc (.lst xs)) => some xs
      | some (.v (.d (.lst xs))) => some (xs.map Val.d)
      | _ => none) = some xs := e
    split at e
    · next ys q =>
      cases e
      obtain ⟨a, e1, ⟨o, ho, hc⟩, _⟩ := I.acc i _ q
      rw [r] at e1; cases e1
      cases o with
      | lst vs => exact ⟨_, _, rfl, .inl ho, hc⟩
      | _ => exact hc.elim
    · next ys q =>
      cases e
      obtain ⟨u, e1, hr⟩ := I.val i _ q
      rw [r] at e1; cases e1
      cases hr with
      | lst ha rs => exact ⟨_, _, rfl, rdL_up I.sim ha, rls_V rs⟩
    · cases e
/-- a list or a tuple -/
def obsQ (s : Sg) (x : Val) : Option (List Val) := match x with
  | .d (.tup xs) => some (xs.map Val.d)
  | x => obsL s x
theorem obsQ_ok (I : IN K B w s sgq) (r : RlS K w s.Omq.length sgq x v) (e : obsQ s x = some xs) : ∃ a vs, v = .ref a ∧ (SqL K w.H a vs ∨ SqT K w.H a vs) ∧ RlVs K w s.Omq.length xs vs := by
  unfold obsQ at e
  split at e
  · cases e
    cases r with
    | tup ha rs => exact ⟨_, _, rfl, .inr (sqT_up I.sim ha), rls_V rs⟩
  · obtain ⟨a, vs, h1, h2, h3⟩ := obsL_ok I r e
    exact ⟨a, vs, h1, .inl (.inl h2), h3⟩
/-! ### a new frozen thing -/
theorem new_l {ds : List D} {vs : List V} {p : Addr} (I : IN K B w s sgq) (rs : Rls K w.F ds vs) (h : EndsV K B w s sgq (.ok (.d (.lst ds)) s) Q) (hp : w.H p = none) : Q (.ref p) (upd w.H p (.lst vs)) := by
  obtain ⟨J, ex⟩ := I.frz (o := .lst vs) hp
  exact h _ ex J (.ref p) (Rl.lst upd_same (rs.mono ex.ext.F))
theorem new_t {ds : List D} {vs : List V} {p : Addr} (I : IN K B w s sgq) (rs : Rls K w.F ds vs) (h : EndsV K B w s sgq (.ok (.d (.tup ds)) s) Q) (hp : w.H p = none) : Q (.ref p) (upd w.H p (.tup vs)) := by
  obtain ⟨J, ex⟩ := I.frz (o := .tup vs) hp
  exact h _ ex J (.ref p) (Rl.tup (.inl upd_same) (rs.mono ex.ext.F))
/-- an end without a step -/
theorem fin0 {d : D} {v : V} (I : IN K B w s sgq) (h : EndsV K B w s sgq (.ok (.d d) s) Q) (r : Rl K w.F d v) : Q v w.H := h w (Stx.refl _ _ _) I v r
end
/-! ### arithmetic -/
def numV (f : Int → Int → Option D) (x y : Val) : M Val := fun s => match x, y with
  | .d (.int i), .d (.int j) => (match f i j with
    | some z => .ok (.d z) s
    | none => .stuck)
  | _, _ => .stuck
section
variable {X : Cx} {B : Base0}
theorem numV_ok {K : PySem.W.Frag} {sgq : St} {w : Wd} {s : Sg} {f : Int → Int → Option D} {x y : Val} {v u : V} {Q : VK} (I : IN K B w s sgq) (rx : RlS K w s.Omq.length sgq x v) (ry : RlS K w s.Omq.length sgq y u) (h : EndsV K B w s sgq (numV f x y s) Q) :
    ∃ i j z, v = .int i ∧ u = .int j ∧ f i j = some z ∧ ∀ r, Rl K w.F z r → Q r w.H := by
  unfold numV at h
  split at h
  · split at h
    · next z e => cases rx; cases ry; exact ⟨_, _, z, rfl, rfl, e, fun r q => fin0 I h q⟩
    · exact h.elim
  · exact h.elim
theorem op_num {fo : Value → Value → Sem Value} {C : Int → Int → Prop} {g : Int → Int → Int} {f : Int → Int → Option D} (ho : OpR X fo (rI C fun i j => .int (g i j))) (hf : ∀ i j z, f i j = some z → C i j ∧ z = .int (g i j)) : OpF X B fo (numV f) :=
  ⟨_, ho, fun sgq w s x y v u Q I rx ry h => by
    obtain ⟨i, j, z, rfl, rfl, e, q⟩ := numV_ok I rx ry h
    obtain ⟨c, rfl⟩ := hf i j z e
    exact ⟨i, j, rfl, rfl, c, q _ (.int _)⟩⟩
theorem op_num0 {fo : Value → Value → Sem Value} {g : Int → Int → Int} (ho : OpR X fo (rI0 fun i j => .int (g i j))) : OpF X B fo (numV fun i j => some (.int (g i j))) :=
  ⟨_, ho, fun sgq w s x y v u Q I rx ry h => by
    obtain ⟨i, j, z, rfl, rfl, e, q⟩ := numV_ok I rx ry h
    cases e
    exact ⟨i, j, rfl, rfl, q _ (.int _)⟩⟩
theorem op_numB {fo : Value → Value → Sem Value} {g : Int → Int → Bool} (ho : OpR X fo (rI0 fun i j => .bl (g i j))) : OpF X B fo (numV fun i j => some (.bl (g i j))) :=
  ⟨_, ho, fun sgq w s x y v u Q I rx ry h => by
    obtain ⟨i, j, z, rfl, rfl, e, q⟩ := numV_ok I rx ry h
    cases e
    exact ⟨i, j, rfl, rfl, q _ (.bl _)⟩⟩
abbrev subV : Val → Val → M Val := numV fun i j => some (.int (i - j))
theorem o_sub : OpF X B (binaryOp .Sub) subV := op_num0 op_sub
def small (i : Int) : Bool := decide (-(2 ^ 64) < i) && decide (i < 2 ^ 64)
def mulF (i j : Int) : Option D := if small i || small j then some (.int (i * j)) else none
theorem small_ok {i : Int} (h : small i = true) : -(2 ^ 64) < i ∧ i < 2 ^ 64 := by
  unfold small at h
  simp only [decide_eq_true_eq, Bool.and_eq_true] at h
  exact h
theorem o_mul : OpF X B (binaryOp .Mult) (numV mulF) := op_num op_mul fun i j z e => by
  unfold mulF at e
  split at e
  · next h =>
    cases e
    rcases Bool.or_eq_true_iff.mp h with q | q
    · exact ⟨.inl (small_ok q), rfl⟩
    · exact ⟨.inr (small_ok q), rfl⟩
  · cases e
def modF (i j : Int) : Option D := if 0 < j then some (.int (i % j)) else none
theorem o_mod : OpF X B (binaryOp .Mod) (numV modF) := op_num op_mod fun i j z e => by
  unfold modF at e
  split at e
  · next h => cases e; exact ⟨h, rfl⟩
  · cases e
def divF (i j : Int) : Option D := if 0 < j ∧ j < 1073741824 then some (.int (i / j)) else none
theorem o_div : OpF X B (binaryOp .FloorDiv) (numV divF) := op_num op_fdiv fun i j z e => by
  unfold divF at e
  split at e
  · next h => cases e; exact ⟨h, rfl⟩
  · cases e
def powF (i j : Int) : Option D := if 0 ≤ j ∧ j ≤ 1000000 ∧ i.natAbs < 2 ^ 64 then some (.int (i ^ j.toNat)) else none
theorem o_pow : OpF X B (binaryOp .Pow) (numV powF) := op_num op_pow fun i j z e => by
  unfold powF at e
  split at e
  · next h => cases e; exact ⟨h, rfl⟩
  · cases e
abbrev ltV : Val → Val → M Val := numV fun i j => some (.bl (decide (i < j)))
abbrev leV : Val → Val → M Val := numV fun i j => some (.bl (decide (i ≤ j)))
abbrev gtV : Val → Val → M Val := numV fun i j => some (.bl (decide (j < i)))
abbrev geV : Val → Val → M Val := numV fun i j => some (.bl (decide (j ≤ i)))
theorem o_lt : OpF X B (compareOp .Lt) ltV := op_numB op_lt
theorem o_le : OpF X B (compareOp .LtE) leV := op_numB op_le
theorem o_gt : OpF X B (compareOp .Gt) gtV := op_numB op_gt
theorem o_ge : OpF X B (compareOp .GtE) geV := op_numB op_ge
/-! ### + -/
/-- list + list, frozen or not -/
def rCatQ : R2 := fun x y H Q => ∃ l b xs zs, x = .ref l ∧ y = .ref b ∧ Rd H l (.lst xs) ∧ Rd H b (.lst zs) ∧ xs.length + zs.length ≤ sizeLine ∧ ∀ p, H p = none → Q (.ref p) (upd H p (.lst (xs ++ zs)))
theorem op_catQ : OpR X (binaryOp .Add) rCatQ := by
  intro pins s sgq H x y v u Q J rx ry h
  obtain ⟨l, b, xs, zs, rfl, rfl, h1, h2, hz, q⟩ := h
  cases rx; cases ry
  obtain ⟨z1, i1, n1, r1, e1⟩ := h1.ok J.hok
  obtain ⟨z2, i2, n2, r2, e2⟩ := h2.ok J.hok
  have l1 := r1.length
  have l2 := r2.length
  refine PySem.P.add_list e1 e2 ?_ (by simp only [List.size_toArray]; omega)
  rw [show i1.toArray ++ i2.toArray = (i1 ++ i2).toArray by simp]
  exact ⟨.ref _, _, J.lnew (t' := s.toks) (r1.append r2) (by rw [List.length_append]; omega), rfl, q _ J.fresh⟩
theorem Rls.append {K : PySem.W.Frag} {F : Hp} : ∀ {xs ys : List D} {vs us : List V}, Rls K F xs vs → Rls K F ys us → Rls K F (xs ++ ys) (vs ++ us)
  | _, _, _, _, .nil, r => r
  | _, _, _, _, .cons a b, r => .cons a (b.append r)
def addV (x y : Val) : M Val := fun s => match x, y with
  | .d (.int i), .d (.int j) => .ok (.d (.int (i + j))) s
  | .d (.str a), .d (.str b) => if a.length + b.length ≤ cap then .ok (.d (.str (a ++ b))) s else .stuck
  | .d (.tup xs), .d (.tup ys) => if xs ≠ [] ∧ ys ≠ [] ∧ xs.length + ys.length ≤ cap then .ok (.d (.tup (xs ++ ys))) s else .stuck
  | x, y => (match obsL s x, obsL s y with
    | some xs, some ys => (match allD (xs ++ ys) with
      | some ds => if ds.length ≤ cap then .ok (.d (.lst ds)) s else .stuck
      | none => .stuck)
    | _, _ => .stuck)
theorem o_add : OpF X B (binaryOp .Add) addV := ⟨_, op_add.or (op_add_str.or (op_catT.or op_catQ)), fun sgq w s x y v u Q I rx ry h => by
  unfold addV at h
  split at h
  · cases rx; cases ry; exact .inl ⟨_, _, rfl, rfl, fin0 I h (.int _)⟩
  · split at h
    · next hz => cases rx; cases ry; exact .inr (.inl ⟨_, _, rfl, rfl, Nat.le_trans hz (by rw [sizeLine_eq]; decide), fin0 I h (.str _)⟩)
    · exact h.elim
  · next xs ys =>
    split at h
    · next hz =>
      cases rx with
      | tup h1 r1 =>
        cases ry with
        | tup h2 r2 =>
          have l1 := r1.length
          have l2 := r2.length
          refine .inr (.inr (.inl ⟨_, _, _, _, rfl, rfl, sqT_up I.sim h1, sqT_up I.sim h2, ?_, ?_, ?_, ?_⟩))
          · rintro rfl
            exact hz.1 (List.eq_nil_of_length_eq_zero l1)
          · have := hz.2.2; unfold cap at this; rw [sizeLine_eq]; omega
          · rintro rfl
            exact (hz.2.1 (List.eq_nil_of_length_eq_zero l2)).elim
          · exact fun _ p hp => new_t I (r1.append r2) h hp
    · exact h.elim
  · split at h
    · next xs ys e1 e2 =>
      split at h
      · next ds e =>
        split at h
        · next hz =>
          obtain ⟨a, vs, rfl, ha, r1⟩ := obsL_ok I rx e1
          obtain ⟨b, us, rfl, hb, r2⟩ := obsL_ok I ry e2
          have r3 := r1.append r2
          rw [allD_eq e] at r3
          have r3 := rlVs_d r3
          refine .inr (.inr (.inr ⟨a, b, vs, us, rfl, rfl, ha, hb, ?_, fun p hp => new_l I r3 h hp⟩))
          have l := r3.length
          rw [List.length_append] at l
          unfold cap at hz
          rw [sizeLine_eq]; omega
        · exact h.elim
      · exact h.elim
    · exact h.elim⟩
/-! ### displays -/
def dsOf (xs : List Val) : M (List D) := fun s => match allD xs with
  | some ds => .ok ds s
  | none => .stuck
variable {es : List Expr} {mr : M (List Val)} {pos : Pos}
def tupE (mr : M (List Val)) : M Val := mr.bind fun xs => (dsOf xs).bind fun ds => if ds.length ≤ cap then M.pure (.d (.tup ds)) else stuck
def lstE (mr : M (List Val)) : M Val := mr.bind fun xs => (dsOf xs).bind fun ds => if ds.length ≤ cap then M.pure (.d (.lst ds)) else stuck
theorem dsOf_ok {K : PySem.W.Frag} {sgq : St} {β : Type} {w : Wd} {s : Sg} {xs : List Val} {vs : List V} {k : List D → M β} {P : β → Sg → Wd → Prop} (r : RlVs K w s.Omq.length xs vs) (h : Endz K B w s sgq ((dsOf xs s).bind k) P) : ∃ ds, allD xs = some ds ∧ Rls K w.F ds vs ∧ Endz K B w s sgq (k ds s) P := by
  unfold dsOf at h
  split at h
  · next ds e =>
    rw [allD_eq e] at r
    exact ⟨ds, e, rlVs_d r, h⟩
  · exact h.elim
theorem cap_line {n : Nat} (h : n ≤ cap) : n ≤ sizeLine := Nat.le_trans h (by rw [sizeLine_eq]; decide)
theorem cap_lt {n : Nat} (h : n < cap) : n < sizeLine := Nat.lt_of_lt_of_le h (cap_line (Nat.le_refl _))
theorem fe_tup {kk : Nat} (ha : FAp X B es mr) : FE X B (.Tuple es kk pos) (tupE mr) := by
  refine wkE (pe_tup ha) fun sgq H Q h => ?_
  obtain ⟨w, s, rfl, I, h⟩ := h
  refine tAp.first I h fun xs s1 w1 vs e1 I1 r1 q => ?_
  obtain ⟨ds, _, rs, q⟩ := dsOf_ok r1 q
  split at q
  · next hz => exact ⟨by rw [← rs.length]; exact cap_line hz, fun p hp => new_t I1 rs q hp⟩
  · exact q.elim
theorem fe_lst (ha : FAp X B es mr) : FE X B (.List es pos) (lstE mr) := by
  refine wkE (pe_lst ha) fun sgq H Q h => ?_
  obtain ⟨w, s, rfl, I, h⟩ := h
  refine tAp.first I h fun xs s1 w1 vs e1 I1 r1 q => ?_
  obtain ⟨ds, _, rs, q⟩ := dsOf_ok r1 q
  split at q
  · next hz => exact ⟨by rw [← rs.length]; exact cap_line hz, fun p hp => new_l I1 rs q hp⟩
  · exact q.elim
/-- a new cell -/
def newC (c : Cell) : M Val := fun s => .ok (.r s.Omq.length) { s with Omq := s.Omq ++ [some c] }
theorem newC_ok {K : PySem.W.Frag} {sgq : St} {w : Wd} {s : Sg} {c : Cell} {o : HO} {p : Addr} {Q : VK} (I : IN K B w s sgq) (hc : CellR K w s.Omq.length c o) (hp : w.H p = none) (h : EndsV K B w s sgq (newC c s) Q) : Q (.ref p) (upd w.H p o) := by
  obtain ⟨J, st⟩ := I.cel hp hc
  exact h _ st J (.ref p) ⟨by simp, by simp [Wd.cel]⟩
/-- [a, b, ..] as a cell -/
def lstC (mr : M (List Val)) : M Val := mr.bind fun xs => if xs.length ≤ cap then newC (.lst xs) else stuck
theorem fe_lstC (ha : FAp X B es mr) : FE X B (.List es pos) (lstC mr) := by
  refine wkE (pe_lst ha) fun sgq H Q h => ?_
  obtain ⟨w, s, rfl, I, h⟩ := h
  refine tAp.first I h fun xs s1 w1 vs e1 I1 r1 q => ?_
  split at q
  · next hz => exact ⟨by rw [← r1.length]; exact cap_line hz, fun p hp => newC_ok (c := .lst xs) (o := .lst vs) I1 r1 hp q⟩
  · exact q.elim
/-- name = [a, b, ..], a list of the slot's own -/
def ownL (i : Nat) (xs : List Val) : M Fl := fun s => .ok .nx { s with rhq := s.rhq.set i (.acc (.lst xs)) }
def setOwn (i : Nat) (mr : M (List Val)) : M Fl := mr.bind fun xs => if xs.length ≤ cap then ownL i xs else stuck
theorem fs_own (i : Nat) {x : Str} {pos' p2 : Pos} (nd : X.N.Nodup) (ha : FAp X B es mr) (hl : X.env.scope.names.lookup x = some .local ∨ X.env.scope.names.lookup x = some .cell := by first | exact Or.inl rfl | exact Or.inr rfl) (hi : X.N[i]? = some x := by rfl)
    (hs : swapsWith (.List es p2) (some (.Name x pos')) pos.line X.env = pure false := by rfl) (hf : X.fn x = true ∨ X.env.scope.names.lookup x = some .local := by first | exact .inl rfl | exact .inr rfl | assumption) : FS X B (.Assign [.Name x pos'] (.List es p2) pos) (setOwn i mr) := by
  refine ⟨fun pins sh sgq H D J h => ?_⟩
  refine (ps_set (i := i) nd hi hl (pe_lst ha) hs hf).run pins sh sgq H D J ?_
  obtain ⟨w, s, rfl, I, h⟩ := h
  have lsgq : i < sgq.length := by rw [J.len]; exact (List.getElem?_eq_some_iff.mp hi).1
  refine ⟨w, s, rfl, I, tE.stmt h fun xs s' w' e' I' h' vs r1 => ?_⟩
  split at h'
  · next hz => exact ⟨by rw [← r1.length]; exact cap_line hz, fun p hp => h' _ _ Wd.put_ext (I'.own hp r1 lsgq)⟩
  · exact h'.elim
/-! ### list(x), tuple(x) -/
def listF (xs : List Val) : M Val := fun s => match xs with
  | [x] => (match obsQ s x with
    | some ys => (match allD ys with
      | some ds => .ok (.d (.lst ds)) s
      | none => .stuck)
    | none => .stuck)
  | _ => .stuck
theorem c_list : CallF X B (.type "list") listF := ⟨_, call_list_of, fun sgq w s xs vs Q I r h => by
  unfold listF at h
  split at h
  · cases r with
    | cons r1 r2 =>
      cases r2
      split at h
      · next ys e =>
        split at h
        · next ds ed =>
          obtain ⟨a, us, rfl, hs, rs⟩ := obsQ_ok I r1 e
          rw [allD_eq ed] at rs
          exact ⟨a, us, rfl, hs, fun l hl => new_l I (rlVs_d rs) h hl⟩
        · exact h.elim
      · exact h.elim
  · exact h.elim⟩
/-- list(x) as a cell -/
def listFC (xs : List Val) : M Val := fun s => match xs with
  | [x] => (match obsQ s x with
    | some ys => newC (.lst ys) s
    | none => .stuck)
  | _ => .stuck
theorem c_listC : CallF X B (.type "list") listFC := ⟨_, call_list_of, fun sgq w s xs vs Q I r h => by
  unfold listFC at h
  split at h
  · cases r with
    | cons r1 r2 =>
      cases r2
      split at h
      · next ys e =>
        obtain ⟨a, us, rfl, hs, rs⟩ := obsQ_ok I r1 e
        exact ⟨a, us, rfl, hs, fun l hl => newC_ok (c := .lst ys) (o := .lst us) I rs hl h⟩
      · exact h.elim
  · exact h.elim⟩
/-- name = list(x), of the slot's own -/
def setOwnL (i : Nat) (mr : M (List Val)) : M Fl := mr.bind fun xs s => match xs with
  | [x] => (match obsQ s x with
    | some ys => ownL i ys s
    | none => .stuck)
  | _ => .stuck
theorem fs_ownL (i : Nat) {e : Expr} {x : Str} {p pos' p2 : Pos} (nd : X.N.Nodup) (hm : X.mg "list" = none) (ha : FA X B [e] mr) (hg : Gl X "list" := by rfl) (hl : X.env.scope.names.lookup x = some .local ∨ X.env.scope.names.lookup x = some .cell := by first | exact Or.inl rfl | exact Or.inr rfl) (hi : X.N[i]? = some x := by rfl)
    (hs : swapsWith (.Call (.Name "list" p) [e] [] p2) (some (.Name x pos')) pos.line X.env = pure false := by rfl) (hf : X.fn x = true ∨ X.env.scope.names.lookup x = some .local := by first | exact .inl rfl | exact .inr rfl | assumption)
    (he : starEach [e] X.env = (false, eval e X.env) :: starEach [] X.env := by rfl) (hp : (backTo p2 (starEach [] X.env)).any (·.1) = false := by rfl) : FS X B (.Assign [.Name x pos'] (.Call (.Name "list" p) [e] [] p2) pos) (setOwnL i mr) := by
  refine ⟨fun pins sh sgq H D J h => ?_⟩
  refine (ps_set (i := i) nd hi hl (pe_callTy call_list_of hg hm (by decide +kernel) ha (by decide) (by decide) he hp) hs hf).run pins sh sgq H D J ?_
  obtain ⟨w, s, rfl, I, h⟩ := h
  have lsgq : i < sgq.length := by rw [J.len]; exact (List.getElem?_eq_some_iff.mp hi).1
  refine ⟨w, s, rfl, I, tE.stmt h fun xs s' w' e' I' h' vs r1 => ?_⟩
  split at h'
  · cases r1 with
    | cons r1 r2 =>
      cases r2
      split at h'
      · next ys e =>
        obtain ⟨a, us, rfl, hs, rs⟩ := obsQ_ok I' r1 e
        exact ⟨a, us, rfl, hs, fun l hl => h' _ _ Wd.put_ext (I'.own hl rs lsgq)⟩
      · exact h'.elim
  · exact h'.elim
def tupleF (xs : List Val) : M Val := fun s => match xs with
  | [.d (.tup ds)] => .ok (.d (.tup ds)) s
  | [x] => (match obsL s x with
    | some ys => (match allD ys with
      | some ds => .ok (.d (.tup ds)) s
      | none => .stuck)
    | none => .stuck)
  | _ => .stuck
theorem c_tuple : CallF X B (.type "tuple") tupleF := ⟨_, call_tuple_of, fun sgq w s xs vs Q I r h => by
  unfold tupleF at h
  split at h
  · cases r with
    | cons r1 r2 =>
      cases r2
      have r0 := r1
      cases r1 with
      | tup ha rs => exact ⟨_, _, rfl, .inr ⟨sqT_up I.sim ha, fin0 I h (.tup ha rs)⟩⟩
  · cases r with
    | cons r1 r2 =>
      cases r2
      split at h
      · next ys e =>
        split at h
        · next ds ed =>
          obtain ⟨a, us, rfl, hs, rs⟩ := obsL_ok I r1 e
          rw [allD_eq ed] at rs
          exact ⟨a, us, rfl, .inl ⟨.inl hs, fun l hl => new_t I (rlVs_d rs) h hl⟩⟩
        · exact h.elim
      · exact h.elim
  · exact h.elim⟩
/-! ### len, int -/
def lenF (xs : List Val) : M Val := fun s => match xs with
  | [.d (.str z)] => if z.length ≤ cap then .ok (.d (.int z.length)) s else .stuck
  | [x] => (match obsQ s x with
    | some ys => .ok (.d (.int ys.length)) s
    | none => .stuck)
  | _ => .stuck
theorem c_len : CallF X B (.builtin "len") lenF := ⟨_, call_len, fun sgq w s xs vs Q I r h => by
  unfold lenF at h
  split at h
  · cases r with
    | cons r1 r2 =>
      cases r2
      split at h
      · next hz => cases r1; exact ⟨_, _, rfl, ⟨cap_line hz, rfl⟩, fin0 I h (.int _)⟩
      · exact h.elim
  · cases r with
    | cons r1 r2 =>
      cases r2
      split at h
      · next ys e =>
        obtain ⟨a, us, rfl, hs, rs⟩ := obsQ_ok I r1 e
        refine ⟨_, us.length, rfl, ?_, fin0 I h ?_⟩
        · rcases hs with hs | hs
          · exact .inl ⟨us, hs, rfl⟩
          · exact .inr ⟨us, hs, rfl⟩
        · rw [rs.length]; exact .int _
      · exact h.elim
  · exact h.elim⟩
def intF (xs : List Val) : M Val := match xs with
  | [.d (.int i)] => M.pure (.d (.int i))
  | [.d (.bl b)] => M.pure (.d (.int (if b then 1 else 0)))
  | _ => stuck
theorem c_int : CallF X B (.type "int") intF := ⟨_, call_int1, fun sgq w s xs vs Q I r h => by
  unfold intF at h
  split at h
  · cases r with
    | cons r1 r2 => cases r2; cases r1; exact .inl ⟨_, rfl, fin0 I h (.int _)⟩
  · cases r with
    | cons r1 r2 => cases r2; cases r1; exact .inr ⟨_, rfl, fin0 I h (.int _)⟩
  · exact h.elim⟩
/-! ### x[i] -/
def IxF (X : Cx) (B : Base0) (g : Val → Val → M Val) : Prop := ∃ r, IxR X r ∧ Cov2 X.K B r g
variable {a b : Expr} {ma mb : M Val}
theorem fe_ix {g : Val → Val → M Val} (hr : IxF X B g) (ha : FE X B a ma) (hb : FE X B b mb) (hs : PlainIx b := by exact fun _ _ => rfl) : FE X B (.Subscript a b pos) (op2 g ma mb) := by
  obtain ⟨r, h1, h2⟩ := hr
  exact wkE (pe_ix h1 ha hb hs) fun sgq H Q h => tOp.of h2 h
theorem RlVs.at {K : PySem.W.Frag} {w : Wd} {n : Nat} : ∀ {xs : List Val} {vs : List V} {i : Nat} {x : Val}, RlVs K w n xs vs → xs[i]? = some x → ∃ v, vs[i]? = some v ∧ RlV K w n x v
  | _, _, _, _, .nil, nx => by simp at nx
  | _, _, 0, _, .cons a _, e => by simp at e; subst e; exact ⟨_, rfl, a⟩
  | _, _, i + 1, x, .cons _ b, e => by
    obtain ⟨v, h1, h2⟩ := b.at (i := i) (by simpa using e)
    exact ⟨v, by simpa using h1, h2⟩
theorem RlVs.atI {K : PySem.W.Frag} {w : Wd} {n : Nat} {xs : List Val} {vs : List V} {i : Int} {x : Val} (r : RlVs K w n xs vs) (e : L2.atI xs i = some x) : ∃ v, L2.atI vs i = some v ∧ RlV K w n x v := by
  unfold L2.atI at e ⊢
  rw [r.length] at e
  cases q : ixN vs.length i with
  | none => (rw [q] at e; cases e)
  | some j =>
    rw [q] at e
    exact r.at (i := j) e
def ixV (x y : Val) : M Val := fun s => match x, y with
  | .d (.str z), .d (.int i) => if z.length ≤ cap then (match L2.atI z.cps.toList i with
    | some c => .ok (.d (.str ⟨#[c]⟩)) s
    | none => .stuck) else .stuck
  | x, .d (.int i) => (match obsQ s x with
    | some xs => (match L2.atI xs i with
      | some z => .ok z s
      | none => .stuck)
    | none => .stuck)
  | _, _ => .stuck
theorem i_seq : IxF X B ixV := ⟨_, ix_seq, fun sgq w s x y v u Q I rx ry h => by
  unfold ixV at h
  split at h
  · split at h
    · next hz =>
      split at h
      · next c e => cases rx; cases ry; exact .inr (.inr ⟨_, _, c, rfl, rfl, cap_line hz, e, fin0 I h (.str _)⟩)
      · exact h.elim
    · exact h.elim
  · split at h
    · next xs e =>
      split at h
      · next z ez =>
        obtain ⟨p, us, rfl, hs, rs⟩ := obsQ_ok I rx e
        obtain ⟨v, ev, rv⟩ := rs.atI ez
        cases ry
        have q := h w (Stx.refl _ _ _) I v (RlS.of rv)
        rcases hs with hs | hs
        · exact .inl ⟨p, us, _, v, rfl, rfl, hs, ev, q⟩
        · exact .inr (.inl ⟨p, us, _, v, rfl, rfl, hs, ev, q⟩)
      · exact h.elim
    · exact h.elim
  · exact h.elim⟩
end
end G
set_option maxRecDepth 100000
/-! Values: equality, membership, kinds. -/
namespace G
open PySem PySem.Spec L2
mutual
def D.py : D → PyData
  | .non => .none
  | .bl b => .bool b
  | .int i => .int i
  | .str x => .str x
  | .tup xs => .tuple (pyL xs)
  | .tupB xs => .tuple (pyL xs)
  | .lst xs => .list (pyL xs)
  | .dK _ => .none
  | .dT _ => .none
  | .ins _ _ => .none
def pyL : List D → List PyData
  | [] => []
  | x :: xs => x.py :: pyL xs
end
mutual
/-- None, bools, ints, texts, and lists and tuples of them, at most n deep -/
def D.plain : Nat → D → Bool
  | _, .non => true
  | _, .bl _ => true
  | _, .int _ => true
  | _, .str x => PyData.strOk x
  | n + 1, .tup xs => plainL n xs
  | n + 1, .lst xs => plainL n xs
  | _, _ => false
def plainL : Nat → List D → Bool
  | _, [] => true
  | n, x :: xs => x.plain n && plainL n xs
end
mutual
theorem plain_lay : ∀ (n : Nat) (d : D), d.plain n = true → d.py.canLay0 = true ∧ d.py.depth ≤ n
  | n, .non, _ => ⟨rfl, Nat.zero_le _⟩
  | n, .bl _, _ => ⟨rfl, Nat.zero_le _⟩
  | n, .int _, _ => ⟨rfl, Nat.zero_le _⟩
  | n, .str x, h => ⟨by simpa [D.plain, D.py, PyData.canLay0] using h, by simp [D.py, PyData.depth]⟩
  | 0, .tup xs, h => by simp [D.plain] at h
  | 0, .lst xs, h => by simp [D.plain] at h
  | n + 1, .tup xs, h => by
    obtain ⟨a, b⟩ := plainL_lay n xs (by simpa [D.plain] using h)
    exact ⟨by simpa [D.py, PyData.canLay0] using a, by simpa [D.py, PyData.depth] using b⟩
  | n + 1, .lst xs, h => by
    obtain ⟨a, b⟩ := plainL_lay n xs (by simpa [D.plain] using h)
    exact ⟨by simpa [D.py, PyData.canLay0] using a, by simpa [D.py, PyData.depth] using b⟩
  | n, .dK _, h => by cases n <;> simp [D.plain] at h
  | n, .dT _, h => by cases n <;> simp [D.plain] at h
  | n, .ins _ _, h => by cases n <;> simp [D.plain] at h
theorem plainL_lay : ∀ (n : Nat) (ds : List D), plainL n ds = true → PyData.canLayAll0 (pyL ds) = true ∧ PyData.depthAll (pyL ds) ≤ n
  | n, [], _ => ⟨rfl, Nat.zero_le _⟩
  | n, x :: xs, h => by
    have h : x.plain n = true ∧ plainL n xs = true := by simpa [plainL] using h
    obtain ⟨a, b⟩ := plain_lay n x h.1
    obtain ⟨c, d⟩ := plainL_lay n xs h.2
    exact ⟨by simp [pyL, PyData.canLayAll0, a, c], by simp [pyL, PyData.depthAll, b, d, Nat.max_le]⟩
end
theorem plain_shaped {n : Nat} {d : D} (h : d.plain n = true) (hn : n ≤ 64) : SeqAt.shaped d.py = true := by
  obtain ⟨a, b⟩ := plain_lay n d h
  unfold SeqAt.shaped
  rw [a, Bool.true_and]
  exact decide_eq_true (Nat.le_trans b hn)
section
variable {K : PySem.W.Frag} {w : Wd} {Omq : List (Option Cell)}
mutual
theorem Rl.dp (S : Sim K w Omq) : ∀ {n : Nat} {d : D} {v : V}, Rl K w.F d v → d.plain n = true → Dp K w.H v d.py
  | _, .non, _, .non, _ => .non
  | _, .bl b, _, .bl _, _ => .bl b
  | _, .int i, _, .int _, _ => .int i
  | _, .str x, _, .str _, _ => .str x
  | n + 1, .tup xs, _, .tup h r, p => Dp.tup (sqT_up S h) (Rls.dp S (n := n) r (by simpa [D.plain] using p))
  | n + 1, .lst xs, _, .lst h r, p => Dp.lst (sqL_up S h) (Rls.dp S (n := n) r (by simpa [D.plain] using p))
  | 0, .tup _, _, _, p => by simp [D.plain] at p
  | 0, .lst _, _, _, p => by simp [D.plain] at p
  | n, .dK _, _, _, p => by cases n <;> simp [D.plain] at p
  | n, .dT _, _, _, p => by cases n <;> simp [D.plain] at p
  | n, .ins _ _, _, _, p => by cases n <;> simp [D.plain] at p
theorem Rls.dp (S : Sim K w Omq) : ∀ {n : Nat} {ds : List D} {vs : List V}, Rls K w.F ds vs → plainL n ds = true → DpAll K w.H vs (pyL ds)
  | _, [], _, .nil, _ => .nil
  | n, x :: xs, _, .cons a b, p => by
    have p : x.plain n = true ∧ plainL n xs = true := by simpa [plainL] using p
    exact .cons (Rl.dp S a p.1) (Rls.dp S b p.2)
end
end
/-! ### a value as data, cells and all -/
def optAll {α β : Type} (f : α → Option β) : List α → Option (List β)
  | [] => some []
  | x :: xs => (match f x, optAll f xs with
    | some y, some ys => some (y :: ys)
    | _, _ => none)
def Val.dd (s : Sg) : Nat → Val → Option D
  | _, .d x => some x
  | 0, _ => none
  | k + 1, x => (match obsL s x with
    | some xs => (optAll (Val.dd s k) xs).map D.lst
    | none => none)
section
variable {K : PySem.W.Frag} {B : Base0} {sgq : St} {w : Wd} {s : Sg}
theorem dd_ok (I : IN K B w s sgq) : ∀ (k n : Nat) {x : Val} {v : V} {d : D}, RlS K w s.Omq.length sgq x v → x.dd s k = some d → d.plain n = true → Dp K w.H v d.py := by
  intro k
  induction k with
  | zero =>
    intro n x v d r e p
    cases x with
    | d y => cases e; exact Rl.dp I.sim r p
    | r _ => cases e
    | s _ => cases e
  | succ k ih =>
    intro n x v d r e p
    have go : ∀ {xs : List Val} {vs : List V} {ds : List D}, RlVs K w s.Omq.length xs vs → optAll (Val.dd s k) xs = some ds → plainL (n - 1) ds = true → DpAll K w.H vs (pyL ds) := by
      intro xs vs ds rs
      induction rs generalizing ds with
      | nil => intro e p; cases e; exact .nil
      | cons ra rb ihb =>
        intro e p
        unfold optAll at e
        split at e
        · next y ys e1 e2 =>
          cases e
          have p : y.plain (n - 1) = true ∧ plainL (n - 1) ys = true := by simpa [plainL] using p
          exact .cons (ih (n - 1) (RlS.of ra) e1 p.1) (ihb e2 p.2)
        · cases e
    have via : ∀ {xs : List Val}, obsL s x = some xs → (optAll (Val.dd s k) xs).map D.lst = some d → Dp K w.H v d.py := fun {xs} e1 e2 => by
      obtain ⟨ds, e3, rfl⟩ := Option.map_eq_some_iff.mp e2
      obtain ⟨a, vs, rfl, ha, rs⟩ := obsL_ok I r e1
      cases n with
      | zero => simp [D.plain] at p
      | succ n => exact Dp.lst (.inl ha) (go rs e3 (by simpa [D.plain] using p))
    cases x with
    | d y => cases e; exact Rl.dp I.sim r p
    | r m =>
      unfold Val.dd at e
      split at e
      · next xs e1 => exact via e1 e
      · cases e
    | s m =>
      unfold Val.dd at e
      split at e
      · next xs e1 => exact via e1 e
      · cases e
end
/-! ### == and != -/
def eqS : D → D → Option Bool
  | .non, .non => some true
  | .non, .int _ => some false
  | .int _, .non => some false
  | .non, .bl _ => some false
  | .bl _, .non => some false
  | .non, .str _ => some false
  | .str _, .non => some false
  | .int i, .int j => some (decide (i = j))
  | .bl i, .bl j => some (decide (i = j))
  | .str i, .str j => some (decide (i = j))
  | .int _, .str _ => some false
  | .str _, .int _ => some false
  | .bl _, .str _ => some false
  | .str _, .bl _ => some false
  | _, _ => none
def eqD (a b : D) : Bool := PyData.eqv a.py b.py
def eqvV (neg : Bool) (x y : Val) : M Val := fun s => match x.dd s 3, y.dd s 3 with
  | some a, some b => (match eqS a b with
    | some r => .ok (.d (.bl (neg != r))) s
    | none => if a.plain 60 && b.plain 60 then .ok (.d (.bl (neg != eqD a b))) s else .stuck)
  | _, _ => .stuck
theorem dd_scal {s : Sg} {x : Val} {a b : D} {r : Bool} (h : eqS a b = some r) : (x.dd s 3 = some a → x = .d a) ∧ (x.dd s 3 = some b → x = .d b) := by
  constructor
  · intro e
    cases x with
    | d y => cases e; rfl
    | r m =>
      unfold Val.dd at e
      split at e
      · obtain ⟨ds, _, rfl⟩ := Option.map_eq_some_iff.mp e
        cases b <;> simp [eqS] at h
      · cases e
    | s m =>
      unfold Val.dd at e
      split at e
      · obtain ⟨ds, _, rfl⟩ := Option.map_eq_some_iff.mp e
        cases b <;> simp [eqS] at h
      · cases e
  · intro e
    cases x with
    | d y => cases e; rfl
    | r m =>
      unfold Val.dd at e
      split at e
      · obtain ⟨ds, _, rfl⟩ := Option.map_eq_some_iff.mp e
        cases a <;> simp [eqS] at h
      · cases e
    | s m =>
      unfold Val.dd at e
      split at e
      · obtain ⟨ds, _, rfl⟩ := Option.map_eq_some_iff.mp e
        cases a <;> simp [eqS] at h
      · cases e
theorem eqS_ok {K : PySem.W.Frag} {F : Hp} {a b : D} {v u : V} {r : Bool} (ra : Rl K F a v) (rb : Rl K F b u) (h : eqS a b = some r) : scal v u = true ∧ r = decide (v = u) := by
  cases ra <;> cases rb <;> simp [eqS] at h <;> subst h <;> simp [scal]
section
variable {X : Cx} {B : Base0} {k : Nat}
theorem o_eq (rm : Room k X.A) : OpF X B (compareOp .Eq) (eqvV false) := ⟨_, op_eq.or (op_eqD rm.units), fun sgq w s x y v u Q I rx ry h => by
  unfold eqvV at h
  split at h
  · next a b ea eb =>
    split at h
    · next r er =>
      have hx := (dd_scal er).1 ea
      have hy := (dd_scal er).2 eb
      subst hx; subst hy
      obtain ⟨h1, h2⟩ := eqS_ok rx ry er
      refine .inl ⟨h1, fin0 I h ?_⟩
      rw [h2, Bool.false_bne]; exact .bl _
    · split at h
      · next hp =>
        obtain ⟨p1, p2⟩ := Bool.and_eq_true_iff.mp hp
        refine .inr ⟨a.py, b.py, dd_ok I 3 60 rx ea p1, dd_ok I 3 60 ry eb p2, plain_shaped p1 (by decide), plain_shaped p2 (by decide), fin0 I h ?_⟩
        rw [Bool.false_bne]; exact .bl _
      · exact h.elim
  · exact h.elim⟩
theorem o_ne (rm : Room k X.A) : OpF X B (compareOp .NotEq) (eqvV true) := ⟨_, op_ne.or (op_neD rm.units), fun sgq w s x y v u Q I rx ry h => by
  unfold eqvV at h
  split at h
  · next a b ea eb =>
    split at h
    · next r er =>
      have hx := (dd_scal er).1 ea
      have hy := (dd_scal er).2 eb
      subst hx; subst hy
      obtain ⟨h1, h2⟩ := eqS_ok rx ry er
      refine .inl ⟨h1, fin0 I h ?_⟩
      rw [h2, Bool.true_bne]; exact .bl _
    · split at h
      · next hp =>
        obtain ⟨p1, p2⟩ := Bool.and_eq_true_iff.mp hp
        refine .inr ⟨a.py, b.py, dd_ok I 3 60 rx ea p1, dd_ok I 3 60 ry eb p2, plain_shaped p1 (by decide), plain_shaped p2 (by decide), fin0 I h ?_⟩
        rw [Bool.true_bne]; exact .bl _
      · exact h.elim
  · exact h.elim⟩
/-! ### is None -/
def isNV (neg : Bool) (x y : Val) : M Val := fun s => match x, y with
  | .d .non, .d .non => .ok (.d (.bl (!neg))) s
  | .d _, .d .non => .ok (.d (.bl neg)) s
  | .r _, .d .non => .ok (.d (.bl neg)) s
  | _, _ => .stuck
theorem rl_non {K : PySem.W.Frag} {F : Hp} {x : D} {v : V} (r : Rl K F x v) (h : x ≠ .non) : decide (v = .non) = false := by
  cases r <;> first | exact absurd rfl h | rfl
theorem o_is : OpF X B (compareOp .Is) (isNV false) := ⟨_, op_isN, fun sgq w s x y v u Q I rx ry h => by
  unfold isNV at h
  split at h
  · cases rx; cases ry; exact ⟨rfl, fin0 I h (.bl _)⟩
  · next nx =>
    cases ry
    refine ⟨rfl, fin0 I h ?_⟩
    rw [rl_non (x := _) rx (fun z => nx z)]; exact .bl _
  · obtain ⟨_, rfl⟩ := rx
    cases ry
    exact ⟨rfl, fin0 I h (.bl _)⟩
  · exact h.elim⟩
theorem o_isNot : OpF X B (compareOp .IsNot) (isNV true) := ⟨_, op_notN, fun sgq w s x y v u Q I rx ry h => by
  unfold isNV at h
  split at h
  · cases rx; cases ry; exact ⟨rfl, fin0 I h (.bl _)⟩
  · next nx =>
    cases ry
    refine ⟨rfl, fin0 I h ?_⟩
    rw [rl_non (x := _) rx (fun z => nx z)]; exact .bl _
  · obtain ⟨_, rfl⟩ := rx
    cases ry
    exact ⟨rfl, fin0 I h (.bl _)⟩
  · exact h.elim⟩
/-! ### in, not in -/
def flatD : D → Bool
  | .non => true
  | .bl _ => true
  | .int _ => true
  | .str _ => true
  | _ => false
/-- an item y against x -/
def eqF : D → D → Bool
  | .non, .non => true
  | .bl a, .bl b => a == b
  | .bl p, .int j => (if p then 1 else 0) == j
  | .int j, .bl p => j == (if p then 1 else 0)
  | .int a, .int b => a == b
  | .str a, .str b => a == b
  | _, _ => false
theorem flatD_ok {K : PySem.W.Frag} {F : Hp} {d : D} {v : V} (r : Rl K F d v) (h : flatD d = true) : flatV v = true := by
  cases r <;> first | rfl | cases h
theorem eqF_ok {K : PySem.W.Frag} {F : Hp} {d e : D} {v u : V} (r : Rl K F d v) (q : Rl K F e u) (h : flatD d = true) (h' : flatD e = true) : eqV v u = eqF d e := by
  cases r <;> first | (simp [flatD] at h; done) | (cases q <;> first | (simp [flatD] at h'; done) | rfl)
theorem inF_ok {K : PySem.W.Frag} {F : Hp} {e : D} {u : V} (q : Rl K F e u) (h' : flatD e = true) : ∀ {ds : List D} {vs : List V}, Rls K F ds vs → ds.all flatD = true → vs.all flatV = true ∧ inV u vs = ds.any fun y => eqF y e
  | _, _, .nil, _ => ⟨rfl, rfl⟩
  | x :: xs, v :: vs, .cons a b, h => by
    have h : flatD x = true ∧ xs.all flatD = true := by simpa using h
    obtain ⟨h1, h2⟩ := inF_ok q h' b h.2
    have h2 : (vs.any fun y => eqV y u) = xs.any fun y => eqF y e := h2
    refine ⟨by simp [flatD_ok a h.1, h1], ?_⟩
    show ((v :: vs).any fun y => eqV y u) = ((x :: xs).any fun y => eqF y e)
    rw [List.any_cons, List.any_cons, eqF_ok a q h.1 h', h2]
/-- deep, in a tuple too -/
def rInA (K : PySem.W.Frag) (neg : Bool) : R2 := fun x y H Q => ∃ d ds, Dp K H x d ∧ (Dp K H y (.list ds) ∨ Dp K H y (.tuple ds)) ∧ SeqAt.shaped d = true ∧ PyData.canLayAll0 ds = true ∧ Q (.bl (neg != ds.any fun z => PyData.eqv z d)) H
theorem room_of {ds : List PyData} {d : PyData} {A : Around} (h : SeqAt.shaped d = true) (hu : A.units + 65 < cLine) : A.units + 1 + min (PyData.depthAll ds) d.depth < cLine := by
  have h1 : d.depth ≤ 64 := of_decide_eq_true (Bool.and_eq_true_iff.mp h).2
  have := Nat.min_le_right (PyData.depthAll ds) d.depth
  omega
theorem op_inA (hu : X.A.units + 65 < cLine) : OpR X (compareOp .In) (rInA X.K false) := by
  intro pins s sgq H x y v u Q J rx ry h
  obtain ⟨d, ds, hd, he, sd, se, q⟩ := id h
  obtain ⟨as, r1⟩ := Dp.reads J d x v hd rx
  rw [Bool.false_bne] at q
  rcases he with he | he
  · obtain ⟨bs, r2⟩ := Dp.reads J (.list ds) y u he ry
    exact SeqAt.in_list_reads r2 r1 se (SeqAt.canLay_of_shaped sd) (room_of sd hu) ⟨.bl _, H, J, rfl, q⟩
  · obtain ⟨bs, r2⟩ := Dp.reads J (.tuple ds) y u he ry
    exact SeqAt.in_tuple_reads r2 r1 se (SeqAt.canLay_of_shaped sd) (room_of sd hu) ⟨.bl _, H, J, rfl, q⟩
theorem op_notInA (hu : X.A.units + 65 < cLine) : OpR X (compareOp .NotIn) (rInA X.K true) := by
  intro pins s sgq H x y v u Q J rx ry h
  obtain ⟨d, ds, hd, he, sd, se, q⟩ := id h
  obtain ⟨as, r1⟩ := Dp.reads J d x v hd rx
  rw [Bool.true_bne] at q
  rcases he with he | he
  · obtain ⟨bs, r2⟩ := Dp.reads J (.list ds) y u he ry
    exact SeqAt.notIn_list_reads r2 r1 se (SeqAt.canLay_of_shaped sd) (room_of sd hu) ⟨.bl _, H, J, rfl, q⟩
  · obtain ⟨bs, r2⟩ := Dp.reads J (.tuple ds) y u he ry
    exact SeqAt.notIn_tuple_reads r2 r1 se (SeqAt.canLay_of_shaped sd) (room_of sd hu) ⟨.bl _, H, J, rfl, q⟩
/-- keys -/
def D.key : D → Option Key
  | .int i => some (.inl i)
  | .str x => some (.inr x)
  | _ => none
def D.keys : D → Option (List Key)
  | .tup (x :: xs) => optAll D.key (x :: xs)
  | _ => none
def getK {κ α : Type} [DecidableEq κ] (kvs : List (κ × α)) (k : κ) : Option α := (kvs.find? fun kv => decide (kv.1 = k)).map (·.2)
inductive ObD where
  | K (kvs : List (Key × Val)) | T (kvs : List (List Key × Val))
def obsD (s : Sg) : Val → Option ObD
  | .d (.dK kvs) => some (.K (kvs.map fun p => (p.1, .d p.2)))
  | .d (.dT kvs) => some (.T (kvs.map fun p => (p.1, .d p.2)))
  | .d _ => none
  | .r n => (match s.Omq[n]? with
    | some (some (.dK kvs)) => some (.K kvs)
    | some (some (.dT kvs)) => some (.T kvs)
    | _ => none)
  | .s i => (match s.rhq[i]? with
    | some (.acc (.dK kvs)) => some (.K kvs)
    | some (.acc (.dT kvs)) => some (.T kvs)
    | some (.v (.d (.dK kvs))) => some (.K (kvs.map fun p => (p.1, .d p.2)))
    | some (.v (.d (.dT kvs))) => some (.T (kvs.map fun p => (p.1, .d p.2)))
    | _ => none)
/-- how an observed dict lies -/
def ObR (K : PySem.W.Frag) (w : Wd) (n : Nat) (a : Addr) : ObD → Prop
  | .K kvs => ∃ kws, Rd w.H a (.dK kws) ∧ kvs.map (·.1) = kws.map (·.1) ∧ RlVs K w n (kvs.map (·.2)) (kws.map (·.2))
  | .T kvs => ∃ kws, Rd w.H a (.dT kws) ∧ kvs.map (·.1) = kws.map (·.1) ∧ RlVs K w n (kvs.map (·.2)) (kws.map (·.2))
theorem obR_d {K : PySem.W.Frag} {w : Wd} {n : Nat} {Omq : List (Option Cell)} {d : D} {v : V} {o : ObD} (S : Sim K w Omq) (r : Rl K w.F d v) (e : (match d with
    | .dK kvs => some (ObD.K (kvs.map fun p => (p.1, Val.d p.2)))
    | .dT kvs => some (ObD.T (kvs.map fun p => (p.1, Val.d p.2)))
    | _ => none) = some o) : ∃ a, v = .ref a ∧ ObR K w n a o := by
  cases r with
  | dK h k rs =>
    rename_i a kvs kws
    cases e
    refine ⟨a, rfl, kws, (S.fz _ _ h).rd, by simpa [List.map_map, Function.comp_def] using k, ?_⟩
    have := rls_V (w := w) (n := n) rs
    simpa [List.map_map, Function.comp_def] using this
  | dT h k rs =>
    rename_i a kvs kws
    cases e
    refine ⟨a, rfl, kws, (S.fz _ _ h).rd, by simpa [List.map_map, Function.comp_def] using k, ?_⟩
    have := rls_V (w := w) (n := n) rs
    simpa [List.map_map, Function.comp_def] using this
  | _ => cases e
theorem obsD_ok {K : PySem.W.Frag} {w : Wd} {s : Sg} {sgq : St} {x : Val} {v : V} {o : ObD} (I : IN K B w s sgq) (r : RlS K w s.Omq.length sgq x v) (e : obsD s x = some o) : ∃ a, v = .ref a ∧ ObR K w s.Omq.length a o := by
  cases x with
  | d d => exact obR_d I.sim r (by cases d <;> exact e)
  | r n =>
    obtain ⟨hn, rfl⟩ := r
    have e : (match s.Omq[n]? with
      | some (some (.dK kvs)) => some (ObD.K kvs)
      | some (some (.dT kvs)) => some (.T kvs)
      | _ => none) = some o := e
    split at e
    · next kvs q =>
      cases e
      obtain ⟨ob, ho, _, hc⟩ := I.sim.cell n _ q
      cases ob with
      | dK kws => exact ⟨_, rfl, kws, .inl ho, hc.1, hc.2⟩
      | _ => exact hc.elim
    · next kvs q =>
      cases e
      obtain ⟨ob, ho, _, hc⟩ := I.sim.cell n _ q
      cases ob with
      | dT kws => exact ⟨_, rfl, kws, .inl ho, hc.1, hc.2⟩
      | _ => exact hc.elim
    · cases e
  | s i =>
    have r : sgq[i]? = some (some v) := r
    have e : (match s.rhq[i]? with
      | some (.acc (.dK kvs)) => some (ObD.K kvs)
      | some (.acc (.dT kvs)) => some (.T kvs)
      | some (.v (.d (.dK kvs))) => some (.K (kvs.map fun p => (p.1, .d p.2)))
      | some (.v (.d (.dT kvs))) => some (.T (kvs.map fun p => (p.1, .d p.2)))
      | _ => none) = some o := e
    split at e
    · next kvs q =>
      cases e
      obtain ⟨a, e1, ⟨ob, ho, hc⟩, _⟩ := I.acc i _ q
      rw [r] at e1; cases e1
      cases ob with
      | dK kws => exact ⟨_, rfl, kws, .inl ho, hc.1, hc.2⟩
      | _ => exact hc.elim
    · next kvs q =>
      cases e
      obtain ⟨a, e1, ⟨ob, ho, hc⟩, _⟩ := I.acc i _ q
      rw [r] at e1; cases e1
      cases ob with
      | dT kws => exact ⟨_, rfl, kws, .inl ho, hc.1, hc.2⟩
      | _ => exact hc.elim
    · next kvs q =>
      cases e
      obtain ⟨u, e1, hr⟩ := I.val i _ q
      rw [r] at e1; cases e1
      exact obR_d I.sim hr rfl
    · next kvs q =>
      cases e
      obtain ⟨u, e1, hr⟩ := I.val i _ q
      rw [r] at e1; cases e1
      exact obR_d I.sim hr rfl
    · cases e
/-- one lookup by both -/
theorem getK_rel {κ : Type} [DecidableEq κ] {K : PySem.W.Frag} {w : Wd} {n : Nat} {k : κ} : ∀ {kvs : List (κ × Val)} {kws : List (κ × V)}, kvs.map (·.1) = kws.map (·.1) → RlVs K w n (kvs.map (·.2)) (kws.map (·.2)) →
    (getK kvs k = none ∧ valV kws k = none) ∨ ∃ x v, getK kvs k = some x ∧ valV kws k = some v ∧ RlV K w n x v
  | [], [], _, _ => .inl ⟨rfl, rfl⟩
  | [], _ :: _, nx, _ => by simp at nx
  | _ :: _, [], nx, _ => by simp at nx
  | (a, x) :: kvs, (b, v) :: kws, h, r => by
    simp only [List.cons.injEq, List.map_cons] at h
    obtain ⟨h1, h2⟩ := h
    subst h1
    cases r with
    | cons ra rb =>
      by_cases hk : a = k
      · refine .inr ⟨x, v, ?_, ?_, ra⟩
        · simp [getK, List.find?_cons, hk]
        · simp [valV, List.find?_cons, hk]
      · have e1 : getK ((a, x) :: kvs) k = getK kvs k := by simp [getK, List.find?_cons, hk]
        have e2 : valV ((a, v) :: kws) k = valV kws k := by simp [valV, List.find?_cons, hk]
        rw [e1, e2]
        exact getK_rel h2 rb
theorem key_ok {K : PySem.W.Frag} {F : Hp} {d : D} {v : V} {k : Key} (r : Rl K F d v) (e : d.key = some k) : v = kV k := by
  cases r <;> cases e <;> rfl
theorem keysL_ok {K : PySem.W.Frag} {F : Hp} : ∀ {ds : List D} {vs : List V} {ks : List Key}, Rls K F ds vs → optAll D.key ds = some ks → vs = ks.map kV
  | [], _, _, .nil, e => by cases e; rfl
  | d :: ds, v :: vs, ks, .cons a b, e => by
    unfold optAll at e
    split at e
    · next k ks' e1 e2 =>
      cases e
      rw [key_ok a e1, keysL_ok b e2]; rfl
    · cases e
/-- what a dict holds at a key, both kinds -/
def obGet (o : ObD) (y : D) : Option (Option Val) := match o with
  | .K kvs => y.key.map fun k => getK kvs k
  | .T kvs => y.keys.map fun k => getK kvs k
theorem obGet_ok {K : PySem.W.Frag} {w : Wd} {s : Sg} {sgq : St} {a : Addr} {o : ObD} {y : D} {u : V} {g : Option Val} (I : IN K B w s sgq) (h : ObR K w s.Omq.length a o) (r : Rl K w.F y u) (e : obGet o y = some g) :
    (g = none ∧ DGet w.H a u none) ∨ ∃ x v, g = some x ∧ DGet w.H a u (some v) ∧ RlV K w s.Omq.length x v := by
  cases o with
  | K kvs =>
    obtain ⟨kws, hr, hk, rs⟩ := h
    obtain ⟨k, ek, rfl⟩ := Option.map_eq_some_iff.mp e
    have hu := key_ok r ek
    rcases getK_rel (k := k) hk rs with ⟨e1, e2⟩ | ⟨x, v, e1, e2, rv⟩
    · exact .inl ⟨e1, .inl ⟨kws, k, hr, hu, e2.symm⟩⟩
    · exact .inr ⟨x, v, e1, .inl ⟨kws, k, hr, hu, e2.symm⟩, rv⟩
  | T kvs =>
    obtain ⟨kws, hr, hk, rs⟩ := h
    obtain ⟨k, ek, rfl⟩ := Option.map_eq_some_iff.mp e
    cases y with
    | tup ds =>
      cases r with
      | tup ha rd =>
        rename_i b vs
        cases ds with
        | nil => cases ek
        | cons d0 ds =>
        have hv := keysL_ok rd ek
        have hb : w.H b = some (.tup (k.map kV)) := by
          have : w.F b = some (.tup (k.map kV)) := by
            rcases ha with ha | ⟨ha, _⟩
            · rw [← hv]; exact ha
            · rw [ha] at rd; cases rd
          rcases I.sim.fz b _ this with q | ⟨q, _⟩
          · exact q
          · cases q
        rcases getK_rel (k := k) hk rs with ⟨e1, e2⟩ | ⟨x, v, e1, e2, rv⟩
        · exact .inl ⟨e1, .inr ⟨kws, k, b, hr, rfl, hb, e2.symm⟩⟩
        · exact .inr ⟨x, v, e1, .inr ⟨kws, k, b, hr, rfl, hb, e2.symm⟩, rv⟩
    | _ => cases ek
end
end G
set_option maxRecDepth 100000
/-! in; isinstance; slices; list methods; truth. -/
namespace G
open PySem PySem.Spec L2
section
variable {X : Cx} {B : Base0} {k : Nat} {e a b c : Expr} {es : List Expr} {m ma mb mc : M Val} {mr : M (List Val)} {pos p apos : Pos}
/-! ### in, not in -/
def rDin (neg : Bool) : R2 := fun x y H Q => ∃ a o, y = .ref a ∧ DGet H a x o ∧ Q (.bl (neg != o.isSome)) H
theorem op_din (hu : X.A.units + 1 < cLine) : OpR X (compareOp .In) (rDin false) := by
  intro pins s sgq H x y v u Q J rx ry h
  obtain ⟨a, o, rfl, g, q⟩ := h
  cases ry
  rw [Bool.false_bne] at q
  exact d_in hu J g rx fun s' J' => ⟨.bl _, H, J', rfl, q⟩
theorem op_dnotin (hu : X.A.units + 1 < cLine) : OpR X (compareOp .NotIn) (rDin true) := by
  intro pins s sgq H x y v u Q J rx ry h
  obtain ⟨a, o, rfl, g, q⟩ := h
  cases ry
  rw [Bool.true_bne] at q
  exact d_notIn hu J g rx fun s' J' => ⟨.bl _, H, J', rfl, q⟩
def inV0 (neg : Bool) (x y : Val) : M Val := fun s => match x, y with
  | .d (.str c), .d (.str z) => (match c.cps.toList with
    | [n] => .ok (.d (.bl (neg != decide (n ∈ z.cps.toList)))) s
    | _ => .stuck)
  | .d x, y => (match obsD s y with
    | some o => (match obGet o x with
      | some g => .ok (.d (.bl (neg != g.isSome))) s
      | none => .stuck)
    | none => (match obsQ s y with
      | some ys => (match allD ys with
        | some ds => if flatD x && ds.all flatD then .ok (.d (.bl (neg != ds.any fun z => eqF z x))) s
          else if x.plain 60 && plainL 60 ds then .ok (.d (.bl (neg != ds.any fun z => eqD z x))) s else .stuck
        | none => .stuck)
      | none => .stuck))
  | _, _ => .stuck
theorem any_eqD (x : D) : ∀ ds : List D, ((pyL ds).any fun z => PyData.eqv z x.py) = ds.any fun z => eqD z x
  | [] => rfl
  | d :: ds => by
    show (PyData.eqv d.py x.py || (pyL ds).any fun z => PyData.eqv z x.py) = _
    rw [any_eqD x ds]; rfl
theorem sign_of {c : Str} {n : Nat} (h : c.cps.toList = [n]) : c = ⟨#[n]⟩ := by
  cases c with
  | mk cps => cases cps with
    | mk l => simp at h; rw [h]
theorem inV_cov {r1 r2 r3 r4 : R2} (neg : Bool) (h1 : r1 = fun x y H Q => ∃ (c : Nat) (z : Str), x = .str ⟨#[c]⟩ ∧ y = .str z ∧ Q (.bl (neg != decide (c ∈ z.cps.toList))) H)
    (h2 : r2 = rDin neg) (h3 : r3 = rIn X.K neg) (h4 : r4 = rInA X.K neg) : Cov2 X.K B (fun x y H Q => r1 x y H Q ∨ r2 x y H Q ∨ r3 x y H Q ∨ r4 x y H Q) (inV0 neg) := fun sgq w s x y v u Q I rx ry h => by
  subst h1; subst h2; subst h3; subst h4
  unfold inV0 at h
  split at h
  · split at h
    · next n hn => cases rx; cases ry; exact .inl ⟨n, _, by rw [sign_of hn], rfl, fin0 I h (.bl _)⟩
    · exact h.elim
  · split at h
    · next o eo =>
      split at h
      · next g eg =>
        obtain ⟨a, rfl, ho⟩ := obsD_ok I ry eo
        rcases obGet_ok I ho rx eg with ⟨rfl, hg⟩ | ⟨z, v', rfl, hg, _⟩
        · exact .inr (.inl ⟨a, none, rfl, hg, fin0 I h (.bl _)⟩)
        · exact .inr (.inl ⟨a, some v', rfl, hg, fin0 I h (.bl _)⟩)
      · exact h.elim
    · split at h
      · next ys ey =>
        split at h
        · next ds ed =>
          obtain ⟨a, us, rfl, hs, rs⟩ := obsQ_ok I ry ey
          rw [allD_eq ed] at rs
          have rs := rlVs_d rs
          split at h
          · next hf =>
            obtain ⟨f1, f2⟩ := Bool.and_eq_true_iff.mp hf
            obtain ⟨g1, g2⟩ := inF_ok rx f1 rs f2
            refine .inr (.inr (.inl ⟨a, us, rfl, hs, flatD_ok rx f1, g1, fin0 I h ?_⟩))
            rw [g2]
            cases neg <;> simp <;> exact .bl _
          · split at h
            · next hp =>
              obtain ⟨p1, p2⟩ := Bool.and_eq_true_iff.mp hp
              have dpx := Rl.dp I.sim rx p1
              have dps := Rls.dp I.sim rs p2
              refine .inr (.inr (.inr ⟨_, pyL ds, dpx, ?_, plain_shaped p1 (by decide), (plainL_lay 60 ds p2).1, fin0 I h ?_⟩))
              · rcases hs with hs | hs
                · exact .inl (.lst hs dps)
                · exact .inr (.tup hs dps)
              · rw [any_eqD]; exact .bl _
            · exact h.elim
        · exact h.elim
      · exact h.elim
  · exact h.elim
theorem o_in (rm : Room k X.A) : OpF X B (compareOp .In) (inV0 false) := by
  refine ⟨_, (OpR.or (r := fun x y H Q => ∃ (c : Nat) (z : Str), x = .str ⟨#[c]⟩ ∧ y = .str z ∧ Q (.bl (false != decide (c ∈ z.cps.toList))) H) ?_ ((op_din (hu_of rm)).or (op_in_seq.or (op_inA (by have := rm.un; omega))))), inV_cov false rfl rfl rfl rfl⟩
  intro pins s sgq H x y v u Q J rx ry h
  obtain ⟨c, z, e1, e2, q⟩ := h
  rw [Bool.false_bne] at q
  exact op_in_sign pins s sgq H x y v u Q J rx ry ⟨c, z, e1, e2, q⟩
theorem o_notIn (rm : Room k X.A) : OpF X B (compareOp .NotIn) (inV0 true) := by
  refine ⟨_, (OpR.or (r := fun x y H Q => ∃ (c : Nat) (z : Str), x = .str ⟨#[c]⟩ ∧ y = .str z ∧ Q (.bl (true != decide (c ∈ z.cps.toList))) H) ?_ ((op_dnotin (hu_of rm)).or (op_notIn_seq.or (op_notInA (by have := rm.un; omega))))), inV_cov true rfl rfl rfl rfl⟩
  intro pins s sgq H x y v u Q J rx ry h
  obtain ⟨c, z, e1, e2, q⟩ := h
  rw [Bool.true_bne] at q
  exact op_notIn_sign pins s sgq H x y v u Q J rx ry ⟨c, z, e1, e2, q⟩
/-! ### a op b op c -/
def chainV (g g' : Val → Val → M Val) (ma mb mc : M Val) : M Val := ma.bind fun x => mb.bind fun y => (g x y).bind fun z => (tst z).bind fun t => if t then mc.bind fun z' => g' y z' else lit (.bl false)
theorem chain_of {K : PySem.W.Frag} {r r' : R2} {g g' : Val → Val → M Val} {sgq : St} {H : Hp} {Q : VK} (c1 : Cov2 K B r g) (c2 : Cov2 K B r' g') (h : tE K B (chainV g g' ma mb mc) sgq H Q) : tChain r r' (tE K B ma) (tE K B mb) (tE K B mc) sgq H Q := by
  obtain ⟨w, s, rfl, I, h⟩ := h
  refine tE.first I h fun x s1 w1 v e1 I1 r1 h1 => ?_
  refine tE.first I1 h1 fun y s2 w2 u e2 I2 r2 h2 => ?_
  refine c1 sgq w2 s2 x y v u _ I2 (r1.ext e2.ext) r2 ((Endz.bind h2).mono fun z s3 w3 e3 I3 h3 v3 r3 => ?_)
  obtain ⟨t, rfl, h3⟩ := tst_ok r3 h3
  refine ⟨t, rfl, ?_⟩
  cases t with
  | false => exact fin0 I3 h3 (.bl _)
  | true => exact tE.first I3 h3 fun z' s4 w4 v4 e4 I4 r4 h4 => c2 sgq w4 s4 y z' u v4 Q I4 (r2.ext (e3.trans e4).ext) r4 h4
theorem fe_chain {op op' : CmpOp} {g g' : Val → Val → M Val} (ho : OpF X B (compareOp op) g) (ho' : OpF X B (compareOp op') g') (ha : FE X B a ma) (hb : FE X B b mb) (hc : FE X B c mc)
    (hm : lastMarks [op, op'] [b, c] = false := by with_unfolding_all rfl) : FE X B (.Compare a [op, op'] [b, c] pos) (chainV g g' ma mb mc) := by
  obtain ⟨r, h1, h2⟩ := ho
  obtain ⟨r', h1', h2'⟩ := ho'
  exact wkE (pe_chain h1 h1' ha hb hc hm) fun sgq H Q h => chain_of h2 h2' h
theorem ft_chain {op op' : CmpOp} {g g' : Val → Val → M Val} (ho : OpF X B (compareOp op) g) (ho' : OpF X B (compareOp op') g') (ha : FE X B a ma) (hb : FE X B b mb) (hc : FE X B c mc)
    (hm : lastMarks [op, op'] [b, c] = false := by with_unfolding_all rfl) : FT X B (.Compare a [op, op'] [b, c] pos) ((chainV g g' ma mb mc).bind tst) := by
  obtain ⟨r, h1, h2⟩ := ho
  obtain ⟨r', h1', h2'⟩ := ho'
  refine wkT (pt_chain h1 h1' ha hb hc hm) fun sgq H Q h => chain_of (B := B) h2 h2' ?_
  obtain ⟨w, s, rfl, I, h⟩ := h
  refine tE.first I h fun x s1 w1 v e1 I1 r1 q => ?_
  unfold tst at q
  split at q
  · cases r1; exact ⟨_, rfl, q w1 (Stx.refl _ _ _) I1⟩
  · exact q.elim
/-! ### truth -/
def truV (x : Val) : M Bool := fun s => match x with
  | .d .non => .ok false s
  | .d (.bl b) => .ok b s
  | .d (.int i) => .ok (i != 0) s
  | .d (.str z) => if z.length ≤ cap then .ok (z.length != 0) s else .stuck
  | x => (match obsQ s x with
    | some xs => .ok (!xs.isEmpty) s
    | none => .stuck)
theorem ft_truth (ha : FE X B a ma) (he : ∀ whole, isTrue a X.env whole = (do let v ← whole; standAt a.pos; holding [v] (truthy v)) := by intro _; rfl) : FT X B a (ma.bind truV) := by
  refine wkT (pt_truth ha he) fun sgq H Q h => ?_
  obtain ⟨w, s, rfl, I, h⟩ := h
  refine tE.first I h fun x s1 w1 v e1 I1 r1 q => ?_
  unfold truV at q
  split at q
  · cases r1; exact ⟨_, rfl, q w1 (Stx.refl _ _ _) I1⟩
  · cases r1; exact ⟨_, rfl, q w1 (Stx.refl _ _ _) I1⟩
  · cases r1; exact ⟨_, rfl, q w1 (Stx.refl _ _ _) I1⟩
  · split at q
    · next z hz =>
      cases r1
      refine ⟨_, ⟨cap_line hz, ?_⟩, q w1 (Stx.refl _ _ _) I1⟩
      have : ∀ n : Nat, (n != 0) = ((n : Int) != 0) := fun n => by cases n <;> rfl
      exact this _
    · exact q.elim
  · split at q
    · next xs ex =>
      obtain ⟨p, us, rfl, hs, rs⟩ := obsQ_ok I1 r1 ex
      have em : (!xs.isEmpty) = !us.isEmpty := by cases rs <;> rfl
      refine ⟨_, ?_, q w1 (Stx.refl _ _ _) I1⟩
      rcases hs with hs | hs
      · exact .inl ⟨us, hs, em⟩
      · exact .inr (.inl ⟨us, hs, em⟩)
    · exact q.elim
/-! ### slices -/
def cutL {α : Type} (xs : List α) (lo hi : Option Int) : List α := (xs.drop (HT.sIx xs.length 0 lo)).take (HT.sIx xs.length xs.length hi - HT.sIx xs.length 0 lo)
theorem Rls.drop {K : PySem.W.Frag} {F : Hp} : ∀ (n : Nat) {ds : List D} {vs : List V}, Rls K F ds vs → Rls K F (ds.drop n) (vs.drop n)
  | 0, _, _, r => r
  | _ + 1, _, _, .nil => .nil
  | n + 1, _, _, .cons _ b => b.drop n
theorem Rls.take {K : PySem.W.Frag} {F : Hp} : ∀ (n : Nat) {ds : List D} {vs : List V}, Rls K F ds vs → Rls K F (ds.take n) (vs.take n)
  | 0, _, _, _ => .nil
  | _ + 1, _, _, .nil => .nil
  | n + 1, _, _, .cons a b => .cons a (b.take n)
theorem Rls.cut {K : PySem.W.Frag} {F : Hp} {ds : List D} {vs : List V} (r : Rls K F ds vs) (lo hi : Option Int) : Rls K F (cutL ds lo hi) (cutV vs lo hi) := by
  unfold cutL cutV
  rw [r.length]
  exact (r.drop _).take _
def partM (m : Option (M Val)) : M (Option Int) := match m with
  | none => M.pure none
  | some m => m.bind fun x s => match x with
    | .d (.int i) => .ok (some i) s
    | _ => .stuck
def tO (K : PySem.W.Frag) (B : Base0) (m : M (Option Int)) : TO := fun sgq H Q => ∃ (w : Wd) (s : Sg), w.H = H ∧ IN K B w s sgq ∧ Endz K B w s sgq (m s) fun o s' w' => Q o w'.H
abbrev FO (X : Cx) (B : Base0) (e : Option Expr) (m : Option (M Val)) : Prop := PO X e (tO X.K B (partM m))
theorem wkO {e : Option Expr} {t t' : TO} (h : PO X e t) (f : ∀ sgq H Q, t' sgq H Q → t sgq H Q) : PO X e t' := ⟨fun pins s sgq H Q I q => h.run pins s sgq H Q I (f sgq H Q q)⟩
theorem fo_none : FO X B none none := wkO po_none fun sgq H Q h => by
  obtain ⟨w, s, rfl, I, h⟩ := h
  exact h w (Stx.refl _ _ _) I
theorem fo_some (h : FE X B e m) : FO X B (some e) (some m) := wkO (po_some h) fun sgq H Q h => by
  obtain ⟨w, s, rfl, I, h⟩ := h
  refine tE.first I h fun x s1 w1 v e1 I1 r1 q => ?_
  split at q
  · cases r1; exact ⟨_, rfl, q w1 (Stx.refl _ _ _) I1⟩
  · exact q.elim
theorem tO.first {β : Type} {K : PySem.W.Frag} {m : M (Option Int)} {sgq : St} {Q : Option Int → Hp → Prop} {k : Option Int → M β} {w : Wd} {s : Sg} {P : β → Sg → Wd → Prop} (I : IN K B w s sgq) (h : Endz K B w s sgq ((m s).bind k) P)
    (f : ∀ b s' w', Stx sgq w s w' s' → IN K B w' s' sgq → Endz K B w' s' sgq (k b s') P → Q b w'.H) : tO K B m sgq w.H Q :=
  ⟨w, s, rfl, I, (Endz.bind h).mono fun x s' w' e I' q => f x s' w' e I' q⟩
def cutF (x : Val) (lo hi : Option Int) : M Val := fun s => match x with
  | .d (.str z) => if z.length ≤ cap then .ok (.d (.str (L2.cutS z lo hi))) s else .stuck
  | .d (.tup xs) => if HT.sIx xs.length 0 lo = 0 ∧ HT.sIx xs.length xs.length hi = xs.length then .stuck else .ok (.d (.tup (cutL xs lo hi))) s
  | x => (match obsL s x with
    | some xs => (match allD xs with
      | some ds => .ok (.d (.lst (cutL ds lo hi))) s
      | none => .stuck)
    | none => .stuck)
def sliceE (m : M Val) (ml mh : Option (M Val)) : M Val := m.bind fun x => (partM ml).bind fun lo => (partM mh).bind fun hi => cutF x lo hi
theorem fe_slice {lo hi : Option Expr} {ml mh : Option (M Val)} {p2 : Pos} (he : FE X B e m) (hl : FO X B lo ml) (hh : FO X B hi mh) : FE X B (.Subscript e (.Slice lo hi none p2) pos) (sliceE m ml mh) := by
  refine wkE (pe_slice (sl_str.or (sl_tup.or sl_list)) he hl hh) fun sgq H Q h => ?_
  obtain ⟨w, s, rfl, I, h⟩ := h
  refine tE.first I h fun x s1 w1 v e1 I1 r1 h1 => ?_
  refine tO.first I1 h1 fun lo s2 w2 e2 I2 h2 => ?_
  refine tO.first I2 h2 fun hi s3 w3 e3 I3 h3 => ?_
  have r3 := r1.ext (e2.trans e3).ext
  unfold cutF at h3
  split at h3
  · split at h3
    · next hz => cases r3; exact .inl ⟨_, rfl, cap_line hz, fin0 I3 h3 (.str _)⟩
    · exact h3.elim
  · next xs =>
    split at h3
    · exact h3.elim
    · next hz =>
      cases r3 with
      | tup ha rs =>
        refine .inr (.inl ⟨_, _, rfl, sqT_up I3.sim ha, ?_, fun p hp => new_t I3 (rs.cut lo hi) h3 hp⟩)
        rw [← rs.length]; exact hz
  · split at h3
    · next xs ex =>
      split at h3
      · next ds ed =>
        obtain ⟨a, us, rfl, hs, rs⟩ := obsL_ok I3 r3 ex
        rw [allD_eq ed] at rs
        exact .inr (.inr ⟨a, us, rfl, .inl hs, fun p hp => new_l I3 ((rlVs_d rs).cut lo hi) h3 hp⟩)
      · exact h3.elim
    · exact h3.elim
/-! ### methods that change a list: of a slot's own, of a cell -/
/-- a change of the list x, by f: the new items and the answer -/
def chgL (x : Val) (f : List Val → Option (List Val × Val)) : M Val := fun s => match x with
  | .r n => (match s.Omq[n]? with
    | some (some (.lst xs)) => (match f xs with
      | some (ys, z) => .ok z { s with Omq := s.Omq.set n (some (.lst ys)) }
      | none => .stuck)
    | _ => .stuck)
  | .s i => (match s.rhq[i]? with
    | some (.acc (.lst xs)) => (match f xs with
      | some (ys, z) => .ok z { s with rhq := s.rhq.set i (.acc (.lst ys)) }
      | none => .stuck)
    | _ => .stuck)
  | _ => .stuck
theorem chgL_ok {K : PySem.W.Frag} {w : Wd} {s : Sg} {sgq : St} {x : Val} {v : V} {f : List Val → Option (List Val × Val)} {P : Val → Sg → Wd → Prop} (I : IN K B w s sgq) (r : RlS K w s.Omq.length sgq x v) (h : Endz K B w s sgq (chgL x f s) P) :
    ∃ a xs vs ys z, v = .ref a ∧ w.H a = some (.lst vs) ∧ RlVs K w s.Omq.length xs vs ∧ f xs = some (ys, z) ∧
      ∀ us, RlVs K w s.Omq.length ys us → ∃ s' w', w'.H = upd w.H a (.lst us) ∧ Stx sgq w s w' s' ∧ IN K B w' s' sgq ∧ P z s' w' := by
  unfold chgL at h
  split at h
  · next n =>
    obtain ⟨hn, rfl⟩ := r
    split at h
    · next xs e =>
      split at h
      · next ys z ef =>
        obtain ⟨o, ho, _, hc⟩ := I.sim.cell n _ e
        cases o with
        | lst vs =>
          refine ⟨_, xs, vs, ys, z, rfl, ho, hc, ef, fun us ru => ?_⟩
          obtain ⟨J, st⟩ := I.put_cell (c' := .lst ys) (o := .lst us) e ru
          exact ⟨_, _, rfl, st, J, h _ st J⟩
        | _ => exact hc.elim
      · exact h.elim
    · exact h.elim
  · next i =>
    have r : sgq[i]? = some (some v) := r
    split at h
    · next xs e =>
      split at h
      · next ys z ef =>
        obtain ⟨a, e1, ⟨o, ho, hc⟩, _⟩ := I.acc i _ e
        rw [r] at e1; cases e1
        cases o with
        | lst vs =>
          refine ⟨a, xs, vs, ys, z, rfl, ho, hc, ef, fun us ru => ?_⟩
          obtain ⟨J, st⟩ := I.put_acc (c' := .lst ys) (o := .lst us) e r ru
          exact ⟨_, _, rfl, st, J, h _ st J⟩
        | _ => exact hc.elim
      · exact h.elim
    · exact h.elim
  · exact h.elim
/-- the list is a list: for the method's lookup -/
def isL (x : Val) : M Unit := fun s => match obsL s x with
  | some _ => .ok () s
  | none => .stuck
theorem isL_ok {K : PySem.W.Frag} {β : Type} {w : Wd} {s : Sg} {sgq : St} {x : Val} {v : V} {k : Unit → M β} {P : β → Sg → Wd → Prop} (I : IN K B w s sgq) (r : RlS K w s.Omq.length sgq x v) (h : Endz K B w s sgq ((isL x s).bind k) P) : tyV K "list" v w.H ∧ Endz K B w s sgq (k () s) P := by
  unfold isL at h
  split at h
  · next xs e =>
    obtain ⟨a, us, rfl, hs, rs⟩ := obsL_ok I r e
    exact ⟨.inl ⟨rfl, us, .inl hs⟩, h⟩
  · exact h.elim
/-- o.m(args) of a list: g by the list and the arguments (handed on) -/
def metE (m : M Val) (mr : M (List Val)) (g : Val → List Val → M Val) : M Val := m.bind fun x => (isL x).bind fun _ => mr.bind fun xs => g x xs
def CovM (K : PySem.W.Frag) (B : Base0) (r : V → List V → Hp → VK → Prop) (g : Val → List Val → M Val) : Prop :=
  ∀ (sgq : St) (w : Wd) (s : Sg) (x : Val) (xs : List Val) (v : V) (vs : List V) (Q : VK), IN K B w s sgq → RlS K w s.Omq.length sgq x v → RlVs K w s.Omq.length xs vs → EndsV K B w s sgq (g x xs s) Q → r v vs w.H Q
theorem fe_met {name : Str} {id : String} {r : V → List V → Hp → VK → Prop} {g : Val → List Val → M Val} (slot : PySem.Slot "list" name id) (hty : typeOf (.builtin id) = pure (.type "method_descriptor")) (hm : MtR X id r) (cv : CovM X.K B r g) (ho : FE X B a ma) (ha : FAp X B (e :: es) mr)
    (hbase : attributeBase a name X.env (eval a X.env) = eval a X.env := by rfl)
    (hfew : ((backTo pos (starEach (e :: es) X.env)).all (fun x => !x.1) && (backToKw pos (keywordEach [] X.env)).all (fun x => x.1.isSome) && decide ((e :: es).length + ([] : List Keyword).length + (if ([] : List Keyword).isEmpty then 0 else 1) < 30)) = true := by rfl)
    (hline : (apos.endLine == pos.line) = true := by rfl) (he : starEach (e :: es) X.env = (false, eval e X.env) :: starEach es X.env := by rfl) (hpl : (backTo pos (starEach es X.env)).any (·.1) = false := by rfl) :
    FE X B (.Call (.Attribute a name apos) (e :: es) [] pos) (metE ma mr g) := by
  refine wkE (pe_bm PySem.F.plainAttrs_list slot hty hm ho ha hbase hfew hline he hpl) fun sgq H Q h => ?_
  obtain ⟨w, s, rfl, I, h⟩ := h
  refine tE.first I h fun x s1 w1 v e1 I1 r1 h1 => ?_
  obtain ⟨ty, h1⟩ := isL_ok I1 r1 h1
  refine ⟨ty, tAp.first I1 h1 fun xs s2 w2 vs e2 I2 r2 q => ?_⟩
  exact cv sgq w2 s2 x xs v vs Q I2 (r1.ext e2.ext) r2 q
theorem fe_met0 {name : Str} {id : String} {r : V → List V → Hp → VK → Prop} {g : Val → List Val → M Val} (slot : PySem.Slot "list" name id) (hty : typeOf (.builtin id) = pure (.type "method_descriptor")) (hm : MtR X id r) (cv : CovM X.K B r g) (ho : FE X B a ma)
    (hbase : attributeBase a name X.env (eval a X.env) = eval a X.env := by rfl) (hline : (apos.endLine == pos.line) = true := by rfl) :
    FE X B (.Call (.Attribute a name apos) [] [] pos) (metE ma (M.pure []) g) := by
  refine wkE (pe_bm0 PySem.F.plainAttrs_list slot hty hm ho hbase hline) fun sgq H Q h => ?_
  obtain ⟨w, s, rfl, I, h⟩ := h
  refine tE.first I h fun x s1 w1 v e1 I1 r1 h1 => ?_
  obtain ⟨ty, h1⟩ := isL_ok I1 r1 h1
  exact ⟨ty, cv sgq w1 s1 x [] v [] Q I1 r1 .nil h1⟩
/-- append -/
def appM (x : Val) (xs : List Val) : M Val := fun s => match xs with
  | [y] => chgL x (fun l => if l.length < cap then some (l ++ [y], .d .non) else none) s
  | _ => .stuck
theorem cv_app : CovM X.K B rAppend appM := fun sgq w s x xs v vs Q I r rs h => by
  unfold appM at h
  split at h
  · cases rs with
    | cons ry rz =>
      cases rz
      obtain ⟨a, l, us, ys, z, rfl, ha, rl, ef, k⟩ := chgL_ok I r h
      split at ef
      · next hz =>
        cases ef
        obtain ⟨s', w', hw, _, J, q⟩ := k _ (rl.append (.cons ry .nil))
        refine ⟨a, us, _, rfl, rfl, ha, by rw [← rl.length]; exact cap_lt hz, ?_⟩
        rw [← hw]; exact q .non Rl.non
      · cases ef
  · exact h.elim
theorem fe_append (ho : FE X B a ma) (ha : FAp X B [e] mr) (hbase : attributeBase a "append" X.env (eval a X.env) = eval a X.env := by rfl)
    (hfew : ((backTo pos (starEach [e] X.env)).all (fun x => !x.1) && (backToKw pos (keywordEach [] X.env)).all (fun x => x.1.isSome) && decide ([e].length + ([] : List Keyword).length + (if ([] : List Keyword).isEmpty then 0 else 1) < 30)) = true := by rfl)
    (hline : (apos.endLine == pos.line) = true := by rfl) (he : starEach [e] X.env = (false, eval e X.env) :: starEach [] X.env := by rfl) (hpl : (backTo pos (starEach [] X.env)).any (·.1) = false := by rfl) :
    FE X B (.Call (.Attribute a "append" apos) [e] [] pos) (metE ma mr appM) := fe_met PySem.F.slot_list_append PySem.F.type_list_append mt_append cv_app ho ha hbase hfew hline he hpl
/-- pop(i), pop() -/
theorem RlVs.erase {K : PySem.W.Frag} {w : Wd} {n : Nat} : ∀ (i : Nat) {xs : List Val} {vs : List V}, RlVs K w n xs vs → RlVs K w n (xs.eraseIdx i) (vs.eraseIdx i)
  | _, _, _, .nil => .nil
  | 0, _, _, .cons _ b => b
  | i + 1, _, _, .cons a b => .cons a (b.erase i)
def popM (x : Val) (xs : List Val) : M Val := fun s => match xs with
  | [.d (.int i)] => chgL x (fun l => match ixN l.length i with
    | some k => (match l[k]? with
      | some y => if -1000000 ≤ i ∧ i ≤ 1000000 then some (l.eraseIdx k, y) else none
      | none => none)
    | none => none) s
  | _ => .stuck
theorem cv_pop : CovM X.K B rPopAt popM := fun sgq w s x xs v vs Q I r rs h => by
  unfold popM at h
  split at h
  · next i =>
    cases rs with
    | cons ry rz =>
      cases rz; cases ry
      obtain ⟨a, l, us, ys, z, rfl, ha, rl, ef, k⟩ := chgL_ok I r h
      split at ef
      · next j ej =>
        split at ef
        · next y ey =>
          split at ef
          · next hz =>
            cases ef
            obtain ⟨v, ev, rv⟩ := rl.at ey
            obtain ⟨s', w', hw, st, J, q⟩ := k _ (rl.erase j)
            obtain ⟨q1, q2, q3, q4⟩ := ixN_seq ej
            have hl := rl.length
            refine ⟨a, us, i, j, v, rfl, rfl, ha, by omega, by omega, by rw [← hl]; exact q1, ev, ?_⟩
            rw [← hw]; exact q v (RlS.of (rv.ext st.ext))
          · cases ef
        · cases ef
      · cases ef
  · exact h.elim
theorem fe_pop (ho : FE X B a ma) (ha : FAp X B [e] mr) (hbase : attributeBase a "pop" X.env (eval a X.env) = eval a X.env := by rfl)
    (hfew : ((backTo pos (starEach [e] X.env)).all (fun x => !x.1) && (backToKw pos (keywordEach [] X.env)).all (fun x => x.1.isSome) && decide ([e].length + ([] : List Keyword).length + (if ([] : List Keyword).isEmpty then 0 else 1) < 30)) = true := by rfl)
    (hline : (apos.endLine == pos.line) = true := by rfl) (he : starEach [e] X.env = (false, eval e X.env) :: starEach [] X.env := by rfl) (hpl : (backTo pos (starEach [] X.env)).any (·.1) = false := by rfl) :
    FE X B (.Call (.Attribute a "pop" apos) [e] [] pos) (metE ma mr popM) := fe_met PySem.F.slot_list_pop PySem.F.type_list_pop mt_popAt cv_pop ho ha hbase hfew hline he hpl
theorem RlVs.dropLast {K : PySem.W.Frag} {w : Wd} {n : Nat} : ∀ {xs : List Val} {vs : List V}, RlVs K w n xs vs → RlVs K w n xs.dropLast vs.dropLast
  | _, _, .nil => .nil
  | _, _, .cons _ .nil => .nil
  | _, _, .cons a (.cons b c) => .cons a (RlVs.dropLast (.cons b c))
def pop0M (x : Val) (xs : List Val) : M Val := fun s => match xs with
  | [] => chgL x (fun l => match l[l.length - 1]? with
    | some y => some (l.dropLast, y)
    | none => none) s
  | _ => .stuck
theorem cv_pop0 : CovM X.K B rPop pop0M := fun sgq w s x xs v vs Q I r rs h => by
  unfold pop0M at h
  split at h
  · cases rs
    obtain ⟨a, l, us, ys, z, rfl, ha, rl, ef, k⟩ := chgL_ok I r h
    split at ef
    · next y ey =>
      cases ef
      rw [rl.length] at ey
      obtain ⟨v, ev, rv⟩ := rl.at ey
      obtain ⟨s', w', hw, st, J, q⟩ := k _ rl.dropLast
      refine ⟨a, us, v, rfl, rfl, ha, ev, ?_⟩
      rw [← hw]; exact q v (RlS.of (rv.ext st.ext))
    · cases ef
  · exact h.elim
theorem fe_pop0 (ho : FE X B a ma) (hbase : attributeBase a "pop" X.env (eval a X.env) = eval a X.env := by rfl) (hline : (apos.endLine == pos.line) = true := by rfl) :
    FE X B (.Call (.Attribute a "pop" apos) [] [] pos) (metE ma (M.pure []) pop0M) := fe_met0 PySem.F.slot_list_pop PySem.F.type_list_pop mt_pop cv_pop0 ho hbase hline
theorem RlVs.drop {K : PySem.W.Frag} {w : Wd} {n : Nat} : ∀ (i : Nat) {xs : List Val} {vs : List V}, RlVs K w n xs vs → RlVs K w n (xs.drop i) (vs.drop i)
  | 0, _, _, r => r
  | _ + 1, _, _, .nil => .nil
  | i + 1, _, _, .cons _ b => b.drop i
theorem RlVs.take {K : PySem.W.Frag} {w : Wd} {n : Nat} : ∀ (i : Nat) {xs : List Val} {vs : List V}, RlVs K w n xs vs → RlVs K w n (xs.take i) (vs.take i)
  | 0, _, _, _ => .nil
  | _ + 1, _, _, .nil => .nil
  | i + 1, _, _, .cons a b => .cons a (b.take i)
def insM (x : Val) (xs : List Val) : M Val := fun s => match xs with
  | [.d (.int i), y] => chgL x (fun l => if l.length < cap ∧ 0 ≤ i ∧ i ≤ 1000000 then some (l.take i.toNat ++ [y] ++ l.drop i.toNat, .d .non) else none) s
  | _ => .stuck
theorem cv_ins : CovM X.K B (fun x vs H Q => ∃ (l : Addr) (xs : List V) (i : Int) (y : V), x = .ref l ∧ vs = [.int i, y] ∧ H l = some (.lst xs) ∧ xs.length < sizeLine ∧ 0 ≤ i ∧ i < 2 ^ 63 ∧ Q .non (upd H l (.lst (xs.take i.toNat ++ [y] ++ xs.drop i.toNat)))) insM := fun sgq w s x xs v vs Q I r rs h => by
  unfold insM at h
  split at h
  · next i y =>
    cases rs with
    | cons ri rz =>
      cases rz with
      | cons ry rz =>
        cases rz; cases ri
        obtain ⟨a, l, us, ys, z, rfl, ha, rl, ef, k⟩ := chgL_ok I r h
        split at ef
        · next hz =>
          cases ef
          obtain ⟨s', w', hw, st, J, q⟩ := k _ (((rl.take i.toNat).append (.cons ry .nil)).append (rl.drop i.toNat))
          refine ⟨a, us, i, _, rfl, rfl, ha, by rw [← rl.length]; exact cap_lt hz.1, hz.2.1, by omega, ?_⟩
          rw [← hw]; exact q .non Rl.non
        · cases ef
  · exact h.elim
theorem fe_insert {e2 : Expr} (ho : FE X B a ma) (ha : FAp X B [e, e2] mr) (hbase : attributeBase a "insert" X.env (eval a X.env) = eval a X.env := by rfl)
    (hfew : ((backTo pos (starEach [e, e2] X.env)).all (fun x => !x.1) && (backToKw pos (keywordEach [] X.env)).all (fun x => x.1.isSome) && decide ([e, e2].length + ([] : List Keyword).length + (if ([] : List Keyword).isEmpty then 0 else 1) < 30)) = true := by rfl)
    (hline : (apos.endLine == pos.line) = true := by rfl) (he : starEach [e, e2] X.env = (false, eval e X.env) :: starEach [e2] X.env := by rfl) (hpl : (backTo pos (starEach [e2] X.env)).any (·.1) = false := by rfl) :
    FE X B (.Call (.Attribute a "insert" apos) [e, e2] [] pos) (metE ma mr insM) := fe_met PySem.F.slot_list_insert PySem.F.type_list_insert mt_insert cv_ins ho ha hbase hfew hline he hpl
/-! ### x[i] = e -/
def setItem' (x y z : Val) : M Val := fun s => match y with
  | .d (.int i) => chgL x (fun l => match ixN l.length i with
    | some j => some (l.set j z, .d .non)
    | none => none) s
  | _ => .stuck
def setIx (mv mo mi : M Val) : M Fl := (fzM mv).bind fun z => mo.bind fun x => mi.bind fun y => (setItem' x y z).bind fun _ => M.pure .nx
theorem RlVs.set {K : PySem.W.Frag} {w : Wd} {n : Nat} {x : Val} {v : V} (r : RlV K w n x v) : ∀ (i : Nat) {xs : List Val} {vs : List V}, RlVs K w n xs vs → RlVs K w n (xs.set i x) (vs.set i v)
  | _, _, _, .nil => .nil
  | 0, _, _, .cons _ b => .cons r b
  | i + 1, _, _, .cons a b => .cons a (b.set r i)
theorem fs_setIx {o i v : Expr} {mo mi mv : M Val} {tpos : Pos} (hv : FE X B v mv) (ho : FE X B o mo) (hi : FE X B i mi)
    (ha : ∀ u, assign (.Subscript o i tpos) X.env u = (do
      let ou ← holding [u] (eval o X.env)
      let iu ← holding [u, ou] (eval i X.env)
      standAt tpos
      holding [u, ou, iu] (setItem ou iu u)
      release [u, ou, iu] []) := by intro _; rfl)
    (hs : swapsWithSole [.Subscript o i tpos] v pos.line X.env = pure false := by rfl) (hw : swappedStores [.Subscript o i tpos] v X.env = pure none := by rfl) (h1 : (assignEach [.Subscript o i tpos] X.env).map (·.2) = [assign (.Subscript o i tpos) X.env] := by rfl) :
    FS X B (.Assign [.Subscript o i tpos] v pos) (setIx mv mo mi) := by
  refine wkS (ps_asg hv (pg_sub ho hi set_list ha) hs hw h1) fun D sgq H h => ?_
  obtain ⟨w, s, rfl, I, h⟩ := h
  refine tE.fzS I h fun z s1 w1 vz e1 I1 r1 h1 => ?_
  refine ⟨w1, s1, rfl, I1, tE.stmt h1 fun x s2 w2 e2 I2 h2 vx r2 => ?_⟩
  refine ⟨w2, s2, rfl, I2, tE.stmt h2 fun y s3 w3 e3 I3 h3 vy r3 => ?_⟩
  have h3 : Endz X.K B w3 s3 sgq (setItem' x y z s3) (fun _ s' w' => D.nx sgq w'.H) := tE.stmt h3 fun _ s' w' _ I' q => q w' sgq (Ext.refl _ _) I'
  have rz := r1.ext (e2.trans e3).ext
  have rx := r2.ext e3.ext
  unfold setItem' at h3
  split at h3
  · next j _ =>
    obtain ⟨a, l, us, ys, zz, rfl, ha, rl, ef, k⟩ := chgL_ok I3 rx h3
    split at ef
    · next n en =>
      cases ef
      cases r3
      obtain ⟨s', w', hw, st, J, q⟩ := k _ (rl.set rz n)
      refine ⟨a, us, j, n, rfl, rfl, ha, by rw [← rl.length]; exact en, ?_⟩
      rw [← hw]; exact q
    · cases ef
  · exact h3.elim
end
end G
set_option maxRecDepth 100000
/-! isinstance; instances: fields, methods, making. -/
namespace G
open PySem PySem.Spec L2
/-! ### kinds -/
inductive Kd where
  | non | bl | int | str | tup | lst | dct
inductive Ty where
  | bl | int | str | tup | lst
def Kd.nm : Kd → String
  | .non => "NoneType"
  | .bl => "bool"
  | .int => "int"
  | .str => "str"
  | .tup => "tuple"
  | .lst => "list"
  | .dct => "dict"
def Ty.nm : Ty → String
  | .bl => "bool"
  | .int => "int"
  | .str => "str"
  | .tup => "tuple"
  | .lst => "list"
def isK : Kd → Ty → Bool
  | .bl, .bl => true
  | .bl, .int => true
  | .int, .int => true
  | .str, .str => true
  | .tup, .tup => true
  | .lst, .lst => true
  | _, _ => false
theorem isK_ok (k : Kd) (t : Ty) : kitB k.nm t.nm = some (isK k t) := by
  cases k <;> cases t <;> decide +kernel
def kindD : D → Option Kd
  | .non => some .non
  | .bl _ => some .bl
  | .int _ => some .int
  | .str _ => some .str
  | .tup _ => some .tup
  | .tupB _ => none
  | .lst _ => some .lst
  | .dK _ => some .dct
  | .dT _ => some .dct
  | .ins _ _ => none
def kindC : Cell → Option Kd
  | .lst _ => some .lst
  | .dK _ => some .dct
  | .dT _ => some .dct
  | .ins _ _ => none
def kindV (s : Sg) : Val → Option Kd
  | .d x => kindD x
  | .r n => (match s.Omq[n]? with
    | some (some c) => kindC c
    | _ => none)
  | .s i => (match s.rhq[i]? with
    | some (.acc c) => kindC c
    | _ => none)
section
variable {K : PySem.W.Frag} {B : Base0} {sgq : St} {w : Wd} {s : Sg} {x : Val} {v : V} {k : Kd}
theorem kindC_ok {n : Nat} {c : Cell} {o : HO} {a : Addr} (hc : CellR K w n c o) (ho : w.H a = some o) (e : kindC c = some k) : TyX K w.H (.ref a) (.type k.nm) := by
  cases c with
  | lst xs => cases e; cases o with
    | lst vs => exact .base (.lst ho)
    | _ => exact hc.elim
  | dK xs => cases e; cases o with
    | dK vs => exact .base (.dK ho)
    | _ => exact hc.elim
  | dT xs => cases e; cases o with
    | dT vs => exact .base (.dT ho)
    | _ => exact hc.elim
  | ins _ _ => cases e
theorem kindD_ok {Omq : List (Option Cell)} {d : D} (S : Sim K w Omq) (r : Rl K w.F d v) (e : kindD d = some k) (ndT : ∀ kvs, d ≠ .dT kvs) : TyX K w.H v (.type k.nm) := by
  cases r with
  | non => cases e; exact .base .non
  | bl b => cases e; exact .base (.bl b)
  | int b => cases e; exact .base (.int b)
  | str b => cases e; exact .base (.str b)
  | tup h _ =>
    cases e
    rcases h with h | ⟨rfl, o, its, n, h1, h2, _⟩
    · rcases S.fz _ _ h with q | ⟨q, _⟩
      · exact .base (.tup q)
      · cases q
    · exact .kTuple h1 h2
  | tupB _ _ _ => cases e
  | lst h _ =>
    cases e
    rcases S.fz _ _ h with q | ⟨_, o, q⟩
    · exact .base (.lst q)
    · exact .base (.frz q)
  | dK h _ _ =>
    cases e
    rcases S.fz _ _ h with q | ⟨_, o, q⟩
    · exact .base (.dK q)
    · exact .fDict q
  | dT h _ _ => exact absurd rfl (ndT _)
  | ins _ _ _ => cases e
end
def isiV (f : Kd → Bool) (x : Val) : M Val := fun s => match x with
  | .d (.dT _) => .stuck
  | x => (match kindV s x with
    | some k => .ok (.d (.bl (f k))) s
    | none => .stuck)
theorem isiV_ok {K : PySem.W.Frag} {B : Base0} {sgq : St} {w : Wd} {s : Sg} {x : Val} {v : V} {f : Kd → Bool} {Q : VK} (I : IN K B w s sgq) (r : RlS K w s.Omq.length sgq x v) (h : EndsV K B w s sgq (isiV f x s) Q) :
    ∃ k : Kd, TyX K w.H v (.type k.nm) ∧ ∀ H', Sub w.H H' → Q (.bl (f k)) H' := by
  unfold isiV at h
  split at h
  · exact h.elim
  · next nx =>
    split at h
    · next k e =>
      refine ⟨k, ?_, fun H' sb => ?_⟩
      · cases x with
        | d y => exact kindD_ok I.sim r e fun kvs z => nx kvs (by rw [z])
        | r n =>
          obtain ⟨_, rfl⟩ := r
          have e : (match s.Omq[n]? with
            | some (some c) => kindC c
            | _ => none) = some k := e
          split at e
          · next c q =>
            obtain ⟨o, ho, _, hc⟩ := I.sim.cell n _ q
            exact kindC_ok hc ho e
          · cases e
        | s i =>
          have r : sgq[i]? = some (some v) := r
          have e : (match s.rhq[i]? with
            | some (.acc c) => kindC c
            | _ => none) = some k := e
          split at e
          · next c q =>
            obtain ⟨a, e1, ⟨o, ho, hc⟩, _⟩ := I.acc i _ q
            rw [r] at e1; cases e1
            exact kindC_ok hc ho e
          · cases e
      · obtain ⟨J, st⟩ := I.grow sb
        exact h _ st J (.bl (f k)) (Rl.bl _)
    · exact h.elim
theorem tyO_sub {K : PySem.W.Frag} {H H' : Hp} {v : V} {t : Value} (sb : Sub H H') (h : TyOf K H v t) : TyOf K H' v t := by
  cases h with
  | non => exact .non
  | bl b => exact .bl b
  | int b => exact .int b
  | str b => exact .str b
  | flt b => exact .flt b
  | lst q => exact .lst (sb _ _ q)
  | frz q => exact .frz (sb _ _ q)
  | tup q => exact .tup (sb _ _ q)
  | dK q => exact .dK (sb _ _ q)
  | dT q => exact .dT (sb _ _ q)
  | ins q a b c d f => exact .ins (sb _ _ q) a b c d f
theorem tyX_sub {K : PySem.W.Frag} {H H' : Hp} {v : V} {t : Value} (sb : Sub H H') (h : TyX K H v t) : TyX K H' v t := by
  cases h with
  | base h => exact .base (tyO_sub sb h)
  | byt b => exact .byt b
  | set q => exact .set (sb _ _ q)
  | kList q c => exact .kList q c
  | kTuple q c => exact .kTuple q c
  | kDict q c => exact .kDict q c
  | fTuple q => exact .fTuple (sb _ _ q)
  | fDict q => exact .fDict (sb _ _ q)
section
variable {X : Cx} {B : Base0} {e a : Expr} {es : List Expr} {m ma : M Val} {mr mk : M (List Val)} {pos p p1 p2 apos : Pos} {k : Nat}
/-- isinstance(e, T) -/
theorem fe_isi (T : Ty) {x : Str} (he : FE X B e m) (hm : X.mg "isinstance" = none) (ht : X.mg x = none) (hb : bootBuiltins x = some (.type T.nm)) (hg : Gl X "isinstance" := by rfl) (hx : Gl X x := by rfl) (hn : x ≠ "__name__" := by decide) (hd : (x == ("__debug__" : Str)) = false := by decide)
    (st : starEach [e, .Name x p1] X.env = (false, eval e X.env) :: starEach [.Name x p1] X.env := by rfl) (st2 : starEach [.Name x p1] X.env = (false, eval (.Name x p1) X.env) :: starEach [] X.env := by rfl) (np : (backTo pos (starEach [.Name x p1] X.env)).any (·.1) = false := by rfl) :
    FE X B (.Call (.Name "isinstance" p) [e, .Name x p1] [] pos) (m.bind (isiV fun k => isK k T)) := by
  refine wkE (pe_callB call_isi hg hm (by decide +kernel) (pa_cons he (pa_cons (pe_bltn (v := .ty T.nm) hx ht hb rfl hn hd) pa_nil st2) st) (by decide) (by decide) st np) fun sgq H Q h => ?_
  obtain ⟨w, s, rfl, I, h⟩ := h
  refine tE.first I h fun y s1 w1 v e1 I1 r1 h1 => ?_
  obtain ⟨kd, ty, q⟩ := isiV_ok I1 r1 h1
  exact ⟨v, .ty T.nm, _, _, _, rfl, .ty _, ty, kit_ty (isK_ok kd T), q _ (Sub.refl _)⟩
/-- isinstance(e, (T, U)) -/
theorem fe_isi2 (T U : Ty) {x y : Str} {kk : Nat} (he : FE X B e m) (hm : X.mg "isinstance" = none) (ht : X.mg x = none) (hb : bootBuiltins x = some (.type T.nm)) (hu : X.mg y = none) (hb2 : bootBuiltins y = some (.type U.nm)) (hg : Gl X "isinstance" := by rfl) (hx : Gl X x := by rfl) (hy : Gl X y := by rfl)
    (hn : x ≠ "__name__" := by decide) (hd : (x == ("__debug__" : Str)) = false := by decide) (hn2 : y ≠ "__name__" := by decide) (hd2 : (y == ("__debug__" : Str)) = false := by decide)
    (st : starEach [e, .Tuple [.Name x p1, .Name y p2] kk apos] X.env = (false, eval e X.env) :: starEach [.Tuple [.Name x p1, .Name y p2] kk apos] X.env := by rfl)
    (st2 : starEach [.Tuple [.Name x p1, .Name y p2] kk apos] X.env = (false, eval (.Tuple [.Name x p1, .Name y p2] kk apos) X.env) :: starEach [] X.env := by rfl)
    (st3 : starEach [.Name x p1, .Name y p2] X.env = (false, eval (.Name x p1) X.env) :: starEach [.Name y p2] X.env := by rfl) (st4 : starEach [.Name y p2] X.env = (false, eval (.Name y p2) X.env) :: starEach [] X.env := by rfl)
    (np : (backTo pos (starEach [.Tuple [.Name x p1, .Name y p2] kk apos] X.env)).any (·.1) = false := by rfl) :
    FE X B (.Call (.Name "isinstance" p) [e, .Tuple [.Name x p1, .Name y p2] kk apos] [] pos) (m.bind (isiV fun k => isK k T || isK k U)) := by
  refine wkE (pe_callB call_isiT hg hm (by decide +kernel) (pa_cons he (pa_cons (pe_tup (pa_cons (pe_bltn (v := .ty T.nm) hx ht hb rfl hn hd) (pa_cons (pe_bltn (v := .ty U.nm) hy hu hb2 rfl hn2 hd2) pa_nil st4) st3)) pa_nil st2) st) (by decide) (by decide) st np) fun sgq H Q h => ?_
  obtain ⟨w, s, rfl, I, h⟩ := h
  refine tE.first I h fun y s1 w1 v e1 I1 r1 h1 => ?_
  obtain ⟨kd, ty, q⟩ := isiV_ok I1 r1 h1
  refine ⟨by show 2 ≤ sizeLine; decide, fun tp htp => ?_⟩
  have sb : Sub w1.H (upd w1.H tp (.tup [.ty T.nm, .ty U.nm])) := Sub.upd htp
  refine ⟨v, tp, _, .type kd.nm, [.type T.nm, .type U.nm], isK kd T || isK kd U, rfl, upd_same, .cons (.ty _) (.cons (.ty _) .nil), tyX_sub sb ty, ?_, q _ sb⟩
  refine kitAny_cons (kit_ty (isK_ok kd T)) (fun f => ?_) (fun t => by rw [t]; rfl)
  rw [f, Bool.false_or]
  refine kitAny_cons (r := isK kd U) (kit_ty (isK_ok kd U)) (fun g => ?_) (fun t => t)
  rw [g]; exact kitAny_nil
/-! ### instances -/
def insV (s : Sg) : Val → Option (Str × List (Str × Val))
  | .d (.ins c fs) => some (c, fs.map fun p => (p.1, .d p.2))
  | .d _ => none
  | .r n => (match s.Omq[n]? with
    | some (some (.ins c fs)) => some (c, fs)
    | _ => none)
  | .s i => (match s.rhq[i]? with
    | some (.acc (.ins c fs)) => some (c, fs)
    | _ => none)
theorem insV_ok {K : PySem.W.Frag} {w : Wd} {s : Sg} {sgq : St} {x : Val} {v : V} {c : Str} {fs : List (Str × Val)} (I : IN K B w s sgq) (r : RlS K w s.Omq.length sgq x v) (e : insV s x = some (c, fs)) :
    ∃ a dx ws, v = .ref a ∧ w.H a = some (.ins (He.ga K c) dx ws) ∧ fs.map (·.1) = ws.map (·.1) ∧ RlVs K w s.Omq.length (fs.map (·.2)) (ws.map (·.2)) := by
  cases x with
  | d d =>
    cases d with
    | ins c' gs =>
      cases e
      cases r with
      | ins h k rs =>
        rename_i a dx ws
        refine ⟨a, dx, ws, rfl, ?_, by simpa [List.map_map, Function.comp_def] using k, ?_⟩
        · rcases I.sim.fz _ _ h with q | ⟨q, _⟩
          · exact q
          · cases q
        · have := rls_V (w := w) (n := s.Omq.length) rs
          simpa [List.map_map, Function.comp_def] using this
    | _ => cases e
  | r n =>
    obtain ⟨_, rfl⟩ := r
    have e : (match s.Omq[n]? with
      | some (some (.ins c fs)) => some (c, fs)
      | _ => none) = some (c, fs) := e
    split at e
    · next q =>
      cases e
      obtain ⟨o, ho, _, hc⟩ := I.sim.cell n _ q
      cases o with
      | ins C dx ws =>
        obtain ⟨h1, h2, h3⟩ := hc
        subst h1
        exact ⟨_, dx, ws, rfl, ho, h2, h3⟩
      | _ => exact hc.elim
    · cases e
  | s i =>
    have r : sgq[i]? = some (some v) := r
    have e : (match s.rhq[i]? with
      | some (.acc (.ins c fs)) => some (c, fs)
      | _ => none) = some (c, fs) := e
    split at e
    · next q =>
      cases e
      obtain ⟨a, e1, ⟨o, ho, hc⟩, _⟩ := I.acc i _ q
      rw [r] at e1; cases e1
      cases o with
      | ins C dx ws =>
        obtain ⟨h1, h2, h3⟩ := hc
        subst h1
        exact ⟨_, dx, ws, rfl, ho, h2, h3⟩
      | _ => exact hc.elim
    · cases e
theorem look_rel {K : PySem.W.Frag} {w : Wd} {n : Nat} {f : Str} : ∀ {fs : List (Str × Val)} {ws : List (Str × V)}, fs.map (·.1) = ws.map (·.1) → RlVs K w n (fs.map (·.2)) (ws.map (·.2)) →
    (fs.lookup f = none ∧ ws.lookup f = none) ∨ ∃ x v, fs.lookup f = some x ∧ ws.lookup f = some v ∧ RlV K w n x v
  | [], [], _, _ => .inl ⟨rfl, rfl⟩
  | [], _ :: _, nx, _ => by simp at nx
  | _ :: _, [], nx, _ => by simp at nx
  | (a, x) :: fs, (b, v) :: ws, h, r => by
    simp only [List.cons.injEq, List.map_cons] at h
    obtain ⟨h1, h2⟩ := h
    subst h1
    cases r with
    | cons ra rb =>
      by_cases hk : f = a
      · exact .inr ⟨x, v, by simp [List.lookup_cons, hk], by simp [List.lookup_cons, hk], ra⟩
      · have hb : (f == a) = false := by simpa using hk
        rw [List.lookup_cons, List.lookup_cons, hb]
        exact look_rel h2 rb
/-- o.f -/
def fldV (c f : Str) (x : Val) : M Val := fun s => match insV s x with
  | some (c', fs) => if c' = c then (match fs.lookup f with
    | some y => .ok y s
    | none => .stuck) else .stuck
  | none => .stuck
theorem fe_fld {f : Str} (c : Str) (cl : Cls X.K (He.ga X.K c)) (na : NoAttr X.K (He.ga X.K c) f) (he : FE X B e m) (hb : attributeBase e f X.env (eval e X.env) = eval e X.env := by rfl) : FE X B (.Attribute e f pos) (m.bind (fldV c f)) := by
  refine wkE (pe_fld he hb) fun sgq H Q h => ?_
  obtain ⟨w, s, rfl, I, h⟩ := h
  refine tE.first I h fun x s1 w1 v e1 I1 r1 h1 => ?_
  unfold fldV at h1
  split at h1
  · next c' fs ec =>
    split at h1
    · next hc =>
      subst hc
      split at h1
      · next y ey =>
        obtain ⟨a, dx, ws, rfl, ha, hk, rs⟩ := insV_ok I1 r1 ec
        rcases look_rel (f := f) hk rs with ⟨q, _⟩ | ⟨x', v', q1, q2, rv⟩
        · rw [ey] at q; cases q
        · rw [ey] at q1; cases q1
          exact ⟨a, _, dx, ws, v', rfl, ha, cl, na, q2, h1 w1 (Stx.refl _ _ _) I1 v' (RlS.of rv)⟩
      · exact h1.elim
    · exact h1.elim
  · exact h1.elim
/-- o.f = e -/
def putG (f : Str) (v : Val) : List (Str × Val) → List (Str × Val)
  | [] => [(f, v)]
  | (g, x) :: r => if g = f then (g, v) :: r else (g, x) :: putG f v r
def chgI (c : Str) (x : Val) (k : List (Str × Val) → Option (List (Str × Val))) : M Unit := fun s => match x with
  | .r n => (match s.Omq[n]? with
    | some (some (.ins c' fs)) => if c' = c then (match k fs with
      | some gs => .ok () { s with Omq := s.Omq.set n (some (.ins c gs)) }
      | none => .stuck) else .stuck
    | _ => .stuck)
  | .s i => (match s.rhq[i]? with
    | some (.acc (.ins c' fs)) => if c' = c then (match k fs with
      | some gs => .ok () { s with rhq := s.rhq.set i (.acc (.ins c gs)) }
      | none => .stuck) else .stuck
    | _ => .stuck)
  | _ => .stuck
theorem chgI_ok {K : PySem.W.Frag} {w : Wd} {s : Sg} {sgq : St} {c : Str} {x : Val} {v : V} {f : List (Str × Val) → Option (List (Str × Val))} {P : Unit → Sg → Wd → Prop} (I : IN K B w s sgq) (r : RlS K w s.Omq.length sgq x v) (h : Endz K B w s sgq (chgI c x f s) P) :
    ∃ a dx fs ws gs, v = .ref a ∧ w.H a = some (.ins (He.ga K c) dx ws) ∧ fs.map (·.1) = ws.map (·.1) ∧ RlVs K w s.Omq.length (fs.map (·.2)) (ws.map (·.2)) ∧ f fs = some gs ∧
      ∀ us : List (Str × V), gs.map (·.1) = us.map (·.1) → RlVs K w s.Omq.length (gs.map (·.2)) (us.map (·.2)) → ∃ s' w', w'.H = upd w.H a (.ins (He.ga K c) dx us) ∧ Stx sgq w s w' s' ∧ IN K B w' s' sgq ∧ P () s' w' := by
  unfold chgI at h
  split at h
  · next n =>
    obtain ⟨hn, rfl⟩ := r
    split at h
    · next c' fs e =>
      split at h
      · next hc =>
        subst hc
        split at h
        · next gs ef =>
          obtain ⟨o, ho, _, hc⟩ := I.sim.cell n _ e
          cases o with
          | ins C dx ws =>
            obtain ⟨h1, h2, h3⟩ := hc
            subst h1
            refine ⟨_, dx, fs, ws, gs, rfl, ho, h2, h3, ef, fun us hk ru => ?_⟩
            obtain ⟨J, st⟩ := I.put_cell (c' := .ins c' gs) (o := .ins (He.ga K c') dx us) e ⟨rfl, hk, ru⟩
            exact ⟨_, _, rfl, st, J, h _ st J⟩
          | _ => exact hc.elim
        · exact h.elim
      · exact h.elim
    · exact h.elim
  · next i =>
    have r : sgq[i]? = some (some v) := r
    split at h
    · next c' fs e =>
      split at h
      · next hc =>
        subst hc
        split at h
        · next gs ef =>
          obtain ⟨a, e1, ⟨o, ho, hc⟩, _⟩ := I.acc i _ e
          rw [r] at e1; cases e1
          cases o with
          | ins C dx ws =>
            obtain ⟨h1, h2, h3⟩ := hc
            subst h1
            refine ⟨_, dx, fs, ws, gs, rfl, ho, h2, h3, ef, fun us hk ru => ?_⟩
            obtain ⟨J, st⟩ := I.put_acc (c' := .ins c' gs) (o := .ins (He.ga K c') dx us) e r ⟨rfl, hk, ru⟩
            exact ⟨_, _, rfl, st, J, h _ st J⟩
          | _ => exact hc.elim
        · exact h.elim
      · exact h.elim
    · exact h.elim
  · exact h.elim
theorem putG_rel {K : PySem.W.Frag} {w : Wd} {n : Nat} {f : Str} {x : Val} {v : V} (r : RlV K w n x v) : ∀ {fs : List (Str × Val)} {ws : List (Str × V)}, fs.map (·.1) = ws.map (·.1) → RlVs K w n (fs.map (·.2)) (ws.map (·.2)) →
    (putG f x fs).map (·.1) = (putF f v ws).map (·.1) ∧ RlVs K w n ((putG f x fs).map (·.2)) ((putF f v ws).map (·.2))
  | [], [], _, _ => ⟨rfl, .cons r .nil⟩
  | [], _ :: _, nx, _ => by simp at nx
  | _ :: _, [], nx, _ => by simp at nx
  | (a, y) :: fs, (b, u) :: ws, h, q => by
    simp only [List.cons.injEq, List.map_cons] at h
    obtain ⟨h1, h2⟩ := h
    subst h1
    cases q with
    | cons qa qb =>
      by_cases hk : a = f
      · simp only [putG, putF, if_pos hk, List.map_cons]
        exact ⟨by rw [h2], .cons r qb⟩
      · simp only [putG, putF, if_neg hk, List.map_cons]
        obtain ⟨k1, k2⟩ := putG_rel r h2 qb
        exact ⟨by rw [k1], .cons qa k2⟩
def setFld (c f : Str) (mv mo : M Val) : M Fl := (fzM mv).bind fun z => mo.bind fun x => (chgI c x fun fs => if fs.length < 1000 then some (putG f z fs) else none).bind fun _ => M.pure .nx
theorem fs_fld {o v : Expr} {f : Str} {mo mv : M Val} {pos' : Pos} (c : Str) (cl : Cls X.K (He.ga X.K c)) (na : NoAttr X.K (He.ga X.K c) f) (ho : FE X B o mo) (hv : FE X B v mv) (hs : swapsWith v (some (.Attribute o f pos')) pos.line X.env = pure false := by rfl) :
    FS X B (.Assign [.Attribute o f pos'] v pos) (setFld c f mv mo) := by
  refine wkS (ps_fld ho hv hs) fun D sgq H h => ?_
  obtain ⟨w, s, rfl, I, h⟩ := h
  refine tE.fzS I h fun z s1 w1 vz e1 I1 r1 h1 => ?_
  refine ⟨w1, s1, rfl, I1, tE.stmt h1 fun x s2 w2 e2 I2 h2 vx r2 => ?_⟩
  have h3 : Endz X.K B w2 s2 sgq (chgI c x (fun fs => if fs.length < 1000 then some (putG f z fs) else none) s2) (fun _ s' w' => D.nx sgq w'.H) := tE.stmt h2 fun _ s' w' _ I' q => q w' sgq (Ext.refl _ _) I'
  obtain ⟨a, dx, fs, ws, gs, rfl, ha, hk, rs, ef, kk⟩ := chgI_ok I2 r2 h3
  split at ef
  · next hl =>
    cases ef
    obtain ⟨k1, k2⟩ := putG_rel (f := f) (r1.ext e2.ext) hk rs
    obtain ⟨s', w', hw, _, J, q⟩ := kk _ k1 k2
    refine ⟨a, _, dx, ws, rfl, ha, cl, na, ?_, ?_⟩
    · have := congrArg List.length hk
      simp only [List.length_map] at this
      omega
    · rw [← hw]; exact q
  · cases ef
end
end G
set_option maxRecDepth 100000
/-! Methods, making instances. -/
namespace G
open PySem PySem.Spec L2
section
variable {X : Cx} {B : Base0} {k n : Nat} {f C : Addr} {fd : FuncData} {ps ks : List Str} {x mth c : Str} {p pos apos : Pos} {e o : Expr} {es : List Expr} {ma : M Val} {mr mk : M (List Val)} {sem : SemF} {dvs : List V} {dds : List D} {ds : List Value}
/-- o.m(args): the receiver is no slot's own -/
def recv (c mth : Str) (x : Val) : M Unit := fun s => match x with
  | .s _ => .stuck
  | x => (match insV s x with
    | some (c', fs) => if c' = c then (match fs.lookup mth with
      | some _ => .stuck
      | none => .ok () s) else .stuck
    | none => .stuck)
theorem recv_ok {K : PySem.W.Frag} {β : Type} {w : Wd} {s : Sg} {sgq : St} {x : Val} {v : V} {k : Unit → M β} {P : β → Sg → Wd → Prop} (I : IN K B w s sgq) (r : RlS K w s.Omq.length sgq x v) (h : Endz K B w s sgq ((recv c mth x s).bind k) P) :
    (∃ a dx ws, v = .ref a ∧ w.H a = some (.ins (He.ga K c) dx ws) ∧ ws.lookup mth = none) ∧ RlV K w s.Omq.length x v ∧ Endz K B w s sgq (k () s) P := by
  unfold recv at h
  split at h
  · exact h.elim
  · next ns =>
    split at h
    · next c' fs ec =>
      split at h
      · next hc =>
        subst hc
        split at h
        · exact h.elim
        · next el =>
          obtain ⟨a, dx, ws, rfl, ha, hk, rs⟩ := insV_ok I r ec
          refine ⟨⟨a, dx, ws, rfl, ha, ?_⟩, ?_, h⟩
          · rcases look_rel (f := mth) hk rs with ⟨_, q⟩ | ⟨_, _, q, _⟩
            · exact q
            · rw [el] at q; cases q
          · cases x with
            | d y => exact r
            | r y => exact r
            | s y => exact absurd rfl (ns y)
      · exact h.elim
    · exact h.elim
def methE (c mth : Str) (n : Nat) (sem : SemF) (dds : List D) (m : M Val) (mr : M (List Val)) : M Val := m.bind fun x => (recv c mth x).bind fun _ => mr.bind fun xs => if xs.length + 1 + dds.length = n then callM sem (x :: (xs ++ dds.map Val.d)) else stuck
theorem fe_meth {pl : Sem Bool} (tk : Takes X B.W) (c : Str) (cl : Cls X.K (He.ga X.K c)) (hm : Meth X.K (He.ga X.K c) mth f) (F : FnG X k f fd ps sem) (rm : Room k X.A) (bn : Binds X.K fd ps ds) (dv : Vals dvs ds) (rd : ∀ F, Rls X.K F dds dvs) (he : FE X B o ma) (ha : FAp X B (e :: es) mr)
    (st : starEach (e :: es) X.env = (false, eval e X.env) :: starEach es X.env := by rfl) (np : (backTo pos (starEach es X.env)).any (·.1) = false := by rfl)
    (ht : eval (.Call (.Attribute o mth apos) (e :: es) [] pos) X.env = (eval o X.env >>= fun ov => standAt apos.atName >>= fun _ => holding [ov] (getMethod ov mth pl) >>= fun fq =>
      callWith pos fq.1 fq.2 (backTo pos (starEach (e :: es) X.env)) (backToKw pos (keywordEach [] X.env))) := by rfl) :
    FE X B (.Call (.Attribute o mth apos) (e :: es) [] pos) (methE c mth ps.length sem dds ma mr) := by
  refine wkE (pe_methQ he cl hm F rm bn dv (fun sgq => passAt tk sgq) ha st np ht) fun sgq H Q h => ?_
  obtain ⟨w, s, rfl, I, h⟩ := h
  refine tE.first I h fun x s1 w1 v e1 I1 r1 h1 => ?_
  obtain ⟨⟨a, dx, ws, rfl, hi, hl⟩, rx, h1⟩ := recv_ok I1 r1 h1
  refine ⟨a, dx, ws, rfl, hi, hl, tAp.first I1 h1 fun xs s2 w2 vs e2 I2 r2 q => ?_⟩
  split at q
  · next hn => exact spF.of I2 (.cons (rx.ext e2.ext) (r2.append (rls_V (rd w2.F)))) (by simp; omega) q
  · exact q.elim
theorem fe_meth0 {pl : Sem Bool} (tk : Takes X B.W) (c : Str) (cl : Cls X.K (He.ga X.K c)) (hm : Meth X.K (He.ga X.K c) mth f) (F : FnG X k f fd ps sem) (rm : Room k X.A) (bn : Binds X.K fd ps ds) (dv : Vals dvs ds) (rd : ∀ F, Rls X.K F dds dvs) (he : FE X B o ma)
    (ht : eval (.Call (.Attribute o mth apos) [] [] pos) X.env = (eval o X.env >>= fun ov => standAt apos.atName >>= fun _ => holding [ov] (getMethod ov mth pl) >>= fun fq =>
      callWith pos fq.1 fq.2 (backTo pos (starEach [] X.env)) (backToKw pos (keywordEach [] X.env))) := by rfl) :
    FE X B (.Call (.Attribute o mth apos) [] [] pos) (methE c mth ps.length sem dds ma (M.pure [])) := by
  refine wkE (pe_methQ0 he cl hm F rm bn dv (fun sgq => passAt tk sgq) ht) fun sgq H Q h => ?_
  obtain ⟨w, s, rfl, I, h⟩ := h
  refine tE.first I h fun x s1 w1 v e1 I1 r1 h1 => ?_
  obtain ⟨⟨a, dx, ws, rfl, hi, hl⟩, rx, h1⟩ := recv_ok I1 r1 h1
  have h1 : EndsV X.K B w1 s1 sgq ((if ([] : List Val).length + 1 + dds.length = ps.length then callM sem (x :: ([] ++ dds.map Val.d)) else stuck) s1) Q := h1
  refine ⟨a, dx, ws, rfl, hi, hl, ?_⟩
  split at h1
  · next hn => exact spF.of I1 (.cons rx (rls_V (rd w1.F))) (by simp at hn ⊢; omega) h1
  · exact h1.elim
end
/-! ### making an instance -/
def Val.below (n : Nat) : Val → Bool
  | .d _ => true
  | .r k => decide (k < n)
  | .s _ => false
def Cell.below (n : Nat) : Cell → Bool
  | .lst xs => xs.all (Val.below n)
  | .dK kvs => (kvs.map (·.2)).all (Val.below n)
  | .dT kvs => (kvs.map (·.2)).all (Val.below n)
  | .ins _ fs => (fs.map (·.2)).all (Val.below n)
def belowOmq (n : Nat) (Omq : List (Option Cell)) : Bool := Omq.all fun o => match o with
  | some c => c.below n
  | none => true
section
variable {K : PySem.W.Frag} {w : Wd}
theorem RlV.below {m n : Nat} {x : Val} {v : V} (r : RlV K w m x v) (h : x.below n = true) : RlV K w n x v := by
  cases x with
  | d y => exact r
  | r k => exact ⟨of_decide_eq_true h, r.2⟩
  | s k => cases h
theorem RlVs.under {m n : Nat} : ∀ {xs : List Val} {vs : List V}, RlVs K w m xs vs → xs.all (Val.below n) = true → RlVs K w n xs vs
  | _, _, .nil, _ => .nil
  | x :: xs, _, .cons a b, h => by
    have h : x.below n = true ∧ xs.all (Val.below n) = true := by simpa using h
    exact .cons (a.below h.1) (b.under h.2)
theorem CellR.below {m n : Nat} {c : Cell} {o : HO} (h : CellR K w m c o) (q : c.below n = true) : CellR K w n c o := by
  unfold CellR at h ⊢
  split at h
  · exact RlVs.under h q
  · exact ⟨h.1, h.2.under q⟩
  · exact ⟨h.1, h.2.under q⟩
  · exact ⟨h.1, h.2.1, h.2.2.under q⟩
  · exact h.elim
end
theorem take_get {α : Type} {l : List α} {n i : Nat} {x : α} (h : (l.take n)[i]? = some x) : i < n ∧ l[i]? = some x := by
  rw [List.getElem?_take] at h
  split at h
  · next q => exact ⟨q, h⟩
  · cases h
/-- the last cell is frozen and gone -/
theorem Ins.sealed {K : PySem.W.Frag} {w0 w : Wd} {Omq0 Omq' : List (Option Cell)} {s : Sg} {sgq : St} {c : Cell} {o : HO} (I : Ins K w0 Omq0 w s sgq) {w1 : Wd} {a : Addr} (hlen : Omq'.length = s.Omq.length + 1) (hb : belowOmq s.Omq.length (Omq'.take s.Omq.length) = true)
    (ha : w.H a = none) (S : Sim K w1 Omq') (st : Stp w s.Omq w1 (Omq'.take s.Omq.length)) (hc : Omq'[s.Omq.length]? = some (some c)) (hm : w1.muq s.Omq.length = a) (ho : w1.H a = some o) : Ins K w0 Omq0 (w1.ice a o) { s with Omq := Omq'.take s.Omq.length } sgq ∧ Stx sgq w s (w1.ice a o) { s with Omq := Omq'.take s.Omq.length } := by
  have tl : (Omq'.take s.Omq.length).length = s.Omq.length := by rw [List.length_take]; omega
  obtain ⟨_, _, fa, _⟩ := S.cell _ c hc
  rw [hm] at fa
  have ex : Ext w1 s.Omq.length (w1.ice a o) s.Omq.length := ⟨Sub.upd fa, Nat.le_refl _, fun _ _ => rfl⟩
  have ex0 : Ext w s.Omq.length w1 s.Omq.length := by have := st.ext; rw [tl] at this; exact this
  have exA := ex0.trans ex
  have nF : ∀ b, b ≠ a → (w1.ice a o).F b = w1.F b := fun b hb => upd_ne hb
  have notA : ∀ (n : Nat) (x : Cell), (Omq'.take s.Omq.length)[n]? = some (some x) → w1.muq n ≠ a := fun n x e z => by
    obtain ⟨h1, h2⟩ := take_get e
    have := S.inj n s.Omq.length x c h2 hc (by rw [z, hm])
    omega
  have bel : ∀ (n : Nat) (x : Cell), (Omq'.take s.Omq.length)[n]? = some (some x) → x.below s.Omq.length = true := fun n x e => List.all_eq_true.mp hb _ (List.mem_of_getElem? e)
  have al : ∀ b u, w.H b = some u → Alien w s.Omq b → (w1.ice a o).H b = some u ∧ Alien (w1.ice a o) (Omq'.take s.Omq.length) b := fun b u e q => by
    obtain ⟨h1, h2⟩ := st.keep b u e q
    have nb : b ≠ a := fun z => by rw [z, ha] at e; cases e
    exact ⟨h1, by rw [nF b nb]; exact h2.1, h2.2⟩
  have dm : ∀ b, (w1.ice a o).H b = none → w.H b = none := fun b e => st.dom b e
  refine ⟨⟨⟨fun b u e => ?_, fun n x e => ?_, fun n m x y e e' q => ?_⟩, I.stp.trans ⟨by rw [tl]; exact exA, al, dm, st.fk⟩, I.len, fun i x e => ?_, fun i x e => ?_, I.dis⟩, ⟨by rw [tl]; exact exA, fun b u e q => ?_, dm, st.fk⟩⟩
  · by_cases hb : b = a
    · subst hb
      have : (w1.ice b o).F b = some o := upd_same
      rw [this] at e; cases e
      exact .inl ho
    · rw [nF b hb] at e; exact S.fz b u e
  · obtain ⟨h1, h2⟩ := take_get e
    obtain ⟨u, q, f, r⟩ := S.cell n x h2
    refine ⟨u, q, by rw [show (w1.ice a o).muq n = w1.muq n from rfl, nF _ (notA n x e)]; exact f, ?_⟩
    rw [tl]
    exact (r.below (bel n x e)).ext ex
  · exact S.inj n m x y (take_get e).2 (take_get e').2 q
  · obtain ⟨v, e1, r⟩ := I.val i x e
    refine ⟨v, e1, ?_⟩
    rw [tl]; exact r.ext exA
  · obtain ⟨b, e1, ⟨u, q, r⟩, a2, nw⟩ := I.acc i x e
    obtain ⟨k1, k2⟩ := al b u q a2
    refine ⟨b, e1, ⟨u, k1, ?_⟩, k2, nw⟩
    rw [tl]; exact r.ext exA
  · obtain ⟨k1, k2⟩ := al b u e q.1
    exact ⟨k1, k2, q.2⟩
/-- C(args) by the meaning of its __init__; the instance is frozen -/
def mkF (c : Str) (sem : SemF) (xs : List Val) : M Val := fun s => match sem (.r s.Omq.length :: xs) (s.Omq ++ [some (.ins c [])]) with
  | .ok (.d .non) Omq' => if Omq'.length = s.Omq.length + 1 ∧ belowOmq s.Omq.length (Omq'.take s.Omq.length) = true then (match Omq'[s.Omq.length]? with
    | some (some (.ins c' fs)) => if c' = c then (match (Cell.ins c fs).toD with
      | some d => .ok (.d d) { s with Omq := Omq'.take s.Omq.length }
      | none => .stuck) else .stuck
    | _ => .stuck) else .stuck
  | .exc x Omq' => if s.Omq.length ≤ Omq'.length ∧ belowOmq s.Omq.length (Omq'.take s.Omq.length) = true then .exc x { s with Omq := Omq'.take s.Omq.length } else .stuck
  | _ => .stuck
theorem Stp.cut {w w1 : Wd} {Omq Omq' : List (Option Cell)} {n : Nat} {a : Addr} {o : HO} {c : Cell} (hn : n = Omq.length) (ha : w.H a = none) {dx : Addr} (hd : w.H dx = none) (hne : dx ≠ a) {u : HO} (hl : n ≤ Omq'.length)
    (st : Stp ({ w with H := upd w.H dx u }.cel n a o) (Omq ++ [some c]) w1 Omq') : Stp w Omq w1 (Omq'.take n) := by
  subst hn
  have tl : (Omq'.take Omq.length).length = Omq.length := by rw [List.length_take]; omega
  refine ⟨⟨fun b v e => st.ext.F b v e, by rw [tl]; exact Nat.le_refl _, fun k hk => ?_⟩, fun b v e q => ?_, fun b e => ?_, fun b v o' ef e => ?_⟩
  · have := st.ext.mu k (by rw [List.length_append]; simp; omega)
    rw [this]
    show (if k = Omq.length then a else w.muq k) = w.muq k
    rw [if_neg (Nat.ne_of_lt hk)]
  · have na : b ≠ a := fun z => by rw [z, ha] at e; cases e
    have nd : b ≠ dx := fun z => by rw [z, hd] at e; cases e
    obtain ⟨h1, h2⟩ := st.keep b v (by
      show upd (upd w.H dx u) a o b = some v
      rw [upd_ne na, upd_ne nd]; exact e) ⟨q.1, fun k x hk => by
        show (if k = Omq.length then a else w.muq k) ≠ b
        rcases get_snoc hk with ⟨h1, h2⟩ | ⟨h1, _⟩
        · rw [if_neg (Nat.ne_of_lt h1)]; exact q.2 k x h2
        · rw [if_pos h1]; exact Ne.symm na⟩
    exact ⟨h1, h2.1, fun k x hk => h2.2 k x (take_get hk).2⟩
  · exact upd_dom (upd_dom (st.dom b e))
  · have na : b ≠ a := fun z => by rw [z, ha] at e; cases e
    have nd : b ≠ dx := fun z => by rw [z, hd] at e; cases e
    exact st.fk b v o' ef (by
      show upd (upd w.H dx u) a o b = some o'
      rw [upd_ne na, upd_ne nd]; exact e)
theorem mkF_ok {K : PySem.W.Frag} {B : Base0} {sgq : St} {w : Wd} {s : Sg} {c : Str} {sem : SemF} {xs : List Val} {vs : List V} {Q : VK} {n : Nat} {a dx : Addr} (I : IN K B w s sgq) (r : RlVs K w s.Omq.length xs vs) (hn : xs.length + 1 = n) (ha : w.H a = none) (hd : w.H dx = none) (hne : dx ≠ a)
    (h : EndsV K B w s sgq (mkF c sem xs s) Q) : spF K n sem (.ref a :: vs) (upd (upd w.H dx (.own a)) a (.ins (He.ga K c) dx [])) (fun v H2 => v = .non ∧ Q (.ref a) H2) (WE B.W sgq) := by
  obtain ⟨J0, st0⟩ := I.grow (H' := upd w.H dx (.own a)) (Sub.upd hd)
  have ha' : ({ w with H := upd w.H dx (.own a) } : Wd).H a = none := (upd_ne (Ne.symm hne)).trans ha
  obtain ⟨J1, st1⟩ := J0.cel (o := .ins (He.ga K c) dx []) (c := .ins c []) ha' ⟨rfl, rfl, .nil⟩
  refine ⟨_, s.Omq ++ [some (.ins c [])], .r s.Omq.length :: xs, rfl, J1.sim, .cons ⟨by simp, by simp [Wd.cel]⟩ (r.ext (st0.trans st1).ext), by simp [hn], ?_⟩
  unfold mkF at h
  unfold PoF
  split at h
  · next Omq' e =>
    rw [e]
    intro w1 v S st rv
    cases rv
    refine ⟨rfl, ?_⟩
    split at h
    · next hl =>
      split at h
      · next c' fs ec =>
        split at h
        · next hc =>
          subst hc
          split at h
          · next d ed =>
            have mu : w1.muq s.Omq.length = a := by
              rw [st.ext.mu _ (by simp)]; simp [Wd.cel]
            obtain ⟨o, ho, fo, co⟩ := S.cell _ _ ec
            rw [mu] at ho fo
            obtain ⟨J2, st2⟩ := I.sealed (a := a) (o := o) hl.1 hl.2 ha S (Stp.cut rfl ha hd hne (by omega) st) ec mu ho
            exact h _ st2 J2 (.ref a) (CellR.rl fo co ed)
          · exact h.elim
        · exact h.elim
      · exact h.elim
    · exact h.elim
  · next x Omq' e =>
    rw [e]
    intro w1 cc d S st q
    split at h
    · next hl =>
      have st' := Stp.cut rfl ha hd hne hl.1 st
      have tl : (Omq'.take s.Omq.length).length = s.Omq.length := by rw [List.length_take]; omega
      have S' : Sim K w1 (Omq'.take s.Omq.length) := ⟨S.fz, fun k y ek => by
        obtain ⟨u, q1, q2, q3⟩ := S.cell k y (take_get ek).2
        refine ⟨u, q1, q2, ?_⟩
        rw [tl]
        exact q3.below (List.all_eq_true.mp hl.2 _ (List.mem_of_getElem? ek)), fun k m y z e1 e2 => S.inj k m y z (take_get e1).2 (take_get e2).2⟩
      exact h w1 cc d st'.stx (I.after S' st') q
    · exact h.elim
  · exact h.elim
section
variable {X : Cx} {B : Base0} {k n : Nat} {f : Addr} {fd : FuncData} {ps ks : List Str} {x c : Str} {p pos : Pos} {e : Expr} {es : List Expr} {mr mk : M (List Val)} {sem : SemF} {dvs : List V} {dds : List D} {ds : List Value} {kws : List Keyword}
def makeE (c : Str) (n : Nat) (sem : SemF) (dds : List D) (mr : M (List Val)) : M Val := mr.bind fun xs => if xs.length + dds.length + 1 = n then mkF c sem (xs ++ dds.map Val.d) else stuck
theorem fe_make (tk : Takes X B.W) (M : Mk X.K (He.ga X.K x) f) (F : FnG X k f fd ps sem) (rm : Room (k + 1) X.A) (hm : X.mg x = some (.ref (He.ga X.K x))) (bn : Binds X.K fd ps ds) (dv : Vals dvs ds) (rd : ∀ F, Rls X.K F dds dvs) (ha : FAp X B (e :: es) mr)
    (hg : Gl X x := by rfl) (hdb : (x == ("__debug__" : Str)) = false := by decide) (st : starEach (e :: es) X.env = (false, eval e X.env) :: starEach es X.env := by rfl) (np : (backTo pos (starEach es X.env)).any (·.1) = false := by rfl) :
    FE X B (.Call (.Name x p) (e :: es) [] pos) (makeE x ps.length sem dds mr) := by
  refine wkE (pe_makeQ M F rm hm bn dv (fun sgq => passAt tk sgq) ha hg hdb st np) fun sgq H Q h => ?_
  obtain ⟨w, s, rfl, I, h⟩ := h
  refine tAp.first I h fun xs s1 w1 vs e1 I1 r1 q => ?_
  split at q
  · next hl =>
    have rr := r1.append (rls_V (n := s1.Omq.length) (rd w1.F))
    have hl2 := rr.length
    refine ⟨by simp only [List.length_cons, List.length_append, List.length_map] at hl2 ⊢; omega, fun a dx h1 h2 h3 => mkF_ok I1 rr (by simp; omega) h1 h2 h3 q⟩
  · exact q.elim
abbrev FKp (X : Cx) (B : Base0) (kws : List Keyword) (m : M (List Val)) : Prop := PK X kws (tAp X.K B m)
theorem wkK {t t' : TA} (h : PK X kws t) (g : ∀ sgq H Q, t' sgq H Q → t sgq H Q) : PK X kws t' := ⟨fun pos pins s sgq H Q I q => h.run pos pins s sgq H Q I (g sgq H Q q)⟩
theorem fk_nil : FKp X B [] (M.pure []) := wkK pk_nil fun sgq H Q h => by
  obtain ⟨w, s, rfl, I, h⟩ := h
  exact h w (Stx.refl _ _ _) I [] .nil
theorem fk_cons {nm : Option Str} {kpos : Pos} {ma : M Val} (ha : FE X B e ma) (hr : FKp X B kws mr) : FKp X B (⟨nm, e, kpos⟩ :: kws) (consA (fzM ma) mr) := by
  refine wkK (pk_cons ha hr) fun sgq H Q h => ?_
  obtain ⟨w, s, rfl, I, h⟩ := h
  refine tE.fz I h fun x s1 w1 v e1 I1 r1 h1 => ?_
  refine tAp.first I1 h1 fun xs s2 w2 vs e2 I2 r2 h2 => ?_
  exact h2 w2 (Stx.refl _ _ _) I2 (v :: vs) (.cons (r1.ext e2.ext) r2)
/-- C(a, .., k = b, ..) where the keywords stand in the parameters' order behind the others, all given -/
def makeK (c : Str) (n m : Nat) (sem : SemF) (mr mk : M (List Val)) : M Val := mr.bind fun xs => mk.bind fun ys => if xs.length = n ∧ ys.length = m then mkF c sem (xs ++ ys) else stuck
theorem fe_makeK {g : List Value → List Value → List Value} {gV : List V → List V → List V} (tk : Takes X B.W) (M : Mk X.K (He.ga X.K x) f) (F : FnG X k f fd ps sem) (rm : Room (k + 1) X.A) (hm : X.mg x = some (.ref (He.ga X.K x))) (bk : KBn X.K fd ps (n + 1) ks g gV) (hgV : ∀ vs zs, gV vs zs = vs ++ zs) (hps : n + ks.length + 1 = ps.length)
    (ha : FAp X B (e :: es) mr) (hk : FKp X B kws mk)
    (hg : Gl X x := by rfl) (ka : (backToKw pos (keywordEach kws X.env)).all (·.1.isSome) = true := by rfl) (kf : (backToKw pos (keywordEach kws X.env)).filterMap (·.1) = ks := by rfl) (hdb : (x == ("__debug__" : Str)) = false := by decide)
    (st : starEach (e :: es) X.env = (false, eval e X.env) :: starEach es X.env := by rfl) (np : ((backTo pos (starEach (e :: es) X.env)).any (·.1) || (backToKw pos (keywordEach kws X.env)).any (·.1.isNone)) = false := by rfl) :
    FE X B (.Call (.Name x p) (e :: es) kws pos) (makeK x n ks.length sem mr mk) := by
  refine wkE (pe_makeQK M F rm hm bk (fun sgq => passAt tk sgq) ha hk hg ka kf hdb st np) fun sgq H Q h => ?_
  obtain ⟨w, s, rfl, I, h⟩ := h
  refine tAp.first I h fun xs s1 w1 vs e1 I1 r1 h1 => ?_
  refine tAp.first I1 h1 fun ys s2 w2 us e2 I2 r2 q => ?_
  split at q
  · next hl =>
    have rx := r1.ext e2.ext
    have rr := rx.append r2
    refine ⟨by rw [← rx.length]; exact hl.1, by rw [← r2.length]; exact hl.2, fun a dx h1 h2 h3 => ?_⟩
    rw [hgV]
    exact mkF_ok I2 rr (by simp; omega) h1 h2 h3 q
  · exact q.elim
/-- C(args), the instance stays a cell -/
def mkC (c : Str) (n : Nat) (sem : SemF) (mr : M (List Val)) : M Val := mr.bind fun xs s => if xs.length + 1 = n then (match sem (.r s.Omq.length :: xs) (s.Omq ++ [some (.ins c [])]) with
  | .ok (.d .non) Omq' => .ok (.r s.Omq.length) { s with Omq := Omq' }
  | _ => .stuck) else .stuck
end
end G
set_option maxRecDepth 100000
/-! raise, try. -/
namespace G
open PySem PySem.Spec L2
/-! ### except clauses, with and without az name -/
structure HdT where
  c : Value
  i : Option Nat
  ts : Addr → Value → Option Addr → TS
def goneO (o : Option Nat) (sgq : St) : St := match o with
  | none => sgq
  | some i => sgq.set i none
def putO (o : Option Nat) (az : Addr) (sgq : St) : St := match o with
  | none => sgq
  | some i => sgq.set i (some (.ref az))
def wHds (K : PySem.W.Frag) (Wout : WX) (D : Ends) : List HdT → WX
  | [] => Wout
  | h :: r => fun cls d sgq H => ∃ b, PySem.W.exmOne K cls h.c = some b ∧
      (b = true → ∀ az, H az = none → h.ts az cls d { nx := fun sgq' H' => D.nx (goneO h.i sgq') H', rt := D.rt, bk := fun sgq' H' => D.bk (goneO h.i sgq') H', ct := fun sgq' H' => D.ct (goneO h.i sgq') H' } (putO h.i az sgq) H) ∧
      (b = false → wHds K Wout D r cls d sgq H)
inductive HdsG (X : Cx) : List ExceptHandler → List HdT → Prop
  | nil : HdsG X [] []
  | one {x : Str} {c : Value} {ts : Addr → Value → Option Addr → TS} {b0 : Stmt} {su : List Stmt} {np p' : Pos} {hs : List ExceptHandler} {l : List HdT} (hc : Names X x c)
      (hsu : ∀ (az : Addr) (oez : Obj) (cls : Value) (d : Option Addr) (pnz : List (Addr × Obj)), Zc cls d oez → (∃ vs, oez.data = .fields vs) → PSs (X.suite az ((az, oez) :: pnz)) (b0 :: su) (ts az cls d)) (r : HdsG X hs l) :
      HdsG X (.ExceptHandler (some (.Name x np)) none (b0 :: su) p' :: hs) (⟨c, none, ts⟩ :: l)
  | as {x n : Str} {i : Nat} {c : Value} {ts : Addr → Value → Option Addr → TS} {b0 : Stmt} {su : List Stmt} {np p' : Pos} {hs : List ExceptHandler} {l : List HdT} (hc : Names X x c) (hi : X.N[i]? = some n) (hl : X.env.kindOf n = some .local)
      (hsu : ∀ (az : Addr) (oez : Obj) (cls : Value) (d : Option Addr) (pnz : List (Addr × Obj)), Zc cls d oez → (∃ vs, oez.data = .fields vs) → PSs (X.suite az ((az, oez) :: pnz)) (b0 :: su) (ts az cls d)) (r : HdsG X hs l) :
      HdsG X (.ExceptHandler (some (.Name x np)) (some n) (b0 :: su) p' :: hs) (⟨c, some i, ts⟩ :: l)
open PyProof.Rows in
theorem ps_tryG {X : Cx} {body : List Stmt} {h0 : ExceptHandler} {hs : List ExceptHandler} {l : List HdT} {pos : Pos} {tb : WX → TS} {Wout : WX} (sk : X.stack = X.env :: X.outer) (fr : X.env.frame = some X.env.locals) (nd : X.N.Nodup) (tk : Takes X Wout)
    (hb : ∀ (W : WX) (pnz : List (Addr × Obj)) (xe : Value → Shared → Prop), Takes (X.tr pnz xe) W → PassesOwn (model X.prog X.w) X.A X.env xe → PSs (X.tr pnz xe) body (tb W))
    (hh : HdsG X (h0 :: hs) l) : PS X (.Try body (h0 :: hs) [] [] pos) (fun D sgq H => tb (wHds X.K Wout D l) D sgq H) := by
  refine ⟨fun pq s sgq H D J0 h => ?_⟩
  have ok := J0.ok
  have hfr : X.A.frames = some (X.env :: X.outer) := by rw [ok.frames, sk]
  refine wpAny_Try_except (wpAny_mono ((hb (wHds X.K Wout D l) (X.pn ++ pq) (fun e s₁ => wpAny (model X.prog X.w) X.A (noteFrame e X.env) (fun _ s₂ => wpAny (model X.prog X.w) X.A (setFlight e none) (fun _ s₃ =>
    wpAny (model X.prog X.w) X.A (handleBy e X.env (h0 :: hs)) (SP X pq D) X.xe s₃) X.xe s₂) X.xe s₁) (fun u s' xx => ?_) PassesOwn.looking).run [] s sgq H D (J0.toTry _) h) (fun f s1 hsp => ?_) (fun e s1 hez => hez))
  · obtain ⟨az, G0, sI, pq', sgq', H', cls, d, rfl, J', nb, up, sky, na, os, ag, w⟩ := xx
    have J : Inv X pq sgq' H' sI := J'.ofTry ok
    have sky' : Sky G0 (X.env :: X.outer) az (Zc cls d) X.env.locals s'.heap := by rw [← sk]; exact sky
    show wpAny (model X.prog X.w) X.A (noteFrame (.ref az) X.env) _ _ _
    refine Sky.land Zc.steady hfr fr sky' fun h3 fl3 up3 => ?_
    have J3 : Inv X pq sgq' H' { s' with heap := h3 } := J.landed nb fl3.1 (up.trans up3) os ag
    obtain ⟨of3, vz3, he3, hy3, hx3⟩ := fl3.there
    have nfr : az ∉ frs (X.env :: X.outer) := fun hm => by
      obtain ⟨_, o', e', hnf⟩ := fl3.2.2.1.mem hm
      rw [he3] at e'; cases e'
      exact hnf _ hx3
    have nLz : az ≠ X.env.locals := fun z => nfr (List.mem_filterMap.mpr ⟨X.env, List.mem_cons_self, by rw [fr, z]⟩)
    have nFz : az ∉ X.fs := fun hm => by
      obtain ⟨ev, hev, q⟩ := List.mem_filterMap.mp hm
      exact nfr (List.mem_filterMap.mpr ⟨ev, List.mem_cons_of_mem _ hev, q⟩)
    have Sz3 := J3.suite he3 hx3 na nLz nFz
    have LT : PySem.W.Looks (model X.prog X.w) h3 (typeOf (.ref az)) cls := fun A Q E s kk q => wpAny_typeOf_ref (kk _ _ he3) (by rw [hy3.1]; exact q)
    have test : ∀ {x : Str} {c : Value} {np : Pos} {Q : Value → Shared → Prop} {E : Value → Shared → Prop}, Names X x c → Q c { s' with heap := h3 } → wpAny (model X.prog X.w) (X.A.mark (some (.ref az))) (eval (.Name x np) X.env) Q E { s' with heap := h3 } := fun {x c np Q E} hc q => by
      obtain ⟨hg, hdz, hm | ⟨hm, hvz, hnn⟩⟩ := hc
      · exact ld_glob (X := X.suite az ((az, of3) :: (X.pn ++ pq))) Sz3 hg hm q hdz
      · exact ld_blt (X := X.suite az ((az, of3) :: (X.pn ++ pq))) Sz3 hg hm hvz q hnn hdz
    have go : ∀ {hs' : List ExceptHandler} {l' : List HdT}, HdsG X hs' l' → wHds X.K Wout D l' cls d sgq' H' → wpAny (model X.prog X.w) X.A (handleBy (.ref az) X.env hs') (SP X pq D) X.xe { s' with heap := h3 } := by
      intro hs' l' hk
      induction hk with
      | nil =>
        intro ww
        refine wpAny_handleBy_nil ?_
        obtain ⟨k1, k2, k3, oez, vs, Tz, oTz, ts', hez, hz, hdw, h1, hr⟩ := id fl3
        have fin : wpAny (model X.prog X.w) X.A (setFlight (.ref az) X.env.frame) (fun _ s4 => wpAny (model X.prog X.w) X.A (throw (.ref az) : Sem Flow) (SP X pq D) X.xe s4) X.xe { s' with heap := h3 } := by
          rw [fr]
          exact HandSPX.setFlight_upZ fl3 fun h4 hh4 up4 => wpAny_throw (tk _ _ ⟨az, G0, sI, pq, sgq', H', cls, d, rfl, J, nb, (up.trans up3).trans up4, .inr (.inr (by rw [sk]; exact hh4)), na, os, ag, ww⟩)
        unfold PySem.passOn
        refine wpAny_bind (wpAny_field hez hdw h1 ?_)
        rw [if_neg (show ¬ ((Value.ref Tz == Value.none) = true) from by simp)]
        first | exact wpAny_bind (wpAny_pure (wpAny_bind fin)) | exact wpAny_bind fin
      | @one x c ts b0 su np p' hs2 l2 hc hsu r ih =>
        intro ww
        obtain ⟨b, hb1, hyes, hno⟩ := ww
        refine wpAny_handleBy_cons (codeAny_handlers_test (test hc ((PySem.W.exm_one (M := model X.prog X.w) (J3.kIn) LT hb1).here ?_))) (by intro q; cases q)
        cases b with
        | false => exact ih (hno rfl)
        | true =>
          refine codeAny_handlers_suite (HandSPX.lands_againZ fl3 fun h4 fl4 up4 => ?_)
          have J4 : Inv X pq sgq' H' { s' with heap := h4 } := J.landed nb fl4.1 ((up.trans up3).trans up4) os ag
          obtain ⟨of4, vz4, he4, hy4, hx4⟩ := fl4.there
          refine wpAny_mono ((hsu az of4 cls d (X.pn ++ pq) hy4 ⟨_, hx4⟩).run [] _ _ H' _ (J4.suite he4 hx4 na nLz nFz) (hyes rfl az na)) (fun f s6 hsp => ?_) (fun _ _ z => z.elim)
          cases f with
          | next => obtain ⟨sgq6, H6, S6, q6⟩ := hsp; exact ⟨_, _, S6.unsuite ok, q6⟩
          | brk => obtain ⟨sgq6, H6, S6, q6⟩ := hsp; exact ⟨_, _, S6.unsuite ok, q6⟩
          | cont => obtain ⟨sgq6, H6, S6, q6⟩ := hsp; exact ⟨_, _, S6.unsuite ok, q6⟩
          | ret u => obtain ⟨v6, sgq6, H6, S6, r6, q6⟩ := hsp; exact ⟨_, _, _, S6.unsuite ok, r6, q6⟩
      | @as x n i c ts b0 su np p' hs2 l2 hc hi hl hsu r ih =>
        intro ww
        obtain ⟨b, hb1, hyes, hno⟩ := ww
        refine wpAny_handleBy_cons (codeAny_handlers_test (test hc ((PySem.W.exm_one (M := model X.prog X.w) (J3.kIn) LT hb1).here ?_))) (by intro q; cases q)
        cases b with
        | false => exact ih (hno rfl)
        | true =>
          refine codeAny_handlers_suite_as (HandSPX.lands_againZ fl3 fun h4 fl4 up4 => ?_)
          have J4 : Inv X pq sgq' H' { s' with heap := h4 } := J.landed nb fl4.1 ((up.trans up3).trans up4) os ag
          obtain ⟨of4, vz4, he4, hy4, hx4⟩ := fl4.there
          refine store_ok (X := X.suite az ((az, of4) :: (X.pn ++ pq))) (v := .ref az) (J4.suite he4 hx4 na nLz nFz) nd hi (.inl hl) rfl (fun s5 S5 => ?_) (.inr hl)
          refine wpAny_mono ((hsu az of4 cls d (X.pn ++ pq) hy4 ⟨_, hx4⟩).run [] s5 _ H' _ S5 (hyes rfl az na)) (fun f s6 hsp => ?_) (fun _ _ z => z.elim)
          have fin : ∀ {sgq6 : L2.St} {H6 : Hp} {Q : Shared → Prop}, Inv (X.suite az ((az, of4) :: (X.pn ++ pq))) [] sgq6 H6 s6 → (∀ s7, Inv X pq (sgq6.set i none) H6 s7 → Q s7) →
              wpAny (model X.prog X.w) X.A (do bindName X.env n .none; unbindBehindTheSuite X.env n p') (fun _ s7 => Q s7) X.xe s6 := fun {sgq6 H6 Q} S6 hq => gone_ok (S6.unsuite ok) nd hi hl hq
          cases f with
          | next => obtain ⟨sgq6, H6, S6, q6⟩ := hsp; exact fin S6 fun s7 J7 => ⟨_, _, J7, q6⟩
          | brk => obtain ⟨sgq6, H6, S6, q6⟩ := hsp; exact fin S6 fun s7 J7 => ⟨_, _, J7, q6⟩
          | cont => obtain ⟨sgq6, H6, S6, q6⟩ := hsp; exact fin S6 fun s7 J7 => ⟨_, _, J7, q6⟩
          | ret u => obtain ⟨v6, sgq6, H6, S6, r6, q6⟩ := hsp; exact fin S6 fun s7 J7 => ⟨_, _, _, J7, r6, q6⟩
    exact go hh w
  · cases f with
    | next => obtain ⟨sgq', H', J', q⟩ := hsp; exact wpAny_execs_nil ⟨sgq', H', J'.ofTry ok, q⟩
    | brk => obtain ⟨sgq', H', J', q⟩ := hsp; exact ⟨sgq', H', J'.ofTry ok, q⟩
    | cont => obtain ⟨sgq', H', J', q⟩ := hsp; exact ⟨sgq', H', J'.ofTry ok, q⟩
    | ret u => obtain ⟨v, sgq', H', J', r, q⟩ := hsp; exact ⟨v, sgq', H', J'.ofTry ok, r, q⟩
end G
set_option maxRecDepth 100000
/-! raise, try, by their meanings. -/
namespace G
open PySem PySem.Spec L2
/-! ### own exception classes -/
def spX (C : Addr) (names : List Str) : Sp := fun vs H Q _ => ∃ (a : Addr) (ys : List V), vs = .ref a :: ys ∧ ys.length = names.length ∧ H a = some (exo a C none) ∧
  ∀ dx, H dx = none → dx ≠ a → Q .non (upd (upd H dx (exd dx (names.zip ys).reverse)) a (exo a C (some dx)))
theorem spX.len {C : Addr} {names ps : List Str} (hn : ps.length = names.length + 1) : ∀ vs H Q E, spX C names vs H Q E → vs.length = ps.length := by
  rintro vs H Q E ⟨a, ys, rfl, h, _⟩
  simp [hn, h]
abbrev FnX (X : Cx) (k : Nat) (f : Addr) (fd : FuncData) (ps : List Str) (C : Addr) (names : List Str) : Prop := FnOk X.prog X.w X.K X.mg X.base (L2.CX X.prog X.w) k f fd ps (spX C names)
section
variable {X : Cx} {B : Base0} {p p' p1 p2 pos pos2 : Pos}
theorem upd_swap {H : Hp} {a b : Addr} {o u u' : HO} (h : b ≠ a) : upd (upd (upd H b u) a o) b u' = upd (upd H b u') a o := by
  funext c
  by_cases h1 : c = a
  · subst h1; rw [upd_ne (Ne.symm h), upd_same, upd_same]
  · by_cases h2 : c = b
    · subst h2; rw [upd_same, upd_ne h1, upd_same]
    · rw [upd_ne h2, upd_ne h1, upd_ne h2, upd_ne h1, upd_ne h2]
/-- the bodies of __init__: one field, two fields -/
theorem px_one {f x y : Str} {C : Addr} {vs : List V} {H : Hp} {Q : VK} {E : XK} {N : List Str} (T : OexC X.K C) (hno : PySem.W.findIn X.K (.ref C) f = some none) (h : spX C [f] vs H Q E)
    (hx : PE X (.Name x p) (tVar 0)) (hy : PE X (.Name y p1) (tVar 1)) (hs : swapsWith (.Name y p1) (some (.Attribute (.Name x p) f p')) pos.line X.env = pure false := by rfl) :
    ∃ t, PSs X [.Assign [.Attribute (.Name x p) f p'] (.Name y p1) pos] t ∧ t { nx := fun _ H' => Q .non H', rt := Q } (L2.start N vs) H := by
  obtain ⟨a, ys, rfl, hl, ha, q⟩ := h
  obtain ⟨v, rfl⟩ : ∃ v, ys = [v] := by
    match ys, hl with
    | [v], _ => exact ⟨v, rfl⟩
  refine ⟨_, pss_one (ps_ost hx hy hs), v, by first | rfl | simp [L2.start], .ref a, by first | rfl | simp [L2.start], a, C, rfl, T, hno, .inl ⟨ha, fun dx n ne => q dx n ne⟩⟩
theorem px_two {f g x y z : Str} {C : Addr} {vs : List V} {H : Hp} {Q : VK} {E : XK} {N : List Str} (T : OexC X.K C) (hno : PySem.W.findIn X.K (.ref C) f = some none) (hno2 : PySem.W.findIn X.K (.ref C) g = some none) (h : spX C [f, g] vs H Q E)
    {p3 p4 p5 p6 : Pos} (hx : PE X (.Name x p) (tVar 0)) (hy : PE X (.Name y p1) (tVar 1)) (hx2 : PE X (.Name x p3) (tVar 0)) (hz : PE X (.Name z p4) (tVar 2)) (hs : swapsWith (.Name y p1) (some (.Attribute (.Name x p) f p')) pos.line X.env = pure false := by rfl)
    (hs2 : swapsWith (.Name z p4) (some (.Attribute (.Name x p3) g p5)) p6.line X.env = pure false := by rfl) :
    ∃ t, PSs X [.Assign [.Attribute (.Name x p) f p'] (.Name y p1) pos, .Assign [.Attribute (.Name x p3) g p5] (.Name z p4) p6] t ∧ t { nx := fun _ H' => Q .non H', rt := Q } (L2.start N vs) H := by
  obtain ⟨a, ys, rfl, hl, ha, q⟩ := h
  obtain ⟨v, u, rfl⟩ : ∃ v u, ys = [v, u] := by
    match ys, hl with
    | [v, u], _ => exact ⟨v, u, rfl⟩
  refine ⟨_, pss_cons (ps_ost hx hy hs) (pss_one (ps_ost hx2 hz hs2)), v, by first | rfl | simp [L2.start], .ref a, by first | rfl | simp [L2.start], a, C, rfl, T, hno, .inl ⟨ha, fun dx n ne => ?_⟩⟩
  refine ⟨u, by first | rfl | simp [L2.start], .ref a, by first | rfl | simp [L2.start], a, C, rfl, T, hno2, .inr ⟨dx, [(f, v)], upd_same, by rw [upd_ne ne, upd_same], by simp, ?_⟩⟩
  show Q .non _
  rw [upd_swap ne]
  exact q dx n ne
end
/-! ### raise -/
def throwE (x : Exc) : M Fl := fun s => .exc x s
def raiseK (c : Str) (names : List Str) : Option (List D) → M Fl
  | some ds => if ds.length = names.length then throwE ⟨c, names.zip ds⟩ else stuck
  | none => stuck
def raiseS (c : Str) (names : List Str) (mr : M (List Val)) : M Fl := mr.bind fun xs => raiseK c names (allD xs)
theorem upd_del {H : Hp} {a d : Addr} {o u u' : HO} (ha : H a = none) (hd : d ≠ a) : upd (del (upd (upd (upd H a o) d u) a o) a) d u' = upd H d u' := by
  funext c
  by_cases h2 : c = d
  · subst h2; rw [upd_same, upd_same]
  · rw [upd_ne h2, upd_ne h2]
    by_cases h1 : c = a
    · subst h1; rw [del_same, ha]
    · rw [del_ne h1, upd_ne h1, upd_ne h2, upd_ne h1]
theorem upd_del2 {H : Hp} {a d : Addr} {o o' u u' : HO} (ha : H a = none) (hd : d ≠ a) : upd (del (upd (upd (upd H a o) d u) a o') a) d u' = upd H d u' := by
  funext c
  by_cases h2 : c = d
  · subst h2; rw [upd_same, upd_same]
  · rw [upd_ne h2, upd_ne h2]
    by_cases h1 : c = a
    · subst h1; rw [del_same, ha]
    · rw [del_ne h1, upd_ne h1, upd_ne h2, upd_ne h1]
theorem zip_look {K : PySem.W.Frag} {F : Hp} : ∀ {names : List Str} {ds : List D} {vs : List V}, Rls K F ds vs → ∀ f y, (names.zip ds).lookup f = some y → ∃ v, (names.zip vs).lookup f = some v ∧ Rl K F y v
  | [], _, _, _, f, y, h => by cases h
  | _ :: _, [], _, _, f, y, h => by cases h
  | n :: ns, d :: ds, _, .cons (v := v) (vs := vs) r rs, f, y, h => by
    by_cases e : f = n
    · subst e
      simp [List.lookup] at h ⊢
      exact h ▸ r
    · have e' : (f == n) = false := by simpa using e
      simp [List.lookup, e'] at h ⊢
      exact zip_look rs f y h
theorem look_rev {α : Type} {f : Str} {l : List (Str × α)} (nd : (l.map (·.1)).Nodup) : l.reverse.lookup f = l.lookup f := by
  induction l with
  | nil => rfl
  | cons p l ih =>
    obtain ⟨n, y⟩ := p
    have nd' : (n :: l.map (·.1)).Nodup := nd
    obtain ⟨h1, h2⟩ := List.nodup_cons.mp nd'
    rw [List.reverse_cons, List.lookup_append, ih h2]
    by_cases e : f = n
    · subst e
      have z : l.lookup f = none := by
        rw [List.lookup_eq_none_iff]
        intro q hq
        have hne : f ≠ q.1 := fun e => h1 (e ▸ List.mem_map_of_mem hq)
        simpa using hne
      rw [z]
      simp [List.lookup]
    · have e' : (f == n) = false := by simpa using e
      simp [List.lookup, e']
section
variable {X : Cx} {B : Base0} {e : Expr} {es : List Expr} {mr : M (List Val)} {p pos pos2 : Pos} {x : Str}
theorem tAp.stmt {K : PySem.W.Frag} {sgq : St} {m : M (List Val)} {Q : List V → Hp → Prop} {k : List Val → M Fl} {w : Wd} {s : Sg} {D : Ends} (I : IN K B w s sgq) (h : EndsS K B w s.Omq.length ((m s).bind k) D)
    (f : ∀ xs s' w' vs, Stx sgq w s w' s' → IN K B w' s' sgq → RlVs K w' s'.Omq.length xs vs → EndsS K B w' s'.Omq.length (k xs s') D → Q vs w'.H) : tAp K B m sgq w.H Q :=
  ⟨w, s, rfl, I, tE.stmt h fun x s' w' e I' q v r => f x s' w' v e I' r q⟩
/-- raise C(e, ..): C's __init__ keeps its fields -/
theorem fs_raise {C fI : Addr} {k : Nat} {fd : FuncData} {ps names : List Str} {c : Str} (hc : X.calm = true) (tk : Takes X B.W) (hC : He.ga X.K c = C) (T : OexC X.K C) (iC : PySem.W.findIn X.K (.ref C) "__init__" = some (some (.ref fI)))
    (tI : PySem.W.typeIn X.K (.ref fI) = some (.type "function")) (F1 : FnX X k fI fd ps C names) (rm : Room (k + 1) X.A) (bn : Binds X.K fd ps []) (hm : X.mg x = some (.ref C)) (ha : FAp X B (e :: es) mr) (nd : names.Nodup := by decide) (hg : Gl X x := by rfl)
    (hdb : (x == ("__debug__" : Str)) = false := by decide) (st : starEach (e :: es) X.env = (false, eval e X.env) :: starEach es X.env := by rfl) (np : (backTo pos2 (starEach es X.env)).any (·.1) = false := by rfl) (sm : names.length ≤ 1000 := by decide) :
    FS X B (.Raise (some (.Call (.Name x p) (e :: es) [] pos2)) none pos) (raiseS c names mr) := by
  have hx : Passes (L2.CX X.prog X.w) X (fun _ _ _ => False) := fun _ _ _ _ _ _ _ h => by
    obtain ⟨_, _, _, _, _, _, _, _, _, _, _, _, bot⟩ := h
    exact bot.elim
  refine wkS (ps_raise hc tk (pmk_oex (ds := []) (dvs := []) T iC tI F1 rm bn .nil hx hg hm ha hdb st np)) fun D sgq H h => ?_
  obtain ⟨w, s, rfl, I, h⟩ := h
  refine tAp.stmt I h fun xs s1 w1 vs e1 I1 r1 h1 => ?_
  cases ed : allD xs with
  | none => rw [ed] at h1; exact h1.elim
  | some ds =>
    rw [ed] at h1
    by_cases hl : ds.length = names.length
    · rw [raiseK, if_pos hl] at h1
      have ex := allD_eq ed
      subst ex
      have rr := rlVs_d r1
      have hl2 := rr.length
      refine ⟨by omega, fun a ea => ⟨a, vs ++ [], rfl, by simp; omega, upd_same, fun dx n ne => ?_⟩⟩
      rw [upd_ne ne] at n
      refine ⟨rfl, dx, _, upd_same, by rw [upd_ne ne, upd_same], n, ?_⟩
      rw [upd_del2 ea ne]
      obtain ⟨I2, e2⟩ := I1.frz (o := .xd (names.zip (vs ++ [])).reverse) n
      refine h1 _ sgq _ _ e2.ext I2 ⟨by rw [hC], .inr ⟨dx, _, rfl, upd_same, fun f y hy => ?_⟩⟩
      obtain ⟨v, l, r⟩ := zip_look rr f y hy
      refine ⟨v, ?_, Rl.mono e2.ext.F r⟩
      rw [List.append_nil, look_rev (by rw [List.map_fst_zip (by omega)]; exact nd)]
      exact l
    · rw [raiseK, if_neg hl] at h1; exact h1.elim
open PyProof.Rows in
/-- raise C(): no own __init__ -/
theorem pmk_own0 {C : Addr} {bmB : List Value} {B newId initId : String} (F : ExcBaseFacts B newId initId bmB) (q : PySem.W.excIn X.K C bmB newId = true) (gC : X.mg x = some (.ref C))
    (kC : PySem.W.keepIn X.K (.ref C) = true) (r : Raises X (.ref C)) (hg : Gl X x) (hdb : (x == ("__debug__" : Str)) = false := by decide) :
    PMk X (.Call (.Name x p) [] [] pos) (fun sgq H Q => Q (.ref C) none H) := by
  intro pins s sgq H Q I h
  refine wpAny_Call_Name_kw (ld_glob (X := X) I hg gC ?_ hdb)
  refine PySem.W.callWith_K0 I.kIn kC ?_
  show wpAny _ _ (call (.ref C) []) _ _ _
  obtain ⟨bm, N, nm, qn, bs, hdct, sn, sub, ab, col, dd, k0, k1, k2, k3, k5, mN, hC, hN, hni, T⟩ := exc_obj I.kIn q
  refine wpAny_call_exc_subT F T hC hN hni (fun h' e hm => ?_) (by rw [sizeLine_eq]; simp)
  exact mk_of I hm r h (I.hok.gone hm.new)
theorem fs_raise0 {C : Addr} {c : Str} {bmB : List Value} {Bn newId initId : String} (hc : X.calm = true) (tk : Takes X B.W) (hC : He.ga X.K c = C) (F : ExcBaseFacts Bn newId initId bmB) (q : PySem.W.excIn X.K C bmB newId = true)
    (kC : PySem.W.keepIn X.K (.ref C) = true) (r : Raises X (.ref C)) (hm : X.mg x = some (.ref C)) (hg : Gl X x := by rfl) (hdb : (x == ("__debug__" : Str)) = false := by decide) :
    FS X B (.Raise (some (.Call (.Name x p) [] [] pos2)) none pos) (throwE ⟨c, []⟩) := by
  refine wkS (ps_raise hc tk (pmk_own0 F q hm kC r hg hdb)) fun D sgq H h => ?_
  obtain ⟨w, s, rfl, I, h⟩ := h
  exact h w sgq _ _ (Ext.refl _ _) I ⟨by rw [hC], .inl ⟨rfl, rfl⟩⟩
end
end G
set_option maxRecDepth 100000
/-! try, by its meaning. -/
namespace G
open PySem PySem.Spec L2
section
variable {K : PySem.W.Frag} {w0 w w' : Wd} {Omq0 : List (Option Cell)} {s s' : Sg} {sgq sgq' : St}
/-- from here on: a new start -/
def Wd.reb (w0 w : Wd) : Wd := { w with H := fun a => match w0.H a with
  | none => none
  | some _ => w.H a }
theorem reb_none {a : Addr} (h : w0.H a = none) : (Wd.reb w0 w).H a = none := by
  show (match w0.H a with | none => none | some _ => w.H a) = none
  rw [h]
theorem reb_some {a : Addr} {u : HO} (h : w0.H a = some u) : (Wd.reb w0 w).H a = w.H a := by
  show (match w0.H a with | none => none | some _ => w.H a) = _
  rw [h]
theorem reb_dom {a : Addr} (h : w.H a = none) : (Wd.reb w0 w).H a = none := by
  cases q : w0.H a with
  | none => exact reb_none q
  | some u => rw [reb_some q]; exact h
theorem reb_is {a : Addr} {o : HO} (h : (Wd.reb w0 w).H a = some o) : w.H a = some o := by
  cases q : w0.H a with
  | none => rw [reb_none q] at h; cases h
  | some u => rw [reb_some q] at h; exact h
theorem Ins.reb (I : Ins K w0 Omq0 w s sgq) : Ins K (Wd.reb w0 w) s.Omq w s sgq :=
  ⟨I.sim, ⟨⟨Sub.refl _, Nat.le_refl _, fun _ _ => rfl⟩, fun a o h q => ⟨reb_is h, q⟩, fun a h => reb_dom h, fun a u o _ h => reb_is h⟩, I.len, I.val, fun i c e => by
    obtain ⟨a, e1, at_, al, nw⟩ := I.acc i c e
    exact ⟨a, e1, at_, al, reb_none nw⟩, I.dis⟩
theorem Ins.unreb (I : Ins K w0 Omq0 w s sgq) (J : Ins K (Wd.reb w0 w) s.Omq w' s' sgq') : Ins K w0 Omq0 w' s' sgq' := by
  have d : ∀ a, (Wd.reb w0 w).H a = none → w0.H a = none := fun a h => by
    cases q : w0.H a with
    | none => rfl
    | some u =>
      rw [reb_some q] at h
      rw [I.stp.dom a h] at q; cases q
  refine ⟨J.sim, ⟨I.stp.ext.trans ⟨J.stp.ext.F, J.stp.ext.len, J.stp.ext.mu⟩, fun a o h q => ?_, fun a h => d a (J.stp.dom a h), fun a u o ef h => J.stp.fk a u o (I.stp.ext.F a u ef) (by rw [reb_some h]; exact I.stp.fk a u o ef h)⟩, J.len, J.val, fun i c e => ?_, J.dis⟩
  · obtain ⟨h1, q1⟩ := I.stp.keep a o h q
    exact J.stp.keep a o (by rw [reb_some h]; exact h1) q1
  · obtain ⟨a, e1, at_, al, nw⟩ := J.acc i c e
    exact ⟨a, e1, at_, al, d a nw⟩
/-- a dead cell that names an address -/
def Wd.pad (w : Wd) (n : Nat) (p : Addr) : Wd := { w with muq := fun k => if k = n then p else w.muq k }
theorem get_pad {Omq : List (Option Cell)} {x : Cell} {n : Nat} (e : (Omq ++ [none])[n]? = some (some x)) : n < Omq.length ∧ Omq[n]? = some (some x) := by
  by_cases h : n < Omq.length
  · rw [List.getElem?_append_left h] at e; exact ⟨h, e⟩
  · rw [List.getElem?_append_right (Nat.le_of_not_lt h)] at e
    cases k : n - Omq.length with
    | zero => rw [k] at e; simp at e
    | succ j => rw [k] at e; simp at e
theorem Ins.pad {p : Addr} (I : Ins K w0 Omq0 w s sgq) : Ins K w0 Omq0 (w.pad s.Omq.length p) { s with Omq := s.Omq ++ [none] } sgq ∧ Ext w s.Omq.length (w.pad s.Omq.length p) (s.Omq ++ [none]).length := by
  have ex : Ext w s.Omq.length (w.pad s.Omq.length p) (s.Omq ++ [none]).length := ⟨Sub.refl _, by simp, fun k h => if_neg (Nat.ne_of_lt h)⟩
  have mu1 : ∀ n, n < s.Omq.length → (w.pad s.Omq.length p).muq n = w.muq n := fun n h => if_neg (Nat.ne_of_lt h)
  have al : ∀ a, Alien w s.Omq a → Alien (w.pad s.Omq.length p) (s.Omq ++ [none]) a := fun a ⟨f, n⟩ => ⟨f, fun m x q => by
    obtain ⟨hm, q⟩ := get_pad q
    rw [mu1 m hm]; exact n m x q⟩
  refine ⟨⟨⟨I.sim.fz, fun n x e => ?_, fun n m x y e e' q => ?_⟩, I.stp.trans ⟨ex, fun a u e q => ⟨e, al a q⟩, fun a e => e, fun _ _ _ _ e => e⟩, I.len, fun i x e => ?_, fun i x e => ?_, I.dis⟩, ex⟩
  · obtain ⟨hn, e⟩ := get_pad e
    obtain ⟨u, q, f, r⟩ := I.sim.cell n x e
    rw [mu1 n hn]
    exact ⟨u, q, f, r.ext ex⟩
  · obtain ⟨hn, e⟩ := get_pad e
    obtain ⟨hm, e'⟩ := get_pad e'
    rw [mu1 n hn, mu1 m hm] at q; exact I.sim.inj n m x y e e' q
  · obtain ⟨v, e1, r⟩ := I.val i x e
    exact ⟨v, e1, r.ext ex⟩
  · obtain ⟨a, e1, ⟨u, q, r⟩, a2, nw⟩ := I.acc i x e
    exact ⟨a, e1, ⟨u, q, r.ext ex⟩, al a a2, nw⟩
end
/-! ### the meaning -/
structure Hnd where
  cls : Str
  i : Option Nat
  m : Exc → Nat → M Fl
def putX (i : Option Nat) (s : Sg) : Sg := match i with
  | none => { s with Omq := s.Omq ++ [none] }
  | some i => ⟨s.rhq.set i (.v (.r s.Omq.length)), s.Omq ++ [none]⟩
def dropX (i : Option Nat) (s : Sg) : Sg := match i with
  | none => s
  | some i => { s with rhq := s.rhq.set i .no }
def endH (i : Option Nat) : Out Fl → Out Fl
  | .ok (.rt v) s => .ok (.rt v) s
  | .ok f s => .ok f (dropX i s)
  | _ => .stuck
def okX (i : Option Nat) (s : Sg) : Bool := match i with
  | none => true
  | some i => decide (i < s.rhq.length)
def hndRun (h : Hnd) (x : Exc) : M Fl := fun s => match okX h.i s with
  | true => endH h.i (h.m x s.Omq.length (putX h.i s))
  | false => .stuck
def pickH (exm : Str → Str → Option Bool) (x : Exc) : List Hnd → M Fl
  | [] => fun s => .exc x s
  | h :: r => fun s => match exm x.cls h.cls with
    | some true => hndRun h x s
    | some false => pickH exm x r s
    | none => .stuck
def tryS (exm : Str → Str → Option Bool) (mb : M Fl) (hs : List Hnd) : M Fl := fun s => match mb s with
  | .exc x s' => pickH exm x hs s'
  | o => o
/-- what a suite may use of the exception -/
structure XcR (K : PySem.W.Frag) (B' : Base0) (x : Exc) (n : Nat) (a : Addr) (cls : Value) (d : Option Addr) : Prop where
  cls : cls = .ref (He.ga K x.cls)
  fld : ∀ f y, x.fs.lookup f = some y → ∃ dd ws v, d = some dd ∧ B'.w0.F dd = some (.xd ws) ∧ ws.lookup f = some v ∧ Rl K B'.w0.F y v
  mu : B'.w0.muq n = a
  lt : n < B'.Omq0.length
  W : B'.W = fun _ _ _ _ => False
inductive HdsF (X : Cx) : List ExceptHandler → List Hnd → Prop
  | nil : HdsF X [] []
  | one {x c : Str} {m : Exc → Nat → M Fl} {b0 : Stmt} {su : List Stmt} {np p' : Pos} {hs : List ExceptHandler} {l : List Hnd} (hc : Names X x (.ref (He.ga X.K c)))
      (hsu : ∀ (x : Exc) (n : Nat) (B' : Base0) (a : Addr) (oe : Obj) (cls : Value) (d : Option Addr) (pn : List (Addr × Obj)), Zc cls d oe → (∃ vs, oe.data = .fields vs) → XcR X.K B' x n a cls d → FSs (X.suite a ((a, oe) :: pn)) B' (b0 :: su) (m x n)) (r : HdsF X hs l) :
      HdsF X (.ExceptHandler (some (.Name x np)) none (b0 :: su) p' :: hs) (⟨c, none, m⟩ :: l)
  | as {x nm c : Str} {i : Nat} {m : Exc → Nat → M Fl} {b0 : Stmt} {su : List Stmt} {np p' : Pos} {hs : List ExceptHandler} {l : List Hnd} (hc : Names X x (.ref (He.ga X.K c))) (hi : X.N[i]? = some nm) (hl : X.env.kindOf nm = some .local)
      (hsu : ∀ (x : Exc) (n : Nat) (B' : Base0) (a : Addr) (oe : Obj) (cls : Value) (d : Option Addr) (pn : List (Addr × Obj)), Zc cls d oe → (∃ vs, oe.data = .fields vs) → XcR X.K B' x n a cls d → FSs (X.suite a ((a, oe) :: pn)) B' (b0 :: su) (m x n)) (r : HdsF X hs l) :
      HdsF X (.ExceptHandler (some (.Name x np)) (some nm) (b0 :: su) p' :: hs) (⟨c, some i, m⟩ :: l)
def hT (K : PySem.W.Frag) (h : Hnd) : Addr → Value → Option Addr → TS := fun a cls d D sgq H => ∃ x n B', XcR K B' x n a cls d ∧ tS K B' (h.m x n) D sgq H
def Hnd.t (K : PySem.W.Frag) (h : Hnd) : HdT := ⟨.ref (He.ga K h.cls), h.i, hT K h⟩
theorem HdsF.up {X : Cx} : ∀ {hs : List ExceptHandler} {l : List Hnd}, HdsF X hs l → HdsG X hs (l.map (Hnd.t X.K))
  | _, _, .nil => .nil
  | _, _, .one hc hsu r => .one hc (fun a oe cls d pn hz hf => ⟨fun pins s sgq H D I ⟨x, n, B', q, h⟩ => (hsu x n B' a oe cls d pn hz hf q).run pins s sgq H D I h⟩) r.up
  | _, _, .as hc hi hl hsu r => .as hc hi hl (fun a oe cls d pn hz hf => ⟨fun pins s sgq H D I ⟨x, n, B', q, h⟩ => (hsu x n B' a oe cls d pn hz hf q).run pins s sgq H D I h⟩) r.up
section
variable {X : Cx} {B : Base0}
theorem pick_ok {K : PySem.W.Frag} {exm : Str → Str → Option Bool} (he : ∀ c c' b, exm c c' = some b → PySem.W.exmOne K (.ref (He.ga K c)) (.ref (He.ga K c')) = some b) {w w' : Wd} {n : Nat} {s' : Sg} {sgq' : St} {x : Exc} {c : Value} {d : Option Addr} {D : Ends} (ex : Ext w n w' s'.Omq.length) (I : IN K B w' s' sgq') (r : ExcR K w' x c d) :
    ∀ {l : List Hnd}, EndsS K B w n (pickH exm x l s') D → wHds K B.W D (l.map (Hnd.t K)) c d sgq' w'.H := by
  intro l
  induction l with
  | nil => exact fun h => h w' sgq' c d ex I r
  | cons h l ih =>
    intro q
    obtain ⟨ec, rf⟩ := id r
    unfold pickH at q
    cases e : exm x.cls h.cls with
    | none => rw [e] at q; exact q.elim
    | some b =>
      rw [e] at q
      refine ⟨b, by rw [ec]; exact he _ _ _ e, fun hb a ha => ?_, fun hb => ?_⟩
      · subst hb
        have q : EndsS K B w n (hndRun h x s') D := q
        unfold hndRun at q
        cases hk : okX h.i s' with
        | false => rw [hk] at q; exact q.elim
        | true =>
        rw [hk] at q
        have q : EndsS K B w n (endH h.i (h.m x s'.Omq.length (putX h.i s'))) D := q
        have hlt : ∀ i, h.i = some i → i < sgq'.length := fun i e => by
          rw [e] at hk
          rw [← I.len]
          exact of_decide_eq_true hk
        obtain ⟨I1, ex1⟩ := I.pad (p := a)
        have hmu : (w'.pad s'.Omq.length a).muq s'.Omq.length = a := if_pos rfl
        obtain ⟨s1, hs1, I2⟩ : ∃ s1, putX h.i s' = s1 ∧ s1.Omq = s'.Omq ++ [none] ∧ IN K B (w'.pad s'.Omq.length a) s1 (putO h.i a sgq') := by
          refine ⟨_, rfl, ?_⟩
          cases hi : h.i with
          | none => exact ⟨rfl, I1⟩
          | some i => exact ⟨rfl, I1.slot (x := .r s'.Omq.length) (v := .ref a) ⟨by simp, by rw [hmu]⟩ (hlt i hi)⟩
        obtain ⟨eOmq, I2⟩ := I2
        have exA : Ext w n (w'.pad s'.Omq.length a) s1.Omq.length := by rw [eOmq]; exact ex.trans ex1
        refine ⟨x, s'.Omq.length, ⟨Wd.reb B.w0 (w'.pad s'.Omq.length a), s1.Omq, fun _ _ _ _ => False⟩, ⟨ec, fun f y hy => ?_, hmu, by rw [eOmq]; simp, rfl⟩, w'.pad s'.Omq.length a, s1, rfl, I2.reb, ?_⟩
        · rcases rf with ⟨z, _⟩ | ⟨dd, ws, e1, e2, e3⟩
          · rw [z] at hy; cases hy
          · obtain ⟨v, l1, l2⟩ := e3 f y hy
            exact ⟨dd, ws, v, e1, e2, l1, l2⟩
        · rw [hs1] at q
          have dr : ∀ {w2 : Wd} {s2 : Sg} {sgq2 : St}, IN K B w2 s2 sgq2 → IN K B w2 (dropX h.i s2) (goneO h.i sgq2) ∧ (dropX h.i s2).Omq = s2.Omq := fun {w2 s2 sgq2} J => by
            cases hi : h.i with
            | none => exact ⟨J, rfl⟩
            | some i =>
              by_cases hj : i < sgq2.length
              · exact ⟨J.drop hj, rfl⟩
              · have e1 : sgq2.set i none = sgq2 := List.set_eq_of_length_le (Nat.le_of_not_lt hj)
                have e2 : s2.rhq.set i .no = s2.rhq := List.set_eq_of_length_le (by rw [J.len]; exact Nat.le_of_not_lt hj)
                show IN K B w2 { s2 with rhq := s2.rhq.set i .no } (sgq2.set i none) ∧ _
                rw [e1, e2]
                exact ⟨J, rfl⟩
          cases o : h.m x s'.Omq.length s1 with
          | stuck => rw [o] at q; exact q.elim
          | exc y s2 => rw [o] at q; exact q.elim
          | ok f s2 =>
            rw [o] at q
            cases f with
            | nx =>
              intro w2 sgq2 e2 J
              obtain ⟨J2, eo⟩ := dr (I2.unreb J)
              exact q w2 _ (by rw [eo]; exact exA.trans e2) J2
            | bk =>
              intro w2 sgq2 e2 J
              obtain ⟨J2, eo⟩ := dr (I2.unreb J)
              exact q w2 _ (by rw [eo]; exact exA.trans e2) J2
            | ct =>
              intro w2 sgq2 e2 J
              obtain ⟨J2, eo⟩ := dr (I2.unreb J)
              exact q w2 _ (by rw [eo]; exact exA.trans e2) J2
            | rt v => exact fun w2 sgq2 u e2 J ru => q w2 sgq2 u (exA.trans e2) (I2.unreb J) ru
      · subst hb
        exact ih q
/-- try: several except clauses -/
theorem fs_try {body : List Stmt} {h0 : ExceptHandler} {hs : List ExceptHandler} {l : List Hnd} {mb : M Fl} {pos : Pos} {exm : Str → Str → Option Bool} (he : ∀ c c' b, exm c c' = some b → PySem.W.exmOne X.K (.ref (He.ga X.K c)) (.ref (He.ga X.K c')) = some b)
    (sk : X.stack = X.env :: X.outer) (fr : X.env.frame = some X.env.locals) (nd : X.N.Nodup) (tk : Takes X B.W)
    (hb : ∀ (W : WX) (pn : List (Addr × Obj)) (xe : Value → Shared → Prop), Takes (X.tr pn xe) W → FSs (X.tr pn xe) { B with W := W } body mb)
    (hh : HdsF X (h0 :: hs) l) : FS X B (.Try body (h0 :: hs) [] [] pos) (tryS exm mb l) := by
  refine ⟨fun pins s0 sgq H D I0 h => (ps_tryG (tb := fun W => tS X.K { B with W := W } mb) sk fr nd tk (fun W pn xe tk' _ => hb W pn xe tk') hh.up).run pins s0 sgq H D I0 ?_⟩
  obtain ⟨w, s, rfl, I, h⟩ := h
  refine ⟨w, s, rfl, I, ?_⟩
  unfold tryS at h
  cases o : mb s with
  | stuck => rw [o] at h; exact h
  | ok f s' => rw [o] at h; cases f <;> exact h
  | exc x s' =>
    rw [o] at h
    intro w' sgq' c d ex I' r
    have I' : IN X.K B w' s' sgq' := I'
    exact pick_ok (B := B) he ex I' r h
/-- e.f in an except suite -/
def litO : Option D → M Val
  | some y => lit y
  | none => stuck
def xfV (n : Nat) (x : Exc) (cn f : Str) : Val → M Val
  | .r k => if k = n ∧ x.cls = cn then litO (x.fs.lookup f) else stuck
  | _ => stuck
def xfM (i n : Nat) (x : Exc) (cn f : Str) : M Val := (rd i).bind (xfV n x cn f)
section
variable {X : Cx} {a : Addr} {oe : Obj} {cls : Value} {d : Option Addr} {pn : List (Addr × Obj)} {B' : Base0} {x : Exc} {n : Nat} {p pos : Pos}
theorem fe_xf {i : Nat} {cn f : Str} {nm : Str} (q : XcR X.K B' x n a cls d) (hz : Zc cls d oe) (hf : ∃ vs, oe.data = .fields vs) (T : XfC X.K (He.ga X.K cn)) (hno : PySem.W.findIn X.K (.ref (He.ga X.K cn)) f = some none)
    (he : FE (X.suite a ((a, oe) :: pn)) B' (.Name nm p) (rd i)) (hb : attributeBase (.Name nm p) f X.env (eval (.Name nm p) X.env) = eval (.Name nm p) X.env := by rfl) : FE (X.suite a ((a, oe) :: pn)) B' (.Attribute (.Name nm p) f pos) (xfM i n x cn f) := by
  refine wkE (pe_xf T hno hz hf he hb) fun sgq H Q h => ?_
  obtain ⟨w, s, rfl, I, h⟩ := h
  refine tE.first I h fun y s1 w1 v e1 I1 r1 h1 => ?_
  cases y with
  | d _ => exact h1.elim
  | s _ => exact h1.elim
  | r k =>
    by_cases hk : k = n ∧ x.cls = cn
    · rw [xfV, if_pos hk] at h1
      obtain ⟨rfl, rfl⟩ := hk
      cases hl : x.fs.lookup f with
      | none => rw [hl] at h1; exact False.elim h1
      | some y =>
        rw [hl] at h1
        obtain ⟨dd, ws, u, e2, e3, e4, e5⟩ := q.fld f y hl
        have ev : v = .ref a := by
          rw [← q.mu, ← I1.stp.ext.mu k q.lt]
          exact r1.2
        refine ⟨ev, q.cls, dd, ws, u, e2, ?_, e4, ?_⟩
        · have hF := I1.stp.ext.F _ _ e3
          rcases I1.sim.fz _ _ hF with z | ⟨z, _⟩
          · exact z
          · cases z
        · exact h1 w1 (Stx.refl _ _ _) I1 u (Rl.mono I1.stp.ext.F e5)
    · rw [xfV, if_neg hk] at h1; exact h1.elim
end
end
end G
set_option maxRecDepth 100000
/-! Unpacking, all, any, unary minus. -/
namespace G
open PySem PySem.Spec L2
section
variable {X : Cx} {B : Base0} {e tg : Expr} {m : M Val} {pos : Pos}
/-- a, b = e: a tuple -/
def asgS (t : Tgt) (m : M Val) : M Fl := (fzM m).bind fun x => (t.g x).bind fun _ => M.pure .nx
theorem fs_asg {t : Tgt} (he : FE X B e m) (hg : FG X B tg t) (hs : swapsWithSole [tg] e pos.line X.env = pure false := by rfl) (hw : swappedStores [tg] e X.env = pure none := by rfl)
    (h1 : (assignEach [tg] X.env).map (·.2) = [assign tg X.env] := by rfl) : FS X B (.Assign [tg] e pos) (asgS t m) := by
  refine wkS (ps_asg he hg hs hw h1) fun D sgq H h => ?_
  obtain ⟨w, s, rfl, I, h⟩ := h
  refine tE.fzS I h fun x s1 w1 v e1 I1 r1 h1 => ⟨w1, s1, x, rfl, I1, r1, ?_⟩
  rcases t.ok x s1 with q | ⟨s2, q, eo⟩
  · have h1 : EndsS X.K B w1 s1.Omq.length ((t.g x s1).bind _) D := h1
    rw [q] at h1; exact h1.elim
  · have h1 : EndsS X.K B w1 s1.Omq.length ((t.g x s1).bind fun _ => M.pure .nx) D := h1
    rw [q] at h1 ⊢
    exact ⟨eo, fun sgq' I' _ _ => h1 w1 sgq' (by rw [eo]; exact Ext.refl _ _) I'⟩
/-- a, b = e: a list -/
def unpK (is : List Nat) (o : Option (List Val)) : M Fl := match o with
  | some xs => (gAll is xs).bind fun _ => M.pure .nx
  | none => stuck
def asgL (is : List Nat) (m : M Val) : M Fl := (fzM m).bind fun x s => unpK is (obsL s x) s
theorem fs_asgL {tgs : List Expr} {kk : Nat} {is : List Nat} {pos2 : Pos} (hc : X.calm = true) (he : FE X B e m) (hg : FGs X B tgs is) (hl : (assignEach tgs X.env).length = is.length := by rfl) (hst : (assignEach tgs X.env).findIdx? (·.1) = none := by rfl)
    (hs : swapsWithSole [.Tuple tgs kk pos2] e pos.line X.env = pure false := by rfl) (hw : swappedStores [.Tuple tgs kk pos2] e X.env = pure none := by rfl)
    (h1 : (assignEach [.Tuple tgs kk pos2] X.env).map (·.2) = [assign (.Tuple tgs kk pos2) X.env] := by rfl) : FS X B (.Assign [.Tuple tgs kk pos2] e pos) (asgL is m) := by
  refine wkS (ps_asg he (pg_lst hc hg hl hst) hs hw h1) fun D sgq H h => ?_
  obtain ⟨w, s, rfl, I, h⟩ := h
  refine tE.fzS I h fun x s1 w1 v e1 I1 r1 h1 => ?_
  cases o : obsL s1 x with
  | none => rw [o] at h1; exact h1.elim
  | some xs =>
    rw [o] at h1
    obtain ⟨a, vs, rfl, ha, rs⟩ := obsL_ok I1 (RlS.of r1) o
    have h1 : EndsS X.K B w1 s1.Omq.length ((gAll is xs s1).bind fun _ => M.pure .nx) D := h1
    rcases gAll_ok is xs s1 with q | ⟨s2, q, eo⟩
    · rw [q] at h1; exact h1.elim
    · rw [q] at h1
      refine ⟨a, vs, rfl, .inl ha, by rw [← rs.length]; exact gAll_len q, w1, s1, xs, rfl, I1, rs, ?_⟩
      rw [q]
      exact ⟨eo, fun sgq' I' _ _ => h1 w1 sgq' (by rw [eo]; exact Ext.refl _ _) I'⟩
/-! ### all, any -/
def bools : List Val → Option (List Bool)
  | [] => some []
  | .d (.bl b) :: r => (bools r).map (b :: ·)
  | _ :: _ => none
theorem bools_eq {K : PySem.W.Frag} {w : Wd} {n : Nat} : ∀ {xs : List Val} {vs : List V} {bs : List Bool}, bools xs = some bs → RlVs K w n xs vs → vs = bs.map V.bl
  | [], _, _, h, .nil => by cases h; rfl
  | .d (.bl b) :: xs, _, bs, h, .cons r rs => by
    unfold bools at h
    obtain ⟨bs', e, rfl⟩ := Option.map_eq_some_iff.mp h
    rw [bools_eq e rs]
    cases r
    rfl
def qfK (f : List Bool → Bool) (o : Option (List Bool)) : M Val := match o with
  | some bs => lit (.bl (f bs))
  | none => stuck
def qfF (f : List Bool → Bool) (xs : List Val) : M Val := fun s => match xs with
  | [x] => qfK f ((obsL s x).bind bools) s
  | _ => .stuck
theorem qf_ok {K : PySem.W.Frag} {f : List Bool → Bool} {w : Wd} {s : Sg} {sgq : St} {xs : List Val} {vs : List V} {Q : VK} (I : IN K B w s sgq) (r : RlSs K w s.Omq.length sgq xs vs) (h : EndsV K B w s sgq (qfF f xs s) Q) :
    ∃ (a : Addr) (bs : List Bool), vs = [V.ref a] ∧ SqL K w.H a (bs.map V.bl) ∧ Q (.bl (f bs)) w.H := by
  match xs, r with
  | [], _ => exact h.elim
  | _ :: _ :: _, _ => exact h.elim
  | [x], .cons r1 .nil =>
    have h : EndsV K B w s sgq (qfK f ((obsL s x).bind bools) s) Q := h
    cases o : obsL s x with
    | none => rw [o] at h; exact h.elim
    | some ys =>
      rw [o] at h
      have h : EndsV K B w s sgq (qfK f (bools ys) s) Q := h
      cases ob : bools ys with
      | none => rw [ob] at h; exact h.elim
      | some bs =>
        rw [ob] at h
        obtain ⟨a, us, rfl, ha, rs⟩ := obsL_ok I r1 o
        have ev := bools_eq ob rs
        subst ev
        exact ⟨a, bs, rfl, .inl ha, h w (Stx.refl _ _ _) I _ (Rl.bl _)⟩
theorem c_all (hc : X.calm = true) : CallF X B (.builtin "all") (qfF fun bs => bs.all id) := ⟨_, cr_all hc, fun sgq w s xs vs Q I r h => qf_ok I r h⟩
theorem c_any (hc : X.calm = true) : CallF X B (.builtin "any") (qfF fun bs => bs.any id) := ⟨_, cr_any hc, fun sgq w s xs vs Q I r h => qf_ok I r h⟩
def negV : Val → M Val
  | .d (.int i) => lit (.int (-i))
  | _ => stuck
theorem fe_neg (he : FE X B e m) : FE X B (.UnaryOp .USub e pos) (m.bind negV) := by
  refine wkE (pe_un un_neg he) fun sgq H Q h => ?_
  obtain ⟨w, s, rfl, I, h⟩ := h
  refine tE.first I h fun x s1 w1 v e1 I1 r1 h1 => ?_
  cases x with
  | r k => exact h1.elim
  | s i => exact h1.elim
  | d y =>
    cases y with
    | int i => cases r1; exact ⟨i, rfl, h1 w1 (Stx.refl _ _ _) I1 _ (Rl.int _)⟩
    | non => exact h1.elim
    | bl _ => exact h1.elim
    | str _ => exact h1.elim
    | tup _ => exact h1.elim
    | tupB _ => exact h1.elim
    | lst _ => exact h1.elim
    | dK _ => exact h1.elim
    | dT _ => exact h1.elim
    | ins _ _ => exact h1.elim
end
end G
set_option maxRecDepth 100000
/-! Facts by names; defs. -/
namespace G
open PySem PySem.Spec L2
/-! ### facts that the head tells -/
def vnew : String := "ValueError.__new__"
def oexA (K : PySem.W.Frag) (C : Addr) : Bool := match K.lookup C with
  | some ⟨.type "type", _, .cls cq, sq⟩ => (match cq.mro, sq.toList with
    | .ref C1 :: bq, [_, _, _, _, some (.builtin nq), _] => C1 == C && nq == vnew && !cq.hasDel && cq.hasDict && PySem.HandSPX.refsVE bq
    | _, _ => false)
  | _ => false
def oexB (c : Str) (K : PySem.W.Frag) : Bool := oexA K (He.ga K c) && (He.eqO (PySem.W.findIn K (.ref (He.ga K c)) "__setattr__") (some (some (.builtin "object.__setattr__"))) && (decide (PySem.W.subIn K (.ref (He.ga K c)) (.type "BaseException") = some true) &&
  (decide (PySem.W.typeIn K (.ref (He.ga K c)) = some (.type "type")) && PySem.W.keepIn K (.ref (He.ga K c)))))
theorem oexB_ok {c : Str} {K : PySem.W.Frag} (h : oexB c K = true) : OexC K (He.ga K c) := by
  obtain ⟨h0, h⟩ := He.ba h
  obtain ⟨h1, h⟩ := He.ba h
  obtain ⟨h2, h⟩ := He.ba h
  obtain ⟨h3, h4⟩ := He.ba h
  refine ⟨?_, He.eqO_ok h1, of_decide_eq_true h2, of_decide_eq_true h3, h4⟩
  unfold oexA at h0
  split at h0
  · rename_i dq cq sq hq
    split at h0
    · rename_i C1 bq l0 l1 l2 l3 nq l5 hm hs
      simp only [Bool.and_eq_true, beq_iff_eq, Bool.not_eq_true'] at h0
      obtain ⟨⟨⟨⟨e1, e2⟩, e3⟩, e4⟩, e5⟩ := h0
      obtain ⟨nmq, bsq, mroq, nsq, qnq, hdq, snq, subq, abq, colq, delq⟩ := cq
      dsimp only at hm e3 e4
      subst hm e3 e4 e1 e2
      obtain ⟨l⟩ := sq
      dsimp only at hs
      subst hs
      exact ⟨nmq, qnq, nsq, bsq, bq, snq, subq, abq, colq, dq, l0, l1, l2, l3, l5, hq, e5⟩
    · cases h0
  · cases h0
/-- C's own __init__ -/
def iniB (c : Str) (K : PySem.W.Frag) : Bool := He.eqO (PySem.W.findIn K (.ref (He.ga K c)) "__init__") (some (some (.ref (He.fAd K (c, some "__init__"))))) && decide (PySem.W.typeIn K (.ref (He.fAd K (c, some "__init__"))) = some (.type "function"))
def xfaB (c : Str) (K : PySem.W.Frag) : Bool := xfB K (He.ga K c)
/-- an empty tuple stands there -/
def ktB (p : PySem.W.Frag → Addr) (K : PySem.W.Frag) : Bool := match K.lookup (p K) with
  | some ⟨.type t, _, .seq its _, _⟩ => decide (t = "tuple") && its.toList.isEmpty
  | _ => false
theorem ktB_ok {p : PySem.W.Frag → Addr} {K : PySem.W.Frag} (h : ktB p K = true) : KT K (p K) [] := by
  unfold ktB at h
  split at h
  · rename_i t od its nn sl hq
    obtain ⟨h1, h2⟩ := He.ba h
    have e := of_decide_eq_true h1
    subst e
    have e2 : its.toList = [] := List.isEmpty_iff.mp h2
    refine ⟨_, its, nn, hq, rfl, rfl, ?_, by rw [e2]; exact .nil⟩
    rw [← Array.length_toList, e2, sizeLine_eq]; simp
  · cases h
/-- the keyword-only default x of a def -/
def kwAt (f : Str × Option Str) (x : Str) (K : PySem.W.Frag) : Addr := match K.lookup (He.fAd K f) with
  | some ⟨_, _, .func fd, _⟩ => (match fd.kwdefaults with
    | .ref T => (match PySem.W.nsIn K T x with
      | some (some (.ref a)) => a
      | _ => 0)
    | _ => 0)
  | _ => 0
def obsX (fa : List He.Fa) (ex : List (PySem.W.Frag → Bool)) (fn : List He.DefD) (K : PySem.W.Frag) : He.AlD := ((fa.all fun f => f.ok K) && ((ex.all fun f => f K) && fn.all fun d => d.ok K), fn.map fun d => He.fnW K d.at_)
def SaysX (fa : List He.Fa) (ex : List (PySem.W.Frag → Bool)) (fn : List He.DefD) (K : PySem.W.Frag) : Prop := obsX fa ex fn K = He.valD fn
def obsXG (n : Nat) (fa : List He.Fa) (ex : List (PySem.W.Frag → Bool)) (fn : List He.DefD) (g : Addr → Option Obj) : He.AlD := obsX fa ex fn (He.frG g (He.asD g n))
def hookX (n : Nat) (fa : List He.Fa) (ex : List (PySem.W.Frag → Bool)) (fn : List He.DefD) : PySem.W.Hook where
  α := He.AlD
  obs := fun s => obsXG n fa ex fn s.heap.get?
  val := fun _ => He.valD fn
  says := fun _ h => ∃ K : PySem.W.Frag, K.In h ∧ SaysX fa ex fn K
  of := fun _ _ q => ⟨_, He.frG_in, q⟩
  keeps := fun _ _ _ ⟨K, iK, c⟩ k => ⟨K, PySem.W.Frag.In.keeps iK k, c⟩
theorem obsXG_eq {n : Nat} {fa : List He.Fa} {ex : List (PySem.W.Frag → Bool)} {fn : List He.DefD} {g : Addr → Option Obj} {s : Shared} (h : ∀ a, g a = s.heap.get? a) : obsXG n fa ex fn g = (hookX n fa ex fn).obs s := by
  have eg : g = s.heap.get? := funext h
  subst eg
  rfl
/-- all that the head tells -/
structure Fc (fa : List He.Fa) (ex : List (PySem.W.Frag → Bool)) (fn : List He.DefD) (K : PySem.W.Frag) (mg : Str → Option Value) : Prop where
  c : SaysX fa ex fn K
  glo_ : ∀ {x : Str}, (He.Fa.glo x).ok K = true → mg x = some (.ref (He.ga K x))
  free_ : ∀ {x : Str}, (He.Fa.free x).ok K = true → mg x = none
  int_ : ∀ {x : Str} {i : Int}, (He.Fa.int x i).ok K = true → ∃ t, mg x = some (.int i t)
  str_ : ∀ {x z : Str}, (He.Fa.str x z).ok K = true → ∃ t, mg x = some (.str z t)
theorem Fc.mk' {fa : List He.Fa} {ex : List (PySem.W.Frag → Bool)} {fn : List He.DefD} {K : PySem.W.Frag} {mg : Str → Option Value} {h : Heap} (X : K.In h) (G : h.Ns mainGlobals mg) (c : SaysX fa ex fn K) : Fc fa ex fn K mg :=
  ⟨c, fun q => He.glo_ok X G q, fun q => He.free_ok X G q, fun q => He.int_ok X G q, fun q => He.str_ok X G q⟩
section
variable {fa : List He.Fa} {ex : List (PySem.W.Frag → Bool)} {fn : List He.DefD} {K : PySem.W.Frag} {mg : Str → Option Value}
theorem Fc.fact (Y : Fc fa ex fn K mg) (i : Nat) {f : He.Fa} (h : fa[i]? = some f) : f.ok K = true := by
  have q := congrArg Prod.fst Y.c
  exact List.all_eq_true.mp (He.ba q).1 f (List.mem_of_getElem? h)
theorem Fc.own (Y : Fc fa ex fn K mg) (i : Nat) {f : PySem.W.Frag → Bool} (h : ex[i]? = some f) : f K = true := by
  have q := congrArg Prod.fst Y.c
  exact List.all_eq_true.mp (He.ba (He.ba q).2).1 f (List.mem_of_getElem? h)
theorem Fc.fun (Y : Fc fa ex fn K mg) (i : Nat) {d : He.DefD} (h : fn[i]? = some d) : ∃ fd, FunD K d.name d.qual d.params d.body d.scope (d.dvs K) (d.kws K) (He.fAd K d.at_) fd := by
  have q := congrArg Prod.fst Y.c
  have q1 := List.all_eq_true.mp (He.ba (He.ba q).2).2 d (List.mem_of_getElem? h)
  have q2 : fn.map (fun d => He.fnW K d.at_) = fn.map He.DefD.val := congrArg Prod.snd Y.c
  have q3 : He.fnW K d.at_ = d.val := by
    have e := congrArg (·[i]?) q2
    simp only [List.getElem?_map, h, Option.map_some] at e
    exact Option.some.inj e
  exact He.DefD.funD q3 q1
end
/-! ### defs by their meanings -/
section
variable {P : Program} {w : World} {base : Heap} {K : PySem.W.Frag} {mg : Str → Option Value}
abbrev cxG (P : Program) (w : World) (K : PySem.W.Frag) (mg : Str → Option Value) (base : Heap) := cxOf (L2.CX P w) P w K mg base
theorem okF {x qual : Str} {params : Arguments} {body : List Stmt} {scope : Scope} {dvs : List V} {kws : List (Str × V)} {f : Addr} {fd : FuncData} {N ps : List Str} {k : Nat} {m : M Fl} (F : FunD K x qual params body scope dvs kws f fd) (S : FnScope N ps scope)
    (h : ∀ (cdv : Value) (A : Around) (outer : List Env) (s : Shared) (H : Hp) (E : XK) (B : Base0), Room k (A.deeper (PyProof.Rows.envOfC qual scope s.heap.objs.size f cdv)) → Takes (cxG P w K mg base N qual scope f cdv A outer s H E) B.W →
      FSs (cxG P w K mg base N qual scope f cdv A outer s H E) B body m) : FnOk P w K mg base (L2.CX P w) (k + 1) f fd ps (spF K ps.length (runF N.length m)) :=
  F.ok S (fun _ _ _ _ q => spF.len q) fun cdv A outer s H vs Q E hr q => spF.body rfl q fun B hB => h cdv A outer s H E B hr (by rw [hB]; exact takes_of rfl rfl rfl rfl)
theorem poG {N : List Str} {qual : Str} {scope : Scope} {f : Addr} {cdv : Value} {A : Around} {outer : List Env} {s : Shared} {H : Hp} {E : XK} :
    PassesOwn (model P w) (cxG P w K mg base N qual scope f cdv A outer s H E).A (cxG P w K mg base N qual scope f cdv A outer s H E).env (cxG P w K mg base N qual scope f cdv A outer s H E).xe := passes_of rfl
/-- a def, as its callers see it: its level k, its meaning, the data dds that stand for lacking arguments -/
structure FnR (P : Program) (w : World) (K : PySem.W.Frag) (mg : Str → Option Value) (base : Heap) (k : Nat) (at_ : Str × Option Str) (ps : List Str) (sem : SemF) (dds : List D) : Prop where
  ex : ∃ (fd : FuncData) (ds : List Value) (dvs : List V), FnOk P w K mg base (L2.CX P w) k (He.fAd K at_) fd ps (spF K ps.length sem) ∧ Binds K fd ps ds ∧ Vals dvs ds ∧ (∀ F, Rls K F dds dvs)
  kp : PySem.W.keepIn K (.ref (He.fAd K at_)) = true
theorem rls_nil : ∀ F : Hp, Rls K F [] [] := fun _ => .nil
end
section
variable {X : Cx} {B : Base0} {k k' : Nat} {ps : List Str} {x mth : Str} {p pos apos : Pos} {e o : Expr} {es : List Expr} {ma : M Val} {mr : M (List Val)} {sem : SemF} {dds : List D}
theorem fe_callR (tk : Takes X B.W) (R : FnR X.prog X.w X.K X.mg X.base k (x, none) ps sem dds) (rm : Room k' X.A) (le : k ≤ k') (hm : X.mg x = some (.ref (He.ga X.K x))) (ha : FAp X B (e :: es) mr) (hg : Gl X x := by rfl) (hdb : (x == ("__debug__" : Str)) = false := by decide)
    (st : starEach (e :: es) X.env = (false, eval e X.env) :: starEach es X.env := by rfl) (np : (backTo pos (starEach es X.env)).any (·.1) = false := by rfl) : FE X B (.Call (.Name x p) (e :: es) [] pos) (callE ps.length sem dds mr) := by
  obtain ⟨fd, ds, dvs, F, b, v, r⟩ := R.ex
  exact fe_call tk F (rm.mono le) hm R.kp b v r ha hg hdb st np
theorem fe_methR {pl : Sem Bool} (tk : Takes X B.W) (c : Str) (cl : Cls X.K (He.ga X.K c)) (hm : Meth X.K (He.ga X.K c) mth (He.fAd X.K (c, some mth))) (R : FnR X.prog X.w X.K X.mg X.base k (c, some mth) ps sem dds) (rm : Room k' X.A) (le : k ≤ k') (he : FE X B o ma) (ha : FAp X B (e :: es) mr)
    (st : starEach (e :: es) X.env = (false, eval e X.env) :: starEach es X.env := by rfl) (np : (backTo pos (starEach es X.env)).any (·.1) = false := by rfl)
    (ht : eval (.Call (.Attribute o mth apos) (e :: es) [] pos) X.env = (eval o X.env >>= fun ov => standAt apos.atName >>= fun _ => holding [ov] (getMethod ov mth pl) >>= fun fq =>
      callWith pos fq.1 fq.2 (backTo pos (starEach (e :: es) X.env)) (backToKw pos (keywordEach [] X.env))) := by rfl) :
    FE X B (.Call (.Attribute o mth apos) (e :: es) [] pos) (methE c mth ps.length sem dds ma mr) := by
  obtain ⟨fd, ds, dvs, F, b, v, r⟩ := R.ex
  exact fe_meth tk c cl hm F (rm.mono le) b v r he ha st np ht
theorem fe_meth0R {pl : Sem Bool} (tk : Takes X B.W) (c : Str) (cl : Cls X.K (He.ga X.K c)) (hm : Meth X.K (He.ga X.K c) mth (He.fAd X.K (c, some mth))) (R : FnR X.prog X.w X.K X.mg X.base k (c, some mth) ps sem dds) (rm : Room k' X.A) (le : k ≤ k') (he : FE X B o ma)
    (ht : eval (.Call (.Attribute o mth apos) [] [] pos) X.env = (eval o X.env >>= fun ov => standAt apos.atName >>= fun _ => holding [ov] (getMethod ov mth pl) >>= fun fq =>
      callWith pos fq.1 fq.2 (backTo pos (starEach [] X.env)) (backToKw pos (keywordEach [] X.env))) := by rfl) :
    FE X B (.Call (.Attribute o mth apos) [] [] pos) (methE c mth ps.length sem dds ma (M.pure [])) := by
  obtain ⟨fd, ds, dvs, F, b, v, r⟩ := R.ex
  exact fe_meth0 tk c cl hm F (rm.mono le) b v r he ht
/-- a class with keyword-only parameters, all given, as its makers see it -/
structure FnK (P : Program) (w : World) (K : PySem.W.Frag) (mg : Str → Option Value) (base : Heap) (k : Nat) (c : Str) (n : Nat) (ps ks : List Str) (sem : SemF) : Prop where
  ex : ∃ (fd : FuncData) (g : List Value → List Value → List Value) (gV : List V → List V → List V), FnOk P w K mg base (L2.CX P w) k (He.fAd K (c, some "__init__")) fd ps (spF K ps.length sem) ∧ KBn K fd ps (n + 1) ks g gV ∧ ∀ vs zs, gV vs zs = vs ++ zs
  mkr : Mk K (He.ga K c) (He.fAd K (c, some "__init__"))
theorem fe_makeKR {n : Nat} {ks : List Str} {kws : List Keyword} {mk : M (List Val)} (tk : Takes X B.W) (R : FnK X.prog X.w X.K X.mg X.base k x n ps ks sem) (rm : Room k' X.A) (le : k + 1 ≤ k') (hm : X.mg x = some (.ref (He.ga X.K x))) (ha : FAp X B (e :: es) mr) (hk : FKp X B kws mk)
    (hps : n + ks.length + 1 = ps.length := by rfl) (hg : Gl X x := by rfl) (ka : (backToKw pos (keywordEach kws X.env)).all (·.1.isSome) = true := by rfl) (kf : (backToKw pos (keywordEach kws X.env)).filterMap (·.1) = ks := by rfl) (hdb : (x == ("__debug__" : Str)) = false := by decide)
    (st : starEach (e :: es) X.env = (false, eval e X.env) :: starEach es X.env := by rfl) (np : ((backTo pos (starEach (e :: es) X.env)).any (·.1) || (backToKw pos (keywordEach kws X.env)).any (·.1.isNone)) = false := by rfl) :
    FE X B (.Call (.Name x p) (e :: es) kws pos) (makeK x n ks.length sem mr mk) := by
  obtain ⟨fd, g, gV, F, b, q⟩ := R.ex
  exact fe_makeK tk R.mkr F (rm.mono le) hm b q hps ha hk hg ka kf hdb st np
/-- a class made by position -/
structure FnM (P : Program) (w : World) (K : PySem.W.Frag) (mg : Str → Option Value) (base : Heap) (k : Nat) (c : Str) (ps : List Str) (sem : SemF) (dds : List D) : Prop where
  ex : ∃ (fd : FuncData) (ds : List Value) (dvs : List V), FnOk P w K mg base (L2.CX P w) k (He.fAd K (c, some "__init__")) fd ps (spF K ps.length sem) ∧ Binds K fd ps ds ∧ Vals dvs ds ∧ (∀ F, Rls K F dds dvs)
  mkr : Mk K (He.ga K c) (He.fAd K (c, some "__init__"))
/-- an own exception class with fields -/
structure FnE (P : Program) (w : World) (K : PySem.W.Frag) (mg : Str → Option Value) (base : Heap) (k : Nat) (c : Str) (ps names : List Str) : Prop where
  ex : ∃ (fd : FuncData), FnOk P w K mg base (L2.CX P w) k (He.fAd K (c, some "__init__")) fd ps (spX (He.ga K c) names) ∧ Binds K fd ps []
  oex : OexC K (He.ga K c)
  ini : iniB c K = true
theorem fs_raiseR {names : List Str} {pos2 : Pos} (hc : X.calm = true) (tk : Takes X B.W) (R : FnE X.prog X.w X.K X.mg X.base k x ps names) (rm : Room k' X.A) (le : k + 1 ≤ k') (hm : X.mg x = some (.ref (He.ga X.K x))) (ha : FAp X B (e :: es) mr) (nd : names.Nodup := by decide) (hg : Gl X x := by rfl)
    (hdb : (x == ("__debug__" : Str)) = false := by decide) (st : starEach (e :: es) X.env = (false, eval e X.env) :: starEach es X.env := by rfl) (np : (backTo pos2 (starEach es X.env)).any (·.1) = false := by rfl) (sm : names.length ≤ 1000 := by decide) :
    FS X B (.Raise (some (.Call (.Name x p) (e :: es) [] pos2)) none pos) (raiseS x names mr) := by
  obtain ⟨fd, F, b⟩ := R.ex
  obtain ⟨i1, i2⟩ := He.ba R.ini
  exact fs_raise hc tk rfl R.oex (He.eqO_ok i1) (of_decide_eq_true i2) F (rm.mono le) b hm ha nd hg hdb st np sm
theorem fs_raise0R {pos2 : Pos} (hc : X.calm = true) (tk : Takes X B.W) (q : (He.Fa.exc x).ok X.K = true) (hm : X.mg x = some (.ref (He.ga X.K x))) (hg : Gl X x := by rfl) (hdb : (x == ("__debug__" : Str)) = false := by decide) :
    FS X B (.Raise (some (.Call (.Name x p) [] [] pos2)) none pos) (throwE ⟨x, []⟩) := by
  obtain ⟨q1, q2, q3, q4⟩ := He.exc_ok q
  exact fs_raise0 hc tk rfl F.excBase_ValueError q1 q2 (raises_own q3 q4) hm hg hdb
end
end G
set_option maxRecDepth 100000
/-! Small helps for the printed walks. -/
namespace G
open PySem PySem.Spec L2
section
variable {X : Cx} {B : Base0} {pos : Pos} {x : Str}
theorem fe_gint {i : Int} (h : ∃ t, X.mg x = some (.int i t)) (hg : Gl X x := by rfl) (hd : (x == ("__debug__" : Str)) = false := by decide) : FE X B (.Name x pos) (lit (.int i)) := by
  obtain ⟨t, h⟩ := h
  exact fe_glob (v := .int i) h ⟨t, rfl⟩ (fun _ => .int i) hg hd
theorem fe_gstr {z : Str} (h : ∃ t, X.mg x = some (.str z t)) (hg : Gl X x := by rfl) (hd : (x == ("__debug__" : Str)) = false := by decide) : FE X B (.Name x pos) (lit (.str z)) := by
  obtain ⟨t, h⟩ := h
  exact fe_glob (v := .str z) h ⟨t, rfl⟩ (fun _ => .str z) hg hd
end
section
variable {x qual : Str} {K : PySem.W.Frag} {params : Arguments} {scope : Scope} {body : List Stmt} {dvs : List V} {f : Addr} {kws : List (Str × V)} {fd : FuncData} {ps : List Str}
theorem bindsAll (F : FunD K x qual params body scope dvs kws f fd)
    (h : ∀ (dV kV doc pm : Value) (an : Option Addr) (cdv ct : Value) (us : List Value), us.length = ps.length → bindArgs (PySem.W.fnOf x qual params body scope dV kV doc pm an cdv ct) ⟨us, []⟩ = pure (ps.zip us)) : Binds K fd ps [] := by
  obtain ⟨_, _, dV, kV, doc, pm, an, cdv, ct, _, e, _, _, _, _⟩ := F.ex
  rw [e]
  exact .all (h dV kV doc pm an cdv ct)
theorem kbindsN {n : Nat} {ks : List Str} (F : FunD K x qual params body scope [] kws f fd)
    (h : ∀ (kV doc pm : Value) (an : Option Addr) (cdv ct : Value) (us ws : List Value), us.length = n → ws.length = ks.length → bindArgs (PySem.W.fnOf x qual params body scope .none kV doc pm an cdv ct) ⟨us, ks.zip ws⟩ = pure (ps.zip (us ++ ws))) :
    KBn K fd ps n ks (fun us ws => us ++ ws) (fun vs zs => vs ++ zs) := by
  obtain ⟨_, _, dV, kV, doc, pm, an, cdv, ct, _, e, _, _, hD, _⟩ := F.ex
  rcases hD with ⟨_, e2⟩ | ⟨z, _⟩
  · rw [e, e2]
    exact ⟨fun s us ws _ l1 l2 => .of_eq (h kV doc pm an cdv ct us ws l1 l2), fun r1 r2 => r1.append r2⟩
  · exact absurd rfl z
theorem kbindsAll {n : Nat} {ks : List Str} (F : FunD K x qual params body scope dvs kws f fd)
    (h : ∀ (dV kV doc pm : Value) (an : Option Addr) (cdv ct : Value) (us ws : List Value), us.length = n → ws.length = ks.length → bindArgs (PySem.W.fnOf x qual params body scope dV kV doc pm an cdv ct) ⟨us, ks.zip ws⟩ = pure (ps.zip (us ++ ws))) :
    KBn K fd ps n ks (fun us ws => us ++ ws) (fun vs zs => vs ++ zs) := by
  obtain ⟨_, _, dV, kV, doc, pm, an, cdv, ct, _, e, _, _, _, _⟩ := F.ex
  rw [e]
  exact ⟨fun s us ws _ l1 l2 => .of_eq (h dV kV doc pm an cdv ct us ws l1 l2), fun r1 r2 => r1.append r2⟩
end
theorem bo_len : bootBuiltins "len" = some (.builtin "len") := by decide +kernel
theorem bo_int : bootBuiltins "int" = some (.type "int") := by decide +kernel
theorem bo_bool : bootBuiltins "bool" = some (.type "bool") := by decide +kernel
theorem bo_str : bootBuiltins "str" = some (.type "str") := by decide +kernel
theorem bo_list : bootBuiltins "list" = some (.type "list") := by decide +kernel
theorem bo_tuple : bootBuiltins "tuple" = some (.type "tuple") := by decide +kernel
theorem bo_dict : bootBuiltins "dict" = some (.type "dict") := by decide +kernel
theorem bo_all : bootBuiltins "all" = some (.builtin "all") := by decide +kernel
theorem bo_any : bootBuiltins "any" = some (.builtin "any") := by decide +kernel
def blkB (N : List Str) (sc scope : Scope) (own : List (Str × Nat)) : Bool := (match scope.kind with
  | .function => true
  | _ => false) && (scope.names.all (fun y => scope.names.lookup y.1 == some y.2) && (own.all (fun p => N[p.2]? == some p.1) && (scope.names.all (fun y => !(y.2 == .free) || (sc.names.lookup y.1 == some .cell || sc.names.lookup y.1 == some .free)) &&
    scope.names.all (fun y => !(y.2 == .local || y.2 == .cell) || ((own.map (·.1)).contains y.1 || !(N.contains y.1))))))
theorem blk_of {N : List Str} {sc scope : Scope} {own : List (Str × Nat)} (h : blkB N sc scope own = true) : BlkOk N sc scope own := by
  obtain ⟨h1, h⟩ := He.ba h
  obtain ⟨h2, h⟩ := He.ba h
  obtain ⟨h3, h⟩ := He.ba h
  obtain ⟨h4, h5⟩ := He.ba h
  refine ⟨?_, fun y hy => ?_, fun p hp => ?_, fun y hy e => ?_, fun y hy e => ?_⟩
  · split at h1
    · next q => exact q
    · cases h1
  · exact eq_of_beq (List.all_eq_true.mp h2 y hy)
  · exact eq_of_beq (List.all_eq_true.mp h3 p hp)
  · have q := List.all_eq_true.mp h4 y hy
    rw [e] at q
    simpa using q
  · have q := List.all_eq_true.mp h5 y hy
    have e' : (y.2 == .local || y.2 == .cell) = true := by
      rcases e with e | e <;> rw [e] <;> rfl
    rw [e'] at q
    simp only [Bool.not_true, Bool.false_or, Bool.or_eq_true, Bool.not_eq_true', List.contains_iff_mem] at q
    rcases q with q | q
    · exact .inl q
    · exact .inr fun z => by simp [List.contains_iff_mem.mpr z] at q; exact q z
end G
set_option maxRecDepth 100000
/-! The law's end. -/
namespace G
open PySem PySem.Spec L2
/-- no list stands in the written part -/
def noList (K : PySem.W.Frag) : Bool := K.all fun p => !(p.2.cls == .type "list")
theorem noList_ok {K : PySem.W.Frag} (h : noList K = true) {a : Addr} {o : Obj} (e : K.lookup a = some o) : o.cls ≠ .type "list" := fun z => by
  have hm : (a, o) ∈ K := by
    have : ∀ l : List (Addr × Obj), l.lookup a = some o → (a, o) ∈ l := by
      intro l
      induction l with
      | nil => intro q; cases q
      | cons p l ih =>
        intro q
        obtain ⟨b, u⟩ := p
        rw [List.lookup_cons] at q
        split at q
        · next hb => cases q; rw [eq_of_beq hb]; exact List.mem_cons_self
        · exact List.mem_cons_of_mem _ (ih q)
    exact this K e
  have q := List.all_eq_true.mp h _ hm
  rw [show ((a, o) : Addr × Obj).2.cls = .type "list" from z] at q
  simp at q
theorem rls_ints {K : PySem.W.Frag} {F : Hp} : ∀ ns : List Int, Rls K F (ns.map D.int) (ns.map V.int)
  | [] => .nil
  | n :: ns => .cons (.int n) (rls_ints ns)
theorem law_end {K : PySem.W.Frag} {sem : SemF} (nl : noList K = true) {H : Hp} {a : Addr} {ns : List Int} (hS : SqL K H a (ns.map V.int)) (h : ∃ Omq, sem [.d (.lst (ns.map D.int))] [] = .ok (.d (.bl true)) Omq) : spF K 1 sem [.ref a] H (fun v _ => v = .bl true) fun _ _ _ => False := by
  have hR : Rd H a (.lst (ns.map V.int)) := by
    rcases hS with q | ⟨o, its, n, e, c, _⟩
    · exact q
    · exact absurd c (noList_ok nl e)
  obtain ⟨Omq, h⟩ := h
  refine ⟨⟨fun b => if b = a then some (.lst (ns.map V.int)) else none, fun _ => 0, H⟩, [], [.d (.lst (ns.map D.int))], rfl, ⟨fun b u q => ?_, fun n c q => by simp at q, fun n m c c' q => by simp at q⟩, .cons (Rl.lst (by show (if a = a then _ else none) = _; rw [if_pos rfl]) (rls_ints ns)) .nil, rfl, ?_⟩
  · have q : (if b = a then some (HO.lst (ns.map V.int)) else none) = some u := q
    split at q
    · next z =>
      cases q
      rw [z]
      exact hR.imp id fun ⟨o, e⟩ => ⟨rfl, o, e⟩
    · cases q
  · rw [h]
    intro w' v _ _ r
    cases r
    rfl
theorem cx_no {P : Program} {w : World} : ∀ (H : Hp) (s : Shared) (e : Value) (s' : Shared), L2.CX P w [] H s (fun _ _ _ => False) e s' → False := fun _ _ _ _ h => by
  obtain ⟨_, _, _, _, _, _, _, _, _, _, _, _, bot⟩ := h
  exact bot
/-- the law's walk, by its meaning -/
theorem walk_ofW {l : PySem.W.OpenLaw} {n k : Nat} {q : Program} {loose : List Str} {XP : (Str → Option Value) → Heap → Prop} {YP : World → Heap → Prop} {d : DefRec} {x : Str} {sem : SemF} (hn : l.most = some n) (hn2 : n ≤ sizeLine) (hdf : d.params.defaults = []) (hr : Room k callerA)
    (F : ∀ (w : World) (mg : Str → Option Value) (fq : Addr) (h : Heap), YP w h → h.Ns mainGlobals mg → mg d.name = some (.ref fq) →
      ∃ (K : PySem.W.Frag) (fd : FuncData), K.In h ∧ (∀ (s : Shared) (u : Value), BindsTo s fd ⟨[u], []⟩ [(x, u)]) ∧ noList K = true ∧ ∀ base : Heap, K.In base → base.Ns mainGlobals mg → FnOk l.prog w K mg base (L2.CX l.prog w) k fq fd [x] (spF K 1 sem))
    (hl : ∀ ns : List Int, ns.length ≤ n → ∃ Omq, sem [.d (.lst (ns.map D.int))] [] = .ok (.d (.bl true)) Omq) :
    PySem.W.WalkO q loose XP YP l.row.toRowW d [] (fun f us => PySem.call f us) := by
  refine Att.attach_call hn hdf fun w z0 z1 mg mb fq o1 pm cd doc a vs ns G Y ho hd hcd hmg hobj hints hlen hg => ?_
  obtain ⟨K, fd, KX, hb, nl, hF⟩ := F w mg fq _ Y G.T.g hmg
  exact law_call KX G.T.g G.T.b G.T.builtins G.T.nolimit hg hobj hints (Nat.le_trans hlen hn2) hr hF hb (fun H _ hS => law_end nl hS (hl ns hlen)) fun H e s2 => cx_no H z1 e s2
end G
set_option maxRecDepth 100000
namespace S
open PySem PySem.Spec L2 G
noncomputable section
def n_Table_all_steps : List Str := ["self", "rules", "number"]
def n_Table_gained : List Str := ["self", "step", "known", "present", "word", "number", "key", "columns", "goal", "column"]
def n_Table_spread : List Str := ["self", "columns", "present", "known", "steps", "going", "step", "more", "column"]
def n_Table_closure : List Str := ["self", "columns", "present", "known", "steps", "column"]
def n_Table_derivation : List Str := ["self", "columns", "goal", "present", "known", "steps"]
def n_Table_derives : List Str := ["self", "columns", "steps", "goal", "present", "known", "step", "more"]
def n_law_begin : List Str := ["_law_script"]
def n_law_draw : List Str := ["_law_draws", "_law_many", "_law_found", "_law_cell"]
def n_law_names : List Str := ["_law_draws", "_law_menu", "_law_many", "_law_turn"]
def n_law_some : List Str := ["_law_draws", "_law_things", "_law_least", "_law_left", "_law_found", "_law_k"]
def n_law_parts : List Str := ["_law_draws", "_law_name", "_law_most", "_law_columns", "_law_musts", "_law_uniques", "_law_k", "_law_rulings"]
def n_BadKey_init : List Str := ["self", "index"]
def n_BadRequired_init : List Str := ["self", "index"]
def n_BadRule_init : List Str := ["self", "index"]
def n_BadColumn_init : List Str := ["self", "index"]
def n_is_name : List Str := ["value", "letter"]
def n_check_columns : List Str := ["columns", "index", "column"]
def n_first_wrong : List Str := ["things", "allowed", "index", "thing"]
def n_is_columns : List Str := ["value", "columns"]
def n_is_rule : List Str := ["value", "columns"]
def n_Table_init : List Str := ["self", "name", "columns", "required", "unique", "rules", "wrong", "index", "key", "rule"]
def n_law_table : List Str := ["_law_parts_here"]
def m_Table_all_steps : M Fl :=
    (seqS (setS 1 (compM (M.bind (consA (M.bind (consA (M.bind (rd 0) (fldV "Table" "rules")) (M.pure [])) lenF) (M.pure [])) rng1) [2] (.nm 2) (M.pure true) (tupE (consA (fzM (lit (.str "rule"))) (consA (fzM (rd 2)) (M.pure []))))))
      (retS (op2 addV (rd 1) (compM (M.bind (consA (M.bind (consA (M.bind (rd 0) (fldV "Table" "unique")) (M.pure [])) lenF) (M.pure [])) rng1) [2] (.nm 2) (M.pure true) (tupE (consA (fzM (lit (.str "key"))) (consA (fzM (rd 2)) (M.pure []))))))))
def s_Table_all_steps : SemF := runF n_Table_all_steps.length m_Table_all_steps
def m_Table_gained : M Fl :=
    (seqS (asgS (.tp [4, 5]) (rd 1))
      (seqS (ifS (andT (cmpT (eqvV false) (rd 4) (lit (.str "rule"))) (M.bind (chainV leV ltV (lit (.int 0)) (rd 5) (M.bind (consA (M.bind (rd 0) (fldV "Table" "rules")) (M.pure [])) lenF)) tst))
      (seqS (asgS (.tp [7, 8]) (op2 ixV (M.bind (rd 0) (fldV "Table" "rules")) (rd 5)))
      (ifS (M.bind (M.bind (consA (compM (iSeq (rd 7)) [9] (.nm 9) (M.pure true) (op2 (inV0 false) (rd 9) (rd 2))) (M.pure [])) (qfF fun bs => bs.all id)) truV)
      (retS (lstE (consA (fzM (rd 8)) (M.pure []))))
      (M.pure .nx)))
      (M.pure .nx))
      (seqS (ifS (andT (cmpT (eqvV false) (rd 4) (lit (.str "key"))) (M.bind (chainV leV ltV (lit (.int 0)) (rd 5) (M.bind (consA (M.bind (rd 0) (fldV "Table" "unique")) (M.pure [])) lenF)) tst))
      (seqS (setS 6 (op2 ixV (M.bind (rd 0) (fldV "Table" "unique")) (rd 5)))
      (ifS (M.bind (M.bind (consA (compM (iSeq (rd 6)) [9] (.nm 9) (M.pure true) (andV (op2 (inV0 false) (rd 9) (rd 2)) (orV (op2 (inV0 false) (rd 9) (M.bind (rd 0) (fldV "Table" "required"))) (op2 (inV0 false) (rd 9) (rd 3))))) (M.pure [])) (qfF fun bs => bs.all id)) truV)
      (retS (M.bind (consA (M.bind (rd 0) (fldV "Table" "columns")) (M.pure [])) listF))
      (M.pure .nx)))
      (M.pure .nx))
      (retS (lit .non)))))
def s_Table_gained : SemF := runF n_Table_gained.length m_Table_gained
def l_Table_spread_1 : M Fl :=
    (seqS (setS 7 (methE "Table" "gained" 4 s_Table_gained [] (rd 0) (consA (fzM (rd 6)) (consA (fzM (rd 3)) (consA (fzM (rd 2)) (M.pure []))))))
      (ifS (andT (cmpT (isNV true) (rd 7) (lit .non)) (M.bind (M.bind (consA (compM (iSeq (rd 7)) [8] (.nm 8) (M.pure true) (op2 (inV0 true) (rd 8) (rd 3))) (M.pure [])) (qfF fun bs => bs.any id)) truV))
      (seqS (setS 3 (op2 addV (rd 3) (rd 7)))
      (seqS (exprS (metE (rd 4) (consA (fzM (rd 6)) (M.pure [])) appM))
      (setS 5 (lit (.bl true)))))
      (M.pure .nx)))
def l_Table_spread_2 : M Fl :=
    (seqS (setS 5 (lit (.bl false)))
      (forS (iSeq (methE "Table" "all_steps" 1 s_Table_all_steps [] (rd 0) (M.pure []))) (Tgt.g (.nm 6))
      l_Table_spread_1))
def m_Table_spread : M Fl :=
    (seqS (setS 3 (M.bind (consA (rd 1) (M.pure [])) listF))
      (seqS (setOwn 4 (M.pure []))
      (seqS (setS 5 (lit (.bl true)))
      (seqS (whileS 10 (M.bind (rd 5) truV)
      l_Table_spread_2)
      (retS (tupE (consA (fzM (rd 3)) (consA (fzM (rd 4)) (M.pure [])))))))))
def s_Table_spread : SemF := runF n_Table_spread.length m_Table_spread
def m_Table_closure : M Fl :=
    (seqS (asgS (.tp [3, 4]) (methE "Table" "spread" 3 s_Table_spread [] (rd 0) (consA (fzM (rd 1)) (consA (fzM (rd 2)) (M.pure [])))))
      (retS (M.bind (consA (compM (iSeq (M.bind (rd 0) (fldV "Table" "columns"))) [5] (.nm 5) (cmpT (inV0 false) (rd 5) (rd 3)) (rd 5)) (M.pure [])) tupleF)))
def s_Table_closure : SemF := runF n_Table_closure.length m_Table_closure
def m_Table_derivation : M Fl :=
    (seqS (asgS (.tp [4, 5]) (methE "Table" "spread" 3 s_Table_spread [] (rd 0) (consA (fzM (rd 1)) (consA (fzM (rd 3)) (M.pure [])))))
      (seqS (ifS (cmpT (inV0 true) (rd 2) (rd 4))
      (retS (lit .non))
      (M.pure .nx))
      (retS (rd 5))))
def s_Table_derivation : SemF := runF n_Table_derivation.length m_Table_derivation
def l_Table_derives_1 : M Fl :=
    (seqS (setS 7 (methE "Table" "gained" 4 s_Table_gained [] (rd 0) (consA (fzM (rd 6)) (consA (fzM (rd 5)) (consA (fzM (rd 4)) (M.pure []))))))
      (seqS (ifS (cmpT (isNV false) (rd 7) (lit .non))
      (retS (lit (.bl false)))
      (M.pure .nx))
      (setS 5 (op2 addV (rd 5) (rd 7)))))
def m_Table_derives : M Fl :=
    (seqS (setS 5 (M.bind (consA (rd 1) (M.pure [])) listF))
      (seqS (forS (iSeq (rd 2)) (Tgt.g (.nm 6))
      l_Table_derives_1)
      (retS (op2 (inV0 false) (rd 3) (rd 5)))))
def s_Table_derives : SemF := runF n_Table_derives.length m_Table_derives
def m_law_begin : M Fl :=
    (retS (lstC (consA (fzM (M.bind (consA (rd 0) (M.pure [])) listF)) (consA (fzM (lit (.int 0))) (consA (fzM (lit (.int 0))) (consA (fzM (lit (.int 7))) (M.pure [])))))))
def s_law_begin : SemF := runF n_law_begin.length m_law_begin
def m_law_draw : M Fl :=
    (seqS (ifS (cmpT (eqvV false) (op2 ixV (rd 0) (lit (.int 2))) (lit (.int 0)))
      (ifS (cmpT ltV (op2 ixV (rd 0) (lit (.int 1))) (M.bind (consA (op2 ixV (rd 0) (lit (.int 0))) (M.pure [])) lenF))
      (seqS (setS 3 (op2 ixV (op2 ixV (rd 0) (lit (.int 0))) (op2 ixV (rd 0) (lit (.int 1)))))
      (seqS (setIx (op2 addV (op2 ixV (rd 0) (lit (.int 1))) (lit (.int 1))) (rd 0) (lit (.int 1)))
      (ifS (cmpT geV (rd 3) (op2 (numV powF) (lit (.int 10)) (lit (.int 18))))
      (setIx (rd 3) (rd 0) (lit (.int 2)))
      (setIx (op2 (numV modF) (M.bind (consA (op2 addV (op2 addV (op2 (numV mulF) (op2 ixV (rd 0) (lit (.int 3))) (lit (.int 48271))) (op2 (numV mulF) (rd 3) (lit (.int 69621)))) (lit (.int 11))) (M.pure [])) intF) (lit (.int 2147483647))) (rd 0) (lit (.int 3))))))
      (setIx (op2 (numV modF) (M.bind (consA (op2 addV (op2 (numV mulF) (op2 ixV (rd 0) (lit (.int 3))) (lit (.int 48271))) (lit (.int 7))) (M.pure [])) intF) (lit (.int 2147483647))) (rd 0) (lit (.int 3))))
      (M.pure .nx))
      (seqS (ifS (cmpT gtV (op2 ixV (rd 0) (lit (.int 2))) (lit (.int 0)))
      (seqS (setS 2 (op2 (numV modF) (M.bind (consA (op2 ixV (rd 0) (lit (.int 2))) (M.pure [])) intF) (rd 1)))
      (seqS (setIx (op2 (numV divF) (op2 ixV (rd 0) (lit (.int 2))) (rd 1)) (rd 0) (lit (.int 2)))
      (retS (rd 2))))
      (M.pure .nx))
      (retS (op2 (numV modF) (op2 (numV modF) (M.bind (consA (op2 (numV mulF) (op2 ixV (rd 0) (lit (.int 3))) (lit (.int 16807))) (M.pure [])) intF) (lit (.int 2147483629))) (rd 1)))))
def s_law_draw : SemF := runF n_law_draw.length m_law_draw
def m_law_names : M Fl :=
    (seqS (setS 3 (callE 2 s_law_draw [] (consA (fzM (rd 0)) (consA (fzM (M.bind (consA (rd 1) (M.pure [])) lenF)) (M.pure [])))))
      (retS (sliceE (op2 addV (sliceE (rd 1) (some (rd 3)) none) (sliceE (rd 1) none (some (rd 3)))) none (some (rd 2)))))
def s_law_names : SemF := runF n_law_names.length m_law_names
def l_law_some_1 : M Fl :=
    (exprS (metE (rd 4) (consA (fzM (metE (rd 3) (consA (fzM (callE 2 s_law_draw [] (consA (fzM (rd 0)) (consA (fzM (M.bind (consA (rd 3) (M.pure [])) lenF)) (M.pure []))))) (M.pure [])) popM)) (M.pure [])) appM))
def m_law_some : M Fl :=
    (seqS (setOwnL 3 (consA (rd 1) (M.pure [])))
      (seqS (setOwn 4 (M.pure []))
      (seqS (forS (M.bind (consA (op2 addV (rd 2) (callE 2 s_law_draw [] (consA (fzM (rd 0)) (consA (fzM (op2 subV (op2 addV (M.bind (consA (rd 1) (M.pure [])) lenF) (lit (.int 1))) (rd 2))) (M.pure []))))) (M.pure [])) rng1) (Tgt.g (.nm 5))
      l_law_some_1)
      (retS (rd 4)))))
def s_law_some : SemF := runF n_law_some.length m_law_some
def l_law_parts_1 : M Fl :=
    (exprS (metE (rd 5) (consA (fzM (sliceE (callE 3 s_law_some [] (consA (fzM (rd 0)) (consA (fzM (rd 3)) (consA (fzM (lit (.int 1))) (M.pure []))))) none (some (lit (.int 2))))) (M.pure [])) appM))
def l_law_parts_2 : M Fl :=
    (exprS (metE (rd 7) (consA (fzM (tupE (consA (fzM (sliceE (callE 3 s_law_some [] (consA (fzM (rd 0)) (consA (fzM (rd 3)) (consA (fzM (lit (.int 0))) (M.pure []))))) none (some (lit (.int 2))))) (consA (fzM (op2 ixV (rd 3) (callE 2 s_law_draw [] (consA (fzM (rd 0)) (consA (fzM (M.bind (consA (rd 3) (M.pure [])) lenF)) (M.pure [])))))) (M.pure []))))) (M.pure [])) appM))
def m_law_parts : M Fl :=
    (seqS (setS 3 (callE 3 s_law_names [] (consA (fzM (rd 0)) (consA (fzM (lstE (consA (fzM (lit (.str "x"))) (consA (fzM (lit (.str "y"))) (consA (fzM (lit (.str "z"))) (consA (fzM (lit (.str "key"))) (consA (fzM (lit (.str "rule"))) (consA (fzM (lit (.str "table"))) (consA (fzM (lit (.str "xy"))) (M.pure [])))))))))) (consA (fzM (op2 addV (lit (.int 1)) (callE 2 s_law_draw [] (consA (fzM (rd 0)) (consA (fzM (rd 2)) (M.pure [])))))) (M.pure []))))))
      (seqS (setS 4 (callE 3 s_law_some [] (consA (fzM (rd 0)) (consA (fzM (rd 3)) (consA (fzM (lit (.int 0))) (M.pure []))))))
      (seqS (ifS (cmpT (eqvV false) (callE 2 s_law_draw [] (consA (fzM (rd 0)) (consA (fzM (lit (.int 2))) (M.pure [])))) (lit (.int 0)))
      (setS 4 (sliceE (rd 4) none (some (lit (.int 1)))))
      (M.pure .nx))
      (seqS (setOwn 5 (M.pure []))
      (seqS (forS (M.bind (consA (callE 2 s_law_draw [] (consA (fzM (rd 0)) (consA (fzM (lit (.int 3))) (M.pure [])))) (M.pure [])) rng1) (Tgt.g (.nm 6))
      l_law_parts_1)
      (seqS (setOwn 7 (M.pure []))
      (seqS (forS (M.bind (consA (callE 2 s_law_draw [] (consA (fzM (rd 0)) (consA (fzM (lit (.int 4))) (M.pure [])))) (M.pure [])) rng1) (Tgt.g (.nm 6))
      l_law_parts_2)
      (retS (lstC (consA (fzM (rd 1)) (consA (fzM (rd 3)) (consA (fzM (rd 4)) (consA (fzM (rd 5)) (consA (fzM (rd 7)) (M.pure [])))))))))))))))
def s_law_parts : SemF := runF n_law_parts.length m_law_parts
def l_is_name_1 : M Fl :=
    (ifS (cmpT (inV0 true) (rd 1) (lit (.str "abcdefghijklmnopqrstuvwxyz")))
      (retS (lit (.bl false)))
      (M.pure .nx))
def m_is_name : M Fl :=
    (seqS (ifS (orT (notT (M.bind (M.bind (rd 0) (isiV fun k => isK k .str)) truV)) (notT (M.bind (chainV leV leV (lit (.int 1)) (M.bind (consA (rd 0) (M.pure [])) lenF) (lit (.int 8))) tst)))
      (retS (lit (.bl false)))
      (M.pure .nx))
      (seqS (forS (M.bind (rd 0) strD) (Tgt.g (.nm 1))
      l_is_name_1)
      (retS (lit (.bl true)))))
def s_is_name : SemF := runF n_is_name.length m_is_name
def l_check_columns_1 : M Fl :=
    (ifS (orT (notT (M.bind (callE 1 s_is_name [] (consA (fzM (rd 2)) (M.pure []))) truV)) (cmpT (inV0 false) (rd 2) (sliceE (rd 0) none (some (rd 1)))))
      (raiseS "BadColumn" ["index"] (consA (fzM (rd 1)) (M.pure [])))
      (M.pure .nx))
def m_check_columns : M Fl :=
    (seqS (ifS (notT (M.bind (rd 0) truV))
      (raiseS "BadColumn" ["index"] (consA (fzM (lit (.int 0))) (M.pure [])))
      (M.pure .nx))
      (seqS (ifS (cmpT gtV (M.bind (consA (rd 0) (M.pure [])) lenF) (lit (.int 6)))
      (raiseS "BadColumn" ["index"] (consA (fzM (lit (.int 6))) (M.pure [])))
      (M.pure .nx))
      (forS (M.bind (consA (fzM (rd 0)) (M.pure [])) enumD) (Tgt.g (.tp [1, 2]))
      l_check_columns_1)))
def s_check_columns : SemF := runF n_check_columns.length m_check_columns
def l_first_wrong_1 : M Fl :=
    (ifS (orT (notT (M.bind (M.bind (rd 3) (isiV fun k => isK k .str)) truV)) (orT (cmpT (inV0 true) (rd 3) (rd 1)) (cmpT (inV0 false) (rd 3) (sliceE (rd 0) none (some (rd 2))))))
      (retS (rd 2))
      (M.pure .nx))
def m_first_wrong : M Fl :=
    (seqS (forS (M.bind (consA (fzM (rd 0)) (M.pure [])) enumD) (Tgt.g (.tp [2, 3]))
      l_first_wrong_1)
      (retS (lit .non)))
def s_first_wrong : SemF := runF n_first_wrong.length m_first_wrong
def m_is_columns : M Fl :=
    (retS (andV (M.bind (rd 0) (isiV fun k => isK k .lst || isK k .tup)) (op2 (isNV false) (callE 2 s_first_wrong [] (consA (fzM (rd 0)) (consA (fzM (rd 1)) (M.pure [])))) (lit .non))))
def s_is_columns : SemF := runF n_is_columns.length m_is_columns
def m_is_rule : M Fl :=
    (seqS (ifS (orT (notT (M.bind (M.bind (rd 0) (isiV fun k => isK k .tup)) truV)) (orT (cmpT (eqvV true) (M.bind (consA (rd 0) (M.pure [])) lenF) (lit (.int 2))) (notT (M.bind (callE 2 s_is_columns [] (consA (fzM (op2 ixV (rd 0) (lit (.int 0)))) (consA (fzM (rd 1)) (M.pure [])))) truV))))
      (retS (lit (.bl false)))
      (M.pure .nx))
      (retS (andV (M.bind (op2 ixV (rd 0) (lit (.int 1))) (isiV fun k => isK k .str)) (op2 (inV0 false) (op2 ixV (rd 0) (lit (.int 1))) (rd 1)))))
def s_is_rule : SemF := runF n_is_rule.length m_is_rule
def l_Table_init_1 : M Fl :=
    (ifS (orT (notT (M.bind (callE 2 s_is_columns [] (consA (fzM (rd 8)) (consA (fzM (rd 2)) (M.pure [])))) truV)) (cmpT (eqvV false) (M.bind (consA (rd 8) (M.pure [])) lenF) (lit (.int 0))))
      (raiseS "BadKey" ["index"] (consA (fzM (rd 7)) (M.pure [])))
      (M.pure .nx))
def l_Table_init_2 : M Fl :=
    (ifS (notT (M.bind (callE 2 s_is_rule [] (consA (fzM (rd 9)) (consA (fzM (rd 2)) (M.pure [])))) truV))
      (raiseS "BadRule" ["index"] (consA (fzM (rd 7)) (M.pure [])))
      (M.pure .nx))
def m_Table_init : M Fl :=
    (seqS (ifS (notT (M.bind (callE 1 s_is_name [] (consA (fzM (rd 1)) (M.pure []))) truV))
      (throwE ⟨"BadName", []⟩)
      (M.pure .nx))
      (seqS (exprS (callE 1 s_check_columns [] (consA (fzM (rd 2)) (M.pure []))))
      (seqS (setS 6 (callE 2 s_first_wrong [] (consA (fzM (rd 3)) (consA (fzM (rd 2)) (M.pure [])))))
      (seqS (ifS (cmpT (isNV true) (rd 6) (lit .non))
      (raiseS "BadRequired" ["index"] (consA (fzM (rd 6)) (M.pure [])))
      (M.pure .nx))
      (seqS (forS (M.bind (consA (fzM (rd 4)) (M.pure [])) enumD) (Tgt.g (.tp [7, 8]))
      l_Table_init_1)
      (seqS (forS (M.bind (consA (fzM (rd 5)) (M.pure [])) enumD) (Tgt.g (.tp [7, 9]))
      l_Table_init_2)
      (seqS (setFld "Table" "name" (rd 1) (rd 0))
      (seqS (setFld "Table" "columns" (M.bind (consA (rd 2) (M.pure [])) tupleF) (rd 0))
      (seqS (setFld "Table" "required" (M.bind (consA (rd 3) (M.pure [])) tupleF) (rd 0))
      (seqS (setFld "Table" "unique" (M.bind (consA (compM (iSeq (rd 4)) [8] (.nm 8) (M.pure true) (M.bind (consA (rd 8) (M.pure [])) tupleF)) (M.pure [])) tupleF) (rd 0))
      (setFld "Table" "rules" (M.bind (consA (compM (iSeq (rd 5)) [9] (.nm 9) (M.pure true) (tupE (consA (fzM (M.bind (consA (op2 ixV (rd 9) (lit (.int 0))) (M.pure [])) tupleF)) (consA (fzM (op2 ixV (rd 9) (lit (.int 1)))) (M.pure []))))) (M.pure [])) tupleF) (rd 0))))))))))))
def s_Table_init : SemF := runF n_Table_init.length m_Table_init
def m_law_table : M Fl :=
    (retS (makeK "Table" 2 3 s_Table_init (consA (fzM (op2 ixV (rd 0) (lit (.int 0)))) (consA (fzM (op2 ixV (rd 0) (lit (.int 1)))) (M.pure []))) (consA (fzM (op2 ixV (rd 0) (lit (.int 2)))) (consA (fzM (op2 ixV (rd 0) (lit (.int 3)))) (consA (fzM (op2 ixV (rd 0) (lit (.int 4)))) (M.pure []))))))
def s_law_table : SemF := runF n_law_table.length m_law_table
end
end S
set_option maxRecDepth 100000
namespace S
open PySem PySem.Spec L2 G
def drC (zs : List Int) (i a b : Int) : Cell := .lst [.d (.lst (zs.map D.int)), .d (.int i), .d (.int a), .d (.int b)]
/-- the draws at cell k -/
def Dr (Omq : List (Option Cell)) (k : Nat) : Prop := ∃ zs i a b, Omq[k]? = some (some (drC zs i a b)) ∧ 0 ≤ i ∧ 0 ≤ a ∧ 0 ≤ b ∧ b < 2147483647
section
variable {s : Sg} {k : Nat} {xs : List Val}
theorem obsQ_r (h : s.Omq[k]? = some (some (.lst xs))) : obsQ s (.r k) = some xs := by
  show obsL s (.r k) = some xs
  unfold obsL
  simp only [h]
theorem ix_r {i : Int} {z : Val} (h : s.Omq[k]? = some (some (.lst xs))) (e : L2.atI xs i = some z) : ixV (.r k) (.d (.int i)) s = .ok z s := by
  unfold ixV
  simp only [obsQ_r h, e]
theorem rd_v {i : Nat} {x : Val} (h : s.rhq[i]? = some (.v x)) : rd i s = .ok x s := by
  unfold rd; rw [h]
theorem op2_ok {g : Val → Val → M Val} {ma mb : M Val} {x y : Val} {s1 s2 : Sg} (h1 : ma s = .ok x s1) (h2 : mb s1 = .ok y s2) : op2 g ma mb s = g x y s2 := by
  show (ma s).bind _ = _
  rw [h1]
  show (mb s1).bind _ = _
  rw [h2]
theorem ifS_ok {c : M Bool} {m1 m2 : M Fl} {b : Bool} {s1 : Sg} (h : c s = .ok b s1) : ifS c m1 m2 s = (if b then m1 else m2) s1 := by
  show (c s).bind _ = _
  rw [h]
theorem seqS_nx {m1 m2 : M Fl} {s1 : Sg} (h : m1 s = .ok .nx s1) : seqS m1 m2 s = m2 s1 := by
  show (m1 s).bind _ = _
  rw [h]
theorem cmpT_ok {g : Val → Val → M Val} {ma mb : M Val} {b : Bool} {s1 : Sg} (h : op2 g ma mb s = .ok (.d (.bl b)) s1) : cmpT g ma mb s = .ok b s1 := by
  show (op2 g ma mb s).bind _ = _
  rw [h]
  rfl
end
/-- the second half of draw: a is big -/
theorem draw_big {Omq : List (Option Cell)} {k : Nat} {zs : List Int} {i a b m : Int} (hk : Omq[k]? = some (some (drC zs i a b))) (hm : 0 < m) (hm2 : m < 1073741824) (ha : 0 < a) : s_law_draw [.r k, .d (.int m)] Omq = .ok (.d (.int (a % m))) (Omq.set k (some (drC zs i (a / m) b))) := by
  have na : ¬ a = 0 := by omega
  unfold s_law_draw runF m_law_draw
  simp [slots, n_law_draw, seqS, ifS, cmpT, op2, M.bind, Out.bind, rd, ixV, obsQ, obsL, hk, drC, lit, L2.atI, eqvV, Val.dd, eqS, tst, na, M.pure, numV, ha, setS, fzM, fz, consA, intF, setSlot, modF, hm, ixN, setIx, setItem', chgL, divF, retS, hm2]
theorem mul1 (x : Int) : mulF x 48271 = some (.int (x * 48271)) := by simp [mulF, small]
theorem mul2 (x : Int) : mulF x 69621 = some (.int (x * 69621)) := by simp [mulF, small]
theorem mul3 (x : Int) : mulF x 16807 = some (.int (x * 16807)) := by simp [mulF, small]
theorem pow18 : powF 10 18 = some (.int 1000000000000000000) := by simp [powF]
theorem dr_put {Omq : List (Option Cell)} {k : Nat} {c : Option Cell} (hk : Omq[k]? = some c) (x : Option Cell) : (Omq.set k x)[k]? = some x := by
  have hl : k < Omq.length := (List.getElem?_eq_some_iff.mp hk).1
  simp [hl]
/-- a = 0, the script is used up -/
theorem draw_end {Omq : List (Option Cell)} {k : Nat} {zs : List Int} {i b m : Int} (hk : Omq[k]? = some (some (drC zs i 0 b))) (hm : 0 < m) (hi : ¬ i < zs.length) (hb : 0 ≤ b) (hb2 : b < 2147483647) :
    s_law_draw [.r k, .d (.int m)] Omq = .ok (.d (.int ((b * 48271 + 7) % 2147483647 * 16807 % 2147483629 % m))) (Omq.set k (some (drC zs i 0 ((b * 48271 + 7) % 2147483647)))) := by
  have hp := dr_put hk
  unfold s_law_draw runF m_law_draw
  simp [slots, n_law_draw, seqS, ifS, cmpT, op2, M.bind, Out.bind, rd, ixV, obsQ, obsL, hk, drC, lit, L2.atI, eqvV, Val.dd, eqS, tst, M.pure, numV, setS, fzM, fz, consA, intF, setSlot, modF, hm, ixN, setIx, setItem', chgL, divF, retS, lenF, hi, mul1, mul2, mul3, addV, hp]
/-- a = 0, a small number of the script -/
theorem draw_low {Omq : List (Option Cell)} {k : Nat} {zs : List Int} {i b m c : Int} (hk : Omq[k]? = some (some (drC zs i 0 b))) (hm : 0 < m) (hi0 : 0 ≤ i) (hi : i < zs.length) (hc : zs[i.toNat]? = some c) (h18 : c < 1000000000000000000) :
    s_law_draw [.r k, .d (.int m)] Omq = .ok (.d (.int ((b * 48271 + c * 69621 + 11) % 2147483647 * 16807 % 2147483629 % m))) (Omq.set k (some (drC zs (i + 1) 0 ((b * 48271 + c * 69621 + 11) % 2147483647)))) := by
  have hp := dr_put hk
  have h18' : ¬ 1000000000000000000 ≤ c := by omega
  obtain ⟨hl, hc⟩ := List.getElem?_eq_some_iff.mp hc
  unfold s_law_draw runF m_law_draw
  simp [slots, n_law_draw, seqS, ifS, cmpT, op2, M.bind, Out.bind, rd, ixV, obsQ, obsL, hk, drC, lit, L2.atI, eqvV, Val.dd, eqS, tst, M.pure, numV, setS, fzM, fz, consA, intF, setSlot, modF, hm, ixN, setIx, setItem', chgL, divF, retS, lenF, hi0, hi, hc, mul1, mul2, mul3, pow18, addV, hp, h18']
/-- a = 0, a great number of the script -/
theorem draw_high {Omq : List (Option Cell)} {k : Nat} {zs : List Int} {i b m c : Int} (hk : Omq[k]? = some (some (drC zs i 0 b))) (hm : 0 < m) (hm2 : m < 1073741824) (hi0 : 0 ≤ i) (hi : i < zs.length) (hc : zs[i.toNat]? = some c) (h18 : 1000000000000000000 ≤ c) :
    s_law_draw [.r k, .d (.int m)] Omq = .ok (.d (.int (c % m))) (Omq.set k (some (drC zs (i + 1) (c / m) b))) := by
  have hp := dr_put hk
  have hc0 : 0 < c := by omega
  obtain ⟨hl, hc⟩ := List.getElem?_eq_some_iff.mp hc
  unfold s_law_draw runF m_law_draw
  simp [slots, n_law_draw, seqS, ifS, cmpT, op2, M.bind, Out.bind, rd, ixV, obsQ, obsL, hk, drC, lit, L2.atI, eqvV, Val.dd, eqS, tst, M.pure, numV, setS, fzM, fz, consA, intF, setSlot, modF, hm, hm2, ixN, setIx, setItem', chgL, divF, retS, lenF, hi0, hi, hc, hc0, mul1, mul2, mul3, pow18, addV, hp, h18]
/-- draw: a number below m; the draws stay draws -/
theorem draw_ok {Omq : List (Option Cell)} {k : Nat} {m : Int} (h : Dr Omq k) (hm : 0 < m) (hm2 : m < 1073741824) : ∃ v c, s_law_draw [.r k, .d (.int m)] Omq = .ok (.d (.int v)) (Omq.set k (some c)) ∧ 0 ≤ v ∧ v < m ∧ Dr (Omq.set k (some c)) k := by
  obtain ⟨zs, i, a, b, hk, hi, ha, hb, hb2⟩ := h
  have hp := dr_put hk
  by_cases a0 : 0 < a
  · exact ⟨_, _, draw_big hk hm hm2 a0, Int.emod_nonneg _ (by omega), Int.emod_lt_of_pos _ hm, _, _, _, _, hp _, hi, Int.ediv_nonneg ha (by omega), hb, hb2⟩
  · have : a = 0 := by omega
    subst this
    by_cases il : i < zs.length
    · have hl : i.toNat < zs.length := by omega
      have hc : zs[i.toNat]? = some zs[i.toNat] := List.getElem?_eq_getElem hl
      by_cases h18 : zs[i.toNat] < 1000000000000000000
      · exact ⟨_, _, draw_low hk hm hi il hc h18, Int.emod_nonneg _ (by omega), Int.emod_lt_of_pos _ hm, _, _, _, _, hp _, by omega, by omega, Int.emod_nonneg _ (by omega), Int.emod_lt_of_pos _ (by omega)⟩
      · exact ⟨_, _, draw_high hk hm hm2 hi il hc (by omega), Int.emod_nonneg _ (by omega), Int.emod_lt_of_pos _ hm, _, _, _, _, hp _, by omega, Int.ediv_nonneg (by omega) (by omega), hb, hb2⟩
    · exact ⟨_, _, draw_end hk hm il hb hb2, Int.emod_nonneg _ (by omega), Int.emod_lt_of_pos _ hm, _, _, _, _, hp _, hi, by omega, Int.emod_nonneg _ (by omega), Int.emod_lt_of_pos _ (by omega)⟩
end S
set_option maxRecDepth 100000
namespace S
open PySem PySem.Spec L2 G
/-- the call of draw within a def -/
theorem draw_call {s : Sg} {k : Nat} {m : Int} {v : Int} {c : Cell} (h : s_law_draw [.r k, .d (.int m)] s.Omq = .ok (.d (.int v)) (s.Omq.set k (some c))) : callM s_law_draw [.r k, .d (.int m)] s = .ok (.d (.int v)) { s with Omq := s.Omq.set k (some c) } := by
  unfold callM; rw [h]
theorem map_erase {α β : Type} {f : α → β} : ∀ (l : List α) (i : Nat), (l.map f).eraseIdx i = (l.eraseIdx i).map f
  | [], _ => by simp
  | x :: l, 0 => by simp
  | x :: l, i + 1 => by simp [map_erase l i]
theorem perm_erase {α : Type} : ∀ (l : List α) (i : Nat) (h : i < l.length), l.Perm (l[i] :: l.eraseIdx i)
  | x :: l, 0, _ => .refl _
  | x :: l, i + 1, h => by
    have := perm_erase l i (by simpa using h)
    simp only [List.getElem_cons_succ, List.eraseIdx_cons_succ]
    exact (List.Perm.cons x this).trans (.swap _ _ _)
theorem allD_of (ds : List D) : allD (ds.map Val.d) = some ds := allD_map ds
def someR (k : Nat) (ds : List D) (least : Int) (left found : List D) (z : Slot) : List Slot := [.v (.r k), .v (.d (.lst ds)), .v (.d (.int least)), .acc (.lst (left.map Val.d)), .acc (.lst (found.map Val.d)), z]
theorem some_turn {Omq : List (Option Cell)} {k : Nat} {ds : List D} {least : Int} {left found : List D} {z : Slot} (h : Dr Omq k) (hl : 0 < left.length) (h1 : left.length < 1000) (h2 : found.length < 1000) :
    ∃ (i : Nat) (hi : i < left.length) (c : Cell), l_law_some_1 ⟨someR k ds least left found z, Omq⟩ = .ok .nx ⟨someR k ds least (left.eraseIdx i) (found ++ [left[i]]) z, Omq.set k (some c)⟩ ∧ Dr (Omq.set k (some c)) k := by
  obtain ⟨v, c, e, v0, v1, d⟩ := draw_ok (m := (left.length : Int)) h (by omega) (by omega)
  have hv : v.toNat < left.length := by omega
  refine ⟨v.toNat, hv, c, ?_, d⟩
  have hg : (left.map Val.d)[v.toNat]? = some (Val.d left[v.toNat]) := by simp [hv]
  have b1 : -1000000 ≤ v ∧ v ≤ 1000000 := by omega
  have h2' : found.length < cap := by unfold cap; omega
  unfold l_law_some_1 someR
  simp [exprS, metE, M.bind, Out.bind, rd, isL, obsL, consA, fzM, fz, callE, lenF, obsQ, M.pure, callM, e, popM, chgL, ixN, v0, v1, hg, b1, appM, h2']
  exact map_erase left v.toNat
/-- n turns -/
theorem some_loop {k : Nat} {ds : List D} {least : Int} : ∀ (its : List Val) {Omq : List (Option Cell)} {left found : List D} {z : Slot}, Dr Omq k → its.length ≤ left.length → left.length < 1000 → found.length + its.length < 1000 →
    ∃ (left' found' : List D) (z' : Slot) (c : Cell), loopS (fun x => (Tgt.g (.nm 5) x).bind fun _ => l_law_some_1) its ⟨someR k ds least left found z, Omq⟩ = .ok .nx ⟨someR k ds least left' found' z', Omq.set k (some c)⟩ ∧ Dr (Omq.set k (some c)) k ∧
      (found' ++ left').Perm (found ++ left) ∧ found'.length = found.length + its.length
  | [], Omq, left, found, z, h, _, _, _ => by
    obtain ⟨zs, i, a, b, hk, r⟩ := id h
    have e : Omq.set k (some (drC zs i a b)) = Omq := by
      apply List.ext_getElem?
      intro j
      by_cases hj : j = k
      · subst hj; rw [dr_put hk, hk]
      · rw [List.getElem?_set_ne (Ne.symm hj)]
    exact ⟨left, found, z, drC zs i a b, by rw [e]; rfl, by rw [e]; exact h, .refl _, rfl⟩
  | x :: its, Omq, left, found, z, h, h1, h2, h3 => by
    rw [List.length_cons] at h1 h3
    obtain ⟨i, hi, c, e, d⟩ := some_turn (ds := ds) (least := least) (left := left) (found := found) (z := .v x) h (by omega) h2 (by omega)
    have hlen : (left.eraseIdx i).length = left.length - 1 := by rw [List.length_eraseIdx, if_pos hi]
    obtain ⟨left', found', z', c', e', d', p, hn⟩ := some_loop its (least := least) (ds := ds) (left := left.eraseIdx i) (found := found ++ [left[i]]) (z := .v x) d (by omega) (by omega) (by simp; omega)
    refine ⟨left', found', z', c', ?_, by rw [List.set_set] at d'; exact d', p.trans ?_, by rw [hn]; simp; omega⟩
    · show (((Tgt.g (.nm 5) x).bind fun _ => l_law_some_1) ⟨someR k ds least left found z, Omq⟩).bind _ = _
      have q : ((Tgt.g (.nm 5) x).bind fun _ => l_law_some_1) ⟨someR k ds least left found z, Omq⟩ = l_law_some_1 ⟨someR k ds least left found (.v x), Omq⟩ := rfl
      rw [q, e]
      show loopS _ its _ = _
      rw [e', List.set_set]
    · have pe : left.Perm (left[i] :: left.eraseIdx i) := perm_erase left i hi
      rw [List.append_assoc]
      exact (List.Perm.append_left found pe.symm)
end S
set_option maxRecDepth 100000
namespace S
open PySem PySem.Spec L2 G
/-- some: least or more of the things, each at most once -/
theorem some_ok {Omq : List (Option Cell)} {k : Nat} {ds : List D} {least : Int} (h : Dr Omq k) (h0 : 0 ≤ least) (h1 : least ≤ ds.length) (h2 : ds.length < 400) :
    ∃ (rs rest : List D) (c : Cell), s_law_some [.r k, .d (.lst ds), .d (.int least)] Omq = .ok (.d (.lst rs)) (Omq.set k (some c)) ∧ Dr (Omq.set k (some c)) k ∧ (rs ++ rest).Perm ds ∧ least ≤ rs.length := by
  obtain ⟨v, c, e, v0, v1, d⟩ := draw_ok (m := (ds.length : Int) + 1 - least) h (by omega) (by omega)
  have hv : (least + v).toNat ≤ ds.length := by omega
  obtain ⟨left, found, z, c', e', d', p, hn⟩ := some_loop (k := k) (ds := ds) (least := least) (rng 0 (least + v).toNat) (left := ds) (found := []) (z := .no) d (by simp [rng]; omega) (by omega) (by simp [rng]; omega)
  rw [List.set_set] at e' d'
  refine ⟨found, left, c', ?_, d', by simpa using p, ?_⟩
  · have b1 : -1000000 ≤ least + v ∧ least + v ≤ 1000000 := by omega
    unfold s_law_some runF m_law_some
    have q : forS (M.bind (consA (op2 addV (rd 2) (callE 2 s_law_draw [] (consA (fzM (rd 0)) (consA (fzM (op2 subV (op2 addV (M.bind (consA (rd 1) (M.pure [])) lenF) (lit (.int 1))) (rd 2))) (M.pure []))))) (M.pure [])) rng1) (Tgt.g (.nm 5)) l_law_some_1 ⟨someR k ds least ds [] .no, Omq⟩ = .ok .nx ⟨someR k ds least left found z, Omq.set k (some c')⟩ := by
      rw [← e']
      unfold forS
      simp [someR, M.bind, Out.bind, consA, op2, rd, callE, fzM, fz, lenF, obsQ, obsL, lit, M.pure, addV, subV, numV, callM, e, rng1, b1]
    have q0 : seqS (setOwnL 3 (consA (rd 1) (M.pure []))) (seqS (setOwn 4 (M.pure [])) (seqS (forS (M.bind (consA (op2 addV (rd 2) (callE 2 s_law_draw [] (consA (fzM (rd 0)) (consA (fzM (op2 subV (op2 addV (M.bind (consA (rd 1) (M.pure [])) lenF) (lit (.int 1))) (rd 2))) (M.pure []))))) (M.pure [])) rng1) (Tgt.g (.nm 5)) l_law_some_1) (retS (rd 4)))) ⟨slots n_law_some.length [.r k, .d (.lst ds), .d (.int least)], Omq⟩ = .ok (.rt (.d (.lst found))) ⟨(someR k ds least left found z).set 4 (.v (.d (.lst found))), Omq.set k (some c')⟩ := by
      rw [seqS_nx (s1 := ⟨[.v (.r k), .v (.d (.lst ds)), .v (.d (.int least)), .acc (.lst (ds.map Val.d)), .no, .no], Omq⟩) (by simp [setOwnL, M.bind, Out.bind, consA, rd, slots, n_law_some, M.pure, obsQ, obsL, ownL])]
      rw [seqS_nx (s1 := ⟨someR k ds least ds [] .no, Omq⟩) (by simp [setOwn, M.bind, Out.bind, M.pure, cap, ownL, someR])]
      rw [seqS_nx q]
      simp [retS, fzM, M.bind, Out.bind, rd, someR, fz, Cell.toD, allD_map, M.pure]
    rw [q0]
  · rw [hn]; simp [rng]; omega
end S
set_option maxRecDepth 100000
namespace S
open PySem PySem.Spec L2 G
theorem cut_lo {α : Type} (xs : List α) (v : Int) (h : 0 ≤ v) (h2 : v ≤ xs.length) : cutL xs (some v) none = xs.drop v.toNat := by
  obtain ⟨n, rfl⟩ := Int.eq_ofNat_of_zero_le h
  unfold cutL
  rw [HT.sIx_nat, HT.sIx_none]
  have : min n xs.length = n := by omega
  rw [this, List.take_of_length_le (by simp)]
  simp
theorem cut_hi {α : Type} (xs : List α) (v : Int) (h : 0 ≤ v) : cutL xs none (some v) = xs.take v.toNat := by
  obtain ⟨n, rfl⟩ := Int.eq_ofNat_of_zero_le h
  unfold cutL
  rw [HT.sIx_nat, HT.sIx_none]
  simp [List.take_eq_take_iff]
theorem names_ok {Omq : List (Option Cell)} {k : Nat} {ds : List D} {many : Int} (h : Dr Omq k) (h0 : 0 ≤ many) (h1 : 0 < ds.length) (h2 : ds.length < 400) :
    ∃ (t : Nat) (c : Cell), t < ds.length ∧ s_law_names [.r k, .d (.lst ds), .d (.int many)] Omq = .ok (.d (.lst ((ds.drop t ++ ds.take t).take many.toNat))) (Omq.set k (some c)) ∧ Dr (Omq.set k (some c)) k := by
  obtain ⟨v, c, e, v0, v1, d⟩ := draw_ok (m := (ds.length : Int)) h (by omega) (by omega)
  refine ⟨v.toNat, c, by omega, ?_, d⟩
  have e1 := cut_lo ds v v0 (by omega)
  have e2 := cut_hi ds v v0
  have e3 := cut_hi (ds.drop v.toNat ++ ds.take v.toNat) many h0
  have e4 : allD (ds.map Val.d) = some ds := allD_map ds
  have e5 : allD ((ds.drop v.toNat ++ ds.take v.toNat).map Val.d) = some (ds.drop v.toNat ++ ds.take v.toNat) := allD_map _
  have e7 : allD (List.drop v.toNat (ds.map Val.d) ++ List.take v.toNat (ds.map Val.d)) = some (ds.drop v.toNat ++ ds.take v.toNat) := by
    rw [← List.map_drop, ← List.map_take, ← List.map_append]; exact allD_map _
  have e8 : (ds.length - v.toNat) + min v.toNat ds.length ≤ cap := by simp [cap]; omega
  have e6 : (ds.drop v.toNat ++ ds.take v.toNat).length ≤ cap := by simp [cap]; omega
  unfold s_law_names runF m_law_names
  simp [slots, n_law_names, seqS, setS, M.bind, Out.bind, callE, consA, rd, fzM, fz, lenF, obsQ, obsL, M.pure, callM, setSlot, retS, sliceE, partM, cutF, op2, addV, e, e1, e2, e3, e4, e7, e8]
end S
set_option maxRecDepth 100000
namespace S
open PySem PySem.Spec L2 G
theorem strs_of : ∀ {rs : List D} {C : List Str}, (∀ x ∈ rs, x ∈ C.map D.str) → ∃ S : List Str, rs = S.map D.str
  | [], _, _ => ⟨[], rfl⟩
  | x :: rs, C, h => by
    obtain ⟨y, _, rfl⟩ := List.mem_map.mp (h x List.mem_cons_self)
    obtain ⟨S, rfl⟩ := strs_of (rs := rs) (C := C) fun z hz => h z (List.mem_cons_of_mem _ hz)
    exact ⟨y :: S, rfl⟩
theorem str_inj : ∀ a b : Str, D.str a = D.str b → a = b := fun a b h => by cases h; rfl
theorem mem_strs {C : List Str} {y : Str} (h : D.str y ∈ C.map D.str) : y ∈ C := by
  obtain ⟨z, hz, e⟩ := List.mem_map.mp h
  rw [← str_inj _ _ e]; exact hz
theorem nodup_strs {C : List Str} (h : C.Nodup) : (C.map D.str).Nodup := List.pairwise_map.mpr (List.Pairwise.imp (fun hne e => hne (str_inj _ _ e)) h)
theorem some_str {Omq : List (Option Cell)} {k : Nat} {C : List Str} {least : Int} (h : Dr Omq k) (nd : C.Nodup) (h0 : 0 ≤ least) (h1 : least ≤ C.length) (h2 : C.length < 400) :
    ∃ (S : List Str) (c : Cell), s_law_some [.r k, .d (.lst (C.map D.str)), .d (.int least)] Omq = .ok (.d (.lst (S.map D.str))) (Omq.set k (some c)) ∧ Dr (Omq.set k (some c)) k ∧ S.Nodup ∧ S ⊆ C ∧ least ≤ S.length := by
  obtain ⟨rs, rest, c, e, d, p, hl⟩ := some_ok (ds := C.map D.str) h h0 (by simpa using h1) (by simpa using h2)
  obtain ⟨S, rfl⟩ := strs_of (C := C) fun x hx => p.subset (List.mem_append_left _ hx)
  refine ⟨S, c, e, d, ?_, fun y hy => mem_strs (p.subset (List.mem_append_left _ (List.mem_map_of_mem hy))), by simpa using hl⟩
  have := (p.nodup_iff.mpr (nodup_strs nd))
  exact List.Pairwise.imp (fun hne e => hne (congrArg D.str e)) (List.pairwise_map.mp (List.nodup_append.mp this).1)
end S
set_option maxRecDepth 100000
namespace S
open PySem PySem.Spec L2 G
def dK (ks : List Str) : D := .lst (ks.map D.str)
def dR (r : List Str × Str) : D := .tup [.lst (r.1.map D.str), .str r.2]
def pR (k : Nat) (nm : D) (most : Int) (C Mu : List Str) (U : List D) (z w : Slot) : List Slot := [.v (.r k), .v (.d nm), .v (.d (.int most)), .v (.d (.lst (C.map D.str))), .v (.d (.lst (Mu.map D.str))), .acc (.lst (U.map Val.d)), z, w]
theorem take_sub {α : Type} (l : List α) (n : Nat) : l.take n ⊆ l := (List.take_sublist n l).subset
theorem u_turn {Omq : List (Option Cell)} {k : Nat} {nm : D} {most : Int} {C Mu : List Str} {U : List D} {z w : Slot} (h : Dr Omq k) (nd : C.Nodup) (h1 : 0 < C.length) (h2 : C.length < 400) (h3 : U.length < 1000) :
    ∃ (ks : List Str) (c : Cell), l_law_parts_1 ⟨pR k nm most C Mu U z w, Omq⟩ = .ok .nx ⟨pR k nm most C Mu (U ++ [dK ks]) z w, Omq.set k (some c)⟩ ∧ Dr (Omq.set k (some c)) k ∧ ks.Nodup ∧ ks ⊆ C ∧ 0 < ks.length := by
  obtain ⟨S, c, e, d, n1, s1, l1⟩ := some_str (least := 1) h nd (by omega) (by omega) h2
  have e2 : cutL (S.map D.str) none (some 2) = (S.map D.str).take 2 := cut_hi (S.map D.str) 2 (by omega)
  have e4 : allD (S.map (Val.d ∘ D.str)) = some (S.map D.str) := by rw [← List.map_map]; exact allD_map _
  have h3' : U.length < cap := by unfold cap; omega
  refine ⟨S.take 2, c, ?_, d, n1.sublist (List.take_sublist _ _), fun y hy => s1 (take_sub _ _ hy), by simp; omega⟩
  unfold l_law_parts_1 pR
  simp [exprS, metE, M.bind, Out.bind, rd, isL, obsL, consA, fzM, fz, callE, M.pure, callM, e, chgL, appM, h3', sliceE, partM, cutF, lit, dK, e4, e2]
def pQ (k : Nat) (nm : D) (most : Int) (C Mu : List Str) (x5 z : Slot) (Rr : List D) : List Slot := [.v (.r k), .v (.d nm), .v (.d (.int most)), .v (.d (.lst (C.map D.str))), .v (.d (.lst (Mu.map D.str))), x5, z, .acc (.lst (Rr.map Val.d))]
theorem r_turn {Omq : List (Option Cell)} {k : Nat} {nm : D} {most : Int} {C Mu : List Str} {x5 z : Slot} {Rr : List D} (h : Dr Omq k) (nd : C.Nodup) (h1 : 0 < C.length) (h2 : C.length < 400) (h3 : Rr.length < 1000) :
    ∃ (r : List Str × Str) (c : Cell), l_law_parts_2 ⟨pQ k nm most C Mu x5 z Rr, Omq⟩ = .ok .nx ⟨pQ k nm most C Mu x5 z (Rr ++ [dR r]), Omq.set k (some c)⟩ ∧ Dr (Omq.set k (some c)) k ∧ r.1.Nodup ∧ r.1 ⊆ C ∧ r.2 ∈ C := by
  obtain ⟨S, c, e, d, n1, s1, l1⟩ := some_str (least := 0) h nd (by omega) (by omega) h2
  obtain ⟨v, c2, e3, v0, v1, d2⟩ := draw_ok (m := (C.length : Int)) d (by omega) (by omega)
  rw [List.set_set] at e3 d2
  have e2 : cutL (S.map D.str) none (some 2) = (S.map D.str).take 2 := cut_hi (S.map D.str) 2 (by omega)
  have e4 : allD (S.map (Val.d ∘ D.str)) = some (S.map D.str) := by rw [← List.map_map]; exact allD_map _
  have h3' : Rr.length < cap := by unfold cap; omega
  have hv : v.toNat < C.length := by omega
  have c2' : 2 ≤ cap := by unfold cap; omega
  refine ⟨(S.take 2, C[v.toNat]), c2, ?_, d2, n1.sublist (List.take_sublist _ _), fun y hy => s1 (take_sub _ _ hy), List.getElem_mem _⟩
  unfold l_law_parts_2 pQ
  simp [exprS, metE, M.bind, Out.bind, rd, isL, obsL, consA, fzM, fz, callE, M.pure, callM, e, e3, chgL, appM, h3', sliceE, partM, cutF, lit, dR, e4, e2, tupE, dsOf, allD, op2, ixV, obsQ, L2.atI, ixN, v0, v1, hv, lenF, c2']
end S
set_option maxRecDepth 100000
/-! Running meanings: rewriting rules that go from left to right, the rest of a run waits. -/
namespace G
open PySem PySem.Spec L2
/-- a mark that hangs upon what follows: the rest of a run is left alone until its time -/
structure Tg {α β : Type} (k : α → Sg → Out β) : Type where
def bnd {α β : Type} (o : Out α) (k : α → Sg → Out β) (_u : Tg k := ⟨⟩) : Out β := Out.bind o k
section
variable {α β γ : Type} {s : Sg} {a : α} {k : α → Sg → Out β} {o : Out α} {x : Exc} {m m1 m2 ma mb mc : M Val} {mr : M (List Val)} {c c1 c2 : M Bool} {f f1 f2 : M Fl} {rhq : List Slot} {Omq : List (Option Cell)}
@[simp] theorem bnd_ok : bnd (.ok a s) k = k a s := (rfl)
@[simp] theorem bnd_exc : bnd (.exc x s) k = .exc x s := (rfl)
@[simp] theorem bnd_stuck : bnd .stuck k = .stuck := (rfl)
@[simp] theorem bnd_bnd {h : β → Sg → Out γ} : bnd (bnd o k) h = bnd o fun a s => bnd (k a s) h := by cases o <;> rfl
@[simp ↓] theorem u_bind {m : M α} {k : α → M β} : M.bind m k s = bnd (m s) k := (rfl)
@[simp ↓] theorem u_pure : M.pure a s = .ok a s := (rfl)
@[simp ↓] theorem u_lit {d : D} : lit d s = .ok (.d d) s := (rfl)
@[simp ↓] theorem u_op2 {g : Val → Val → M Val} : op2 g ma mb s = bnd (ma s) fun x s => bnd (mb s) fun y s => g x y s := (rfl)
@[simp ↓] theorem u_consA : consA m mr s = bnd (m s) fun x s => bnd (mr s) fun xs s => .ok (x :: xs) s := (rfl)
@[simp ↓] theorem u_fzM : fzM m s = bnd (m s) fz := (rfl)
@[simp ↓] theorem u_fzD {d : D} : fz (.d d) s = .ok (.d d) s := (rfl)
@[simp ↓] theorem u_fzR {n : Nat} : fz (.r n) s = .ok (.r n) s := (rfl)
@[simp ↓] theorem u_fzS {i : Nat} : fz (.s i) s = (match s.rhq[i]? with
    | some (.acc c) => (match c.toD with
      | some d => .ok (.d d) { s with rhq := s.rhq.set i (.v (.d d)) }
      | none => .stuck)
    | some (.v (.d d)) => .ok (.d d) s
    | _ => .stuck) := (rfl)
@[simp ↓] theorem u_rd {i : Nat} : rd i s = (match s.rhq[i]? with
  | some (.v x) => .ok x s
  | some (.acc _) => .ok (.s i) s
  | _ => .stuck) := (rfl)
@[simp ↓] theorem u_callE {n : Nat} {sem : SemF} {dds : List D} : callE n sem dds mr s = bnd (mr s) fun xs s => if xs.length + dds.length = n then callM sem (xs ++ dds.map Val.d) s else .stuck := by
  show Out.bind _ _ = Out.bind _ _
  congr; funext xs s; split <;> rfl
@[simp ↓] theorem u_seqS : seqS f1 f2 s = bnd (f1 s) fun f s => match f with
  | .nx => f2 s
  | f => .ok f s := by
  show Out.bind _ _ = Out.bind _ _
  congr; funext f s; cases f <;> rfl
@[simp ↓] theorem u_exprS : exprS m s = bnd (m s) fun _ s => .ok .nx s := (rfl)
@[simp ↓] theorem u_retS : retS m s = bnd (m s) fun x s => bnd (fz x s) fun y s => .ok (.rt y) s := by
  show Out.bind (Out.bind (m s) fz) _ = _
  cases m s <;> rfl
@[simp ↓] theorem u_setS {i : Nat} : setS i m s = bnd (m s) fun x s => bnd (fz x s) fun y s => .ok .nx { s with rhq := s.rhq.set i (.v y) } := by
  show Out.bind (Out.bind (m s) fz) _ = _
  cases m s <;> rfl
@[simp ↓] theorem u_tst {b : Bool} : tst (.d (.bl b)) s = .ok b s := (rfl)
@[simp ↓] theorem u_cmpT {g : Val → Val → M Val} : cmpT g ma mb s = bnd (op2 g ma mb s) tst := (rfl)
@[simp ↓] theorem u_notT : notT c s = bnd (c s) fun b s => .ok (!b) s := (rfl)
@[simp ↓] theorem u_andT : andT c1 c2 s = bnd (c1 s) fun b s => if b = true then c2 s else .ok false s := by
  show Out.bind _ _ = Out.bind _ _
  congr; funext b s; cases b <;> rfl
@[simp ↓] theorem u_orT : orT c1 c2 s = bnd (c1 s) fun b s => if b = true then .ok true s else c2 s := by
  show Out.bind _ _ = Out.bind _ _
  congr; funext b s; cases b <;> rfl
@[simp ↓] theorem u_ifS : ifS c f1 f2 s = bnd (c s) fun b s => if b = true then f1 s else f2 s := by
  show Out.bind _ _ = Out.bind _ _
  congr; funext b s; cases b <;> rfl
@[simp ↓] theorem u_ifE : ifE c m1 m2 s = bnd (c s) fun b s => if b = true then m1 s else m2 s := by
  show Out.bind _ _ = Out.bind _ _
  congr; funext b s; cases b <;> rfl
@[simp ↓] theorem u_andV : andV m1 m2 s = bnd (m1 s) fun x s => bnd (tst x s) fun b s => if b = true then m2 s else .ok (.d (.bl false)) s := by
  show Out.bind _ _ = Out.bind _ _
  congr; funext x s
  show Out.bind _ _ = Out.bind _ _
  congr; funext b s; cases b <;> rfl
@[simp ↓] theorem u_orV : orV m1 m2 s = bnd (m1 s) fun x s => bnd (tst x s) fun b s => if b = true then .ok (.d (.bl true)) s else m2 s := by
  show Out.bind _ _ = Out.bind _ _
  congr; funext x s
  show Out.bind _ _ = Out.bind _ _
  congr; funext b s; cases b <;> rfl
@[simp ↓] theorem u_chainV {g g' : Val → Val → M Val} : chainV g g' ma mb mc s = bnd (ma s) fun x s => bnd (mb s) fun y s => bnd (g x y s) fun z s => bnd (tst z s) fun t s => if t = true then bnd (mc s) fun z s => g' y z s else .ok (.d (.bl false)) s := by
  show Out.bind _ _ = Out.bind _ _
  congr; funext x s
  show Out.bind _ _ = Out.bind _ _
  congr; funext y s
  show Out.bind _ _ = Out.bind _ _
  congr; funext z s
  show Out.bind _ _ = Out.bind _ _
  congr; funext b s; cases b <;> rfl
@[simp ↓] theorem u_gnm {i : Nat} {x : Val} : Tgt.g (.nm i) x s = .ok () { s with rhq := s.rhq.set i (.v x) } := (rfl)
@[simp ↓] theorem u_gtp {is : List Nat} {xs : List D} : Tgt.g (.tp is) (.d (.tup xs)) s = gAll is (xs.map Val.d) s := (rfl)
@[simp ↓] theorem u_gA0 : gAll [] [] s = .ok () s := (rfl)
@[simp ↓] theorem u_gA1 {i : Nat} {is : List Nat} {x : Val} {xs : List Val} : gAll (i :: is) (x :: xs) s = gAll is xs { s with rhq := s.rhq.set i (.v x) } := (rfl)
@[simp ↓] theorem u_asgS {t : Tgt} : asgS t m s = bnd (m s) fun x s => bnd (fz x s) fun y s => bnd (t.g y s) fun _ s => .ok .nx s := by
  show Out.bind (Out.bind (m s) fz) _ = _
  cases m s <;> rfl
@[simp ↓] theorem u_asgL {is : List Nat} : asgL is m s = bnd (m s) fun x s => bnd (fz x s) fun y s => match obsL s y with
  | some xs => bnd (gAll is xs s) fun _ s => .ok .nx s
  | none => .stuck := by
  show Out.bind (Out.bind (m s) fz) _ = _
  cases m s with
  | ok x s1 =>
    show Out.bind (fz x s1) _ = Out.bind (fz x s1) _
    congr; funext y s
    show unpK _ _ _ = _
    cases obsL s y <;> rfl
  | _ => rfl
@[simp ↓] theorem u_forS {mi : M (List Val)} {g : Val → M Unit} : forS mi g f s = bnd (mi s) fun items s => loopS (fun x s => bnd (g x s) fun _ s => f s) items s := (rfl)
@[simp ↓] theorem u_iSeq : iSeq m s = bnd (m s) fun x s => bnd (fz x s) fun y s => seqD y s := by
  show Out.bind (Out.bind (m s) fz) _ = _
  cases m s <;> rfl
@[simp ↓] theorem u_seqL {xs : List D} : seqD (.d (.lst xs)) s = .ok (xs.map Val.d) s := (rfl)
@[simp ↓] theorem u_seqT {xs : List D} : seqD (.d (.tup xs)) s = .ok (xs.map Val.d) s := (rfl)
@[simp ↓] theorem u_dsOf {ds : List D} : dsOf (ds.map Val.d) s = .ok ds s := by unfold dsOf; rw [allD_map]
@[simp ↓] theorem u_tupE : tupE mr s = bnd (mr s) fun xs s => match allD xs with
  | some ds => if ds.length ≤ cap then .ok (.d (.tup ds)) s else .stuck
  | none => .stuck := by
  show Out.bind _ _ = Out.bind _ _
  congr; funext xs s
  show Out.bind (dsOf xs s) _ = _
  unfold dsOf
  cases allD xs with
  | none => rfl
  | some ds => show (if ds.length ≤ cap then M.pure _ else stuck : M Val) s = (if ds.length ≤ cap then _ else _); split <;> rfl
@[simp ↓] theorem u_lstE : lstE mr s = bnd (mr s) fun xs s => match allD xs with
  | some ds => if ds.length ≤ cap then .ok (.d (.lst ds)) s else .stuck
  | none => .stuck := by
  show Out.bind _ _ = Out.bind _ _
  congr; funext xs s
  show Out.bind (dsOf xs s) _ = _
  unfold dsOf
  cases allD xs with
  | none => rfl
  | some ds => show (if ds.length ≤ cap then M.pure _ else stuck : M Val) s = (if ds.length ≤ cap then _ else _); split <;> rfl
@[simp ↓] theorem u_lstC : lstC mr s = bnd (mr s) fun xs s => if xs.length ≤ cap then .ok (.r s.Omq.length) { s with Omq := s.Omq ++ [some (.lst xs)] } else .stuck := by
  show Out.bind _ _ = Out.bind _ _
  congr; funext xs s
  split <;> rfl
@[simp ↓] theorem u_setOwn {i : Nat} : setOwn i mr s = bnd (mr s) fun xs s => if xs.length ≤ cap then .ok .nx { s with rhq := s.rhq.set i (.acc (.lst xs)) } else .stuck := by
  show Out.bind _ _ = Out.bind _ _
  congr; funext xs s
  split <;> rfl
@[simp ↓] theorem u_setOwnL {i : Nat} : setOwnL i mr s = bnd (mr s) fun xs s => match xs with
  | [x] => (match obsQ s x with
    | some ys => .ok .nx { s with rhq := s.rhq.set i (.acc (.lst ys)) }
    | none => .stuck)
  | _ => .stuck := (rfl)
@[simp ↓] theorem u_sliceE {ml mh : Option (M Val)} : sliceE m ml mh s = bnd (m s) fun x s => bnd (partM ml s) fun lo s => bnd (partM mh s) fun hi s => cutF x lo hi s := (rfl)
@[simp ↓] theorem u_part0 : partM none s = .ok none s := (rfl)
@[simp ↓] theorem u_part1 : partM (some m) s = bnd (m s) fun x s => match x with
    | .d (.int i) => .ok (some i) s
    | _ => .stuck := (rfl)
@[simp ↓] theorem u_metE {g : Val → List Val → M Val} : metE m mr g s = bnd (m s) fun x s => bnd (isL x s) fun _ s => bnd (mr s) fun xs s => g x xs s := (rfl)
@[simp ↓] theorem u_setIx : setIx ma mb mc s = bnd (ma s) fun x s => bnd (fz x s) fun z s => bnd (mb s) fun x s => bnd (mc s) fun y s => bnd (setItem' x y z s) fun _ s => .ok .nx s := by
  show Out.bind (Out.bind (ma s) fz) _ = _
  cases ma s <;> rfl
@[simp ↓] theorem u_setFld {c f : Str} : setFld c f ma mb s = bnd (ma s) fun x s => bnd (fz x s) fun z s => bnd (mb s) fun x s => bnd (chgI c x (fun fs => if fs.length < 1000 then some (putG f z fs) else none) s) fun _ s => .ok .nx s := by
  show Out.bind (Out.bind (ma s) fz) _ = _
  cases ma s <;> rfl
@[simp ↓] theorem u_methE {c mth : Str} {n : Nat} {sem : SemF} {dds : List D} : methE c mth n sem dds m mr s = bnd (m s) fun x s => bnd (recv c mth x s) fun _ s => bnd (mr s) fun xs s => if xs.length + 1 + dds.length = n then callM sem (x :: (xs ++ dds.map Val.d)) s else .stuck := by
  show Out.bind _ _ = Out.bind _ _
  congr; funext x s
  show Out.bind _ _ = Out.bind _ _
  congr; funext _ s
  show Out.bind _ _ = Out.bind _ _
  congr; funext xs s
  split <;> rfl
@[simp ↓] theorem u_makeK {c : Str} {n k : Nat} {sem : SemF} {mk : M (List Val)} : makeK c n k sem mr mk s = bnd (mr s) fun xs s => bnd (mk s) fun ys s => if xs.length = n ∧ ys.length = k then mkF c sem (xs ++ ys) s else .stuck := by
  show Out.bind _ _ = Out.bind _ _
  congr; funext x s
  show Out.bind _ _ = Out.bind _ _
  congr; funext xs s
  split <;> rfl
@[simp ↓] theorem u_throwE : throwE x s = .exc x s := (rfl)
@[simp ↓] theorem u_raiseS {c : Str} {names : List Str} : raiseS c names mr s = bnd (mr s) fun xs s => match allD xs with
  | some ds => if ds.length = names.length then .exc ⟨c, names.zip ds⟩ s else .stuck
  | none => .stuck := by
  show Out.bind _ _ = Out.bind _ _
  congr; funext xs s
  show raiseK _ _ _ _ = _
  cases allD xs with
  | none => rfl
  | some ds => show (if ds.length = names.length then _ else stuck : M Fl) s = (if ds.length = names.length then _ else _); split <;> rfl
@[simp ↓] theorem u_tryS {exm : Str → Str → Option Bool} {hs : List Hnd} : tryS exm f hs s = (match f s with
  | .exc x s' => pickH exm x hs s'
  | o => o) := (rfl)
theorem u_callM {sem : SemF} {xs : List Val} {rhq : List Slot} {Omq Omq' : List (Option Cell)} {x : Val} (h : sem xs Omq = .ok x Omq') : callM sem xs ⟨rhq, Omq⟩ = .ok x ⟨rhq, Omq'⟩ := by unfold callM; rw [h]
theorem u_callX {sem : SemF} {xs : List Val} {rhq : List Slot} {Omq Omq' : List (Option Cell)} {x : Exc} (h : sem xs Omq = .exc x Omq') : callM sem xs ⟨rhq, Omq⟩ = .exc x ⟨rhq, Omq'⟩ := by unfold callM; rw [h]
theorem u_runF {n : Nat} {xs : List Val} {Omq Omq' : List (Option Cell)} {rhq : List Slot} {x : Val} (h : f ⟨slots n xs, Omq⟩ = .ok (.rt x) ⟨rhq, Omq'⟩) : runF n f xs Omq = .ok x Omq' := by unfold runF; rw [h]
end
end G
set_option maxRecDepth 100000
/-! Running meanings: the values. -/
namespace G
open PySem PySem.Spec L2
section
variable {s : Sg} {i j : Int} {n : Nat} {x y : D} {xs ys : List D} {a b : Str} {ss ts : List Str} {p q neg : Bool} {v : Val}
@[simp ↓] theorem v_num {f : Int → Int → Option D} : numV f (.d (.int i)) (.d (.int j)) s = (match f i j with
    | some z => .ok (.d z) s
    | none => .stuck) := (rfl)
@[simp ↓] theorem v_add : addV (.d (.int i)) (.d (.int j)) s = .ok (.d (.int (i + j))) s := (rfl)
@[simp ↓] theorem v_adds : addV (.d (.str a)) (.d (.str b)) s = if a.length + b.length ≤ cap then .ok (.d (.str (a ++ b))) s else .stuck := (rfl)
@[simp ↓] theorem v_addt : addV (.d (.tup xs)) (.d (.tup ys)) s = if xs ≠ [] ∧ ys ≠ [] ∧ xs.length + ys.length ≤ cap then .ok (.d (.tup (xs ++ ys))) s else .stuck := (rfl)
@[simp ↓] theorem v_addl : addV (.d (.lst xs)) (.d (.lst ys)) s = if xs.length + ys.length ≤ cap then .ok (.d (.lst (xs ++ ys))) s else .stuck := by
  show (match allD (xs.map Val.d ++ ys.map Val.d) with
      | some ds => if ds.length ≤ cap then Out.ok (Val.d (.lst ds)) s else .stuck
      | none => .stuck) = _
  rw [← List.map_append, allD_map, ← List.length_append]
@[simp ↓] theorem v_eqstr : eqvV neg (.d (.str a)) (.d (.str b)) s = .ok (.d (.bl (neg != decide (a = b)))) s := (rfl)
@[simp ↓] theorem v_eqint : eqvV neg (.d (.int i)) (.d (.int j)) s = .ok (.d (.bl (neg != decide (i = j)))) s := (rfl)
@[simp ↓] theorem v_eqbl : eqvV neg (.d (.bl p)) (.d (.bl q)) s = .ok (.d (.bl (neg != decide (p = q)))) s := (rfl)
@[simp ↓] theorem v_is0 : isNV neg (.d .non) (.d .non) s = .ok (.d (.bl (!neg))) s := (rfl)
@[simp ↓] theorem v_is1 : isNV neg (.d (.lst xs)) (.d .non) s = .ok (.d (.bl neg)) s := (rfl)
@[simp ↓] theorem v_is2 : isNV neg (.d (.tup xs)) (.d .non) s = .ok (.d (.bl neg)) s := (rfl)
@[simp ↓] theorem v_is3 : isNV neg (.d (.int i)) (.d .non) s = .ok (.d (.bl neg)) s := (rfl)
@[simp ↓] theorem v_is4 : isNV neg (.d (.str a)) (.d .non) s = .ok (.d (.bl neg)) s := (rfl)
@[simp ↓] theorem v_is5 : isNV neg (.d (.bl p)) (.d .non) s = .ok (.d (.bl neg)) s := (rfl)
@[simp ↓] theorem v_is6 {c : Str} {fs : List (Str × D)} : isNV neg (.d (.ins c fs)) (.d .non) s = .ok (.d (.bl neg)) s := (rfl)
theorem flat_str : (ss.map D.str).all flatD = true := by simp [flatD]
theorem any_str : (ss.map D.str).any (fun z => eqF z (.str a)) = decide (a ∈ ss) := by
  rw [Bool.eq_iff_iff]
  simp [eqF]
@[simp ↓] theorem v_inl : inV0 neg (.d (.str a)) (.d (.lst (ss.map D.str))) s = .ok (.d (.bl (neg != decide (a ∈ ss)))) s := by
  show (match allD ((ss.map D.str).map Val.d) with
        | some ds => if flatD (.str a) && ds.all flatD then Out.ok (Val.d (.bl (neg != ds.any fun z => eqF z (.str a)))) s
          else if (D.str a).plain 60 && plainL 60 ds then .ok (.d (.bl (neg != ds.any fun z => eqD z (.str a)))) s else .stuck
        | none => .stuck) = _
  rw [allD_map]
  simp only [flat_str, any_str, flatD, Bool.and_self, if_true]
@[simp ↓] theorem v_int : inV0 neg (.d (.str a)) (.d (.tup (ss.map D.str))) s = .ok (.d (.bl (neg != decide (a ∈ ss)))) s := by
  show (match allD ((ss.map D.str).map Val.d) with
        | some ds => if flatD (.str a) && ds.all flatD then Out.ok (Val.d (.bl (neg != ds.any fun z => eqF z (.str a)))) s
          else if (D.str a).plain 60 && plainL 60 ds then .ok (.d (.bl (neg != ds.any fun z => eqD z (.str a)))) s else .stuck
        | none => .stuck) = _
  rw [allD_map]
  simp only [flat_str, any_str, flatD, Bool.and_self, if_true]
theorem v_ins {i : Nat} (h : s.rhq[i]? = some (.acc (.lst ((ss.map D.str).map Val.d)))) : inV0 neg (.d (.str a)) (.s i) s = .ok (.d (.bl (neg != decide (a ∈ ss)))) s := by
  simp only [inV0, obsD, h, obsQ, obsL, allD_map, flat_str, any_str, flatD, Bool.and_self, if_true]
@[simp ↓] theorem v_tr0 : truV (.d .non) s = .ok false s := (rfl)
@[simp ↓] theorem v_tr1 : truV (.d (.bl p)) s = .ok p s := (rfl)
@[simp ↓] theorem v_tr2 : truV (.d (.lst xs)) s = .ok (!xs.isEmpty) s := by
  show Out.ok (!(xs.map Val.d).isEmpty) s = _
  simp
@[simp ↓] theorem v_tr3 : truV (.d (.tup xs)) s = .ok (!xs.isEmpty) s := by
  show Out.ok (!(xs.map Val.d).isEmpty) s = _
  simp
@[simp ↓] theorem v_len1 : lenF [.d (.lst xs)] s = .ok (.d (.int xs.length)) s := by
  show Out.ok (Val.d (.int ((xs.map Val.d).length))) s = _
  simp
@[simp ↓] theorem v_len2 : lenF [.d (.tup xs)] s = .ok (.d (.int xs.length)) s := by
  show Out.ok (Val.d (.int ((xs.map Val.d).length))) s = _
  simp
@[simp ↓] theorem v_len3 : lenF [.d (.str a)] s = if a.length ≤ cap then .ok (.d (.int a.length)) s else .stuck := (rfl)
@[simp ↓] theorem v_list1 : listF [.d (.lst xs)] s = .ok (.d (.lst xs)) s := by
  show (match allD (xs.map Val.d) with
      | some ds => Out.ok (Val.d (.lst ds)) s
      | none => .stuck) = _
  rw [allD_map]
@[simp ↓] theorem v_list2 : listF [.d (.tup xs)] s = .ok (.d (.lst xs)) s := by
  show (match allD (xs.map Val.d) with
      | some ds => Out.ok (Val.d (.lst ds)) s
      | none => .stuck) = _
  rw [allD_map]
@[simp ↓] theorem v_tuple1 : tupleF [.d (.lst xs)] s = .ok (.d (.tup xs)) s := by
  show (match allD (xs.map Val.d) with
      | some ds => Out.ok (Val.d (.tup ds)) s
      | none => .stuck) = _
  rw [allD_map]
@[simp ↓] theorem v_tuple2 : tupleF [.d (.tup xs)] s = .ok (.d (.tup xs)) s := (rfl)
@[simp ↓] theorem v_inti : intF [.d (.int i)] s = .ok (.d (.int i)) s := (rfl)
@[simp ↓] theorem v_intb : intF [.d (.bl p)] s = .ok (.d (.int (if p then 1 else 0))) s := (rfl)
theorem atI_nat {α : Type} {l : List α} : L2.atI l (n : Int) = l[n]? := by
  unfold L2.atI ixN
  by_cases h : n < l.length
  · simp [h]
  · simp [h]
@[simp ↓] theorem v_ixl : ixV (.d (.lst xs)) (.d (.int i)) s = (match L2.atI xs i with
      | some z => .ok (.d z) s
      | none => .stuck) := by
  show (match L2.atI (xs.map Val.d) i with
      | some z => Out.ok z s
      | none => .stuck) = _
  unfold L2.atI
  rw [List.length_map]
  cases ixN xs.length i with
  | none => rfl
  | some j => simp only [Option.bind_some, List.getElem?_map]; cases xs[j]? <;> rfl
@[simp ↓] theorem v_ixt : ixV (.d (.tup xs)) (.d (.int i)) s = (match L2.atI xs i with
      | some z => .ok (.d z) s
      | none => .stuck) := by
  show (match L2.atI (xs.map Val.d) i with
      | some z => Out.ok z s
      | none => .stuck) = _
  unfold L2.atI
  rw [List.length_map]
  cases ixN xs.length i with
  | none => rfl
  | some j => simp only [Option.bind_some, List.getElem?_map]; cases xs[j]? <;> rfl
theorem v_ixr {k : Nat} {l : List Val} (h : s.Omq[k]? = some (some (.lst l))) : ixV (.r k) (.d (.int i)) s = (match L2.atI l i with
      | some z => .ok z s
      | none => .stuck) := by
  simp only [ixV, obsQ, obsL, h] <;> cases L2.atI l i <;> rfl
@[simp ↓] theorem v_cutl {lo hi : Option Int} : cutF (.d (.lst xs)) lo hi s = .ok (.d (.lst (cutL xs lo hi))) s := by
  show (match allD (xs.map Val.d) with
      | some ds => Out.ok (Val.d (.lst (cutL ds lo hi))) s
      | none => .stuck) = _
  rw [allD_map]
@[simp ↓] theorem v_isl {f : Kd → Bool} : isiV f (.d (.lst xs)) s = .ok (.d (.bl (f .lst))) s := (rfl)
@[simp ↓] theorem v_ist {f : Kd → Bool} : isiV f (.d (.tup xs)) s = .ok (.d (.bl (f .tup))) s := (rfl)
@[simp ↓] theorem v_iss {f : Kd → Bool} : isiV f (.d (.str a)) s = .ok (.d (.bl (f .str))) s := (rfl)
@[simp ↓] theorem v_isi {f : Kd → Bool} : isiV f (.d (.int i)) s = .ok (.d (.bl (f .int))) s := (rfl)
@[simp ↓] theorem v_isb {f : Kd → Bool} : isiV f (.d (.bl p)) s = .ok (.d (.bl (f .bl))) s := (rfl)
@[simp ↓] theorem v_isn {f : Kd → Bool} : isiV f (.d .non) s = .ok (.d (.bl (f .non))) s := (rfl)
theorem look_map {f : Str} : ∀ fs : List (Str × D), (fs.map fun p => (p.1, Val.d p.2)).lookup f = (fs.lookup f).map Val.d
  | [] => rfl
  | (g, z) :: r => by
    simp only [List.map_cons, List.lookup_cons]
    cases f == g
    · exact look_map r
    · rfl
theorem v_fld {c f : Str} {fs : List (Str × D)} (h : fs.lookup f = some y) : fldV c f (.d (.ins c fs)) s = .ok (.d y) s := by
  simp only [fldV, insV, if_true, look_map, h, Option.map_some]
theorem v_recv {c f : Str} {fs : List (Str × D)} (h : fs.lookup f = none) : recv c f (.d (.ins c fs)) s = .ok () s := by
  simp only [recv, insV, if_true, look_map, h, Option.map_none]
@[simp ↓] theorem v_isL : isL (.d (.lst xs)) s = .ok () s := (rfl)
theorem bools_map {bs : List Bool} : bools (bs.map fun b => Val.d (.bl b)) = some bs := by
  induction bs with
  | nil => rfl
  | cons b r ih => simp [bools, ih]
@[simp ↓] theorem v_qf {f : List Bool → Bool} {bs : List Bool} : qfF f [.d (.lst (bs.map D.bl))] s = .ok (.d (.bl (f bs))) s := by
  have e : ((bs.map D.bl).map Val.d) = bs.map fun b => Val.d (.bl b) := by simp
  show qfK f (bools ((bs.map D.bl).map Val.d)) s = _
  rw [e, bools_map]; rfl
theorem v_rng1 (h : -1000000 ≤ j ∧ j ≤ 1000000) : rng1 [.d (.int j)] s = .ok (rng 0 j.toNat) s := by
  unfold rng1; simp only [if_pos h]
@[simp ↓] theorem v_enuml : enumD [.d (.lst xs)] s = .ok (enumL xs) s := (rfl)
@[simp ↓] theorem v_enumt : enumD [.d (.tup xs)] s = .ok (enumL xs) s := (rfl)
end
/-! ### loops -/
section
variable {f : Val → M Fl} {items : List Val}
/-- a loop by its invariant; it may return -/
theorem loop_inv (P : Nat → Sg → Prop) (R : Val → Sg → Prop) : ∀ (items : List Val) (k : Nat) (s : Sg), (∀ i x s, items[i]? = some x → P (k + i) s → (∃ s', (f x s = .ok .nx s' ∨ f x s = .ok .ct s') ∧ P (k + i + 1) s') ∨ ∃ v s', f x s = .ok (.rt v) s' ∧ R v s') → P k s →
    (∃ s', loopS f items s = .ok .nx s' ∧ P (k + items.length) s') ∨ ∃ v s', loopS f items s = .ok (.rt v) s' ∧ R v s'
  | [], k, s, _, h => .inl ⟨s, rfl, h⟩
  | x :: items, k, s, st, h => by
    rcases st 0 x s rfl h with ⟨s', e, q⟩ | ⟨v, s', e, q⟩
    · have ih := loop_inv P R items (k + 1) s' (fun i y s hi hp => by
        have e1 : k + 1 + i = k + (i + 1) := by omega
        rw [e1] at hp ⊢
        exact st (i + 1) y s (by simpa using hi) hp) q
      have e2 : loopS f (x :: items) s = loopS f items s' := by
        show (f x s).bind _ = _
        rcases e with e | e <;> rw [e]
      have e3 : k + (x :: items).length = k + 1 + items.length := by simp; omega
      rw [e2, e3]; exact ih
    · refine .inr ⟨v, s', ?_, q⟩
      show (f x s).bind _ = _
      rw [e]
/-- a loop by its invariant; it goes to its end -/
theorem loop_end (P : Nat → Sg → Prop) {s : Sg} (st : ∀ i x s, items[i]? = some x → P i s → ∃ s', (f x s = .ok .nx s' ∨ f x s = .ok .ct s') ∧ P (i + 1) s') (h : P 0 s) : ∃ s', loopS f items s = .ok .nx s' ∧ P items.length s' := by
  rcases loop_inv P (fun _ _ => False) items 0 s (fun i x s hi hp => .inl (by rw [Nat.zero_add] at *; exact st i x s hi hp)) h with ⟨s', e, q⟩ | ⟨_, _, _, q⟩
  · exact ⟨s', e, by simpa using q⟩
  · exact q.elim
/-- a loop over data that folds a state: st by the accumulator and the loop's own slot -/
theorem loop_fold {α β : Type} {enc : α → Val} {f : Val → M Fl} (St : β → Slot → Sg) (g : β → α → β) : ∀ (xs : List α) (b : β) (z : Slot), (∀ x ∈ xs, ∀ b z, ∃ z', f (enc x) (St b z) = .ok .nx (St (g b x) z')) → ∃ z', loopS f (xs.map enc) (St b z) = .ok .nx (St (xs.foldl g b) z')
  | [], b, z, _ => ⟨z, rfl⟩
  | x :: xs, b, z, h => by
    obtain ⟨z1, e⟩ := h x List.mem_cons_self b z
    obtain ⟨z2, e2⟩ := loop_fold St g xs (g b x) z1 fun y hy => h y (List.mem_cons_of_mem _ hy)
    refine ⟨z2, ?_⟩
    show (f (enc x) (St b z)).bind _ = _
    rw [e]
    exact e2
end
/-! ### comprehensions -/
theorem set_getD {rhq : List Slot} {j : Nat} : rhq.set j (rhq.getD j .no) = rhq := by
  apply List.ext_getElem?
  intro i
  by_cases h : i = j
  · subst h
    by_cases hl : i < rhq.length
    · simp [List.getElem?_set, hl, List.getD_eq_getElem?_getD]
    · simp [List.getElem?_set, hl]
  · rw [List.getElem?_set_ne (Ne.symm h)]
/-- one name: the test and the item by plain functions, nothing else changes -/
theorem comp_one {rhq : List Slot} {Omq : List (Option Cell)} {mi : M (List Val)} {mc : M Bool} {me : M Val} {j : Nat} {α : Type} {enc : α → Val} {xs : List α} (p : α → Bool) (g : α → D) (hi : mi ⟨rhq, Omq⟩ = .ok (xs.map enc) ⟨rhq, Omq⟩)
    (ha : noAcc rhq [j] = true) (hc : ∀ x ∈ xs, mc ⟨rhq.set j (.v (enc x)), Omq⟩ = .ok (p x) ⟨rhq.set j (.v (enc x)), Omq⟩)
    (he : ∀ x ∈ xs, p x = true → me ⟨rhq.set j (.v (enc x)), Omq⟩ = .ok (.d (g x)) ⟨rhq.set j (.v (enc x)), Omq⟩) : compM mi [j] (.nm j) mc me ⟨rhq, Omq⟩ = .ok (.d (.lst ((xs.filter p).map g))) ⟨rhq, Omq⟩ := by
  have key : ∀ (ys : List α) (z : Slot), (∀ y ∈ ys, y ∈ xs) → ∃ z', compL [j] (.nm j) mc me (ys.map enc) ⟨rhq.set j z, Omq⟩ = .ok ((ys.filter p).map g) ⟨rhq.set j z', Omq⟩ := by
    intro ys
    induction ys with
    | nil => intro z _; exact ⟨z, rfl⟩
    | cons y ys ih =>
      intro z h
      have hy := h y List.mem_cons_self
      obtain ⟨z', e⟩ := ih (.v (enc y)) fun w hw => h w (List.mem_cons_of_mem _ hw)
      refine ⟨z', ?_⟩
      have e1 : compL [j] (.nm j) mc me ((y :: ys).map enc) ⟨rhq.set j z, Omq⟩ = (mc ⟨rhq.set j (.v (enc y)), Omq⟩).bind fun b => if b then (fzM me).bind fun y => (valD y).bind fun d => (compL [j] (.nm j) mc me (ys.map enc)).bind fun ds => M.pure (d :: ds) else compL [j] (.nm j) mc me (ys.map enc) := by
        show (mc ⟨(((rhq.set j z).set j .no).set j (.v (enc y))), Omq⟩).bind _ = _
        rw [List.set_set, List.set_set]
      rw [e1, hc y hy]
      cases hp : p y with
      | false =>
        show compL _ _ _ _ _ _ = _
        rw [e, List.filter_cons, hp]; rfl
      | true =>
        show ((me ⟨rhq.set j (.v (enc y)), Omq⟩).bind fz).bind _ = _
        rw [he y hy hp]
        show (compL _ _ _ _ _ _).bind _ = _
        rw [e, List.filter_cons, hp]; rfl
  obtain ⟨z', e⟩ := key xs (rhq.getD j .no) fun _ h => h
  rw [set_getD] at e
  show (mi ⟨rhq, Omq⟩).bind _ = _
  rw [hi]
  show (if noAcc rhq [j] = true then _ else _) = _
  rw [if_pos ha, e]
  show Out.ok (Val.d (.lst _)) ⟨((rhq.set j z').set j .no).set j (rhq.getD j .no), Omq⟩ = _
  rw [List.set_set, List.set_set, set_getD]
theorem comp_map {rhq : List Slot} {Omq : List (Option Cell)} {mi : M (List Val)} {me : M Val} {j : Nat} {α : Type} {enc : α → Val} {xs : List α} (g : α → D) (hi : mi ⟨rhq, Omq⟩ = .ok (xs.map enc) ⟨rhq, Omq⟩)
    (ha : noAcc rhq [j] = true) (he : ∀ x ∈ xs, me ⟨rhq.set j (.v (enc x)), Omq⟩ = .ok (.d (g x)) ⟨rhq.set j (.v (enc x)), Omq⟩) : compM mi [j] (.nm j) (M.pure true) me ⟨rhq, Omq⟩ = .ok (.d (.lst (xs.map g))) ⟨rhq, Omq⟩ := by
  have := comp_one (mc := M.pure true) (fun _ => true) g hi ha (fun _ _ => rfl) (fun x hx _ => he x hx)
  rw [this, List.filter_eq_self.mpr (fun _ _ => rfl)]
end G
set_option maxRecDepth 100000
/-! Running meanings: comprehensions and loops by rewriting. -/
namespace G
open PySem PySem.Spec L2
/-- the outcome is ok, the state is s -/
def okAt {α : Type} (o : Out α) (s : Sg) : Prop := match o with
  | .ok _ s' => s' = s
  | _ => False
def isD (o : Out Val) (s : Sg) : Prop := match o with
  | .ok (.d _) s' => s' = s
  | _ => False
def getB (o : Out Bool) : Bool := match o with
  | .ok b _ => b
  | _ => false
def getX (o : Out Val) : D := match o with
  | .ok (.d x) _ => x
  | _ => .non
section
variable {α : Type} {a : α} {s s' : Sg} {b : Bool} {x : D}
@[simp] theorem okAt_ok : okAt (.ok a s) s' ↔ s = s' := Iff.rfl
@[simp] theorem isD_ok : isD (.ok (.d x) s) s' ↔ s = s' := Iff.rfl
@[simp] theorem getB_ok : getB (.ok b s) = b := (rfl)
@[simp] theorem getX_ok : getX (.ok (.d x) s) = x := (rfl)
theorem okAt_iff {o : Out Bool} (h : okAt o s) : o = .ok (getB o) s := by
  cases o with
  | ok a s' => cases h; rfl
  | exc _ _ => exact h.elim
  | stuck => exact h.elim
theorem isD_iff {o : Out Val} (h : isD o s) : o = .ok (.d (getX o)) s := by
  cases o with
  | ok a s' => cases a with
    | d x => cases h; rfl
    | r _ => exact h.elim
    | s _ => exact h.elim
  | exc _ _ => exact h.elim
  | stuck => exact h.elim
end
def compZ (j : Nat) (mc : M Bool) (me : M Val) (items : List Val) : M Val := compM (M.pure items) [j] (.nm j) mc me
def compZ' (j : Nat) (mc : M Bool) (me : M Val) (items : List Val) : M Val := compZ j mc me items
@[simp ↓] theorem u_comp {mi : M (List Val)} {j : Nat} {mc : M Bool} {me : M Val} {s : Sg} : compM mi [j] (.nm j) mc me s = bnd (mi s) fun items s => compZ j mc me items s := (rfl)
open Classical in
@[simp ↓] theorem compZ_map {α : Type} {f : α → Val} {xs : List α} {j : Nat} {mc : M Bool} {me : M Val} {rhq : List Slot} {Omq : List (Option Cell)} : compZ j mc me (xs.map f) ⟨rhq, Omq⟩ =
    if noAcc rhq [j] = true ∧ ∀ x ∈ xs, okAt (mc ⟨rhq.set j (.v (f x)), Omq⟩) ⟨rhq.set j (.v (f x)), Omq⟩ ∧ (getB (mc ⟨rhq.set j (.v (f x)), Omq⟩) = true → isD (me ⟨rhq.set j (.v (f x)), Omq⟩) ⟨rhq.set j (.v (f x)), Omq⟩) then
      .ok (.d (.lst ((xs.filter fun x => getB (mc ⟨rhq.set j (.v (f x)), Omq⟩)).map fun x => getX (me ⟨rhq.set j (.v (f x)), Omq⟩)))) ⟨rhq, Omq⟩
    else compZ' j mc me (xs.map f) ⟨rhq, Omq⟩ := by
  split
  · next h => exact comp_one (mi := M.pure (xs.map f)) _ _ rfl h.1 (fun x hx => okAt_iff (h.2 x hx).1) fun x hx q => isD_iff ((h.2 x hx).2 q)
  · rfl
theorem compZ_nil {j : Nat} {mc : M Bool} {me : M Val} {rhq : List Slot} {Omq : List (Option Cell)} (h : noAcc rhq [j] = true) : compZ j mc me [] ⟨rhq, Omq⟩ = .ok (.d (.lst [])) ⟨rhq, Omq⟩ :=
  comp_one (α := Unit) (xs := []) (enc := fun _ => .d .non) (mi := M.pure []) (fun _ => true) (fun _ => .non) rfl h (fun _ q => by cases q) (fun _ q => by cases q)
/-! ### loops that fold, with an early end -/
def foldE {α β γ : Type} (step : β → α → Sum β γ) : β → List α → Sum β γ
  | b, [] => .inl b
  | b, x :: xs => match step b x with
    | .inl b' => foldE step b' xs
    | .inr o => .inr o
def Ender (o : Out Fl) : Prop := match o with
  | .ok .nx _ => False
  | .ok .ct _ => False
  | .ok .bk _ => False
  | _ => True
theorem loop_E {α β γ : Type} {f : α → Val} {body : Val → M Fl} (St : β → Sg) (step : β → α → Sum β γ) (fin : γ → Out Fl) (hf : ∀ o, Ender (fin o)) : ∀ (xs : List α) (b : β), (∀ x ∈ xs, ∀ b, body (f x) (St b) = match step b x with
    | .inl b' => .ok .nx (St b')
    | .inr o => fin o) → loopS body (xs.map f) (St b) = match foldE step b xs with
    | .inl b' => .ok .nx (St b')
    | .inr o => fin o
  | [], b, _ => rfl
  | x :: xs, b, h => by
    have h1 := h x List.mem_cons_self b
    show (body (f x) (St b)).bind _ = _
    rw [h1]
    unfold foldE
    cases step b x with
    | inl b' => exact loop_E St step fin hf xs b' fun y hy => h y (List.mem_cons_of_mem _ hy)
    | inr o =>
      have := hf o
      show (fin o).bind _ = fin o
      cases e : fin o with
      | ok fl s => cases fl with
        | rt v => rfl
        | _ => rw [e] at this; exact this.elim
      | exc _ _ => rfl
      | stuck => rfl
end G
set_option maxRecDepth 100000
/-! Running meanings: branches, outcomes of defs. -/
namespace G
open PySem PySem.Spec L2
def outF : Out Fl → OutF
  | .ok .nx s => .ok (.d .non) s.Omq
  | .ok (.rt x) s => .ok x s.Omq
  | .ok _ _ => .stuck
  | .exc x s => .exc x s.Omq
  | .stuck => .stuck
section
variable {α β : Type} {c : Prop} [Decidable c] {o o' : Out α} {k : α → Sg → Out β} {s : Sg} {p q : Bool} {f f' : Out Fl} {x : Val} {e : Exc}
theorem u_run {n : Nat} {m : M Fl} {xs : List Val} {Omq : List (Option Cell)} : runF n m xs Omq = outF (m ⟨slots n xs, Omq⟩) := by
  unfold runF outF
  cases m ⟨slots n xs, Omq⟩ with
  | ok fl s => cases fl <;> rfl
  | exc _ _ => rfl
  | stuck => rfl
@[simp] theorem outF_nx : outF (.ok .nx s) = .ok (.d .non) s.Omq := (rfl)
@[simp] theorem outF_rt : outF (.ok (.rt x) s) = .ok x s.Omq := (rfl)
@[simp] theorem outF_exc : outF (.exc e s) = .exc e s.Omq := (rfl)
@[simp] theorem outF_ite : outF (if c then f else f') = if c then outF f else outF f' := by split <;> rfl
@[simp] theorem bnd_ite : bnd (if c then o else o') k = if c then bnd o k else bnd o' k := by split <;> rfl
@[simp] theorem ite_vb : (if c then Out.ok (Val.d (D.bl p)) s else Out.ok (Val.d (D.bl q)) s) = Out.ok (Val.d (D.bl (if c then p else q))) s := by split <;> rfl
@[simp] theorem ite_bb : (if c then Out.ok p s else Out.ok q s) = Out.ok (if c then p else q) s := by split <;> rfl
end
@[simp] theorem noAcc1 {rhq : List Slot} {j : Nat} : noAcc rhq [j] = (match rhq[j]? with
  | some (.acc _) => false
  | _ => true) := by
  unfold noAcc
  simp only [List.all_cons, List.all_nil, Bool.and_true] <;> rfl
@[simp] theorem filter_tt {α : Type} (xs : List α) : (xs.filter fun _ => true) = xs := List.filter_eq_self.mpr fun _ _ => rfl
@[simp ↓] theorem v_qfm {α : Type} {f : List Bool → Bool} {g : α → Bool} {xs : List α} {s : Sg} : qfF f [.d (.lst (xs.map fun x => D.bl (g x)))] s = .ok (.d (.bl (f (xs.map g)))) s := by
  have : (xs.map fun x => D.bl (g x)) = (xs.map g).map D.bl := by simp
  rw [this]; exact v_qf
@[simp] theorem ofS_inj {a b : String} : Str.ofString a = Str.ofString b ↔ a = b := by
  refine ⟨fun h => ?_, fun h => by rw [h]⟩
  have h1 : (cpsOfBytes 0 0 a.toByteArray.data.toList) = cpsOfBytes 0 0 b.toByteArray.data.toList := by
    have := congrArg (fun x : Str => x.cps.toList) h
    simpa [Str.ofString] using this
  rw [cpsOfBytes_string, cpsOfBytes_string] at h1
  have inj : ∀ (l r : List Char), l.map Char.toNat = r.map Char.toNat → l = r := by
    intro l
    induction l with
    | nil => intro r h; cases r with
      | nil => rfl
      | cons _ _ => cases h
    | cons x l ih => intro r h; cases r with
      | nil => cases h
      | cons y r =>
        simp only [List.map_cons, List.cons.injEq] at h
        rw [ih r h.2, Char.toNat_inj.mp h.1]
  exact String.toList_inj.mp (inj _ _ h1)
@[simp] theorem cap_eq : cap = 1000000 := (rfl)
@[simp] theorem allD_nil : allD [] = some [] := (rfl)
@[simp] theorem allD_cons {x : D} {xs : List Val} : allD (.d x :: xs) = (allD xs).map (x :: ·) := (rfl)
@[simp] theorem allD_mapd {α : Type} {f : α → D} {xs : List α} : allD (xs.map fun x => Val.d (f x)) = some (xs.map f) := by
  have : (xs.map fun x => Val.d (f x)) = (xs.map f).map Val.d := by simp
  rw [this]; exact allD_map _
@[simp] theorem allD_comp {α : Type} {f : α → D} {xs : List α} : allD (xs.map (Val.d ∘ f)) = some (xs.map f) := allD_mapd
@[simp] theorem isK_non_bl : isK .non .bl = false := (rfl)
@[simp] theorem isK_non_int : isK .non .int = false := (rfl)
@[simp] theorem isK_non_str : isK .non .str = false := (rfl)
@[simp] theorem isK_non_tup : isK .non .tup = false := (rfl)
@[simp] theorem isK_non_lst : isK .non .lst = false := (rfl)
@[simp] theorem isK_bl_bl : isK .bl .bl = true := (rfl)
@[simp] theorem isK_bl_int : isK .bl .int = true := (rfl)
@[simp] theorem isK_bl_str : isK .bl .str = false := (rfl)
@[simp] theorem isK_bl_tup : isK .bl .tup = false := (rfl)
@[simp] theorem isK_bl_lst : isK .bl .lst = false := (rfl)
@[simp] theorem isK_int_bl : isK .int .bl = false := (rfl)
@[simp] theorem isK_int_int : isK .int .int = true := (rfl)
@[simp] theorem isK_int_str : isK .int .str = false := (rfl)
@[simp] theorem isK_int_tup : isK .int .tup = false := (rfl)
@[simp] theorem isK_int_lst : isK .int .lst = false := (rfl)
@[simp] theorem isK_str_bl : isK .str .bl = false := (rfl)
@[simp] theorem isK_str_int : isK .str .int = false := (rfl)
@[simp] theorem isK_str_str : isK .str .str = true := (rfl)
@[simp] theorem isK_str_tup : isK .str .tup = false := (rfl)
@[simp] theorem isK_str_lst : isK .str .lst = false := (rfl)
@[simp] theorem isK_tup_bl : isK .tup .bl = false := (rfl)
@[simp] theorem isK_tup_int : isK .tup .int = false := (rfl)
@[simp] theorem isK_tup_str : isK .tup .str = false := (rfl)
@[simp] theorem isK_tup_tup : isK .tup .tup = true := (rfl)
@[simp] theorem isK_tup_lst : isK .tup .lst = false := (rfl)
@[simp] theorem isK_lst_bl : isK .lst .bl = false := (rfl)
@[simp] theorem isK_lst_int : isK .lst .int = false := (rfl)
@[simp] theorem isK_lst_str : isK .lst .str = false := (rfl)
@[simp] theorem isK_lst_tup : isK .lst .tup = false := (rfl)
@[simp] theorem isK_lst_lst : isK .lst .lst = true := (rfl)
@[simp] theorem isK_dct_bl : isK .dct .bl = false := (rfl)
@[simp] theorem isK_dct_int : isK .dct .int = false := (rfl)
@[simp] theorem isK_dct_str : isK .dct .str = false := (rfl)
@[simp] theorem isK_dct_tup : isK .dct .tup = false := (rfl)
@[simp] theorem isK_dct_lst : isK .dct .lst = false := (rfl)
theorem compZ_ok {α : Type} {f : α → Val} {xs : List α} {j : Nat} {me : M Val} {rhq : List Slot} {Omq : List (Option Cell)} (g : α → D) (ha : noAcc rhq [j] = true) (h : ∀ x ∈ xs, me ⟨rhq.set j (.v (f x)), Omq⟩ = .ok (.d (g x)) ⟨rhq.set j (.v (f x)), Omq⟩) : compZ j (M.pure true) me (xs.map f) ⟨rhq, Omq⟩ = .ok (.d (.lst (xs.map g))) ⟨rhq, Omq⟩ :=
  comp_map (mi := M.pure (xs.map f)) g rfl ha h
/-- a slot that owns nothing -/
def jk : Option Val → Slot
  | none => .no
  | some x => .v x
@[simp] theorem jk_none : jk none = .no := (rfl)
@[simp] theorem jk_some {x : Val} : jk (some x) = .v x := (rfl)
@[simp] theorem noAcc_jk {o : Option Val} : (match some (jk o) with
  | some (.acc _) => false
  | _ => true) = true := by cases o <;> rfl
/-! ### calls, own lists -/
section
variable {s : Sg} {i : Nat} {xs : List Val} {x : Val}
theorem c_call {sem : SemF} (h : ∀ Omq, sem xs Omq = .ok x Omq) : callM sem xs s = .ok x s := by
  unfold callM; rw [h]
theorem c_callX {sem : SemF} {e : Exc} (h : ∀ Omq, sem xs Omq = .exc e Omq) : callM sem xs s = .exc e s := by
  unfold callM; rw [h]
@[simp ↓] theorem u_isLs : isL (.s i) s = (match s.rhq[i]? with
    | some (.acc (.lst _)) => .ok () s
    | some (.v (.d (.lst _))) => .ok () s
    | _ => .stuck) := by
  unfold isL obsL
  simp only
  split <;> rename_i h <;> split at h <;> simp_all
@[simp ↓] theorem u_isLr : isL (.r i) s = (match s.Omq[i]? with
    | some (some (.lst _)) => .ok () s
    | _ => .stuck) := by
  unfold isL obsL
  simp only
  split <;> rename_i h <;> split at h <;> simp_all
@[simp ↓] theorem u_app : appM (.s i) [x] s = (match s.rhq[i]? with
    | some (.acc (.lst ys)) => (match (if ys.length < cap then some (ys ++ [x], Val.d .non) else none) with
      | some (zs, z) => .ok z { s with rhq := s.rhq.set i (.acc (.lst zs)) }
      | none => .stuck)
    | _ => .stuck) := (rfl)
@[simp ↓] theorem u_appr : appM (.r i) [x] s = (match s.Omq[i]? with
    | some (some (.lst ys)) => (match (if ys.length < cap then some (ys ++ [x], Val.d .non) else none) with
      | some (zs, z) => .ok z { s with Omq := s.Omq.set i (some (.lst zs)) }
      | none => .stuck)
    | _ => .stuck) := (rfl)
end
/-- a loop that folds, with an invariant of the folded -/
theorem loop_F {α β : Type} {f : α → Val} {body : Val → M Fl} (St : β → Sg) (g : β → α → β) (P : β → Prop) : ∀ (xs : List α) (b : β), (∀ x ∈ xs, ∀ b, P b → body (f x) (St b) = .ok .nx (St (g b x)) ∧ P (g b x)) → P b →
    loopS body (xs.map f) (St b) = .ok .nx (St (xs.foldl g b)) ∧ P (xs.foldl g b)
  | [], b, _, p => ⟨rfl, p⟩
  | x :: xs, b, h, p => by
    obtain ⟨e, q⟩ := h x List.mem_cons_self b p
    obtain ⟨e2, q2⟩ := loop_F St g P xs (g b x) (fun y hy => h y (List.mem_cons_of_mem _ hy)) q
    refine ⟨?_, q2⟩
    show (body (f x) (St b)).bind _ = _
    rw [e]
    exact e2
/-- a loop that folds; junk beside the folded -/
theorem loop_J {α β J : Type} {f : α → Val} {body : Val → M Fl} (St : β → J → Sg) (g : β → α → β) (P : β → Prop) : ∀ (xs : List α) (b : β) (j : J), (∀ x ∈ xs, ∀ b j, P b → (∃ j', body (f x) (St b j) = .ok .nx (St (g b x) j')) ∧ P (g b x)) → P b →
    (∃ j', loopS body (xs.map f) (St b j) = .ok .nx (St (xs.foldl g b) j')) ∧ P (xs.foldl g b)
  | [], b, j, _, p => ⟨⟨j, rfl⟩, p⟩
  | x :: xs, b, j, h, p => by
    obtain ⟨⟨j', e⟩, q⟩ := h x List.mem_cons_self b j p
    obtain ⟨⟨j2, e2⟩, q2⟩ := loop_J St g P xs (g b x) j' (fun y hy => h y (List.mem_cons_of_mem _ hy)) q
    refine ⟨⟨j2, ?_⟩, q2⟩
    show (body (f x) (St b j)).bind _ = _
    rw [e]
    exact e2
/-- the same with an early end -/
theorem loop_EK {α β γ J J' : Type} {f : α → Val} {body : Val → M Fl} (St : β → J → Sg) (step : β → α → Sum β γ) (fin : γ → J' → Out Fl) (hf : ∀ o j, Ender (fin o j)) (P : Nat → β → Prop) : ∀ (xs : List α) (n : Nat) (b : β) (j : J),
    (∀ i x, xs[i]? = some x → ∀ b j, P (n + i) b → match step b x with
      | .inl b' => (∃ j', body (f x) (St b j) = .ok .nx (St b' j')) ∧ P (n + i + 1) b'
      | .inr o => ∃ j', body (f x) (St b j) = fin o j') → P n b → match foldE step b xs with
      | .inl b' => (∃ j', loopS body (xs.map f) (St b j) = .ok .nx (St b' j')) ∧ P (n + xs.length) b'
      | .inr o => ∃ j', loopS body (xs.map f) (St b j) = fin o j'
  | [], n, b, j, _, p => ⟨⟨j, rfl⟩, p⟩
  | x :: xs, n, b, j, h, p => by
    have h1 := h 0 x rfl b j p
    unfold foldE
    cases e : step b x with
    | inl b' =>
      rw [e] at h1
      obtain ⟨⟨j', e1⟩, q⟩ := h1
      have ih := loop_EK St step fin hf P xs (n + 1) b' j' (fun i y hy b j hp => by
        have e3 : n + 1 + i = n + (i + 1) := by omega
        rw [e3] at hp ⊢
        exact h (i + 1) y (by simpa using hy) b j hp) q
      have e2 : loopS body ((x :: xs).map f) (St b j) = loopS body (xs.map f) (St b' j') := by
        show (body (f x) (St b j)).bind _ = _
        rw [e1]
      have e4 : n + (x :: xs).length = n + 1 + xs.length := by simp; omega
      rw [e2, e4]
      exact ih
    | inr o =>
      rw [e] at h1
      obtain ⟨j', e1⟩ := h1
      refine ⟨j', ?_⟩
      have := hf o j'
      show (body (f x) (St b j)).bind _ = _
      rw [e1]
      cases e : fin o j' with
      | ok fl s => cases fl with
        | rt v => rfl
        | _ => rw [e] at this; exact this.elim
      | exc _ _ => rfl
      | stuck => rfl
theorem loop_EJ {α β γ J : Type} {f : α → Val} {body : Val → M Fl} (St : β → J → Sg) (step : β → α → Sum β γ) (fin : γ → J → Out Fl) (hf : ∀ o j, Ender (fin o j)) (P : Nat → β → Prop) (xs : List α) (n : Nat) (b : β) (j : J)
    (h : ∀ i x, xs[i]? = some x → ∀ b j, P (n + i) b → match step b x with
      | .inl b' => (∃ j', body (f x) (St b j) = .ok .nx (St b' j')) ∧ P (n + i + 1) b'
      | .inr o => ∃ j', body (f x) (St b j) = fin o j') (p : P n b) : match foldE step b xs with
      | .inl b' => (∃ j', loopS body (xs.map f) (St b j) = .ok .nx (St b' j')) ∧ P (n + xs.length) b'
      | .inr o => ∃ j', loopS body (xs.map f) (St b j) = fin o j' := loop_EK St step fin hf P xs n b j h p
theorem while_go {k : Nat} {c : M Bool} {body : M Fl} {s s1 s2 : Sg} (h1 : c s = .ok true s1) (h2 : body s1 = .ok .nx s2) : whileS (k + 1) c body s = whileS k c body s2 := by
  rw [whileS]
  show (c s).bind _ = _
  rw [h1]
  show (body s1).bind _ = _
  rw [h2]
theorem while_end {k : Nat} {c : M Bool} {body : M Fl} {s s1 : Sg} (h1 : c s = .ok false s1) : whileS (k + 1) c body s = .ok .nx s1 := by
  rw [whileS]
  show (c s).bind _ = _
  rw [h1]
  rfl
end G
set_option maxRecDepth 100000
/-! More rules: xs.index(y), a def that is never reached. -/
namespace G
open PySem PySem.Spec L2
section
variable {X : Cx} {B : Base0} {a e : Expr} {ma : M Val} {mr : M (List Val)} {apos pos : Pos} {k : Nat}
/-- the first place of an equal one -/
def idxF (eq : D → Bool) (ds : List D) : M Val := fun s => match ds.findIdx? eq with
  | some j => .ok (.d (.int (j : Nat))) s
  | none => .stuck
def idxM (x : Val) (xs : List Val) : M Val := fun s => match xs with
  | [.d y] => (match obsL s x with
    | some zs => (match allD zs with
      | some ds => if flatD y && ds.all flatD then idxF (fun z => eqF z y) ds s
        else if y.plain 60 && plainL 59 ds then idxF (fun z => eqD z y) ds s else .stuck
      | none => .stuck)
    | none => .stuck)
  | _ => .stuck
theorem pyL_get : ∀ {ds : List D} {j : Nat} {x : PyData}, (pyL ds)[j]? = some x → ∃ d, ds[j]? = some d ∧ d.py = x
  | [], _, _, h => by simp [pyL] at h
  | d :: ds, 0, x, h => ⟨d, rfl, by simpa [pyL] using h⟩
  | d :: ds, j + 1, x, h => by
    have : (pyL ds)[j]? = some x := by simpa [pyL] using h
    obtain ⟨e, h1, h2⟩ := pyL_get this
    exact ⟨e, by simpa using h1, h2⟩
theorem pyL_at : ∀ {ds : List D} {j : Nat} {d : D}, ds[j]? = some d → (pyL ds)[j]? = some d.py
  | [], _, _, h => by simp at h
  | d :: ds, 0, x, h => by simp at h; simp [pyL, h]
  | d :: ds, j + 1, x, h => by
    have : ds[j]? = some x := by simpa using h
    simpa [pyL] using pyL_at this
theorem idx_some {eq : D → Bool} {ds : List D} {j : Nat} (h : ds.findIdx? eq = some j) : (∃ z, ds[j]? = some z ∧ eq z = true) ∧ ∀ m z, m < j → ds[m]? = some z → eq z = false := by
  rw [List.findIdx?_eq_some_iff_getElem] at h
  obtain ⟨hl, h1, h2⟩ := h
  refine ⟨⟨ds[j], by simp [hl], h1⟩, fun m z hm hz => ?_⟩
  obtain ⟨hl2, e⟩ := List.getElem?_eq_some_iff.mp hz
  rw [← e]
  simpa using h2 m hm
theorem cv_idx (hu : X.A.units + 65 < cLine) : CovM X.K B (fun x xs H Q => rIndex X.K x xs H Q ∨ rIndexD X.K x xs H Q) idxM := fun sgq w s x xs v vs Q I r rs h => by
  unfold idxM at h
  split at h
  · next y =>
    cases rs with
    | cons ry rz =>
      cases rz
      rename_i u
      split at h
      · next zs eo =>
        split at h
        · next ds ed =>
          obtain ⟨p, us, rfl, hrd, rzs⟩ := obsL_ok I r eo
          have := allD_eq ed
          subst this
          have rds := rlVs_d rzs
          split at h
          · next hf =>
            obtain ⟨f1, f2⟩ : flatD y = true ∧ ds.all flatD = true := by simpa using hf
            unfold idxF at h
            split at h
            · next j ej =>
              obtain ⟨⟨z, hz, hq⟩, hno⟩ := idx_some ej
              obtain ⟨u', hu', rz'⟩ := rds.get hz
              have hall := (inF_ok ry f1 rds f2).1
              refine .inl ⟨p, us, u, j, u', rfl, rfl, .inl hrd, flatD_ok ry f1, hall, hu', ?_, fun m z' hm hz' => ?_, fin0 I h (Rl.int _)⟩
              · rw [eqF_ok rz' ry (by rw [List.all_eq_true] at f2; exact f2 z (List.mem_of_getElem? hz)) f1]; exact hq
              · have hl : m < ds.length := by rw [rds.length]; exact (List.getElem?_eq_some_iff.mp hz').1
                have hd : ds[m]? = some ds[m] := by simp [hl]
                obtain ⟨u2, hu2, rz2⟩ := rds.get hd
                rw [hz'] at hu2; cases hu2
                rw [eqF_ok rz2 ry (by rw [List.all_eq_true] at f2; exact f2 _ (List.getElem_mem hl)) f1]
                exact hno m _ hm hd
            · exact h.elim
          · split at h
            · next hp =>
              obtain ⟨p1, p2⟩ : y.plain 60 = true ∧ plainL 59 ds = true := by simpa using hp
              unfold idxF at h
              split at h
              · next j ej =>
                obtain ⟨⟨z, hz, hq⟩, hno⟩ := idx_some ej
                have sl : (D.lst ds).plain 60 = true := p2
                refine .inr ⟨p, u, y.py, pyL ds, j, z.py, rfl, rfl, Dp.lst (.inl hrd) (Rls.dp I.sim rds p2), Rl.dp I.sim ry p1, plain_shaped sl (by omega), plain_shaped p1 (by omega), pyL_at hz, hq, fun m z' hm hz' => ?_, fin0 I h (Rl.int _)⟩
                obtain ⟨d, hd, rfl⟩ := pyL_get hz'
                exact hno m d hm hd
              · exact h.elim
            · exact h.elim
        · exact h.elim
      · exact h.elim
  · exact h.elim
theorem mt_or {id : String} {r r' : V → List V → Hp → VK → Prop} (h : MtR X id r) (h' : MtR X id r') : MtR X id (fun x xs H Q => r x xs H Q ∨ r' x xs H Q) := fun pins s sgq H x xs v us Q I rx rs q => q.elim (h pins s sgq H x xs v us Q I rx rs) (h' pins s sgq H x xs v us Q I rx rs)
theorem fe_index (rm : Room k X.A) (ho : FE X B a ma) (ha : FAp X B [e] mr) (hbase : attributeBase a "index" X.env (eval a X.env) = eval a X.env := by rfl)
    (hfew : ((backTo pos (starEach [e] X.env)).all (fun x => !x.1) && (backToKw pos (keywordEach [] X.env)).all (fun x => x.1.isSome) && decide ([e].length + ([] : List Keyword).length + (if ([] : List Keyword).isEmpty then 0 else 1) < 30)) = true := by rfl)
    (hline : (apos.endLine == pos.line) = true := by rfl) (he : starEach [e] X.env = (false, eval e X.env) :: starEach [] X.env := by rfl) (hpl : (backTo pos (starEach [] X.env)).any (·.1) = false := by rfl) :
    FE X B (.Call (.Attribute a "index" apos) [e] [] pos) (metE ma mr idxM) := fe_met PySem.F.slot_list_index PySem.F.type_list_index (mt_or mt_index (mt_indexD (by have := rm.un; omega))) (cv_idx (by have := rm.un; omega)) ho ha hbase hfew hline he hpl
/-- a body that is never reached -/
theorem fss_stuck {sts : List Stmt} : FSs X B sts stuck := ⟨fun pins s sgq H D I h => by
  obtain ⟨w, s', _, _, h⟩ := h
  exact h.elim⟩
end
/-! ### more running rules -/
section
variable {s : Sg} {i : Nat} {j : Int} {neg : Bool}
@[simp ↓] theorem v_ixs : ixV (.s i) (.d (.int j)) s = (match obsL s (.s i) with
    | some xs => (match L2.atI xs j with
      | some z => .ok z s
      | none => .stuck)
    | none => .stuck) := (rfl)
@[simp ↓] theorem v_lens : lenF [.s i] s = (match obsL s (.s i) with
    | some ys => .ok (.d (.int ys.length)) s
    | none => .stuck) := (rfl)
@[simp ↓] theorem v_lists : listF [.s i] s = (match obsL s (.s i) with
    | some ys => (match allD ys with
      | some ds => .ok (.d (.lst ds)) s
      | none => .stuck)
    | none => .stuck) := (rfl)
@[simp ↓] theorem v_tuples : tupleF [.s i] s = (match obsL s (.s i) with
    | some ys => (match allD ys with
      | some ds => .ok (.d (.tup ds)) s
      | none => .stuck)
    | none => .stuck) := (rfl)
@[simp] theorem v_obss : obsL s (.s i) = (match s.rhq[i]? with
    | some (.acc (.lst xs)) => some xs
    | some (.v (.d (.lst xs))) => some (xs.map Val.d)
    | _ => none) := (rfl)
theorem v_eqself {d : D} (h : d.plain 60 = true) : eqvV neg (.d d) (.d d) s = .ok (.d (.bl (neg != true))) s := by
  have e : eqD d d = true := PySem.SeqAt.eqv_refl _ (plain_lay 60 d h).1
  show (match eqS d d with
    | some r => Out.ok (Val.d (.bl (neg != r))) s
    | none => if d.plain 60 && d.plain 60 then .ok (.d (.bl (neg != eqD d d))) s else .stuck) = _
  cases d <;> simp [eqS, h, e]
end
/-- a comprehension whose items have effects upon the cells -/
theorem comp_eff {j : Nat} {me : M Val} {items : List Val} {rhq : List Slot} {Omq : List (Option Cell)} (I : List D → List (Option Cell) → Prop) (ha : noAcc rhq [j] = true)
    (h : ∀ (x : Val) (ds : List D) (Omq : List (Option Cell)), x ∈ items → I ds Omq → ∃ d Omq', me ⟨rhq.set j (.v x), Omq⟩ = .ok (.d d) ⟨rhq.set j (.v x), Omq'⟩ ∧ I (ds ++ [d]) Omq') (h0 : I [] Omq) :
    ∃ (ds : List D) (Omq' : List (Option Cell)), compZ j (M.pure true) me items ⟨rhq, Omq⟩ = .ok (.d (.lst ds)) ⟨rhq, Omq'⟩ ∧ ds.length = items.length ∧ I ds Omq' := by
  have key : ∀ (ys : List Val) (z : Slot) (ds0 : List D) (Omq : List (Option Cell)), (∀ y ∈ ys, y ∈ items) → I ds0 Omq → ∃ (z' : Slot) (ds : List D) (Omq' : List (Option Cell)), compL [j] (.nm j) (M.pure true) me ys ⟨rhq.set j z, Omq⟩ = .ok ds ⟨rhq.set j z', Omq'⟩ ∧ ds.length = ys.length ∧ I (ds0 ++ ds) Omq' := by
    intro ys
    induction ys with
    | nil => intro z ds0 Omq _ hi; exact ⟨z, [], Omq, rfl, rfl, by simpa using hi⟩
    | cons y ys ih =>
      intro z ds0 Omq hy hi
      obtain ⟨d, Omq1, e, hi1⟩ := h y ds0 Omq (hy y List.mem_cons_self) hi
      obtain ⟨z', ds, Omq2, e2, hl, hi2⟩ := ih (.v y) (ds0 ++ [d]) Omq1 (fun w hw => hy w (List.mem_cons_of_mem _ hw)) hi1
      refine ⟨z', d :: ds, Omq2, ?_, by simp [hl], by simpa using hi2⟩
      have e1 : compL [j] (.nm j) (M.pure true) me (y :: ys) ⟨rhq.set j z, Omq⟩ = ((me ⟨rhq.set j (.v y), Omq⟩).bind fz).bind fun y => (valD y).bind fun d => (compL [j] (.nm j) (M.pure true) me ys).bind fun ds => M.pure (d :: ds) := by
        show ((me ⟨(((rhq.set j z).set j .no).set j (.v y)), Omq⟩).bind fz).bind _ = _
        rw [List.set_set, List.set_set]
      rw [e1, e]
      show (compL _ _ _ _ _ _).bind _ = _
      rw [e2]
  obtain ⟨z', ds, Omq', e, hl, hi⟩ := key items (rhq.getD j .no) [] Omq (fun _ h => h) h0
  rw [set_getD] at e
  refine ⟨ds, Omq', ?_, hl, by simpa using hi⟩
  show (if noAcc rhq [j] = true then _ else _) = _
  rw [if_pos ha, e]
  show Out.ok (Val.d (.lst _)) ⟨((rhq.set j z').set j .no).set j (rhq.getD j .no), Omq'⟩ = _
  rw [List.set_set, List.set_set, set_getD]
/-- a loop whose state is told by the turn's number -/
theorem loop_I {α J : Type} {f : α → Val} {body : Val → M Fl} (St : Nat → J → Sg) : ∀ (xs : List α) (n : Nat) (j : J), (∀ i x, xs[i]? = some x → ∀ j, ∃ j', body (f x) (St (n + i) j) = .ok .nx (St (n + i + 1) j')) →
    ∃ j', loopS body (xs.map f) (St n j) = .ok .nx (St (n + xs.length) j')
  | [], n, j, _ => ⟨j, rfl⟩
  | x :: xs, n, j, h => by
    obtain ⟨j1, e⟩ := h 0 x rfl j
    obtain ⟨j2, e2⟩ := loop_I St xs (n + 1) j1 fun i y hy j => by
      have e3 : n + 1 + i = n + (i + 1) := by omega
      rw [e3]
      exact h (i + 1) y (by simpa using hy) j
    refine ⟨j2, ?_⟩
    have e4 : n + (x :: xs).length = n + 1 + xs.length := by simp; omega
    rw [e4]
    show (body (f x) (St n j)).bind _ = _
    have e : body (f x) (St n j) = .ok .nx (St (n + 1) j1) := e
    rw [e]
    exact e2
theorem loop_rng {J : Type} {body : Val → M Fl} (St : Nat → J → Sg) (n : Nat) (j : J) (h : ∀ i, i < n → ∀ j, ∃ j', body (.d (.int (i : Int))) (St i j) = .ok .nx (St (i + 1) j')) :
    ∃ j', loopS body ((List.range n).map fun (i : Nat) => Val.d (.int (i : Int))) (St 0 j) = .ok .nx (St n j') := by
  obtain ⟨j', e⟩ := loop_I (f := fun i : Nat => Val.d (.int (i : Int))) (body := body) St (List.range n) 0 j fun i x hx j => by
    obtain ⟨hl, hx⟩ := List.getElem?_eq_some_iff.mp hx
    rw [List.getElem_range] at hx
    subst hx
    rw [Nat.zero_add]
    exact h i (by simpa using hl) j
  exact ⟨j', by simpa using e⟩
end G
set_option maxRecDepth 100000
namespace G
open PySem PySem.Spec L2
/-- a run that ends without an error -/
def Wp {α : Type} (o : Out α) (Q : α → Sg → Prop) : Prop := match o with
  | .ok a s => Q a s
  | _ => False
section
variable {α β : Type} {o : Out α} {k : α → Sg → Out β} {Q : α → Sg → Prop} {P : β → Sg → Prop} {a : α} {s : Sg}
@[simp] theorem wp_ok : Wp (.ok a s) Q ↔ Q a s := Iff.rfl
theorem wp_bnd (h : Wp o fun a s => Wp (k a s) P) : Wp (bnd o k) P := by
  cases o with
  | ok a s => exact h
  | exc _ _ => exact h.elim
  | stuck => exact h.elim
theorem Wp.mono {R : α → Sg → Prop} (h : Wp o Q) (f : ∀ a s, Q a s → R a s) : Wp o R := by
  cases o with
  | ok a s => exact f a s h
  | exc _ _ => exact h.elim
  | stuck => exact h.elim
theorem Wp.run (h : Wp o Q) : ∃ a s, o = .ok a s ∧ Q a s := by
  cases o with
  | ok a s => exact ⟨a, s, rfl, h⟩
  | exc _ _ => exact h.elim
  | stuck => exact h.elim
/-- a statement, then the rest -/
theorem wp_seq {f1 f2 : M Fl} {Q : Fl → Sg → Prop} (h : Wp (f1 s) fun f s => f = .nx ∧ Wp (f2 s) Q) : Wp (seqS f1 f2 s) Q := by
  rw [u_seqS]
  refine wp_bnd (h.mono fun a s q => ?_)
  rw [q.1]; exact q.2
theorem wp_seqE {f1 f2 : M Fl} {s1 : Sg} {Q : Fl → Sg → Prop} (e : f1 s = .ok .nx s1) (h : Wp (f2 s1) Q) : Wp (seqS f1 f2 s) Q := by
  refine wp_seq ?_
  rw [e]; exact ⟨rfl, h⟩
theorem wp_def {n : Nat} {m : M Fl} {xs : List Val} {Omq : List (Option Cell)} {Q : Val → List (Option Cell) → Prop} (h : Wp (m ⟨slots n xs, Omq⟩) fun f s => ∃ x, f = .rt x ∧ Q x s.Omq) : ∃ x Omq', runF n m xs Omq = .ok x Omq' ∧ Q x Omq' := by
  obtain ⟨f, s, e, x, rfl, q⟩ := h.run
  exact ⟨x, s.Omq, by unfold runF; rw [e], q⟩
theorem wp_call {sem : SemF} {xs : List Val} {rhq : List Slot} {Omq : List (Option Cell)} {K : Val → Sg → Out β} (q : Val → List (Option Cell) → Prop) (h : ∃ x Omq', sem xs Omq = .ok x Omq' ∧ q x Omq') (f : ∀ x Omq', q x Omq' → Wp (K x ⟨rhq, Omq'⟩) P) : Wp (bnd (callM sem xs ⟨rhq, Omq⟩) K) P := by
  obtain ⟨x, Omq', e, hq⟩ := h
  rw [u_callM e]
  exact f x Omq' hq
end
/-- Omq' is Omq but at k -/
structure Same (k : Nat) (Omq Omq' : List (Option Cell)) : Prop where
  len : Omq'.length = Omq.length
  at_ : ∀ j, j ≠ k → Omq'[j]? = Omq[j]?
theorem Same.refl (k : Nat) (Omq : List (Option Cell)) : Same k Omq Omq := ⟨rfl, fun _ _ => rfl⟩
theorem Same.trans {k : Nat} {a b c : List (Option Cell)} (x : Same k a b) (y : Same k b c) : Same k a c := ⟨y.len.trans x.len, fun j h => (y.at_ j h).trans (x.at_ j h)⟩
theorem Same.set (k : Nat) (Omq : List (Option Cell)) (c : Option Cell) : Same k Omq (Omq.set k c) := ⟨by simp, fun j h => List.getElem?_set_ne (Ne.symm h)⟩
theorem Same.of {k : Nat} {Omq Omq' : List (Option Cell)} (h : Same k Omq Omq') {c : Option Cell} (hk : Omq'[k]? = some c) : Omq' = Omq.set k c := by
  have hl : k < Omq.length := by rw [← h.len]; exact (List.getElem?_eq_some_iff.mp hk).1
  apply List.ext_getElem?
  intro j
  by_cases hj : j = k
  · subst hj; rw [hk]; simp [hl]
  · rw [h.at_ j hj, List.getElem?_set_ne (Ne.symm hj)]
/-- all cells hold data alone -/
def Pl (Omq : List (Option Cell)) : Prop := ∀ n, belowOmq n Omq = true
theorem Pl.nil : Pl [] := fun _ => rfl
theorem Pl.app {Omq : List (Option Cell)} {c : Cell} (h : Pl Omq) (hc : ∀ n, c.below n = true) : Pl (Omq ++ [some c]) := fun n => by
  unfold belowOmq
  rw [List.all_append]
  have := h n
  unfold belowOmq at this
  rw [this]
  simp [hc n]
theorem Pl.set {Omq : List (Option Cell)} {c : Cell} {k : Nat} (h : Pl Omq) (hc : ∀ n, c.below n = true) : Pl (Omq.set k (some c)) := fun n => by
  have := h n
  unfold belowOmq at this ⊢
  rw [List.all_eq_true] at this ⊢
  intro o ho
  rcases List.mem_or_eq_of_mem_set ho with q | q
  · exact this o q
  · subst q; exact hc n
end G
namespace S
open PySem PySem.Spec L2 G
/-- the draws at k, all cells data -/
structure DX (k : Nat) (Omq : List (Option Cell)) : Prop where
  dr : Dr Omq k
  pl : Pl Omq
theorem below_lst (ds : List D) (n : Nat) : (Cell.lst (ds.map Val.d)).below n = true := by
  simp [Cell.below, Val.below]
theorem DX.of {k : Nat} {Omq : List (Option Cell)} {c : Cell} (h : DX k Omq) (d : Dr (Omq.set k (some c)) k) : DX k (Omq.set k (some c)) := by
  refine ⟨d, h.pl.set fun n => ?_⟩
  obtain ⟨zs, i, a, b, e, _⟩ := d
  obtain ⟨_, _, _, _, e0, _⟩ := h.dr
  have hl : k < Omq.length := (List.getElem?_eq_some_iff.mp e0).1
  have : c = drC zs i a b := by simpa [hl] using e
  rw [this]
  rfl
theorem DX.lt {k : Nat} {Omq : List (Option Cell)} (h : DX k Omq) : k < Omq.length := by
  obtain ⟨_, _, _, _, e0, _⟩ := h.dr
  exact (List.getElem?_eq_some_iff.mp e0).1
theorem DX.app {k : Nat} {Omq : List (Option Cell)} {c : Cell} (h : DX k Omq) (hc : ∀ n, c.below n = true) : DX k (Omq ++ [some c]) := by
  refine ⟨?_, h.pl.app hc⟩
  obtain ⟨zs, i, a, b, e, r⟩ := h.dr
  exact ⟨zs, i, a, b, by rw [List.getElem?_append_left h.lt]; exact e, r⟩
theorem draw_x {k : Nat} {Omq : List (Option Cell)} {m : Int} (h : DX k Omq) (hm : 0 < m) (hm2 : m < 1073741824) : ∃ x Omq', s_law_draw [.r k, .d (.int m)] Omq = .ok x Omq' ∧ ∃ v : Int, x = .d (.int v) ∧ 0 ≤ v ∧ v < m ∧ DX k Omq' ∧ Same k Omq Omq' := by
  obtain ⟨v, c, e, h0, h1, d⟩ := draw_ok h.dr hm hm2
  exact ⟨_, _, e, v, rfl, h0, h1, h.of d, Same.set _ _ _⟩
theorem some_x {k : Nat} {Omq : List (Option Cell)} {C : List Str} {least : Int} (h : DX k Omq) (nd : C.Nodup) (h0 : 0 ≤ least) (h1 : least ≤ C.length) (h2 : C.length < 400) :
    ∃ x Omq', s_law_some [.r k, .d (.lst (C.map D.str)), .d (.int least)] Omq = .ok x Omq' ∧ ∃ S : List Str, x = .d (.lst (S.map D.str)) ∧ S.Nodup ∧ S ⊆ C ∧ least ≤ S.length ∧ DX k Omq' ∧ Same k Omq Omq' := by
  obtain ⟨S, c, e, d, a1, a2, a3⟩ := some_str h.dr nd h0 h1 h2
  exact ⟨_, _, e, S, rfl, a1, a2, a3, h.of d, Same.set _ _ _⟩
theorem names_x {k : Nat} {Omq : List (Option Cell)} {ds : List D} {many : Int} (h : DX k Omq) (h0 : 0 ≤ many) (h1 : 0 < ds.length) (h2 : ds.length < 400) :
    ∃ x Omq', s_law_names [.r k, .d (.lst ds), .d (.int many)] Omq = .ok x Omq' ∧ ∃ t : Nat, t < ds.length ∧ x = .d (.lst ((ds.drop t ++ ds.take t).take many.toNat)) ∧ DX k Omq' ∧ Same k Omq Omq' := by
  obtain ⟨t, c, ht, e, d⟩ := names_ok h.dr h0 h1 h2
  exact ⟨_, _, e, t, ht, rfl, h.of d, Same.set _ _ _⟩
section
variable {β : Type} {k : Nat} {Omq : List (Option Cell)} {rhq : List Slot} {K : Val → Sg → Out β} {P : β → Sg → Prop}
theorem wp_draw {m : Int} (h : DX k Omq) (hm : 0 < m) (hm2 : m < 1073741824) (f : ∀ (v : Int) Omq', 0 ≤ v → v < m → DX k Omq' → Same k Omq Omq' → Wp (K (.d (.int v)) ⟨rhq, Omq'⟩) P) : Wp (bnd (callM s_law_draw [.r k, .d (.int m)] ⟨rhq, Omq⟩) K) P :=
  wp_call _ (draw_x h hm hm2) fun x Omq' q => by
    obtain ⟨v, rfl, h0, h1, d, e⟩ := q
    exact f v Omq' h0 h1 d e
theorem wp_some {C : List Str} {least : Int} (h : DX k Omq) (nd : C.Nodup) (h0 : 0 ≤ least) (h1 : least ≤ C.length) (h2 : C.length < 400) (f : ∀ (S : List Str) Omq', S.Nodup → S ⊆ C → least ≤ S.length → DX k Omq' → Same k Omq Omq' → Wp (K (.d (.lst (S.map D.str))) ⟨rhq, Omq'⟩) P) : Wp (bnd (callM s_law_some [.r k, .d (.lst (C.map D.str)), .d (.int least)] ⟨rhq, Omq⟩) K) P :=
  wp_call _ (some_x h nd h0 h1 h2) fun x Omq' q => by
    obtain ⟨v, rfl, a1, a2, a3, d, e⟩ := q
    exact f v Omq' a1 a2 a3 d e
theorem wp_names {ds : List D} {many : Int} (h : DX k Omq) (h0 : 0 ≤ many) (h1 : 0 < ds.length) (h2 : ds.length < 400) (f : ∀ (t : Nat) Omq', t < ds.length → DX k Omq' → Same k Omq Omq' → Wp (K (.d (.lst ((ds.drop t ++ ds.take t).take many.toNat))) ⟨rhq, Omq'⟩) P) : Wp (bnd (callM s_law_names [.r k, .d (.lst ds), .d (.int many)] ⟨rhq, Omq⟩) K) P :=
  wp_call _ (names_x h h0 h1 h2) fun x Omq' q => by
    obtain ⟨t, ht, rfl, d, e⟩ := q
    exact f t Omq' ht d e
end
end S
set_option maxRecDepth 100000
namespace S
open PySem PySem.Spec L2 G
abbrev lS (xs : List Str) : D := .lst (xs.map D.str)
abbrev tS (xs : List Str) : D := .tup (xs.map D.str)
structure Tab where
  nm : Str
  C : List Str
  Mu : List Str
  U : List (List Str)
  R : List (List Str × Str)
def dRule (r : List Str × Str) : D := .tup [tS r.1, .str r.2]
def dTab (t : Tab) : D := .ins "Table" [("name", .str t.nm), ("columns", tS t.C), ("required", tS t.Mu), ("unique", .tup (t.U.map tS)), ("rules", .tup (t.R.map dRule))]
section
variable {s : Sg} {t : Tab}
@[simp ↓] theorem f_name : fldV "Table" "name" (.d (dTab t)) s = .ok (.d (.str t.nm)) s := v_fld rfl
@[simp ↓] theorem f_columns : fldV "Table" "columns" (.d (dTab t)) s = .ok (.d (tS t.C)) s := v_fld rfl
@[simp ↓] theorem f_required : fldV "Table" "required" (.d (dTab t)) s = .ok (.d (tS t.Mu)) s := v_fld rfl
@[simp ↓] theorem f_unique : fldV "Table" "unique" (.d (dTab t)) s = .ok (.d (.tup (t.U.map tS))) s := v_fld rfl
@[simp ↓] theorem f_rules : fldV "Table" "rules" (.d (dTab t)) s = .ok (.d (.tup (t.R.map dRule))) s := v_fld rfl
end
/-- what a step makes known -/
def gained (t : Tab) (known present : List Str) (st : Str × Int) : Option (List Str) :=
  if st.1 = "rule" ∧ 0 ≤ st.2 ∧ st.2 < t.R.length then
    (t.R[st.2.toNat]?).bind fun r => if r.1.all (· ∈ known) then some [r.2] else none
  else if st.1 = "key" ∧ 0 ≤ st.2 ∧ st.2 < t.U.length then
    (t.U[st.2.toNat]?).bind fun k => if k.all (fun c => decide (c ∈ known) && (decide (c ∈ t.Mu) || decide (c ∈ present))) then some t.C else none
  else none
def dO (o : Option (List Str)) : D := match o with
  | some l => lS l
  | none => .non
def dStep (st : Str × Int) : D := .tup [.str st.1, .int st.2]
theorem gained_ok {Omq : List (Option Cell)} (t : Tab) (known present : List Str) {P : D} (hP : P = lS present ∨ P = tS present) (st : Str × Int) : s_Table_gained [.d (dTab t), .d (dStep st), .d (lS known), .d P] Omq = .ok (.d (dO (gained t known present st))) Omq := by
  obtain ⟨w, n⟩ := st
  unfold s_Table_gained m_Table_gained
  rw [u_run]
  by_cases h0 : 0 ≤ n
  · obtain ⟨k, rfl⟩ := Int.eq_ofNat_of_zero_le h0
    by_cases w1 : w = "rule"
    · subst w1
      by_cases hk : k < t.R.length
      · simp [slots, n_Table_gained, dStep, hk, gained, G.atI_nat, dRule]
        split <;> rfl
      · simp [slots, n_Table_gained, dStep, hk, gained, G.atI_nat, dRule, dO]
    · by_cases w2 : w = "key"
      · subst w2
        by_cases hk : k < t.U.length
        · rcases hP with rfl | rfl
          · simp [slots, n_Table_gained, dStep, hk, gained, G.atI_nat]
            split <;> rfl
          · simp [slots, n_Table_gained, dStep, hk, gained, G.atI_nat]
            split <;> rfl
        · simp [slots, n_Table_gained, dStep, hk, gained, G.atI_nat, dRule, dO]
      · simp [slots, n_Table_gained, dStep, w1, w2, gained, dO]
  · simp [slots, n_Table_gained, dStep, h0, gained, dO]
/-- all steps, rules first -/
def allSteps (t : Tab) : List (Str × Int) := (List.range t.R.length).map (fun i : Nat => (("rule" : Str), (i : Int))) ++ (List.range t.U.length).map fun i : Nat => (("key" : Str), (i : Int))
theorem steps_ok {Omq : List (Option Cell)} (t : Tab) (h1 : t.R.length ≤ 1000) (h2 : t.U.length ≤ 1000) : s_Table_all_steps [.d (dTab t)] Omq = .ok (.d (.lst ((allSteps t).map dStep))) Omq := by
  unfold s_Table_all_steps m_Table_all_steps
  rw [u_run]
  have a1 : -1000000 ≤ (t.R.length : Int) ∧ (t.R.length : Int) ≤ 1000000 := by omega
  have a2 : -1000000 ≤ (t.U.length : Int) ∧ (t.U.length : Int) ≤ 1000000 := by omega
  have a3 : t.R.length + t.U.length ≤ 1000000 := by omega
  simp [slots, n_Table_all_steps, v_rng1 a1, v_rng1 a2, rng, allSteps, dStep, a3, Function.comp_def]
section
variable {s : Sg} {t : Tab}
@[simp ↓] theorem r_gained : recv "Table" "gained" (.d (dTab t)) s = .ok () s := v_recv rfl
@[simp ↓] theorem r_all_steps : recv "Table" "all_steps" (.d (dTab t)) s = .ok () s := v_recv rfl
@[simp ↓] theorem r_spread : recv "Table" "spread" (.d (dTab t)) s = .ok () s := v_recv rfl
@[simp ↓] theorem r_closure : recv "Table" "closure" (.d (dTab t)) s = .ok () s := v_recv rfl
@[simp ↓] theorem r_derivation : recv "Table" "derivation" (.d (dTab t)) s = .ok () s := v_recv rfl
@[simp ↓] theorem r_derives : recv "Table" "derives" (.d (dTab t)) s = .ok () s := v_recv rfl
end
/-! ### spread -/
def isNew (known : List Str) (o : Option (List Str)) : Bool := match o with
  | some more => more.any fun c => decide (c ∉ known)
  | none => false
structure Sp where
  known : List Str
  steps : List (Str × Int)
  going : Bool
def spStep (t : Tab) (present : List Str) (b : Sp) (x : Str × Int) : Sp := match gained t b.known present x with
  | some more => if more.any (fun c => decide (c ∉ b.known)) then ⟨b.known ++ more, b.steps ++ [x], true⟩ else b
  | none => b
def spR (t : Tab) (cols P : D) (b : Sp) (z w : Slot) : List Slot := [.v (.d (dTab t)), .v (.d cols), .v (.d P), .v (.d (lS b.known)), .acc (.lst (b.steps.map fun x => Val.d (dStep x))), .v (.d (.bl b.going)), z, w, .no]
theorem gained_len {t : Tab} {known present : List Str} {x : Str × Int} {more : List Str} (e : gained t known present x = some more) : more.length ≤ t.C.length + 1 := by
  unfold gained at e
  split at e
  · obtain ⟨r, _, e⟩ := Option.bind_eq_some_iff.mp e
    split at e
    · cases e; simp
    · cases e
  · split at e
    · obtain ⟨r, _, e⟩ := Option.bind_eq_some_iff.mp e
      split at e
      · cases e; simp
      · cases e
    · cases e
theorem spBody_ok {Omq : List (Option Cell)} {t : Tab} {present : List Str} {cols P : D} (hP : P = lS present ∨ P = tS present) {b : Sp} {x : Str × Int} {w : Slot} (h1 : b.known.length < 10000) (h2 : b.steps.length < 10000) (h3 : t.C.length < 1000) :
    l_Table_spread_1 ⟨spR t cols P b (.v (.d (dStep x))) w, Omq⟩ = .ok .nx ⟨spR t cols P (spStep t present b x) (.v (.d (dStep x))) (.v (.d (dO (gained t b.known present x)))), Omq⟩ := by
  have g : ∀ s : Sg, callM s_Table_gained [.d (dTab t), .d (dStep x), .d (lS b.known), .d P] s = .ok (.d (dO (gained t b.known present x))) s := fun s => c_call fun _ => gained_ok t b.known present hP x
  have hs : b.steps.length < 1000000 := by omega
  unfold l_Table_spread_1 spR
  simp [g]
  cases e : gained t b.known present x with
  | none => simp [dO, spStep, e]
  | some more =>
    have hl := gained_len e
    have hl2 : b.known.length + more.length ≤ 1000000 := by omega
    simp [dO, spStep, e, hl2, hs]
    split <;> simp
/-- the columns that are not known yet -/
def miss (t : Tab) (known : List Str) : Nat := (t.C.filter fun c => decide (c ∉ known)).length
structure WF (t : Tab) : Prop where
  rg : ∀ r ∈ t.R, r.2 ∈ t.C
  c1 : t.C.length ≤ 6
  u1 : t.U.length ≤ 20
  r1 : t.R.length ≤ 20
theorem gained_sub {t : Tab} (W : WF t) {known present : List Str} {x : Str × Int} {more : List Str} (e : gained t known present x = some more) : more ⊆ t.C ∧ more.length ≤ t.C.length := by
  unfold gained at e
  split at e
  · obtain ⟨r, hr, e⟩ := Option.bind_eq_some_iff.mp e
    split at e
    · cases e
      have := W.rg r (List.mem_of_getElem? hr)
      exact ⟨by simpa using this, by have := List.length_pos_of_mem this; simp; omega⟩
    · cases e
  · split at e
    · obtain ⟨r, _, e⟩ := Option.bind_eq_some_iff.mp e
      split at e
      · cases e; exact ⟨fun _ h => h, Nat.le_refl _⟩
      · cases e
    · cases e
theorem miss_lt {t : Tab} {known more : List Str} (hs : more ⊆ t.C) (h : more.any (fun c => decide (c ∉ known)) = true) : miss t (known ++ more) < miss t known := by
  obtain ⟨c, hc, hn⟩ := List.any_eq_true.mp h
  have hn : c ∉ known := by simpa using hn
  unfold miss
  have key : ∀ l : List Str, c ∈ l → (l.filter fun c => decide (c ∉ known ++ more)).length < (l.filter fun c => decide (c ∉ known)).length := by
    intro l
    have le : ∀ l : List Str, (l.filter fun c => decide (c ∉ known ++ more)).length ≤ (l.filter fun c => decide (c ∉ known)).length := by
      intro l
      induction l with
      | nil => simp
      | cons y l ih =>
        simp only [List.filter_cons]
        by_cases h1 : y ∈ known <;> by_cases h2 : y ∈ more <;> simp [h1, h2] at ih ⊢ <;> omega
    induction l with
    | nil => intro h; cases h
    | cons y l ih =>
      intro hy
      have l1 := le l
      by_cases hyc : y = c
      · subst hyc
        simp [List.filter_cons, hc, hn] at l1 ⊢
        omega
      · have := ih ((List.mem_cons.mp hy).resolve_left (Ne.symm hyc))
        simp only [List.filter_cons]
        by_cases h1 : y ∈ known <;> by_cases h2 : y ∈ more <;> simp [h1, h2] at this ⊢ <;> omega
  exact key _ (hs hc)
/-- what keeps the lists short -/
structure SpP (t : Tab) (N : Nat) (b : Sp) : Prop where
  k : b.known.length + t.C.length * miss t b.known ≤ N + 400
  s : b.steps.length + miss t b.known ≤ 20
theorem SpP.step {t : Tab} {N : Nat} {present : List Str} (W : WF t) {b : Sp} (p : SpP t N b) (x : Str × Int) : SpP t N (spStep t present b x) := by
  unfold spStep
  split
  · next more e =>
    split
    · next hn =>
      obtain ⟨hs, hl⟩ := gained_sub W e
      have := miss_lt hs hn
      obtain ⟨m, hm⟩ : ∃ m, miss t b.known = m + 1 := ⟨miss t b.known - 1, by omega⟩
      have h1 := p.k
      have h2 := p.s
      have hm2 : miss t (b.known ++ more) ≤ m := by omega
      have hm3 := Nat.mul_le_mul_left t.C.length hm2
      rw [hm, Nat.mul_succ] at h1
      refine ⟨?_, ?_⟩
      · show (b.known ++ more).length + _ ≤ _
        rw [List.length_append]; show _ + t.C.length * miss t (b.known ++ more) ≤ _; omega
      · show (b.steps ++ [x]).length + miss t (b.known ++ more) ≤ _
        rw [List.length_append]; simp only [List.length_singleton]; omega
    · exact p
  · exact p
/-- one round -/
def spRound (t : Tab) (present : List Str) (b : Sp) : Sp := (allSteps t).foldl (spStep t present) { b with going := false }
theorem SpP.round {t : Tab} {N : Nat} {present : List Str} (W : WF t) {b : Sp} (p : SpP t N b) : SpP t N (spRound t present b) := by
  have : ∀ (l : List (Str × Int)) (b : Sp), SpP t N b → SpP t N (l.foldl (spStep t present) b) := by
    intro l
    induction l with
    | nil => intro b p; exact p
    | cons x l ih => intro b p; exact ih _ (p.step W x)
  exact this _ _ ⟨p.k, p.s⟩
theorem spRound_ok {Omq : List (Option Cell)} {t : Tab} (W : WF t) {N : Nat} (hN : N ≤ 1000) {present : List Str} {cols P : D} (hP : P = lS present ∨ P = tS present) {b : Sp} (p : SpP t N b) (j : Slot × Slot) :
    ∃ j' : Slot × Slot, l_Table_spread_2 ⟨spR t cols P b j.1 j.2, Omq⟩ = .ok .nx ⟨spR t cols P (spRound t present b) j'.1 j'.2, Omq⟩ := by
  have g : ∀ s : Sg, callM s_Table_all_steps [.d (dTab t)] s = .ok (.d (.lst ((allSteps t).map dStep))) s := fun s => c_call fun _ => steps_ok t (by have := W.r1; omega) (by have := W.u1; omega)
  have c1 := W.c1
  obtain ⟨⟨j', e⟩, _⟩ := loop_J (f := fun x => Val.d (dStep x)) (body := fun x s => bnd ((Tgt.nm 6).g x s) fun _ s => l_Table_spread_1 s) (fun (y : Sp) (j : Slot × Slot) => ⟨spR t cols P y j.1 j.2, Omq⟩) (spStep t present) (SpP t N) (allSteps t) { b with going := false } j
    (fun x _ y j p => ⟨⟨(.v (.d (dStep x)), .v (.d (dO (gained t y.known present x)))), by
      have h1 := p.k
      have h2 := p.s
      exact spBody_ok (Omq := Omq) (t := t) (cols := cols) hP (b := y) (x := x) (w := j.2) (by omega) (by omega) (by omega)⟩, p.step W x⟩) ⟨p.k, p.s⟩
  refine ⟨j', ?_⟩
  unfold l_Table_spread_2 spRound
  unfold spR at e ⊢
  simp [g, Function.comp_def] at e ⊢
  exact e
/-- rounds until nothing is new; fuel k -/
def spGo (t : Tab) (present : List Str) : Nat → Sp → Sp
  | 0, b => b
  | k + 1, b => if (spRound t present b).going then spGo t present k (spRound t present b) else spRound t present b
theorem fold_going {t : Tab} {present : List Str} : ∀ (l : List (Str × Int)) (b : Sp), (l.foldl (spStep t present) b).going = false → l.foldl (spStep t present) b = b ∧ ∀ x ∈ l, ∀ more, gained t b.known present x = some more → more ⊆ b.known := by
  have up : ∀ (l : List (Str × Int)) (b : Sp), b.going = true → (l.foldl (spStep t present) b).going = true := by
    intro l
    induction l with
    | nil => intro b h; exact h
    | cons x l ih =>
      intro b h
      refine ih _ ?_
      unfold spStep
      split
      · split
        · rfl
        · exact h
      · exact h
  intro l
  induction l with
  | nil => intro b h; exact ⟨rfl, fun _ h => by cases h⟩
  | cons x l ih =>
    intro b h
    rw [List.foldl_cons] at h ⊢
    have hs : spStep t present b x = b ∧ ∀ more, gained t b.known present x = some more → more ⊆ b.known := by
      have hd : (spStep t present b x).going = false := by
        cases q : (spStep t present b x).going with
        | false => rfl
        | true => rw [up l _ q] at h; cases h
      unfold spStep at hd ⊢
      cases e : gained t b.known present x with
      | some more =>
        rw [e] at hd
        dsimp only at hd ⊢
        split
        · next hn => rw [if_pos hn] at hd; cases hd
        · next hn =>
          refine ⟨rfl, fun m q => ?_⟩
          cases q
          intro c hc
          have := hn
          simp only [List.any_eq_true, decide_eq_true_eq, not_exists, not_and, Decidable.not_not] at this
          exact this c hc
      | none => exact ⟨rfl, fun m q => by cases q⟩
    rw [hs.1] at h ⊢
    obtain ⟨h1, h2⟩ := ih b h
    exact ⟨h1, fun y hy => by
      rcases List.mem_cons.mp hy with rfl | hy
      · exact hs.2
      · exact h2 y hy⟩
theorem round_miss {t : Tab} {present : List Str} (W : WF t) {b : Sp} (h : (spRound t present b).going = true) : miss t (spRound t present b).known < miss t b.known := by
  have : ∀ (l : List (Str × Int)) (b : Sp), miss t (l.foldl (spStep t present) b).known ≤ miss t b.known ∧ (b.going = false → (l.foldl (spStep t present) b).going = true → miss t (l.foldl (spStep t present) b).known < miss t b.known) := by
    intro l
    induction l with
    | nil => intro b; exact ⟨Nat.le_refl _, fun h1 h2 => by rw [List.foldl_nil, h1] at h2; cases h2⟩
    | cons x l ih =>
      intro b
      rw [List.foldl_cons]
      have hs : spStep t present b x = b ∨ miss t (spStep t present b x).known < miss t b.known := by
        unfold spStep
        split
        · next more e =>
          split
          · next hn => exact .inr (miss_lt (gained_sub W e).1 hn)
          · exact .inl rfl
        · exact .inl rfl
      obtain ⟨i1, i2⟩ := ih (spStep t present b x)
      rcases hs with hs | hs
      · rw [hs] at i1 i2 ⊢; exact ⟨i1, i2⟩
      · exact ⟨by omega, fun _ _ => by omega⟩
  exact (this _ { b with going := false }).2 rfl h
theorem spWhile_ok {Omq : List (Option Cell)} {t : Tab} (W : WF t) {N : Nat} (hN : N ≤ 1000) {present : List Str} {cols P : D} (hP : P = lS present ∨ P = tS present) : ∀ (k : Nat) (b : Sp) (j : Slot × Slot), SpP t N b → b.going = true → miss t b.known < k →
    ∃ j' : Slot × Slot, whileS (k + 1) (M.bind (rd 5) truV) l_Table_spread_2 ⟨spR t cols P b j.1 j.2, Omq⟩ = .ok .nx ⟨spR t cols P (spGo t present k b) j'.1 j'.2, Omq⟩
  | 0, b, j, p, hg, hm => by omega
  | k + 1, b, j, p, hg, hm => by
    obtain ⟨j1, e⟩ := spRound_ok (Omq := Omq) W hN (cols := cols) hP p j
    have c1 : (M.bind (rd 5) truV) ⟨spR t cols P b j.1 j.2, Omq⟩ = .ok b.going ⟨spR t cols P b j.1 j.2, Omq⟩ := rfl
    rw [hg] at c1
    rw [while_go c1 e]
    unfold spGo
    cases hg2 : (spRound t present b).going with
    | true =>
      have := round_miss W hg2
      exact spWhile_ok (Omq := Omq) W hN (cols := cols) hP k (spRound t present b) j1 (p.round W) hg2 (by omega)
    | false =>
      refine ⟨j1, ?_⟩
      have c2 : (M.bind (rd 5) truV) ⟨spR t cols P (spRound t present b) j1.1 j1.2, Omq⟩ = .ok (spRound t present b).going ⟨spR t cols P (spRound t present b) j1.1 j1.2, Omq⟩ := rfl
      rw [hg2] at c2
      rw [while_end c2]
      rfl
def replay (t : Tab) (present : List Str) : List Str → List (Str × Int) → Option (List Str)
  | known, [] => some known
  | known, x :: xs => (gained t known present x).bind fun more => replay t present (known ++ more) xs
theorem replay_snoc {t : Tab} {present : List Str} {x : Str × Int} : ∀ (xs : List (Str × Int)) (known : List Str), replay t present known (xs ++ [x]) = (replay t present known xs).bind fun k => (gained t k present x).map (k ++ ·)
  | [], known => by
    show (gained t known present x).bind _ = (gained t known present x).map _
    cases gained t known present x <;> rfl
  | y :: xs, known => by
    show (gained t known present y).bind _ = ((gained t known present y).bind _).bind _
    cases gained t known present y with
    | none => rfl
    | some more => exact replay_snoc xs _
/-- what spread does: the steps lead to what is known, and nothing is new -/
def spread (t : Tab) (present cols : List Str) : Sp := spGo t present 9 ⟨cols, [], true⟩
structure SpI (t : Tab) (present cols : List Str) (b : Sp) : Prop where
  re : replay t present cols b.steps = some b.known
theorem spI_step {t : Tab} {present cols : List Str} {b : Sp} (h : SpI t present cols b) (x : Str × Int) : SpI t present cols (spStep t present b x) := by
  unfold spStep
  split
  · next more e =>
    split
    · exact ⟨by show replay t present cols (b.steps ++ [x]) = _; rw [replay_snoc, h.re]; show (gained t b.known present x).map _ = _; rw [e]; rfl⟩
    · exact h
  · exact h
theorem spI_round {t : Tab} {present cols : List Str} {b : Sp} (h : SpI t present cols b) : SpI t present cols (spRound t present b) := by
  have : ∀ (l : List (Str × Int)) (b : Sp), SpI t present cols b → SpI t present cols (l.foldl (spStep t present) b) := by
    intro l
    induction l with
    | nil => intro b p; exact p
    | cons x l ih => intro b p; exact ih _ (spI_step p x)
  exact this _ _ ⟨h.re⟩
theorem spGo_I {t : Tab} {present cols : List Str} : ∀ (k : Nat) {b : Sp}, SpI t present cols b → SpI t present cols (spGo t present k b)
  | 0, b, h => h
  | k + 1, b, h => by
    unfold spGo
    split
    · exact spGo_I k (spI_round h)
    · exact spI_round h
theorem spread_re (t : Tab) (present cols : List Str) : replay t present cols (spread t present cols).steps = some (spread t present cols).known := (spGo_I 9 (b := ⟨cols, [], true⟩) ⟨rfl⟩).re
theorem miss_le (t : Tab) (known : List Str) : miss t known ≤ t.C.length := List.length_filter_le _ _
theorem spread_P {t : Tab} (W : WF t) (present : List Str) {cols : List Str} : SpP t cols.length (spread t present cols) := by
  have : ∀ (k : Nat) (b : Sp), SpP t cols.length b → SpP t cols.length (spGo t present k b) := by
    intro k
    induction k with
    | zero => intro b p; exact p
    | succ k ih =>
      intro b p
      unfold spGo
      split
      · exact ih _ (p.round W)
      · exact p.round W
  have m := miss_le t cols
  have c := W.c1
  refine this _ _ ⟨?_, ?_⟩
  · show cols.length + t.C.length * miss t cols ≤ _
    have := Nat.mul_le_mul c (Nat.le_trans m c)
    omega
  · show 0 + miss t cols ≤ 20
    omega
theorem spread_ok {Omq : List (Option Cell)} {t : Tab} (W : WF t) {present cols : List Str} {P : D} (hP : P = lS present ∨ P = tS present) (hc : cols.length ≤ 1000) : s_Table_spread [.d (dTab t), .d (lS cols), .d P] Omq = .ok (.d (.tup [lS (spread t present cols).known, .lst ((spread t present cols).steps.map dStep)])) Omq := by
  unfold s_Table_spread m_Table_spread
  rw [u_run]
  have m := miss_le t cols
  have c := W.c1
  obtain ⟨j, e⟩ := spWhile_ok (Omq := Omq) W (N := cols.length) hc (present := present) (cols := lS cols) hP 9 ⟨cols, [], true⟩ (.no, .no) ⟨by
    show cols.length + t.C.length * miss t cols ≤ _
    have := Nat.mul_le_mul c (Nat.le_trans m c)
    omega, by show 0 + miss t cols ≤ 20; omega⟩ rfl (by show miss t cols < 9; omega)
  unfold spR at e
  simp [slots, n_Table_spread]
  simp at e
  rw [e]
  simp [spread, Cell.toD]
end S
set_option maxRecDepth 100000
namespace S
open PySem PySem.Spec L2 G
section
variable {Omq : List (Option Cell)} {t : Tab} {present cols : List Str} {P : D} {s : Sg}
def closure (t : Tab) (present cols : List Str) : List Str := t.C.filter fun c => decide (c ∈ (spread t present cols).known)
theorem closure_ok (W : WF t) (hP : P = lS present ∨ P = tS present) (hc : cols.length ≤ 1000) : s_Table_closure [.d (dTab t), .d (lS cols), .d P] Omq = .ok (.d (tS (closure t present cols))) Omq := by
  have g : ∀ s : Sg, callM s_Table_spread [.d (dTab t), .d (lS cols), .d P] s = .ok _ s := fun s => c_call fun _ => spread_ok W hP hc
  unfold s_Table_closure m_Table_closure
  rw [u_run]
  simp [slots, n_Table_closure, g, closure]
theorem derivation_ok (W : WF t) (hP : P = lS present ∨ P = tS present) (hc : cols.length ≤ 1000) (goal : Str) : s_Table_derivation [.d (dTab t), .d (lS cols), .d (.str goal), .d P] Omq = .ok (.d (if goal ∈ (spread t present cols).known then .lst ((spread t present cols).steps.map dStep) else .non)) Omq := by
  have g : ∀ s : Sg, callM s_Table_spread [.d (dTab t), .d (lS cols), .d P] s = .ok _ s := fun s => c_call fun _ => spread_ok W hP hc
  unfold s_Table_derivation m_Table_derivation
  rw [u_run]
  by_cases h : goal ∈ (spread t present cols).known
  · simp [slots, n_Table_derivation, g, h]
  · simp [slots, n_Table_derivation, g, h]
/-! ### derives: a replay -/
def rStep (t : Tab) (present : List Str) (known : List Str) (x : Str × Int) : Sum (List Str) (List Str) := match gained t known present x with
  | some more => .inl (known ++ more)
  | none => .inr known
theorem rep_fold : ∀ (xs : List (Str × Int)) (known : List Str), replay t present known xs = match foldE (rStep t present) known xs with
    | .inl k => some k
    | .inr _ => none
  | [], known => rfl
  | x :: xs, known => by
    unfold replay foldE rStep
    cases gained t known present x with
    | none => rfl
    | some more => exact rep_fold xs _
def derives (t : Tab) (present cols : List Str) (steps : List (Str × Int)) (goal : Str) : Bool := match replay t present cols steps with
  | some k => decide (goal ∈ k)
  | none => false
theorem derives_ok (W : WF t) (hP : P = lS present ∨ P = tS present) (hc : cols.length ≤ 1000) {steps : List (Str × Int)} (hs : steps.length ≤ 1000) (goal : Str) : s_Table_derives [.d (dTab t), .d (lS cols), .d (.lst (steps.map dStep)), .d (.str goal), .d P] Omq = .ok (.d (.bl (derives t present cols steps goal))) Omq := by
  have c1 := W.c1
  have g : ∀ (x : Str × Int) (known : List Str) (s : Sg), callM s_Table_gained [.d (dTab t), .d (dStep x), .d (lS known), .d P] s = .ok (.d (dO (gained t known present x))) s := fun x known s => c_call fun _ => gained_ok t known present hP x
  have lp := loop_EJ (f := fun x => Val.d (dStep x)) (body := fun x s => bnd ((Tgt.nm 6).g x s) fun _ s => l_Table_derives_1 s)
    (fun (y : List Str) (j : Slot × Slot) => ⟨[.v (.d (dTab t)), .v (.d (lS cols)), .v (.d (.lst (steps.map dStep))), .v (.d (.str goal)), .v (.d P), .v (.d (lS y)), j.1, j.2], Omq⟩) (rStep t present)
    (fun o j => .ok (.rt (.d (.bl false))) ⟨[.v (.d (dTab t)), .v (.d (lS cols)), .v (.d (.lst (steps.map dStep))), .v (.d (.str goal)), .v (.d P), .v (.d (lS o)), j.1, j.2], Omq⟩)
    (fun _ _ => trivial) (fun i y => y.length ≤ 1000 + 7 * i) steps 0 cols (.no, .no)
    (fun i x hx y j p => by
      have hi : i < steps.length := (List.getElem?_eq_some_iff.mp hx).1
      unfold rStep
      cases e : gained t y present x with
      | none =>
        refine ⟨(.v (.d (dStep x)), .v (.d .non)), ?_⟩
        unfold l_Table_derives_1
        simp [g, e, dO]
      | some more =>
        have hl := gained_len e
        have hl2 : y.length + more.length ≤ 1000000 := by omega
        refine ⟨⟨(.v (.d (dStep x)), .v (.d (lS more))), ?_⟩, by rw [List.length_append]; omega⟩
        unfold l_Table_derives_1
        simp [g, e, dO, hl2]) (by simpa using hc)
  unfold s_Table_derives m_Table_derives derives
  rw [u_run, rep_fold]
  simp only [List.map_map] at lp
  cases e : foldE (rStep t present) cols steps with
  | inl k =>
    rw [e] at lp
    obtain ⟨⟨j, lp⟩, _⟩ := lp
    simp [Function.comp_def] at lp
    simp [slots, n_Table_derives, Function.comp_def, lp]
  | inr k =>
    rw [e] at lp
    obtain ⟨j, lp⟩ := lp
    simp [Function.comp_def] at lp
    simp [slots, n_Table_derives, Function.comp_def, lp]
end
end S
set_option maxRecDepth 100000
namespace G
open PySem PySem.Spec L2
theorem wp_loop {β : Type} {body : Val → M Fl} {items : List Val} {s : Sg} {K : Fl → Sg → Out β} {P : β → Sg → Prop} (I : Nat → Sg → Prop) (h : ∀ i x s, items[i]? = some x → I i s → Wp (body x s) fun f s' => (f = .nx ∨ f = .ct) ∧ I (i + 1) s') (h0 : I 0 s)
    (hk : ∀ s', I items.length s' → Wp (K .nx s') P) : Wp (bnd (loopS body items s) K) P := by
  obtain ⟨s', e, q⟩ := loop_end (f := body) (items := items) I (s := s) (fun i x s hi hp => by
    obtain ⟨f, s', e, hf, q⟩ := (h i x s hi hp).run
    refine ⟨s', ?_, q⟩
    rcases hf with rfl | rfl
    · exact .inl e
    · exact .inr e) h0
  rw [e]
  exact hk s' q
theorem wp_loop0 {body : Val → M Fl} {items : List Val} {s : Sg} {P : Fl → Sg → Prop} (I : Nat → Sg → Prop) (h : ∀ i x s, items[i]? = some x → I i s → Wp (body x s) fun f s' => (f = .nx ∨ f = .ct) ∧ I (i + 1) s') (h0 : I 0 s)
    (hk : ∀ s', I items.length s' → P .nx s') : Wp (loopS body items s) P := by
  have := wp_loop (K := fun f s => .ok f s) (P := P) I h h0 hk
  cases e : loopS body items s with
  | ok a s => rw [e] at this; exact this
  | exc _ _ => rw [e] at this; exact this
  | stuck => rw [e] at this; exact this
theorem rng_len (lo : Int) (n : Nat) : (rng lo n).length = n := by simp [rng]
theorem wp_seqP {s : Sg} {f1 f2 : M Fl} {P : Fl → Sg → Prop} (Q : Sg → Prop) (h1 : ∀ G : Sg → Prop, (∀ s, Q s → G s) → Wp (f1 s) fun f s => f = .nx ∧ G s) (h2 : ∀ s, Q s → Wp (f2 s) P) : Wp (seqS f1 f2 s) P :=
  wp_seq ((h1 Q fun _ q => q).mono fun _ s q => ⟨q.1, h2 s q.2⟩)
/-- a run that ends, or returns early with Q -/
theorem wp_loopR {β : Type} {body : Val → M Fl} {items : List Val} {s : Sg} {K : Fl → Sg → Out β} {P : β → Sg → Prop} (I : Nat → Sg → Prop) (R : Val → Sg → Prop) (h : ∀ i x s, items[i]? = some x → I i s → Wp (body x s) fun f s' => ((f = .nx ∨ f = .ct) ∧ I (i + 1) s') ∨ ∃ v, f = .rt v ∧ R v s') (h0 : I 0 s)
    (hk : ∀ s', I items.length s' → Wp (K .nx s') P) (hr : ∀ v s', R v s' → Wp (K (.rt v) s') P) : Wp (bnd (loopS body items s) K) P := by
  rcases loop_inv (f := body) I R items 0 s (fun i x s hi hp => by
    rw [Nat.zero_add] at *
    obtain ⟨f, s', e, hf⟩ := (h i x s hi hp).run
    rcases hf with ⟨hf, q⟩ | ⟨v, hf, q⟩
    · refine .inl ⟨s', ?_, q⟩
      rcases hf with rfl | rfl
      · exact .inl e
      · exact .inr e
    · exact .inr ⟨v, s', by rw [e, hf], q⟩) h0 with ⟨s', e, q⟩ | ⟨v, s', e, q⟩
  · rw [e]; exact hk s' (by simpa using q)
  · rw [e]; exact hr v s' q
end G
namespace S
open PySem PySem.Spec L2 G
def menuC : List Str := ["x", "y", "z", "key", "rule", "table", "xy"]
/-- the parts that are drawn -/
structure Good (most : Int) (t : Tab) : Prop where
  cnd : t.C.Nodup
  csub : t.C ⊆ menuC
  c0 : 0 < t.C.length
  c1 : t.C.length ≤ most
  mnd : t.Mu.Nodup
  msub : t.Mu ⊆ t.C
  u : ∀ k ∈ t.U, k.Nodup ∧ k ⊆ t.C ∧ 0 < k.length
  ul : t.U.length ≤ 2
  r : ∀ r ∈ t.R, r.1.Nodup ∧ r.1 ⊆ t.C ∧ r.2 ∈ t.C
  rl : t.R.length ≤ 3
def vParts (t : Tab) : List D := [.str t.nm, lS t.C, lS t.Mu, .lst (t.U.map dK), .lst (t.R.map dR)]
def pC (t : Tab) : Cell := .lst ((vParts t).map Val.d)
theorem rot_nodup {α : Type} {l : List α} (h : l.Nodup) (t n : Nat) : ((l.drop t ++ l.take t).take n).Nodup := by
  refine List.Nodup.sublist (List.take_sublist _ _) ?_
  have p : (l.drop t ++ l.take t).Perm l := (List.perm_append_comm).trans (by rw [List.take_append_drop])
  exact p.nodup_iff.mpr h
theorem rot_sub {α : Type} {l : List α} (t n : Nat) : (l.drop t ++ l.take t).take n ⊆ l := fun x hx => by
  have := List.mem_of_mem_take hx
  rcases List.mem_append.mp this with h | h
  · exact List.mem_of_mem_drop h
  · exact List.mem_of_mem_take h
theorem rot_len {α : Type} {l : List α} (t n : Nat) : ((l.drop t ++ l.take t).take n).length = min n l.length := by
  rw [List.length_take, List.length_append, List.length_drop, List.length_take]; omega
theorem menuC_nd : menuC.Nodup := by unfold menuC; simp
theorem parts_wp {k : Nat} {Omq : List (Option Cell)} {nm : Str} {most : Int} (h : DX k Omq) (h0 : 0 < most) (h1 : most ≤ 6) : ∃ x Omq', s_law_parts [.r k, .d (.str nm), .d (.int most)] Omq = .ok x Omq' ∧ ∃ (t : Tab) (Omq1 : List (Option Cell)), t.nm = nm ∧ Good most t ∧ DX k Omq1 ∧ Same k Omq Omq1 ∧ Omq' = Omq1 ++ [some (pC t)] ∧ x = .r Omq1.length := by
  unfold s_law_parts m_law_parts
  refine wp_def (wp_seqP (fun s => ∃ (C : List Str) (Omq1 : List (Option Cell)), s = ⟨[.v (.r k), .v (.d (.str nm)), .v (.d (.int most)), .v (.d (lS C)), .no, .no, .no, .no], Omq1⟩ ∧ C.Nodup ∧ C ⊆ menuC ∧ 0 < C.length ∧ C.length ≤ most ∧ DX k Omq1 ∧ Same k Omq Omq1) (fun G hG => ?_) ?_)
  · simp [slots, n_law_parts]
    refine wp_draw h h0 (by omega) fun v Omq1 v0 v1 d1 e1 => ?_
    simp
    refine wp_names (ds := menuC.map D.str) d1 (by omega) (by simp [menuC]) (by simp [menuC]) fun j Omq2 hj d2 e2 => ?_
    have hm : (1 + v).toNat = v.toNat + 1 := by omega
    simp
    refine hG _ ⟨(menuC.drop j ++ menuC.take j).take (1 + v).toNat, Omq2, by simp, rot_nodup menuC_nd _ _, rot_sub _ _, ?_, ?_, d2, e1.trans e2⟩
    · rw [rot_len, hm]; simp [menuC]; omega
    · rw [rot_len, hm]; simp [menuC]; omega
  rintro s ⟨C, Omq1, rfl, cnd, csub, c0, c1, d1, e1⟩
  refine wp_seqP (fun s => ∃ (Mu : List Str) (Omq2 : List (Option Cell)), s = ⟨[.v (.r k), .v (.d (.str nm)), .v (.d (.int most)), .v (.d (lS C)), .v (.d (lS Mu)), .no, .no, .no], Omq2⟩ ∧ Mu.Nodup ∧ Mu ⊆ C ∧ DX k Omq2 ∧ Same k Omq Omq2) (fun G hG => ?_) ?_
  · simp
    refine wp_some d1 cnd (by omega) (by omega) (by omega) fun S Omq2 n2 s2 _ d2 e2 => ?_
    simp
    exact hG _ ⟨S, _, rfl, n2, s2, d2, e1.trans e2⟩
  rintro s ⟨Mu0, Omq2, rfl, mnd0, msub0, d2, e2⟩
  refine wp_seqP (fun s => ∃ (Mu : List Str) (Omq2 : List (Option Cell)), s = ⟨[.v (.r k), .v (.d (.str nm)), .v (.d (.int most)), .v (.d (lS C)), .v (.d (lS Mu)), .no, .no, .no], Omq2⟩ ∧ Mu.Nodup ∧ Mu ⊆ C ∧ DX k Omq2 ∧ Same k Omq Omq2) (fun G hG => ?_) ?_
  · simp
    refine wp_draw d2 (by omega) (by omega) fun v Omq3 v0 v1 d3 e3 => ?_
    by_cases hv : v = 0
    · simp [hv, cut_hi]
      exact hG _ ⟨Mu0.take 1, _, by simp, mnd0.sublist (List.take_sublist _ _), fun y hy => msub0 (take_sub _ _ hy), d3, e2.trans e3⟩
    · simp [hv]
      exact hG _ ⟨Mu0, _, rfl, mnd0, msub0, d3, e2.trans e3⟩
  rintro s ⟨Mu, Omq3, rfl, mnd, msub, d3, e3⟩
  refine wp_seqE (s1 := ⟨[.v (.r k), .v (.d (.str nm)), .v (.d (.int most)), .v (.d (lS C)), .v (.d (lS Mu)), .acc (.lst []), .no, .no], Omq3⟩) (by simp) ?_
  refine wp_seqP (fun s => ∃ (U : List (List Str)) (Omq2 : List (Option Cell)) (z : Slot), s = ⟨pR k (.str nm) most C Mu (U.map dK) z .no, Omq2⟩ ∧ U.length ≤ 2 ∧ (∀ k ∈ U, k.Nodup ∧ k ⊆ C ∧ 0 < k.length) ∧ DX k Omq2 ∧ Same k Omq Omq2) (fun G hG => ?_) ?_
  · simp
    refine wp_draw d3 (by omega) (by omega) fun v Omq4 v0 v1 d4 e4 => ?_
    simp
    rw [v_rng1 (by omega)]
    rw [bnd_ok]
    refine wp_loop0 (fun i s => ∃ (U : List (List Str)) (Omq2 : List (Option Cell)) (z : Slot), s = ⟨pR k (.str nm) most C Mu (U.map dK) z .no, Omq2⟩ ∧ U.length = i ∧ (∀ k ∈ U, k.Nodup ∧ k ⊆ C ∧ 0 < k.length) ∧ DX k Omq2 ∧ Same k Omq Omq2) ?_ ?_ ?_
    · rintro i x s hi ⟨U, Omq5, z, rfl, hU, hU2, d5, e5⟩
      have hi2 : i < v.toNat := by have := (List.getElem?_eq_some_iff.mp hi).1; rwa [rng_len] at this
      obtain ⟨ks, c, e, d, q1, q2, q3⟩ := u_turn (nm := .str nm) (most := most) (Mu := Mu) (U := U.map dK) (z := .v x) (w := .no) d5.dr cnd c0 (by omega) (by simp; omega)
      show Wp (l_law_parts_1 ⟨pR k (.str nm) most C Mu (U.map dK) (.v x) .no, Omq5⟩) _
      rw [e]
      refine ⟨.inl rfl, U ++ [ks], _, _, by rw [List.map_append]; rfl, by rw [List.length_append]; simp; omega, fun y hy => ?_, d5.of d, e5.trans (Same.set _ _ _)⟩
      rcases List.mem_append.mp hy with hy | hy
      · exact hU2 y hy
      · rw [List.mem_singleton.mp hy]; exact ⟨q1, q2, q3⟩
    · exact ⟨[], _, .no, rfl, rfl, (fun _ h => by cases h), d4, e3.trans e4⟩
    · rintro s ⟨U, Omq5, z, rfl, hU, hU2, d5, e5⟩
      rw [rng_len] at hU
      exact ⟨rfl, hG _ ⟨U, _, _, rfl, by omega, hU2, d5, e5⟩⟩
  rintro s ⟨U, Omq5, z, rfl, ul, hU, d5, e5⟩
  refine wp_seqE (s1 := ⟨pQ k (.str nm) most C Mu (.acc (.lst ((U.map dK).map Val.d))) z [], Omq5⟩) (by unfold pR pQ; simp) ?_
  refine wp_seqP (fun s => ∃ (R : List (List Str × Str)) (Omq2 : List (Option Cell)) (z : Slot), s = ⟨pQ k (.str nm) most C Mu (.acc (.lst ((U.map dK).map Val.d))) z (R.map dR), Omq2⟩ ∧ R.length ≤ 3 ∧ (∀ r ∈ R, r.1.Nodup ∧ r.1 ⊆ C ∧ r.2 ∈ C) ∧ DX k Omq2 ∧ Same k Omq Omq2) (fun G hG => ?_) ?_
  · unfold pQ
    simp
    refine wp_draw d5 (by omega) (by omega) fun v Omq4 v0 v1 d4 e4 => ?_
    simp
    rw [v_rng1 (by omega)]
    rw [bnd_ok]
    refine wp_loop0 (fun i s => ∃ (R : List (List Str × Str)) (Omq2 : List (Option Cell)) (z : Slot), s = ⟨pQ k (.str nm) most C Mu (.acc (.lst ((U.map dK).map Val.d))) z (R.map dR), Omq2⟩ ∧ R.length = i ∧ (∀ r ∈ R, r.1.Nodup ∧ r.1 ⊆ C ∧ r.2 ∈ C) ∧ DX k Omq2 ∧ Same k Omq Omq2) ?_ ?_ ?_
    · rintro i x s hi ⟨R, Omq6, z, rfl, hR, hR2, d6, e6⟩
      have hi2 : i < v.toNat := by have := (List.getElem?_eq_some_iff.mp hi).1; rwa [rng_len] at this
      obtain ⟨r, c, e, d, q1, q2, q3⟩ := r_turn (nm := .str nm) (most := most) (Mu := Mu) (x5 := .acc (.lst ((U.map dK).map Val.d))) (z := .v x) (Rr := R.map dR) d6.dr cnd c0 (by omega) (by simp; omega)
      show Wp (l_law_parts_2 ⟨pQ k (.str nm) most C Mu (.acc (.lst ((U.map dK).map Val.d))) (.v x) (R.map dR), Omq6⟩) _
      rw [e]
      refine ⟨.inl rfl, R ++ [r], _, _, by rw [List.map_append]; rfl, by rw [List.length_append]; simp; omega, fun y hy => ?_, d6.of d, e6.trans (Same.set _ _ _)⟩
      rcases List.mem_append.mp hy with hy | hy
      · exact hR2 y hy
      · rw [List.mem_singleton.mp hy]; exact ⟨q1, q2, q3⟩
    · exact ⟨[], Omq4, z, by unfold pQ; simp, rfl, (fun _ h => by cases h), d4, e5.trans e4⟩
    · rintro s ⟨R, Omq6, z, rfl, hR, hR2, d6, e6⟩
      rw [rng_len] at hR
      exact ⟨rfl, hG _ ⟨R, _, _, rfl, by omega, hR2, d6, e6⟩⟩
  rintro s ⟨R, Omq6, z, rfl, rl, hR, d6, e6⟩
  unfold pQ
  simp [Cell.toD]
  refine ⟨⟨nm, C, Mu, U, R⟩, rfl, ⟨cnd, csub, c0, c1, mnd, msub, hU, ul, hR, rl⟩, Omq6, d6, e6, ?_⟩
  simp [pC, vParts]
end S
set_option maxRecDepth 100000
namespace G
open PySem PySem.Spec L2
theorem foldE_all {α γ : Type} {p : α → Bool} {c : α → γ} : ∀ (xs : List α), (∃ y ∈ xs, p y = false ∧ foldE (fun (_ : Unit) x => if p x then Sum.inl () else Sum.inr (c x)) () xs = .inr (c y)) ∨ (xs.all p = true ∧ foldE (fun (_ : Unit) x => if p x then Sum.inl () else Sum.inr (c x)) () xs = .inl ())
  | [] => .inr ⟨rfl, rfl⟩
  | x :: xs => by
    cases h : p x with
    | false => exact .inl ⟨x, List.mem_cons_self, h, by unfold foldE; simp [h]⟩
    | true =>
      have e : foldE (fun (_ : Unit) x => if p x then Sum.inl () else Sum.inr (c x)) () (x :: xs) = foldE (fun (_ : Unit) x => if p x then Sum.inl () else Sum.inr (c x)) () xs := by
        conv => lhs; unfold foldE
        simp [h]
      rw [e]
      rcases foldE_all (p := p) (c := c) xs with ⟨y, hy, h1, h2⟩ | ⟨h1, h2⟩
      · exact .inl ⟨y, List.mem_cons_of_mem _ hy, h1, h2⟩
      · exact .inr ⟨by simp [h, h1], h2⟩
/-- the first that is wrong -/
theorem foldE_find {α γ : Type} {p : α → Bool} {c : α → γ} : ∀ (xs : List α), foldE (fun (_ : Unit) x => if p x then Sum.inr (c x) else Sum.inl ()) () xs = match xs.find? p with
    | some y => .inr (c y)
    | none => .inl ()
  | [] => rfl
  | x :: xs => by
    unfold foldE
    cases h : p x with
    | false => simp only [List.find?_cons, h]; exact foldE_find xs
    | true => simp [List.find?_cons, h]
end G
namespace S
open PySem PySem.Spec L2 G
def letters : Str := "abcdefghijklmnopqrstuvwxyz"
def isName (x : Str) : Bool := decide (1 ≤ x.cps.size) && decide (x.cps.size ≤ 8) && x.cps.toList.all fun c => decide (c ∈ letters.cps.toList)
theorem is_name_ok {Omq : List (Option Cell)} (x : Str) (hx : x.cps.size ≤ 1000) : s_is_name [.d (.str x)] Omq = .ok (.d (.bl (isName x))) Omq := by
  have lp := loop_EJ (f := fun c : Nat => Val.d (.str ⟨#[c]⟩)) (body := fun x s => bnd ((Tgt.nm 1).g x s) fun _ s => l_is_name_1 s)
    (fun (_ : Unit) (j : Slot) => ⟨[.v (.d (.str x)), j], Omq⟩) (fun _ c => if decide (c ∈ letters.cps.toList) then .inl () else .inr ())
    (fun (_ : Unit) j => .ok (.rt (.d (.bl false))) ⟨[.v (.d (.str x)), j], Omq⟩) (fun _ _ => trivial) (fun _ _ => True) x.cps.toList 0 () .no
    (fun i c hc _ j _ => by
      by_cases h : c ∈ letters.cps.toList
      · simp only [h, decide_true, if_true]
        refine ⟨⟨.v (.d (.str ⟨#[c]⟩)), ?_⟩, trivial⟩
        unfold l_is_name_1
        have h' : c ∈ (Str.ofString "abcdefghijklmnopqrstuvwxyz").cps := by simpa [letters] using h
        simp [inV0, h']
      · simp only [h, decide_false]
        refine ⟨.v (.d (.str ⟨#[c]⟩)), ?_⟩
        unfold l_is_name_1
        have h' : ¬ c ∈ (Str.ofString "abcdefghijklmnopqrstuvwxyz").cps := by simpa [letters] using h
        simp [inV0, h']) trivial
  unfold s_is_name m_is_name isName
  rw [u_run]
  have h9 : x.cps.size ≤ 1000000 := by omega
  by_cases h1 : 1 ≤ x.cps.size
  · have h1' : (1 : Int) ≤ (x.cps.size : Int) := by omega
    by_cases h8 : x.cps.size ≤ 8
    · have h8' : (x.cps.size : Int) ≤ 8 := by omega
      rcases foldE_all (p := fun c => decide (c ∈ letters.cps.toList)) (c := fun _ => ()) x.cps.toList with ⟨y, hy, hn, e⟩ | ⟨ha, e⟩
      · rw [e] at lp
        obtain ⟨j, lp⟩ := lp
        have : x.cps.toList.all (fun c => decide (c ∈ letters.cps.toList)) = false := List.all_eq_false.mpr ⟨y, hy, by rw [hn]; simp⟩
        rw [this]
        simp only [u_gnm, bnd_ok, List.set] at lp
        simp [slots, n_is_name, Str.length, h9, h1', h8', strD, signs]
        rw [lp]
        rfl
      · rw [e] at lp
        obtain ⟨⟨j, lp⟩, _⟩ := lp
        rw [ha]
        simp only [u_gnm, bnd_ok, List.set] at lp
        simp [slots, n_is_name, Str.length, h9, h1', h8', strD, signs, h1, h8]
        rw [lp]
        rfl
    · have h8' : ¬ (x.cps.size : Int) ≤ 8 := by omega
      simp [slots, n_is_name, Str.length, h9, h8, h8']
  · have h1' : ¬ (1 : Int) ≤ (x.cps.size : Int) := by omega
    simp [slots, n_is_name, Str.length, h9, h1, h1']
/-! ### the first that is wrong -/
def asStr : D → Option Str
  | .str y => some y
  | _ => none
def fwBad (C : List Str) (things : List D) (p : D × Nat) : Bool := match p.1 with
  | .str y => !(decide (y ∈ C)) || (things.take p.2).any fun d => asStr d == some y
  | _ => true
def firstWrong (C : List Str) (things : List D) : Option Nat := (things.zipIdx.find? (fwBad C things)).map (·.2)
def dNat : Option Nat → D
  | some i => .int (i : Nat)
  | none => .non
def kindly (d : D) : Prop := (kindD d).isSome = true ∧ ∀ kvs, d ≠ .dT kvs
theorem isi_kind {f : Kd → Bool} {d : D} (h : kindly d) (s : Sg) : ∃ k, kindD d = some k ∧ isiV f (.d d) s = .ok (.d (.bl (f k))) s := by
  obtain ⟨h1, h2⟩ := h
  cases d with
  | dT kvs => exact absurd rfl (h2 kvs)
  | ins _ _ => cases h1
  | tupB _ => cases h1
  | _ => exact ⟨_, rfl, rfl⟩
theorem isi_str {d : D} (h : kindly d) (hs : asStr d = none) (s : Sg) : isiV (fun k => isK k .str) (.d d) s = .ok (.d (.bl false)) s := by
  obtain ⟨h1, h2⟩ := h
  cases d with
  | dT kvs => exact absurd rfl (h2 kvs)
  | ins _ _ => cases h1
  | tupB _ => cases h1
  | str _ => cases hs
  | _ => rfl
theorem any_strs {S : List Str} {y : Str} : ((S.map D.str).any fun d => asStr d == some y) = decide (y ∈ S) := by
  rw [Bool.eq_iff_iff]
  simp [asStr]
theorem first_wrong_ok {Omq : List (Option Cell)} {C : List Str} {things : List D} {T : D} (hT : T = .lst things ∨ T = .tup things) (hk : ∀ d ∈ things, kindly d) : s_first_wrong [.d T, .d (lS C)] Omq = .ok (.d (dNat (firstWrong C things))) Omq := by
  have lp := loop_EJ (f := fun p : D × Nat => Val.d (.tup [.int (p.2 : Nat), p.1])) (body := fun x s => bnd ((Tgt.tp [2, 3]).g x s) fun _ s => l_first_wrong_1 s)
    (fun (_ : Unit) (j : Slot × Slot) => ⟨[.v (.d T), .v (.d (lS C)), j.1, j.2], Omq⟩) (fun _ p => if fwBad C things p then .inr p.2 else .inl ())
    (fun (i : Nat) j => .ok (.rt (.d (.int i))) ⟨[.v (.d T), .v (.d (lS C)), j.1, j.2], Omq⟩) (fun _ _ => trivial) (fun i _ => ∃ S : List Str, things.take i = S.map D.str) things.zipIdx 0 () (.no, .no)
    (fun i p hp _ j ⟨S, hS⟩ => by
      rw [Nat.zero_add] at *
      obtain ⟨d, n⟩ := p
      have hi : things[i]? = some d ∧ n = i := by
        rw [List.getElem?_zipIdx] at hp
        cases e : things[i]? with
        | none => rw [e] at hp; cases hp
        | some d' => rw [e] at hp; simp at hp; exact ⟨by rw [hp.1], hp.2.symm⟩
      obtain ⟨hi, rfl⟩ := hi
      have hl : n < things.length := (List.getElem?_eq_some_iff.mp hi).1
      have kd := hk d (List.mem_of_getElem? hi)
      have tk : things.take (n + 1) = things.take n ++ [d] := by
        rw [List.take_add_one, hi]; rfl
      have q : cutL things none (some (n : Int)) = S.map D.str := by rw [cut_hi _ _ (by omega)]; simpa using hS
      have cut : ∀ s : Sg, cutF (.d (.tup things)) none (some (n : Int)) s = .ok (.d (tS S)) s := fun s => by
        have : ¬ (HT.sIx things.length 0 none = 0 ∧ HT.sIx things.length things.length (some (n : Int)) = things.length) := fun z => by
          have := z.2
          rw [HT.sIx_nat] at this
          omega
        show (if HT.sIx things.length 0 none = 0 ∧ HT.sIx things.length things.length (some (n : Int)) = things.length then Out.stuck else _) = _
        rw [if_neg this, q]
      cases ed : asStr d with
      | none =>
        have hb : fwBad C things (d, n) = true := by
          cases d <;> first | rfl | cases ed
        rw [hb]
        refine ⟨(.v (.d (.int n)), .v (.d d)), ?_⟩
        unfold l_first_wrong_1
        simp [isi_str kd ed]
      | some y =>
        have : d = .str y := by cases d <;> first | (cases ed; rfl) | cases ed
        subst this
        have hb : fwBad C things (.str y, n) = (!(decide (y ∈ C)) || decide (y ∈ S)) := by
          unfold fwBad
          simp only [hS, any_strs]
        rw [hb]
        by_cases hc : y ∈ C
        · by_cases hs : y ∈ S
          · simp only [hc, hs, decide_true, Bool.not_true, Bool.or_true, if_true]
            refine ⟨(.v (.d (.int n)), .v (.d (.str y))), ?_⟩
            unfold l_first_wrong_1
            rcases hT with rfl | rfl <;> simp [cut, q, hc, hs]
          · simp only [hc, hs, decide_true, decide_false, Bool.not_true, Bool.or_false]
            refine ⟨⟨(.v (.d (.int n)), .v (.d (.str y))), ?_⟩, S ++ [y], by rw [tk, hS]; simp⟩
            unfold l_first_wrong_1
            rcases hT with rfl | rfl <;> simp [cut, q, hc, hs]
        · simp only [hc, decide_false, Bool.not_false, Bool.true_or, if_true]
          refine ⟨(.v (.d (.int n)), .v (.d (.str y))), ?_⟩
          unfold l_first_wrong_1
          simp [hc]) ⟨[], by simp⟩
  rw [foldE_find] at lp
  unfold s_first_wrong m_first_wrong firstWrong
  rw [u_run]
  cases e : things.zipIdx.find? (fwBad C things) with
  | none =>
    rw [e] at lp
    obtain ⟨⟨j, lp⟩, _⟩ := lp
    rcases hT with rfl | rfl <;>
    · simp [slots, n_first_wrong, enumL]
      rw [lp]
      rfl
  | some p =>
    rw [e] at lp
    obtain ⟨j, lp⟩ := lp
    rcases hT with rfl | rfl <;>
    · simp [slots, n_first_wrong, enumL]
      rw [lp]
      rfl
end S
set_option maxRecDepth 100000
namespace G
open PySem PySem.Spec L2
theorem zip_at {xs : List D} {i : Nat} {p : D × Nat} (h : xs.zipIdx[i]? = some p) : xs[i]? = some p.1 ∧ p.2 = i := by
  rw [List.getElem?_zipIdx] at h
  cases e : xs[i]? with
  | none => rw [e] at h; cases h
  | some d => rw [e] at h; simp at h; rw [← h]; exact ⟨rfl, rfl⟩
end G
namespace S
open PySem PySem.Spec L2 G
theorem is_name_no {Omq : List (Option Cell)} {d : D} (hk : kindly d) (hs : asStr d = none) : s_is_name [.d d] Omq = .ok (.d (.bl false)) Omq := by
  unfold s_is_name m_is_name
  rw [u_run]
  simp [slots, n_is_name, isi_str hk hs]
def nameD : D → Bool
  | .str x => isName x
  | _ => false
def short (d : D) : Prop := ∀ y, d = .str y → y.cps.size ≤ 1000
theorem is_name_d {Omq : List (Option Cell)} {d : D} (hk : kindly d) (hs : short d) : s_is_name [.d d] Omq = .ok (.d (.bl (nameD d))) Omq := by
  cases e : asStr d with
  | none =>
    rw [is_name_no hk e]
    cases d <;> first | rfl | cases e
  | some y =>
    cases d with
    | str x => exact is_name_ok x (hs x rfl)
    | _ => cases e
def seqOf : D → Option (List D)
  | .lst xs => some xs
  | .tup xs => some xs
  | _ => none
theorem seqOf_iff {d : D} {xs : List D} (h : seqOf d = some xs) : d = .lst xs ∨ d = .tup xs := by
  cases d <;> first | (cases h; exact .inl rfl) | (cases h; exact .inr rfl) | cases h
def isCols (C : List Str) (d : D) : Bool := match seqOf d with
  | some xs => (firstWrong C xs).isNone
  | none => false
/-- d and what lies in it can be looked at -/
structure Odd (d : D) : Prop where
  k : kindly d
  i : ∀ xs, seqOf d = some xs → ∀ x ∈ xs, kindly x
theorem isi_seq {d : D} (h : kindly d) (s : Sg) : isiV (fun k => isK k .lst || isK k .tup) (.d d) s = .ok (.d (.bl (seqOf d).isSome)) s := by
  obtain ⟨h1, h2⟩ := h
  cases d with
  | dT kvs => exact absurd rfl (h2 kvs)
  | ins _ _ => cases h1
  | tupB _ => cases h1
  | _ => rfl
theorem dNat_is {o : Option Nat} (s : Sg) (neg : Bool) : isNV neg (.d (dNat o)) (.d .non) s = .ok (.d (.bl (neg != o.isNone))) s := by
  cases o <;> cases neg <;> rfl
theorem is_columns_ok {Omq : List (Option Cell)} {C : List Str} {d : D} (h : Odd d) : s_is_columns [.d d, .d (lS C)] Omq = .ok (.d (.bl (isCols C d))) Omq := by
  unfold s_is_columns m_is_columns isCols
  rw [u_run]
  cases e : seqOf d with
  | none => simp [slots, n_is_columns, isi_seq h.k, e]
  | some xs =>
    have g : ∀ s : Sg, callM s_first_wrong [.d d, .d (lS C)] s = .ok (.d (dNat (firstWrong C xs))) s := fun s => c_call fun _ => first_wrong_ok (seqOf_iff e) (h.i xs e)
    simp [slots, n_is_columns, isi_seq h.k, e, g, dNat_is]
/-! ### check_columns -/
def ccBad (cols : List D) (p : D × Nat) : Bool := match p.1 with
  | .str y => !(isName y) || (cols.take p.2).any fun d => asStr d == some y
  | _ => true
def checkCols (cols : List D) : Option Nat := if cols.isEmpty then some 0 else if 6 < cols.length then some 6 else (cols.zipIdx.find? (ccBad cols)).map (·.2)
def eIx (c : Str) (i : Nat) : Exc := ⟨c, [("index", .int i)]⟩
def outE (o : Option Exc) (Omq : List (Option Cell)) : OutF := match o with
  | some e => .exc e Omq
  | none => .ok (.d .non) Omq
theorem check_columns_ok {Omq : List (Option Cell)} {cols : List D} (hk : ∀ d ∈ cols, kindly d) (hs : ∀ d ∈ cols, short d) : s_check_columns [.d (.lst cols)] Omq = outE ((checkCols cols).map (eIx "BadColumn")) Omq := by
  have lp := loop_EJ (f := fun p : D × Nat => Val.d (.tup [.int (p.2 : Nat), p.1])) (body := fun x s => bnd ((Tgt.tp [1, 2]).g x s) fun _ s => l_check_columns_1 s)
    (fun (_ : Unit) (j : Slot × Slot) => ⟨[.v (.d (.lst cols)), j.1, j.2], Omq⟩) (fun _ p => if ccBad cols p then .inr p.2 else .inl ())
    (fun (i : Nat) j => .exc (eIx "BadColumn" i) ⟨[.v (.d (.lst cols)), j.1, j.2], Omq⟩) (fun _ _ => trivial) (fun i _ => ∃ S : List Str, cols.take i = S.map D.str) cols.zipIdx 0 () (.no, .no)
    (fun i p hp _ j ⟨S, hS⟩ => by
      rw [Nat.zero_add] at *
      obtain ⟨d, n⟩ := p
      obtain ⟨hi, rfl⟩ := zip_at hp
      have hl : n < cols.length := (List.getElem?_eq_some_iff.mp hi).1
      have kd := hk d (List.mem_of_getElem? hi)
      have sd := hs d (List.mem_of_getElem? hi)
      have g : ∀ s : Sg, callM s_is_name [.d d] s = .ok (.d (.bl (nameD d))) s := fun s => c_call fun _ => is_name_d kd sd
      have tk : cols.take (n + 1) = cols.take n ++ [d] := by
        rw [List.take_add_one, hi]; rfl
      have q : cutL cols none (some (n : Int)) = S.map D.str := by rw [cut_hi _ _ (by omega)]; simpa using hS
      cases ed : asStr d with
      | none =>
        have hb : ccBad cols (d, n) = true := by
          cases d <;> first | rfl | cases ed
        have hn : nameD d = false := by
          cases d <;> first | rfl | cases ed
        rw [hb]
        refine ⟨(.v (.d (.int n)), .v (.d d)), ?_⟩
        unfold l_check_columns_1
        simp [g, hn, eIx]
      | some y =>
        have : d = .str y := by cases d <;> first | (cases ed; rfl) | cases ed
        subst this
        have hb : ccBad cols (.str y, n) = (!(isName y) || decide (y ∈ S)) := by
          unfold ccBad
          simp only [hS, any_strs]
        have hn : nameD (.str y) = isName y := rfl
        rw [hb]
        cases hc : isName y with
        | true =>
          by_cases hs : y ∈ S
          · simp only [hs, decide_true, Bool.not_true, Bool.or_true, if_true]
            refine ⟨(.v (.d (.int n)), .v (.d (.str y))), ?_⟩
            unfold l_check_columns_1
            simp [g, hn, hc, q, hs, eIx]
          · simp only [hs, decide_false, Bool.not_true, Bool.or_false]
            refine ⟨⟨(.v (.d (.int n)), .v (.d (.str y))), ?_⟩, S ++ [y], by rw [tk, hS]; simp⟩
            unfold l_check_columns_1
            simp [g, hn, hc, q, hs]
        | false =>
          simp only [Bool.not_false, Bool.true_or, if_true]
          refine ⟨(.v (.d (.int n)), .v (.d (.str y))), ?_⟩
          unfold l_check_columns_1
          simp [g, hn, hc, eIx]) ⟨[], by simp⟩
  rw [foldE_find] at lp
  unfold s_check_columns m_check_columns checkCols
  rw [u_run]
  cases h0 : cols.isEmpty with
  | true => simp [slots, n_check_columns, h0, outE, eIx]
  | false =>
    by_cases h6 : 6 < cols.length
    · have h6' : (6 : Int) < (cols.length : Int) := by omega
      simp [slots, n_check_columns, h0, outE, h6, h6', eIx]
    · have h6' : ¬ (6 : Int) < (cols.length : Int) := by omega
      cases e : cols.zipIdx.find? (ccBad cols) with
      | none =>
        rw [e] at lp
        obtain ⟨⟨j, lp⟩, _⟩ := lp
        simp [slots, n_check_columns, h0, h6, h6', enumL]
        rw [lp]
        rfl
      | some p =>
        rw [e] at lp
        obtain ⟨j, lp⟩ := lp
        simp [slots, n_check_columns, h0, h6, h6', enumL]
        rw [lp]
        rfl
end S
set_option maxRecDepth 100000
namespace S
open PySem PySem.Spec L2 G
def inC (C : List Str) (d : D) : Bool := match d with
  | .str y => decide (y ∈ C)
  | _ => false
def isRule (C : List Str) (d : D) : Bool := match d with
  | .tup [a, b] => isCols C a && inC C b
  | _ => false
/-- a rule, maybe: what lies in it can be looked at -/
structure OddR (d : D) : Prop where
  k : kindly d
  i : ∀ a b, d = .tup [a, b] → Odd a ∧ kindly b
theorem isi_tup {d : D} (h : kindly d) (s : Sg) : isiV (fun k => isK k .tup) (.d d) s = .ok (.d (.bl (match d with
    | .tup _ => true
    | _ => false))) s := by
  obtain ⟨h1, h2⟩ := h
  cases d with
  | dT kvs => exact absurd rfl (h2 kvs)
  | ins _ _ => cases h1
  | tupB _ => cases h1
  | _ => rfl
theorem is_rule_ok {Omq : List (Option Cell)} {C : List Str} {d : D} (h : OddR d) : s_is_rule [.d d, .d (lS C)] Omq = .ok (.d (.bl (isRule C d))) Omq := by
  unfold s_is_rule m_is_rule
  rw [u_run]
  cases d with
  | tup xs =>
    match xs, h with
    | [], h => simp [slots, n_is_rule, isi_tup h.k, isRule]
    | [a], h => simp [slots, n_is_rule, isi_tup h.k, isRule]
    | a :: b :: c :: r, h => 
      have : ¬ ((r.length : Int) + 1 + 1 + 1 = 2) := by omega
      simp [slots, n_is_rule, isi_tup h.k, isRule, this]
    | [a, b], h =>
      obtain ⟨ha, hb⟩ := h.i a b rfl
      have g : ∀ s : Sg, callM s_is_columns [.d a, .d (lS C)] s = .ok (.d (.bl (isCols C a))) s := fun s => c_call fun _ => is_columns_ok ha
      have a0 : L2.atI [a, b] 0 = some a := rfl
      have a1 : L2.atI [a, b] 1 = some b := rfl
      cases hc : isCols C a with
      | false => simp [slots, n_is_rule, isi_tup h.k, isRule, a0, a1, g, hc]
      | true =>
        cases eb : asStr b with
        | none =>
          have : inC C b = false := by cases b <;> first | rfl | cases eb
          simp [slots, n_is_rule, isi_tup h.k, isRule, a0, a1, g, hc, isi_str hb eb, this]
        | some y =>
          have : b = .str y := by cases b <;> first | (cases eb; rfl) | cases eb
          subst this
          simp [slots, n_is_rule, isi_tup h.k, isRule, a0, a1, g, hc, inC]
  | _ => simp [slots, n_is_rule, isi_tup h.k, isRule]
/-! ### Table(..) -/
def keyBad (C : List Str) (d : D) : Bool := !(isCols C d) || (match seqOf d with
  | some xs => xs.isEmpty
  | none => true)
def toTup (d : D) : D := match seqOf d with
  | some xs => .tup xs
  | none => d
def toRule (d : D) : D := match d with
  | .tup [a, b] => .tup [toTup a, b]
  | d => d
def firstBad (p : D → Bool) (xs : List D) : Option Nat := (xs.zipIdx.find? fun q => p q.1).map (·.2)
/-- the error, if any -/
def tabErr (nm : D) (cols req uniq rules : List D) : Option Exc :=
  if nameD nm = false then some ⟨"BadName", []⟩ else
  match checkCols cols with
  | some i => some (eIx "BadColumn" i)
  | none => match firstWrong (cols.filterMap asStr) req with
    | some i => some (eIx "BadRequired" i)
    | none => match firstBad (keyBad (cols.filterMap asStr)) uniq with
      | some i => some (eIx "BadKey" i)
      | none => (firstBad (fun d => !(isRule (cols.filterMap asStr) d)) rules).map (eIx "BadRule")
def insT (nm : D) (cols req uniq rules : List D) : List (Str × D) := [("name", nm), ("columns", .tup cols), ("required", .tup req), ("unique", .tup (uniq.map toTup)), ("rules", .tup (rules.map toRule))]
/-- what is passed to Table can be looked at -/
structure OddT (nm : D) (cols req uniq rules : List D) : Prop where
  n : kindly nm ∧ short nm
  c : ∀ d ∈ cols, kindly d ∧ short d
  q : ∀ d ∈ req, kindly d
  u : ∀ d ∈ uniq, Odd d
  r : ∀ d ∈ rules, OddR d
theorem all_strs : ∀ {cols : List D}, (∀ d ∈ cols, ∃ y, d = .str y) → cols = (cols.filterMap asStr).map D.str
  | [], _ => rfl
  | d :: cols, key => by
    obtain ⟨y, rfl⟩ := key d List.mem_cons_self
    have := all_strs fun d hd => key d (List.mem_cons_of_mem _ hd)
    rw [List.filterMap_cons]
    simp only [asStr, List.map_cons]
    rw [← this]
theorem cc_strs {cols : List D} (h : checkCols cols = none) : cols = (cols.filterMap asStr).map D.str := by
  unfold checkCols at h
  split at h
  · cases h
  · split at h
    · cases h
    · have h : cols.zipIdx.find? (ccBad cols) = none := by
        cases e : cols.zipIdx.find? (ccBad cols) with
        | none => rfl
        | some _ => rw [e] at h; cases h
      rw [List.find?_eq_none] at h
      refine all_strs fun d hd => ?_
      obtain ⟨i, hi⟩ := List.mem_iff_getElem?.mp hd
      have := h (d, i) (List.mem_of_getElem? (i := i) (by rw [List.getElem?_zipIdx, hi]; simp))
      cases d with
      | str y => exact ⟨y, rfl⟩
      | _ => exact absurd rfl this
theorem fb_none {p : D → Bool} {xs : List D} (h : firstBad p xs = none) : ∀ d ∈ xs, p d = false := fun d hd => by
  unfold firstBad at h
  have h : xs.zipIdx.find? (fun q => p q.1) = none := by
    cases e : xs.zipIdx.find? (fun q => p q.1) with
    | none => rfl
    | some _ => rw [e] at h; cases h
  rw [List.find?_eq_none] at h
  obtain ⟨i, hi⟩ := List.mem_iff_getElem?.mp hd
  have := h (d, i) (List.mem_of_getElem? (i := i) (by rw [List.getElem?_zipIdx, hi]; simp))
  simpa using this
theorem key_good {C : List Str} {d : D} (h : keyBad C d = false) : ∃ xs, seqOf d = some xs ∧ isCols C d = true := by
  unfold keyBad at h
  cases e : seqOf d with
  | none => rw [e] at h; simp at h
  | some xs =>
    refine ⟨xs, rfl, ?_⟩
    cases q : isCols C d with
    | true => rfl
    | false => rw [q] at h; simp at h
theorem tup_ok {d : D} {xs : List D} (h : seqOf d = some xs) (s : Sg) : tupleF [.d d] s = .ok (.d (toTup d)) s := by
  unfold toTup
  rw [h]
  rcases seqOf_iff h with rfl | rfl
  · exact v_tuple1
  · exact v_tuple2
theorem rule_good {C : List Str} {d : D} (h : isRule C d = true) : ∃ a b xs, d = .tup [a, b] ∧ seqOf a = some xs := by
  unfold isRule at h
  split at h
  · next a b =>
    have ha : isCols C a = true := by
      cases q : isCols C a with
      | true => rfl
      | false => rw [q] at h; simp at h
    unfold isCols at ha
    cases e : seqOf a with
    | none => rw [e] at ha; cases ha
    | some xs => exact ⟨a, b, xs, rfl, e⟩
  · cases h
theorem enum_seq {T : D} {xs : List D} (h : T = .lst xs ∨ T = .tup xs) (s : Sg) : enumD [.d T] s = .ok (xs.zipIdx.map fun p => Val.d (.tup [.int (p.2 : Nat), p.1])) s := by
  rcases h with rfl | rfl <;> rfl
theorem seqD_seq {T : D} {xs : List D} (h : T = .lst xs ∨ T = .tup xs) (s : Sg) : seqD (.d T) s = .ok (xs.map Val.d) s := by
  rcases h with rfl | rfl <;> rfl
theorem tup_seq {T : D} {xs : List D} (h : T = .lst xs ∨ T = .tup xs) (s : Sg) : tupleF [.d T] s = .ok (.d (.tup xs)) s := by
  rcases h with rfl | rfl
  · exact v_tuple1
  · exact v_tuple2
theorem len_seq {T : D} {xs : List D} (h : T = .lst xs ∨ T = .tup xs) (s : Sg) : lenF [.d T] s = .ok (.d (.int xs.length)) s := by
  rcases h with rfl | rfl
  · exact v_len1
  · exact v_len2
theorem ini1 {Omq : List (Option Cell)} {C : List Str} {uniq : List D} (hk : ∀ d ∈ uniq, Odd d) {a0 a1 a3 a4 a5 a6 a9 : Slot} (j : Option Val × Option Val) :
    match firstBad (keyBad C) uniq with
    | some i => ∃ s', loopS (fun x s => bnd ((Tgt.tp [7, 8]).g x s) fun _ s => l_Table_init_1 s) (uniq.zipIdx.map fun p => Val.d (.tup [.int (p.2 : Nat), p.1])) ⟨[a0, a1, .v (.d (lS C)), a3, a4, a5, a6, jk j.1, jk j.2, a9], Omq⟩ = .exc (eIx "BadKey" i) ⟨s', Omq⟩
    | none => ∃ j' : Option Val × Option Val, loopS (fun x s => bnd ((Tgt.tp [7, 8]).g x s) fun _ s => l_Table_init_1 s) (uniq.zipIdx.map fun p => Val.d (.tup [.int (p.2 : Nat), p.1])) ⟨[a0, a1, .v (.d (lS C)), a3, a4, a5, a6, jk j.1, jk j.2, a9], Omq⟩ = .ok .nx ⟨[a0, a1, .v (.d (lS C)), a3, a4, a5, a6, jk j'.1, jk j'.2, a9], Omq⟩ := by
  have lp := loop_EJ (f := fun p : D × Nat => Val.d (.tup [.int (p.2 : Nat), p.1])) (body := fun x s => bnd ((Tgt.tp [7, 8]).g x s) fun _ s => l_Table_init_1 s)
    (fun (_ : Unit) (j : Option Val × Option Val) => ⟨[a0, a1, .v (.d (lS C)), a3, a4, a5, a6, jk j.1, jk j.2, a9], Omq⟩) (fun _ p => if keyBad C p.1 then .inr p.2 else .inl ())
    (fun (i : Nat) j => .exc (eIx "BadKey" i) ⟨[a0, a1, .v (.d (lS C)), a3, a4, a5, a6, jk j.1, jk j.2, a9], Omq⟩) (fun _ _ => trivial) (fun i _ => True) uniq.zipIdx 0 () j
    (fun i p hp _ j _ => by
      obtain ⟨d, n⟩ := p
      obtain ⟨hi, rfl⟩ := zip_at hp
      have od := hk d (List.mem_of_getElem? hi)
      have g : ∀ s : Sg, callM s_is_columns [.d d, .d (lS C)] s = .ok (.d (.bl (isCols C d))) s := fun s => c_call fun _ => is_columns_ok od
      unfold keyBad
      cases hc : isCols C d with
      | false =>
        simp only [Bool.not_false, Bool.true_or, if_true]
        refine ⟨(some (.d (.int n)), some (.d d)), ?_⟩
        unfold l_Table_init_1
        simp [jk, g, hc, eIx]
      | true =>
        obtain ⟨xs, hx⟩ : ∃ xs, seqOf d = some xs := by
          unfold isCols at hc
          cases e : seqOf d with
          | none => rw [e] at hc; cases hc
          | some xs => exact ⟨xs, rfl⟩
        rw [hx]
        have gl := len_seq (seqOf_iff hx)
        cases xs with
        | nil =>
          simp only [Bool.not_true, Bool.false_or, List.isEmpty_nil, if_true]
          refine ⟨(some (.d (.int n)), some (.d d)), ?_⟩
          unfold l_Table_init_1
          simp [jk, g, hc, eIx, gl]
        | cons x xs =>
          simp only [Bool.not_true, Bool.false_or, List.isEmpty_cons]
          refine ⟨⟨(some (.d (.int n)), some (.d d)), ?_⟩, trivial⟩
          have : ¬ (xs.length : Int) + 1 = 0 := by omega
          unfold l_Table_init_1
          simp [jk, g, hc, gl, this]) trivial
  rw [foldE_find (p := fun q : D × Nat => keyBad C q.1)] at lp
  unfold firstBad
  cases e : uniq.zipIdx.find? (fun q => keyBad C q.1) with
  | none => rw [e] at lp; exact lp.1
  | some p =>
    rw [e] at lp
    obtain ⟨j, lp⟩ := lp
    exact ⟨_, lp⟩
theorem ini2 {Omq : List (Option Cell)} {C : List Str} {rules : List D} (hk : ∀ d ∈ rules, OddR d) {a0 a1 a3 a4 a5 a6 a8 : Slot} (j : Option Val × Option Val) :
    match firstBad (fun d => !(isRule C d)) rules with
    | some i => ∃ s', loopS (fun x s => bnd ((Tgt.tp [7, 9]).g x s) fun _ s => l_Table_init_2 s) (rules.zipIdx.map fun p => Val.d (.tup [.int (p.2 : Nat), p.1])) ⟨[a0, a1, .v (.d (lS C)), a3, a4, a5, a6, jk j.1, a8, jk j.2], Omq⟩ = .exc (eIx "BadRule" i) ⟨s', Omq⟩
    | none => ∃ j' : Option Val × Option Val, loopS (fun x s => bnd ((Tgt.tp [7, 9]).g x s) fun _ s => l_Table_init_2 s) (rules.zipIdx.map fun p => Val.d (.tup [.int (p.2 : Nat), p.1])) ⟨[a0, a1, .v (.d (lS C)), a3, a4, a5, a6, jk j.1, a8, jk j.2], Omq⟩ = .ok .nx ⟨[a0, a1, .v (.d (lS C)), a3, a4, a5, a6, jk j'.1, a8, jk j'.2], Omq⟩ := by
  have lp := loop_EJ (f := fun p : D × Nat => Val.d (.tup [.int (p.2 : Nat), p.1])) (body := fun x s => bnd ((Tgt.tp [7, 9]).g x s) fun _ s => l_Table_init_2 s)
    (fun (_ : Unit) (j : Option Val × Option Val) => ⟨[a0, a1, .v (.d (lS C)), a3, a4, a5, a6, jk j.1, a8, jk j.2], Omq⟩) (fun _ p => if !(isRule C p.1) then .inr p.2 else .inl ())
    (fun (i : Nat) j => .exc (eIx "BadRule" i) ⟨[a0, a1, .v (.d (lS C)), a3, a4, a5, a6, jk j.1, a8, jk j.2], Omq⟩) (fun _ _ => trivial) (fun i _ => True) rules.zipIdx 0 () j
    (fun i p hp _ j _ => by
      obtain ⟨d, n⟩ := p
      obtain ⟨hi, rfl⟩ := zip_at hp
      have od := hk d (List.mem_of_getElem? hi)
      have g : ∀ s : Sg, callM s_is_rule [.d d, .d (lS C)] s = .ok (.d (.bl (isRule C d))) s := fun s => c_call fun _ => is_rule_ok od
      cases hc : isRule C d with
      | false =>
        refine ⟨(some (.d (.int n)), some (.d d)), ?_⟩
        unfold l_Table_init_2
        simp [jk, g, hc, eIx]
      | true =>
        refine ⟨⟨(some (.d (.int n)), some (.d d)), ?_⟩, trivial⟩
        unfold l_Table_init_2
        simp [jk, g, hc]) trivial
  rw [foldE_find (p := fun q : D × Nat => !(isRule C q.1))] at lp
  unfold firstBad
  cases e : rules.zipIdx.find? (fun q => !(isRule C q.1)) with
  | none => rw [e] at lp; exact lp.1
  | some p =>
    rw [e] at lp
    obtain ⟨j, lp⟩ := lp
    exact ⟨_, lp⟩
theorem init_ok {Omq : List (Option Cell)} {n : Nat} {nm Q U R : D} {cols req uniq rules : List D} (hn : Omq[n]? = some (some (.ins "Table" []))) (O : OddT nm cols req uniq rules) (hQ : Q = .lst req ∨ Q = .tup req) (hU : U = .lst uniq ∨ U = .tup uniq) (hR : R = .lst rules ∨ R = .tup rules) :
    s_Table_init [.r n, .d nm, .d (.lst cols), .d Q, .d U, .d R] Omq = match tabErr nm cols req uniq rules with
      | some e => .exc e Omq
      | none => .ok (.d .non) (Omq.set n (some (.ins "Table" ((insT nm cols req uniq rules).map fun p => (p.1, Val.d p.2))))) := by
  unfold s_Table_init m_Table_init tabErr
  rw [u_run]
  have g1 : ∀ s : Sg, callM s_is_name [.d nm] s = .ok (.d (.bl (nameD nm))) s := fun s => c_call fun _ => is_name_d O.n.1 O.n.2
  cases h1 : nameD nm with
  | false => simp [slots, n_Table_init, g1, h1]
  | true =>
    simp only [Bool.true_eq_false, if_false]
    cases h2 : checkCols cols with
    | some i =>
      have g2 : ∀ s : Sg, callM s_check_columns [.d (.lst cols)] s = .exc (eIx "BadColumn" i) s := fun s => c_callX fun Omq => by
        rw [check_columns_ok (fun d hd => (O.c d hd).1) (fun d hd => (O.c d hd).2), h2]; rfl
      simp [slots, n_Table_init, g1, h1, g2]
    | none =>
      have g2 : ∀ s : Sg, callM s_check_columns [.d (.lst cols)] s = .ok (.d .non) s := fun s => c_call fun Omq => by
        rw [check_columns_ok (fun d hd => (O.c d hd).1) (fun d hd => (O.c d hd).2), h2]; rfl
      have cs := cc_strs h2
      generalize hC : cols.filterMap asStr = C at cs ⊢
      subst cs
      have g3 : ∀ s : Sg, callM s_first_wrong [.d Q, .d (lS C)] s = .ok (.d (dNat (firstWrong C req))) s := fun s => c_call fun _ => first_wrong_ok hQ O.q
      cases h3 : firstWrong C req with
      | some i => simp [slots, n_Table_init, g1, h1, g2, g3, h3, dNat, eIx]
      | none =>
        dsimp only
        have l1 := ini1 (Omq := Omq) (C := C) O.u (a0 := .v (.r n)) (a1 := .v (.d nm)) (a3 := .v (.d Q)) (a4 := .v (.d U)) (a5 := .v (.d R)) (a6 := .v (.d .non)) (a9 := .no) (none, none)
        have eU := enum_seq hU
        have eR := enum_seq hR
        cases h4 : firstBad (keyBad C) uniq with
        | some i =>
          rw [h4] at l1
          obtain ⟨s', l1⟩ := l1
          simp [slots, n_Table_init, g1, h1, g2, g3, h3, dNat, eU]
          simp at l1
          rw [l1]
          rfl
        | none =>
          rw [h4] at l1
          obtain ⟨j, l1⟩ := l1
          have l2 := ini2 (Omq := Omq) (C := C) O.r (a0 := .v (.r n)) (a1 := .v (.d nm)) (a3 := .v (.d Q)) (a4 := .v (.d U)) (a5 := .v (.d R)) (a6 := .v (.d .non)) (a8 := jk j.2) (j.1, none)
          cases h5 : firstBad (fun d => !(isRule C d)) rules with
          | some i =>
            rw [h5] at l2
            obtain ⟨s', l2⟩ := l2
            simp [slots, n_Table_init, g1, h1, g2, g3, h3, dNat, eU, eR]
            simp at l1 l2
            rw [l1]
            simp [eR]
            rw [l2]
            rfl
          | none =>
            rw [h5] at l2
            obtain ⟨j2, l2⟩ := l2
            simp [slots, n_Table_init, g1, h1, g2, g3, h3, dNat, eU, eR]
            simp at l1 l2
            rw [l1]
            simp [eR]
            rw [l2]
            obtain ⟨hl, hg⟩ := List.getElem?_eq_some_iff.mp hn
            have tQ := tup_seq hQ
            have sU := seqD_seq hU
            have sR := seqD_seq hR
            have cU : ∀ (rhq : List Slot) (Omq : List (Option Cell)), noAcc rhq [8] = true → 8 < rhq.length → compZ 8 (M.pure true) (M.bind (consA (rd 8) (M.pure [])) tupleF) (uniq.map Val.d) ⟨rhq, Omq⟩ = .ok (.d (.lst (uniq.map toTup))) ⟨rhq, Omq⟩ := fun rhq Omq ha hl => compZ_ok toTup ha fun x hx => by
              obtain ⟨xs, hs, _⟩ := key_good (fb_none h4 x hx)
              simp [hl, tup_ok hs]
            have cR : ∀ (rhq : List Slot) (Omq : List (Option Cell)), noAcc rhq [9] = true → 9 < rhq.length → compZ 9 (M.pure true) (tupE (consA (fzM (M.bind (consA (op2 ixV (rd 9) (lit (.int 0))) (M.pure [])) tupleF)) (consA (fzM (op2 ixV (rd 9) (lit (.int 1)))) (M.pure [])))) (rules.map Val.d) ⟨rhq, Omq⟩ = .ok (.d (.lst (rules.map toRule))) ⟨rhq, Omq⟩ := fun rhq Omq ha hl => compZ_ok toRule ha fun x hx => by
              have := fb_none h5 x hx
              obtain ⟨a, b, xs, rfl, hs⟩ := rule_good (C := C) (by simpa using this)
              have a0 : L2.atI [a, b] 0 = some a := rfl
              have a1 : L2.atI [a, b] 1 = some b := rfl
              simp [hl, tup_ok hs, a0, a1, toRule]
            simp [-compZ_map, chgI, hg, hl, putG, tQ, sU, sR, cU, cR, insT]
end S
set_option maxRecDepth 100000
namespace S
open PySem PySem.Spec L2 G
theorem toD_ins {c : Str} {fs : List (Str × D)} : (Cell.ins c (fs.map fun p => (p.1, Val.d p.2))).toD = some (.ins c fs) := by
  unfold Cell.toD
  simp [Function.comp_def]
  have : ∀ l : List (Str × D), (l.map (·.1)).zip (l.map (·.2)) = l := by
    intro l
    induction l with
    | nil => rfl
    | cons p l ih => simp [ih]
  exact this fs
theorem mk_table {s : Sg} {nm Q U R : D} {cols req uniq rules : List D} (pl : Pl s.Omq) (O : OddT nm cols req uniq rules) (hQ : Q = .lst req ∨ Q = .tup req) (hU : U = .lst uniq ∨ U = .tup uniq) (hR : R = .lst rules ∨ R = .tup rules) :
    mkF "Table" s_Table_init [.d nm, .d (.lst cols), .d Q, .d U, .d R] s = match tabErr nm cols req uniq rules with
      | some e => .exc e s
      | none => .ok (.d (.ins "Table" (insT nm cols req uniq rules))) s := by
  have i := init_ok (Omq := s.Omq ++ [some (.ins "Table" [])]) (n := s.Omq.length) (by simp) O hQ hU hR
  unfold mkF
  rw [i]
  cases tabErr nm cols req uniq rules with
  | some e =>
    simp [pl]
    have := pl s.Omq.length
    simp [this]
  | none =>
    have := pl s.Omq.length
    simp [this, toD_ins]
theorem fw_none {C S : List Str} (nd : S.Nodup) (sub : S ⊆ C) : firstWrong C (S.map D.str) = none := by
  unfold firstWrong
  rw [Option.map_eq_none_iff, List.find?_eq_none]
  intro p hp
  obtain ⟨i, hi⟩ := List.mem_iff_getElem?.mp hp
  obtain ⟨h1, h2⟩ := zip_at hi
  rw [List.getElem?_map] at h1
  obtain ⟨y, hy, e⟩ := Option.map_eq_some_iff.mp h1
  obtain ⟨d, n⟩ := p
  dsimp only at e h2
  subst e; subst h2
  unfold fwBad
  dsimp only
  rw [← List.map_take, any_strs]
  have m1 := sub (List.mem_of_getElem? hy)
  have m2 : y ∉ S.take n := fun h => by
    obtain ⟨j, hj⟩ := List.mem_iff_getElem?.mp h
    obtain ⟨a, b⟩ := take_get hj
    have hl := (List.getElem?_eq_some_iff.mp hy).1
    have hl2 := (List.getElem?_eq_some_iff.mp b).1
    have e1 := (List.getElem?_eq_some_iff.mp hy).2
    have e2 := (List.getElem?_eq_some_iff.mp b).2
    exact (List.pairwise_iff_getElem.mp nd j n hl2 hl a) (e2.trans e1.symm)
  simp [m1, m2]
theorem menu_name : ∀ c ∈ menuC, isName c = true := by decide +kernel
theorem fb_all {p : D → Bool} {xs : List D} (h : ∀ d ∈ xs, p d = false) : firstBad p xs = none := by
  unfold firstBad
  rw [Option.map_eq_none_iff, List.find?_eq_none]
  intro q hq
  obtain ⟨i, hi⟩ := List.mem_iff_getElem?.mp hq
  obtain ⟨h1, h2⟩ := zip_at hi
  simp [h q.1 (List.mem_of_getElem? h1)]
theorem cc_none {C : List Str} (nd : C.Nodup) (h0 : 0 < C.length) (h6 : C.length ≤ 6) (hn : ∀ c ∈ C, isName c = true) : checkCols (C.map D.str) = none := by
  unfold checkCols
  have e1 : (C.map D.str).isEmpty = false := by cases C with
    | nil => cases h0
    | cons _ _ => rfl
  rw [e1]
  have e2 : ¬ 6 < (C.map D.str).length := by simp; omega
  simp only [Bool.false_eq_true, if_false, if_neg e2]
  rw [Option.map_eq_none_iff, List.find?_eq_none]
  have fw := fw_none (C := C) nd fun _ h => h
  unfold firstWrong at fw
  rw [Option.map_eq_none_iff, List.find?_eq_none] at fw
  intro p hp
  have f := fw p hp
  obtain ⟨i, hi⟩ := List.mem_iff_getElem?.mp hp
  obtain ⟨h1, h2⟩ := zip_at hi
  rw [List.getElem?_map] at h1
  obtain ⟨y, hy, e⟩ := Option.map_eq_some_iff.mp h1
  obtain ⟨d, n⟩ := p
  dsimp only at e h2
  subst e
  unfold ccBad fwBad at *
  dsimp only at f ⊢
  rw [hn y (List.mem_of_getElem? hy)]
  have m := List.mem_of_getElem? hy
  simp only [m, decide_true, Bool.not_true, Bool.false_or] at f ⊢
  exact f
theorem kindly_str (x : Str) : kindly (.str x) := ⟨rfl, fun _ h => by cases h⟩
theorem odd_lst (xs : List Str) : Odd (lS xs) := ⟨⟨rfl, fun _ h => by cases h⟩, fun ys h d hd => by
  cases h
  obtain ⟨y, _, rfl⟩ := List.mem_map.mp hd
  exact kindly_str y⟩
theorem name_short {x : Str} (h : isName x = true) : short (.str x) := fun y e => by
  cases e
  unfold isName at h
  simp at h
  omega
theorem filter_strs (C : List Str) : (C.map D.str).filterMap asStr = C := by
  induction C with
  | nil => rfl
  | cons x C ih => simp [asStr, ih]
/-- drawn parts make a table -/
theorem good_err {most : Int} (hm : most ≤ 6) {t : Tab} (g : Good most t) (hn : isName t.nm = true) : tabErr (.str t.nm) (t.C.map D.str) (t.Mu.map D.str) (t.U.map dK) (t.R.map dR) = none := by
  have c1 := g.c1
  unfold tabErr
  rw [show nameD (.str t.nm) = true from hn]
  simp only [Bool.true_eq_false, if_false]
  rw [cc_none g.cnd g.c0 (by omega) fun c hc => menu_name c (g.csub hc)]
  dsimp only
  rw [filter_strs, fw_none g.mnd g.msub]
  dsimp only
  rw [fb_all]
  · dsimp only
    rw [fb_all]
    · rfl
    · intro d hd
      obtain ⟨r, hr, rfl⟩ := List.mem_map.mp hd
      obtain ⟨r1, r2, r3⟩ := g.r r hr
      unfold isRule dR
      have : isCols t.C (.lst (r.1.map D.str)) = true := by
        unfold isCols; simp only [seqOf]; rw [fw_none r1 r2]; rfl
      simp [this, inC, r3]
  · intro d hd
    obtain ⟨k, hk, rfl⟩ := List.mem_map.mp hd
    obtain ⟨k1, k2, k3⟩ := g.u k hk
    unfold keyBad dK
    have : isCols t.C (.lst (k.map D.str)) = true := by
      unfold isCols; simp only [seqOf]; rw [fw_none k1 k2]; rfl
    rw [this]
    cases k with
    | nil => cases k3
    | cons _ _ => rfl
theorem good_odd {most : Int} {t : Tab} (g : Good most t) (hn : isName t.nm = true) : OddT (.str t.nm) (t.C.map D.str) (t.Mu.map D.str) (t.U.map dK) (t.R.map dR) := by
  refine ⟨⟨kindly_str _, name_short hn⟩, fun d hd => ?_, fun d hd => ?_, fun d hd => ?_, fun d hd => ?_⟩
  · obtain ⟨y, hy, rfl⟩ := List.mem_map.mp hd
    exact ⟨kindly_str _, name_short (menu_name y (g.csub hy))⟩
  · obtain ⟨y, hy, rfl⟩ := List.mem_map.mp hd
    exact kindly_str _
  · obtain ⟨y, hy, rfl⟩ := List.mem_map.mp hd
    exact odd_lst y
  · obtain ⟨y, hy, rfl⟩ := List.mem_map.mp hd
    refine ⟨⟨rfl, fun _ h => by cases h⟩, fun a b h => ?_⟩
    cases h
    exact ⟨odd_lst _, kindly_str _⟩
theorem good_ins (t : Tab) : D.ins "Table" (insT (.str t.nm) (t.C.map D.str) (t.Mu.map D.str) (t.U.map dK) (t.R.map dR)) = dTab t := by
  unfold insT dTab
  simp [Function.comp_def, toTup, dK, seqOf, toRule, dR, dRule, tS]
theorem table_ok {Omq : List (Option Cell)} {k : Nat} {most : Int} (hm : most ≤ 6) {t : Tab} (g : Good most t) (hn : isName t.nm = true) (pl : Pl Omq) (hk : Omq[k]? = some (some (pC t))) : s_law_table [.r k] Omq = .ok (.d (dTab t)) Omq := by
  unfold s_law_table m_law_table
  rw [u_run]
  have ix : ∀ (i : Int) (rhq : List Slot), ixV (.r k) (.d (.int i)) ⟨rhq, Omq⟩ = (match L2.atI ((vParts t).map Val.d) i with
      | some z => .ok z ⟨rhq, Omq⟩
      | none => .stuck) := fun i rhq => v_ixr hk
  have mk : ∀ rhq : List Slot, mkF "Table" s_Table_init [.d (.str t.nm), .d (.lst (t.C.map D.str)), .d (.lst (t.Mu.map D.str)), .d (.lst (t.U.map dK)), .d (.lst (t.R.map dR))] ⟨rhq, Omq⟩ = .ok (.d (dTab t)) ⟨rhq, Omq⟩ := fun rhq => by
    rw [mk_table (s := ⟨rhq, Omq⟩) pl (good_odd g hn) (.inl rfl) (.inl rfl) (.inl rfl), good_err hm g hn]
    dsimp only
    rw [good_ins]
  have a0 : L2.atI ((vParts t).map Val.d) 0 = some (.d (.str t.nm)) := rfl
  have a1 : L2.atI ((vParts t).map Val.d) 1 = some (.d (.lst (t.C.map D.str))) := rfl
  have a2 : L2.atI ((vParts t).map Val.d) 2 = some (.d (.lst (t.Mu.map D.str))) := rfl
  have a3 : L2.atI ((vParts t).map Val.d) 3 = some (.d (.lst (t.U.map dK))) := rfl
  have a4 : L2.atI ((vParts t).map Val.d) 4 = some (.d (.lst (t.R.map dR))) := rfl
  generalize hF : mkF "Table" s_Table_init = F at mk
  have uk : ∀ (mr mk : M (List Val)) (s : Sg), makeK "Table" 2 3 s_Table_init mr mk s = bnd (mr s) fun xs s => bnd (mk s) fun ys s => if xs.length = 2 ∧ ys.length = 3 then F (xs ++ ys) s else .stuck := fun mr mk s => by rw [u_makeK, hF]
  generalize makeK "Table" 2 3 s_Table_init = Mk at uk ⊢
  have e1 : (consA (fzM (op2 ixV (rd 0) (lit (.int 0)))) (consA (fzM (op2 ixV (rd 0) (lit (.int 1)))) (M.pure []))) ⟨slots n_law_table.length [.r k], Omq⟩ = .ok [.d (.str t.nm), .d (.lst (t.C.map D.str))] ⟨slots n_law_table.length [.r k], Omq⟩ := by
    simp [slots, n_law_table, ix, a0, a1]
  have e2 : (consA (fzM (op2 ixV (rd 0) (lit (.int 2)))) (consA (fzM (op2 ixV (rd 0) (lit (.int 3)))) (consA (fzM (op2 ixV (rd 0) (lit (.int 4)))) (M.pure [])))) ⟨slots n_law_table.length [.r k], Omq⟩ = .ok [.d (.lst (t.Mu.map D.str)), .d (.lst (t.U.map dK)), .d (.lst (t.R.map dR))] ⟨slots n_law_table.length [.r k], Omq⟩ := by
    simp [slots, n_law_table, ix, a2, a3, a4]
  rw [u_retS, uk, e1, bnd_ok, e2, bnd_ok, if_pos ⟨rfl, rfl⟩]
  show outF (bnd (F [.d (.str t.nm), .d (.lst (t.C.map D.str)), .d (.lst (t.Mu.map D.str)), .d (.lst (t.U.map dK)), .d (.lst (t.R.map dR))] ⟨slots n_law_table.length [.r k], Omq⟩) fun x s => bnd (fz x s) fun y s => .ok (.rt y) s) = _
  rw [mk]
  rfl
end S
set_option maxRecDepth 100000
namespace S
open PySem PySem.Spec L2 G
noncomputable section
def n_law_pair : List Str := ["_law_rows", "_law_places", "_law_goal", "_law_j", "_law_i", "_law_place"]
def n_law_broken : List Str := ["_law_parts_here", "_law_rows", "_law_i", "_law_k", "_law_name", "_law_columns", "_law_musts", "_law_uniques", "_law_rulings", "_law_pair_here", "_law_places", "_law_column"]
def n_law_like : List Str := ["_law_actual", "_law_due", "_law_k"]
def l_law_pair_1 : M Fl :=
    (ifS (M.bind (M.bind (consA (compM (iSeq (rd 1)) [5] (.nm 5) (M.pure true) (op2 (eqvV false) (op2 ixV (op2 ixV (rd 0) (rd 4)) (rd 5)) (op2 ixV (op2 ixV (rd 0) (rd 3)) (rd 5)))) (M.pure [])) (qfF fun bs => bs.all id)) truV)
      (seqS (ifS (andT (cmpT ltV (rd 2) (lit (.int 0))) (M.bind (M.bind (consA (compM (iSeq (rd 1)) [5] (.nm 5) (M.pure true) (op2 (isNV true) (op2 ixV (op2 ixV (rd 0) (rd 3)) (rd 5)) (lit .non))) (M.pure [])) (qfF fun bs => bs.all id)) truV))
      (retS (tupE (consA (fzM (rd 4)) (consA (fzM (rd 3)) (M.pure [])))))
      (M.pure .nx))
      (ifS (andT (cmpT geV (rd 2) (lit (.int 0))) (cmpT (eqvV true) (op2 ixV (op2 ixV (rd 0) (rd 4)) (rd 2)) (op2 ixV (op2 ixV (rd 0) (rd 3)) (rd 2))))
      (retS (tupE (consA (fzM (rd 4)) (consA (fzM (rd 3)) (M.pure [])))))
      (M.pure .nx)))
      (M.pure .nx))
def l_law_pair_2 : M Fl :=
    (forS (M.bind (consA (rd 3) (M.pure [])) rng1) (Tgt.g (.nm 4))
      l_law_pair_1)
def m_law_pair : M Fl :=
    (seqS (forS (M.bind (consA (M.bind (consA (rd 0) (M.pure [])) lenF) (M.pure [])) rng1) (Tgt.g (.nm 3))
      l_law_pair_2)
      (retS (lit .non)))
def s_law_pair : SemF := runF n_law_pair.length m_law_pair
def l_law_broken_1 : M Fl :=
    (ifS (andT (cmpT (inV0 false) (op2 ixV (rd 5) (rd 3)) (rd 6)) (cmpT (isNV false) (op2 ixV (op2 ixV (rd 1) (rd 2)) (rd 3)) (lit .non)))
      (retS (tupE (consA (fzM (lit (.str "required"))) (consA (fzM (rd 2)) (consA (fzM (op2 ixV (rd 5) (rd 3))) (M.pure []))))))
      (M.pure .nx))
def l_law_broken_2 : M Fl :=
    (forS (M.bind (consA (M.bind (consA (rd 5) (M.pure [])) lenF) (M.pure [])) rng1) (Tgt.g (.nm 3))
      l_law_broken_1)
def l_law_broken_3 : M Fl :=
    (seqS (setS 9 (callE 3 s_law_pair [] (consA (fzM (rd 1)) (consA (fzM (compM (iSeq (op2 ixV (rd 7) (rd 3))) [11] (.nm 11) (M.pure true) (metE (rd 5) (consA (fzM (rd 11)) (M.pure [])) idxM))) (consA (fzM (M.bind (lit (.int 1)) negV)) (M.pure []))))))
      (ifS (cmpT (isNV true) (rd 9) (lit .non))
      (retS (op2 addV (tupE (consA (fzM (lit (.str "key"))) (consA (fzM (rd 3)) (M.pure [])))) (rd 9)))
      (M.pure .nx)))
def l_law_broken_4 : M Fl :=
    (seqS (setS 10 (compM (iSeq (op2 ixV (op2 ixV (rd 8) (rd 3)) (lit (.int 0)))) [11] (.nm 11) (M.pure true) (metE (rd 5) (consA (fzM (rd 11)) (M.pure [])) idxM)))
      (seqS (setS 9 (callE 3 s_law_pair [] (consA (fzM (rd 1)) (consA (fzM (rd 10)) (consA (fzM (metE (rd 5) (consA (fzM (op2 ixV (op2 ixV (rd 8) (rd 3)) (lit (.int 1)))) (M.pure [])) idxM)) (M.pure []))))))
      (ifS (cmpT (isNV true) (rd 9) (lit .non))
      (retS (op2 addV (tupE (consA (fzM (lit (.str "rule"))) (consA (fzM (rd 3)) (M.pure [])))) (rd 9)))
      (M.pure .nx))))
def m_law_broken : M Fl :=
    (seqS (asgL [4, 5, 6, 7, 8] (rd 0))
      (seqS (forS (M.bind (consA (M.bind (consA (rd 1) (M.pure [])) lenF) (M.pure [])) rng1) (Tgt.g (.nm 2))
      l_law_broken_2)
      (seqS (forS (M.bind (consA (M.bind (consA (rd 7) (M.pure [])) lenF) (M.pure [])) rng1) (Tgt.g (.nm 3))
      l_law_broken_3)
      (seqS (forS (M.bind (consA (M.bind (consA (rd 8) (M.pure [])) lenF) (M.pure [])) rng1) (Tgt.g (.nm 3))
      l_law_broken_4)
      (retS (lit .non))))))
def s_law_broken : SemF := runF n_law_broken.length m_law_broken
def l_law_like_1 (rec : SemF) : M Fl :=
    (ifS (notT (M.bind (callE 2 rec [] (consA (fzM (op2 ixV (rd 0) (rd 2))) (consA (fzM (op2 ixV (rd 1) (rd 2))) (M.pure [])))) truV))
      (retS (lit (.bl false)))
      (M.pure .nx))
def m_law_like (rec : SemF) : M Fl :=
    (seqS (ifS (cmpT (isNV false) (rd 1) (lit .non))
      (retS (op2 (isNV false) (rd 0) (lit .non)))
      (M.pure .nx))
      (seqS (ifS (M.bind (M.bind (rd 1) (isiV fun k => isK k .bl)) truV)
      (retS (andV (M.bind (rd 0) (isiV fun k => isK k .bl)) (op2 (eqvV false) (rd 0) (rd 1))))
      (M.pure .nx))
      (seqS (ifS (M.bind (M.bind (rd 1) (isiV fun k => isK k .int)) truV)
      (retS (andV (M.bind (rd 0) (isiV fun k => isK k .int)) (andV ((M.bind (M.bind (M.bind (rd 0) (isiV fun k => isK k .bl)) tst) fun b => M.pure (.d (.bl (!b))))) (op2 (eqvV false) (rd 0) (rd 1)))))
      (M.pure .nx))
      (seqS (ifS (M.bind (M.bind (rd 1) (isiV fun k => isK k .str)) truV)
      (retS (andV (M.bind (rd 0) (isiV fun k => isK k .str)) (op2 (eqvV false) (rd 0) (rd 1))))
      (M.pure .nx))
      (seqS (ifS (M.bind (M.bind (rd 1) (isiV fun k => isK k .tup)) truV)
      (ifS (orT (notT (M.bind (M.bind (rd 0) (isiV fun k => isK k .tup)) truV)) (cmpT (eqvV true) (M.bind (consA (rd 0) (M.pure [])) lenF) (M.bind (consA (rd 1) (M.pure [])) lenF)))
      (retS (lit (.bl false)))
      (M.pure .nx))
      (ifS (orT (notT (M.bind (M.bind (rd 0) (isiV fun k => isK k .lst)) truV)) (cmpT (eqvV true) (M.bind (consA (rd 0) (M.pure [])) lenF) (M.bind (consA (rd 1) (M.pure [])) lenF)))
      (retS (lit (.bl false)))
      (M.pure .nx)))
      (seqS (forS (M.bind (consA (M.bind (consA (rd 1) (M.pure [])) lenF) (M.pure [])) rng1) (Tgt.g (.nm 2))
      (l_law_like_1 rec))
      (retS (lit (.bl true)))))))))
def s_law_like_n : Nat → SemF
  | 0 => runF n_law_like.length stuck
  | k + 1 => runF n_law_like.length (m_law_like (s_law_like_n k))
def s_law_like : SemF := s_law_like_n 8
end
end S
set_option maxRecDepth 100000
namespace S
open PySem PySem.Spec L2 G
/-! ### rows of values -/
abbrev Row := List (Option Int)
def dV : Option Int → D
  | none => .non
  | some i => .int i
def dRow (r : Row) : D := .tup (r.map dV)
section
variable {s : Sg} {a b : Option Int} {neg : Bool}
@[simp ↓] theorem v_eqdV : eqvV neg (.d (dV a)) (.d (dV b)) s = .ok (.d (.bl (neg != decide (a = b)))) s := by
  cases a with
  | none => cases b with
    | none => rfl
    | some j => rfl
  | some i => cases b with
    | none => rfl
    | some j =>
      show Out.ok (Val.d (.bl (neg != decide (i = j)))) s = _
      simp
@[simp ↓] theorem v_isdV : isNV neg (.d (dV a)) (.d .non) s = .ok (.d (.bl (neg != decide (a = none)))) s := by
  cases a with
  | none => cases neg <;> rfl
  | some i => cases neg <;> rfl
end
/-- the value at a place -/
def cellAt (r : Row) (p : Nat) : Option Int := (r[p]?).getD none
theorem row_at {r : Row} {p : Nat} (h : p < r.length) : L2.atI (r.map dV) (p : Int) = some (dV (cellAt r p)) := by
  rw [G.atI_nat, List.getElem?_map]
  simp [cellAt, h]
def rowAt (rows : List Row) (i : Nat) : Row := (rows[i]?).getD []
theorem rows_at {rows : List Row} {i : Nat} (h : i < rows.length) : L2.atI (rows.map dRow) (i : Int) = some (.tup ((rowAt rows i).map dV)) := by
  rw [G.atI_nat, List.getElem?_map]
  simp [rowAt, h, dRow]
/-- all rows have n places -/
def Wide (n : Nat) (rows : List Row) : Prop := ∀ r ∈ rows, r.length = n
theorem Wide.at_ {n : Nat} {rows : List Row} (h : Wide n rows) {i : Nat} (hi : i < rows.length) : (rowAt rows i).length = n := by
  unfold rowAt
  have : rows[i]? = some rows[i] := by simp [hi]
  rw [this]
  exact h _ (List.getElem_mem hi)
def alikeR (r r' : Row) (places : List Nat) : Bool := places.all fun p => decide (cellAt r p = cellAt r' p)
def fullR (r : Row) (places : List Nat) : Bool := places.all fun p => decide (¬ cellAt r p = none)
/-- rows i and j break a key (no goal), a rule -/
def brk (r r' : Row) (places : List Nat) (goal : Option Nat) : Bool := alikeR r r' places && (match goal with
  | none => fullR r' places
  | some g => decide (¬ cellAt r g = cellAt r' g))
def dGoal : Option Nat → D
  | none => .int (-1)
  | some g => .int (g : Nat)
def dNats (ps : List Nat) : D := .lst (ps.map fun (p : Nat) => D.int (p : Int))
def pairF (rows : List Row) (places : List Nat) (goal : Option Nat) (j : Nat) : Option Nat := (List.range j).find? fun i => brk (rowAt rows i) (rowAt rows j) places goal
def prS (rows : List Row) (places : List Nat) (goal : Option Nat) (j3 j4 : Slot) : List Slot := [.v (.d (.lst (rows.map dRow))), .v (.d (dNats places)), .v (.d (dGoal goal)), j3, j4, .no]
theorem rng_nat (n : Nat) : rng 0 n = (List.range n).map fun (i : Nat) => Val.d (.int (i : Int)) := by
  unfold rng; simp
@[simp ↓] theorem seqD_nats {ps : List Nat} {s : Sg} : seqD (.d (dNats ps)) s = .ok (ps.map fun (p : Nat) => Val.d (.int (p : Int))) s := by
  show Out.ok ((ps.map fun (p : Nat) => D.int (p : Int)).map Val.d) s = _
  simp
theorem pair1 {Omq : List (Option Cell)} {rows : List Row} {places : List Nat} {goal : Option Nat} {n i j : Nat} (W : Wide n rows) (hj : j < rows.length) (hi : i < j) (hp : ∀ p ∈ places, p < n) (hg : ∀ g, goal = some g → g < n) :
    l_law_pair_1 ⟨prS rows places goal (.v (.d (.int j))) (.v (.d (.int i))), Omq⟩ = if brk (rowAt rows i) (rowAt rows j) places goal = true then .ok (.rt (.d (.tup [.int i, .int j]))) ⟨prS rows places goal (.v (.d (.int j))) (.v (.d (.int i))), Omq⟩ else .ok .nx ⟨prS rows places goal (.v (.d (.int j))) (.v (.d (.int i))), Omq⟩ := by
  have hi' : i < rows.length := by omega
  have li := W.at_ hi'
  have lj := W.at_ hj
  have c1 : ∀ x1 x2 : Slot, compZ 5 (M.pure true) (op2 (eqvV false) (op2 ixV (op2 ixV (rd 0) (rd 4)) (rd 5)) (op2 ixV (op2 ixV (rd 0) (rd 3)) (rd 5))) (places.map fun (p : Nat) => Val.d (.int (p : Int))) ⟨[.v (.d (.lst (rows.map dRow))), x1, x2, .v (.d (.int j)), .v (.d (.int i)), .no], Omq⟩ = .ok (.d (.lst ((places.map fun p => decide (cellAt (rowAt rows i) p = cellAt (rowAt rows j) p)).map D.bl))) ⟨[.v (.d (.lst (rows.map dRow))), x1, x2, .v (.d (.int j)), .v (.d (.int i)), .no], Omq⟩ := fun x1 x2 => by
    rw [List.map_map]
    refine compZ_ok _ rfl fun p hx => ?_
    · have hq := hp p hx
      simp [rows_at hi', rows_at hj, row_at (r := rowAt rows i) (p := p) (by omega), row_at (r := rowAt rows j) (p := p) (by omega)]
  have c2 : ∀ x1 x2 : Slot, compZ 5 (M.pure true) (op2 (isNV true) (op2 ixV (op2 ixV (rd 0) (rd 3)) (rd 5)) (lit .non)) (places.map fun (p : Nat) => Val.d (.int (p : Int))) ⟨[.v (.d (.lst (rows.map dRow))), x1, x2, .v (.d (.int j)), .v (.d (.int i)), .no], Omq⟩ = .ok (.d (.lst ((places.map fun p => decide (¬ cellAt (rowAt rows j) p = none)).map D.bl))) ⟨[.v (.d (.lst (rows.map dRow))), x1, x2, .v (.d (.int j)), .v (.d (.int i)), .no], Omq⟩ := fun x1 x2 => by
    rw [List.map_map]
    refine compZ_ok _ rfl fun p hx => ?_
    · have hq := hp p hx
      simp [rows_at hi', rows_at hj, row_at (r := rowAt rows j) (p := p) (by omega)]
  unfold prS
  unfold l_law_pair_1 brk
  have ha' : (places.map fun p => decide (cellAt (rowAt rows i) p = cellAt (rowAt rows j) p)).all id = alikeR (rowAt rows i) (rowAt rows j) places := by
    rw [List.all_map]; rfl
  have hf' : (places.map fun p => decide (¬ cellAt (rowAt rows j) p = none)).all id = fullR (rowAt rows j) places := by
    rw [List.all_map]; rfl
  generalize alikeR (rowAt rows i) (rowAt rows j) places = al at *
  generalize fullR (rowAt rows j) places = fu at *
  generalize (places.map fun p => decide (cellAt (rowAt rows i) p = cellAt (rowAt rows j) p)) = La at *
  generalize (places.map fun p => decide (¬ cellAt (rowAt rows j) p = none)) = Lf at *
  cases al with
  | false => simp [-compZ_map, c1, ha']
  | true =>
    cases goal with
    | none =>
      cases fu with
      | false => simp [-compZ_map, c1, c2, ha', hf', dGoal]
      | true => simp [-compZ_map, c1, c2, ha', hf', dGoal]
    | some g =>
      have := hg g rfl
      have ng : ¬ (g : Int) < 0 := by omega
      have r1 := row_at (r := rowAt rows i) (p := g) (by omega)
      have r2 := row_at (r := rowAt rows j) (p := g) (by omega)
      by_cases he : cellAt (rowAt rows i) g = cellAt (rowAt rows j) g
      · simp [-compZ_map, c1, c2, ha', dGoal, rows_at hi', rows_at hj, r1, r2, he, ng]
      · simp [-compZ_map, c1, c2, ha', dGoal, rows_at hi', rows_at hj, r1, r2, he, ng]
def pairAll (rows : List Row) (places : List Nat) (goal : Option Nat) : Option (Nat × Nat) := (List.range rows.length).findSome? fun j => (pairF rows places goal j).map fun i => (i, j)
def dPair : Option (Nat × Nat) → D
  | none => .non
  | some p => .tup [.int (p.1 : Nat), .int (p.2 : Nat)]
theorem pair2 {Omq : List (Option Cell)} {rows : List Row} {places : List Nat} {goal : Option Nat} {n j : Nat} (W : Wide n rows) (hj : j < rows.length) (hr : rows.length ≤ 1000) (hp : ∀ p ∈ places, p < n) (hg : ∀ g, goal = some g → g < n) (j4 : Slot) :
    match pairF rows places goal j with
    | some i => ∃ s', l_law_pair_2 ⟨prS rows places goal (.v (.d (.int j))) j4, Omq⟩ = .ok (.rt (.d (.tup [.int i, .int j]))) ⟨s', Omq⟩
    | none => ∃ j4', l_law_pair_2 ⟨prS rows places goal (.v (.d (.int j))) j4, Omq⟩ = .ok .nx ⟨prS rows places goal (.v (.d (.int j))) j4', Omq⟩ := by
  have lp := loop_EJ (f := fun i : Nat => Val.d (.int (i : Int))) (body := fun x s => bnd ((Tgt.nm 4).g x s) fun _ s => l_law_pair_1 s)
    (fun (_ : Unit) (z : Slot) => ⟨prS rows places goal (.v (.d (.int j))) z, Omq⟩) (fun _ i => if brk (rowAt rows i) (rowAt rows j) places goal then .inr i else .inl ())
    (fun (i : Nat) z => .ok (.rt (.d (.tup [.int i, .int j]))) ⟨prS rows places goal (.v (.d (.int j))) z, Omq⟩) (fun _ _ => trivial) (fun _ _ => True) (List.range j) 0 () j4
    (fun m i hm _ z _ => by
      have hi : i < j := List.mem_range.mp (List.mem_of_getElem? hm)
      have := pair1 (Omq := Omq) W hj hi hp hg
      cases hb : brk (rowAt rows i) (rowAt rows j) places goal with
      | true =>
        rw [hb] at this
        exact ⟨.v (.d (.int i)), this⟩
      | false =>
        rw [hb] at this
        exact ⟨⟨.v (.d (.int i)), this⟩, trivial⟩) trivial
  rw [foldE_find (p := fun i => brk (rowAt rows i) (rowAt rows j) places goal)] at lp
  unfold l_law_pair_2 pairF
  have hb : -1000000 ≤ (j : Int) ∧ (j : Int) ≤ 1000000 := by omega
  cases e : (List.range j).find? fun i => brk (rowAt rows i) (rowAt rows j) places goal with
  | none =>
    rw [e] at lp
    obtain ⟨⟨z, lp⟩, _⟩ := lp
    refine ⟨z, ?_⟩
    unfold prS at lp ⊢
    simp [v_rng1 hb, rng_nat]
    exact lp
  | some i =>
    rw [e] at lp
    obtain ⟨z, lp⟩ := lp
    refine ⟨prS rows places goal (.v (.d (.int j))) z, ?_⟩
    unfold prS at lp ⊢
    simp [v_rng1 hb, rng_nat]
    exact lp
def toS {γ : Type} : Option γ → Sum Unit γ
  | some c => .inr c
  | none => .inl ()
theorem fold_some {α γ : Type} {f : α → Option γ} : ∀ (xs : List α), foldE (fun (_ : Unit) x => toS (f x)) () xs = toS (xs.findSome? f)
  | [] => rfl
  | x :: xs => by
    unfold foldE
    rw [List.findSome?_cons]
    cases f x with
    | some c => rfl
    | none => exact fold_some xs
theorem pair_ok {Omq : List (Option Cell)} {rows : List Row} {places : List Nat} {goal : Option Nat} {n : Nat} (W : Wide n rows) (hr : rows.length ≤ 1000) (hp : ∀ p ∈ places, p < n) (hg : ∀ g, goal = some g → g < n) :
    s_law_pair [.d (.lst (rows.map dRow)), .d (dNats places), .d (dGoal goal)] Omq = .ok (.d (dPair (pairAll rows places goal))) Omq := by
  have lp := loop_EK (f := fun i : Nat => Val.d (.int (i : Int))) (body := fun x s => bnd ((Tgt.nm 3).g x s) fun _ s => l_law_pair_2 s)
    (fun (_ : Unit) (z : Slot × Slot) => ⟨prS rows places goal z.1 z.2, Omq⟩) (fun _ j => toS ((pairF rows places goal j).map fun i => (i, j)))
    (fun (c : Nat × Nat) (z : List Slot) => .ok (.rt (.d (.tup [.int c.1, .int c.2]))) ⟨z, Omq⟩) (fun _ _ => trivial) (fun _ _ => True) (List.range rows.length) 0 () (.no, .no)
    (fun m j hm _ z _ => by
      have hj : j < rows.length := List.mem_range.mp (List.mem_of_getElem? hm)
      have := pair2 (Omq := Omq) W hj hr hp hg z.2
      cases e : pairF rows places goal j with
      | some i =>
        rw [e] at this
        exact this
      | none =>
        rw [e] at this
        obtain ⟨j4', this⟩ := this
        exact ⟨⟨(.v (.d (.int j)), j4'), this⟩, trivial⟩) trivial
  rw [fold_some (f := fun j => (pairF rows places goal j).map fun i => (i, j))] at lp
  unfold s_law_pair m_law_pair pairAll
  rw [u_run]
  have hb : -1000000 ≤ (rows.length : Int) ∧ (rows.length : Int) ≤ 1000000 := by omega
  cases e : (List.range rows.length).findSome? (fun j => (pairF rows places goal j).map fun i => (i, j)) with
  | none =>
    rw [e] at lp
    obtain ⟨⟨z, lp⟩, _⟩ := lp
    unfold prS at lp
    simp only [u_gnm, bnd_ok] at lp
    simp [slots, n_law_pair, v_rng1 hb, rng_nat]
    rw [lp]
    rfl
  | some c =>
    rw [e] at lp
    obtain ⟨z, lp⟩ := lp
    unfold prS at lp
    simp only [u_gnm, bnd_ok] at lp
    simp [slots, n_law_pair, v_rng1 hb, rng_nat]
    rw [lp]
    rfl
end S
set_option maxRecDepth 100000
namespace S
open PySem PySem.Spec L2 G
/-! ### the parts, in a cell or as data; an own look at rows -/
def PA (Omq : List (Option Cell)) (p : Val) (t : Tab) : Prop := (∃ k, p = .r k ∧ Omq[k]? = some (some (pC t))) ∨ p = .d (.lst (vParts t))
theorem PA.obs {Omq : List (Option Cell)} {p : Val} {t : Tab} (h : PA Omq p t) (rhq : List Slot) : obsL ⟨rhq, Omq⟩ p = some ((vParts t).map Val.d) := by
  rcases h with ⟨k, rfl, hk⟩ | rfl
  · unfold obsL; simp only [hk]; rfl
  · rfl
theorem PA.fz {Omq : List (Option Cell)} {p : Val} {t : Tab} (h : PA Omq p t) (s : Sg) : fz p s = .ok p s := by
  rcases h with ⟨k, rfl, hk⟩ | rfl <;> rfl
theorem PA.ix {Omq : List (Option Cell)} {p : Val} {t : Tab} (h : PA Omq p t) (i : Int) (rhq : List Slot) : ixV p (.d (.int i)) ⟨rhq, Omq⟩ = (match L2.atI ((vParts t).map Val.d) i with
      | some z => .ok z ⟨rhq, Omq⟩
      | none => .stuck) := by
  rcases h with ⟨k, rfl, hk⟩ | rfl
  · exact v_ixr hk
  · rfl
theorem PA.c {Omq : List (Option Cell)} {p : Val} {t : Tab} (h : PA Omq p t) (rhq : List Slot) : ixV p (.d (.int 1)) ⟨rhq, Omq⟩ = .ok (.d (lS t.C)) ⟨rhq, Omq⟩ := by rw [h.ix]; rfl
theorem PA.m {Omq : List (Option Cell)} {p : Val} {t : Tab} (h : PA Omq p t) (rhq : List Slot) : ixV p (.d (.int 2)) ⟨rhq, Omq⟩ = .ok (.d (lS t.Mu)) ⟨rhq, Omq⟩ := by rw [h.ix]; rfl
theorem PA.n {Omq : List (Option Cell)} {p : Val} {t : Tab} (h : PA Omq p t) (rhq : List Slot) : ixV p (.d (.int 0)) ⟨rhq, Omq⟩ = .ok (.d (.str t.nm)) ⟨rhq, Omq⟩ := by rw [h.ix]; rfl
theorem PA.same {k : Nat} {Omq Omq' : List (Option Cell)} {p : Val} {t : Tab} (h : PA Omq p t) (hk : p ≠ .r k) (e : Same k Omq Omq') : PA Omq' p t := by
  rcases h with ⟨j, rfl, hj⟩ | rfl
  · exact .inl ⟨j, rfl, by rw [e.at_ j (fun z => hk (by rw [z]))]; exact hj⟩
  · exact .inr rfl
/-- c's place -/
def plc (C : List Str) (c : Str) : Nat := C.idxOf c
theorem find_str {C : List Str} {c : Str} (h : c ∈ C) : (C.map D.str).findIdx? (fun z => eqF z (.str c)) = some (plc C c) := by
  induction C with
  | nil => cases h
  | cons x C ih =>
    rw [List.map_cons, List.findIdx?_cons]
    unfold plc
    rw [List.idxOf_cons]
    by_cases hx : x = c
    · subst hx
      simp [eqF]
    · have : eqF (.str x) (.str c) = false := by simp [eqF, hx]
      have hb : (x == c) = false := by simp [hx]
      rw [this, hb, ih ((List.mem_cons.mp h).resolve_left (Ne.symm hx))]
      rfl
theorem idx_str {C : List Str} {c : Str} (h : c ∈ C) (s : Sg) : idxM (.d (lS C)) [.d (.str c)] s = .ok (.d (.int (plc C c : Nat))) s := by
  show (match allD ((C.map D.str).map Val.d) with
      | some ds => if flatD (.str c) && ds.all flatD then idxF (fun z => eqF z (.str c)) ds s
        else if (D.str c).plain 60 && plainL 59 ds then idxF (fun z => eqD z (.str c)) ds s else .stuck
      | none => .stuck) = _
  rw [allD_map]
  simp only [flat_str, flatD, Bool.and_self, if_true]
  unfold idxF
  rw [find_str h]
theorem plc_lt {C : List Str} {c : Str} (h : c ∈ C) : plc C c < C.length := List.idxOf_lt_length_of_mem h
def nameAt (C : List Str) (k : Nat) : Str := (C[k]?).getD ""
theorem col_at {C : List Str} {k : Nat} (h : k < C.length) : L2.atI (C.map D.str) (k : Int) = some (.str (nameAt C k)) := by
  rw [G.atI_nat, List.getElem?_map]
  simp [nameAt, h]
def reqF (t : Tab) (rows : List Row) (i k : Nat) : Option D := if decide (nameAt t.C k ∈ t.Mu) && decide (cellAt (rowAt rows i) k = none) then some (.tup [.str "required", .int (i : Nat), .str (nameAt t.C k)]) else none
def keyF (t : Tab) (rows : List Row) (k : Nat) : Option D := (pairAll rows (((t.U[k]?).getD []).map (plc t.C)) none).map fun p => .tup [.str "key", .int (k : Nat), .int (p.1 : Nat), .int (p.2 : Nat)]
def ruleAt (t : Tab) (k : Nat) : List Str × Str := (t.R[k]?).getD ([], "")
def ruleF (t : Tab) (rows : List Row) (k : Nat) : Option D := (pairAll rows ((ruleAt t k).1.map (plc t.C)) (some (plc t.C (ruleAt t k).2))).map fun p => .tup [.str "rule", .int (k : Nat), .int (p.1 : Nat), .int (p.2 : Nat)]
/-- what is broken first -/
def brokenF (t : Tab) (rows : List Row) : Option D :=
  match (List.range rows.length).findSome? fun i => (List.range t.C.length).findSome? (reqF t rows i) with
  | some d => some d
  | none => match (List.range t.U.length).findSome? (keyF t rows) with
    | some d => some d
    | none => (List.range t.R.length).findSome? (ruleF t rows)
def brS (p : Val) (t : Tab) (rows : List Row) (j2 j3 j9 j10 : Slot) : List Slot := [.v p, .v (.d (.lst (rows.map dRow))), j2, j3, .v (.d (.str t.nm)), .v (.d (lS t.C)), .v (.d (lS t.Mu)), .v (.d (.lst (t.U.map dK))), .v (.d (.lst (t.R.map dR))), j9, j10, .no]
section
variable {Omq : List (Option Cell)} {p : Val} {t : Tab} {rows : List Row}
theorem brk1 (W : Wide t.C.length rows) {i k : Nat} (hi : i < rows.length) (hk : k < t.C.length) {j9 j10 : Slot} :
    l_law_broken_1 ⟨brS p t rows (.v (.d (.int i))) (.v (.d (.int k))) j9 j10, Omq⟩ = match reqF t rows i k with
      | some d => .ok (.rt (.d d)) ⟨brS p t rows (.v (.d (.int i))) (.v (.d (.int k))) j9 j10, Omq⟩
      | none => .ok .nx ⟨brS p t rows (.v (.d (.int i))) (.v (.d (.int k))) j9 j10, Omq⟩ := by
  have li := W.at_ hi
  have r1 := rows_at hi
  have r2 := row_at (r := rowAt rows i) (p := k) (by omega)
  have r3 := col_at hk
  unfold l_law_broken_1 brS reqF
  by_cases h1 : nameAt t.C k ∈ t.Mu
  · by_cases h2 : cellAt (rowAt rows i) k = none
    · simp [r1, r2, r3, h1, h2]
    · simp [r1, r2, r3, h1, h2]
  · simp [r1, r2, r3, h1]
theorem brk2 (W : Wide t.C.length rows) (hc : t.C.length ≤ 1000) {i : Nat} (hi : i < rows.length) {j3 j9 j10 : Slot} :
    match (List.range t.C.length).findSome? (reqF t rows i) with
      | some d => ∃ s', l_law_broken_2 ⟨brS p t rows (.v (.d (.int i))) j3 j9 j10, Omq⟩ = .ok (.rt (.d d)) ⟨s', Omq⟩
      | none => ∃ j3', l_law_broken_2 ⟨brS p t rows (.v (.d (.int i))) j3 j9 j10, Omq⟩ = .ok .nx ⟨brS p t rows (.v (.d (.int i))) j3' j9 j10, Omq⟩ := by
  have lp := loop_EK (f := fun i : Nat => Val.d (.int (i : Int))) (body := fun x s => bnd ((Tgt.nm 3).g x s) fun _ s => l_law_broken_1 s)
    (fun (_ : Unit) (z : Slot) => ⟨brS p t rows (.v (.d (.int i))) z j9 j10, Omq⟩) (fun _ k => toS (reqF t rows i k))
    (fun (d : D) (z : List Slot) => .ok (.rt (.d d)) ⟨z, Omq⟩) (fun _ _ => trivial) (fun _ _ => True) (List.range t.C.length) 0 () j3
    (fun m k hm _ z _ => by
      have hk : k < t.C.length := List.mem_range.mp (List.mem_of_getElem? hm)
      have := brk1 (Omq := Omq) (p := p) W hi hk (j9 := j9) (j10 := j10)
      cases e : reqF t rows i k with
      | some d => rw [e] at this; exact ⟨_, this⟩
      | none => rw [e] at this; exact ⟨⟨_, this⟩, trivial⟩) trivial
  rw [fold_some] at lp
  unfold l_law_broken_2
  have hb : -1000000 ≤ (t.C.length : Int) ∧ (t.C.length : Int) ≤ 1000000 := by omega
  cases e : (List.range t.C.length).findSome? (reqF t rows i) with
  | none =>
    rw [e] at lp
    obtain ⟨⟨z, lp⟩, _⟩ := lp
    refine ⟨z, ?_⟩
    unfold brS at lp ⊢
    simp [v_rng1 hb, rng_nat]
    exact lp
  | some d =>
    rw [e] at lp
    obtain ⟨z, lp⟩ := lp
    refine ⟨z, ?_⟩
    unfold brS at lp ⊢
    simp [v_rng1 hb, rng_nat]
    exact lp
/-- keys and rules speak of columns -/
structure Ref (t : Tab) : Prop where
  u : ∀ k ∈ t.U, k ⊆ t.C
  r : ∀ r ∈ t.R, r.1 ⊆ t.C ∧ r.2 ∈ t.C
theorem cIdx {C ks : List Str} (hk : ks ⊆ C) (rhq : List Slot) (h5 : rhq[5]? = some (.v (.d (lS C)))) (h11 : rhq[11]? = some .no) : compZ 11 (M.pure true) (metE (rd 5) (consA (fzM (rd 11)) (M.pure [])) idxM) (ks.map fun c => Val.d (.str c)) ⟨rhq, Omq⟩ = .ok (.d (dNats (ks.map (plc C)))) ⟨rhq, Omq⟩ := by
  have e : dNats (ks.map (plc C)) = .lst (ks.map fun c => D.int (plc C c : Nat)) := by unfold dNats; simp
  rw [e]
  refine compZ_ok _ (by simp [h11]) fun c hc => ?_
  have hl : 11 < rhq.length := (List.getElem?_eq_some_iff.mp h11).1
  have h5' : (rhq.set 11 (.v (.d (.str c))))[5]? = some (.v (.d (lS C))) := by rw [List.getElem?_set_ne (by omega)]; exact h5
  have h11' : (rhq.set 11 (.v (.d (.str c))))[11]? = some (.v (.d (.str c))) := by simp [hl]
  simp only [u_metE, u_rd, h5', bnd_ok, v_isL, u_consA, u_fzM, h11', u_fzD, u_pure, idx_str (hk hc)]
theorem brk3 (W : Wide t.C.length rows) (hr : rows.length ≤ 1000) (Rf : Ref t) {k : Nat} (hk : k < t.U.length) {j2 j9 j10 : Slot} :
    match keyF t rows k with
      | some d => ∃ s', l_law_broken_3 ⟨brS p t rows j2 (.v (.d (.int k))) j9 j10, Omq⟩ = .ok (.rt (.d d)) ⟨s', Omq⟩
      | none => ∃ j9', l_law_broken_3 ⟨brS p t rows j2 (.v (.d (.int k))) j9 j10, Omq⟩ = .ok .nx ⟨brS p t rows j2 (.v (.d (.int k))) j9' j10, Omq⟩ := by
  have hu : t.U[k]? = some t.U[k] := by simp [hk]
  have sub := Rf.u _ (List.getElem_mem hk)
  have a1 : L2.atI (t.U.map dK) (k : Int) = some (lS t.U[k]) := by rw [G.atI_nat, List.getElem?_map, hu]; rfl
  have pl : ∀ q ∈ (t.U[k]).map (plc t.C), q < t.C.length := fun q hq => by
    obtain ⟨c, hc, rfl⟩ := List.mem_map.mp hq
    exact plc_lt (sub hc)
  have g : ∀ s : Sg, callM s_law_pair [.d (.lst (rows.map dRow)), .d (dNats ((t.U[k]).map (plc t.C))), .d (.int (-1))] s = .ok (.d (dPair (pairAll rows ((t.U[k]).map (plc t.C)) none))) s := fun s => c_call fun _ => pair_ok (goal := none) W hr pl (fun _ h => by cases h)
  have cI := fun rhq h5 h11 => cIdx (Omq := Omq) sub rhq h5 h11
  unfold keyF
  rw [hu]
  simp only [Option.getD_some]
  unfold l_law_broken_3 brS
  cases e : pairAll rows ((t.U[k]).map (plc t.C)) none with
  | none =>
    refine ⟨.v (.d .non), ?_⟩
    simp [-compZ_map, a1, Function.comp_def, cI, g, e, dPair, negV]
  | some c =>
    refine ⟨brS p t rows j2 (.v (.d (.int k))) (.v (.d (.tup [.int (c.1 : Nat), .int (c.2 : Nat)]))) j10, ?_⟩
    unfold brS
    simp [-compZ_map, a1, Function.comp_def, cI, g, e, dPair, negV]
theorem brk4 (W : Wide t.C.length rows) (hr : rows.length ≤ 1000) (Rf : Ref t) {k : Nat} (hk : k < t.R.length) {j2 j9 j10 : Slot} :
    match ruleF t rows k with
      | some d => ∃ s', l_law_broken_4 ⟨brS p t rows j2 (.v (.d (.int k))) j9 j10, Omq⟩ = .ok (.rt (.d d)) ⟨s', Omq⟩
      | none => ∃ j9' j10', l_law_broken_4 ⟨brS p t rows j2 (.v (.d (.int k))) j9 j10, Omq⟩ = .ok .nx ⟨brS p t rows j2 (.v (.d (.int k))) j9' j10', Omq⟩ := by
  have hu : t.R[k]? = some t.R[k] := by simp [hk]
  obtain ⟨sub, sub2⟩ := Rf.r _ (List.getElem_mem hk)
  have a1 : L2.atI (t.R.map dR) (k : Int) = some (.tup [lS t.R[k].1, .str t.R[k].2]) := by rw [G.atI_nat, List.getElem?_map, hu]; rfl
  have a2 : L2.atI [lS t.R[k].1, .str t.R[k].2] 0 = some (lS t.R[k].1) := rfl
  have a3 : L2.atI [lS t.R[k].1, .str t.R[k].2] 1 = some (.str t.R[k].2) := rfl
  have pl : ∀ q ∈ (t.R[k]).1.map (plc t.C), q < t.C.length := fun q hq => by
    obtain ⟨c, hc, rfl⟩ := List.mem_map.mp hq
    exact plc_lt (sub hc)
  have g : ∀ s : Sg, callM s_law_pair [.d (.lst (rows.map dRow)), .d (dNats ((t.R[k]).1.map (plc t.C))), .d (.int (plc t.C t.R[k].2 : Nat))] s = .ok (.d (dPair (pairAll rows ((t.R[k]).1.map (plc t.C)) (some (plc t.C t.R[k].2))))) s := fun s => c_call fun _ => pair_ok (goal := some (plc t.C t.R[k].2)) W hr pl (fun _ h => by cases h; exact plc_lt sub2)
  have cI := fun rhq h5 h11 => cIdx (Omq := Omq) sub rhq h5 h11
  have ix := fun s => idx_str sub2 s
  unfold ruleF ruleAt
  rw [hu]
  simp only [Option.getD_some]
  unfold l_law_broken_4 brS
  cases e : pairAll rows ((t.R[k]).1.map (plc t.C)) (some (plc t.C t.R[k].2)) with
  | none =>
    refine ⟨.v (.d .non), .v (.d (dNats ((t.R[k]).1.map (plc t.C)))), ?_⟩
    simp [-compZ_map, a1, a2, a3, Function.comp_def, cI, ix, g, e, dPair]
  | some c =>
    refine ⟨brS p t rows j2 (.v (.d (.int k))) (.v (.d (.tup [.int (c.1 : Nat), .int (c.2 : Nat)]))) (.v (.d (dNats ((t.R[k]).1.map (plc t.C))))), ?_⟩
    unfold brS
    simp [-compZ_map, a1, a2, a3, Function.comp_def, cI, ix, g, e, dPair]
def dOD : Option D → D
  | some d => d
  | none => .non
theorem broken_ok (hp : PA Omq p t) (W : Wide t.C.length rows) (hr : rows.length ≤ 1000) (Rf : Ref t) (hc : t.C.length ≤ 1000) (hu : t.U.length ≤ 1000) (hR : t.R.length ≤ 1000) :
    s_law_broken [p, .d (.lst (rows.map dRow))] Omq = .ok (.d (dOD (brokenF t rows))) Omq := by
  have l1 := loop_EK (f := fun i : Nat => Val.d (.int (i : Int))) (body := fun x s => bnd ((Tgt.nm 2).g x s) fun _ s => l_law_broken_2 s)
    (fun (_ : Unit) (z : Slot × Slot) => ⟨brS p t rows z.1 z.2 .no .no, Omq⟩) (fun _ i => toS ((List.range t.C.length).findSome? (reqF t rows i)))
    (fun (d : D) (z : List Slot) => .ok (.rt (.d d)) ⟨z, Omq⟩) (fun _ _ => trivial) (fun _ _ => True) (List.range rows.length) 0 () (.no, .no)
    (fun m i hm _ z _ => by
      have hi : i < rows.length := List.mem_range.mp (List.mem_of_getElem? hm)
      have := brk2 (Omq := Omq) (p := p) W hc hi (j3 := z.2) (j9 := .no) (j10 := .no)
      cases e : (List.range t.C.length).findSome? (reqF t rows i) with
      | some d => rw [e] at this; exact this
      | none => rw [e] at this; obtain ⟨z', this⟩ := this; exact ⟨⟨(.v (.d (.int i)), z'), this⟩, trivial⟩) trivial
  rw [fold_some (f := fun i => (List.range t.C.length).findSome? (reqF t rows i))] at l1
  have l2 := fun z0 : Slot × Slot => loop_EK (f := fun i : Nat => Val.d (.int (i : Int))) (body := fun x s => bnd ((Tgt.nm 3).g x s) fun _ s => l_law_broken_3 s)
    (fun (_ : Unit) (z : Slot × Slot) => ⟨brS p t rows z0.1 z.1 z.2 .no, Omq⟩) (fun _ k => toS (keyF t rows k))
    (fun (d : D) (z : List Slot) => .ok (.rt (.d d)) ⟨z, Omq⟩) (fun _ _ => trivial) (fun _ _ => True) (List.range t.U.length) 0 () (z0.2, .no)
    (fun m k hm _ z _ => by
      have hk : k < t.U.length := List.mem_range.mp (List.mem_of_getElem? hm)
      have := brk3 (Omq := Omq) (p := p) W hr Rf hk (j2 := z0.1) (j9 := z.2) (j10 := .no)
      cases e : keyF t rows k with
      | some d => rw [e] at this; exact this
      | none => rw [e] at this; obtain ⟨z', this⟩ := this; exact ⟨⟨(.v (.d (.int k)), z'), this⟩, trivial⟩) trivial
  have l3 := fun (z0 : Slot) (z1 : Slot × Slot) => loop_EK (f := fun i : Nat => Val.d (.int (i : Int))) (body := fun x s => bnd ((Tgt.nm 3).g x s) fun _ s => l_law_broken_4 s)
    (fun (_ : Unit) (z : Slot × Slot × Slot) => ⟨brS p t rows z0 z.1 z.2.1 z.2.2, Omq⟩) (fun _ k => toS (ruleF t rows k))
    (fun (d : D) (z : List Slot) => .ok (.rt (.d d)) ⟨z, Omq⟩) (fun _ _ => trivial) (fun _ _ => True) (List.range t.R.length) 0 () (z1.1, z1.2, .no)
    (fun m k hm _ z _ => by
      have hk : k < t.R.length := List.mem_range.mp (List.mem_of_getElem? hm)
      have := brk4 (Omq := Omq) (p := p) W hr Rf hk (j2 := z0) (j9 := z.2.1) (j10 := z.2.2)
      cases e : ruleF t rows k with
      | some d => rw [e] at this; exact this
      | none => rw [e] at this; obtain ⟨z', z'', this⟩ := this; exact ⟨⟨(.v (.d (.int k)), z', z''), this⟩, trivial⟩) trivial
  have b1 : -1000000 ≤ (rows.length : Int) ∧ (rows.length : Int) ≤ 1000000 := by omega
  have b2 : -1000000 ≤ (t.U.length : Int) ∧ (t.U.length : Int) ≤ 1000000 := by omega
  have b3 : -1000000 ≤ (t.R.length : Int) ∧ (t.R.length : Int) ≤ 1000000 := by omega
  have ob := hp.obs
  have fp := hp.fz
  unfold s_law_broken m_law_broken brokenF
  rw [u_run]
  cases e1 : (List.range rows.length).findSome? (fun i => (List.range t.C.length).findSome? (reqF t rows i)) with
  | some d =>
    rw [e1] at l1
    obtain ⟨z, l1⟩ := l1
    unfold brS at l1
    simp only [u_gnm, bnd_ok] at l1
    simp [slots, n_law_broken, fp, ob, vParts, v_rng1 b1, rng_nat, l1, dOD]
  | none =>
    rw [e1] at l1
    obtain ⟨⟨z, l1⟩, _⟩ := l1
    have l2 := l2 z
    rw [fold_some] at l2
    cases e2 : (List.range t.U.length).findSome? (keyF t rows) with
    | some d =>
      rw [e2] at l2
      obtain ⟨z2, l2⟩ := l2
      unfold brS at l1 l2
      simp only [u_gnm, bnd_ok] at l1 l2
      simp [slots, n_law_broken, fp, ob, vParts, v_rng1 b1, v_rng1 b2, rng_nat, l1, l2, dOD]
    | none =>
      rw [e2] at l2
      obtain ⟨⟨z2, l2⟩, _⟩ := l2
      have l3 := l3 z.1 z2
      rw [fold_some] at l3
      cases e3 : (List.range t.R.length).findSome? (ruleF t rows) with
      | some d =>
        rw [e3] at l3
        obtain ⟨z3, l3⟩ := l3
        unfold brS at l1 l2 l3
        simp only [u_gnm, bnd_ok] at l1 l2 l3
        simp [slots, n_law_broken, fp, ob, vParts, v_rng1 b1, v_rng1 b2, v_rng1 b3, rng_nat, l1, l2, l3, dOD]
      | none =>
        rw [e3] at l3
        obtain ⟨⟨z3, l3⟩, _⟩ := l3
        unfold brS at l1 l2 l3
        simp only [u_gnm, bnd_ok] at l1 l2 l3
        simp [slots, n_law_broken, fp, ob, vParts, v_rng1 b1, v_rng1 b2, v_rng1 b3, rng_nat, l1, l2, l3, dOD]
end
end S
set_option maxRecDepth 100000
namespace G
open PySem PySem.Spec L2
/-- the wish, kept closed while the run goes on -/
theorem wp_G {α : Type} {o : Out α} {P : α → Sg → Prop} (Q : α → Sg → Prop) (h : ∀ W : α → Sg → Prop, (∀ a s, Q a s → W a s) → Wp o W) (hq : ∀ a s, Q a s → P a s) : Wp o P := h P hq
end G
namespace S
open PySem PySem.Spec L2 G
/-! ### like -/
mutual
def okD : Nat → D → Bool
  | _, .non => true
  | _, .bl _ => true
  | _, .int _ => true
  | _, .str _ => true
  | n + 1, .tup xs => okL n xs && decide (xs.length ≤ 100000)
  | n + 1, .lst xs => okL n xs && decide (xs.length ≤ 100000)
  | _, _ => false
def okL : Nat → List D → Bool
  | _, [] => true
  | n, x :: xs => okD n x && okL n xs
end
theorem okL_mem {n : Nat} : ∀ {xs : List D}, okL n xs = true → ∀ x ∈ xs, okD n x = true
  | [], _, _, h => by cases h
  | y :: xs, h, x, hx => by
    have h : okD n y = true ∧ okL n xs = true := by simpa [okL] using h
    rcases List.mem_cons.mp hx with rfl | hx
    · exact h.1
    · exact okL_mem h.2 x hx
theorem like_loop {n : Nat} {Omq : List (Option Cell)} {T : D} {xs : List D} (hT : T = .lst xs ∨ T = .tup xs) (ih : ∀ x ∈ xs, ∀ Omq, s_law_like_n n [.d x, .d x] Omq = .ok (.d (.bl true)) Omq) :
    ∃ z : Slot, loopS (fun x s => bnd ((Tgt.nm 2).g x s) fun _ s => l_law_like_1 (s_law_like_n n) s) ((List.range xs.length).map fun (i : Nat) => Val.d (.int (i : Int))) ⟨[.v (.d T), .v (.d T), .no], Omq⟩ = .ok .nx ⟨[.v (.d T), .v (.d T), z], Omq⟩ := by
  have := loop_J (f := fun i : Nat => Val.d (.int (i : Int))) (body := fun x s => bnd ((Tgt.nm 2).g x s) fun _ s => l_law_like_1 (s_law_like_n n) s) (fun (_ : Unit) (z : Slot) => ⟨[.v (.d T), .v (.d T), z], Omq⟩) (fun _ _ => ()) (fun _ => True) (List.range xs.length) () .no
    (fun i hi _ z _ => ⟨⟨.v (.d (.int i)), by
      have hi : i < xs.length := List.mem_range.mp hi
      have g : ∀ s : Sg, callM (s_law_like_n n) [.d xs[i], .d xs[i]] s = .ok (.d (.bl true)) s := fun s => c_call fun Omq => ih _ (List.getElem_mem hi) Omq
      unfold l_law_like_1
      rcases hT with rfl | rfl <;> simp [G.atI_nat, hi, g]⟩, trivial⟩) trivial
  exact this.1
theorem like_self : ∀ (n : Nat) (x : D), okD n x = true → ∀ Omq, s_law_like_n (n + 1) [.d x, .d x] Omq = .ok (.d (.bl true)) Omq := by
  intro n
  induction n with
  | zero =>
    intro x h Omq
    show runF n_law_like.length (m_law_like (s_law_like_n 0)) _ Omq = _
    unfold m_law_like
    rw [u_run]
    cases x with
    | non => simp [slots, n_law_like]
    | bl b => simp [slots, n_law_like]
    | int i => simp [slots, n_law_like]
    | str z => simp [slots, n_law_like]
    | tup xs => simp [okD] at h
    | lst xs => simp [okD] at h
    | dK _ => simp [okD] at h
    | tupB _ => simp [okD] at h
    | dT _ => simp [okD] at h
    | ins _ _ => simp [okD] at h
  | succ n ih =>
    intro x h Omq
    show runF n_law_like.length (m_law_like (s_law_like_n (n + 1))) _ Omq = _
    unfold m_law_like
    rw [u_run]
    cases x with
    | non => simp [slots, n_law_like]
    | bl b => simp [slots, n_law_like]
    | int i => simp [slots, n_law_like]
    | str z => simp [slots, n_law_like]
    | tup xs =>
      have h : okL n xs = true ∧ xs.length ≤ 100000 := by simpa [okD] using h
      have hb : -1000000 ≤ (xs.length : Int) ∧ (xs.length : Int) ≤ 1000000 := by omega
      obtain ⟨z, lp⟩ := like_loop (n := n + 1) (Omq := Omq) (T := .tup xs) (.inr rfl) fun x hx Omq => ih x (okL_mem h.1 x hx) Omq
      simp only [u_gnm, bnd_ok] at lp
      simp [slots, n_law_like, v_rng1 hb, rng_nat, lp]
    | lst xs =>
      have h : okL n xs = true ∧ xs.length ≤ 100000 := by simpa [okD] using h
      have hb : -1000000 ≤ (xs.length : Int) ∧ (xs.length : Int) ≤ 1000000 := by omega
      obtain ⟨z, lp⟩ := like_loop (n := n + 1) (Omq := Omq) (T := .lst xs) (.inl rfl) fun x hx Omq => ih x (okL_mem h.1 x hx) Omq
      simp only [u_gnm, bnd_ok] at lp
      simp [slots, n_law_like, v_rng1 hb, rng_nat, lp]
    | dK _ => simp [okD] at h
    | tupB _ => simp [okD] at h
    | dT _ => simp [okD] at h
    | ins _ _ => simp [okD] at h
theorem okD_mono : ∀ (n : Nat) (x : D), okD n x = true → okD (n + 1) x = true := by
  have key : ∀ (n : Nat), (∀ x, okD n x = true → okD (n + 1) x = true) := by
    intro n
    induction n with
    | zero =>
      intro x h
      cases x <;> first | rfl | (simp [okD] at h)
    | succ n ih =>
      have il : ∀ xs, okL n xs = true → okL (n + 1) xs = true := by
        intro xs
        induction xs with
        | nil => intro _; rfl
        | cons x xs ihx =>
          intro h
          have h : okD n x = true ∧ okL n xs = true := by simpa [okL] using h
          simp [okL, ih x h.1, ihx h.2]
      intro x h
      cases x with
      | tup xs =>
        have h : okL n xs = true ∧ xs.length ≤ 100000 := by simpa [okD] using h
        simp [okD, il xs h.1, h.2]
      | lst xs =>
        have h : okL n xs = true ∧ xs.length ≤ 100000 := by simpa [okD] using h
        simp [okD, il xs h.1, h.2]
      | non => rfl
      | bl _ => rfl
      | int _ => rfl
      | str _ => rfl
      | _ => simp [okD] at h
  exact key
theorem like_ok {x : D} (h : okD 7 x = true) (Omq : List (Option Cell)) : s_law_like [.d x, .d x] Omq = .ok (.d (.bl true)) Omq := like_self 7 x h Omq
end S
set_option maxRecDepth 100000
/-! More rules: texts, try, isinstance of own classes. -/
namespace G
open PySem PySem.Spec L2
section
variable {X : Cx} {B : Base0} {a e o : Expr} {ma mb m : M Val} {mr : M (List Val)} {apos pos p : Pos} {k : Nat}
/-! ### what is never reached -/
theorem fe_stuck : FE X B e stuck := ⟨fun pins s sgq H Q I h => by
  obtain ⟨w, s', _, _, h⟩ := h
  exact h.elim⟩
theorem ft_stuck : FT X B e stuck := ⟨fun pins s sgq H Q I h => by
  obtain ⟨w, s', _, _, h⟩ := h
  exact h.elim⟩
theorem fs_stuck {st : Stmt} : FS X B st stuck := ⟨fun pins s sgq H D I h => by
  obtain ⟨w, s', _, _, h⟩ := h
  exact h.elim⟩
/-! ### join -/
def strsOf : List Val → Option (List Str)
  | [] => some []
  | .d (.str x) :: r => (strsOf r).map (x :: ·)
  | _ :: _ => none
theorem strsOf_ok {K : PySem.W.Frag} {w : Wd} {n : Nat} : ∀ {xs : List Val} {vs : List V} {ys : List Str}, RlVs K w n xs vs → strsOf xs = some ys → vs = ys.map V.str
  | [], _, _, .nil, e => by cases e; rfl
  | x :: xs, _, ys, .cons r rs, e => by
    cases x with
    | d y =>
      cases y with
      | str z =>
        obtain ⟨ys', h, rfl⟩ := Option.map_eq_some_iff.mp (show (strsOf xs).map (z :: ·) = some ys from e)
        cases r
        rw [strsOf_ok rs h]; rfl
      | _ => cases e
    | r _ => cases e
    | s _ => cases e
def joinOk (a : Str) (ys : List Str) : Bool := decide ((ys.map (·.length)).sum + ys.length * a.length ≤ 16777216)
def joinF (x y : Val) : M Val := fun s => match x with
  | .d (.str a) => (match obsQ s y with
    | some xs => (match strsOf xs with
      | some ys => if joinOk a ys then .ok (.d (.str (Txt.join a ys))) s else .stuck
      | none => .stuck)
    | none => .stuck)
  | _ => .stuck
def isS (x : Val) : M Unit := fun s => match x with
  | .d (.str _) => .ok () s
  | _ => .stuck
def joinE (mo me : M Val) : M Val := mo.bind fun x => (isS x).bind fun _ => me.bind fun y => joinF x y
theorem fe_join (ho : FE X B o ma) (he : FE X B e mb) (hs : starEach [e] X.env = [(false, eval e X.env)] := by rfl) (hbase : attributeBase o "join" X.env (eval o X.env) = eval o X.env := by rfl) (hline : (apos.endLine == pos.line) = true := by rfl) :
    FE X B (.Call (.Attribute o "join" apos) [e] [] pos) (joinE ma mb) := by
  refine wkE (pe_join ho he hs hbase hline) fun sgq H Q h => ?_
  obtain ⟨w, s, rfl, I, h⟩ := h
  refine tE.first I h fun x s1 w1 v e1 I1 r1 h1 => ?_
  unfold isS at h1
  split at h1
  · next z =>
    cases r1
    refine ⟨⟨z, rfl⟩, tE.first I1 h1 fun y s2 w2 u e2 I2 r2 h2 => ?_⟩
    unfold joinF at h2
    simp only at h2
    split at h2
    · next xs ex =>
      split at h2
      · next ys ey =>
        split at h2
        · next hok =>
          obtain ⟨q, us, rfl, hq, rs⟩ := obsQ_ok I2 r2 ex
          have := strsOf_ok rs ey
          subst this
          exact ⟨z, q, ys, rfl, rfl, hq, of_decide_eq_true hok, fin0 I2 h2 (Rl.str _)⟩
        · exact h2.elim
      · exact h2.elim
    · exact h2.elim
  · exact h1.elim
/-! ### split -/
def splitOk (a b : Str) : Bool := !(b.length == 0) && decide (a.length ≤ cap)
def splitF (x y : Val) : M Val := fun s => match x, y with
  | .d (.str a), .d (.str b) => if splitOk a b then .ok (.d (.lst ((Txt.split a b).map D.str))) s else .stuck
  | _, _ => .stuck
/-- the same as a cell -/
def splitFC (x y : Val) : M Val := fun s => match x, y with
  | .d (.str a), .d (.str b) => if splitOk a b then newC (.lst ((Txt.split a b).map fun z => Val.d (.str z))) s else .stuck
  | _, _ => .stuck
def splitE (mo me : M Val) : M Val := mo.bind fun x => (isS x).bind fun _ => me.bind fun y => splitF x y
def splitEC (mo me : M Val) : M Val := mo.bind fun x => (isS x).bind fun _ => me.bind fun y => splitFC x y
theorem rls_strs {K : PySem.W.Frag} {F : Hp} : ∀ ys : List Str, Rls K F (ys.map D.str) (ys.map V.str)
  | [] => .nil
  | y :: ys => .cons (.str y) (rls_strs ys)
theorem rlVs_strs {K : PySem.W.Frag} {w : Wd} {n : Nat} : ∀ ys : List Str, RlVs K w n (ys.map fun z => Val.d (.str z)) (ys.map V.str)
  | [] => .nil
  | y :: ys => .cons (Rl.str y) (rlVs_strs ys)
theorem splitOk_ok {a b : Str} (h : splitOk a b = true) : (b.length == 0) = false ∧ a.length + 2 ≤ sizeLine := by
  unfold splitOk at h
  have h : (b.length == 0) = false ∧ a.length ≤ cap := by
    obtain ⟨h1, h2⟩ := Bool.and_eq_true_iff.mp h
    exact ⟨by simpa using h1, of_decide_eq_true h2⟩
  refine ⟨h.1, ?_⟩
  have := h.2
  rw [cap_eq] at this
  rw [sizeLine_eq]
  omega
theorem fe_split (ho : FE X B o ma) (he : FE X B e mb) (hs : starEach [e] X.env = [(false, eval e X.env)] := by rfl) (hbase : attributeBase o "split" X.env (eval o X.env) = eval o X.env := by rfl) (hline : (apos.endLine == pos.line) = true := by rfl) :
    FE X B (.Call (.Attribute o "split" apos) [e] [] pos) (splitE ma mb) := by
  refine wkE (pe_m1 F.slot_str_split F.type_str_split mt_split ho he hs hbase hline) fun sgq H Q h => ?_
  obtain ⟨w, s, rfl, I, h⟩ := h
  refine tE.first I h fun x s1 w1 v e1 I1 r1 h1 => ?_
  unfold isS at h1
  split at h1
  · next z =>
    cases r1
    refine ⟨⟨z, rfl⟩, tE.first I1 h1 fun y s2 w2 u e2 I2 r2 h2 => ?_⟩
    unfold splitF at h2
    split at h2
    · next a b hq =>
      cases hq
      split at h2
      · next hok =>
        cases r2
        obtain ⟨k1, k2⟩ := splitOk_ok hok
        exact ⟨_, _, rfl, rfl, k1, k2, fun q hq => new_l I2 (rls_strs _) h2 hq⟩
      · exact h2.elim
    · exact h2.elim
  · exact h1.elim
theorem fe_splitC (ho : FE X B o ma) (he : FE X B e mb) (hs : starEach [e] X.env = [(false, eval e X.env)] := by rfl) (hbase : attributeBase o "split" X.env (eval o X.env) = eval o X.env := by rfl) (hline : (apos.endLine == pos.line) = true := by rfl) :
    FE X B (.Call (.Attribute o "split" apos) [e] [] pos) (splitEC ma mb) := by
  refine wkE (pe_m1 F.slot_str_split F.type_str_split mt_split ho he hs hbase hline) fun sgq H Q h => ?_
  obtain ⟨w, s, rfl, I, h⟩ := h
  refine tE.first I h fun x s1 w1 v e1 I1 r1 h1 => ?_
  unfold isS at h1
  split at h1
  · next z =>
    cases r1
    refine ⟨⟨z, rfl⟩, tE.first I1 h1 fun y s2 w2 u e2 I2 r2 h2 => ?_⟩
    unfold splitFC at h2
    split at h2
    · next a b hq =>
      cases hq
      split at h2
      · next hok =>
        cases r2
        obtain ⟨k1, k2⟩ := splitOk_ok hok
        exact ⟨_, _, rfl, rfl, k1, k2, fun q hq => newC_ok (c := .lst _) (o := .lst _) I2 (rlVs_strs _) hq h2⟩
      · exact h2.elim
    · exact h2.elim
  · exact h1.elim
/-! ### a text some times -/
def mulS (x y : Val) : M Val := fun s => match x, y with
  | .d (.str z), .d (.int n) => if 0 ≤ n ∧ n ≤ 1 then .ok (.d (.str (if n = 1 then z else Str.empty))) s else .stuck
  | _, _ => .stuck
/-! ### except clauses by a table -/
def exmT (tab : List (Str × Str × Bool)) (c c' : Str) : Option Bool := (tab.find? fun e => decide (e.1 = c) && decide (e.2.1 = c')).map (·.2.2)
def exmB (tab : List (Str × Str × Bool)) (K : PySem.W.Frag) : Bool := tab.all fun e => decide (PySem.W.exmOne K (.ref (He.ga K e.1)) (.ref (He.ga K e.2.1)) = some e.2.2)
theorem exmB_ok {tab : List (Str × Str × Bool)} {K : PySem.W.Frag} (h : exmB tab K = true) (c c' : Str) (b : Bool) (e : exmT tab c c' = some b) : PySem.W.exmOne K (.ref (He.ga K c)) (.ref (He.ga K c')) = some b := by
  unfold exmT at e
  obtain ⟨x, hx, rfl⟩ := Option.map_eq_some_iff.mp e
  have h1 := List.find?_some hx
  have h2 := List.mem_of_find?_eq_some hx
  unfold exmB at h
  rw [List.all_eq_true] at h
  have h3 := of_decide_eq_true (h x h2)
  obtain ⟨a1, a2⟩ := Bool.and_eq_true_iff.mp h1
  rw [of_decide_eq_true a1, of_decide_eq_true a2] at h3
  exact h3
/-! ### isinstance(e, C) of instances -/
def isoB (c c' : Str) (b : Bool) (K : PySem.W.Frag) : Bool := decide (PySem.W.kitOne K (.ref (He.ga K c)) (.ref (He.ga K c')) = some b) && (decide (PySem.W.findIn K (.ref (He.ga K c)) "__class__" = some (some (.builtin "object.__class__"))) &&
  (decide (PySem.W.specialIn K (.builtin "object.__class__") "__get__" = some (some (.builtin "getset_descriptor.__get__"))) && (decide (PySem.W.takesIn K (.builtin "object.__class__") = some true) && decide (PySem.W.mroIn K (He.ga K c) (.type "object") = some true))))
def isoV (c : Str) (b : Bool) (x : Val) : M Val := fun s => match insV s x with
  | some (c', _) => if c' = c then .ok (.d (.bl b)) s else .stuck
  | none => .stuck
theorem fe_iso {c c' : Str} {b : Bool} {p1 : Pos} (hq : isoB c c' b X.K = true) (cl : Cls X.K (He.ga X.K c)) (he : FE X B e m) (hm : X.mg "isinstance" = none) (hc : X.mg c' = some (.ref (He.ga X.K c'))) (hg : Gl X "isinstance" := by rfl) (hx : Gl X c' := by rfl) (hd : (c' == ("__debug__" : Str)) = false := by decide)
    (st : starEach [e, .Name c' p1] X.env = (false, eval e X.env) :: starEach [.Name c' p1] X.env := by rfl) (st2 : starEach [.Name c' p1] X.env = (false, eval (.Name c' p1) X.env) :: starEach [] X.env := by rfl) (np : (backTo pos (starEach [.Name c' p1] X.env)).any (·.1) = false := by rfl) :
    FE X B (.Call (.Name "isinstance" p) [e, .Name c' p1] [] pos) (m.bind (isoV c b)) := by
  unfold isoB at hq
  obtain ⟨q1, hq⟩ := Bool.and_eq_true_iff.mp hq
  obtain ⟨q2, hq⟩ := Bool.and_eq_true_iff.mp hq
  obtain ⟨q3, hq⟩ := Bool.and_eq_true_iff.mp hq
  obtain ⟨q4, q5⟩ := Bool.and_eq_true_iff.mp hq
  refine wkE (pe_callB call_isi hg hm (by decide +kernel) (pa_cons he (pa_cons (pe_glob (v := .ref (He.ga X.K c')) hx hc rfl hd) pa_nil st2) st) (by decide) (by decide) st np) fun sgq H Q h => ?_
  obtain ⟨w, s, rfl, I, h⟩ := h
  refine tE.first I h fun y s1 w1 v e1 I1 r1 h1 => ?_
  unfold isoV at h1
  split at h1
  · next c2 fs ei =>
    split at h1
    · next hc2 =>
      subst hc2
      obtain ⟨a, dx, ws, rfl, ha, _⟩ := insV_ok I1 r1 ei
      exact ⟨.ref a, .ref (He.ga X.K c'), _, _, _, rfl, .own _, .base (.ins ha cl (of_decide_eq_true q2) (of_decide_eq_true q3) (of_decide_eq_true q4) (of_decide_eq_true q5)), of_decide_eq_true q1, fin0 I1 h1 (Rl.bl _)⟩
    · exact h1.elim
  · exact h1.elim
theorem takesQ {Y : Cx} {K : PySem.W.Frag} {B' : Base0} {x : Exc} {n : Nat} {a : Addr} {cls : Value} {d : Option Addr} (q : XcR K B' x n a cls d) : Takes Y B'.W := by
  rw [q.W]; exact takes0
/-! ### running -/
@[simp ↓] theorem u_joinE {s : Sg} : joinE ma mb s = bnd (ma s) fun x s => bnd (isS x s) fun _ s => bnd (mb s) fun y s => joinF x y s := (rfl)
@[simp ↓] theorem u_splitE {s : Sg} : splitE ma mb s = bnd (ma s) fun x s => bnd (isS x s) fun _ s => bnd (mb s) fun y s => splitF x y s := (rfl)
@[simp ↓] theorem u_splitEC {s : Sg} : splitEC ma mb s = bnd (ma s) fun x s => bnd (isS x s) fun _ s => bnd (mb s) fun y s => splitFC x y s := (rfl)
@[simp ↓] theorem u_isS {s : Sg} {z : Str} : isS (.d (.str z)) s = .ok () s := (rfl)
@[simp ↓] theorem v_split {s : Sg} {x y : Str} : splitF (.d (.str x)) (.d (.str y)) s = if splitOk x y = true then .ok (.d (.lst ((Txt.split x y).map D.str))) s else .stuck := (rfl)
@[simp ↓] theorem v_splitC {s : Sg} {x y : Str} : splitFC (.d (.str x)) (.d (.str y)) s = if splitOk x y = true then .ok (.r s.Omq.length) { s with Omq := s.Omq ++ [some (.lst ((Txt.split x y).map fun z => Val.d (.str z)))] } else .stuck := (rfl)
theorem strsOf_map (ys : List Str) : strsOf (ys.map fun z => Val.d (.str z)) = some ys := by
  induction ys with
  | nil => rfl
  | cons y ys ih =>
    show (strsOf (ys.map fun z => Val.d (.str z))).map (y :: ·) = _
    rw [ih]; rfl
@[simp ↓] theorem v_joinl {s : Sg} {x : Str} {ys : List Str} : joinF (.d (.str x)) (.d (.lst (ys.map D.str))) s = if joinOk x ys = true then .ok (.d (.str (Txt.join x ys))) s else .stuck := by
  show (match strsOf ((ys.map D.str).map Val.d) with
      | some ys => if joinOk x ys then Out.ok (Val.d (.str (Txt.join x ys))) s else .stuck
      | none => .stuck) = _
  have : (ys.map D.str).map Val.d = ys.map fun z => Val.d (.str z) := by simp
  rw [this, strsOf_map]
theorem v_joinr {s : Sg} {x : Str} {k : Nat} {ys : List Str} (h : s.Omq[k]? = some (some (.lst (ys.map fun z => Val.d (.str z))))) : joinF (.d (.str x)) (.r k) s = if joinOk x ys = true then .ok (.d (.str (Txt.join x ys))) s else .stuck := by
  show (match obsL s (.r k) with
      | some xs => (match strsOf xs with
        | some ys => if joinOk x ys then Out.ok (Val.d (.str (Txt.join x ys))) s else .stuck
        | none => .stuck)
      | none => .stuck) = _
  unfold obsL
  simp only [h, strsOf_map]
end
end G
set_option maxRecDepth 100000
namespace S
open PySem PySem.Spec L2 G
noncomputable section
def n_law_name_good : List Str := ["_law_word", "_law_letter"]
def n_law_names_wrong : List Str := ["_law_words", "_law_start", "_law_k"]
def n_law_rule_wrong : List Str := ["_law_words", "_law_at"]
def n_law_due : List Str := ["_law_lines", "_law_first", "_law_bare", "_law_word", "_law_wrong", "_law_rulings", "_law_k", "_law_words"]
def n_law_spoil : List Str := ["_law_draws", "_law_lines", "_law_at", "_law_words", "_law_where", "_law_odd", "_law_way", "_law_held"]
def n_law_text : List Str := ["_law_parts_here", "_law_words", "_law_column", "_law_lines", "_law_key", "_law_rule", "_law_word"]
def n_check_names : List Str := ["words", "start", "line", "place"]
def n_plain : List Str := ["word"]
def n_head_of : List Str := ["words", "word"]
def n_rule_of : List Str := ["words", "line", "end", "place"]
def n_read_table : List Str := ["text", "lines", "keys", "rules", "at", "name", "columns", "required", "words", "line"]
def m_law_name_good : M Fl :=
    (retS (andV (chainV leV leV (lit (.int 1)) (M.bind (consA (rd 0) (M.pure [])) lenF) (lit (.int 8))) (M.bind (consA (compM (M.bind (rd 0) strD) [1] (.nm 1) (M.pure true) (op2 (inV0 false) (rd 1) (lit (.str "abcdefghijklmnopqrstuvwxyz")))) (M.pure [])) (qfF fun bs => bs.all id))))
def s_law_name_good : SemF := runF n_law_name_good.length m_law_name_good
def l_law_names_wrong_1 : M Fl :=
    (ifS (notT (M.bind (callE 1 s_law_name_good [] (consA (fzM (op2 ixV (rd 0) (rd 2))) (M.pure []))) truV))
      (retS (op2 addV (rd 2) (lit (.int 1))))
      (M.pure .nx))
def m_law_names_wrong : M Fl :=
    (seqS (ifS (cmpT leV (M.bind (consA (rd 0) (M.pure [])) lenF) (rd 1))
      (retS (op2 addV (rd 1) (lit (.int 1))))
      (M.pure .nx))
      (seqS (forS (M.bind (consA (rd 1) (consA (M.bind (consA (rd 0) (M.pure [])) lenF) (M.pure []))) rng2) (Tgt.g (.nm 2))
      l_law_names_wrong_1)
      (retS (lit (.int 0)))))
def s_law_names_wrong : SemF := runF n_law_names_wrong.length m_law_names_wrong
def l_law_rule_wrong_1 : M Fl :=
    (seqS (ifS (notT (M.bind (callE 1 s_law_name_good [] (consA (fzM (op2 ixV (rd 0) (rd 1))) (M.pure []))) truV))
      (retS (op2 addV (rd 1) (lit (.int 1))))
      (M.pure .nx))
      (setS 1 (op2 addV (rd 1) (lit (.int 1)))))
def m_law_rule_wrong : M Fl :=
    (seqS (setS 1 (lit (.int 1)))
      (seqS (whileS 100 (andT (cmpT ltV (rd 1) (M.bind (consA (rd 0) (M.pure [])) lenF)) (cmpT (eqvV true) (op2 ixV (rd 0) (rd 1)) (lit (.str "->"))))
      l_law_rule_wrong_1)
      (seqS (ifS (cmpT geV (rd 1) (M.bind (consA (rd 0) (M.pure [])) lenF))
      (retS (op2 addV (M.bind (consA (rd 0) (M.pure [])) lenF) (lit (.int 1))))
      (M.pure .nx))
      (seqS (ifS (orT (cmpT geV (op2 addV (rd 1) (lit (.int 1))) (M.bind (consA (rd 0) (M.pure [])) lenF)) (notT (M.bind (callE 1 s_law_name_good [] (consA (fzM (op2 ixV (rd 0) (op2 addV (rd 1) (lit (.int 1))))) (M.pure []))) truV)))
      (retS (op2 addV (rd 1) (lit (.int 2))))
      (M.pure .nx))
      (seqS (ifS (cmpT ltV (op2 addV (rd 1) (lit (.int 2))) (M.bind (consA (rd 0) (M.pure [])) lenF))
      (retS (op2 addV (rd 1) (lit (.int 3))))
      (M.pure .nx))
      (retS (lit (.int 0))))))))
def s_law_rule_wrong : SemF := runF n_law_rule_wrong.length m_law_rule_wrong
def l_law_due_1 : M Fl :=
    (ifS (cmpT (eqvV false) (sliceE (rd 3) (some (M.bind (lit (.int 1)) negV)) none) (lit (.str "!")))
      (exprS (metE (rd 2) (consA (fzM (sliceE (rd 3) none (some (M.bind (lit (.int 1)) negV)))) (M.pure [])) appM))
      (exprS (metE (rd 2) (consA (fzM (rd 3)) (M.pure [])) appM)))
def l_law_due_2 : M Fl :=
    (seqS (setS 7 (splitE (op2 ixV (rd 0) (rd 6)) (lit (.str " "))))
      (seqS (ifS (cmpT (eqvV false) (op2 ixV (rd 7) (lit (.int 0))) (lit (.str "rule")))
      (seqS (setS 5 (lit (.bl true)))
      (setS 4 (callE 1 s_law_rule_wrong [] (consA (fzM (rd 7)) (M.pure [])))))
      (ifS (andT (cmpT (eqvV false) (op2 ixV (rd 7) (lit (.int 0))) (lit (.str "key"))) (notT (M.bind (rd 5) truV)))
      (setS 4 (callE 2 s_law_names_wrong [] (consA (fzM (rd 7)) (consA (fzM (lit (.int 1))) (M.pure [])))))
      (setS 4 (lit (.int 1)))))
      (ifS (cmpT gtV (rd 4) (lit (.int 0)))
      (retS (tupE (consA (fzM (op2 addV (rd 6) (lit (.int 1)))) (consA (fzM (rd 4)) (M.pure [])))))
      (M.pure .nx))))
def m_law_due : M Fl :=
    (seqS (setS 1 (splitE (op2 ixV (rd 0) (lit (.int 0))) (lit (.str " "))))
      (seqS (ifS (cmpT (eqvV true) (op2 ixV (rd 1) (lit (.int 0))) (lit (.str "table")))
      (retS (tupE (consA (fzM (lit (.int 1))) (consA (fzM (lit (.int 1))) (M.pure [])))))
      (M.pure .nx))
      (seqS (ifS (orT (cmpT ltV (M.bind (consA (rd 1) (M.pure [])) lenF) (lit (.int 2))) (notT (M.bind (callE 1 s_law_name_good [] (consA (fzM (op2 ixV (rd 1) (lit (.int 1)))) (M.pure []))) truV)))
      (retS (tupE (consA (fzM (lit (.int 1))) (consA (fzM (lit (.int 2))) (M.pure [])))))
      (M.pure .nx))
      (seqS (setOwn 2 (M.pure []))
      (seqS (forS (iSeq (rd 1)) (Tgt.g (.nm 3))
      l_law_due_1)
      (seqS (setS 4 (callE 2 s_law_names_wrong [] (consA (fzM (rd 2)) (consA (fzM (lit (.int 2))) (M.pure [])))))
      (seqS (ifS (cmpT gtV (rd 4) (lit (.int 0)))
      (retS (tupE (consA (fzM (lit (.int 1))) (consA (fzM (rd 4)) (M.pure [])))))
      (M.pure .nx))
      (seqS (setS 5 (lit (.bl false)))
      (seqS (forS (M.bind (consA (lit (.int 1)) (consA (M.bind (consA (rd 0) (M.pure [])) lenF) (M.pure []))) rng2) (Tgt.g (.nm 6))
      l_law_due_2)
      (retS (lit .non)))))))))))
def s_law_due : SemF := runF n_law_due.length m_law_due
def m_law_spoil : M Fl :=
    (seqS (setS 2 (callE 2 s_law_draw [] (consA (fzM (rd 0)) (consA (fzM (M.bind (consA (rd 1) (M.pure [])) lenF)) (M.pure [])))))
      (seqS (setS 3 (splitEC (op2 ixV (rd 1) (rd 2)) (lit (.str " "))))
      (seqS (setS 4 (callE 2 s_law_draw [] (consA (fzM (rd 0)) (consA (fzM (M.bind (consA (rd 3) (M.pure [])) lenF)) (M.pure [])))))
      (seqS (setS 5 (lstE (consA (fzM (lit (.str ""))) (consA (fzM (lit (.str "x"))) (consA (fzM (lit (.str "A"))) (consA (fzM (lit (.str "x!"))) (consA (fzM (lit (.str "x!!"))) (consA (fzM (lit (.str "!"))) (consA (fzM (lit (.str "->"))) (consA (fzM (lit (.str "key"))) (consA (fzM (lit (.str "rule"))) (consA (fzM (lit (.str "table"))) (consA (fzM (lit (.str "toolongxx"))) (consA (fzM (lit (.str "lost"))) (M.pure [])))))))))))))))
      (seqS (setS 6 (callE 2 s_law_draw [] (consA (fzM (rd 0)) (consA (fzM (lit (.int 8))) (M.pure [])))))
      (seqS (ifS (cmpT leV (rd 6) (lit (.int 1)))
      (setIx (op2 ixV (rd 5) (callE 2 s_law_draw [] (consA (fzM (rd 0)) (consA (fzM (M.bind (consA (rd 5) (M.pure [])) lenF)) (M.pure []))))) (rd 3) (rd 4))
      (M.pure .nx))
      (seqS (ifS (cmpT (eqvV false) (rd 6) (lit (.int 2)))
      (exprS (metE (rd 3) (consA (fzM (rd 4)) (M.pure [])) popM))
      (M.pure .nx))
      (seqS (ifS (cmpT (eqvV false) (rd 6) (lit (.int 3)))
      (exprS (metE (rd 3) (consA (fzM (rd 4)) (consA (fzM (op2 ixV (rd 5) (callE 2 s_law_draw [] (consA (fzM (rd 0)) (consA (fzM (M.bind (consA (rd 5) (M.pure [])) lenF)) (M.pure [])))))) (M.pure []))) insM))
      (M.pure .nx))
      (seqS (setIx (joinE (lit (.str " ")) (rd 3)) (rd 1) (rd 2))
      (seqS (ifS (cmpT (eqvV false) (rd 6) (lit (.int 4)))
      (exprS (metE (rd 1) (consA (fzM (rd 2)) (consA (fzM (op2 ixV (lstE (consA (fzM (lit (.str ""))) (consA (fzM (lit (.str "key"))) (consA (fzM (lit (.str "rule"))) (consA (fzM (lit (.str "rule x"))) (consA (fzM (lit (.str "rule -> x"))) (consA (fzM (lit (.str "key x y"))) (consA (fzM (lit (.str "table a x"))) (M.pure []))))))))) (callE 2 s_law_draw [] (consA (fzM (rd 0)) (consA (fzM (lit (.int 7))) (M.pure [])))))) (M.pure []))) insM))
      (M.pure .nx))
      (seqS (ifS (cmpT (eqvV false) (rd 6) (lit (.int 5)))
      (setIx (op2 addV (op2 ixV (rd 1) (rd 2)) (lit (.str " "))) (rd 1) (rd 2))
      (M.pure .nx))
      (seqS (ifS (cmpT (eqvV false) (rd 6) (lit (.int 6)))
      (seqS (setS 7 (metE (rd 1) (consA (fzM (rd 2)) (M.pure [])) popM))
      (exprS (metE (rd 1) (consA (fzM (callE 2 s_law_draw [] (consA (fzM (rd 0)) (consA (fzM (op2 addV (M.bind (consA (rd 1) (M.pure [])) lenF) (lit (.int 1)))) (M.pure []))))) (consA (fzM (rd 7)) (M.pure []))) insM)))
      (M.pure .nx))
      (ifS (cmpT (eqvV false) (rd 6) (lit (.int 7)))
      (exprS (metE (rd 1) (consA (fzM (op2 ixV (lstE (consA (fzM (lit (.str ""))) (consA (fzM (lit (.str "rule x -> x"))) (consA (fzM (lit (.str "key x"))) (M.pure []))))) (callE 2 s_law_draw [] (consA (fzM (rd 0)) (consA (fzM (lit (.int 3))) (M.pure [])))))) (M.pure [])) appM))
      (M.pure .nx))))))))))))))
def s_law_spoil : SemF := runF n_law_spoil.length m_law_spoil
def l_law_text_1 : M Fl :=
    (seqS (setS 6 (rd 2))
      (seqS (ifS (cmpT (inV0 false) (rd 2) (op2 ixV (rd 0) (lit (.int 2))))
      (setS 6 (op2 addV (rd 2) (lit (.str "!"))))
      (M.pure .nx))
      (exprS (metE (rd 1) (consA (fzM (rd 6)) (M.pure [])) appM))))
def l_law_text_2 : M Fl :=
    (exprS (metE (rd 3) (consA (fzM (joinE (lit (.str " ")) (op2 addV (lstE (consA (fzM (lit (.str "key"))) (M.pure []))) (rd 4)))) (M.pure [])) appM))
def l_law_text_3 : M Fl :=
    (exprS (metE (rd 3) (consA (fzM (joinE (lit (.str " ")) (op2 addV (op2 addV (lstE (consA (fzM (lit (.str "rule"))) (M.pure []))) (op2 ixV (rd 5) (lit (.int 0)))) (lstE (consA (fzM (lit (.str "->"))) (consA (fzM (op2 ixV (rd 5) (lit (.int 1)))) (M.pure []))))))) (M.pure [])) appM))
def m_law_text : M Fl :=
    (seqS (setOwn 1 (consA (fzM (lit (.str "table"))) (consA (fzM (op2 ixV (rd 0) (lit (.int 0)))) (M.pure []))))
      (seqS (forS (iSeq (op2 ixV (rd 0) (lit (.int 1)))) (Tgt.g (.nm 2))
      l_law_text_1)
      (seqS (setS 3 (lstC (consA (fzM (joinE (lit (.str " ")) (rd 1))) (M.pure []))))
      (seqS (forS (iSeq (op2 ixV (rd 0) (lit (.int 3)))) (Tgt.g (.nm 4))
      l_law_text_2)
      (seqS (forS (iSeq (op2 ixV (rd 0) (lit (.int 4)))) (Tgt.g (.nm 5))
      l_law_text_3)
      (retS (rd 3)))))))
def s_law_text : SemF := runF n_law_text.length m_law_text
def l_check_names_1 : M Fl :=
    (ifS (notT (M.bind (callE 1 s_is_name [] (consA (fzM (op2 ixV (rd 0) (rd 3))) (M.pure []))) truV))
      (raiseS "BadText" ["line", "word"] (consA (fzM (rd 2)) (consA (fzM (op2 addV (rd 3) (lit (.int 1)))) (M.pure []))))
      (M.pure .nx))
def m_check_names : M Fl :=
    (seqS (ifS (cmpT leV (M.bind (consA (rd 0) (M.pure [])) lenF) (rd 1))
      (raiseS "BadText" ["line", "word"] (consA (fzM (rd 2)) (consA (fzM (op2 addV (rd 1) (lit (.int 1)))) (M.pure []))))
      (M.pure .nx))
      (forS (M.bind (consA (rd 1) (consA (M.bind (consA (rd 0) (M.pure [])) lenF) (M.pure []))) rng2) (Tgt.g (.nm 3))
      l_check_names_1))
def s_check_names : SemF := runF n_check_names.length m_check_names
def m_plain : M Fl :=
    (seqS (ifS (cmpT (eqvV false) (sliceE (rd 0) (some (M.bind (lit (.int 1)) negV)) none) (lit (.str "!")))
      (retS (sliceE (rd 0) none (some (M.bind (lit (.int 1)) negV))))
      (M.pure .nx))
      (retS (rd 0)))
def s_plain : SemF := runF n_plain.length m_plain
def m_head_of : M Fl :=
    (seqS (ifS (cmpT (eqvV true) (op2 ixV (rd 0) (lit (.int 0))) (lit (.str "table")))
      (raiseS "BadText" ["line", "word"] (consA (fzM (lit (.int 1))) (consA (fzM (lit (.int 1))) (M.pure []))))
      (M.pure .nx))
      (seqS (ifS (orT (cmpT ltV (M.bind (consA (rd 0) (M.pure [])) lenF) (lit (.int 2))) (notT (M.bind (callE 1 s_is_name [] (consA (fzM (op2 ixV (rd 0) (lit (.int 1)))) (M.pure []))) truV)))
      (raiseS "BadText" ["line", "word"] (consA (fzM (lit (.int 1))) (consA (fzM (lit (.int 2))) (M.pure []))))
      (M.pure .nx))
      (seqS (exprS (callE 3 s_check_names [] (consA (fzM (compM (iSeq (rd 0)) [1] (.nm 1) (M.pure true) (callE 1 s_plain [] (consA (fzM (rd 1)) (M.pure []))))) (consA (fzM (lit (.int 2))) (consA (fzM (lit (.int 1))) (M.pure []))))))
      (retS (tupE (consA (fzM (op2 ixV (rd 0) (lit (.int 1)))) (consA (fzM (compM (iSeq (sliceE (rd 0) (some (lit (.int 2))) none)) [1] (.nm 1) (M.pure true) (callE 1 s_plain [] (consA (fzM (rd 1)) (M.pure []))))) (consA (fzM (compM (iSeq (sliceE (rd 0) (some (lit (.int 2))) none)) [1] (.nm 1) (cmpT (eqvV true) (callE 1 s_plain [] (consA (fzM (rd 1)) (M.pure []))) (rd 1)) (callE 1 s_plain [] (consA (fzM (rd 1)) (M.pure []))))) (M.pure [])))))))))
def s_head_of : SemF := runF n_head_of.length m_head_of
def l_rule_of_1 : M Fl :=
    (ifS (notT (M.bind (callE 1 s_is_name [] (consA (fzM (op2 ixV (rd 0) (rd 3))) (M.pure []))) truV))
      (raiseS "BadText" ["line", "word"] (consA (fzM (rd 1)) (consA (fzM (op2 addV (rd 3) (lit (.int 1)))) (M.pure []))))
      (M.pure .nx))
def m_rule_of : M Fl :=
    (seqS (setS 2 (M.bind (consA (rd 0) (M.pure [])) lenF))
      (seqS (ifS (cmpT (inV0 false) (lit (.str "->")) (rd 0))
      (setS 2 (metE (rd 0) (consA (fzM (lit (.str "->"))) (M.pure [])) idxM))
      (M.pure .nx))
      (seqS (forS (M.bind (consA (lit (.int 1)) (consA (rd 2) (M.pure []))) rng2) (Tgt.g (.nm 3))
      l_rule_of_1)
      (seqS (ifS (cmpT (eqvV false) (rd 2) (M.bind (consA (rd 0) (M.pure [])) lenF))
      (raiseS "BadText" ["line", "word"] (consA (fzM (rd 1)) (consA (fzM (op2 addV (rd 2) (lit (.int 1)))) (M.pure []))))
      (M.pure .nx))
      (seqS (exprS (callE 3 s_check_names [] (consA (fzM (sliceE (rd 0) none (some (op2 addV (rd 2) (lit (.int 2)))))) (consA (fzM (op2 addV (rd 2) (lit (.int 1)))) (consA (fzM (rd 1)) (M.pure []))))))
      (seqS (ifS (cmpT gtV (M.bind (consA (rd 0) (M.pure [])) lenF) (op2 addV (rd 2) (lit (.int 2))))
      (raiseS "BadText" ["line", "word"] (consA (fzM (rd 1)) (consA (fzM (op2 addV (rd 2) (lit (.int 3)))) (M.pure []))))
      (M.pure .nx))
      (retS (tupE (consA (fzM (sliceE (rd 0) (some (lit (.int 1))) (some (rd 2)))) (consA (fzM (op2 ixV (rd 0) (op2 addV (rd 2) (lit (.int 1))))) (M.pure [])))))))))))
def s_rule_of : SemF := runF n_rule_of.length m_rule_of
def l_read_table_1 : M Fl :=
    (seqS (setS 8 (op2 ixV (rd 1) (rd 4)))
      (ifS (andT (cmpT (eqvV false) (op2 ixV (rd 8) (lit (.int 0))) (lit (.str "key"))) (notT (M.bind (rd 3) truV)))
      (seqS (exprS (callE 3 s_check_names [] (consA (fzM (rd 8)) (consA (fzM (lit (.int 1))) (consA (fzM (op2 addV (rd 4) (lit (.int 1)))) (M.pure []))))))
      (exprS (metE (rd 2) (consA (fzM (sliceE (rd 8) (some (lit (.int 1))) none)) (M.pure [])) appM)))
      (ifS (cmpT (eqvV false) (op2 ixV (rd 8) (lit (.int 0))) (lit (.str "rule")))
      (exprS (metE (rd 3) (consA (fzM (callE 2 s_rule_of [] (consA (fzM (rd 8)) (consA (fzM (op2 addV (rd 4) (lit (.int 1)))) (M.pure []))))) (M.pure [])) appM))
      (raiseS "BadText" ["line", "word"] (consA (fzM (op2 addV (rd 4) (lit (.int 1)))) (consA (fzM (lit (.int 1))) (M.pure [])))))))
def m_read_table : M Fl :=
    (seqS (setS 1 (compM (iSeq (splitE (rd 0) (lit (.str "\n")))) [9] (.nm 9) (M.pure true) (splitE (rd 9) (lit (.str " ")))))
      (seqS (asgS (.tp [5, 6, 7]) (callE 1 s_head_of [] (consA (fzM (op2 ixV (rd 1) (lit (.int 0)))) (M.pure []))))
      (seqS (setOwn 2 (M.pure []))
      (seqS (setOwn 3 (M.pure []))
      (seqS (forS (M.bind (consA (lit (.int 1)) (consA (M.bind (consA (rd 1) (M.pure [])) lenF) (M.pure []))) rng2) (Tgt.g (.nm 4))
      l_read_table_1)
      (retS (makeK "Table" 2 3 s_Table_init (consA (fzM (rd 5)) (consA (fzM (rd 6)) (M.pure []))) (consA (fzM (rd 7)) (consA (fzM (rd 2)) (consA (fzM (rd 3)) (M.pure [])))))))))))
def s_read_table : SemF := runF n_read_table.length m_read_table
end
end S
set_option maxRecDepth 100000
/-! Own ==, a text some times. -/
namespace G
open PySem PySem.Spec L2
section
variable {X : Cx} {B : Base0} {k k' : Nat} {f : Addr} {fd : FuncData} {ps : List Str} {c : Str} {sem : SemF}
def rOwn (C : Addr) (sp : Sp) : R2 := fun x y H Q => ∃ a b dx dy fs gs, x = .ref a ∧ y = .ref b ∧ H a = some (.ins C dx fs) ∧ H b = some (.ins C dy gs) ∧ sp [.ref a, .ref b] H (fun v H' => (∃ t, v = .bl t) ∧ Q v H') (fun _ _ _ => False)
theorem op_own {C : Addr} (hm : Meth X.K C "__eq__" f) (F : FnG X k f fd ps sem) (rm : Room k X.A) (bn : Binds X.K fd ps []) : OpR X (compareOp .Eq) (rOwn C (spF X.K ps.length sem)) := by
  intro pins s sgq H x y v u Q I rx ry hq
  obtain ⟨a, b, dx, dy, fs, gs, rfl, rfl, ha, hb, hs⟩ := hq
  cases rx
  cases ry
  obtain ⟨mA, J, _⟩ := ins_get I.hok ha
  obtain ⟨mB, J', _⟩ := ins_get I.hok hb
  obtain ⟨od, J, _⟩ := J.look
  obtain ⟨od', J', _⟩ := J'.look
  obtain ⟨m, hF⟩ := I.fr
  show wpAny (model X.prog X.w) X.A (richCompare .Eq (.ref a) (.ref b)) (EP X pins sgq Q) X.xe s
  refine PySem.W.cmp_K (op := .Eq) (tb := .ref C) rm.units0 hF I.ok.mod.kin J J'.type (by simp [PySem.W.notFirst]) hm.at_ hm.fn ?_
  refine wpAny_mono (run_fn (us := [.ref a, .ref b]) (vs := [.ref a, .ref b]) (dvs := []) (ds := []) F rm bn .nil (E := fun _ _ _ => False) ?_ I (.cons rfl (.cons rfl .nil)) hs) (fun z s' h => ?_) fun _ _ x => x
  · intro pins sgq H s e s' I hc
    obtain ⟨_, _, _, _, _, _, _, _, _, _, _, _, hE⟩ := hc
    exact hE.elim
  · obtain ⟨v, H', I', rv, ⟨t, rfl⟩, q⟩ := h
    cases rv
    exact ⟨.bl t, H', I', rfl, q⟩
def ownV (c : Str) (sem : SemF) (x y : Val) : M Val := fun s => match x, y with
  | .s _, _ => .stuck
  | _, .s _ => .stuck
  | x, y => (match insV s x, insV s y with
    | some (c1, _), some (c2, _) => if c1 = c ∧ c2 = c then (match sem [x, y] s.Omq with
      | .ok (.d (.bl b)) Omq' => .ok (.d (.bl b)) { s with Omq := Omq' }
      | _ => .stuck) else .stuck
    | _, _ => .stuck)
theorem o_own (hm : Meth X.K (He.ga X.K c) "__eq__" (He.fAd X.K (c, some "__eq__"))) (R : FnR X.prog X.w X.K X.mg X.base k (c, some "__eq__") ps sem []) (rm : Room k' X.A) (le : k ≤ k') (hp : ps.length = 2 := by rfl) : OpF X B (compareOp .Eq) (ownV c sem) := by
  obtain ⟨fd, ds, dvs, F, b, v, r⟩ := R.ex
  have r0 := r (fun _ => none)
  cases r0
  cases v
  refine ⟨_, op_own hm F (rm.mono le) b, fun sgq w s x y v u Q I rx ry h => ?_⟩
  unfold ownV at h
  split at h
  · exact h.elim
  · exact h.elim
  · next n1 n2 =>
    split at h
    · next c1 f1 c2 f2 e1 e2 =>
      split at h
      · next hc =>
        obtain ⟨rfl, rfl⟩ := hc
        obtain ⟨a, dx, ws, rfl, ha, _⟩ := insV_ok I rx e1
        obtain ⟨a2, dx2, ws2, rfl, ha2, _⟩ := insV_ok I ry e2
        have qx : RlV X.K w s.Omq.length x (.ref a) := by
          cases x with
          | d y => exact rx
          | r y => exact rx
          | s y => exact absurd rfl (n1 y)
        have qy : RlV X.K w s.Omq.length y (.ref a2) := by
          cases y with
          | d y => exact ry
          | r y => exact ry
          | s y => exact absurd rfl (n2 y)
        split at h
        · next bb Omq' e =>
          refine ⟨a, a2, _, _, _, _, rfl, rfl, ha, ha2, w, s.Omq, [x, y], rfl, I.sim, .cons qx (.cons qy .nil), by rw [hp]; rfl, ?_⟩
          unfold PoF
          rw [e]
          intro w' v S st rv
          have hv := rv
          cases hv
          exact ⟨⟨_, rfl⟩, h w' st.stx (I.after S st) _ (RlS.of rv)⟩
        · exact h.elim
      · exact h.elim
    · exact h.elim
end
section
variable {X : Cx} {B : Base0}
def rMul : R2 := fun x y H Q => ∃ z n, x = .str z ∧ y = .int n ∧ (0 ≤ n ∧ n ≤ 1) ∧ Q (.str (if n = 1 then z else Str.empty)) H
theorem op_mulS : OpR X (binaryOp .Mult) rMul := by
  intro pins s sgq H x y v u Q I rx ry hq
  obtain ⟨z, n, rfl, rfl, hn, q⟩ := hq
  obtain ⟨t, rfl⟩ := rx
  obtain ⟨t2, rfl⟩ := ry
  have ok : MulOk z n := by
    refine ⟨by simp; omega, fun h1 h2 => ?_, fun h1 h2 => ?_⟩ <;>
    · exfalso
      have : n = 1 := by omega
      rw [this] at h2
      cases h2
  refine SB.mul ok fun t' k => ?_
  have e : Txt.mul z n = if n = 1 then z else Str.empty := by
    unfold Txt.mul
    by_cases h1 : n = 1
    · simp [h1]
    · have : n < 1 := by omega
      simp [this, h1]
  rw [e]
  exact ⟨.str _, H, I.tok _, ⟨t', rfl⟩, q⟩
theorem o_mulS : OpF X B (binaryOp .Mult) mulS := ⟨_, op_mulS, fun sgq w s x y v u Q I rx ry h => by
  unfold mulS at h
  split at h
  · split at h
    · next hn => cases rx; cases ry; exact ⟨_, _, rfl, rfl, hn, fin0 I h (.str _)⟩
    · exact h.elim
  · exact h.elim⟩
end
end G
set_option maxRecDepth 100000
/-! Dicts. -/
namespace G
open PySem PySem.Spec L2
section
variable {X : Cx} {B : Base0} {k : Nat} {e f o i v : Expr} {mo me mf mi mv : M Val} {pos p apos tpos : Pos}
/-! ### d[k], d.get(k, x) -/
def dGetV (x y : Val) : M (Option Val) := fun s => match y with
  | .d y => (match obsD s x with
    | some o => (match obGet o y with
      | some g => .ok g s
      | none => .stuck)
    | none => .stuck)
  | _ => .stuck
theorem dGetV_ok {K : PySem.W.Frag} {β : Type} {w : Wd} {s : Sg} {sgq : St} {x y : Val} {vx vy : V} {k : Option Val → M β} {P : β → Sg → Wd → Prop} (I : IN K B w s sgq) (rx : RlS K w s.Omq.length sgq x vx) (ry : RlS K w s.Omq.length sgq y vy) (h : Endz K B w s sgq ((dGetV x y s).bind k) P) :
    ∃ a, vx = .ref a ∧ ((DGet w.H a vy none ∧ Endz K B w s sgq (k none s) P) ∨ ∃ z vz, DGet w.H a vy (some vz) ∧ RlV K w s.Omq.length z vz ∧ Endz K B w s sgq (k (some z) s) P) := by
  unfold dGetV at h
  split at h
  · split at h
    · next ob eo =>
      split at h
      · next g eg =>
        obtain ⟨a, rfl, ho⟩ := obsD_ok I rx eo
        refine ⟨a, rfl, ?_⟩
        rcases obGet_ok I ho ry eg with ⟨rfl, hg⟩ | ⟨z, v', rfl, hg, rv⟩
        · exact .inl ⟨hg, h⟩
        · exact .inr ⟨z, v', hg, rv, h⟩
      · exact h.elim
    · exact h.elim
  · exact h.elim
def dixV (x y : Val) : M Val := (dGetV x y).bind fun g => match g with
  | some z => M.pure z
  | none => stuck
theorem fe_dget (rm : Room k X.A) (ho : FE X B o mo) (hi : FE X B i mi) (hs : NoSl i := by exact fun _ _ => rfl) : FE X B (.Subscript o i pos) (op2 dixV mo mi) := by
  refine wkE (pe_dget (hu_of rm) ho hi hs) fun sgq H Q h => ?_
  obtain ⟨w, s, rfl, I, h⟩ := h
  refine tE.first I h fun x s1 w1 vx e1 I1 r1 h1 => ?_
  refine tE.first I1 h1 fun y s2 w2 vy e2 I2 r2 h2 => ?_
  obtain ⟨a, rfl, ⟨_, q⟩ | ⟨z, vz, hg, rz, q⟩⟩ := dGetV_ok I2 (r1.ext e2.ext) r2 h2
  · exact q.elim
  · exact ⟨a, vz, rfl, hg, q w2 (Stx.refl _ _ _) I2 vz (RlS.of rz)⟩
/-- o is a dict -/
def isDm (x : Val) : M Unit := fun s => match obsD s x with
  | some _ => .ok () s
  | none => .stuck
theorem isDm_ok {K : PySem.W.Frag} {β : Type} {w : Wd} {s : Sg} {sgq : St} {x : Val} {v : V} {k : Unit → M β} {P : β → Sg → Wd → Prop} (I : IN K B w s sgq) (r : RlS K w s.Omq.length sgq x v) (h : Endz K B w s sgq ((isDm x s).bind k) P) : ∃ a, v = .ref a ∧ IsD w.H a ∧ Endz K B w s sgq (k () s) P := by
  unfold isDm at h
  split at h
  · next ob e =>
    obtain ⟨a, rfl, ho⟩ := obsD_ok I r e
    refine ⟨a, rfl, ?_, h⟩
    cases ob with
    | K kvs => obtain ⟨kws, hr, _⟩ := ho; exact .inl ⟨kws, hr⟩
    | T kvs => obtain ⟨kws, hr, _⟩ := ho; exact .inr ⟨kws, hr⟩
  · exact h.elim
def dgetE (mo me mf : M Val) : M Val := mo.bind fun x => (isDm x).bind fun _ => me.bind fun y => mf.bind fun z => (dGetV x y).bind fun g => M.pure (g.getD z)
theorem fe_dget2 (rm : Room k X.A) (ho : FE X B o mo) (he : FE X B e me) (hf : FE X B f mf) (m : M2 X o "get" apos e f pos) : FE X B (.Call (.Attribute o "get" apos) [e, f] [] pos) (dgetE mo me mf) := by
  refine wkE (pe_dget2 (hu_of rm) ho he hf m) fun sgq H Q h => ?_
  obtain ⟨w, s, rfl, I, h⟩ := h
  refine tE.first I h fun x s1 w1 vx e1 I1 r1 h1 => ?_
  obtain ⟨a, rfl, hd, h1⟩ := isDm_ok I1 r1 h1
  refine ⟨a, rfl, hd, tE.first I1 h1 fun y s2 w2 vy e2 I2 r2 h2 => ?_⟩
  refine tE.first I2 h2 fun z s3 w3 vz e3 I3 r3 h3 => ?_
  obtain ⟨a', ea, ⟨hg, q⟩ | ⟨z', vz', hg, rz, q⟩⟩ := dGetV_ok I3 (r1.ext (e2.trans e3).ext) (r2.ext e3.ext) h3
  · cases ea
    exact ⟨none, hg, q w3 (Stx.refl _ _ _) I3 vz r3⟩
  · cases ea
    exact ⟨some vz', hg, q w3 (Stx.refl _ _ _) I3 vz' (RlS.of rz)⟩
/-! ### {} -/
def dNewK : M Val := newC (.dK [])
def dNewT : M Val := newC (.dT [])
theorem fe_dnewK : FE X B (.Dict [] [] pos) dNewK := by
  refine wkE pe_dnewK fun sgq H Q h => ?_
  obtain ⟨w, s, rfl, I, h⟩ := h
  exact fun p hp => newC_ok (c := .dK []) (o := .dK []) I ⟨rfl, .nil⟩ hp h
theorem fe_dnewT : FE X B (.Dict [] [] pos) dNewT := by
  refine wkE pe_dnewT fun sgq H Q h => ?_
  obtain ⟨w, s, rfl, I, h⟩ := h
  exact fun p hp => newC_ok (c := .dT []) (o := .dT []) I ⟨rfl, .nil⟩ hp h
/-- frozen at once -/
theorem fe_dnewTd : FE X B (.Dict [] [] pos) (lit (.dT [])) := by
  refine wkE pe_dnewT fun sgq H Q h => ?_
  obtain ⟨w, s, rfl, I, h⟩ := h
  intro p hp
  obtain ⟨J, st⟩ := I.frz (o := .dT []) hp
  exact h _ st J (.ref p) (Rl.dT (kws := []) upd_same rfl .nil)
theorem fe_dnewKd : FE X B (.Dict [] [] pos) (lit (.dK [])) := by
  refine wkE pe_dnewK fun sgq H Q h => ?_
  obtain ⟨w, s, rfl, I, h⟩ := h
  intro p hp
  obtain ⟨J, st⟩ := I.frz (o := .dK []) hp
  exact h _ st J (.ref p) (Rl.dK (kws := []) upd_same rfl .nil)
def setOwnC (i : Nat) (c : Cell) : M Fl := fun s => .ok .nx { s with rhq := s.rhq.set i (.acc c) }
theorem fs_ownDK (i : Nat) {x : Str} {pos' p2 : Pos} (nd : X.N.Nodup) (hl : X.env.scope.names.lookup x = some .local ∨ X.env.scope.names.lookup x = some .cell := by first | exact Or.inl rfl | exact Or.inr rfl) (hi : X.N[i]? = some x := by rfl)
    (hs : swapsWith (.Dict [] [] p2) (some (.Name x pos')) pos.line X.env = pure false := by rfl) (hf : X.fn x = true ∨ X.env.scope.names.lookup x = some .local := by first | exact .inl rfl | exact .inr rfl | assumption) : FS X B (.Assign [.Name x pos'] (.Dict [] [] p2) pos) (setOwnC i (.dK [])) := by
  refine ⟨fun pins sh sgq H D J h => ?_⟩
  refine (ps_set (i := i) nd hi hl pe_dnewK hs hf).run pins sh sgq H D J ?_
  obtain ⟨w, s, rfl, I, h⟩ := h
  have lsgq : i < sgq.length := by rw [J.len]; exact (List.getElem?_eq_some_iff.mp hi).1
  exact fun p hp => h _ _ Wd.put_ext (I.own (c := .dK []) (o := .dK []) hp ⟨rfl, .nil⟩ lsgq)
theorem fs_ownDT (i : Nat) {x : Str} {pos' p2 : Pos} (nd : X.N.Nodup) (hl : X.env.scope.names.lookup x = some .local ∨ X.env.scope.names.lookup x = some .cell := by first | exact Or.inl rfl | exact Or.inr rfl) (hi : X.N[i]? = some x := by rfl)
    (hs : swapsWith (.Dict [] [] p2) (some (.Name x pos')) pos.line X.env = pure false := by rfl) (hf : X.fn x = true ∨ X.env.scope.names.lookup x = some .local := by first | exact .inl rfl | exact .inr rfl | assumption) : FS X B (.Assign [.Name x pos'] (.Dict [] [] p2) pos) (setOwnC i (.dT [])) := by
  refine ⟨fun pins sh sgq H D J h => ?_⟩
  refine (ps_set (i := i) nd hi hl pe_dnewT hs hf).run pins sh sgq H D J ?_
  obtain ⟨w, s, rfl, I, h⟩ := h
  have lsgq : i < sgq.length := by rw [J.len]; exact (List.getElem?_eq_some_iff.mp hi).1
  exact fun p hp => h _ _ Wd.put_ext (I.own (c := .dT []) (o := .dT []) hp ⟨rfl, .nil⟩ lsgq)
/-! ### d[k] = v -/
def setK {κ α : Type} [DecidableEq κ] (kvs : List (κ × α)) (k : κ) (v : α) : List (κ × α) :=
  if (kvs.any fun kv => decide (kv.1 = k)) = true then kvs.map (fun kv => if kv.1 = k then (kv.1, v) else kv) else kvs ++ [(k, v)]
theorem any_fst {κ α β : Type} [DecidableEq κ] {k : κ} : ∀ {kvs : List (κ × α)} {kws : List (κ × β)}, kvs.map (·.1) = kws.map (·.1) → (kvs.any fun kv => decide (kv.1 = k)) = kws.any fun kv => decide (kv.1 = k)
  | [], [], _ => rfl
  | [], _ :: _, h => by simp at h
  | _ :: _, [], h => by simp at h
  | p :: kvs, q :: kws, h => by
    simp only [List.map_cons, List.cons.injEq] at h
    simp only [List.any_cons, h.1, any_fst h.2]
theorem upd_rel {κ : Type} [DecidableEq κ] {K : PySem.W.Frag} {w : Wd} {n : Nat} {k : κ} {z : Val} {v : V} (r : RlV K w n z v) : ∀ {kvs : List (κ × Val)} {kws : List (κ × V)}, kvs.map (·.1) = kws.map (·.1) → RlVs K w n (kvs.map (·.2)) (kws.map (·.2)) →
    (kvs.map fun kv => if kv.1 = k then (kv.1, z) else kv).map (·.1) = (kws.map fun kv => if kv.1 = k then (kv.1, v) else kv).map (·.1) ∧ RlVs K w n ((kvs.map fun kv => if kv.1 = k then (kv.1, z) else kv).map (·.2)) ((kws.map fun kv => if kv.1 = k then (kv.1, v) else kv).map (·.2))
  | [], [], _, _ => ⟨rfl, .nil⟩
  | [], _ :: _, h, _ => by simp at h
  | _ :: _, [], h, _ => by simp at h
  | p :: kvs, q :: kws, h, rs => by
    simp only [List.map_cons, List.cons.injEq] at h
    cases rs with
    | cons r1 r2 =>
      obtain ⟨h1, h2⟩ := upd_rel r h.2 r2
      simp only [List.map_cons]
      by_cases e : p.1 = k
      · have e' : q.1 = k := h.1 ▸ e
        rw [if_pos e, if_pos e']
        exact ⟨by rw [h1, h.1], .cons r h2⟩
      · have e' : ¬ q.1 = k := h.1 ▸ e
        rw [if_neg e, if_neg e']
        exact ⟨by rw [h1, h.1], .cons r1 h2⟩
theorem setK_rel {κ : Type} [DecidableEq κ] {K : PySem.W.Frag} {w : Wd} {n : Nat} {k : κ} {z : Val} {v : V} (r : RlV K w n z v) {kvs : List (κ × Val)} {kws : List (κ × V)} (h : kvs.map (·.1) = kws.map (·.1)) (rs : RlVs K w n (kvs.map (·.2)) (kws.map (·.2))) :
    (setK kvs k z).map (·.1) = (putK kws k v).map (·.1) ∧ RlVs K w n ((setK kvs k z).map (·.2)) ((putK kws k v).map (·.2)) := by
  unfold setK putK
  rw [any_fst h]
  split
  · exact upd_rel r h rs
  · refine ⟨by simp [h], ?_⟩
    rw [List.map_append, List.map_append]
    exact rs.append (.cons r .nil)
theorem keys_ok {K : PySem.W.Frag} {w : Wd} {Omq : List (Option Cell)} {y : D} {u : V} {k : List Key} (S : Sim K w Omq) (r : Rl K w.F y u) (ek : y.keys = some k) : ∃ b, u = .ref b ∧ w.H b = some (.tup (k.map kV)) := by
  cases y with
  | tup ds =>
    cases r with
    | tup ha rd =>
      rename_i b vs
      cases ds with
      | nil => cases ek
      | cons d0 ds =>
      have hv := keysL_ok rd ek
      have : w.F b = some (.tup (k.map kV)) := by
        rcases ha with ha | ⟨ha, _⟩
        · rw [← hv]; exact ha
        · rw [ha] at rd; cases rd
      rcases S.fz b _ this with q | ⟨q, _⟩
      · exact ⟨b, rfl, q⟩
      · cases q
  | _ => cases ek
def chgD (x y z : Val) : M Val := fun s => match y with
  | .d y => (match x with
    | .r n => (match s.Omq[n]? with
      | some (some (.dK kvs)) => (match y.key with
        | some k => if kvs.length < cap then .ok (.d .non) { s with Omq := s.Omq.set n (some (.dK (setK kvs k z))) } else .stuck
        | none => .stuck)
      | some (some (.dT kvs)) => (match y.keys with
        | some k => if kvs.length < cap then .ok (.d .non) { s with Omq := s.Omq.set n (some (.dT (setK kvs k z))) } else .stuck
        | none => .stuck)
      | _ => .stuck)
    | .s i => (match s.rhq[i]? with
      | some (.acc (.dK kvs)) => (match y.key with
        | some k => if kvs.length < cap then .ok (.d .non) { s with rhq := s.rhq.set i (.acc (.dK (setK kvs k z))) } else .stuck
        | none => .stuck)
      | some (.acc (.dT kvs)) => (match y.keys with
        | some k => if kvs.length < cap then .ok (.d .non) { s with rhq := s.rhq.set i (.acc (.dT (setK kvs k z))) } else .stuck
        | none => .stuck)
      | _ => .stuck)
    | _ => .stuck)
  | _ => .stuck
theorem chgD_ok {K : PySem.W.Frag} {w : Wd} {s : Sg} {sgq : St} {x y z : Val} {vx vy vz : V} {P : Val → Sg → Wd → Prop} (I : IN K B w s sgq) (rx : RlS K w s.Omq.length sgq x vx) (ry : RlS K w s.Omq.length sgq y vy) (rz : RlV K w s.Omq.length z vz) (h : Endz K B w s sgq (chgD x y z s) P) :
    ∃ a H', vx = .ref a ∧ DPut w.H a vy vz H' ∧ ∃ s' w', w'.H = H' ∧ Stx sgq w s w' s' ∧ IN K B w' s' sgq ∧ P (.d .non) s' w' := by
  unfold chgD at h
  split at h
  · split at h
    · next n =>
      obtain ⟨hn, rfl⟩ := rx
      split at h
      · next kvs e =>
        split at h
        · next k ek =>
          split at h
          · next hl =>
            obtain ⟨o, ho, _, hc⟩ := I.sim.cell n _ e
            cases o with
            | dK kws =>
              obtain ⟨hk, rs⟩ := hc
              have hu := key_ok ry ek
              have nr := setK_rel (k := k) rz hk rs
              obtain ⟨J, st⟩ := I.put_cell (c' := .dK (setK kvs k z)) (o := .dK (putK kws k vz)) e nr
              have ll : kws.length < sizeLine := by have := congrArg List.length hk; simp at this; rw [← this]; exact Nat.lt_of_lt_of_le hl (by rw [sizeLine_eq]; decide)
              exact ⟨_, _, rfl, .inl ⟨kws, k, ho, hu, ll, rfl⟩, _, _, rfl, st, J, h _ st J⟩
            | _ => exact hc.elim
          · exact h.elim
        · exact h.elim
      · next kvs e =>
        split at h
        · next k ek =>
          split at h
          · next hl =>
            obtain ⟨o, ho, _, hc⟩ := I.sim.cell n _ e
            cases o with
            | dT kws =>
              obtain ⟨hk, rs⟩ := hc
              obtain ⟨b, hb, hu⟩ := keys_ok I.sim ry ek
              have nr := setK_rel (k := k) rz hk rs
              obtain ⟨J, st⟩ := I.put_cell (c' := .dT (setK kvs k z)) (o := .dT (putK kws k vz)) e nr
              have ll : kws.length < sizeLine := by have := congrArg List.length hk; simp at this; rw [← this]; exact Nat.lt_of_lt_of_le hl (by rw [sizeLine_eq]; decide)
              exact ⟨_, _, rfl, .inr ⟨kws, k, b, ho, hb, hu, ll, rfl⟩, _, _, rfl, st, J, h _ st J⟩
            | _ => exact hc.elim
          · exact h.elim
        · exact h.elim
      · exact h.elim
    · next i =>
      have r : sgq[i]? = some (some vx) := rx
      split at h
      · next kvs e =>
        split at h
        · next k ek =>
          split at h
          · next hl =>
            obtain ⟨a, e1, ⟨o, ho, hc⟩, _⟩ := I.acc i _ e
            rw [r] at e1; cases e1
            cases o with
            | dK kws =>
              obtain ⟨hk, rs⟩ := hc
              have hu := key_ok ry ek
              have nr := setK_rel (k := k) rz hk rs
              obtain ⟨J, st⟩ := I.put_acc (c' := .dK (setK kvs k z)) (o := .dK (putK kws k vz)) e r nr
              have ll : kws.length < sizeLine := by have := congrArg List.length hk; simp at this; rw [← this]; exact Nat.lt_of_lt_of_le hl (by rw [sizeLine_eq]; decide)
              exact ⟨_, _, rfl, .inl ⟨kws, k, ho, hu, ll, rfl⟩, _, _, rfl, st, J, h _ st J⟩
            | _ => exact hc.elim
          · exact h.elim
        · exact h.elim
      · next kvs e =>
        split at h
        · next k ek =>
          split at h
          · next hl =>
            obtain ⟨a, e1, ⟨o, ho, hc⟩, _⟩ := I.acc i _ e
            rw [r] at e1; cases e1
            cases o with
            | dT kws =>
              obtain ⟨hk, rs⟩ := hc
              obtain ⟨b, hb, hu⟩ := keys_ok I.sim ry ek
              have nr := setK_rel (k := k) rz hk rs
              obtain ⟨J, st⟩ := I.put_acc (c' := .dT (setK kvs k z)) (o := .dT (putK kws k vz)) e r nr
              have ll : kws.length < sizeLine := by have := congrArg List.length hk; simp at this; rw [← this]; exact Nat.lt_of_lt_of_le hl (by rw [sizeLine_eq]; decide)
              exact ⟨_, _, rfl, .inr ⟨kws, k, b, ho, hb, hu, ll, rfl⟩, _, _, rfl, st, J, h _ st J⟩
            | _ => exact hc.elim
          · exact h.elim
        · exact h.elim
      · exact h.elim
    · exact h.elim
  · exact h.elim
def dPutS (mv mo mi : M Val) : M Fl := (fzM mv).bind fun z => mo.bind fun x => mi.bind fun y => (chgD x y z).bind fun _ => M.pure .nx
theorem fs_dput (rm : Room k X.A) (hv : FE X B v mv) (ho : FE X B o mo) (hi : FE X B i mi) (hs : swapsWith v (some (.Subscript o i tpos)) pos.line X.env = pure false := by rfl) : FS X B (.Assign [.Subscript o i tpos] v pos) (dPutS mv mo mi) := by
  refine wkS (ps_dput (hu_of rm) ho hi hv hs) fun D sgq H h => ?_
  obtain ⟨w, s, rfl, I, h⟩ := h
  refine tE.fzS I h fun z s1 w1 vz e1 I1 r1 h1 => ?_
  refine ⟨w1, s1, rfl, I1, tE.stmt h1 fun x s2 w2 e2 I2 h2 vx r2 => ?_⟩
  refine ⟨w2, s2, rfl, I2, tE.stmt h2 fun y s3 w3 e3 I3 h3 vy r3 => ?_⟩
  have h3 : Endz X.K B w3 s3 sgq (chgD x y z s3) (fun _ s' w' => D.nx sgq w'.H) := tE.stmt h3 fun _ s' w' _ I' q => q w' sgq (Ext.refl _ _) I'
  obtain ⟨a, H', rfl, hp, s', w', rfl, _, _, q⟩ := chgD_ok I3 (r2.ext e3.ext) r3 (r1.ext (e2.trans e3).ext) h3
  exact ⟨a, _, rfl, hp, q⟩
end
end G
set_option maxRecDepth 100000
/-! Tuples whose object is known: tuple(list), t.index(x); zip of two tuples. -/
namespace G
open PySem PySem.Spec L2
section
variable {X : Cx} {B : Base0} {k : Nat} {a e e2 : Expr} {es : List Expr} {ma : M Val} {mr : M (List Val)} {pos p apos tpos : Pos}
/-! ### tuple(list), with its object -/
theorem call_tupB : CallR X (.type "tuple") (fun xs H Q => ∃ (p0 : Addr) (ys : List V), xs = [.ref p0] ∧ SqL X.K H p0 ys ∧ ∀ (l : Addr) (ob : Obj), ob.dict = none → H l = none → Q (.ref l) (upd H l (.frz ob (.tup ys)))) := by
  intro pins s sgq H xs us Q I rv h
  obtain ⟨p0, ys, rfl, hq, q⟩ := h
  obtain ⟨u0, rfl, rx⟩ := vals1 rv
  cases rx
  obtain ⟨its, rv', pl, hz⟩ := I.list hq
  have hn := rv'.length
  refine call_tuple_list pl.isList (fun h2 kp => ?_) (by simp only [List.size_toArray] <;> omega)
  have J1 : Inv X pins sgq H { s with heap := h2 } := I.kept (t' := s.toks) kp
  have J2 : Inv X pins sgq (upd H h2.objs.size (.frz { cls := .type "tuple", data := .seq its.toArray } (.tup ys))) { s with heap := h2.push { cls := .type "tuple", data := .seq its.toArray } } :=
    J1.laid (t' := s.toks) (fun b o e => Heap.get?_push_of_some _ e) (Nat.le_refl _) (show ObjOk X.prog X.w _ _ _ (.frz _ (.tup ys)) from ⟨Heap.get?_push_size _ rfl, hz, its, rv', PyProof.Rows.IsTup.new _ _⟩)
  exact ⟨.ref h2.objs.size, _, J2, rfl, q _ _ rfl (J1.hok.fresh (Nat.le_refl _))⟩
def tupleFB (xs : List Val) : M Val := fun s => match xs with
  | [x] => (match obsL s x with
    | some ys => (match allD ys with
      | some ds => .ok (.d (.tupB ds)) s
      | none => .stuck)
    | none => .stuck)
  | _ => .stuck
theorem c_tupleB : CallF X B (.type "tuple") tupleFB := ⟨_, call_tupB, fun sgq w s xs vs Q I r h => by
  unfold tupleFB at h
  split at h
  · cases r with
    | cons r1 r2 =>
      cases r2
      split at h
      · next ys e =>
        split at h
        · next ds ed =>
          obtain ⟨a, us, rfl, hs, rs⟩ := obsL_ok I r1 e
          rw [allD_eq ed] at rs
          refine ⟨a, us, rfl, .inl hs, fun l ob od hl => ?_⟩
          obtain ⟨J, ex⟩ := I.frz (o := .frz ob (.tup us)) hl
          exact h _ ex J (.ref l) (Rl.tupB upd_same od ((rlVs_d rs).mono ex.ext.F))
        · exact h.elim
      · exact h.elim
  · exact h.elim⟩
/-! ### t.index(x) -/
def tyB (x : V) (H : Hp) : Prop := ∃ (q : Addr) (ob : Obj) (ys : List V), x = .ref q ∧ H q = some (.frz ob (.tup ys)) ∧ ob.dict = none
theorem tyB_is {pins : List (Addr × Obj)} {sgq : St} {H : Hp} {s : Shared} {x : V} {v : Value} (I : Inv X pins sgq H s) (r : RelV x v) (ty : tyB x H) :
    s.TypeIs v "tuple" ∧ ∀ b, v = .ref b → ∃ ob, s.heap.get? b = some ob ∧ ob.dict = none := by
  obtain ⟨q, ob, ys, rfl, hp, hd⟩ := ty
  cases r
  obtain ⟨e1, hz, its, rv, o', e2, hc, _⟩ := I.hok q _ hp
  have hh : o' = ob := by rw [e1] at e2; exact (Option.some.inj e2).symm
  subst hh
  exact ⟨⟨_, e1, hc⟩, fun b z => by cases z; exact ⟨_, e1, hd⟩⟩
def tTM (r : V → List V → Hp → VK → Prop) (to : TE) (t : TA) : TE := fun sgq H Q => to sgq H fun x H1 => tyB x H1 ∧ t sgq H1 fun xs H2 => r x xs H2 Q
theorem pe_tm {id : String} {name : Str} {to : TE} {t : TA} {r : V → List V → Hp → VK → Prop} (sl : PySem.Slot "tuple" name id) (ht : typeOf (.builtin id) = pure (.type "method_descriptor")) (hm : MtR X id r) (ho : PE X a to) (ha : PA X (e :: es) t)
    (hb : attributeBase a name X.env (eval a X.env) = eval a X.env := by rfl)
    (hf : ((backTo pos (starEach (e :: es) X.env)).all (fun x => !x.1) && (backToKw pos (keywordEach [] X.env)).all (fun x => x.1.isSome) && decide ((e :: es).length + ([] : List Keyword).length + (if ([] : List Keyword).isEmpty then 0 else 1) < 30)) = true := by rfl)
    (hl : (apos.endLine == pos.line) = true := by rfl) (hs : starEach (e :: es) X.env = (false, eval e X.env) :: starEach es X.env := by rfl) (hp : (backTo pos (starEach es X.env)).any (·.1) = false := by rfl) :
    PE X (.Call (.Attribute a name apos) (e :: es) [] pos) (tTM r to t) := by
  refine ⟨fun pins s sgq H Q I h => ?_⟩
  refine wpAny_Call_method_late hb hf hl rfl (thn (ho.run pins s sgq H _ I h) fun v s1 ⟨x, H1, I1, r1, ty, q1⟩ => ?_)
  obtain ⟨g1, g2⟩ := tyB_is I1 r1 ty
  refine ⟨"tuple", id, PySem.F.plainAttrs_tuple, sl, ht, g1, g2, ?_⟩
  have hA := ha.run pos pins s1 sgq H1 _ I1 q1
  rw [hs] at hA ⊢
  refine Calls.callWith_builtin (by show (false || (backTo pos (starEach es X.env)).any (·.1)) = false; rw [hp] <;> rfl) (Calls.evalArgs_plain ?_)
  exact thn hA fun us s2 ⟨vs, H2, I2, r2, q2⟩ => hm pins s2 sgq H2 x vs v us Q I2 r1 r2 q2
def strsB : List D → Option (List Str)
  | [] => some []
  | .str x :: r => (strsB r).map (x :: ·)
  | _ => none
theorem strsB_ok {K : PySem.W.Frag} {F : Hp} : ∀ {ds : List D} {vs : List V} {ys : List Str}, Rls K F ds vs → strsB ds = some ys → vs = ys.map V.str
  | [], _, _, .nil, e => by cases e; rfl
  | d :: ds, _, ys, .cons r rs, e => by
    cases d with
    | str x =>
      unfold strsB at e
      obtain ⟨zs, hz, rfl⟩ := Option.map_eq_some_iff.mp e
      cases r
      rw [strsB_ok rs hz] <;> rfl
    | _ => cases e
def isTB (x : Val) : M Unit := fun s => match x with
  | .d (.tupB _) => .ok () s
  | _ => .stuck
theorem isTB_ok {K : PySem.W.Frag} {β : Type} {w : Wd} {s : Sg} {sgq : St} {x : Val} {v : V} {k : Unit → M β} {P : β → Sg → Wd → Prop} (I : IN K B w s sgq) (r : RlS K w s.Omq.length sgq x v) (h : Endz K B w s sgq ((isTB x s).bind k) P) : tyB v w.H ∧ Endz K B w s sgq (k () s) P := by
  unfold isTB at h
  split at h
  · next ds =>
    refine ⟨?_, h⟩
    cases r with
    | tupB ha od rs =>
      rcases I.sim.fz _ _ ha with q | ⟨q, _⟩
      · exact ⟨_, _, _, rfl, q, od⟩
      · cases q
  · exact h.elim
def tidM (x : Val) (xs : List Val) : M Val := fun s => match x, xs with
  | .d (.tupB ds), [.d (.str z)] => (match strsB ds with
    | some ys => (match ys.findIdx? (fun y => decide (y = z)) with
      | some j => .ok (.d (.int (j : Nat))) s
      | none => .stuck)
    | none => .stuck)
  | _, _ => .stuck
def tidE (m : M Val) (mr : M (List Val)) : M Val := m.bind fun x => (isTB x).bind fun _ => mr.bind fun xs => tidM x xs
theorem fe_tindex (ho : FE X B a ma) (ha : FAp X B [e] mr) (hb : attributeBase a "index" X.env (eval a X.env) = eval a X.env := by rfl)
    (hf : ((backTo pos (starEach [e] X.env)).all (fun x => !x.1) && (backToKw pos (keywordEach [] X.env)).all (fun x => x.1.isSome) && decide ([e].length + ([] : List Keyword).length + (if ([] : List Keyword).isEmpty then 0 else 1) < 30)) = true := by rfl)
    (hl : (apos.endLine == pos.line) = true := by rfl) (hs : starEach [e] X.env = (false, eval e X.env) :: starEach [] X.env := by rfl) (hp : (backTo pos (starEach [] X.env)).any (·.1) = false := by rfl) :
    FE X B (.Call (.Attribute a "index" apos) [e] [] pos) (tidE ma mr) := by
  refine wkE (pe_tm PySem.F.slot_tuple_index PySem.F.type_tuple_index mt_tup_index ho ha hb hf hl hs hp) fun sgq H Q h => ?_
  obtain ⟨w, s, rfl, I, h⟩ := h
  refine tE.first I h fun x s1 w1 v e1 I1 r1 h1 => ?_
  obtain ⟨ty, h3⟩ := isTB_ok I1 r1 h1
  clear h1
  refine ⟨ty, tAp.first I1 h3 fun xs s2 w2 vs e2 I2 r2 q => ?_⟩
  unfold tidM at q
  split at q
  · next ds z =>
    cases r2 with
    | cons rz r3 =>
      cases r3
      cases rz
      split at q
      · next ys ey =>
        split at q
        · next j ej =>
          have r1 := r1.ext e2.ext
          cases r1 with
          | tupB hb od rs =>
            have hv := strsB_ok rs ey
            subst hv
            obtain ⟨hj, hjt, hno⟩ := List.findIdx?_eq_some_iff_getElem.mp ej
            have hz : ys[j] = z := of_decide_eq_true hjt
            refine ⟨_, ys, z, j, rfl, rfl, .inl ?_, by rw [List.getElem?_eq_getElem hj, hz], fun m hm he => ?_, q w2 (Stx.refl _ _ _) I2 _ (Rl.int _)⟩
            · rcases I2.sim.fz _ _ hb with g | ⟨g, _⟩
              · exact .inr ⟨_, g⟩
              · cases g
            · have hm' : m < ys.length := by omega
              rw [List.getElem?_eq_getElem hm'] at he
              have := hno m hm
              simp at this
              exact this (Option.some.inj he)
        · exact q.elim
      · exact q.elim
  · exact q.elim
/-! ### zip of two tuples -/
def TupAt (K : PySem.W.Frag) (F : Hp) (b : Addr) (vs : List V) : Prop := (F b = some (.tup vs) ∨ (vs = [] ∧ KT K b [])) ∨ ∃ ob, F b = some (.frz ob (.tup vs))
theorem TupAt.mono {K : PySem.W.Frag} {F F' : Hp} {b : Addr} {vs : List V} (h : TupAt K F b vs) (sb : Sub F F') : TupAt K F' b vs := h.imp (·.imp (sb _ _) id) fun ⟨o, e⟩ => ⟨o, sb _ _ e⟩
theorem TupAt.sq {K : PySem.W.Frag} {w : Wd} {Omq : List (Option Cell)} {b : Addr} {vs : List V} (S : Sim K w Omq) (h : TupAt K w.F b vs) : SqT K w.H b vs := by
  rcases h with h | ⟨o, h⟩
  · exact sqT_up S h
  · rcases S.fz _ _ h with g | ⟨g, _⟩
    · exact .inl (.inr ⟨_, g⟩)
    · cases g
def tupOf : D → Option (List D)
  | .tup xs => some xs
  | .tupB xs => some xs
  | _ => none
theorem tupOf_ok {K : PySem.W.Frag} {F : Hp} {d : D} {v : V} {xs : List D} (r : Rl K F d v) (e : tupOf d = some xs) : ∃ b vs, v = .ref b ∧ TupAt K F b vs ∧ Rls K F xs vs := by
  cases d with
  | tup ys => cases e; cases r with
    | tup h rs => exact ⟨_, _, rfl, .inl h, rs⟩
  | tupB ys => cases e; cases r with
    | tupB h od rs => exact ⟨_, _, rfl, .inr ⟨_, h⟩, rs⟩
  | _ => cases e
def zipL (xs ys : List D) : List Val := (xs.zip ys).map fun q => Val.d (.tup [q.1, q.2])
theorem walk_zt {K : PySem.W.Frag} {w0 : Wd} {n0 : Nat} {b c : Addr} {vs us : List V} {xs ys : List D} (hb : TupAt K w0.F b vs) (hc : TupAt K w0.F c us) (r : Rls K w0.F xs vs) (r2 : Rls K w0.F ys us) : Walk K B w0 n0 (RZ.ItzT K b c) (zipL xs ys) := fun w s sgq ex I i => by
  have q1 := (hb.mono ex.F).sq I.sim
  have q2 := (hc.mono ex.F).sq I.sim
  have r' := r.mono ex.F
  have r2' := r2.mono ex.F
  refine ⟨fun x hx => ?_, fun hl => ⟨vs, us, q1, q2, ?_⟩⟩
  · obtain ⟨⟨d1, d2⟩, hp, rfl⟩ := map_get hx
    rw [List.getElem?_zip_eq_some] at hp
    obtain ⟨v1, hv1, rv1⟩ := r'.get hp.1
    obtain ⟨v2, hv2, rv2⟩ := r2'.get hp.2
    refine ⟨⟨vs, us, v1, v2, q1, q2, hv1, hv2⟩, fun u H' y => ?_⟩
    obtain ⟨T, z1, z2, rfl, hT, rfl, y1, y2⟩ := y
    have g1 := y1 vs q1
    have g2 := y2 us q2
    rw [hv1] at g1; cases g1
    rw [hv2] at g2; cases g2
    exact new_pair I hT (.cons rv1 (.cons rv2 .nil))
  · have : (zipL xs ys).length = min xs.length ys.length := by simp [zipL]
    rw [← r.length, ← r2.length]; omega
def zipD (xs : List Val) : M (List Val) := fun s => match xs with
  | [.d x, .d y] => (match tupOf x, tupOf y with
    | some ds, some es => if (zipL ds es).length ≤ cap then .ok (zipL ds es) s else .stuck
    | _, _ => .stuck)
  | _ => .stuck
theorem fi_zip {elts : List Expr} {kk : Nat} {tpos : Pos} (hm : X.mg "zip" = none) (ha : FAp X B [e, e2] mr) (hg : Gl X "zip" := by rfl)
    (hs : starEach [e, e2] X.env = (false, eval e X.env) :: starEach [e2] X.env := by rfl) (hp : (backTo pos (starEach [e2] X.env)).any (·.1) = false := by rfl) :
    FI X B (.Tuple elts kk tpos) (.Call (.Name "zip" p) [e, e2] [] pos) (mr.bind zipD) := by
  refine wkI (RZ.pi_zipA hg hm ha hs hp) fun sgq H R h => ?_
  obtain ⟨w, s, rfl, I, h⟩ := h
  refine tAp.first I h fun xs s' w' vs ex I' r q => ?_
  unfold zipD at q
  split at q
  · next x y =>
    cases r with
    | cons r1 r2 =>
      cases r2 with
      | cons r2 r3 =>
        cases r3
        split at q
        · next ds es ex ey =>
          obtain ⟨b, vs, rfl, hb, rb⟩ := tupOf_ok r1 ex
          obtain ⟨c, us, rfl, hc, rc⟩ := tupOf_ok r2 ey
          split at q
          · next hz =>
            exact ⟨b, c, vs, us, rfl, .inr ⟨hb.sq I'.sim, hc.sq I'.sim, q w' (Stx.refl _ _ _) I' _ (walk_zt hb hc rb rc) (cap_line hz)⟩⟩
          · exact q.elim
        · exact q.elim
  · exact q.elim
end
end G
set_option maxRecDepth 100000
/-! Lists that may change are shown to an expression as data, all other things hidden from it. -/
namespace G
open PySem PySem.Spec L2
mutual
def noL : D → Bool
  | .lst _ => false
  | .tup xs => noLs xs
  | .tupB xs => noLs xs
  | .dK _ => false
  | .dT _ => false
  | .ins _ fs => noLf fs
  | .non => true
  | .bl _ => true
  | .int _ => true
  | .str _ => true
def noLs : List D → Bool
  | [] => true
  | x :: xs => noL x && noLs xs
def noLf : List (Str × D) → Bool
  | [] => true
  | x :: xs => noL x.2 && noLf xs
end
theorem noLf_eq : ∀ fs : List (Str × D), noLf fs = noLs (fs.map (·.2))
  | [] => rfl
  | x :: xs => by simp only [noLf, List.map_cons, noLs, noLf_eq xs]
section
variable {K : PySem.W.Frag} {F F' : Hp}
mutual
theorem Rl.thin (hF : ∀ b u, F b = some u → (∀ vs, u ≠ .lst vs) → F' b = some u) : ∀ {d : D} {v : V}, Rl K F d v → noL d = true → Rl K F' d v
  | _, _, .non, _ => .non
  | _, _, .bl b, _ => .bl b
  | _, _, .int i, _ => .int i
  | _, _, .str x, _ => .str x
  | _, _, .tup h r, e => .tup (h.imp (fun q => hF _ _ q (fun _ z => by cases z)) id) (r.thin hF (by simpa [noL] using e))
  | _, _, .tupB h o r, e => .tupB (hF _ _ h (fun _ z => by cases z)) o (r.thin hF (by simpa [noL] using e))
  | _, _, .lst _ _, e => by simp [noL] at e
  | _, _, .dK _ _ _, e => by simp [noL] at e
  | _, _, .dT _ _ _, e => by simp [noL] at e
  | _, _, .ins h q r, e => .ins (hF _ _ h (fun _ z => by cases z)) q (r.thin hF (by simpa [noL, noLf_eq] using e))
theorem Rls.thin (hF : ∀ b u, F b = some u → (∀ vs, u ≠ .lst vs) → F' b = some u) : ∀ {ds : List D} {vs : List V}, Rls K F ds vs → noLs ds = true → Rls K F' ds vs
  | _, _, .nil, _ => .nil
  | _ :: _, _, .cons a b, e => .cons (a.thin hF (by simp only [noLs, Bool.and_eq_true] at e; exact e.1)) (b.thin hF (by simp only [noLs, Bool.and_eq_true] at e; exact e.2))
end
end
/-- b is where a list lies that may change -/
def LiveL (w : Wd) (Omq : List (Option Cell)) (b : Addr) : Prop := ∃ (n : Nat) (xs : List Val), Omq[n]? = some (some (.lst xs)) ∧ w.muq n = b
noncomputable section
open Classical
def Wd.mlt (w : Wd) (Omq : List (Option Cell)) : Wd := { w with F := fun b => if LiveL w Omq b then w.H b else w.F b }
def Wd.thaw (w : Wd) (Omq : List (Option Cell)) (w' : Wd) : Wd := { w' with F := fun b => if LiveL w Omq b then none else w'.F b }
def hid (s : Sg) (j : Nat) (d : D) : Sg := ⟨(s.rhq.map fun _ => Slot.no).set j (.v (.d d)), s.Omq.map fun _ => none⟩
section
variable {K : PySem.W.Frag} {w0 w w' : Wd} {Omq0 : List (Option Cell)} {s : Sg} {sgq : St} {j : Nat} {d : D}
theorem mlt_yes {Omq : List (Option Cell)} {b : Addr} (h : LiveL w Omq b) : (w.mlt Omq).F b = w.H b := if_pos h
theorem mlt_no {Omq : List (Option Cell)} {b : Addr} (h : ¬ LiveL w Omq b) : (w.mlt Omq).F b = w.F b := if_neg h
theorem thaw_yes {Omq : List (Option Cell)} {b : Addr} (h : LiveL w Omq b) : (w.thaw Omq w').F b = none := if_pos h
theorem thaw_no {Omq : List (Option Cell)} {b : Addr} (h : ¬ LiveL w Omq b) : (w.thaw Omq w').F b = w'.F b := if_neg h
theorem Sim.notLive {Omq : List (Option Cell)} {b : Addr} {u : HO} (S : Sim K w Omq) (h : w.F b = some u) : ¬ LiveL w Omq b := fun ⟨n, xs, e, m⟩ => by
  obtain ⟨_, _, f, _⟩ := S.cell n _ e
  rw [m, h] at f; cases f
theorem mlt_sub {Omq : List (Option Cell)} (S : Sim K w Omq) : Sub w.F (w.mlt Omq).F := fun b u h => by rw [mlt_no (S.notLive h)]; exact h
theorem hid_len : (hid s j d).Omq.length = s.Omq.length := by simp [hid]
theorem hid_cell {n : Nat} {c : Cell} : ¬ (hid s j d).Omq[n]? = some (some c) := fun e => by
  simp [hid] at e
theorem hid_acc {i : Nat} {c : Cell} : ¬ (hid s j d).rhq[i]? = some (Slot.acc c) := fun e => by
  simp only [hid, List.getElem?_set] at e
  split at e
  · split at e <;> cases e
  · rw [List.getElem?_map] at e
    cases q : s.rhq[i]? with
    | none => rw [q] at e; cases e
    | some _ => rw [q] at e; cases e
theorem hid_val {i : Nat} {x : Val} (e : (hid s j d).rhq[i]? = some (Slot.v x)) : i = j ∧ x = .d d := by
  simp only [hid, List.getElem?_set] at e
  split at e
  · next h =>
    split at e
    · cases e; exact ⟨h.symm, rfl⟩
    · cases e
  · rw [List.getElem?_map] at e
    cases q : s.rhq[i]? with
    | none => rw [q] at e; cases e
    | some _ => rw [q] at e; cases e
theorem mlt_in {v : V} (I : Ins K w0 Omq0 w s sgq) (hv : sgq[j]? = some (some v)) (hd : Rl K (w.mlt s.Omq).F d v) : Ins K w0 Omq0 (w.mlt s.Omq) (hid s j d) sgq := by
  have ex : Ext w s.Omq.length (w.mlt s.Omq) (hid s j d).Omq.length := ⟨mlt_sub I.sim, by rw [hid_len]; exact Nat.le_refl _, fun _ _ => rfl⟩
  refine ⟨⟨fun b u e => ?_, fun n c e => absurd e hid_cell, fun n m c c' e => absurd e hid_cell⟩, ⟨I.stp.ext.trans ex, fun b o e q => ?_, fun b e => I.stp.dom b e, I.stp.fk⟩, by simp [hid]; exact I.len, fun i x e => ?_, fun i c e => absurd e hid_acc, fun i i' c c' a e => absurd e hid_acc⟩
  · by_cases h : LiveL w s.Omq b
    · rw [mlt_yes h] at e; exact .inl e
    · rw [mlt_no h] at e; exact I.sim.fz b u e
  · obtain ⟨h1, h2⟩ := I.stp.keep b o e q
    refine ⟨h1, ?_, fun n c e => absurd e hid_cell⟩
    rw [mlt_no (fun ⟨n, xs, e, m⟩ => h2.2 n _ e m)]
    exact h2.1
  · obtain ⟨rfl, rfl⟩ := hid_val e
    exact ⟨v, hv, hd⟩
/-- what was hidden stands as it was -/
structure Back (K : PySem.W.Frag) (w : Wd) (s : Sg) (sgq : St) (w' : Wd) : Prop where
  ext : Ext w s.Omq.length (w.thaw s.Omq w') s.Omq.length
  al : ∀ a o, w.H a = some o → Alien w s.Omq a → w'.H a = some o ∧ Alien (w.thaw s.Omq w') s.Omq a
  cell : ∀ n c, s.Omq[n]? = some (some c) → w'.H (w.muq n) = w.H (w.muq n) ∧ (w.thaw s.Omq w').F (w.muq n) = none
  dom : ∀ a, w'.H a = none → w.H a = none
  fk : ∀ a u o, w.F a = some u → w.H a = some o → w'.H a = some o
theorem back_of (I : Ins K w0 Omq0 w s sgq) (st : Stx sgq (w.mlt s.Omq) (hid s j d) w' (hid s j d)) : Back K w s sgq w' := by
  have mu : ∀ n, n < s.Omq.length → w'.muq n = w.muq n := fun n h => st.ext.mu n (by rw [hid_len]; exact h)
  have fr : ∀ a, w.F a = none → ¬ LiveL w s.Omq a → Free (w.mlt s.Omq) (hid s j d) sgq a := fun a h h2 => ⟨⟨by rw [mlt_no h2]; exact h, fun n c e => absurd e hid_cell⟩, fun i c e => absurd e hid_acc⟩
  have ex : Ext w s.Omq.length (w.thaw s.Omq w') s.Omq.length := ⟨fun b u e => by rw [thaw_no (I.sim.notLive e)]; exact st.ext.F b u (mlt_sub I.sim b u e), Nat.le_refl _, mu⟩
  refine ⟨ex, fun a o e q => ?_, fun n c e => ?_, st.dom, fun a u o ef e => st.fk a u o (mlt_sub I.sim a u ef) e⟩
  · have nl : ¬ LiveL w s.Omq a := fun ⟨n, xs, e, m⟩ => q.2 n _ e m
    obtain ⟨h1, h2⟩ := st.keep a o e (fr a q.1 nl)
    refine ⟨h1, ?_, fun n c e => ?_⟩
    · rw [thaw_no nl]; exact h2.1.1
    · show w'.muq n ≠ a
      rw [mu n (List.getElem?_eq_some_iff.mp e).1]; exact q.2 n c e
  · obtain ⟨o, ho, f0, hc⟩ := I.sim.cell n c e
    by_cases h : LiveL w s.Omq (w.muq n)
    · exact ⟨by rw [ho]; exact st.fk (w.muq n) o o (by rw [mlt_yes h]; exact ho) ho, thaw_yes h⟩
    · obtain ⟨h1, h2⟩ := st.keep (w.muq n) o ho (fr _ f0 h)
      exact ⟨by rw [ho]; exact h1, by rw [thaw_no h]; exact h2.1.1⟩
theorem mlt_out (I : Ins K w0 Omq0 w s sgq) (st : Stx sgq (w.mlt s.Omq) (hid s j d) w' (hid s j d)) (J : Sim K w' (hid s j d).Omq) : Ins K w0 Omq0 (w.thaw s.Omq w') s sgq ∧ Stx sgq w s (w.thaw s.Omq w') s := by
  have b := back_of I st
  have mu : ∀ n c, s.Omq[n]? = some (some c) → (w.thaw s.Omq w').muq n = w.muq n := fun n c e => b.ext.mu n (List.getElem?_eq_some_iff.mp e).1
  refine ⟨⟨⟨fun a u e => ?_, fun n c e => ?_, fun n m c c' e e' q => ?_⟩, I.stp.trans ⟨b.ext, b.al, b.dom, b.fk⟩, I.len, fun i x e => ?_, fun i c e => ?_, I.dis⟩, ⟨b.ext, fun a o e q => ?_, b.dom, b.fk⟩⟩
  · have nl : ¬ LiveL w s.Omq a := fun h => by rw [thaw_yes h] at e; cases e
    rw [thaw_no nl] at e
    exact J.fz a u e
  · obtain ⟨o, ho, f0, hc⟩ := I.sim.cell n c e
    obtain ⟨h1, h2⟩ := b.cell n c e
    rw [mu n c e]
    exact ⟨o, h1.trans ho, h2, hc.ext b.ext⟩
  · rw [mu n c e, mu m c' e'] at q
    exact I.sim.inj n m c c' e e' q
  · obtain ⟨v, e1, r⟩ := I.val i x e
    exact ⟨v, e1, r.ext b.ext⟩
  · obtain ⟨a, e1, ⟨o, ho, hc⟩, al, nw⟩ := I.acc i c e
    obtain ⟨h1, h2⟩ := b.al a o ho al
    exact ⟨a, e1, ⟨o, h1, hc.ext b.ext⟩, h2, nw⟩
  · obtain ⟨h1, h2⟩ := b.al a o e q.1
    exact ⟨h1, h2, q.2⟩
theorem mlt_rl (I : Ins K w0 Omq0 w s sgq) (st : Stx sgq (w.mlt s.Omq) (hid s j d) w' (hid s j d)) : ∀ b u, w'.F b = some u → (∀ vs, u ≠ .lst vs) → (w.thaw s.Omq w').F b = some u := fun b u e n => by
  by_cases h : LiveL w s.Omq b
  · exfalso
    obtain ⟨k, xs, ek, mk⟩ := id h
    obtain ⟨o, ho, f0, hc⟩ := I.sim.cell k _ ek
    rw [mk] at ho
    have := st.ext.F b o (by rw [mlt_yes h]; exact ho)
    rw [this] at e; cases e
    cases u with
    | lst vs => exact n vs rfl
    | _ => exact hc.elim
  · rw [thaw_no h]; exact e
end
/-- the data of a slot's list, with the lists in it -/
def mltV (s : Sg) : Val → Option D
  | .d d => some d
  | .r n => (match s.Omq[n]? with
    | some (some (.lst ys)) => (allD ys).map D.lst
    | _ => none)
  | .s _ => none
def mltD (s : Sg) (j : Nat) : Option D := match s.rhq[j]? with
  | some (.v (.r m)) => (match s.Omq[m]? with
    | some (some (.lst xs)) => (optAll (mltV s) xs).map D.lst
    | _ => none)
  | _ => none
def mltM (j : Nat) (m : M Val) : M Val := fun s => match mltD s j with
  | none => .stuck
  | some d => (match m (hid s j d) with
    | .ok (.d y) s' => if s' = hid s j d ∧ noL y = true then .ok (.d y) s else .stuck
    | .exc x s' => if s' = hid s j d ∧ noLf x.fs = true then .exc x s else .stuck
    | _ => .stuck)
section
variable {X : Cx} {B : Base0} {e : Expr} {m : M Val} {K : PySem.W.Frag} {w : Wd} {s : Sg} {sgq : St}
theorem mltV_ok (I : IN K B w s sgq) {x : Val} {v : V} {d : D} (r : RlV K w s.Omq.length x v) (e : mltV s x = some d) : Rl K (w.mlt s.Omq).F d v := by
  cases x with
  | d y => cases e; exact Rl.mono (mlt_sub I.sim) r
  | s i => cases e
  | r n =>
    unfold mltV at e
    dsimp only at e
    split at e
    · next ys en =>
      obtain ⟨ds, hd, rfl⟩ := Option.map_eq_some_iff.mp e
      obtain ⟨o, ho, f0, hc⟩ := I.sim.cell n _ en
      rw [r.2]
      cases o with
      | lst vs =>
        have hc : RlVs K w s.Omq.length ys vs := hc
        rw [allD_eq hd] at hc
        exact .lst (by rw [mlt_yes ⟨n, ys, en, rfl⟩]; exact ho) ((rlVs_d hc).mono (mlt_sub I.sim))
      | _ => exact hc.elim
    · cases e
theorem mltL_ok (I : IN K B w s sgq) : ∀ {xs : List Val} {vs : List V} {ds : List D}, RlVs K w s.Omq.length xs vs → optAll (mltV s) xs = some ds → Rls K (w.mlt s.Omq).F ds vs
  | [], _, _, .nil, e => by cases e; exact .nil
  | x :: xs, _, ds, .cons r rs, e => by
    unfold optAll at e
    split at e
    · next y ys ey eys =>
      cases e
      exact .cons (mltV_ok I r ey) (mltL_ok I rs eys)
    · cases e
theorem mltD_ok (I : IN K B w s sgq) {j : Nat} {d : D} (e : mltD s j = some d) : ∃ v, sgq[j]? = some (some v) ∧ Rl K (w.mlt s.Omq).F d v := by
  unfold mltD at e
  split at e
  · next n en =>
    split at e
    · next xs ex =>
      obtain ⟨ds, hd, rfl⟩ := Option.map_eq_some_iff.mp e
      obtain ⟨v, ev, r⟩ := I.val j _ en
      obtain ⟨o, ho, f0, hc⟩ := I.sim.cell n _ ex
      refine ⟨v, ev, ?_⟩
      rw [r.2]
      cases o with
      | lst vs =>
        have hc : RlVs K w s.Omq.length xs vs := hc
        exact .lst (by rw [mlt_yes ⟨n, xs, ex, rfl⟩]; exact ho) (mltL_ok I hc hd)
      | _ => exact hc.elim
    · cases e
  · cases e
theorem fe_melt (j : Nat) (h : FE X B e m) : FE X B e (mltM j m) := wkE h fun sgq H Q hh => by
  obtain ⟨w, s, rfl, I, hh⟩ := hh
  unfold mltM at hh
  split at hh
  · exact hh.elim
  · next d ed =>
    obtain ⟨v, ev, rd⟩ := mltD_ok I ed
    refine ⟨w.mlt s.Omq, hid s j d, rfl, mlt_in I ev rd, ?_⟩
    split at hh
    · next y s' em =>
      rw [em]
      split at hh
      · next hc =>
        obtain ⟨rfl, hy⟩ := hc
        intro w' st J u ru
        obtain ⟨J2, st2⟩ := mlt_out I st J.sim
        exact hh _ st2 J2 u (Rl.thin (mlt_rl I st) ru hy)
      · exact hh.elim
    · next x s' em =>
      rw [em]
      split at hh
      · next hc =>
        obtain ⟨rfl, hy⟩ := hc
        intro w' c dd st J q
        obtain ⟨J2, st2⟩ := mlt_out I st J.sim
        refine hh (w.thaw s.Omq w') c dd st2 J2 ⟨q.1, q.2.imp id ?_⟩
        rintro ⟨a, ws, h1, h2, h3⟩
        refine ⟨a, ws, h1, mlt_rl I st a _ h2 (fun _ z => by cases z), fun f y hf => ?_⟩
        obtain ⟨u, hu, ru⟩ := h3 f y hf
        refine ⟨u, hu, Rl.thin (mlt_rl I st) ru ?_⟩
        have key : ∀ (l : List (Str × D)), noLf l = true → l.lookup f = some y → noL y = true := by
          intro l
          induction l with
          | nil => intro _ z; cases z
          | cons p l ih =>
            intro h1 h2
            have h1 : noL p.2 = true ∧ noLf l = true := by simpa [noLf] using h1
            rw [List.lookup_cons] at h2
            split at h2
            · cases h2; exact h1.1
            · exact ih h1.2 h2
        exact key _ hy hf
      · exact hh.elim
    · exact hh.elim
end
end
end G
set_option maxRecDepth 100000
/-! == of data, and bare tuples in plain laws -/
namespace S
open PySem PySem.Spec L2 G
theorem eqA_nil : PyData.eqvAll [] [] = true := by simp [PyData.eqvAll]
theorem eqA_cons (x y : PyData) (xs ys : List PyData) : PyData.eqvAll (x :: xs) (y :: ys) = (PyData.eqv x y && PyData.eqvAll xs ys) := by simp [PyData.eqvAll]
mutual
theorem eqD_self : ∀ (n : Nat) (d : D), d.plain n = true → PyData.eqv d.py d.py = true
  | _, .non, _ => by simp [D.py, PyData.eqv]
  | _, .bl b, _ => by simp [D.py, PyData.eqv]
  | _, .int i, _ => by simp [D.py, PyData.eqv]
  | _, .str x, _ => by simp [D.py, PyData.eqv]
  | n + 1, .tup xs, h => by
    simp only [D.py, PyData.eqv]
    exact eqL_self n xs (by simpa [D.plain] using h)
  | n + 1, .lst xs, h => by
    simp only [D.py, PyData.eqv]
    exact eqL_self n xs (by simpa [D.plain] using h)
  | 0, .tup _, h => by simp [D.plain] at h
  | 0, .lst _, h => by simp [D.plain] at h
  | _, .tupB _, h => by simp [D.plain] at h
  | _, .dK _, h => by simp [D.plain] at h
  | _, .dT _, h => by simp [D.plain] at h
  | _, .ins _ _, h => by simp [D.plain] at h
theorem eqL_self : ∀ (n : Nat) (xs : List D), plainL n xs = true → PyData.eqvAll (pyL xs) (pyL xs) = true
  | _, [], _ => eqA_nil
  | n, x :: xs, h => by
    have h : x.plain n = true ∧ plainL n xs = true := by simpa [plainL] using h
    show PyData.eqvAll (x.py :: pyL xs) (x.py :: pyL xs) = true
    rw [eqA_cons, eqD_self n x h.1, eqL_self n xs h.2]
    rfl
end
theorem eqv_dV (a b : Option Int) : PyData.eqv (dV a).py (dV b).py = decide (a = b) := by
  cases a with
  | none => cases b <;> simp [dV, D.py, PyData.eqv]
  | some i =>
    cases b with
    | none => simp [dV, D.py, PyData.eqv]
    | some j =>
      simp only [dV, D.py, PyData.eqv, Option.some.injEq]
      by_cases h : i = j <;> simp [h]
theorem eqA_dV : ∀ (a b : List (Option Int)), PyData.eqvAll (pyL (a.map dV)) (pyL (b.map dV)) = decide (a = b)
  | [], [] => by simp [pyL, PyData.eqvAll]
  | [], _ :: _ => by simp [pyL, PyData.eqvAll]
  | _ :: _, [] => by simp [pyL, PyData.eqvAll]
  | x :: a, y :: b => by
    show PyData.eqvAll ((dV x).py :: pyL (a.map dV)) ((dV y).py :: pyL (b.map dV)) = _
    rw [eqA_cons, eqv_dV, eqA_dV a b]
    simp
theorem plain_dV (n : Nat) : ∀ a : List (Option Int), plainL n (a.map dV) = true
  | [] => rfl
  | x :: a => by
    simp only [List.map_cons, plainL, plain_dV n a, Bool.and_true]
    cases x <;> simp [dV, D.plain]
section
variable {s : Sg} {neg : Bool}
theorem v_eqplain {a b : D} (hs : eqS a b = none) (ha : a.plain 60 = true) (hb : b.plain 60 = true) : eqvV neg (.d a) (.d b) s = .ok (.d (.bl (neg != eqD a b))) s := by
  unfold eqvV
  simp only [Val.dd, hs, ha, hb, Bool.and_self, if_true]
theorem v_eqdVs {a b : List (Option Int)} : eqvV neg (.d (.lst (a.map dV))) (.d (.lst (b.map dV))) s = .ok (.d (.bl (neg != decide (a = b)))) s := by
  rw [v_eqplain rfl (by simp [D.plain, plain_dV]) (by simp [D.plain, plain_dV])]
  unfold eqD
  simp only [D.py, PyData.eqv, eqA_dV]
theorem flat_dV (a : List (Option Int)) : (a.map dV).all flatD = true := by
  induction a with
  | nil => rfl
  | cons x a ih =>
    simp only [List.map_cons, List.all_cons, ih, Bool.and_true]
    cases x <;> rfl
theorem any_non (a : List (Option Int)) : ((a.map dV).any fun z => eqF z .non) = decide (none ∈ a) := by
  induction a with
  | nil => rfl
  | cons x a ih =>
    simp only [List.map_cons, List.any_cons, ih]
    cases x <;> simp [dV, eqF]
theorem v_indV {a : List (Option Int)} : inV0 neg (.d .non) (.d (.lst (a.map dV))) s = .ok (.d (.bl (neg != decide (none ∈ a)))) s := by
  have e : inV0 neg (.d .non) (.d (.lst (a.map dV))) s = (match allD ((a.map dV).map Val.d) with
        | some ds => if flatD .non && ds.all flatD then Out.ok (.d (.bl (neg != ds.any fun z => eqF z .non))) s
          else if D.non.plain 60 && plainL 60 ds then Out.ok (.d (.bl (neg != ds.any fun z => eqD z .non))) s else .stuck
        | none => .stuck) := rfl
  rw [e, allD_map]
  simp only [flat_dV, flatD, Bool.and_self, if_true, any_non]
end
/-! bare tuples -/
theorem strsB_map (C : List Str) : strsB (C.map D.str) = some C := by
  induction C with
  | nil => rfl
  | cons x C ih => simp [strsB, ih]
theorem find_eq {C : List Str} {c : Str} (h : c ∈ C) : C.findIdx? (fun y => decide (y = c)) = some (plc C c) := by
  induction C with
  | nil => cases h
  | cons x C ih =>
    rw [List.findIdx?_cons]
    unfold plc
    rw [List.idxOf_cons]
    by_cases hx : x = c
    · subst hx; simp
    · have hb : (x == c) = false := by simp [hx]
      rw [hb, ih ((List.mem_cons.mp h).resolve_left (Ne.symm hx))]
      simp [hx, plc]
theorem tid_str {C : List Str} {c : Str} (h : c ∈ C) (s : Sg) : tidM (.d (.tupB (C.map D.str))) [.d (.str c)] s = .ok (.d (.int (plc C c : Nat))) s := by
  unfold tidM
  simp only [strsB_map, find_eq h]
end S
namespace G
open PySem PySem.Spec L2
section
variable {s : Sg} {m : M Val} {mr : M (List Val)} {xs ys : List D}
@[simp ↓] theorem u_tidE : tidE m mr s = bnd (m s) fun x s => bnd (isTB x s) fun _ s => bnd (mr s) fun xs s => tidM x xs s := (rfl)
@[simp ↓] theorem v_isTB : isTB (.d (.tupB xs)) s = .ok () s := (rfl)
theorem v_zip (h : (zipL xs ys).length ≤ cap) : zipD [.d (.tupB xs), .d (.tup ys)] s = .ok (zipL xs ys) s := by
  show (if (zipL xs ys).length ≤ cap then Out.ok (zipL xs ys) s else .stuck) = _
  rw [if_pos h]
@[simp ↓] theorem v_tupB : tupleFB [.d (.lst xs)] s = .ok (.d (.tupB xs)) s := by
  show (match allD (xs.map Val.d) with
      | some ds => Out.ok (Val.d (.tupB ds)) s
      | none => .stuck) = _
  rw [allD_map]
end
end G
set_option maxRecDepth 100000
set_option maxHeartbeats 4000000
namespace K01
open PySem PySem.Spec L2 G S
noncomputable section
def top (i : Nat) : Stmt := PySem.Challenge.pw_groupsure_k01_tables_refused.main.body.getD i (.Pass ⟨0, 0, 0, 0⟩)
abbrev t_BadKey_init : Stmt := (inClass (top 6) 0)
def d_BadKey_init : He.DefD := ⟨("BadKey", some "__init__"), "__init__", "BadKey.__init__", defArgs t_BadKey_init, defBody t_BadKey_init, defScope t_BadKey_init, [], []⟩
def p_BadKey_init : List Str := ["self", "index"]
theorem sc_BadKey_init : FnScope n_BadKey_init p_BadKey_init (defScope t_BadKey_init) := ⟨rfl, rfl, rfl, by decide +kernel, rfl, by decide +kernel, by decide +kernel⟩
abbrev t_BadRequired_init : Stmt := (inClass (top 5) 0)
def d_BadRequired_init : He.DefD := ⟨("BadRequired", some "__init__"), "__init__", "BadRequired.__init__", defArgs t_BadRequired_init, defBody t_BadRequired_init, defScope t_BadRequired_init, [], []⟩
def p_BadRequired_init : List Str := ["self", "index"]
theorem sc_BadRequired_init : FnScope n_BadRequired_init p_BadRequired_init (defScope t_BadRequired_init) := ⟨rfl, rfl, rfl, by decide +kernel, rfl, by decide +kernel, by decide +kernel⟩
abbrev t_BadRule_init : Stmt := (inClass (top 7) 0)
def d_BadRule_init : He.DefD := ⟨("BadRule", some "__init__"), "__init__", "BadRule.__init__", defArgs t_BadRule_init, defBody t_BadRule_init, defScope t_BadRule_init, [], []⟩
def p_BadRule_init : List Str := ["self", "index"]
theorem sc_BadRule_init : FnScope n_BadRule_init p_BadRule_init (defScope t_BadRule_init) := ⟨rfl, rfl, rfl, by decide +kernel, rfl, by decide +kernel, by decide +kernel⟩
abbrev t_BadColumn_init : Stmt := (inClass (top 4) 0)
def d_BadColumn_init : He.DefD := ⟨("BadColumn", some "__init__"), "__init__", "BadColumn.__init__", defArgs t_BadColumn_init, defBody t_BadColumn_init, defScope t_BadColumn_init, [], []⟩
def p_BadColumn_init : List Str := ["self", "index"]
theorem sc_BadColumn_init : FnScope n_BadColumn_init p_BadColumn_init (defScope t_BadColumn_init) := ⟨rfl, rfl, rfl, by decide +kernel, rfl, by decide +kernel, by decide +kernel⟩
abbrev t_is_name : Stmt := (top 11)
def d_is_name : He.DefD := ⟨("is_name", none), "is_name", "is_name", defArgs t_is_name, defBody t_is_name, defScope t_is_name, [], []⟩
def p_is_name : List Str := ["value"]
theorem sc_is_name : FnScope n_is_name p_is_name (defScope t_is_name) := ⟨rfl, rfl, rfl, by decide +kernel, rfl, by decide +kernel, by decide +kernel⟩
abbrev t_check_columns : Stmt := (top 14)
def d_check_columns : He.DefD := ⟨("check_columns", none), "check_columns", "check_columns", defArgs t_check_columns, defBody t_check_columns, defScope t_check_columns, [], []⟩
def p_check_columns : List Str := ["columns"]
theorem sc_check_columns : FnScope n_check_columns p_check_columns (defScope t_check_columns) := ⟨rfl, rfl, rfl, by decide +kernel, rfl, by decide +kernel, by decide +kernel⟩
abbrev t_first_wrong : Stmt := (top 12)
def d_first_wrong : He.DefD := ⟨("first_wrong", none), "first_wrong", "first_wrong", defArgs t_first_wrong, defBody t_first_wrong, defScope t_first_wrong, [], []⟩
def p_first_wrong : List Str := ["things", "allowed"]
theorem sc_first_wrong : FnScope n_first_wrong p_first_wrong (defScope t_first_wrong) := ⟨rfl, rfl, rfl, by decide +kernel, rfl, by decide +kernel, by decide +kernel⟩
abbrev t_is_columns : Stmt := (top 13)
def d_is_columns : He.DefD := ⟨("is_columns", none), "is_columns", "is_columns", defArgs t_is_columns, defBody t_is_columns, defScope t_is_columns, [], []⟩
def p_is_columns : List Str := ["value", "columns"]
theorem sc_is_columns : FnScope n_is_columns p_is_columns (defScope t_is_columns) := ⟨rfl, rfl, rfl, by decide +kernel, rfl, by decide +kernel, by decide +kernel⟩
abbrev t_is_rule : Stmt := (top 15)
def d_is_rule : He.DefD := ⟨("is_rule", none), "is_rule", "is_rule", defArgs t_is_rule, defBody t_is_rule, defScope t_is_rule, [], []⟩
def p_is_rule : List Str := ["value", "columns"]
theorem sc_is_rule : FnScope n_is_rule p_is_rule (defScope t_is_rule) := ⟨rfl, rfl, rfl, by decide +kernel, rfl, by decide +kernel, by decide +kernel⟩
abbrev t_Table_init : Stmt := (inClass (top 16) 0)
def d_Table_init : He.DefD := ⟨("Table", some "__init__"), "__init__", "Table.__init__", defArgs t_Table_init, defBody t_Table_init, defScope t_Table_init, [], []⟩
def p_Table_init : List Str := ["self", "name", "columns", "required", "unique", "rules"]
theorem sc_Table_init : FnScope n_Table_init p_Table_init (defScope t_Table_init) := ⟨rfl, rfl, rfl, by decide +kernel, rfl, by decide +kernel, by decide +kernel⟩
abbrev t_law_begin : Stmt := (top 18)
def d_law_begin : He.DefD := ⟨("_law_begin", none), "_law_begin", "_law_begin", defArgs t_law_begin, defBody t_law_begin, defScope t_law_begin, [], []⟩
def p_law_begin : List Str := ["_law_script"]
theorem sc_law_begin : FnScope n_law_begin p_law_begin (defScope t_law_begin) := ⟨rfl, rfl, rfl, by decide +kernel, rfl, by decide +kernel, by decide +kernel⟩
abbrev t_law_draw : Stmt := (top 19)
def d_law_draw : He.DefD := ⟨("_law_draw", none), "_law_draw", "_law_draw", defArgs t_law_draw, defBody t_law_draw, defScope t_law_draw, [], []⟩
def p_law_draw : List Str := ["_law_draws", "_law_many"]
theorem sc_law_draw : FnScope n_law_draw p_law_draw (defScope t_law_draw) := ⟨rfl, rfl, rfl, by decide +kernel, rfl, by decide +kernel, by decide +kernel⟩
abbrev t_law_good_name : Stmt := (top 26)
def d_law_good_name : He.DefD := ⟨("_law_good_name", none), "_law_good_name", "_law_good_name", defArgs t_law_good_name, defBody t_law_good_name, defScope t_law_good_name, [], []⟩
def n_law_good_name : List Str := ["_law_value", "_law_letter"]
def p_law_good_name : List Str := ["_law_value"]
theorem sc_law_good_name : FnScope n_law_good_name p_law_good_name (defScope t_law_good_name) := ⟨rfl, rfl, rfl, by decide +kernel, rfl, by decide +kernel, by decide +kernel⟩
abbrev t_law_list_wrong : Stmt := (top 27)
def d_law_list_wrong : He.DefD := ⟨("_law_list_wrong", none), "_law_list_wrong", "_law_list_wrong", defArgs t_law_list_wrong, defBody t_law_list_wrong, defScope t_law_list_wrong, [], []⟩
def n_law_list_wrong : List Str := ["_law_things", "_law_columns", "_law_k"]
def p_law_list_wrong : List Str := ["_law_things", "_law_columns"]
theorem sc_law_list_wrong : FnScope n_law_list_wrong p_law_list_wrong (defScope t_law_list_wrong) := ⟨rfl, rfl, rfl, by decide +kernel, rfl, by decide +kernel, by decide +kernel⟩
abbrev t_law_key_good : Stmt := (top 28)
def d_law_key_good : He.DefD := ⟨("_law_key_good", none), "_law_key_good", "_law_key_good", defArgs t_law_key_good, defBody t_law_key_good, defScope t_law_key_good, [], []⟩
def n_law_key_good : List Str := ["_law_key", "_law_columns"]
def p_law_key_good : List Str := ["_law_key", "_law_columns"]
theorem sc_law_key_good : FnScope n_law_key_good p_law_key_good (defScope t_law_key_good) := ⟨rfl, rfl, rfl, by decide +kernel, rfl, by decide +kernel, by decide +kernel⟩
abbrev t_law_rule_good : Stmt := (top 29)
def d_law_rule_good : He.DefD := ⟨("_law_rule_good", none), "_law_rule_good", "_law_rule_good", defArgs t_law_rule_good, defBody t_law_rule_good, defScope t_law_rule_good, [], []⟩
def n_law_rule_good : List Str := ["_law_rule", "_law_columns"]
def p_law_rule_good : List Str := ["_law_rule", "_law_columns"]
theorem sc_law_rule_good : FnScope n_law_rule_good p_law_rule_good (defScope t_law_rule_good) := ⟨rfl, rfl, rfl, by decide +kernel, rfl, by decide +kernel, by decide +kernel⟩
abbrev t_law_due : Stmt := (top 30)
def d_law_due : He.DefD := ⟨("_law_due", none), "_law_due", "_law_due", defArgs t_law_due, defBody t_law_due, defScope t_law_due, [], []⟩
def n_law_due : List Str := ["_law_parts_here", "_law_k", "_law_name", "_law_columns", "_law_musts", "_law_uniques", "_law_rulings"]
def p_law_due : List Str := ["_law_parts_here"]
theorem sc_law_due : FnScope n_law_due p_law_due (defScope t_law_due) := ⟨rfl, rfl, rfl, by decide +kernel, rfl, by decide +kernel, by decide +kernel⟩
abbrev t_law_like : Stmt := (top 25)
def d_law_like : He.DefD := ⟨("_law_like", none), "_law_like", "_law_like", defArgs t_law_like, defBody t_law_like, defScope t_law_like, [], []⟩
def n_law_like : List Str := ["_law_actual", "_law_due_here", "_law_k"]
def p_law_like : List Str := ["_law_actual", "_law_due_here"]
theorem sc_law_like : FnScope n_law_like p_law_like (defScope t_law_like) := ⟨rfl, rfl, rfl, by decide +kernel, rfl, by decide +kernel, by decide +kernel⟩
abbrev t_law_names : Stmt := (top 20)
def d_law_names : He.DefD := ⟨("_law_names", none), "_law_names", "_law_names", defArgs t_law_names, defBody t_law_names, defScope t_law_names, [], []⟩
def p_law_names : List Str := ["_law_draws", "_law_menu", "_law_many"]
theorem sc_law_names : FnScope n_law_names p_law_names (defScope t_law_names) := ⟨rfl, rfl, rfl, by decide +kernel, rfl, by decide +kernel, by decide +kernel⟩
abbrev t_law_some : Stmt := (top 21)
def d_law_some : He.DefD := ⟨("_law_some", none), "_law_some", "_law_some", defArgs t_law_some, defBody t_law_some, defScope t_law_some, [], []⟩
def p_law_some : List Str := ["_law_draws", "_law_things", "_law_least"]
theorem sc_law_some : FnScope n_law_some p_law_some (defScope t_law_some) := ⟨rfl, rfl, rfl, by decide +kernel, rfl, by decide +kernel, by decide +kernel⟩
abbrev t_law_parts : Stmt := (top 22)
def d_law_parts : He.DefD := ⟨("_law_parts", none), "_law_parts", "_law_parts", defArgs t_law_parts, defBody t_law_parts, defScope t_law_parts, [], []⟩
def p_law_parts : List Str := ["_law_draws", "_law_name", "_law_most"]
theorem sc_law_parts : FnScope n_law_parts p_law_parts (defScope t_law_parts) := ⟨rfl, rfl, rfl, by decide +kernel, rfl, by decide +kernel, by decide +kernel⟩
abbrev t_law_spoil : Stmt := (top 31)
def d_law_spoil : He.DefD := ⟨("_law_spoil", none), "_law_spoil", "_law_spoil", defArgs t_law_spoil, defBody t_law_spoil, defScope t_law_spoil, [], []⟩
def n_law_spoil : List Str := ["_law_draws", "_law_parts_here", "_law_way", "_law_odd", "_law_columns", "_law_menu", "_law_wrong", "_law_key"]
def p_law_spoil : List Str := ["_law_draws", "_law_parts_here"]
theorem sc_law_spoil : FnScope n_law_spoil p_law_spoil (defScope t_law_spoil) := ⟨rfl, rfl, rfl, by decide +kernel, rfl, by decide +kernel, by decide +kernel⟩
abbrev t_law : Stmt := (top 32)
def d_law : He.DefD := ⟨("law", none), "law", "law", defArgs t_law, defBody t_law, defScope t_law, [], []⟩
def n_law : List Str := ["_law_script", "_law_draws", "_law_parts_here", "_law_k", "_law_due_here", "_law_passed", "_law_told", "_law_table_here", "e", "_law_keys", "_law_rulings", "_law_key", "_law_rule"]
def p_law : List Str := ["_law_script"]
theorem sc_law : FnScope n_law p_law (defScope t_law) := ⟨rfl, rfl, rfl, by decide +kernel, rfl, by decide +kernel, by decide +kernel⟩
def xt : List (Str × Str × Bool) := [("GroupError", "BadColumn", false), ("GroupError", "BadKey", false), ("GroupError", "BadName", false), ("GroupError", "BadRequired", false), ("GroupError", "BadRule", false), ("BadName", "BadColumn", false), ("BadName", "BadKey", false), ("BadName", "BadName", true), ("BadName", "BadRequired", false), ("BadName", "BadRule", false), ("BadColumn", "BadColumn", true), ("BadColumn", "BadKey", false), ("BadColumn", "BadName", false), ("BadColumn", "BadRequired", false), ("BadColumn", "BadRule", false), ("BadRequired", "BadColumn", false), ("BadRequired", "BadKey", false), ("BadRequired", "BadName", false), ("BadRequired", "BadRequired", true), ("BadRequired", "BadRule", false), ("BadKey", "BadColumn", false), ("BadKey", "BadKey", true), ("BadKey", "BadName", false), ("BadKey", "BadRequired", false), ("BadKey", "BadRule", false), ("BadRule", "BadColumn", false), ("BadRule", "BadKey", false), ("BadRule", "BadName", false), ("BadRule", "BadRequired", false), ("BadRule", "BadRule", true)]
def fa : List He.Fa := [.glo "_law_begin", .glo "_law_parts", .glo "_law_draw", .free "range", .glo "_law_spoil", .glo "_law_due", .free "list", .glo "Table", .noat "BadRule" "index", .glo "BadRule", .noat "BadKey" "index", .glo "BadKey", .noat "BadRequired" "index", .glo "BadRequired", .noat "BadColumn" "index", .glo "BadColumn", .glo "BadName", .cls "Table", .noat "Table" "name", .free "tuple", .noat "Table" "columns", .glo "_law_like", .noat "Table" "required", .noat "Table" "unique", .noat "Table" "rules", .glo "is_name", .exc "BadName", .glo "check_columns", .glo "first_wrong", .free "enumerate", .glo "is_columns", .free "len", .glo "is_rule", .int "MOST" 6, .free "isinstance", .free "str", .str "LETTERS" "abcdefghijklmnopqrstuvwxyz", .free "int", .glo "_law_good_name", .glo "_law_list_wrong", .glo "_law_key_good", .glo "_law_rule_good", .free "all", .free "bool", .glo "_law_names", .glo "_law_some", .mkr "Table", .glo "law"]
def ex : List (PySem.W.Frag → Bool) := [xfaB "BadRule", xfaB "BadKey", xfaB "BadRequired", xfaB "BadColumn", exmB xt, iniB "BadKey", oexB "BadKey", iniB "BadRequired", oexB "BadRequired", iniB "BadRule", oexB "BadRule", iniB "BadColumn", oexB "BadColumn", noList]
def fn : List He.DefD := [d_BadKey_init, d_BadRequired_init, d_BadRule_init, d_BadColumn_init, d_is_name, d_check_columns, d_first_wrong, d_is_columns, d_is_rule, d_Table_init, d_law_begin, d_law_draw, d_law_good_name, d_law_list_wrong, d_law_key_good, d_law_rule_good, d_law_due, d_law_like, d_law_names, d_law_some, d_law_parts, d_law_spoil, d_law]
theorem r_BadKey_init {P : Program} {w : World} {K : PySem.W.Frag} {mg : Str → Option Value} {base : Heap} (Y : Fc fa ex fn K mg) : FnE P w K mg base 1 "BadKey" p_BadKey_init ["index"] := by
  obtain ⟨fd, F⟩ := Y.fun 0 (d := d_BadKey_init) rfl
  have F : FunD K "__init__" "BadKey.__init__" (defArgs t_BadKey_init) (defBody t_BadKey_init) (defScope t_BadKey_init) [] [] (He.fAd K ("BadKey", some "__init__")) fd := F
  refine ⟨⟨fd, F.ok sc_BadKey_init (spX.len rfl) fun cdv A outer s H vs Q E hr h => ?_, FunD.bindsN F fun _ _ _ _ _ _ us hl => match us, hl with | [_, _], _ => rfl⟩, oexB_ok (Y.own 6 rfl), (Y.own 5 rfl)⟩
  exact px_one (oexB_ok (Y.own 6 rfl)) (He.noat_ok (Y.fact 10 rfl)) h (pv 0) (pv 1)
theorem r_BadRequired_init {P : Program} {w : World} {K : PySem.W.Frag} {mg : Str → Option Value} {base : Heap} (Y : Fc fa ex fn K mg) : FnE P w K mg base 1 "BadRequired" p_BadRequired_init ["index"] := by
  obtain ⟨fd, F⟩ := Y.fun 1 (d := d_BadRequired_init) rfl
  have F : FunD K "__init__" "BadRequired.__init__" (defArgs t_BadRequired_init) (defBody t_BadRequired_init) (defScope t_BadRequired_init) [] [] (He.fAd K ("BadRequired", some "__init__")) fd := F
  refine ⟨⟨fd, F.ok sc_BadRequired_init (spX.len rfl) fun cdv A outer s H vs Q E hr h => ?_, FunD.bindsN F fun _ _ _ _ _ _ us hl => match us, hl with | [_, _], _ => rfl⟩, oexB_ok (Y.own 8 rfl), (Y.own 7 rfl)⟩
  exact px_one (oexB_ok (Y.own 8 rfl)) (He.noat_ok (Y.fact 12 rfl)) h (pv 0) (pv 1)
theorem r_BadRule_init {P : Program} {w : World} {K : PySem.W.Frag} {mg : Str → Option Value} {base : Heap} (Y : Fc fa ex fn K mg) : FnE P w K mg base 1 "BadRule" p_BadRule_init ["index"] := by
  obtain ⟨fd, F⟩ := Y.fun 2 (d := d_BadRule_init) rfl
  have F : FunD K "__init__" "BadRule.__init__" (defArgs t_BadRule_init) (defBody t_BadRule_init) (defScope t_BadRule_init) [] [] (He.fAd K ("BadRule", some "__init__")) fd := F
  refine ⟨⟨fd, F.ok sc_BadRule_init (spX.len rfl) fun cdv A outer s H vs Q E hr h => ?_, FunD.bindsN F fun _ _ _ _ _ _ us hl => match us, hl with | [_, _], _ => rfl⟩, oexB_ok (Y.own 10 rfl), (Y.own 9 rfl)⟩
  exact px_one (oexB_ok (Y.own 10 rfl)) (He.noat_ok (Y.fact 8 rfl)) h (pv 0) (pv 1)
theorem r_BadColumn_init {P : Program} {w : World} {K : PySem.W.Frag} {mg : Str → Option Value} {base : Heap} (Y : Fc fa ex fn K mg) : FnE P w K mg base 1 "BadColumn" p_BadColumn_init ["index"] := by
  obtain ⟨fd, F⟩ := Y.fun 3 (d := d_BadColumn_init) rfl
  have F : FunD K "__init__" "BadColumn.__init__" (defArgs t_BadColumn_init) (defBody t_BadColumn_init) (defScope t_BadColumn_init) [] [] (He.fAd K ("BadColumn", some "__init__")) fd := F
  refine ⟨⟨fd, F.ok sc_BadColumn_init (spX.len rfl) fun cdv A outer s H vs Q E hr h => ?_, FunD.bindsN F fun _ _ _ _ _ _ us hl => match us, hl with | [_, _], _ => rfl⟩, oexB_ok (Y.own 12 rfl), (Y.own 11 rfl)⟩
  exact px_one (oexB_ok (Y.own 12 rfl)) (He.noat_ok (Y.fact 14 rfl)) h (pv 0) (pv 1)
theorem f_is_name {K : PySem.W.Frag} {mg : Str → Option Value} (Y : Fc fa ex fn K mg) : ∃ fd, FunD K "is_name" "is_name" (defArgs t_is_name) (defBody t_is_name) (defScope t_is_name) [] [] (He.fAd K ("is_name", none)) fd := by
  obtain ⟨fd, F⟩ := Y.fun 4 (d := d_is_name) rfl
  exact ⟨fd, F⟩
theorem b_is_name {P : Program} {w : World} {K : PySem.W.Frag} {mg : Str → Option Value} {base : Heap} (Y : Fc fa ex fn K mg) {f : Addr} {cdv : Value} {A : Around} {outer : List Env} {s : Shared} {H : Hp} {E : XK} {B : Base0} (hr : Room 0 (cxG P w K mg base n_is_name "is_name" (defScope t_is_name) f cdv A outer s H E).A) (tk : Takes (cxG P w K mg base n_is_name "is_name" (defScope t_is_name) f cdv A outer s H E) B.W) : FSs (cxG P w K mg base n_is_name "is_name" (defScope t_is_name) f cdv A outer s H E) B (defBody t_is_name) m_is_name := by
  have nd := sc_is_name.nd
  unfold m_is_name
  refine (fs_cons (fs_if (ft_w (fw_or (ft_not (ft_truth (fe_isi .str (fe_var 0) (Y.free_ (Y.fact 34 rfl)) (Y.free_ (Y.fact 35 rfl)) bo_str))) (fw_or1 (ft_not (ft_chain o_le o_le fe_int (fe_callB c_len (Y.free_ (Y.fact 31 rfl)) bo_len (fa_cons (fe_var 0) fa_nil)) fe_int)))))
      (fs_one (fs_ret fe_bl))
      fs_nil)
      (fs_cons (fs_for (t := (.nm 1)) poG rfl (fi_str (fe_var 0)) (fg_name 1 nd)
      (by unfold l_is_name_1; exact (fs_one (fs_if (ft_cmp (o_notIn hr) (fe_var 1) (fe_gstr (Y.str_ (Y.fact 36 rfl))) rfl)
      (fs_one (fs_ret fe_bl))
      fs_nil))))
      (fs_one (fs_ret fe_bl))))
theorem o_is_name {P : Program} {w : World} {K : PySem.W.Frag} {mg : Str → Option Value} {base : Heap} (Y : Fc fa ex fn K mg) {fd : FuncData} (F : FunD K "is_name" "is_name" (defArgs t_is_name) (defBody t_is_name) (defScope t_is_name) [] [] (He.fAd K ("is_name", none)) fd) : FnOk P w K mg base (L2.CX P w) 1 (He.fAd K ("is_name", none)) fd p_is_name (spF K p_is_name.length s_is_name) :=
  okF F sc_is_name fun _ _ _ _ _ _ _ hr tk => b_is_name Y hr tk
theorem r_is_name {P : Program} {w : World} {K : PySem.W.Frag} {mg : Str → Option Value} {base : Heap} (Y : Fc fa ex fn K mg) : FnR P w K mg base 1 ("is_name", none) p_is_name s_is_name [] := by
  obtain ⟨fd, F⟩ := f_is_name Y
  exact ⟨⟨fd, [], [], o_is_name Y F, FunD.bindsN F fun _ _ _ _ _ _ us hl => match us, hl with | [_], _ => rfl, .nil, rls_nil⟩, F.kp⟩
theorem f_check_columns {K : PySem.W.Frag} {mg : Str → Option Value} (Y : Fc fa ex fn K mg) : ∃ fd, FunD K "check_columns" "check_columns" (defArgs t_check_columns) (defBody t_check_columns) (defScope t_check_columns) [] [] (He.fAd K ("check_columns", none)) fd := by
  obtain ⟨fd, F⟩ := Y.fun 5 (d := d_check_columns) rfl
  exact ⟨fd, F⟩
theorem b_check_columns {P : Program} {w : World} {K : PySem.W.Frag} {mg : Str → Option Value} {base : Heap} (Y : Fc fa ex fn K mg) {f : Addr} {cdv : Value} {A : Around} {outer : List Env} {s : Shared} {H : Hp} {E : XK} {B : Base0} (hr : Room 2 (cxG P w K mg base n_check_columns "check_columns" (defScope t_check_columns) f cdv A outer s H E).A) (tk : Takes (cxG P w K mg base n_check_columns "check_columns" (defScope t_check_columns) f cdv A outer s H E) B.W) : FSs (cxG P w K mg base n_check_columns "check_columns" (defScope t_check_columns) f cdv A outer s H E) B (defBody t_check_columns) m_check_columns := by
  have nd := sc_check_columns.nd
  unfold m_check_columns
  refine (fs_cons (fs_if (ft_not (ft_truth (fe_var 0)))
      (fs_one (fs_raiseR rfl tk (r_BadColumn_init Y) hr (by decide) (Y.glo_ (Y.fact 15 rfl)) (fap_cons fe_int fap_nil)))
      fs_nil)
      (fs_cons (fs_if (ft_cmp o_gt (fe_callB c_len (Y.free_ (Y.fact 31 rfl)) bo_len (fa_cons (fe_var 0) fa_nil)) (fe_gint (Y.int_ (Y.fact 33 rfl))) (nomark _))
      (fs_one (fs_raiseR rfl tk (r_BadColumn_init Y) hr (by decide) (Y.glo_ (Y.fact 15 rfl)) (fap_cons (fe_gint (Y.int_ (Y.fact 33 rfl))) fap_nil)))
      fs_nil)
      (fs_one (fs_for (t := (.tp [1, 2])) poG rfl (fi_enum (Y.free_ (Y.fact 29 rfl)) (fap_cons (fe_var 0) fap_nil)) (fg_tup rfl (fgs_cons (fg_name 1 nd) (fgs_cons (fg_name 2 nd) fgs_nil)))
      (by unfold l_check_columns_1; exact (fs_one (fs_if (ft_w (fw_or (ft_not (ft_truth (fe_callR tk (r_is_name Y) hr (by decide) (Y.glo_ (Y.fact 25 rfl)) (fap_cons (fe_var 2) fap_nil)))) (fw_or1 (ft_cmp (o_in hr) (fe_var 2) (fe_slice (fe_var 0) fo_none (fo_some (fe_var 1))) rfl))))
      (fs_one (fs_raiseR rfl tk (r_BadColumn_init Y) hr (by decide) (Y.glo_ (Y.fact 15 rfl)) (fap_cons (fe_var 1) fap_nil)))
      fs_nil)))))))
theorem o_check_columns {P : Program} {w : World} {K : PySem.W.Frag} {mg : Str → Option Value} {base : Heap} (Y : Fc fa ex fn K mg) {fd : FuncData} (F : FunD K "check_columns" "check_columns" (defArgs t_check_columns) (defBody t_check_columns) (defScope t_check_columns) [] [] (He.fAd K ("check_columns", none)) fd) : FnOk P w K mg base (L2.CX P w) 3 (He.fAd K ("check_columns", none)) fd p_check_columns (spF K p_check_columns.length s_check_columns) :=
  okF F sc_check_columns fun _ _ _ _ _ _ _ hr tk => b_check_columns Y hr tk
theorem r_check_columns {P : Program} {w : World} {K : PySem.W.Frag} {mg : Str → Option Value} {base : Heap} (Y : Fc fa ex fn K mg) : FnR P w K mg base 3 ("check_columns", none) p_check_columns s_check_columns [] := by
  obtain ⟨fd, F⟩ := f_check_columns Y
  exact ⟨⟨fd, [], [], o_check_columns Y F, FunD.bindsN F fun _ _ _ _ _ _ us hl => match us, hl with | [_], _ => rfl, .nil, rls_nil⟩, F.kp⟩
theorem f_first_wrong {K : PySem.W.Frag} {mg : Str → Option Value} (Y : Fc fa ex fn K mg) : ∃ fd, FunD K "first_wrong" "first_wrong" (defArgs t_first_wrong) (defBody t_first_wrong) (defScope t_first_wrong) [] [] (He.fAd K ("first_wrong", none)) fd := by
  obtain ⟨fd, F⟩ := Y.fun 6 (d := d_first_wrong) rfl
  exact ⟨fd, F⟩
theorem b_first_wrong {P : Program} {w : World} {K : PySem.W.Frag} {mg : Str → Option Value} {base : Heap} (Y : Fc fa ex fn K mg) {f : Addr} {cdv : Value} {A : Around} {outer : List Env} {s : Shared} {H : Hp} {E : XK} {B : Base0} (hr : Room 0 (cxG P w K mg base n_first_wrong "first_wrong" (defScope t_first_wrong) f cdv A outer s H E).A) (tk : Takes (cxG P w K mg base n_first_wrong "first_wrong" (defScope t_first_wrong) f cdv A outer s H E) B.W) : FSs (cxG P w K mg base n_first_wrong "first_wrong" (defScope t_first_wrong) f cdv A outer s H E) B (defBody t_first_wrong) m_first_wrong := by
  have nd := sc_first_wrong.nd
  unfold m_first_wrong
  refine (fs_cons (fs_for (t := (.tp [2, 3])) poG rfl (fi_enum (Y.free_ (Y.fact 29 rfl)) (fap_cons (fe_var 0) fap_nil)) (fg_tup rfl (fgs_cons (fg_name 2 nd) (fgs_cons (fg_name 3 nd) fgs_nil)))
      (by unfold l_first_wrong_1; exact (fs_one (fs_if (ft_w (fw_or (ft_not (ft_truth (fe_isi .str (fe_var 3) (Y.free_ (Y.fact 34 rfl)) (Y.free_ (Y.fact 35 rfl)) bo_str))) (fw_or (ft_cmp (o_notIn hr) (fe_var 3) (fe_var 1) rfl) (fw_or1 (ft_cmp (o_in hr) (fe_var 3) (fe_slice (fe_var 0) fo_none (fo_some (fe_var 2))) rfl)))))
      (fs_one (fs_ret (fe_var 2)))
      fs_nil))))
      (fs_one (fs_ret fe_non)))
theorem o_first_wrong {P : Program} {w : World} {K : PySem.W.Frag} {mg : Str → Option Value} {base : Heap} (Y : Fc fa ex fn K mg) {fd : FuncData} (F : FunD K "first_wrong" "first_wrong" (defArgs t_first_wrong) (defBody t_first_wrong) (defScope t_first_wrong) [] [] (He.fAd K ("first_wrong", none)) fd) : FnOk P w K mg base (L2.CX P w) 1 (He.fAd K ("first_wrong", none)) fd p_first_wrong (spF K p_first_wrong.length s_first_wrong) :=
  okF F sc_first_wrong fun _ _ _ _ _ _ _ hr tk => b_first_wrong Y hr tk
theorem r_first_wrong {P : Program} {w : World} {K : PySem.W.Frag} {mg : Str → Option Value} {base : Heap} (Y : Fc fa ex fn K mg) : FnR P w K mg base 1 ("first_wrong", none) p_first_wrong s_first_wrong [] := by
  obtain ⟨fd, F⟩ := f_first_wrong Y
  exact ⟨⟨fd, [], [], o_first_wrong Y F, FunD.bindsN F fun _ _ _ _ _ _ us hl => match us, hl with | [_, _], _ => rfl, .nil, rls_nil⟩, F.kp⟩
theorem f_is_columns {K : PySem.W.Frag} {mg : Str → Option Value} (Y : Fc fa ex fn K mg) : ∃ fd, FunD K "is_columns" "is_columns" (defArgs t_is_columns) (defBody t_is_columns) (defScope t_is_columns) [] [] (He.fAd K ("is_columns", none)) fd := by
  obtain ⟨fd, F⟩ := Y.fun 7 (d := d_is_columns) rfl
  exact ⟨fd, F⟩
theorem b_is_columns {P : Program} {w : World} {K : PySem.W.Frag} {mg : Str → Option Value} {base : Heap} (Y : Fc fa ex fn K mg) {f : Addr} {cdv : Value} {A : Around} {outer : List Env} {s : Shared} {H : Hp} {E : XK} {B : Base0} (hr : Room 1 (cxG P w K mg base n_is_columns "is_columns" (defScope t_is_columns) f cdv A outer s H E).A) (tk : Takes (cxG P w K mg base n_is_columns "is_columns" (defScope t_is_columns) f cdv A outer s H E) B.W) : FSs (cxG P w K mg base n_is_columns "is_columns" (defScope t_is_columns) f cdv A outer s H E) B (defBody t_is_columns) m_is_columns := by
  have nd := sc_is_columns.nd
  unfold m_is_columns
  refine (fs_one (fs_ret (fe_and (fe_isi2 .lst .tup (fe_var 0) (Y.free_ (Y.fact 34 rfl)) (Y.free_ (Y.fact 6 rfl)) bo_list (Y.free_ (Y.fact 19 rfl)) bo_tuple) (fe_one (fe_cmp o_is (fe_callR tk (r_first_wrong Y) hr (by decide) (Y.glo_ (Y.fact 28 rfl)) (fap_cons (fe_var 0) (fap_cons (fe_var 1) fap_nil))) fe_non (nomark _))))))
theorem o_is_columns {P : Program} {w : World} {K : PySem.W.Frag} {mg : Str → Option Value} {base : Heap} (Y : Fc fa ex fn K mg) {fd : FuncData} (F : FunD K "is_columns" "is_columns" (defArgs t_is_columns) (defBody t_is_columns) (defScope t_is_columns) [] [] (He.fAd K ("is_columns", none)) fd) : FnOk P w K mg base (L2.CX P w) 2 (He.fAd K ("is_columns", none)) fd p_is_columns (spF K p_is_columns.length s_is_columns) :=
  okF F sc_is_columns fun _ _ _ _ _ _ _ hr tk => b_is_columns Y hr tk
theorem r_is_columns {P : Program} {w : World} {K : PySem.W.Frag} {mg : Str → Option Value} {base : Heap} (Y : Fc fa ex fn K mg) : FnR P w K mg base 2 ("is_columns", none) p_is_columns s_is_columns [] := by
  obtain ⟨fd, F⟩ := f_is_columns Y
  exact ⟨⟨fd, [], [], o_is_columns Y F, FunD.bindsN F fun _ _ _ _ _ _ us hl => match us, hl with | [_, _], _ => rfl, .nil, rls_nil⟩, F.kp⟩
theorem f_is_rule {K : PySem.W.Frag} {mg : Str → Option Value} (Y : Fc fa ex fn K mg) : ∃ fd, FunD K "is_rule" "is_rule" (defArgs t_is_rule) (defBody t_is_rule) (defScope t_is_rule) [] [] (He.fAd K ("is_rule", none)) fd := by
  obtain ⟨fd, F⟩ := Y.fun 8 (d := d_is_rule) rfl
  exact ⟨fd, F⟩
theorem b_is_rule {P : Program} {w : World} {K : PySem.W.Frag} {mg : Str → Option Value} {base : Heap} (Y : Fc fa ex fn K mg) {f : Addr} {cdv : Value} {A : Around} {outer : List Env} {s : Shared} {H : Hp} {E : XK} {B : Base0} (hr : Room 2 (cxG P w K mg base n_is_rule "is_rule" (defScope t_is_rule) f cdv A outer s H E).A) (tk : Takes (cxG P w K mg base n_is_rule "is_rule" (defScope t_is_rule) f cdv A outer s H E) B.W) : FSs (cxG P w K mg base n_is_rule "is_rule" (defScope t_is_rule) f cdv A outer s H E) B (defBody t_is_rule) m_is_rule := by
  have nd := sc_is_rule.nd
  unfold m_is_rule
  refine (fs_cons (fs_if (ft_w (fw_or (ft_not (ft_truth (fe_isi .tup (fe_var 0) (Y.free_ (Y.fact 34 rfl)) (Y.free_ (Y.fact 19 rfl)) bo_tuple))) (fw_or (ft_cmp (o_ne hr) (fe_callB c_len (Y.free_ (Y.fact 31 rfl)) bo_len (fa_cons (fe_var 0) fa_nil)) fe_int (nomark _)) (fw_or1 (ft_not (ft_truth (fe_callR tk (r_is_columns Y) hr (by decide) (Y.glo_ (Y.fact 30 rfl)) (fap_cons (fe_ix i_seq (fe_var 0) fe_int) (fap_cons (fe_var 1) fap_nil)))))))))
      (fs_one (fs_ret fe_bl))
      fs_nil)
      (fs_one (fs_ret (fe_and (fe_isi .str (fe_ix i_seq (fe_var 0) fe_int) (Y.free_ (Y.fact 34 rfl)) (Y.free_ (Y.fact 35 rfl)) bo_str) (fe_one (fe_cmp (o_in hr) (fe_ix i_seq (fe_var 0) fe_int) (fe_var 1) rfl))))))
theorem o_is_rule {P : Program} {w : World} {K : PySem.W.Frag} {mg : Str → Option Value} {base : Heap} (Y : Fc fa ex fn K mg) {fd : FuncData} (F : FunD K "is_rule" "is_rule" (defArgs t_is_rule) (defBody t_is_rule) (defScope t_is_rule) [] [] (He.fAd K ("is_rule", none)) fd) : FnOk P w K mg base (L2.CX P w) 3 (He.fAd K ("is_rule", none)) fd p_is_rule (spF K p_is_rule.length s_is_rule) :=
  okF F sc_is_rule fun _ _ _ _ _ _ _ hr tk => b_is_rule Y hr tk
theorem r_is_rule {P : Program} {w : World} {K : PySem.W.Frag} {mg : Str → Option Value} {base : Heap} (Y : Fc fa ex fn K mg) : FnR P w K mg base 3 ("is_rule", none) p_is_rule s_is_rule [] := by
  obtain ⟨fd, F⟩ := f_is_rule Y
  exact ⟨⟨fd, [], [], o_is_rule Y F, FunD.bindsN F fun _ _ _ _ _ _ us hl => match us, hl with | [_, _], _ => rfl, .nil, rls_nil⟩, F.kp⟩
theorem f_Table_init {K : PySem.W.Frag} {mg : Str → Option Value} (Y : Fc fa ex fn K mg) : ∃ fd, FunD K "__init__" "Table.__init__" (defArgs t_Table_init) (defBody t_Table_init) (defScope t_Table_init) [] [] (He.fAd K ("Table", some "__init__")) fd := by
  obtain ⟨fd, F⟩ := Y.fun 9 (d := d_Table_init) rfl
  exact ⟨fd, F⟩
theorem b_Table_init {P : Program} {w : World} {K : PySem.W.Frag} {mg : Str → Option Value} {base : Heap} (Y : Fc fa ex fn K mg) {f : Addr} {cdv : Value} {A : Around} {outer : List Env} {s : Shared} {H : Hp} {E : XK} {B : Base0} (hr : Room 3 (cxG P w K mg base n_Table_init "Table.__init__" (defScope t_Table_init) f cdv A outer s H E).A) (tk : Takes (cxG P w K mg base n_Table_init "Table.__init__" (defScope t_Table_init) f cdv A outer s H E) B.W) : FSs (cxG P w K mg base n_Table_init "Table.__init__" (defScope t_Table_init) f cdv A outer s H E) B (defBody t_Table_init) m_Table_init := by
  have nd := sc_Table_init.nd
  unfold m_Table_init
  refine (fs_cons (fs_if (ft_not (ft_truth (fe_callR tk (r_is_name Y) hr (by decide) (Y.glo_ (Y.fact 25 rfl)) (fap_cons (fe_var 1) fap_nil))))
      (fs_one (fs_raise0R rfl tk (Y.fact 26 rfl) (Y.glo_ (Y.fact 16 rfl))))
      fs_nil)
      (fs_cons (fs_expr (fe_callR tk (r_check_columns Y) hr (by decide) (Y.glo_ (Y.fact 27 rfl)) (fap_cons (fe_var 2) fap_nil)))
      (fs_cons (fs_set 6 nd (fe_callR tk (r_first_wrong Y) hr (by decide) (Y.glo_ (Y.fact 28 rfl)) (fap_cons (fe_var 3) (fap_cons (fe_var 2) fap_nil))))
      (fs_cons (fs_if (ft_cmp o_isNot (fe_var 6) fe_non (nomark _))
      (fs_one (fs_raiseR rfl tk (r_BadRequired_init Y) hr (by decide) (Y.glo_ (Y.fact 13 rfl)) (fap_cons (fe_var 6) fap_nil)))
      fs_nil)
      (fs_cons (fs_for (t := (.tp [7, 8])) poG rfl (fi_enum (Y.free_ (Y.fact 29 rfl)) (fap_cons (fe_var 4) fap_nil)) (fg_tup rfl (fgs_cons (fg_name 7 nd) (fgs_cons (fg_name 8 nd) fgs_nil)))
      (by unfold l_Table_init_1; exact (fs_one (fs_if (ft_w (fw_or (ft_not (ft_truth (fe_callR tk (r_is_columns Y) hr (by decide) (Y.glo_ (Y.fact 30 rfl)) (fap_cons (fe_var 8) (fap_cons (fe_var 2) fap_nil))))) (fw_or1 (ft_cmp (o_eq hr) (fe_callB c_len (Y.free_ (Y.fact 31 rfl)) bo_len (fa_cons (fe_var 8) fa_nil)) fe_int (nomark _)))))
      (fs_one (fs_raiseR rfl tk (r_BadKey_init Y) hr (by decide) (Y.glo_ (Y.fact 11 rfl)) (fap_cons (fe_var 7) fap_nil)))
      fs_nil))))
      (fs_cons (fs_for (t := (.tp [7, 9])) poG rfl (fi_enum (Y.free_ (Y.fact 29 rfl)) (fap_cons (fe_var 5) fap_nil)) (fg_tup rfl (fgs_cons (fg_name 7 nd) (fgs_cons (fg_name 9 nd) fgs_nil)))
      (by unfold l_Table_init_2; exact (fs_one (fs_if (ft_not (ft_truth (fe_callR tk (r_is_rule Y) hr (by decide) (Y.glo_ (Y.fact 32 rfl)) (fap_cons (fe_var 9) (fap_cons (fe_var 2) fap_nil)))))
      (fs_one (fs_raiseR rfl tk (r_BadRule_init Y) hr (by decide) (Y.glo_ (Y.fact 9 rfl)) (fap_cons (fe_var 7) fap_nil)))
      fs_nil))))
      (fs_cons (fs_fld "Table" (He.cls_ok (Y.fact 17 rfl)) (He.noat_ok (Y.fact 18 rfl)) (fe_var 0) (fe_var 1))
      (fs_cons (fs_fld "Table" (He.cls_ok (Y.fact 17 rfl)) (He.noat_ok (Y.fact 20 rfl)) (fe_var 0) (fe_callTy c_tuple (Y.free_ (Y.fact 19 rfl)) bo_tuple (fa_cons (fe_var 2) fa_nil)))
      (fs_cons (fs_fld "Table" (He.cls_ok (Y.fact 17 rfl)) (He.noat_ok (Y.fact 22 rfl)) (fe_var 0) (fe_callTy c_tuple (Y.free_ (Y.fact 19 rfl)) bo_tuple (fa_cons (fe_var 3) fa_nil)))
      (fs_cons (fs_fld "Table" (He.cls_ok (Y.fact 17 rfl)) (He.noat_ok (Y.fact 23 rfl)) (fe_var 0) (fe_callTy c_tuple (Y.free_ (Y.fact 19 rfl)) bo_tuple (fa_cons (fe_lc (t := (.nm 8)) (own := [("key", 8)]) rfl nd (fi_seq (fe_var 4)) (blk_of (by kernel_rfl)) (fun _ _ _ _ _ => (fg_name 8 nd)) (fun _ _ _ _ _ => pt_nil) (fun _ _ _ _ _ => (fe_callTy c_tuple (Y.free_ (Y.fact 19 rfl)) bo_tuple (fa_cons (fe_var 8) fa_nil)))) fa_nil)))
      (fs_one (fs_fld "Table" (He.cls_ok (Y.fact 17 rfl)) (He.noat_ok (Y.fact 24 rfl)) (fe_var 0) (fe_callTy c_tuple (Y.free_ (Y.fact 19 rfl)) bo_tuple (fa_cons (fe_lc (t := (.nm 9)) (own := [("rule", 9)]) rfl nd (fi_seq (fe_var 5)) (blk_of (by kernel_rfl)) (fun _ _ _ _ _ => (fg_name 9 nd)) (fun _ _ _ _ _ => pt_nil) (fun _ _ _ _ _ => (fe_tup (fap_cons (fe_callTy c_tuple (Y.free_ (Y.fact 19 rfl)) bo_tuple (fa_cons (fe_ix i_seq (fe_var 9) fe_int) fa_nil)) (fap_cons (fe_ix i_seq (fe_var 9) fe_int) fap_nil))))) fa_nil))))))))))))))
theorem o_Table_init {P : Program} {w : World} {K : PySem.W.Frag} {mg : Str → Option Value} {base : Heap} (Y : Fc fa ex fn K mg) {fd : FuncData} (F : FunD K "__init__" "Table.__init__" (defArgs t_Table_init) (defBody t_Table_init) (defScope t_Table_init) [] [] (He.fAd K ("Table", some "__init__")) fd) : FnOk P w K mg base (L2.CX P w) 4 (He.fAd K ("Table", some "__init__")) fd p_Table_init (spF K p_Table_init.length s_Table_init) :=
  okF F sc_Table_init fun _ _ _ _ _ _ _ hr tk => b_Table_init Y hr tk
theorem r_Table_init {P : Program} {w : World} {K : PySem.W.Frag} {mg : Str → Option Value} {base : Heap} (Y : Fc fa ex fn K mg) : FnK P w K mg base 4 "Table" 2 p_Table_init ["required", "unique", "rules"] s_Table_init := by
  obtain ⟨fd, F⟩ := f_Table_init Y
  exact ⟨⟨fd, _, _, o_Table_init Y F, kbindsN F fun _ _ _ _ _ _ us ws hl hw => match us, hl, ws, hw with | [_, _, _], _, [_, _, _], _ => rfl, fun _ _ => rfl⟩, He.mkr_ok (Y.fact 46 rfl)⟩
theorem f_law_begin {K : PySem.W.Frag} {mg : Str → Option Value} (Y : Fc fa ex fn K mg) : ∃ fd, FunD K "_law_begin" "_law_begin" (defArgs t_law_begin) (defBody t_law_begin) (defScope t_law_begin) [] [] (He.fAd K ("_law_begin", none)) fd := by
  obtain ⟨fd, F⟩ := Y.fun 10 (d := d_law_begin) rfl
  exact ⟨fd, F⟩
theorem b_law_begin {P : Program} {w : World} {K : PySem.W.Frag} {mg : Str → Option Value} {base : Heap} (Y : Fc fa ex fn K mg) {f : Addr} {cdv : Value} {A : Around} {outer : List Env} {s : Shared} {H : Hp} {E : XK} {B : Base0} (hr : Room 0 (cxG P w K mg base n_law_begin "_law_begin" (defScope t_law_begin) f cdv A outer s H E).A) (tk : Takes (cxG P w K mg base n_law_begin "_law_begin" (defScope t_law_begin) f cdv A outer s H E) B.W) : FSs (cxG P w K mg base n_law_begin "_law_begin" (defScope t_law_begin) f cdv A outer s H E) B (defBody t_law_begin) m_law_begin := by
  have nd := sc_law_begin.nd
  unfold m_law_begin
  refine (fs_one (fs_ret (fe_lstC (fap_cons (fe_callTy c_list (Y.free_ (Y.fact 6 rfl)) bo_list (fa_cons (fe_var 0) fa_nil)) (fap_cons fe_int (fap_cons fe_int (fap_cons fe_int fap_nil)))))))
theorem o_law_begin {P : Program} {w : World} {K : PySem.W.Frag} {mg : Str → Option Value} {base : Heap} (Y : Fc fa ex fn K mg) {fd : FuncData} (F : FunD K "_law_begin" "_law_begin" (defArgs t_law_begin) (defBody t_law_begin) (defScope t_law_begin) [] [] (He.fAd K ("_law_begin", none)) fd) : FnOk P w K mg base (L2.CX P w) 1 (He.fAd K ("_law_begin", none)) fd p_law_begin (spF K p_law_begin.length s_law_begin) :=
  okF F sc_law_begin fun _ _ _ _ _ _ _ hr tk => b_law_begin Y hr tk
theorem r_law_begin {P : Program} {w : World} {K : PySem.W.Frag} {mg : Str → Option Value} {base : Heap} (Y : Fc fa ex fn K mg) : FnR P w K mg base 1 ("_law_begin", none) p_law_begin s_law_begin [] := by
  obtain ⟨fd, F⟩ := f_law_begin Y
  exact ⟨⟨fd, [], [], o_law_begin Y F, FunD.bindsN F fun _ _ _ _ _ _ us hl => match us, hl with | [_], _ => rfl, .nil, rls_nil⟩, F.kp⟩
theorem f_law_draw {K : PySem.W.Frag} {mg : Str → Option Value} (Y : Fc fa ex fn K mg) : ∃ fd, FunD K "_law_draw" "_law_draw" (defArgs t_law_draw) (defBody t_law_draw) (defScope t_law_draw) [] [] (He.fAd K ("_law_draw", none)) fd := by
  obtain ⟨fd, F⟩ := Y.fun 11 (d := d_law_draw) rfl
  exact ⟨fd, F⟩
theorem b_law_draw {P : Program} {w : World} {K : PySem.W.Frag} {mg : Str → Option Value} {base : Heap} (Y : Fc fa ex fn K mg) {f : Addr} {cdv : Value} {A : Around} {outer : List Env} {s : Shared} {H : Hp} {E : XK} {B : Base0} (hr : Room 0 (cxG P w K mg base n_law_draw "_law_draw" (defScope t_law_draw) f cdv A outer s H E).A) (tk : Takes (cxG P w K mg base n_law_draw "_law_draw" (defScope t_law_draw) f cdv A outer s H E) B.W) : FSs (cxG P w K mg base n_law_draw "_law_draw" (defScope t_law_draw) f cdv A outer s H E) B (defBody t_law_draw) m_law_draw := by
  have nd := sc_law_draw.nd
  unfold m_law_draw
  refine (fs_cons (fs_if (ft_cmp (o_eq hr) (fe_ix i_seq (fe_var 0) fe_int) fe_int (nomark _))
      (fs_one (fs_if (ft_cmp o_lt (fe_ix i_seq (fe_var 0) fe_int) (fe_callB c_len (Y.free_ (Y.fact 31 rfl)) bo_len (fa_cons (fe_ix i_seq (fe_var 0) fe_int) fa_nil)) (nomark _))
      (fs_cons (fs_set 3 nd (fe_ix i_seq (fe_ix i_seq (fe_var 0) fe_int) (fe_ix i_seq (fe_var 0) fe_int)))
      (fs_cons (fs_setIx (fe_op o_add (fe_ix i_seq (fe_var 0) fe_int) fe_int) (fe_var 0) fe_int)
      (fs_one (fs_if (ft_cmp o_ge (fe_var 3) (fe_op o_pow fe_int fe_int) (nomark _))
      (fs_one (fs_setIx (fe_var 3) (fe_var 0) fe_int))
      (fs_one (fs_setIx (fe_op o_mod (fe_callTy c_int (Y.free_ (Y.fact 37 rfl)) bo_int (fa_cons (fe_op o_add (fe_op o_add (fe_op o_mul (fe_ix i_seq (fe_var 0) fe_int) fe_int) (fe_op o_mul (fe_var 3) fe_int)) fe_int) fa_nil)) fe_int) (fe_var 0) fe_int))))))
      (fs_one (fs_setIx (fe_op o_mod (fe_callTy c_int (Y.free_ (Y.fact 37 rfl)) bo_int (fa_cons (fe_op o_add (fe_op o_mul (fe_ix i_seq (fe_var 0) fe_int) fe_int) fe_int) fa_nil)) fe_int) (fe_var 0) fe_int))))
      fs_nil)
      (fs_cons (fs_if (ft_cmp o_gt (fe_ix i_seq (fe_var 0) fe_int) fe_int (nomark _))
      (fs_cons (fs_set 2 nd (fe_op o_mod (fe_callTy c_int (Y.free_ (Y.fact 37 rfl)) bo_int (fa_cons (fe_ix i_seq (fe_var 0) fe_int) fa_nil)) (fe_var 1)))
      (fs_cons (fs_setIx (fe_op o_div (fe_ix i_seq (fe_var 0) fe_int) (fe_var 1)) (fe_var 0) fe_int)
      (fs_one (fs_ret (fe_var 2)))))
      fs_nil)
      (fs_one (fs_ret (fe_op o_mod (fe_op o_mod (fe_callTy c_int (Y.free_ (Y.fact 37 rfl)) bo_int (fa_cons (fe_op o_mul (fe_ix i_seq (fe_var 0) fe_int) fe_int) fa_nil)) fe_int) (fe_var 1))))))
theorem o_law_draw {P : Program} {w : World} {K : PySem.W.Frag} {mg : Str → Option Value} {base : Heap} (Y : Fc fa ex fn K mg) {fd : FuncData} (F : FunD K "_law_draw" "_law_draw" (defArgs t_law_draw) (defBody t_law_draw) (defScope t_law_draw) [] [] (He.fAd K ("_law_draw", none)) fd) : FnOk P w K mg base (L2.CX P w) 1 (He.fAd K ("_law_draw", none)) fd p_law_draw (spF K p_law_draw.length s_law_draw) :=
  okF F sc_law_draw fun _ _ _ _ _ _ _ hr tk => b_law_draw Y hr tk
theorem r_law_draw {P : Program} {w : World} {K : PySem.W.Frag} {mg : Str → Option Value} {base : Heap} (Y : Fc fa ex fn K mg) : FnR P w K mg base 1 ("_law_draw", none) p_law_draw s_law_draw [] := by
  obtain ⟨fd, F⟩ := f_law_draw Y
  exact ⟨⟨fd, [], [], o_law_draw Y F, FunD.bindsN F fun _ _ _ _ _ _ us hl => match us, hl with | [_, _], _ => rfl, .nil, rls_nil⟩, F.kp⟩
def m_law_good_name : M Fl :=
    (seqS (ifS (orT (notT (M.bind (M.bind (rd 0) (isiV fun k => isK k .str)) truV)) (notT (M.bind (chainV leV leV (lit (.int 1)) (M.bind (consA (rd 0) (M.pure [])) lenF) (lit (.int 8))) tst)))
      (retS (lit (.bl false)))
      (M.pure .nx))
      (retS (M.bind (consA (compM (M.bind (rd 0) strD) [1] (.nm 1) (M.pure true) (op2 (inV0 false) (rd 1) (lit (.str "abcdefghijklmnopqrstuvwxyz")))) (M.pure [])) (qfF fun bs => bs.all id))))
def s_law_good_name : SemF := runF n_law_good_name.length m_law_good_name
theorem f_law_good_name {K : PySem.W.Frag} {mg : Str → Option Value} (Y : Fc fa ex fn K mg) : ∃ fd, FunD K "_law_good_name" "_law_good_name" (defArgs t_law_good_name) (defBody t_law_good_name) (defScope t_law_good_name) [] [] (He.fAd K ("_law_good_name", none)) fd := by
  obtain ⟨fd, F⟩ := Y.fun 12 (d := d_law_good_name) rfl
  exact ⟨fd, F⟩
theorem b_law_good_name {P : Program} {w : World} {K : PySem.W.Frag} {mg : Str → Option Value} {base : Heap} (Y : Fc fa ex fn K mg) {f : Addr} {cdv : Value} {A : Around} {outer : List Env} {s : Shared} {H : Hp} {E : XK} {B : Base0} (hr : Room 0 (cxG P w K mg base n_law_good_name "_law_good_name" (defScope t_law_good_name) f cdv A outer s H E).A) (tk : Takes (cxG P w K mg base n_law_good_name "_law_good_name" (defScope t_law_good_name) f cdv A outer s H E) B.W) : FSs (cxG P w K mg base n_law_good_name "_law_good_name" (defScope t_law_good_name) f cdv A outer s H E) B (defBody t_law_good_name) m_law_good_name := by
  have nd := sc_law_good_name.nd
  unfold m_law_good_name
  refine (fs_cons (fs_if (ft_w (fw_or (ft_not (ft_truth (fe_isi .str (fe_var 0) (Y.free_ (Y.fact 34 rfl)) (Y.free_ (Y.fact 35 rfl)) bo_str))) (fw_or1 (ft_not (ft_chain o_le o_le fe_int (fe_callB c_len (Y.free_ (Y.fact 31 rfl)) bo_len (fa_cons (fe_var 0) fa_nil)) fe_int)))))
      (fs_one (fs_ret fe_bl))
      fs_nil)
      (fs_one (fs_ret (fe_callB (c_all rfl) (Y.free_ (Y.fact 42 rfl)) bo_all (fa_cons (fe_lc (t := (.nm 1)) (own := [("_law_letter", 1)]) rfl nd (fi_str (fe_var 0)) (blk_of (by kernel_rfl)) (fun _ _ _ _ _ => (fg_name 1 nd)) (fun _ _ _ _ _ => pt_nil) (fun _ _ _ _ _ => (fe_cmp (o_in hr) (fe_var 1) fe_str rfl))) fa_nil)))))
theorem o_law_good_name {P : Program} {w : World} {K : PySem.W.Frag} {mg : Str → Option Value} {base : Heap} (Y : Fc fa ex fn K mg) {fd : FuncData} (F : FunD K "_law_good_name" "_law_good_name" (defArgs t_law_good_name) (defBody t_law_good_name) (defScope t_law_good_name) [] [] (He.fAd K ("_law_good_name", none)) fd) : FnOk P w K mg base (L2.CX P w) 1 (He.fAd K ("_law_good_name", none)) fd p_law_good_name (spF K p_law_good_name.length s_law_good_name) :=
  okF F sc_law_good_name fun _ _ _ _ _ _ _ hr tk => b_law_good_name Y hr tk
theorem r_law_good_name {P : Program} {w : World} {K : PySem.W.Frag} {mg : Str → Option Value} {base : Heap} (Y : Fc fa ex fn K mg) : FnR P w K mg base 1 ("_law_good_name", none) p_law_good_name s_law_good_name [] := by
  obtain ⟨fd, F⟩ := f_law_good_name Y
  exact ⟨⟨fd, [], [], o_law_good_name Y F, FunD.bindsN F fun _ _ _ _ _ _ us hl => match us, hl with | [_], _ => rfl, .nil, rls_nil⟩, F.kp⟩
def l_law_list_wrong_1 : M Fl :=
    (ifS (orT (notT (M.bind (M.bind (op2 ixV (rd 0) (rd 2)) (isiV fun k => isK k .str)) truV)) (orT (cmpT (inV0 true) (op2 ixV (rd 0) (rd 2)) (rd 1)) (cmpT (inV0 false) (op2 ixV (rd 0) (rd 2)) (sliceE (rd 0) none (some (rd 2))))))
      (retS (rd 2))
      (M.pure .nx))
def m_law_list_wrong : M Fl :=
    (seqS (forS (M.bind (consA (M.bind (consA (rd 0) (M.pure [])) lenF) (M.pure [])) rng1) (Tgt.g (.nm 2))
      l_law_list_wrong_1)
      (retS (M.bind (lit (.int 1)) negV)))
def s_law_list_wrong : SemF := runF n_law_list_wrong.length m_law_list_wrong
theorem f_law_list_wrong {K : PySem.W.Frag} {mg : Str → Option Value} (Y : Fc fa ex fn K mg) : ∃ fd, FunD K "_law_list_wrong" "_law_list_wrong" (defArgs t_law_list_wrong) (defBody t_law_list_wrong) (defScope t_law_list_wrong) [] [] (He.fAd K ("_law_list_wrong", none)) fd := by
  obtain ⟨fd, F⟩ := Y.fun 13 (d := d_law_list_wrong) rfl
  exact ⟨fd, F⟩
theorem b_law_list_wrong {P : Program} {w : World} {K : PySem.W.Frag} {mg : Str → Option Value} {base : Heap} (Y : Fc fa ex fn K mg) {f : Addr} {cdv : Value} {A : Around} {outer : List Env} {s : Shared} {H : Hp} {E : XK} {B : Base0} (hr : Room 0 (cxG P w K mg base n_law_list_wrong "_law_list_wrong" (defScope t_law_list_wrong) f cdv A outer s H E).A) (tk : Takes (cxG P w K mg base n_law_list_wrong "_law_list_wrong" (defScope t_law_list_wrong) f cdv A outer s H E) B.W) : FSs (cxG P w K mg base n_law_list_wrong "_law_list_wrong" (defScope t_law_list_wrong) f cdv A outer s H E) B (defBody t_law_list_wrong) m_law_list_wrong := by
  have nd := sc_law_list_wrong.nd
  unfold m_law_list_wrong
  refine (fs_cons (fs_for (t := (.nm 2)) poG rfl (fi_range1 (Y.free_ (Y.fact 3 rfl)) (fa_cons (fe_callB c_len (Y.free_ (Y.fact 31 rfl)) bo_len (fa_cons (fe_var 0) fa_nil)) fa_nil)) (fg_name 2 nd)
      (by unfold l_law_list_wrong_1; exact (fs_one (fs_if (ft_w (fw_or (ft_not (ft_truth (fe_isi .str (fe_ix i_seq (fe_var 0) (fe_var 2)) (Y.free_ (Y.fact 34 rfl)) (Y.free_ (Y.fact 35 rfl)) bo_str))) (fw_or (ft_cmp (o_notIn hr) (fe_ix i_seq (fe_var 0) (fe_var 2)) (fe_var 1) rfl) (fw_or1 (ft_cmp (o_in hr) (fe_ix i_seq (fe_var 0) (fe_var 2)) (fe_slice (fe_var 0) fo_none (fo_some (fe_var 2))) rfl)))))
      (fs_one (fs_ret (fe_var 2)))
      fs_nil))))
      (fs_one (fs_ret (fe_neg fe_int))))
theorem o_law_list_wrong {P : Program} {w : World} {K : PySem.W.Frag} {mg : Str → Option Value} {base : Heap} (Y : Fc fa ex fn K mg) {fd : FuncData} (F : FunD K "_law_list_wrong" "_law_list_wrong" (defArgs t_law_list_wrong) (defBody t_law_list_wrong) (defScope t_law_list_wrong) [] [] (He.fAd K ("_law_list_wrong", none)) fd) : FnOk P w K mg base (L2.CX P w) 1 (He.fAd K ("_law_list_wrong", none)) fd p_law_list_wrong (spF K p_law_list_wrong.length s_law_list_wrong) :=
  okF F sc_law_list_wrong fun _ _ _ _ _ _ _ hr tk => b_law_list_wrong Y hr tk
theorem r_law_list_wrong {P : Program} {w : World} {K : PySem.W.Frag} {mg : Str → Option Value} {base : Heap} (Y : Fc fa ex fn K mg) : FnR P w K mg base 1 ("_law_list_wrong", none) p_law_list_wrong s_law_list_wrong [] := by
  obtain ⟨fd, F⟩ := f_law_list_wrong Y
  exact ⟨⟨fd, [], [], o_law_list_wrong Y F, FunD.bindsN F fun _ _ _ _ _ _ us hl => match us, hl with | [_, _], _ => rfl, .nil, rls_nil⟩, F.kp⟩
def m_law_key_good : M Fl :=
    (retS (andV (M.bind (rd 0) (isiV fun k => isK k .lst || isK k .tup)) (andV (op2 gtV (M.bind (consA (rd 0) (M.pure [])) lenF) (lit (.int 0))) (op2 ltV (callE 2 s_law_list_wrong [] (consA (fzM (rd 0)) (consA (fzM (rd 1)) (M.pure [])))) (lit (.int 0))))))
def s_law_key_good : SemF := runF n_law_key_good.length m_law_key_good
theorem f_law_key_good {K : PySem.W.Frag} {mg : Str → Option Value} (Y : Fc fa ex fn K mg) : ∃ fd, FunD K "_law_key_good" "_law_key_good" (defArgs t_law_key_good) (defBody t_law_key_good) (defScope t_law_key_good) [] [] (He.fAd K ("_law_key_good", none)) fd := by
  obtain ⟨fd, F⟩ := Y.fun 14 (d := d_law_key_good) rfl
  exact ⟨fd, F⟩
theorem b_law_key_good {P : Program} {w : World} {K : PySem.W.Frag} {mg : Str → Option Value} {base : Heap} (Y : Fc fa ex fn K mg) {f : Addr} {cdv : Value} {A : Around} {outer : List Env} {s : Shared} {H : Hp} {E : XK} {B : Base0} (hr : Room 1 (cxG P w K mg base n_law_key_good "_law_key_good" (defScope t_law_key_good) f cdv A outer s H E).A) (tk : Takes (cxG P w K mg base n_law_key_good "_law_key_good" (defScope t_law_key_good) f cdv A outer s H E) B.W) : FSs (cxG P w K mg base n_law_key_good "_law_key_good" (defScope t_law_key_good) f cdv A outer s H E) B (defBody t_law_key_good) m_law_key_good := by
  have nd := sc_law_key_good.nd
  unfold m_law_key_good
  refine (fs_one (fs_ret (fe_and (fe_isi2 .lst .tup (fe_var 0) (Y.free_ (Y.fact 34 rfl)) (Y.free_ (Y.fact 6 rfl)) bo_list (Y.free_ (Y.fact 19 rfl)) bo_tuple) (fe_and (fe_cmp o_gt (fe_callB c_len (Y.free_ (Y.fact 31 rfl)) bo_len (fa_cons (fe_var 0) fa_nil)) fe_int (nomark _)) (fe_one (fe_cmp o_lt (fe_callR tk (r_law_list_wrong Y) hr (by decide) (Y.glo_ (Y.fact 39 rfl)) (fap_cons (fe_var 0) (fap_cons (fe_var 1) fap_nil))) fe_int (nomark _)))))))
theorem o_law_key_good {P : Program} {w : World} {K : PySem.W.Frag} {mg : Str → Option Value} {base : Heap} (Y : Fc fa ex fn K mg) {fd : FuncData} (F : FunD K "_law_key_good" "_law_key_good" (defArgs t_law_key_good) (defBody t_law_key_good) (defScope t_law_key_good) [] [] (He.fAd K ("_law_key_good", none)) fd) : FnOk P w K mg base (L2.CX P w) 2 (He.fAd K ("_law_key_good", none)) fd p_law_key_good (spF K p_law_key_good.length s_law_key_good) :=
  okF F sc_law_key_good fun _ _ _ _ _ _ _ hr tk => b_law_key_good Y hr tk
theorem r_law_key_good {P : Program} {w : World} {K : PySem.W.Frag} {mg : Str → Option Value} {base : Heap} (Y : Fc fa ex fn K mg) : FnR P w K mg base 2 ("_law_key_good", none) p_law_key_good s_law_key_good [] := by
  obtain ⟨fd, F⟩ := f_law_key_good Y
  exact ⟨⟨fd, [], [], o_law_key_good Y F, FunD.bindsN F fun _ _ _ _ _ _ us hl => match us, hl with | [_, _], _ => rfl, .nil, rls_nil⟩, F.kp⟩
def m_law_rule_good : M Fl :=
    (seqS (ifS (orT (notT (M.bind (M.bind (rd 0) (isiV fun k => isK k .tup)) truV)) (orT (cmpT (eqvV true) (M.bind (consA (rd 0) (M.pure [])) lenF) (lit (.int 2))) (notT (M.bind (M.bind (op2 ixV (rd 0) (lit (.int 0))) (isiV fun k => isK k .lst || isK k .tup)) truV))))
      (retS (lit (.bl false)))
      (M.pure .nx))
      (retS (andV (op2 ltV (callE 2 s_law_list_wrong [] (consA (fzM (op2 ixV (rd 0) (lit (.int 0)))) (consA (fzM (rd 1)) (M.pure [])))) (lit (.int 0))) (andV (M.bind (op2 ixV (rd 0) (lit (.int 1))) (isiV fun k => isK k .str)) (op2 (inV0 false) (op2 ixV (rd 0) (lit (.int 1))) (rd 1))))))
def s_law_rule_good : SemF := runF n_law_rule_good.length m_law_rule_good
theorem f_law_rule_good {K : PySem.W.Frag} {mg : Str → Option Value} (Y : Fc fa ex fn K mg) : ∃ fd, FunD K "_law_rule_good" "_law_rule_good" (defArgs t_law_rule_good) (defBody t_law_rule_good) (defScope t_law_rule_good) [] [] (He.fAd K ("_law_rule_good", none)) fd := by
  obtain ⟨fd, F⟩ := Y.fun 15 (d := d_law_rule_good) rfl
  exact ⟨fd, F⟩
theorem b_law_rule_good {P : Program} {w : World} {K : PySem.W.Frag} {mg : Str → Option Value} {base : Heap} (Y : Fc fa ex fn K mg) {f : Addr} {cdv : Value} {A : Around} {outer : List Env} {s : Shared} {H : Hp} {E : XK} {B : Base0} (hr : Room 1 (cxG P w K mg base n_law_rule_good "_law_rule_good" (defScope t_law_rule_good) f cdv A outer s H E).A) (tk : Takes (cxG P w K mg base n_law_rule_good "_law_rule_good" (defScope t_law_rule_good) f cdv A outer s H E) B.W) : FSs (cxG P w K mg base n_law_rule_good "_law_rule_good" (defScope t_law_rule_good) f cdv A outer s H E) B (defBody t_law_rule_good) m_law_rule_good := by
  have nd := sc_law_rule_good.nd
  unfold m_law_rule_good
  refine (fs_cons (fs_if (ft_w (fw_or (ft_not (ft_truth (fe_isi .tup (fe_var 0) (Y.free_ (Y.fact 34 rfl)) (Y.free_ (Y.fact 19 rfl)) bo_tuple))) (fw_or (ft_cmp (o_ne hr) (fe_callB c_len (Y.free_ (Y.fact 31 rfl)) bo_len (fa_cons (fe_var 0) fa_nil)) fe_int (nomark _)) (fw_or1 (ft_not (ft_truth (fe_isi2 .lst .tup (fe_ix i_seq (fe_var 0) fe_int) (Y.free_ (Y.fact 34 rfl)) (Y.free_ (Y.fact 6 rfl)) bo_list (Y.free_ (Y.fact 19 rfl)) bo_tuple)))))))
      (fs_one (fs_ret fe_bl))
      fs_nil)
      (fs_one (fs_ret (fe_and (fe_cmp o_lt (fe_callR tk (r_law_list_wrong Y) hr (by decide) (Y.glo_ (Y.fact 39 rfl)) (fap_cons (fe_ix i_seq (fe_var 0) fe_int) (fap_cons (fe_var 1) fap_nil))) fe_int (nomark _)) (fe_and (fe_isi .str (fe_ix i_seq (fe_var 0) fe_int) (Y.free_ (Y.fact 34 rfl)) (Y.free_ (Y.fact 35 rfl)) bo_str) (fe_one (fe_cmp (o_in hr) (fe_ix i_seq (fe_var 0) fe_int) (fe_var 1) rfl)))))))
theorem o_law_rule_good {P : Program} {w : World} {K : PySem.W.Frag} {mg : Str → Option Value} {base : Heap} (Y : Fc fa ex fn K mg) {fd : FuncData} (F : FunD K "_law_rule_good" "_law_rule_good" (defArgs t_law_rule_good) (defBody t_law_rule_good) (defScope t_law_rule_good) [] [] (He.fAd K ("_law_rule_good", none)) fd) : FnOk P w K mg base (L2.CX P w) 2 (He.fAd K ("_law_rule_good", none)) fd p_law_rule_good (spF K p_law_rule_good.length s_law_rule_good) :=
  okF F sc_law_rule_good fun _ _ _ _ _ _ _ hr tk => b_law_rule_good Y hr tk
theorem r_law_rule_good {P : Program} {w : World} {K : PySem.W.Frag} {mg : Str → Option Value} {base : Heap} (Y : Fc fa ex fn K mg) : FnR P w K mg base 2 ("_law_rule_good", none) p_law_rule_good s_law_rule_good [] := by
  obtain ⟨fd, F⟩ := f_law_rule_good Y
  exact ⟨⟨fd, [], [], o_law_rule_good Y F, FunD.bindsN F fun _ _ _ _ _ _ us hl => match us, hl with | [_, _], _ => rfl, .nil, rls_nil⟩, F.kp⟩
def l_law_due_1 : M Fl :=
    (ifS (orT (notT (M.bind (callE 1 s_law_good_name [] (consA (fzM (op2 ixV (rd 3) (rd 1))) (M.pure []))) truV)) (cmpT (inV0 false) (op2 ixV (rd 3) (rd 1)) (sliceE (rd 3) none (some (rd 1)))))
      (retS (tupE (consA (fzM (lit (.str "column"))) (consA (fzM (rd 1)) (M.pure [])))))
      (M.pure .nx))
def l_law_due_2 : M Fl :=
    (ifS (notT (M.bind (callE 2 s_law_key_good [] (consA (fzM (op2 ixV (rd 5) (rd 1))) (consA (fzM (rd 3)) (M.pure [])))) truV))
      (retS (tupE (consA (fzM (lit (.str "key"))) (consA (fzM (rd 1)) (M.pure [])))))
      (M.pure .nx))
def l_law_due_3 : M Fl :=
    (ifS (notT (M.bind (callE 2 s_law_rule_good [] (consA (fzM (op2 ixV (rd 6) (rd 1))) (consA (fzM (rd 3)) (M.pure [])))) truV))
      (retS (tupE (consA (fzM (lit (.str "rule"))) (consA (fzM (rd 1)) (M.pure [])))))
      (M.pure .nx))
def m_law_due : M Fl :=
    (seqS (asgL [2, 3, 4, 5, 6] (rd 0))
      (seqS (ifS (notT (M.bind (callE 1 s_law_good_name [] (consA (fzM (rd 2)) (M.pure []))) truV))
      (retS (tupE (consA (fzM (lit (.str "name"))) (consA (fzM (lit (.int 0))) (M.pure [])))))
      (M.pure .nx))
      (seqS (ifS (cmpT (eqvV false) (M.bind (consA (rd 3) (M.pure [])) lenF) (lit (.int 0)))
      (retS (tupE (consA (fzM (lit (.str "column"))) (consA (fzM (lit (.int 0))) (M.pure [])))))
      (M.pure .nx))
      (seqS (ifS (cmpT gtV (M.bind (consA (rd 3) (M.pure [])) lenF) (lit (.int 6)))
      (retS (tupE (consA (fzM (lit (.str "column"))) (consA (fzM (lit (.int 6))) (M.pure [])))))
      (M.pure .nx))
      (seqS (forS (M.bind (consA (M.bind (consA (rd 3) (M.pure [])) lenF) (M.pure [])) rng1) (Tgt.g (.nm 1))
      l_law_due_1)
      (seqS (ifS (cmpT geV (callE 2 s_law_list_wrong [] (consA (fzM (rd 4)) (consA (fzM (rd 3)) (M.pure [])))) (lit (.int 0)))
      (retS (tupE (consA (fzM (lit (.str "required"))) (consA (fzM (callE 2 s_law_list_wrong [] (consA (fzM (rd 4)) (consA (fzM (rd 3)) (M.pure []))))) (M.pure [])))))
      (M.pure .nx))
      (seqS (forS (M.bind (consA (M.bind (consA (rd 5) (M.pure [])) lenF) (M.pure [])) rng1) (Tgt.g (.nm 1))
      l_law_due_2)
      (seqS (forS (M.bind (consA (M.bind (consA (rd 6) (M.pure [])) lenF) (M.pure [])) rng1) (Tgt.g (.nm 1))
      l_law_due_3)
      (retS (tupE (consA (fzM (lit (.str "good"))) (consA (fzM (lit (.int 0))) (M.pure [])))))))))))))
def s_law_due : SemF := runF n_law_due.length m_law_due
theorem f_law_due {K : PySem.W.Frag} {mg : Str → Option Value} (Y : Fc fa ex fn K mg) : ∃ fd, FunD K "_law_due" "_law_due" (defArgs t_law_due) (defBody t_law_due) (defScope t_law_due) [] [] (He.fAd K ("_law_due", none)) fd := by
  obtain ⟨fd, F⟩ := Y.fun 16 (d := d_law_due) rfl
  exact ⟨fd, F⟩
theorem b_law_due {P : Program} {w : World} {K : PySem.W.Frag} {mg : Str → Option Value} {base : Heap} (Y : Fc fa ex fn K mg) {f : Addr} {cdv : Value} {A : Around} {outer : List Env} {s : Shared} {H : Hp} {E : XK} {B : Base0} (hr : Room 2 (cxG P w K mg base n_law_due "_law_due" (defScope t_law_due) f cdv A outer s H E).A) (tk : Takes (cxG P w K mg base n_law_due "_law_due" (defScope t_law_due) f cdv A outer s H E) B.W) : FSs (cxG P w K mg base n_law_due "_law_due" (defScope t_law_due) f cdv A outer s H E) B (defBody t_law_due) m_law_due := by
  have nd := sc_law_due.nd
  unfold m_law_due
  refine (fs_cons (fs_asgL rfl (fe_var 0) (fgs_cons (fg_name 2 nd) (fgs_cons (fg_name 3 nd) (fgs_cons (fg_name 4 nd) (fgs_cons (fg_name 5 nd) (fgs_cons (fg_name 6 nd) fgs_nil))))))
      (fs_cons (fs_if (ft_not (ft_truth (fe_callR tk (r_law_good_name Y) hr (by decide) (Y.glo_ (Y.fact 38 rfl)) (fap_cons (fe_var 2) fap_nil))))
      (fs_one (fs_ret (fe_tup (fap_cons fe_str (fap_cons fe_int fap_nil)))))
      fs_nil)
      (fs_cons (fs_if (ft_cmp (o_eq hr) (fe_callB c_len (Y.free_ (Y.fact 31 rfl)) bo_len (fa_cons (fe_var 3) fa_nil)) fe_int (nomark _))
      (fs_one (fs_ret (fe_tup (fap_cons fe_str (fap_cons fe_int fap_nil)))))
      fs_nil)
      (fs_cons (fs_if (ft_cmp o_gt (fe_callB c_len (Y.free_ (Y.fact 31 rfl)) bo_len (fa_cons (fe_var 3) fa_nil)) fe_int (nomark _))
      (fs_one (fs_ret (fe_tup (fap_cons fe_str (fap_cons fe_int fap_nil)))))
      fs_nil)
      (fs_cons (fs_for (t := (.nm 1)) poG rfl (fi_range1 (Y.free_ (Y.fact 3 rfl)) (fa_cons (fe_callB c_len (Y.free_ (Y.fact 31 rfl)) bo_len (fa_cons (fe_var 3) fa_nil)) fa_nil)) (fg_name 1 nd)
      (by unfold l_law_due_1; exact (fs_one (fs_if (ft_w (fw_or (ft_not (ft_truth (fe_callR tk (r_law_good_name Y) hr (by decide) (Y.glo_ (Y.fact 38 rfl)) (fap_cons (fe_ix i_seq (fe_var 3) (fe_var 1)) fap_nil)))) (fw_or1 (ft_cmp (o_in hr) (fe_ix i_seq (fe_var 3) (fe_var 1)) (fe_slice (fe_var 3) fo_none (fo_some (fe_var 1))) rfl))))
      (fs_one (fs_ret (fe_tup (fap_cons fe_str (fap_cons (fe_var 1) fap_nil)))))
      fs_nil))))
      (fs_cons (fs_if (ft_cmp o_ge (fe_callR tk (r_law_list_wrong Y) hr (by decide) (Y.glo_ (Y.fact 39 rfl)) (fap_cons (fe_var 4) (fap_cons (fe_var 3) fap_nil))) fe_int (nomark _))
      (fs_one (fs_ret (fe_tup (fap_cons fe_str (fap_cons (fe_callR tk (r_law_list_wrong Y) hr (by decide) (Y.glo_ (Y.fact 39 rfl)) (fap_cons (fe_var 4) (fap_cons (fe_var 3) fap_nil))) fap_nil)))))
      fs_nil)
      (fs_cons (fs_for (t := (.nm 1)) poG rfl (fi_range1 (Y.free_ (Y.fact 3 rfl)) (fa_cons (fe_callB c_len (Y.free_ (Y.fact 31 rfl)) bo_len (fa_cons (fe_var 5) fa_nil)) fa_nil)) (fg_name 1 nd)
      (by unfold l_law_due_2; exact (fs_one (fs_if (ft_not (ft_truth (fe_callR tk (r_law_key_good Y) hr (by decide) (Y.glo_ (Y.fact 40 rfl)) (fap_cons (fe_ix i_seq (fe_var 5) (fe_var 1)) (fap_cons (fe_var 3) fap_nil)))))
      (fs_one (fs_ret (fe_tup (fap_cons fe_str (fap_cons (fe_var 1) fap_nil)))))
      fs_nil))))
      (fs_cons (fs_for (t := (.nm 1)) poG rfl (fi_range1 (Y.free_ (Y.fact 3 rfl)) (fa_cons (fe_callB c_len (Y.free_ (Y.fact 31 rfl)) bo_len (fa_cons (fe_var 6) fa_nil)) fa_nil)) (fg_name 1 nd)
      (by unfold l_law_due_3; exact (fs_one (fs_if (ft_not (ft_truth (fe_callR tk (r_law_rule_good Y) hr (by decide) (Y.glo_ (Y.fact 41 rfl)) (fap_cons (fe_ix i_seq (fe_var 6) (fe_var 1)) (fap_cons (fe_var 3) fap_nil)))))
      (fs_one (fs_ret (fe_tup (fap_cons fe_str (fap_cons (fe_var 1) fap_nil)))))
      fs_nil))))
      (fs_one (fs_ret (fe_tup (fap_cons fe_str (fap_cons fe_int fap_nil)))))))))))))
theorem o_law_due {P : Program} {w : World} {K : PySem.W.Frag} {mg : Str → Option Value} {base : Heap} (Y : Fc fa ex fn K mg) {fd : FuncData} (F : FunD K "_law_due" "_law_due" (defArgs t_law_due) (defBody t_law_due) (defScope t_law_due) [] [] (He.fAd K ("_law_due", none)) fd) : FnOk P w K mg base (L2.CX P w) 3 (He.fAd K ("_law_due", none)) fd p_law_due (spF K p_law_due.length s_law_due) :=
  okF F sc_law_due fun _ _ _ _ _ _ _ hr tk => b_law_due Y hr tk
theorem r_law_due {P : Program} {w : World} {K : PySem.W.Frag} {mg : Str → Option Value} {base : Heap} (Y : Fc fa ex fn K mg) : FnR P w K mg base 3 ("_law_due", none) p_law_due s_law_due [] := by
  obtain ⟨fd, F⟩ := f_law_due Y
  exact ⟨⟨fd, [], [], o_law_due Y F, FunD.bindsN F fun _ _ _ _ _ _ us hl => match us, hl with | [_], _ => rfl, .nil, rls_nil⟩, F.kp⟩
def s_law_like_n : Nat → SemF
  | 0 => runF n_law_like.length stuck
  | k + 1 => runF n_law_like.length (m_law_like (s_law_like_n k))
def s_law_like : SemF := s_law_like_n 8
theorem f_law_like {K : PySem.W.Frag} {mg : Str → Option Value} (Y : Fc fa ex fn K mg) : ∃ fd, FunD K "_law_like" "_law_like" (defArgs t_law_like) (defBody t_law_like) (defScope t_law_like) [] [] (He.fAd K ("_law_like", none)) fd := by
  obtain ⟨fd, F⟩ := Y.fun 17 (d := d_law_like) rfl
  exact ⟨fd, F⟩
theorem b_law_like {P : Program} {w : World} {K : PySem.W.Frag} {mg : Str → Option Value} {base : Heap} (Y : Fc fa ex fn K mg) {rec : SemF} {nn : Nat} (hrec : FnR P w K mg base (0 + nn + 1) ("_law_like", none) p_law_like rec []) {f : Addr} {cdv : Value} {A : Around} {outer : List Env} {s : Shared} {H : Hp} {E : XK} {B : Base0} (hr : Room (0 + nn + 1) (cxG P w K mg base n_law_like "_law_like" (defScope t_law_like) f cdv A outer s H E).A) (tk : Takes (cxG P w K mg base n_law_like "_law_like" (defScope t_law_like) f cdv A outer s H E) B.W) : FSs (cxG P w K mg base n_law_like "_law_like" (defScope t_law_like) f cdv A outer s H E) B (defBody t_law_like) (m_law_like rec) := by
  have nd := sc_law_like.nd
  unfold m_law_like
  refine (fs_cons (fs_if (ft_cmp o_is (fe_var 1) fe_non (nomark _))
      (fs_one (fs_ret (fe_cmp o_is (fe_var 0) fe_non (nomark _))))
      fs_nil)
      (fs_cons (fs_if (ft_truth (fe_isi .bl (fe_var 1) (Y.free_ (Y.fact 34 rfl)) (Y.free_ (Y.fact 43 rfl)) bo_bool))
      (fs_one (fs_ret (fe_and (fe_isi .bl (fe_var 0) (Y.free_ (Y.fact 34 rfl)) (Y.free_ (Y.fact 43 rfl)) bo_bool) (fe_one (fe_cmp (o_eq hr) (fe_var 0) (fe_var 1) (nomark _))))))
      fs_nil)
      (fs_cons (fs_if (ft_truth (fe_isi .int (fe_var 1) (Y.free_ (Y.fact 34 rfl)) (Y.free_ (Y.fact 37 rfl)) bo_int))
      (fs_one (fs_ret (fe_and (fe_isi .int (fe_var 0) (Y.free_ (Y.fact 34 rfl)) (Y.free_ (Y.fact 37 rfl)) bo_int) (fe_and (fe_not (fe_isi .bl (fe_var 0) (Y.free_ (Y.fact 34 rfl)) (Y.free_ (Y.fact 43 rfl)) bo_bool)) (fe_one (fe_cmp (o_eq hr) (fe_var 0) (fe_var 1) (nomark _)))))))
      fs_nil)
      (fs_cons (fs_if (ft_truth (fe_isi .str (fe_var 1) (Y.free_ (Y.fact 34 rfl)) (Y.free_ (Y.fact 35 rfl)) bo_str))
      (fs_one (fs_ret (fe_and (fe_isi .str (fe_var 0) (Y.free_ (Y.fact 34 rfl)) (Y.free_ (Y.fact 35 rfl)) bo_str) (fe_one (fe_cmp (o_eq hr) (fe_var 0) (fe_var 1) (nomark _))))))
      fs_nil)
      (fs_cons (fs_if (ft_truth (fe_isi .tup (fe_var 1) (Y.free_ (Y.fact 34 rfl)) (Y.free_ (Y.fact 19 rfl)) bo_tuple))
      (fs_one (fs_if (ft_w (fw_or (ft_not (ft_truth (fe_isi .tup (fe_var 0) (Y.free_ (Y.fact 34 rfl)) (Y.free_ (Y.fact 19 rfl)) bo_tuple))) (fw_or1 (ft_cmp (o_ne hr) (fe_callB c_len (Y.free_ (Y.fact 31 rfl)) bo_len (fa_cons (fe_var 0) fa_nil)) (fe_callB c_len (Y.free_ (Y.fact 31 rfl)) bo_len (fa_cons (fe_var 1) fa_nil)) (nomark _)))))
      (fs_one (fs_ret fe_bl))
      fs_nil))
      (fs_one (fs_if (ft_w (fw_or (ft_not (ft_truth (fe_isi .lst (fe_var 0) (Y.free_ (Y.fact 34 rfl)) (Y.free_ (Y.fact 6 rfl)) bo_list))) (fw_or1 (ft_cmp (o_ne hr) (fe_callB c_len (Y.free_ (Y.fact 31 rfl)) bo_len (fa_cons (fe_var 0) fa_nil)) (fe_callB c_len (Y.free_ (Y.fact 31 rfl)) bo_len (fa_cons (fe_var 1) fa_nil)) (nomark _)))))
      (fs_one (fs_ret fe_bl))
      fs_nil)))
      (fs_cons (fs_for (t := (.nm 2)) poG rfl (fi_range1 (Y.free_ (Y.fact 3 rfl)) (fa_cons (fe_callB c_len (Y.free_ (Y.fact 31 rfl)) bo_len (fa_cons (fe_var 1) fa_nil)) fa_nil)) (fg_name 2 nd)
      (by unfold l_law_like_1; exact (fs_one (fs_if (ft_not (ft_truth (fe_callR tk (hrec) hr (by omega) (Y.glo_ (Y.fact 21 rfl)) (fap_cons (fe_ix i_seq (fe_var 0) (fe_var 2)) (fap_cons (fe_ix i_seq (fe_var 1) (fe_var 2)) fap_nil)))))
      (fs_one (fs_ret fe_bl))
      fs_nil))))
      (fs_one (fs_ret fe_bl))))))))
theorem rn_law_like {P : Program} {w : World} {K : PySem.W.Frag} {mg : Str → Option Value} {base : Heap} (Y : Fc fa ex fn K mg) : ∀ n : Nat, FnR P w K mg base (0 + n + 1) ("_law_like", none) p_law_like (s_law_like_n n) [] := by
  obtain ⟨fd, F⟩ := f_law_like Y
  intro n
  induction n with
  | zero => exact ⟨⟨fd, [], [], okF F sc_law_like fun _ _ _ _ _ _ _ _ _ => fss_stuck, FunD.bindsN F fun _ _ _ _ _ _ us hl => match us, hl with | [_, _], _ => rfl, .nil, rls_nil⟩, F.kp⟩
  | succ n ih => exact ⟨⟨fd, [], [], okF F sc_law_like fun _ _ _ _ _ _ _ hr tk => b_law_like Y ih hr tk, FunD.bindsN F fun _ _ _ _ _ _ us hl => match us, hl with | [_, _], _ => rfl, .nil, rls_nil⟩, F.kp⟩
theorem r_law_like {P : Program} {w : World} {K : PySem.W.Frag} {mg : Str → Option Value} {base : Heap} (Y : Fc fa ex fn K mg) : FnR P w K mg base 9 ("_law_like", none) p_law_like s_law_like [] := rn_law_like Y 8
theorem f_law_names {K : PySem.W.Frag} {mg : Str → Option Value} (Y : Fc fa ex fn K mg) : ∃ fd, FunD K "_law_names" "_law_names" (defArgs t_law_names) (defBody t_law_names) (defScope t_law_names) [] [] (He.fAd K ("_law_names", none)) fd := by
  obtain ⟨fd, F⟩ := Y.fun 18 (d := d_law_names) rfl
  exact ⟨fd, F⟩
theorem b_law_names {P : Program} {w : World} {K : PySem.W.Frag} {mg : Str → Option Value} {base : Heap} (Y : Fc fa ex fn K mg) {f : Addr} {cdv : Value} {A : Around} {outer : List Env} {s : Shared} {H : Hp} {E : XK} {B : Base0} (hr : Room 1 (cxG P w K mg base n_law_names "_law_names" (defScope t_law_names) f cdv A outer s H E).A) (tk : Takes (cxG P w K mg base n_law_names "_law_names" (defScope t_law_names) f cdv A outer s H E) B.W) : FSs (cxG P w K mg base n_law_names "_law_names" (defScope t_law_names) f cdv A outer s H E) B (defBody t_law_names) m_law_names := by
  have nd := sc_law_names.nd
  unfold m_law_names
  refine (fs_cons (fs_set 3 nd (fe_callR tk (r_law_draw Y) hr (by decide) (Y.glo_ (Y.fact 2 rfl)) (fap_cons (fe_var 0) (fap_cons (fe_callB c_len (Y.free_ (Y.fact 31 rfl)) bo_len (fa_cons (fe_var 1) fa_nil)) fap_nil))))
      (fs_one (fs_ret (fe_slice (fe_op o_add (fe_slice (fe_var 1) (fo_some (fe_var 3)) fo_none) (fe_slice (fe_var 1) fo_none (fo_some (fe_var 3)))) fo_none (fo_some (fe_var 2))))))
theorem o_law_names {P : Program} {w : World} {K : PySem.W.Frag} {mg : Str → Option Value} {base : Heap} (Y : Fc fa ex fn K mg) {fd : FuncData} (F : FunD K "_law_names" "_law_names" (defArgs t_law_names) (defBody t_law_names) (defScope t_law_names) [] [] (He.fAd K ("_law_names", none)) fd) : FnOk P w K mg base (L2.CX P w) 2 (He.fAd K ("_law_names", none)) fd p_law_names (spF K p_law_names.length s_law_names) :=
  okF F sc_law_names fun _ _ _ _ _ _ _ hr tk => b_law_names Y hr tk
theorem r_law_names {P : Program} {w : World} {K : PySem.W.Frag} {mg : Str → Option Value} {base : Heap} (Y : Fc fa ex fn K mg) : FnR P w K mg base 2 ("_law_names", none) p_law_names s_law_names [] := by
  obtain ⟨fd, F⟩ := f_law_names Y
  exact ⟨⟨fd, [], [], o_law_names Y F, FunD.bindsN F fun _ _ _ _ _ _ us hl => match us, hl with | [_, _, _], _ => rfl, .nil, rls_nil⟩, F.kp⟩
theorem f_law_some {K : PySem.W.Frag} {mg : Str → Option Value} (Y : Fc fa ex fn K mg) : ∃ fd, FunD K "_law_some" "_law_some" (defArgs t_law_some) (defBody t_law_some) (defScope t_law_some) [] [] (He.fAd K ("_law_some", none)) fd := by
  obtain ⟨fd, F⟩ := Y.fun 19 (d := d_law_some) rfl
  exact ⟨fd, F⟩
theorem b_law_some {P : Program} {w : World} {K : PySem.W.Frag} {mg : Str → Option Value} {base : Heap} (Y : Fc fa ex fn K mg) {f : Addr} {cdv : Value} {A : Around} {outer : List Env} {s : Shared} {H : Hp} {E : XK} {B : Base0} (hr : Room 1 (cxG P w K mg base n_law_some "_law_some" (defScope t_law_some) f cdv A outer s H E).A) (tk : Takes (cxG P w K mg base n_law_some "_law_some" (defScope t_law_some) f cdv A outer s H E) B.W) : FSs (cxG P w K mg base n_law_some "_law_some" (defScope t_law_some) f cdv A outer s H E) B (defBody t_law_some) m_law_some := by
  have nd := sc_law_some.nd
  unfold m_law_some
  refine (fs_cons (fs_ownL 3 nd (Y.free_ (Y.fact 6 rfl)) (fa_cons (fe_var 1) fa_nil))
      (fs_cons (fs_own 4 nd fap_nil)
      (fs_cons (fs_for (t := (.nm 5)) poG rfl (fi_range1 (Y.free_ (Y.fact 3 rfl)) (fa_cons (fe_op o_add (fe_var 2) (fe_callR tk (r_law_draw Y) hr (by decide) (Y.glo_ (Y.fact 2 rfl)) (fap_cons (fe_var 0) (fap_cons (fe_op o_sub (fe_op o_add (fe_callB c_len (Y.free_ (Y.fact 31 rfl)) bo_len (fa_cons (fe_var 1) fa_nil)) fe_int) (fe_var 2)) fap_nil)))) fa_nil)) (fg_name 5 nd)
      (by unfold l_law_some_1; exact (fs_one (fs_expr (fe_append (fe_var 4) (fap_cons (fe_pop (fe_var 3) (fap_cons (fe_callR tk (r_law_draw Y) hr (by decide) (Y.glo_ (Y.fact 2 rfl)) (fap_cons (fe_var 0) (fap_cons (fe_callB c_len (Y.free_ (Y.fact 31 rfl)) bo_len (fa_cons (fe_var 3) fa_nil)) fap_nil))) fap_nil)) fap_nil))))))
      (fs_one (fs_ret (fe_var 4))))))
theorem o_law_some {P : Program} {w : World} {K : PySem.W.Frag} {mg : Str → Option Value} {base : Heap} (Y : Fc fa ex fn K mg) {fd : FuncData} (F : FunD K "_law_some" "_law_some" (defArgs t_law_some) (defBody t_law_some) (defScope t_law_some) [] [] (He.fAd K ("_law_some", none)) fd) : FnOk P w K mg base (L2.CX P w) 2 (He.fAd K ("_law_some", none)) fd p_law_some (spF K p_law_some.length s_law_some) :=
  okF F sc_law_some fun _ _ _ _ _ _ _ hr tk => b_law_some Y hr tk
theorem r_law_some {P : Program} {w : World} {K : PySem.W.Frag} {mg : Str → Option Value} {base : Heap} (Y : Fc fa ex fn K mg) : FnR P w K mg base 2 ("_law_some", none) p_law_some s_law_some [] := by
  obtain ⟨fd, F⟩ := f_law_some Y
  exact ⟨⟨fd, [], [], o_law_some Y F, FunD.bindsN F fun _ _ _ _ _ _ us hl => match us, hl with | [_, _, _], _ => rfl, .nil, rls_nil⟩, F.kp⟩
theorem f_law_parts {K : PySem.W.Frag} {mg : Str → Option Value} (Y : Fc fa ex fn K mg) : ∃ fd, FunD K "_law_parts" "_law_parts" (defArgs t_law_parts) (defBody t_law_parts) (defScope t_law_parts) [] [] (He.fAd K ("_law_parts", none)) fd := by
  obtain ⟨fd, F⟩ := Y.fun 20 (d := d_law_parts) rfl
  exact ⟨fd, F⟩
theorem b_law_parts {P : Program} {w : World} {K : PySem.W.Frag} {mg : Str → Option Value} {base : Heap} (Y : Fc fa ex fn K mg) {f : Addr} {cdv : Value} {A : Around} {outer : List Env} {s : Shared} {H : Hp} {E : XK} {B : Base0} (hr : Room 2 (cxG P w K mg base n_law_parts "_law_parts" (defScope t_law_parts) f cdv A outer s H E).A) (tk : Takes (cxG P w K mg base n_law_parts "_law_parts" (defScope t_law_parts) f cdv A outer s H E) B.W) : FSs (cxG P w K mg base n_law_parts "_law_parts" (defScope t_law_parts) f cdv A outer s H E) B (defBody t_law_parts) m_law_parts := by
  have nd := sc_law_parts.nd
  unfold m_law_parts
  refine (fs_cons (fs_set 3 nd (fe_callR tk (r_law_names Y) hr (by decide) (Y.glo_ (Y.fact 44 rfl)) (fap_cons (fe_var 0) (fap_cons (fe_lst (fap_cons fe_str (fap_cons fe_str (fap_cons fe_str (fap_cons fe_str (fap_cons fe_str (fap_cons fe_str (fap_cons fe_str fap_nil)))))))) (fap_cons (fe_op o_add fe_int (fe_callR tk (r_law_draw Y) hr (by decide) (Y.glo_ (Y.fact 2 rfl)) (fap_cons (fe_var 0) (fap_cons (fe_var 2) fap_nil)))) fap_nil)))))
      (fs_cons (fs_set 4 nd (fe_callR tk (r_law_some Y) hr (by decide) (Y.glo_ (Y.fact 45 rfl)) (fap_cons (fe_var 0) (fap_cons (fe_var 3) (fap_cons fe_int fap_nil)))))
      (fs_cons (fs_if (ft_cmp (o_eq hr) (fe_callR tk (r_law_draw Y) hr (by decide) (Y.glo_ (Y.fact 2 rfl)) (fap_cons (fe_var 0) (fap_cons fe_int fap_nil))) fe_int (nomark _))
      (fs_one (fs_set 4 nd (fe_slice (fe_var 4) fo_none (fo_some fe_int))))
      fs_nil)
      (fs_cons (fs_own 5 nd fap_nil)
      (fs_cons (fs_for (t := (.nm 6)) poG rfl (fi_range1 (Y.free_ (Y.fact 3 rfl)) (fa_cons (fe_callR tk (r_law_draw Y) hr (by decide) (Y.glo_ (Y.fact 2 rfl)) (fap_cons (fe_var 0) (fap_cons fe_int fap_nil))) fa_nil)) (fg_name 6 nd)
      (by unfold l_law_parts_1; exact (fs_one (fs_expr (fe_append (fe_var 5) (fap_cons (fe_slice (fe_callR tk (r_law_some Y) hr (by decide) (Y.glo_ (Y.fact 45 rfl)) (fap_cons (fe_var 0) (fap_cons (fe_var 3) (fap_cons fe_int fap_nil)))) fo_none (fo_some fe_int)) fap_nil))))))
      (fs_cons (fs_own 7 nd fap_nil)
      (fs_cons (fs_for (t := (.nm 6)) poG rfl (fi_range1 (Y.free_ (Y.fact 3 rfl)) (fa_cons (fe_callR tk (r_law_draw Y) hr (by decide) (Y.glo_ (Y.fact 2 rfl)) (fap_cons (fe_var 0) (fap_cons fe_int fap_nil))) fa_nil)) (fg_name 6 nd)
      (by unfold l_law_parts_2; exact (fs_one (fs_expr (fe_append (fe_var 7) (fap_cons (fe_tup (fap_cons (fe_slice (fe_callR tk (r_law_some Y) hr (by decide) (Y.glo_ (Y.fact 45 rfl)) (fap_cons (fe_var 0) (fap_cons (fe_var 3) (fap_cons fe_int fap_nil)))) fo_none (fo_some fe_int)) (fap_cons (fe_ix i_seq (fe_var 3) (fe_callR tk (r_law_draw Y) hr (by decide) (Y.glo_ (Y.fact 2 rfl)) (fap_cons (fe_var 0) (fap_cons (fe_callB c_len (Y.free_ (Y.fact 31 rfl)) bo_len (fa_cons (fe_var 3) fa_nil)) fap_nil)))) fap_nil))) fap_nil))))))
      (fs_one (fs_ret (fe_lstC (fap_cons (fe_var 1) (fap_cons (fe_var 3) (fap_cons (fe_var 4) (fap_cons (fe_var 5) (fap_cons (fe_var 7) fap_nil)))))))))))))))
theorem o_law_parts {P : Program} {w : World} {K : PySem.W.Frag} {mg : Str → Option Value} {base : Heap} (Y : Fc fa ex fn K mg) {fd : FuncData} (F : FunD K "_law_parts" "_law_parts" (defArgs t_law_parts) (defBody t_law_parts) (defScope t_law_parts) [] [] (He.fAd K ("_law_parts", none)) fd) : FnOk P w K mg base (L2.CX P w) 3 (He.fAd K ("_law_parts", none)) fd p_law_parts (spF K p_law_parts.length s_law_parts) :=
  okF F sc_law_parts fun _ _ _ _ _ _ _ hr tk => b_law_parts Y hr tk
theorem r_law_parts {P : Program} {w : World} {K : PySem.W.Frag} {mg : Str → Option Value} {base : Heap} (Y : Fc fa ex fn K mg) : FnR P w K mg base 3 ("_law_parts", none) p_law_parts s_law_parts [] := by
  obtain ⟨fd, F⟩ := f_law_parts Y
  exact ⟨⟨fd, [], [], o_law_parts Y F, FunD.bindsN F fun _ _ _ _ _ _ us hl => match us, hl with | [_, _, _], _ => rfl, .nil, rls_nil⟩, F.kp⟩
def m_law_spoil : M Fl :=
    (seqS (setS 2 (callE 2 s_law_draw [] (consA (fzM (rd 0)) (consA (fzM (lit (.int 8))) (M.pure [])))))
      (seqS (setS 3 (op2 ixV (lstE (consA (fzM (lit (.str ""))) (consA (fzM (lit (.str "A"))) (consA (fzM (lit .non)) (consA (fzM (lit (.int 5))) (consA (fzM (lit (.str "toolongxx"))) (consA (fzM (lit (.str "lost"))) (consA (fzM (tupE (consA (fzM (lit (.str "x"))) (M.pure [])))) (consA (fzM (lit (.str "a b"))) (M.pure [])))))))))) (callE 2 s_law_draw [] (consA (fzM (rd 0)) (consA (fzM (lit (.int 8))) (M.pure []))))))
      (seqS (setS 4 (op2 ixV (rd 1) (lit (.int 1))))
      (seqS (ifS (cmpT (eqvV false) (rd 2) (lit (.int 0)))
      (setIx (rd 3) (rd 1) (lit (.int 0)))
      (M.pure .nx))
      (seqS (ifS (cmpT (eqvV false) (rd 2) (lit (.int 1)))
      (seqS (setS 5 (lstE (consA (fzM (lstE (M.pure []))) (consA (fzM (op2 addV (rd 4) (lstE (consA (fzM (lit (.str "p"))) (consA (fzM (lit (.str "q"))) (consA (fzM (lit (.str "r"))) (consA (fzM (lit (.str "s"))) (consA (fzM (lit (.str "t"))) (consA (fzM (lit (.str "u"))) (M.pure [])))))))))) (consA (fzM (op2 addV (rd 4) (lstE (consA (fzM (rd 3)) (M.pure []))))) (consA (fzM (op2 addV (rd 4) (sliceE (rd 4) none (some (lit (.int 1)))))) (M.pure [])))))))
      (setIx (op2 ixV (rd 5) (callE 2 s_law_draw [] (consA (fzM (rd 0)) (consA (fzM (lit (.int 4))) (M.pure []))))) (rd 1) (lit (.int 1))))
      (M.pure .nx))
      (seqS (ifS (cmpT (eqvV false) (rd 2) (lit (.int 2)))
      (setIx (op2 addV (op2 ixV (rd 1) (lit (.int 2))) (lstE (consA (fzM (rd 3)) (M.pure [])))) (rd 1) (lit (.int 2)))
      (M.pure .nx))
      (seqS (ifS (cmpT (eqvV false) (rd 2) (lit (.int 3)))
      (setIx (op2 addV (op2 ixV (rd 1) (lit (.int 2))) (sliceE (rd 4) none (some (lit (.int 1))))) (rd 1) (lit (.int 2)))
      (M.pure .nx))
      (seqS (ifS (cmpT (eqvV false) (rd 2) (lit (.int 4)))
      (setIx (op2 addV (op2 ixV (rd 1) (lit (.int 3))) (lstE (consA (fzM (op2 ixV (lstE (consA (fzM (lstE (M.pure []))) (consA (fzM (lstE (consA (fzM (rd 3)) (M.pure [])))) (consA (fzM (op2 addV (sliceE (rd 4) none (some (lit (.int 1)))) (sliceE (rd 4) none (some (lit (.int 1)))))) (consA (fzM (rd 3)) (consA (fzM (lit .non)) (consA (fzM (lit (.int 7))) (M.pure [])))))))) (callE 2 s_law_draw [] (consA (fzM (rd 0)) (consA (fzM (lit (.int 6))) (M.pure [])))))) (M.pure [])))) (rd 1) (lit (.int 3)))
      (M.pure .nx))
      (seqS (ifS (cmpT (eqvV false) (rd 2) (lit (.int 5)))
      (seqS (setS 6 (lstE (consA (fzM (tupE (consA (fzM (lstE (consA (fzM (rd 3)) (M.pure [])))) (consA (fzM (op2 ixV (op2 addV (rd 4) (lstE (consA (fzM (lit (.str "x"))) (M.pure [])))) (lit (.int 0)))) (M.pure []))))) (consA (fzM (tupE (consA (fzM (lstE (M.pure []))) (consA (fzM (rd 3)) (M.pure []))))) (consA (fzM (tupE (consA (fzM (op2 addV (sliceE (rd 4) none (some (lit (.int 1)))) (sliceE (rd 4) none (some (lit (.int 1)))))) (consA (fzM (lit (.str "x"))) (M.pure []))))) (M.pure []))))))
      (seqS (setS 6 (op2 addV (rd 6) (lstE (consA (fzM (rd 3)) (consA (fzM (lstE (consA (fzM (lit (.str "x"))) (M.pure [])))) (consA (fzM (tupE (consA (fzM (lstE (M.pure []))) (consA (fzM (lit (.str "x"))) (consA (fzM (lit (.str "y"))) (M.pure [])))))) (M.pure [])))))))
      (setIx (op2 addV (op2 ixV (rd 1) (lit (.int 4))) (lstE (consA (fzM (op2 ixV (rd 6) (callE 2 s_law_draw [] (consA (fzM (rd 0)) (consA (fzM (lit (.int 6))) (M.pure [])))))) (M.pure [])))) (rd 1) (lit (.int 4)))))
      (M.pure .nx))
      (seqS (ifS (cmpT (eqvV false) (rd 2) (lit (.int 6)))
      (setIx (compM (iSeq (op2 ixV (rd 1) (lit (.int 3)))) [7] (.nm 7) (M.bind (M.bind (rd 7) (isiV fun k => isK k .lst)) truV) (M.bind (consA (rd 7) (M.pure [])) tupleF)) (rd 1) (lit (.int 3)))
      (M.pure .nx))
      (retS (rd 1))))))))))))
def s_law_spoil : SemF := runF n_law_spoil.length m_law_spoil
theorem f_law_spoil {K : PySem.W.Frag} {mg : Str → Option Value} (Y : Fc fa ex fn K mg) : ∃ fd, FunD K "_law_spoil" "_law_spoil" (defArgs t_law_spoil) (defBody t_law_spoil) (defScope t_law_spoil) [] [] (He.fAd K ("_law_spoil", none)) fd := by
  obtain ⟨fd, F⟩ := Y.fun 21 (d := d_law_spoil) rfl
  exact ⟨fd, F⟩
theorem b_law_spoil {P : Program} {w : World} {K : PySem.W.Frag} {mg : Str → Option Value} {base : Heap} (Y : Fc fa ex fn K mg) {f : Addr} {cdv : Value} {A : Around} {outer : List Env} {s : Shared} {H : Hp} {E : XK} {B : Base0} (hr : Room 1 (cxG P w K mg base n_law_spoil "_law_spoil" (defScope t_law_spoil) f cdv A outer s H E).A) (tk : Takes (cxG P w K mg base n_law_spoil "_law_spoil" (defScope t_law_spoil) f cdv A outer s H E) B.W) : FSs (cxG P w K mg base n_law_spoil "_law_spoil" (defScope t_law_spoil) f cdv A outer s H E) B (defBody t_law_spoil) m_law_spoil := by
  have nd := sc_law_spoil.nd
  unfold m_law_spoil
  refine (fs_cons (fs_set 2 nd (fe_callR tk (r_law_draw Y) hr (by decide) (Y.glo_ (Y.fact 2 rfl)) (fap_cons (fe_var 0) (fap_cons fe_int fap_nil))))
      (fs_cons (fs_set 3 nd (fe_ix i_seq (fe_lst (fap_cons fe_str (fap_cons fe_str (fap_cons fe_non (fap_cons fe_int (fap_cons fe_str (fap_cons fe_str (fap_cons (fe_tup (fap_cons fe_str fap_nil)) (fap_cons fe_str fap_nil))))))))) (fe_callR tk (r_law_draw Y) hr (by decide) (Y.glo_ (Y.fact 2 rfl)) (fap_cons (fe_var 0) (fap_cons fe_int fap_nil)))))
      (fs_cons (fs_set 4 nd (fe_ix i_seq (fe_var 1) fe_int))
      (fs_cons (fs_if (ft_cmp (o_eq hr) (fe_var 2) fe_int (nomark _))
      (fs_one (fs_setIx (fe_var 3) (fe_var 1) fe_int))
      fs_nil)
      (fs_cons (fs_if (ft_cmp (o_eq hr) (fe_var 2) fe_int (nomark _))
      (fs_cons (fs_set 5 nd (fe_lst (fap_cons (fe_lst fap_nil) (fap_cons (fe_op o_add (fe_var 4) (fe_lst (fap_cons fe_str (fap_cons fe_str (fap_cons fe_str (fap_cons fe_str (fap_cons fe_str (fap_cons fe_str fap_nil)))))))) (fap_cons (fe_op o_add (fe_var 4) (fe_lst (fap_cons (fe_var 3) fap_nil))) (fap_cons (fe_op o_add (fe_var 4) (fe_slice (fe_var 4) fo_none (fo_some fe_int))) fap_nil))))))
      (fs_one (fs_setIx (fe_ix i_seq (fe_var 5) (fe_callR tk (r_law_draw Y) hr (by decide) (Y.glo_ (Y.fact 2 rfl)) (fap_cons (fe_var 0) (fap_cons fe_int fap_nil)))) (fe_var 1) fe_int)))
      fs_nil)
      (fs_cons (fs_if (ft_cmp (o_eq hr) (fe_var 2) fe_int (nomark _))
      (fs_one (fs_setIx (fe_op o_add (fe_ix i_seq (fe_var 1) fe_int) (fe_lst (fap_cons (fe_var 3) fap_nil))) (fe_var 1) fe_int))
      fs_nil)
      (fs_cons (fs_if (ft_cmp (o_eq hr) (fe_var 2) fe_int (nomark _))
      (fs_one (fs_setIx (fe_op o_add (fe_ix i_seq (fe_var 1) fe_int) (fe_slice (fe_var 4) fo_none (fo_some fe_int))) (fe_var 1) fe_int))
      fs_nil)
      (fs_cons (fs_if (ft_cmp (o_eq hr) (fe_var 2) fe_int (nomark _))
      (fs_one (fs_setIx (fe_op o_add (fe_ix i_seq (fe_var 1) fe_int) (fe_lst (fap_cons (fe_ix i_seq (fe_lst (fap_cons (fe_lst fap_nil) (fap_cons (fe_lst (fap_cons (fe_var 3) fap_nil)) (fap_cons (fe_op o_add (fe_slice (fe_var 4) fo_none (fo_some fe_int)) (fe_slice (fe_var 4) fo_none (fo_some fe_int))) (fap_cons (fe_var 3) (fap_cons fe_non (fap_cons fe_int fap_nil))))))) (fe_callR tk (r_law_draw Y) hr (by decide) (Y.glo_ (Y.fact 2 rfl)) (fap_cons (fe_var 0) (fap_cons fe_int fap_nil)))) fap_nil))) (fe_var 1) fe_int))
      fs_nil)
      (fs_cons (fs_if (ft_cmp (o_eq hr) (fe_var 2) fe_int (nomark _))
      (fs_cons (fs_set 6 nd (fe_lst (fap_cons (fe_tup (fap_cons (fe_lst (fap_cons (fe_var 3) fap_nil)) (fap_cons (fe_ix i_seq (fe_op o_add (fe_var 4) (fe_lst (fap_cons fe_str fap_nil))) fe_int) fap_nil))) (fap_cons (fe_tup (fap_cons (fe_lst fap_nil) (fap_cons (fe_var 3) fap_nil))) (fap_cons (fe_tup (fap_cons (fe_op o_add (fe_slice (fe_var 4) fo_none (fo_some fe_int)) (fe_slice (fe_var 4) fo_none (fo_some fe_int))) (fap_cons fe_str fap_nil))) fap_nil)))))
      (fs_cons (fs_set 6 nd (fe_op o_add (fe_var 6) (fe_lst (fap_cons (fe_var 3) (fap_cons (fe_lst (fap_cons fe_str fap_nil)) (fap_cons (fe_tup (fap_cons (fe_lst fap_nil) (fap_cons fe_str (fap_cons fe_str fap_nil)))) fap_nil))))))
      (fs_one (fs_setIx (fe_op o_add (fe_ix i_seq (fe_var 1) fe_int) (fe_lst (fap_cons (fe_ix i_seq (fe_var 6) (fe_callR tk (r_law_draw Y) hr (by decide) (Y.glo_ (Y.fact 2 rfl)) (fap_cons (fe_var 0) (fap_cons fe_int fap_nil)))) fap_nil))) (fe_var 1) fe_int))))
      fs_nil)
      (fs_cons (fs_if (ft_cmp (o_eq hr) (fe_var 2) fe_int (nomark _))
      (fs_one (fs_setIx (fe_lc (t := (.nm 7)) (own := [("_law_key", 7)]) rfl nd (fi_seq (fe_ix i_seq (fe_var 1) fe_int)) (blk_of (by kernel_rfl)) (fun _ _ _ _ _ => (fg_name 7 nd)) (fun _ _ _ _ _ => (pt_one (ft_truth (fe_isi .lst (fe_var 7) (Y.free_ (Y.fact 34 rfl)) (Y.free_ (Y.fact 6 rfl)) bo_list)))) (fun _ _ _ _ _ => (fe_callTy c_tuple (Y.free_ (Y.fact 19 rfl)) bo_tuple (fa_cons (fe_var 7) fa_nil)))) (fe_var 1) fe_int))
      fs_nil)
      (fs_one (fs_ret (fe_var 1)))))))))))))
theorem o_law_spoil {P : Program} {w : World} {K : PySem.W.Frag} {mg : Str → Option Value} {base : Heap} (Y : Fc fa ex fn K mg) {fd : FuncData} (F : FunD K "_law_spoil" "_law_spoil" (defArgs t_law_spoil) (defBody t_law_spoil) (defScope t_law_spoil) [] [] (He.fAd K ("_law_spoil", none)) fd) : FnOk P w K mg base (L2.CX P w) 2 (He.fAd K ("_law_spoil", none)) fd p_law_spoil (spF K p_law_spoil.length s_law_spoil) :=
  okF F sc_law_spoil fun _ _ _ _ _ _ _ hr tk => b_law_spoil Y hr tk
theorem r_law_spoil {P : Program} {w : World} {K : PySem.W.Frag} {mg : Str → Option Value} {base : Heap} (Y : Fc fa ex fn K mg) : FnR P w K mg base 2 ("_law_spoil", none) p_law_spoil s_law_spoil [] := by
  obtain ⟨fd, F⟩ := f_law_spoil Y
  exact ⟨⟨fd, [], [], o_law_spoil Y F, FunD.bindsN F fun _ _ _ _ _ _ us hl => match us, hl with | [_, _], _ => rfl, .nil, rls_nil⟩, F.kp⟩
def l_law_1 : M Fl :=
    (setS 2 (callE 2 s_law_spoil [] (consA (fzM (rd 1)) (consA (fzM (rd 2)) (M.pure [])))))
def m_law : M Fl :=
    (seqS (setS 1 (callE 1 s_law_begin [] (consA (fzM (rd 0)) (M.pure []))))
      (seqS (setS 2 (callE 3 s_law_parts [] (consA (fzM (rd 1)) (consA (fzM (lit (.str "a"))) (consA (fzM (lit (.int 4))) (M.pure []))))))
      (seqS (forS (M.bind (consA (callE 2 s_law_draw [] (consA (fzM (rd 1)) (consA (fzM (lit (.int 3))) (M.pure [])))) (M.pure [])) rng1) (Tgt.g (.nm 3))
      l_law_1)
      (seqS (setS 4 (callE 1 s_law_due [] (consA (fzM (rd 2)) (M.pure []))))
      (seqS (setS 5 (lstC (consA (fzM (op2 ixV (rd 2) (lit (.int 0)))) (consA (fzM (M.bind (consA (op2 ixV (rd 2) (lit (.int 1))) (M.pure [])) listFC)) (consA (fzM (M.bind (consA (op2 ixV (rd 2) (lit (.int 2))) (M.pure [])) listF)) (consA (fzM (M.bind (consA (op2 ixV (rd 2) (lit (.int 3))) (M.pure [])) listFC)) (consA (fzM (M.bind (consA (op2 ixV (rd 2) (lit (.int 4))) (M.pure [])) listF)) (M.pure []))))))))
      (seqS (setS 6 (tupE (consA (fzM (lit (.str "good"))) (consA (fzM (lit (.int 0))) (M.pure [])))))
      (seqS (setS 7 (lit .non))
      (seqS (tryS (exmT xt) (setS 7 (mltM 5 (makeK "Table" 2 3 s_Table_init (consA (fzM (op2 ixV (rd 5) (lit (.int 0)))) (consA (fzM (op2 ixV (rd 5) (lit (.int 1)))) (M.pure []))) (consA (fzM (op2 ixV (rd 5) (lit (.int 2)))) (consA (fzM (op2 ixV (rd 5) (lit (.int 3)))) (consA (fzM (op2 ixV (rd 5) (lit (.int 4)))) (M.pure []))))))) [⟨"BadName", none, fun x n => (setS 6 (tupE (consA (fzM (lit (.str "name"))) (consA (fzM (lit (.int 0))) (M.pure [])))))⟩, ⟨"BadColumn", some 8, fun x n => (setS 6 (tupE (consA (fzM (lit (.str "column"))) (consA (fzM (xfM 8 n x "BadColumn" "index")) (M.pure [])))))⟩, ⟨"BadRequired", some 8, fun x n => (setS 6 (tupE (consA (fzM (lit (.str "required"))) (consA (fzM (xfM 8 n x "BadRequired" "index")) (M.pure [])))))⟩, ⟨"BadKey", some 8, fun x n => (setS 6 (tupE (consA (fzM (lit (.str "key"))) (consA (fzM (xfM 8 n x "BadKey" "index")) (M.pure [])))))⟩, ⟨"BadRule", some 8, fun x n => (setS 6 (tupE (consA (fzM (lit (.str "rule"))) (consA (fzM (xfM 8 n x "BadRule" "index")) (M.pure [])))))⟩])
      (seqS (ifS (orT (cmpT (eqvV true) (rd 6) (rd 4)) (cmpT (eqvV true) (rd 5) (rd 2)))
      (retS (lit (.bl false)))
      (M.pure .nx))
      (seqS (ifS (cmpT (eqvV true) (op2 ixV (rd 4) (lit (.int 0))) (lit (.str "good")))
      (retS (lit (.bl true)))
      (M.pure .nx))
      (seqS (exprS (metE (op2 ixV (rd 5) (lit (.int 1))) (consA (fzM (lit (.str "late"))) (M.pure [])) appM))
      (seqS (exprS (metE (op2 ixV (rd 5) (lit (.int 3))) (consA (fzM (lstE (consA (fzM (lit (.str "late"))) (M.pure [])))) (M.pure [])) appM))
      (seqS (ifS (orT (cmpT (eqvV true) (M.bind (rd 7) (fldV "Table" "name")) (op2 ixV (rd 2) (lit (.int 0)))) (notT (M.bind (callE 2 s_law_like [] (consA (fzM (M.bind (rd 7) (fldV "Table" "columns"))) (consA (fzM (M.bind (consA (op2 ixV (rd 2) (lit (.int 1))) (M.pure [])) tupleF)) (M.pure [])))) truV)))
      (retS (lit (.bl false)))
      (M.pure .nx))
      (seqS (setS 9 (M.bind (consA (compM (iSeq (op2 ixV (rd 2) (lit (.int 3)))) [11] (.nm 11) (M.pure true) (M.bind (consA (rd 11) (M.pure [])) tupleF)) (M.pure [])) tupleF))
      (seqS (setS 10 (M.bind (consA (compM (iSeq (op2 ixV (rd 2) (lit (.int 4)))) [12] (.nm 12) (M.pure true) (tupE (consA (fzM (M.bind (consA (op2 ixV (rd 12) (lit (.int 0))) (M.pure [])) tupleF)) (consA (fzM (op2 ixV (rd 12) (lit (.int 1)))) (M.pure []))))) (M.pure [])) tupleF))
      (seqS (ifS (notT (M.bind (callE 2 s_law_like [] (consA (fzM (M.bind (rd 7) (fldV "Table" "required"))) (consA (fzM (M.bind (consA (op2 ixV (rd 2) (lit (.int 2))) (M.pure [])) tupleF)) (M.pure [])))) truV))
      (retS (lit (.bl false)))
      (M.pure .nx))
      (retS (andV (callE 2 s_law_like [] (consA (fzM (M.bind (rd 7) (fldV "Table" "unique"))) (consA (fzM (rd 9)) (M.pure [])))) (callE 2 s_law_like [] (consA (fzM (M.bind (rd 7) (fldV "Table" "rules"))) (consA (fzM (rd 10)) (M.pure []))))))))))))))))))))))
def s_law : SemF := runF n_law.length m_law
theorem f_law {K : PySem.W.Frag} {mg : Str → Option Value} (Y : Fc fa ex fn K mg) : ∃ fd, FunD K "law" "law" (defArgs t_law) (defBody t_law) (defScope t_law) [] [] (He.fAd K ("law", none)) fd := by
  obtain ⟨fd, F⟩ := Y.fun 22 (d := d_law) rfl
  exact ⟨fd, F⟩
theorem b_law {P : Program} {w : World} {K : PySem.W.Frag} {mg : Str → Option Value} {base : Heap} (Y : Fc fa ex fn K mg) {f : Addr} {cdv : Value} {A : Around} {outer : List Env} {s : Shared} {H : Hp} {E : XK} {B : Base0} (hr : Room 9 (cxG P w K mg base n_law "law" (defScope t_law) f cdv A outer s H E).A) (tk : Takes (cxG P w K mg base n_law "law" (defScope t_law) f cdv A outer s H E) B.W) : FSs (cxG P w K mg base n_law "law" (defScope t_law) f cdv A outer s H E) B (defBody t_law) m_law := by
  have nd := sc_law.nd
  unfold m_law
  refine (fs_cons (fs_set 1 nd (fe_callR tk (r_law_begin Y) hr (by decide) (Y.glo_ (Y.fact 0 rfl)) (fap_cons (fe_var 0) fap_nil)))
      (fs_cons (fs_set 2 nd (fe_callR tk (r_law_parts Y) hr (by decide) (Y.glo_ (Y.fact 1 rfl)) (fap_cons (fe_var 1) (fap_cons fe_str (fap_cons fe_int fap_nil)))))
      (fs_cons (fs_for (t := (.nm 3)) poG rfl (fi_range1 (Y.free_ (Y.fact 3 rfl)) (fa_cons (fe_callR tk (r_law_draw Y) hr (by decide) (Y.glo_ (Y.fact 2 rfl)) (fap_cons (fe_var 1) (fap_cons fe_int fap_nil))) fa_nil)) (fg_name 3 nd)
      (by unfold l_law_1; exact (fs_one (fs_set 2 nd (fe_callR tk (r_law_spoil Y) hr (by decide) (Y.glo_ (Y.fact 4 rfl)) (fap_cons (fe_var 1) (fap_cons (fe_var 2) fap_nil)))))))
      (fs_cons (fs_set 4 nd (fe_callR tk (r_law_due Y) hr (by decide) (Y.glo_ (Y.fact 5 rfl)) (fap_cons (fe_var 2) fap_nil)))
      (fs_cons (fs_set 5 nd (fe_lstC (fap_cons (fe_ix i_seq (fe_var 2) fe_int) (fap_cons (fe_callTy c_listC (Y.free_ (Y.fact 6 rfl)) bo_list (fa_cons (fe_ix i_seq (fe_var 2) fe_int) fa_nil)) (fap_cons (fe_callTy c_list (Y.free_ (Y.fact 6 rfl)) bo_list (fa_cons (fe_ix i_seq (fe_var 2) fe_int) fa_nil)) (fap_cons (fe_callTy c_listC (Y.free_ (Y.fact 6 rfl)) bo_list (fa_cons (fe_ix i_seq (fe_var 2) fe_int) fa_nil)) (fap_cons (fe_callTy c_list (Y.free_ (Y.fact 6 rfl)) bo_list (fa_cons (fe_ix i_seq (fe_var 2) fe_int) fa_nil)) fap_nil)))))))
      (fs_cons (fs_set 6 nd (fe_tup (fap_cons fe_str (fap_cons fe_int fap_nil))))
      (fs_cons (fs_set 7 nd fe_non)
      (fs_cons (fs_try (exmB_ok (Y.own 4 rfl)) rfl rfl nd tk (fun W pn xe tk' => (fs_one (fs_set 7 nd (fe_melt 5 (fe_makeKR tk' (r_Table_init Y) hr (by decide) (Y.glo_ (Y.fact 7 rfl)) (fap_cons (fe_ix i_seq (fe_var 5) fe_int) (fap_cons (fe_ix i_seq (fe_var 5) fe_int) fap_nil)) (fk_cons (fe_ix i_seq (fe_var 5) fe_int) (fk_cons (fe_ix i_seq (fe_var 5) fe_int) (fk_cons (fe_ix i_seq (fe_var 5) fe_int) fk_nil)))))))) (HdsF.one (c := "BadName") ⟨rfl, by decide, .inl (Y.glo_ (Y.fact 16 rfl))⟩ (fun x n B' a oe cls d pn hz hf q => (fs_one (fs_set 6 nd (fe_tup (fap_cons fe_str (fap_cons fe_int fap_nil)))))) (HdsF.as (c := "BadColumn") ⟨rfl, by decide, .inl (Y.glo_ (Y.fact 15 rfl))⟩ rfl rfl (fun x n B' a oe cls d pn hz hf q => (fs_one (fs_set 6 nd (fe_tup (fap_cons fe_str (fap_cons (fe_xf q hz hf (xfB_ok (Y.own 3 rfl)) (He.noat_ok (Y.fact 14 rfl)) (fe_var 8)) fap_nil)))))) (HdsF.as (c := "BadRequired") ⟨rfl, by decide, .inl (Y.glo_ (Y.fact 13 rfl))⟩ rfl rfl (fun x n B' a oe cls d pn hz hf q => (fs_one (fs_set 6 nd (fe_tup (fap_cons fe_str (fap_cons (fe_xf q hz hf (xfB_ok (Y.own 2 rfl)) (He.noat_ok (Y.fact 12 rfl)) (fe_var 8)) fap_nil)))))) (HdsF.as (c := "BadKey") ⟨rfl, by decide, .inl (Y.glo_ (Y.fact 11 rfl))⟩ rfl rfl (fun x n B' a oe cls d pn hz hf q => (fs_one (fs_set 6 nd (fe_tup (fap_cons fe_str (fap_cons (fe_xf q hz hf (xfB_ok (Y.own 1 rfl)) (He.noat_ok (Y.fact 10 rfl)) (fe_var 8)) fap_nil)))))) (HdsF.as (c := "BadRule") ⟨rfl, by decide, .inl (Y.glo_ (Y.fact 9 rfl))⟩ rfl rfl (fun x n B' a oe cls d pn hz hf q => (fs_one (fs_set 6 nd (fe_tup (fap_cons fe_str (fap_cons (fe_xf q hz hf (xfB_ok (Y.own 0 rfl)) (He.noat_ok (Y.fact 8 rfl)) (fe_var 8)) fap_nil)))))) HdsF.nil))))))
      (fs_cons (fs_if (ft_w (fw_or (ft_cmp (o_ne hr) (fe_var 6) (fe_var 4) (nomark _)) (fw_or1 (ft_cmp (o_ne hr) (fe_var 5) (fe_var 2) (nomark _)))))
      (fs_one (fs_ret fe_bl))
      fs_nil)
      (fs_cons (fs_if (ft_cmp (o_ne hr) (fe_ix i_seq (fe_var 4) fe_int) fe_str (nomark _))
      (fs_one (fs_ret fe_bl))
      fs_nil)
      (fs_cons (fs_expr (fe_append (fe_ix i_seq (fe_var 5) fe_int) (fap_cons fe_str fap_nil)))
      (fs_cons (fs_expr (fe_append (fe_ix i_seq (fe_var 5) fe_int) (fap_cons (fe_lst (fap_cons fe_str fap_nil)) fap_nil)))
      (fs_cons (fs_if (ft_w (fw_or (ft_cmp (o_ne hr) (fe_fld "Table" (He.cls_ok (Y.fact 17 rfl)) (He.noat_ok (Y.fact 18 rfl)) (fe_var 7)) (fe_ix i_seq (fe_var 2) fe_int) (nomark _)) (fw_or1 (ft_not (ft_truth (fe_callR tk (r_law_like Y) hr (by decide) (Y.glo_ (Y.fact 21 rfl)) (fap_cons (fe_fld "Table" (He.cls_ok (Y.fact 17 rfl)) (He.noat_ok (Y.fact 20 rfl)) (fe_var 7)) (fap_cons (fe_callTy c_tuple (Y.free_ (Y.fact 19 rfl)) bo_tuple (fa_cons (fe_ix i_seq (fe_var 2) fe_int) fa_nil)) fap_nil))))))))
      (fs_one (fs_ret fe_bl))
      fs_nil)
      (fs_cons (fs_set 9 nd (fe_callTy c_tuple (Y.free_ (Y.fact 19 rfl)) bo_tuple (fa_cons (fe_lc (t := (.nm 11)) (own := [("_law_key", 11)]) rfl nd (fi_seq (fe_ix i_seq (fe_var 2) fe_int)) (blk_of (by kernel_rfl)) (fun _ _ _ _ _ => (fg_name 11 nd)) (fun _ _ _ _ _ => pt_nil) (fun _ _ _ _ _ => (fe_callTy c_tuple (Y.free_ (Y.fact 19 rfl)) bo_tuple (fa_cons (fe_var 11) fa_nil)))) fa_nil)))
      (fs_cons (fs_set 10 nd (fe_callTy c_tuple (Y.free_ (Y.fact 19 rfl)) bo_tuple (fa_cons (fe_lc (t := (.nm 12)) (own := [("_law_rule", 12)]) rfl nd (fi_seq (fe_ix i_seq (fe_var 2) fe_int)) (blk_of (by kernel_rfl)) (fun _ _ _ _ _ => (fg_name 12 nd)) (fun _ _ _ _ _ => pt_nil) (fun _ _ _ _ _ => (fe_tup (fap_cons (fe_callTy c_tuple (Y.free_ (Y.fact 19 rfl)) bo_tuple (fa_cons (fe_ix i_seq (fe_var 12) fe_int) fa_nil)) (fap_cons (fe_ix i_seq (fe_var 12) fe_int) fap_nil))))) fa_nil)))
      (fs_cons (fs_if (ft_not (ft_truth (fe_callR tk (r_law_like Y) hr (by decide) (Y.glo_ (Y.fact 21 rfl)) (fap_cons (fe_fld "Table" (He.cls_ok (Y.fact 17 rfl)) (He.noat_ok (Y.fact 22 rfl)) (fe_var 7)) (fap_cons (fe_callTy c_tuple (Y.free_ (Y.fact 19 rfl)) bo_tuple (fa_cons (fe_ix i_seq (fe_var 2) fe_int) fa_nil)) fap_nil)))))
      (fs_one (fs_ret fe_bl))
      fs_nil)
      (fs_one (fs_ret (fe_and (fe_callR tk (r_law_like Y) hr (by decide) (Y.glo_ (Y.fact 21 rfl)) (fap_cons (fe_fld "Table" (He.cls_ok (Y.fact 17 rfl)) (He.noat_ok (Y.fact 23 rfl)) (fe_var 7)) (fap_cons (fe_var 9) fap_nil))) (fe_one (fe_callR tk (r_law_like Y) hr (by decide) (Y.glo_ (Y.fact 21 rfl)) (fap_cons (fe_fld "Table" (He.cls_ok (Y.fact 17 rfl)) (He.noat_ok (Y.fact 24 rfl)) (fe_var 7)) (fap_cons (fe_var 10) fap_nil)))))))))))))))))))))))
theorem o_law {P : Program} {w : World} {K : PySem.W.Frag} {mg : Str → Option Value} {base : Heap} (Y : Fc fa ex fn K mg) {fd : FuncData} (F : FunD K "law" "law" (defArgs t_law) (defBody t_law) (defScope t_law) [] [] (He.fAd K ("law", none)) fd) : FnOk P w K mg base (L2.CX P w) 10 (He.fAd K ("law", none)) fd p_law (spF K p_law.length s_law) :=
  okF F sc_law fun _ _ _ _ _ _ _ hr tk => b_law Y hr tk
theorem r_law {P : Program} {w : World} {K : PySem.W.Frag} {mg : Str → Option Value} {base : Heap} (Y : Fc fa ex fn K mg) : FnR P w K mg base 10 ("law", none) p_law s_law [] := by
  obtain ⟨fd, F⟩ := f_law Y
  exact ⟨⟨fd, [], [], o_law Y F, FunD.bindsN F fun _ _ _ _ _ _ us hl => match us, hl with | [_], _ => rfl, .nil, rls_nil⟩, F.kp⟩
end
end K01
set_option maxRecDepth 100000
set_option maxHeartbeats 4000000
namespace K01
open PySem PySem.Spec L2 G S
noncomputable section
abbrev R : PySem.W.OpenRow := PySem.W.OpenLaw.row PySem.Challenge.rw_groupsure_k01_tables_refused
abbrev hk : PySem.W.Hook := hookX 5 fa ex fn
def ob (s : PySem.W.SharedT) : He.AlD := obsXG 5 fa ex fn (HandSHeadRun.getT s)
theorem ob_eq (s : PySem.W.SharedT) : ob s = hk.obs s.abs := obsXG_eq (HandSHeadRun.getT_eq s)
def loose : List Str := (["_wall", "GroupError", "BadName", "BadColumn", "BadRequired", "BadKey", "BadRule", "LETTERS", "MOST", "is_name", "first_wrong", "is_columns", "check_columns", "is_rule", "Table", "_law_begin"] : List Str) ++ (["_law_draw", "_law_names", "_law_some", "_law_parts", "_law_table", "_law_schema", "_law_like", "_law_good_name", "_law_list_wrong", "_law_key_good", "_law_rule_good", "_law_due", "_law_spoil"] : List Str)
theorem run (w : World) : HandSHeadRun.RunEq R (PySem.W.view R.prog [32]) hk ob 12000 loose w := by
  intro os
  kernel_rfl
theorem facts {P : Program} {w : World} {K : PySem.W.Frag} {h : Heap} {mg : Str → Option Value} {f : Addr} (X : K.In h) (G : h.Ns mainGlobals mg) (hfa : mg ("law" : Str) = some (.ref f)) (c : SaysX fa ex fn K) :
    ∃ fd : FuncData, (∀ (s : Shared) (v : Value), BindsTo s fd ⟨[v], []⟩ [("_law_script", v)]) ∧ noList K = true ∧ ∀ base : Heap, K.In base → base.Ns mainGlobals mg → FnOk P w K mg base (L2.CX P w) 10 f fd ["_law_script"] (spF K 1 s_law) := by
  have Y : Fc fa ex fn K mg := Fc.mk' X G c
  obtain ⟨fd, F⟩ := f_law Y
  have e := hfa.symm.trans (Y.glo_ (Y.fact 47 rfl))
  have e2 : f = He.ga K "law" := by simpa using e
  subst e2
  have b := FunD.bindsA (ps := ["_law_script"]) F fun _ _ _ _ _ _ us hl => match us, hl with | [_], _ => rfl
  exact ⟨fd, fun s v => b s [v] rfl, (Y.own 13 rfl), fun base _ _ => o_law Y F⟩
open PySem PySem.W PySem.Calls PyProof.Rows in
theorem holds_of (hl : ∀ ns : List Int, ns.length ≤ 63 → ∃ Omq, s_law [.d (.lst (ns.map D.int))] [] = .ok (.d (.bl true)) Omq) : PySem.Challenge.rw_groupsure_k01_tables_refused.Holds := by
  w_on; o_law
  refine HandSHeadRun.head_any (r := OpenLaw.row PySem.Challenge.rw_groupsure_k01_tables_refused) (q := view (OpenLaw.row PySem.Challenge.rw_groupsure_k01_tables_refused).prog [32]) (H := hk) (ob := ob) (M := 12000) (loose := loose) (d := HandSHeadRun.topDef (OpenLaw.row PySem.Challenge.rw_groupsure_k01_tables_refused).prog 32) (kwd := []) ob_eq
    (by kernel_rfl) (fun s => by kernel_rfl) run (by kernel_rfl) (by kernel_rfl) (by kernel_rfl) (by rfl) (by first | assumption | decide +kernel) (by decide +kernel) ⟨rfl, rfl, rfl, rfl, rfl, by decide +kernel⟩ ?hw ?hc
  case hw => w_witness2
  case hc =>
    refine walk_ofW (l := PySem.Challenge.rw_groupsure_k01_tables_refused) (n := 63) (k := 10) (x := "_law_script") (sem := s_law) rfl (by decide) (by kernel_rfl) ⟨rfl, by decide, by decide⟩ ?F hl
    intro w mg fq h Y G hmg0
    obtain ⟨K, KX, c⟩ := Y
    have e : (HandSHeadRun.topDef (OpenLaw.row PySem.Challenge.rw_groupsure_k01_tables_refused).prog 32).name = ("law" : PySem.Str) := by kernel_rfl
    rw [e] at hmg0
    obtain ⟨fd, hb, nl, hF⟩ := facts (P := (PySem.Challenge.rw_groupsure_k01_tables_refused).prog) (w := w) KX G hmg0 c
    exact ⟨K, fd, KX, hb, nl, hF⟩
end
end K01
set_option maxRecDepth 100000
namespace K01
open PySem PySem.Spec L2 G S
/-! ### the own look: names, lists, keys, rules -/
section
variable {Omq : List (Option Cell)}
theorem gname_str (x : Str) (hx : x.cps.size ≤ 1000) : s_law_good_name [.d (.str x)] Omq = .ok (.d (.bl (isName x))) Omq := by
  unfold s_law_good_name m_law_good_name isName
  rw [u_run]
  have h9 : x.cps.size ≤ 1000000 := by omega
  have cL : ∀ rhq : List Slot, rhq[1]? = some .no → compZ 1 (M.pure true) (op2 (inV0 false) (rd 1) (lit (.str "abcdefghijklmnopqrstuvwxyz"))) (x.cps.toList.map fun c => Val.d (.str ⟨#[c]⟩)) ⟨rhq, Omq⟩ = .ok (.d (.lst ((x.cps.toList.map fun c => decide (c ∈ letters.cps.toList)).map D.bl))) ⟨rhq, Omq⟩ := fun rhq h1 => by
    rw [List.map_map]
    refine compZ_ok _ (by simp [h1]) fun c hc => ?_
    have hl : 1 < rhq.length := (List.getElem?_eq_some_iff.mp h1).1
    have h1' : (rhq.set 1 (.v (.d (.str ⟨#[c]⟩))))[1]? = some (.v (.d (.str ⟨#[c]⟩))) := by simp [hl]
    simp only [u_op2, u_rd, h1', bnd_ok, u_lit]
    unfold inV0
    simp [letters]
  have ha : (x.cps.toList.map fun c => decide (c ∈ letters.cps.toList)).all id = x.cps.toList.all fun c => decide (c ∈ letters.cps.toList) := by rw [List.all_map]; rfl
  generalize (x.cps.toList.map fun c => decide (c ∈ letters.cps.toList)) = L at cL ha
  generalize (x.cps.toList.all fun c => decide (c ∈ letters.cps.toList)) = b at ha ⊢
  by_cases h1 : 1 ≤ x.cps.size
  · have h1' : (1 : Int) ≤ (x.cps.size : Int) := by omega
    by_cases h8 : x.cps.size ≤ 8
    · have h8' : (x.cps.size : Int) ≤ 8 := by omega
      simp [-compZ_map, slots, n_law_good_name, Str.length, h9, h1', h8', h1, h8, strD, signs, cL, ha]
    · have h8' : ¬ (x.cps.size : Int) ≤ 8 := by omega
      simp [-compZ_map, slots, n_law_good_name, Str.length, h9, h8', h8]
  · have h1' : ¬ (1 : Int) ≤ (x.cps.size : Int) := by omega
    simp [-compZ_map, slots, n_law_good_name, Str.length, h9, h1', h1]
theorem gname_ok {d : D} (hk : kindly d) (hs : short d) : s_law_good_name [.d d] Omq = .ok (.d (.bl (nameD d))) Omq := by
  cases e : asStr d with
  | none =>
    have : nameD d = false := by cases d <;> first | rfl | cases e
    rw [this]
    unfold s_law_good_name m_law_good_name
    rw [u_run]
    simp [slots, n_law_good_name, isi_str hk e]
  | some y =>
    cases d with
    | str x => exact gname_str x (hs x rfl)
    | _ => cases e
def dWr : Option Nat → D
  | some i => .int (i : Nat)
  | none => .int (-1)
def itemAt (xs : List D) (i : Nat) : D := (xs[i]?).getD .non
theorem find_range (f : D × Nat → Bool) (things : List D) : ((List.range things.length).find? fun i => f (itemAt things i, i)) = (things.zipIdx.find? f).map (·.2) := by
  have key : ∀ (n : Nat) (xs : List D), ((List.range xs.length).find? fun i => f (itemAt xs i, n + i)).map (n + ·) = ((xs.zipIdx n).find? f).map (·.2) := by
    intro n xs
    induction xs generalizing n with
    | nil => rfl
    | cons x xs ih =>
      rw [List.length_cons, List.range_succ_eq_map, List.zipIdx_cons, List.find?_cons, List.find?_cons]
      have i0 : itemAt (x :: xs) 0 = x := rfl
      rw [i0, Nat.add_zero]
      cases f (x, n) with
      | true => rfl
      | false =>
        dsimp only
        rw [List.find?_map, Option.map_map]
        have := ih (n + 1)
        rw [← this]
        have e1 : ((fun i => f (itemAt (x :: xs) i, n + i)) ∘ Nat.succ) = fun i => f (itemAt xs i, n + 1 + i) := by
          funext i
          show f (itemAt (x :: xs) (i + 1), n + (i + 1)) = _
          have : itemAt (x :: xs) (i + 1) = itemAt xs i := by simp [itemAt]
          rw [this, show n + (i + 1) = n + 1 + i from by omega]
        have e2 : ((fun x => n + x) ∘ Nat.succ) = fun i => n + 1 + i := by funext i; show n + (i + 1) = _; omega
        rw [e1, e2]
  have := key 0 things
  simp only [Nat.zero_add] at this
  rw [← this]
  simp
theorem fw_range (C : List Str) (things : List D) : ((List.range things.length).find? fun i => fwBad C things (itemAt things i, i)) = firstWrong C things := find_range _ _
theorem seq_ix {T : D} {xs : List D} (hT : T = .lst xs ∨ T = .tup xs) {i : Nat} (hi : i < xs.length) (s : Sg) : ixV (.d T) (.d (.int (i : Int))) s = .ok (.d (itemAt xs i)) s := by
  have : itemAt xs i = xs[i] := by simp [itemAt, hi]
  rw [this]
  rcases hT with rfl | rfl <;> simp [G.atI_nat, hi]
theorem list_wrong_ok {C : List Str} {things : List D} {T : D} (hT : T = .lst things ∨ T = .tup things) (hk : ∀ d ∈ things, kindly d) (hl : things.length ≤ 1000) : s_law_list_wrong [.d T, .d (lS C)] Omq = .ok (.d (dWr (firstWrong C things))) Omq := by
  have lp := loop_EJ (f := fun i : Nat => Val.d (.int (i : Int))) (body := fun x s => bnd ((Tgt.nm 2).g x s) fun _ s => l_law_list_wrong_1 s)
    (fun (_ : Unit) (j : Slot) => ⟨[.v (.d T), .v (.d (lS C)), j], Omq⟩) (fun _ i => if fwBad C things (itemAt things i, i) then .inr i else .inl ())
    (fun (i : Nat) j => .ok (.rt (.d (.int i))) ⟨[.v (.d T), .v (.d (lS C)), j], Omq⟩) (fun _ _ => trivial) (fun i _ => ∃ S : List Str, things.take i = S.map D.str) (List.range things.length) 0 () .no
    (fun m n hm _ j ⟨S, hS⟩ => by
      rw [Nat.zero_add] at *
      have hlm := (List.getElem?_eq_some_iff.mp hm).1
      have hn : m = n := by
        have := (List.getElem?_eq_some_iff.mp hm).2
        simpa using this
      subst hn
      have hl : m < things.length := by simpa using hlm
      have hi : things[m]? = some (itemAt things m) := by simp [itemAt, hl]
      have kd := hk _ (List.mem_of_getElem? hi)
      have ix := seq_ix hT hl
      generalize itemAt things m = d at *
      have tk : things.take (m + 1) = things.take m ++ [d] := by
        rw [List.take_add_one, hi]; rfl
      have at_ : L2.atI things (m : Int) = some d := by rw [G.atI_nat, hi]
      have q : cutL things none (some (m : Int)) = S.map D.str := by rw [cut_hi _ _ (by omega)]; simpa using hS
      have cut : ∀ s : Sg, cutF (.d (.tup things)) none (some (m : Int)) s = .ok (.d (_root_.S.tS S)) s := fun s => by
        have : ¬ (HT.sIx things.length 0 none = 0 ∧ HT.sIx things.length things.length (some (m : Int)) = things.length) := fun z => by
          have := z.2
          rw [HT.sIx_nat] at this
          omega
        show (if HT.sIx things.length 0 none = 0 ∧ HT.sIx things.length things.length (some (m : Int)) = things.length then Out.stuck else _) = _
        rw [if_neg this, q]
      cases ed : asStr d with
      | none =>
        have hb : fwBad C things (d, m) = true := by
          cases d <;> first | rfl | cases ed
        rw [hb]
        refine ⟨.v (.d (.int m)), ?_⟩
        unfold l_law_list_wrong_1
        simp [ix, isi_str kd ed]
      | some y =>
        have : d = .str y := by cases d <;> first | (cases ed; rfl) | cases ed
        subst this
        have hb : fwBad C things (.str y, m) = (!(decide (y ∈ C)) || decide (y ∈ S)) := by
          unfold fwBad
          simp only [hS, any_strs]
        rw [hb]
        by_cases hc : y ∈ C
        · by_cases hs : y ∈ S
          · simp only [hc, hs, decide_true, Bool.not_true, Bool.or_true, if_true]
            refine ⟨.v (.d (.int m)), ?_⟩
            unfold l_law_list_wrong_1
            rcases hT with rfl | rfl <;> simp [at_, cut, q, hc, hs]
          · simp only [hc, hs, decide_true, decide_false, Bool.not_true, Bool.or_false]
            refine ⟨⟨.v (.d (.int m)), ?_⟩, S ++ [y], by rw [tk, hS]; simp⟩
            unfold l_law_list_wrong_1
            rcases hT with rfl | rfl <;> simp [at_, cut, q, hc, hs]
        · simp only [hc, decide_false, Bool.not_false, Bool.true_or, if_true]
          refine ⟨.v (.d (.int m)), ?_⟩
          unfold l_law_list_wrong_1
          simp [ix, hc]) ⟨[], by simp⟩
  rw [foldE_find (p := fun i => fwBad C things (itemAt things i, i)), fw_range] at lp
  have hb : -1000000 ≤ (things.length : Int) ∧ (things.length : Int) ≤ 1000000 := by omega
  have gl := len_seq hT
  unfold s_law_list_wrong m_law_list_wrong
  rw [u_run]
  cases e : firstWrong C things with
  | none =>
    rw [e] at lp
    obtain ⟨⟨j, lp⟩, _⟩ := lp
    simp [slots, n_law_list_wrong, gl, v_rng1 hb, rng_nat]
    simp at lp
    rw [lp]
    rfl
  | some p =>
    rw [e] at lp
    obtain ⟨j, lp⟩ := lp
    simp [slots, n_law_list_wrong, gl, v_rng1 hb, rng_nat]
    simp at lp
    rw [lp]
    rfl
theorem wr_lt (o : Option Nat) (s : Sg) : ltV (.d (dWr o)) (.d (.int 0)) s = .ok (.d (.bl o.isNone)) s := by
  cases o with
  | none => rfl
  | some i =>
    have : ¬ (i : Int) < 0 := by omega
    simp [dWr, this]
theorem wr_ge (o : Option Nat) (s : Sg) : geV (.d (dWr o)) (.d (.int 0)) s = .ok (.d (.bl o.isSome)) s := by
  cases o with
  | none => rfl
  | some i =>
    have : (0 : Int) ≤ (i : Int) := by omega
    simp [dWr, this]
theorem key_good_ok {C : List Str} {d : D} (h : Odd d) (hl : ∀ xs, seqOf d = some xs → xs.length ≤ 1000) : s_law_key_good [.d d, .d (lS C)] Omq = .ok (.d (.bl (!(keyBad C d)))) Omq := by
  unfold s_law_key_good m_law_key_good keyBad isCols
  rw [u_run]
  cases e : seqOf d with
  | none => simp [slots, n_law_key_good, isi_seq h.k, e]
  | some xs =>
    have g : ∀ s : Sg, callM s_law_list_wrong [.d d, .d (lS C)] s = .ok (.d (dWr (firstWrong C xs))) s := fun s => c_call fun _ => list_wrong_ok (seqOf_iff e) (h.i xs e) (hl xs e)
    have gl := len_seq (seqOf_iff e)
    cases xs with
    | nil => simp [slots, n_law_key_good, isi_seq h.k, e, gl]
    | cons x xs =>
      have : (0 : Int) < (xs.length : Int) + 1 := by omega
      simp [slots, n_law_key_good, isi_seq h.k, e, gl, this, g, wr_lt]
theorem rule_good_ok {C : List Str} {d : D} (h : OddR d) (hl : ∀ a b xs, d = .tup [a, b] → seqOf a = some xs → xs.length ≤ 1000) : s_law_rule_good [.d d, .d (lS C)] Omq = .ok (.d (.bl (isRule C d))) Omq := by
  unfold s_law_rule_good m_law_rule_good
  rw [u_run]
  cases d with
  | tup xs =>
    match xs, h, hl with
    | [], h, _ => simp [slots, n_law_rule_good, isi_tup h.k, isRule]
    | [a], h, _ => simp [slots, n_law_rule_good, isi_tup h.k, isRule]
    | a :: b :: c :: r, h, _ =>
      have : ¬ ((r.length : Int) + 1 + 1 + 1 = 2) := by omega
      simp [slots, n_law_rule_good, isi_tup h.k, isRule, this]
    | [a, b], h, hl =>
      obtain ⟨ha, hb⟩ := h.i a b rfl
      have a0 : L2.atI [a, b] 0 = some a := rfl
      have a1 : L2.atI [a, b] 1 = some b := rfl
      cases es : seqOf a with
      | none => simp [slots, n_law_rule_good, isi_tup h.k, isRule, a0, a1, isi_seq ha.k, es, isCols]
      | some xs =>
        have g : ∀ s : Sg, callM s_law_list_wrong [.d a, .d (lS C)] s = .ok (.d (dWr (firstWrong C xs))) s := fun s => c_call fun _ => list_wrong_ok (seqOf_iff es) (ha.i xs es) (hl a b xs rfl es)
        have ic : isCols C a = (firstWrong C xs).isNone := by unfold isCols; rw [es]
        cases hc : (firstWrong C xs).isNone with
        | false => simp [slots, n_law_rule_good, isi_tup h.k, isRule, a0, a1, isi_seq ha.k, es, g, wr_lt, ic, hc]
        | true =>
          cases eb : asStr b with
          | none =>
            have : inC C b = false := by cases b <;> first | rfl | cases eb
            simp [slots, n_law_rule_good, isi_tup h.k, isRule, a0, a1, isi_seq ha.k, es, g, wr_lt, ic, hc, isi_str hb eb, this]
          | some y =>
            have : b = .str y := by cases b <;> first | (cases eb; rfl) | cases eb
            subst this
            simp [slots, n_law_rule_good, isi_tup h.k, isRule, a0, a1, isi_seq ha.k, es, g, wr_lt, ic, hc, inC]
  | _ => simp [slots, n_law_rule_good, isi_tup h.k, isRule]
end
/-! ### what is due -/
structure Pt where
  nm : D
  C : List D
  Q : List D
  U : List D
  R : List D
def pD (p : Pt) : List D := [p.nm, .lst p.C, .lst p.Q, .lst p.U, .lst p.R]
def cP (p : Pt) : Cell := .lst ((pD p).map Val.d)
def errOf (p : Pt) : Option Exc := tabErr p.nm p.C p.Q p.U p.R
def wordOf (c : Str) : Str := if c = "BadName" then "name" else if c = "BadColumn" then "column" else if c = "BadRequired" then "required" else if c = "BadKey" then "key" else "rule"
def dDue : Option Exc → D
  | none => .tup [.str "good", .int 0]
  | some e => .tup [.str (wordOf e.cls), match e.fs with
    | [] => .int 0
    | x :: _ => x.2]
/-- what lies in the parts can be looked at, and is small -/
structure Small (p : Pt) : Prop where
  o : OddT p.nm p.C p.Q p.U p.R
  c : p.C.length ≤ 1000
  q : p.Q.length ≤ 1000
  u : p.U.length ≤ 1000
  r : p.R.length ≤ 1000
  ul : ∀ d ∈ p.U, ∀ xs, seqOf d = some xs → xs.length ≤ 1000
  rl : ∀ d ∈ p.R, ∀ a b xs, d = .tup [a, b] → seqOf a = some xs → xs.length ≤ 1000
section
variable {Omq : List (Option Cell)} {p : Pt} {k : Nat}
def dS (k : Nat) (p : Pt) (j : Slot) : List Slot := [.v (.r k), j, .v (.d p.nm), .v (.d (.lst p.C)), .v (.d (.lst p.Q)), .v (.d (.lst p.U)), .v (.d (.lst p.R))]
theorem at_range {n m i : Nat} (h : (List.range n)[m]? = some i) : m = i ∧ i < n := by
  obtain ⟨h1, h2⟩ := List.getElem?_eq_some_iff.mp h
  rw [List.getElem_range] at h2
  subst h2
  exact ⟨rfl, by simpa using h1⟩
theorem due1 (h : Small p) : match (p.C.zipIdx.find? (ccBad p.C)).map (·.2) with
    | some i => ∃ s', loopS (fun x s => bnd ((Tgt.nm 1).g x s) fun _ s => l_law_due_1 s) ((List.range p.C.length).map fun (i : Nat) => Val.d (.int (i : Int))) ⟨dS k p .no, Omq⟩ = .ok (.rt (.d (dDue (some (eIx "BadColumn" i))))) ⟨s', Omq⟩
    | none => ∃ j, loopS (fun x s => bnd ((Tgt.nm 1).g x s) fun _ s => l_law_due_1 s) ((List.range p.C.length).map fun (i : Nat) => Val.d (.int (i : Int))) ⟨dS k p .no, Omq⟩ = .ok .nx ⟨dS k p j, Omq⟩ := by
  have lp := loop_EJ (f := fun i : Nat => Val.d (.int (i : Int))) (body := fun x s => bnd ((Tgt.nm 1).g x s) fun _ s => l_law_due_1 s)
    (fun (_ : Unit) (j : Slot) => ⟨dS k p j, Omq⟩) (fun _ i => if ccBad p.C (itemAt p.C i, i) then .inr i else .inl ())
    (fun (i : Nat) j => .ok (.rt (.d (dDue (some (eIx "BadColumn" i))))) ⟨dS k p j, Omq⟩) (fun _ _ => trivial) (fun i _ => ∃ S : List Str, p.C.take i = S.map D.str) (List.range p.C.length) 0 () .no
    (fun m n hm _ j ⟨S, hS⟩ => by
      rw [Nat.zero_add] at *
      obtain ⟨rfl, hl⟩ := at_range hm
      have hi : p.C[m]? = some (itemAt p.C m) := by simp [itemAt, hl]
      obtain ⟨kd, sd⟩ := h.o.c _ (List.mem_of_getElem? hi)
      generalize itemAt p.C m = d at *
      have at_ : L2.atI p.C (m : Int) = some d := by rw [G.atI_nat, hi]
      have g : ∀ s : Sg, callM s_law_good_name [.d d] s = .ok (.d (.bl (nameD d))) s := fun s => c_call fun _ => gname_ok kd sd
      have tk : p.C.take (m + 1) = p.C.take m ++ [d] := by
        rw [List.take_add_one, hi]; rfl
      have q : cutL p.C none (some (m : Int)) = S.map D.str := by rw [cut_hi _ _ (by omega)]; simpa using hS
      cases ed : asStr d with
      | none =>
        have hb : ccBad p.C (d, m) = true := by
          cases d <;> first | rfl | cases ed
        have hn : nameD d = false := by
          cases d <;> first | rfl | cases ed
        rw [hb]
        refine ⟨.v (.d (.int m)), ?_⟩
        unfold l_law_due_1 dS
        simp [at_, g, hn, eIx, dDue, wordOf]
      | some y =>
        have : d = .str y := by cases d <;> first | (cases ed; rfl) | cases ed
        subst this
        have hb : ccBad p.C (.str y, m) = (!(isName y) || decide (y ∈ S)) := by
          unfold ccBad
          simp only [hS, any_strs]
        have hn : nameD (.str y) = isName y := rfl
        rw [hb]
        cases hc : isName y with
        | true =>
          by_cases hs : y ∈ S
          · simp only [hs, decide_true, Bool.not_true, Bool.or_true, if_true]
            refine ⟨.v (.d (.int m)), ?_⟩
            unfold l_law_due_1 dS
            simp [at_, g, hn, hc, q, hs, eIx, dDue, wordOf]
          · simp only [hs, decide_false, Bool.not_true, Bool.or_false]
            refine ⟨⟨.v (.d (.int m)), ?_⟩, S ++ [y], by rw [tk, hS]; simp⟩
            unfold l_law_due_1 dS
            simp [at_, g, hn, hc, q, hs]
        | false =>
          simp only [Bool.not_false, Bool.true_or, if_true]
          refine ⟨.v (.d (.int m)), ?_⟩
          unfold l_law_due_1 dS
          simp [at_, g, hn, hc, eIx, dDue, wordOf]) ⟨[], by simp⟩
  rw [foldE_find (p := fun i => ccBad p.C (itemAt p.C i, i)), find_range] at lp
  cases e : (p.C.zipIdx.find? (ccBad p.C)).map (·.2) with
  | none => rw [e] at lp; exact lp.1
  | some i => rw [e] at lp; obtain ⟨j, lp⟩ := lp; exact ⟨_, lp⟩
theorem due2 (h : Small p) {C : List Str} (hC : p.C = C.map D.str) (j0 : Slot) : match firstBad (keyBad C) p.U with
    | some i => ∃ s', loopS (fun x s => bnd ((Tgt.nm 1).g x s) fun _ s => l_law_due_2 s) ((List.range p.U.length).map fun (i : Nat) => Val.d (.int (i : Int))) ⟨dS k p j0, Omq⟩ = .ok (.rt (.d (dDue (some (eIx "BadKey" i))))) ⟨s', Omq⟩
    | none => ∃ j, loopS (fun x s => bnd ((Tgt.nm 1).g x s) fun _ s => l_law_due_2 s) ((List.range p.U.length).map fun (i : Nat) => Val.d (.int (i : Int))) ⟨dS k p j0, Omq⟩ = .ok .nx ⟨dS k p j, Omq⟩ := by
  have lp := loop_EJ (f := fun i : Nat => Val.d (.int (i : Int))) (body := fun x s => bnd ((Tgt.nm 1).g x s) fun _ s => l_law_due_2 s)
    (fun (_ : Unit) (j : Slot) => ⟨dS k p j, Omq⟩) (fun _ i => if keyBad C (itemAt p.U i, i).1 then .inr i else .inl ())
    (fun (i : Nat) j => .ok (.rt (.d (dDue (some (eIx "BadKey" i))))) ⟨dS k p j, Omq⟩) (fun _ _ => trivial) (fun i _ => True) (List.range p.U.length) 0 () j0
    (fun m n hm _ j _ => by
      obtain ⟨rfl, hl⟩ := at_range hm
      have hi : p.U[m]? = some (itemAt p.U m) := by simp [itemAt, hl]
      have od := h.o.u _ (List.mem_of_getElem? hi)
      have sl := h.ul _ (List.mem_of_getElem? hi)
      generalize itemAt p.U m = d at *
      have at_ : L2.atI p.U (m : Int) = some d := by rw [G.atI_nat, hi]
      have g : ∀ s : Sg, callM s_law_key_good [.d d, .d (lS C)] s = .ok (.d (.bl (!(keyBad C d)))) s := fun s => c_call fun _ => key_good_ok od sl
      dsimp only
      cases hb : keyBad C d with
      | true =>
        refine ⟨.v (.d (.int m)), ?_⟩
        unfold l_law_due_2 dS
        simp [hC, at_, g, hb, eIx, dDue, wordOf]
      | false =>
        refine ⟨⟨.v (.d (.int m)), ?_⟩, trivial⟩
        unfold l_law_due_2 dS
        simp [hC, at_, g, hb]) trivial
  rw [foldE_find (p := fun i => keyBad C (itemAt p.U i, i).1), find_range (fun q => keyBad C q.1)] at lp
  unfold firstBad
  cases e : (p.U.zipIdx.find? (fun q => keyBad C q.1)).map (·.2) with
  | none => rw [e] at lp; exact lp.1
  | some i => rw [e] at lp; obtain ⟨j, lp⟩ := lp; exact ⟨_, lp⟩
theorem due3 (h : Small p) {C : List Str} (hC : p.C = C.map D.str) (j0 : Slot) : match firstBad (fun d => !(isRule C d)) p.R with
    | some i => ∃ s', loopS (fun x s => bnd ((Tgt.nm 1).g x s) fun _ s => l_law_due_3 s) ((List.range p.R.length).map fun (i : Nat) => Val.d (.int (i : Int))) ⟨dS k p j0, Omq⟩ = .ok (.rt (.d (dDue (some (eIx "BadRule" i))))) ⟨s', Omq⟩
    | none => ∃ j, loopS (fun x s => bnd ((Tgt.nm 1).g x s) fun _ s => l_law_due_3 s) ((List.range p.R.length).map fun (i : Nat) => Val.d (.int (i : Int))) ⟨dS k p j0, Omq⟩ = .ok .nx ⟨dS k p j, Omq⟩ := by
  have lp := loop_EJ (f := fun i : Nat => Val.d (.int (i : Int))) (body := fun x s => bnd ((Tgt.nm 1).g x s) fun _ s => l_law_due_3 s)
    (fun (_ : Unit) (j : Slot) => ⟨dS k p j, Omq⟩) (fun _ i => if !(isRule C (itemAt p.R i, i).1) then .inr i else .inl ())
    (fun (i : Nat) j => .ok (.rt (.d (dDue (some (eIx "BadRule" i))))) ⟨dS k p j, Omq⟩) (fun _ _ => trivial) (fun i _ => True) (List.range p.R.length) 0 () j0
    (fun m n hm _ j _ => by
      obtain ⟨rfl, hl⟩ := at_range hm
      have hi : p.R[m]? = some (itemAt p.R m) := by simp [itemAt, hl]
      have od := h.o.r _ (List.mem_of_getElem? hi)
      have sl := h.rl _ (List.mem_of_getElem? hi)
      generalize itemAt p.R m = d at *
      have at_ : L2.atI p.R (m : Int) = some d := by rw [G.atI_nat, hi]
      have g : ∀ s : Sg, callM s_law_rule_good [.d d, .d (lS C)] s = .ok (.d (.bl (isRule C d))) s := fun s => c_call fun _ => rule_good_ok od sl
      dsimp only
      cases hb : isRule C d with
      | false =>
        refine ⟨.v (.d (.int m)), ?_⟩
        unfold l_law_due_3 dS
        simp [hC, at_, g, hb, eIx, dDue, wordOf]
      | true =>
        refine ⟨⟨.v (.d (.int m)), ?_⟩, trivial⟩
        unfold l_law_due_3 dS
        simp [hC, at_, g, hb]) trivial
  rw [foldE_find (p := fun i => !(isRule C (itemAt p.R i, i).1)), find_range (fun q => !(isRule C q.1))] at lp
  unfold firstBad
  cases e : (p.R.zipIdx.find? (fun q => !(isRule C q.1))).map (·.2) with
  | none => rw [e] at lp; exact lp.1
  | some i => rw [e] at lp; obtain ⟨j, lp⟩ := lp; exact ⟨_, lp⟩
theorem due_ok (h : Small p) (hk : Omq[k]? = some (some (cP p))) : s_law_due [.r k] Omq = .ok (.d (dDue (errOf p))) Omq := by
  have ob : ∀ rhq : List Slot, obsL ⟨rhq, Omq⟩ (.r k) = some ((pD p).map Val.d) := fun rhq => by unfold obsL; simp only [hk]; rfl
  have g1 : ∀ s : Sg, callM s_law_good_name [.d p.nm] s = .ok (.d (.bl (nameD p.nm))) s := fun s => c_call fun _ => gname_ok h.o.n.1 h.o.n.2
  have l1 := due1 (Omq := Omq) (k := k) h
  have b1 : -1000000 ≤ (p.C.length : Int) ∧ (p.C.length : Int) ≤ 1000000 := by have := h.c; omega
  have b2 : -1000000 ≤ (p.U.length : Int) ∧ (p.U.length : Int) ≤ 1000000 := by have := h.u; omega
  have b3 : -1000000 ≤ (p.R.length : Int) ∧ (p.R.length : Int) ≤ 1000000 := by have := h.r; omega
  unfold s_law_due m_law_due errOf tabErr
  rw [u_run]
  cases h1 : nameD p.nm with
  | false => simp [slots, n_law_due, ob, pD, g1, h1, dDue, wordOf]
  | true =>
    simp only [Bool.true_eq_false, if_false]
    cases h2 : checkCols p.C with
    | some i =>
      dsimp only
      unfold checkCols at h2
      by_cases hz : p.C.isEmpty = true
      · rw [if_pos hz] at h2
        cases h2
        have hz' : p.C = [] := by simpa using hz
        simp [slots, n_law_due, ob, pD, g1, h1, dDue, wordOf, hz', eIx]
      · rw [if_neg hz] at h2
        have hz' : ¬ (p.C.length : Int) = 0 := by
          intro e
          apply hz
          have : p.C.length = 0 := by omega
          simpa using this
        have hz2 : ¬ p.C = [] := fun e => by rw [e] at hz'; simp at hz'
        by_cases h6 : 6 < p.C.length
        · rw [if_pos h6] at h2
          cases h2
          have h6' : (6 : Int) < (p.C.length : Int) := by omega
          simp [slots, n_law_due, ob, pD, g1, h1, dDue, wordOf, hz', hz2, h6', eIx]
        · rw [if_neg h6] at h2
          have h6' : ¬ (6 : Int) < (p.C.length : Int) := by omega
          rw [h2] at l1
          obtain ⟨s', l1⟩ := l1
          unfold dS at l1
          simp at l1
          simp [slots, n_law_due, ob, pD, g1, h1, hz', hz2, h6', v_rng1 b1, rng_nat]
          rw [l1]
          rfl
    | none =>
      dsimp only
      have cs := cc_strs h2
      unfold checkCols at h2
      by_cases hz : p.C.isEmpty = true
      · rw [if_pos hz] at h2; cases h2
      · rw [if_neg hz] at h2
        have hz' : ¬ (p.C.length : Int) = 0 := by
          intro e
          apply hz
          have : p.C.length = 0 := by omega
          simpa using this
        have hz2 : ¬ p.C = [] := fun e => by rw [e] at hz'; simp at hz'
        by_cases h6 : 6 < p.C.length
        · rw [if_pos h6] at h2; cases h2
        · rw [if_neg h6] at h2
          have h6' : ¬ (6 : Int) < (p.C.length : Int) := by omega
          rw [h2] at l1
          obtain ⟨j1, l1⟩ := l1
          generalize hC : p.C.filterMap asStr = C at cs ⊢
          have l2 := due2 (Omq := Omq) (k := k) h cs j1
          have g3 : ∀ s : Sg, callM s_law_list_wrong [.d (.lst p.Q), .d (.lst p.C)] s = .ok (.d (dWr (firstWrong C p.Q))) s := fun s => by
            rw [cs]
            exact c_call fun _ => list_wrong_ok (.inl rfl) h.o.q h.q
          unfold dS at l1
          simp at l1
          cases h3 : firstWrong C p.Q with
          | some i =>
            simp [slots, n_law_due, ob, pD, g1, h1, hz', hz2, h6', v_rng1 b1, rng_nat]
            rw [l1]
            simp [g3, h3, wr_ge]
            simp [dDue, wordOf, eIx, dWr]
          | none =>
            dsimp only
            cases h4 : firstBad (keyBad C) p.U with
            | some i =>
              rw [h4] at l2
              obtain ⟨s', l2⟩ := l2
              unfold dS at l2
              simp at l2
              simp [slots, n_law_due, ob, pD, g1, h1, hz', hz2, h6', v_rng1 b1, rng_nat]
              rw [l1]
              simp [g3, h3, wr_ge, v_rng1 b2, rng_nat]
              rw [l2]
              rfl
            | none =>
              rw [h4] at l2
              obtain ⟨j2, l2⟩ := l2
              have l3 := due3 (Omq := Omq) (k := k) h cs j2
              unfold dS at l2
              simp at l2
              dsimp only
              cases h5 : firstBad (fun d => !(isRule C d)) p.R with
              | some i =>
                rw [h5] at l3
                obtain ⟨s', l3⟩ := l3
                unfold dS at l3
                simp at l3
                simp [slots, n_law_due, ob, pD, g1, h1, hz', hz2, h6', v_rng1 b1, rng_nat]
                rw [l1]
                simp [g3, h3, wr_ge, v_rng1 b2, rng_nat]
                rw [l2]
                simp [v_rng1 b3, rng_nat]
                rw [l3]
                rfl
              | none =>
                rw [h5] at l3
                obtain ⟨j3, l3⟩ := l3
                unfold dS at l3
                simp at l3
                simp [slots, n_law_due, ob, pD, g1, h1, hz', hz2, h6', v_rng1 b1, rng_nat]
                rw [l1]
                simp [g3, h3, wr_ge, v_rng1 b2, rng_nat]
                rw [l2]
                simp [v_rng1 b3, rng_nat]
                rw [l3]
                rfl
end
/-! ### spoilings -/
def e0 : D → Bool
  | .non => true
  | .int _ => true
  | .str x => PyData.strOk x && decide (x.cps.size ≤ 1000)
  | .tup [.str x] => PyData.strOk x && decide (x.cps.size ≤ 1000)
  | _ => false
def es (xs : List D) : Bool := xs.all e0 && decide (xs.length ≤ 20)
def k1 : D → Bool
  | .lst xs => es xs
  | .tup xs => es xs
  | d => e0 d
def r1 : D → Bool
  | .lst xs => es xs
  | .tup xs => xs.all k1 && decide (xs.length ≤ 3)
  | d => e0 d
theorem e0_kind {d : D} (h : e0 d = true) : kindly d := by
  cases d with
  | dT _ => exact absurd h (by simp [e0, k1, r1])
  | ins _ _ => exact absurd h (by simp [e0, k1, r1])
  | tupB _ => exact absurd h (by simp [e0, k1, r1])
  | _ => exact ⟨rfl, fun _ e => by cases e⟩
theorem e0_short {d : D} (h : e0 d = true) : short d := fun y e => by
  subst e
  simp [e0] at h
  exact h.2
theorem k1_kind {d : D} (h : k1 d = true) : kindly d := by
  cases d with
  | dT _ => exact absurd h (by simp [e0, k1, r1])
  | ins _ _ => exact absurd h (by simp [e0, k1, r1])
  | tupB _ => exact absurd h (by simp [e0, k1, r1])
  | _ => exact ⟨rfl, fun _ e => by cases e⟩
theorem r1_kind {d : D} (h : r1 d = true) : kindly d := by
  cases d with
  | dT _ => exact absurd h (by simp [e0, k1, r1])
  | ins _ _ => exact absurd h (by simp [e0, k1, r1])
  | tupB _ => exact absurd h (by simp [e0, k1, r1])
  | _ => exact ⟨rfl, fun _ e => by cases e⟩
theorem es_mem {xs : List D} (h : es xs = true) : (∀ x ∈ xs, e0 x = true) ∧ xs.length ≤ 20 := by
  simpa [es] using h
theorem e0_k1 {d : D} (h : e0 d = true) : k1 d = true := by
  unfold e0 at h
  split at h
  · rfl
  · rfl
  · simp [k1, e0, h]
  · simp [k1, es, e0]; simpa using h
  · cases h
theorem e0_r1 {d : D} (h : e0 d = true) : r1 d = true := by
  unfold e0 at h
  split at h
  · rfl
  · rfl
  · simp [r1, e0, h]
  · simp [r1, k1, e0]; simpa using h
  · cases h
theorem k1_seq {d : D} {xs : List D} (h : k1 d = true) (e : seqOf d = some xs) : es xs = true := by
  rcases seqOf_iff e with rfl | rfl <;> exact h
theorem k1_odd {d : D} (h : k1 d = true) : Odd d := ⟨k1_kind h, fun xs e x hx => e0_kind ((es_mem (k1_seq h e)).1 x hx)⟩
theorem r1_pair {a b : D} (h : r1 (.tup [a, b]) = true) : k1 a = true ∧ k1 b = true := by
  simpa [r1] using h
theorem r1_odd {d : D} (h : r1 d = true) : OddR d := ⟨r1_kind h, fun a b e => by
  subst e
  exact ⟨k1_odd (r1_pair h).1, k1_kind (r1_pair h).2⟩⟩
structure Okp (N : Nat) (p : Pt) : Prop where
  n : e0 p.nm = true
  c : ∀ d ∈ p.C, e0 d = true
  q : ∀ d ∈ p.Q, e0 d = true
  u : ∀ d ∈ p.U, k1 d = true
  r : ∀ d ∈ p.R, r1 d = true
  cl : p.C.length ≤ N
  ql : p.Q.length ≤ N
  ul : p.U.length ≤ N
  rl : p.R.length ≤ N
theorem Okp.small {N : Nat} {p : Pt} (h : Okp N p) (hN : N ≤ 1000) : Small p where
  o := ⟨⟨e0_kind h.n, e0_short h.n⟩, fun d hd => ⟨e0_kind (h.c d hd), e0_short (h.c d hd)⟩, fun d hd => e0_kind (h.q d hd), fun d hd => k1_odd (h.u d hd), fun d hd => r1_odd (h.r d hd)⟩
  c := Nat.le_trans h.cl hN
  q := Nat.le_trans h.ql hN
  u := Nat.le_trans h.ul hN
  r := Nat.le_trans h.rl hN
  ul := fun d hd xs e => by have := (es_mem (k1_seq (h.u d hd) e)).2; omega
  rl := fun d hd a b xs e e2 => by
    have h1 := h.r d hd
    subst e
    have := (es_mem (k1_seq (r1_pair h1).1 e2)).2; omega
theorem ps_set {Omq : List (Option Cell)} {p : Pt} (hk : Omq[1]? = some (some (cP p))) {i : Nat} (hi : i < 5) {z : D} (rhq : List Slot) : setItem' (.r 1) (.d (.int (i : Int))) (.d z) ⟨rhq, Omq⟩ = .ok (.d .non) ⟨rhq, Omq.set 1 (some (.lst (((pD p).set i z).map Val.d)))⟩ := by
  have h1 : ixN ((pD p).map Val.d).length (i : Int) = some i := by
    have : (i : Int) < 5 := by omega
    unfold ixN pD; simp [this]
  unfold setItem' chgL
  unfold cP at hk
  simp only [hk, h1, List.map_set]
theorem dx_set {Omq : List (Option Cell)} {c : Cell} (d : DX 0 Omq) (hc : ∀ n, c.below n = true) : DX 0 (Omq.set 1 (some c)) := by
  refine ⟨?_, d.pl.set hc⟩
  obtain ⟨zs, i, a, b, e, r⟩ := d.dr
  exact ⟨zs, i, a, b, by rw [List.getElem?_set_ne (by omega)]; exact e, r⟩
theorem at_set {Omq : List (Option Cell)} {c c' : Cell} (hk : Omq[1]? = some (some c)) : (Omq.set 1 (some c'))[1]? = some (some c') := by
  have hl : 1 < Omq.length := (List.getElem?_eq_some_iff.mp hk).1
  simp [hl]
theorem menu8 {v : Int} (v0 : 0 ≤ v) (v1 : v < 8) : ∃ o : D, L2.atI [D.str "", .str "A", .non, .int 5, .str "toolongxx", .str "lost", .tup [.str "x"], .str "a b"] v = some o ∧ e0 o = true := by
  have : v = 0 ∨ v = 1 ∨ v = 2 ∨ v = 3 ∨ v = 4 ∨ v = 5 ∨ v = 6 ∨ v = 7 := by omega
  rcases this with rfl | rfl | rfl | rfl | rfl | rfl | rfl | rfl
  · exact ⟨_, rfl, by decide +kernel⟩
  · exact ⟨_, rfl, by decide +kernel⟩
  · exact ⟨_, rfl, by decide +kernel⟩
  · exact ⟨_, rfl, by decide +kernel⟩
  · exact ⟨_, rfl, by decide +kernel⟩
  · exact ⟨_, rfl, by decide +kernel⟩
  · exact ⟨_, rfl, by decide +kernel⟩
  · exact ⟨_, rfl, by decide +kernel⟩
theorem Okp.up {N : Nat} {p : Pt} (h : Okp N p) : Okp (N + 6) p := ⟨h.n, h.c, h.q, h.u, h.r, Nat.le_add_right_of_le h.cl, Nat.le_add_right_of_le h.ql, Nat.le_add_right_of_le h.ul, Nat.le_add_right_of_le h.rl⟩
theorem all_snoc {f : D → Bool} {xs : List D} {y : D} (h : ∀ d ∈ xs, f d = true) (hy : f y = true) : ∀ d ∈ xs ++ [y], f d = true := fun d hd => by
  rcases List.mem_append.mp hd with q | q
  · exact h d q
  · rw [List.mem_singleton.mp q]; exact hy
theorem all_app {f : D → Bool} {xs ys : List D} (h : ∀ d ∈ xs, f d = true) (h2 : ∀ d ∈ ys, f d = true) : ∀ d ∈ xs ++ ys, f d = true := fun d hd => (List.mem_append.mp hd).elim (h d) (h2 d)
theorem all_take {f : D → Bool} {xs : List D} (n : Nat) (h : ∀ d ∈ xs, f d = true) : ∀ d ∈ xs.take n, f d = true := fun d hd => h d (List.mem_of_mem_take hd)
theorem es_two {xs : List D} (h : ∀ d ∈ xs, e0 d = true) : es (xs.take 1 ++ xs.take 1) = true := by
  unfold es
  rw [Bool.and_eq_true]
  refine ⟨List.all_eq_true.mpr (all_app (all_take 1 h) (all_take 1 h)), decide_eq_true ?_⟩
  rw [List.length_append, List.length_take]; omega
theorem es_one {o : D} (h : e0 o = true) : es [o] = true := by simp [es, h]
theorem cut1 (xs : List D) : cutL xs none (some (1 : Int)) = xs.take 1 := by rw [cut_hi _ _ (by omega)]; rfl
def isLst : D → Bool
  | .lst _ => true
  | _ => false
/-- what spoil leaves -/
def SpQ (N L : Nat) (Omq : List (Option Cell)) : Prop := ∃ p, Okp (N + 6) p ∧ DX 0 Omq ∧ Omq[1]? = some (some (cP p)) ∧ Omq.length = L
def spS (v : Int) (o : D) (C : List D) (j5 j6 : Slot) : List Slot := [.v (.r 0), .v (.r 1), .v (.d (.int v)), .v (.d o), .v (.d (.lst C)), j5, j6, .no]
theorem key4 {v : Int} {o : D} {C : List D} (v0 : 0 ≤ v) (v1 : v < 6) (ho : e0 o = true) (hc : ∀ d ∈ C, e0 d = true) : ∃ z : D, L2.atI [D.lst [], .lst [o], .lst (C.take 1 ++ C.take 1), o, .non, .int 7] v = some z ∧ k1 z = true := by
  have : v = 0 ∨ v = 1 ∨ v = 2 ∨ v = 3 ∨ v = 4 ∨ v = 5 := by omega
  rcases this with rfl | rfl | rfl | rfl | rfl | rfl
  · exact ⟨_, rfl, rfl⟩
  · exact ⟨_, rfl, es_one ho⟩
  · exact ⟨_, rfl, es_two hc⟩
  · exact ⟨_, rfl, e0_k1 ho⟩
  · exact ⟨_, rfl, rfl⟩
  · exact ⟨_, rfl, rfl⟩
theorem rule5 {v : Int} {o x : D} {C : List D} (v0 : 0 ≤ v) (v1 : v < 6) (ho : e0 o = true) (hx : e0 x = true) (hc : ∀ d ∈ C, e0 d = true) :
    ∃ z : D, L2.atI [D.tup [.lst [o], x], .tup [.lst [], o], .tup [.lst (C.take 1 ++ C.take 1), .str "x"], o, .lst [.str "x"], .tup [.lst [], .str "x", .str "y"]] v = some z ∧ r1 z = true := by
  have sx : e0 (.str "x") = true := by decide +kernel
  have : v = 0 ∨ v = 1 ∨ v = 2 ∨ v = 3 ∨ v = 4 ∨ v = 5 := by omega
  rcases this with rfl | rfl | rfl | rfl | rfl | rfl
  · exact ⟨_, rfl, by simp only [r1, List.all_cons, List.all_nil, show k1 (.lst [o]) = true from es_one ho, e0_k1 hx]; rfl⟩
  · exact ⟨_, rfl, by simp [r1, e0_k1 ho, show k1 (.lst []) = true from rfl]⟩
  · exact ⟨_, rfl, by simp [r1, show k1 (.lst (C.take 1 ++ C.take 1)) = true from es_two hc, e0_k1 sx]⟩
  · exact ⟨_, rfl, e0_r1 ho⟩
  · exact ⟨_, rfl, es_one sx⟩
  · exact ⟨_, rfl, by decide +kernel⟩
section
variable {Omq : List (Option Cell)} {p : Pt} {N : Nat} {v : Int} {o : D}
theorem spoil_wp (hN : N ≤ 900) (d : DX 0 Omq) (hk : Omq[1]? = some (some (cP p))) (h : Okp N p) : ∃ x Omq', s_law_spoil [.r 0, .r 1] Omq = .ok x Omq' ∧ (x = .r 1 ∧ SpQ N Omq.length Omq') := by
  unfold s_law_spoil m_law_spoil
  refine wp_def ?_
  refine wp_G (fun f s => f = .rt (.r 1) ∧ SpQ N Omq.length s.Omq) (fun G hG => ?_) (fun f s ⟨h1, h2⟩ => ⟨_, h1, rfl, h2⟩)
  have ixC : ∀ (Omq : List (Option Cell)), Omq[1]? = some (some (cP p)) → ∀ (i : Int) (rhq : List Slot), ixV (.r 1) (.d (.int i)) ⟨rhq, Omq⟩ = (match L2.atI ((pD p).map Val.d) i with
      | some z => .ok z ⟨rhq, Omq⟩
      | none => .stuck) := fun Omq hk i rhq => v_ixr hk
  have a1 : L2.atI ((pD p).map Val.d) 1 = some (.d (.lst p.C)) := rfl
  have a2 : L2.atI ((pD p).map Val.d) 2 = some (.d (.lst p.Q)) := rfl
  have a3 : L2.atI ((pD p).map Val.d) 3 = some (.d (.lst p.U)) := rfl
  have a4 : L2.atI ((pD p).map Val.d) 4 = some (.d (.lst p.R)) := rfl
  have cl := h.cl
  have ql := h.ql
  have ul := h.ul
  have rl := h.rl
  have capE : cap = 1000000 := rfl
  have h6 := h.up
  have same : ∀ Omq' : List (Option Cell), DX 0 Omq' → Omq'[1]? = some (some (cP p)) → Omq'.length = Omq.length → SpQ N Omq.length Omq' := fun Omq d hk hl => ⟨p, h6, d, hk, hl⟩
  have put : ∀ (Omq' : List (Option Cell)) (p' : Pt), DX 0 Omq' → Omq'[1]? = some (some (cP p)) → Omq'.length = Omq.length → Okp (N + 6) p' → SpQ N Omq.length (Omq'.set 1 (some (cP p'))) := fun Omq p' d hk hl h' => ⟨p', h', dx_set d fun n => below_lst (pD p') n, at_set hk, by rw [List.length_set]; exact hl⟩
  simp [slots, n_law_spoil]
  refine wp_draw d (by omega) (by omega) fun v Omq1 v0 v1 d1 e1 => ?_
  have k1' : Omq1[1]? = some (some (cP p)) := by rw [e1.at_ 1 (by omega)]; exact hk
  simp
  refine wp_draw d1 (by omega) (by omega) fun u Omq2 u0 u1 d2 e2 => ?_
  have k2' : Omq2[1]? = some (some (cP p)) := by rw [e2.at_ 1 (by omega)]; exact k1'
  have l2' : Omq2.length = Omq.length := e2.len.trans e1.len
  obtain ⟨o, ho, eo⟩ := menu8 u0 u1
  simp [ho, ixC Omq2 k2', a1]
  have hv : v = 0 ∨ v = 1 ∨ v = 2 ∨ v = 3 ∨ v = 4 ∨ v = 5 ∨ v = 6 ∨ v = 7 := by omega
  rcases hv with rfl | rfl | rfl | rfl | rfl | rfl | rfl | rfl
  · have e := fun rhq => ps_set (i := 0) (z := o) k2' (by omega) rhq
    simp at e
    simp [e]
    exact hG _ _ ⟨rfl, put Omq2 { p with nm := o } d2 k2' l2' ⟨eo, h6.c, h6.q, h6.u, h6.r, h6.cl, h6.ql, h6.ul, h6.rl⟩⟩
  · have b1 : p.C.length ≤ 999994 := by omega
    have b2 : p.C.length ≤ 999999 := by omega
    have b3 : p.C.length + min 1 p.C.length ≤ 1000000 := by omega
    simp [cut1, b1, b2, b3]
    refine wp_draw d2 (by omega) (by omega) fun w Omq3 w0 w1 d3 e3 => ?_
    have k3' : Omq3[1]? = some (some (cP p)) := by rw [e3.at_ 1 (by omega)]; exact k2'
    have l3' : Omq3.length = Omq.length := e3.len.trans l2'
    obtain ⟨X, hX, oX, lX⟩ : ∃ X : List D, L2.atI [D.lst [], .lst (p.C ++ [.str "p", .str "q", .str "r", .str "s", .str "t", .str "u"]), .lst (p.C ++ [o]), .lst (p.C ++ p.C.take 1)] w = some (.lst X) ∧ (∀ d ∈ X, e0 d = true) ∧ X.length ≤ N + 6 := by
      have : w = 0 ∨ w = 1 ∨ w = 2 ∨ w = 3 := by omega
      rcases this with rfl | rfl | rfl | rfl
      · exact ⟨_, rfl, (fun _ z => by cases z), by simp⟩
      · refine ⟨_, rfl, all_app h.c fun d hd => ?_, by simp; omega⟩
        have : ([.str "p", .str "q", .str "r", .str "s", .str "t", .str "u"] : List D).all e0 = true := by decide +kernel
        exact List.all_eq_true.mp this d hd
      · exact ⟨_, rfl, all_snoc h.c eo, by simp; omega⟩
      · exact ⟨_, rfl, all_app h.c (all_take 1 h.c), by rw [List.length_append, List.length_take]; omega⟩
    have e := fun rhq => ps_set (i := 1) (z := .lst X) k3' (by omega) rhq
    simp at e
    simp [cut1, hX, e]
    exact hG _ _ ⟨rfl, put Omq3 { p with C := X } d3 k3' l3' ⟨h6.n, oX, h6.q, h6.u, h6.r, lX, h6.ql, h6.ul, h6.rl⟩⟩
  · have b1 : p.Q.length ≤ 999999 := by omega
    have e := fun rhq => ps_set (i := 2) (z := .lst (p.Q ++ [o])) k2' (by omega) rhq
    simp at e
    simp [ixC Omq2 k2', a2, b1, e]
    exact hG _ _ ⟨rfl, put Omq2 { p with Q := p.Q ++ [o] } d2 k2' l2' ⟨h6.n, h6.c, all_snoc h.q eo, h6.u, h6.r, h6.cl, by simp; omega, h6.ul, h6.rl⟩⟩
  · have b1 : p.Q.length + min 1 p.C.length ≤ 1000000 := by omega
    have e := fun rhq => ps_set (i := 2) (z := .lst (p.Q ++ p.C.take 1)) k2' (by omega) rhq
    simp at e
    simp [ixC Omq2 k2', a2, cut1, b1, e]
    exact hG _ _ ⟨rfl, put Omq2 { p with Q := p.Q ++ p.C.take 1 } d2 k2' l2' ⟨h6.n, h6.c, all_app h.q (all_take 1 h.c), h6.u, h6.r, h6.cl, by simp; omega, h6.ul, h6.rl⟩⟩
  · have b1 : p.U.length ≤ 999999 := by omega
    have b2 : min 1 p.C.length + min 1 p.C.length ≤ 1000000 := by omega
    simp [ixC Omq2 k2', a3, cut1, b2]
    refine wp_draw d2 (by omega) (by omega) fun w Omq3 w0 w1 d3 e3 => ?_
    have k3' : Omq3[1]? = some (some (cP p)) := by rw [e3.at_ 1 (by omega)]; exact k2'
    have l3' : Omq3.length = Omq.length := e3.len.trans l2'
    obtain ⟨z, hz, oz⟩ := key4 w0 w1 eo h.c
    have e := fun rhq => ps_set (i := 3) (z := .lst (p.U ++ [z])) k3' (by omega) rhq
    simp at e
    simp [cut1, hz, b1, e]
    exact hG _ _ ⟨rfl, put Omq3 { p with U := p.U ++ [z] } d3 k3' l3' ⟨h6.n, h6.c, h6.q, all_snoc h.u oz, h6.r, h6.cl, h6.ql, by simp; omega, h6.rl⟩⟩
  · have b1 : p.R.length ≤ 999999 := by omega
    have b2 : min 1 p.C.length + min 1 p.C.length ≤ 1000000 := by omega
    have b3 : p.C.length ≤ 999999 := by omega
    obtain ⟨x, hx, ox⟩ : ∃ x : D, L2.atI (p.C ++ [.str "x"]) 0 = some x ∧ e0 x = true := by
      have hl := all_snoc (f := e0) (y := .str "x") h.c (by decide +kernel)
      cases hc : p.C with
      | nil => exact ⟨_, rfl, by decide +kernel⟩
      | cons y ys => exact ⟨y, (_root_.G.atI_nat (l := y :: ys ++ [D.str "x"]) (n := 0)).trans rfl, h.c y (by rw [hc]; simp)⟩
    simp [ixC Omq2 k2', a4, cut1, b2, b3, hx]
    refine wp_draw d2 (by omega) (by omega) fun w Omq3 w0 w1 d3 e3 => ?_
    have k3' : Omq3[1]? = some (some (cP p)) := by rw [e3.at_ 1 (by omega)]; exact k2'
    have l3' : Omq3.length = Omq.length := e3.len.trans l2'
    obtain ⟨z, hz, oz⟩ := rule5 w0 w1 eo ox h.c
    have e := fun rhq => ps_set (i := 4) (z := .lst (p.R ++ [z])) k3' (by omega) rhq
    simp at e
    simp [cut1, hz, b1, e]
    exact hG _ _ ⟨rfl, put Omq3 { p with R := p.R ++ [z] } d3 k3' l3' ⟨h6.n, h6.c, h6.q, h6.u, all_snoc h.r oz, h6.cl, h6.ql, h6.ul, by simp; omega⟩⟩
  · have cm : ∀ (rhq : List Slot), noAcc rhq [7] = true → 7 < rhq.length → compZ 7 (M.bind (M.bind (rd 7) (isiV fun k => isK k .lst)) truV) (M.bind (consA (rd 7) (M.pure [])) tupleF) (p.U.map Val.d) ⟨rhq, Omq2⟩ = .ok (.d (.lst ((p.U.filter isLst).map toTup))) ⟨rhq, Omq2⟩ := fun rhq ha hl => by
      refine comp_one (mi := M.pure (p.U.map Val.d)) (enc := Val.d) isLst toTup rfl ha (fun x hx => ?_) (fun x hx hp => ?_)
      · have kd := k1_kind (h.u x hx)
        simp [hl]
        cases x with
        | dT _ => exact absurd (h.u _ hx) (by simp [k1, e0])
        | ins _ _ => exact absurd (h.u _ hx) (by simp [k1, e0])
        | tupB _ => exact absurd (h.u _ hx) (by simp [k1, e0])
        | _ => rfl
      · cases x with
        | lst xs => simp [hl, toTup, seqOf]
        | _ => cases hp
    have e := fun rhq => ps_set (i := 3) (z := .lst ((p.U.filter isLst).map toTup)) k2' (by omega) rhq
    simp at e
    simp [-compZ_map, ixC Omq2 k2', a3, cm, e]
    refine hG _ _ ⟨rfl, put Omq2 { p with U := (p.U.filter isLst).map toTup } d2 k2' l2' ⟨h6.n, h6.c, h6.q, fun d hd => ?_, h6.r, h6.cl, h6.ql, ?_, h6.rl⟩⟩
    · obtain ⟨x, hx, rfl⟩ := List.mem_map.mp hd
      obtain ⟨hx, hp⟩ := List.mem_filter.mp hx
      cases x with
      | lst xs => exact (show k1 (.lst xs) = true from h.u _ hx)
      | _ => cases hp
    · rw [List.length_map]
      have := List.length_filter_le isLst p.U
      omega
  · simp
    exact hG _ _ ⟨rfl, same Omq2 d2 k2' l2'⟩
end
/-! ### plain, without lists, small enough -/
theorem e0_cases {d : D} (h : e0 d = true) : d = .non ∨ (∃ i, d = .int i) ∨ (∃ x, d = .str x ∧ PyData.strOk x = true) ∨ ∃ x, d = .tup [.str x] ∧ PyData.strOk x = true := by
  unfold e0 at h
  split at h
  · exact .inl rfl
  · exact .inr (.inl ⟨_, rfl⟩)
  · rw [Bool.and_eq_true] at h; exact .inr (.inr (.inl ⟨_, rfl, h.1⟩))
  · rw [Bool.and_eq_true] at h; exact .inr (.inr (.inr ⟨_, rfl, h.1⟩))
  · cases h
theorem e0_plain {d : D} (h : e0 d = true) (n : Nat) : d.plain (n + 1) = true := by
  rcases e0_cases h with rfl | ⟨_, rfl⟩ | ⟨_, rfl, q⟩ | ⟨_, rfl, q⟩
  · rfl
  · rfl
  · simpa [D.plain] using q
  · simp [D.plain, plainL, q]
theorem e0_noL {d : D} (h : e0 d = true) : noL d = true := by
  rcases e0_cases h with rfl | ⟨_, rfl⟩ | ⟨_, rfl, q⟩ | ⟨_, rfl, q⟩ <;> simp [noL, noLs]
theorem e0_ok {d : D} (h : e0 d = true) (n : Nat) : okD (n + 1) d = true := by
  rcases e0_cases h with rfl | ⟨_, rfl⟩ | ⟨_, rfl, q⟩ | ⟨_, rfl, q⟩ <;> simp [okD, okL]
theorem plain_all {n : Nat} : ∀ {xs : List D}, (∀ d ∈ xs, d.plain n = true) → plainL n xs = true
  | [], _ => rfl
  | x :: xs, h => by
    simp only [plainL, h x List.mem_cons_self, plain_all fun d hd => h d (List.mem_cons_of_mem _ hd), Bool.and_self]
theorem noL_all : ∀ {xs : List D}, (∀ d ∈ xs, noL d = true) → noLs xs = true
  | [], _ => rfl
  | x :: xs, h => by
    simp only [noLs, h x List.mem_cons_self, noL_all fun d hd => h d (List.mem_cons_of_mem _ hd), Bool.and_self]
theorem ok_all {n : Nat} : ∀ {xs : List D}, (∀ d ∈ xs, okD n d = true) → okL n xs = true
  | [], _ => rfl
  | x :: xs, h => by
    simp only [okL, h x List.mem_cons_self, ok_all fun d hd => h d (List.mem_cons_of_mem _ hd), Bool.and_self]
theorem k1_cases {d : D} (h : k1 d = true) : (∃ xs, (d = .lst xs ∨ d = .tup xs) ∧ es xs = true) ∨ (e0 d = true ∧ seqOf d = none) := by
  cases d with
  | lst xs => exact .inl ⟨xs, .inl rfl, h⟩
  | tup xs => exact .inl ⟨xs, .inr rfl, h⟩
  | _ => exact .inr ⟨h, rfl⟩
theorem k1_plain {d : D} (h : k1 d = true) (n : Nat) : d.plain (n + 2) = true := by
  rcases k1_cases h with ⟨xs, hd, hx⟩ | ⟨h, _⟩
  · have := plain_all fun x q => e0_plain ((es_mem hx).1 x q) n
    rcases hd with rfl | rfl <;> simpa [D.plain] using this
  · exact e0_plain h (n + 1)
theorem toTup_of {d : D} (h : k1 d = true) : (∃ xs, toTup d = .tup xs ∧ es xs = true) ∨ (toTup d = d ∧ e0 d = true) := by
  rcases k1_cases h with ⟨xs, hd, hx⟩ | ⟨h, q⟩
  · rcases hd with rfl | rfl <;> exact .inl ⟨xs, rfl, hx⟩
  · exact .inr ⟨by unfold toTup; rw [q], h⟩
theorem k1_noL {d : D} (h : k1 d = true) : noL (toTup d) = true := by
  rcases toTup_of h with ⟨xs, e, hx⟩ | ⟨e, h⟩
  · rw [e]
    have := noL_all fun x q => e0_noL ((es_mem hx).1 x q)
    simpa [noL] using this
  · rw [e]; exact e0_noL h
theorem k1_ok {d : D} (h : k1 d = true) (n : Nat) : okD (n + 2) (toTup d) = true := by
  rcases toTup_of h with ⟨xs, e, hx⟩ | ⟨e, h⟩
  · rw [e]
    have := ok_all fun x q => e0_ok ((es_mem hx).1 x q) n
    have l := (es_mem hx).2
    simp only [okD, this, Bool.true_and, decide_eq_true_eq]
    omega
  · rw [e]; exact e0_ok h (n + 1)
theorem r1_plain {d : D} (h : r1 d = true) (n : Nat) : d.plain (n + 3) = true := by
  cases d with
  | lst xs =>
    have := plain_all fun x q => e0_plain ((es_mem (show es xs = true from h)).1 x q) (n + 1)
    simpa [D.plain] using this
  | tup xs =>
    have h : (∀ x ∈ xs, k1 x = true) ∧ xs.length ≤ 3 := by simpa [r1] using h
    have := plain_all fun x q => k1_plain (h.1 x q) n
    simpa [D.plain] using this
  | _ => exact e0_plain (by exact h) (n + 2)
theorem pD_plain {N : Nat} {p : Pt} (h : Okp N p) : (D.lst (pD p)).plain 60 = true := by
  have c := plain_all fun x q => e0_plain (h.c x q) 57
  have q := plain_all fun x q => e0_plain (h.q x q) 57
  have u := plain_all fun x q => k1_plain (h.u x q) 56
  have r := plain_all fun x q => r1_plain (h.r x q) 55
  simp only [D.plain, pD, plainL, e0_plain h.n 58, c, q, u, r, Bool.and_self]
/-- a table that is made -/
structure Made (p : Pt) (C : List Str) : Prop where
  c : p.C = C.map D.str
  nm : nameD p.nm = true
  q : firstWrong C p.Q = none
  u : ∀ d ∈ p.U, keyBad C d = false
  r : ∀ d ∈ p.R, isRule C d = true
theorem made_of {p : Pt} (h : errOf p = none) : ∃ C, Made p C := by
  unfold errOf tabErr at h
  split at h
  · cases h
  · next h1 =>
    split at h
    · cases h
    · next h2 =>
      split at h
      · cases h
      · next h3 =>
        split at h
        · cases h
        · next h4 =>
          refine ⟨p.C.filterMap asStr, cc_strs h2, by simpa using h1, h3, fb_none h4, fun d hd => ?_⟩
          have := fb_none (Option.map_eq_none_iff.mp h) d hd
          simpa using this
theorem made_noL {N : Nat} {p : Pt} (h : Okp N p) {C : List Str} (m : Made p C) : noL (.ins "Table" (insT p.nm p.C p.Q p.U p.R)) = true := by
  have c := noL_all fun x q => e0_noL (h.c x q)
  have q := noL_all fun x q => e0_noL (h.q x q)
  have u : noLs (p.U.map toTup) = true := noL_all fun x q => by
    obtain ⟨y, hy, rfl⟩ := List.mem_map.mp q
    exact k1_noL (h.u y hy)
  have r : noLs (p.R.map toRule) = true := noL_all fun x q => by
    obtain ⟨y, hy, rfl⟩ := List.mem_map.mp q
    have hr := h.r y hy
    have hi := m.r y hy
    obtain ⟨a, b, xs, rfl, _⟩ := rule_good hi
    have hk := r1_pair hr
    have hb : ∃ z, b = .str z := by
      unfold isRule at hi
      cases b <;> first | exact ⟨_, rfl⟩ | simp [inC] at hi
    obtain ⟨z, rfl⟩ := hb
    simp only [toRule, noL, noLs, k1_noL hk.1, Bool.and_self]
  unfold insT
  simp only [noL, noLf, e0_noL h.n, c, q, u, r, Bool.and_self]
theorem eIx_noL (c : Str) (i : Nat) : noLf (eIx c i).fs = true := rfl
theorem err_cases {p : Pt} {e : Exc} (h : errOf p = some e) : e = ⟨"BadName", []⟩ ∨ (∃ i, e = eIx "BadColumn" i) ∨ (∃ i, e = eIx "BadRequired" i) ∨ (∃ i, e = eIx "BadKey" i) ∨ ∃ i, e = eIx "BadRule" i := by
  unfold errOf tabErr at h
  split at h
  · cases h; exact .inl rfl
  · split at h
    · cases h; exact .inr (.inl ⟨_, rfl⟩)
    · split at h
      · cases h; exact .inr (.inr (.inl ⟨_, rfl⟩))
      · split at h
        · cases h; exact .inr (.inr (.inr (.inl ⟨_, rfl⟩)))
        · obtain ⟨i, _, rfl⟩ := Option.map_eq_some_iff.mp h
          exact .inr (.inr (.inr (.inr ⟨i, rfl⟩)))
theorem nd_len : ∀ {S C : List Str}, S.Nodup → S ⊆ C → S.length ≤ C.length
  | [], _, _, _ => Nat.zero_le _
  | x :: S, C, nd, sub => by
    have hx : x ∈ C := sub List.mem_cons_self
    have nd := List.nodup_cons.mp nd
    have := nd_len (S := S) (C := C.erase x) nd.2 fun y hy => by
      have hne : y ≠ x := fun e => nd.1 (e ▸ hy)
      exact (List.mem_erase_of_ne hne).mpr (sub (List.mem_cons_of_mem _ hy))
    rw [List.length_erase_of_mem hx] at this
    have := List.length_pos_of_mem hx
    simp only [List.length_cons]
    omega
def ptOf (t : Tab) : Pt := ⟨.str t.nm, t.C.map D.str, t.Mu.map D.str, t.U.map dK, t.R.map dR⟩
theorem menu_e0 : ∀ c ∈ menuC, e0 (.str c) = true := by decide +kernel
theorem strs_e0 {S : List Str} (h : S ⊆ menuC) : ∀ d ∈ S.map D.str, e0 d = true := fun d hd => by
  obtain ⟨c, hc, rfl⟩ := List.mem_map.mp hd
  exact menu_e0 c (h hc)
theorem strs_es {S : List Str} (h : S ⊆ menuC) (hl : S.length ≤ 20) : es (S.map D.str) = true := by
  unfold es
  rw [Bool.and_eq_true]
  exact ⟨List.all_eq_true.mpr (strs_e0 h), by simpa using hl⟩
theorem good_okp {t : Tab} (g : Good 4 t) (hn : t.nm = "a") : Okp 4 (ptOf t) := by
  have c1 := g.c1
  have ml := nd_len g.mnd g.msub
  refine ⟨?_, strs_e0 g.csub, strs_e0 fun x h => g.csub (g.msub h), fun d hd => ?_, fun d hd => ?_, ?_, ?_, ?_, ?_⟩
  · show e0 (.str t.nm) = true
    rw [hn]; decide +kernel
  · obtain ⟨k, hk, rfl⟩ := List.mem_map.mp hd
    obtain ⟨k1, k2, k3⟩ := g.u k hk
    have := nd_len k1 k2
    exact strs_es (fun x h => g.csub (k2 h)) (by omega)
  · obtain ⟨r, hr, rfl⟩ := List.mem_map.mp hd
    obtain ⟨r1', r2, r3⟩ := g.r r hr
    have := nd_len r1' r2
    have e1 : k1 (.lst (r.1.map D.str)) = true := strs_es (fun x h => g.csub (r2 h)) (by omega)
    have e2 : k1 (.str r.2) = true := e0_k1 (menu_e0 _ (g.csub r3))
    show r1 (.tup [.lst (r.1.map D.str), .str r.2]) = true
    simp only [r1, List.all_cons, List.all_nil, e1, e2]; rfl
  · show (t.C.map D.str).length ≤ 4
    rw [List.length_map]; omega
  · show (t.Mu.map D.str).length ≤ 4
    rw [List.length_map]; omega
  · show (t.U.map dK).length ≤ 4
    rw [List.length_map]; have := g.ul; omega
  · show (t.R.map dR).length ≤ 4
    rw [List.length_map]; have := g.rl; omega
/-! ### Table(..) of the passed lists -/
def mk : M Val := (makeK "Table" 2 3 s_Table_init (consA (fzM (op2 ixV (rd 5) (lit (.int 0)))) (consA (fzM (op2 ixV (rd 5) (lit (.int 1)))) (M.pure []))) (consA (fzM (op2 ixV (rd 5) (lit (.int 2)))) (consA (fzM (op2 ixV (rd 5) (lit (.int 3)))) (consA (fzM (op2 ixV (rd 5) (lit (.int 4)))) (M.pure [])))))
theorem mk_run {T : Sg} {p : Pt} (ht : T.rhq[5]? = some (.v (.d (.lst (pD p))))) (pl : Pl T.Omq) (h : Small p) : mk T = match errOf p with
      | some e => .exc e T
      | none => .ok (.d (.ins "Table" (insT p.nm p.C p.Q p.U p.R))) T := by
  have mkE := mk_table (s := T) pl h.o (Q := .lst p.Q) (U := .lst p.U) (R := .lst p.R) (.inl rfl) (.inl rfl) (.inl rfl)
  have r5 : rd 5 T = .ok (.d (.lst (pD p))) T := by rw [u_rd, ht]
  have a0 : L2.atI (pD p) 0 = some p.nm := rfl
  have a1 : L2.atI (pD p) 1 = some (.lst p.C) := rfl
  have a2 : L2.atI (pD p) 2 = some (.lst p.Q) := rfl
  have a3 : L2.atI (pD p) 3 = some (.lst p.U) := rfl
  have a4 : L2.atI (pD p) 4 = some (.lst p.R) := rfl
  unfold mk
  generalize hF : mkF "Table" s_Table_init = F at mkE
  have uk : ∀ (mr mk : M (List Val)) (s : Sg), makeK "Table" 2 3 s_Table_init mr mk s = bnd (mr s) fun xs s => bnd (mk s) fun ys s => if xs.length = 2 ∧ ys.length = 3 then F (xs ++ ys) s else .stuck := fun mr mk s => by rw [u_makeK, hF]
  generalize makeK "Table" 2 3 s_Table_init = Mk at uk ⊢
  have e1 : (consA (fzM (op2 ixV (rd 5) (lit (.int 0)))) (consA (fzM (op2 ixV (rd 5) (lit (.int 1)))) (M.pure []))) T = .ok [.d p.nm, .d (.lst p.C)] T := by
    simp only [u_consA, u_fzM, u_op2, r5, bnd_ok, u_lit, v_ixl, a0, a1, u_fzD, u_pure]
  have e2 : (consA (fzM (op2 ixV (rd 5) (lit (.int 2)))) (consA (fzM (op2 ixV (rd 5) (lit (.int 3)))) (consA (fzM (op2 ixV (rd 5) (lit (.int 4)))) (M.pure [])))) T = .ok [.d (.lst p.Q), .d (.lst p.U), .d (.lst p.R)] T := by
    simp only [u_consA, u_fzM, u_op2, r5, bnd_ok, u_lit, v_ixl, a2, a3, a4, u_fzD, u_pure]
  rw [uk, e1, bnd_ok, e2, bnd_ok, if_pos ⟨rfl, rfl⟩]
  exact mkE
theorem melt_run {s : Sg} {p : Pt} {N : Nat} (hN : N ≤ 1000) (h : Okp N p) (hl : 5 < s.rhq.length) (hd : mltD s 5 = some (.lst (pD p))) : mltM 5 mk s = match errOf p with
      | some e => .exc e s
      | none => .ok (.d (.ins "Table" (insT p.nm p.C p.Q p.U p.R))) s := by
  have ht : (hid s 5 (.lst (pD p))).rhq[5]? = some (.v (.d (.lst (pD p)))) := by simp [hid, hl]
  have pl : Pl (hid s 5 (.lst (pD p))).Omq := fun n => by
    unfold belowOmq
    rw [List.all_eq_true]
    intro o ho
    simp only [hid, List.mem_map] at ho
    obtain ⟨_, _, rfl⟩ := ho
    rfl
  have r := mk_run ht pl (h.small hN)
  unfold mltM
  rw [hd]
  dsimp only
  rw [r]
  cases e : errOf p with
  | some x =>
    have hx : noLf x.fs = true := by
      rcases err_cases e with rfl | ⟨i, rfl⟩ | ⟨i, rfl⟩ | ⟨i, rfl⟩ | ⟨i, rfl⟩ <;> rfl
    dsimp only
    rw [if_pos ⟨rfl, hx⟩]
  | none =>
    obtain ⟨C, m⟩ := made_of e
    dsimp only
    rw [if_pos ⟨rfl, made_noL h m⟩]
/-! ### the law -/
theorem begin_ok (ns : List Int) : s_law_begin [.d (.lst (ns.map D.int))] [] = .ok (.r 0) [some (drC ns 0 0 7)] := by
  unfold s_law_begin m_law_begin
  rw [u_run]
  simp [slots, n_law_begin, drC]
theorem dx_begin (ns : List Int) : DX 0 [some (drC ns 0 0 7)] := ⟨⟨ns, 0, 0, 7, rfl, by omega, by omega, by omega, by omega⟩, fun n => rfl⟩
def lR (ns : List Int) (j3 j4 j5 j6 j7 j8 j9 j10 : Slot) : List Slot := [.v (.d (.lst (ns.map D.int))), .v (.r 0), .v (.r 1), j3, j4, j5, j6, j7, j8, j9, j10, .no, .no]
def cellsP (p : Pt) : List (Option Cell) := [some (.lst (p.C.map Val.d)), some (.lst (p.U.map Val.d)), some (.lst [.d p.nm, .r 2, .d (.lst p.Q), .r 3, .d (.lst p.R)])]
theorem good_word (e : Exc) : ¬ wordOf e.cls = "good" := by
  unfold wordOf
  repeat' split
  all_goals decide +kernel
theorem due_plain {p : Pt} : (dDue (errOf p)).plain 60 = true := by
  cases h : errOf p with
  | none => decide +kernel
  | some e =>
    have w : PyData.strOk (wordOf e.cls) = true := by
      unfold wordOf
      repeat' split
      all_goals decide +kernel
    rcases err_cases h with rfl | ⟨i, rfl⟩ | ⟨i, rfl⟩ | ⟨i, rfl⟩ | ⟨i, rfl⟩ <;> first | (simp [dDue, D.plain, plainL, w]; done) | (simp [dDue, D.plain, plainL, eIx]; exact w)
section
variable {Omq : List (Option Cell)} {p : Pt} {ns : List Int}
theorem at4 (hl : Omq.length = 2) : (Omq ++ cellsP p)[2]? = some (some (.lst (p.C.map Val.d))) ∧ (Omq ++ cellsP p)[3]? = some (some (.lst (p.U.map Val.d))) ∧ (Omq ++ cellsP p)[4]? = some (some (.lst [.d p.nm, .r 2, .d (.lst p.Q), .r 3, .d (.lst p.R)])) := by
  refine ⟨?_, ?_, ?_⟩ <;> rw [List.getElem?_append_right (by omega), hl] <;> rfl
theorem mlt4 (hl : Omq.length = 2) {rhq : List Slot} (h5 : rhq[5]? = some (.v (.r 4))) : mltD ⟨rhq, Omq ++ cellsP p⟩ 5 = some (.lst (pD p)) := by
  obtain ⟨c2, c3, c4⟩ := at4 (p := p) hl
  unfold mltD
  simp only [h5, c4, optAll, mltV, c2, c3, allD_map, Option.map_some]
  rfl
/-- the lists stand there -/
structure Four (Omq : List (Option Cell)) (p : Pt) : Prop where
  c1 : Omq[1]? = some (some (cP p))
  c2 : Omq[2]? = some (some (.lst (p.C.map Val.d)))
  c3 : Omq[3]? = some (some (.lst (p.U.map Val.d)))
  c4 : Omq[4]? = some (some (.lst [.d p.nm, .r 2, .d (.lst p.Q), .r 3, .d (.lst p.R)]))
theorem four_of (hl : Omq.length = 2) (hk : Omq[1]? = some (some (cP p))) : Four (Omq ++ cellsP p) p := by
  obtain ⟨c2, c3, c4⟩ := at4 (p := p) hl
  exact ⟨by rw [List.getElem?_append_left (by omega)]; exact hk, c2, c3, c4⟩
theorem Four.app (h : Four Omq p) (Y : List (Option Cell)) : Four (Omq ++ Y) p := by
  have l : 4 < Omq.length := (List.getElem?_eq_some_iff.mp h.c4).1
  exact ⟨by rw [List.getElem?_append_left (by omega)]; exact h.c1, by rw [List.getElem?_append_left (by omega)]; exact h.c2, by rw [List.getElem?_append_left (by omega)]; exact h.c3, by rw [List.getElem?_append_left (by omega)]; exact h.c4⟩
theorem dd4 (h : Four Omq p) {rhq : List Slot} : (Val.r 4).dd ⟨rhq, Omq⟩ 3 = some (.lst (pD p)) := by
  have oall : ∀ (xs : List D) (s : Sg) (k : Nat), optAll (Val.dd s k) (xs.map Val.d) = some xs := by
    intro xs s k
    induction xs with
    | nil => rfl
    | cons x xs ih =>
      have e : Val.dd s k (.d x) = some x := by cases k <;> rfl
      simp only [List.map_cons, optAll, e, ih]
  simp only [Val.dd, obsL, h.c4, optAll, h.c2, h.c3, oall, Option.map_some]
  rfl
theorem dd1 (h : Four Omq p) {rhq : List Slot} : (Val.r 1).dd ⟨rhq, Omq⟩ 3 = some (.lst (pD p)) := by
  have c1 := h.c1
  unfold cP pD at c1
  simp only [Val.dd, obsL, c1, List.map_cons, List.map_nil, optAll, Option.map_some]
  rfl
theorem eq41 {N : Nat} (h : Four Omq p) (ok : Okp N p) (rhq : List Slot) : eqvV true (.r 4) (.r 1) ⟨rhq, Omq⟩ = .ok (.d (.bl false)) ⟨rhq, Omq⟩ := by
  have e := v_eqself (neg := true) (s := ⟨rhq, Omq⟩) (pD_plain ok)
  unfold eqvV at e ⊢
  rw [dd4 h, dd1 h]
  exact e
end
theorem law_plain (ns : List Int) (hns : ns.length ≤ 63) : ∃ Omq, s_law [.d (.lst (ns.map D.int))] [] = .ok (.d (.bl true)) Omq := by
  have key : ∃ x Omq, s_law [.d (.lst (ns.map D.int))] [] = .ok x Omq ∧ x = .d (.bl true) := by
    unfold s_law m_law
    refine wp_def ?_
    refine wp_seqE (s1 := ⟨[.v (.d (.lst (ns.map D.int))), .v (.r 0), .no, .no, .no, .no, .no, .no, .no, .no, .no, .no, .no], [some (drC ns 0 0 7)]⟩) (by simp [slots, n_law, u_callM (begin_ok ns)]) ?_
    refine wp_seqP (fun s => ∃ (p : Pt) (Omq1 : List (Option Cell)), s = ⟨lR ns .no .no .no .no .no .no .no .no, Omq1⟩ ∧ Okp 4 p ∧ DX 0 Omq1 ∧ Omq1[1]? = some (some (cP p)) ∧ Omq1.length = 2) (fun G hG => ?_) ?_
    · simp
      refine wp_call _ (parts_wp (nm := "a") (most := 4) (dx_begin ns) (by omega) (by omega)) fun x Omq' q => ?_
      obtain ⟨t, Omq1, hn, g, d, e, rfl, rfl⟩ := q
      have hl : Omq1.length = 1 := e.len
      simp [hl]
      refine hG _ ⟨ptOf t, _, rfl, good_okp g hn, d.app fun n => below_lst (vParts t) n, ?_, by simp [hl]⟩
      simp [hl]
      rfl
    rintro s ⟨p, Omq1, rfl, ok, d1, h1, l1⟩
    refine wp_seqP (fun s => ∃ (p : Pt) (Omq1 : List (Option Cell)) (j3 : Slot), s = ⟨lR ns j3 .no .no .no .no .no .no .no, Omq1⟩ ∧ Okp 30 p ∧ DX 0 Omq1 ∧ Omq1[1]? = some (some (cP p)) ∧ Omq1.length = 2) (fun G hG => ?_) ?_
    · unfold lR
      simp
      refine wp_draw d1 (by omega) (by omega) fun v Omq2 v0 v1 d2 e2 => ?_
      have h2 : Omq2[1]? = some (some (cP p)) := by rw [e2.at_ 1 (by omega)]; exact h1
      have l2 : Omq2.length = 2 := e2.len.trans l1
      simp
      rw [v_rng1 (by omega), bnd_ok]
      refine wp_loop0 (fun i s => ∃ (p : Pt) (Omq1 : List (Option Cell)) (j3 : Slot), s = ⟨lR ns j3 .no .no .no .no .no .no .no, Omq1⟩ ∧ Okp (4 + 6 * i) p ∧ DX 0 Omq1 ∧ Omq1[1]? = some (some (cP p)) ∧ Omq1.length = 2) ?_ ⟨p, _, _, rfl, ok, d2, h2, l2⟩ ?_
      · rintro i x s hi ⟨p, Omq3, j3, rfl, ok3, d3, h3, l3⟩
        have hi2 : i < v.toNat := by have := (List.getElem?_eq_some_iff.mp hi).1; rw [rng_len] at this; simpa using this
        refine wp_G (fun f s => (f = .nx ∨ f = .ct) ∧ ∃ (p : Pt) (Omq1 : List (Option Cell)) (j3 : Slot), s = ⟨lR ns j3 .no .no .no .no .no .no .no, Omq1⟩ ∧ Okp (4 + 6 * (i + 1)) p ∧ DX 0 Omq1 ∧ Omq1[1]? = some (some (cP p)) ∧ Omq1.length = 2) (fun G hG => ?_) (fun f s h => h)
        unfold l_law_1 lR
        simp
        refine wp_call _ (spoil_wp (by omega) d3 h3 ok3) fun x' Omq' q => ?_
        obtain ⟨rfl, p', ok', d', h', l'⟩ := q
        simp
        exact hG _ _ ⟨.inl rfl, p', _, _, rfl, ok', d', h', by omega⟩
      · rintro s ⟨p, Omq3, j3, rfl, ok3, d3, h3, l3⟩
        rw [rng_len] at ok3
        refine ⟨rfl, hG _ ⟨p, _, _, rfl, ?_, d3, h3, l3⟩⟩
        have hv : v.toNat ≤ 2 := by omega
        exact ⟨ok3.n, ok3.c, ok3.q, ok3.u, ok3.r, by have := ok3.cl; omega, by have := ok3.ql; omega, by have := ok3.ul; omega, by have := ok3.rl; omega⟩
    rintro s ⟨p, Omq2, j3, rfl, ok2, d2, h2, l2⟩
    have gd : ∀ rhq : List Slot, callM s_law_due [.r 1] ⟨rhq, Omq2⟩ = .ok (.d (dDue (errOf p))) ⟨rhq, Omq2⟩ := fun rhq => u_callM (due_ok (ok2.small (by omega)) h2)
    refine wp_seqE (s1 := ⟨lR ns j3 (.v (.d (dDue (errOf p)))) .no .no .no .no .no .no, Omq2⟩) (by unfold lR; simp [gd]) ?_
    have ix2 : ∀ (X : List (Option Cell)) (i : Int) (rhq : List Slot), ixV (.r 1) (.d (.int i)) ⟨rhq, Omq2 ++ X⟩ = (match L2.atI ((pD p).map Val.d) i with
        | some z => .ok z ⟨rhq, Omq2 ++ X⟩
        | none => .stuck) := fun X i rhq => v_ixr (s := ⟨rhq, Omq2 ++ X⟩) (by show (Omq2 ++ X)[1]? = _; rw [List.getElem?_append_left (by omega)]; exact h2)
    have ix0 : ∀ (i : Int) (rhq : List Slot), ixV (.r 1) (.d (.int i)) ⟨rhq, Omq2⟩ = (match L2.atI ((pD p).map Val.d) i with
        | some z => .ok z ⟨rhq, Omq2⟩
        | none => .stuck) := fun i rhq => v_ixr (s := ⟨rhq, Omq2⟩) h2
    have a0 : L2.atI ((pD p).map Val.d) 0 = some (.d p.nm) := rfl
    have a1 : L2.atI ((pD p).map Val.d) 1 = some (.d (.lst p.C)) := rfl
    have a2 : L2.atI ((pD p).map Val.d) 2 = some (.d (.lst p.Q)) := rfl
    have a3 : L2.atI ((pD p).map Val.d) 3 = some (.d (.lst p.U)) := rfl
    have a4 : L2.atI ((pD p).map Val.d) 4 = some (.d (.lst p.R)) := rfl
    refine wp_seqE (s1 := ⟨lR ns j3 (.v (.d (dDue (errOf p)))) (.v (.r 4)) .no .no .no .no .no, Omq2 ++ cellsP p⟩) (by
      unfold lR
      simp [ix0, ix2, a0, a1, a2, a3, a4, listFC, newC, obsQ, obsL, lstC, l2, cellsP]) ?_
    refine wp_seqE (s1 := ⟨lR ns j3 (.v (.d (dDue (errOf p)))) (.v (.r 4)) (.v (.d (.tup [.str "good", .int 0]))) .no .no .no .no, Omq2 ++ cellsP p⟩) (by unfold lR; simp) ?_
    refine wp_seqE (s1 := ⟨lR ns j3 (.v (.d (dDue (errOf p)))) (.v (.r 4)) (.v (.d (.tup [.str "good", .int 0]))) (.v (.d .non)) .no .no .no, Omq2 ++ cellsP p⟩) (by unfold lR; simp) ?_
    have F4 := four_of l2 h2
    have mr : mltM 5 (makeK "Table" 2 3 s_Table_init (consA (fzM (op2 ixV (rd 5) (lit (.int 0)))) (consA (fzM (op2 ixV (rd 5) (lit (.int 1)))) (M.pure []))) (consA (fzM (op2 ixV (rd 5) (lit (.int 2)))) (consA (fzM (op2 ixV (rd 5) (lit (.int 3)))) (consA (fzM (op2 ixV (rd 5) (lit (.int 4)))) (M.pure []))))) ⟨lR ns j3 (.v (.d (dDue (errOf p)))) (.v (.r 4)) (.v (.d (.tup [.str "good", .int 0]))) (.v (.d .non)) .no .no .no, Omq2 ++ cellsP p⟩ = match errOf p with
      | some e => .exc e ⟨lR ns j3 (.v (.d (dDue (errOf p)))) (.v (.r 4)) (.v (.d (.tup [.str "good", .int 0]))) (.v (.d .non)) .no .no .no, Omq2 ++ cellsP p⟩
      | none => .ok (.d (.ins "Table" (insT p.nm p.C p.Q p.U p.R))) ⟨lR ns j3 (.v (.d (dDue (errOf p)))) (.v (.r 4)) (.v (.d (.tup [.str "good", .int 0]))) (.v (.d .non)) .no .no .no, Omq2 ++ cellsP p⟩ := melt_run (N := 30) (by omega) ok2 (by simp [lR]) (mlt4 l2 rfl)
    have pd := due_plain (p := p)
    have gq : ∀ s : Sg, eqvV true (.d (dDue (errOf p))) (.d (dDue (errOf p))) s = .ok (.d (.bl false)) s := fun s => v_eqself (neg := true) pd
    have e41 := fun (Omq : List (Option Cell)) (h : Four Omq p) rhq => eq41 h ok2 rhq
    cases er : errOf p with
    | some e =>
      rw [er] at mr gq
      refine wp_seqP (fun s => ∃ Y : List (Option Cell), s = ⟨lR ns j3 (.v (.d (dDue (some e)))) (.v (.r 4)) (.v (.d (dDue (some e)))) (.v (.d .non)) .no .no .no, Omq2 ++ cellsP p ++ Y⟩) (fun G hG => ?_) ?_
      · have hG1 := fun Y => hG ⟨lR ns j3 (.v (.d (dDue (some e)))) (.v (.r 4)) (.v (.d (dDue (some e)))) (.v (.d .non)) .no .no .no, Omq2 ++ cellsP p ++ Y⟩ ⟨Y, rfl⟩
        clear hG
        unfold lR at mr hG1 ⊢
        generalize hdd : dDue (some e) = dd at mr hG1 ⊢
        rcases err_cases er with rfl | ⟨i, rfl⟩ | ⟨i, rfl⟩ | ⟨i, rfl⟩ | ⟨i, rfl⟩
        · have hdd' : D.tup [.str "name", .int 0] = dd := by rw [← hdd]; simp [dDue, wordOf]
          have t1 : exmT xt "BadName" "BadName" = some true := by decide +kernel
          simp [mr, pickH, t1, hndRun, okX, putX, endH, dropX]
          rw [hdd']
          simpa using hG1 [none]
        · have hdd' : D.tup [.str "column", .int (i : Nat)] = dd := by rw [← hdd]; simp [dDue, wordOf, eIx]
          have t0 : exmT xt "BadColumn" "BadName" = some false := by decide +kernel
          have t1 : exmT xt "BadColumn" "BadColumn" = some true := by decide +kernel
          have lk : List.lookup ("index" : Str) (eIx "BadColumn" i).fs = some (D.int (i : Nat)) := rfl
          have ce : (eIx "BadColumn" i).cls = "BadColumn" := rfl
          simp [mr, pickH, ce, t0, t1, hndRun, okX, putX, endH, dropX, xfM, xfV, litO, lk]
          rw [hdd']
          simpa using hG1 [none]
        · have hdd' : D.tup [.str "required", .int (i : Nat)] = dd := by rw [← hdd]; simp [dDue, wordOf, eIx]
          have t0 : exmT xt "BadRequired" "BadName" = some false := by decide +kernel
          have t1 : exmT xt "BadRequired" "BadColumn" = some false := by decide +kernel
          have t2 : exmT xt "BadRequired" "BadRequired" = some true := by decide +kernel
          have lk : List.lookup ("index" : Str) (eIx "BadRequired" i).fs = some (D.int (i : Nat)) := rfl
          have ce : (eIx "BadRequired" i).cls = "BadRequired" := rfl
          simp [mr, pickH, ce, t0, t1, t2, hndRun, okX, putX, endH, dropX, xfM, xfV, litO, lk]
          rw [hdd']
          simpa using hG1 [none]
        · have hdd' : D.tup [.str "key", .int (i : Nat)] = dd := by rw [← hdd]; simp [dDue, wordOf, eIx]
          have t0 : exmT xt "BadKey" "BadName" = some false := by decide +kernel
          have t1 : exmT xt "BadKey" "BadColumn" = some false := by decide +kernel
          have t2 : exmT xt "BadKey" "BadRequired" = some false := by decide +kernel
          have t3 : exmT xt "BadKey" "BadKey" = some true := by decide +kernel
          have lk : List.lookup ("index" : Str) (eIx "BadKey" i).fs = some (D.int (i : Nat)) := rfl
          have ce : (eIx "BadKey" i).cls = "BadKey" := rfl
          simp [mr, pickH, ce, t0, t1, t2, t3, hndRun, okX, putX, endH, dropX, xfM, xfV, litO, lk]
          rw [hdd']
          simpa using hG1 [none]
        · have hdd' : D.tup [.str "rule", .int (i : Nat)] = dd := by rw [← hdd]; simp [dDue, wordOf, eIx]
          have t0 : exmT xt "BadRule" "BadName" = some false := by decide +kernel
          have t1 : exmT xt "BadRule" "BadColumn" = some false := by decide +kernel
          have t2 : exmT xt "BadRule" "BadRequired" = some false := by decide +kernel
          have t3 : exmT xt "BadRule" "BadKey" = some false := by decide +kernel
          have t4 : exmT xt "BadRule" "BadRule" = some true := by decide +kernel
          have lk : List.lookup ("index" : Str) (eIx "BadRule" i).fs = some (D.int (i : Nat)) := rfl
          have ce : (eIx "BadRule" i).cls = "BadRule" := rfl
          simp [mr, pickH, ce, t0, t1, t2, t3, t4, hndRun, okX, putX, endH, dropX, xfM, xfV, litO, lk]
          rw [hdd']
          simpa using hG1 [none]
      · rintro s ⟨Y, rfl⟩
        have F5 := F4.app Y
        have ng : ¬ wordOf e.cls = "good" := good_word e
        obtain ⟨w, z, hw, hz⟩ : ∃ w z, dDue (some e) = .tup [.str w, z] ∧ ¬ w = "good" := ⟨_, _, rfl, ng⟩
        have az : L2.atI [D.str w, z] 0 = some (.str w) := rfl
        rw [hw] at gq ⊢
        generalize Omq2 ++ cellsP p ++ Y = Omq5 at F5 ⊢
        unfold lR
        simp [gq, e41 _ F5, az, hz]
    | none =>
      rw [er] at mr gq
      obtain ⟨C, m⟩ := made_of er
      generalize Omq2 ++ cellsP p = Omq4 at F4 mr ⊢
      clear ix0 ix2
      generalize hT : insT p.nm p.C p.Q p.U p.R = fs at mr
      refine wp_seqE (s1 := ⟨lR ns j3 (.v (.d (dDue none))) (.v (.r 4)) (.v (.d (dDue none))) (.v (.d (.ins "Table" fs))) .no .no .no, Omq4⟩) (by
        unfold lR at mr ⊢
        simp [mr]
        rfl) ?_
      refine wp_seqE (s1 := ⟨lR ns j3 (.v (.d (dDue none))) (.v (.r 4)) (.v (.d (dDue none))) (.v (.d (.ins "Table" fs))) .no .no .no, Omq4⟩) (by
        unfold lR
        simp [gq, e41 _ F4]) ?_
      refine wp_seqE (s1 := ⟨lR ns j3 (.v (.d (dDue none))) (.v (.r 4)) (.v (.d (dDue none))) (.v (.d (.ins "Table" fs))) .no .no .no, Omq4⟩) (by
        have az : L2.atI [D.str "good", .int 0] 0 = some (.str "good") := rfl
        unfold lR
        simp [dDue, az]) ?_
      have ix4 : ∀ (Omq : List (Option Cell)) (h : Omq[4]? = some (some (.lst [.d p.nm, .r 2, .d (.lst p.Q), .r 3, .d (.lst p.R)]))) (rhq : List Slot), ixV (.r 4) (.d (.int 1)) ⟨rhq, Omq⟩ = .ok (.r 2) ⟨rhq, Omq⟩ ∧ ixV (.r 4) (.d (.int 3)) ⟨rhq, Omq⟩ = .ok (.r 3) ⟨rhq, Omq⟩ := fun Omq h rhq => ⟨by rw [v_ixr (s := ⟨rhq, Omq⟩) h]; rfl, by rw [v_ixr (s := ⟨rhq, Omq⟩) h]; rfl⟩
      have ap : ∀ (Omq : List (Option Cell)) (k : Nat) (xs : List D) (x : D) (rhq : List Slot), Omq[k]? = some (some (.lst (xs.map Val.d))) → xs.length ≤ 1000 → appM (.r k) [.d x] ⟨rhq, Omq⟩ = .ok (.d .non) ⟨rhq, Omq.set k (some (.lst (xs.map Val.d ++ [.d x])))⟩ := fun Omq k xs x rhq h hl => by
        have : (xs.map Val.d).length < cap := by rw [List.length_map]; exact Nat.lt_of_le_of_lt hl (by decide)
        unfold appM chgL
        simp only [h, if_pos this]
      have il : ∀ (Omq : List (Option Cell)) (k : Nat) (xs : List Val) (rhq : List Slot), Omq[k]? = some (some (.lst xs)) → isL (.r k) ⟨rhq, Omq⟩ = .ok () ⟨rhq, Omq⟩ := fun Omq k xs rhq h => by
        rw [u_isLr]
        simp only [h]
      have l4 : 4 < Omq4.length := (List.getElem?_eq_some_iff.mp F4.c4).1
      generalize hOmq5 : Omq4.set 2 (some (.lst (p.C.map Val.d ++ [.d (.str "late")]))) = Omq5
      have G1 : Omq5[1]? = some (some (cP p)) := by rw [← hOmq5, List.getElem?_set_ne (by omega)]; exact F4.c1
      have G3 : Omq5[3]? = some (some (.lst (p.U.map Val.d))) := by rw [← hOmq5, List.getElem?_set_ne (by omega)]; exact F4.c3
      have G4 : Omq5[4]? = some (some (.lst [.d p.nm, .r 2, .d (.lst p.Q), .r 3, .d (.lst p.R)])) := by rw [← hOmq5, List.getElem?_set_ne (by omega)]; exact F4.c4
      refine wp_seqE (s1 := ⟨lR ns j3 (.v (.d (dDue none))) (.v (.r 4)) (.v (.d (dDue none))) (.v (.d (.ins "Table" fs))) .no .no .no, Omq5⟩) (by
        have a := ap Omq4 2 p.C (.str "late")
        unfold lR
        simp [-u_isLr, -u_appr, (ix4 Omq4 F4.c4 _).1, il Omq4 2 _ _ F4.c2, a _ F4.c2 (by have := ok2.cl; omega), hOmq5]) ?_
      generalize hOmq6 : Omq5.set 3 (some (.lst (p.U.map Val.d ++ [.d (.lst [.str "late"])]))) = Omq6
      have H1 : Omq6[1]? = some (some (cP p)) := by rw [← hOmq6, List.getElem?_set_ne (by omega)]; exact G1
      refine wp_seqE (s1 := ⟨lR ns j3 (.v (.d (dDue none))) (.v (.r 4)) (.v (.d (dDue none))) (.v (.d (.ins "Table" fs))) .no .no .no, Omq6⟩) (by
        have a := ap Omq5 3 p.U (.lst [.str "late"])
        unfold lR
        simp [-u_isLr, -u_appr, (ix4 Omq5 G4 _).2, il Omq5 3 _ _ G3, a _ G3 (by have := ok2.ul; omega), hOmq6]) ?_
      have ix6 : ∀ (i : Int) (rhq : List Slot), ixV (.r 1) (.d (.int i)) ⟨rhq, Omq6⟩ = (match L2.atI ((pD p).map Val.d) i with
          | some z => .ok z ⟨rhq, Omq6⟩
          | none => .stuck) := fun i rhq => v_ixr (s := ⟨rhq, Omq6⟩) H1
      have f1 : ∀ s : Sg, fldV "Table" "name" (.d (.ins "Table" fs)) s = .ok (.d p.nm) s := fun s => by rw [← hT]; exact v_fld rfl
      have f2 : ∀ s : Sg, fldV "Table" "columns" (.d (.ins "Table" fs)) s = .ok (.d (.tup p.C)) s := fun s => by rw [← hT]; exact v_fld rfl
      have f3 : ∀ s : Sg, fldV "Table" "required" (.d (.ins "Table" fs)) s = .ok (.d (.tup p.Q)) s := fun s => by rw [← hT]; exact v_fld rfl
      have f4 : ∀ s : Sg, fldV "Table" "unique" (.d (.ins "Table" fs)) s = .ok (.d (.tup (p.U.map toTup))) s := fun s => by rw [← hT]; exact v_fld rfl
      have f5 : ∀ s : Sg, fldV "Table" "rules" (.d (.ins "Table" fs)) s = .ok (.d (.tup (p.R.map toRule))) s := fun s => by rw [← hT]; exact v_fld rfl
      have en : ∀ s : Sg, eqvV true (.d p.nm) (.d p.nm) s = .ok (.d (.bl false)) s := fun s => v_eqself (neg := true) (e0_plain ok2.n 59)
      have cl := ok2.cl
      have ql := ok2.ql
      have ul := ok2.ul
      have rl := ok2.rl
      have oC : okD 7 (.tup p.C) = true := by
        have := ok_all fun x q => e0_ok (ok2.c x q) 5
        simp only [okD, this, Bool.true_and, decide_eq_true_eq]; omega
      have oQ : okD 7 (.tup p.Q) = true := by
        have := ok_all fun x q => e0_ok (ok2.q x q) 5
        simp only [okD, this, Bool.true_and, decide_eq_true_eq]; omega
      have oU : okD 7 (.tup (p.U.map toTup)) = true := by
        have : okL 6 (p.U.map toTup) = true := ok_all fun x q => by
          obtain ⟨y, hy, rfl⟩ := List.mem_map.mp q
          exact k1_ok (ok2.u y hy) 4
        simp only [okD, this, Bool.true_and, decide_eq_true_eq, List.length_map]; omega
      have oR : okD 7 (.tup (p.R.map toRule)) = true := by
        have : okL 6 (p.R.map toRule) = true := ok_all fun x q => by
          obtain ⟨y, hy, rfl⟩ := List.mem_map.mp q
          have hr := ok2.r y hy
          have hi := m.r y hy
          obtain ⟨a, b, xs, rfl, _⟩ := rule_good hi
          have hk := r1_pair hr
          have hb : ∃ z, b = .str z := by
            unfold isRule at hi
            cases b <;> first | exact ⟨_, rfl⟩ | simp [inC] at hi
          obtain ⟨z, rfl⟩ := hb
          simp [toRule, okD, okL, k1_ok hk.1 3]
        simp only [okD, this, Bool.true_and, decide_eq_true_eq, List.length_map]; omega
      have gl : ∀ (x : D), okD 7 x = true → ∀ s : Sg, callM s_law_like [.d x, .d x] s = .ok (.d (.bl true)) s := fun x h s => c_call fun Omq => like_ok h Omq
      refine wp_seqE (s1 := ⟨lR ns j3 (.v (.d (dDue none))) (.v (.r 4)) (.v (.d (dDue none))) (.v (.d (.ins "Table" fs))) .no .no .no, Omq6⟩) (by
        unfold lR
        simp [f1, f2, ix6, a0, a1, en, gl _ oC]) ?_
      have cU : ∀ (rhq : List Slot), noAcc rhq [11] = true → 11 < rhq.length → compZ 11 (M.pure true) (M.bind (consA (rd 11) (M.pure [])) tupleF) (p.U.map Val.d) ⟨rhq, Omq6⟩ = .ok (.d (.lst (p.U.map toTup))) ⟨rhq, Omq6⟩ := fun rhq ha hl => compZ_ok toTup ha fun x hx => by
        obtain ⟨xs, hs, _⟩ := key_good (m.u x hx)
        simp [hl, tup_ok hs]
      have cR : ∀ (rhq : List Slot), noAcc rhq [12] = true → 12 < rhq.length → compZ 12 (M.pure true) (tupE (consA (fzM (M.bind (consA (op2 ixV (rd 12) (lit (.int 0))) (M.pure [])) tupleF)) (consA (fzM (op2 ixV (rd 12) (lit (.int 1)))) (M.pure [])))) (p.R.map Val.d) ⟨rhq, Omq6⟩ = .ok (.d (.lst (p.R.map toRule))) ⟨rhq, Omq6⟩ := fun rhq ha hl => compZ_ok toRule ha fun x hx => by
        obtain ⟨a, b, xs, rfl, hs⟩ := rule_good (m.r x hx)
        have a0 : L2.atI [a, b] 0 = some a := rfl
        have a1 : L2.atI [a, b] 1 = some b := rfl
        simp [hl, tup_ok hs, a0, a1, toRule]
      refine wp_seqE (s1 := ⟨lR ns j3 (.v (.d (dDue none))) (.v (.r 4)) (.v (.d (dDue none))) (.v (.d (.ins "Table" fs))) .no (.v (.d (.tup (p.U.map toTup)))) .no, Omq6⟩) (by
        unfold lR
        simp [-compZ_map, ix6, a3, cU]) ?_
      refine wp_seqE (s1 := ⟨lR ns j3 (.v (.d (dDue none))) (.v (.r 4)) (.v (.d (dDue none))) (.v (.d (.ins "Table" fs))) .no (.v (.d (.tup (p.U.map toTup)))) (.v (.d (.tup (p.R.map toRule)))), Omq6⟩) (by
        unfold lR
        simp [-compZ_map, ix6, a4, cR]) ?_
      refine wp_seqE (s1 := ⟨lR ns j3 (.v (.d (dDue none))) (.v (.r 4)) (.v (.d (dDue none))) (.v (.d (.ins "Table" fs))) .no (.v (.d (.tup (p.U.map toTup)))) (.v (.d (.tup (p.R.map toRule)))), Omq6⟩) (by
        unfold lR
        simp [f3, ix6, a2, gl _ oQ]) ?_
      unfold lR
      simp [f4, f5, gl _ oU, gl _ oR]
  obtain ⟨x, Omq, e, rfl⟩ := key
  exact ⟨Omq, e⟩
end K01
theorem PySem.Challenge.cw_groupsure_k01_tables_refused_holds : PySem.Challenge.rw_groupsure_k01_tables_refused.Holds := by
  exact K01.holds_of K01.law_plain
