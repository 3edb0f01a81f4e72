import PyProof.Rows.All
import Wide.All
import OpenK.AllK
import Wide.FinOn
import HandS.ForMost
import HandS.Exc
import HandS.TupAny
import HandS.TupMul
import HandS.IsInst
import HandS.Style
import HandS.Deep
import HandS.Codes
import KE.DataEq
import HandS.CallSlots
import HandS.MakeKwOnly
import HandS.Property
import HandS.ExcOwn
import HandS.WordsExc
import HandS.Flow
import HandS.OwnEq
import HandS.Text
import PyProof.InstNe
import HandS.RaiseMore
import HandS.TryMany
import HandS.ExcInit
import HandS.ExcField
import HandS.Small
import HandS.ExcIs
import PySem.Challenge.RW_hitsteps_k01_steppers_kept_and_refused
set_option Elab.async false
set_option linter.all false
set_option maxRecDepth 100000
/-! FL1: the values U, the mutable cells, how they are borne by an abstract heap. -/
namespace FL
open PySem L2

/-- a value as data; ref i: the i-th mutable cell -/
inductive U where
  | non | bl (b : Bool) | int (i : Int) | str (x : List Nat)
  | tup (l : List U) | lst (l : List U) | sc (l : List U) | dct (l : List (U × U)) | ins (c : Nat) (l : List (Nat × U)) | ref (i : Nat)
  deriving Inhabited
/-- a mutable cell -/
inductive Ob where
  | dead | lst (l : List U) | dct (l : List (U × U)) | ins (c : Nat) (l : List (Nat × U))
  deriving Inhabited
/-- an exception: its class, its fields -/
structure Exn where
  cls : Nat
  fs : List (Nat × U)

/-- the names of a program: the written part, its classes, its attributes -/
structure Tb where
  K : PySem.W.Frag
  cls : List Addr
  att : List Str

abbrev SS (l : List Nat) : Str := ⟨l.toArray⟩
def keyU : Key → U
  | .inl i => .int i
  | .inr x => .str x.cps.toList

/-- a list that stands still -/
def SqS (K : PySem.W.Frag) (Z : Addr → Prop) (H : Hp) (a : Addr) (xs : List V) : Prop :=
  (Rd H a (.lst xs) ∧ ¬ Z a) ∨ ∃ (o : Obj) (its : Array Value) (n : Nat), K.lookup a = some o ∧ o.cls = .type "list" ∧ o.dict = none ∧ o.data = .seq its n ∧ its.size ≤ sizeLine ∧ Vals xs its.toList
theorem SqS.sqL {K : PySem.W.Frag} {Z : Addr → Prop} {H : Hp} {a : Addr} {xs : List V} (h : SqS K Z H a xs) : SqL K H a xs := h.elim (fun z => .inl z.1) .inr

mutual
inductive Rep (T : Tb) (ρ : List Addr) (Z : Addr → Prop) (H : Hp) : V → U → Prop
  | non : Rep T ρ Z H .non .non
  | bl (b : Bool) : Rep T ρ Z H (.bl b) (.bl b)
  | int (i : Int) : Rep T ρ Z H (.int i) (.int i)
  | str (x : Str) : Rep T ρ Z H (.str x) (.str x.cps.toList)
  | tup {a : Addr} {vs : List V} {us : List U} : SqT T.K H a vs → Reps T ρ Z H vs us → Rep T ρ Z H (.ref a) (.tup us)
  | lst {a : Addr} {vs : List V} {us : List U} : H a = some (.lst vs) → ¬ Z a → Reps T ρ Z H vs us → Rep T ρ Z H (.ref a) (.lst us)
  | sc {a : Addr} {vs : List V} {us : List U} : SqS T.K Z H a vs → Reps T ρ Z H vs us → Rep T ρ Z H (.ref a) (.sc us)
  | dct {a : Addr} {kvs : List (Key × V)} {l : List (U × U)} : H a = some (.dK kvs) → ¬ Z a → RepK T ρ Z H kvs l → Rep T ρ Z H (.ref a) (.dct l)
  | ins {a C dx : Addr} {c : Nat} {fv : List (Str × V)} {fu : List (Nat × U)} : H a = some (.ins C dx fv) → ¬ Z a → T.cls[c]? = some C → RepF T ρ Z H fv fu → Rep T ρ Z H (.ref a) (.ins c fu)
  | ref {a : Addr} {i : Nat} : ρ[i]? = some a → Rep T ρ Z H (.ref a) (.ref i)
inductive Reps (T : Tb) (ρ : List Addr) (Z : Addr → Prop) (H : Hp) : List V → List U → Prop
  | nil : Reps T ρ Z H [] []
  | cons {v : V} {u : U} {vs : List V} {us : List U} : Rep T ρ Z H v u → Reps T ρ Z H vs us → Reps T ρ Z H (v :: vs) (u :: us)
inductive RepF (T : Tb) (ρ : List Addr) (Z : Addr → Prop) (H : Hp) : List (Str × V) → List (Nat × U) → Prop
  | nil : RepF T ρ Z H [] []
  | cons {f : Str} {k : Nat} {v : V} {u : U} {vs : List (Str × V)} {us : List (Nat × U)} : T.att[k]? = some f → Rep T ρ Z H v u → RepF T ρ Z H vs us → RepF T ρ Z H ((f, v) :: vs) ((k, u) :: us)
inductive RepK (T : Tb) (ρ : List Addr) (Z : Addr → Prop) (H : Hp) : List (Key × V) → List (U × U) → Prop
  | nil : RepK T ρ Z H [] []
  | cons {k : Key} {v : V} {u : U} {vs : List (Key × V)} {us : List (U × U)} : Rep T ρ Z H v u → RepK T ρ Z H vs us → RepK T ρ Z H ((k, v) :: vs) ((keyU k, u) :: us)
end

/-- from (ρ, Z, H) to a later (ρ', Z', H'): what is frozen stays, the cells of others stay -/
structure Ex (ρ : List Addr) (Z : Addr → Prop) (H : Hp) (ρ' : List Addr) (Z' : Addr → Prop) (H' : Hp) : Prop where
  pre : ∃ t, ρ' = ρ ++ t
  fz : ∀ a o, H a = some o → ¬ Z a → H' a = some o ∧ ¬ Z' a
  ou : ∀ a o, H a = some o → Z a → a ∉ ρ → H' a = some o ∧ Z' a ∧ a ∉ ρ'
  th : ∀ a, H a ≠ none → H' a ≠ none
theorem Ex.refl {ρ : List Addr} {Z : Addr → Prop} {H : Hp} : Ex ρ Z H ρ Z H := ⟨⟨[], by simp⟩, fun _ _ h z => ⟨h, z⟩, fun _ _ h z n => ⟨h, z, n⟩, fun _ h => h⟩
theorem Ex.trans {ρ ρ1 ρ2 : List Addr} {Z Z1 Z2 : Addr → Prop} {H H1 H2 : Hp} (x : Ex ρ Z H ρ1 Z1 H1) (y : Ex ρ1 Z1 H1 ρ2 Z2 H2) : Ex ρ Z H ρ2 Z2 H2 := by
  refine ⟨?_, fun a o h z => ?_, fun a o h z n => ?_, fun a h => y.th a (x.th a h)⟩
  · obtain ⟨t, e⟩ := x.pre
    obtain ⟨u, e'⟩ := y.pre
    exact ⟨t ++ u, by rw [e', e, List.append_assoc]⟩
  · obtain ⟨h1, z1⟩ := x.fz a o h z
    exact y.fz a o h1 z1
  · obtain ⟨h1, z1, n1⟩ := x.ou a o h z n
    exact y.ou a o h1 z1 n1

def ObAt (T : Tb) (ρ : List Addr) (Z : Addr → Prop) (H : Hp) (a : Addr) : Ob → Prop
  | .dead => True
  | .lst us => Z a ∧ ∃ vs, H a = some (.lst vs) ∧ Reps T ρ Z H vs us
  | .dct l => Z a ∧ ∃ kvs, H a = some (.dK kvs) ∧ RepK T ρ Z H kvs l
  | .ins c fu => Z a ∧ ∃ C dx fv, H a = some (.ins C dx fv) ∧ T.cls[c]? = some C ∧ RepF T ρ Z H fv fu

/-- the cells G are borne at ρ -/
structure Rl (T : Tb) (ρ : List Addr) (Z : Addr → Prop) (G : List Ob) (H : Hp) : Prop where
  len : ρ.length = G.length
  nd : ρ.Nodup
  zm : ∀ a, Z a → Mut (H a)
  trk : ∀ a ∈ ρ, H a ≠ none
  ob : ∀ (i : Nat) (a : Addr) (o : Ob), ρ[i]? = some a → G[i]? = some o → ObAt T ρ Z H a o

section
variable {T : Tb} {ρ ρ' : List Addr} {Z Z' : Addr → Prop} {H H' : Hp}

theorem pre_get {α : Type} {ρ ρ' t : List α} (e : ρ' = ρ ++ t) {i : Nat} {a : α} (h : ρ[i]? = some a) : ρ'[i]? = some a := by
  rw [e, List.getElem?_append_left (List.getElem?_eq_some_iff.mp h).1]
  exact h
theorem sqT_ex (zm : ∀ a, Z a → Mut (H a)) (fz : ∀ a o, H a = some o → ¬ Z a → H' a = some o ∧ ¬ Z' a) {K : PySem.W.Frag} {a : Addr} {vs : List V} (h : SqT K H a vs) : SqT K H' a vs := by
  rcases h with (h | ⟨o, h⟩) | h
  · exact .inl (.inl (fz a _ h fun z => by have m := zm a z; rw [h] at m; exact m).1)
  · exact .inl (.inr ⟨o, (fz a _ h fun z => by have m := zm a z; rw [h] at m; exact m).1⟩)
  · exact .inr h
theorem sqS_ex (fz : ∀ a o, H a = some o → ¬ Z a → H' a = some o ∧ ¬ Z' a) {K : PySem.W.Frag} {a : Addr} {vs : List V} (h : SqS K Z H a vs) : SqS K Z' H' a vs := by
  rcases h with ⟨h | ⟨o, h⟩, z⟩ | h
  · exact .inl ⟨.inl (fz a _ h z).1, (fz a _ h z).2⟩
  · exact .inl ⟨.inr ⟨o, (fz a _ h z).1⟩, (fz a _ h z).2⟩
  · exact .inr h

mutual
theorem Rep.exf (hp : ∃ t, ρ' = ρ ++ t) (fz : ∀ a o, H a = some o → ¬ Z a → H' a = some o ∧ ¬ Z' a) (zm : ∀ a, Z a → Mut (H a)) : ∀ {v : V} {u : U}, Rep T ρ Z H v u → Rep T ρ' Z' H' v u
  | _, _, .non => .non
  | _, _, .bl b => .bl b
  | _, _, .int i => .int i
  | _, _, .str l => .str l
  | _, _, .tup h r => .tup (sqT_ex zm fz h) (Reps.exf hp fz zm r)
  | _, _, .lst h z r => .lst (fz _ _ h z).1 (fz _ _ h z).2 (Reps.exf hp fz zm r)
  | _, _, .sc h r => .sc (sqS_ex fz h) (Reps.exf hp fz zm r)
  | _, _, .dct h z r => .dct (fz _ _ h z).1 (fz _ _ h z).2 (RepK.exf hp fz zm r)
  | _, _, .ins h z c r => .ins (fz _ _ h z).1 (fz _ _ h z).2 c (RepF.exf hp fz zm r)
  | _, _, .ref h => .ref (by obtain ⟨t, e⟩ := hp; exact pre_get e h)
theorem Reps.exf (hp : ∃ t, ρ' = ρ ++ t) (fz : ∀ a o, H a = some o → ¬ Z a → H' a = some o ∧ ¬ Z' a) (zm : ∀ a, Z a → Mut (H a)) : ∀ {v : List V} {u : List U}, Reps T ρ Z H v u → Reps T ρ' Z' H' v u
  | _, _, .nil => .nil
  | _, _, .cons r t => .cons (Rep.exf hp fz zm r) (Reps.exf hp fz zm t)
theorem RepF.exf (hp : ∃ t, ρ' = ρ ++ t) (fz : ∀ a o, H a = some o → ¬ Z a → H' a = some o ∧ ¬ Z' a) (zm : ∀ a, Z a → Mut (H a)) : ∀ {v : List (Str × V)} {u : List (Nat × U)}, RepF T ρ Z H v u → RepF T ρ' Z' H' v u
  | _, _, .nil => .nil
  | _, _, .cons e r t => .cons e (Rep.exf hp fz zm r) (RepF.exf hp fz zm t)
theorem RepK.exf (hp : ∃ t, ρ' = ρ ++ t) (fz : ∀ a o, H a = some o → ¬ Z a → H' a = some o ∧ ¬ Z' a) (zm : ∀ a, Z a → Mut (H a)) : ∀ {v : List (Key × V)} {u : List (U × U)}, RepK T ρ Z H v u → RepK T ρ' Z' H' v u
  | _, _, .nil => .nil
  | _, _, .cons r t => .cons (Rep.exf hp fz zm r) (RepK.exf hp fz zm t)
end
theorem Rep.ex (zm : ∀ a, Z a → Mut (H a)) (x : Ex ρ Z H ρ' Z' H') {v : V} {u : U} (r : Rep T ρ Z H v u) : Rep T ρ' Z' H' v u := r.exf x.pre x.fz zm
theorem Reps.ex (zm : ∀ a, Z a → Mut (H a)) (x : Ex ρ Z H ρ' Z' H') {v : List V} {u : List U} (r : Reps T ρ Z H v u) : Reps T ρ' Z' H' v u := r.exf x.pre x.fz zm
theorem RepF.ex (zm : ∀ a, Z a → Mut (H a)) (x : Ex ρ Z H ρ' Z' H') {v : List (Str × V)} {u : List (Nat × U)} (r : RepF T ρ Z H v u) : RepF T ρ' Z' H' v u := r.exf x.pre x.fz zm
theorem RepK.ex (zm : ∀ a, Z a → Mut (H a)) (x : Ex ρ Z H ρ' Z' H') {v : List (Key × V)} {u : List (U × U)} (r : RepK T ρ Z H v u) : RepK T ρ' Z' H' v u := r.exf x.pre x.fz zm
end
end FL

/-! FL2: the monad, the readings tE (of an expression), tS (of a statement). -/
namespace FL
open PySem L2

/-- what an evaluation gives -/
inductive Rs (α : Type) where
  | ok (a : α) (G : List Ob) | exc (x : Exn) (G : List Ob) | bad
@[reducible] def Sg := List (Option U)
abbrev ME := Sg → List Ob → Rs U
abbrev MA := Sg → List Ob → Rs (List U)
def Rs.bind {α β : Type} : Rs α → (α → List Ob → Rs β) → Rs β
  | .ok a G, f => f a G
  | .exc x G, _ => .exc x G
  | .bad, _ => .bad
/-- what a statement gives -/
inductive Rt where
  | nx (s : Sg) (G : List Ob) | rt (u : U) (G : List Ob) | bk (s : Sg) (G : List Ob) | ct (s : Sg) (G : List Ob) | exc (x : Exn) (s : Sg) (G : List Ob) | bad
abbrev MS := Sg → List Ob → Rt

/-- the frame's values -/
def Fm (T : Tb) (ρ : List Addr) (Z : Addr → Prop) (H : Hp) (σ : St) (s : Sg) : Prop :=
  σ.length = s.length ∧ ∀ (i : Nat) (u : U), s[i]? = some (some u) → ∃ v, σ[i]? = some (some v) ∧ Rep T ρ Z H v u
structure Sm (T : Tb) (σ : St) (H : Hp) (s : Sg) (G : List Ob) (ρ : List Addr) (Z : Addr → Prop) : Prop where
  rl : Rl T ρ Z G H
  fm : Fm T ρ Z H σ s
/-- how an exception stands -/
def ExAt (T : Tb) (x : Exn) (cls : Value) (d : Option Addr) (H : Hp) : Prop :=
  ∃ C, T.cls[x.cls]? = some C ∧ cls = .ref C ∧ ((x.fs = [] ∧ d = none) ∨ ∃ dd fv, d = some dd ∧ H dd = some (.xd fv) ∧ RepF T [] (fun _ => False) H fv x.fs)
section
variable (T : Tb) (W : WX)
def EEnd (σ : St) (H : Hp) (ρ : List Addr) (Z : Addr → Prop) (x : Exn) (G' : List Ob) : Prop :=
  ∀ cls d H' ρ' Z', Ex ρ Z H ρ' Z' H' → Rl T ρ' Z' G' H' → ExAt T x cls d H' → W cls d σ H'
def RE (σ : St) (H : Hp) (ρ : List Addr) (Z : Addr → Prop) (Q : VK) : Rs U → Prop
  | .ok u G' => ∀ v H' ρ' Z', Ex ρ Z H ρ' Z' H' → Rl T ρ' Z' G' H' → Rep T ρ' Z' H' v u → Q v H'
  | .exc x G' => EEnd T W σ H ρ Z x G'
  | .bad => False
def RA (σ : St) (H : Hp) (ρ : List Addr) (Z : Addr → Prop) (Q : List V → Hp → Prop) : Rs (List U) → Prop
  | .ok u G' => ∀ v H' ρ' Z', Ex ρ Z H ρ' Z' H' → Rl T ρ' Z' G' H' → Reps T ρ' Z' H' v u → Q v H'
  | .exc x G' => EEnd T W σ H ρ Z x G'
  | .bad => False
def RB (σ : St) (H : Hp) (ρ : List Addr) (Z : Addr → Prop) (Q : Bool → Hp → Prop) : Rs Bool → Prop
  | .ok u G' => ∀ H' ρ' Z', Ex ρ Z H ρ' Z' H' → Rl T ρ' Z' G' H' → Q u H'
  | .exc x G' => EEnd T W σ H ρ Z x G'
  | .bad => False
def tE (m : ME) : TE := fun σ H Q => ∃ s G ρ Z, Sm T σ H s G ρ Z ∧ RE T W σ H ρ Z Q (m s G)
def tA (m : MA) : TA := fun σ H Q => ∃ s G ρ Z, Sm T σ H s G ρ Z ∧ RA T W σ H ρ Z Q (m s G)
def tT (m : Sg → List Ob → Rs Bool) : TT := fun σ H Q => ∃ s G ρ Z, Sm T σ H s G ρ Z ∧ RB T W σ H ρ Z Q (m s G)
def RS (σ : St) (H : Hp) (ρ : List Addr) (Z : Addr → Prop) (D : Ends) : Rt → Prop
  | .nx s G => ∀ σ' H' ρ' Z', Ex ρ Z H ρ' Z' H' → Sm T σ' H' s G ρ' Z' → D.nx σ' H'
  | .rt u G => ∀ v H' ρ' Z', Ex ρ Z H ρ' Z' H' → Rl T ρ' Z' G H' → Rep T ρ' Z' H' v u → D.rt v H'
  | .bk s G => ∀ σ' H' ρ' Z', Ex ρ Z H ρ' Z' H' → Sm T σ' H' s G ρ' Z' → D.bk σ' H'
  | .ct s G => ∀ σ' H' ρ' Z', Ex ρ Z H ρ' Z' H' → Sm T σ' H' s G ρ' Z' → D.ct σ' H'
  | .exc x s G => ∀ cls d σ' H' ρ' Z', Ex ρ Z H ρ' Z' H' → Sm T σ' H' s G ρ' Z' → ExAt T x cls d H' → W cls d σ' H'
  | .bad => False
def tS (m : MS) : TS := fun D σ H => ∃ s G ρ Z, Sm T σ H s G ρ Z ∧ RS T W σ H ρ Z D (m s G)
end

section
variable {T : Tb} {W : WX} {σ σ' : St} {H H' : Hp} {ρ ρ' : List Addr} {Z Z' : Addr → Prop} {s : Sg} {G : List Ob}
theorem Fm.ex (zm : ∀ a, Z a → Mut (H a)) (x : Ex ρ Z H ρ' Z' H') (f : Fm T ρ Z H σ s) : Fm T ρ' Z' H' σ s :=
  ⟨f.1, fun i u e => let ⟨v, e1, r⟩ := f.2 i u e; ⟨v, e1, r.ex zm x⟩⟩
theorem Sm.ex {G' : List Ob} (m : Sm T σ H s G ρ Z) (x : Ex ρ Z H ρ' Z' H') (r : Rl T ρ' Z' G' H') : Sm T σ H' s G' ρ' Z' := ⟨r, m.fm.ex m.rl.zm x⟩
theorem EEnd.ex {x : Exn} (e : EEnd T W σ H ρ Z x G) (y : Ex ρ Z H ρ' Z' H') : EEnd T W σ H' ρ' Z' x G :=
  fun cls d H2 ρ2 Z2 z r a => e cls d H2 ρ2 Z2 (y.trans z) r a
theorem RE.ex {Q : VK} {r : Rs U} (e : RE T W σ H ρ Z Q r) (y : Ex ρ Z H ρ' Z' H') : RE T W σ H' ρ' Z' Q r := by
  cases r with
  | ok u G' => exact fun v H2 ρ2 Z2 z => e v H2 ρ2 Z2 (y.trans z)
  | exc x G' => exact EEnd.ex e y
  | bad => exact e
theorem RA.ex {Q : List V → Hp → Prop} {r : Rs (List U)} (e : RA T W σ H ρ Z Q r) (y : Ex ρ Z H ρ' Z' H') : RA T W σ H' ρ' Z' Q r := by
  cases r with
  | ok u G' => exact fun v H2 ρ2 Z2 z => e v H2 ρ2 Z2 (y.trans z)
  | exc x G' => exact EEnd.ex e y
  | bad => exact e
theorem RB.ex {Q : Bool → Hp → Prop} {r : Rs Bool} (e : RB T W σ H ρ Z Q r) (y : Ex ρ Z H ρ' Z' H') : RB T W σ H' ρ' Z' Q r := by
  cases r with
  | ok u G' => exact fun H2 ρ2 Z2 z => e H2 ρ2 Z2 (y.trans z)
  | exc x G' => exact EEnd.ex e y
  | bad => exact e
theorem RS.ex {D : Ends} {r : Rt} (e : RS T W σ H ρ Z D r) (y : Ex ρ Z H ρ' Z' H') : RS T W σ' H' ρ' Z' D r := by
  cases r with
  | nx s G => exact fun s2 H2 ρ2 Z2 z => e s2 H2 ρ2 Z2 (y.trans z)
  | rt u G => exact fun v H2 ρ2 Z2 z => e v H2 ρ2 Z2 (y.trans z)
  | bk s G => exact fun s2 H2 ρ2 Z2 z => e s2 H2 ρ2 Z2 (y.trans z)
  | ct s G => exact fun s2 H2 ρ2 Z2 z => e s2 H2 ρ2 Z2 (y.trans z)
  | exc x s G => exact fun cls d s2 H2 ρ2 Z2 z => e cls d s2 H2 ρ2 Z2 (y.trans z)
  | bad => exact e

/-- the central step: an expression, then what follows -/
theorem tE_step {m : ME} {r : Rs U} {k : VK} {E : EEnd T W σ H ρ Z = EEnd T W σ H ρ Z} (sm : Sm T σ H s G ρ Z) (e : m s G = r)
    (ho : ∀ u G', r = .ok u G' → ∀ v H' ρ' Z', Ex ρ Z H ρ' Z' H' → Sm T σ H' s G' ρ' Z' → Rep T ρ' Z' H' v u → k v H') (hx : ∀ x G', r = .exc x G' → EEnd T W σ H ρ Z x G') (hb : r ≠ .bad) : tE T W m σ H k := by
  refine ⟨s, G, ρ, Z, sm, ?_⟩
  rw [e]
  cases r with
  | ok u G' => exact fun v H' ρ' Z' x rl rp => ho u G' rfl v H' ρ' Z' x (sm.ex x rl) rp
  | exc x G' => exact hx x G' rfl
  | bad => exact absurd rfl hb
/-- m, then f -/
theorem tE_bind {m : ME} {f : U → List Ob → Rs U} {Q : VK} {k : VK} (sm : Sm T σ H s G ρ Z) (h : RE T W σ H ρ Z Q ((m s G).bind f))
    (hk : ∀ u G' v H' ρ' Z', Ex ρ Z H ρ' Z' H' → Sm T σ H' s G' ρ' Z' → Rep T ρ' Z' H' v u → RE T W σ H' ρ' Z' Q (f u G') → k v H') : tE T W m σ H k := by
  refine ⟨s, G, ρ, Z, sm, ?_⟩
  cases e : m s G with
  | ok u G' =>
    rw [e] at h
    exact fun v H' ρ' Z' x rl rp => hk u G' v H' ρ' Z' x (sm.ex x rl) rp (RE.ex h x)
  | exc x G' => rw [e] at h; exact h
  | bad => rw [e] at h; exact h
theorem tE_bindA {m : ME} {f : U → List Ob → Rs (List U)} {Q : List V → Hp → Prop} {k : VK} (sm : Sm T σ H s G ρ Z) (h : RA T W σ H ρ Z Q ((m s G).bind f))
    (hk : ∀ u G' v H' ρ' Z', Ex ρ Z H ρ' Z' H' → Sm T σ H' s G' ρ' Z' → Rep T ρ' Z' H' v u → RA T W σ H' ρ' Z' Q (f u G') → k v H') : tE T W m σ H k := by
  refine ⟨s, G, ρ, Z, sm, ?_⟩
  cases e : m s G with
  | ok u G' =>
    rw [e] at h
    exact fun v H' ρ' Z' x rl rp => hk u G' v H' ρ' Z' x (sm.ex x rl) rp (RA.ex h x)
  | exc x G' => rw [e] at h; exact h
  | bad => rw [e] at h; exact h
theorem tA_bind {m : MA} {f : List U → List Ob → Rs U} {Q : VK} {k : List V → Hp → Prop} (sm : Sm T σ H s G ρ Z) (h : RE T W σ H ρ Z Q ((m s G).bind f))
    (hk : ∀ u G' v H' ρ' Z', Ex ρ Z H ρ' Z' H' → Sm T σ H' s G' ρ' Z' → Reps T ρ' Z' H' v u → RE T W σ H' ρ' Z' Q (f u G') → k v H') : tA T W m σ H k := by
  refine ⟨s, G, ρ, Z, sm, ?_⟩
  cases e : m s G with
  | ok u G' =>
    rw [e] at h
    exact fun v H' ρ' Z' x rl rp => hk u G' v H' ρ' Z' x (sm.ex x rl) rp (RE.ex h x)
  | exc x G' => rw [e] at h; exact h
  | bad => rw [e] at h; exact h
theorem tE_bindB {m : ME} {f : U → List Ob → Rs Bool} {Q : Bool → Hp → Prop} {k : VK} (sm : Sm T σ H s G ρ Z) (h : RB T W σ H ρ Z Q ((m s G).bind f))
    (hk : ∀ u G' v H' ρ' Z', Ex ρ Z H ρ' Z' H' → Sm T σ H' s G' ρ' Z' → Rep T ρ' Z' H' v u → RB T W σ H' ρ' Z' Q (f u G') → k v H') : tE T W m σ H k := by
  refine ⟨s, G, ρ, Z, sm, ?_⟩
  cases e : m s G with
  | ok u G' =>
    rw [e] at h
    exact fun v H' ρ' Z' x rl rp => hk u G' v H' ρ' Z' x (sm.ex x rl) rp (RB.ex h x)
  | exc x G' => rw [e] at h; exact h
  | bad => rw [e] at h; exact h
theorem tT_bind {m : Sg → List Ob → Rs Bool} {f : Bool → List Ob → Rs U} {Q : VK} {k : Bool → Hp → Prop} (sm : Sm T σ H s G ρ Z) (h : RE T W σ H ρ Z Q ((m s G).bind f))
    (hk : ∀ u G' H' ρ' Z', Ex ρ Z H ρ' Z' H' → Sm T σ H' s G' ρ' Z' → RE T W σ H' ρ' Z' Q (f u G') → k u H') : tT T W m σ H k := by
  refine ⟨s, G, ρ, Z, sm, ?_⟩
  cases e : m s G with
  | ok u G' =>
    rw [e] at h
    exact fun H' ρ' Z' x rl => hk u G' H' ρ' Z' x (sm.ex x rl) (RE.ex h x)
  | exc x G' => rw [e] at h; exact h
  | bad => rw [e] at h; exact h
theorem tT_bindB {m : Sg → List Ob → Rs Bool} {f : Bool → List Ob → Rs Bool} {Q : Bool → Hp → Prop} {k : Bool → Hp → Prop} (sm : Sm T σ H s G ρ Z) (h : RB T W σ H ρ Z Q ((m s G).bind f))
    (hk : ∀ u G' H' ρ' Z', Ex ρ Z H ρ' Z' H' → Sm T σ H' s G' ρ' Z' → RB T W σ H' ρ' Z' Q (f u G') → k u H') : tT T W m σ H k := by
  refine ⟨s, G, ρ, Z, sm, ?_⟩
  cases e : m s G with
  | ok u G' =>
    rw [e] at h
    exact fun H' ρ' Z' x rl => hk u G' H' ρ' Z' x (sm.ex x rl) (RB.ex h x)
  | exc x G' => rw [e] at h; exact h
  | bad => rw [e] at h; exact h
end

/-! ### the judgements, weakened -/
section
variable {X : Cx}
theorem PE.imp {e : Expr} {t t' : TE} (h : PE X e t) (i : ∀ σ H Q, t' σ H Q → t σ H Q) : PE X e t' := ⟨fun pins s σ H Q I q => h.run pins s σ H Q I (i σ H Q q)⟩
theorem PT.imp {e : Expr} {t t' : TT} (h : PT X e t) (i : ∀ σ H Q, t' σ H Q → t σ H Q) : PT X e t' := ⟨fun pins s σ H Q I q => h.run pins s σ H Q I (i σ H Q q)⟩
theorem PW.imp {e : Expr} {t t' : TT} (h : PW X e t) (i : ∀ σ H Q, t' σ H Q → t σ H Q) : PW X e t' := ⟨fun wh pins s σ H Q I q => h.run wh pins s σ H Q I (i σ H Q q)⟩
theorem PA.imp {e : List Expr} {t t' : TA} (h : PA X e t) (i : ∀ σ H Q, t' σ H Q → t σ H Q) : PA X e t' := ⟨fun pos pins s σ H Q I q => h.run pos pins s σ H Q I (i σ H Q q)⟩
theorem PS.imp {e : Stmt} {t t' : TS} (h : PS X e t) (i : ∀ D σ H, t' D σ H → t D σ H) : PS X e t' := ⟨fun pins s σ H D I q => h.run pins s σ H D I (i D σ H q)⟩
theorem PSs.imp {e : List Stmt} {t t' : TS} (h : PSs X e t) (i : ∀ D σ H, t' D σ H → t D σ H) : PSs X e t' := ⟨fun pins s σ H D I q => h.run pins s σ H D I (i D σ H q)⟩
theorem PG.imp {e : Expr} {t t' : TG} (h : PG X e t) (i : ∀ v σ H Q, t' v σ H Q → t v σ H Q) : PG X e t' := ⟨fun pins s σ H v u Q I r q => h.run pins s σ H v u Q I r (i v σ H Q q)⟩
theorem PE.bad {e : Expr} {T : Tb} {W : WX} {m : ME} (h : ∀ s G, m s G = .bad) : PE X e (tE T W m) := ⟨fun _ _ _ _ _ _ ⟨s, G, _, _, _, q⟩ => by rw [h] at q; exact q.elim⟩
theorem PT.bad {e : Expr} {T : Tb} {W : WX} {m : Sg → List Ob → Rs Bool} (h : ∀ s G, m s G = .bad) : PT X e (tT T W m) := ⟨fun _ _ _ _ _ _ ⟨s, G, _, _, _, q⟩ => by rw [h] at q; exact q.elim⟩
theorem PA.bad {e : List Expr} {T : Tb} {W : WX} {m : MA} (h : ∀ s G, m s G = .bad) : PA X e (tA T W m) := ⟨fun _ _ _ _ _ _ _ ⟨s, G, _, _, _, q⟩ => by rw [h] at q; exact q.elim⟩
theorem PS.bad {e : Stmt} {T : Tb} {W : WX} {m : MS} (h : ∀ s G, m s G = .bad) : PS X e (tS T W m) := ⟨fun _ _ _ _ _ _ ⟨s, G, _, _, _, q⟩ => by rw [h] at q; exact q.elim⟩
theorem PSs.bad {e : List Stmt} {T : Tb} {W : WX} {m : MS} (h : ∀ s G, m s G = .bad) : PSs X e (tS T W m) := ⟨fun _ _ _ _ _ _ ⟨s, G, _, _, _, q⟩ => by rw [h] at q; exact q.elim⟩
end
end FL

/-! FL3: what stands behind a value; new objects; names, constants, operators. -/
namespace FL
open PySem L2
abbrev szL : Nat := 16777216
theorem szL_eq : sizeLine = szL := sizeLine_eq

section
variable {T : Tb} {W : WX} {σ σ' : St} {H H' : Hp} {ρ ρ' : List Addr} {Z Z' : Addr → Prop} {s : Sg} {G : List Ob}
theorem Rep.inv_int {v : V} {i : Int} (r : Rep T ρ Z H v (.int i)) : v = .int i := by cases r; rfl
theorem Rep.inv_bl {v : V} {i : Bool} (r : Rep T ρ Z H v (.bl i)) : v = .bl i := by cases r; rfl
theorem Rep.inv_non {v : V} (r : Rep T ρ Z H v .non) : v = .non := by cases r; rfl
theorem Rep.inv_str {v : V} {l : List Nat} (r : Rep T ρ Z H v (.str l)) : v = .str (SS l) := by
  cases r with
  | str x => simp [SS]
theorem SS_tl (x : Str) : SS x.cps.toList = x := by simp [SS]
theorem tl_SS (l : List Nat) : (SS l).cps.toList = l := by simp [SS]
theorem Rep.ss (l : List Nat) : Rep T ρ Z H (.str (SS l)) (.str l) := by
  have h : Rep T ρ Z H (.str (SS l)) (.str (SS l).cps.toList) := .str _
  rw [tl_SS] at h
  exact h
theorem Rep.inv_tup {v : V} {us : List U} (r : Rep T ρ Z H v (.tup us)) : ∃ a vs, v = .ref a ∧ SqT T.K H a vs ∧ Reps T ρ Z H vs us := by
  cases r with
  | tup h q => exact ⟨_, _, rfl, h, q⟩
theorem Rep.inv_lst {v : V} {us : List U} (r : Rep T ρ Z H v (.lst us)) : ∃ a vs, v = .ref a ∧ H a = some (.lst vs) ∧ ¬ Z a ∧ Reps T ρ Z H vs us := by
  cases r with
  | lst h z q => exact ⟨_, _, rfl, h, z, q⟩
theorem Rep.inv_sc {v : V} {us : List U} (r : Rep T ρ Z H v (.sc us)) : ∃ a vs, v = .ref a ∧ SqL T.K H a vs ∧ Reps T ρ Z H vs us := by
  cases r with
  | sc h q => exact ⟨_, _, rfl, h.sqL, q⟩
theorem Rep.inv_ref {v : V} {i : Nat} (r : Rep T ρ Z H v (.ref i)) : ∃ a, v = .ref a ∧ ρ[i]? = some a := by
  cases r with
  | ref h => exact ⟨_, rfl, h⟩

theorem Reps.length : ∀ {vs : List V} {us : List U}, Reps T ρ Z H vs us → vs.length = us.length
  | _, _, .nil => rfl
  | _, _, .cons _ t => congrArg (· + 1) (Reps.length t)
theorem Reps.get : ∀ {vs : List V} {us : List U} {i : Nat} {u : U}, Reps T ρ Z H vs us → us[i]? = some u → ∃ v, vs[i]? = some v ∧ Rep T ρ Z H v u
  | _, _, _, _, .nil, e => by simp at e
  | _, _, 0, _, .cons r _, e => by simp at e; subst e; exact ⟨_, rfl, r⟩
  | _, _, i + 1, u, .cons _ t, e => by
    obtain ⟨v, h1, h2⟩ := Reps.get (i := i) (u := u) t (by simpa using e)
    exact ⟨v, by simpa using h1, h2⟩
theorem Reps.append : ∀ {vs ws : List V} {us xs : List U}, Reps T ρ Z H vs us → Reps T ρ Z H ws xs → Reps T ρ Z H (vs ++ ws) (us ++ xs)
  | _, _, _, _, .nil, q => q
  | _, _, _, _, .cons r t, q => .cons r (Reps.append t q)
theorem Reps.take : ∀ {vs : List V} {us : List U} (n : Nat), Reps T ρ Z H vs us → Reps T ρ Z H (vs.take n) (us.take n)
  | _, _, 0, _ => by simp; exact .nil
  | _, _, _ + 1, .nil => .nil
  | _, _, n + 1, .cons r t => .cons r (Reps.take n t)
theorem Reps.drop : ∀ {vs : List V} {us : List U} (n : Nat), Reps T ρ Z H vs us → Reps T ρ Z H (vs.drop n) (us.drop n)
  | _, _, 0, r => r
  | _, _, _ + 1, .nil => .nil
  | _, _, n + 1, .cons _ t => Reps.drop n t
theorem Reps.set {v : V} {u : U} (r : Rep T ρ Z H v u) : ∀ {vs : List V} {us : List U} (n : Nat), Reps T ρ Z H vs us → Reps T ρ Z H (vs.set n v) (us.set n u)
  | _, _, _, .nil => .nil
  | _, _, 0, .cons _ t => .cons r t
  | _, _, n + 1, .cons q t => .cons q (Reps.set r n t)
theorem Reps.eraseIdx : ∀ {vs : List V} {us : List U} (n : Nat), Reps T ρ Z H vs us → Reps T ρ Z H (vs.eraseIdx n) (us.eraseIdx n)
  | _, _, _, .nil => .nil
  | _, _, 0, .cons _ t => t
  | _, _, n + 1, .cons q t => .cons q (Reps.eraseIdx n t)
theorem Reps.dropLast {vs : List V} {us : List U} (r : Reps T ρ Z H vs us) : Reps T ρ Z H vs.dropLast us.dropLast := by
  rw [List.dropLast_eq_take, List.dropLast_eq_take, r.length]
  exact r.take _
theorem Reps.reverse : ∀ {vs : List V} {us : List U}, Reps T ρ Z H vs us → Reps T ρ Z H vs.reverse us.reverse
  | _, _, .nil => .nil
  | _, _, .cons r t => by
    rw [List.reverse_cons, List.reverse_cons]
    exact (Reps.reverse t).append (.cons r .nil)
theorem Reps.rep {vs : List V} {us : List U} (r : Reps T ρ Z H vs us) : ∀ k : Nat, Reps T ρ Z H (List.replicate k vs).flatten (List.replicate k us).flatten
  | 0 => .nil
  | k + 1 => by
    rw [List.replicate_succ, List.replicate_succ, List.flatten_cons, List.flatten_cons]
    exact r.append (Reps.rep r k)
theorem Reps.ints : ∀ {ns : List Int} {vs : List V}, Reps T ρ Z H vs (ns.map U.int) → vs = ns.map V.int
  | [], _, r => by cases r; rfl
  | n :: ns, _, r => by
    cases r with
    | cons a b => rw [a.inv_int, Reps.ints b]; rfl
theorem Reps.of_ints : ∀ (ns : List Int), Reps T ρ Z H (ns.map V.int) (ns.map U.int)
  | [] => .nil
  | n :: ns => .cons (.int n) (Reps.of_ints ns)

/-- the list that a value is (a cell, a frozen one, a locked one) -/
def lstOf (G : List Ob) : U → Option (List U)
  | .lst l => some l
  | .sc l => some l
  | .ref i => match G[i]? with
    | some (.lst l) => some l
    | _ => none
  | _ => none
/-- .. that is no locked one -/
def lstOfW (G : List Ob) : U → Option (List U)
  | .lst l => some l
  | .ref i => match G[i]? with
    | some (.lst l) => some l
    | _ => none
  | _ => none
theorem lstOfW_at {u : U} {l : List U} {v : V} (rl : Rl T ρ Z G H) (r : Rep T ρ Z H v u) (e : lstOfW G u = some l) : ∃ a vs, v = .ref a ∧ H a = some (.lst vs) ∧ Reps T ρ Z H vs l := by
  cases u with
  | lst l' =>
    cases e
    obtain ⟨a, vs, h1, h2, _, h3⟩ := r.inv_lst
    exact ⟨a, vs, h1, h2, h3⟩
  | ref i =>
    obtain ⟨a, ev, h⟩ := r.inv_ref
    simp only [lstOfW] at e
    cases g : G[i]? with
    | none => rw [g] at e; cases e
    | some o =>
      rw [g] at e
      cases o with
      | lst l' =>
        cases e
        have ob := rl.ob i a _ h g
        obtain ⟨_, vs, h2, h3⟩ := ob
        exact ⟨a, vs, ev, h2, h3⟩
      | _ => cases e
  | _ => cases e
theorem lstOf_at {u : U} {l : List U} {v : V} (rl : Rl T ρ Z G H) (r : Rep T ρ Z H v u) (e : lstOf G u = some l) : ∃ a vs, v = .ref a ∧ SqL T.K H a vs ∧ Reps T ρ Z H vs l := by
  cases u with
  | sc l' =>
    cases e
    exact r.inv_sc
  | lst l' =>
    obtain ⟨a, vs, h1, h2, h3⟩ := lstOfW_at rl r (show lstOfW G (.lst l') = some l from e)
    exact ⟨a, vs, h1, SqL.of h2, h3⟩
  | ref l' =>
    obtain ⟨a, vs, h1, h2, h3⟩ := lstOfW_at rl r (show lstOfW G (.ref l') = some l from e)
    exact ⟨a, vs, h1, SqL.of h2, h3⟩
  | _ => cases e

/-! ### new objects -/
theorem Rl.nz (rl : Rl T ρ Z G H) {p : Addr} (h : H p = none) : ¬ Z p := fun z => by have m := rl.zm p z; rw [h] at m; exact m
theorem Rl.nin (rl : Rl T ρ Z G H) {p : Addr} (h : H p = none) : p ∉ ρ := fun z => rl.trk p z h
theorem ex_new {o : HO} {p : Addr} (hp : H p = none) : Ex ρ Z H ρ Z (upd H p o) :=
  ⟨⟨[], by simp⟩, fun a o h z => ⟨by rw [upd_ne (ne_of_none h hp)]; exact h, z⟩, fun a o h z n => ⟨by rw [upd_ne (ne_of_none h hp)]; exact h, z, n⟩, fun a h => by
    by_cases e : a = p
    · subst e; exact absurd hp h
    · rw [upd_ne e]; exact h⟩
theorem ObAt.ex {a : Addr} {o : Ob} (zm : ∀ a, Z a → Mut (H a)) (x : Ex ρ Z H ρ' Z' H') (h : ObAt T ρ Z H a o) (he : ∀ u, H a = some u → H' a = some u) (hz : Z a → Z' a) : ObAt T ρ' Z' H' a o := by
  cases o with
  | dead => trivial
  | lst us =>
    obtain ⟨z, vs, h1, h2⟩ := h
    exact ⟨hz z, vs, he _ h1, h2.ex zm x⟩
  | dct l =>
    obtain ⟨z, vs, h1, h2⟩ := h
    exact ⟨hz z, vs, he _ h1, h2.ex zm x⟩
  | ins c l =>
    obtain ⟨z, C, dx, vs, h1, h2, h3⟩ := h
    exact ⟨hz z, C, dx, vs, he _ h1, h2, h3.ex zm x⟩
theorem Rl.new {o : HO} {p : Addr} (rl : Rl T ρ Z G H) (hp : H p = none) : Rl T ρ Z G (upd H p o) where
  len := rl.len
  nd := rl.nd
  zm := fun a z => by
    rw [upd_ne (fun e : a = p => rl.nz hp (e ▸ z))]
    exact rl.zm a z
  trk := fun a h => (ex_new (ρ := ρ) (Z := Z) hp).th a (rl.trk a h)
  ob := fun i a o' h g => ObAt.ex rl.zm (ex_new hp) (rl.ob i a o' h g) (fun u e => by rw [upd_ne (ne_of_none e hp)]; exact e) fun z => z
/-- .. that becomes a cell -/
def zOr (Z : Addr → Prop) (p : Addr) : Addr → Prop := fun a => Z a ∨ a = p
theorem ex_cell {o : HO} {p : Addr} (rl : Rl T ρ Z G H) (hp : H p = none) : Ex ρ Z H (ρ ++ [p]) (zOr Z p) (upd H p o) :=
  ⟨⟨[p], rfl⟩, fun a o h z => ⟨by rw [upd_ne (ne_of_none h hp)]; exact h, fun q => q.elim z (ne_of_none h hp)⟩,
    fun a o h z n => ⟨by rw [upd_ne (ne_of_none h hp)]; exact h, .inl z, fun q => by
      rcases List.mem_append.mp q with q | q
      · exact n q
      · exact ne_of_none h hp (by simpa using q)⟩, (ex_new (ρ := ρ) (Z := Z) hp).th⟩
theorem Rl.cell {o : HO} {p : Addr} {ob : Ob} (rl : Rl T ρ Z G H) (hp : H p = none) (mu : Mut (some o)) (h : ObAt T (ρ ++ [p]) (zOr Z p) (upd H p o) p ob) : Rl T (ρ ++ [p]) (zOr Z p) (G ++ [ob]) (upd H p o) where
  len := by rw [List.length_append, List.length_append, rl.len]; rfl
  nd := by
    rw [List.nodup_append]
    refine ⟨rl.nd, by simp, fun a ha b hb => ?_⟩
    have e : b = p := by simpa using hb
    subst e
    exact fun q => rl.nin hp (q ▸ ha)
  zm := fun a z => by
    rcases z with z | z
    · rw [upd_ne (fun e : a = p => rl.nz hp (e ▸ z))]
      exact rl.zm a z
    · subst z
      rw [upd_same]
      exact mu
  trk := fun a h => by
    rcases List.mem_append.mp h with q | q
    · exact (ex_new (ρ := ρ) (Z := Z) hp).th a (rl.trk a q)
    · have e : a = p := by simpa using q
      subst e
      rw [upd_same]
      exact fun z => by cases z
  ob := fun i a o' h1 g => by
    by_cases hi : i < ρ.length
    · rw [List.getElem?_append_left hi] at h1
      rw [List.getElem?_append_left (by rw [← rl.len]; exact hi)] at g
      exact ObAt.ex rl.zm (ex_cell rl hp) (rl.ob i a o' h1 g) (fun u e => by rw [upd_ne (ne_of_none e hp)]; exact e) .inl
    · have hi2 : i = ρ.length := by
        have := (List.getElem?_eq_some_iff.mp h1).1
        simp at this
        omega
      subst hi2
      rw [List.getElem?_append_right (Nat.le_refl _)] at h1
      rw [List.getElem?_append_right (by rw [rl.len]; exact Nat.le_refl _)] at g
      simp [rl.len] at h1 g
      subst h1
      subst g
      exact h

/-- a new list: frozen, or a cell -/
def newL (mu : Bool) (us : List U) (G : List Ob) : Rs U := if us.length ≤ szL then (if mu then .ok (.ref G.length) (G ++ [.lst us]) else .ok (.lst us) G) else .bad
def newT (us : List U) (G : List Ob) : Rs U := if us.length ≤ szL then .ok (.tup us) G else .bad
theorem newL_ok {mu : Bool} {us : List U} {vs : List V} {Q : VK} (rl : Rl T ρ Z G H) (r : Reps T ρ Z H vs us) (h : RE T W σ H ρ Z Q (newL mu us G)) :
    vs.length ≤ sizeLine ∧ ∀ p, H p = none → Q (.ref p) (upd H p (.lst vs)) := by
  unfold newL at h
  by_cases hz : us.length ≤ szL
  · rw [if_pos hz] at h
    refine ⟨by rw [r.length, szL_eq]; exact hz, fun p hp => ?_⟩
    cases mu with
    | false => exact h _ _ ρ Z (ex_new hp) (rl.new hp) (.lst upd_same (rl.nz hp) (r.ex rl.zm (ex_new hp)))
    | true =>
      refine h _ _ _ _ (ex_cell rl hp) (rl.cell hp trivial ⟨.inr rfl, vs, upd_same, r.ex rl.zm (ex_cell rl hp)⟩) (.ref ?_)
      rw [List.getElem?_append_right (by rw [rl.len]; exact Nat.le_refl _)]
      simp [rl.len]
  · rw [if_neg hz] at h
    exact h.elim
theorem newT_ok {us : List U} {vs : List V} {Q : VK} (rl : Rl T ρ Z G H) (r : Reps T ρ Z H vs us) (h : RE T W σ H ρ Z Q (newT us G)) :
    vs.length ≤ sizeLine ∧ ∀ p, H p = none → Q (.ref p) (upd H p (.tup vs)) := by
  unfold newT at h
  by_cases hz : us.length ≤ szL
  · rw [if_pos hz] at h
    refine ⟨by rw [r.length, szL_eq]; exact hz, fun p hp => ?_⟩
    exact h _ _ ρ Z (ex_new hp) (rl.new hp) (.tup (SqT.of upd_same) (r.ex rl.zm (ex_new hp)))
  · rw [if_neg hz] at h
    exact h.elim
end
end FL

/-! FL4: names, constants, operators, comparisons. -/
namespace FL
open PySem L2
section
variable {X : Cx} {T : Tb} {W : WX}

/-! ### names, constants -/
def varM (i : Nat) : ME := fun s G => match s[i]? with
  | some (some u) => .ok u G
  | _ => .bad
def litM (u : U) : ME := fun _ G => .ok u G
theorem fe_var {i : Nat} {x : Str} {pos : Pos} (hN : X.N[i]? = some x) (hv : Vis X.env.scope x) (hd : (x == ("__debug__" : Str)) = false) (hcd : (x == ("__classdict__" : Str)) = false) : PE X (.Name x pos) (tE T W (varM i)) :=
  PE.imp (pe_var hN hv hd hcd) fun σ H Q ⟨s, G, ρ, Z, sm, h⟩ => by
    unfold varM at h
    cases e : s[i]? with
    | none => rw [e] at h; exact h.elim
    | some o =>
      cases o with
      | none => rw [e] at h; exact h.elim
      | some u =>
        rw [e] at h
        obtain ⟨v, e1, r⟩ := sm.fm.2 i u e
        exact ⟨v, e1, h v H ρ Z Ex.refl sm.rl r⟩
theorem fe_lit {e : Expr} {v : V} {u : U} (he : PE X e (tC v)) (hr : ∀ ρ Z H, Rep T ρ Z H v u) : PE X e (tE T W (litM u)) :=
  PE.imp he fun σ H Q ⟨s, G, ρ, Z, sm, h⟩ => h v H ρ Z Ex.refl sm.rl (hr ρ Z H)

/-! ### two operands -/
def bin2 (f : U → U → List Ob → Rs U) (a b : ME) : ME := fun s G => (a s G).bind fun x G1 => (b s G1).bind fun y G2 => f x y G2
def O2 (T : Tb) (W : WX) (f : U → U → List Ob → Rs U) (r : R2) : Prop :=
  ∀ (σ : St) (H : Hp) (s : Sg) (G : List Ob) (ρ : List Addr) (Z : Addr → Prop) (x y : V) (u w : U) (Q : VK), Sm T σ H s G ρ Z → Rep T ρ Z H x u → Rep T ρ Z H y w → RE T W σ H ρ Z Q (f u w G) → r x y H Q
theorem O2.top {f : U → U → List Ob → Rs U} {r : R2} (h : O2 T W f r) {ma mb : ME} {σ : St} {H : Hp} {Q : VK} (q : tE T W (bin2 f ma mb) σ H Q) : tOp r (tE T W ma) (tE T W mb) σ H Q := by
  obtain ⟨s, G, ρ, Z, sm, q⟩ := q
  refine tE_bind sm q fun u G1 x H1 ρ1 Z1 x1 sm1 r1 q1 => ?_
  refine tE_bind sm1 q1 fun w G2 y H2 ρ2 Z2 x2 sm2 r2 q2 => ?_
  exact h _ _ _ _ _ _ _ _ _ _ _ sm2 (r1.ex sm1.rl.zm x2) r2 q2
theorem fe_bin {op : Operator} {f : U → U → List Ob → Rs U} {r : R2} {a b : Expr} {pos : Pos} {ma mb : ME} (ho : OpR X (binaryOp op) r) (h : O2 T W f r) (ha : PE X a (tE T W ma)) (hb : PE X b (tE T W mb)) : PE X (.BinOp a op b pos) (tE T W (bin2 f ma mb)) :=
  PE.imp (pe_op ho ha hb) fun _ _ _ q => h.top q
theorem fe_cmp {op : CmpOp} {f : U → U → List Ob → Rs U} {r : R2} {a b : Expr} {pos : Pos} {ma mb : ME} (ho : OpR X (compareOp op) r) (h : O2 T W f r) (ha : PE X a (tE T W ma)) (hb : PE X b (tE T W mb)) (hm : behindInMarks op b = false) :
    PE X (.Compare a [op] [b] pos) (tE T W (bin2 f ma mb)) := PE.imp (pe_cmpR ho ha hb hm) fun _ _ _ q => h.top q
theorem OpR.or2 {f : Value → Value → Sem Value} {r r' : R2} (h : OpR X f r) (h' : OpR X f r') : OpR X f (fun x y H Q => r x y H Q ∨ r' x y H Q) := OpR.or h h'

def addU (mu : Bool) : U → U → List Ob → Rs U := fun x y G => match x, y with
  | .int i, .int j => .ok (.int (i + j)) G
  | .str a, .str b => if a.length + b.length ≤ szL then .ok (.str (a ++ b)) G else .bad
  | .tup a, .tup b => if a.length + b.length ≤ szL then .ok (.tup (a ++ b)) G else .bad
  | x, y => match lstOfW G x, lstOfW G y with
    | some a, some b => newL mu (a ++ b) G
    | _, _ => .bad
abbrev rCatS : R2 := fun x y H Q => ∃ i j, x = .str i ∧ y = .str j ∧ i.length + j.length ≤ sizeLine ∧ Q (.str (i ++ j)) H
abbrev rAddA (K : PySem.W.Frag) : R2 := fun x y H Q => rI0 (fun i j => .int (i + j)) x y H Q ∨ rCatS x y H Q ∨ rCatA K x y H Q ∨ rCat x y H Q
theorem op_addA : OpR X (binaryOp .Add) (rAddA X.K) := OpR.or op_add (OpR.or op_add_str (OpR.or op_catA op_cat))
theorem strLen (a : List Nat) : (SS a).length = a.length := SX.S_len a
theorem o2_add {mu : Bool} (hT : X.K = T.K) : O2 T W (addU mu) (rAddA X.K) := by
  intro σ H s G ρ Z x y u w Q sm r1 r2 h
  have lists : ∀ {a b : List U}, lstOfW G u = some a → lstOfW G w = some b → RE T W σ H ρ Z Q (newL mu (a ++ b) G) → rCat x y H Q := fun {a b} e1 e2 h => by
    obtain ⟨p, vs, rfl, h1, q1⟩ := lstOfW_at sm.rl r1 e1
    obtain ⟨p', ws, rfl, h2, q2⟩ := lstOfW_at sm.rl r2 e2
    obtain ⟨hz, hq⟩ := newL_ok sm.rl (q1.append q2) h
    exact ⟨p, p', vs, ws, rfl, rfl, h1, h2, by rw [List.length_append] at hz; exact hz, hq⟩
  have gen : RE T W σ H ρ Z Q (match lstOfW G u, lstOfW G w with | some a, some b => newL mu (a ++ b) G | _, _ => .bad) → rAddA X.K x y H Q := fun h => by
    cases e1 : lstOfW G u with
    | none => rw [e1] at h; exact h.elim
    | some a =>
      cases e2 : lstOfW G w with
      | none => rw [e1, e2] at h; exact h.elim
      | some b => rw [e1, e2] at h; exact .inr (.inr (.inr (lists e1 e2 h)))
  unfold addU at h
  split at h
  · rename_i i j
    exact .inl ⟨i, j, r1.inv_int, r2.inv_int, h _ H ρ Z Ex.refl sm.rl (.int _)⟩
  · rename_i a b
    by_cases hz : a.length + b.length ≤ szL
    · rw [if_pos hz] at h
      refine .inr (.inl ⟨SS a, SS b, r1.inv_str, r2.inv_str, by rw [strLen, strLen, szL_eq]; exact hz, ?_⟩)
      rw [show SS a ++ SS b = SS (a ++ b) from SX.S_cat a b]
      exact h _ H ρ Z Ex.refl sm.rl (Rep.ss _)
    · rw [if_neg hz] at h
      exact h.elim
  · rename_i a b
    by_cases hz : a.length + b.length ≤ szL
    · rw [if_pos hz] at h
      obtain ⟨p, vs, rfl, h1, q1⟩ := r1.inv_tup
      obtain ⟨p', ws, rfl, h2, q2⟩ := r2.inv_tup
      refine .inr (.inr (.inl ⟨p, p', vs, ws, rfl, rfl, hT ▸ h1, hT ▸ h2, by rw [q1.length, q2.length, szL_eq]; exact hz, fun e => ?_, fun e1 e => ?_, fun e1 e2 p hp => ?_⟩))
      · subst e
        cases q1
        exact h _ H ρ Z Ex.refl sm.rl (.tup h2 q2)
      · subst e
        cases q2
        rw [List.append_nil] at h
        exact h _ H ρ Z Ex.refl sm.rl (.tup h1 q1)
      · exact h _ _ ρ Z (ex_new hp) (sm.rl.new hp) (.tup (SqT.of upd_same) ((q1.append q2).ex sm.rl.zm (ex_new hp)))
    · rw [if_neg hz] at h
      exact h.elim
  · exact gen h

def subU : U → U → List Ob → Rs U := fun x y G => match x, y with
  | .int i, .int j => .ok (.int (i - j)) G
  | _, _ => .bad
theorem o2_sub : O2 T W subU (rI0 fun i j => .int (i - j)) := by
  intro σ H s G ρ Z x y u w Q sm r1 r2 h
  unfold subU at h
  split at h
  · exact ⟨_, _, r1.inv_int, r2.inv_int, h _ H ρ Z Ex.refl sm.rl (.int _)⟩
  · exact h.elim
/-- ints in, under a test, an int out -/
def intU (c : Int → Int → Bool) (g : Int → Int → Int) : U → U → List Ob → Rs U := fun x y G => match x, y with
  | .int i, .int j => if c i j then .ok (.int (g i j)) G else .bad
  | _, _ => .bad
theorem o2_int {c : Int → Int → Bool} {C : Int → Int → Prop} {g : Int → Int → Int} (hc : ∀ i j, c i j = true → C i j) : O2 T W (intU c g) (rI C fun i j => .int (g i j)) := by
  intro σ H s G ρ Z x y u w Q sm r1 r2 h
  unfold intU at h
  split at h
  · rename_i i j
    by_cases e : c i j = true
    · rw [if_pos e] at h
      exact ⟨_, _, r1.inv_int, r2.inv_int, hc _ _ e, h _ H ρ Z Ex.refl sm.rl (.int _)⟩
    · rw [if_neg e] at h
      exact h.elim
  · exact h.elim
def modU := intU (fun _ j => decide (j ≠ 0)) Int.fmod
def fdivU := intU (fun _ j => decide (j ≠ 0 ∧ j.natAbs < 1073741824)) Int.fdiv
def powU := intU (fun i j => decide (0 ≤ j ∧ j ≤ 1000000 ∧ i.natAbs < 2 ^ 64)) (fun i j => i ^ j.toNat)
theorem o2_mod : O2 T W modU (rI (fun _ j => j ≠ 0) fun i j => .int (i.fmod j)) := o2_int fun _ _ e => of_decide_eq_true e
theorem o2_fdiv : O2 T W fdivU (rI CDivN fun i j => .int (i.fdiv j)) := o2_int fun i j e => (show j ≠ 0 ∧ j.natAbs < 1073741824 from of_decide_eq_true e)
theorem o2_pow : O2 T W powU (rI CPow fun i j => .int (i ^ j.toNat)) := o2_int fun i j e => (show 0 ≤ j ∧ j ≤ 1000000 ∧ i.natAbs < 2 ^ 64 from of_decide_eq_true e)

def mulU (mu : Bool) : U → U → List Ob → Rs U := fun x y G => match x, y with
  | .int i, .int j => if (-(2 ^ 64) < i ∧ i < 2 ^ 64) ∨ (-(2 ^ 64) < j ∧ j < 2 ^ 64) then .ok (.int (i * j)) G else .bad
  | .tup a, .int k => if 1 ≤ a.length ∧ 2 ≤ k ∧ k ≤ 1000 ∧ a.length ≤ 1000 then .ok (.tup (List.replicate k.toNat a).flatten) G else .bad
  | x, .int k => match lstOfW G x with
    | some a => if -(2 ^ 63) ≤ k ∧ k < 2 ^ 63 then newL mu (List.replicate k.toNat a).flatten G else .bad
    | none => .bad
  | _, _ => .bad
abbrev rMulA (K : PySem.W.Frag) : R2 := fun x y H Q => rI CMul (fun i j => .int (i * j)) x y H Q ∨ rRepT K x y H Q ∨ rRep x y H Q
theorem op_mulA : OpR X (binaryOp .Mult) (rMulA X.K) := OpR.or op_mul (OpR.or op_repT op_rep)
theorem rep_length {α : Type} (l : List α) : ∀ k, (List.replicate k l).flatten.length = k * l.length
  | 0 => by simp
  | k + 1 => by rw [List.replicate_succ, List.flatten_cons, List.length_append, rep_length l k, Nat.succ_mul, Nat.add_comm]
theorem o2_mul {mu : Bool} (hT : X.K = T.K) : O2 T W (mulU mu) (rMulA X.K) := by
  intro σ H s G ρ Z x y u w Q sm r1 r2 h
  unfold mulU at h
  split at h
  · rename_i i j
    by_cases e : (-(2 ^ 64) < i ∧ i < 2 ^ 64) ∨ (-(2 ^ 64) < j ∧ j < 2 ^ 64)
    · rw [if_pos e] at h
      exact .inl ⟨i, j, r1.inv_int, r2.inv_int, e, h _ H ρ Z Ex.refl sm.rl (.int _)⟩
    · rw [if_neg e] at h
      exact h.elim
  · rename_i a k
    by_cases e : 1 ≤ a.length ∧ 2 ≤ k ∧ k ≤ 1000 ∧ a.length ≤ 1000
    · rw [if_pos e] at h
      obtain ⟨p, vs, rfl, h1, q1⟩ := r1.inv_tup
      refine .inr (.inl ⟨p, k, vs, rfl, r2.inv_int, hT ▸ h1, fun z => ?_, e.2.1, e.2.2.1, by rw [q1.length]; exact e.2.2.2, fun p hp => ?_⟩)
      · subst z
        have z1 := q1.length
        have z2 := e.1
        rw [← z1] at z2
        exact absurd z2 (by decide)
      · exact h _ _ ρ Z (ex_new hp) (sm.rl.new hp) (.tup (SqT.of upd_same) ((q1.rep _).ex sm.rl.zm (ex_new hp)))
    · rw [if_neg e] at h
      exact h.elim
  · rename_i k _ _
    cases e1 : lstOfW G u with
    | none => rw [e1] at h; exact h.elim
    | some a =>
      rw [e1] at h
      by_cases e : -(2 ^ 63) ≤ k ∧ k < 2 ^ 63
      · replace h := (by simpa only [if_pos e] using h : RE T W σ H ρ Z Q (newL mu (List.replicate k.toNat a).flatten G))
        obtain ⟨p, vs, rfl, h1, q1⟩ := lstOfW_at sm.rl r1 e1
        obtain ⟨hz, hq⟩ := newL_ok sm.rl (q1.rep k.toNat) h
        rw [rep_length, Nat.mul_comm] at hz
        exact .inr (.inr ⟨p, k, vs, rfl, r2.inv_int, h1, e.1, e.2, hz, hq⟩)
      · replace h := (by simpa only [if_neg e] using h : RE T W σ H ρ Z Q .bad)
        exact h.elim
  · exact h.elim

/-! ### comparisons -/
def cmpU (p : Int → Int → Bool) : U → U → List Ob → Rs U := fun x y G => match x, y with
  | .int i, .int j => .ok (.bl (p i j)) G
  | _, _ => .bad
theorem o2_cmp {p : Int → Int → Bool} : O2 T W (cmpU p) (rI0 fun i j => .bl (p i j)) := by
  intro σ H s G ρ Z x y u w Q sm r1 r2 h
  unfold cmpU at h
  split at h
  · exact ⟨_, _, r1.inv_int, r2.inv_int, h _ H ρ Z Ex.refl sm.rl (.bl _)⟩
  · exact h.elim
mutual
def toD0 (f : Nat → Option PyData) : U → Option PyData
  | .non => some .none
  | .bl b => some (.bool b)
  | .int i => some (.int i)
  | .str l => some (.str (SS l))
  | .tup l => (toD0s f l).map .tuple
  | .lst l => (toD0s f l).map .list
  | .ref i => f i
  | .sc _ => none
  | .dct _ => none
  | .ins _ _ => none
def toD0s (f : Nat → Option PyData) : List U → Option (List PyData)
  | [] => some []
  | x :: r => match toD0 f x, toD0s f r with
    | some a, some b => some (a :: b)
    | _, _ => none
end
def refD : Nat → List Ob → Nat → Option PyData
  | 0, _, _ => none
  | k + 1, G, i => match G[i]? with
    | some (.lst l) => (toD0s (refD k G) l).map .list
    | _ => none
def toD (G : List Ob) (u : U) : Option PyData := toD0 (refD 3 G) u
section
variable {σ : St} {H : Hp} {ρ : List Addr} {Z : Addr → Prop} {s : Sg} {G : List Ob}
mutual
theorem toD0_ok {f : Nat → Option PyData} (hf : ∀ i d a, f i = some d → ρ[i]? = some a → Dp T.K H (.ref a) d) : ∀ {v : V} {u : U} {d : PyData}, Rep T ρ Z H v u → toD0 f u = some d → Dp T.K H v d
  | _, _, _, .non, e => by simp [toD0] at e; subst e; exact .non
  | _, _, _, .bl b, e => by simp [toD0] at e; subst e; exact .bl b
  | _, _, _, .int b, e => by simp [toD0] at e; subst e; exact .int b
  | _, _, _, .str x, e => by
    simp only [toD0, SS_tl, Option.some.injEq] at e
    subst e
    exact .str x
  | _, _, _, .tup (us := us) h r, e => by
    simp only [toD0] at e
    cases e2 : toD0s f us with
    | none => rw [e2] at e; cases e
    | some ds =>
      rw [e2] at e
      cases e
      exact .tup h (toD0s_ok hf r e2)
  | _, _, _, .lst (us := us) h z r, e => by
    simp only [toD0] at e
    cases e2 : toD0s f us with
    | none => rw [e2] at e; cases e
    | some ds =>
      rw [e2] at e
      cases e
      exact .lst (SqL.of h) (toD0s_ok hf r e2)
  | _, _, _, .ref h, e => hf _ _ _ (by simpa only [toD0] using e) h
  | _, _, _, .sc h r, e => by simp [toD0] at e
  | _, _, _, .dct h z r, e => by simp [toD0] at e
  | _, _, _, .ins h z c r, e => by simp [toD0] at e
theorem toD0s_ok {f : Nat → Option PyData} (hf : ∀ i d a, f i = some d → ρ[i]? = some a → Dp T.K H (.ref a) d) : ∀ {v : List V} {u : List U} {d : List PyData}, Reps T ρ Z H v u → toD0s f u = some d → DpAll T.K H v d
  | _, _, _, .nil, e => by simp [toD0s] at e; subst e; exact .nil
  | _, _, _, .cons (u := u) (us := us) r t, e => by
    simp only [toD0s] at e
    cases e1 : toD0 f u with
    | none => rw [e1] at e; cases e
    | some a =>
      cases e2 : toD0s f us with
      | none => rw [e1, e2] at e; cases e
      | some b =>
        rw [e1, e2] at e
        cases e
        exact .cons (toD0_ok hf r e1) (toD0s_ok hf t e2)
end
theorem refD_ok (rl : Rl T ρ Z G H) : ∀ (k i : Nat) (d : PyData) (a : Addr), refD k G i = some d → ρ[i]? = some a → Dp T.K H (.ref a) d
  | 0, _, _, _, e, _ => by cases e
  | k + 1, i, d, a, e, h => by
    simp only [refD] at e
    cases g : G[i]? with
    | none => rw [g] at e; cases e
    | some o =>
      rw [g] at e
      cases o with
      | lst l =>
        simp only at e
        cases e2 : toD0s (refD k G) l with
        | none => rw [e2] at e; cases e
        | some ds =>
          rw [e2] at e
          cases e
          obtain ⟨_, vs, h2, h3⟩ := rl.ob i a _ h g
          exact .lst (SqL.of h2) (toD0s_ok (refD_ok rl k) h3 e2)
      | _ => cases e
theorem toD_ok (rl : Rl T ρ Z G H) {v : V} {u : U} {d : PyData} (r : Rep T ρ Z H v u) (e : toD G u = some d) : Dp T.K H v d := toD0_ok (refD_ok rl 3) r e
end
def eqU (neg : Bool) : U → U → List Ob → Rs U := fun x y G => match toD G x, toD G y with
  | some d, some e => if SeqAt.shaped d = true ∧ SeqAt.shaped e = true then .ok (.bl (if neg then !PyData.eqv d e else PyData.eqv d e)) G else .bad
  | _, _ => .bad
theorem o2_eq (hT : X.K = T.K) : O2 T W (eqU false) (rEqD X.K) := by
  intro σ H s G ρ Z x y u w Q sm r1 r2 h
  unfold eqU at h
  split at h
  · rename_i d e h1 h2
    by_cases z : SeqAt.shaped d = true ∧ SeqAt.shaped e = true
    · rw [if_pos z] at h
      exact ⟨d, e, hT ▸ toD_ok sm.rl r1 h1, hT ▸ toD_ok sm.rl r2 h2, z.1, z.2, h _ H ρ Z Ex.refl sm.rl (.bl _)⟩
    · rw [if_neg z] at h
      exact h.elim
  · exact h.elim
theorem o2_ne (hT : X.K = T.K) : O2 T W (eqU true) (rNeD X.K) := by
  intro σ H s G ρ Z x y u w Q sm r1 r2 h
  unfold eqU at h
  split at h
  · rename_i d e h1 h2
    by_cases z : SeqAt.shaped d = true ∧ SeqAt.shaped e = true
    · rw [if_pos z] at h
      exact ⟨d, e, hT ▸ toD_ok sm.rl r1 h1, hT ▸ toD_ok sm.rl r2 h2, z.1, z.2, h _ H ρ Z Ex.refl sm.rl (.bl _)⟩
    · rw [if_neg z] at h
      exact h.elim
  · exact h.elim

/-- is None, is True .. -/
def isNonU : U → Bool
  | .non => true
  | _ => false
def isU (neg : Bool) : U → U → List Ob → Rs U := fun x y G => match y with
  | .non => .ok (.bl (if neg then !isNonU x else isNonU x)) G
  | .bl b => match x with
    | .bl a => .ok (.bl (if neg then !decide (a = b) else decide (a = b))) G
    | _ => .ok (.bl neg) G
  | _ => .bad
/-- what is no bool is none of the two -/
def noBl : V → Bool
  | .non => true
  | .int _ => true
  | .str _ => true
  | .ref _ => true
  | _ => false
def rIsO (neg : Bool) : R2 := fun x y H Q => noBl x = true ∧ ∃ b : Bool, y = .bl b ∧ Q (.bl neg) H
theorem op_isO : OpR X (compareOp .Is) (rIsO false) := by
  intro pins s σ H x y v u Q I rx ry ⟨hx, b, ey, q⟩
  subst ey
  cases (show u = Value.bool b from ry)
  have hp : plainIs v (.bool b) = true ∧ v ≠ .bool b := by
    cases x with
    | non => cases (show v = Value.none from rx); exact ⟨rfl, by simp⟩
    | int i => obtain ⟨t, e⟩ := (show ∃ t, v = Value.int i t from rx); subst e; exact ⟨rfl, by simp⟩
    | str i => obtain ⟨t, e⟩ := (show ∃ t, v = Value.str i t from rx); subst e; exact ⟨rfl, by simp⟩
    | ref a => cases (show v = Value.ref a from rx); exact ⟨rfl, by simp⟩
    | _ => cases hx
  exact wpAny_is_other hp.1 hp.2 ⟨.bl false, H, I, rfl, q⟩
theorem op_notO : OpR X (compareOp .IsNot) (rIsO true) := by
  intro pins s σ H x y v u Q I rx ry ⟨hx, b, ey, q⟩
  subst ey
  cases (show u = Value.bool b from ry)
  have hp : plainIs v (.bool b) = true ∧ v ≠ .bool b := by
    cases x with
    | non => cases (show v = Value.none from rx); exact ⟨rfl, by simp⟩
    | int i => obtain ⟨t, e⟩ := (show ∃ t, v = Value.int i t from rx); subst e; exact ⟨rfl, by simp⟩
    | str i => obtain ⟨t, e⟩ := (show ∃ t, v = Value.str i t from rx); subst e; exact ⟨rfl, by simp⟩
    | ref a => cases (show v = Value.ref a from rx); exact ⟨rfl, by simp⟩
    | _ => cases hx
  exact wpAny_isNot_other hp.1 hp.2 ⟨.bl true, H, I, rfl, q⟩
theorem rep_noBl {ρ : List Addr} {Z : Addr → Prop} {H : Hp} {v : V} {u : U} (r : Rep T ρ Z H v u) (h : ∀ a, u ≠ .bl a) : noBl v = true := by
  cases r with
  | bl b => exact absurd rfl (h b)
  | _ => rfl
theorem rep_non {ρ : List Addr} {Z : Addr → Prop} {H : Hp} {v : V} {u : U} (r : Rep T ρ Z H v u) : decide (v = .non) = isNonU u := by
  cases r <;> simp [isNonU]
theorem o2_is : O2 T W (isU false) (fun x y H Q => (y = .non ∧ Q (.bl (decide (x = .non))) H) ∨ rIsB x y H Q ∨ rIsO false x y H Q) := by
  intro σ H s G ρ Z x y u w Q sm r1 r2 h
  unfold isU at h
  split at h
  · refine .inl ⟨r2.inv_non, ?_⟩
    rw [rep_non r1]
    exact h _ H ρ Z Ex.refl sm.rl (.bl _)
  · split at h
    · exact .inr (.inl ⟨_, _, r1.inv_bl, r2.inv_bl, h _ H ρ Z Ex.refl sm.rl (.bl _)⟩)
    · rename_i hn
      exact .inr (.inr ⟨rep_noBl r1 hn, _, r2.inv_bl, h _ H ρ Z Ex.refl sm.rl (.bl _)⟩)
  · exact h.elim
theorem o2_isnot : O2 T W (isU true) (fun x y H Q => (y = .non ∧ Q (.bl (!decide (x = .non))) H) ∨ rNotB x y H Q ∨ rIsO true x y H Q) := by
  intro σ H s G ρ Z x y u w Q sm r1 r2 h
  unfold isU at h
  split at h
  · refine .inl ⟨r2.inv_non, ?_⟩
    rw [rep_non r1]
    exact h _ H ρ Z Ex.refl sm.rl (.bl _)
  · split at h
    · exact .inr (.inl ⟨_, _, r1.inv_bl, r2.inv_bl, h _ H ρ Z Ex.refl sm.rl (.bl _)⟩)
    · rename_i hn
      exact .inr (.inr ⟨rep_noBl r1 hn, _, r2.inv_bl, h _ H ρ Z Ex.refl sm.rl (.bl _)⟩)
  · exact h.elim

/-! ### in, not in -/
def flatU : U → Bool
  | .non => true
  | .bl _ => true
  | .int _ => true
  | .str _ => true
  | _ => false
def eqF : U → U → Bool
  | .non, .non => true
  | .bl a, .bl b => a == b
  | .bl a, .int b => (if a then 1 else 0) == b
  | .int a, .bl b => a == (if b then 1 else 0)
  | .int a, .int b => a == b
  | .str a, .str b => a == b
  | _, _ => false
def infB (y : List Nat) : List Nat → Bool
  | [] => y.isEmpty
  | c :: t => y.isPrefixOf (c :: t) || infB y t
theorem eqV_eqF {ρ : List Addr} {Z : Addr → Prop} {H : Hp} {v w : V} {u x : U} (r : Rep T ρ Z H v u) (q : Rep T ρ Z H w x) (f : flatU u = true) (g : flatU x = true) : eqV v w = eqF u x := by
  have hstr : ∀ a b : Str, (a == b) = (a.cps.toList == b.cps.toList) := fun a b => (PyProof.Rows.toList_beq a b).symm
  cases r <;> cases q <;> first | rfl | exact hstr _ _ | (simp [flatU] at f) | (simp [flatU] at g)
theorem flatV_of {ρ : List Addr} {Z : Addr → Prop} {H : Hp} {v : V} {u : U} (r : Rep T ρ Z H v u) (f : flatU u = true) : flatV v = true := by
  cases r <;> first | rfl | (simp [flatU] at f)
theorem flats_of {ρ : List Addr} {Z : Addr → Prop} {H : Hp} : ∀ {vs : List V} {us : List U}, Reps T ρ Z H vs us → us.all flatU = true → vs.all flatV = true
  | _, _, .nil, _ => rfl
  | _, _, .cons r t, f => by
    rw [List.all_cons, Bool.and_eq_true] at f
    rw [List.all_cons, Bool.and_eq_true]
    exact ⟨flatV_of r f.1, flats_of t f.2⟩
theorem inV_of {ρ : List Addr} {Z : Addr → Prop} {H : Hp} {x : V} {u : U} (r : Rep T ρ Z H x u) (fu : flatU u = true) : ∀ {vs : List V} {us : List U}, Reps T ρ Z H vs us → us.all flatU = true → inV x vs = us.any fun y => eqF y u
  | _, _, .nil, _ => rfl
  | _, _, .cons q t, f => by
    rw [List.all_cons, Bool.and_eq_true] at f
    have ih := inV_of r fu t f.2
    unfold inV at ih ⊢
    rw [List.any_cons, List.any_cons, eqV_eqF q r f.1 fu, ih]
/-- the items of a list or tuple -/
def seqOf (G : List Ob) : U → Option (List U)
  | .tup l => some l
  | u => lstOf G u
theorem seqOf_at {σ : St} {ρ : List Addr} {Z : Addr → Prop} {H : Hp} {G : List Ob} {u : U} {l : List U} {v : V} (rl : Rl T ρ Z G H) (r : Rep T ρ Z H v u) (e : seqOf G u = some l) : ∃ a vs, v = .ref a ∧ (SqL T.K H a vs ∨ SqT T.K H a vs) ∧ Reps T ρ Z H vs l := by
  unfold seqOf at e
  split at e
  · cases e
    obtain ⟨a, vs, h1, h2, h3⟩ := r.inv_tup
    exact ⟨a, vs, h1, .inr h2, h3⟩
  · obtain ⟨a, vs, h1, h2, h3⟩ := lstOf_at rl r e
    exact ⟨a, vs, h1, .inl h2, h3⟩
theorem infB_iff (y : List Nat) : ∀ x : List Nat, infB y x = true ↔ ∃ i, i + y.length ≤ x.length ∧ (x.drop i).take y.length = y
  | [] => by
    constructor
    · intro h
      have e : y = [] := List.isEmpty_iff.mp h
      subst e
      exact ⟨0, Nat.le_refl _, rfl⟩
    · rintro ⟨i, h, _⟩
      have e : y.length = 0 := by
        have h' : i + y.length ≤ 0 := h
        omega
      have e : y = [] := List.length_eq_zero_iff.mp e
      subst e
      rfl
  | c :: t => by
    have ih := infB_iff y t
    unfold infB
    rw [Bool.or_eq_true, ih, List.isPrefixOf_iff_prefix]
    constructor
    · rintro (h | ⟨i, h, e⟩)
      · exact ⟨0, by rw [Nat.zero_add]; exact h.length_le, by rw [List.drop_zero]; exact (List.prefix_iff_eq_take.mp h).symm⟩
      · exact ⟨i + 1, by simp; omega, by simpa using e⟩
    · rintro ⟨i, h, e⟩
      cases i with
      | zero => exact .inl (List.prefix_iff_eq_take.mpr (by simpa using e.symm))
      | succ i => exact .inr ⟨i, by simp at h; omega, by simpa using e⟩
def inU (neg : Bool) : U → U → List Ob → Rs U := fun x y G => match x, y with
  | .str a, .str b => .ok (.bl (if neg then !infB a b else infB a b)) G
  | x, y => match seqOf G y with
    | some l => if flatU x = true ∧ l.all flatU = true then .ok (.bl (if neg then !(l.any fun z => eqF z x) else (l.any fun z => eqF z x))) G
      else match toD G x, toD G y with
        | some d, some (.list ds) => if SeqAt.shaped d = true ∧ SeqAt.shaped (.list ds) = true then .ok (.bl (if neg then !(ds.any fun z => PyData.eqv z d) else (ds.any fun z => PyData.eqv z d))) G else .bad
        | some d, some (.tuple ds) => if SeqAt.shaped d = true ∧ SeqAt.shaped (.list ds) = true then .ok (.bl (if neg then !(ds.any fun z => PyData.eqv z d) else (ds.any fun z => PyData.eqv z d))) G else .bad
        | _, _ => .bad
    | none => .bad
/-- among the items of a tuple, whatever they are -/
abbrev rInT (K : PySem.W.Frag) (neg : Bool) : R2 := fun x y H Q => ∃ d ds, Dp K H x d ∧ Dp K H y (.tuple ds) ∧ SeqAt.shaped d = true ∧ SeqAt.shaped (.list ds) = true ∧ Q (.bl (if neg then !(ds.any fun z => PyData.eqv z d) else (ds.any fun z => PyData.eqv z d))) H
theorem op_inT (hu : X.A.units + 65 < cLine) : OpR X (compareOp .In) (rInT X.K false) := by
  intro pins s σ H x y v u Q I rx ry ⟨d, ds, hd, he, sd, se, q⟩
  obtain ⟨as, r1⟩ := Dp.reads I d x v hd rx
  obtain ⟨bs, r2⟩ := Dp.reads I (.tuple ds) y u he ry
  have pl : PyData.plain (.list ds) = true := PyData.plain_of_canLay0 _ (SeqAt.canLay_of_shaped se)
  refine SeqAt.in_tuple_data r2 r1 (by simpa [PyData.plain] using pl) (PyData.plain_of_canLay0 _ (SeqAt.canLay_of_shaped sd)) (PyProof.Rows.room_in_shaped sd hu) ⟨.bl _, H, I, rfl, q⟩
theorem op_notInT (hu : X.A.units + 65 < cLine) : OpR X (compareOp .NotIn) (rInT X.K true) := by
  intro pins s σ H x y v u Q I rx ry ⟨d, ds, hd, he, sd, se, q⟩
  obtain ⟨as, r1⟩ := Dp.reads I d x v hd rx
  obtain ⟨bs, r2⟩ := Dp.reads I (.tuple ds) y u he ry
  have pl : PyData.plain (.list ds) = true := PyData.plain_of_canLay0 _ (SeqAt.canLay_of_shaped se)
  refine SeqAt.notIn_tuple_data r2 r1 (by simpa [PyData.plain] using pl) (PyData.plain_of_canLay0 _ (SeqAt.canLay_of_shaped sd)) (PyProof.Rows.room_in_shaped sd hu) ⟨.bl _, H, I, rfl, q⟩
abbrev rInA (K : PySem.W.Frag) (neg : Bool) : R2 := fun x y H Q =>
  (∃ i j, x = .str i ∧ y = .str j ∧ Q (.bl (if neg then !(!(Builtin.Str.occurrences j i 0 j.length 1).isEmpty) else (!(Builtin.Str.occurrences j i 0 j.length 1).isEmpty))) H) ∨ rIn K neg x y H Q ∨
  (∃ d ds, Dp K H x d ∧ Dp K H y (.list ds) ∧ SeqAt.shaped d = true ∧ SeqAt.shaped (.list ds) = true ∧ Q (.bl (if neg then !(ds.any fun z => PyData.eqv z d) else (ds.any fun z => PyData.eqv z d))) H) ∨ rInT K neg x y H Q
theorem op_inA (hu : X.A.units + 65 < cLine) : OpR X (compareOp .In) (rInA X.K false) := OpR.or op_in_str (OpR.or op_in_seq (OpR.or (op_inD hu) (op_inT hu)))
theorem op_notinA (hu : X.A.units + 65 < cLine) : OpR X (compareOp .NotIn) (rInA X.K true) := OpR.or op_notin_str (OpR.or op_notIn_seq (OpR.or (op_notInD hu) (op_notInT hu)))
theorem occ_inf (a b : List Nat) : (!(Builtin.Str.occurrences (SS b) (SS a) 0 (SS b).length 1).isEmpty) = infB a b := by
  rw [Bool.eq_iff_iff, StrLaws.found_iff, infB_iff]
  constructor
  · rintro ⟨i, h, e⟩
    rw [StrLaws.subAt_eq, beq_iff_eq, tl_SS, tl_SS, strLen] at e
    rw [strLen, strLen] at h
    exact ⟨i, h, e⟩
  · rintro ⟨i, h, e⟩
    refine ⟨i, by rw [strLen, strLen]; exact h, ?_⟩
    rw [StrLaws.subAt_eq, beq_iff_eq, tl_SS, tl_SS, strLen]
    exact e
theorem o2_in {neg : Bool} (hT : X.K = T.K) : O2 T W (inU neg) (rInA X.K neg) := by
  intro σ H s G ρ Z x y u w Q sm r1 r2 h
  unfold inU at h
  split at h
  · rename_i a b
    refine .inl ⟨_, _, r1.inv_str, r2.inv_str, ?_⟩
    rw [occ_inf]
    exact h _ H ρ Z Ex.refl sm.rl (.bl _)
  · split at h
    · rename_i l e
      obtain ⟨p, vs, rfl, h1, q1⟩ := seqOf_at (σ := σ) sm.rl r2 e
      by_cases z : flatU u = true ∧ l.all flatU = true
      · rw [if_pos z] at h
        refine .inr (.inl ⟨p, vs, rfl, hT ▸ h1, flatV_of r1 z.1, flats_of q1 z.2, ?_⟩)
        rw [inV_of r1 z.1 q1 z.2]
        exact h _ H ρ Z Ex.refl sm.rl (.bl _)
      · rw [if_neg z] at h
        split at h
        · rename_i d ds e1 e2
          by_cases z : SeqAt.shaped d = true ∧ SeqAt.shaped (.list ds) = true
          · rw [if_pos z] at h
            exact .inr (.inr (.inl ⟨d, ds, hT ▸ toD_ok sm.rl r1 e1, hT ▸ toD_ok sm.rl r2 e2, z.1, z.2, h _ H ρ Z Ex.refl sm.rl (.bl _)⟩))
          · rw [if_neg z] at h
            exact h.elim
        · rename_i d ds e1 e2
          by_cases z : SeqAt.shaped d = true ∧ SeqAt.shaped (.list ds) = true
          · rw [if_pos z] at h
            exact .inr (.inr (.inr ⟨d, ds, hT ▸ toD_ok sm.rl r1 e1, hT ▸ toD_ok sm.rl r2 e2, z.1, z.2, h _ H ρ Z Ex.refl sm.rl (.bl _)⟩))
          · rw [if_neg z] at h
            exact h.elim
        · exact h.elim
    · exact h.elim

/-! ### an item -/
def idxU : U → U → List Ob → Rs U := fun x y G => match x, y with
  | .str l, .int i => if l.length ≤ szL then (match atI l i with | some c => .ok (.str [c]) G | none => .bad) else .bad
  | x, .int i => match seqOf G x with
    | some l => (match atI l i with | some u => .ok u G | none => .bad)
    | none => .bad
  | _, _ => .bad
theorem atI_rep {ρ : List Addr} {Z : Addr → Prop} {H : Hp} {vs : List V} {us : List U} {i : Int} {u : U} (r : Reps T ρ Z H vs us) (e : atI us i = some u) : ∃ v, atI vs i = some v ∧ Rep T ρ Z H v u := by
  unfold atI at e ⊢
  rw [r.length]
  cases e1 : ixN us.length i with
  | none => rw [e1] at e; cases e
  | some j =>
    rw [e1] at e
    exact r.get e
theorem o2_idx (hT : X.K = T.K) : O2 T W idxU (rIx X.K) := by
  intro σ H s G ρ Z x y u w Q sm r1 r2 h
  unfold idxU at h
  split at h
  · rename_i l i
    by_cases z : l.length ≤ szL
    · rw [if_pos z] at h
      split at h
      · rename_i c e
        refine .inr (.inr ⟨SS l, i, c, r1.inv_str, r2.inv_int, by rw [strLen, szL_eq]; exact z, by rw [tl_SS]; exact e, ?_⟩)
        exact h _ H ρ Z Ex.refl sm.rl (Rep.ss [c])
      · exact h.elim
    · rw [if_neg z] at h
      exact h.elim
  · split at h
    · rename_i l e
      split at h
      · rename_i u' e2
        obtain ⟨p, vs, rfl, h1, q1⟩ := seqOf_at (σ := σ) sm.rl r1 e
        obtain ⟨v, e3, rv⟩ := atI_rep q1 e2
        rcases h1 with h1 | h1
        · exact .inl ⟨p, vs, _, v, rfl, r2.inv_int, hT ▸ h1, e3, h _ H ρ Z Ex.refl sm.rl rv⟩
        · exact .inr (.inl ⟨p, vs, _, v, rfl, r2.inv_int, hT ▸ h1, e3, h _ H ρ Z Ex.refl sm.rl rv⟩)
      · exact h.elim
    · exact h.elim
  · exact h.elim
theorem fe_ix {a b : Expr} {pos : Pos} {ma mb : ME} (hT : X.K = T.K) (ha : PE X a (tE T W ma)) (hb : PE X b (tE T W mb)) (hs : PlainIx b) : PE X (.Subscript a b pos) (tE T W (bin2 idxU ma mb)) :=
  PE.imp (pe_ix ix_seq ha hb hs) fun _ _ _ q => (o2_idx hT).top q
end
end FL

/-! FL5: tests, and, or, not, displays, slices, built-ins by name. -/
namespace FL
open PySem L2
abbrev MT := Sg → List Ob → Rs Bool
section
variable {X : Cx} {T : Tb} {W : WX} {a b c : Expr} {pos : Pos} {ma mb mc : ME}

/-! ### tests -/
def blU : U → List Ob → Rs Bool := fun u G => match u with
  | .bl k => .ok k G
  | _ => .bad
def tobM (m : ME) : MT := fun s G => (m s G).bind blU
theorem tB_of {σ : St} {H : Hp} {Q : Bool → Hp → Prop} {m : ME} (q : tT T W (tobM m) σ H Q) : tE T W m σ H fun x H1 => ∃ k, x = .bl k ∧ Q k H1 := by
  obtain ⟨s, G, ρ, Z, sm, q⟩ := q
  refine tE_bindB sm q fun u G1 x H1 ρ1 Z1 x1 sm1 r1 q1 => ?_
  unfold blU at q1
  split at q1
  · exact ⟨_, r1.inv_bl, q1 H1 ρ1 Z1 Ex.refl sm1.rl⟩
  · exact q1.elim
theorem ft_val (h : PE X a (tE T W ma)) (he : ∀ whole, isTrue a X.env whole = (do let v ← whole; standAt a.pos; holding [v] (truthy v))) : PT X a (tT T W (tobM ma)) :=
  PT.imp (pt_val h he) fun _ _ _ q => tB_of q
theorem ft_cmp {op : CmpOp} {f : U → U → List Ob → Rs U} {r : R2} (ho : OpR X (compareOp op) r) (h : O2 T W f r) (ha : PE X a (tE T W ma)) (hb : PE X b (tE T W mb)) (hm : behindInMarks op b = false) :
    PT X (.Compare a [op] [b] pos) (tT T W (tobM (bin2 f ma mb))) := PT.imp (pt_cmpR ho ha hb hm) fun _ _ _ q => by
  obtain ⟨s, G, ρ, Z, sm, q⟩ := tB_of q
  exact h.top ⟨s, G, ρ, Z, sm, q⟩
/-- a < b < c -/
def chM (f g : U → U → List Ob → Rs U) (a b c : ME) : ME := fun s G => (a s G).bind fun x G1 => (b s G1).bind fun y G2 => (f x y G2).bind fun z G3 => match z with
  | .bl true => (c s G3).bind fun w G4 => g y w G4
  | .bl false => .ok (.bl false) G3
  | _ => .bad
theorem chM_top {f g : U → U → List Ob → Rs U} {r r' : R2} (h : O2 T W f r) (h' : O2 T W g r') {σ : St} {H : Hp} {Q : VK} (q : tE T W (chM f g ma mb mc) σ H Q) :
    tE T W ma σ H fun x H1 => tE T W mb σ H1 fun y H2 => r x y H2 fun z H3 => ∃ k, z = .bl k ∧ if k = true then tE T W mc σ H3 fun w H4 => r' y w H4 Q else Q (.bl false) H3 := by
  obtain ⟨s, G, ρ, Z, sm, q⟩ := q
  refine tE_bind sm q fun u G1 x H1 ρ1 Z1 x1 sm1 r1 q1 => ?_
  refine tE_bind sm1 q1 fun w G2 y H2 ρ2 Z2 x2 sm2 r2 q2 => ?_
  refine h _ _ _ _ _ _ _ _ _ _ _ sm2 (r1.ex sm1.rl.zm x2) r2 ?_
  cases e : f u w G2 with
  | bad => rw [e] at q2; exact q2
  | exc x G3 => rw [e] at q2; exact q2
  | ok z G3 =>
    rw [e] at q2
    intro v3 H3 ρ3 Z3 x3 rl3 r3
    have q3 := RE.ex q2 x3
    simp only [Rs.bind] at q3
    split at q3
    · refine ⟨true, r3.inv_bl, ?_⟩
      rw [if_pos rfl]
      refine tE_bind (sm2.ex x3 rl3) q3 fun u4 G4 x4 H4 ρ4 Z4 y4 sm4 r4 q4 => ?_
      exact h' _ _ _ _ _ _ _ _ _ _ _ sm4 (((r2.ex sm2.rl.zm x3)).ex rl3.zm y4) r4 q4
    · refine ⟨false, r3.inv_bl, ?_⟩
      rw [if_neg Bool.false_ne_true]
      exact q3 _ H3 ρ3 Z3 Ex.refl rl3 (.bl _)
    · exact q3.elim

/-! ### and, or, not -/
def andT (p q : MT) : MT := fun s G => (p s G).bind fun k G1 => if k then q s G1 else .ok false G1
def orT (p q : MT) : MT := fun s G => (p s G).bind fun k G1 => if k then .ok true G1 else q s G1
def notT (p : MT) : MT := fun s G => (p s G).bind fun k G1 => .ok (!k) G1
variable {pa pb pc : MT} {rest : List Expr}
theorem fw_and1 (h : PT X a (tT T W pa)) : PW X (.BoolOp .And [a] pos) (tT T W pa) := pw_and1 h
theorem fw_or1 (h : PT X a (tT T W pa)) : PW X (.BoolOp .Or [a] pos) (tT T W pa) := pw_or1 h
theorem fw_and (ha : PT X a (tT T W pa)) (hb : PW X (.BoolOp .And (b :: rest) pos) (tT T W pb)) : PW X (.BoolOp .And (a :: b :: rest) pos) (tT T W (andT pa pb)) :=
  PW.imp (pw_and ha hb) fun σ H Q ⟨s, G, ρ, Z, sm, q⟩ => by
    refine tT_bindB sm q fun k G1 H1 ρ1 Z1 x1 sm1 q1 => ?_
    cases k with
    | true => rw [if_pos rfl]; exact ⟨s, G1, ρ1, Z1, sm1, by simpa using q1⟩
    | false => rw [if_neg Bool.false_ne_true]; exact (by simpa using q1 : RB T W σ H1 ρ1 Z1 Q (.ok false G1)) H1 ρ1 Z1 Ex.refl sm1.rl
theorem fw_or (ha : PT X a (tT T W pa)) (hb : PW X (.BoolOp .Or (b :: rest) pos) (tT T W pb)) : PW X (.BoolOp .Or (a :: b :: rest) pos) (tT T W (orT pa pb)) :=
  PW.imp (pw_or ha hb) fun σ H Q ⟨s, G, ρ, Z, sm, q⟩ => by
    refine tT_bindB sm q fun k G1 H1 ρ1 Z1 x1 sm1 q1 => ?_
    cases k with
    | true => rw [if_pos rfl]; exact (by simpa using q1 : RB T W σ H1 ρ1 Z1 Q (.ok true G1)) H1 ρ1 Z1 Ex.refl sm1.rl
    | false => rw [if_neg Bool.false_ne_true]; exact ⟨s, G1, ρ1, Z1, sm1, by simpa using q1⟩
theorem ft_not (h : PT X a (tT T W pa)) : PT X (.UnaryOp .Not a pos) (tT T W (notT pa)) :=
  PT.imp (pt_not h) fun σ H Q ⟨s, G, ρ, Z, sm, q⟩ => tT_bindB sm q fun k G1 H1 ρ1 Z1 x1 sm1 q1 => q1 H1 ρ1 Z1 Ex.refl sm1.rl
/-- as values -/
def andM (p q : ME) : ME := fun s G => (p s G).bind fun u G1 => match u with
  | .bl true => q s G1
  | .bl false => .ok (.bl false) G1
  | _ => .bad
def orM (p q : ME) : ME := fun s G => (p s G).bind fun u G1 => match u with
  | .bl false => q s G1
  | .bl true => .ok (.bl true) G1
  | _ => .bad
def notM (p : ME) : ME := fun s G => (p s G).bind fun u G1 => match u with
  | .bl k => .ok (.bl (!k)) G1
  | _ => .bad
theorem fe_and (ha : PE X a (tE T W ma)) (hb : PE X (.BoolOp .And (b :: rest) pos) (tE T W mb)) : PE X (.BoolOp .And (a :: b :: rest) pos) (tE T W (andM ma mb)) :=
  PE.imp (pe_and ha hb) fun σ H Q ⟨s, G, ρ, Z, sm, q⟩ => by
    refine tE_bind sm q fun u G1 x H1 ρ1 Z1 x1 sm1 r1 q1 => ?_
    split at q1
    · refine ⟨true, r1.inv_bl, ?_⟩
      rw [if_pos rfl]
      exact ⟨s, G1, ρ1, Z1, sm1, q1⟩
    · refine ⟨false, r1.inv_bl, ?_⟩
      rw [if_neg Bool.false_ne_true]
      exact q1 _ H1 ρ1 Z1 Ex.refl sm1.rl (.bl _)
    · exact q1.elim
theorem fe_or (ha : PE X a (tE T W ma)) (hb : PE X (.BoolOp .Or (b :: rest) pos) (tE T W mb)) : PE X (.BoolOp .Or (a :: b :: rest) pos) (tE T W (orM ma mb)) :=
  PE.imp (pe_or ha hb) fun σ H Q ⟨s, G, ρ, Z, sm, q⟩ => by
    refine tE_bind sm q fun u G1 x H1 ρ1 Z1 x1 sm1 r1 q1 => ?_
    split at q1
    · refine ⟨false, r1.inv_bl, ?_⟩
      rw [if_neg Bool.false_ne_true]
      exact ⟨s, G1, ρ1, Z1, sm1, q1⟩
    · refine ⟨true, r1.inv_bl, ?_⟩
      rw [if_pos rfl]
      exact q1 _ H1 ρ1 Z1 Ex.refl sm1.rl (.bl _)
    · exact q1.elim
theorem fe_not (ha : PE X a (tE T W ma)) : PE X (.UnaryOp .Not a pos) (tE T W (notM ma)) :=
  PE.imp (pe_not ha) fun σ H Q ⟨s, G, ρ, Z, sm, q⟩ => by
    refine tE_bind sm q fun u G1 x H1 ρ1 Z1 x1 sm1 r1 q1 => ?_
    split at q1
    · exact ⟨_, r1.inv_bl, q1 _ H1 ρ1 Z1 Ex.refl sm1.rl (.bl _)⟩
    · exact q1.elim
def negM (p : ME) : ME := fun s G => (p s G).bind fun u G1 => match u with
  | .int k => .ok (.int (-k)) G1
  | _ => .bad
theorem fe_neg (ha : PE X a (tE T W ma)) : PE X (.UnaryOp .USub a pos) (tE T W (negM ma)) :=
  PE.imp (pe_un un_neg ha) fun σ H Q ⟨s, G, ρ, Z, sm, q⟩ => by
    refine tE_bind sm q fun u G1 x H1 ρ1 Z1 x1 sm1 r1 q1 => ?_
    split at q1
    · exact ⟨_, r1.inv_int, q1 _ H1 ρ1 Z1 Ex.refl sm1.rl (.int _)⟩
    · exact q1.elim
def iteM (t : MT) (p q : ME) : ME := fun s G => (t s G).bind fun k G1 => if k then p s G1 else q s G1
theorem fe_ite (hc : PT X c (tT T W pc)) (ha : PE X a (tE T W ma)) (hb : PE X b (tE T W mb)) : PE X (.IfExp c a b pos) (tE T W (iteM pc ma mb)) :=
  PE.imp (pe_ifExp hc ha hb) fun σ H Q ⟨s, G, ρ, Z, sm, q⟩ => by
    refine tT_bind sm q fun k G1 H1 ρ1 Z1 x1 sm1 q1 => ?_
    cases k with
    | true => rw [if_pos rfl]; exact ⟨s, G1, ρ1, Z1, sm1, by simpa using q1⟩
    | false => rw [if_neg Bool.false_ne_true]; exact ⟨s, G1, ρ1, Z1, sm1, by simpa using q1⟩

/-! ### argument lists, displays -/
def nilA : MA := fun _ G => .ok [] G
def consA (p : ME) (q : MA) : MA := fun s G => (p s G).bind fun u G1 => (q s G1).bind fun us G2 => .ok (u :: us) G2
variable {es : List Expr} {mas : MA}
theorem fa_nil : PA X [] (tA T W nilA) := PA.imp pa_nil fun σ H Q ⟨s, G, ρ, Z, sm, q⟩ => q [] H ρ Z Ex.refl sm.rl .nil
theorem tA_bindA {m : MA} {f : List U → List Ob → Rs (List U)} {Q : List V → Hp → Prop} {k : List V → Hp → Prop} {σ : St} {H : Hp} {s : Sg} {G : List Ob} {ρ : List Addr} {Z : Addr → Prop} (sm : Sm T σ H s G ρ Z) (h : RA T W σ H ρ Z Q ((m s G).bind f))
    (hk : ∀ u G' v H' ρ' Z', Ex ρ Z H ρ' Z' H' → Sm T σ H' s G' ρ' Z' → Reps T ρ' Z' H' v u → RA T W σ H' ρ' Z' Q (f u G') → k v H') : tA T W m σ H k := by
  refine ⟨s, G, ρ, Z, sm, ?_⟩
  cases e : m s G with
  | ok u G' =>
    rw [e] at h
    exact fun v H' ρ' Z' x rl rp => hk u G' v H' ρ' Z' x (sm.ex x rl) rp (RA.ex h x)
  | exc x G' => rw [e] at h; exact h
  | bad => rw [e] at h; exact h
theorem fa_cons (ha : PE X a (tE T W ma)) (hr : PA X es (tA T W mas)) (hs : starEach (a :: es) X.env = (false, eval a X.env) :: starEach es X.env) : PA X (a :: es) (tA T W (consA ma mas)) :=
  PA.imp (pa_cons ha hr hs) fun σ H Q ⟨s, G, ρ, Z, sm, q⟩ => by
    refine tE_bindA sm q fun u G1 x H1 ρ1 Z1 x1 sm1 r1 q1 => ?_
    refine tA_bindA sm1 q1 fun us G2 vs H2 ρ2 Z2 x2 sm2 r2 q2 => ?_
    exact q2 _ H2 ρ2 Z2 Ex.refl sm2.rl (.cons (r1.ex sm1.rl.zm x2) r2)
def lstM (mu : Bool) (p : MA) : ME := fun s G => (p s G).bind fun us G1 => newL mu us G1
def tupM (p : MA) : ME := fun s G => (p s G).bind fun us G1 => newT us G1
theorem fe_lst {mu : Bool} (h : PA X es (tA T W mas)) : PE X (.List es pos) (tE T W (lstM mu mas)) :=
  PE.imp (pe_lst h) fun σ H Q ⟨s, G, ρ, Z, sm, q⟩ => tA_bind sm q fun us G1 vs H1 ρ1 Z1 x1 sm1 r1 q1 => newL_ok sm1.rl r1 q1
theorem fe_tup {k : Nat} (h : PA X es (tA T W mas)) : PE X (.Tuple es k pos) (tE T W (tupM mas)) :=
  PE.imp (pe_tup h) fun σ H Q ⟨s, G, ρ, Z, sm, q⟩ => tA_bind sm q fun us G1 vs H1 ρ1 Z1 x1 sm1 r1 q1 => newT_ok sm1.rl r1 q1

/-! ### slices -/
def cutL {α : Type} (xs : List α) (lo hi : Option Int) : List α := (xs.drop (HT.sIx xs.length 0 lo)).take (HT.sIx xs.length xs.length hi - HT.sIx xs.length 0 lo)
theorem cutV_rep {ρ : List Addr} {Z : Addr → Prop} {H : Hp} {vs : List V} {us : List U} (r : Reps T ρ Z H vs us) (lo hi : Option Int) : Reps T ρ Z H (cutV vs lo hi) (cutL us lo hi) := by
  unfold cutV cutL
  rw [r.length]
  exact (r.drop _).take _
def slU (mu : Bool) (lo hi : Option Int) : U → List Ob → Rs U := fun u G => match u with
  | .str l => if l.length ≤ szL then .ok (.str (cutL l lo hi)) G else .bad
  | .tup l => .ok (.tup (cutL l lo hi)) G
  | u => match lstOf G u with
    | some l => newL mu (cutL l lo hi) G
    | none => .bad
/-- a part of a slice -/
abbrev MO := Sg → List Ob → Rs (Option Int)
def noneO : MO := fun _ G => .ok none G
def someO (m : ME) : MO := fun s G => (m s G).bind fun u G1 => match u with
  | .int i => .ok (some i) G1
  | _ => .bad
def RO (T : Tb) (W : WX) (σ : St) (H : Hp) (ρ : List Addr) (Z : Addr → Prop) (Q : Option Int → Hp → Prop) : Rs (Option Int) → Prop
  | .ok u G' => ∀ H' ρ' Z', Ex ρ Z H ρ' Z' H' → Rl T ρ' Z' G' H' → Q u H'
  | .exc x G' => EEnd T W σ H ρ Z x G'
  | .bad => False
def tO (T : Tb) (W : WX) (m : MO) : TO := fun σ H Q => ∃ s G ρ Z, Sm T σ H s G ρ Z ∧ RO T W σ H ρ Z Q (m s G)
theorem fo_none : PO X none (tO T W noneO) := by
  refine ⟨?_⟩
  have h := (po_none (X := X)).run
  intro pins s σ H Q I
  intro q
  obtain ⟨s', G, ρ, Z, sm, q⟩ := q
  exact h pins s σ H Q I (q H ρ Z Ex.refl sm.rl)
theorem fo_some {e : Expr} {m : ME} (he : PE X e (tE T W m)) : PO X (some e) (tO T W (someO m)) := by
  refine ⟨?_⟩
  have h := (po_some he).run
  intro pins s σ H Q I q
  refine h pins s σ H Q I ?_
  obtain ⟨s', G, ρ, Z, sm, q⟩ := q
  refine ⟨s', G, ρ, Z, sm, ?_⟩
  unfold someO at q
  cases e1 : m s' G with
  | bad => rw [e1] at q; exact q
  | exc x G' => rw [e1] at q; exact q
  | ok u G' =>
    rw [e1] at q
    intro v H' ρ' Z' x rl r
    simp only [Rs.bind] at q
    split at q
    · exact ⟨_, r.inv_int, q H' ρ' Z' x rl⟩
    · exact q.elim
def slM (mu : Bool) (a : ME) (lo hi : MO) : ME := fun s G => (a s G).bind fun u G1 => (lo s G1).bind fun i G2 => (hi s G2).bind fun j G3 => slU mu i j u G3
theorem tO_bind {m : MO} {f : Option Int → List Ob → Rs U} {Q : VK} {k : Option Int → Hp → Prop} {σ : St} {H : Hp} {s : Sg} {G : List Ob} {ρ : List Addr} {Z : Addr → Prop} (sm : Sm T σ H s G ρ Z) (h : RE T W σ H ρ Z Q ((m s G).bind f))
    (hk : ∀ u G' H' ρ' Z', Ex ρ Z H ρ' Z' H' → Sm T σ H' s G' ρ' Z' → RE T W σ H' ρ' Z' Q (f u G') → k u H') : tO T W m σ H k := by
  refine ⟨s, G, ρ, Z, sm, ?_⟩
  cases e : m s G with
  | ok u G' =>
    rw [e] at h
    exact fun H' ρ' Z' x rl => hk u G' H' ρ' Z' x (sm.ex x rl) (RE.ex h x)
  | exc x G' => rw [e] at h; exact h
  | bad => rw [e] at h; exact h
abbrev rSlAll (K : PySem.W.Frag) : V → Option Int → Option Int → Hp → VK → Prop := fun x lo hi H Q => rSlS x lo hi H Q ∨ rSlA K x lo hi H Q ∨ rSlL K x lo hi H Q
theorem sl_all : SlR X (rSlAll X.K) := SlR.or sl_str (SlR.or sl_tupA sl_list)
theorem cutS_eq (l : List Nat) (lo hi : Option Int) : cutS (SS l) lo hi = SS (cutL l lo hi) := by
  unfold cutS cutL
  rw [tl_SS, strLen]
theorem fe_slice {mu : Bool} {lo hi : Option Expr} {ml mh : MO} {p2 : Pos} (hT : X.K = T.K) (ha : PE X a (tE T W ma)) (hl : PO X lo (tO T W ml)) (hh : PO X hi (tO T W mh)) : PE X (.Subscript a (.Slice lo hi none p2) pos) (tE T W (slM mu ma ml mh)) :=
  PE.imp (pe_slice sl_all ha hl hh) fun σ H Q ⟨s, G, ρ, Z, sm, q⟩ => by
    refine tE_bind sm q fun u G1 x H1 ρ1 Z1 x1 sm1 r1 q1 => ?_
    refine tO_bind sm1 q1 fun i G2 H2 ρ2 Z2 x2 sm2 q2 => ?_
    refine tO_bind sm2 q2 fun j G3 H3 ρ3 Z3 x3 sm3 q3 => ?_
    have r3 := (r1.ex sm1.rl.zm x2).ex sm2.rl.zm x3
    unfold slU at q3
    split at q3
    · rename_i l
      by_cases z : l.length ≤ szL
      · rw [if_pos z] at q3
        refine .inl ⟨SS l, r3.inv_str, by rw [strLen, szL_eq]; exact z, ?_⟩
        rw [cutS_eq]
        exact q3 _ H3 ρ3 Z3 Ex.refl sm3.rl (Rep.ss _)
      · rw [if_neg z] at q3
        exact q3.elim
    · rename_i l
      obtain ⟨p, vs, rfl, h1, q4⟩ := r3.inv_tup
      refine .inr (.inl ⟨p, vs, rfl, hT ▸ h1, fun hw => ?_, fun hw p' hp => ?_⟩)
      · refine q3 _ H3 ρ3 Z3 Ex.refl sm3.rl (.tup h1 ?_)
        have e : cutL l i j = l := by
          unfold cutL
          rw [← q4.length, hw.1, hw.2, List.drop_zero, Nat.sub_zero, q4.length, List.take_length]
        rw [e]
        exact q4
      · exact q3 _ _ ρ3 Z3 (ex_new hp) (sm3.rl.new hp) (.tup (SqT.of upd_same) ((cutV_rep q4 i j).ex sm3.rl.zm (ex_new hp)))
    · split at q3
      · rename_i l e
        obtain ⟨p, vs, rfl, h1, q4⟩ := lstOf_at sm3.rl r3 e
        exact .inr (.inr ⟨p, vs, rfl, hT ▸ h1, (newL_ok sm3.rl (cutV_rep q4 i j) q3).2⟩)
      · exact q3.elim
end
end FL

/-! FL6: side conditions by the syntax's head. -/
namespace FL
open PySem L2
def noStar : Expr → Bool
  | .Starred .. => false
  | _ => true
theorem star_cons {a : Expr} {es : List Expr} {env : Env} (h : noStar a = true) : starEach (a :: es) env = (false, eval a env) :: starEach es env := by
  cases a <;> first | rfl | (simp [noStar] at h)
theorem star_any {es : List Expr} {env : Env} {pos : Pos} (h : es.all noStar = true) : (backTo pos (starEach es env)).any (·.1) = false := by
  induction es with
  | nil => rfl
  | cons a r ih =>
    rw [List.all_cons, Bool.and_eq_true] at h
    rw [star_cons h.1]
    show (false || (backTo pos (starEach r env)).any (·.1)) = false
    rw [ih h.2]
    rfl
theorem star_all {es : List Expr} {env : Env} {pos : Pos} (h : es.all noStar = true) : (backTo pos (starEach es env)).all (fun x => !x.1) = true := by
  induction es with
  | nil => rfl
  | cons a r ih =>
    rw [List.all_cons, Bool.and_eq_true] at h
    rw [star_cons h.1]
    show (true && (backTo pos (starEach r env)).all (fun x => !x.1)) = true
    rw [ih h.2]
    rfl
/-- a receiver that is no call of a name without arguments -/
def plainRecv : Expr → Bool
  | .Call _ [] _ _ => false
  | _ => true
theorem attrBase {o : Expr} {f : Str} {env : Env} {w : Sem Value} (h : plainRecv o = true) : attributeBase o f env w = w := by
  cases o with
  | Call g as ks p =>
    cases as with
    | nil => simp [plainRecv] at h
    | cons a r => cases g <;> rfl
  | _ => rfl
/-- a test whose truth is asked of its value -/
def plainTest : Expr → Bool
  | .UnaryOp .Not _ _ => false
  | .BoolOp .. => false
  | .IfExp .. => false
  | .Compare .. => false
  | _ => true
theorem plain_test {a : Expr} {env : Env} (h : plainTest a = true) : ∀ whole, isTrue a env whole = (do let v ← whole; standAt a.pos; holding [v] (truthy v)) := by
  intro whole
  cases a with
  | UnaryOp op x p => cases op <;> first | rfl | (simp [plainTest] at h)
  | BoolOp _ _ _ => simp [plainTest] at h
  | IfExp _ _ _ _ => simp [plainTest] at h
  | Compare _ _ _ _ => simp [plainTest] at h
  | _ => rfl
/-- no comprehension -/
def noComp : Expr → Bool
  | .ListComp .. => false
  | .SetComp .. => false
  | .DictComp .. => false
  | _ => true
theorem swaps_no {e : Expr} {t : Option Expr} {l : Nat} {env : Env} (h : noComp e = true) : swapsWith e t l env = pure false := by
  cases e <;> first | rfl | (simp [noComp] at h)
def notName : Expr → Bool
  | .Name .. => false
  | _ => true
theorem swaps_other {e t : Expr} {l : Nat} {env : Env} (h : notName t = true) : swapsWith e (some t) l env = pure false := by
  cases e <;> first | rfl | (cases t <;> first | rfl | (simp [notName] at h))
theorem swaps_sole {e t : Expr} {l : Nat} {env : Env} (h : notName t = true) : swapsWithSole [t] e l env = pure false := swaps_other h
/-- no set display -/
def noSet : Expr → Bool
  | .Set .. => false
  | _ => true
theorem folded_no {e : Expr} {env : Env} (h : noSet e = true) : ∀ x, foldedSetIterable e env x = pure x := by
  intro x
  cases e <;> first | rfl | (simp [noSet] at h)
theorem marks_no {e : Expr} {op : CmpOp} (h : noSet e = true) : behindInMarks op e = false := by
  cases e <;> first | rfl | (simp [noSet] at h)
/-- an index that is no slice -/
def noSlice : Expr → Bool
  | .Slice .. => false
  | _ => true
theorem plainIx {e : Expr} (h : noSlice e = true) : PlainIx e := by
  intro o i
  cases e <;> first | rfl | (simp [noSlice] at h)
def notTT : Expr → Expr → Bool
  | .Tuple .., .Tuple .. => false
  | .List .., .Tuple .. => false
  | _, _ => true
theorem swapped_no {t v : Expr} {env : Env} (h : notTT t v = true) : swappedStores [t] v env = pure none := by
  cases t <;> cases v <;> first | rfl | (simp [notTT] at h)
/-- a target that is no starred one -/
theorem assign_one {t : Expr} {env : Env} (h : noStar t = true) : (assignEach [t] env).map (·.2) = [assign t env] := by
  cases t <;> first | rfl | (simp [noStar] at h)
theorem assign_cons {t : Expr} {ts : List Expr} {env : Env} (h : noStar t = true) : assignEach (t :: ts) env = (false, assign t env) :: assignEach ts env := by
  cases t <;> first | rfl | (simp [noStar] at h)
theorem assign_len {env : Env} : ∀ {ts : List Expr}, ts.all noStar = true → (assignEach ts env).length = ts.length
  | [], _ => rfl
  | t :: ts, h => by
    rw [List.all_cons, Bool.and_eq_true] at h
    rw [assign_cons h.1, List.length_cons, List.length_cons, assign_len h.2]
theorem assign_idx {env : Env} : ∀ {ts : List Expr}, ts.all noStar = true → (assignEach ts env).findIdx? (·.1) = none
  | [], _ => rfl
  | t :: ts, h => by
    rw [List.all_cons, Bool.and_eq_true] at h
    rw [assign_cons h.1, List.findIdx?_cons]
    simp [assign_idx h.2]
theorem call_eval {o : Expr} {m : Str} {apos pos : Pos} {es : List Expr} {env : Env} (h1 : plainRecv o = true) (h2 : es.all noStar = true) (h3 : es.length < 30) (h4 : (apos.endLine == pos.line) = true) :
    eval (.Call (.Attribute o m apos) es [] pos) env = (do
      let ov ← eval o env
      standAt apos.atName
      let (f, first) ← holding [ov] (getMethod ov m (do return (← importBound o env).getD true))
      callWith pos f first (backTo pos (starEach es env)) (backToKw pos (keywordEach [] env))) := by
  have e1 : eval (.Call (.Attribute o m apos) es [] pos) env = (do
      let ov ← attributeBase o m env (eval o env)
      standAt apos.atName
      methodCall o m apos pos env ov (es.length + ([] : List Keyword).length) (backTo pos (starEach es env)) (backToKw pos (keywordEach [] env))) := rfl
  have hform : methodCallForm (es.length + ([] : List Keyword).length) (backTo pos (starEach es env)) (backToKw pos (keywordEach [] env)) = true := by
    unfold methodCallForm
    rw [star_all h2]
    have : es.length + 0 + 0 < 30 := by omega
    simp [backToKw, keywordEach]
    omega
  have hpos : methodCallPos true o env apos pos = pure pos := by unfold methodCallPos; simp [h4]
  rw [e1, attrBase h1]
  unfold methodCall
  rw [hform, hpos]
  rfl
end FL

/-! FL7: calls of defs, methods, classes; attributes. -/
namespace FL
open PySem L2 PyProof.Rows
abbrev RunD := List U → List Ob → Rs U
/-- what a def's result promises -/
def RD (T : Tb) (H : Hp) (ρ : List Addr) (Z : Addr → Prop) (Q : VK) (E : XK) : Rs U → Prop
  | .ok u G' => ∀ v H' ρ' Z', Ex ρ Z H ρ' Z' H' → Rl T ρ' Z' G' H' → Rep T ρ' Z' H' v u → Q v H'
  | .exc x G' => ∀ cls d H' ρ' Z', Ex ρ Z H ρ' Z' H' → Rl T ρ' Z' G' H' → ExAt T x cls d H' → E cls d H'
  | .bad => False
/-- a def's promise: it does what the function r does -/
def spD (T : Tb) (n : Nat) (r : RunD) : Sp := fun vs H Q E => ∃ us G ρ Z, Rl T ρ Z G H ∧ Reps T ρ Z H vs us ∧ us.length = n ∧ RD T H ρ Z Q E (r us G)
def arM (n : Nat) (r : RunD) : RunD := fun us G => if us.length = n then r us G else .bad
section
variable {T : Tb} {W : WX} {σ : L2.St} {H : Hp} {ρ : List Addr} {Z : Addr → Prop} {G : List Ob} {s : Sg}
theorem RE.rd {Q : VK} {r : Rs U} (h : RE T W σ H ρ Z Q r) : RD T H ρ Z Q (WE W σ) r := by
  cases r with
  | ok u G' => exact h
  | exc x G' => exact h
  | bad => exact h
theorem RE.sp {Q : VK} {r : RunD} {n : Nat} {us : List U} {vs : List V} (sm : Sm T σ H s G ρ Z) (q : Reps T ρ Z H vs us) (h : RE T W σ H ρ Z Q (arM n r us G)) : spD T n r vs H Q (WE W σ) := by
  unfold arM at h
  by_cases e : us.length = n
  · rw [if_pos e] at h
    exact ⟨us, G, ρ, Z, sm.rl, q, e, h.rd⟩
  · rw [if_neg e] at h
    exact h.elim
/-- the promise weakened: what follows of the ends -/
theorem RD.imp {Q Q' : VK} {E E' : XK} {r : Rs U} (h : RD T H ρ Z Q E r) (hq : ∀ v H', Q v H' → Q' v H') (he : ∀ c d H', E c d H' → E' c d H') : RD T H ρ Z Q' E' r := by
  cases r with
  | ok u G' => exact fun v H' ρ' Z' x rl r => hq _ _ (h v H' ρ' Z' x rl r)
  | exc x G' => exact fun c d H' ρ' Z' y rl r => he _ _ _ (h c d H' ρ' Z' y rl r)
  | bad => exact h
end

/-! ### a def that is called -/
section
variable {X : Cx} {T : Tb} {W : WX} {k n : Nat} {f C : Addr} {fd : FuncData} {ps : List Str} {r : RunD} {x m : Str} {p pos apos : Pos} {e o : Expr} {es : List Expr} {mas : MA} {mo : ME}
/-- the def at f as the program has it: it keeps r -/
structure DefOk (P : Program) (w : World) (K : PySem.W.Frag) (mg : Str → Option Value) (base : Heap) (T : Tb) (k : Nat) (f : Addr) (n : Nat) (r : RunD) : Prop where
  ex : ∃ fd ps, Binds K fd ps [] ∧ ps.length = n ∧ FnOk P w K mg base (L2.CX P w) k f fd ps (spD T n r)
def callM (n : Nat) (r : RunD) (mas : MA) : ME := fun s G => (mas s G).bind fun us G1 => arM n r us G1
theorem fe_call (F : DefOk X.prog X.w X.K X.mg X.base T k f n r) (hr : Room k X.A) (hg : Gl X x) (hm : X.mg x = some (.ref f)) (hk : PySem.W.keepIn X.K (.ref f) = true) (tk : Takes X W)
    (ha : PA X (e :: es) (tA T W mas)) (hdb : (x == ("__debug__" : Str)) = false) (hst : (e :: es).all noStar = true) : PE X (.Call (.Name x p) (e :: es) [] pos) (tE T W (callM n r mas)) := by
  obtain ⟨fd, ps, hb, hl, F⟩ := F.ex
  rw [List.all_cons, Bool.and_eq_true] at hst
  refine PE.imp (pe_callSD F hr hg hm hk hb .nil (fun σ => passAt tk σ) ha hdb (star_cons hst.1) (star_any hst.2)) fun σ H Q ⟨s, G, ρ, Z, sm, q⟩ => ?_
  refine tA_bind sm q fun us G1 vs H1 ρ1 Z1 x1 sm1 r1 q1 => ?_
  rw [List.append_nil]
  exact RE.sp sm1 r1 q1

/-- o.m(e, ..), what is raised wished for at the caller's slots -/
def tMethS (C : Addr) (m : Str) (sp : Sp) (E : L2.St → XK) (ta : TE) (t : TA) : TE := fun σ H Q => ta σ H fun x H1 => ∃ a dx fs, x = .ref a ∧ H1 a = some (.ins C dx fs) ∧ fs.lookup m = none ∧ t σ H1 fun vs H2 => sp (x :: vs) H2 Q (E σ)
theorem pe_methS {CX : CXT} {sp : Sp} {E : L2.St → XK} {ta : TE} {t : TA} {pl : Sem Bool} (he : PE X o ta) (c : Cls X.K C) (hm : Meth X.K C m f) (F : FnOk X.prog X.w X.K X.mg X.base CX k f fd ps sp) (hr : Room k X.A) (hb : Binds X.K fd ps []) (hx : ∀ σ, PassesAt CX X σ (E σ)) (ha : PA X (e :: es) t)
    (hst : starEach (e :: es) X.env = (false, eval e X.env) :: starEach es X.env) (hpl : (backTo pos (starEach es X.env)).any (·.1) = false)
    (ht : eval (.Call (.Attribute o m apos) (e :: es) [] pos) X.env = (do
      let ov ← eval o X.env
      standAt apos.atName
      let (f, first) ← holding [ov] (getMethod ov m pl)
      callWith pos f first (backTo pos (starEach (e :: es) X.env)) (backToKw pos (keywordEach [] X.env)))) :
    PE X (.Call (.Attribute o m apos) (e :: es) [] pos) (tMethS C m sp E ta t) := by
  refine ⟨fun pins s σ H Q I h => ?_⟩
  refine PySem.W.methodCall_KW (pl := pl) (thn (he.run pins s σ H _ I h) fun u s1 ⟨x, H1, I1, rx, a, dx, fs, ex, ea, l, q⟩ => ?_) ht
  subst ex
  obtain rfl : u = Value.ref a := rx
  refine getmeth_ok I1 ea c hm l ?_
  refine PySem.W.callWith_K (first := [.ref a]) (h₀ := X.base) I.ok.mod.kin hm.kp (thn (ha.run pos pins s1 σ H1 _ I1 q) fun us s2 ⟨vs, H2, I2, r, q2⟩ => ⟨I2.kIn, ?_⟩) hst hpl
  exact run_fnSD (us := .ref a :: us) (vs := .ref a :: vs) (ds := []) (dvs := []) F hr hb .nil (hx σ) I2 (.cons rfl r) (by rw [List.append_nil]; exact q2)
theorem pe_meth0S {CX : CXT} {sp : Sp} {E : L2.St → XK} {ta : TE} {pl : Sem Bool} (he : PE X o ta) (c : Cls X.K C) (hm : Meth X.K C m f) (F : FnOk X.prog X.w X.K X.mg X.base CX k f fd ps sp) (hr : Room k X.A) (hb : Binds X.K fd ps []) (hx : ∀ σ, PassesAt CX X σ (E σ))
    (ht : eval (.Call (.Attribute o m apos) [] [] pos) X.env = (do
      let ov ← eval o X.env
      standAt apos.atName
      let (f, first) ← holding [ov] (getMethod ov m pl)
      callWith pos f first (backTo pos (starEach [] X.env)) (backToKw pos (keywordEach [] X.env)))) :
    PE X (.Call (.Attribute o m apos) [] [] pos) (tMethS C m sp E ta tNil) := by
  refine ⟨fun pins s σ H Q I h => ?_⟩
  refine PySem.W.methodCall_KW (pl := pl) (thn (he.run pins s σ H _ I h) fun u s1 ⟨x, H1, I1, rx, a, dx, fs, ex, ea, l, q⟩ => ?_) ht
  subst ex
  obtain rfl : u = Value.ref a := rx
  refine getmeth_ok I1 ea c hm l ?_
  exact PySem.W.callWith_K0 (first := [.ref a]) I1.kIn hm.kp (run_fnSD (us := [.ref a]) (vs := [.ref a]) (ds := []) (dvs := []) F hr hb .nil (hx σ) I1 (.cons rfl .nil) (by rw [List.append_nil]; exact q))

/-- the class and the fields of an instance -/
def insOf (G : List Ob) : U → Option (Nat × List (Nat × U))
  | .ins c l => some (c, l)
  | .ref i => match G[i]? with
    | some (.ins c l) => some (c, l)
    | _ => none
  | _ => none
theorem insOf_at {H : Hp} {ρ : List Addr} {Z : Addr → Prop} {G : List Ob} {u : U} {c : Nat} {l : List (Nat × U)} {v : V} (rl : Rl T ρ Z G H) (q : Rep T ρ Z H v u) (e : insOf G u = some (c, l)) :
    ∃ a C dx fv, v = .ref a ∧ H a = some (.ins C dx fv) ∧ T.cls[c]? = some C ∧ RepF T ρ Z H fv l := by
  cases u with
  | ins c' l' =>
    cases e
    cases q with
    | ins h z hc r => exact ⟨_, _, _, _, rfl, h, hc, r⟩
  | ref i =>
    obtain ⟨a, ev, h⟩ := q.inv_ref
    simp only [insOf] at e
    cases g : G[i]? with
    | none => rw [g] at e; cases e
    | some ob =>
      rw [g] at e
      cases ob with
      | ins c' l' =>
        cases e
        obtain ⟨_, C, dx, fv, h2, h3, h4⟩ := rl.ob i a _ h g
        exact ⟨a, C, dx, fv, ev, h2, h3, h4⟩
      | _ => cases e
  | _ => cases e
theorem repF_none {H : Hp} {ρ : List Addr} {Z : Addr → Prop} {k : Nat} {f : Str} (hf : ∀ j, T.att[j]? = some f → j = k) : ∀ {fv : List (Str × V)} {l : List (Nat × U)}, RepF T ρ Z H fv l → l.lookup k = none → fv.lookup f = none
  | _, _, .nil, _ => rfl
  | _, _, .cons (f := g) (k := j) e r t, h => by
    rw [List.lookup_cons] at h ⊢
    by_cases hg : f = g
    · subst hg
      rw [hf j e] at h
      simp at h
    · have : (f == g) = false := by simpa using hg
      rw [this]
      by_cases hk : k = j
      · subst hk; simp at h
      · have : (k == j) = false := by simpa using hk
        rw [this] at h
        exact repF_none hf t h
theorem repF_some {H : Hp} {ρ : List Addr} {Z : Addr → Prop} {k : Nat} {f : Str} {u : U} (hk : T.att[k]? = some f) (hf : ∀ j, T.att[j]? = some f → j = k) : ∀ {fv : List (Str × V)} {l : List (Nat × U)}, RepF T ρ Z H fv l → l.lookup k = some u → ∃ v, fv.lookup f = some v ∧ Rep T ρ Z H v u
  | _, _, .nil, h => by cases h
  | _, _, .cons (f := g) (k := j) (v := v) (u := u') e r t, h => by
    rw [List.lookup_cons] at h ⊢
    by_cases hj : k = j
    · subst hj
      rw [hk] at e
      cases e
      simp at h ⊢
      subst h
      exact r
    · have h1 : (k == j) = false := by simpa using hj
      rw [h1] at h
      have h2 : (f == g) = false := by
        simp only [beq_eq_false_iff_ne, ne_eq]
        intro z
        subst z
        exact hj (hf j e).symm
      rw [h2]
      exact repF_some hk hf t h

/-- the names of attributes are all different -/
def AttOk (T : Tb) : Prop := ∀ (i j : Nat) (f : Str), T.att[i]? = some f → T.att[j]? = some f → i = j
/-- one class's method: its def -/
structure MethOk (P : Program) (w : World) (K : PySem.W.Frag) (mg : Str → Option Value) (base : Heap) (T : Tb) (k : Nat) (c : Nat) (m : Str) (km : Nat) (n : Nat) (r : RunD) : Prop where
  cl : ∃ C f, T.cls[c]? = some C ∧ Cls K C ∧ Meth K C m f ∧ T.att[km]? = some m ∧ DefOk P w K mg base T k f n r
/-- o.m(e, ..): mt c is the method's def in the class c -/
def methM (mt : Nat → Option (Nat × RunD)) (km : Nat) (mo : ME) (mas : MA) : ME := fun s G => (mo s G).bind fun u G1 => match insOf G1 u with
  | some (c, l) => match mt c with
    | some (n, r) => match l.lookup km with
      | none => (mas s G1).bind fun us G2 => arM n r (u :: us) G2
      | some _ => .bad
    | none => .bad
  | none => .bad
theorem PE.ex {ι : Sort _} {e : Expr} {t : ι → TE} (h : ∀ i, PE X e (t i)) : PE X e (fun σ H Q => ∃ i, t i σ H Q) := ⟨fun pins s σ H Q I ⟨i, q⟩ => (h i).run pins s σ H Q I q⟩
/-- the class that a receiver has, for the choice of the rule -/
theorem meth_imp {mt : Nat → Option (Nat × RunD)} {km : Nat} {σ : L2.St} {H : Hp} {Q : VK} (hat : AttOk T) (h0 : ∃ c n r, mt c = some (n, r)) (hmt : ∀ c n r, mt c = some (n, r) → ∃ C, T.cls[c]? = some C ∧ T.att[km]? = some m)
    (q : tE T W (methM mt km mo mas) σ H Q) : ∃ c n r C, mt c = some (n, r) ∧ T.cls[c]? = some C ∧ tMethS C m (spD T n r) (WE W) (tE T W mo) (tA T W mas) σ H Q := by
  obtain ⟨s, G, ρ, Z, sm, q⟩ := q
  unfold methM at q
  cases e : mo s G with
  | bad => rw [e] at q; exact q.elim
  | exc x G1 =>
    obtain ⟨c, n, r, hc⟩ := h0
    obtain ⟨C, g1, g2⟩ := hmt c n r hc
    refine ⟨c, n, r, C, hc, g1, s, G, ρ, Z, sm, ?_⟩
    rw [e] at q ⊢
    exact q
  | ok u G1 =>
    rw [e] at q
    simp only [Rs.bind] at q
    split at q
    · rename_i c l hi
      split at q
      · rename_i n r hc
        obtain ⟨C, g1, g2⟩ := hmt c n r hc
        split at q
        · rename_i hl
          refine ⟨c, n, r, C, hc, g1, s, G, ρ, Z, sm, ?_⟩
          rw [e]
          intro v H1 ρ1 Z1 x1 rl1 r1
          obtain ⟨a, C', dx, fv, ev, h1, h2, h3⟩ := insOf_at rl1 r1 hi
          have eC : C' = C := by rw [g1] at h2; exact (Option.some.inj h2).symm
          subst eC
          refine ⟨a, dx, fv, ev, h1, repF_none (fun j hj => hat j km m hj g2) h3 hl, ?_⟩
          have sm1 := sm.ex x1 rl1
          refine tA_bind sm1 (RE.ex q x1) fun us G2 vs H2 ρ2 Z2 x2 sm2 r2 q2 => ?_
          exact RE.sp sm2 (.cons (r1.ex rl1.zm x2) r2) q2
        · exact q.elim
      · exact q.elim
    · exact q.elim
theorem fe_meth {mt : Nat → Option (Nat × RunD)} {km : Nat} (ho : PE X o (tE T W mo)) (ha : PA X (e :: es) (tA T W mas)) (hat : AttOk T) (h0 : ∃ c n r, mt c = some (n, r)) (hmt : ∀ c n r, mt c = some (n, r) → MethOk X.prog X.w X.K X.mg X.base T k c m km n r) (hr : Room k X.A) (tk : Takes X W)
    (h1 : plainRecv o = true) (h2 : (e :: es).all noStar = true) (h3 : (e :: es).length < 30) (h4 : (apos.endLine == pos.line) = true) : PE X (.Call (.Attribute o m apos) (e :: es) [] pos) (tE T W (methM mt km mo mas)) := by
  have key : ∀ (i : { z : Nat × Nat × RunD × Addr // mt z.1 = some (z.2.1, z.2.2.1) ∧ T.cls[z.1]? = some z.2.2.2 }), PE X (.Call (.Attribute o m apos) (e :: es) [] pos) (tMethS i.1.2.2.2 m (spD T i.1.2.1 i.1.2.2.1) (WE W) (tE T W mo) (tA T W mas)) := fun ⟨⟨c, n, r, C⟩, hc, hC⟩ => by
    obtain ⟨C', f, g1, g2, g3, g4, g5⟩ := (hmt c n r hc).cl
    have eC : C' = C := by rw [hC] at g1; exact (Option.some.inj g1).symm
    subst eC
    obtain ⟨fd, ps, hb, hl, F⟩ := g5.ex
    have h2' := h2
    rw [List.all_cons, Bool.and_eq_true] at h2'
    exact pe_methS ho g2 g3 F hr hb (fun σ => passAt tk σ) ha (star_cons h2'.1) (star_any h2'.2) (call_eval h1 h2 h3 h4)
  refine PE.imp (PE.ex key) fun σ H Q q => ?_
  obtain ⟨c, n, r, C, hc, hC, q⟩ := meth_imp hat h0 (fun c n r hc => let ⟨C, f, g1, g2, g3, g4, g5⟩ := (hmt c n r hc).cl; ⟨C, g1, g4⟩) q
  exact ⟨⟨⟨c, n, r, C⟩, hc, hC⟩, q⟩
theorem tNil_of {σ : L2.St} {H : Hp} {Q : List V → Hp → Prop} (q : tA T W nilA σ H Q) : tNil σ H Q := by
  obtain ⟨s, G, ρ, Z, sm, q⟩ := q
  exact q [] H ρ Z Ex.refl sm.rl .nil
theorem fe_meth0 {mt : Nat → Option (Nat × RunD)} {km : Nat} (ho : PE X o (tE T W mo)) (hat : AttOk T) (h0 : ∃ c n r, mt c = some (n, r)) (hmt : ∀ c n r, mt c = some (n, r) → MethOk X.prog X.w X.K X.mg X.base T k c m km n r) (hr : Room k X.A) (tk : Takes X W)
    (h1 : plainRecv o = true) (h4 : (apos.endLine == pos.line) = true) : PE X (.Call (.Attribute o m apos) [] [] pos) (tE T W (methM mt km mo nilA)) := by
  have key : ∀ (i : { z : Nat × Nat × RunD × Addr // mt z.1 = some (z.2.1, z.2.2.1) ∧ T.cls[z.1]? = some z.2.2.2 }), PE X (.Call (.Attribute o m apos) [] [] pos) (tMethS i.1.2.2.2 m (spD T i.1.2.1 i.1.2.2.1) (WE W) (tE T W mo) tNil) := fun ⟨⟨c, n, r, C⟩, hc, hC⟩ => by
    obtain ⟨C', f, g1, g2, g3, g4, g5⟩ := (hmt c n r hc).cl
    have eC : C' = C := by rw [hC] at g1; exact (Option.some.inj g1).symm
    subst eC
    obtain ⟨fd, ps, hb, hl, F⟩ := g5.ex
    exact pe_meth0S ho g2 g3 F hr hb (fun σ => passAt tk σ) (call_eval h1 rfl (by decide) h4)
  refine PE.imp (PE.ex key) fun σ H Q q => ?_
  obtain ⟨c, n, r, C, hc, hC, q⟩ := meth_imp hat h0 (fun c n r hc => let ⟨C, f, g1, g2, g3, g4, g5⟩ := (hmt c n r hc).cl; ⟨C, g1, g4⟩) q
  refine ⟨⟨⟨c, n, r, C⟩, hc, hC⟩, ?_⟩
  obtain ⟨s, G, ρ, Z, sm, q⟩ := q
  refine ⟨s, G, ρ, Z, sm, ?_⟩
  cases e : mo s G with
  | bad => rw [e] at q; exact q
  | exc x G1 => rw [e] at q; exact q
  | ok u G1 =>
    rw [e] at q
    intro v H1 ρ1 Z1 x1 rl1 r1
    obtain ⟨a, dx, fs, ex, ea, l, q2⟩ := q v H1 ρ1 Z1 x1 rl1 r1
    exact ⟨a, dx, fs, ex, ea, l, tNil_of q2⟩

/-! ### attributes -/
/-- o.f: a field, or the property's def in its class -/
def attrM (pt : Nat → Option RunD) (ok : Nat → Bool) (kf : Nat) (mo : ME) : ME := fun s G => (mo s G).bind fun u G1 => match insOf G1 u with
  | some (c, l) => match pt c with
    | some r => r [u] G1
    | none => if ok c then (match l.lookup kf with
      | some w => .ok w G1
      | none => .bad) else .bad
  | none => .bad
structure PropOk (P : Program) (w : World) (K : PySem.W.Frag) (mg : Str → Option Value) (base : Heap) (T : Tb) (k : Nat) (c : Nat) (fn : Str) (r : RunD) : Prop where
  cl : ∃ C p g, T.cls[c]? = some C ∧ Cls K C ∧ PropOf K C fn p g ∧ DefOk P w K mg base T k g 1 r
structure FldOk (K : PySem.W.Frag) (T : Tb) (c : Nat) (fn : Str) : Prop where
  cl : ∃ C, T.cls[c]? = some C ∧ Cls K C ∧ NoAttr K C fn
theorem PE.or {e : Expr} {t t' : TE} (h : PE X e t) (h' : PE X e t') : PE X e (fun σ H Q => t σ H Q ∨ t' σ H Q) := ⟨fun pins s σ H Q I q => q.elim (h.run pins s σ H Q I) (h'.run pins s σ H Q I)⟩
def noExc : Rs U → Rs U
  | .ok u G => .ok u G
  | _ => .bad
def attrP (r : RunD) : RunD := fun us G => noExc (arM 1 r us G)
theorem attrP_sp {r : RunD} {σ : L2.St} {H : Hp} {ρ : List Addr} {Z : Addr → Prop} {G : List Ob} {s : Sg} {Q : VK} {us : List U} {vs : List V} (sm : Sm T σ H s G ρ Z) (q : Reps T ρ Z H vs us) (h : RE T W σ H ρ Z Q (attrP r us G)) : spD T 1 r vs H Q E0 := by
  unfold attrP arM at h
  by_cases e : us.length = 1
  · rw [if_pos e] at h
    refine ⟨us, G, ρ, Z, sm.rl, q, e, ?_⟩
    cases e2 : r us G with
    | ok u G' => rw [e2] at h; exact h
    | exc x G' => rw [e2] at h; exact h.elim
    | bad => rw [e2] at h; exact h.elim
  · rw [if_neg e] at h
    exact h.elim
theorem fe_attr {fn : Str} {pt : Nat → Option RunD} {ok : Nat → Bool} {kf : Nat} (ho : PE X o (tE T W mo)) (hT : X.K = T.K) (hat : AttOk T) (hf : T.att[kf]? = some fn) (hpt : ∀ c r, pt c = some r → PropOk X.prog X.w X.K X.mg X.base T k c fn r)
    (hfld : ∀ c, ok c = true → FldOk X.K T c fn) (hr : Room (k + 1) X.A) (h1 : plainRecv o = true) : PE X (.Attribute o fn pos) (tE T W (attrM (fun c => (pt c).map attrP) ok kf mo)) := by
  have key : ∀ (i : { z : Nat × RunD × Addr // pt z.1 = some z.2.1 ∧ T.cls[z.1]? = some z.2.2 }), PE X (.Attribute o fn pos) (tProp i.1.2.2 (spD T 1 i.1.2.1) [] E0 (tE T W mo)) := fun ⟨⟨c, r, C⟩, hc, hC⟩ => by
    obtain ⟨C', p, g, g1, g2, g3, g5⟩ := (hpt c r hc).cl
    have eC : C' = C := by rw [hC] at g1; exact (Option.some.inj g1).symm
    subst eC
    obtain ⟨fd, ps, hb, hl, F⟩ := g5.ex
    exact pe_prop ho g2 g3 F hr hb .nil passL (attrBase h1)
  refine PE.imp (PE.or (pe_fld ho (attrBase h1)) (PE.ex key)) fun σ H Q ⟨s, G, ρ, Z, sm, q⟩ => ?_
  unfold attrM at q
  cases e : mo s G with
  | bad => rw [e] at q; exact q.elim
  | exc x G1 =>
    rw [e] at q
    refine .inl ⟨s, G, ρ, Z, sm, ?_⟩
    rw [e]
    exact q
  | ok u G1 =>
    rw [e] at q
    simp only [Rs.bind] at q
    split at q
    · rename_i c l hi
      split at q
      · rename_i r hr'
        cases hp : pt c with
        | none => rw [hp] at hr'; cases hr'
        | some r0 =>
          rw [hp] at hr'
          cases hr'
          obtain ⟨C, p, g, g1, g2, g3, g5⟩ := (hpt c r0 hp).cl
          refine .inr ⟨⟨⟨c, r0, C⟩, hp, g1⟩, s, G, ρ, Z, sm, ?_⟩
          rw [e]
          intro v H1 ρ1 Z1 x1 rl1 r1
          obtain ⟨a, C', dx, fv, ev, h1, h2, h3⟩ := insOf_at rl1 r1 hi
          have eC : C' = C := by rw [g1] at h2; exact (Option.some.inj h2).symm
          subst eC
          subst ev
          exact ⟨a, dx, fv, rfl, h1, attrP_sp (sm.ex x1 rl1) (.cons r1 .nil) (RE.ex q x1)⟩
      · rename_i hr'
        have hp : pt c = none := by
          cases hp : pt c with
          | none => rfl
          | some r0 => rw [hp] at hr'; cases hr'
        by_cases hok : ok c = true
        case neg => rw [if_neg hok] at q; exact q.elim
        rw [if_pos hok] at q
        split at q
        · rename_i w hl
          refine .inl ⟨s, G, ρ, Z, sm, ?_⟩
          rw [e]
          intro v H1 ρ1 Z1 x1 rl1 r1
          obtain ⟨a, C', dx, fv, ev, h1, h2, h3⟩ := insOf_at rl1 r1 hi
          obtain ⟨C, g1, g2, g3⟩ := (hfld c hok).cl
          have eC : C' = C := by rw [g1] at h2; exact (Option.some.inj h2).symm
          subst eC
          obtain ⟨v', hv, rv⟩ := repF_some hf (fun j hj => hat j kf fn hj hf) h3 hl
          exact ⟨a, C', dx, fv, v', ev, h1, g2, g3, hv, q v' H1 ρ1 Z1 x1 rl1 rv⟩
        · exact q.elim
    · exact q.elim

/-! ### a class that is made -/
structure MakeOk (P : Program) (w : World) (K : PySem.W.Frag) (mg : Str → Option Value) (base : Heap) (T : Tb) (k : Nat) (c : Nat) (x : Str) (n : Nat) (r : RunD) : Prop where
  cl : ∃ C f, T.cls[c]? = some C ∧ mg x = some (.ref C) ∧ Mk K C f ∧ DefOk P w K mg base T k f n r
def madeU (c : Nat) (n : Nat) (r : RunD) : RunD := fun us G => (arM n r (.ref G.length :: us) (G ++ [.ins c []])).bind fun u G2 => match u with
  | .non => .ok (.ref G.length) G2
  | _ => .bad
def makeM (c n : Nat) (r : RunD) (mas : MA) : ME := fun s G => (mas s G).bind fun us G1 => madeU c n r us G1
theorem made_ok {σ : L2.St} {H : Hp} {ρ : List Addr} {Z : Addr → Prop} {G : List Ob} {s : Sg} {Q : VK} {us : List U} {vs : List V} {c : Nat} (sm : Sm T σ H s G ρ Z) (q : Reps T ρ Z H vs us) (hC : T.cls[c]? = some C) (h : RE T W σ H ρ Z Q (madeU c n r us G)) :
    ∀ x dx, H x = none → H dx = none → dx ≠ x → spD T n r (.ref x :: vs) (upd (upd H dx (.own x)) x (.ins C dx [])) (fun v H2 => v = .non ∧ Q (.ref x) H2) (WE W σ) := by
  intro x dx hx hdx hne
  have x1 : Ex ρ Z H ρ Z (upd H dx (.own x)) := ex_new hdx
  have rl1 := sm.rl.new (o := .own x) hdx
  have hx1 : upd H dx (.own x) x = none := by rw [upd_ne (Ne.symm hne)]; exact hx
  have x2 : Ex ρ Z (upd H dx (.own x)) (ρ ++ [x]) (zOr Z x) (upd (upd H dx (.own x)) x (.ins C dx [])) := ex_cell rl1 hx1
  have rl2 : Rl T (ρ ++ [x]) (zOr Z x) (G ++ [.ins c []]) (upd (upd H dx (.own x)) x (.ins C dx [])) := rl1.cell hx1 trivial ⟨.inr rfl, C, dx, [], upd_same, hC, .nil⟩
  have hget : (ρ ++ [x])[G.length]? = some x := by
    rw [List.getElem?_append_right (by rw [sm.rl.len]; exact Nat.le_refl _)]
    simp [sm.rl.len]
  unfold madeU at h
  have h2 := RE.ex h (x1.trans x2)
  unfold arM at h2
  by_cases e : (U.ref G.length :: us).length = n
  · rw [if_pos e] at h2
    refine ⟨.ref G.length :: us, G ++ [.ins c []], ρ ++ [x], zOr Z x, rl2, .cons (.ref hget) ((q.ex sm.rl.zm x1).ex rl1.zm x2), e, ?_⟩
    cases e2 : r (.ref G.length :: us) (G ++ [.ins c []]) with
    | bad => rw [e2] at h2; exact h2.elim
    | exc y G' => rw [e2] at h2; exact h2
    | ok u G' =>
      rw [e2] at h2
      simp only [Rs.bind] at h2
      intro v H' ρ' Z' x3 rl3 r3
      split at h2
      · refine ⟨r3.inv_non, h2 _ H' ρ' Z' x3 rl3 (.ref ?_)⟩
        obtain ⟨t, et⟩ := x3.pre
        exact pre_get et hget
      · exact h2.elim
  · rw [if_neg e] at h2
    exact h2.elim
theorem run_makeS {CX : CXT} {sp : Sp} {E : XK} {pins : List (Addr × Obj)} {σ : L2.St} {H : Hp} {s : Shared} {Q : VK} {us : List Value} {vs : List V} (M : Mk X.K C f) (F : FnOk X.prog X.w X.K X.mg X.base CX k f fd ps sp) (hr : Room (k + 1) X.A) (hb : Binds X.K fd ps [])
    (hx : PassesAt CX X σ E) (I : Inv X pins σ H s) (r : Vals vs us)
    (h : ∀ x dx, H x = none → H dx = none → dx ≠ x → sp (.ref x :: vs) (upd (upd H dx (.own x)) x (.ins C dx [])) (fun v H2 => v = .non ∧ Q (.ref x) H2) E) :
    wpAny (model X.prog X.w) X.A (call (.ref C) us) (EP X pins σ Q) X.xe s := by
  have hq := h (s.heap.objs.size + 1) s.heap.objs.size (I.hok.fresh (Nat.le_succ _)) (I.hok.fresh (Nat.le_refl _)) (Nat.ne_of_lt (Nat.lt_succ_self _))
  have I2 := Inv.made (C := C) I
  have r2 : Vals (V.ref (s.heap.objs.size + 1) :: vs) (Value.ref (s.heap.objs.size + 1) :: us) := .cons rfl r
  have hl : (Value.ref (s.heap.objs.size + 1) :: us ++ []).length = ps.length := by
    have e := r2.length
    rw [F.len _ _ _ _ hq] at e
    simpa using e.symm
  have hb' := hb _ (Value.ref (s.heap.objs.size + 1) :: us) I2.kIn hl
  rw [List.append_nil] at hb'
  refine wpAny_call (make_map (f := f) I.kIn M.makes M.init (beq_iff_eq.mp M.fn) (codeAny_mono (F.run _ X.stack _ _ ⟨Value.ref (s.heap.objs.size + 1) :: us, []⟩ (Value.ref (s.heap.objs.size + 1) :: us) _ _ E (hr.make C us [])
    (I2.env0.make C us []) hb' r2 hq) fun r s' hq' => ?_))
  cases r with
  | error e => exact hx pins _ _ e s' I2 hq'
  | ok fl =>
    cases fl with
    | ret u =>
      obtain ⟨v, H', I3, rv, ev, q3⟩ := I2.after hq'
      subst ev
      exact ⟨rv, ⟨V.ref (s.heap.objs.size + 1), H', I3, rfl, q3⟩⟩
    | next => exact False.elim hq'
    | brk => exact False.elim hq'
    | cont => exact False.elim hq'
theorem fe_make {c : Nat} (M : MakeOk X.prog X.w X.K X.mg X.base T k c x n r) (hr : Room (k + 1) X.A) (hg : Gl X x) (tk : Takes X W) (ha : PA X (e :: es) (tA T W mas)) (hdb : (x == ("__debug__" : Str)) = false) (hst : (e :: es).all noStar = true) :
    PE X (.Call (.Name x p) (e :: es) [] pos) (tE T W (makeM c n r mas)) := by
  obtain ⟨C, f, g1, g2, g3, g4⟩ := M.cl
  obtain ⟨fd, ps, hb, hl, F⟩ := g4.ex
  rw [List.all_cons, Bool.and_eq_true] at hst
  refine ⟨fun pins s σ H Q I h => ?_⟩
  refine wpAny_Call_Name_kw (ld_glob I hg g2 ?_ hdb)
  obtain ⟨s', G, ρ, Z, sm, q⟩ := h
  have q' : tA T W mas σ H fun vs H1 => ∀ x dx, H1 x = none → H1 dx = none → dx ≠ x → spD T n r (.ref x :: vs) (upd (upd H1 dx (.own x)) x (.ins C dx [])) (fun v H2 => v = .non ∧ Q (.ref x) H2) (WE W σ) :=
    tA_bind sm q fun us G1 vs H1 ρ1 Z1 x1 sm1 r1 q1 => made_ok sm1 r1 g1 (RE.ex q1 Ex.refl)
  exact PySem.W.callWith_K (h₀ := X.base) I.ok.mod.kin g3.kp (thn (ha.run pos pins s σ H _ I q') fun us s1 ⟨vs, H1, I1, r, q⟩ => ⟨I1.kIn, run_makeS g3 F hr hb (passAt tk σ) I1 r q⟩) (star_cons hst.1) (star_any hst.2)
theorem fe_make0 {c : Nat} (M : MakeOk X.prog X.w X.K X.mg X.base T k c x n r) (hr : Room (k + 1) X.A) (hg : Gl X x) (tk : Takes X W) (hdb : (x == ("__debug__" : Str)) = false) :
    PE X (.Call (.Name x p) [] [] pos) (tE T W (makeM c n r nilA)) := by
  obtain ⟨C, f, g1, g2, g3, g4⟩ := M.cl
  obtain ⟨fd, ps, hb, hl, F⟩ := g4.ex
  refine ⟨fun pins s σ H Q I h => ?_⟩
  refine wpAny_Call_Name_kw (ld_glob I hg g2 ?_ hdb)
  obtain ⟨s', G, ρ, Z, sm, q⟩ := h
  exact PySem.W.callWith_K0 I.kIn g3.kp (run_makeS (us := []) (vs := []) g3 F hr hb (passAt tk σ) I .nil (made_ok sm .nil g1 q))
end
end FL

/-! FL8: built-in functions, types, methods of built-in types. -/
namespace FL
open PySem L2 PyProof.Rows
section
variable {X : Cx} {T : Tb} {W : WX} {id : String} {x : Str} {p pos apos : Pos} {e o : Expr} {es : List Expr} {mas : MA} {mo : ME} {r : List V → Hp → VK → Prop} {f : RunD}
def OC (T : Tb) (W : WX) (f : RunD) (r : List V → Hp → VK → Prop) : Prop :=
  ∀ (σ : L2.St) (H : Hp) (s : Sg) (G : List Ob) (ρ : List Addr) (Z : Addr → Prop) (vs : List V) (us : List U) (Q : VK), Sm T σ H s G ρ Z → Reps T ρ Z H vs us → RE T W σ H ρ Z Q (f us G) → r vs H Q
def preM (f : RunD) (mas : MA) : ME := fun s G => (mas s G).bind f
theorem OC.top (h : OC T W f r) {σ : L2.St} {H : Hp} {Q : VK} (q : tE T W (preM f mas) σ H Q) : tCB r (tA T W mas) σ H Q := by
  obtain ⟨s, G, ρ, Z, sm, q⟩ := q
  exact tA_bind sm q fun us G1 vs H1 ρ1 Z1 x1 sm1 r1 q1 => h _ _ _ _ _ _ _ _ _ sm1 r1 q1
theorem fe_callB (hc : CallR X (.builtin id) r) (h : OC T W f r) (hg : Gl X x) (hm : X.mg x = none) (hv : bootBuiltins x = some (.builtin id)) (ha : PA X (e :: es) (tA T W mas)) (hn : x ≠ "__name__") (hdb : (x == ("__debug__" : Str)) = false) (hst : (e :: es).all noStar = true) :
    PE X (.Call (.Name x p) (e :: es) [] pos) (tE T W (preM f mas)) := by
  rw [List.all_cons, Bool.and_eq_true] at hst
  exact PE.imp (pe_callB hc hg hm hv ha hn hdb (star_cons hst.1) (star_any hst.2)) fun _ _ _ q => h.top q
theorem fe_callTy {n : String} (hc : CallR X (.type n) r) (h : OC T W f r) (hg : Gl X x) (hm : X.mg x = none) (hv : bootBuiltins x = some (.type n)) (ha : PA X (e :: es) (tA T W mas)) (hn : x ≠ "__name__") (hdb : (x == ("__debug__" : Str)) = false) (hst : (e :: es).all noStar = true) :
    PE X (.Call (.Name x p) (e :: es) [] pos) (tE T W (preM f mas)) := by
  rw [List.all_cons, Bool.and_eq_true] at hst
  exact PE.imp (pe_callTy hc hg hm hv ha hn hdb (star_cons hst.1) (star_any hst.2)) fun _ _ _ q => h.top q

theorem Reps.inv1 {ρ : List Addr} {Z : Addr → Prop} {H : Hp} {vs : List V} {u : U} (h : Reps T ρ Z H vs [u]) : ∃ v, vs = [v] ∧ Rep T ρ Z H v u := by
  cases h with
  | cons a b => cases b; exact ⟨_, rfl, a⟩
theorem Reps.inv2 {ρ : List Addr} {Z : Addr → Prop} {H : Hp} {vs : List V} {u w : U} (h : Reps T ρ Z H vs [u, w]) : ∃ v v', vs = [v, v'] ∧ Rep T ρ Z H v u ∧ Rep T ρ Z H v' w := by
  cases h with
  | cons a b =>
    cases b with
    | cons c d => cases d; exact ⟨_, _, rfl, a, c⟩

/-! ### len -/
def lenU : RunD := fun us G => match us with
  | [.str l] => if l.length ≤ szL then .ok (.int l.length) G else .bad
  | [u] => match seqOf G u with
    | some l => .ok (.int l.length) G
    | none => .bad
  | _ => .bad
abbrev rLen (K : PySem.W.Frag) : List V → Hp → VK → Prop := fun xs H Q => ∃ x n, xs = [x] ∧ LenV K x H n ∧ Q (.int n) H
theorem oc_len (hT : X.K = T.K) : OC T W lenU (rLen X.K) := by
  intro σ H s G ρ Z vs us Q sm r1 h
  unfold lenU at h
  split at h
  · rename_i l
    by_cases z : l.length ≤ szL
    · rw [if_pos z] at h
      obtain ⟨v, rfl, rv⟩ := r1.inv1
      refine ⟨v, l.length, rfl, ?_, h _ H ρ Z Ex.refl sm.rl (.int _)⟩
      rw [rv.inv_str]
      show (SS l).length ≤ sizeLine ∧ l.length = (SS l).length
      rw [strLen, szL_eq]
      exact ⟨z, rfl⟩
    · rw [if_neg z] at h
      exact h.elim
  · split at h
    · rename_i l e
      obtain ⟨v, rfl, rv⟩ := r1.inv1
      obtain ⟨a, ws, rfl, h1, q1⟩ := seqOf_at (σ := σ) sm.rl rv e
      refine ⟨.ref a, l.length, rfl, ?_, h _ H ρ Z Ex.refl sm.rl (.int _)⟩
      rcases h1 with h1 | h1
      · exact .inl ⟨ws, hT ▸ h1, q1.length.symm⟩
      · exact .inr ⟨ws, hT ▸ h1, q1.length.symm⟩
    · exact h.elim
  · exact h.elim

/-! ### ints -/
def absU : RunD := fun us G => match us with
  | [.int i] => .ok (.int (if i < 0 then -i else i)) G
  | _ => .bad
theorem oc_abs : OC T W absU (fun xs H Q => ∃ i, xs = [.int i] ∧ Q (.int (if i < 0 then -i else i)) H) := by
  intro σ H s G ρ Z vs us Q sm r1 h
  unfold absU at h
  split at h
  · obtain ⟨v, rfl, rv⟩ := r1.inv1
    exact ⟨_, by rw [rv.inv_int], h _ H ρ Z Ex.refl sm.rl (.int _)⟩
  · exact h.elim
def intU1 : RunD := fun us G => match us with
  | [.int i] => .ok (.int i) G
  | [.bl k] => .ok (.int (if k then 1 else 0)) G
  | [.str l] => match PySem.intText? (SS l) with
    | some n => if l.length ≤ 640 then .ok (.int n) G else .bad
    | none => .bad
  | _ => .bad
abbrev rInt : List V → Hp → VK → Prop := fun xs H Q => ((∃ i, xs = [.int i] ∧ Q (.int i) H) ∨ ∃ k, xs = [.bl k] ∧ Q (.int (if k then 1 else 0)) H) ∨ ∃ a n, xs = [.str a] ∧ PySem.intText? a = some n ∧ a.length ≤ 640 ∧ Q (.int n) H
theorem cr_int : CallR X (.type "int") rInt := CallR.or call_int1 call_int_str
theorem oc_int : OC T W intU1 rInt := by
  intro σ H s G ρ Z vs us Q sm r1 h
  unfold intU1 at h
  split at h
  · obtain ⟨v, rfl, rv⟩ := r1.inv1
    exact .inl (.inl ⟨_, by rw [rv.inv_int], h _ H ρ Z Ex.refl sm.rl (.int _)⟩)
  · obtain ⟨v, rfl, rv⟩ := r1.inv1
    exact .inl (.inr ⟨_, by rw [rv.inv_bl], h _ H ρ Z Ex.refl sm.rl (.int _)⟩)
  · rename_i l
    split at h
    · rename_i n e
      by_cases z : l.length ≤ 640
      · rw [if_pos z] at h
        obtain ⟨v, rfl, rv⟩ := r1.inv1
        exact .inr ⟨SS l, n, by rw [rv.inv_str], e, by rw [strLen]; exact z, h _ H ρ Z Ex.refl sm.rl (.int _)⟩
      · rw [if_neg z] at h
        exact h.elim
    · exact h.elim
  · exact h.elim
def strU1 : RunD := fun us G => match us with
  | [.int i] => if i.natAbs.log2 < 1920 then .ok (.str (Str.ofString (toString i)).cps.toList) G else .bad
  | _ => .bad
theorem oc_str : OC T W strU1 (fun xs H Q => ∃ i, xs = [.int i] ∧ i.natAbs.log2 < 1920 ∧ Q (.str (toString i)) H) := by
  intro σ H s G ρ Z vs us Q sm r1 h
  unfold strU1 at h
  split at h
  · rename_i i
    by_cases z : i.natAbs.log2 < 1920
    · rw [if_pos z] at h
      obtain ⟨v, rfl, rv⟩ := r1.inv1
      exact ⟨i, by rw [rv.inv_int], z, h _ H ρ Z Ex.refl sm.rl (.str _)⟩
    · rw [if_neg z] at h
      exact h.elim
  · exact h.elim
/-- the ints, bools, texts of a list -/
def intsOf : List U → Option (List Int)
  | [] => some []
  | .int i :: r => (intsOf r).map (i :: ·)
  | _ :: _ => none
def blsOf : List U → Option (List Bool)
  | [] => some []
  | .bl i :: r => (blsOf r).map (i :: ·)
  | _ :: _ => none
def strsOf : List U → Option (List (List Nat))
  | [] => some []
  | .str i :: r => (strsOf r).map (i :: ·)
  | _ :: _ => none
theorem intsOf_eq : ∀ {l : List U} {ns : List Int}, intsOf l = some ns → l = ns.map U.int
  | [], ns, e => by cases e; rfl
  | u :: r, ns, e => by
    cases u with
    | int i =>
      simp only [intsOf] at e
      cases e2 : intsOf r with
      | none => rw [e2] at e; cases e
      | some ms =>
        rw [e2] at e
        cases e
        rw [intsOf_eq e2]
        rfl
    | _ => cases e
theorem blsOf_eq : ∀ {l : List U} {ns : List Bool}, blsOf l = some ns → l = ns.map U.bl
  | [], ns, e => by cases e; rfl
  | u :: r, ns, e => by
    cases u with
    | bl i =>
      simp only [blsOf] at e
      cases e2 : blsOf r with
      | none => rw [e2] at e; cases e
      | some ms =>
        rw [e2] at e
        cases e
        rw [blsOf_eq e2]
        rfl
    | _ => cases e
theorem strsOf_eq : ∀ {l : List U} {ns : List (List Nat)}, strsOf l = some ns → l = ns.map U.str
  | [], ns, e => by cases e; rfl
  | u :: r, ns, e => by
    cases u with
    | str i =>
      simp only [strsOf] at e
      cases e2 : strsOf r with
      | none => rw [e2] at e; cases e
      | some ms =>
        rw [e2] at e
        cases e
        rw [strsOf_eq e2]
        rfl
    | _ => cases e
theorem Reps.bls {ρ : List Addr} {Z : Addr → Prop} {H : Hp} : ∀ {ns : List Bool} {vs : List V}, Reps T ρ Z H vs (ns.map U.bl) → vs = ns.map V.bl
  | [], _, r => by cases r; rfl
  | n :: ns, _, r => by
    cases r with
    | cons a b => rw [a.inv_bl, Reps.bls b]; rfl
theorem Reps.strs {ρ : List Addr} {Z : Addr → Prop} {H : Hp} : ∀ {ns : List (List Nat)} {vs : List V}, Reps T ρ Z H vs (ns.map U.str) → vs = (ns.map SS).map V.str
  | [], _, r => by cases r; rfl
  | n :: ns, _, r => by
    cases r with
    | cons a b => rw [a.inv_str, Reps.strs b]; rfl
theorem Reps.of_strs {ρ : List Addr} {Z : Addr → Prop} {H : Hp} : ∀ (ns : List (List Nat)), Reps T ρ Z H ((ns.map SS).map V.str) (ns.map U.str)
  | [] => .nil
  | n :: ns => .cons (Rep.ss n) (Reps.of_strs ns)
/-! ### all, any, max, min, sum -/
def allU : RunD := fun us G => match us with
  | [u] => match lstOf G u with
    | some l => match blsOf l with
      | some bs => .ok (.bl (bs.all fun b => b)) G
      | none => .bad
    | none => .bad
  | _ => .bad
def anyU : RunD := fun us G => match us with
  | [u] => match lstOf G u with
    | some l => match blsOf l with
      | some bs => .ok (.bl (bs.any fun b => b)) G
      | none => .bad
    | none => .bad
  | _ => .bad
theorem oc_all (hT : X.K = T.K) : OC T W allU (rAll X.K) := by
  intro σ H s G ρ Z vs us Q sm r1 h
  unfold allU at h
  split at h
  · split at h
    · rename_i l e
      split at h
      · rename_i bs eb
        obtain ⟨v, rfl, rv⟩ := r1.inv1
        obtain ⟨a, ws, rfl, h1, q1⟩ := lstOf_at sm.rl rv e
        rw [blsOf_eq eb] at q1
        have e2 := q1.bls
        subst e2
        exact ⟨a, bs, rfl, hT ▸ h1, h _ H ρ Z Ex.refl sm.rl (.bl _)⟩
      · exact h.elim
    · exact h.elim
  · exact h.elim
theorem oc_any (hT : X.K = T.K) : OC T W anyU (rAny X.K) := by
  intro σ H s G ρ Z vs us Q sm r1 h
  unfold anyU at h
  split at h
  · split at h
    · rename_i l e
      split at h
      · rename_i bs eb
        obtain ⟨v, rfl, rv⟩ := r1.inv1
        obtain ⟨a, ws, rfl, h1, q1⟩ := lstOf_at sm.rl rv e
        rw [blsOf_eq eb] at q1
        have e2 := q1.bls
        subst e2
        exact ⟨a, bs, rfl, hT ▸ h1, h _ H ρ Z Ex.refl sm.rl (.bl _)⟩
      · exact h.elim
    · exact h.elim
  · exact h.elim
def maxL : List Int → Int
  | [] => 0
  | [a] => a
  | a :: r => if maxL r > a then maxL r else a
def minL : List Int → Int
  | [] => 0
  | [a] => a
  | a :: r => if minL r < a then minL r else a
theorem maxL_mem : ∀ {l : List Int}, 0 < l.length → maxL l ∈ l
  | [a], _ => by simp [maxL]
  | a :: b :: r, _ => by
    have ih := maxL_mem (l := b :: r) (by simp)
    simp only [maxL]
    split
    · exact List.mem_cons_of_mem _ ih
    · exact List.mem_cons_self
theorem maxL_le : ∀ {l : List Int}, ∀ y ∈ l, y ≤ maxL l
  | [a], y, h => by simp at h; subst h; simp [maxL]
  | a :: b :: r, y, h => by
    have ih := maxL_le (l := b :: r)
    simp only [maxL]
    rcases List.mem_cons.mp h with rfl | h
    · split <;> omega
    · have := ih y h
      split <;> omega
theorem minL_mem : ∀ {l : List Int}, 0 < l.length → minL l ∈ l
  | [a], _ => by simp [minL]
  | a :: b :: r, _ => by
    have ih := minL_mem (l := b :: r) (by simp)
    simp only [minL]
    split
    · exact List.mem_cons_of_mem _ ih
    · exact List.mem_cons_self
theorem minL_le : ∀ {l : List Int}, ∀ y ∈ l, minL l ≤ y
  | [a], y, h => by simp at h; subst h; simp [minL]
  | a :: b :: r, y, h => by
    have ih := minL_le (l := b :: r)
    simp only [minL]
    rcases List.mem_cons.mp h with rfl | h
    · split <;> omega
    · have := ih y h
      split <;> omega
def maxU : RunD := fun us G => match us with
  | [.int i, .int j] => .ok (.int (if j > i then j else i)) G
  | [u] => match lstOf G u with
    | some l => match intsOf l with
      | some ns => if 0 < ns.length then .ok (.int (maxL ns)) G else .bad
      | none => .bad
    | none => .bad
  | _ => .bad
def minU : RunD := fun us G => match us with
  | [.int i, .int j] => .ok (.int (if j < i then j else i)) G
  | [u] => match lstOf G u with
    | some l => match intsOf l with
      | some ns => if 0 < ns.length then .ok (.int (minL ns)) G else .bad
      | none => .bad
    | none => .bad
  | _ => .bad
abbrev rMaxA (K : PySem.W.Frag) : List V → Hp → VK → Prop := fun xs H Q => (∃ i j, xs = [.int i, .int j] ∧ Q (.int (if j > i then j else i)) H) ∨ rMax K xs H Q
abbrev rMinA (K : PySem.W.Frag) : List V → Hp → VK → Prop := fun xs H Q => (∃ i j, xs = [.int i, .int j] ∧ Q (.int (if j < i then j else i)) H) ∨ rMin K xs H Q
theorem cr_maxA (hc : X.calm = true) : CallR X (.builtin "max") (rMaxA X.K) := CallR.or (call_max2 hc) (cr_max hc)
theorem cr_minA (hc : X.calm = true) : CallR X (.builtin "min") (rMinA X.K) := CallR.or (call_min2 hc) (cr_min hc)
theorem oc_max (hT : X.K = T.K) : OC T W maxU (rMaxA X.K) := by
  intro σ H s G ρ Z vs us Q sm r1 h
  unfold maxU at h
  split at h
  · obtain ⟨v, v', rfl, rv, rv'⟩ := r1.inv2
    exact .inl ⟨_, _, by rw [rv.inv_int, rv'.inv_int], h _ H ρ Z Ex.refl sm.rl (.int _)⟩
  · split at h
    · rename_i l e
      split at h
      · rename_i bs eb
        by_cases z : 0 < bs.length
        · rw [if_pos z] at h
          obtain ⟨v, rfl, rv⟩ := r1.inv1
          obtain ⟨a, ws, rfl, h1, q1⟩ := lstOf_at sm.rl rv e
          rw [intsOf_eq eb] at q1
          have e2 := q1.ints
          subst e2
          refine .inr ⟨a, bs, rfl, hT ▸ h1, z, fun m hm hle => ?_⟩
          have em : m = maxL bs := Int.le_antisymm (maxL_le m hm) (hle _ (maxL_mem z))
          rw [em]
          exact h _ H ρ Z Ex.refl sm.rl (.int _)
        · rw [if_neg z] at h
          exact h.elim
      · exact h.elim
    · exact h.elim
  · exact h.elim
theorem oc_min (hT : X.K = T.K) : OC T W minU (rMinA X.K) := by
  intro σ H s G ρ Z vs us Q sm r1 h
  unfold minU at h
  split at h
  · obtain ⟨v, v', rfl, rv, rv'⟩ := r1.inv2
    exact .inl ⟨_, _, by rw [rv.inv_int, rv'.inv_int], h _ H ρ Z Ex.refl sm.rl (.int _)⟩
  · split at h
    · rename_i l e
      split at h
      · rename_i bs eb
        by_cases z : 0 < bs.length
        · rw [if_pos z] at h
          obtain ⟨v, rfl, rv⟩ := r1.inv1
          obtain ⟨a, ws, rfl, h1, q1⟩ := lstOf_at sm.rl rv e
          rw [intsOf_eq eb] at q1
          have e2 := q1.ints
          subst e2
          refine .inr ⟨a, bs, rfl, hT ▸ h1, z, fun m hm hle => ?_⟩
          have em : m = minL bs := Int.le_antisymm (hle _ (minL_mem z)) (minL_le m hm)
          rw [em]
          exact h _ H ρ Z Ex.refl sm.rl (.int _)
        · rw [if_neg z] at h
          exact h.elim
      · exact h.elim
    · exact h.elim
  · exact h.elim
def sumU : RunD := fun us G => match us with
  | [u] => match lstOf G u with
    | some l => match intsOf l with
      | some ns => .ok (.int ns.sum) G
      | none => .bad
    | none => .bad
  | _ => .bad
theorem oc_sum (hT : X.K = T.K) : OC T W sumU (rSum X.K) := by
  intro σ H s G ρ Z vs us Q sm r1 h
  unfold sumU at h
  split at h
  · split at h
    · rename_i l e
      split at h
      · rename_i bs eb
        obtain ⟨v, rfl, rv⟩ := r1.inv1
        obtain ⟨a, ws, rfl, h1, q1⟩ := lstOf_at sm.rl rv e
        rw [intsOf_eq eb] at q1
        have e2 := q1.ints
        subst e2
        exact ⟨a, bs, rfl, hT ▸ h1, h _ H ρ Z Ex.refl sm.rl (.int _)⟩
      · exact h.elim
    · exact h.elim
  · exact h.elim

/-! ### list(x), tuple(x) -/
def listU (mu : Bool) : RunD := fun us G => match us with
  | [u] => match seqOf G u with
    | some l => newL mu l G
    | none => .bad
  | _ => .bad
theorem oc_list {mu : Bool} (hT : X.K = T.K) : OC T W (listU mu) (fun xs H Q => ∃ p ys, xs = [.ref p] ∧ (SqL X.K H p ys ∨ SqT X.K H p ys) ∧ ∀ l, H l = none → Q (.ref l) (upd H l (.lst ys))) := by
  intro σ H s G ρ Z vs us Q sm r1 h
  unfold listU at h
  split at h
  · split at h
    · rename_i l e
      obtain ⟨v, rfl, rv⟩ := r1.inv1
      obtain ⟨a, ws, rfl, h1, q1⟩ := seqOf_at (σ := σ) sm.rl rv e
      exact ⟨a, ws, rfl, hT ▸ h1, (newL_ok sm.rl q1 h).2⟩
    · exact h.elim
  · exact h.elim
def tupleU : RunD := fun us G => match us with
  | [.tup l] => .ok (.tup l) G
  | [u] => match lstOf G u with
    | some l => newT l G
    | none => .bad
  | _ => .bad
theorem oc_tuple (hT : X.K = T.K) : OC T W tupleU (fun xs H Q => ∃ p ys, xs = [.ref p] ∧ ((SqL X.K H p ys ∧ ∀ l, H l = none → Q (.ref l) (upd H l (.tup ys))) ∨ (SqT X.K H p ys ∧ Q (.ref p) H))) := by
  intro σ H s G ρ Z vs us Q sm r1 h
  unfold tupleU at h
  split at h
  · obtain ⟨v, rfl, rv⟩ := r1.inv1
    obtain ⟨a, ws, rfl, h1, q1⟩ := rv.inv_tup
    exact ⟨a, ws, rfl, .inr ⟨hT ▸ h1, h _ H ρ Z Ex.refl sm.rl (.tup h1 q1)⟩⟩
  · split at h
    · rename_i l e
      obtain ⟨v, rfl, rv⟩ := r1.inv1
      obtain ⟨a, ws, rfl, h1, q1⟩ := lstOf_at sm.rl rv e
      exact ⟨a, ws, rfl, .inl ⟨hT ▸ h1, (newT_ok sm.rl q1 h).2⟩⟩
    · exact h.elim
  · exact h.elim

/-! ### sorted: ints, texts, fewer than 64 -/
def insI (a : Int) : List Int → List Int
  | [] => [a]
  | b :: r => if a ≤ b then a :: b :: r else b :: insI a r
def sortI : List Int → List Int
  | [] => []
  | a :: r => insI a (sortI r)
theorem insI_perm (a : Int) : ∀ l, (insI a l).Perm (a :: l)
  | [] => .refl _
  | b :: r => by
    unfold insI
    split
    · exact .refl _
    · exact ((insI_perm a r).cons b).trans (.swap a b r)
theorem sortI_perm : ∀ l, (sortI l).Perm l
  | [] => .refl _
  | a :: r => (insI_perm a _).trans ((sortI_perm r).cons a)
theorem insI_sorted (a : Int) : ∀ {l : List Int}, l.Pairwise (· ≤ ·) → (insI a l).Pairwise (· ≤ ·)
  | [], _ => by simp [insI]
  | b :: r, h => by
    unfold insI
    rw [List.pairwise_cons] at h
    split
    · rename_i hab
      rw [List.pairwise_cons]
      refine ⟨fun y hy => ?_, List.pairwise_cons.mpr h⟩
      rcases List.mem_cons.mp hy with rfl | hy
      · exact hab
      · have := h.1 y hy
        omega
    · rename_i hab
      rw [List.pairwise_cons]
      refine ⟨fun y hy => ?_, insI_sorted a h.2⟩
      rcases List.mem_cons.mp ((insI_perm a r).mem_iff.mp hy) with rfl | hy
      · omega
      · exact h.1 y hy
theorem sortI_sorted : ∀ l, (sortI l).Pairwise (· ≤ ·)
  | [] => .nil
  | a :: r => insI_sorted a (sortI_sorted r)
def sortedU (mu : Bool) : RunD := fun us G => match us with
  | [u] => match lstOf G u with
    | some l => match intsOf l with
      | some ns => if ns.length < 64 then newL mu ((sortI ns).map U.int) G else .bad
      | none => .bad
    | none => .bad
  | _ => .bad
theorem oc_sorted {mu : Bool} (hT : X.K = T.K) : OC T W (sortedU mu) (rSorted X.K) := by
  intro σ H s G ρ Z vs us Q sm r1 h
  unfold sortedU at h
  split at h
  · split at h
    · rename_i l e
      split at h
      · rename_i ns eb
        by_cases z : ns.length < 64
        · rw [if_pos z] at h
          obtain ⟨v, rfl, rv⟩ := r1.inv1
          obtain ⟨a, ws, rfl, h1, q1⟩ := lstOf_at sm.rl rv e
          rw [intsOf_eq eb] at q1
          have e2 := q1.ints
          subst e2
          refine ⟨a, ns, rfl, hT ▸ h1, z, fun ns' p hp hs hn => ?_⟩
          have en : ns' = sortI ns := (fun (a b : List Int) (hp : a.Perm b) (ha : a.Pairwise (· ≤ ·)) (hb : b.Pairwise (· ≤ ·)) => hp.eq_of_pairwise (fun x y _ _ h1 h2 => Int.le_antisymm h1 h2) ha hb) _ _ (hp.trans (sortI_perm ns).symm) hs (sortI_sorted ns)
          rw [en]
          exact (newL_ok sm.rl (Reps.of_ints _) h).2 p hn
        · rw [if_neg z] at h
          exact h.elim
      · exact h.elim
    · exact h.elim
  · exact h.elim
end
end FL

/-! FL9: cells that are written; methods of lists and texts; isinstance. -/
namespace FL
open PySem L2 PyProof.Rows
section
variable {X : Cx} {T : Tb} {W : WX} {id : String} {x : Str} {p pos apos : Pos} {e o : Expr} {es : List Expr} {mas : MA} {mo : ME}
section
variable {H : Hp} {ρ : List Addr} {Z : Addr → Prop} {G : List Ob}
theorem ex_set {a : Addr} {o : HO} (ha : a ∈ ρ) (za : Z a) : Ex ρ Z H ρ Z (upd H a o) :=
  ⟨⟨[], by simp⟩, fun b u h z => ⟨by rw [upd_ne (fun e : b = a => z (e ▸ za))]; exact h, z⟩, fun b u h z n => ⟨by rw [upd_ne (fun e : b = a => n (e ▸ ha))]; exact h, z, n⟩, fun b h => by
    by_cases e : b = a
    · rw [e, upd_same]; exact fun z => by cases z
    · rw [upd_ne e]; exact h⟩
theorem Rl.set {i : Nat} {a : Addr} {o : HO} {ob : Ob} (rl : Rl T ρ Z G H) (hi : ρ[i]? = some a) (za : Z a) (mu : Mut (some o)) (h : ObAt T ρ Z (upd H a o) a ob) : Rl T ρ Z (G.set i ob) (upd H a o) where
  len := by rw [List.length_set]; exact rl.len
  nd := rl.nd
  zm := fun b z => by
    by_cases e : b = a
    · rw [e, upd_same]; exact mu
    · rw [upd_ne e]; exact rl.zm b z
  trk := fun b hb => (ex_set (ρ := ρ) (Z := Z) (List.mem_of_getElem? hi) za).th b (rl.trk b hb)
  ob := fun j b o' h1 g => by
    have ha : a ∈ ρ := List.mem_of_getElem? hi
    by_cases e : i = j
    · subst e
      rw [hi] at h1
      cases h1
      have hl : i < G.length := by
        have := (List.getElem?_eq_some_iff.mp hi).1
        rw [rl.len] at this
        exact this
      rw [List.getElem?_set_self hl] at g
      cases g
      exact h
    · rw [List.getElem?_set_ne e] at g
      have hne : b ≠ a := fun z => by
        subst z
        obtain ⟨l1, e1⟩ := List.getElem?_eq_some_iff.mp hi
        obtain ⟨l2, e2⟩ := List.getElem?_eq_some_iff.mp h1
        exact e ((List.getElem_inj rl.nd).mp (e1.trans e2.symm))
      exact ObAt.ex rl.zm (ex_set ha za) (rl.ob j b o' h1 g) (fun u q => by rw [upd_ne hne]; exact q) fun z => z
/-- a cell that holds a list -/
theorem cell_lst {u : U} {v : V} {i : Nat} {l : List U} (rl : Rl T ρ Z G H) (r : Rep T ρ Z H v (.ref i)) (g : G[i]? = some (.lst l)) : ∃ a vs, v = .ref a ∧ ρ[i]? = some a ∧ Z a ∧ H a = some (.lst vs) ∧ Reps T ρ Z H vs l := by
  obtain ⟨a, ev, h⟩ := r.inv_ref
  obtain ⟨z, vs, h2, h3⟩ := rl.ob i a _ h g
  exact ⟨a, vs, ev, h, z, h2, h3⟩
theorem set_lst {i : Nat} {a : Addr} {vs : List V} {l l' : List U} (rl : Rl T ρ Z G H) (hi : ρ[i]? = some a) (za : Z a) (r : Reps T ρ Z H vs l') : Rl T ρ Z (G.set i (.lst l')) (upd H a (.lst vs)) :=
  rl.set hi za trivial ⟨za, vs, upd_same, r.ex rl.zm (ex_set (List.mem_of_getElem? hi) za)⟩
end

/-! ### methods of a list -/
def OM (T : Tb) (W : WX) (f : U → RunD) (r : V → List V → Hp → VK → Prop) : Prop :=
  ∀ (σ : L2.St) (H : Hp) (s : Sg) (G : List Ob) (ρ : List Addr) (Z : Addr → Prop) (x : V) (u : U) (vs : List V) (us : List U) (Q : VK), Sm T σ H s G ρ Z → Rep T ρ Z H x u → Reps T ρ Z H vs us → RE T W σ H ρ Z Q (f u us G) → r x vs H Q
def bmM (f : U → RunD) (mo : ME) (mas : MA) : ME := fun s G => (mo s G).bind fun u G1 => match lstOfW G1 u with
  | some _ => (mas s G1).bind fun us G2 => f u us G2
  | none => .bad
def bm0M (f : U → RunD) (mo : ME) : ME := fun s G => (mo s G).bind fun u G1 => match lstOfW G1 u with
  | some _ => f u [] G1
  | none => .bad
theorem fe_lm {name : Str} {f : U → RunD} {r : V → List V → Hp → VK → Prop} (pa : PlainAttrs "list") (slot : Slot "list" name id) (hty : typeOf (.builtin id) = pure (.type "method_descriptor")) (hm : MtR X id r) (h : OM T W f r) (ho : PE X o (tE T W mo)) (ha : PA X (e :: es) (tA T W mas))
    (h1 : plainRecv o = true) (h2 : (e :: es).all noStar = true) (h3 : (e :: es).length < 30) (h4 : (apos.endLine == pos.line) = true) : PE X (.Call (.Attribute o name apos) (e :: es) [] pos) (tE T W (bmM f mo mas)) := by
  have h2' := h2
  rw [List.all_cons, Bool.and_eq_true] at h2'
  refine PE.imp (pe_bm pa slot hty hm ho ha (attrBase h1) ?_ h4 (star_cons h2'.1) (star_any h2'.2)) fun σ H Q ⟨s, G, ρ, Z, sm, q⟩ => ?_
  · rw [star_all h2, Bool.true_and]
    simp [backToKw, keywordEach]
    simpa using h3
  · refine tE_bind sm q fun u G1 x H1 ρ1 Z1 x1 sm1 r1 q1 => ?_
    split at q1
    · rename_i l el
      obtain ⟨a, vs, rfl, hl, _⟩ := lstOfW_at sm1.rl r1 el
      refine ⟨.inl ⟨rfl, _, SqL.of hl⟩, ?_⟩
      refine tA_bind sm1 q1 fun us G2 vs2 H2 ρ2 Z2 x2 sm2 r2 q2 => ?_
      exact h _ _ _ _ _ _ _ _ _ _ _ sm2 (r1.ex sm1.rl.zm x2) r2 q2
    · exact q1.elim
theorem fe_lm0 {name : Str} {f : U → RunD} {r : V → List V → Hp → VK → Prop} (pa : PlainAttrs "list") (slot : Slot "list" name id) (hty : typeOf (.builtin id) = pure (.type "method_descriptor")) (hm : MtR X id r) (h : OM T W f r) (ho : PE X o (tE T W mo))
    (h1 : plainRecv o = true) (h4 : (apos.endLine == pos.line) = true) : PE X (.Call (.Attribute o name apos) [] [] pos) (tE T W (bm0M f mo)) := by
  refine PE.imp (pe_bm0 pa slot hty hm ho (attrBase h1) h4) fun σ H Q ⟨s, G, ρ, Z, sm, q⟩ => ?_
  refine tE_bind sm q fun u G1 x H1 ρ1 Z1 x1 sm1 r1 q1 => ?_
  split at q1
  · rename_i l el
    obtain ⟨a, vs, rfl, hl, _⟩ := lstOfW_at sm1.rl r1 el
    exact ⟨.inl ⟨rfl, _, SqL.of hl⟩, h _ _ _ _ _ _ _ _ _ _ _ sm1 r1 .nil q1⟩
  · exact q1.elim
def appendU : U → RunD := fun u us G => match u, us with
  | .ref i, [y] => match G[i]? with
    | some (.lst l) => if l.length < szL then .ok .non (G.set i (.lst (l ++ [y]))) else .bad
    | _ => .bad
  | _, _ => .bad
theorem om_append : OM T W appendU rAppend := by
  intro σ H s G ρ Z x u vs us Q sm r1 r2 h
  unfold appendU at h
  split at h
  · rename_i i y
    split at h
    · rename_i l g
      by_cases z : l.length < szL
      · rw [if_pos z] at h
        obtain ⟨a, ws, rfl, hi, za, ha, q⟩ := cell_lst (u := .ref i) sm.rl r1 g
        obtain ⟨v, rfl, rv⟩ := r2.inv1
        refine ⟨a, ws, v, rfl, rfl, ha, by rw [q.length, szL_eq]; exact z, ?_⟩
        exact h _ _ ρ Z (ex_set (List.mem_of_getElem? hi) za) (set_lst (l := l) sm.rl hi za (q.append (.cons rv .nil))) .non
      · rw [if_neg z] at h
        exact h.elim
    · exact h.elim
  · exact h.elim
def extendU : U → RunD := fun u us G => match u, us with
  | .ref i, [y] => match G[i]?, lstOfW G y with
    | some (.lst l), some l' => if l.length + l'.length ≤ szL then .ok .non (G.set i (.lst (l ++ l'))) else .bad
    | _, _ => .bad
  | _, _ => .bad
theorem om_extend : OM T W extendU rExtend := by
  intro σ H s G ρ Z x u vs us Q sm r1 r2 h
  unfold extendU at h
  split at h
  · rename_i i y
    split at h
    · rename_i l l' g g'
      by_cases z : l.length + l'.length ≤ szL
      · rw [if_pos z] at h
        obtain ⟨a, ws, rfl, hi, za, ha, q⟩ := cell_lst (u := .ref i) sm.rl r1 g
        obtain ⟨v, rfl, rv⟩ := r2.inv1
        obtain ⟨b, zs, rfl, hb, q'⟩ := lstOfW_at sm.rl rv g'
        refine ⟨a, b, ws, zs, rfl, rfl, ha, hb, by rw [q.length, q'.length, szL_eq]; exact z, ?_⟩
        exact h _ _ ρ Z (ex_set (List.mem_of_getElem? hi) za) (set_lst (l := l) sm.rl hi za (q.append q')) .non
      · rw [if_neg z] at h
        exact h.elim
    · exact h.elim
  · exact h.elim
def popU : U → RunD := fun u us G => match u, us with
  | .ref i, [] => match G[i]? with
    | some (.lst l) => match l[l.length - 1]? with
      | some y => .ok y (G.set i (.lst l.dropLast))
      | none => .bad
    | _ => .bad
  | .ref i, [.int j] => match G[i]? with
    | some (.lst l) => if -(2 ^ 63) ≤ j ∧ j < 2 ^ 63 then (match seqIndex? j l.length with
      | some k => match l[k]? with
        | some y => .ok y (G.set i (.lst (l.eraseIdx k)))
        | none => .bad
      | none => .bad) else .bad
    | _ => .bad
  | _, _ => .bad
abbrev rPopA : V → List V → Hp → VK → Prop := fun x vs H Q => rPop x vs H Q ∨ rPopAt x vs H Q
theorem mt_popA : MtM X "list.pop" rPopA := MtR.or mt_pop mt_popAt
theorem om_pop : OM T W popU rPopA := by
  intro σ H s G ρ Z x u vs us Q sm r1 r2 h
  unfold popU at h
  split at h
  · rename_i i
    split at h
    · rename_i l g
      split at h
      · rename_i y ey
        obtain ⟨a, ws, rfl, hi, za, ha, q⟩ := cell_lst (u := .ref i) sm.rl r1 g
        cases r2
        obtain ⟨v, hv, rv⟩ := q.get ey
        rw [← q.length] at hv
        refine .inl ⟨a, ws, v, rfl, rfl, ha, hv, ?_⟩
        exact h _ _ ρ Z (ex_set (List.mem_of_getElem? hi) za) (set_lst (l := l) sm.rl hi za q.dropLast) (rv.ex sm.rl.zm (ex_set (List.mem_of_getElem? hi) za))
      · exact h.elim
    · exact h.elim
  · rename_i i j
    split at h
    · rename_i l g
      by_cases z : -(2 ^ 63) ≤ j ∧ j < 2 ^ 63
      · rw [if_pos z] at h
        split at h
        · rename_i k ek
          split at h
          · rename_i y ey
            obtain ⟨a, ws, rfl, hi, za, ha, q⟩ := cell_lst (u := .ref i) sm.rl r1 g
            obtain ⟨v0, rfl, rv0⟩ := r2.inv1
            obtain ⟨v, hv, rv⟩ := q.get ey
            refine .inr ⟨a, ws, j, k, v, rfl, by rw [rv0.inv_int], ha, z.1, z.2, by rw [q.length]; exact ek, hv, ?_⟩
            exact h _ _ ρ Z (ex_set (List.mem_of_getElem? hi) za) (set_lst (l := l) sm.rl hi za (q.eraseIdx k)) (rv.ex sm.rl.zm (ex_set (List.mem_of_getElem? hi) za))
          · exact h.elim
        · exact h.elim
      · rw [if_neg z] at h
        exact h.elim
    · exact h.elim
  · exact h.elim

/-! ### texts -/
def joinM (a b : ME) : ME := fun s G => (a s G).bind fun u G1 => match u with
  | .str l => (b s G1).bind fun w G2 => match lstOf G2 w with
    | some ys => match strsOf ys with
      | some zs => if (zs.map List.length).sum + zs.length * l.length ≤ szL then .ok (.str (TL.joinL l zs)) G2 else .bad
      | none => .bad
    | none => .bad
  | _ => .bad
theorem fe_join {ma mb : ME} (hT : X.K = T.K) (ho : PE X o (tE T W ma)) (he : PE X e (tE T W mb)) (h1 : plainRecv o = true) (h2 : noStar e = true) (h4 : (apos.endLine == pos.line) = true) : PE X (.Call (.Attribute o "join" apos) [e] [] pos) (tE T W (joinM ma mb)) :=
  PE.imp (pe_join ho he (star_cons h2) (attrBase h1) h4) fun σ H Q ⟨s, G, ρ, Z, sm, q⟩ => by
    refine tE_bind sm q fun u G1 x H1 ρ1 Z1 x1 sm1 r1 q1 => ?_
    split at q1
    · rename_i l
      refine ⟨⟨_, r1.inv_str⟩, ?_⟩
      refine tE_bind sm1 q1 fun w G2 y H2 ρ2 Z2 x2 sm2 r2 q2 => ?_
      split at q2
      · rename_i ys ey
        split at q2
        · rename_i zs ez
          by_cases z : (zs.map List.length).sum + zs.length * l.length ≤ szL
          · rw [if_pos z] at q2
            obtain ⟨a, vs, rfl, hv, qv⟩ := lstOf_at sm2.rl r2 ey
            rw [strsOf_eq ez] at qv
            have e2 := qv.strs
            subst e2
            have el : ((zs.map SS).map (·.length)) = zs.map List.length := SX.lens zs
            refine ⟨SS l, a, zs.map SS, r1.inv_str, rfl, .inl (hT ▸ hv), by rw [el, List.length_map, strLen]; exact z, ?_⟩
            rw [show Txt.join (SS l) (zs.map SS) = SS (TL.joinL l zs) from SX.join_S l zs]
            exact q2 _ H2 ρ2 Z2 Ex.refl sm2.rl (Rep.ss _)
          · rw [if_neg z] at q2
            exact q2.elim
        · exact q2.elim
      · exact q2.elim
    · exact q1.elim
def splitM (mu : Bool) (a b : ME) : ME := fun s G => (a s G).bind fun u G1 => match u with
  | .str l => (b s G1).bind fun w G2 => match w with
    | .str z => if z ≠ [] ∧ z.all (fun c => decide (c < 256)) = true ∧ l.length + 2 ≤ szL then newL mu ((TL.spl z 0 [] l).map U.str) G2 else .bad
    | _ => .bad
  | _ => .bad
theorem fe_split {mu : Bool} {ma mb : ME} (ho : PE X o (tE T W ma)) (he : PE X e (tE T W mb)) (h1 : plainRecv o = true) (h2 : noStar e = true) (h4 : (apos.endLine == pos.line) = true) : PE X (.Call (.Attribute o "split" apos) [e] [] pos) (tE T W (splitM mu ma mb)) :=
  PE.imp (pe_split ho he (star_cons h2) (attrBase h1) h4) fun σ H Q ⟨s, G, ρ, Z, sm, q⟩ => by
    refine tE_bind sm q fun u G1 x H1 ρ1 Z1 x1 sm1 r1 q1 => ?_
    split at q1
    · rename_i l
      refine ⟨⟨_, r1.inv_str⟩, ?_⟩
      refine tE_bind sm1 q1 fun w G2 y H2 ρ2 Z2 x2 sm2 r2 q2 => ?_
      split at q2
      · rename_i z
        by_cases c : z ≠ [] ∧ z.all (fun c => decide (c < 256)) = true ∧ l.length + 2 ≤ szL
        · rw [if_pos c] at q2
          have hne : ((SS z).length == 0) = false := by
            rw [strLen]
            cases z with
            | nil => exact absurd rfl c.1
            | cons a b => rfl
          refine ⟨SS l, SS z, r1.inv_str, by rw [r2.inv_str], hne, by rw [strLen, szL_eq]; exact c.2.2, ?_⟩
          rw [show Txt.split (SS l) (SS z) = (TL.spl z 0 [] l).map SS from SX.split_S c.1 c.2.1]
          exact (newL_ok sm2.rl (Reps.of_strs _) q2).2
        · rw [if_neg c] at q2
          exact q2.elim
      · exact q2.elim
    · exact q1.elim
end
end FL

/-! FL10: what is walked; for, while, comprehensions; statements. -/
namespace FL
open PySem L2 PyProof.Rows
/-- what is walked: a list or tuple as it stands, or items known -/
inductive Itb where
  | seq (u : U) | items (l : List U)
def itAt : Itb → List Ob → Nat → Option (Option U)
  | .seq u, G, k => match seqOf G u with
    | some l => some l[k]?
    | none => none
  | .items l, _, k => some l[k]?
abbrev MI := Sg → List Ob → Rs (Itb × Nat)
/-- the walk J does what b says, from (ρ0, Z0, H0) on -/
def ItOk (T : Tb) (b : Itb) (J : It) (ρ0 : List Addr) (Z0 : Addr → Prop) (H0 : Hp) : Prop :=
  ∀ ρ Z G H, (∃ t, ρ = ρ0 ++ t) → (∀ a o, H0 a = some o → ¬ Z0 a → H a = some o ∧ ¬ Z a) → Rl T ρ Z G H → ∀ k, (∀ u, itAt b G k = some (some u) → J.go k H ∧ ∀ x H', J.yld k H x H' → Ex ρ Z H ρ Z H' ∧ Rl T ρ Z G H' ∧ Rep T ρ Z H' x u) ∧ (itAt b G k = some none → J.stop k H)
def RI (T : Tb) (W : WX) (σ : L2.St) (H : Hp) (ρ : List Addr) (Z : Addr → Prop) (R : It → Hp → Prop) : Rs (Itb × Nat) → Prop
  | .ok b G' => ∀ J H' ρ' Z', Ex ρ Z H ρ' Z' H' → Rl T ρ' Z' G' H' → ItOk T b.1 J ρ' Z' H' → R J H'
  | .exc x G' => EEnd T W σ H ρ Z x G'
  | .bad => False
def tI (T : Tb) (W : WX) (m : MI) : TI := fun σ H R => ∃ s G ρ Z, Sm T σ H s G ρ Z ∧ RI T W σ H ρ Z R (m s G)
section
variable {X : Cx} {T : Tb} {W : WX} {tg : Expr} {p pos : Pos} {a e : Expr} {es : List Expr} {ma : ME} {mas : MA}
theorem PI.imp {t t' : TI} (h : PI X tg e t) (i : ∀ σ H Q, t' σ H Q → t σ H Q) : PI X tg e t' := ⟨fun pins s σ H R I q => h.run pins s σ H R I (i σ H R q)⟩
theorem PI.or {t t' : TI} (h : PI X tg e t) (h' : PI X tg e t') : PI X tg e (fun σ H R => t σ H R ∨ t' σ H R) := ⟨fun pins s σ H R I q => q.elim (h.run pins s σ H R I) (h'.run pins s σ H R I)⟩
theorem tE_bindI {m : ME} {f : U → List Ob → Rs (Itb × Nat)} {Q : It → Hp → Prop} {k : VK} {σ : L2.St} {H : Hp} {s : Sg} {G : List Ob} {ρ : List Addr} {Z : Addr → Prop} (sm : Sm T σ H s G ρ Z) (h : RI T W σ H ρ Z Q ((m s G).bind f))
    (hk : ∀ u G' v H' ρ' Z', m s G = .ok u G' → Ex ρ Z H ρ' Z' H' → Sm T σ H' s G' ρ' Z' → Rep T ρ' Z' H' v u → RI T W σ H' ρ' Z' Q (f u G') → k v H') : tE T W m σ H k := by
  refine ⟨s, G, ρ, Z, sm, ?_⟩
  cases e : m s G with
  | ok u G' =>
    rw [e] at h
    refine fun v H' ρ' Z' x rl rp => hk u G' v H' ρ' Z' e x (sm.ex x rl) rp ?_
    have h : RI T W σ H ρ Z Q (f u G') := h
    cases e2 : f u G' with
    | ok b G2 => rw [e2] at h; exact fun J H2 ρ2 Z2 y => h J H2 ρ2 Z2 (x.trans y)
    | exc y G2 => rw [e2] at h; exact EEnd.ex h x
    | bad => rw [e2] at h; exact h
  | exc x G' => rw [e] at h; exact h
  | bad => rw [e] at h; exact h
theorem tA_bindI {m : MA} {f : List U → List Ob → Rs (Itb × Nat)} {Q : It → Hp → Prop} {k : List V → Hp → Prop} {σ : L2.St} {H : Hp} {s : Sg} {G : List Ob} {ρ : List Addr} {Z : Addr → Prop} (sm : Sm T σ H s G ρ Z) (h : RI T W σ H ρ Z Q ((m s G).bind f))
    (hk : ∀ u G' v H' ρ' Z', Ex ρ Z H ρ' Z' H' → Sm T σ H' s G' ρ' Z' → Reps T ρ' Z' H' v u → RI T W σ H' ρ' Z' Q (f u G') → k v H') : tA T W m σ H k := by
  refine ⟨s, G, ρ, Z, sm, ?_⟩
  cases e : m s G with
  | ok u G' =>
    rw [e] at h
    refine fun v H' ρ' Z' x rl rp => hk u G' v H' ρ' Z' x (sm.ex x rl) rp ?_
    have h : RI T W σ H ρ Z Q (f u G') := h
    cases e2 : f u G' with
    | ok b G2 => rw [e2] at h; exact fun J H2 ρ2 Z2 y => h J H2 ρ2 Z2 (x.trans y)
    | exc y G2 => rw [e2] at h; exact EEnd.ex h x
    | bad => rw [e2] at h; exact h
  | exc x G' => rw [e] at h; exact h
  | bad => rw [e] at h; exact h
/-- a list, a tuple, a text -/
def seqI (m : ME) : MI := fun s G => (m s G).bind fun u G1 => match u with
  | .str l => .ok (.items (l.map fun c => .str [c]), l.length) G1
  | u => match seqOf G1 u with
    | some l => .ok (.seq u, l.length) G1
    | none => .bad
theorem seqOf_mono {ρ0 ρ : List Addr} {Z0 Z : Addr → Prop} {H0 H : Hp} {v : V} {u : U} {G0 : List Ob} (rl0 : Rl T ρ0 Z0 G0 H0) (r : Rep T ρ0 Z0 H0 v u) (hp : ∃ t, ρ = ρ0 ++ t) (fz : ∀ a o, H0 a = some o → ¬ Z0 a → H a = some o ∧ ¬ Z a) : Rep T ρ Z H v u := r.exf hp fz rl0.zm
theorem itl_ok {σ : L2.St} {ρ0 : List Addr} {Z0 : Addr → Prop} {H0 : Hp} {a : Addr} {u : U} {G0 : List Ob} (rl0 : Rl T ρ0 Z0 G0 H0) (r : Rep T ρ0 Z0 H0 (.ref a) u) (hn : ∀ l, u ≠ .tup l) : ItOk T (.seq u) (Itl T.K a) ρ0 Z0 H0 := by
  intro ρ Z G H hp fz rl k
  have rv := seqOf_mono rl0 r hp fz
  have key : ∀ l, seqOf G u = some l → ∃ vs, SqL T.K H a vs ∧ Reps T ρ Z H vs l := fun l e => by
    have e' : lstOf G u = some l := by
      cases u with
      | tup l' => exact absurd rfl (hn l')
      | _ => exact e
    obtain ⟨a', vs, ea, h1, h2⟩ := lstOf_at rl rv e'
    cases ea
    exact ⟨vs, h1, h2⟩
  constructor
  · intro y e
    simp only [itAt] at e
    split at e
    · rename_i l el
      obtain ⟨vs, h1, h2⟩ := key l el
      have e := Option.some.inj e
      obtain ⟨v, hv, rv⟩ := h2.get e
      refine ⟨⟨vs, v, h1, hv⟩, ?_⟩
      rintro x H' ⟨rfl, hy⟩
      have : x = v := by have := hy vs h1; rw [hv] at this; exact (Option.some.inj this).symm
      subst this
      exact ⟨Ex.refl, rl, rv⟩
    · cases e
  · intro e
    simp only [itAt] at e
    split at e
    · rename_i l el
      obtain ⟨vs, h1, h2⟩ := key l el
      have e := Option.some.inj e
      exact ⟨vs, h1, by rw [h2.length]; exact List.getElem?_eq_none_iff.mp e⟩
    · cases e
theorem itt_ok {ρ0 : List Addr} {Z0 : Addr → Prop} {H0 : Hp} {a : Addr} {l : List U} {G0 : List Ob} (rl0 : Rl T ρ0 Z0 G0 H0) (r : Rep T ρ0 Z0 H0 (.ref a) (.tup l)) : ItOk T (.seq (.tup l)) (Itt T.K a) ρ0 Z0 H0 := by
  intro ρ Z G H hp fz rl k
  have rv := seqOf_mono rl0 r hp fz
  obtain ⟨a', vs, ea, h1, h2⟩ := rv.inv_tup
  cases ea
  constructor
  · intro y e
    simp only [itAt, seqOf] at e
    have e := Option.some.inj e
    obtain ⟨v, hv, rv⟩ := h2.get e
    refine ⟨⟨vs, v, h1, hv⟩, ?_⟩
    rintro x H' ⟨rfl, hy⟩
    have : x = v := by have := hy vs h1; rw [hv] at this; exact (Option.some.inj this).symm
    subst this
    exact ⟨Ex.refl, rl, rv⟩
  · intro e
    simp only [itAt, seqOf] at e
    have e := Option.some.inj e
    exact ⟨vs, h1, by rw [h2.length]; exact List.getElem?_eq_none_iff.mp e⟩
theorem its_ok {ρ0 : List Addr} {Z0 : Addr → Prop} {H0 : Hp} {l : List Nat} : ItOk T (.items (l.map fun c => .str [c])) (Its (SS l)) ρ0 Z0 H0 := by
  intro ρ Z G H hp fz rl k
  have hs : (SS l).cps.size = l.length := by simp [SS]
  constructor
  · intro y e
    simp only [itAt] at e
    have e := Option.some.inj e
    rw [List.getElem?_map] at e
    cases e2 : l[k]? with
    | none => rw [e2] at e; cases e
    | some c =>
      rw [e2] at e
      cases e
      refine ⟨by show k < (SS l).cps.size; rw [hs]; exact (List.getElem?_eq_some_iff.mp e2).1, ?_⟩
      rintro x H' ⟨rfl, c', hc, rfl⟩
      have : c' = c := by
        simp [SS] at hc
        rw [e2] at hc
        exact (Option.some.inj hc).symm
      subst this
      exact ⟨Ex.refl, rl, Rep.ss [c']⟩
  · intro e
    simp only [itAt] at e
    have e := Option.some.inj e
    rw [List.getElem?_map] at e
    show (SS l).cps.size ≤ k
    rw [hs]
    cases e2 : l[k]? with
    | none => exact List.getElem?_eq_none_iff.mp e2
    | some c => rw [e2] at e; cases e
theorem fi_seq (hT : X.K = T.K) (h : PE X a (tE T W ma)) : PI X tg a (tI T W (seqI ma)) :=
  PI.imp (PI.or (pi_str h) (PI.or (pi_tup h) (pi_list h))) fun σ H R ⟨s, G, ρ, Z, sm, q⟩ => by
    cases e : ma s G with
    | bad => unfold seqI at q; rw [e] at q; exact q.elim
    | exc x G1 =>
      unfold seqI at q
      rw [e] at q
      refine .inl ⟨s, G, ρ, Z, sm, ?_⟩
      rw [e]
      exact q
    | ok u G1 =>
      have hu : (∃ l, u = .str l) ∨ (∃ l, u = .tup l) ∨ ((∀ l, u ≠ .str l) ∧ ∀ l, u ≠ .tup l) := by
        cases u <;> first | exact .inl ⟨_, rfl⟩ | exact .inr (.inl ⟨_, rfl⟩) | exact .inr (.inr ⟨(fun l z => by cases z), fun l z => by cases z⟩)
      rcases hu with ⟨l, rfl⟩ | ⟨l, rfl⟩ | ⟨hs, ht⟩
      · refine .inl (tE_bindI sm q fun u' G2 x H1 ρ1 Z1 e2 x1 sm1 r1 q1 => ?_)
        rw [e] at e2
        cases e2
        exact ⟨SS l, r1.inv_str, q1 _ H1 ρ1 Z1 Ex.refl sm1.rl its_ok⟩
      · refine .inr (.inl (tE_bindI sm q fun u' G2 x H1 ρ1 Z1 e2 x1 sm1 r1 q1 => ?_))
        rw [e] at e2
        cases e2
        obtain ⟨p, vs, rfl, h1, h2⟩ := r1.inv_tup
        exact ⟨p, rfl, ⟨vs, hT ▸ h1⟩, hT ▸ q1 _ H1 ρ1 Z1 Ex.refl sm1.rl (itt_ok sm1.rl r1)⟩
      · refine .inr (.inr (tE_bindI sm q fun u' G2 x H1 ρ1 Z1 e2 x1 sm1 r1 q1 => ?_))
        rw [e] at e2
        cases e2
        split at q1
        · exact absurd rfl (hs _)
        · split at q1
          · rename_i l el
            have el' : lstOf G1 u = some l := by
              cases u with
              | tup l' => exact absurd rfl (ht l')
              | _ => exact el
            obtain ⟨p, vs, rfl, h1, h2⟩ := lstOf_at sm1.rl r1 el'
            exact ⟨p, rfl, ⟨vs, hT ▸ h1⟩, hT ▸ q1 _ H1 ρ1 Z1 Ex.refl sm1.rl (itl_ok (σ := σ) sm1.rl r1 ht)⟩
          · exact q1.elim

/-! ### ranges -/
def rangeL (lo c : Int) (n : Nat) : List U := (List.range n).map fun k => .int (lo + (k : Nat) * c)
theorem rangeL_get {lo c : Int} {n k : Nat} : (rangeL lo c n)[k]? = if k < n then some (.int (lo + (k : Nat) * c)) else none := by
  unfold rangeL
  rw [List.getElem?_map]
  by_cases h : k < n
  · rw [if_pos h, List.getElem?_range h]; rfl
  · rw [if_neg h, List.getElem?_eq_none_iff.mpr (by simpa using h)]; rfl
theorem itc_ok {ρ0 : List Addr} {Z0 : Addr → Prop} {H0 : Hp} {lo c : Int} {n : Nat} : ItOk T (.items (rangeL lo c n)) (Itc lo c n) ρ0 Z0 H0 := by
  intro ρ Z G H hp fz rl k
  constructor
  · intro y e
    simp only [itAt] at e
    have e := Option.some.inj e
    rw [rangeL_get] at e
    by_cases h : k < n
    · rw [if_pos h] at e
      cases e
      refine ⟨h, ?_⟩
      rintro x H' ⟨rfl, rfl⟩
      exact ⟨Ex.refl, rl, .int _⟩
    · rw [if_neg h] at e; cases e
  · intro e
    simp only [itAt] at e
    have e := Option.some.inj e
    rw [rangeL_get] at e
    by_cases h : k < n
    · rw [if_pos h] at e; cases e
    · show n ≤ k; omega
theorem itr_ok {ρ0 : List Addr} {Z0 : Addr → Prop} {H0 : Hp} {lo : Int} {n : Nat} : ItOk T (.items (rangeL lo 1 n)) (Itr lo n) ρ0 Z0 H0 := by
  intro ρ Z G H hp fz rl k
  obtain ⟨h1, h2⟩ := itc_ok (T := T) (ρ0 := ρ0) (Z0 := Z0) (H0 := H0) (lo := lo) (c := 1) (n := n) ρ Z G H hp fz rl k
  refine ⟨fun y e => ?_, fun e => h2 e⟩
  obtain ⟨g, w⟩ := h1 y e
  refine ⟨g, ?_⟩
  rintro x H' ⟨rfl, rfl⟩
  exact w _ _ ⟨rfl, by rw [Int.mul_one]⟩
def rng1U (us : List U) (G : List Ob) : Rs (Itb × Nat) := match us with
  | [.int j] => if -(2 ^ 62) ≤ j ∧ j < 2 ^ 62 then .ok (.items (rangeL 0 1 j.toNat), j.toNat) G else .bad
  | _ => .bad
def rng2U (us : List U) (G : List Ob) : Rs (Itb × Nat) := match us with
  | [.int i, .int j] => if -(2 ^ 62) ≤ i ∧ i < 2 ^ 62 ∧ -(2 ^ 62) ≤ j ∧ j < 2 ^ 62 then .ok (.items (rangeL i 1 (j - i).toNat), (j - i).toNat) G else .bad
  | _ => .bad
def rng3U (us : List U) (G : List Ob) : Rs (Itb × Nat) := match us with
  | [.int i, .int j, .int c] => if c = -1 ∧ -(2 ^ 62) ≤ i ∧ i < 2 ^ 62 ∧ -(2 ^ 62) ≤ j ∧ j < 2 ^ 62 then .ok (.items (rangeL i (-1) (i - j).toNat), (i - j).toNat) G else .bad
  | _ => .bad
def preI (f : List U → List Ob → Rs (Itb × Nat)) (mas : MA) : MI := fun s G => (mas s G).bind f
theorem fi_rng1 (hg : Gl X "range") (hm : X.mg "range" = none) (ha : PA X [a] (tA T W mas)) (h1 : noStar a = true) : PI X tg (.Call (.Name "range" p) [a] [] pos) (tI T W (preI rng1U mas)) :=
  PI.imp (pi_range1 hg hm ha (star_cons h1)) fun σ H R ⟨s, G, ρ, Z, sm, q⟩ => by
    refine tA_bindI sm q fun us G1 vs H1 ρ1 Z1 x1 sm1 r1 q1 => ?_
    unfold rng1U at q1
    split at q1
    · rename_i j
      by_cases z : -(2 ^ 62) ≤ j ∧ j < 2 ^ 62
      · rw [if_pos z] at q1
        obtain ⟨v, rfl, rv⟩ := r1.inv1
        exact ⟨j, by rw [rv.inv_int], z.1, z.2, q1 _ H1 ρ1 Z1 Ex.refl sm1.rl itr_ok⟩
      · rw [if_neg z] at q1
        exact q1.elim
    · exact q1.elim
theorem fi_rng2 {b : Expr} (hg : Gl X "range") (hm : X.mg "range" = none) (ha : PA X [a, b] (tA T W mas)) (h1 : noStar a = true) (h2 : noStar b = true) : PI X tg (.Call (.Name "range" p) [a, b] [] pos) (tI T W (preI rng2U mas)) :=
  PI.imp (pi_range2 hg hm ha (by rw [star_cons h1, star_cons h2] <;> rfl) (by rw [star_cons h2] <;> rfl)) fun σ H R ⟨s, G, ρ, Z, sm, q⟩ => by
    refine tA_bindI sm q fun us G1 vs H1 ρ1 Z1 x1 sm1 r1 q1 => ?_
    unfold rng2U at q1
    split at q1
    · rename_i i j
      by_cases z : -(2 ^ 62) ≤ i ∧ i < 2 ^ 62 ∧ -(2 ^ 62) ≤ j ∧ j < 2 ^ 62
      · rw [if_pos z] at q1
        obtain ⟨v, v', rfl, rv, rv'⟩ := r1.inv2
        exact ⟨i, j, by rw [rv.inv_int, rv'.inv_int], z, q1 _ H1 ρ1 Z1 Ex.refl sm1.rl itr_ok⟩
      · rw [if_neg z] at q1
        exact q1.elim
    · exact q1.elim
theorem Reps.inv3 {ρ : List Addr} {Z : Addr → Prop} {H : Hp} {vs : List V} {u w z : U} (h : Reps T ρ Z H vs [u, w, z]) : ∃ v v' v'', vs = [v, v', v''] ∧ Rep T ρ Z H v u ∧ Rep T ρ Z H v' w ∧ Rep T ρ Z H v'' z := by
  cases h with
  | cons a b =>
    obtain ⟨v', v'', rfl, h1, h2⟩ := b.inv2
    exact ⟨_, _, _, rfl, a, h1, h2⟩
theorem fi_rng3 {b c : Expr} (hg : Gl X "range") (hm : X.mg "range" = none) (ha : PA X [a, b, c] (tA T W mas)) (h1 : noStar a = true) (h2 : noStar b = true) (h3 : noStar c = true) : PI X tg (.Call (.Name "range" p) [a, b, c] [] pos) (tI T W (preI rng3U mas)) :=
  PI.imp (pi_range3 hg hm ha (star_cons h1) (star_any (by simp [h2, h3]))) fun σ H R ⟨s, G, ρ, Z, sm, q⟩ => by
    refine tA_bindI sm q fun us G1 vs H1 ρ1 Z1 x1 sm1 r1 q1 => ?_
    unfold rng3U at q1
    split at q1
    · rename_i i j c
      by_cases z : c = -1 ∧ -(2 ^ 62) ≤ i ∧ i < 2 ^ 62 ∧ -(2 ^ 62) ≤ j ∧ j < 2 ^ 62
      · rw [if_pos z] at q1
        obtain ⟨v, v', v'', rfl, rv, rv', rv''⟩ := r1.inv3
        obtain ⟨ec, z⟩ := z
        subst ec
        exact ⟨i, j, -1, _, by rw [rv.inv_int, rv'.inv_int, rv''.inv_int], RgC.neg z.1 z.2.1 z.2.2.1 z.2.2.2, q1 _ H1 ρ1 Z1 Ex.refl sm1.rl itc_ok⟩
      · rw [if_neg z] at q1
        exact q1.elim
    · exact q1.elim

/-! ### targets -/
abbrev MG := U → Sg → Option Sg
/-- the slots vs may be stored -/
def Stay (vs : List Nat) (σ σ' : L2.St) : Prop := σ'.length = σ.length ∧ ∀ j, j ∉ vs → σ'[j]? = σ[j]?
def tG (T : Tb) (vs : List Nat) (m : MG) : TG := fun v σ H Q => ∃ s G ρ Z u, Sm T σ H s G ρ Z ∧ Rep T ρ Z H v u ∧ ∃ s', m u s = some s' ∧ ∀ σ', Fm T ρ Z H σ' s' → Stay vs σ σ' → Q σ' H
def nameG (i : Nat) : MG := fun u s => some (s.set i (some u))
theorem Fm.set {σ : L2.St} {H : Hp} {ρ : List Addr} {Z : Addr → Prop} {s : Sg} {v : V} {u : U} {i : Nat} (f : Fm T ρ Z H σ s) (r : Rep T ρ Z H v u) : Fm T ρ Z H (σ.set i (some v)) (s.set i (some u)) := by
  refine ⟨by rw [List.length_set, List.length_set, f.1], fun j w e => ?_⟩
  by_cases h : i = j
  · subst h
    have hl : i < s.length := by
      have := (List.getElem?_eq_some_iff.mp e).1
      simpa using this
    rw [List.getElem?_set_self hl] at e
    have e := Option.some.inj (Option.some.inj e)
    subst e
    exact ⟨v, List.getElem?_set_self (by rw [f.1]; exact hl), r⟩
  · rw [List.getElem?_set_ne h] at e
    obtain ⟨v', e1, r1⟩ := f.2 j w e
    exact ⟨v', by rw [List.getElem?_set_ne h]; exact e1, r1⟩
theorem fg_name {i : Nat} {x : Str} (hN : X.N.Nodup) (hi : X.N[i]? = some x) (hx : Loc X.env.scope x) (hf : X.fn x = true ∨ X.env.scope.names.lookup x = some .local) : PG X (.Name x pos) (tG T [i] (nameG i)) :=
  PG.imp (pg_name hN hi hx hf) fun v σ H Q ⟨s, G, ρ, Z, u, sm, r, s', e, q⟩ => by
    cases e
    exact q _ (sm.fm.set r) ⟨by rw [List.length_set], fun j hj => by rw [List.getElem?_set_ne (by simpa [eq_comm] using hj)]⟩
/-- several targets from the left -/
abbrev MGs := List U → Sg → Option Sg
def tGs (T : Tb) (vs : List Nat) (m : MGs) : TGs := fun ws σ H Q => ∃ s G ρ Z us, Sm T σ H s G ρ Z ∧ Reps T ρ Z H ws us ∧ ∃ s', m us s = some s' ∧ ∀ σ', Fm T ρ Z H σ' s' → Stay vs σ σ' → Q σ' H
def nilG : MGs := fun us s => match us with
  | [] => some s
  | _ => none
def consG (m : MG) (ms : MGs) : MGs := fun us s => match us with
  | u :: r => match m u s with
    | some s' => ms r s'
    | none => none
  | [] => none
theorem PGs.imp {es : List Expr} {t t' : TGs} (h : PGs X es t) (i : ∀ v σ H Q, t' v σ H Q → t v σ H Q) : PGs X es t' := ⟨fun pins s σ H v u Q I r q => h.run pins s σ H v u Q I r (i v σ H Q q)⟩
theorem fg_nil : PGs X [] (tGs T [] nilG) := PGs.imp pgs_nil fun vs σ H Q ⟨s, G, ρ, Z, us, sm, r, s', e, q⟩ => by
  unfold nilG at e
  split at e
  · cases e
    cases r
    exact ⟨rfl, q σ sm.fm ⟨rfl, fun _ _ => rfl⟩⟩
  · cases e
theorem fg_cons {vs ws : List Nat} {m : MG} {ms : MGs} (h1 : PG X e (tG T vs m)) (h2 : PGs X es (tGs T ws ms)) (hs : noStar e = true) : PGs X (e :: es) (tGs T (vs ++ ws) (consG m ms)) :=
  PGs.imp (pgs_cons h1 h2 (by rw [assign_cons hs] <;> rfl)) fun vs' σ H Q ⟨s, G, ρ, Z, us, sm, r, s', e1, q⟩ => by
    unfold consG at e1
    split at e1
    · rename_i u ur
      cases r with
      | cons r1 r2 =>
        split at e1
        · rename_i s2 e2
          refine ⟨_, _, rfl, s, G, ρ, Z, u, sm, r1, s2, e2, fun σ2 f2 st2 => ?_⟩
          exact ⟨s2, G, ρ, Z, ur, ⟨sm.rl, f2⟩, r2, s', e1, fun σ3 f3 st3 => q σ3 f3 ⟨st3.1.trans st2.1, fun j hj => by
            have h1 : j ∉ vs := fun z => hj (List.mem_append_left _ z)
            have h2 : j ∉ ws := fun z => hj (List.mem_append_right _ z)
            rw [st3.2 j h2, st2.2 j h1]⟩⟩
        · cases e1
    · cases e1
def tupG (n : Nat) (ms : MGs) : MG := fun u s => match u with
  | .tup us => if us.length = n then ms us s else none
  | _ => none
theorem fg_tup {vs : List Nat} {ms : MGs} {k : Nat} (hT : X.K = T.K) (hc : X.calm = true) (h : PGs X es (tGs T vs ms)) (hs : es.all noStar = true) : PG X (.Tuple es k pos) (tG T vs (tupG es.length ms)) :=
  PG.imp (pg_tup hc h (assign_len hs) (assign_idx hs)) fun v σ H Q ⟨s, G, ρ, Z, u, sm, r, s', e, q⟩ => by
    unfold tupG at e
    split at e
    · rename_i us
      split at e
      · rename_i hl
        obtain ⟨a, vs, rfl, h1, h2⟩ := r.inv_tup
        exact ⟨a, vs, rfl, hT ▸ h1, by rw [h2.length]; exact hl, s, G, ρ, Z, us, sm, h2, s', e, q⟩
      · cases e
    · cases e
end
end FL

/-! FL11: statements; for, while, comprehensions. -/
namespace FL
open PySem L2 PyProof.Rows
/-- the part of Ex that what is frozen needs -/
structure Fz (ρ : List Addr) (Z : Addr → Prop) (H : Hp) (ρ' : List Addr) (Z' : Addr → Prop) (H' : Hp) : Prop where
  pre : ∃ t, ρ' = ρ ++ t
  fz : ∀ a o, H a = some o → ¬ Z a → H' a = some o ∧ ¬ Z' a
section
variable {ρ ρ1 ρ2 : List Addr} {Z Z1 Z2 : Addr → Prop} {H H1 H2 : Hp}
theorem Ex.toFz (x : Ex ρ Z H ρ1 Z1 H1) : Fz ρ Z H ρ1 Z1 H1 := ⟨x.pre, x.fz⟩
theorem Fz.refl : Fz ρ Z H ρ Z H := Ex.refl.toFz
theorem Fz.trans (x : Fz ρ Z H ρ1 Z1 H1) (y : Fz ρ1 Z1 H1 ρ2 Z2 H2) : Fz ρ Z H ρ2 Z2 H2 := by
  refine ⟨?_, fun a o h z => ?_⟩
  · obtain ⟨t, e⟩ := x.pre
    obtain ⟨u, e'⟩ := y.pre
    exact ⟨t ++ u, by rw [e', e, List.append_assoc]⟩
  · obtain ⟨h1, z1⟩ := x.fz a o h z
    exact y.fz a o h1 z1
end
section
variable {X : Cx} {T : Tb} {W : WX} {tg : Expr} {p pos : Pos} {a e : Expr} {es : List Expr} {ma : ME} {mas : MA} {st : Stmt} {rest body orelse : List Stmt} {m m1 m2 : MS} {c : Expr} {mc : MT}
/-! ### blocks -/
def nxM : MS := fun s G => .nx s G
def seqM (m1 m2 : MS) : MS := fun s G => match m1 s G with
  | .nx s1 G1 => m2 s1 G1
  | r => r
theorem fss_nil : PSs X [] (tS T W nxM) := PSs.imp pss_nil fun D σ H ⟨s, G, ρ, Z, sm, q⟩ => q σ H ρ Z Ex.refl sm
theorem fss_cons (h1 : PS X st (tS T W m1)) (h2 : PSs X rest (tS T W m2)) : PSs X (st :: rest) (tS T W (seqM m1 m2)) :=
  PSs.imp (pss_cons h1 h2) fun D σ H ⟨s, G, ρ, Z, sm, q⟩ => by
    refine ⟨s, G, ρ, Z, sm, ?_⟩
    unfold seqM at q
    cases e : m1 s G with
    | nx s1 G1 =>
      rw [e] at q
      exact fun σ' H' ρ' Z' x sm' => ⟨s1, G1, ρ', Z', sm', RS.ex q x⟩
    | rt u G1 => rw [e] at q; exact q
    | bk s1 G1 => rw [e] at q; exact q
    | ct s1 G1 => rw [e] at q; exact q
    | exc x s1 G1 => rw [e] at q; exact q
    | bad => rw [e] at q; exact q
theorem fss_one (h1 : PS X st (tS T W m1)) : PSs X [st] (tS T W m1) := pss_one h1
def bkM : MS := fun s G => .bk s G
def ctM : MS := fun s G => .ct s G
theorem fs_pass : PS X (.Pass pos) (tS T W nxM) := PS.imp ps_pass fun D σ H ⟨s, G, ρ, Z, sm, q⟩ => q σ H ρ Z Ex.refl sm
theorem fs_break : PS X (.Break pos) (tS T W bkM) := PS.imp ps_break fun D σ H ⟨s, G, ρ, Z, sm, q⟩ => q σ H ρ Z Ex.refl sm
theorem fs_continue : PS X (.Continue pos) (tS T W ctM) := PS.imp ps_continue fun D σ H ⟨s, G, ρ, Z, sm, q⟩ => q σ H ρ Z Ex.refl sm
/-- an expression, then what is done with its value -/
def stE (m : ME) (f : U → MS) : MS := fun s G => match m s G with
  | .ok u G1 => f u s G1
  | .exc x G1 => .exc x s G1
  | .bad => .bad
theorem stE_imp {f : U → MS} {σ : L2.St} {H : Hp} {D : Ends} {k : VK} (q : tS T W (stE ma f) D σ H)
    (hk : ∀ u s G v H' ρ' Z', Sm T σ H' s G ρ' Z' → Rep T ρ' Z' H' v u → RS T W σ H' ρ' Z' D (f u s G) → k v H') : tE T W ma σ H k := by
  obtain ⟨s, G, ρ, Z, sm, q⟩ := q
  refine ⟨s, G, ρ, Z, sm, ?_⟩
  unfold stE at q
  cases e : ma s G with
  | ok u G1 =>
    rw [e] at q
    exact fun v H' ρ' Z' x rl r => hk u s G1 v H' ρ' Z' (sm.ex x rl) r (RS.ex q x)
  | exc x G1 =>
    rw [e] at q
    exact fun cls d H' ρ' Z' y rl a => q cls d σ H' ρ' Z' y (sm.ex y rl) a
  | bad => rw [e] at q; exact q
theorem fs_expr (he : PE X e (tE T W ma)) (h : noComp e = true) : PS X (.Expr e pos) (tS T W (stE ma fun _ => nxM)) :=
  PS.imp (ps_expr he (swaps_no h)) fun D σ H q => stE_imp q fun u s G v H' ρ' Z' sm r q => q σ H' ρ' Z' Ex.refl sm
theorem fs_doc {x : Str} {j : Nat} {pos' : Pos} : PS X (.Expr (.Constant (.str x) j pos) pos') (tS T W nxM) := PS.imp ps_doc fun D σ H ⟨s, G, ρ, Z, sm, q⟩ => q σ H ρ Z Ex.refl sm
def rtM : U → MS := fun u _ G => .rt u G
theorem fs_ret (he : PE X e (tE T W ma)) : PS X (.Return (some e) pos) (tS T W (stE ma rtM)) :=
  PS.imp (ps_ret he) fun D σ H q => stE_imp q fun u s G v H' ρ' Z' sm r q => q v H' ρ' Z' Ex.refl sm.rl r
theorem fs_retN : PS X (.Return none pos) (tS T W (fun _ G => .rt .non G)) := PS.imp ps_retN fun D σ H ⟨s, G, ρ, Z, sm, q⟩ => q _ H ρ Z Ex.refl sm.rl .non
def ifM (c : MT) (a b : MS) : MS := fun s G => match c s G with
  | .ok true G1 => a s G1
  | .ok false G1 => b s G1
  | .exc x G1 => .exc x s G1
  | .bad => .bad
theorem fs_if (hc : PT X c (tT T W mc)) (ha : PSs X body (tS T W m1)) (hb : PSs X orelse (tS T W m2)) : PS X (.If c body orelse pos) (tS T W (ifM mc m1 m2)) :=
  PS.imp (ps_if hc ha hb) fun D σ H ⟨s, G, ρ, Z, sm, q⟩ => by
    refine ⟨s, G, ρ, Z, sm, ?_⟩
    unfold ifM at q
    cases e : mc s G with
    | ok k G1 =>
      rw [e] at q
      intro H' ρ' Z' x rl
      cases k with
      | true => rw [if_pos rfl]; exact ⟨s, G1, ρ', Z', sm.ex x rl, RS.ex q x⟩
      | false => rw [if_neg Bool.false_ne_true]; exact ⟨s, G1, ρ', Z', sm.ex x rl, RS.ex q x⟩
    | exc x G1 =>
      rw [e] at q
      exact fun cls d H' ρ' Z' y rl a => q cls d σ H' ρ' Z' y (sm.ex y rl) a
    | bad => rw [e] at q; exact q
/-- name = e -/
def setM (i : Nat) : U → MS := fun u s G => .nx (s.set i (some u)) G
theorem fs_set {i : Nat} {x : Str} {pos' : Pos} (hN : X.N.Nodup) (hi : X.N[i]? = some x) (hx : Loc X.env.scope x) (he : PE X e (tE T W ma)) (hs : swapsWith e (some (.Name x pos')) pos.line X.env = pure false) (hf : X.fn x = true ∨ X.env.scope.names.lookup x = some .local) :
    PS X (.Assign [.Name x pos'] e pos) (tS T W (stE ma (setM i))) :=
  PS.imp (ps_set hN hi hx he hs hf) fun D σ H q => stE_imp q fun u s G v H' ρ' Z' sm r q => q _ H' ρ' Z' Ex.refl ⟨sm.rl, sm.fm.set r⟩
/-- target = e, the target some names -/
def asgM (g : MG) : U → MS := fun u s G => match g u s with
  | some s' => .nx s' G
  | none => .bad
theorem fs_asg {g : MG} {vs : List Nat} (he : PE X e (tE T W ma)) (hg : PG X tg (tG T vs g)) (h1 : notName tg = true) (h2 : notTT tg e = true) (h3 : noStar tg = true) :
    PS X (.Assign [tg] e pos) (tS T W (stE ma (asgM g))) :=
  PS.imp (ps_asg he hg (swaps_sole h1) (swapped_no h2) (assign_one h3)) fun D σ H q => stE_imp q fun u s G v H' ρ' Z' sm r q => by
    unfold asgM at q
    cases e1 : g u s with
    | none => rw [e1] at q; exact q.elim
    | some s' =>
      rw [e1] at q
      exact ⟨s, G, ρ', Z', u, sm, r, s', e1, fun σ' f _ => q σ' H' ρ' Z' Ex.refl ⟨sm.rl, f⟩⟩

/-! ### for -/
def forL (b : Itb) (g : MG) (body : MS) : Nat → Nat → MS
  | 0, k => fun s G => match itAt b G k with
    | some none => .nx s G
    | _ => .bad
  | m + 1, k => fun s G => match itAt b G k with
    | some (some u) => match g u s with
      | some s1 => match body s1 G with
        | .nx s2 G2 => forL b g body m (k + 1) s2 G2
        | .ct s2 G2 => forL b g body m (k + 1) s2 G2
        | .bk s2 G2 => .nx s2 G2
        | r => r
      | none => .bad
    | _ => .bad
def forM (it : MI) (g : MG) (body : MS) : MS := fun s G => match it s G with
  | .ok b G1 => forL b.1 g body b.2 0 s G1
  | .exc x G1 => .exc x s G1
  | .bad => .bad
theorem fs_for {it : MI} {g : MG} {vs : List Nat} (hp : PassesOwn (model X.prog X.w) X.A X.env X.xe) (hc : X.calm = true) (hi : PI X tg a (tI T W it)) (hg : PG X tg (tG T vs g)) (hb : PSs X body (tS T W m)) (hs : noSet a = true) : PS X (.For tg a body [] pos) (tS T W (forM it g m)) :=
  PS.imp (ps_for hp hc hi hg hb (folded_no hs)) fun D σ H ⟨s, G, ρ, Z, sm, q⟩ => by
    refine ⟨s, G, ρ, Z, sm, ?_⟩
    unfold forM at q
    cases e : it s G with
    | bad => rw [e] at q; exact q
    | exc x G1 =>
      rw [e] at q
      exact fun cls d H' ρ' Z' y rl a => q cls d σ H' ρ' Z' y (sm.ex y rl) a
    | ok b G1 =>
      rw [e] at q
      intro J H1 ρ1 Z1 x1 rl1 io
      refine ⟨fun i k σ' H' => ∃ s' G' ρ' Z', Fz ρ1 Z1 H1 ρ' Z' H' ∧ Sm T σ' H' s' G' ρ' Z' ∧ RS T W σ' H' ρ' Z' D (forL b.1 g m k i s' G'), ⟨b.2, s, G1, ρ1, Z1, Fz.refl, sm.ex x1 rl1, RS.ex q x1⟩, ?_⟩
      rintro i k σ' H' ⟨s', G', ρ', Z', f', sm', q'⟩
      obtain ⟨io1, io2⟩ := io ρ' Z' G' H' f'.pre f'.fz sm'.rl i
      cases k with
      | zero =>
        unfold forL at q'
        split at q'
        · rename_i hst
          exact .inl ⟨io2 hst, q' σ' H' ρ' Z' Ex.refl sm'⟩
        · exact q'.elim
      | succ k =>
        unfold forL at q'
        split at q'
        · rename_i u hst
          obtain ⟨go, yl⟩ := io1 u hst
          refine .inr ⟨go, fun σ2 H2 => ∃ s2 G2 ρ2 Z2, Fz ρ1 Z1 H1 ρ2 Z2 H2 ∧ Sm T σ2 H2 s2 G2 ρ2 Z2 ∧ RS T W σ2 H2 ρ2 Z2 D (forL b.1 g m k (i + 1) s2 G2), fun σ2 H2 w => ⟨k, Nat.lt_succ_self k, w⟩, fun y H2 hy => ?_⟩
          obtain ⟨x2, rl2, r2⟩ := yl y H2 hy
          have sm2 := sm'.ex x2 rl2
          have q2 := RS.ex (σ' := σ') q' x2
          split at q2
          · rename_i s1 hg1
            refine ⟨s', G', ρ', Z', u, sm2, r2, s1, hg1, fun σ3 f3 _ => ⟨s1, G', ρ', Z', ⟨rl2, f3⟩, ?_⟩⟩
            cases e3 : m s1 G' with
            | nx s3 G3 =>
              rw [e3] at q2
              exact fun σ4 H4 ρ4 Z4 x4 sm4 => ⟨s3, G3, ρ4, Z4, (f'.trans x2.toFz).trans x4.toFz, sm4, RS.ex q2 x4⟩
            | ct s3 G3 =>
              rw [e3] at q2
              exact fun σ4 H4 ρ4 Z4 x4 sm4 => ⟨s3, G3, ρ4, Z4, (f'.trans x2.toFz).trans x4.toFz, sm4, RS.ex q2 x4⟩
            | bk s3 G3 => rw [e3] at q2; exact q2
            | rt u3 G3 => rw [e3] at q2; exact q2
            | exc x3 s3 G3 => rw [e3] at q2; exact q2
            | bad => rw [e3] at q2; exact q2
          · exact q2.elim
        · exact q'.elim

/-! ### while -/
def whileL (c : MT) (body : MS) : Nat → MS
  | 0 => fun _ _ => .bad
  | k + 1 => fun s G => match c s G with
    | .ok true G1 => match body s G1 with
      | .nx s2 G2 => whileL c body k s2 G2
      | .ct s2 G2 => whileL c body k s2 G2
      | .bk s2 G2 => .nx s2 G2
      | r => r
    | .ok false G1 => .nx s G1
    | .exc x G1 => .exc x s G1
    | .bad => .bad
theorem fs_while {n : Nat} (hp : PassesOwn (model X.prog X.w) X.A X.env X.xe) (hc : PT X c (tT T W mc)) (hb : PSs X body (tS T W m)) : PS X (.While c body [] pos) (tS T W (whileL mc m n)) :=
  PS.imp (ps_while hp hc hb) fun D σ H ⟨s, G, ρ, Z, sm, q⟩ => by
    refine ⟨fun k σ' H' => ∃ s' G' ρ' Z', Sm T σ' H' s' G' ρ' Z' ∧ RS T W σ' H' ρ' Z' D (whileL mc m k s' G'), ⟨n, s, G, ρ, Z, sm, q⟩, ?_⟩
    rintro k σ' H' ⟨s', G', ρ', Z', sm', q'⟩
    refine ⟨s', G', ρ', Z', sm', ?_⟩
    cases k with
    | zero => exact q'.elim
    | succ k =>
      unfold whileL at q'
      cases e : mc s' G' with
      | bad => rw [e] at q'; exact q'
      | exc x G1 =>
        rw [e] at q'
        exact fun cls d H' ρ' Z' y rl a => q' cls d σ' H' ρ' Z' y (sm'.ex y rl) a
      | ok t G1 =>
        rw [e] at q'
        intro H1 ρ1 Z1 x1 rl1
        have q1 := RS.ex (σ' := σ') q' x1
        cases t with
        | false =>
          rw [if_neg Bool.false_ne_true]
          exact q1 σ' H1 ρ1 Z1 Ex.refl (sm'.ex x1 rl1)
        | true =>
          rw [if_pos rfl]
          refine ⟨fun σ2 H2 => ∃ s2 G2 ρ2 Z2, Sm T σ2 H2 s2 G2 ρ2 Z2 ∧ RS T W σ2 H2 ρ2 Z2 D (whileL mc m k s2 G2), fun σ2 H2 w => ⟨k, Nat.lt_succ_self k, w⟩, s', G1, ρ1, Z1, sm'.ex x1 rl1, ?_⟩
          simp only at q1
          cases e3 : m s' G1 with
          | nx s3 G3 =>
            rw [e3] at q1
            exact fun σ4 H4 ρ4 Z4 x4 sm4 => ⟨s3, G3, ρ4, Z4, sm4, RS.ex q1 x4⟩
          | ct s3 G3 =>
            rw [e3] at q1
            exact fun σ4 H4 ρ4 Z4 x4 sm4 => ⟨s3, G3, ρ4, Z4, sm4, RS.ex q1 x4⟩
          | bk s3 G3 => rw [e3] at q1; exact q1
          | rt u3 G3 => rw [e3] at q1; exact q1
          | exc x3 s3 G3 => rw [e3] at q1; exact q1
          | bad => rw [e3] at q1; exact q1
end
end FL

/-! FL12: list comprehensions. -/
namespace FL
open PySem L2 PyProof.Rows
def wipeS (s : Sg) : List Nat → Sg
  | [] => s
  | v :: vs => (wipeS s vs).set v none
def compL (b : Itb) (g : MG) (t : MT) (e : ME) (s0 : Sg) : Nat → Nat → List Ob → Option (List U × List Ob)
  | 0, k => fun G => match itAt b G k with
    | some none => some ([], G)
    | _ => none
  | m + 1, k => fun G => match itAt b G k with
    | some (some u) => match g u s0 with
      | some s1 => match t s1 G with
        | .ok true G1 => match e s1 G1 with
          | .ok y G2 => match compL b g t e s0 m (k + 1) G2 with
            | some (r, G3) => some (y :: r, G3)
            | none => none
          | _ => none
        | .ok false G1 => compL b g t e s0 m (k + 1) G1
        | _ => none
      | none => none
    | _ => none
def compE (mu : Bool) : Option (List U × List Ob) → Rs U
  | some (us, G) => newL mu us G
  | none => .bad
def compM (mu : Bool) (it : MI) (g : MG) (t : MT) (e : ME) (own : List Nat) : ME := fun s G => match it s G with
  | .ok b G1 => compE mu (compL b.1 g t e (wipeS s own) b.2 0 G1)
  | .exc x G1 => .exc x G1
  | .bad => .bad
abbrev WF : WX := fun _ _ _ _ => False

theorem set_none_get (σ : L2.St) (v j : Nat) : (σ.set v none)[j]? = if v = j then (σ[j]?).map (fun _ => none) else σ[j]? := by
  by_cases h : v = j
  · subst h
    rw [if_pos rfl, List.getElem?_set]
    by_cases hl : v < σ.length
    · simp [hl]
    · simp [hl]
  · rw [if_neg h, List.getElem?_set_ne h]
theorem wipe_get (σ : L2.St) : ∀ (vs : List Nat) (j : Nat), (wipe σ vs)[j]? = if j ∈ vs then (σ[j]?).map (fun _ => none) else σ[j]?
  | [], j => by simp [wipe]
  | v :: vs, j => by
    show ((wipe σ vs).set v none)[j]? = _
    rw [set_none_get, wipe_get σ vs j]
    by_cases h : v = j
    · subst h
      by_cases h2 : v ∈ vs
      · rw [if_pos rfl, if_pos h2, if_pos List.mem_cons_self]
        cases σ[v]? <;> rfl
      · rw [if_pos rfl, if_neg h2, if_pos List.mem_cons_self]
    · by_cases h2 : j ∈ vs
      · rw [if_neg h, if_pos h2, if_pos (List.mem_cons_of_mem _ h2)]
      · rw [if_neg h, if_neg h2, if_neg (fun z => (List.mem_cons.mp z).elim (fun e => h e.symm) h2)]
theorem wipe_eq {σ σ' : L2.St} {vs ws : List Nat} (hs : ∀ j ∈ ws, j ∈ vs) (st : Stay ws (wipe σ vs) σ') : wipe σ' vs = wipe σ vs := by
  apply List.ext_getElem?
  intro j
  rw [wipe_get, wipe_get]
  by_cases h : j ∈ vs
  · simp only [h, if_true]
    have hl := st.1
    rw [wipe_length] at hl
    by_cases hj : j < σ.length
    · rw [List.getElem?_eq_getElem hj, List.getElem?_eq_getElem (by rw [hl]; exact hj)]; rfl
    · rw [List.getElem?_eq_none_iff.mpr (by omega), List.getElem?_eq_none_iff.mpr (by omega)]
  · simp only [h, if_false]
    rw [st.2 j (fun z => h (hs j z)), wipe_get, if_neg h]
theorem wipeS_get (s : Sg) : ∀ (vs : List Nat) (j : Nat) (u : U), (wipeS s vs)[j]? = some (some u) → s[j]? = some (some u) ∧ j ∉ vs
  | [], j, u, e => ⟨e, by simp⟩
  | v :: vs, j, u, e => by
    have e : ((wipeS s vs).set v none)[j]? = some (some u) := e
    by_cases h : v = j
    · subst h
      rw [List.getElem?_set] at e
      simp at e
    · rw [List.getElem?_set_ne h] at e
      obtain ⟨h1, h2⟩ := wipeS_get s vs j u e
      exact ⟨h1, by simp [Ne.symm h, h2]⟩
theorem wipeS_length (s : Sg) : ∀ vs : List Nat, (wipeS s vs).length = s.length
  | [] => rfl
  | v :: vs => by unfold wipeS; rw [List.length_set, wipeS_length s vs]
section
variable {T : Tb} {ρ ρ1 : List Addr} {Z Z1 : Addr → Prop} {H H1 : Hp} {G : List Ob} {D : Addr}
theorem Fm.wipe {σ : L2.St} {s : Sg} (f : Fm T ρ Z H σ s) (vs : List Nat) : Fm T ρ Z H (L2.wipe σ vs) (wipeS s vs) :=
  ⟨by rw [wipe_length, wipeS_length, f.1], fun i u e => by
    obtain ⟨h1, h2⟩ := wipeS_get s vs i u e
    obtain ⟨v, e1, r⟩ := f.2 i u h1
    exact ⟨v, by rw [wipe_get, if_neg h2]; exact e1, r⟩⟩
/-- the growing list at D is another's cell -/
structure Gr (T : Tb) (ρ : List Addr) (Z : Addr → Prop) (G : List Ob) (H : Hp) (D : Addr) (vs : List V) (acc : List U) : Prop where
  rl : Rl T ρ Z G H
  z : Z D
  n : D ∉ ρ
  at_ : H D = some (.lst vs)
  r : Reps T ρ Z H vs acc
theorem Gr.start (rl : Rl T ρ Z G H) (hD : H D = none) : Gr T ρ (zOr Z D) G (upd H D (.lst [])) D [] [] ∧ Ex ρ Z H ρ (zOr Z D) (upd H D (.lst [])) := by
  have x : Ex ρ Z H ρ (zOr Z D) (upd H D (.lst [])) := ⟨⟨[], by simp⟩, fun a o h z => ⟨by rw [upd_ne (ne_of_none h hD)]; exact h, fun q => q.elim z (ne_of_none h hD)⟩,
    fun a o h z n => ⟨by rw [upd_ne (ne_of_none h hD)]; exact h, .inl z, n⟩, (ex_new (ρ := ρ) (Z := Z) hD).th⟩
  refine ⟨⟨⟨rl.len, rl.nd, fun a z => ?_, fun a h => x.th a (rl.trk a h), fun i a o h g => ObAt.ex rl.zm x (rl.ob i a o h g) (fun u e => by rw [upd_ne (ne_of_none e hD)]; exact e) .inl⟩, .inr rfl, rl.nin hD, upd_same, .nil⟩, x⟩
  rcases z with z | z
  · rw [upd_ne (fun e : a = D => rl.nz hD (e ▸ z))]
    exact rl.zm a z
  · subst z
    rw [upd_same]
    trivial
theorem Gr.ex {ρ' : List Addr} {Z' : Addr → Prop} {H' : Hp} {G' : List Ob} {vs : List V} {acc : List U} (g : Gr T ρ Z G H D vs acc) (x : Ex ρ Z H ρ' Z' H') (rl : Rl T ρ' Z' G' H') : Gr T ρ' Z' G' H' D vs acc := by
  obtain ⟨h1, h2, h3⟩ := x.ou D _ g.at_ g.z g.n
  exact ⟨rl, h2, h3, h1, g.r.ex g.rl.zm x⟩
theorem Gr.more {vs : List V} {acc : List U} {v : V} {u : U} (g : Gr T ρ Z G H D vs acc) (r : Rep T ρ Z H v u) : Gr T ρ Z G (upd H D (.lst (vs ++ [v]))) D (vs ++ [v]) (acc ++ [u]) := by
  have fz : ∀ a o, H a = some o → ¬ Z a → upd H D (.lst (vs ++ [v])) a = some o ∧ ¬ Z a := fun a o h z => ⟨by rw [upd_ne (fun e : a = D => z (e ▸ g.z))]; exact h, z⟩
  refine ⟨⟨g.rl.len, g.rl.nd, fun a z => ?_, fun a h => ?_, fun i a o h gg => ?_⟩, g.z, g.n, upd_same, (g.r.append (.cons r .nil)).exf ⟨[], by simp⟩ fz g.rl.zm⟩
  · by_cases e : a = D
    · subst e; rw [upd_same]; trivial
    · rw [upd_ne e]; exact g.rl.zm a z
  · rw [upd_ne (fun e : a = D => g.n (e ▸ h))]
    exact g.rl.trk a h
  · have hne : a ≠ D := fun e => g.n (e ▸ List.mem_of_getElem? h)
    have ho := g.rl.ob i a o h gg
    cases o with
    | dead => trivial
    | lst us =>
      obtain ⟨z, ws, h1, h2⟩ := ho
      exact ⟨z, ws, by rw [upd_ne hne]; exact h1, h2.exf ⟨[], by simp⟩ fz g.rl.zm⟩
    | dct l =>
      obtain ⟨z, ws, h1, h2⟩ := ho
      exact ⟨z, ws, by rw [upd_ne hne]; exact h1, h2.exf ⟨[], by simp⟩ fz g.rl.zm⟩
    | ins c l =>
      obtain ⟨z, C, dx, ws, h1, h2, h3⟩ := ho
      exact ⟨z, C, dx, ws, by rw [upd_ne hne]; exact h1, h2, h3.exf ⟨[], by simp⟩ fz g.rl.zm⟩
theorem ex_grow {o : HO} (x : Ex ρ1 Z1 H1 ρ Z H) (hD : H1 D = none) : Ex ρ1 Z1 H1 ρ Z (upd H D o) :=
  ⟨x.pre, fun a u h z => ⟨by rw [upd_ne (ne_of_none h hD)]; exact (x.fz a u h z).1, (x.fz a u h z).2⟩, fun a u h z n => ⟨by rw [upd_ne (ne_of_none h hD)]; exact (x.ou a u h z n).1, (x.ou a u h z n).2⟩, fun a h => by
    by_cases e : a = D
    · subst e; rw [upd_same]; exact fun z => by cases z
    · rw [upd_ne e]; exact x.th a h⟩
/-- the list is done: frozen, or a cell -/
theorem Gr.done {W : WX} {σ : L2.St} {mu : Bool} {vs : List V} {acc : List U} {Q : VK} (g : Gr T ρ Z G H D vs acc) (x : Ex ρ1 Z1 H1 ρ Z H) (hD : H1 D = none) (q : RE T W σ H1 ρ1 Z1 Q (newL mu acc G)) : Q (.ref D) H := by
  unfold newL at q
  by_cases hz : acc.length ≤ szL
  · rw [if_pos hz] at q
    cases mu with
    | false =>
      have fz : ∀ a o, H a = some o → ¬ Z a → H a = some o ∧ ¬ (Z a ∧ a ≠ D) := fun a o h z => ⟨h, fun w => z w.1⟩
      refine q _ H ρ (fun a => Z a ∧ a ≠ D) ⟨x.pre, fun a o h z => ⟨(x.fz a o h z).1, fun w => (x.fz a o h z).2 w.1⟩, fun a o h z n => ⟨(x.ou a o h z n).1, ⟨(x.ou a o h z n).2.1, ne_of_none h hD⟩, (x.ou a o h z n).2.2⟩, x.th⟩ ?_ (.lst g.at_ (fun w => w.2 rfl) (g.r.exf ⟨[], by simp⟩ fz g.rl.zm))
      refine ⟨g.rl.len, g.rl.nd, fun a z => g.rl.zm a z.1, g.rl.trk, fun i a o h gg => ?_⟩
      have hne : a ≠ D := fun e => g.n (e ▸ List.mem_of_getElem? h)
      have ho := g.rl.ob i a o h gg
      cases o with
      | dead => trivial
      | lst us =>
        obtain ⟨z, ws, h1, h2⟩ := ho
        exact ⟨⟨z, hne⟩, ws, h1, h2.exf ⟨[], by simp⟩ fz g.rl.zm⟩
      | dct l =>
        obtain ⟨z, ws, h1, h2⟩ := ho
        exact ⟨⟨z, hne⟩, ws, h1, h2.exf ⟨[], by simp⟩ fz g.rl.zm⟩
      | ins c l =>
        obtain ⟨z, C, dx, ws, h1, h2, h3⟩ := ho
        exact ⟨⟨z, hne⟩, C, dx, ws, h1, h2, h3.exf ⟨[], by simp⟩ fz g.rl.zm⟩
    | true =>
      have fz : ∀ a o, H a = some o → ¬ Z a → H a = some o ∧ ¬ Z a := fun a o h z => ⟨h, z⟩
      refine q _ H (ρ ++ [D]) Z ⟨by obtain ⟨t, e⟩ := x.pre; exact ⟨t ++ [D], by rw [e, List.append_assoc]⟩, x.fz, fun a o h z n => ⟨(x.ou a o h z n).1, (x.ou a o h z n).2.1, fun w => by
        rcases List.mem_append.mp w with w | w
        · exact (x.ou a o h z n).2.2 w
        · exact ne_of_none h hD (by simpa using w)⟩, x.th⟩ ?_ (.ref (by rw [List.getElem?_append_right (by rw [g.rl.len]; exact Nat.le_refl _)]; simp [g.rl.len]))
      refine ⟨by rw [List.length_append, List.length_append, g.rl.len]; rfl, ?_, g.rl.zm, fun a h => ?_, fun i a o h gg => ?_⟩
      · rw [List.nodup_append]
        refine ⟨g.rl.nd, by simp, fun a ha b hb => ?_⟩
        have e : b = D := by simpa using hb
        subst e
        exact fun e => g.n (e ▸ ha)
      · rcases List.mem_append.mp h with h | h
        · exact g.rl.trk a h
        · have e : a = D := by simpa using h
          subst e
          rw [g.at_]
          exact fun z => by cases z
      · have up : ∀ {o : Ob}, ObAt T ρ Z H a o → ObAt T (ρ ++ [D]) Z H a o := fun {o} ho => by
          cases o with
          | dead => trivial
          | lst us =>
            obtain ⟨z, ws, h1, h2⟩ := ho
            exact ⟨z, ws, h1, h2.exf ⟨[D], rfl⟩ fz g.rl.zm⟩
          | dct l =>
            obtain ⟨z, ws, h1, h2⟩ := ho
            exact ⟨z, ws, h1, h2.exf ⟨[D], rfl⟩ fz g.rl.zm⟩
          | ins c l =>
            obtain ⟨z, C, dx, ws, h1, h2, h3⟩ := ho
            exact ⟨z, C, dx, ws, h1, h2, h3.exf ⟨[D], rfl⟩ fz g.rl.zm⟩
        by_cases hi : i < ρ.length
        · rw [List.getElem?_append_left hi] at h
          rw [List.getElem?_append_left (by rw [← g.rl.len]; exact hi)] at gg
          exact up (g.rl.ob i a o h gg)
        · have hi2 : i = ρ.length := by
            have := (List.getElem?_eq_some_iff.mp h).1
            simp at this
            omega
          subst hi2
          rw [List.getElem?_append_right (Nat.le_refl _)] at h
          rw [List.getElem?_append_right (by rw [g.rl.len]; exact Nat.le_refl _)] at gg
          simp [g.rl.len] at h gg
          subst h
          subst gg
          exact ⟨g.z, vs, g.at_, g.r.exf ⟨[D], rfl⟩ fz g.rl.zm⟩
  · rw [if_neg hz] at q
    exact q.elim
end
section
variable {X : Cx} {T : Tb} {W : WX} {tg : Expr} {p pos : Pos} {a elt : Expr}
theorem lc_top {it : MI} {g : MG} {ws : List Nat} {t : MT} {e : ME} {mu : Bool} {vs : List Nat} (hs : ∀ j ∈ ws, j ∈ vs) {σ : L2.St} {H : Hp} {Q : VK} (q : tE T W (compM mu it g t e vs) σ H Q) :
    tLc (tI T W it) (tG T ws g) (tT T WF t) (tE T WF e) vs σ H Q := by
  obtain ⟨s, G, ρ, Z, sm, q⟩ := q
  refine ⟨s, G, ρ, Z, sm, ?_⟩
  unfold compM at q
  cases e1 : it s G with
  | bad => rw [e1] at q; exact q
  | exc x G1 => rw [e1] at q; exact q
  | ok b G1 =>
    rw [e1] at q
    intro J H1 ρ1 Z1 x1 rl1 io D hD
    have q1 : RE T W σ H1 ρ1 Z1 Q (compE mu (compL b.1 g t e (wipeS s vs) b.2 0 G1)) := RE.ex q x1
    have f1 := (sm.fm.ex sm.rl.zm x1).wipe vs
    obtain ⟨g0, xs⟩ := Gr.start rl1 hD
    refine ⟨fun i k H' => ∃ ac vac G' ρ' Z', Ex ρ1 Z1 H1 ρ' Z' H' ∧ Gr T ρ' Z' G' H' D vac ac ∧ RE T W σ H1 ρ1 Z1 Q (compE mu ((compL b.1 g t e (wipeS s vs) k i G').map fun z => (ac ++ z.1, z.2))), ⟨b.2, [], [], G1, ρ1, zOr Z1 D, xs, g0, ?_⟩, ?_⟩
    · cases e2 : compL b.1 g t e (wipeS s vs) b.2 0 G1 with
      | none => rw [e2] at q1; exact q1
      | some z => rw [e2] at q1; exact q1
    rintro i k H' ⟨ac, vac, G', ρ', Z', x', g', q'⟩
    obtain ⟨io1, io2⟩ := io ρ' Z' G' H' x'.pre x'.fz g'.rl i
    cases k with
    | zero =>
      unfold compL at q'
      split at q'
      · rename_i hst
        have q2 : RE T W σ H1 ρ1 Z1 Q (newL mu (ac ++ []) G') := q'
        rw [List.append_nil] at q2
        exact .inl ⟨io2 hst, g'.done x' hD q2⟩
      · exact q'.elim
    | succ k =>
      unfold compL at q'
      split at q'
      · rename_i u hst
        obtain ⟨go, yl⟩ := io1 u hst
        refine .inr ⟨go, fun H2 => ∃ ac vac G' ρ' Z', Ex ρ1 Z1 H1 ρ' Z' H2 ∧ Gr T ρ' Z' G' H2 D vac ac ∧ RE T W σ H1 ρ1 Z1 Q (compE mu ((compL b.1 g t e (wipeS s vs) k (i + 1) G').map fun z => (ac ++ z.1, z.2))), fun H2 w => ⟨k, Nat.lt_succ_self k, w⟩, fun y H2 hy => ?_⟩
        obtain ⟨x2, rl2, r2⟩ := yl y H2 hy
        have g2 := g'.ex x2 rl2
        have f2 : Fm T ρ' Z' H2 (wipe σ vs) (wipeS s vs) := ⟨f1.1, fun j w ew => let ⟨v, ev, rv⟩ := f1.2 j w ew; ⟨v, ev, rv.exf (x'.trans x2).pre (x'.trans x2).fz rl1.zm⟩⟩
        split at q'
        · rename_i s1 hg1
          refine ⟨wipeS s vs, G', ρ', Z', u, ⟨rl2, f2⟩, r2, s1, hg1, fun σ3 f3 st3 => ⟨wipe_eq hs st3, s1, G', ρ', Z', ⟨rl2, f3⟩, ?_⟩⟩
          split at q'
          · rename_i G3 et
            rw [et]
            intro H3 ρ3 Z3 x3 rl3
            have g3 := g2.ex x3 rl3
            rw [if_pos rfl]
            have sm3 : Sm T σ3 H3 s1 G3 ρ3 Z3 := ⟨rl3, f3.ex rl2.zm x3⟩
            refine ⟨s1, G3, ρ3, Z3, sm3, ?_⟩
            split at q'
            · rename_i y4 G4 ee
              rw [ee]
              intro v H4 ρ4 Z4 x4 rl4 r4
              have g4 := g3.ex x4 rl4
              cases e5 : compL b.1 g t e (wipeS s vs) k (i + 1) G4 with
              | none => rw [e5] at q'; exact q'.elim
              | some z =>
                rw [e5] at q'
                have q5 : RE T W σ H1 ρ1 Z1 Q (newL mu (ac ++ (y4 :: z.1)) z.2) := q'
                have hlen : ac.length < szL := by
                  by_cases hz : (ac ++ (y4 :: z.1)).length ≤ szL
                  · simp at hz; omega
                  · unfold newL at q5; rw [if_neg hz] at q5; exact q5.elim
                refine ⟨vac, g4.at_, by rw [g4.r.length, szL_eq]; exact hlen, ac ++ [y4], vac ++ [v], G4, ρ4, Z4, ex_grow (((x'.trans x2).trans x3).trans x4) hD, g4.more r4, ?_⟩
                rw [e5]
                show RE T W σ H1 ρ1 Z1 Q (newL mu ((ac ++ [y4]) ++ z.1) z.2)
                rw [List.append_assoc]
                exact q5
            · exact q'.elim
          · rename_i G3 et
            rw [et]
            intro H3 ρ3 Z3 x3 rl3
            rw [if_neg Bool.false_ne_true]
            exact ⟨ac, vac, G3, ρ3, Z3, (x'.trans x2).trans x3, g2.ex x3 rl3, q'⟩
          · exact q'.elim
        · exact q'.elim
      · exact q'.elim
theorem fe_lc {ifs : List Expr} {scope : Scope} {own : List (Str × Nat)} {it : MI} {g : MG} {ws : List Nat} {t : MT} {e : ME} {mu : Bool} (hc : X.calm = true) (hN : X.N.Nodup) (hi : PI X tg a (tI T W it)) (ok : BlkOk X.N X.env.scope scope own) (hs : ∀ j ∈ ws, j ∈ own.map (·.2))
    (hg : ∀ (s : Shared) (H : Hp) (C : Addr) (cl : List (Str × Addr)) (fp : List Addr), PG (X.blk s H scope (compEnvC scope cl C X.env) fp) tg (tG T ws g)) (ht : ∀ (s : Shared) (H : Hp) (C : Addr) (cl : List (Str × Addr)) (fp : List Addr), PTs (X.blk s H scope (compEnvC scope cl C X.env) fp) ifs (tT T WF t))
    (he : ∀ (s : Shared) (H : Hp) (C : Addr) (cl : List (Str × Addr)) (fp : List Addr), PE (X.blk s H scope (compEnvC scope cl C X.env) fp) elt (tE T WF e)) (hf : noSet a = true) :
    PE X (.ListComp elt [⟨tg, a, ifs, 0⟩] scope pos) (tE T W (compM mu it g t e (own.map (·.2)))) :=
  PE.imp (pe_lc hc hN hi ok hg ht he (folded_no hf)) fun _ _ _ q => lc_top hs q
theorem fs_setLc {i : Nat} {y : Str} {py spos : Pos} {ifs : List Expr} {scope : Scope} {own : List (Str × Nat)} {it : MI} {g : MG} {ws : List Nat} {t : MT} {e : ME} {mu : Bool} (hc : X.calm = true) (hN : X.N.Nodup) (hy : X.N[i]? = some y) (hyl : X.env.scope.names.lookup y = some .local)
    (hsw : swapsWith (.ListComp elt [⟨tg, a, ifs, 0⟩] scope pos) (some (.Name y py)) spos.line X.env = pure true) (hi : PI X tg a (tI T W it)) (ok : BlkOk X.N X.env.scope scope own) (hs : ∀ j ∈ ws, j ∈ own.map (·.2))
    (hg : ∀ (s : Shared) (H : Hp) (C : Addr) (cl : List (Str × Addr)) (fp : List Addr), PG (X.blk s H scope (compEnvC scope cl C X.env) fp) tg (tG T ws g)) (ht : ∀ (s : Shared) (H : Hp) (C : Addr) (cl : List (Str × Addr)) (fp : List Addr), PTs (X.blk s H scope (compEnvC scope cl C X.env) fp) ifs (tT T WF t))
    (he : ∀ (s : Shared) (H : Hp) (C : Addr) (cl : List (Str × Addr)) (fp : List Addr), PE (X.blk s H scope (compEnvC scope cl C X.env) fp) elt (tE T WF e)) (hf : noSet a = true) :
    PS X (.Assign [.Name y py] (.ListComp elt [⟨tg, a, ifs, 0⟩] scope pos) spos) (tS T W (stE (compM mu it g t e (own.map (·.2))) (setM i))) :=
  PS.imp (ps_setLc hc hN hy hyl hsw hi ok hg ht he (folded_no hf)) fun D σ H q => lc_top hs (stE_imp q fun u s G v H' ρ' Z' sm r q => q _ H' ρ' Z' Ex.refl ⟨sm.rl, sm.fm.set r⟩)
def yesT : MT := fun _ G => .ok true G
theorem ft_nil : PTs X [] (tT T WF yesT) := ⟨fun pins s σ H Q I ⟨s', G, ρ, Z, sm, q⟩ => pts_nil.run pins s σ H Q I (q H ρ Z Ex.refl sm.rl)⟩
theorem ft_one {c : Expr} {t : MT} (h : PT X c (tT T WF t)) : PTs X [c] (tT T WF t) := pts_one h
end
end FL

/-! FL13: stores; isinstance; own ==; classes made with keywords. -/
namespace FL
open PySem L2 PyProof.Rows
section
variable {X : Cx} {T : Tb} {W : WX} {p pos apos : Pos} {a e o i : Expr} {es : List Expr} {ma mo mi : ME} {mas mks : MA} {k : Nat}
/-! ### o.f = e -/
def putU (f : Nat) (v : U) : List (Nat × U) → List (Nat × U)
  | [] => [(f, v)]
  | (g, x) :: r => if g = f then (g, v) :: r else (g, x) :: putU f v r
theorem repF_put {ρ : List Addr} {Z : Addr → Prop} {H : Hp} {kf : Nat} {f : Str} {v : V} {u : U} (hat : AttOk T) (hf : T.att[kf]? = some f) (r : Rep T ρ Z H v u) : ∀ {fv : List (Str × V)} {l : List (Nat × U)}, RepF T ρ Z H fv l → RepF T ρ Z H (putF f v fv) (putU kf u l)
  | _, _, .nil => .cons hf r .nil
  | _, _, .cons (f := g) (k := j) e q t => by
    by_cases h : j = kf
    · subst h
      rw [hf] at e
      cases e
      show RepF T ρ Z H (if f = f then (f, v) :: _ else _) (if j = j then (j, u) :: _ else _)
      rw [if_pos rfl, if_pos rfl]
      exact .cons hf r t
    · have hg : g ≠ f := fun z => by subst z; exact h (hat _ _ _ e hf)
      show RepF T ρ Z H (if g = f then _ else (g, _) :: putF f v _) (if j = kf then _ else (j, _) :: putU kf u _)
      rw [if_neg hg, if_neg h]
      exact .cons e q (repF_put hat hf r t)
theorem RepF.length {ρ : List Addr} {Z : Addr → Prop} {H : Hp} : ∀ {fv : List (Str × V)} {l : List (Nat × U)}, RepF T ρ Z H fv l → fv.length = l.length
  | _, _, .nil => rfl
  | _, _, .cons _ _ t => congrArg (· + 1) (RepF.length t)
/-- the value, then the receiver, then the store -/
def stE2 (mv mo : ME) (f : U → U → MS) : MS := fun s G => match mv s G with
  | .ok y G1 => match mo s G1 with
    | .ok o G2 => f y o s G2
    | .exc x G2 => .exc x s G2
    | .bad => .bad
  | .exc x G1 => .exc x s G1
  | .bad => .bad
def fldM (ok : Nat → Bool) (kf : Nat) : U → U → MS := fun y o s G => match o with
  | .ref i => match G[i]? with
    | some (.ins c l) => if ok c = true ∧ l.length < 1000 then .nx s (G.set i (.ins c (putU kf y l))) else .bad
    | _ => .bad
  | _ => .bad
theorem stE2_imp {mv mo : ME} {f : U → U → MS} {σ : L2.St} {H : Hp} {D : Ends} {k : V → V → Hp → Prop} (q : tS T W (stE2 mv mo f) D σ H)
    (hk : ∀ y o s G v w H' ρ' Z', Sm T σ H' s G ρ' Z' → Rep T ρ' Z' H' v y → Rep T ρ' Z' H' w o → RS T W σ H' ρ' Z' D (f y o s G) → k v w H') : tE T W mv σ H fun v H1 => tE T W mo σ H1 fun w H2 => k v w H2 := by
  obtain ⟨s, G, ρ, Z, sm, q⟩ := q
  refine ⟨s, G, ρ, Z, sm, ?_⟩
  unfold stE2 at q
  cases e : mv s G with
  | bad => rw [e] at q; exact q
  | exc x G1 =>
    rw [e] at q
    exact fun cls d H' ρ' Z' y rl a => q cls d σ H' ρ' Z' y (sm.ex y rl) a
  | ok y G1 =>
    rw [e] at q
    intro v H1 ρ1 Z1 x1 rl1 r1
    have sm1 := sm.ex x1 rl1
    have q1 := RS.ex (σ' := σ) q x1
    refine ⟨s, G1, ρ1, Z1, sm1, ?_⟩
    cases e2 : mo s G1 with
    | bad => simp only [e2] at q1; exact q1
    | exc x G2 =>
      simp only [e2] at q1
      exact fun cls d H' ρ' Z' y rl a => q1 cls d σ H' ρ' Z' y (sm1.ex y rl) a
    | ok o G2 =>
      simp only [e2] at q1
      exact fun w H2 ρ2 Z2 x2 rl2 r2 => hk y o s G2 v w H2 ρ2 Z2 (sm1.ex x2 rl2) (r1.ex rl1.zm x2) r2 (RS.ex q1 x2)
theorem fs_fld {f : Str} {kf : Nat} {ok : Nat → Bool} {pos' : Pos} (hat : AttOk T) (hf : T.att[kf]? = some f) (hok : ∀ c, ok c = true → FldOk X.K T c f) (ho : PE X o (tE T W mo)) (hv : PE X e (tE T W ma)) : PS X (.Assign [.Attribute o f pos'] e pos) (tS T W (stE2 ma mo (fldM ok kf))) :=
  PS.imp (ps_fld ho hv (swaps_other rfl)) fun D σ H q => stE2_imp q fun y o s G v w H' ρ' Z' sm r1 r2 q => by
    unfold fldM at q
    split at q
    · rename_i i
      split at q
      · rename_i c l g
        by_cases z : ok c = true ∧ l.length < 1000
        · rw [if_pos z] at q
          obtain ⟨b, ew, hb⟩ := r2.inv_ref
          obtain ⟨zb, C, dx, fv, h2, h3, h4⟩ := sm.rl.ob i b _ hb g
          obtain ⟨C', g1, g2, g3⟩ := (hok c z.1).cl
          have eC : C = C' := by rw [h3] at g1; exact Option.some.inj g1
          subst eC
          refine ⟨b, C, dx, fv, ew, h2, g2, g3, by rw [h4.length]; exact z.2, ?_⟩
          have hm : b ∈ ρ' := List.mem_of_getElem? hb
          refine q σ _ ρ' Z' (ex_set hm zb) ⟨sm.rl.set hb zb trivial ⟨zb, C, dx, _, upd_same, h3, (repF_put hat hf r1 h4).ex sm.rl.zm (ex_set hm zb)⟩, sm.fm.ex sm.rl.zm (ex_set hm zb)⟩
        · rw [if_neg z] at q
          exact q.elim
      · exact q.elim
    · exact q.elim

/-! ### xs[i] = e -/
def stE3 (mv mo mi : ME) (f : U → U → U → MS) : MS := fun s G => match mv s G with
  | .ok y G1 => match mo s G1 with
    | .ok o G2 => match mi s G2 with
      | .ok i G3 => f y o i s G3
      | .exc x G3 => .exc x s G3
      | .bad => .bad
    | .exc x G2 => .exc x s G2
    | .bad => .bad
  | .exc x G1 => .exc x s G1
  | .bad => .bad
theorem stE3_imp {mv mo mi : ME} {f : U → U → U → MS} {σ : L2.St} {H : Hp} {D : Ends} {k : V → V → V → Hp → Prop} (q : tS T W (stE3 mv mo mi f) D σ H)
    (hk : ∀ y o i s G v w j H' ρ' Z', Sm T σ H' s G ρ' Z' → Rep T ρ' Z' H' v y → Rep T ρ' Z' H' w o → Rep T ρ' Z' H' j i → RS T W σ H' ρ' Z' D (f y o i s G) → k v w j H') : tE T W mv σ H fun v H1 => tE T W mo σ H1 fun w H2 => tE T W mi σ H2 fun j H3 => k v w j H3 := by
  obtain ⟨s, G, ρ, Z, sm, q⟩ := q
  refine ⟨s, G, ρ, Z, sm, ?_⟩
  unfold stE3 at q
  cases e : mv s G with
  | bad => rw [e] at q; exact q
  | exc x G1 =>
    rw [e] at q
    exact fun cls d H' ρ' Z' y rl a => q cls d σ H' ρ' Z' y (sm.ex y rl) a
  | ok y G1 =>
    rw [e] at q
    intro v H1 ρ1 Z1 x1 rl1 r1
    have sm1 := sm.ex x1 rl1
    have q1 := RS.ex (σ' := σ) q x1
    refine ⟨s, G1, ρ1, Z1, sm1, ?_⟩
    cases e2 : mo s G1 with
    | bad => simp only [e2] at q1; exact q1
    | exc x G2 =>
      simp only [e2] at q1
      exact fun cls d H' ρ' Z' y rl a => q1 cls d σ H' ρ' Z' y (sm1.ex y rl) a
    | ok o G2 =>
      simp only [e2] at q1
      intro w H2 ρ2 Z2 x2 rl2 r2
      have sm2 := sm1.ex x2 rl2
      have q2 := RS.ex (σ' := σ) q1 x2
      refine ⟨s, G2, ρ2, Z2, sm2, ?_⟩
      cases e3 : mi s G2 with
      | bad => simp only [e3] at q2; exact q2
      | exc x G3 =>
        simp only [e3] at q2
        exact fun cls d H' ρ' Z' y rl a => q2 cls d σ H' ρ' Z' y (sm2.ex y rl) a
      | ok i G3 =>
        simp only [e3] at q2
        exact fun j H3 ρ3 Z3 x3 rl3 r3 => hk y o i s G3 v w j H3 ρ3 Z3 (sm2.ex x3 rl3) ((r1.ex rl1.zm x2).ex rl2.zm x3) (r2.ex rl2.zm x3) r3 (RS.ex q2 x3)
def itemM : U → U → U → MS := fun y o i s G => match o, i with
  | .ref j, .int n => match G[j]? with
    | some (.lst l) => match ixN l.length n with
      | some m => .nx s (G.set j (.lst (l.set m y)))
      | none => .bad
    | _ => .bad
  | _, _ => .bad
theorem sub_eval {o i : Expr} {pos : Pos} {env : Env} (h : noSlice i = true) (v : Value) : assign (.Subscript o i pos) env v = (do
      let ov ← holding [v] (eval o env)
      let iv ← holding [v, ov] (eval i env)
      standAt pos
      holding [v, ov, iv] (setItem ov iv v)
      release [v, ov, iv] []) := by
  cases i <;> first | rfl | (simp [noSlice] at h)
theorem fs_item {pos' : Pos} (hns : noSlice i = true) (ho : PE X o (tE T W mo)) (hi : PE X i (tE T W mi)) (hv : PE X e (tE T W ma)) : PS X (.Assign [.Subscript o i pos'] e pos) (tS T W (stE3 ma mo mi itemM)) :=
  PS.imp (ps_asg hv (pg_sub ho hi set_list (sub_eval hns)) (swaps_sole rfl) (swapped_no rfl) (assign_one rfl)) fun D σ H q => stE3_imp q fun y o i s G v w j H' ρ' Z' sm r1 r2 r3 q => by
    unfold itemM at q
    split at q
    · rename_i jj n
      split at q
      · rename_i l g
        split at q
        · rename_i m hm
          obtain ⟨b, ws, rfl, hb, zb, hl, rw'⟩ := cell_lst (u := .ref jj) sm.rl r2 g
          have hmem : b ∈ ρ' := List.mem_of_getElem? hb
          refine ⟨b, ws, n, m, rfl, r3.inv_int, hl, by rw [rw'.length]; exact hm, ?_⟩
          exact q σ _ ρ' Z' (ex_set hmem zb) ⟨set_lst (l := l) sm.rl hb zb (rw'.set r1 m), sm.fm.ex sm.rl.zm (ex_set hmem zb)⟩
        · exact q.elim
      · exact q.elim
    · exact q.elim

/-! ### isinstance -/
inductive Ty where
  | non | bl | int | str | lst | tup | dct
  deriving DecidableEq
def Ty.name : Ty → String
  | .non => "NoneType" | .bl => "bool" | .int => "int" | .str => "str" | .lst => "list" | .tup => "tuple" | .dct => "dict"
def Ty.sub (a b : Ty) : Bool := decide (a = b) || (decide (a = .bl) && decide (b = .int))
theorem kit_sub (a b : Ty) (h : b ≠ .non) : kitB a.name b.name = some (a.sub b) := by
  cases b <;> first | exact absurd rfl h | (cases a <;> decide +kernel)
/-- a value's type: built in, or the class of an instance -/
def tyOf (G : List Ob) : U → Option (Ty ⊕ Nat)
  | .non => some (.inl .non)
  | .bl _ => some (.inl .bl)
  | .int _ => some (.inl .int)
  | .str _ => some (.inl .str)
  | .lst _ => some (.inl .lst)
  | .tup _ => some (.inl .tup)
  | .dct _ => some (.inl .dct)
  | .sc _ => none
  | .ins c _ => some (.inr c)
  | .ref i => match G[i]? with
    | some (.lst _) => some (.inl .lst)
    | some (.dct _) => some (.inl .dct)
    | some (.ins c _) => some (.inr c)
    | _ => none
/-- the facts of a class for isinstance -/
structure InsT (K : PySem.W.Frag) (C : Addr) : Prop where
  cl : Cls K C
  ha : PySem.W.findIn K (.ref C) "__class__" = some (some (.builtin "object.__class__"))
  hn : PySem.W.specialIn K (.builtin "object.__class__") "__get__" = some (some (.builtin "getset_descriptor.__get__"))
  htk : PySem.W.takesIn K (.builtin "object.__class__") = some true
  hm : PySem.W.mroIn K C (.type "object") = some true
theorem ty_at {H : Hp} {ρ : List Addr} {Z : Addr → Prop} {G : List Ob} {v : V} {u : U} (rl : Rl T ρ Z G H) (r : Rep T ρ Z H v u) : (∀ t, tyOf G u = some (.inl t) → TyX T.K H v (.type t.name)) ∧ ∀ c, tyOf G u = some (.inr c) → ∃ C, T.cls[c]? = some C ∧ (InsT T.K C → TyX T.K H v (.ref C)) := by
  constructor
  · intro t e
    cases u with
    | non => cases e; rw [r.inv_non]; exact .base .non
    | bl b => cases e; rw [r.inv_bl]; exact .base (.bl b)
    | int b => cases e; rw [r.inv_int]; exact .base (.int b)
    | str b => cases e; rw [r.inv_str]; exact .base (.str _)
    | lst l =>
      cases e
      obtain ⟨a, vs, rfl, h, _, _⟩ := r.inv_lst
      exact .base (.lst h)
    | tup l =>
      cases e
      obtain ⟨a, vs, rfl, h, _⟩ := r.inv_tup
      rcases h with (h | ⟨o, h⟩) | ⟨o, its, n, hk, hc, _⟩
      · exact .base (.tup h)
      · exact .fTuple h
      · exact .kTuple hk hc
    | dct l =>
      cases e
      cases r with
      | dct h z q => exact .base (.dK h)
    | sc l => cases e
    | ins c l => cases e
    | ref i =>
      obtain ⟨a, rfl, h⟩ := r.inv_ref
      simp only [tyOf] at e
      cases g : G[i]? with
      | none => rw [g] at e; cases e
      | some ob =>
        rw [g] at e
        cases ob with
        | dead => cases e
        | lst l =>
          cases e
          obtain ⟨_, vs, h2, _⟩ := rl.ob i a _ h g
          exact .base (.lst h2)
        | dct l =>
          cases e
          obtain ⟨_, vs, h2, _⟩ := rl.ob i a _ h g
          exact .base (.dK h2)
        | ins c l => cases e
  · intro c e
    cases u with
    | ins c' l =>
      cases e
      cases r with
      | ins h z hc q => exact ⟨_, hc, fun it => .base (.ins h it.cl it.ha it.hn it.htk it.hm)⟩
    | ref i =>
      obtain ⟨a, rfl, h⟩ := r.inv_ref
      simp only [tyOf] at e
      cases g : G[i]? with
      | none => rw [g] at e; cases e
      | some ob =>
        rw [g] at e
        cases ob with
        | ins c' l =>
          cases e
          obtain ⟨_, C, dx, fv, h2, h3, _⟩ := rl.ob i a _ h g
          exact ⟨C, h3, fun it => .base (.ins h2 it.cl it.ha it.hn it.htk it.hm)⟩
        | _ => cases e
    | _ => cases e
def isiM (cls : List Nat) (t : Ty ⊕ Nat) (m : ME) : ME := fun s G => (m s G).bind fun u G1 => match tyOf G1 u, t with
  | some (.inl a), .inl b => if b ≠ .non then .ok (.bl (a.sub b)) G1 else .bad
  | some (.inl _), .inr c => if c ∈ cls then .ok (.bl false) G1 else .bad
  | some (.inr c), .inl b => if c ∈ cls ∧ b ≠ .non then .ok (.bl false) G1 else .bad
  | some (.inr c), .inr c' => if c ∈ cls ∧ c' ∈ cls then .ok (.bl (decide (c = c'))) G1 else .bad
  | none, _ => .bad
structure IsiOk (K : PySem.W.Frag) (T : Tb) (cls : List Nat) : Prop where
  ins : ∀ c ∈ cls, ∀ C, T.cls[c]? = some C → InsT K C
  cb : ∀ c ∈ cls, ∀ C, T.cls[c]? = some C → ∀ b : Ty, b ≠ .non → PySem.W.kitOne K (.ref C) (.type b.name) = some false
  bc : ∀ c ∈ cls, ∀ C, T.cls[c]? = some C → ∀ b : Ty, PySem.W.kitOne K (.type b.name) (.ref C) = some false
  cc : ∀ c ∈ cls, ∀ c' ∈ cls, ∀ C C', T.cls[c]? = some C → T.cls[c']? = some C' → PySem.W.kitOne K (.ref C) (.ref C') = some (decide (c = c'))
/-- what the second argument names -/
def NamesTy (X : Cx) (T : Tb) (n : Str) : Ty ⊕ Nat → Prop
  | .inl b => X.mg n = none ∧ bootBuiltins n = some (.type b.name) ∧ n ≠ "__name__"
  | .inr c => ∃ C, T.cls[c]? = some C ∧ X.mg n = some (.ref C)
theorem fe_isi {cls : List Nat} {t : Ty ⊕ Nat} {n x : Str} {np : Pos} (hT : X.K = T.K) (I : IsiOk T.K T cls) (hx : x = ("isinstance" : Str)) (hg : Gl X x) (hm : X.mg x = none) (hgn : Gl X n) (hn : NamesTy X T n t) (hdb : (n == ("__debug__" : Str)) = false) (ha : PE X a (tE T W ma)) (h1 : noStar a = true) :
    PE X (.Call (.Name x p) [a, .Name n np] [] pos) (tE T W (isiM cls t ma)) := by
  subst hx
  have hv : bootBuiltins ("isinstance" : Str) = some (.builtin "isinstance") := by decide +kernel
  -- the class as a value
  have hc : ∃ (c : V) (u : Value), PE X (.Name n np) (tC c) ∧ ClsV c u ∧ (match t with | .inl b => u = .type b.name | .inr c' => ∃ C, T.cls[c']? = some C ∧ u = .ref C) := by
    cases t with
    | inl b =>
      obtain ⟨q1, q2, q3⟩ := hn
      exact ⟨.ty b.name, .type b.name, pe_bltn hgn q1 q2 rfl q3 hdb, .ty _, rfl⟩
    | inr c =>
      obtain ⟨C, q1, q2⟩ := hn
      exact ⟨.ref C, .ref C, pe_glob hgn q2 rfl hdb, .own C, C, q1, rfl⟩
  obtain ⟨c, cu, pc, ck, ct⟩ := hc
  refine PE.imp (pe_callB call_isi hg hm hv (pa_cons ha (pa_cons pc pa_nil rfl) (star_cons h1)) (by decide) (by decide) (star_cons h1) rfl) fun σ H Q ⟨s, G, ρ, Z, sm, q⟩ => ?_
  refine tE_bind sm q fun u G1 v H1 ρ1 Z1 x1 sm1 r1 q1 => ?_
  show ∃ (x c' : V) (t' u' : Value) (b : Bool), [v, c] = [x, c'] ∧ ClsV c' u' ∧ TyX X.K H1 x t' ∧ PySem.W.kitOne X.K t' u' = some b ∧ Q (.bl b) H1
  obtain ⟨t1, t2⟩ := ty_at sm1.rl r1
  rw [hT]
  split at q1
  · rename_i a' b e1 _
    by_cases z : b ≠ .non
    · rw [if_pos z] at q1
      subst ct
      exact ⟨v, c, _, _, _, rfl, ck, t1 _ e1, kit_ty (kit_sub a' b z), q1 _ H1 ρ1 Z1 Ex.refl sm1.rl (.bl _)⟩
    · rw [if_neg z] at q1
      exact q1.elim
  · rename_i a' c' e1 _
    by_cases z : c' ∈ cls
    · rw [if_pos z] at q1
      obtain ⟨C, h1, rfl⟩ := ct
      exact ⟨v, c, _, _, _, rfl, ck, t1 _ e1, I.bc c' z C h1 a', q1 _ H1 ρ1 Z1 Ex.refl sm1.rl (.bl _)⟩
    · rw [if_neg z] at q1
      exact q1.elim
  · rename_i c' b e1 _
    by_cases z : c' ∈ cls ∧ b ≠ .non
    · rw [if_pos z] at q1
      subst ct
      obtain ⟨C, h1, h2⟩ := t2 _ e1
      exact ⟨v, c, _, _, _, rfl, ck, h2 (I.ins c' z.1 C h1), I.cb c' z.1 C h1 b z.2, q1 _ H1 ρ1 Z1 Ex.refl sm1.rl (.bl _)⟩
    · rw [if_neg z] at q1
      exact q1.elim
  · rename_i c1 c2 e1 _
    by_cases z : c1 ∈ cls ∧ c2 ∈ cls
    · rw [if_pos z] at q1
      obtain ⟨C2, g1, rfl⟩ := ct
      obtain ⟨C, h1, h2⟩ := t2 _ e1
      exact ⟨v, c, _, _, _, rfl, ck, h2 (I.ins c1 z.1 C h1), I.cc c1 z.1 c2 z.2 C C2 h1 g1, q1 _ H1 ρ1 Z1 Ex.refl sm1.rl (.bl _)⟩
    · rw [if_neg z] at q1
      exact q1.elim
  · exact q1.elim
end
end FL

/-! FL14: classes made with keywords; own == and !=; int of a text. -/
namespace FL
open PySem L2 PyProof.Rows
section
variable {X : Cx} {T : Tb} {W : WX} {p pos apos : Pos} {a e o i : Expr} {es : List Expr} {ma mo mi : ME} {mas mks : MA} {k n : Nat} {C f : Addr} {x : Str} {r : RunD}
/-! ### C(e, .., k = v, ..) -/
def kwName (k : Keyword) : Option Str := match k with
  | ⟨nm, _, _⟩ => nm
def kwVal (k : Keyword) : Expr := match k with
  | ⟨_, e, _⟩ => e
theorem kw_cons {nm : Option Str} {e : Expr} {kp : Pos} {kws : List Keyword} {env : Env} : backToKw pos (keywordEach (⟨nm, e, kp⟩ :: kws) env) = (nm, do let v ← eval e env; standAt pos; pure v) :: backToKw pos (keywordEach kws env) := rfl
theorem kw_all {env : Env} : ∀ {kws : List Keyword}, kws.all (fun k => (kwName k).isSome) = true → (backToKw pos (keywordEach kws env)).all (·.1.isSome) = true
  | [], _ => rfl
  | ⟨nm, e, kp⟩ :: r, h => by
    rw [List.all_cons, Bool.and_eq_true] at h
    rw [kw_cons, List.all_cons, Bool.and_eq_true]
    exact ⟨h.1, kw_all h.2⟩
theorem kw_any {env : Env} : ∀ {kws : List Keyword}, kws.all (fun k => (kwName k).isSome) = true → (backToKw pos (keywordEach kws env)).any (·.1.isNone) = false
  | [], _ => rfl
  | ⟨nm, e, kp⟩ :: r, h => by
    rw [List.all_cons, Bool.and_eq_true] at h
    rw [kw_cons, List.any_cons, kw_any h.2, Bool.or_false]
    have h1 : nm.isSome = true := h.1
    cases nm with
    | none => cases h1
    | some _ => rfl
theorem kw_map {env : Env} : ∀ {kws : List Keyword}, (backToKw pos (keywordEach kws env)).filterMap (·.1) = kws.filterMap kwName
  | [] => rfl
  | ⟨nm, e, kp⟩ :: r => by
    rw [kw_cons]
    cases nm with
    | none => exact kw_map
    | some y => exact congrArg (y :: ·) kw_map
theorem PK.imp {kws : List Keyword} {t t' : L2.TA} (h : PK X kws t) (i : ∀ σ H Q, t' σ H Q → t σ H Q) : PK X kws t' := ⟨fun pos pins s σ H Q I q => h.run pos pins s σ H Q I (i σ H Q q)⟩
theorem fk_nil : PK X [] (tA T W nilA) := PK.imp pk_nil fun σ H Q ⟨s, G, ρ, Z, sm, q⟩ => q [] H ρ Z Ex.refl sm.rl .nil
theorem fk_cons {nm : Option Str} {kp : Pos} {kws : List Keyword} (ha : PE X a (tE T W ma)) (hr : PK X kws (tA T W mas)) : PK X (⟨nm, a, kp⟩ :: kws) (tA T W (consA ma mas)) :=
  PK.imp (pk_cons ha hr) fun σ H Q ⟨s, G, ρ, Z, sm, q⟩ => by
    refine tE_bindA sm q fun u G1 x H1 ρ1 Z1 x1 sm1 r1 q1 => ?_
    refine tA_bindA sm1 q1 fun us G2 vs H2 ρ2 Z2 x2 sm2 r2 q2 => ?_
    exact q2 _ H2 ρ2 Z2 Ex.refl sm2.rl (.cons (r1.ex sm1.rl.zm x2) r2)
/-- a class made with n values by place and the keywords ks -/
structure MakeKOk (P : Program) (w : World) (K : PySem.W.Frag) (mg : Str → Option Value) (base : Heap) (T : Tb) (k : Nat) (c : Nat) (x : Str) (n : Nat) (ks : List Str) (r : RunD) : Prop where
  cl : ∃ C f fd ps, T.cls[c]? = some C ∧ mg x = some (.ref C) ∧ Mk K C f ∧ KBn K fd ps (n + 1) ks (fun us ws => us ++ ws) (fun vs zs => vs ++ zs) ∧ FnOk P w K mg base (L2.CX P w) k f fd ps (spD T (n + 1 + ks.length) r)
def makeKM (c n m : Nat) (r : RunD) (mas mks : MA) : ME := fun s G => (mas s G).bind fun us G1 => (mks s G1).bind fun zs G2 => if us.length = n ∧ zs.length = m then madeU c (n + 1 + m) r (us ++ zs) G2 else .bad
theorem run_makeKS {CX : CXT} {sp : Sp} {E : XK} {fd : FuncData} {ps ks : List Str} {g : List Value → List Value → List Value} {gV : List V → List V → List V} {pins : List (Addr × Obj)} {σ : L2.St} {H : Hp} {s : Shared} {Q : VK} {us ws : List Value} {vs zs : List V}
    (M : Mk X.K C f) (F : FnOk X.prog X.w X.K X.mg X.base CX k f fd ps sp) (hr : Room (k + 1) X.A) (hb : KBn X.K fd ps (n + 1) ks g gV) (hx : PassesAt CX X σ E)
    (I : Inv X pins σ H s) (r : Vals vs us) (rz : Vals zs ws) (l1 : vs.length = n) (l2 : zs.length = ks.length)
    (h : ∀ x dx, H x = none → H dx = none → dx ≠ x → sp (gV (.ref x :: vs) zs) (upd (upd H dx (.own x)) x (.ins C dx [])) (fun v H2 => v = .non ∧ Q (.ref x) H2) E) :
    wpAny (model X.prog X.w) X.A (call (.ref C) us (ks.zip ws)) (EP X pins σ Q) X.xe s := by
  have hq := h (s.heap.objs.size + 1) s.heap.objs.size (I.hok.fresh (Nat.le_succ _)) (I.hok.fresh (Nat.le_refl _)) (Nat.ne_of_lt (Nat.lt_succ_self _))
  have I2 := Inv.made (C := C) I
  have r1 : Vals (V.ref (s.heap.objs.size + 1) :: vs) (Value.ref (s.heap.objs.size + 1) :: us) := .cons rfl r
  have r2 := hb.rel r1 rz
  have n1 : (Value.ref (s.heap.objs.size + 1) :: us).length = n + 1 := by
    rw [List.length_cons, ← r.length, l1]
  refine wpAny_call (make_map (f := f) I.kIn M.makes M.init (beq_iff_eq.mp M.fn) (codeAny_mono (F.run _ X.stack _ _ ⟨Value.ref (s.heap.objs.size + 1) :: us, ks.zip ws⟩ (g (Value.ref (s.heap.objs.size + 1) :: us) ws) _ _ E (hr.make C us (ks.zip ws))
    (I2.env0.make C us (ks.zip ws)) (hb.to _ (Value.ref (s.heap.objs.size + 1) :: us) ws I2.kIn n1 (rz.length.symm.trans l2)) r2 hq) fun r s' hq' => ?_))
  cases r with
  | error e => exact hx pins _ _ e s' I2 hq'
  | ok fl =>
    cases fl with
    | ret u =>
      obtain ⟨v, H', I3, rv, ev, q3⟩ := I2.after hq'
      subst ev
      exact ⟨rv, ⟨V.ref (s.heap.objs.size + 1), H', I3, rfl, q3⟩⟩
    | next => exact False.elim hq'
    | brk => exact False.elim hq'
    | cont => exact False.elim hq'
theorem Reps.of_append {ρ : List Addr} {Z : Addr → Prop} {H : Hp} {vs : List V} {us : List U} (r : Reps T ρ Z H vs us) : vs.length = us.length := r.length
theorem fe_makeK {c : Nat} {ks : List Str} {kws : List Keyword} (M : MakeKOk X.prog X.w X.K X.mg X.base T k c x n ks r) (hr : Room (k + 1) X.A) (hg : Gl X x) (tk : Takes X W) (ha : PA X (e :: es) (tA T W mas)) (hk : PK X kws (tA T W mks)) (hdb : (x == ("__debug__" : Str)) = false) (hst : (e :: es).all noStar = true)
    (hkw : kws.all (fun k => (kwName k).isSome) = true) (hks : kws.filterMap kwName = ks) :
    PE X (.Call (.Name x p) (e :: es) kws pos) (tE T W (makeKM c n ks.length r mas mks)) := by
  obtain ⟨C, f, fd, ps, g1, g2, g3, hb, F⟩ := M.cl
  rw [List.all_cons, Bool.and_eq_true] at hst
  refine ⟨fun pins s σ H Q I h => ?_⟩
  refine wpAny_Call_Name_kw (ld_glob I hg g2 ?_ hdb)
  obtain ⟨s', G, ρ, Z, sm, q⟩ := h
  have q' : tA T W mas σ H fun vs H1 => tA T W mks σ H1 fun zs H2 => vs.length = n ∧ zs.length = ks.length ∧ ∀ x dx, H2 x = none → H2 dx = none → dx ≠ x → spD T (n + 1 + ks.length) r ((.ref x :: vs) ++ zs) (upd (upd H2 dx (.own x)) x (.ins C dx [])) (fun v H3 => v = .non ∧ Q (.ref x) H3) (WE W σ) :=
    tA_bind sm q fun us G1 vs H1 ρ1 Z1 x1 sm1 r1 q1 => tA_bind sm1 q1 fun zs G2 ws H2 ρ2 Z2 x2 sm2 r2 q2 => by
      by_cases z : us.length = n ∧ zs.length = ks.length
      · rw [if_pos z] at q2
        exact ⟨r1.length.trans z.1, r2.length.trans z.2, made_ok sm2 ((r1.ex sm1.rl.zm x2).append r2) g1 q2⟩
      · rw [if_neg z] at q2
        exact q2.elim
  refine PySem.W.callWith_KW (h₀ := X.base) I.ok.mod.kin g3.kp (kw_all hkw) (thn (ha.run pos pins s σ H _ I q') fun us s1 ⟨vs, H1, I1, r, q⟩ => ?_) (by rw [star_any (by rw [List.all_cons, hst.1, hst.2]; rfl), kw_any hkw]; rfl) (star_cons hst.1)
  refine thn (hk.run pos pins s1 σ H1 _ I1 q) fun ws s2 ⟨zs, H2, I2, rz, l1, l2, q2⟩ => ⟨I2.kIn, ?_⟩
  rw [kw_map, hks]
  exact run_makeKS g3 F hr hb (passAt tk σ) I2 r rz l1 l2 q2

/-! ### own == and != -/
theorem objEq_look : ∃ y, typeLookup (.type "object") ("__eq__" : Str) = pure y := ⟨some (.builtin "object.__eq__"), by rw [typeLookup_type, builtinLookup_eq_fast]; kernel_rfl⟩
/-- what the class at C has for its own == -/
structure EqC (K : PySem.W.Frag) (C f : Addr) : Prop where
  at_ : PySem.W.findIn K (.ref C) "__eq__" = some (some (.ref f))
  fn : PySem.W.isFn K (.ref f) = true
  nt : PySem.W.notFirst K C (.type "tuple") = true
/-- .. and for != by it -/
structure NeC (K : PySem.W.Frag) (C f : Addr) : Prop where
  ob : ∃ (nm q : Str) (N : Addr) (bs : List Value) (hdct : Bool) (sn : List Str) (sub : List Value) (ab : Bool) (col : Option Bool) (dd : Option Addr) (k0 k1 k2 k3 k5 : Option Value) (newId : String),
    K.lookup C = some (excClassObj nm q C N bs [.type "object"] hdct sn sub ab col dd k0 k1 k2 k3 k5 newId) ∧ PySem.W.nsOkIn K N = true ∧ PySem.W.nsIn K N "__eq__" = some (some (.ref f)) ∧ PySem.W.nsIn K N "__ne__" = some none
theorem ns_some_of {K : PySem.W.Frag} {h : Heap} {N : Addr} {mg : Str → Option Value} {n : Str} {v : Value} (X : K.In h) (G : h.Ns N mg) (e : PySem.W.nsIn K N n = some (some v)) : mg n = some v := by
  obtain ⟨o, es, ep, ho, hd, _, hf⟩ := G
  unfold PySem.W.nsIn at e
  split at e
  · rename_i c d es' n' sl q
    have := X _ _ q
    rw [ho] at this
    cases this
    cases hd
    split at e
    · rename_i en he
      cases e
      rw [← hf]
      unfold nsFind findBy
      rw [← Array.find?_toList, he]
      rfl
    · split at e <;> cases e
  · cases e
def rOwnEq (T : Tb) (r : RunD) (C : Addr) : R2 := fun x y H Q => ∃ a dx fs, x = .ref a ∧ H a = some (.ins C dx fs) ∧ (∃ b, y = .ref b ∧ ((∃ dy gs, H b = some (.ins C dy gs)) ∨ ∃ ys, SqT T.K H b ys)) ∧ spD T 2 r [x, y] H (fun v H' => ∃ t, v = .bl t ∧ Q (.bl t) H') E0
def rOwnNe (T : Tb) (r : RunD) (C : Addr) : R2 := fun x y H Q => ∃ a dx fs, x = .ref a ∧ H a = some (.ins C dx fs) ∧ (∃ b, y = .ref b ∧ (∃ dy gs, H b = some (.ins C dy gs))) ∧ spD T 2 r [x, y] H (fun v H' => ∃ t, v = .bl t ∧ Q (.bl (!t)) H') E0
theorem op_ownEq (hT : X.K = T.K) (F : DefOk X.prog X.w X.K X.mg X.base T k f 2 r) (ec : EqC X.K C f) (hr : Room k X.A) : OpR X (compareOp .Eq) (rOwnEq T r C) := by
  intro pins s σ H x y v u Q I rx ry ⟨a, dx, fs, ex, ha, ⟨b, ey, hb'⟩, hsp⟩
  subst ex
  subst ey
  obtain ⟨fd, ps, hbi, hl, F⟩ := F.ex
  cases rx
  cases ry
  show wpAny (model X.prog X.w) X.A (richCompare .Eq (.ref a) (.ref b)) (EP X pins σ Q) X.xe s
  obtain ⟨mA, J, _⟩ := ins_get I.hok ha
  obtain ⟨od, J, _⟩ := J.look
  obtain ⟨m, hF⟩ := I.fr
  have key : ∃ tb, PySem.W.Looks (model X.prog X.w) s.heap (typeOf (.ref b)) tb ∧ PySem.W.notFirst X.K C tb = true := by
    rcases hb' with ⟨dy, gs, hb⟩ | ⟨ys, hb⟩
    · obtain ⟨mB, J', _⟩ := ins_get I.hok hb
      obtain ⟨od', J', _⟩ := J'.look
      exact ⟨_, J'.type, by simp [PySem.W.notFirst]⟩
    · rw [← hT] at hb
      obtain ⟨its, r, ⟨o, ho, hc, _⟩, z⟩ := I.tuple hb
      exact ⟨.type "tuple", fun A Q E s k q => wpAny_typeOf_ref (k _ _ ho) (by rw [hc]; exact q), ec.nt⟩
  obtain ⟨tb, L, nf⟩ := key
  refine PySem.W.cmp_K (op := .Eq) (tb := tb) (hu_of hr |> Nat.lt_of_succ_lt) hF I.ok.mod.kin J L nf ec.at_ ec.fn ?_
  have r2 : Vals [V.ref a, V.ref b] [Value.ref a, Value.ref b] := .cons rfl (.cons rfl .nil)
  refine wpAny_call (codeAny_mono (F.run X.A X.stack s H ⟨[.ref a, .ref b], []⟩ [.ref a, .ref b] [.ref a, .ref b] _ E0 hr I.env0 (by
    have := hbi s [.ref a, .ref b] I.kIn (by simpa using hl.symm)
    simpa using this) r2 hsp) fun r s' hq => ?_)
  cases r with
  | error e => exact passL pins σ H s e s' I hq
  | ok fl =>
    cases fl with
    | ret w =>
      obtain ⟨z, H', I', rz, t, ez, ex⟩ := I.after hq
      subst ez
      cases rz
      exact ⟨.bl t, H', I', rfl, ex⟩
    | next => exact False.elim hq
    | brk => exact False.elim hq
    | cont => exact False.elim hq
theorem op_ownNe (F : DefOk X.prog X.w X.K X.mg X.base T k f 2 r) (ec : EqC X.K C f) (nc : NeC X.K C f) (hr : Room (k + 1) X.A) : OpR X (compareOp .NotEq) (rOwnNe T r C) := by
  intro pins s σ H x y v u Q I rx ry ⟨a, dx, fs, ex, ha, ⟨b, ey, dy, gs, hb'⟩, hsp⟩
  subst ex
  subst ey
  obtain ⟨fd, ps, hbi, hl, F⟩ := F.ex
  cases rx
  cases ry
  obtain ⟨mA, J, _⟩ := ins_get I.hok ha
  obtain ⟨mB, J', _⟩ := ins_get I.hok hb'
  obtain ⟨od, J, _⟩ := J.look
  obtain ⟨od', J', _⟩ := J'.look
  obtain ⟨nm, q, N, bs, hdct, sn, sub, ab, col, dd, k0, k1, k2, k3, k5, newId, hC, hN, he, hne⟩ := nc.ob
  have KI := I.kIn
  obtain ⟨of, hof, hofc⟩ : ∃ of, s.heap.get? f = some of ∧ of.cls = .type "function" := by
    have := beq_iff_eq.mp ec.fn
    unfold PySem.W.typeIn at this
    cases hl' : X.K.lookup f with
    | none => simp [hl'] at this
    | some of => exact ⟨of, KI _ _ hl', by simpa [hl'] using this⟩
  obtain ⟨y, hy⟩ := objEq_look
  have Y : s.heap.OwnEqNoNe a C f "object" [.type "object"] := ⟨_, of, nm, q, N, bs, hdct, sn, sub, ab, col, dd, k0, k1, k2, k3, k5, newId, _, y, J.at_, J.cls, KI _ _ hC, .of_isNs (PySem.W.isNs_of_in KI hN), ns_some_of KI (.of_isNs (PySem.W.isNs_of_in KI hN)) he, hof, hofc, PySem.F.mro_object, hy, PySem.W.ns_none_of KI (.of_isNs (PySem.W.isNs_of_in KI hN)) hne⟩
  have e0 : Env0 X.prog X.w X.K X.mg X.base X.A.in1 X.stack s H := by
    have e := I.env0
    exact ⟨e.frames, e.mod, e.bs, e.bsz, e.funs, e.frf, e.hok, e.bare⟩
  have r2 : Vals [V.ref a, V.ref b] [Value.ref a, Value.ref b] := .cons rfl (.cons rfl .nil)
  have hu : X.A.units + 1 < cLine := hu_of hr
  have call : wpAny (model X.prog X.w) X.A.in1 (call (.ref f) [.ref a, .ref b]) (fun v s' => ∃ t, v = .bool t ∧ EP X pins σ Q (.bool (!t)) s') X.xe s := by
    refine wpAny_call (codeAny_mono (F.run X.A.in1 X.stack s H ⟨[.ref a, .ref b], []⟩ [.ref a, .ref b] [.ref a, .ref b] _ E0 hr.in1 e0 (by
      have := hbi s [.ref a, .ref b] I.kIn (by simpa using hl.symm)
      simpa using this) r2 hsp) fun r s' hq => ?_)
    cases r with
    | error e => exact passL pins σ H s e s' I hq
    | ok fl =>
      cases fl with
      | ret w =>
        obtain ⟨z, H', I', rz, t, ez, ex⟩ := I.after hq
        subst ez
        cases rz
        exact ⟨t, rfl, .bl (!t), H', I', rfl, ex⟩
      | next => exact False.elim hq
      | brk => exact False.elim hq
      | cont => exact False.elim hq
  have hB := J'.at_
  have hBc := J'.cls
  clear J' J
  obtain ⟨hh, g, d, t, os⟩ := s
  exact compareOp_ne_ownEq PySem.F.cmp_object Y hB hBc hu call
end
end FL

/-! FL15: chains, == with own classes, built-ins by name; the table of a body. -/
namespace FL
open PySem L2 PyProof.Rows
section
variable {X : Cx} {T : Tb} {W : WX} {p pos apos : Pos} {a b c e o i : Expr} {es : List Expr} {ma mb mc mo mi : ME} {mas mks : MA} {k n : Nat} {C f : Addr} {x : Str} {r : RunD}
/-! ### a < b < c -/
theorem last_marks {op op' : CmpOp} (h : noSet c = true) : lastMarks [op, op'] [b, c] = false := by
  show behindInMarks op' c = false
  exact marks_no h
theorem fe_chain {op op' : CmpOp} {f g : U → U → List Ob → Rs U} {r r' : R2} (ho : OpR X (compareOp op) r) (ho' : OpR X (compareOp op') r') (h : O2 T W f r) (h' : O2 T W g r') (ha : PE X a (tE T W ma)) (hb : PE X b (tE T W mb)) (hc : PE X c (tE T W mc)) (hs : noSet c = true) :
    PE X (.Compare a [op, op'] [b, c] pos) (tE T W (chM f g ma mb mc)) := PE.imp (pe_chain ho ho' ha hb hc (last_marks hs)) fun _ _ _ q => chM_top h h' q
theorem ft_chain {op op' : CmpOp} {f g : U → U → List Ob → Rs U} {r r' : R2} (ho : OpR X (compareOp op) r) (ho' : OpR X (compareOp op') r') (h : O2 T W f r) (h' : O2 T W g r') (ha : PE X a (tE T W ma)) (hb : PE X b (tE T W mb)) (hc : PE X c (tE T W mc)) (hs : noSet c = true) :
    PT X (.Compare a [op, op'] [b, c] pos) (tT T W (tobM (chM f g ma mb mc))) := PT.imp (pt_chain ho ho' ha hb hc (last_marks hs)) fun _ _ _ q => chM_top h h' (tB_of q)

/-! ### == and != where own classes stand -/
theorem OpR.ex {ι : Sort _} {f : Value → Value → Sem Value} {r : ι → R2} (h : ∀ i, OpR X f (r i)) : OpR X f (fun x y H Q => ∃ i, r i x y H Q) := fun pins s σ H x y v u Q I rx ry ⟨i, q⟩ => h i pins s σ H x y v u Q I rx ry q
structure EqOk (P : Program) (w : World) (K : PySem.W.Frag) (mg : Str → Option Value) (base : Heap) (T : Tb) (k : Nat) (c : Nat) (r : RunD) : Prop where
  cl : ∃ C f, T.cls[c]? = some C ∧ EqC K C f ∧ NeC K C f ∧ DefOk P w K mg base T k f 2 r
def isTupU : U → Bool
  | .tup _ => true
  | _ => false
def boolB (neg : Bool) : Rs U → Rs U
  | .ok (.bl t) G => .ok (.bl (if neg then !t else t)) G
  | _ => .bad
def eqX (neg : Bool) (et : Nat → Option RunD) : U → U → List Ob → Rs U := fun x y G => match insOf G x with
  | some (c, _) => match et c with
    | some r => if (match insOf G y with | some (c', _) => decide (c' = c) | none => isTupU y && !neg) then boolB neg (arM 2 r [x, y] G) else .bad
    | none => .bad
  | none => eqU neg x y G
def rEqX (X : Cx) (T : Tb) (et : Nat → Option RunD) : R2 := fun x y H Q => (∃ i : { z : RunD × Addr // ∃ c, et c = some z.1 ∧ T.cls[c]? = some z.2 }, rOwnEq T i.1.1 i.1.2 x y H Q) ∨ rEqD X.K x y H Q
def rNeX (X : Cx) (T : Tb) (et : Nat → Option RunD) : R2 := fun x y H Q => (∃ i : { z : RunD × Addr // ∃ c, et c = some z.1 ∧ T.cls[c]? = some z.2 }, rOwnNe T i.1.1 i.1.2 x y H Q) ∨ rNeD X.K x y H Q
theorem op_eqX {et : Nat → Option RunD} (hT : X.K = T.K) (he : ∀ c r, et c = some r → EqOk X.prog X.w X.K X.mg X.base T k c r) (hr : Room (k + 1) X.A) : OpR X (compareOp .Eq) (rEqX X T et) := by
  refine OpR.or (OpR.ex fun ⟨⟨r, C⟩, c, h1, h2⟩ => ?_) (op_eqD hr.units)
  obtain ⟨C', f, g1, g2, g3, g4⟩ := (he c r h1).cl
  have eC : C' = C := by rw [h2] at g1; exact (Option.some.inj g1).symm
  subst eC
  exact op_ownEq hT g4 g2 (hr.mono (Nat.le_succ _))
theorem op_neX {et : Nat → Option RunD} (he : ∀ c r, et c = some r → EqOk X.prog X.w X.K X.mg X.base T k c r) (hr : Room (k + 1) X.A) : OpR X (compareOp .NotEq) (rNeX X T et) := by
  refine OpR.or (OpR.ex fun ⟨⟨r, C⟩, c, h1, h2⟩ => ?_) (op_neD hr.units)
  obtain ⟨C', f, g1, g2, g3, g4⟩ := (he c r h1).cl
  have eC : C' = C := by rw [h2] at g1; exact (Option.some.inj g1).symm
  subst eC
  exact op_ownNe g4 g2 g3 hr
theorem boolB_sp {neg : Bool} {σ : L2.St} {H : Hp} {ρ : List Addr} {Z : Addr → Prop} {G : List Ob} {s : Sg} {Q : VK} {us : List U} {vs : List V} (sm : Sm T σ H s G ρ Z) (q : Reps T ρ Z H vs us) (h : RE T W σ H ρ Z Q (boolB neg (arM n r us G))) :
    spD T n r vs H (fun v H' => ∃ t, v = .bl t ∧ Q (.bl (if neg then !t else t)) H') E0 := by
  unfold arM at h
  by_cases e : us.length = n
  · rw [if_pos e] at h
    refine ⟨us, G, ρ, Z, sm.rl, q, e, ?_⟩
    cases e2 : r us G with
    | ok u G' =>
      rw [e2] at h
      cases u with
      | bl t => exact fun v H' ρ' Z' x rl rv => ⟨t, rv.inv_bl, h _ H' ρ' Z' x rl (.bl _)⟩
      | _ => exact h.elim
    | exc x G' => rw [e2] at h; exact h.elim
    | bad => rw [e2] at h; exact h.elim
  · rw [if_neg e] at h
    exact h.elim
theorem own_top {neg : Bool} {et : Nat → Option RunD} {σ : L2.St} {H : Hp} {s : Sg} {G : List Ob} {ρ : List Addr} {Z : Addr → Prop} {x y : V} {u w : U} {Q : VK} (sm : Sm T σ H s G ρ Z) (r1 : Rep T ρ Z H x u) (r2 : Rep T ρ Z H y w) {c : Nat} {l : List (Nat × U)} (e : insOf G u = some (c, l)) {r : RunD}
    (z : (match insOf G w with | some (c', _) => decide (c' = c) | none => isTupU w && !neg) = true) (h : RE T W σ H ρ Z Q (boolB neg (arM 2 r [u, w] G))) :
    ∃ C, T.cls[c]? = some C ∧ ∃ a dx fs, x = .ref a ∧ H a = some (.ins C dx fs) ∧ (∃ b, y = .ref b ∧ ((∃ dy gs, H b = some (.ins C dy gs)) ∨ (neg = false ∧ ∃ ys, SqT T.K H b ys))) ∧ spD T 2 r [x, y] H (fun v H' => ∃ t, v = .bl t ∧ Q (.bl (if neg then !t else t)) H') E0 := by
  obtain ⟨a, C, dx, fv, rfl, h1, h2, h3⟩ := insOf_at sm.rl r1 e
  refine ⟨C, h2, a, dx, fv, rfl, h1, ?_, boolB_sp sm (.cons r1 (.cons r2 .nil)) h⟩
  cases e2 : insOf G w with
  | some cl =>
    obtain ⟨c', l'⟩ := cl
    rw [e2] at z
    obtain ⟨b, C', dy, gv, ey, g1, g2, g3⟩ := insOf_at sm.rl r2 e2
    have ec : c' = c := of_decide_eq_true z
    subst ec
    have eC : C' = C := by rw [h2] at g2; exact (Option.some.inj g2).symm
    subst eC
    exact ⟨b, ey, .inl ⟨dy, gv, g1⟩⟩
  | none =>
    rw [e2] at z
    cases w with
    | tup l' =>
      obtain ⟨b, vs, ey, g1, g2⟩ := r2.inv_tup
      cases neg with
      | true => cases z
      | false => exact ⟨b, ey, .inr ⟨rfl, vs, g1⟩⟩
    | _ => cases z
theorem o2_eqX {et : Nat → Option RunD} (hT : X.K = T.K) : O2 T W (eqX false et) (rEqX X T et) := by
  intro σ H s G ρ Z x y u w Q sm r1 r2 h
  unfold eqX at h
  split at h
  · rename_i c l e
    split at h
    · rename_i r hr
      by_cases z : (match insOf G w with | some (c', _) => decide (c' = c) | none => isTupU w && !false) = true
      · rw [if_pos z] at h
        obtain ⟨C, h1, a, dx, fs, ex, ha, ⟨b, ey, hb⟩, hs⟩ := own_top (neg := false) (et := et) sm r1 r2 e z h
        exact .inl ⟨⟨⟨r, C⟩, c, hr, h1⟩, a, dx, fs, ex, ha, ⟨b, ey, hb.imp id fun z => z.2⟩, hs⟩
      · rw [if_neg z] at h
        exact h.elim
    · exact h.elim
  · exact .inr (o2_eq hT σ H s G ρ Z x y u w Q sm r1 r2 h)
theorem o2_neX {et : Nat → Option RunD} (hT : X.K = T.K) : O2 T W (eqX true et) (rNeX X T et) := by
  intro σ H s G ρ Z x y u w Q sm r1 r2 h
  unfold eqX at h
  split at h
  · rename_i c l e
    split at h
    · rename_i r hr
      by_cases z : (match insOf G w with | some (c', _) => decide (c' = c) | none => isTupU w && !true) = true
      · rw [if_pos z] at h
        obtain ⟨C, h1, a, dx, fs, ex, ha, ⟨b, ey, hb⟩, hs⟩ := own_top (neg := true) (et := et) sm r1 r2 e z h
        refine .inl ⟨⟨⟨r, C⟩, c, hr, h1⟩, a, dx, fs, ex, ha, ⟨b, ey, hb.elim id fun z => ?_⟩, hs⟩
        cases z.1
      · rw [if_neg z] at h
        exact h.elim
    · exact h.elim
  · exact .inr (o2_ne hT σ H s G ρ Z x y u w Q sm r1 r2 h)

/-! ### built-ins by name -/
def strU2 : RunD := fun us G => match us with
  | [.str l] => .ok (.str l) G
  | us => strU1 us G
theorem oc_str2 : OC T W strU2 (fun xs H Q => (∃ a, xs = [.str a] ∧ Q (.str a) H) ∨ ∃ i, xs = [.int i] ∧ i.natAbs.log2 < 1920 ∧ Q (.str (toString i)) H) := by
  intro σ H s G ρ Z vs us Q sm r1 h
  unfold strU2 at h
  split at h
  · obtain ⟨v, rfl, rv⟩ := r1.inv1
    exact .inl ⟨_, by rw [rv.inv_str], h _ H ρ Z Ex.refl sm.rl (Rep.ss _)⟩
  · exact .inr (oc_str σ H s G ρ Z vs us Q sm r1 h)
/-- the functions -/
def bltF (x : Str) : Option RunD :=
  if x == ("len" : Str) then some lenU else if x == ("abs" : Str) then some absU else if x == ("all" : Str) then some allU else if x == ("any" : Str) then some anyU else if x == ("max" : Str) then some maxU else if x == ("min" : Str) then some minU
  else if x == ("sum" : Str) then some sumU else none
/-- the types, and sorted -/
def bltT (mu : Bool) (x : Str) : Option RunD :=
  if x == ("int" : Str) then some intU1 else if x == ("str" : Str) then some strU2 else if x == ("list" : Str) then some (listU mu) else if x == ("tuple" : Str) then some tupleU else if x == ("sorted" : Str) then some (sortedU mu) else none
theorem fe_bltF {g : RunD} (h : bltF x = some g) (hT : X.K = T.K) (hc : X.calm = true) (hg : Gl X x) (hm : X.mg x = none) (ha : PA X (e :: es) (tA T W mas)) (hst : (e :: es).all noStar = true) : PE X (.Call (.Name x p) (e :: es) [] pos) (tE T W (preM g mas)) := by
  unfold bltF at h
  split at h
  · rename_i hx; cases h; rw [beq_iff_eq] at hx; subst hx
    exact fe_callB call_len (oc_len hT) hg hm (by decide +kernel) ha (by decide) (by decide) hst
  · split at h
    · rename_i hx; cases h; rw [beq_iff_eq] at hx; subst hx
      exact fe_callB call_abs oc_abs hg hm (by decide +kernel) ha (by decide) (by decide) hst
    · split at h
      · rename_i hx; cases h; rw [beq_iff_eq] at hx; subst hx
        exact fe_callB (cr_all hc) (oc_all hT) hg hm (by decide +kernel) ha (by decide) (by decide) hst
      · split at h
        · rename_i hx; cases h; rw [beq_iff_eq] at hx; subst hx
          exact fe_callB (cr_any hc) (oc_any hT) hg hm (by decide +kernel) ha (by decide) (by decide) hst
        · split at h
          · rename_i hx; cases h; rw [beq_iff_eq] at hx; subst hx
            exact fe_callB (cr_maxA hc) (oc_max hT) hg hm (by decide +kernel) ha (by decide) (by decide) hst
          · split at h
            · rename_i hx; cases h; rw [beq_iff_eq] at hx; subst hx
              exact fe_callB (cr_minA hc) (oc_min hT) hg hm (by decide +kernel) ha (by decide) (by decide) hst
            · split at h
              · rename_i hx; cases h; rw [beq_iff_eq] at hx; subst hx
                exact fe_callB (cr_sum hc) (oc_sum hT) hg hm (by decide +kernel) ha (by decide) (by decide) hst
              · cases h
theorem fe_bltT {mu : Bool} {g : RunD} (h : bltT mu x = some g) (hT : X.K = T.K) (hc : X.calm = true) (hg : Gl X x) (hm : X.mg x = none) (ha : PA X (e :: es) (tA T W mas)) (hst : (e :: es).all noStar = true) : PE X (.Call (.Name x p) (e :: es) [] pos) (tE T W (preM g mas)) := by
  unfold bltT at h
  split at h
  · rename_i hx; cases h; rw [beq_iff_eq] at hx; subst hx
    exact fe_callTy cr_int oc_int hg hm (by decide +kernel) ha (by decide) (by decide) hst
  · split at h
    · rename_i hx; cases h; rw [beq_iff_eq] at hx; subst hx
      exact fe_callTy (CallR.or SkE.call_str_str call_str_int) oc_str2 hg hm (by decide +kernel) ha (by decide) (by decide) hst
    · split at h
      · rename_i hx; cases h; rw [beq_iff_eq] at hx; subst hx
        exact fe_callTy call_list_of (oc_list hT) hg hm (by decide +kernel) ha (by decide) (by decide) hst
      · split at h
        · rename_i hx; cases h; rw [beq_iff_eq] at hx; subst hx
          exact fe_callTy call_tuple_of (oc_tuple hT) hg hm (by decide +kernel) ha (by decide) (by decide) hst
        · split at h
          · rename_i hx; cases h; rw [beq_iff_eq] at hx; subst hx
            exact fe_callB cr_sorted (oc_sorted hT) hg hm (by decide +kernel) ha (by decide) (by decide) hst
          · cases h
end
def okN (x : Str) : Bool := !(x == ("__debug__" : Str)) && !(x == ("__classdict__" : Str))
theorem okN_d {x : Str} (h : okN x = true) : (x == ("__debug__" : Str)) = false := by
  unfold okN at h
  rw [Bool.and_eq_true] at h
  simpa using h.1
theorem okN_c {x : Str} (h : okN x = true) : (x == ("__classdict__" : Str)) = false := by
  unfold okN at h
  rw [Bool.and_eq_true] at h
  simpa using h.2
@[simp] theorem bind_ok {α β : Type} (a : α) (G : List Ob) (f : α → List Ob → Rs β) : (Rs.ok a G).bind f = f a G := rfl
@[simp] theorem bind_bad {α β : Type} (f : α → List Ob → Rs β) : (Rs.bad : Rs α).bind f = .bad := rfl
@[simp] theorem bind_exc {α β : Type} (x : Exn) (G : List Ob) (f : α → List Ob → Rs β) : (Rs.exc x G : Rs α).bind f = .exc x G := rfl
end FL

/-! FL23: try with several clauses, each with a name or without. -/
namespace FL
open PySem L2 PyProof.Rows
/-- a clause: its class, its name's slot, its suite -/
structure Hd where
  c : Value
  i : Option Nat
  ts : Addr → Value → Option Addr → TS
def offD (i : Nat) (D : Ends) : Ends := { nx := fun τ G => D.nx (τ.set i none) G, rt := D.rt, bk := fun τ G => D.bk (τ.set i none) G, ct := fun τ G => D.ct (τ.set i none) G }
def runHd (h : Hd) (a : Addr) (cls : Value) (d : Option Addr) (D : Ends) (σ : L2.St) (H : Hp) : Prop := match h.i with
  | none => h.ts a cls d D σ H
  | some i => h.ts a cls d (offD i D) (σ.set i (some (.ref a))) H
def wAll (K : PySem.W.Frag) (Wo : WX) (D : Ends) : List Hd → WX
  | [] => Wo
  | h :: r => fun cls d σ H => ∃ b, PySem.W.exmOne K cls h.c = some b ∧ (b = true → ∀ a, H a = none → runHd h a cls d D σ H) ∧ (b = false → wAll K Wo D r cls d σ H)
abbrev SuiteOk (X : Cx) (ss : List Stmt) (ts : Addr → Value → Option Addr → TS) : Prop :=
  ∀ (a : Addr) (oe : Obj) (cls : Value) (d : Option Addr) (pn : List (Addr × Obj)), Zc cls d oe → (∃ vs, oe.data = .fields vs) → PSs (X.suite a ((a, oe) :: pn)) ss (ts a cls d)
inductive HAll (X : Cx) : List ExceptHandler → List Hd → Prop
  | nil : HAll X [] []
  | no {x : Str} {c : Value} {ts : Addr → Value → Option Addr → TS} {s0 : Stmt} {ss : List Stmt} {p q : Pos} {es : List ExceptHandler} {l : List Hd} : Names X x c → SuiteOk X (s0 :: ss) ts → HAll X es l →
      HAll X (.ExceptHandler (some (.Name x p)) none (s0 :: ss) q :: es) (⟨c, none, ts⟩ :: l)
  | as {x n : Str} {i : Nat} {c : Value} {ts : Addr → Value → Option Addr → TS} {s0 : Stmt} {ss : List Stmt} {p q : Pos} {es : List ExceptHandler} {l : List Hd} : Names X x c → X.N[i]? = some n → X.env.kindOf n = some .local → SuiteOk X (s0 :: ss) ts → HAll X es l →
      HAll X (.ExceptHandler (some (.Name x p)) (some n) (s0 :: ss) q :: es) (⟨c, some i, ts⟩ :: l)
section
variable {X : Cx} {pins : List (Addr × Obj)} {σ τ : L2.St} {H : Hp} {D : Ends}
/-- the suite is done, its name (if any) has gone -/
theorem suite_end {f : Flow} {a : Addr} {q : Addr × Obj} {s : Shared} (ok : X.Ok) (h : SP (X.suite a (q :: (X.pn ++ pins))) [] D f s) : SP X pins D f s := by
  cases f with
  | next => exact h.imp fun _ ⟨G, J, r⟩ => ⟨G, J.unsuite ok, r⟩
  | brk => exact h.imp fun _ ⟨G, J, r⟩ => ⟨G, J.unsuite ok, r⟩
  | cont => exact h.imp fun _ ⟨G, J, r⟩ => ⟨G, J.unsuite ok, r⟩
  | ret u => exact h.imp fun _ ⟨σ', G, J, r⟩ => ⟨σ', G, J.unsuite ok, r⟩
theorem suite_gone {f : Flow} {a : Addr} {q : Addr × Obj} {s : Shared} {M : Model} {A : Around} {E : Value → Shared → Prop} {i : Nat} {n : Str} {pos : Pos} (ok : X.Ok) (hN : X.N.Nodup) (hi : X.N[i]? = some n) (hl : X.env.kindOf n = some .local)
    (h : SP (X.suite a (q :: (X.pn ++ pins))) [] (offD i D) f s) : wpAny M A (do bindName X.env n .none; unbindBehindTheSuite X.env n pos) (fun _ s2 => SP X pins D f s2) E s := by
  cases f with
  | next =>
    obtain ⟨σ', G, J, r⟩ := h
    exact gone_ok (J.unsuite ok) hN hi hl fun _ J2 => ⟨_, _, J2, r⟩
  | brk =>
    obtain ⟨σ', G, J, r⟩ := h
    exact gone_ok (J.unsuite ok) hN hi hl fun _ J2 => ⟨_, _, J2, r⟩
  | cont =>
    obtain ⟨σ', G, J, r⟩ := h
    exact gone_ok (J.unsuite ok) hN hi hl fun _ J2 => ⟨_, _, J2, r⟩
  | ret u =>
    obtain ⟨v, σ', G, J, r1, r⟩ := h
    exact gone_ok (J.unsuite ok) hN hi hl fun _ J2 => ⟨_, _, _, J2, r1, r⟩
theorem try_end {f : Flow} {s : Shared} {xe : Value → Shared → Prop} (ok : X.Ok) (h : SP (X.tr (X.pn ++ pins) xe) [] D f s) : SP X pins D f s := by
  cases f with
  | next => exact h.imp fun _ ⟨G, J, r⟩ => ⟨G, J.ofTry ok, r⟩
  | brk => exact h.imp fun _ ⟨G, J, r⟩ => ⟨G, J.ofTry ok, r⟩
  | cont => exact h.imp fun _ ⟨G, J, r⟩ => ⟨G, J.ofTry ok, r⟩
  | ret u => exact h.imp fun _ ⟨σ', G, J, r⟩ => ⟨σ', G, J.ofTry ok, r⟩
variable {body : List Stmt} {e0 : ExceptHandler} {es : List ExceptHandler} {l : List Hd} {pos : Pos} {tb : WX → TS} {Wo : WX}
theorem ps_try_all (hs : X.stack = X.env :: X.outer) (hf : X.env.frame = some X.env.locals) (hN : X.N.Nodup) (tk : Takes X Wo)
    (hb : ∀ (W : WX) (pn : List (Addr × Obj)) (xe : Value → Shared → Prop), Takes (X.tr pn xe) W → PassesOwn (model X.prog X.w) X.A X.env xe → PSs (X.tr pn xe) body (tb W)) (hh : HAll X (e0 :: es) l) :
    PS X (.Try body (e0 :: es) [] [] pos) (fun D σ H => tb (wAll X.K Wo D l) D σ H) := by
  refine ⟨fun pins s σ H D I h => wpAny_Try_except ?_⟩
  have ok := I.ok
  have fr : X.A.frames = some (X.env :: X.outer) := hs ▸ ok.frames
  have run := (hb (wAll X.K Wo D l) (X.pn ++ pins) (fun e s1 => wpAny (model X.prog X.w) X.A (noteFrame e X.env) (fun _ s2 => wpAny (model X.prog X.w) X.A (setFlight e none) (fun _ s3 => wpAny (model X.prog X.w) X.A (handleBy e X.env (e0 :: es)) (SP X pins D) X.xe s3) X.xe s2) X.xe s1)
    (fun u s1 xx => ?_) PassesOwn.looking).run [] s σ H D (I.toTry _) h
  · refine wpAny_mono run (fun f s1 q => ?_) fun _ _ z => z
    have q2 := try_end ok q
    cases f with
    | next => exact wpAny_execs_nil q2
    | brk => exact q2
    | cont => exact q2
    | ret u => exact q2
  · -- caught
    obtain ⟨a, B, sI, pins1, σ1, H1, cls, d, rfl, J0, nb, up, sky, na, os, ag, w⟩ := xx
    have J := J0.ofTry (pins := pins) ok
    refine Sky.land Zc.steady fr hf (hs ▸ sky) fun g3 fl3 up3 => ?_
    have up' := up.trans up3
    have J3 : Inv X pins σ1 H1 { s1 with heap := g3 } := J.landed nb fl3.1 up' os ag
    have K3 := J3.kIn
    have apart : ∀ {g : Heap} {o : Obj} {vs : Array Value}, g.FunFrames B (X.env :: X.outer) → g.get? a = some o → o.data = .fields vs → a ≠ X.env.locals ∧ a ∉ X.fs := fun {g o vs} ff e dd => by
      have no : a ∉ frs (X.env :: X.outer) := fun hm => by
        obtain ⟨_, o2, e2, bad⟩ := ff.mem hm
        cases e.symm.trans e2
        exact bad _ dd
      refine ⟨fun z => no (List.mem_filterMap.mpr ⟨X.env, .head _, by rw [hf, z]⟩), fun hm => ?_⟩
      obtain ⟨v, hv, q⟩ := List.mem_filterMap.mp hm
      exact no (List.mem_filterMap.mpr ⟨v, .tail _ hv, q⟩)
    have go : ∀ {es1 : List ExceptHandler} {l1 : List Hd}, HAll X es1 l1 → wAll X.K Wo D l1 cls d σ1 H1 → wpAny (model X.prog X.w) X.A (handleBy (.ref a) X.env es1) (SP X pins D) X.xe { s1 with heap := g3 } := by
      intro es1 l1 hk
      induction hk with
      | nil =>
        intro w
        obtain ⟨k1, k2, k3, oe, vs, T, oT, ts', he, hz, hd, h1, hr⟩ := id fl3
        refine wpAny_handleBy_nil ?_
        unfold PySem.passOn
        refine wpAny_bind (wpAny_field he hd h1 ?_)
        rw [if_neg (show ¬ (Value.ref T == Value.none) = true by simp)]
        have out : wpAny (model X.prog X.w) X.A (setFlight (.ref a) X.env.frame) (fun _ s4 => wpAny (model X.prog X.w) X.A (throw (.ref a) : Sem Flow) (SP X pins D) X.xe s4) X.xe { s1 with heap := g3 } := by
          rw [hf]
          exact HandSPX.setFlight_upZ fl3 fun g4 hh4 up4 => wpAny_throw (tk _ _ ⟨a, B, sI, pins, σ1, H1, cls, d, rfl, J, nb, up'.trans up4, .inr (.inr (hs ▸ hh4)), na, os, ag, w⟩)
        first
          | exact wpAny_bind (wpAny_pure (wpAny_bind out))
          | exact wpAny_bind out
      | @no x c ts s0 ss p q es2 l2 hc hsu r ih =>
        rintro ⟨b, e1, yes, no⟩
        obtain ⟨oe3, vs3, he3, hz3, hd3⟩ := fl3.there
        obtain ⟨nL, nF⟩ := apart fl3.2.2.1 he3 hd3
        have S3 := J3.suite he3 hd3 na nL nF
        refine wpAny_handleBy_cons (codeAny_handlers_test ?_) (by intro z; cases z)
        have LM := PySem.W.exm_one (M := model X.prog X.w) K3 (fun A Q E s k y => wpAny_typeOf_ref (k _ _ he3) (by rw [hz3.1]; exact y)) e1
        have test : ∀ {Q E : Value → Shared → Prop}, Q c { s1 with heap := g3 } → wpAny (model X.prog X.w) (X.A.mark (some (.ref a))) (eval (.Name x p) X.env) Q E { s1 with heap := g3 } := fun {Q E} y => by
          obtain ⟨hg, hdb, hm | ⟨hm, hv, hnn⟩⟩ := hc
          · exact ld_glob (X := X.suite a ((a, oe3) :: (X.pn ++ pins))) S3 hg hm y hdb
          · exact ld_blt (X := X.suite a ((a, oe3) :: (X.pn ++ pins))) S3 hg hm hv y hnn hdb
        refine test (LM.here ?_)
        cases b with
        | false => exact ih (no rfl)
        | true =>
          refine codeAny_handlers_suite (HandSPX.lands_againZ fl3 fun g4 fl4 up4 => ?_)
          obtain ⟨oe4, vs4, he4, hz4, hd4⟩ := fl4.there
          have J4 : Inv X pins σ1 H1 { s1 with heap := g4 } := J.landed nb fl4.1 (up'.trans up4) os ag
          have S4 := J4.suite he4 hd4 na nL nF
          exact wpAny_mono ((hsu a oe4 cls d (X.pn ++ pins) hz4 ⟨_, hd4⟩).run [] _ _ H1 _ S4 (yes rfl a na)) (fun f s6 y => suite_end ok y) fun _ _ z => z.elim
      | @as x n i c ts s0 ss p q es2 l2 hc hi hln hsu r ih =>
        rintro ⟨b, e1, yes, no⟩
        obtain ⟨oe3, vs3, he3, hz3, hd3⟩ := fl3.there
        obtain ⟨nL, nF⟩ := apart fl3.2.2.1 he3 hd3
        have S3 := J3.suite he3 hd3 na nL nF
        refine wpAny_handleBy_cons (codeAny_handlers_test ?_) (by intro z; cases z)
        have LM := PySem.W.exm_one (M := model X.prog X.w) K3 (fun A Q E s k y => wpAny_typeOf_ref (k _ _ he3) (by rw [hz3.1]; exact y)) e1
        have test : ∀ {Q E : Value → Shared → Prop}, Q c { s1 with heap := g3 } → wpAny (model X.prog X.w) (X.A.mark (some (.ref a))) (eval (.Name x p) X.env) Q E { s1 with heap := g3 } := fun {Q E} y => by
          obtain ⟨hg, hdb, hm | ⟨hm, hv, hnn⟩⟩ := hc
          · exact ld_glob (X := X.suite a ((a, oe3) :: (X.pn ++ pins))) S3 hg hm y hdb
          · exact ld_blt (X := X.suite a ((a, oe3) :: (X.pn ++ pins))) S3 hg hm hv y hnn hdb
        refine test (LM.here ?_)
        cases b with
        | false => exact ih (no rfl)
        | true =>
          refine codeAny_handlers_suite_as (HandSPX.lands_againZ fl3 fun g4 fl4 up4 => ?_)
          obtain ⟨oe4, vs4, he4, hz4, hd4⟩ := fl4.there
          have J4 : Inv X pins σ1 H1 { s1 with heap := g4 } := J.landed nb fl4.1 (up'.trans up4) os ag
          have S4 := J4.suite he4 hd4 na nL nF
          refine store_ok (X := X.suite a ((a, oe4) :: (X.pn ++ pins))) (v := .ref a) S4 hN hi (.inl hln) rfl (fun s5 S5 => ?_) (.inr hln)
          refine wpAny_mono ((hsu a oe4 cls d (X.pn ++ pins) hz4 ⟨_, hd4⟩).run [] s5 _ H1 _ S5 (yes rfl a na)) (fun f s6 y => ?_) fun _ _ z => z.elim
          exact suite_gone ok hN hi hln y
    exact go hh w
end
end FL

/-! FL24: raise; try, at the level of plain functions. -/
namespace FL
open PySem L2 PyProof.Rows
/-- an exception class's own __init__: it stores one field -/
def spXI (C : Addr) (f : Str) : Sp := fun vs H Q _ => ∃ (a : Addr) (y : V), vs = [.ref a, y] ∧ H a = some (exo a C none) ∧ ∀ dx, H dx = none → dx ≠ a → Q .non (upd (upd H dx (exd dx [(f, y)])) a (exo a C (some dx)))
structure XInit (P : Program) (w : World) (K : PySem.W.Frag) (mg : Str → Option Value) (base : Heap) (T : Tb) (k : Nat) (c : Nat) (x : Str) (kf : Nat) : Prop where
  cl : ∃ C fI fd ps f, T.cls[c]? = some C ∧ mg x = some (.ref C) ∧ OexC K C ∧ PySem.W.findIn K (.ref C) "__init__" = some (some (.ref fI)) ∧ PySem.W.typeIn K (.ref fI) = some (.type "function") ∧ Binds K fd ps [] ∧ T.att[kf]? = some f ∧ FnOk P w K mg base (L2.CX P w) k fI fd ps (spXI C f)
structure XPlain (K : PySem.W.Frag) (mg : Str → Option Value) (T : Tb) (c : Nat) (x : Str) : Prop where
  cl : ∃ C bmB newId initId, T.cls[c]? = some C ∧ mg x = some (.ref C) ∧ ExcBaseFacts "ValueError" newId initId bmB ∧ PySem.W.excIn K C bmB newId = true ∧ PySem.W.keepIn K (.ref C) = true ∧ PySem.W.subIn K (.ref C) (.type "BaseException") = some true ∧ PySem.W.typeIn K (.ref C) = some (.type "type")
section
variable {P : Program} {w : World} {K : PySem.W.Frag} {mg : Str → Option Value} {base : Heap}
theorem xinit_ok {x qual : Str} {st : Stmt} {f C : Addr} {fd : FuncData} {sN vN fn : Str} {p1 p2 p3 p4 : Pos} (F : Fun K x qual st f fd) (S : FnScope [sN, vN] [sN, vN] (defScope st)) (hb : defBody st = [.Assign [.Attribute (.Name sN p1) fn p2] (.Name vN p3) p4])
    (T : OexC K C) (hn : PySem.W.findIn K (.ref C) fn = some none) (h1 : okN sN = true) (h2 : okN vN = true) : FnOk P w K mg base (L2.CX P w) 1 f fd [sN, vN] (spXI C fn) := by
  refine F.okX S (fun vs H Q E ⟨a, y, e, _⟩ => by rw [e]; rfl) fun cdv A outer s H vs Q E hr ⟨a, y, e, ha, q⟩ => ?_
  subst e
  rw [hb]
  have par : ∀ z ∈ [sN, vN], Vis (defScope st) z := fun z hz => (S.par z hz).imp id .inl
  refine ⟨_, pss_one (ps_ost (pe_var (i := 0) rfl (par sN (.head _)) (okN_d h1) (okN_c h1)) (pe_var (i := 1) rfl (par vN (.tail _ (.head _))) (okN_d h2) (okN_c h2)) (swaps_other rfl)), ?_⟩
  refine ⟨y, rfl, .ref a, rfl, a, C, rfl, T, hn, .inl ⟨ha, fun dx h3 h4 => q dx h3 h4⟩⟩
end
section
variable {X : Cx} {T : Tb} {W : WX} {k c kf : Nat} {x : Str} {p pos pos' : Pos} {e : Expr} {me : ME}
/-- a flat value needs no heap -/
theorem rep_flat {ρ ρ' : List Addr} {Z Z' : Addr → Prop} {H H' : Hp} {v : V} {u : U} (r : Rep T ρ Z H v u) (f : flatU u = true) : Rep T ρ' Z' H' v u := by
  cases r with
  | non => exact .non
  | bl b => exact .bl b
  | int i => exact .int i
  | str y => exact .str y
  | _ => simp [flatU] at f
def raiseM (c kf : Nat) : U → MS := fun u s G => if flatU u then .exc ⟨c, [(kf, u)]⟩ s G else .bad
theorem ost_heap {H : Hp} {a C dx : Addr} {fs : List (Str × V)} (ha : H a = none) (hd : dx ≠ a) : upd (del (upd (upd (upd H a (exo a C none)) dx (exd dx fs)) a (exo a C (some dx))) a) dx (.xd fs) = upd H dx (.xd fs) := by
  funext b
  by_cases h1 : b = dx
  · subst h1; rw [upd_same, upd_same]
  · rw [upd_ne h1, upd_ne h1]
    by_cases h2 : b = a
    · subst h2; rw [del_same, ha]
    · rw [del_ne h2, upd_ne h2, upd_ne h1, upd_ne h2]
theorem fs_raiseI (hc : X.calm = true) (tk : Takes X W) (M : XInit X.prog X.w X.K X.mg X.base T k c x kf) (hr : Room (k + 1) X.A) (hg : Gl X x) (he : PE X e (tE T W me)) (hdb : (x == ("__debug__" : Str)) = false) (h1 : noStar e = true) :
    PS X (.Raise (some (.Call (.Name x p) [e] [] pos)) none pos') (tS T W (stE me (raiseM c kf))) := by
  obtain ⟨C, fI, fd, ps, f, g1, g2, g3, g4, g5, g6, g7, g8⟩ := M.cl
  have ha : PA X [e] (tA T W (consA me nilA)) := fa_cons he fa_nil (star_cons h1)
  refine PS.imp (ps_raise hc tk (pmk_oex (sp := spXI C f) g3 g4 g5 g8 hr g6 .nil passL hg g2 ha hdb (star_cons h1) rfl)) fun D σ H ⟨s, G, ρ, Z, sm, q⟩ => ?_
  unfold stE at q
  show tA T W (consA me nilA) σ H fun vs H1 => vs.length ≤ 1000 ∧ ∀ a, H1 a = none → spXI C f (.ref a :: (vs ++ [])) (upd H1 a (exo a C none)) _ _
  refine ⟨s, G, ρ, Z, sm, ?_⟩
  unfold consA nilA
  cases e1 : me s G with
  | bad => rw [e1] at q; exact q.elim
  | exc y G1 =>
    rw [e1] at q
    exact fun cls d H' ρ' Z' x1 rl a => q cls d σ H' ρ' Z' x1 (sm.ex x1 rl) a
  | ok u G1 =>
    rw [e1] at q
    simp only [bind_ok]
    intro vs H1 ρ1 Z1 x1 rl1 r1
    obtain ⟨y, rfl, ry⟩ := r1.inv1
    have q1 := RS.ex (σ' := σ) q x1
    unfold raiseM at q1
    simp only at q1
    by_cases hf : flatU u = true
    · rw [if_pos hf] at q1
      refine ⟨by show 1 ≤ 1000; decide, fun a na => ⟨a, y, rfl, upd_same, fun dx h3 h4 => ⟨rfl, dx, [(f, y)], upd_same, ?_, ?_, ?_⟩⟩⟩
      · rw [upd_ne h4, upd_same]
      · rw [upd_ne h4] at h3; exact h3
      · have hd : H1 dx = none := by rw [upd_ne h4] at h3; exact h3
        rw [ost_heap na h4]
        refine q1 _ _ σ _ ρ1 Z1 (ex_new hd) ⟨rl1.new hd, (sm.fm.ex sm.rl.zm x1).ex rl1.zm (ex_new hd)⟩ ⟨C, g1, rfl, .inr ⟨dx, [(f, y)], rfl, upd_same, .cons g7 (rep_flat ry hf) .nil⟩⟩
    · rw [if_neg hf] at q1
      exact q1.elim
theorem pmk_zero {C : Addr} {bmB : List Value} {newId initId : String} (F : ExcBaseFacts "ValueError" newId initId bmB) (q : PySem.W.excIn X.K C bmB newId = true) (gC : X.mg x = some (.ref C)) (kC : PySem.W.keepIn X.K (.ref C) = true) (r : Raises X (.ref C)) (hg : Gl X x) (hdb : (x == ("__debug__" : Str)) = false) :
    PMk X (.Call (.Name x p) [] [] pos) (fun _ H Q => Q (.ref C) none H) := by
  intro pins s σ H Q I h
  refine wpAny_Call_Name_kw (ld_glob I hg gC ?_ hdb)
  refine PySem.W.callWith_K0 I.kIn kC ?_
  obtain ⟨bm, N, nm, qn, bs, hdct, sn, sub, ab, col, dd, k0, k1, k2, k3, k5, mN, hC, hN, hni, T⟩ := exc_obj I.kIn q
  exact wpAny_call_exc_subT F T hC hN hni (fun h' e hm => mk_of I hm r h (I.hok.gone hm.new)) (Nat.zero_le _)
theorem fs_raise0 (hc : X.calm = true) (tk : Takes X W) (M : XPlain X.K X.mg T c x) (hg : Gl X x) (hdb : (x == ("__debug__" : Str)) = false) :
    PS X (.Raise (some (.Call (.Name x p) [] [] pos)) none pos') (tS T W fun s G => .exc ⟨c, []⟩ s G) := by
  obtain ⟨C, bmB, newId, initId, g1, g2, g3, g4, g5, g6, g7⟩ := M.cl
  exact PS.imp (ps_raise hc tk (pmk_zero g3 g4 g2 g5 (raises_own g6 g7) hg hdb)) fun D σ H ⟨s, G, ρ, Z, sm, q⟩ => q _ _ σ H ρ Z Ex.refl sm ⟨C, g1, rfl, .inl ⟨rfl, rfl⟩⟩

/-! ### try -/
/-- a clause: the class, the name's slot, the suite -/
structure HM where
  c : Nat
  i : Option Nat
  m : Exn → MS
def offR (i : Nat) : Rt → Rt
  | .nx s G => .nx (s.set i none) G
  | .bk s G => .bk (s.set i none) G
  | .ct s G => .ct (s.set i none) G
  | r => r
def quiet : Rt → Rt
  | .exc _ _ _ => .bad
  | r => r
def hdM (xs : List ((Nat × Nat) × Bool)) : List HM → Exn → MS
  | [] => fun x s G => .exc x s G
  | h :: r => fun x s G => match xs.lookup (x.cls, h.c) with
    | some true => (match h.i with
      | none => quiet (h.m x s G)
      | some i => if i < s.length then offR i (quiet (h.m x (s.set i none) G)) else .bad)
    | some false => hdM xs r x s G
    | none => .bad
def tryM (xs : List ((Nat × Nat) × Bool)) (mb : MS) (hs : List HM) : MS := fun s G => match mb s G with
  | .exc x s1 G1 => hdM xs hs x s1 G1
  | r => r
/-- a suite does what m says of the exception held -/
def tX (T : Tb) (i : Option Nat) (m : Exn → MS) (a : Addr) (cls : Value) (d : Option Addr) : TS := fun D σ H => ∃ s G ρ Z x, Sm T σ H s G ρ Z ∧ ExAt T x cls d H ∧ H a = none ∧ (∀ j, i = some j → σ[j]? = some (some (.ref a))) ∧ RS T WF σ H ρ Z D (quiet (m x s G))
/-- the clauses, at both levels -/
inductive HRel (T : Tb) : List HM → List Hd → Prop
  | nil : HRel T [] []
  | cons {h : HM} {C : Addr} {hs : List HM} {l : List Hd} : T.cls[h.c]? = some C → HRel T hs l → HRel T (h :: hs) (⟨.ref C, h.i, tX T h.i h.m⟩ :: l)
def XsOk (K : PySem.W.Frag) (T : Tb) (xs : List ((Nat × Nat) × Bool)) : Prop := ∀ c c' b C C', xs.lookup (c, c') = some b → T.cls[c]? = some C → T.cls[c']? = some C' → PySem.W.exmOne K (.ref C) (.ref C') = some b
theorem Fm.off {ρ : List Addr} {Z : Addr → Prop} {H : Hp} {σ : L2.St} {s : Sg} {o : Option V} (f : Fm T ρ Z H σ s) (i : Nat) : Fm T ρ Z H (σ.set i o) (s.set i none) :=
  ⟨by rw [List.length_set, List.length_set, f.1], fun j u e => by
    by_cases h : i = j
    · subst h
      rw [List.getElem?_set] at e
      simp at e
    · rw [List.getElem?_set_ne h] at e
      obtain ⟨v, e1, r⟩ := f.2 j u e
      exact ⟨v, by rw [List.getElem?_set_ne h]; exact e1, r⟩⟩
theorem RS_off {σ σ0 : L2.St} {H : Hp} {ρ : List Addr} {Z : Addr → Prop} {D : Ends} {i : Nat} {r : Rt} (h : RS T W σ H ρ Z D (offR i (quiet r))) : RS T WF σ0 H ρ Z (offD i D) (quiet r) := by
  cases r with
  | nx s G => exact fun σ' H' ρ' Z' x sm => h _ H' ρ' Z' x ⟨sm.rl, sm.fm.off i⟩
  | bk s G => exact fun σ' H' ρ' Z' x sm => h _ H' ρ' Z' x ⟨sm.rl, sm.fm.off i⟩
  | ct s G => exact fun σ' H' ρ' Z' x sm => h _ H' ρ' Z' x ⟨sm.rl, sm.fm.off i⟩
  | rt u G => exact h
  | exc x s G => exact h.elim
  | bad => exact h.elim
theorem RS_quiet {σ : L2.St} {H : Hp} {ρ : List Addr} {Z : Addr → Prop} {D : Ends} {r : Rt} (h : RS T W σ H ρ Z D (quiet r)) : RS T WF σ H ρ Z D (quiet r) := by
  cases r with
  | exc x s G => exact h.elim
  | _ => exact h
theorem hd_ok {K : PySem.W.Frag} {xs : List ((Nat × Nat) × Bool)} (hx : XsOk K T xs) {σ : L2.St} {H : Hp} {D : Ends} {x : Exn} {cls : Value} {d : Option Addr} {ρ : List Addr} {Z : Addr → Prop} {s : Sg} {G : List Ob} (sm : Sm T σ H s G ρ Z) (ax : ExAt T x cls d H) :
    ∀ {hs : List HM} {l : List Hd}, HRel T hs l → RS T W σ H ρ Z D (hdM xs hs x s G) → wAll K W D l cls d σ H := by
  intro hs l hr
  induction hr with
  | nil => exact fun q => q cls d σ H ρ Z Ex.refl sm ax
  | @cons h C hs l hC r ih =>
    intro q
    unfold hdM at q
    obtain ⟨C0, c1, c2, c3⟩ := id ax
    split at q
    · rename_i e
      refine ⟨true, by rw [c2]; exact hx _ _ _ _ _ e c1 hC, fun _ a na => ?_, fun z => by cases z⟩
      unfold runHd
      simp only
      cases hi : h.i with
      | none =>
        rw [hi] at q
        exact ⟨s, G, ρ, Z, x, sm, ax, na, (fun j z => nomatch z), RS_quiet q⟩
      | some i =>
        rw [hi] at q
        simp only at q
        by_cases hl : i < s.length
        · rw [if_pos hl] at q
          refine ⟨s.set i none, G, ρ, Z, x, ⟨sm.rl, sm.fm.off i⟩, ax, na, (fun j z => ?_), RS_off q⟩
          cases z
          rw [List.getElem?_set_self (by rw [sm.fm.1]; exact hl)]
        · rw [if_neg hl] at q
          exact q.elim
    · rename_i e
      exact ⟨false, by rw [c2]; exact hx _ _ _ _ _ e c1 hC, (fun z => by cases z), fun _ => ih q⟩
    · exact q.elim
theorem fs_try {xs : List ((Nat × Nat) × Bool)} {body : List Stmt} {e0 : ExceptHandler} {es : List ExceptHandler} {mb : MS} {hs : List HM} {l : List Hd} (hst : X.stack = X.env :: X.outer) (hf : X.env.frame = some X.env.locals) (hN : X.N.Nodup) (tk : Takes X W) (hx : XsOk X.K T xs)
    (hb : ∀ (W : WX) (pn : List (Addr × Obj)) (xe : Value → Shared → Prop), Takes (X.tr pn xe) W → PassesOwn (model X.prog X.w) X.A X.env xe → PSs (X.tr pn xe) body (tS T W mb)) (hh : HAll X (e0 :: es) l) (hr : HRel T hs l) :
    PS X (.Try body (e0 :: es) [] [] pos) (tS T W (tryM xs mb hs)) :=
  PS.imp (ps_try_all hst hf hN tk hb hh) fun D σ H ⟨s, G, ρ, Z, sm, q⟩ => by
    refine ⟨s, G, ρ, Z, sm, ?_⟩
    unfold tryM at q
    cases e : mb s G with
    | nx s1 G1 => rw [e] at q; exact q
    | rt u G1 => rw [e] at q; exact q
    | bk s1 G1 => rw [e] at q; exact q
    | ct s1 G1 => rw [e] at q; exact q
    | bad => rw [e] at q; exact q
    | exc x s1 G1 =>
      rw [e] at q
      exact fun cls d σ' H' ρ' Z' y sm' a => hd_ok hx sm' a hr (RS.ex q y)
end
end FL

/-! FL26: isinstance(e, C), e the exception that a suite holds, with its fields. -/
namespace PySem.W
section
variable {prog : Program} {w : World} {A : Around} {E : Value → Shared → Prop} {s : Shared} {K : Frag} {x D : Addr} {ox : Obj} {od : Option Obj}
theorem findObj_dataX {C : Addr} {name : Str} {a g : Value} (hc : (clsIn K C).isSome = true) (ha : findIn K (.ref C) name = some (some a)) (hg : specialIn K a "__get__" = some (some g)) (ht : takesIn K a = some true) : findObj K C od name = some (.bind g a) := by
  cases e : clsIn K C with
  | none => rw [e] at hc; cases hc
  | some cd =>
    unfold findObj
    rw [e, Option.bind_some, ha, Option.bind_some]
    simp [hg, ht]
/-- how a class that is an exception's, with instances' dicts, hands out __class__ -/
theorem classX {Q : Option Value → Shared → Prop} (c : L2.ExcC K D) (X : K.In s.heap) (I : InstAt s.heap x ox D od) (h : Q (some (.ref D)) { s with toks := s.toks + 1 }) : wpAny (model prog w) A (getAttr? (.ref x) "__class__") Q E s := by
  have isC : (clsIn K D).isSome = true := by
    obtain ⟨cd, e, _⟩ := any_some c.hd
    rw [e] <;> rfl
  have fo : findObj K D od "__class__" = some (.bind (.builtin "getset_descriptor.__get__") (.builtin "object.__class__")) := findObj_dataX isC c.ha c.hn c.ht
  obtain ⟨g0, gs, dr, tk, os⟩ := s
  have ty := I.type (M := model prog w)
  have ga := looks_findIn (M := model prog w) X c.hg
  have gt := looks_findIn (M := model prog w) X c.hk
  have fd := looks_find (M := model prog w) X I fo
  have be : Looks (model prog w) g0 (isInstance (.ref x) (.type "BaseException")) true := ty.andThen (looks_subIn X c.hs)
  have ne : (onTheHeap (Value.ref D) && Value.builtin "BaseException.__getattribute__" == Value.builtin "object.__getattribute__") = false := by
    have e : (Value.builtin "BaseException.__getattribute__" == Value.builtin "object.__getattribute__") = false := by decide +kernel
    rw [e, Bool.and_false]
  unfold getAttr? getAttrBy? getAttrBy
  refine wpAny_bind (wpAny_mkText (wpAny_bind (wpAny_attempt (wpAny_holding (wpAny_bind (ty.at (wpAny_bind (ga.at ?_))))))))
  change wpAny _ _ (if (onTheHeap (Value.ref D) && Value.builtin "BaseException.__getattribute__" == Value.builtin "object.__getattribute__") = true then _ else _) _ _ _
  rw [ne]
  rw [if_neg Bool.false_ne_true]
  unfold getAttrByItsOwn hookBefore
  refine wpAny_bind ?_
  rw [if_pos (show onTheHeap (Value.ref D) = true from rfl)]
  refine gt.at (wpAny_bind (wpAny_attempt (wpAny_holding ?_)))
  unfold callGetattribute
  rw [show (false && onTheHeap (Value.builtin "BaseException.__getattribute__")) = false from rfl]
  rw [if_neg Bool.false_ne_true]
  unfold boundAndCalled
  rw [PySem.F.excAttr_ValueError.ga.bind (.ref x)]
  refine wpAny_bind (wpAny_pure ?_)
  change wpAny _ _ (call (.builtin "BaseException.__getattribute__") [.ref x, .str "__class__" tk]) _ _ _
  refine wpAny_call (codeAny_call_builtin PySem.F.excAttr_ValueError.ga.plain PySem.F.entry_bexc_ga ?_)
  refine @check_slot _ _ _ ⟨g0, gs, dr, tk + 1, os⟩ "BaseException.__getattribute__" "BaseException" "__getattribute__" (.ref x) [.str "__class__" tk] [] _ (by decide +kernel) (by decide +kernel) be (PySem.F.args_bexc_ga (.ref x) (.str "__class__" tk)) ?_
  unfold Builtin.«object.__getattribute__»
  refine wpAny_bind (wpAny_of_eq (a := ((Value.ref x : Value), [Value.str "__class__" tk])) (by first | rfl | (simp only [slotArgs]; rfl)) (wpAny_bind (wpAny_pure (wpAny_bind (ty.at (wpAny_bind (fd.at ?_)))))))
  change wpAny _ _ (holding [Value.builtin "object.__class__"] (call (.builtin "getset_descriptor.__get__") [.builtin "object.__class__", .ref x, .ref D]) >>= ret) _ _ _
  refine wpAny_bind (wpAny_holding (wpAny_call (class_get (s := ⟨g0, gs, dr, tk + 1, os⟩) (ox := ox) (od := od) X I c.hm (wpAny_pure ?_))))
  change wpAny _ _ (handedOut (.ref D)) _ _ _
  rw [handedOut_of (v := .ref D) rfl]
  first
    | exact wpAny_pure (wpAny_pure h)
    | exact wpAny_pure h
    | exact wpAny_pure (wpAny_bind (wpAny_pure (wpAny_pure h)))
theorem kitxX (c : L2.ExcC K D) : KitX K (.ref x) (.ref D) (fun h => InstAt h x ox D od) where
  ty := fun _ _ _ I => I.type
  it := fun _ _ X _ => by
    obtain ⟨cd, e, _⟩ := any_some c.hd
    unfold clsIn at e
    split at e
    · rename_i ho
      exact fun A Q E s k q => by
        unfold isType loadHead
        exact wpAny_bind (wpAny_loadPart (k _ _ (X _ _ ho)) (wpAny_pure q))
    · cases e
  ne := fun h tp dd its n sl X htp => by
    obtain ⟨cd, e, _⟩ := any_some c.hd
    refine Bool.eq_false_iff.mpr fun q => ?_
    cases (Value.ref.inj (beq_iff_eq.mp q) : D = tp)
    unfold clsIn at e
    split at e
    · rename_i ho
      cases (X _ _ ho).symm.trans htp
    · cases e
  ca := fun X I k => classX c X I k
end
end PySem.W
namespace FL
open PySem L2 PyProof.Rows
/-- isinstance(e, c), e the exception held, its class D, its fields at d -/
def rIsX (K : PySem.W.Frag) (D a d : Addr) : List V → Hp → VK → Prop := fun xs H Q => ∃ (C : Addr) (b : Bool) (fv : List (Str × V)), xs = [.ref a, .ref C] ∧ H d = some (.xd fv) ∧ PySem.W.kitOne K (.ref D) (.ref C) = some b ∧ Q (.bl b) H
theorem call_isX {X : Cx} {a D d : Addr} {oe : Obj} {pn : List (Addr × Obj)} (c : ExcC X.K D) (hz : Zc (.ref D) (some d) oe) (hf : ∃ vs, oe.data = .fields vs) : CallR (X.suite a ((a, oe) :: pn)) (.builtin "isinstance") (rIsX X.K D a d) := by
  intro pins s σ H xs us Q I r ⟨C, b, fv, ex, hd, e, q⟩
  subst ex
  cases r with
  | cons r1 r2 =>
    cases r2 with
    | cons r2 r3 =>
      cases r3
      cases r1
      cases r2
      obtain ⟨hget, _⟩ := I.pin (a, oe) (List.mem_append.mpr (.inl List.mem_cons_self))
      obtain ⟨vs, hv⟩ := hf
      have ok : ObjOk X.prog X.w H s.heap d (.xd fv) := I.hok d _ hd
      obtain ⟨mA, hns, _⟩ := ok
      obtain ⟨od, ho, _⟩ := lookIn_ns hns
      have J : PySem.W.InstAt s.heap a oe D (some od) := ⟨hget, hz.1, by unfold PySem.W.notCls; rw [hv] <;> rfl, by rw [hz.2]; exact ho⟩
      exact PySem.W.kia_one (PySem.W.kitxX c) I.kIn J e (fun z => nomatch z) fun tk => ⟨.bl b, H, I.tok tk, rfl, q⟩
end FL

/-! FL16: the translation of expressions, by the syntax; it is sound. -/
namespace FL
open PySem L2 PyProof.Rows
/-- what a name of the module is -/
inductive GV where
  | fn (n : Nat) (r : RunD)
  | con (u : U)
  | mk (c n : Nat) (r : RunD)
  | mkK (c n : Nat) (ks : List Str) (r : RunD)
/-- the table of a body -/
structure Dn where
  N : List Str
  gl : List (Str × GV) := []
  bl : List Str := []
  ty : List (Str × Nat) := []
  cls : List Nat := []
  att : List (Str × (Nat × List Nat × List (Nat × RunD))) := []
  mth : List (Str × (Nat × List (Nat × (Nat × RunD)))) := []
  eqt : List (Nat × RunD) := []
  mu : List Str := []
  rmu : Bool := false
  /-- exception classes: the class, the field of an own __init__ -/
  xc : List (Str × (Nat × Option Nat)) := []
  /-- whether one exception class is below another -/
  xs : List ((Nat × Nat) × Bool) := []
  /-- .. asked by isinstance -/
  xi : List ((Nat × Nat) × Bool) := []
def GvOk (P : Program) (w : World) (K : PySem.W.Frag) (mg : Str → Option Value) (base : Heap) (T : Tb) (k : Nat) (x : Str) : GV → Prop
  | .fn n r => ∃ f, mg x = some (.ref f) ∧ PySem.W.keepIn K (.ref f) = true ∧ DefOk P w K mg base T k f n r
  | .con u => ∃ v val, mg x = some val ∧ RelV v val ∧ ∀ ρ Z H, Rep T ρ Z H v u
  | .mk c n r => MakeOk P w K mg base T k c x n r
  | .mkK c n ks r => MakeKOk P w K mg base T k c x n ks r
/-- an exception class: it is named, it is raised, its field is read -/
def XcOk (P : Program) (w : World) (K : PySem.W.Frag) (mg : Str → Option Value) (base : Heap) (T : Tb) (k : Nat) (x : Str) (z : Nat × Option Nat) : Prop :=
  (∃ C, T.cls[z.1]? = some C ∧ mg x = some (.ref C)) ∧ match z.2 with
    | none => XPlain K mg T z.1 x
    | some kf => XInit P w K mg base T k z.1 x kf ∧ ∃ C f, T.cls[z.1]? = some C ∧ T.att[kf]? = some f ∧ XfC K C ∧ PySem.W.findIn K (.ref C) f = some none
def XiOk (K : PySem.W.Frag) (T : Tb) (xi : List ((Nat × Nat) × Bool)) : Prop := ∀ c c' b C C', xi.lookup (c, c') = some b → T.cls[c]? = some C → T.cls[c']? = some C' → ExcC K C ∧ PySem.W.kitOne K (.ref C) (.ref C') = some b
structure TabOk (P : Program) (w : World) (K : PySem.W.Frag) (mg : Str → Option Value) (base : Heap) (T : Tb) (k : Nat) (d : Dn) : Prop where
  hat : AttOk T
  gl : ∀ x g, d.gl.lookup x = some g → GvOk P w K mg base T k x g
  bl : ∀ x, x ∈ d.bl → mg x = none
  ty : ∀ x c, d.ty.lookup x = some c → ∃ C, T.cls[c]? = some C ∧ mg x = some (.ref C)
  isi : IsiOk K T d.cls
  att : ∀ f z, d.att.lookup f = some z → T.att[z.1]? = some f ∧ (∀ c ∈ z.2.1, FldOk K T c f) ∧ ∀ c r, z.2.2.lookup c = some r → PropOk P w K mg base T k c f r
  mth : ∀ m z, d.mth.lookup m = some z → z.2 ≠ [] ∧ ∀ c n r, z.2.lookup c = some (n, r) → MethOk P w K mg base T k c m z.1 n r
  eqt : ∀ c r, d.eqt.lookup c = some r → EqOk P w K mg base T k c r
  xc : ∀ x z, d.xc.lookup x = some z → XcOk P w K mg base T k x z
  xs : XsOk K T d.xs
  xi : XiOk K T d.xi

/-! ### names -/
def vis (sc : Scope) (x : Str) : Bool := match sc.names.lookup x with
  | some .local => true
  | some .cell => true
  | some .free => true
  | _ => false
def glb (sc : Scope) (x : Str) : Bool := match sc.names.lookup x with
  | some .globalImplicit => true
  | _ => false
theorem vis_ok {sc : Scope} {x : Str} (h : vis sc x = true) : Vis sc x := by
  unfold vis at h
  unfold Vis
  split at h <;> simp_all
theorem glb_ok {X : Cx} {x : Str} (h : glb X.env.scope x = true) : Gl X x := by
  unfold glb at h
  split at h
  · rename_i e; exact e
  · cases h
def findI (x : Str) : List Str → Option Nat
  | [] => none
  | y :: r => if y == x then some 0 else (findI x r).map (· + 1)
theorem findI_ok {x : Str} : ∀ {N : List Str} {i : Nat}, findI x N = some i → N[i]? = some x
  | [], _, h => by cases h
  | y :: r, i, h => by
    unfold findI at h
    split at h
    · rename_i e
      cases h
      rw [beq_iff_eq] at e
      subst e
      rfl
    · cases e : findI x r with
      | none => rw [e] at h; cases h
      | some j =>
        rw [e] at h
        cases h
        rw [List.getElem?_cons_succ]
        exact findI_ok e
def badE : ME := fun _ _ => .bad
def badT : MT := fun _ _ => .bad
def badI : MI := fun _ _ => .bad
def badA : MA := fun _ _ => .bad
def badS : MS := fun _ _ => .bad
/-- a name's kind in a block -/
def relS (sc scope : Scope) : Scope := { scope with names := scope.names.map fun (n, k) => if (k == .free && sc.kind == .function && sc.names.lookup n == some .cell) then (n, .cell) else (n, k) }
/-- the block's own names, their slots -/
def ownOf (N : List Str) : List (Str × NameKind) → List (Str × Nat)
  | [] => []
  | (x, k) :: r => if (k == .local || k == .cell) then (match findI x N with | some i => (x, i) :: ownOf N r | none => ownOf N r) else ownOf N r

/-! ### operators -/
def binF (mu : Bool) : Operator → Option (U → U → List Ob → Rs U)
  | .Add => some (addU mu)
  | .Sub => some subU
  | .Mult => some (mulU mu)
  | .Mod => some modU
  | .FloorDiv => some fdivU
  | .Pow => some powU
  | _ => none
def cmpF (et : Nat → Option RunD) : CmpOp → Option (U → U → List Ob → Rs U)
  | .Lt => some (cmpU fun i j => decide (i < j))
  | .LtE => some (cmpU fun i j => decide (i ≤ j))
  | .Gt => some (cmpU fun i j => decide (j < i))
  | .GtE => some (cmpU fun i j => decide (j ≤ i))
  | .Eq => some (eqX false et)
  | .NotEq => some (eqX true et)
  | .Is => some (isU false)
  | .IsNot => some (isU true)
  | .In => some (inU false)
  | .NotIn => some (inU true)
section
variable {X : Cx} {T : Tb} {W : WX} {k : Nat}
theorem binF_ok {mu : Bool} {op : Operator} {f : U → U → List Ob → Rs U} (hT : X.K = T.K) (h : binF mu op = some f) : ∃ r, OpR X (binaryOp op) r ∧ O2 T W f r := by
  cases op with
  | Add => cases h; exact ⟨_, op_addA, o2_add hT⟩
  | Sub => cases h; exact ⟨_, op_sub, o2_sub⟩
  | Mult => cases h; exact ⟨_, op_mulA, o2_mul hT⟩
  | Mod => cases h; exact ⟨_, op_modN, o2_mod⟩
  | FloorDiv => cases h; exact ⟨_, op_fdivN, o2_fdiv⟩
  | Pow => cases h; exact ⟨_, op_pow, o2_pow⟩
  | _ => cases h
theorem cmpF_ok {et : Nat → Option RunD} {op : CmpOp} {f : U → U → List Ob → Rs U} (hT : X.K = T.K) (he : ∀ c r, et c = some r → EqOk X.prog X.w X.K X.mg X.base T k c r) (hr : Room (k + 1) X.A) (h : cmpF et op = some f) : ∃ r, OpR X (compareOp op) r ∧ O2 T W f r := by
  have hu : X.A.units + 65 < cLine := by have := hr.un; omega
  cases op with
  | Lt => cases h; exact ⟨_, op_lt, o2_cmp⟩
  | LtE => cases h; exact ⟨_, op_le, o2_cmp⟩
  | Gt => cases h; exact ⟨_, op_gt, o2_cmp⟩
  | GtE => cases h; exact ⟨_, op_ge, o2_cmp⟩
  | Eq => cases h; exact ⟨_, op_eqX hT he hr, o2_eqX hT⟩
  | NotEq => cases h; exact ⟨_, op_neX he hr, o2_neX hT⟩
  | Is => cases h; exact ⟨_, OpR.or op_isN (OpR.or op_isBl op_isO), o2_is⟩
  | IsNot => cases h; exact ⟨_, OpR.or op_notN (OpR.or op_notBl op_notO), o2_isnot⟩
  | In => cases h; exact ⟨_, op_inA hu, o2_in hT⟩
  | NotIn => cases h; exact ⟨_, op_notinA hu, o2_in hT⟩
end

/-! ### the parts -/
def dAs (f : Expr → ME) : List Expr → MA
  | [] => nilA
  | e :: r => consA (f e) (dAs f r)
def dKs (f : Expr → ME) : List Keyword → MA
  | [] => nilA
  | k :: r => consA (f (kwVal k)) (dKs f r)
def dAnd (f : Expr → ME) : List Expr → ME
  | [] => badE
  | [a] => f a
  | a :: r => andM (f a) (dAnd f r)
def dOr (f : Expr → ME) : List Expr → ME
  | [] => badE
  | [a] => f a
  | a :: r => orM (f a) (dOr f r)
def dAndT (f : Expr → MT) : List Expr → MT
  | [] => badT
  | [a] => f a
  | a :: r => andT (f a) (dAndT f r)
def dOrT (f : Expr → MT) : List Expr → MT
  | [] => badT
  | [a] => f a
  | a :: r => orT (f a) (dOrT f r)
def dO (f : Expr → ME) : Option Expr → MO
  | none => noneO
  | some e => someO (f e)
/-- a for's target: the slots that it stores, the store -/
def dGn (N : List Str) (sc : Scope) (fnb : Str → Bool) (x : Str) : Option (MG × List Nat) := match findI x N with
  | some i => (match sc.names.lookup x with
    | some .local => some (nameG i, [i])
    | some .cell => if fnb x then some (nameG i, [i]) else none
    | _ => none)
  | none => none
def dGs (g : Expr → Option (MG × List Nat)) : List Expr → Option (MGs × List Nat)
  | [] => some (nilG, [])
  | e :: r => match g e, dGs g r with
    | some (m, vs), some (ms, ws) => some (consG m ms, vs ++ ws)
    | _, _ => none
def dG (N : List Str) (sc : Scope) (fnb : Str → Bool) : Nat → Expr → Option (MG × List Nat)
  | 0, _ => none
  | n + 1, e => match e with
    | .Name x _ => dGn N sc fnb x
    | .Tuple es _ _ => if es.all noStar then (match dGs (dG N sc fnb n) es with
      | some (ms, vs) => some (tupG es.length ms, vs)
      | none => none) else none
    | _ => none
def litOf : Const → Option U
  | .none => some .non
  | .bool b => some (.bl b)
  | .int i => some (.int i)
  | .str x => some (.str x.cps.toList)
  | _ => none
def blk (d : Dn) (sc scope : Scope) : Bool := blkC d.N sc scope (ownOf d.N scope.names)
/-- the type that a name means -/
def tyNm (d : Dn) (x : Str) : Option (Ty ⊕ Nat) := match d.ty.lookup x with
  | some c => some (.inr c)
  | none => if d.bl.contains x then (if x == ("int" : Str) then some (.inl .int) else if x == ("str" : Str) then some (.inl .str) else if x == ("bool" : Str) then some (.inl .bl) else if x == ("list" : Str) then some (.inl .lst) else if x == ("tuple" : Str) then some (.inl .tup)
    else if x == ("dict" : Str) then some (.inl .dct) else none) else none
def lmF (m : Str) : Option (U → RunD) := if m == ("append" : Str) then some appendU else if m == ("extend" : Str) then some extendU else if m == ("pop" : Str) then some popU else none
/-- name(e, ..) -/
def dCallN (d : Dn) (sc : Scope) (mu : Bool) (f : Expr → ME) (x : Str) (es : List Expr) (kws : List Keyword) : ME :=
  if glb sc x && okN x && es.all noStar then (match d.gl.lookup x with
    | some (.fn n r) => (match kws, es with
      | [], _ :: _ => callM n r (dAs f es)
      | _, _ => badE)
    | some (.mk c n r) => (match kws with
      | [] => makeM c n r (dAs f es)
      | _ => badE)
    | some (.mkK c n ks r) => (match es with
      | _ :: _ => if kws.all (fun k => (kwName k).isSome) && (kws.filterMap kwName == ks) then makeKM c n ks.length r (dAs f es) (dKs f kws) else badE
      | _ => badE)
    | some (.con _) => badE
    | none => if d.bl.contains x then (match kws, es with
      | [], e :: r => if x == ("isinstance" : Str) then (match r with
          | [.Name y _] => if glb sc y && okN y then (match tyNm d y with
            | some t => isiM d.cls t (f e)
            | none => badE) else badE
          | _ => badE)
        else (match bltF x with
          | some g => preM g (dAs f es)
          | none => match bltT mu x with
            | some g => preM g (dAs f es)
            | none => badE)
      | _, _ => badE) else badE) else badE
/-- o.m(e, ..) -/
def dCallM (d : Dn) (mu : Bool) (f : Expr → ME) (o : Expr) (m : Str) (es : List Expr) (kws : List Keyword) (same : Bool) : ME :=
  if plainRecv o && es.all noStar && decide (es.length < 30) && same then (match kws with
    | [] => (match d.mth.lookup m with
      | some (km, tb) => (match es with
        | [] => methM (fun c => tb.lookup c) km (f o) nilA
        | _ => methM (fun c => tb.lookup c) km (f o) (dAs f es))
      | none => if m == ("join" : Str) then (match es with | [e] => joinM (f o) (f e) | _ => badE)
        else if m == ("split" : Str) then (match es with | [e] => splitM mu (f o) (f e) | _ => badE)
        else (match lmF m with
          | some g => (match es with
            | [] => bm0M g (f o)
            | _ => bmM g (f o) (dAs f es))
          | none => badE))
    | _ => badE) else badE
mutual
/-- an expression -/
def dE (d : Dn) : Nat → Scope → (Str → Bool) → Bool → Expr → ME
  | 0, _, _, _, _ => badE
  | n + 1, sc, fnb, mu, e => match e with
    | .Name x _ => if okN x then (if vis sc x then (match findI x d.N with | some i => varM i | none => badE)
      else if glb sc x then (match d.gl.lookup x with | some (.con u) => litM u | _ => badE) else badE) else badE
    | .Constant c _ _ => (match litOf c with | some u => litM u | none => badE)
    | .BinOp a op b _ => (match binF mu op with | some f => bin2 f (dE d n sc fnb false a) (dE d n sc fnb false b) | none => badE)
    | .UnaryOp .Not a _ => notM (dE d n sc fnb false a)
    | .UnaryOp .USub a _ => negM (dE d n sc fnb false a)
    | .BoolOp .And es _ => dAnd (dE d n sc fnb false) es
    | .BoolOp .Or es _ => dOr (dE d n sc fnb false) es
    | .IfExp c a b _ => iteM (dT d n sc fnb c) (dE d n sc fnb mu a) (dE d n sc fnb mu b)
    | .Compare a [op] [b] _ => if noSet b then (match cmpF (fun c => d.eqt.lookup c) op with | some f => bin2 f (dE d n sc fnb false a) (dE d n sc fnb false b) | none => badE) else badE
    | .Compare a [op, op'] [b, c] _ => if noSet c then (match cmpF (fun c => d.eqt.lookup c) op, cmpF (fun c => d.eqt.lookup c) op' with | some f, some g => chM f g (dE d n sc fnb false a) (dE d n sc fnb false b) (dE d n sc fnb false c) | _, _ => badE) else badE
    | .List es _ => if es.all noStar then lstM mu (dAs (dE d n sc fnb false) es) else badE
    | .Tuple es _ _ => if es.all noStar then tupM (dAs (dE d n sc fnb false) es) else badE
    | .Subscript a (.Slice lo hi none _) _ => slM mu (dE d n sc fnb false a) (dO (dE d n sc fnb false) lo) (dO (dE d n sc fnb false) hi)
    | .Subscript a i _ => if noSlice i then bin2 idxU (dE d n sc fnb false a) (dE d n sc fnb false i) else badE
    | .Attribute o f _ => (match d.att.lookup f with
      | some (kf, cs, ps) => if plainRecv o then attrM (fun c => (ps.lookup c).map attrP) (fun c => cs.contains c) kf (dE d n sc fnb false o) else badE
      | none => badE)
    | .Call (.Name x _) es kws _ => dCallN d sc mu (dE d n sc fnb false) x es kws
    | .Call (.Attribute o m apos) es kws pos => dCallM d mu (dE d n sc fnb false) o m es kws (apos.endLine == pos.line)
    | .ListComp elt [⟨tg, it, ifs, 0⟩] scope _ => if blk d sc scope && noSet it then
      (match dG d.N (relS sc scope) (fun x => scope.names.lookup x == some .cell) n tg with
        | some (g, ws) => if ws.all (fun j => ((ownOf d.N scope.names).map (·.2)).contains j) then (match ifs with
          | [] => compM mu (dI d n sc fnb it) g yesT (dE d n (relS sc scope) (fun x => scope.names.lookup x == some .cell) false elt) ((ownOf d.N scope.names).map (·.2))
          | [c] => compM mu (dI d n sc fnb it) g (dT d n (relS sc scope) (fun x => scope.names.lookup x == some .cell) c) (dE d n (relS sc scope) (fun x => scope.names.lookup x == some .cell) false elt) ((ownOf d.N scope.names).map (·.2))
          | _ => badE) else badE
        | none => badE) else badE
    | _ => badE
/-- a test -/
def dT (d : Dn) : Nat → Scope → (Str → Bool) → Expr → MT
  | 0, _, _, _ => badT
  | n + 1, sc, fnb, e => match e with
    | .BoolOp .And es _ => dAndT (dT d n sc fnb) es
    | .BoolOp .Or es _ => dOrT (dT d n sc fnb) es
    | .UnaryOp .Not a _ => notT (dT d n sc fnb a)
    | .Compare a [op] [b] _ => if noSet b then (match cmpF (fun c => d.eqt.lookup c) op with | some f => tobM (bin2 f (dE d n sc fnb false a) (dE d n sc fnb false b)) | none => badT) else badT
    | .Compare a [op, op'] [b, c] _ => if noSet c then (match cmpF (fun c => d.eqt.lookup c) op, cmpF (fun c => d.eqt.lookup c) op' with | some f, some g => tobM (chM f g (dE d n sc fnb false a) (dE d n sc fnb false b) (dE d n sc fnb false c)) | _, _ => badT) else badT
    | e => if plainTest e then tobM (dE d n sc fnb false e) else badT
/-- what is walked -/
def dI (d : Dn) : Nat → Scope → (Str → Bool) → Expr → MI
  | 0, _, _, _ => badI
  | n + 1, sc, fnb, e => match e with
    | .Call (.Name x p) es [] _ => if x == ("range" : Str) then (if glb sc x && d.bl.contains x && es.all noStar then (match es with
        | [_] => preI rng1U (dAs (dE d n sc fnb false) es)
        | [_, _] => preI rng2U (dAs (dE d n sc fnb false) es)
        | [_, _, _] => preI rng3U (dAs (dE d n sc fnb false) es)
        | _ => badI) else badI)
      else seqI (dE d n sc fnb false e)
    | e => seqI (dE d n sc fnb false e)
end
end FL

/-! FL17: the translation of expressions is sound. -/
namespace FL
open PySem L2 PyProof.Rows
structure XOk (X : Cx) (T : Tb) (W : WX) (k : Nat) (d : Dn) (sc : Scope) (fnb : Str → Bool) : Prop where
  N : X.N = d.N
  nd : X.N.Nodup
  sc : X.env.scope = sc
  fn : X.fn = fnb
  hT : X.K = T.K
  calm : X.calm = true
  tk : Takes X W
  room : Room (k + 1) X.A
  tab : TabOk X.prog X.w X.K X.mg X.base T k d
section
variable {X : Cx} {T : Tb} {W : WX} {k : Nat} {d : Dn} {sc : Scope} {fnb : Str → Bool}
theorem relS_eq {X : Cx} {sc scope : Scope} (h : X.env.scope = sc) (cl : List (Str × Addr)) (C : Addr) : (compEnvC scope cl C X.env).scope = relS sc scope := by subst h; rfl
theorem XOk.blk (h : XOk X T W k d sc fnb) (s : Shared) (H : Hp) (scope : Scope) (C : Addr) (cl : List (Str × Addr)) (fp : List Addr) :
    XOk (X.blk s H scope (compEnvC scope cl C X.env) fp) T WF k d (relS sc scope) (fun x => scope.names.lookup x == some .cell) :=
  ⟨h.N, h.nd, relS_eq h.sc cl C, rfl, h.hT, h.calm, takes0, h.room, h.tab⟩
theorem PE.badE {e : Expr} : PE X e (tE T W FL.badE) := PE.bad fun _ _ => rfl
theorem PT.badT {e : Expr} : PT X e (tT T W FL.badT) := PT.bad fun _ _ => rfl
theorem PI.badI {tg e : Expr} : PI X tg e (tI T W FL.badI) := ⟨fun _ _ _ _ _ _ ⟨s, G, _, _, _, q⟩ => q.elim⟩

/-! ### the parts -/
theorem dAs_ok {f : Expr → ME} (hf : ∀ e, PE X e (tE T W (f e))) : ∀ {es : List Expr}, es.all noStar = true → PA X es (tA T W (dAs f es))
  | [], _ => fa_nil
  | e :: r, h => by
    rw [List.all_cons, Bool.and_eq_true] at h
    exact fa_cons (hf e) (dAs_ok hf h.2) (star_cons h.1)
theorem dKs_ok {f : Expr → ME} (hf : ∀ e, PE X e (tE T W (f e))) : ∀ {kws : List Keyword}, PK X kws (tA T W (dKs f kws))
  | [] => fk_nil
  | ⟨nm, e, kp⟩ :: r => fk_cons (hf e) (dKs_ok hf)
theorem fe_and1 {a : Expr} {pos : Pos} {ma : ME} (h : PE X a (tE T W ma)) : PE X (.BoolOp .And [a] pos) (tE T W ma) := pe_one h
theorem fe_or1 {a : Expr} {pos : Pos} {ma : ME} (h : PE X a (tE T W ma)) : PE X (.BoolOp .Or [a] pos) (tE T W ma) := pe_one h
theorem dAnd_ok {f : Expr → ME} {pos : Pos} (hf : ∀ e, PE X e (tE T W (f e))) : ∀ {es : List Expr}, PE X (.BoolOp .And es pos) (tE T W (dAnd f es))
  | [] => PE.badE
  | [a] => fe_and1 (hf a)
  | a :: b :: r => fe_and (hf a) (dAnd_ok hf)
theorem dOr_ok {f : Expr → ME} {pos : Pos} (hf : ∀ e, PE X e (tE T W (f e))) : ∀ {es : List Expr}, PE X (.BoolOp .Or es pos) (tE T W (dOr f es))
  | [] => PE.badE
  | [a] => fe_or1 (hf a)
  | a :: b :: r => fe_or (hf a) (dOr_ok hf)
theorem PW.badT {e : Expr} : PW X e (tT T W FL.badT) := ⟨fun _ _ _ _ _ _ _ ⟨s, G, _, _, _, q⟩ => q.elim⟩
theorem dAndT_ok {f : Expr → MT} {pos : Pos} (hf : ∀ e, PT X e (tT T W (f e))) : ∀ {es : List Expr}, PW X (.BoolOp .And es pos) (tT T W (dAndT f es))
  | [] => PW.badT
  | [a] => fw_and1 (hf a)
  | a :: b :: r => fw_and (hf a) (dAndT_ok hf)
theorem dOrT_ok {f : Expr → MT} {pos : Pos} (hf : ∀ e, PT X e (tT T W (f e))) : ∀ {es : List Expr}, PW X (.BoolOp .Or es pos) (tT T W (dOrT f es))
  | [] => PW.badT
  | [a] => fw_or1 (hf a)
  | a :: b :: r => fw_or (hf a) (dOrT_ok hf)
theorem dO_ok {f : Expr → ME} (hf : ∀ e, PE X e (tE T W (f e))) : ∀ {o : Option Expr}, PO X o (tO T W (dO f o))
  | none => fo_none
  | some e => fo_some (hf e)
theorem litOf_ok {c : Const} {u : U} {j : Nat} {pos : Pos} (h : litOf c = some u) : PE X (.Constant c j pos) (tE T W (litM u)) := by
  unfold litOf at h
  split at h <;> cases h
  · exact fe_lit pe_non fun _ _ _ => .non
  · exact fe_lit pe_bl fun _ _ _ => .bl _
  · exact fe_lit pe_int fun _ _ _ => .int _
  · exact fe_lit pe_str fun _ _ _ => .str _
theorem dGn_ok (h : XOk X T W k d sc fnb) {x : Str} {pos : Pos} {m : MG} {vs : List Nat} (e : dGn d.N sc fnb x = some (m, vs)) : PG X (.Name x pos) (tG T vs m) := by
  unfold dGn at e
  split at e
  · rename_i i hi
    have hN : X.N[i]? = some x := by rw [h.N]; exact findI_ok hi
    split at e
    · rename_i hl
      cases e
      rw [← h.sc] at hl
      exact fg_name h.nd hN (.inl hl) (.inr hl)
    · rename_i hl
      split at e
      · rename_i hf
        cases e
        rw [← h.sc] at hl
        exact fg_name h.nd hN (.inr hl) (.inl (by rw [h.fn]; exact hf))
      · cases e
    · cases e
  · cases e
theorem dGs_ok {g : Expr → Option (MG × List Nat)} (hg : ∀ e m vs, g e = some (m, vs) → PG X e (tG T vs m)) : ∀ {es : List Expr} {ms : MGs} {vs : List Nat}, es.all noStar = true → dGs g es = some (ms, vs) → PGs X es (tGs T vs ms)
  | [], _, _, _, e => by cases e; exact fg_nil
  | a :: r, ms, vs, h, e => by
    rw [List.all_cons, Bool.and_eq_true] at h
    unfold dGs at e
    split at e
    · rename_i m vs1 ms1 ws1 e1 e2
      cases e
      exact fg_cons (hg _ _ _ e1) (dGs_ok hg h.2 e2) h.1
    · cases e
theorem dG_ok (h : XOk X T W k d sc fnb) : ∀ (n : Nat) {e : Expr} {m : MG} {vs : List Nat}, dG d.N sc fnb n e = some (m, vs) → PG X e (tG T vs m)
  | 0, _, _, _, z => by cases z
  | n + 1, e, m, vs, z => by
    unfold dG at z
    split at z
    · exact dGn_ok h z
    · split at z
      · rename_i hs
        split at z
        · rename_i ms vs1 e1
          cases z
          exact fg_tup h.hT h.calm (dGs_ok (fun _ _ _ q => dG_ok h n q) hs e1) hs
        · cases z
      · cases z
    · cases z

theorem contains_mem {x : Str} {l : List Str} (h : l.contains x = true) : x ∈ l := by simpa using h
theorem tyNm_ok (h : XOk X T W k d sc fnb) {x : Str} {t : Ty ⊕ Nat} (e : tyNm d x = some t) : NamesTy X T x t := by
  unfold tyNm at e
  split at e
  · rename_i c hc
    cases e
    exact h.tab.ty x c hc
  · split at e
    · rename_i hb
      have hm := h.tab.bl x (contains_mem hb)
      split at e
      · rename_i hx; cases e; rw [beq_iff_eq] at hx; subst hx
        exact ⟨hm, by decide +kernel, by decide⟩
      · split at e
        · rename_i hx; cases e; rw [beq_iff_eq] at hx; subst hx
          exact ⟨hm, by decide +kernel, by decide⟩
        · split at e
          · rename_i hx; cases e; rw [beq_iff_eq] at hx; subst hx
            exact ⟨hm, by decide +kernel, by decide⟩
          · split at e
            · rename_i hx; cases e; rw [beq_iff_eq] at hx; subst hx
              exact ⟨hm, by decide +kernel, by decide⟩
            · split at e
              · rename_i hx; cases e; rw [beq_iff_eq] at hx; subst hx
                exact ⟨hm, by decide +kernel, by decide⟩
              · split at e
                · rename_i hx; cases e; rw [beq_iff_eq] at hx; subst hx
                  exact ⟨hm, by decide +kernel, by decide⟩
                · cases e
    · cases e
theorem dCallN_ok (h : XOk X T W k d sc fnb) {f : Expr → ME} (hf : ∀ e, PE X e (tE T W (f e))) {mu : Bool} {x : Str} {es : List Expr} {kws : List Keyword} {p pos : Pos} : PE X (.Call (.Name x p) es kws pos) (tE T W (dCallN d sc mu f x es kws)) := by
  have hrk : Room k X.A := h.room.mono (Nat.le_succ _)
  unfold dCallN
  split
  · rename_i hc
    rw [Bool.and_eq_true, Bool.and_eq_true] at hc
    obtain ⟨⟨h1, h2⟩, h3⟩ := hc
    have hg : Gl X x := glb_ok (by rw [h.sc]; exact h1)
    split
    · rename_i n r e
      obtain ⟨fa, g1, g2, g3⟩ := h.tab.gl x _ e
      split
      · exact fe_call g3 hrk hg g1 g2 h.tk (dAs_ok hf h3) (okN_d h2) h3
      · exact PE.badE
    · rename_i c n r e
      have M : MakeOk X.prog X.w X.K X.mg X.base T k c x n r := h.tab.gl x _ e
      split
      · cases es with
        | nil => exact fe_make0 M h.room hg h.tk (okN_d h2)
        | cons a r => exact fe_make M h.room hg h.tk (dAs_ok hf h3) (okN_d h2) h3
      · exact PE.badE
    · rename_i c n ks r e
      have M : MakeKOk X.prog X.w X.K X.mg X.base T k c x n ks r := h.tab.gl x _ e
      split
      · split
        · rename_i hk
          rw [Bool.and_eq_true] at hk
          exact fe_makeK M h.room hg h.tk (dAs_ok hf h3) (dKs_ok hf) (okN_d h2) h3 hk.1 (beq_iff_eq.mp hk.2)
        · exact PE.badE
      · exact PE.badE
    · exact PE.badE
    · split
      · rename_i hb
        have hm := h.tab.bl x (contains_mem hb)
        split
        · rename_i e r
          split
          · rename_i hx
            rw [beq_iff_eq] at hx
            split
            · rename_i y yp
              split
              · rename_i hy
                rw [Bool.and_eq_true] at hy
                split
                · rename_i t ht
                  exact fe_isi h.hT (h.hT ▸ h.tab.isi) hx hg hm (glb_ok (by rw [h.sc]; exact hy.1)) (tyNm_ok h ht) (okN_d hy.2) (hf e) (by rw [List.all_cons, Bool.and_eq_true] at h3; exact h3.1)
                · exact PE.badE
              · exact PE.badE
            · exact PE.badE
          · split
            · rename_i g e1
              exact fe_bltF e1 h.hT h.calm hg hm (dAs_ok hf h3) h3
            · split
              · rename_i g e1
                exact fe_bltT e1 h.hT h.calm hg hm (dAs_ok hf h3) h3
              · exact PE.badE
        · exact PE.badE
      · exact PE.badE
  · exact PE.badE
theorem lmF_ok {m : Str} {g : U → RunD} (e : lmF m = some g) : ∃ id r, Slot "list" m id ∧ typeOf (.builtin id) = pure (.type "method_descriptor") ∧ MtR X id r ∧ OM T W g r := by
  unfold lmF at e
  split at e
  · rename_i hx; cases e; rw [beq_iff_eq] at hx; subst hx
    exact ⟨_, _, PySem.F.slot_list_append, PySem.F.type_list_append, mt_append, om_append⟩
  · split at e
    · rename_i hx; cases e; rw [beq_iff_eq] at hx; subst hx
      exact ⟨_, _, PySem.F.slot_list_extend, PySem.F.type_list_extend, mt_extend, om_extend⟩
    · split at e
      · rename_i hx; cases e; rw [beq_iff_eq] at hx; subst hx
        exact ⟨_, _, PySem.F.slot_list_pop, PySem.F.type_list_pop, mt_popA, om_pop⟩
      · cases e
theorem lookup_ne {α β : Type} [BEq α] [LawfulBEq α] : ∀ {l : List (α × β)}, l ≠ [] → ∃ a b, l.lookup a = some b
  | [], h => absurd rfl h
  | (a, b) :: r, _ => ⟨a, b, by simp⟩
theorem dCallM_ok (h : XOk X T W k d sc fnb) {f : Expr → ME} (hf : ∀ e, PE X e (tE T W (f e))) {mu : Bool} {o : Expr} {m : Str} {es : List Expr} {kws : List Keyword} {apos pos : Pos} : PE X (.Call (.Attribute o m apos) es kws pos) (tE T W (dCallM d mu f o m es kws (apos.endLine == pos.line))) := by
  have hrk : Room k X.A := h.room.mono (Nat.le_succ _)
  unfold dCallM
  split
  · rename_i hc
    rw [Bool.and_eq_true, Bool.and_eq_true, Bool.and_eq_true] at hc
    obtain ⟨⟨⟨h1, h2⟩, h3⟩, h4⟩ := hc
    replace h3 := of_decide_eq_true h3
    split
    · split
      · rename_i km tb e
        obtain ⟨g1, g2⟩ := h.tab.mth m _ e
        obtain ⟨c, ⟨n, r⟩, hc⟩ := lookup_ne g1
        split
        · exact fe_meth0 (hf o) h.tab.hat ⟨c, n, r, hc⟩ g2 hrk h.tk h1 h4
        · rename_i hne
          cases es with
          | nil => exact absurd rfl hne
          | cons a r' => exact fe_meth (hf o) (dAs_ok hf h2) h.tab.hat ⟨c, n, r, hc⟩ g2 hrk h.tk h1 h2 h3 h4
      · split
        · rename_i hx
          rw [beq_iff_eq] at hx
          subst hx
          split
          · rename_i e
            exact fe_join h.hT (hf o) (hf e) h1 (by simpa using h2) h4
          · exact PE.badE
        · split
          · rename_i hx
            rw [beq_iff_eq] at hx
            subst hx
            split
            · rename_i e
              exact fe_split (hf o) (hf e) h1 (by simpa using h2) h4
            · exact PE.badE
          · split
            · rename_i g e
              obtain ⟨id, r, q1, q2, q3, q4⟩ := lmF_ok (X := X) (T := T) (W := W) e
              split
              · exact fe_lm0 PySem.F.plainAttrs_list q1 q2 q3 q4 (hf o) h1 h4
              · rename_i hne
                cases es with
                | nil => exact absurd rfl hne
                | cons a r' => exact fe_lm PySem.F.plainAttrs_list q1 q2 q3 q4 (hf o) (dAs_ok hf h2) h1 h2 h3 h4
            · exact PE.badE
    · exact PE.badE
  · exact PE.badE
end
def SndE (n : Nat) : Prop := ∀ (X : Cx) (T : Tb) (W : WX) (k : Nat) (d : Dn) (sc : Scope) (fnb : Str → Bool), XOk X T W k d sc fnb →
  (∀ mu e, PE X e (tE T W (dE d n sc fnb mu e))) ∧ (∀ e, PT X e (tT T W (dT d n sc fnb e))) ∧ ∀ tg e, PI X tg e (tI T W (dI d n sc fnb e))
theorem sndE : ∀ n, SndE n
  | 0 => fun X T W k d sc fnb h => ⟨fun mu e => by unfold dE; exact PE.badE, fun e => by unfold dT; exact PT.badT, fun tg e => by unfold dI; exact PI.badI⟩
  | n + 1 => fun X T W k d sc fnb h => by
    obtain ⟨hE, hT, hI⟩ := sndE n X T W k d sc fnb h
    have hQ : ∀ op f, cmpF (fun c => d.eqt.lookup c) op = some f → ∃ r, OpR X (compareOp op) r ∧ O2 T W f r := fun op f e => cmpF_ok h.hT (fun c r q => h.tab.eqt c r q) h.room e
    refine ⟨fun mu e => ?_, fun e => ?_, fun tg e => ?_⟩
    · unfold dE
      split
      · -- a name
        rename_i x pos
        split
        · rename_i hx
          split
          · rename_i hv
            split
            · rename_i i hi
              exact fe_var (by rw [h.N]; exact findI_ok hi) (by rw [h.sc]; exact vis_ok hv) (okN_d hx) (okN_c hx)
            · exact PE.badE
          · split
            · rename_i hg
              split
              · rename_i u hu
                obtain ⟨v, val, q1, q2, q3⟩ := h.tab.gl x _ hu
                exact fe_lit (pe_glob (glb_ok (by rw [h.sc]; exact hg)) q1 q2 (okN_d hx)) q3
              · exact PE.badE
            · exact PE.badE
        · exact PE.badE
      · split
        · rename_i u hu
          exact litOf_ok hu
        · exact PE.badE
      · split
        · rename_i f hf
          obtain ⟨r, q1, q2⟩ := binF_ok (W := W) h.hT hf
          exact fe_bin q1 q2 (hE _ _) (hE _ _)
        · exact PE.badE
      · exact fe_not (hE _ _)
      · exact fe_neg (hE _ _)
      · exact dAnd_ok (hE false)
      · exact dOr_ok (hE false)
      · exact fe_ite (hT _) (hE _ _) (hE _ _)
      · split
        · rename_i hs
          split
          · rename_i f hf
            obtain ⟨r, q1, q2⟩ := hQ _ _ hf
            exact fe_cmp q1 q2 (hE _ _) (hE _ _) (marks_no hs)
          · exact PE.badE
        · exact PE.badE
      · split
        · rename_i hs
          split
          · rename_i f g hf hg
            obtain ⟨r, q1, q2⟩ := hQ _ _ hf
            obtain ⟨r', q3, q4⟩ := hQ _ _ hg
            exact fe_chain q1 q3 q2 q4 (hE _ _) (hE _ _) (hE _ _) hs
          · exact PE.badE
        · exact PE.badE
      · split
        · rename_i hs
          exact fe_lst (dAs_ok (hE false) hs)
        · exact PE.badE
      · split
        · rename_i hs
          exact fe_tup (dAs_ok (hE false) hs)
        · exact PE.badE
      · exact fe_slice h.hT (hE _ _) (dO_ok (hE false)) (dO_ok (hE false))
      · split
        · rename_i hs
          exact fe_ix h.hT (hE _ _) (hE _ _) (plainIx hs)
        · exact PE.badE
      · split
        · rename_i kf cs ps e
          obtain ⟨g1, g2, g3⟩ := h.tab.att _ _ e
          split
          · rename_i hp
            exact fe_attr (hE _ _) h.hT h.tab.hat g1 g3 (fun c hc => g2 c (by simpa using hc)) h.room hp
          · exact PE.badE
        · exact PE.badE
      · exact dCallN_ok h (hE false)
      · exact dCallM_ok h (hE false)
      · -- a comprehension
        split
        · rename_i hb
          rw [Bool.and_eq_true] at hb
          split
          · rename_i g ws hg
            split
            · rename_i hw
              have hw' : ∀ j ∈ ws, j ∈ (ownOf d.N _).map (·.2) := fun j hj => by
                have := List.all_eq_true.mp hw j hj
                simpa using this
              have ok := blkOk_by (show blkC d.N sc _ _ = true from hb.1)
              rw [← h.N, ← h.sc] at ok
              split
              · refine fe_lc h.calm h.nd (hI _ _) ?_ hw' (fun s H C cl fp => dG_ok (h.blk s H _ C cl fp) n hg) (fun s H C cl fp => ft_nil) (fun s H C cl fp => (sndE n _ T WF k d _ _ (h.blk s H _ C cl fp)).1 _ _) hb.2
                rw [← h.N]; exact ok
              · refine fe_lc h.calm h.nd (hI _ _) ?_ hw' (fun s H C cl fp => dG_ok (h.blk s H _ C cl fp) n hg) (fun s H C cl fp => ft_one ((sndE n _ T WF k d _ _ (h.blk s H _ C cl fp)).2.1 _)) (fun s H C cl fp => (sndE n _ T WF k d _ _ (h.blk s H _ C cl fp)).1 _ _) hb.2
                rw [← h.N]; exact ok
              · exact PE.badE
            · exact PE.badE
          · exact PE.badE
        · exact PE.badE
      · exact PE.badE
    · unfold dT
      split
      · exact (dAndT_ok hT).pt
      · exact (dOrT_ok hT).pt
      · exact ft_not (hT _)
      · split
        · rename_i hs
          split
          · rename_i f hf
            obtain ⟨r, q1, q2⟩ := hQ _ _ hf
            exact ft_cmp q1 q2 (hE _ _) (hE _ _) (marks_no hs)
          · exact PT.badT
        · exact PT.badT
      · split
        · rename_i hs
          split
          · rename_i f g hf hg
            obtain ⟨r, q1, q2⟩ := hQ _ _ hf
            obtain ⟨r', q3, q4⟩ := hQ _ _ hg
            exact ft_chain q1 q3 q2 q4 (hE _ _) (hE _ _) (hE _ _) hs
          · exact PT.badT
        · exact PT.badT
      · split
        · rename_i hs
          exact ft_val (hE _ _) (plain_test hs)
        · exact PT.badT
    · unfold dI
      split
      · rename_i x p es pos
        split
        · rename_i hx
          rw [beq_iff_eq] at hx
          subst hx
          split
          · rename_i hc
            rw [Bool.and_eq_true, Bool.and_eq_true] at hc
            obtain ⟨⟨h1, h2⟩, h3⟩ := hc
            have hg : Gl X "range" := glb_ok (by rw [h.sc]; exact h1)
            have hm := h.tab.bl _ (contains_mem h2)
            have ha := dAs_ok (hE false) h3
            split
            · exact fi_rng1 hg hm ha (by simpa using h3)
            · exact fi_rng2 hg hm ha (by simp at h3; exact h3.1) (by simp at h3; exact h3.2)
            · exact fi_rng3 hg hm ha (by simp at h3; exact h3.1) (by simp at h3; exact h3.2.1) (by simp at h3; exact h3.2.2)
            · exact PI.badI
          · exact PI.badI
        · exact fi_seq h.hT (hE _ _)
      · exact fi_seq h.hT (hE _ _)
end FL

/-! FL25: the suites of except clauses. -/
namespace FL
open PySem L2 PyProof.Rows
/-- an expression of a suite: c the class caught, y its name -/
def dXe (d : Dn) (y : Option Str) (c : Nat) (o : Option Nat) : Expr → Option (Exn → Option U)
  | .Constant k _ _ => (litOf k).map fun u _ => some u
  | .Attribute (.Name z _) f _ => if y = some z ∧ okN z = true then (match d.att.lookup f, o with
    | some (kf, _, _), some kf' => if kf = kf' then some (fun x => if x.cls = c then (match x.fs.lookup kf with | some u => if flatU u then some u else none | none => none) else none) else none
    | _, _ => none) else none
  | _ => none
def dXs (f : Expr → Option (Exn → Option U)) : List Expr → Option (Exn → Option (List U))
  | [] => some fun _ => some []
  | e :: r => match f e, dXs f r with
    | some m, some ms => some fun x => match m x, ms x with
      | some u, some us => some (u :: us)
      | _, _ => none
    | _, _ => none
def dXv (d : Dn) (y : Option Str) (c : Nat) (o : Option Nat) : Expr → Option (Exn → Option U)
  | .List es _ => if es.all noStar then (dXs (dXe d y c o) es).map fun ms x => (ms x).bind fun us => if us.length ≤ szL then some (.lst us) else none else none
  | e => dXe d y c o e
def locI (d : Dn) (sc : Scope) (fnb : Str → Bool) (x : Str) : Option Nat := match findI x d.N with
  | some i => (match sc.names.lookup x with
    | some .local => some i
    | some .cell => if fnb x then some i else none
    | _ => none)
  | none => none
/-- a test of a suite whose answer is known: isinstance(y, C), not, or -/
def tstB (d : Dn) (sc : Scope) (y : Option Str) (c : Nat) : Nat → Expr → Option Bool
  | 0, _ => none
  | n + 1, e => match e with
    | .UnaryOp .Not t _ => (tstB d sc y c n t).map not
    | .BoolOp .Or [t, u] _ => match tstB d sc y c n t, tstB d sc y c n u with
      | some a, some b => some (a || b)
      | _, _ => none
    | .Call (.Name f _) [.Name z _, .Name x _] [] _ => if f == ("isinstance" : Str) && glb sc f && d.bl.contains f && decide (y = some z) && okN z && glb sc x && okN x then (match d.xc.lookup x with
      | some (c', _) => d.xi.lookup (c, c')
      | none => none) else none
    | _ => none
def dX (d : Dn) (sc : Scope) (fnb : Str → Bool) (y : Option Str) (i : Option Nat) (c : Nat) (o : Option Nat) : List Stmt → Option (Exn → MS)
  | [.Assign [.Name x _] e _] => if noComp e then (match locI d sc fnb x, dXv d y c o e with
    | some j, some m => some fun ex s G => (match m ex with
      | some u => .nx (s.set j (some u)) G
      | none => .bad)
    | _, _ => none) else none
  | [.Assign [.Name x _] e _, .If t _ [] _] => if noComp e then (match locI d sc fnb x, dXe d y c o e, tstB d sc y c 8 t with
    | some j, some m, some false => some fun ex s G => (match m ex with
      | some u => if ex.cls = c ∧ ex.fs ≠ [] ∧ i ≠ some j then .nx (s.set j (some u)) G else .bad
      | none => .bad)
    | _, _, _ => none) else none
  | [.Return (some e) _] => (match dXv d y c o e with
    | some m => some fun ex s G => (match m ex with
      | some u => .rt u G
      | none => .bad)
    | none => none)
  | _ => none
section
variable {X : Cx} {T : Tb} {W : WX} {k : Nat} {d : Dn} {sc : Scope} {fnb : Str → Bool}
theorem locI_ok (h : XOk X T W k d sc fnb) {x : Str} {i : Nat} (e : locI d sc fnb x = some i) : X.N[i]? = some x ∧ Loc X.env.scope x ∧ (X.fn x = true ∨ X.env.scope.names.lookup x = some .local) := by
  unfold locI at e
  split at e
  · rename_i j hj
    have hN : X.N[j]? = some x := by rw [h.N]; exact findI_ok hj
    split at e
    · rename_i hl
      cases e
      rw [← h.sc] at hl
      exact ⟨hN, .inl hl, .inr hl⟩
    · rename_i hl
      split at e
      · rename_i hf
        cases e
        rw [← h.sc] at hl
        exact ⟨hN, .inr hl, .inl (by rw [h.fn]; exact hf)⟩
      · cases e
    · cases e
  · cases e
/-- what is known in a suite -/
structure InX (T : Tb) (i : Option Nat) (a : Addr) (cls : Value) (dd : Option Addr) (σ : L2.St) (H : Hp) (s : Sg) (G : List Ob) (ρ : List Addr) (Z : Addr → Prop) (x : Exn) : Prop where
  sm : Sm T σ H s G ρ Z
  ax : ExAt T x cls dd H
  na : H a = none
  sl : ∀ j, i = some j → σ[j]? = some (some (.ref a))
def tXa (T : Tb) (i : Option Nat) (m : Exn → Option U) (a : Addr) (cls : Value) (dd : Option Addr) : TE := fun σ H Q => ∃ s G ρ Z x u, InX T i a cls dd σ H s G ρ Z x ∧ m x = some u ∧ ∀ v, Rep T ρ Z H v u → Q v H
def tXas (T : Tb) (i : Option Nat) (m : Exn → Option (List U)) (a : Addr) (cls : Value) (dd : Option Addr) : L2.TA := fun σ H Q => ∃ s G ρ Z x us, InX T i a cls dd σ H s G ρ Z x ∧ m x = some us ∧ ∀ vs, Reps T ρ Z H vs us → Q vs H
variable {a : Addr} {oe : Obj} {cls : Value} {dd : Option Addr} {pn : List (Addr × Obj)} {i : Option Nat} {y : Option Str} {c : Nat} {o : Option Nat}
theorem litOf_v {c : Const} {u : U} {j : Nat} {pos : Pos} (h : litOf c = some u) : ∃ v, PE X (.Constant c j pos) (tC v) ∧ ∀ ρ Z H, Rep T ρ Z H v u := by
  unfold litOf at h
  split at h <;> cases h
  · exact ⟨_, pe_non, fun _ _ _ => .non⟩
  · exact ⟨_, pe_bl, fun _ _ _ => .bl _⟩
  · exact ⟨_, pe_int, fun _ _ _ => .int _⟩
  · exact ⟨_, pe_str, fun _ _ _ => .str _⟩
/-- the clause's name and slot, its class's field -/
structure ClOk (X : Cx) (T : Tb) (i : Option Nat) (y : Option Str) (c : Nat) (o : Option Nat) : Prop where
  nm : ∀ z, y = some z → ∃ j, i = some j ∧ X.N[j]? = some z ∧ X.env.scope.names.lookup z = some .local
  fl : ∀ kf, o = some kf → ∃ C f, T.cls[c]? = some C ∧ T.att[kf]? = some f ∧ XfC X.K C ∧ PySem.W.findIn X.K (.ref C) f = some none
theorem dXe_ok (h : XOk X T W k d sc fnb) (hc : ClOk X T i y c o) (hz : Zc cls dd oe) (hv : ∃ vs, oe.data = .fields vs) {e : Expr} {m : Exn → Option U} (q : dXe d y c o e = some m) : PE (X.suite a ((a, oe) :: pn)) e (tXa T i m a cls dd) := by
  unfold dXe at q
  split at q
  · rename_i k' p1 p2
    obtain ⟨u, e1, e2⟩ := Option.map_eq_some_iff.mp q
    subst e2
    obtain ⟨v, pe, rv⟩ := litOf_v (X := X.suite a ((a, oe) :: pn)) (T := T) (j := p1) (pos := p2) e1
    exact PE.imp pe fun σ H Q ⟨s, G, ρ, Z, x, u', ix, e3, r⟩ => by
      cases e3
      exact r v (rv ρ Z H)
  · rename_i z p1 f p2
    split at q
    · rename_i hy
      split at q
      · rename_i kf cs ps kf' ea
        split at q
        · rename_i hk
          subst hk
          obtain ⟨j, hj, hN, hl⟩ := hc.nm z hy.1
          obtain ⟨C, f', g1, g2, g3, g4⟩ := hc.fl _ rfl
          obtain ⟨t1, _, _⟩ := h.tab.att f _ ea
          have ef : f' = f := by rw [t1] at g2; exact (Option.some.inj g2).symm
          subst ef
          have pv : PE (X.suite a ((a, oe) :: pn)) (.Name z p1) (tVar j) := pe_var hN (.inl hl) (okN_d hy.2) (okN_c hy.2)
          refine PE.imp (pe_xf g3 g4 hz hv pv (attrBase rfl)) fun σ H Q ⟨s, G, ρ, Z, x, u, ix, em, r⟩ => ?_
          cases q
          simp only at em
          split at em
          · rename_i hx
            split at em
            · rename_i u' eu
              split at em
              · rename_i hf
                cases em
                obtain ⟨C', c1, c2, c3⟩ := ix.ax
                have eC : C' = C := by rw [hx, g1] at c1; exact (Option.some.inj c1).symm
                subst eC
                refine ⟨_, ix.sl j hj, rfl, c2, ?_⟩
                rcases c3 with ⟨c3, _⟩ | ⟨d', fv, c4, c5, c6⟩
                · rw [c3] at eu; cases eu
                · obtain ⟨v, l1, l2⟩ := repF_some t1 (fun j' hj' => h.tab.hat j' kf f' hj' t1) c6 eu
                  exact ⟨d', fv, v, c4, c5, l1, r v (rep_flat l2 hf)⟩
              · cases em
            · cases em
          · cases em
        · cases q
      · cases q
    · cases q
  · cases q
theorem dXs_ok {f : Expr → Option (Exn → Option U)} (hf : ∀ e m, f e = some m → PE (X.suite a ((a, oe) :: pn)) e (tXa T i m a cls dd)) : ∀ {es : List Expr} {ms : Exn → Option (List U)}, es.all noStar = true → dXs f es = some ms → PA (X.suite a ((a, oe) :: pn)) es (tXas T i ms a cls dd)
  | [], ms, _, q => by
    cases q
    exact PA.imp pa_nil fun σ H Q ⟨s, G, ρ, Z, x, us, ix, e, r⟩ => by
      cases e
      exact r [] .nil
  | e :: es, ms, hs, q => by
    rw [List.all_cons, Bool.and_eq_true] at hs
    unfold dXs at q
    split at q
    · rename_i m ms' e1 e2
      cases q
      refine PA.imp (pa_cons (hf e m e1) (dXs_ok hf hs.2 e2) (star_cons hs.1)) fun σ H Q ⟨s, G, ρ, Z, x, us, ix, em, r⟩ => ?_
      simp only at em
      split at em
      · rename_i u us' q1 q2
        cases em
        exact ⟨s, G, ρ, Z, x, u, ix, q1, fun v rv => ⟨s, G, ρ, Z, x, us', ix, q2, fun vs rvs => r (v :: vs) (.cons rv rvs)⟩⟩
      · cases em
    · cases q
/-- .. the value may be new -/
def tXn (T : Tb) (i : Option Nat) (m : Exn → Option U) (a : Addr) (cls : Value) (dd : Option Addr) : TE := fun σ H Q => ∃ s G ρ Z x u, InX T i a cls dd σ H s G ρ Z x ∧ m x = some u ∧ ∀ v H', Ex ρ Z H ρ Z H' → Rl T ρ Z G H' → Rep T ρ Z H' v u → Q v H'
theorem dXv_ok (h : XOk X T W k d sc fnb) (hc : ClOk X T i y c o) (hz : Zc cls dd oe) (hv : ∃ vs, oe.data = .fields vs) {e : Expr} {m : Exn → Option U} (q : dXv d y c o e = some m) : PE (X.suite a ((a, oe) :: pn)) e (tXn T i m a cls dd) := by
  unfold dXv at q
  split at q
  · rename_i es p
    split at q
    · rename_i hs
      obtain ⟨ms, e1, e2⟩ := Option.map_eq_some_iff.mp q
      subst e2
      refine PE.imp (pe_lst (dXs_ok (fun e m q => dXe_ok h hc hz hv q) hs e1)) fun σ H Q ⟨s, G, ρ, Z, x, u, ix, em, r⟩ => ?_
      simp only at em
      cases e3 : ms x with
      | none => rw [e3] at em; cases em
      | some us =>
        rw [e3] at em
        simp only [Option.bind_some] at em
        split at em
        · rename_i hl
          cases em
          refine ⟨s, G, ρ, Z, x, us, ix, e3, fun vs rvs => ⟨by rw [rvs.length, szL_eq]; exact hl, fun p hp => ?_⟩⟩
          exact r _ _ (ex_new hp) (ix.sm.rl.new hp) (.lst upd_same (ix.sm.rl.nz hp) (rvs.ex ix.sm.rl.zm (ex_new hp)))
        · cases em
    · cases q
  · exact PE.imp (dXe_ok h hc hz hv q) fun σ H Q ⟨s, G, ρ, Z, x, u, ix, em, r⟩ => ⟨s, G, ρ, Z, x, u, ix, em, fun v rv => r v H Ex.refl ix.sm.rl rv⟩
/-- a suite's test -/
def tXt (T : Tb) (i : Option Nat) (c : Nat) (b : Bool) (a : Addr) (cls : Value) (dd : Option Addr) : TT := fun σ H Q => (∃ s G ρ Z x d fv, InX T i a cls dd σ H s G ρ Z x ∧ x.cls = c ∧ dd = some d ∧ H d = some (.xd fv)) ∧ Q b H
theorem tstB_ok (h : XOk X T W k d sc fnb) (hc : ClOk X T i y c o) (hz : Zc cls dd oe) (hv : ∃ vs, oe.data = .fields vs) : ∀ (n : Nat) {t : Expr} {b : Bool}, tstB d sc y c n t = some b → PT (X.suite a ((a, oe) :: pn)) t (tXt T i c b a cls dd)
  | 0, _, _, q => by cases q
  | n + 1, t, b, q => by
    unfold tstB at q
    split at q
    · obtain ⟨b', e1, e2⟩ := Option.map_eq_some_iff.mp q
      subst e2
      exact PT.imp (pt_not (tstB_ok h hc hz hv n e1)) fun σ H Q ⟨w, r⟩ => ⟨w, r⟩
    · split at q
      · rename_i b1 b2 e1 e2
        cases q
        refine PT.imp (pw_or (tstB_ok h hc hz hv n e1) (pw_or1 (tstB_ok h hc hz hv n e2))).pt fun σ H Q ⟨w, r⟩ => ⟨w, ?_⟩
        cases b1 with
        | true => exact r
        | false => exact ⟨w, r⟩
      · cases q
    · rename_i f p1 z p2 x p3 p4
      split at q
      · rename_i hq
        simp only [Bool.and_eq_true, decide_eq_true_eq, beq_iff_eq] at hq
        obtain ⟨⟨⟨⟨⟨⟨q1, q2⟩, q3⟩, q4⟩, q5⟩, q6⟩, q7⟩ := hq
        split at q
        · rename_i c' o' el
          subst q1
          obtain ⟨⟨C', g1, g2⟩, _⟩ := h.tab.xc x _ el
          obtain ⟨j, hj, hN, hl⟩ := hc.nm z q4
          have hm := h.tab.bl _ (contains_mem q3)
          -- the class of what is caught must be known: by cases on it
          refine ⟨fun pins s σ H Q I ⟨⟨s0, G, ρ, Z, xn, d0, fv, ix, ex, ed, eh⟩, r⟩ => ?_⟩
          obtain ⟨C, c1, c2, c3⟩ := ix.ax
          rw [ex] at c1
          obtain ⟨K1, K2⟩ := h.tab.xi c c' b C C' q c1 g1
          subst c2
          subst ed
          have call := pe_callB (X := X.suite a ((a, oe) :: pn)) (p := p1) (pos := p4) (call_isX (h.hT ▸ K1 : ExcC X.K C) hz hv) (glb_ok (by rw [h.sc]; exact q2)) hm (by decide +kernel)
            (pa_cons (pe_var (X := X.suite a ((a, oe) :: pn)) (pos := p2) hN (.inl hl) (okN_d q5) (okN_c q5)) (pa_cons (pe_glob (v := .ref C') (X := X.suite a ((a, oe) :: pn)) (pos := p3) (glb_ok (by rw [h.sc]; exact q6)) g2 rfl (okN_d q7)) pa_nil rfl) rfl) (by decide) (by decide) rfl rfl
          refine (pt_val call (plain_test rfl)).run pins s σ H Q I ?_
          exact ⟨.ref a, ix.sl j hj, C', b, fv, rfl, eh, h.hT ▸ K2, b, rfl, r⟩
        · cases q
      · cases q
    · cases q
theorem PSs.any {Y : Cx} {ss : List Stmt} : PSs Y ss (fun _ _ _ => False) := ⟨fun _ _ _ _ _ _ z => z.elim⟩
theorem dX_ok (h : XOk X T W k d sc fnb) (hc : ClOk X T i y c o) {ss : List Stmt} {m : Exn → MS} (q : dX d sc fnb y i c o ss = some m) : SuiteOk X ss (tX T i m) := by
  intro a oe cls dd pn hz hv
  unfold dX at q
  split at q
  · rename_i x p e pos
    split at q
    · rename_i hn
      split at q
      · rename_i j mv e1 e2
        cases q
        obtain ⟨n1, n2, n3⟩ := locI_ok h e1
        refine pss_one (PS.imp (ps_set (X := X.suite a ((a, oe) :: pn)) h.nd n1 n2 (dXv_ok h hc hz hv e2) (swaps_no hn) n3) fun D σ H ⟨s, G, ρ, Z, xn, sm, ax, na, sl, r⟩ => ?_)
        cases em : mv xn with
        | none => simp only [em] at r; exact r.elim
        | some u =>
          simp only [em] at r
          exact ⟨s, G, ρ, Z, xn, u, ⟨sm, ax, na, sl⟩, em, fun v H' x' rl rv => r _ H' ρ Z x' ⟨rl, (sm.fm.ex sm.rl.zm x').set rv⟩⟩
      · cases q
    · cases q
  · rename_i x p e pos t body pos2
    split at q
    · rename_i hn
      split at q
      · rename_i j mv e1 e2 e3
        cases q
        obtain ⟨n1, n2, n3⟩ := locI_ok h e1
        have pt := tstB_ok (a := a) (oe := oe) (cls := cls) (dd := dd) (pn := pn) h hc hz hv 8 e3
        refine PSs.imp (pss_cons (ps_set (X := X.suite a ((a, oe) :: pn)) h.nd n1 n2 (dXe_ok h hc hz hv e2) (swaps_no hn) n3) (pss_one (ps_if pt PSs.any pss_nil))) fun D σ H ⟨s, G, ρ, Z, xn, sm, ax, na, sl, r⟩ => ?_
        cases em : mv xn with
        | none => simp only [em] at r; exact r.elim
        | some u =>
          simp only [em] at r
          by_cases hh : xn.cls = c ∧ xn.fs ≠ [] ∧ i ≠ some j
          · rw [if_pos hh] at r
            refine ⟨s, G, ρ, Z, xn, u, ⟨sm, ax, na, sl⟩, em, fun v rv => ?_⟩
            obtain ⟨C, c1, c2, c3⟩ := id ax
            rcases c3 with ⟨c3, _⟩ | ⟨d', fv, c4, c5, c6⟩
            · exact absurd c3 hh.2.1
            · have fm2 : Fm T ρ Z H (σ.set j (some v)) (s.set j (some u)) := sm.fm.set rv
              refine ⟨⟨s.set j (some u), G, ρ, Z, xn, d', fv, ⟨⟨sm.rl, fm2⟩, ax, na, fun l hl => ?_⟩, hh.1, c4, c5⟩, ?_⟩
              · have : j ≠ l := fun z => hh.2.2 (by rw [z]; exact hl)
                rw [List.getElem?_set_ne this]
                exact sl l hl
              · show if false = true then _ else _
                rw [if_neg Bool.false_ne_true]
                exact r _ H ρ Z Ex.refl ⟨sm.rl, fm2⟩
          · rw [if_neg hh] at r
            exact r.elim
      · cases q
    · cases q
  · rename_i e pos
    split at q
    · rename_i mv e2
      cases q
      refine pss_one (PS.imp (ps_ret (dXv_ok h hc hz hv e2)) fun D σ H ⟨s, G, ρ, Z, xn, sm, ax, na, sl, r⟩ => ?_)
      cases em : mv xn with
      | none => simp only [em] at r; exact r.elim
      | some u =>
        simp only [em] at r
        exact ⟨s, G, ρ, Z, xn, u, ⟨sm, ax, na, sl⟩, em, fun v H' x' rl rv => r v H' ρ Z x' rl rv⟩
    · cases q
  · cases q
end
end FL

/-! FL18: statements, a def's body. -/
namespace FL
open PySem L2 PyProof.Rows
/-- how many turns a while may take -/
def wF : Nat := 100000
def dSs (f : Stmt → MS) : List Stmt → MS
  | [] => nxM
  | [s] => f s
  | s :: r => seqM (f s) (dSs f r)
/-- name = a comprehension: whether its name is kept over it -/
def swB (sc : Scope) (x : Str) (p q : Pos) (scope : Scope) : Bool :=
  (if sc.kind.isAnnotationScope then ScopeKind.function else sc.kind) == .function && sc.names.lookup x == some .local && p.line == q.line && !(scope.names.any fun (n, k) => n == x && (k == .local || k == .cell))
theorem swB_eq {env : Env} {elt : Expr} {gs : List Comprehension} {scope : Scope} {pos py : Pos} {x : Str} {l : Nat} : swapsWith (.ListComp elt gs scope pos) (some (.Name x py)) l env = pure (swB env.scope x py pos scope) := rfl
def bkF (sc : Scope) : Bool := (if sc.kind.isAnnotationScope then ScopeKind.function else sc.kind) == .function
/-- a, b = e, e' : the stores from the right -/
def parB (sc : Scope) (x y : Str) (px py : Pos) (a b : Expr) : Bool :=
  bkF sc && sc.names.lookup x == some .local && sc.names.lookup y == some .local && px.line == py.line && !(x == y) && noStar a && noStar b && !([a, b].all (foldedForSure 8)) && !([a, b].all (constantsAlone 8))
def parM (i j : Nat) (ms : MA) : MS := fun s G => match ms s G with
  | .ok [u, v] G1 => .nx ((s.set i (some u)).set j (some v)) G1
  | .exc x G1 => .exc x s G1
  | _ => .bad
def slotI (d : Dn) (sc : Scope) : Option Str → Option (Option Nat)
  | none => some none
  | some n => match findI n d.N, sc.names.lookup n with
    | some i, some .local => some (some i)
    | _, _ => none
def dHs (d : Dn) (sc : Scope) (fnb : Str → Bool) : List ExceptHandler → Option (List HM)
  | [] => some []
  | .ExceptHandler (some (.Name x _)) nm (s0 :: ss) _ :: r => if glb sc x && okN x then (match d.xc.lookup x with
    | some (c, o) => (match slotI d sc nm with
      | some i => (match dX d sc fnb nm i c o (s0 :: ss), dHs d sc fnb r with
        | some m, some hs => some (⟨c, i, m⟩ :: hs)
        | _, _ => none)
      | none => none)
    | none => none) else none
  | _ => none
def dS (d : Dn) : Nat → Scope → (Str → Bool) → Stmt → MS
  | 0, _, _, _ => badS
  | n + 1, sc, fnb, st => match st with
    | .Expr (.Constant (.str _) _ _) _ => nxM
    | .Expr e _ => if noComp e then stE (dE d n sc fnb false e) (fun _ => nxM) else badS
    | .Return none _ => fun _ G => .rt .non G
    | .Return (some e) _ => stE (dE d n sc fnb d.rmu e) rtM
    | .Pass _ => nxM
    | .Break _ => bkM
    | .Continue _ => ctM
    | .If c a b _ => ifM (dT d n sc fnb c) (dSs (dS d n sc fnb) a) (dSs (dS d n sc fnb) b)
    | .While c b [] _ => whileL (dT d n sc fnb c) (dSs (dS d n sc fnb) b) wF
    | .For tg it b [] _ => if noSet it then (match dG d.N sc fnb n tg with
      | some (g, _) => forM (dI d n sc fnb it) g (dSs (dS d n sc fnb) b)
      | none => badS) else badS
    | .Assign [.Name x _] e _ => (match locI d sc fnb x with
      | some i => stE (dE d n sc fnb (d.mu.contains x) e) (setM i)
      | none => badS)
    | .Assign [.Attribute o f _] e _ => (match d.att.lookup f with
      | some (kf, cs, _) => stE2 (dE d n sc fnb (d.mu.contains f) e) (dE d n sc fnb false o) (fldM (fun c => cs.contains c) kf)
      | none => badS)
    | .Assign [.Subscript o i _] e _ => if noSlice i then stE3 (dE d n sc fnb false e) (dE d n sc fnb false o) (dE d n sc fnb false i) itemM else badS
    | .Raise (some (.Call (.Name x _) es [] _)) none _ => if glb sc x && okN x then (match d.xc.lookup x, es with
      | some (c, some kf), [e] => if noStar e then stE (dE d n sc fnb false e) (raiseM c kf) else badS
      | some (c, none), [] => fun s G => .exc ⟨c, []⟩ s G
      | _, _ => badS) else badS
    | .Try b (h :: hs) [] [] _ => (match dHs d sc fnb (h :: hs) with
      | some l => tryM d.xs (dSs (dS d n sc fnb) b) l
      | none => badS)
    | .Assign [.Tuple [.Name x px, .Name y py] _ _] (.Tuple [a, b] _ _) _ => if parB sc x y px py a b then (match findI x d.N, findI y d.N with
      | some i, some j => parM i j (consA (dE d n sc fnb false a) (consA (dE d n sc fnb false b) nilA))
      | _, _ => badS) else badS
    | .Assign [.Tuple ts k p] e _ => if notTT (.Tuple ts k p) e then (match dG d.N sc fnb n (.Tuple ts k p) with
      | some (g, _) => stE (dE d n sc fnb false e) (asgM g)
      | none => badS) else badS
    | _ => badS
structure SOk (X : Cx) (T : Tb) (W : WX) (k : Nat) (d : Dn) (sc : Scope) (fnb : Str → Bool) : Prop where
  x : XOk X T W k d sc fnb
  po : PassesOwn (model X.prog X.w) X.A X.env X.xe
  st : X.stack = X.env :: X.outer
  fr : X.env.frame = some X.env.locals
section
variable {X : Cx} {T : Tb} {W : WX} {k : Nat} {d : Dn} {sc : Scope} {fnb : Str → Bool}
theorem PS.badS {e : Stmt} : PS X e (tS T W FL.badS) := PS.bad fun _ _ => rfl
theorem dSs_ok {f : Stmt → MS} (hf : ∀ s, PS X s (tS T W (f s))) : ∀ {ss : List Stmt}, PSs X ss (tS T W (dSs f ss))
  | [] => fss_nil
  | [s] => fss_one (hf s)
  | s :: t :: r => fss_cons (hf s) (dSs_ok hf)
theorem SOk.tr (h : SOk X T W k d sc fnb) {W' : WX} {pn : List (Addr × Obj)} {xe : Value → Shared → Prop} (tk : Takes (X.tr pn xe) W') (po : PassesOwn (model X.prog X.w) X.A X.env xe) : SOk (X.tr pn xe) T W' k d sc fnb :=
  ⟨⟨h.x.N, h.x.nd, h.x.sc, h.x.fn, h.x.hT, h.x.calm, tk, h.x.room, h.x.tab⟩, po, h.st, h.fr⟩
theorem swapped_par {x y : Str} {px py pt pt2 : Pos} {kt k2 : Nat} {a b : Expr} {env : Env} (h : parB env.scope x y px py a b = true) : swappedStores [.Tuple [.Name x px, .Name y py] kt pt] (.Tuple [a, b] k2 pt2) env = pure (some [x, y]) := by
  unfold parB at h
  simp only [Bool.and_eq_true, beq_iff_eq, Bool.not_eq_true'] at h
  obtain ⟨⟨⟨⟨⟨⟨⟨⟨h1, h2⟩, h3⟩, h4⟩, h5⟩, h6⟩, h7⟩, h8⟩, h9⟩ := h
  have hb : env.blockKind = .function := by
    unfold bkF at h1
    rw [beq_iff_eq] at h1
    exact h1
  have hs : ([a, b].any fun | .Starred .. => true | _ => false) = false := by
    cases a <;> cases b <;> first | rfl | (exfalso; simp [noStar] at h6; done) | (exfalso; simp [noStar] at h7; done)
  have hx : env.kindOf x = some .local := h2
  have hy : env.kindOf y = some .local := h3
  have hxy : x ≠ y := by simpa using h5
  have hn : ([Expr.Name x px, Expr.Name y py].filterMap fun
      | .Name id pos => if env.kindOf id == some .local && pos.line == px.line then some id else none
      | _ => none) = [x, y] := by
    simp [hx, hy, h4]
  have hd : [x, y].eraseDups = [x, y] := by
    have : (y == x) = false := by simpa using Ne.symm hxy
    simp [List.eraseDups_cons, hxy, this, Ne.symm hxy]
  unfold swappedStores
  simp only [List.length_cons, List.length_nil, hb]
  rw [if_neg (by decide), if_neg (fun z => by have q := hs.symm.trans z; cases q)]
  generalize hL : List.filterMap _ [Expr.Name x px, Expr.Name y py] = L
  have e : L = [x, y] := hL.symm.trans hn
  subst e
  rw [hd, if_neg (by simp), if_neg (by rw [h8]; decide), if_neg (by rw [h9]; decide)]
/-- name = e -/
theorem set_ok (h : SOk X T W k d sc fnb) (n : Nat) {x : Str} {i : Nat} {mu : Bool} {e : Expr} {p pos : Pos} (hi : locI d sc fnb x = some i) : PS X (.Assign [.Name x p] e pos) (tS T W (stE (dE d n sc fnb mu e) (setM i))) := by
  obtain ⟨h1, h2, h3⟩ := locI_ok h.x hi
  have hE := (sndE n X T W k d sc fnb h.x).1 mu e
  by_cases hc : noComp e = true
  · exact fs_set h.x.nd h1 h2 hE (swaps_no hc) h3
  · cases e with
    | ListComp elt gs scope q =>
      cases hs : swB X.env.scope x p q scope with
      | false => exact fs_set h.x.nd h1 h2 hE (by rw [swB_eq, hs]) h3
      | true =>
        have hl : X.env.scope.names.lookup x = some .local := by
          unfold swB at hs
          simp only [Bool.and_eq_true, beq_iff_eq] at hs
          exact hs.1.1.2
        cases n with
        | zero => exact PS.bad fun _ _ => by unfold dE; rfl
        | succ n =>
          unfold dE
          split
          all_goals try (rename_i z; cases z; done)
          all_goals try (rename_i z _; cases z; done)
          · rename_i elt' tg it ifs scope' pos' heq
            cases heq
            have hsw : swapsWith (.ListComp elt [⟨tg, it, ifs, 0⟩] scope q) (some (.Name x p)) pos.line X.env = pure true := by rw [swB_eq, hs]
            split
            · rename_i hb
              rw [Bool.and_eq_true] at hb
              split
              · rename_i g ws hg
                split
                · rename_i hw
                  have hw' : ∀ j ∈ ws, j ∈ (ownOf d.N scope.names).map (·.2) := fun j hj => by
                    have := List.all_eq_true.mp hw j hj
                    simpa using this
                  have ok := blkOk_by (show blkC d.N sc _ _ = true from hb.1)
                  rw [← h.x.N, ← h.x.sc] at ok
                  have hI := (sndE n X T W k d sc fnb h.x).2.2
                  split
                  · refine fs_setLc h.x.calm h.x.nd h1 hl hsw (hI _ _) ?_ hw' (fun s H C cl fp => dG_ok (h.x.blk s H _ C cl fp) n hg) (fun s H C cl fp => ft_nil) (fun s H C cl fp => (sndE n _ T WF k d _ _ (h.x.blk s H _ C cl fp)).1 _ _) hb.2
                    rw [← h.x.N]; exact ok
                  · refine fs_setLc h.x.calm h.x.nd h1 hl hsw (hI _ _) ?_ hw' (fun s H C cl fp => dG_ok (h.x.blk s H _ C cl fp) n hg) (fun s H C cl fp => ft_one ((sndE n _ T WF k d _ _ (h.x.blk s H _ C cl fp)).2.1 _)) (fun s H C cl fp => (sndE n _ T WF k d _ _ (h.x.blk s H _ C cl fp)).1 _ _) hb.2
                    rw [← h.x.N]; exact ok
                  · exact PS.bad fun _ _ => rfl
                · exact PS.bad fun _ _ => rfl
              · exact PS.bad fun _ _ => rfl
            · exact PS.bad fun _ _ => rfl
          · exact PS.bad fun _ _ => rfl
    | _ => first | exact absurd rfl hc | (refine PS.bad fun s G => ?_; cases n <;> (unfold dE; rfl))

theorem slotI_ok (h : XOk X T W k d sc fnb) {nm : Option Str} {i : Option Nat} (e : slotI d sc nm = some i) : ∀ z, nm = some z → ∃ j, i = some j ∧ X.N[j]? = some z ∧ X.env.scope.names.lookup z = some .local := fun z hz => by
  subst hz
  simp only [slotI] at e
  split at e
  · rename_i j hj hl
    cases e
    exact ⟨j, rfl, by rw [h.N]; exact findI_ok hj, by rw [h.sc]; exact hl⟩
  · cases e
theorem slotI_none {nm : Option Str} {i : Option Nat} (e : slotI d sc nm = some i) (hn : nm = none) : i = none := by
  subst hn
  cases e
  rfl
theorem dHs_ok (h : XOk X T W k d sc fnb) : ∀ {es : List ExceptHandler} {hs : List HM}, dHs d sc fnb es = some hs → ∃ l, HAll X es l ∧ HRel T hs l
  | [], hs, e => by
    cases e
    exact ⟨[], .nil, .nil⟩
  | .ExceptHandler ty nm ss p :: r, hs, e => by
    unfold dHs at e
    split at e
    · rename_i z; cases z
    · rename_i x p1 nm' s0 ss' p' r' heq
      injection heq with heq h2
      injection heq with h3 h4 h5 h6
      subst h2
      subst h3
      subst h4
      subst h5
      split at e
      · rename_i hx
        rw [Bool.and_eq_true] at hx
        split at e
        · rename_i c o el
          obtain ⟨⟨C, g1, g2⟩, M⟩ := h.tab.xc x _ el
          split at e
          case h_2 => cases e
          rename_i i e1
          split at e
          · rename_i m hs' e2 e3
            cases e
            obtain ⟨l, a1, a2⟩ := dHs_ok h e3
            have nmx : Names X x (.ref C) := ⟨glb_ok (by rw [h.sc]; exact hx.1), okN_d hx.2, .inl g2⟩
            have cl : ClOk X T i nm c o := ⟨slotI_ok h e1, fun kf ho => by
              subst ho
              obtain ⟨C', f, q1, q2, q3, q4⟩ := M.2
              exact ⟨C', f, q1, q2, h.hT ▸ q3, h.hT ▸ q4⟩⟩
            have su := dX_ok (X := X) h cl e2
            refine ⟨⟨.ref C, i, tX T i m⟩ :: l, ?_, .cons (h := ⟨c, i, m⟩) g1 a2⟩
            cases nm with
            | none =>
              have := slotI_none e1 rfl
              subst this
              exact .no nmx su a1
            | some n =>
              obtain ⟨j, q1, q2, q3⟩ := slotI_ok h e1 n rfl
              subst q1
              exact .as nmx q2 q3 su a1
          · cases e
        · cases e
      · cases e
    · cases e
theorem fs_par {x y : Str} {px py pt pt2 pos : Pos} {kt k2 i j : Nat} {a b : Expr} {ma mb : ME} (h : XOk X T W k d sc fnb) (hp : parB sc x y px py a b = true) (hi : findI x d.N = some i) (hj : findI y d.N = some j) (ha : PE X a (tE T W ma)) (hb : PE X b (tE T W mb)) :
    PS X (.Assign [.Tuple [.Name x px, .Name y py] kt pt] (.Tuple [a, b] k2 pt2) pos) (tS T W (parM i j (consA ma (consA mb nilA)))) := by
  rw [← h.sc] at hp
  have hsw := swapped_par (kt := kt) (k2 := k2) (pt := pt) (pt2 := pt2) hp
  unfold parB at hp
  simp only [Bool.and_eq_true, beq_iff_eq, Bool.not_eq_true'] at hp
  obtain ⟨⟨⟨⟨⟨⟨⟨⟨h1, h2⟩, h3⟩, h4⟩, h5⟩, h6⟩, h7⟩, h8⟩, h9⟩ := hp
  have hxy : x ≠ y := by simpa using h5
  have n1 : X.N[i]? = some x := by rw [h.N]; exact findI_ok hi
  have n2 : X.N[j]? = some y := by rw [h.N]; exact findI_ok hj
  have hij : i ≠ j := fun z => by subst z; rw [n1] at n2; exact hxy (Option.some.inj n2)
  have hA : PA X [a, b] (tA T W (consA ma (consA mb nilA))) := fa_cons ha (fa_cons hb fa_nil (star_cons h7)) (star_cons h6)
  refine PS.imp (ps_par h.calm h.nd n1 n2 hij h2 h3 hA hsw (swaps_sole rfl)) fun D σ H ⟨s, G, ρ, Z, sm, q⟩ => ?_
  refine ⟨s, G, ρ, Z, sm, ?_⟩
  unfold parM at q
  cases e : consA ma (consA mb nilA) s G with
  | bad => rw [e] at q; exact q.elim
  | exc y G1 =>
    rw [e] at q
    exact fun cls d H' ρ' Z' x1 rl a => q cls d σ H' ρ' Z' x1 (sm.ex x1 rl) a
  | ok us G1 =>
    rw [e] at q
    intro vs H1 ρ1 Z1 x1 rl1 r1
    skip
    split at q
    · rename_i u w G2 eq
      cases eq
      obtain ⟨v1, v2, rfl, q1, q2⟩ := r1.inv2
      have fm1 := sm.fm.ex sm.rl.zm x1
      exact ⟨v1, v2, rfl, q _ H1 ρ1 Z1 x1 ⟨rl1, (fm1.set q1).set q2⟩⟩
    · rename_i eq; cases eq
    · exact q.elim
def SndS (n : Nat) : Prop := ∀ (X : Cx) (T : Tb) (W : WX) (k : Nat) (d : Dn) (sc : Scope) (fnb : Str → Bool), SOk X T W k d sc fnb → ∀ st, PS X st (tS T W (dS d n sc fnb st))
theorem sndS : ∀ n, SndS n
  | 0 => fun X T W k d sc fnb h st => by unfold dS; exact PS.badS
  | n + 1 => fun X T W k d sc fnb h st => by
    have hS := sndS n X T W k d sc fnb h
    obtain ⟨hE, hT, hI⟩ := sndE n X T W k d sc fnb h.x
    unfold dS
    split
    · exact fs_doc
    · split
      · rename_i hc
        exact fs_expr (hE _ _) hc
      · exact PS.badS
    · exact fs_retN
    · exact fs_ret (hE _ _)
    · exact fs_pass
    · exact fs_break
    · exact fs_continue
    · exact fs_if (hT _) (dSs_ok hS) (dSs_ok hS)
    · exact fs_while h.po (hT _) (dSs_ok hS)
    · split
      · rename_i hs
        split
        · rename_i g vs hg
          exact fs_for h.po h.x.calm (hI _ _) (dG_ok h.x n hg) (dSs_ok hS) hs
        · exact PS.badS
      · exact PS.badS
    · split
      · rename_i i hi
        exact set_ok h n hi
      · exact PS.badS
    · split
      · rename_i kf cs ps e
        obtain ⟨g1, g2, g3⟩ := h.x.tab.att _ _ e
        exact fs_fld h.x.tab.hat g1 (fun c hc => g2 c (by simpa using hc)) (hE _ _) (hE _ _)
      · exact PS.badS
    · split
      · rename_i hs
        exact fs_item hs (hE _ _) (hE _ _) (hE _ _)
      · exact PS.badS
    · -- raise
      rename_i x p es pos pos'
      split
      · rename_i hx
        rw [Bool.and_eq_true] at hx
        have hg : Gl X x := glb_ok (by rw [h.x.sc]; exact hx.1)
        split
        · rename_i c kf e el
          obtain ⟨_, M, _⟩ := h.x.tab.xc x _ el
          split
          · rename_i he
            exact fs_raiseI h.x.calm h.x.tk M h.x.room hg (hE _ _) (okN_d hx.2) he
          · exact PS.badS
        · rename_i c el
          obtain ⟨_, M⟩ := h.x.tab.xc x _ el
          exact fs_raise0 h.x.calm h.x.tk M hg (okN_d hx.2)
        · exact PS.badS
      · exact PS.badS
    · -- try
      split
      · rename_i l hl
        obtain ⟨l', a1, a2⟩ := dHs_ok h.x hl
        exact fs_try h.st h.fr h.x.nd h.x.tk (h.x.hT ▸ h.x.hT ▸ h.x.tab.xs) (fun W' pn xe tk po => dSs_ok (sndS n _ T W' k d sc fnb (h.tr tk po))) a1 a2
      · exact PS.badS
    · split
      · rename_i hp
        split
        · rename_i i j hi hj
          exact fs_par h.x hp hi hj (hE _ _) (hE _ _)
        · exact PS.badS
      · exact PS.badS
    · split
      · rename_i hn
        split
        · rename_i g vs hg
          exact fs_asg (hE _ _) (dG_ok h.x n hg) rfl hn rfl
        · exact PS.badS
      · exact PS.badS
    · exact PS.badS

/-! ### a def's body -/
def fnT : Str → Bool := fun _ => true
def startS (N : List Str) (us : List U) : Sg := us.map some ++ List.replicate (N.length - us.length) none
def runR : Rt → Rs U
  | .nx _ G => .ok .non G
  | .rt u G => .ok u G
  | .exc x _ G => .exc x G
  | _ => .bad
def runB (d : Dn) (n : Nat) (st : Stmt) : RunD := fun us G => runR (dSs (dS d n (defScope st) fnT) (defBody st) (startS d.N us) G)
theorem start_fm {N : List Str} {ρ : List Addr} {Z : Addr → Prop} {H : Hp} {vs : List V} {us : List U} (r : Reps T ρ Z H vs us) : Fm T ρ Z H (L2.start N vs) (startS N us) := by
  refine ⟨by unfold L2.start startS; simp [r.length], fun i u e => ?_⟩
  unfold startS at e
  unfold L2.start
  by_cases hi : i < us.length
  · rw [List.getElem?_append_left (by simpa using hi), List.getElem?_map] at e
    rw [List.getElem?_append_left (by simpa [r.length] using hi), List.getElem?_map]
    cases e2 : us[i]? with
    | none => rw [e2] at e; cases e
    | some u' =>
      rw [e2] at e
      cases e
      obtain ⟨v, h1, h2⟩ := r.get e2
      exact ⟨v, by rw [h1]; rfl, h2⟩
  · rw [List.getElem?_append_right (by simpa using hi), List.getElem?_replicate] at e
    split at e <;> cases e
section
variable {P : Program} {w : World} {K : PySem.W.Frag} {mg : Str → Option Value} {base : Heap}
theorem fn_body {x qual : Str} {st : Stmt} {f : Addr} {fd : FuncData} {ps : List Str} {n : Nat} (F : Fun K x qual st f fd) (S : FnScope d.N ps (defScope st)) (hT : K = T.K) (tab : TabOk P w K mg base T k d) : FnOk P w K mg base (L2.CX P w) (k + 2) f fd ps (spD T ps.length (runB d n st)) := by
  refine F.okX S (fun vs H Q E ⟨us, G, ρ, Z, rl, r, hl, _⟩ => r.length.trans hl) fun cdv A outer s H vs Q E hr hsp => ?_
  obtain ⟨us, G, ρ, Z, rl, r, hl, q⟩ := hsp
  have so : SOk (cxOf (L2.CX P w) P w K mg base d.N qual (defScope st) f cdv A outer s H E) T (fun cls d _ H => E cls d H) k d (defScope st) fnT :=
    ⟨⟨rfl, S.nd, rfl, rfl, hT, rfl, takes_of rfl rfl rfl rfl, hr, tab⟩, passes_of rfl, rfl, rfl⟩
  refine ⟨_, dSs_ok (sndS n _ T _ k d _ _ so), startS d.N us, G, ρ, Z, ⟨rl, start_fm r⟩, ?_⟩
  unfold runB at q
  cases e : dSs (dS d n (defScope st) fnT) (defBody st) (startS d.N us) G with
  | nx s' G' => rw [e] at q; exact fun σ' H' ρ' Z' x sm => q _ H' ρ' Z' x sm.rl .non
  | rt u G' => rw [e] at q; exact fun v H' ρ' Z' x rl' rv => q v H' ρ' Z' x rl' rv
  | exc y s' G' => rw [e] at q; exact fun cls d σ' H' ρ' Z' x sm a => q cls d H' ρ' Z' x sm.rl a
  | bk s' G' => rw [e] at q; exact q.elim
  | ct s' G' => rw [e] at q; exact q.elim
  | bad => rw [e] at q; exact q.elim
theorem def_body {x qual : Str} {st : Stmt} {f : Addr} {fd : FuncData} {ps : List Str} {n : Nat} (F : Fun K x qual st f fd) (S : FnScope d.N ps (defScope st)) (b : Binds K fd ps []) (hT : K = T.K) (tab : TabOk P w K mg base T k d) : DefOk P w K mg base T (k + 2) f ps.length (runB d n st) :=
  ⟨fd, ps, b, rfl, fn_body F S hT tab⟩
/-! ### promises weakened -/
/-- r' promises no more than r -/
def Le (r' r : RunD) : Prop := ∀ us G, r' us G = .bad ∨ r' us G = r us G
theorem spD_le {n : Nat} {r r' : RunD} (h : Le r' r) (vs : List V) (H : Hp) (Q : VK) (E : XK) (q : spD T n r' vs H Q E) : spD T n r vs H Q E := by
  obtain ⟨us, G, ρ, Z, rl, rp, hl, q⟩ := q
  refine ⟨us, G, ρ, Z, rl, rp, hl, ?_⟩
  rcases h us G with e | e
  · rw [e] at q; exact q.elim
  · rw [← e]; exact q
theorem DefOk.le {f : Addr} {n : Nat} {r r' : RunD} (F : DefOk P w K mg base T k f n r) (h : Le r' r) : DefOk P w K mg base T k f n r' := by
  obtain ⟨fd, ps, b, hl, F⟩ := F.ex
  exact ⟨fd, ps, b, hl, F.imp fun vs H Q E q => spD_le h vs H Q E q⟩
theorem DefOk.mono {f : Addr} {n j : Nat} {r : RunD} (F : DefOk P w K mg base T j f n r) (h : j ≤ k) : DefOk P w K mg base T k f n r := by
  obtain ⟨fd, ps, b, hl, F⟩ := F.ex
  exact ⟨fd, ps, b, hl, F.mono h⟩
end
end
end FL

/-! FL19: new cells that nobody else holds: frozen, forgotten. -/
namespace FL
open PySem L2 PyProof.Rows
mutual
/-- the references all below n -/
def bdU (n : Nat) : U → Bool
  | .ref i => decide (i < n)
  | .tup l => bdUs n l
  | .lst l => bdUs n l
  | .sc l => bdUs n l
  | .dct l => bdK n l
  | .ins _ l => bdF n l
  | .non => true
  | .bl _ => true
  | .int _ => true
  | .str _ => true
def bdUs (n : Nat) : List U → Bool
  | [] => true
  | x :: r => bdU n x && bdUs n r
def bdK (n : Nat) : List (U × U) → Bool
  | [] => true
  | (_, x) :: r => bdU n x && bdK n r
def bdF (n : Nat) : List (Nat × U) → Bool
  | [] => true
  | (_, x) :: r => bdU n x && bdF n r
end
def bdO (n : Nat) : Ob → Bool
  | .dead => true
  | .lst l => bdUs n l
  | .dct l => bdK n l
  | .ins _ l => bdF n l
mutual
/-- the references replaced -/
def mapU (f : Nat → Option U) : U → Option U
  | .ref i => f i
  | .tup l => (mapUs f l).map .tup
  | .lst l => (mapUs f l).map .lst
  | .sc l => (mapUs f l).map .sc
  | .dct l => (mapK f l).map .dct
  | .ins c l => (mapF f l).map (.ins c)
  | .non => some .non
  | .bl b => some (.bl b)
  | .int i => some (.int i)
  | .str l => some (.str l)
def mapUs (f : Nat → Option U) : List U → Option (List U)
  | [] => some []
  | x :: r => match mapU f x, mapUs f r with
    | some a, some b => some (a :: b)
    | _, _ => none
def mapK (f : Nat → Option U) : List (U × U) → Option (List (U × U))
  | [] => some []
  | (k, x) :: r => match mapU f x, mapK f r with
    | some a, some b => some ((k, a) :: b)
    | _, _ => none
def mapF (f : Nat → Option U) : List (Nat × U) → Option (List (Nat × U))
  | [] => some []
  | (k, x) :: r => match mapU f x, mapF f r with
    | some a, some b => some ((k, a) :: b)
    | _, _ => none
end
/-- a cell from n on, as it stands -/
def refF (n : Nat) (G : List Ob) : Nat → Nat → Option U
  | 0, i => if i < n then some (.ref i) else none
  | k + 1, i => if i < n then some (.ref i) else match G[i]? with
    | some (.lst l) => (mapUs (refF n G k) l).map .lst
    | some (.dct l) => (mapK (refF n G k) l).map .dct
    | some (.ins c l) => (mapF (refF n G k) l).map (.ins c)
    | _ => none
def frzU (n : Nat) (G : List Ob) (u : U) : Option U := mapU (refF n G 6) u
section
variable {T : Tb} {ρ t : List Addr} {Z Z' Z1 : Addr → Prop} {H H' : Hp}
mutual
theorem rep_bd : ∀ {v : V} {u : U}, Rep T ρ Z H v u → bdU ρ.length u = true
  | _, _, .non => rfl
  | _, _, .bl b => rfl
  | _, _, .int i => rfl
  | _, _, .str l => rfl
  | _, _, .tup h r => by unfold bdU; exact reps_bd r
  | _, _, .lst h z r => by unfold bdU; exact reps_bd r
  | _, _, .sc h r => by unfold bdU; exact reps_bd r
  | _, _, .dct h z r => by unfold bdU; exact repk_bd r
  | _, _, .ins h z c r => by unfold bdU; exact repf_bd r
  | _, _, .ref h => by unfold bdU; exact decide_eq_true (List.getElem?_eq_some_iff.mp h).1
theorem reps_bd : ∀ {v : List V} {u : List U}, Reps T ρ Z H v u → bdUs ρ.length u = true
  | _, _, .nil => rfl
  | _, _, .cons r q => by unfold bdUs; rw [rep_bd r, reps_bd q]; rfl
theorem repf_bd : ∀ {v : List (Str × V)} {u : List (Nat × U)}, RepF T ρ Z H v u → bdF ρ.length u = true
  | _, _, .nil => rfl
  | _, _, .cons e r q => by unfold bdF; rw [rep_bd r, repf_bd q]; rfl
theorem repk_bd : ∀ {v : List (Key × V)} {u : List (U × U)}, RepK T ρ Z H v u → bdK ρ.length u = true
  | _, _, .nil => rfl
  | _, _, .cons r q => by unfold bdK; rw [rep_bd r, repk_bd q]; rfl
end
mutual
theorem rep_cut (hz : ∀ a, Z1 a → Z' a) : ∀ {v : V} {u : U}, Rep T (ρ ++ t) Z' H' v u → bdU ρ.length u = true → Rep T ρ Z1 H' v u
  | _, _, .non, _ => .non
  | _, _, .bl b, _ => .bl b
  | _, _, .int i, _ => .int i
  | _, _, .str l, _ => .str l
  | _, _, .tup h r, e => .tup h (reps_cut hz r (by unfold bdU at e; exact e))
  | _, _, .lst h z r, e => .lst h (fun q => z (hz _ q)) (reps_cut hz r (by unfold bdU at e; exact e))
  | _, _, .sc h r, e => .sc (h.imp (fun q => ⟨q.1, fun z => q.2 (hz _ z)⟩) id) (reps_cut hz r (by unfold bdU at e; exact e))
  | _, _, .dct h z r, e => .dct h (fun q => z (hz _ q)) (repk_cut hz r (by unfold bdU at e; exact e))
  | _, _, .ins h z c r, e => .ins h (fun q => z (hz _ q)) c (repf_cut hz r (by unfold bdU at e; exact e))
  | _, _, .ref h, e => .ref (by unfold bdU at e; rw [List.getElem?_append_left (of_decide_eq_true e)] at h; exact h)
theorem reps_cut (hz : ∀ a, Z1 a → Z' a) : ∀ {v : List V} {u : List U}, Reps T (ρ ++ t) Z' H' v u → bdUs ρ.length u = true → Reps T ρ Z1 H' v u
  | _, _, .nil, _ => .nil
  | _, _, .cons r q, e => by
    unfold bdUs at e
    rw [Bool.and_eq_true] at e
    exact .cons (rep_cut hz r e.1) (reps_cut hz q e.2)
theorem repf_cut (hz : ∀ a, Z1 a → Z' a) : ∀ {v : List (Str × V)} {u : List (Nat × U)}, RepF T (ρ ++ t) Z' H' v u → bdF ρ.length u = true → RepF T ρ Z1 H' v u
  | _, _, .nil, _ => .nil
  | _, _, .cons h r q, e => by
    unfold bdF at e
    rw [Bool.and_eq_true] at e
    exact .cons h (rep_cut hz r e.1) (repf_cut hz q e.2)
theorem repk_cut (hz : ∀ a, Z1 a → Z' a) : ∀ {v : List (Key × V)} {u : List (U × U)}, RepK T (ρ ++ t) Z' H' v u → bdK ρ.length u = true → RepK T ρ Z1 H' v u
  | _, _, .nil, _ => .nil
  | _, _, .cons r q, e => by
    unfold bdK at e
    rw [Bool.and_eq_true] at e
    exact .cons (rep_cut hz r e.1) (repk_cut hz q e.2)
end
variable {ρ' : List Addr}
mutual
theorem rep_map {f : Nat → Option U} (hz : ∀ a, Z1 a → Z' a) (hf : ∀ i a w, ρ'[i]? = some a → f i = some w → Rep T ρ Z1 H' (.ref a) w) : ∀ {v : V} {u w : U}, Rep T ρ' Z' H' v u → mapU f u = some w → Rep T ρ Z1 H' v w
  | _, _, _, .non, e => by cases e; exact .non
  | _, _, _, .bl b, e => by cases e; exact .bl b
  | _, _, _, .int i, e => by cases e; exact .int i
  | _, _, _, .str l, e => by cases e; exact .str l
  | _, _, _, .tup (us := us) h r, e => by
    unfold mapU at e
    obtain ⟨ws, e2, e3⟩ := Option.map_eq_some_iff.mp e
    subst e3
    exact .tup h (reps_map hz hf r e2)
  | _, _, _, .lst (us := us) h z r, e => by
    unfold mapU at e
    obtain ⟨ws, e2, e3⟩ := Option.map_eq_some_iff.mp e
    subst e3
    exact .lst h (fun q => z (hz _ q)) (reps_map hz hf r e2)
  | _, _, _, .sc h r, e => by
    unfold mapU at e
    obtain ⟨ws, e2, e3⟩ := Option.map_eq_some_iff.mp e
    subst e3
    exact .sc (h.imp (fun q => ⟨q.1, fun z => q.2 (hz _ z)⟩) id) (reps_map hz hf r e2)
  | _, _, _, .dct h z r, e => by
    unfold mapU at e
    obtain ⟨ws, e2, e3⟩ := Option.map_eq_some_iff.mp e
    subst e3
    exact .dct h (fun q => z (hz _ q)) (repk_map hz hf r e2)
  | _, _, _, .ins h z c r, e => by
    unfold mapU at e
    obtain ⟨ws, e2, e3⟩ := Option.map_eq_some_iff.mp e
    subst e3
    exact .ins h (fun q => z (hz _ q)) c (repf_map hz hf r e2)
  | _, _, _, .ref h, e => hf _ _ _ h e
theorem reps_map {f : Nat → Option U} (hz : ∀ a, Z1 a → Z' a) (hf : ∀ i a w, ρ'[i]? = some a → f i = some w → Rep T ρ Z1 H' (.ref a) w) : ∀ {v : List V} {u w : List U}, Reps T ρ' Z' H' v u → mapUs f u = some w → Reps T ρ Z1 H' v w
  | _, _, _, .nil, e => by cases e; exact .nil
  | _, _, _, .cons r q, e => by
    unfold mapUs at e
    split at e
    · rename_i e1 e2
      cases e
      exact .cons (rep_map hz hf r e1) (reps_map hz hf q e2)
    · cases e
theorem repf_map {f : Nat → Option U} (hz : ∀ a, Z1 a → Z' a) (hf : ∀ i a w, ρ'[i]? = some a → f i = some w → Rep T ρ Z1 H' (.ref a) w) : ∀ {v : List (Str × V)} {u w : List (Nat × U)}, RepF T ρ' Z' H' v u → mapF f u = some w → RepF T ρ Z1 H' v w
  | _, _, _, .nil, e => by cases e; exact .nil
  | _, _, _, .cons h r q, e => by
    unfold mapF at e
    split at e
    · rename_i e1 e2
      cases e
      exact .cons h (rep_map hz hf r e1) (repf_map hz hf q e2)
    · cases e
theorem repk_map {f : Nat → Option U} (hz : ∀ a, Z1 a → Z' a) (hf : ∀ i a w, ρ'[i]? = some a → f i = some w → Rep T ρ Z1 H' (.ref a) w) : ∀ {v : List (Key × V)} {u w : List (U × U)}, RepK T ρ' Z' H' v u → mapK f u = some w → RepK T ρ Z1 H' v w
  | _, _, _, .nil, e => by cases e; exact .nil
  | _, _, _, .cons r q, e => by
    unfold mapK at e
    split at e
    · rename_i e1 e2
      cases e
      exact .cons (rep_map hz hf r e1) (repk_map hz hf q e2)
    · cases e
end
/-- the cells from ρ on are no cells any more -/
def zDrop (Z' : Addr → Prop) (t : List Addr) : Addr → Prop := fun a => Z' a ∧ a ∉ t
theorem refF_ok {G' : List Ob} (rl : Rl T (ρ ++ t) Z' G' H') : ∀ (k i : Nat) (a : Addr) (w : U), (ρ ++ t)[i]? = some a → refF ρ.length G' k i = some w → Rep T ρ (zDrop Z' t) H' (.ref a) w
  | 0, i, a, w, h, e => by
    unfold refF at e
    split at e
    · rename_i hi
      cases e
      rw [List.getElem?_append_left hi] at h
      exact .ref h
    · cases e
  | k + 1, i, a, w, h, e => by
    unfold refF at e
    split at e
    · rename_i hi
      cases e
      rw [List.getElem?_append_left hi] at h
      exact .ref h
    · rename_i hi
      have ht : a ∈ t := by
        rw [List.getElem?_append_right (Nat.le_of_not_lt hi)] at h
        exact List.mem_of_getElem? h
      split at e
      · rename_i l g
        obtain ⟨ws, e2, e3⟩ := Option.map_eq_some_iff.mp e
        subst e3
        obtain ⟨_, vs, h1, h2⟩ := rl.ob i a _ h g
        exact .lst h1 (fun z => z.2 ht) (reps_map (fun _ z => z.1) (refF_ok rl k) h2 e2)
      · rename_i l g
        obtain ⟨ws, e2, e3⟩ := Option.map_eq_some_iff.mp e
        subst e3
        obtain ⟨_, vs, h1, h2⟩ := rl.ob i a _ h g
        exact .dct h1 (fun z => z.2 ht) (repk_map (fun _ z => z.1) (refF_ok rl k) h2 e2)
      · rename_i c l g
        obtain ⟨ws, e2, e3⟩ := Option.map_eq_some_iff.mp e
        subst e3
        obtain ⟨_, C, dx, vs, h1, h2, h3⟩ := rl.ob i a _ h g
        exact .ins h1 (fun z => z.2 ht) h2 (repf_map (fun _ z => z.1) (refF_ok rl k) h3 e2)
      · cases e
/-- the old cells, and others that nobody asks for -/
def CutG (G G' G1 : List Ob) : Prop := (∃ g, G' = G1 ++ g) ∧ G1.length = G.length ∧ ∀ (i : Nat) (o : Ob), G1[i]? = some o → G[i]? = some o ∨ bdO G.length o = true
theorem cut_rl {G G' G1 : List Ob} (rl : Rl T ρ Z G H) (rl' : Rl T (ρ ++ t) Z' G' H') (c : CutG G G' G1) : Rl T ρ (zDrop Z' t) G1 H' := by
  obtain ⟨⟨g, eg⟩, hl, hc⟩ := c
  refine ⟨by rw [hl]; exact rl.len, rl.nd, fun a z => rl'.zm a z.1, fun a h => rl'.trk a (List.mem_append_left _ h), fun i a o h h1 => ?_⟩
  have hi : i < ρ.length := (List.getElem?_eq_some_iff.mp h).1
  have h' : (ρ ++ t)[i]? = some a := by rw [List.getElem?_append_left hi]; exact h
  have g' : G'[i]? = some o := by
    rw [eg, List.getElem?_append_left (List.getElem?_eq_some_iff.mp h1).1]
    exact h1
  have ho := rl'.ob i a o h' g'
  have hb : bdO ρ.length o = true := by
    rcases hc i o h1 with e | e
    · have := rl.ob i a o h e
      cases o with
      | dead => rfl
      | lst us => obtain ⟨_, vs, _, r⟩ := this; exact reps_bd r
      | dct us => obtain ⟨_, vs, _, r⟩ := this; exact repk_bd r
      | ins c us => obtain ⟨_, _, _, vs, _, _, r⟩ := this; exact repf_bd r
    · rw [rl.len]; exact e
  have nt : a ∉ t := fun ht => by
    have nd := rl'.nd
    rw [List.nodup_append] at nd
    exact nd.2.2 a (List.mem_of_getElem? h) a ht rfl
  cases o with
  | dead => trivial
  | lst us => obtain ⟨z, vs, h1, r⟩ := ho; exact ⟨⟨z, nt⟩, vs, h1, reps_cut (fun _ z => z.1) r hb⟩
  | dct us => obtain ⟨z, vs, h1, r⟩ := ho; exact ⟨⟨z, nt⟩, vs, h1, repk_cut (fun _ z => z.1) r hb⟩
  | ins c us => obtain ⟨z, C, dx, vs, h1, h2, r⟩ := ho; exact ⟨⟨z, nt⟩, C, dx, vs, h1, h2, repf_cut (fun _ z => z.1) r hb⟩
theorem cut_ex (x : Ex ρ Z H (ρ ++ t) Z' H') : Ex ρ Z H ρ (zDrop Z' t) H' :=
  ⟨⟨[], by simp⟩, fun a o h z => ⟨(x.fz a o h z).1, fun q => (x.fz a o h z).2 q.1⟩, fun a o h z n => ⟨(x.ou a o h z n).1, ⟨(x.ou a o h z n).2.1, fun q => (x.ou a o h z n).2.2 (List.mem_append_right _ q)⟩, n⟩, x.th⟩
/-- what is left of a result when the new cells are frozen -/
def Cut (G : List Ob) : Rs U → Rs U → Prop
  | .ok u1 G1, .ok u G' => frzU G.length G' u = some u1 ∧ CutG G G' G1
  | .exc x1 G1, .exc x G' => x1 = x ∧ CutG G G' G1
  | _, _ => False
theorem cut_rd {G : List Ob} {Q : VK} {E : XK} {r1 r : Rs U} (rl : Rl T ρ Z G H) (c : Cut G r1 r) (h : RD T H ρ Z Q E r1) : RD T H ρ Z Q E r := by
  cases r with
  | bad => cases r1 <;> exact c.elim
  | ok u G' =>
    cases r1 with
    | ok u1 G1 =>
      intro v H' ρ' Z' x rl' rv
      obtain ⟨t, e⟩ := x.pre
      subst e
      obtain ⟨c1, c2⟩ := c
      unfold frzU at c1
      rw [← rl.len] at c1
      exact h v H' ρ (zDrop Z' t) (cut_ex x) (cut_rl rl rl' c2) (rep_map (fun _ z => z.1) (refF_ok rl' 6) rv c1)
    | _ => exact c.elim
  | exc y G' =>
    cases r1 with
    | exc y1 G1 =>
      intro cls d H' ρ' Z' x rl' a
      obtain ⟨t, e⟩ := x.pre
      subst e
      obtain ⟨c1, c2⟩ := c
      subst c1
      exact h cls d H' ρ (zDrop Z' t) (cut_ex x) (cut_rl rl rl' c2) a
    | _ => exact c.elim
/-- r' promises no more than r, new cells frozen -/
def LeC (r' r : RunD) : Prop := ∀ us G, r' us G = .bad ∨ r' us G = r us G ∨ Cut G (r' us G) (r us G)
theorem spD_leC {n : Nat} {r r' : RunD} (h : LeC r' r) (vs : List V) (H : Hp) (Q : VK) (E : XK) (q : spD T n r' vs H Q E) : spD T n r vs H Q E := by
  obtain ⟨us, G, ρ, Z, rl, rp, hl, q⟩ := q
  refine ⟨us, G, ρ, Z, rl, rp, hl, ?_⟩
  rcases h us G with e | e | e
  · rw [e] at q; exact q.elim
  · rw [← e]; exact q
  · exact cut_rd rl e q
theorem FnOk.leC {P : Program} {w : World} {K : PySem.W.Frag} {mg : Str → Option Value} {base : Heap} {CX : CXT} {k n : Nat} {f : Addr} {fd : FuncData} {ps : List Str} {r r' : RunD} (F : FnOk P w K mg base CX k f fd ps (spD T n r)) (h : LeC r' r) : FnOk P w K mg base CX k f fd ps (spD T n r') :=
  F.imp fun vs H Q E q => spD_leC h vs H Q E q
theorem DefOk.leC {P : Program} {w : World} {K : PySem.W.Frag} {mg : Str → Option Value} {base : Heap} {k n : Nat} {f : Addr} {r r' : RunD} (F : DefOk P w K mg base T k f n r) (h : LeC r' r) : DefOk P w K mg base T k f n r' := by
  obtain ⟨fd, ps, b, hl, F⟩ := F.ex
  exact ⟨fd, ps, b, hl, FnOk.leC F h⟩
end
end FL

/-! FL20: the facts of the text, by one check; tables by their rows. -/
namespace FL
open PySem L2 PyProof.Rows
section
variable {K : PySem.W.Frag} {T : Tb}
def clsB (K : PySem.W.Frag) (C : Addr) : Bool :=
  PySem.W.plainGet K C Str.empty && PySem.W.hasDictIn K C && PySem.W.plainOver K C && decide (PySem.W.findIn K (.ref C) "__setattr__" = some (some (.builtin "object.__setattr__")))
theorem clsB_ok {C : Addr} (h : clsB K C = true) : Cls K C := by
  unfold clsB at h
  simp only [Bool.and_eq_true, decide_eq_true_eq] at h
  exact ⟨h.1.1.1, h.1.1.2, h.1.2, h.2⟩
def insB (K : PySem.W.Frag) (C : Addr) : Bool :=
  clsB K C && decide (PySem.W.findIn K (.ref C) "__class__" = some (some (.builtin "object.__class__"))) && decide (PySem.W.specialIn K (.builtin "object.__class__") "__get__" = some (some (.builtin "getset_descriptor.__get__"))) &&
    decide (PySem.W.takesIn K (.builtin "object.__class__") = some true) && decide (PySem.W.mroIn K C (.type "object") = some true)
theorem insB_ok {C : Addr} (h : insB K C = true) : InsT K C := by
  unfold insB at h
  simp only [Bool.and_eq_true, decide_eq_true_eq] at h
  exact ⟨clsB_ok h.1.1.1.1, h.1.1.1.2, h.1.1.2, h.1.2, h.2⟩
def tys : List Ty := [.non, .bl, .int, .str, .lst, .tup, .dct]
theorem tys_all (b : Ty) : b ∈ tys := by cases b <;> decide
/-- isinstance of and by own classes -/
def isiB (K : PySem.W.Frag) (Cs : List Addr) (cls : List Nat) : Bool := cls.all fun c => match Cs[c]? with
  | some C => insB K C && (tys.all fun b => decide (b = .non) || decide (PySem.W.kitOne K (.ref C) (.type b.name) = some false)) && (tys.all fun b => decide (PySem.W.kitOne K (.type b.name) (.ref C) = some false)) &&
      cls.all fun c' => match Cs[c']? with
        | some C' => decide (PySem.W.kitOne K (.ref C) (.ref C') = some (decide (c = c')))
        | none => false
  | none => false
theorem isiB_ok {cls : List Nat} (h : isiB K T.cls cls = true) : IsiOk K T cls := by
  have key : ∀ c ∈ cls, ∀ C, T.cls[c]? = some C → (insB K C && (tys.all fun b => decide (b = .non) || decide (PySem.W.kitOne K (.ref C) (.type b.name) = some false)) && (tys.all fun b => decide (PySem.W.kitOne K (.type b.name) (.ref C) = some false)) &&
      cls.all fun c' => match T.cls[c']? with
        | some C' => decide (PySem.W.kitOne K (.ref C) (.ref C') = some (decide (c = c')))
        | none => false) = true := fun c hc C hC => by
    have := List.all_eq_true.mp h c hc
    rw [hC] at this
    exact this
  simp only [Bool.and_eq_true, List.all_eq_true] at key
  refine ⟨fun c hc C hC => insB_ok (key c hc C hC).1.1.1, fun c hc C hC b hb => ?_, fun c hc C hC b => of_decide_eq_true ((key c hc C hC).1.2 b (tys_all b)), fun c hc c' hc' C C' hC hC' => ?_⟩
  · have := (key c hc C hC).1.1.2 b (tys_all b)
    rw [Bool.or_eq_true] at this
    rcases this with z | z
    · exact absurd (of_decide_eq_true z) hb
    · exact of_decide_eq_true z
  · have := (key c hc C hC).2 c' hc'
    rw [hC'] at this
    exact of_decide_eq_true this
/-- the attributes and the classes in which they are fields -/
def fldB (K : PySem.W.Frag) (Cs : List Addr) (l : List (Str × List Nat)) : Bool := l.all fun p => p.2.all fun c => match Cs[c]? with
  | some C => clsB K C && decide (PySem.W.findIn K (.ref C) p.1 = some none)
  | none => false
theorem fldB_ok {l : List (Str × List Nat)} (h : fldB K T.cls l = true) {f : Str} {cs : List Nat} (hm : (f, cs) ∈ l) : ∀ c ∈ cs, FldOk K T c f := fun c hc => by
  have := List.all_eq_true.mp (List.all_eq_true.mp h _ hm) c hc
  cases e : T.cls[c]? with
  | none => rw [e] at this; cases this
  | some C =>
    rw [e] at this
    simp only [Bool.and_eq_true, decide_eq_true_eq] at this
    exact ⟨C, e, clsB_ok this.1, this.2⟩
/-! ### tables by their rows -/
def All2 {α β : Type} (p : α → β → Prop) : List (α × β) → Prop
  | [] => True
  | (a, b) :: r => p a b ∧ All2 p r
theorem All2.at {α β : Type} [BEq α] [LawfulBEq α] {p : α → β → Prop} : ∀ {l : List (α × β)}, All2 p l → ∀ a b, l.lookup a = some b → p a b
  | [], _, _, _, e => by cases e
  | (x, y) :: r, h, a, b, e => by
    rw [List.lookup_cons] at e
    by_cases z : a = x
    · subst z
      simp at e
      subst e
      exact h.1
    · have : (a == x) = false := by simpa using z
      rw [this] at e
      exact h.2.at a b e
theorem att_of {l : List Str} (h : l.Nodup) (K : PySem.W.Frag) (Cs : List Addr) : AttOk ⟨K, Cs, l⟩ := fun i j f hi hj => by
  obtain ⟨l1, e1⟩ := List.getElem?_eq_some_iff.mp (show l[i]? = some f from hi)
  obtain ⟨l2, e2⟩ := List.getElem?_eq_some_iff.mp (show l[j]? = some f from hj)
  exact (List.getElem_inj h).mp (e1.trans e2.symm)
section
variable {P : Program} {w : World} {mg : Str → Option Value} {base : Heap} {k : Nat} {d : Dn}
theorem tab_mk (hat : AttOk T) (hgl : All2 (GvOk P w K mg base T k) d.gl) (hbl : ∀ x, x ∈ d.bl → mg x = none) (hty : All2 (fun x c => ∃ C, T.cls[c]? = some C ∧ mg x = some (.ref C)) d.ty) (hisi : IsiOk K T d.cls)
    (hatt : All2 (fun f z => T.att[z.1]? = some f ∧ (∀ c ∈ z.2.1, FldOk K T c f) ∧ All2 (fun c r => PropOk P w K mg base T k c f r) z.2.2) d.att) (hmth : All2 (fun m z => z.2 ≠ [] ∧ All2 (fun c nr => MethOk P w K mg base T k c m z.1 nr.1 nr.2) z.2) d.mth)
    (heq : All2 (fun c r => EqOk P w K mg base T k c r) d.eqt) (hxc : All2 (fun x z => XcOk P w K mg base T k x z) d.xc) (hxs : XsOk K T d.xs) (hxi : XiOk K T d.xi) : TabOk P w K mg base T k d :=
  ⟨hat, fun x g e => hgl.at x g e, hbl, fun x c e => hty.at x c e, hisi, fun f z e => let ⟨a, b, c⟩ := hatt.at f z e; ⟨a, b, fun c' r e' => c.at c' r e'⟩, fun m z e => let ⟨a, b⟩ := hmth.at m z e; ⟨a, fun c n r e' => b.at c (n, r) e'⟩, fun c r e => heq.at c r e, fun x z e => hxc.at x z e, hxs, hxi⟩
end
/-- keywords told in their order -/
theorem kbn_of {x qual : Str} {st : Stmt} {f : Addr} {fd : FuncData} {ps ks : List Str} {n : Nat} (F : Fun K x qual st f fd)
    (h : ∀ (kV doc pm : Value) (an : Option Addr) (cdv ct : Value) (us ws : List Value), us.length = n → ws.length = ks.length → bindArgs (PySem.W.fnOf x qual (defArgs st) (defBody st) (defScope st) .none kV doc pm an cdv ct) ⟨us, ks.zip ws⟩ = pure (ps.zip (us ++ ws))) :
    KBn K fd ps n ks (fun us ws => us ++ ws) (fun vs zs => vs ++ zs) := by
  obtain ⟨oc, od, kV, doc, pm, an, cdv, ct, osl, rfl, lk, hcd⟩ := F.ex
  exact ⟨fun s us ws _ l1 l2 => .of_eq (h kV doc pm an cdv ct us ws l1 l2), fun r1 r2 => r1.append r2⟩
end
end FL

/-! FL21: evaluation of the combinators, for plain proofs. -/
namespace FL
open PySem L2 PyProof.Rows
abbrev tx (s : String) : List Nat := (Str.ofString s).cps.toList
@[simp] theorem SS_beq (a b : List Nat) : (SS a == SS b) = (a == b) := by
  have := PyProof.Rows.toList_beq (SS a) (SS b)
  rw [tl_SS, tl_SS] at this
  exact this.symm
/-- item by item -/
theorem compL_map {b : Itb} {g : MG} {t : MT} {e : ME} {s0 : Sg} {G : List Ob} {h : U → U} : ∀ (l : List U) (k : Nat), (∀ i, itAt b G (k + i) = some l[i]?) → (∀ u ∈ l, ∃ s1, g u s0 = some s1 ∧ t s1 G = .ok true G ∧ e s1 G = .ok (h u) G) → compL b g t e s0 l.length k G = some (l.map h, G)
  | [], k, hi, _ => by
    have := hi 0
    simp at this
    simp [compL, this]
  | x :: r, k, hi, hh => by
    obtain ⟨s1, h1, h2, h3⟩ := hh x (.head _)
    have h0 := hi 0
    simp at h0
    have ih := compL_map (b := b) (g := g) (t := t) (e := e) (s0 := s0) (G := G) (h := h) r (k + 1) (fun i => by have := hi (i + 1); simp at this; rw [show k + 1 + i = k + (i + 1) by omega]; exact this) (fun u hu => hh u (.tail _ hu))
    simp [compL, h0, h1, h2, h3, ih]
/-- .. those that pass a test -/
theorem compL_filter {b : Itb} {g : MG} {t : MT} {e : ME} {s0 : Sg} {G : List Ob} {h : U → U} {p : U → Bool} : ∀ (l : List U) (k : Nat), (∀ i, itAt b G (k + i) = some l[i]?) → (∀ u ∈ l, ∃ s1, g u s0 = some s1 ∧ t s1 G = .ok (p u) G ∧ (p u = true → e s1 G = .ok (h u) G)) → compL b g t e s0 l.length k G = some ((l.filter p).map h, G)
  | [], k, hi, _ => by
    have := hi 0
    simp at this
    simp [compL, this]
  | x :: r, k, hi, hh => by
    obtain ⟨s1, h1, h2, h3⟩ := hh x (.head _)
    have h0 := hi 0
    simp at h0
    have ih := compL_filter (b := b) (g := g) (t := t) (e := e) (s0 := s0) (G := G) (h := h) (p := p) r (k + 1) (fun i => by have := hi (i + 1); simp at this; rw [show k + 1 + i = k + (i + 1) by omega]; exact this) (fun u hu => hh u (.tail _ hu))
    cases hp : p x with
    | true => simp [compL, h0, h1, h2, hp, h3 hp, ih]
    | false => simp [compL, h0, h1, h2, hp, ih]
theorem comp_items {mu : Bool} {it : MI} {g : MG} {t : MT} {e : ME} {own : List Nat} {s : Sg} {G G1 : List Ob} {l : List U} {h : U → U} (hi : it s G = .ok (.items l, l.length) G1) (hh : ∀ u ∈ l, ∃ s1, g u (wipeS s own) = some s1 ∧ t s1 G1 = .ok true G1 ∧ e s1 G1 = .ok (h u) G1) :
    compM mu it g t e own s G = newL mu (l.map h) G1 := by
  unfold compM
  rw [hi]
  simp only
  rw [compL_map l 0 (fun i => by simp [itAt]) hh]
  rfl
theorem comp_seq {mu : Bool} {it : MI} {g : MG} {t : MT} {e : ME} {own : List Nat} {s : Sg} {G G1 : List Ob} {u : U} {l : List U} {h : U → U} (hi : it s G = .ok (.seq u, l.length) G1) (hs : seqOf G1 u = some l) (hh : ∀ u ∈ l, ∃ s1, g u (wipeS s own) = some s1 ∧ t s1 G1 = .ok true G1 ∧ e s1 G1 = .ok (h u) G1) :
    compM mu it g t e own s G = newL mu (l.map h) G1 := by
  unfold compM
  rw [hi]
  simp only
  rw [compL_map l 0 (fun i => by simp [itAt, hs]) hh]
  rfl
theorem comp_seqF {mu : Bool} {it : MI} {g : MG} {t : MT} {e : ME} {own : List Nat} {s : Sg} {G G1 : List Ob} {u : U} {l : List U} {h : U → U} {p : U → Bool} (hi : it s G = .ok (.seq u, l.length) G1) (hs : seqOf G1 u = some l) (hh : ∀ u ∈ l, ∃ s1, g u (wipeS s own) = some s1 ∧ t s1 G1 = .ok (p u) G1 ∧ (p u = true → e s1 G1 = .ok (h u) G1)) :
    compM mu it g t e own s G = newL mu ((l.filter p).map h) G1 := by
  unfold compM
  rw [hi]
  simp only
  rw [compL_filter l 0 (fun i => by simp [itAt, hs]) hh]
  rfl
@[simp] theorem blsOf_map (l : List Bool) : blsOf (l.map U.bl) = some l := by
  induction l with
  | nil => rfl
  | cons a r ih => simp [blsOf, ih]
@[simp] theorem strsOf_map (l : List (List Nat)) : strsOf (l.map U.str) = some l := by
  induction l with
  | nil => rfl
  | cons a r ih => simp [strsOf, ih]
@[simp] theorem intsOf_map (l : List Int) : intsOf (l.map U.int) = some l := by
  induction l with
  | nil => rfl
  | cons a r ih => simp [intsOf, ih]
theorem blsOf_fun {α : Type} (l : List α) (f : α → Bool) : blsOf (l.map fun a => U.bl (f a)) = some (l.map f) := by
  rw [show (l.map fun a => U.bl (f a)) = (l.map f).map U.bl by simp]
  exact blsOf_map _
/-- new lists -/
theorem newL_f {us : List U} {G : List Ob} (h : us.length ≤ szL) : newL false us G = .ok (.lst us) G := by simp [newL, h]
theorem newL_t {us : List U} {G : List Ob} (h : us.length ≤ szL) : newL true us G = .ok (.ref G.length) (G ++ [.lst us]) := by simp [newL, h]
theorem newT_ok' {us : List U} {G : List Ob} (h : us.length ≤ szL) : newT us G = .ok (.tup us) G := by simp [newT, h]
/-- a for over items, by an invariant -/
theorem forL_inv {b : Itb} {g : MG} {body : MS} (I : Nat → Sg → List Ob → Prop) {n : Nat} {l : List U} (hl : l.length = n) (hb : ∀ G i, itAt b G i = some l[i]?)
    (step : ∀ i u s G, l[i]? = some u → I i s G → ∃ s1 s2 G2, g u s = some s1 ∧ (body s1 G = .nx s2 G2 ∨ body s1 G = .ct s2 G2) ∧ I (i + 1) s2 G2) :
    ∀ (m k : Nat) (s : Sg) (G : List Ob), k + m = n → I k s G → ∃ s' G', forL b g body m k s G = .nx s' G' ∧ I n s' G'
  | 0, k, s, G, e, h => by
    refine ⟨s, G, ?_, by rw [← e]; exact h⟩
    unfold forL
    rw [hb]
    have : l[k]? = none := List.getElem?_eq_none_iff.mpr (by omega)
    rw [this]
  | m + 1, k, s, G, e, h => by
    have hk : k < l.length := by omega
    obtain ⟨s1, s2, G2, h1, h2, h3⟩ := step k l[k] s G (List.getElem?_eq_getElem hk) h
    obtain ⟨s', G', h4, h5⟩ := forL_inv I hl hb step m (k + 1) s2 G2 (by omega) h3
    refine ⟨s', G', ?_, h5⟩
    unfold forL
    rw [hb, List.getElem?_eq_getElem hk]
    simp only [h1]
    rcases h2 with h2 | h2 <;> (rw [h2]; exact h4)
/-! ### plain data: == by shape -/
mutual
def dP : U → PyData
  | .non => .none
  | .bl b => .bool b
  | .int i => .int i
  | .str l => .str (SS l)
  | .tup l => .tuple (dPs l)
  | .lst l => .list (dPs l)
  | _ => .none
def dPs : List U → List PyData
  | [] => []
  | x :: r => dP x :: dPs r
end
def okC (l : List Nat) : Bool := l.all fun c => decide (c < 1114112)
mutual
/-- plain data, at most so deep -/
def pd : Nat → U → Bool
  | _, .non => true
  | _, .bl _ => true
  | _, .int _ => true
  | _, .str l => okC l
  | k + 1, .tup l => pds k l
  | k + 1, .lst l => pds k l
  | _, _ => false
def pds : Nat → List U → Bool
  | _, [] => true
  | k, x :: r => pd k x && pds k r
end
theorem canLay_SS {l : List Nat} (h : okC l = true) : PyData.canLay0 (.str (SS l)) = true := by
  simp only [PyData.canLay0, PyData.strOk, SS]
  simpa [okC, Array.all_toList] using h
mutual
theorem pd_ok {f : Nat → Option PyData} : ∀ {k : Nat} {u : U}, pd k u = true → toD0 f u = some (dP u) ∧ PyData.canLay0 (dP u) = true ∧ PyData.depth (dP u) ≤ k
  | k, .non, _ => ⟨by simp [toD0, dP], by simp [dP, PyData.canLay0], by simp [dP, PyData.depth]⟩
  | k, .bl b, _ => ⟨by simp [toD0, dP], by simp [dP, PyData.canLay0], by simp [dP, PyData.depth]⟩
  | k, .int i, _ => ⟨by simp [toD0, dP], by simp [dP, PyData.canLay0], by simp [dP, PyData.depth]⟩
  | k, .str l, h => ⟨by simp [toD0, dP], by simp only [dP]; exact canLay_SS (by cases k <;> (unfold pd at h; exact h)), by simp [dP, PyData.depth]⟩
  | k + 1, .tup l, h => by
    unfold pd at h
    obtain ⟨h1, h2, h3⟩ := pds_ok (f := f) h
    exact ⟨by simp [toD0, dP, h1], by simp [dP, PyData.canLay0, h2], by simp [dP, PyData.depth, h3]⟩
  | k + 1, .lst l, h => by
    unfold pd at h
    obtain ⟨h1, h2, h3⟩ := pds_ok (f := f) h
    exact ⟨by simp [toD0, dP, h1], by simp [dP, PyData.canLay0, h2], by simp [dP, PyData.depth, h3]⟩
  | 0, .tup l, h => by unfold pd at h; cases h
  | 0, .lst l, h => by unfold pd at h; cases h
  | k, .sc l, h => by cases k <;> (unfold pd at h; cases h)
  | k, .dct l, h => by cases k <;> (unfold pd at h; cases h)
  | k, .ins c l, h => by cases k <;> (unfold pd at h; cases h)
  | k, .ref i, h => by cases k <;> (unfold pd at h; cases h)
theorem pds_ok {f : Nat → Option PyData} : ∀ {k : Nat} {u : List U}, pds k u = true → toD0s f u = some (dPs u) ∧ PyData.canLayAll0 (dPs u) = true ∧ PyData.depthAll (dPs u) ≤ k
  | k, [], _ => ⟨by simp [toD0s, dPs], by simp [dPs, PyData.canLayAll0], by simp [dPs, PyData.depthAll]⟩
  | k, x :: r, h => by
    unfold pds at h
    rw [Bool.and_eq_true] at h
    obtain ⟨h1, h2, h3⟩ := pd_ok (f := f) h.1
    obtain ⟨g1, g2, g3⟩ := pds_ok (f := f) h.2
    exact ⟨by simp [toD0s, dPs, h1, g1], by simp [dPs, PyData.canLayAll0, h2, g2], by simp [dPs, PyData.depthAll]; omega⟩
end
theorem pd_shaped {u : U} (h : pd 20 u = true) : SeqAt.shaped (dP u) = true := by
  obtain ⟨_, h2, h3⟩ := pd_ok (f := fun _ => none) h
  unfold SeqAt.shaped
  rw [h2, Bool.true_and]
  exact decide_eq_true (Nat.le_trans h3 (by decide))
theorem eqU_pd {neg : Bool} {x y : U} {G : List Ob} (hx : pd 20 x = true) (hy : pd 20 y = true) : eqU neg x y G = .ok (.bl (if neg then !PyData.eqv (dP x) (dP y) else PyData.eqv (dP x) (dP y))) G := by
  unfold eqU toD
  rw [(pd_ok hx).1, (pd_ok hy).1]
  simp only
  rw [if_pos ⟨pd_shaped hx, pd_shaped hy⟩]
theorem eqv_refl_pd {x : U} (hx : pd 20 x = true) : PyData.eqv (dP x) (dP x) = true := SeqAt.eqv_refl _ (pd_ok (f := fun _ => none) hx).2.1
def notIns : U → Bool
  | .ins _ _ => false
  | .ref _ => false
  | _ => true
theorem eqX_pd {neg : Bool} {et : Nat → Option RunD} {x y : U} {G : List Ob} (hx : pd 20 x = true) (hy : pd 20 y = true) : eqX neg et x y G = .ok (.bl (if neg then !PyData.eqv (dP x) (dP y) else PyData.eqv (dP x) (dP y))) G := by
  unfold eqX
  have : insOf G x = none := by cases x <;> first | rfl | (unfold pd at hx; cases hx)
  rw [this]
  exact eqU_pd hx hy
/-! ### statement by statement -/
theorem seqM_nx {m1 m2 : MS} {s s1 : Sg} {G G1 : List Ob} (h : m1 s G = .nx s1 G1) : seqM m1 m2 s G = m2 s1 G1 := by unfold seqM; rw [h]
theorem seqM_rt {m1 m2 : MS} {s : Sg} {G G1 : List Ob} {u : U} (h : m1 s G = .rt u G1) : seqM m1 m2 s G = .rt u G1 := by unfold seqM; rw [h]
theorem stE_set {m : ME} {i : Nat} {s : Sg} {G G1 : List Ob} {u : U} (h : m s G = .ok u G1) : stE m (setM i) s G = .nx (s.set i (some u)) G1 := by unfold stE; rw [h]; rfl
theorem stE_rt {m : ME} {s : Sg} {G G1 : List Ob} {u : U} (h : m s G = .ok u G1) : stE m rtM s G = .rt u G1 := by unfold stE; rw [h]; rfl
theorem ifM_t {c : MT} {a b : MS} {s : Sg} {G G1 : List Ob} (h : c s G = .ok true G1) : ifM c a b s G = a s G1 := by unfold ifM; rw [h]
theorem ifM_f {c : MT} {a b : MS} {s : Sg} {G G1 : List Ob} (h : c s G = .ok false G1) : ifM c a b s G = b s G1 := by unfold ifM; rw [h]
theorem bin2_ok {f : U → U → List Ob → Rs U} {a b : ME} {s : Sg} {G G1 G2 : List Ob} {x y : U} (ha : a s G = .ok x G1) (hb : b s G1 = .ok y G2) : bin2 f a b s G = f x y G2 := by unfold bin2; rw [ha]; simp [hb]
theorem consA_ok {p : ME} {q : MA} {s : Sg} {G G1 G2 : List Ob} {x : U} {xs : List U} (ha : p s G = .ok x G1) (hb : q s G1 = .ok xs G2) : consA p q s G = .ok (x :: xs) G2 := by unfold consA; rw [ha]; simp [hb]
@[simp] theorem get_new {G : List Ob} {o : Ob} : (G ++ [o])[G.length]? = some o := by simp
@[simp] theorem set_new {G : List Ob} {o o' : Ob} : (G ++ [o]).set G.length o' = G ++ [o'] := by simp
theorem set_self {G : List Ob} {i : Nat} {o : Ob} (h : G[i]? = some o) : G.set i o = G := by
  obtain ⟨hi, e⟩ := List.getElem?_eq_some_iff.mp h
  rw [← e]
  exact List.set_getElem_self hi
/-- a list in a new cell that grows under a test -/
theorem ext_if {c : MT} {X : ME} {s : Sg} {G : List Ob} {ws xs : List U} {b : Bool} (hs : s[1]? = some (some (.ref G.length))) (hc : c s (G ++ [.lst ws]) = .ok b (G ++ [.lst ws])) (hx : b = true → X s (G ++ [.lst ws]) = .ok (.lst xs) (G ++ [.lst ws])) (hl : ws.length + xs.length ≤ szL) :
    ifM c (stE (bmM extendU (varM 1) (consA X nilA)) (fun _ => nxM)) nxM s (G ++ [.lst ws]) = .nx s (G ++ [.lst (ws ++ if b then xs else [])]) := by
  cases b with
  | false =>
    rw [ifM_f hc]
    simp [nxM]
  | true =>
    rw [ifM_t hc]
    simp [stE, bmM, varM, hs, lstOfW, consA, hx rfl, nilA, extendU, hl, nxM]
theorem cut_new {G g : List Ob} {u u1 : U} (h : frzU G.length (G ++ g) u = some u1) : Cut G (.ok u1 G) (.ok u (G ++ g)) := ⟨h, ⟨g, rfl⟩, rfl, fun _ _ e => .inl e⟩
theorem cut_set {G g : List Ob} {u u1 : U} {i : Nat} {o : Ob} (h : frzU G.length (G.set i o ++ g) u = some u1) (hb : bdO G.length o = true) : Cut G (.ok u1 (G.set i o)) (.ok u (G.set i o ++ g)) :=
  ⟨h, ⟨g, rfl⟩, by simp, fun j p e => by
    by_cases hij : i = j
    · subst hij
      rw [List.getElem?_set] at e
      simp at e
      exact .inr (by rw [← e.2]; exact hb)
    · rw [List.getElem?_set_ne hij] at e
      exact .inl e⟩
theorem bds_strs {n : Nat} : ∀ {zs : List (List Nat)}, bdUs n (zs.map .str) = true
  | [] => by simp [bdUs]
  | z :: r => by rw [List.map_cons]; unfold bdUs; rw [bds_strs]; rfl
theorem bds_ints {n : Nat} : ∀ {zs : List Int}, bdUs n (zs.map .int) = true
  | [] => by simp [bdUs]
  | z :: r => by rw [List.map_cons]; unfold bdUs; rw [bds_ints]; rfl
theorem map_strs {f : Nat → Option U} : ∀ {zs : List (List Nat)}, mapUs f (zs.map .str) = some (zs.map .str)
  | [] => by simp [mapUs]
  | z :: r => by rw [List.map_cons]; unfold mapUs; rw [map_strs]; rfl
theorem map_ints {f : Nat → Option U} : ∀ {zs : List Int}, mapUs f (zs.map .int) = some (zs.map .int)
  | [] => by simp [mapUs]
  | z :: r => by rw [List.map_cons]; unfold mapUs; rw [map_ints]; rfl
theorem frz_str {n : Nat} {G : List Ob} {l : List Nat} : frzU n G (.str l) = some (.str l) := rfl
theorem frz_bl {n : Nat} {G : List Ob} {b : Bool} : frzU n G (.bl b) = some (.bl b) := rfl
theorem frz_int {n : Nat} {G : List Ob} {b : Int} : frzU n G (.int b) = some (.int b) := rfl
theorem frz_non {n : Nat} {G : List Ob} : frzU n G .non = some .non := rfl
theorem frz_strs {n : Nat} {G : List Ob} {zs : List (List Nat)} : frzU n G (.tup (zs.map .str)) = some (.tup (zs.map .str)) := by
  unfold frzU mapU
  rw [map_strs]
  rfl
theorem eqv_str (a b : List Nat) : PyData.eqv (dP (.str a)) (dP (.str b)) = (a == b) := by simp [dP, PyData.eqv]
theorem eqv_int (a b : Int) : PyData.eqv (dP (.int a)) (dP (.int b)) = (a == b) := by simp [dP, PyData.eqv]
/-- == of texts, ints, as it stands -/
theorem eqX_str {neg : Bool} {et : Nat → Option RunD} {a b : List Nat} {G : List Ob} (ha : okC a = true) (hb : okC b = true) : eqX neg et (.str a) (.str b) G = .ok (.bl (if neg then !(a == b) else (a == b))) G := by
  rw [eqX_pd (by unfold pd; exact ha) (by unfold pd; exact hb), eqv_str]
theorem eqX_int {neg : Bool} {et : Nat → Option RunD} {a b : Int} {G : List Ob} : eqX neg et (.int a) (.int b) G = .ok (.bl (if neg then !(a == b) else (a == b))) G := by
  rw [eqX_pd (by unfold pd; rfl) (by unfold pd; rfl), eqv_int]
theorem eqvAll_strs : ∀ (zs ys : List (List Nat)), PyData.eqvAll (dPs (zs.map .str)) (dPs (ys.map .str)) = (zs == ys)
  | [], [] => by simp [dPs, PyData.eqvAll]
  | [], _ :: _ => by simp [dPs, PyData.eqvAll]
  | _ :: _, [] => by simp [dPs, PyData.eqvAll]
  | z :: zs, y :: ys => by
    simp only [List.map_cons, dPs, PyData.eqvAll, eqvAll_strs zs ys, eqv_str]
    rfl
theorem eqX_strs {neg : Bool} {et : Nat → Option RunD} {a b : List (List Nat)} {G : List Ob} (ha : pds 19 (a.map .str) = true) (hb : pds 19 (b.map .str) = true) : eqX neg et (.tup (a.map .str)) (.tup (b.map .str)) G = .ok (.bl (if neg then !(a == b) else (a == b))) G := by
  rw [eqX_pd (by unfold pd; exact ha) (by unfold pd; exact hb)]
  simp only [dP, PyData.eqv, eqvAll_strs]
theorem tob_str {neg : Bool} {et : Nat → Option RunD} {a b : ME} {s : Sg} {G : List Ob} {x y : List Nat} (ha : a s G = .ok (.str x) G) (hb : b s G = .ok (.str y) G) (hx : okC x = true) (hy : okC y = true) : tobM (bin2 (eqX neg et) a b) s G = .ok (if neg then !(x == y) else (x == y)) G := by
  unfold tobM
  rw [bin2_ok ha hb, eqX_str hx hy]
  rfl
theorem tob_int {neg : Bool} {et : Nat → Option RunD} {a b : ME} {s : Sg} {G : List Ob} {x y : Int} (ha : a s G = .ok (.int x) G) (hb : b s G = .ok (.int y) G) : tobM (bin2 (eqX neg et) a b) s G = .ok (if neg then !(x == y) else (x == y)) G := by
  unfold tobM
  rw [bin2_ok ha hb, eqX_int]
  rfl
theorem tob_strs {neg : Bool} {et : Nat → Option RunD} {a b : ME} {s : Sg} {G : List Ob} {x y : List (List Nat)} (ha : a s G = .ok (.tup (x.map .str)) G) (hb : b s G = .ok (.tup (y.map .str)) G) (hx : pds 19 (x.map .str) = true) (hy : pds 19 (y.map .str) = true) : tobM (bin2 (eqX neg et) a b) s G = .ok (if neg then !(x == y) else (x == y)) G := by
  unfold tobM
  rw [bin2_ok ha hb, eqX_strs hx hy]
  rfl
theorem bin2_p {f : U → U → List Ob → Rs U} {a b : ME} {s : Sg} {G : List Ob} {x y : U} (ha : a s G = .ok x G) (hb : b s G = .ok y G) : bin2 f a b s G = f x y G := bin2_ok ha hb
theorem consA_p {p : ME} {q : MA} {s : Sg} {G : List Ob} {x : U} {xs : List U} (ha : p s G = .ok x G) (hb : q s G = .ok xs G) : consA p q s G = .ok (x :: xs) G := consA_ok ha hb
theorem meth_eval {mt : Nat → Option (Nat × RunD)} {km : Nat} {mo : ME} {mas : MA} {s : Sg} {G G1 G2 : List Ob} {u : U} {c n : Nat} {l : List (Nat × U)} {r : RunD} {us : List U} (hm : mo s G = .ok u G1) (hi : insOf G1 u = some (c, l)) (ht : mt c = some (n, r)) (hl : l.lookup km = none) (ha : mas s G1 = .ok us G2) :
    methM mt km mo mas s G = arM n r (u :: us) G2 := by
  unfold methM
  rw [hm]
  simp only [bind_ok, hi, ht, hl, ha]
theorem var_ok {i : Nat} {s : Sg} {G : List Ob} {u : U} (h : s[i]? = some (some u)) : varM i s G = .ok u G := by unfold varM; rw [h]
theorem ifM_fn {c : MT} {a : MS} {s : Sg} {G G1 : List Ob} (h : c s G = .ok false G1) : ifM c a nxM s G = .nx s G1 := ifM_f h
theorem seqM_if {c : MT} {a m : MS} {s : Sg} {G G1 : List Ob} (h : c s G = .ok false G1) : seqM (ifM c a nxM) m s G = m s G1 := seqM_nx (ifM_fn h)
theorem seqM_ift {c : MT} {a m : MS} {s : Sg} {G G1 G2 : List Ob} {u : U} (h : c s G = .ok true G1) (ha : a s G1 = .rt u G2) : seqM (ifM c a nxM) m s G = .rt u G2 := seqM_rt ((ifM_t h).trans ha)
theorem seqM_stE {e : ME} {f : U → MS} {m : MS} {s : Sg} {G G1 : List Ob} {u : U} (h : e s G = .ok u G1) (hf : ∀ s, f u s G1 = .nx s G1) : seqM (stE e f) m s G = m s G1 := seqM_nx (by unfold stE; rw [h]; exact hf s)
theorem seqM_set {e : ME} {i : Nat} {m : MS} {s : Sg} {G G1 : List Ob} {u : U} (h : e s G = .ok u G1) : seqM (stE e (setM i)) m s G = m (s.set i (some u)) G1 := seqM_nx (stE_set h)
end FL

/-! FL22: what the top has left: constants, names; the law's own promise. -/
namespace FL
open PySem L2 PyProof.Rows
section
variable {K : PySem.W.Frag} {T : Tb}
def mapO {α β : Type} (f : α → Option β) : List α → Option (List β)
  | [] => some []
  | x :: r => match f x, mapO f r with
    | some a, some b => some (a :: b)
    | _, _ => none
/-- a constant of the written part, as data -/
def constB (K : PySem.W.Frag) : Nat → Value → Option U
  | 0, _ => none
  | n + 1, v => match v with
    | .none => some .non
    | .bool b => some (.bl b)
    | .int i _ => some (.int i)
    | .str x _ => some (.str x.cps.toList)
    | .ref a => match K.lookup a with
      | some ⟨.type "tuple", _, .seq its _, _⟩ => if its.size ≤ szL then (mapO (constB K n) its.toList).map .tup else none
      | _ => none
    | _ => none
theorem mapO_ok {f : Value → Option U} (hf : ∀ v u, f v = some u → ∃ w, RelV w v ∧ ∀ ρ Z H, Rep T ρ Z H w u) : ∀ {vals : List Value} {us : List U}, mapO f vals = some us → ∃ vs, Vals vs vals ∧ ∀ ρ Z H, Reps T ρ Z H vs us
  | [], us, e => by
    cases e
    exact ⟨[], .nil, fun _ _ _ => .nil⟩
  | x :: r, us, e => by
    unfold mapO at e
    split at e
    · rename_i a b e1 e2
      cases e
      obtain ⟨v, q1, q2⟩ := hf x a e1
      obtain ⟨vs, q3, q4⟩ := mapO_ok hf e2
      exact ⟨v :: vs, .cons q1 q3, fun ρ Z H => .cons (q2 ρ Z H) (q4 ρ Z H)⟩
    · cases e
theorem constB_ok (hT : T.K = K) : ∀ (n : Nat) (val : Value) (u : U), constB K n val = some u → ∃ v, RelV v val ∧ ∀ ρ Z H, Rep T ρ Z H v u
  | 0, _, _, e => by cases e
  | n + 1, val, u, e => by
    unfold constB at e
    split at e
    · cases e; exact ⟨.non, rfl, fun _ _ _ => .non⟩
    · cases e; exact ⟨.bl _, rfl, fun _ _ _ => .bl _⟩
    · cases e; exact ⟨.int _, ⟨_, rfl⟩, fun _ _ _ => .int _⟩
    · cases e; exact ⟨.str _, ⟨_, rfl⟩, fun _ _ _ => .str _⟩
    · rename_i a
      split at e
      · rename_i dd its m sl hl
        split at e
        · rename_i hs
          obtain ⟨us, e1, e2⟩ := Option.map_eq_some_iff.mp e
          subst e2
          obtain ⟨vs, q1, q2⟩ := mapO_ok (T := T) (constB_ok hT n) e1
          exact ⟨.ref a, rfl, fun ρ Z H => .tup (.inr ⟨_, its, m, hT ▸ hl, rfl, rfl, by rw [szL_eq]; exact hs, q1⟩) (q2 ρ Z H)⟩
        · cases e
      · cases e
    · cases e
/-- a module constant -/
def conAt (K : PySem.W.Frag) (x : Str) : Option U := match PySem.W.nsIn K mainGlobals x with
  | some (some v) => constB K 4 v
  | _ => none
theorem con_ok {h : Heap} {mg : Str → Option Value} {x : Str} {u : U} (hT : T.K = K) (X : K.In h) (G : h.Ns mainGlobals mg) (e : conAt K x = some u) : ∃ v val, mg x = some val ∧ RelV v val ∧ ∀ ρ Z H, Rep T ρ Z H v u := by
  unfold conAt at e
  split at e
  · rename_i val hv
    obtain ⟨v, q1, q2⟩ := constB_ok hT 4 val u e
    exact ⟨v, val, PySem.W.mg_of X G hv, q1, q2⟩
  · cases e
def blB (K : PySem.W.Frag) (l : List Str) : Bool := l.all fun x => decide (PySem.W.nsIn K mainGlobals x = some none)
theorem blB_ok {h : Heap} {mg : Str → Option Value} {l : List Str} (X : K.In h) (G : h.Ns mainGlobals mg) (e : blB K l = true) : ∀ x, x ∈ l → mg x = none := fun x hx =>
  PySem.W.mg_none_of X G (of_decide_eq_true (List.all_eq_true.mp e x hx))
/-- law's own: at most 63 ints, True -/
def spLaw (K : PySem.W.Frag) : Sp := fun vs H Q _ => ∃ (a : Addr) (ns : List Int), vs = [.ref a] ∧ SqL K H a (ns.map V.int) ∧ ns.length ≤ 63 ∧ ∀ H', Q (.bl true) H'
theorem spLaw_le {r : RunD} (hT : T.K = K) (hr : ∀ ns : List Int, ns.length ≤ 63 → r [.sc (ns.map .int)] [] = .ok (.bl true) []) (vs : List V) (H : Hp) (Q : VK) (E : XK) (q : spLaw K vs H Q E) : spD T 1 r vs H Q E := by
  obtain ⟨a, ns, rfl, hS, hl, k⟩ := q
  have rl : Rl T [] (fun _ => False) [] H := ⟨rfl, List.nodup_nil, (fun _ z => z.elim), (fun a h => by simp at h), (fun i a o h => by simp at h)⟩
  have hS' : SqS T.K (fun _ => False) H a (ns.map V.int) := by
    rw [hT]
    exact hS.imp (fun z => ⟨z, fun q => q⟩) id
  refine ⟨[.sc (ns.map .int)], [], [], fun _ => False, rl, .cons (.sc hS' (Reps.of_ints ns)) .nil, rfl, ?_⟩
  rw [hr ns hl]
  intro v H' ρ' Z' _ _ rv
  rw [rv.inv_bl]
  exact k H'
theorem cx_no {P : Program} {w : World} (H : Hp) (s : Shared) (e : Value) (s' : Shared) (h : L2.CX P w [] H s (fun _ _ _ => False) e s') : False := by
  obtain ⟨_, _, _, _, _, _, _, _, _, _, _, _, z⟩ := h
  exact z
theorem Le.c {r' r : RunD} (h : Le r' r) : LeC r' r := fun us G => (h us G).imp id .inl
end
end FL

/-! FL27: the facts of the exception classes, by checks. -/
namespace FL
open PySem L2 PyProof.Rows
section
variable {P : Program} {w : World} {K : PySem.W.Frag} {mg : Str → Option Value} {base : Heap} {T : Tb} {k j : Nat}
def excB (K : PySem.W.Frag) (D : Addr) : Bool :=
  decide (PySem.W.findIn K (.ref D) "__getattribute__" = some (some (.builtin "BaseException.__getattribute__"))) && decide (PySem.W.findIn K (.ref D) "__getattr__" = some none) &&
  decide (PySem.W.subIn K (.ref D) (.type "BaseException") = some true) && PySem.W.hasDictIn K D && decide (PySem.W.findIn K (.ref D) "__class__" = some (some (.builtin "object.__class__"))) &&
  decide (PySem.W.specialIn K (.builtin "object.__class__") "__get__" = some (some (.builtin "getset_descriptor.__get__"))) && decide (PySem.W.takesIn K (.builtin "object.__class__") = some true) && decide (PySem.W.mroIn K D (.type "object") = some true)
theorem excB_ok {D : Addr} (h : excB K D = true) : ExcC K D := by
  unfold excB at h
  simp only [Bool.and_eq_true, decide_eq_true_eq] at h
  obtain ⟨⟨⟨⟨⟨⟨⟨h1, h2⟩, h3⟩, h4⟩, h5⟩, h6⟩, h7⟩, h8⟩ := h
  exact ⟨h1, h2, h3, h4, h5, h6, h7, h8⟩
def xsB (K : PySem.W.Frag) (Cs : List Addr) (xs : List ((Nat × Nat) × Bool)) : Bool := xs.all fun p => match Cs[p.1.1]?, Cs[p.1.2]? with
  | some C, some C' => decide (PySem.W.exmOne K (.ref C) (.ref C') = some p.2)
  | _, _ => true
def xiB (K : PySem.W.Frag) (Cs : List Addr) (xi : List ((Nat × Nat) × Bool)) : Bool := xi.all fun p => match Cs[p.1.1]?, Cs[p.1.2]? with
  | some C, some C' => excB K C && decide (PySem.W.kitOne K (.ref C) (.ref C') = some p.2)
  | _, _ => true
theorem lookup_mem {α β : Type} [BEq α] [LawfulBEq α] : ∀ {l : List (α × β)} {a : α} {b : β}, l.lookup a = some b → (a, b) ∈ l
  | [], _, _, e => by cases e
  | (x, y) :: r, a, b, e => by
    rw [List.lookup_cons] at e
    by_cases z : a = x
    · subst z
      simp at e
      subst e
      exact .head _
    · have : (a == x) = false := by simpa using z
      rw [this] at e
      exact .tail _ (lookup_mem e)
theorem xsB_ok {xs : List ((Nat × Nat) × Bool)} (h : xsB K T.cls xs = true) : XsOk K T xs := fun c c' b C C' e hC hC' => by
  have := List.all_eq_true.mp h _ (lookup_mem e)
  simp only [hC, hC'] at this
  exact of_decide_eq_true this
theorem xiB_ok {xi : List ((Nat × Nat) × Bool)} (h : xiB K T.cls xi = true) : XiOk K T xi := fun c c' b C C' e hC hC' => by
  have := List.all_eq_true.mp h _ (lookup_mem e)
  simp only [hC, hC', Bool.and_eq_true] at this
  exact ⟨excB_ok this.1, of_decide_eq_true this.2⟩
theorem xs_nil : XsOk K T [] := fun _ _ _ _ _ e => nomatch e
theorem xi_nil : XiOk K T [] := fun _ _ _ _ _ e => nomatch e
/-- an exception class with a field: the facts of its text -/
def xcB (K : PySem.W.Frag) (C fI : Addr) (f : Str) : Bool :=
  xfB K C && decide (PySem.W.findIn K (.ref C) "__setattr__" = some (some (.builtin "object.__setattr__"))) && decide (PySem.W.subIn K (.ref C) (.type "BaseException") = some true) && decide (PySem.W.typeIn K (.ref C) = some (.type "type")) && PySem.W.keepIn K (.ref C) &&
  decide (PySem.W.findIn K (.ref C) "__init__" = some (some (.ref fI))) && decide (PySem.W.typeIn K (.ref fI) = some (.type "function")) && decide (PySem.W.findIn K (.ref C) f = some none)
theorem XcOk.mono {x : Str} {z : Nat × Option Nat} (h : XcOk P w K mg base T j x z) (hj : j ≤ k) : XcOk P w K mg base T k x z := by
  obtain ⟨h1, h2⟩ := h
  refine ⟨h1, ?_⟩
  cases e : z.2 with
  | none => rw [e] at h2; exact h2
  | some kf =>
    rw [e] at h2
    obtain ⟨⟨C, fI, fd, ps, f, a1, a2, a3, a4, a5, a6, a7, a8⟩, b⟩ := h2
    exact ⟨⟨C, fI, fd, ps, f, a1, a2, a3, a4, a5, a6, a7, a8.mono hj⟩, b⟩
theorem xc_init {x qual : Str} {st : Stmt} {fI C N : Addr} {fd : FuncData} {c kf : Nat} {sN vN fn nm q : Str} {bs bm sub : List Value} {sn : List Str} {ab : Bool} {col : Option Bool} {dd : Option Addr} {k0 k1 k2 k3 k5 : Option Value} {p1 p2 p3 p4 : Pos} (hc : T.cls[c]? = some C) (g : mg x = some (.ref C)) (hf : T.att[kf]? = some fn)
    (hl : K.lookup C = some (excClassObj nm q C N bs bm true sn sub ab col dd k0 k1 k2 k3 k5 "ValueError.__new__")) (hr : PySem.HandSPX.refsVE bm = true) (hB : xcB K C fI fn = true)
    (F : Fun K "__init__" qual st fI fd) (S : FnScope [sN, vN] [sN, vN] (defScope st)) (hb : defBody st = [.Assign [.Attribute (.Name sN p1) fn p2] (.Name vN p3) p4]) (h1 : okN sN = true) (h2 : okN vN = true)
    (hps : Binds K fd [sN, vN] []) : XcOk P w K mg base T 1 x (c, some kf) := by
  unfold xcB at hB
  simp only [Bool.and_eq_true, decide_eq_true_eq] at hB
  obtain ⟨⟨⟨⟨⟨⟨⟨h3, h4⟩, h5⟩, h6⟩, h7⟩, h8⟩, h9⟩, h10⟩ := hB
  have O : OexC K C := ⟨⟨_, _, _, _, _, _, _, _, _, _, _, _, _, _, _, hl, hr⟩, h4, h5, h6, h7⟩
  exact ⟨⟨C, hc, g⟩, ⟨⟨C, fI, fd, _, fn, hc, g, O, h8, h9, hps, hf, xinit_ok F S hb O h10 h1 h2⟩⟩, C, fn, hc, hf, xfB_ok h3, h10⟩
def xpB (K : PySem.W.Frag) (C : Addr) : Bool := PySem.W.excIn K C [.type "ValueError", .type "Exception", .type "BaseException", .type "object"] "ValueError.__new__" && PySem.W.keepIn K (.ref C) && decide (PySem.W.subIn K (.ref C) (.type "BaseException") = some true) && decide (PySem.W.typeIn K (.ref C) = some (.type "type"))
theorem xc_plain {x : Str} {C : Addr} {c : Nat} (hc : T.cls[c]? = some C) (g : mg x = some (.ref C)) (hB : xpB K C = true) : XcOk P w K mg base T k x (c, none) := by
  unfold xpB at hB
  simp only [Bool.and_eq_true, decide_eq_true_eq] at hB
  obtain ⟨⟨⟨h1, h2⟩, h3⟩, h4⟩ := hB
  exact ⟨⟨C, hc, g⟩, ⟨C, _, _, _, hc, g, PySem.F.excBase_ValueError, h1, h2, h3, h4⟩⟩
end
end FL
namespace FL
/-! ### suites, told by name -/
def fldX (c kf : Nat) : Exn → Option U := fun x => if x.cls = c then (match x.fs.lookup kf with | some u => if flatU u then some u else none | none => none) else none
def litX (u : U) : Exn → Option U := fun _ => some u
def nilX : Exn → Option (List U) := fun _ => some []
def consX (m : Exn → Option U) (ms : Exn → Option (List U)) : Exn → Option (List U) := fun x => match m x, ms x with
  | some u, some us => some (u :: us)
  | _, _ => none
def lstX (ms : Exn → Option (List U)) : Exn → Option U := fun x => (ms x).bind fun us => if us.length ≤ szL then some (.lst us) else none
def setX (j : Nat) (m : Exn → Option U) : Exn → MS := fun ex s G => match m ex with
  | some u => .nx (s.set j (some u)) G
  | none => .bad
def setIX (c : Nat) (i : Option Nat) (j : Nat) (m : Exn → Option U) : Exn → MS := fun ex s G => match m ex with
  | some u => if ex.cls = c ∧ ex.fs ≠ [] ∧ i ≠ some j then .nx (s.set j (some u)) G else .bad
  | none => .bad
def retX (m : Exn → Option U) : Exn → MS := fun ex s G => match m ex with
  | some u => .rt u G
  | none => .bad
def raise0M (c : Nat) : MS := fun s G => .exc ⟨c, []⟩ s G
end FL

/-! FL28: the laws' own comparison, once for all of them. -/
namespace FL
open PySem L2 PyProof.Rows
def allO : List (Option Bool) → Option Bool
  | [] => some true
  | some b :: r => (allO r).map (b && ·)
  | none :: _ => none
theorem allO_some : ∀ {l : List (Option Bool)} {b : Bool}, allO l = some b → ∃ bs : List Bool, l = bs.map some ∧ (bs.all fun b => b) = b
  | [], b, h => by cases h; exact ⟨[], rfl, rfl⟩
  | some a :: r, b, h => by
    unfold allO at h
    cases e : allO r with
    | none => rw [e] at h; cases h
    | some c =>
      rw [e] at h
      cases h
      obtain ⟨bs, rfl, rfl⟩ := allO_some e
      exact ⟨a :: bs, rfl, rfl⟩
  | none :: r, b, h => by cases h
def kindU : U → Nat
  | .non => 0
  | .bl _ => 1
  | .int _ => 2
  | .str _ => 3
  | .tup _ => 4
  | .lst _ => 5
  | _ => 6
def eqQ (f : U → U → Option Bool) (xs ys : List U) : Option Bool := if xs.length ≤ szL ∧ ys.length ≤ szL then (if xs.length = ys.length then allO (List.zipWith f xs ys) else some false) else none
def eqS (f : U → U → Option Bool) (u v : U) : Option Bool := match u, v with
  | .non, .non => some true
  | .bl a, .bl b => some (a == b)
  | .int a, .int b => some (a == b)
  | .str a, .str b => if okC a && okC b then some (a == b) else none
  | .tup xs, .tup ys => eqQ f xs ys
  | .lst xs, .lst ys => eqQ f xs ys
  | u, v => if kindU u < 6 ∧ kindU v < 6 ∧ kindU u ≠ kindU v then some false else none
/-- equal, at most so deep -/
def eqN : Nat → U → U → Option Bool
  | 0 => eqS fun _ _ => none
  | n + 1 => eqS (eqN n)
abbrev eqA (et : Nat → Option RunD) : ME := andM (isiM [0] (.inl .int) (varM 0)) (andM (notM (isiM [0] (.inl .bl) (varM 0))) (bin2 (eqX false et) (varM 0) (varM 1)))
abbrev mEq (et : Nat → Option RunD) (dd : MS) (c : ME) : MS := (seqM (ifM (tobM (bin2 (isU false) (varM 1) (litM .non))) (stE (bin2 (isU false) (varM 0) (litM .non)) rtM) nxM) (seqM (ifM (tobM (isiM [0] (.inl .bl) (varM 1))) (stE (andM (isiM [0] (.inl .bl) (varM 0)) (bin2 (eqX false et) (varM 0) (varM 1))) rtM) nxM) (seqM (ifM (tobM (isiM [0] (.inl .int) (varM 1))) (stE (eqA et) rtM) nxM) (seqM (ifM (tobM (isiM [0] (.inl .str) (varM 1))) (stE (andM (isiM [0] (.inl .str) (varM 0)) (bin2 (eqX false et) (varM 0) (varM 1))) rtM) nxM) (seqM (ifM (tobM (isiM [0] (.inl .dct) (varM 1))) dd nxM) (seqM (ifM (tobM (bin2 (eqX true et) (isiM [0] (.inl .tup) (varM 1)) (isiM [0] (.inl .tup) (varM 0)))) (stE (litM (.bl false)) rtM) nxM) (seqM (ifM (tobM (bin2 (eqX true et) (isiM [0] (.inl .lst) (varM 1)) (isiM [0] (.inl .lst) (varM 0)))) (stE (litM (.bl false)) rtM) nxM) (seqM (ifM (tobM (bin2 (eqX true et) (preM lenU (consA (varM 0) nilA)) (preM lenU (consA (varM 1) nilA)))) (stE (litM (.bl false)) rtM) nxM) (stE (preM allU (consA (compM false (preI rng1U (consA (preM lenU (consA (varM 1) nilA)) nilA)) (nameG 2) yesT c [2]) nilA)) rtM)))))))))
section
variable {et : Nat → Option RunD} {G : List Ob}
theorem pre_one {f : RunD} {m : ME} {s : Sg} {G G1 : List Ob} {u : U} (hm : m s G = .ok u G1) : preM f (consA m nilA) s G = f [u] G1 := by
  unfold preM
  rw [consA_ok hm rfl]
  rfl
theorem pre_oneI {f : List U → List Ob → Rs (Itb × Nat)} {m : ME} {s : Sg} {G G1 : List Ob} {u : U} (hm : m s G = .ok u G1) : preI f (consA m nilA) s G = f [u] G1 := by
  unfold preI
  rw [consA_ok hm rfl]
  simp only [bind_ok]
theorem rng_items {n : Nat} {G : List Ob} (h : n ≤ szL) : rng1U [.int (n : Nat)] G = .ok (.items (rangeL 0 1 n), (rangeL 0 1 n).length) G := by
  have h1 : -(2 ^ 62 : Int) ≤ (n : Int) ∧ (n : Int) < 2 ^ 62 := by unfold szL at h; omega
  have hl : (rangeL 0 1 n).length = n := by simp [rangeL]
  rw [hl]
  simp only [rng1U]
  rw [if_pos h1, Int.toNat_natCast]
theorem eqX_bl {neg : Bool} {a b : Bool} : eqX neg et (.bl a) (.bl b) G = .ok (.bl (if neg then !(a == b) else (a == b))) G := by
  rw [eqX_pd (x := .bl a) (y := .bl b) rfl rfl]
  cases a <;> cases b <;> rfl
theorem eq_comp {c : ME} {f : U → U → Option Bool} {u v : U} {xs ys : List U} {bs : List Bool} (l2 : preM lenU (consA (varM 1) nilA) [some u, some v, none, none] G = .ok (.int ys.length) G)
    (hc : ∀ k x y b, xs[k]? = some x → ys[k]? = some y → f x y = some b → c [some u, some v, some (.int (k : Nat)), none] G = .ok (.bl b) G) (hz : ys.length ≤ szL) (hl : xs.length = ys.length) (eb : List.zipWith f xs ys = bs.map some) :
    compM false (preI rng1U (consA (preM lenU (consA (varM 1) nilA)) nilA)) (nameG 2) yesT c [2] [some u, some v, none, none] G = .ok (.lst (bs.map .bl)) G := by
  have hlb : bs.length = ys.length := by
    have := congrArg List.length eb
    simp [hl] at this
    exact this.symm
  have hget : ∀ k, k < ys.length → ∃ x y b, xs[k]? = some x ∧ ys[k]? = some y ∧ bs[k]? = some b ∧ f x y = some b := fun k hk => by
    have hk1 : k < xs.length := by omega
    have hk2 : k < bs.length := by omega
    refine ⟨xs[k], ys[k], bs[k], List.getElem?_eq_getElem hk1, List.getElem?_eq_getElem hk, List.getElem?_eq_getElem hk2, ?_⟩
    have := congrArg (fun l : List (Option Bool) => l[k]?) eb
    simp [List.getElem?_zipWith, List.getElem?_eq_getElem hk1, List.getElem?_eq_getElem hk, List.getElem?_eq_getElem hk2] at this
    exact this
  have hit : preI rng1U (consA (preM lenU (consA (varM 1) nilA)) nilA) [some u, some v, none, none] G = .ok (.items (rangeL 0 1 ys.length), (rangeL 0 1 ys.length).length) G := by
    have q : preI rng1U (consA (preM lenU (consA (varM 1) nilA)) nilA) [some u, some v, none, none] G = rng1U [.int ys.length] G := by
      exact pre_oneI l2
    rw [q]
    exact rng_items hz
  have hcomp := comp_items (mu := false) (g := nameG 2) (t := yesT) (e := c) (own := [2]) (s := [some u, some v, none, none]) (h := fun z => match z with | .int k => .bl (bs.getD k.toNat false) | z => z) hit fun z hz => by
    unfold rangeL at hz
    rw [List.mem_map] at hz
    obtain ⟨k, hk, rfl⟩ := hz
    rw [List.mem_range] at hk
    obtain ⟨x, y, b, g1, g2, g3, g4⟩ := hget k hk
    refine ⟨[some u, some v, some (.int (0 + (k : Nat) * 1)), none], rfl, rfl, ?_⟩
    have e : (0 + (k : Nat) * 1 : Int) = (k : Nat) := by omega
    rw [e]
    have hb := hc k x y b g1 g2 g4
    simpa [List.getD, g3] using hb
  have hmap : (rangeL 0 1 ys.length).map (fun z => match z with | .int k => U.bl (bs.getD k.toNat false) | z => z) = bs.map U.bl := by
    unfold rangeL
    rw [List.map_map]
    refine List.ext_getElem? fun k => ?_
    by_cases hk : k < ys.length
    · have hk2 : k < bs.length := by omega
      simp [hk, List.getD, List.getElem?_eq_getElem hk2]
    · simp [List.getElem?_eq_none_iff.mpr (show bs.length ≤ k by omega)]
      omega
  rw [hmap] at hcomp
  refine hcomp.trans (newL_f ?_)
  rw [List.length_map, hlb]
  exact hz
theorem eq_seq {dd : MS} {c : ME} {f : U → U → Option Bool} {u v : U} {xs ys : List U} {b : Bool} (hu : (u = .tup xs ∧ v = .tup ys) ∨ (u = .lst xs ∧ v = .lst ys))
    (hc : ∀ k x y b, xs[k]? = some x → ys[k]? = some y → f x y = some b → c [some u, some v, some (.int (k : Nat)), none] G = .ok (.bl b) G) (h : eqQ f xs ys = some b) : mEq et dd c [some u, some v, none, none] G = .rt (.bl b) G := by
  unfold eqQ at h
  by_cases hz : xs.length ≤ szL ∧ ys.length ≤ szL
  rotate_left
  · rw [if_neg hz] at h; cases h
  rw [if_pos hz] at h
  obtain ⟨hz1, hz2⟩ := hz
  have l1 : preM lenU (consA (varM 0) nilA) [some u, some v, none, none] G = .ok (.int xs.length) G := by
    rcases hu with ⟨rfl, rfl⟩ | ⟨rfl, rfl⟩ <;> simp [preM, consA, nilA, varM, lenU, seqOf, lstOf]
  have l2 : preM lenU (consA (varM 1) nilA) [some u, some v, none, none] G = .ok (.int ys.length) G := by
    rcases hu with ⟨rfl, rfl⟩ | ⟨rfl, rfl⟩ <;> simp [preM, consA, nilA, varM, lenU, seqOf, lstOf]
  have s1 : tobM (bin2 (isU false) (varM 1) (litM .non)) [some u, some v, none, none] G = .ok false G := by
    rcases hu with ⟨rfl, rfl⟩ | ⟨rfl, rfl⟩ <;> simp [tobM, bin2, varM, litM, isU, isNonU, blU]
  have s2 : tobM (isiM [0] (.inl .bl) (varM 1)) [some u, some v, none, none] G = .ok false G := by
    rcases hu with ⟨rfl, rfl⟩ | ⟨rfl, rfl⟩ <;> simp [tobM, isiM, varM, tyOf, Ty.sub, blU]
  have s3 : tobM (isiM [0] (.inl .int) (varM 1)) [some u, some v, none, none] G = .ok false G := by
    rcases hu with ⟨rfl, rfl⟩ | ⟨rfl, rfl⟩ <;> simp [tobM, isiM, varM, tyOf, Ty.sub, blU]
  have s4 : tobM (isiM [0] (.inl .str) (varM 1)) [some u, some v, none, none] G = .ok false G := by
    rcases hu with ⟨rfl, rfl⟩ | ⟨rfl, rfl⟩ <;> simp [tobM, isiM, varM, tyOf, Ty.sub, blU]
  have s5 : tobM (isiM [0] (.inl .dct) (varM 1)) [some u, some v, none, none] G = .ok false G := by
    rcases hu with ⟨rfl, rfl⟩ | ⟨rfl, rfl⟩ <;> simp [tobM, isiM, varM, tyOf, Ty.sub, blU]
  have s6 : tobM (bin2 (eqX true et) (isiM [0] (.inl .tup) (varM 1)) (isiM [0] (.inl .tup) (varM 0))) [some u, some v, none, none] G = .ok false G := by
    rcases hu with ⟨rfl, rfl⟩ | ⟨rfl, rfl⟩ <;> simp [tobM, bin2, isiM, varM, tyOf, Ty.sub, blU, eqX_bl]
  have s7 : tobM (bin2 (eqX true et) (isiM [0] (.inl .lst) (varM 1)) (isiM [0] (.inl .lst) (varM 0))) [some u, some v, none, none] G = .ok false G := by
    rcases hu with ⟨rfl, rfl⟩ | ⟨rfl, rfl⟩ <;> simp [tobM, bin2, isiM, varM, tyOf, Ty.sub, blU, eqX_bl]
  have s8 := tob_int (neg := true) (et := et) l1 l2
  refine (seqM_if s1).trans ((seqM_if s2).trans ((seqM_if s3).trans ((seqM_if s4).trans ((seqM_if s5).trans ((seqM_if s6).trans ((seqM_if s7).trans ?_))))))
  split at h
  · rename_i hl
    have e8 : (if true = true then !((xs.length : Int) == (ys.length : Int)) else ((xs.length : Int) == (ys.length : Int))) = false := by simp [hl]
    rw [e8] at s8
    refine (seqM_if s8).trans ?_
    obtain ⟨bs, eb, rfl⟩ := allO_some h
    have hcomp := eq_comp l2 hc hz2 hl eb
    refine stE_rt ((pre_one hcomp).trans ?_)
    simp [allU, lstOf]
  · rename_i hl
    cases h
    have e8 : (if true = true then !((xs.length : Int) == (ys.length : Int)) else ((xs.length : Int) == (ys.length : Int))) = true := by simp [hl]; omega
    rw [e8] at s8
    exact seqM_ift s8 rfl
theorem eq_body {dd : MS} {c : ME} {f : U → U → Option Bool} {u v : U} {b : Bool}
    (hc : ∀ xs ys k x y b, (u = .tup xs ∧ v = .tup ys) ∨ (u = .lst xs ∧ v = .lst ys) → xs[k]? = some x → ys[k]? = some y → f x y = some b → c [some u, some v, some (.int (k : Nat)), none] G = .ok (.bl b) G) (h : eqS f u v = some b) : mEq et dd c [some u, some v, none, none] G = .rt (.bl b) G := by
  unfold eqS at h
  split at h
  · cases h; simp [seqM, ifM, stE, tobM, bin2, varM, litM, isU, isNonU, blU, rtM]
  · cases h
    refine (seqM_if (by simp [tobM, bin2, varM, litM, isU, isNonU, blU]; rfl)).trans (seqM_ift (G1 := G) (by simp [tobM, isiM, varM, tyOf, Ty.sub, blU]) (stE_rt ?_))
    simp [andM, isiM, varM, tyOf, Ty.sub, bin2, eqX_bl]
  · cases h
    refine (seqM_if (by simp [tobM, bin2, varM, litM, isU, isNonU, blU]; rfl)).trans ((seqM_if (by simp [tobM, isiM, varM, tyOf, Ty.sub, blU]; rfl)).trans (seqM_ift (G1 := G) (by simp [tobM, isiM, varM, tyOf, Ty.sub, blU]) (stE_rt ?_)))
    simp [andM, notM, isiM, varM, tyOf, Ty.sub, bin2, eqX_int]
  · rename_i x y
    split at h
    · rename_i ok
      rw [Bool.and_eq_true] at ok
      cases h
      refine (seqM_if (by simp [tobM, bin2, varM, litM, isU, isNonU, blU]; rfl)).trans ((seqM_if (by simp [tobM, isiM, varM, tyOf, Ty.sub, blU]; rfl)).trans ((seqM_if (by simp [tobM, isiM, varM, tyOf, Ty.sub, blU]; rfl)).trans (seqM_ift (G1 := G) (by simp [tobM, isiM, varM, tyOf, Ty.sub, blU]) (stE_rt ?_))))
      simp [andM, isiM, varM, tyOf, Ty.sub, bin2, eqX_str ok.1 ok.2]
    · cases h
  · exact eq_seq (.inl ⟨rfl, rfl⟩) (fun k x y b => hc _ _ k x y b (.inl ⟨rfl, rfl⟩)) h
  · exact eq_seq (.inr ⟨rfl, rfl⟩) (fun k x y b => hc _ _ k x y b (.inr ⟨rfl, rfl⟩)) h
  · split at h
    · rename_i hk
      cases h
      obtain ⟨k1, k2, k3⟩ := hk
      cases v with
      | non => cases u <;> first | (simp [kindU] at k1 k3; done) | simp [seqM, ifM, stE, tobM, bin2, varM, litM, isU, isNonU, blU, rtM]
      | bl b => cases u <;> first | (simp [kindU] at k1 k3; done) | simp [seqM, ifM, stE, tobM, bin2, varM, litM, isU, isNonU, blU, rtM, isiM, tyOf, Ty.sub, andM, nxM]
      | int b => cases u <;> first | (simp [kindU] at k1 k3; done) | simp [seqM, ifM, stE, tobM, bin2, varM, litM, isU, isNonU, blU, rtM, isiM, tyOf, Ty.sub, andM, notM, nxM]
      | str b => cases u <;> first | (simp [kindU] at k1 k3; done) | simp [seqM, ifM, stE, tobM, bin2, varM, litM, isU, isNonU, blU, rtM, isiM, tyOf, Ty.sub, andM, nxM]
      | tup b => cases u <;> first | (simp [kindU] at k1 k3; done) | simp [seqM, ifM, stE, tobM, bin2, varM, litM, isU, isNonU, blU, rtM, isiM, tyOf, Ty.sub, nxM, eqX_bl]
      | lst b => cases u <;> first | (simp [kindU] at k1 k3; done) | simp [seqM, ifM, stE, tobM, bin2, varM, litM, isU, isNonU, blU, rtM, isiM, tyOf, Ty.sub, nxM, eqX_bl]
      | _ => simp [kindU] at k2
    · cases h
/-- one answers as the comparison does, to the depth n -/
def r_eq (n : Nat) : RunD := fun us G => match us with
  | [u, v] => (match eqN n u v with
    | some b => .ok (.bl b) G
    | none => .bad)
  | _ => .bad
theorem eq_zero {dd : MS} {c : ME} {u v : U} {b : Bool} (h : eqN 0 u v = some b) : mEq et dd c [some u, some v, none, none] G = .rt (.bl b) G :=
  eq_body (f := fun _ _ => none) (fun _ _ _ _ _ _ _ _ _ z => nomatch z) h
theorem eq_succ {dd : MS} {n : Nat} {u v : U} {b : Bool} (h : eqN (n + 1) u v = some b) : mEq et dd (callM 2 (r_eq n) (consA (bin2 idxU (varM 0) (varM 2)) (consA (bin2 idxU (varM 1) (varM 2)) nilA))) [some u, some v, none, none] G = .rt (.bl b) G :=
  eq_body (f := eqN n) (fun xs ys k x y b hu h1 h2 hf => by
    have i1 : bin2 idxU (varM 0) (varM 2) [some u, some v, some (.int (k : Nat)), none] G = .ok x G := by
      rw [bin2_p (var_ok rfl) (var_ok (u := .int (k : Nat)) rfl)]
      rcases hu with ⟨rfl, rfl⟩ | ⟨rfl, rfl⟩ <;> simp [idxU, seqOf, lstOf, atI_nat h1]
    have i2 : bin2 idxU (varM 1) (varM 2) [some u, some v, some (.int (k : Nat)), none] G = .ok y G := by
      rw [bin2_p (var_ok rfl) (var_ok (u := .int (k : Nat)) rfl)]
      rcases hu with ⟨rfl, rfl⟩ | ⟨rfl, rfl⟩ <;> simp [idxU, seqOf, lstOf, atI_nat h2]
    unfold callM
    rw [consA_p i1 (consA_p i2 rfl)]
    simp [arM, r_eq, hf]) h
end
end FL

namespace FL
open PySem L2 PyProof.Rows
abbrev W1 := List Nat
def c_SIGNS : U := .str (tx "abc")
def c_KEEPS : U := .tup [.str (tx "one"), .str (tx "all")]
def c_TURNS : U := .tup [.str (tx "first"), .str (tx "last"), .str (tx "behind")]
def c_DEEDS : U := .tup [.str (tx "replace"), .str (tx "keep"), .str (tx "stop")]
def c_FIELDS : U := .tup [.str (tx "keep"), .str (tx "turn"), .str (tx "deeds"), .str (tx "passes")]
def top (i : Nat) : Stmt := PySem.Challenge.pw_hitsteps_k01_steppers_kept_and_refused.main.body.getD i (.Pass ⟨0, 0, 0, 0⟩)
def bls : List Str := ["isinstance", "int", "bool", "str", "tuple", "list", "dict", "len", "all", "abs", "range"]
/-! ### the plain functions -/
def isT (l : W1) : Bool := l.all fun c => infB [c] [97, 98, 99]
def keepsL : List W1 := [[111, 110, 101], [97, 108, 108]]
def turnsL : List W1 := [[102, 105, 114, 115, 116], [108, 97, 115, 116], [98, 101, 104, 105, 110, 100]]
def deedsL : List W1 := [[114, 101, 112, 108, 97, 99, 101], [107, 101, 101, 112], [115, 116, 111, 112]]
def inW (zs : List W1) (a : W1) : Bool := zs.any fun z => z == a
def okDs (zs : List W1) : Bool := decide (1 ≤ zs.length) && decide (zs.length ≤ 3) && zs.all (inW deedsL)
def okS (w p k t : W1) (zs : List W1) (n : Int) : Bool :=
  isT w && decide (1 ≤ w.length) && decide (w.length ≤ 3) && isT p && decide (p.length ≤ 3) && inW keepsL k && inW turnsL t && okDs zs && decide (1 ≤ n) && decide (n ≤ 2)
def wWord : W1 := [119, 111, 114, 100]
def wPut : W1 := [112, 117, 116]
def wRep : W1 := [114, 101, 112, 108, 97, 99, 101]
def wKeep : W1 := [107, 101, 101, 112]
def wTurn : W1 := [116, 117, 114, 110]
def wDeeds : W1 := [100, 101, 101, 100, 115]
def wPasses : W1 := [112, 97, 115, 115, 101, 115]
def fieldsL : List W1 := [wKeep, wTurn, wDeeds, wPasses]
/-! what a field may be -/
def isTx (lo : Nat) : U → Bool
  | .str l => isT l && decide (lo ≤ l.length) && decide (l.length ≤ 3)
  | _ => false
def isOne (zs : List W1) : U → Bool
  | .str a => inW zs a
  | _ => false
def isDs : U → Bool
  | .tup ds => (match strsOf ds with
    | some zs => okDs zs
    | none => false)
  | _ => false
def isPs : U → Bool
  | .int n => decide (1 ≤ n) && decide (n ≤ 2)
  | _ => false
/-- what is asked about -/
def admT : U → Bool
  | .str l => decide (l.length ≤ 1000)
  | .non => true
  | .int _ => true
  | _ => false
def admD : U → Bool
  | .tup ds => (match strsOf ds with
    | some zs => decide (zs.length ≤ 1000) && zs.all fun z => decide (z.length ≤ 1000)
    | none => false)
  | .lst _ => true
  | .non => true
  | _ => false
def admP : U → Bool
  | .str _ => true
  | .non => true
  | .int _ => true
  | .bl _ => true
  | _ => false
/-- the six -/
structure S6 where
  w : U
  p : U
  k : U
  t : U
  d : U
  n : U
def adm6 (x : S6) : Bool := admT x.w && admT x.p && admT x.k && admT x.t && admD x.d && admP x.n
def bad6 (x : S6) : Option W1 :=
  if !isTx 1 x.w then some wWord else if !isTx 0 x.p then some wPut else if !isOne keepsL x.k then some wKeep else if !isOne turnsL x.t then some wTurn else if !isDs x.d then some wDeeds else if !isPs x.n then some wPasses else none
def fl6 (x : S6) : List (Nat × U) := [(0, x.w), (1, x.p), (2, x.k), (3, x.t), (4, x.d), (5, x.n)]
def us6 (x : S6) : List U := [x.w, x.p, x.k, x.t, x.d, x.n]
def exS (f : W1) : Exn := ⟨2, [(6, .str f)]⟩
def exU (u : U) : Exn := ⟨3, [(6, u)]⟩
/-! ### draws -/
def brP (b : Int) (r : List Int) : Int × List Int := if b = 0 then (match r with | x :: t => (x, t) | [] => (b, r)) else (b, r)
def belowQ (a b : Int) (r : List Int) (n : Int) : Int × List Int :=
  if b > 0 then (b.fmod n, a :: b.fdiv n :: r) else (((((a * 48271 + 11).fmod 2147483647).fdiv 64).fmod n), (a * 48271 + 11).fmod 2147483647 :: b :: r)
def belowP (a b : Int) (r : List Int) (n : Int) : Int × List Int := belowQ a (brP b r).1 (brP b r).2 n
/-- a drawer's list -/
def drOf (G : List Ob) (i : Nat) : Option (Int × Int × List Int) := match G[i]? with
  | some (.lst l) => match intsOf l with
    | some (a :: b :: r) => if r.length ≤ 63 then some (a, b, r) else none
    | _ => none
  | _ => none
def drC (l : List Int) : Ob := .lst (l.map U.int)
theorem drOf_ok {G : List Ob} {i : Nat} {a b : Int} {r : List Int} (h : drOf G i = some (a, b, r)) : G[i]? = some (drC (a :: b :: r)) ∧ r.length ≤ 63 := by
  unfold drOf at h
  split at h
  · rename_i l g
    split at h
    · rename_i e
      split at h
      · rename_i hr
        cases h
        rw [intsOf_eq e] at g
        exact ⟨g, hr⟩
      · cases h
    · cases h
  · cases h
def r_is_integer : RunD := fun us G => match us with
  | [.int _] => .ok (.bl true) G
  | [.bl _] => .ok (.bl false) G
  | [.str _] => .ok (.bl false) G
  | [.non] => .ok (.bl false) G
  | _ => .bad
def isTU : U → Bool
  | .str l => isT l
  | _ => false
def r_is_text : RunD := fun us G => match us with
  | [u] => if admT u then .ok (.bl (isTU u)) G else .bad
  | _ => .bad
def r_is_one_of : RunD := fun us G => match us with
  | [u, .tup ws] => match strsOf ws with
    | some zs => if admT u then .ok (.bl (isOne zs u)) G else .bad
    | none => .bad
  | _ => .bad
def r_are_deeds : RunD := fun us G => match us with
  | [u] => if admD u then .ok (.bl (isDs u)) G else .bad
  | _ => .bad
def r_need_fields : RunD := fun us G => match us with
  | [w, p, k, t, d, n] => if adm6 ⟨w, p, k, t, d, n⟩ then (match bad6 ⟨w, p, k, t, d, n⟩ with
    | none => .ok .non G
    | some f => .exc (exS f) G) else .bad
  | _ => .bad
def r_Stepper_init : RunD := fun us G => match us with
  | [.ref i, w, p, k, t, d, n] => match G[i]? with
    | some (.ins 0 []) => if adm6 ⟨w, p, k, t, d, n⟩ then (match bad6 ⟨w, p, k, t, d, n⟩ with
      | none => .ok .non (G.set i (.ins 0 (fl6 ⟨w, p, k, t, d, n⟩)))
      | some f => .exc (exS f) G) else .bad
    | _ => .bad
  | _ => .bad
/-- a stepper's fields -/
def of6 : List (Nat × U) → Option S6
  | [(0, w), (1, p), (2, k), (3, t), (4, d), (5, n)] => if adm6 ⟨w, p, k, t, d, n⟩ = true ∧ bad6 ⟨w, p, k, t, d, n⟩ = none then some ⟨w, p, k, t, d, n⟩ else none
  | _ => none
def r_Stepper_parts_told : RunD := fun us G => match us with
  | [.ins 0 fs] => match of6 fs with
    | some x => .ok (.tup (us6 x)) G
    | none => .bad
  | _ => .bad
def r_Stepper_eq : RunD := fun us G => match us with
  | [.ins 0 fs, .ins 0 gs] => match of6 fs, of6 gs with
    | some x, some y => .ok (.bl (PyData.eqv (dP (.tup (us6 x))) (dP (.tup (us6 y))))) G
    | _, _ => .bad
  | [.ins 0 _, .tup _] => .ok (.bl false) G
  | _ => .bad
def put6 (x : S6) (f : W1) (u : U) : S6 := ⟨x.w, x.p, if f = wKeep then u else x.k, if f = wTurn then u else x.t, if f = wDeeds then u else x.d, if f = wPasses then u else x.n⟩
def made6 (G : List Ob) (x : S6) : Rs U := if adm6 x then (match bad6 x with
  | none => .ok (.ins 0 (fl6 x)) G
  | some f => .exc (exS f) G) else .bad
def isFld : U → Option W1
  | .str f => if inW fieldsL f then some f else none
  | _ => none
def r_Stepper_changed : RunD := fun us G => match us with
  | [.ins 0 fs, f, u] => match of6 fs with
    | some x => if admT f then (match isFld f with
      | some f => made6 G (put6 x f u)
      | none => .exc (exU f) G) else .bad
    | none => .bad
  | _ => .bad
def rndP (ns : List Int) (salt : Int) : Int := ns.foldl (fun s c => (s * 31 + (if c < 0 then -c else c)).fmod 2147483647) salt
def r__law_random : RunD := fun us G => match us with
  | [.sc l, .int 1] => match intsOf l with
    | some ns => if ns.length ≤ 63 then .ok (.ref G.length) (G ++ [drC (rndP ns 1 :: 0 :: ns.filter fun c => decide (10 ^ 18 ≤ c))]) else .bad
    | none => .bad
  | _ => .bad
def r__law_below : RunD := fun us G => match us with
  | [.ref i, .int n] => match drOf G i with
    | some (a, b, r) => if 0 < n ∧ n < 1000 then .ok (.int (belowP a b r n).1) (G.set i (drC (belowP a b r n).2)) else .bad
    | none => .bad
  | _ => .bad
def r__law_pick : RunD := fun us G => match us with
  | [.ref i, .lst xs] => match drOf G i with
    | some (a, b, r) => if 0 < xs.length ∧ xs.length < 1000 then (match xs[(belowP a b r xs.length).1.toNat]? with
      | some u => .ok u (G.set i (drC (belowP a b r xs.length).2))
      | none => .bad) else .bad
    | none => .bad
  | _ => .bad
abbrev r__law_equal : RunD := r_eq 0
abbrev r__law_equal_1 : RunD := r_eq 1
abbrev r__law_equal_2 : RunD := r_eq 2
/-- the drawn values -/
structure Dr where
  w : W1
  p : W1
  k : W1
  t : W1
  zs : List W1
  n : Int
  deriving DecidableEq
def words6 : List W1 := [[97], [97, 98], [97, 97], [97, 98, 97], [97, 97, 98], [97, 98, 99]]
def puts10 : List W1 := [[], [97], [98], [97, 98], [98, 97], [97, 97], [97, 98, 97], [98, 97, 98], [97, 97, 98], [99]]
def dK : W1 := [107, 101, 101, 112]
def dS' : W1 := [115, 116, 111, 112]
def deeds8 : List (List W1) := [[wRep], [wRep], [wRep, dK], [dK, wRep], [dK, dK, wRep], [wRep, wRep, dS'], [dK], [dK, wRep, dS']]
/-- one pick: from a drawer's list -/
def pickP {α : Type} (dflt : α) (l : Int × Int × List Int) (xs : List α) : α × (Int × Int × List Int) :=
  let z := belowP l.1 l.2.1 l.2.2 xs.length
  (xs.getD z.1.toNat dflt, (z.2.headD 0, z.2.tail.headD 0, z.2.tail.tail))
def drawnP (l : Int × Int × List Int) : Dr × (Int × Int × List Int) :=
  let a := pickP [] l words6
  let b := pickP [] a.2 puts10
  let c := pickP [] b.2 keepsL
  let d := pickP [] c.2 turnsL
  let e := pickP [] d.2 deeds8
  let f := pickP 0 e.2 [1, (2 : Int)]
  (⟨a.1, b.1, c.1, d.1, e.1, f.1⟩, f.2)
def drU (s : Dr) : U := .tup [.str s.w, .str s.p, .str s.k, .str s.t, .tup (s.zs.map .str), .int s.n]
def dl (l : Int × Int × List Int) : List Int := l.1 :: l.2.1 :: l.2.2
def r__law_drawn : RunD := fun us G => match us with
  | [.ref i] => match drOf G i with
    | some l => .ok (drU (drawnP l).1) (G.set i (drC (dl (drawnP l).2)))
    | none => .bad
  | _ => .bad
def drOfU : U → Option Dr
  | .tup [.str w, .str p, .str k, .str t, .tup ds, .int n] => match strsOf ds with
    | some zs => if okS w p k t zs n then some ⟨w, p, k, t, zs, n⟩ else none
    | none => none
  | _ => none
def of6U : U → Option S6
  | .tup [w, p, k, t, d, n] => some ⟨w, p, k, t, d, n⟩
  | _ => none
def r__law_make : RunD := fun us G => match us with
  | [u] => match of6U u with
    | some x => made6 G x
    | none => .bad
  | _ => .bad
def faultU (x : S6) : U := match bad6 x with
  | none => .non
  | some f => .str f
def r__law_made : RunD := fun us G => match us with
  | [u] => match of6U u with
    | some x => if adm6 x then .ok (faultU x) G else .bad
    | none => .bad
  | _ => .bad
def r__law_fault : RunD := fun us G => match us with
  | [u] => match of6U u with
    | some x => if adm6 x then .ok (faultU x) G else .bad
    | none => .bad
  | _ => .bad
def wUnk : W1 := [117, 110, 107, 110, 111, 119, 110]
def wInv : W1 := [105, 110, 118, 97, 108, 105, 100]
def chR (G : List Ob) : Rs U → Rs U
  | .ok u _ => .ok u G
  | .exc ⟨3, [(6, u)]⟩ _ => .ok (.lst [.str wUnk, u]) G
  | .exc ⟨2, [(6, u)]⟩ _ => .ok (.lst [.str wInv, u]) G
  | _ => .bad
def r__law_changed : RunD := fun us G => match us with
  | [.ins 0 fs, f, u] => chR G (r_Stepper_changed [.ins 0 fs, f, u] G)
  | _ => .bad
def r_law : RunD := fun us G => match us with
  | [.sc l] => match intsOf l with
    | some ns => if ns.length ≤ 63 then .ok (.bl true) G else .bad
    | none => .bad
  | _ => .bad
end FL

namespace FL
open PySem L2 PyProof.Rows
def exs : List ((Nat × Nat) × Bool) := [((1, 1), true), ((1, 2), false), ((1, 3), false), ((2, 1), true), ((2, 2), true), ((2, 3), false), ((3, 1), true), ((3, 2), false), ((3, 3), true)]
abbrev exi := exs
abbrev s_InvalidStepper_init : Stmt := inClass (top 2) 0
abbrev s_UnknownField_init : Stmt := inClass (top 3) 0
/-! is_integer -/
abbrev s_is_integer : Stmt := top 13
def d_is_integer : Dn where
  N := ["value"]
  gl := []
  bl := bls
  ty := []
  cls := [0]
  att := []
  mth := []
  eqt := []
  mu := []
  rmu := false
def m_is_integer : MS := (stE (andM (isiM [0] (.inl .int) (varM 0)) (notM (isiM [0] (.inl .bl) (varM 0)))) rtM)
theorem den_is_integer : dSs (dS d_is_integer 40 (defScope s_is_integer) fnT) (defBody s_is_integer) = m_is_integer := by kernel_rfl
theorem run_is_integer (us : List U) (G : List Ob) : runB d_is_integer 40 s_is_integer us G = runR (m_is_integer (startS d_is_integer.N us) G) := congrArg (fun m : MS => runR (m (startS d_is_integer.N us) G)) den_is_integer

/-! is_text -/
abbrev s_is_text : Stmt := top 14
def d_is_text : Dn where
  N := ["value", "sign"]
  gl := [("SIGNS", .con c_SIGNS)]
  bl := bls
  ty := []
  cls := [0]
  att := []
  mth := []
  eqt := []
  mu := []
  rmu := false
def m_is_text : MS := (stE (andM (isiM [0] (.inl .str) (varM 0)) (preM allU (consA (compM false (seqI (varM 0)) (nameG 1) yesT (bin2 (inU false) (varM 1) (litM c_SIGNS)) [1]) nilA))) rtM)
theorem den_is_text : dSs (dS d_is_text 40 (defScope s_is_text) fnT) (defBody s_is_text) = m_is_text := by kernel_rfl
theorem run_is_text (us : List U) (G : List Ob) : runB d_is_text 40 s_is_text us G = runR (m_is_text (startS d_is_text.N us) G) := congrArg (fun m : MS => runR (m (startS d_is_text.N us) G)) den_is_text

/-! is_one_of -/
abbrev s_is_one_of : Stmt := top 15
def d_is_one_of : Dn where
  N := ["value", "words"]
  gl := []
  bl := bls
  ty := []
  cls := [0]
  att := []
  mth := []
  eqt := []
  mu := []
  rmu := false
def m_is_one_of : MS := (stE (andM (isiM [0] (.inl .str) (varM 0)) (bin2 (inU false) (varM 0) (varM 1))) rtM)
theorem den_is_one_of : dSs (dS d_is_one_of 40 (defScope s_is_one_of) fnT) (defBody s_is_one_of) = m_is_one_of := by kernel_rfl
theorem run_is_one_of (us : List U) (G : List Ob) : runB d_is_one_of 40 s_is_one_of us G = runR (m_is_one_of (startS d_is_one_of.N us) G) := congrArg (fun m : MS => runR (m (startS d_is_one_of.N us) G)) den_is_one_of

/-! are_deeds -/
abbrev s_are_deeds : Stmt := top 16
def d_are_deeds : Dn where
  N := ["value", "deed"]
  gl := [("is_one_of", .fn 2 r_is_one_of), ("DEEDS", .con c_DEEDS), ("MOST_DEEDS", .con (.int 3))]
  bl := bls
  ty := []
  cls := [0]
  att := []
  mth := []
  eqt := []
  mu := []
  rmu := false
def m_are_deeds : MS := (seqM (ifM (orT (notT (tobM (isiM [0] (.inl .tup) (varM 0)))) (notT (tobM (chM (cmpU fun i j => decide (i ≤ j)) (cmpU fun i j => decide (i ≤ j)) (litM (.int 1)) (preM lenU (consA (varM 0) nilA)) (litM (.int 3)))))) (stE (litM (.bl false)) rtM) nxM) (stE (preM allU (consA (compM false (seqI (varM 0)) (nameG 1) yesT (callM 2 r_is_one_of (consA (varM 1) (consA (litM c_DEEDS) nilA))) [1]) nilA)) rtM))
theorem den_are_deeds : dSs (dS d_are_deeds 40 (defScope s_are_deeds) fnT) (defBody s_are_deeds) = m_are_deeds := by kernel_rfl
theorem run_are_deeds (us : List U) (G : List Ob) : runB d_are_deeds 40 s_are_deeds us G = runR (m_are_deeds (startS d_are_deeds.N us) G) := congrArg (fun m : MS => runR (m (startS d_are_deeds.N us) G)) den_are_deeds

/-! need_fields -/
abbrev s_need_fields : Stmt := top 17
def d_need_fields : Dn where
  N := ["word", "put", "keep", "turn", "deeds", "passes"]
  gl := [("MOST_PASSES", .con (.int 2)), ("is_integer", .fn 1 r_is_integer), ("are_deeds", .fn 1 r_are_deeds), ("is_one_of", .fn 2 r_is_one_of), ("TURNS", .con c_TURNS), ("KEEPS", .con c_KEEPS), ("MOST_SIGNS", .con (.int 3)), ("is_text", .fn 1 r_is_text)]
  bl := bls
  ty := []
  cls := [0]
  att := []
  mth := []
  eqt := []
  mu := []
  rmu := false
  xc := [("InvalidStepper", (2, some 6))]
  xs := exs
  xi := exi
def m_need_fields : MS := (seqM (ifM (orT (notT (tobM (callM 1 r_is_text (consA (varM 0) nilA)))) (notT (tobM (chM (cmpU fun i j => decide (i ≤ j)) (cmpU fun i j => decide (i ≤ j)) (litM (.int 1)) (preM lenU (consA (varM 0) nilA)) (litM (.int 3)))))) (stE (litM (.str (Str.ofString "word").cps.toList)) (raiseM 2 6)) nxM) (seqM (ifM (orT (notT (tobM (callM 1 r_is_text (consA (varM 1) nilA)))) (tobM (bin2 (cmpU fun i j => decide (j < i)) (preM lenU (consA (varM 1) nilA)) (litM (.int 3))))) (stE (litM (.str (Str.ofString "put").cps.toList)) (raiseM 2 6)) nxM) (seqM (ifM (notT (tobM (callM 2 r_is_one_of (consA (varM 2) (consA (litM c_KEEPS) nilA))))) (stE (litM (.str (Str.ofString "keep").cps.toList)) (raiseM 2 6)) nxM) (seqM (ifM (notT (tobM (callM 2 r_is_one_of (consA (varM 3) (consA (litM c_TURNS) nilA))))) (stE (litM (.str (Str.ofString "turn").cps.toList)) (raiseM 2 6)) nxM) (seqM (ifM (notT (tobM (callM 1 r_are_deeds (consA (varM 4) nilA)))) (stE (litM (.str (Str.ofString "deeds").cps.toList)) (raiseM 2 6)) nxM) (ifM (orT (notT (tobM (callM 1 r_is_integer (consA (varM 5) nilA)))) (notT (tobM (chM (cmpU fun i j => decide (i ≤ j)) (cmpU fun i j => decide (i ≤ j)) (litM (.int 1)) (varM 5) (litM (.int 2)))))) (stE (litM (.str (Str.ofString "passes").cps.toList)) (raiseM 2 6)) nxM))))))
theorem den_need_fields : dSs (dS d_need_fields 40 (defScope s_need_fields) fnT) (defBody s_need_fields) = m_need_fields := by kernel_rfl
theorem run_need_fields (us : List U) (G : List Ob) : runB d_need_fields 40 s_need_fields us G = runR (m_need_fields (startS d_need_fields.N us) G) := congrArg (fun m : MS => runR (m (startS d_need_fields.N us) G)) den_need_fields

/-! Stepper_init -/
abbrev s_Stepper_init : Stmt := inClass (top 18) 0
def d_Stepper_init : Dn where
  N := ["self", "word", "put", "keep", "turn", "deeds", "passes"]
  gl := [("need_fields", .fn 6 r_need_fields)]
  bl := bls
  ty := []
  cls := [0]
  att := [("word", (0, [0], [])), ("put", (1, [0], [])), ("keep", (2, [0], [])), ("turn", (3, [0], [])), ("deeds", (4, [0], [])), ("passes", (5, [0], []))]
  mth := []
  eqt := []
  mu := []
  rmu := false
def m_Stepper_init : MS := (seqM (stE (callM 6 r_need_fields (consA (varM 1) (consA (varM 2) (consA (varM 3) (consA (varM 4) (consA (varM 5) (consA (varM 6) nilA))))))) (fun _ => nxM)) (seqM (stE2 (varM 1) (varM 0) (fldM (fun c => ([0] : List Nat).contains c) 0)) (seqM (stE2 (varM 2) (varM 0) (fldM (fun c => ([0] : List Nat).contains c) 1)) (seqM (stE2 (varM 3) (varM 0) (fldM (fun c => ([0] : List Nat).contains c) 2)) (seqM (stE2 (varM 4) (varM 0) (fldM (fun c => ([0] : List Nat).contains c) 3)) (seqM (stE2 (varM 5) (varM 0) (fldM (fun c => ([0] : List Nat).contains c) 4)) (stE2 (varM 6) (varM 0) (fldM (fun c => ([0] : List Nat).contains c) 5))))))))
theorem den_Stepper_init : dSs (dS d_Stepper_init 40 (defScope s_Stepper_init) fnT) (defBody s_Stepper_init) = m_Stepper_init := by kernel_rfl
theorem run_Stepper_init (us : List U) (G : List Ob) : runB d_Stepper_init 40 s_Stepper_init us G = runR (m_Stepper_init (startS d_Stepper_init.N us) G) := congrArg (fun m : MS => runR (m (startS d_Stepper_init.N us) G)) den_Stepper_init

/-! Stepper_parts_told -/
abbrev s_Stepper_parts_told : Stmt := inClass (top 18) 1
def d_Stepper_parts_told : Dn where
  N := ["self"]
  gl := []
  bl := bls
  ty := []
  cls := [0]
  att := [("word", (0, [0], [])), ("put", (1, [0], [])), ("keep", (2, [0], [])), ("turn", (3, [0], [])), ("deeds", (4, [0], [])), ("passes", (5, [0], []))]
  mth := []
  eqt := []
  mu := []
  rmu := false
def m_Stepper_parts_told : MS := (stE (tupM (consA (attrM (fun c => (([] : List (Nat × RunD)).lookup c).map attrP) (fun c => ([0] : List Nat).contains c) 0 (varM 0)) (consA (attrM (fun c => (([] : List (Nat × RunD)).lookup c).map attrP) (fun c => ([0] : List Nat).contains c) 1 (varM 0)) (consA (attrM (fun c => (([] : List (Nat × RunD)).lookup c).map attrP) (fun c => ([0] : List Nat).contains c) 2 (varM 0)) (consA (attrM (fun c => (([] : List (Nat × RunD)).lookup c).map attrP) (fun c => ([0] : List Nat).contains c) 3 (varM 0)) (consA (attrM (fun c => (([] : List (Nat × RunD)).lookup c).map attrP) (fun c => ([0] : List Nat).contains c) 4 (varM 0)) (consA (attrM (fun c => (([] : List (Nat × RunD)).lookup c).map attrP) (fun c => ([0] : List Nat).contains c) 5 (varM 0)) nilA))))))) rtM)
theorem den_Stepper_parts_told : dSs (dS d_Stepper_parts_told 40 (defScope s_Stepper_parts_told) fnT) (defBody s_Stepper_parts_told) = m_Stepper_parts_told := by kernel_rfl
theorem run_Stepper_parts_told (us : List U) (G : List Ob) : runB d_Stepper_parts_told 40 s_Stepper_parts_told us G = runR (m_Stepper_parts_told (startS d_Stepper_parts_told.N us) G) := congrArg (fun m : MS => runR (m (startS d_Stepper_parts_told.N us) G)) den_Stepper_parts_told

/-! Stepper_eq -/
abbrev s_Stepper_eq : Stmt := inClass (top 18) 2
def d_Stepper_eq : Dn where
  N := ["self", "other"]
  gl := []
  bl := bls
  ty := [("Stepper", 0)]
  cls := [0]
  att := []
  mth := [("parts_told", (7, [(0, (1, r_Stepper_parts_told))]))]
  eqt := []
  mu := []
  rmu := false
def m_Stepper_eq : MS := (stE (andM (isiM [0] (.inr 0) (varM 1)) (bin2 (eqX false (fun c => d_Stepper_eq.eqt.lookup c)) (methM (fun c => ([(0, (1, r_Stepper_parts_told))] : List (Nat × (Nat × RunD))).lookup c) 7 (varM 0) nilA) (methM (fun c => ([(0, (1, r_Stepper_parts_told))] : List (Nat × (Nat × RunD))).lookup c) 7 (varM 1) nilA))) rtM)
theorem den_Stepper_eq : dSs (dS d_Stepper_eq 40 (defScope s_Stepper_eq) fnT) (defBody s_Stepper_eq) = m_Stepper_eq := by kernel_rfl
theorem run_Stepper_eq (us : List U) (G : List Ob) : runB d_Stepper_eq 40 s_Stepper_eq us G = runR (m_Stepper_eq (startS d_Stepper_eq.N us) G) := congrArg (fun m : MS => runR (m (startS d_Stepper_eq.N us) G)) den_Stepper_eq

/-! Stepper_changed -/
abbrev s_Stepper_changed : Stmt := inClass (top 18) 3
def d_Stepper_changed : Dn where
  N := ["self", "field", "value", "keep", "turn", "deeds", "passes"]
  gl := [("Stepper", .mkK 0 2 ["keep", "turn", "deeds", "passes"] r_Stepper_init), ("is_one_of", .fn 2 r_is_one_of), ("FIELDS", .con c_FIELDS)]
  bl := bls
  ty := []
  cls := [0]
  att := [("word", (0, [0], [])), ("put", (1, [0], [])), ("keep", (2, [0], [])), ("turn", (3, [0], [])), ("deeds", (4, [0], [])), ("passes", (5, [0], []))]
  mth := []
  eqt := [(0, r_Stepper_eq)]
  mu := []
  rmu := false
  xc := [("UnknownField", (3, some 6))]
  xs := exs
  xi := exi
def m_Stepper_changed : MS := (seqM (ifM (notT (tobM (callM 2 r_is_one_of (consA (varM 1) (consA (litM c_FIELDS) nilA))))) (stE (varM 1) (raiseM 3 6)) nxM) (seqM (stE (iteM (tobM (bin2 (eqX false (fun c => d_Stepper_changed.eqt.lookup c)) (varM 1) (litM (.str (Str.ofString "keep").cps.toList)))) (varM 2) (attrM (fun c => (([] : List (Nat × RunD)).lookup c).map attrP) (fun c => ([0] : List Nat).contains c) 2 (varM 0))) (setM 3)) (seqM (stE (iteM (tobM (bin2 (eqX false (fun c => d_Stepper_changed.eqt.lookup c)) (varM 1) (litM (.str (Str.ofString "turn").cps.toList)))) (varM 2) (attrM (fun c => (([] : List (Nat × RunD)).lookup c).map attrP) (fun c => ([0] : List Nat).contains c) 3 (varM 0))) (setM 4)) (seqM (stE (iteM (tobM (bin2 (eqX false (fun c => d_Stepper_changed.eqt.lookup c)) (varM 1) (litM (.str (Str.ofString "deeds").cps.toList)))) (varM 2) (attrM (fun c => (([] : List (Nat × RunD)).lookup c).map attrP) (fun c => ([0] : List Nat).contains c) 4 (varM 0))) (setM 5)) (seqM (stE (iteM (tobM (bin2 (eqX false (fun c => d_Stepper_changed.eqt.lookup c)) (varM 1) (litM (.str (Str.ofString "passes").cps.toList)))) (varM 2) (attrM (fun c => (([] : List (Nat × RunD)).lookup c).map attrP) (fun c => ([0] : List Nat).contains c) 5 (varM 0))) (setM 6)) (stE (makeKM 0 2 4 r_Stepper_init (consA (attrM (fun c => (([] : List (Nat × RunD)).lookup c).map attrP) (fun c => ([0] : List Nat).contains c) 0 (varM 0)) (consA (attrM (fun c => (([] : List (Nat × RunD)).lookup c).map attrP) (fun c => ([0] : List Nat).contains c) 1 (varM 0)) nilA)) (consA (varM 3) (consA (varM 4) (consA (varM 5) (consA (varM 6) nilA))))) rtM))))))
theorem den_Stepper_changed : dSs (dS d_Stepper_changed 40 (defScope s_Stepper_changed) fnT) (defBody s_Stepper_changed) = m_Stepper_changed := by kernel_rfl
theorem run_Stepper_changed (us : List U) (G : List Ob) : runB d_Stepper_changed 40 s_Stepper_changed us G = runR (m_Stepper_changed (startS d_Stepper_changed.N us) G) := congrArg (fun m : MS => runR (m (startS d_Stepper_changed.N us) G)) den_Stepper_changed

/-! _law_random -/
abbrev s__law_random : Stmt := top 20
def d__law_random : Dn where
  N := ["_law_script", "_law_salt", "_law_seed", "_law_cell"]
  gl := []
  bl := bls
  ty := []
  cls := [0]
  att := []
  mth := []
  eqt := []
  mu := []
  rmu := true
def m__law_random : MS := (seqM (stE (varM 1) (setM 2)) (seqM (forM (seqI (varM 0)) (nameG 3) (stE (bin2 modU (preM intU1 (consA (bin2 (addU false) (bin2 (mulU false) (varM 2) (litM (.int 31))) (preM absU (consA (varM 3) nilA))) nilA)) (litM (.int 2147483647))) (setM 2))) (stE (bin2 (addU true) (lstM false (consA (varM 2) (consA (litM (.int 0)) nilA))) (compM false (seqI (varM 0)) (nameG 3) (tobM (bin2 (cmpU fun i j => decide (j ≤ i)) (varM 3) (bin2 powU (litM (.int 10)) (litM (.int 18))))) (varM 3) [3])) rtM)))
theorem den__law_random : dSs (dS d__law_random 40 (defScope s__law_random) fnT) (defBody s__law_random) = m__law_random := by kernel_rfl
theorem run__law_random (us : List U) (G : List Ob) : runB d__law_random 40 s__law_random us G = runR (m__law_random (startS d__law_random.N us) G) := congrArg (fun m : MS => runR (m (startS d__law_random.N us) G)) den__law_random

/-! _law_below -/
abbrev s__law_below : Stmt := top 21
def d__law_below : Dn where
  N := ["_law_d", "_law_size", "_law_result"]
  gl := []
  bl := bls
  ty := []
  cls := [0]
  att := []
  mth := []
  eqt := [(0, r_Stepper_eq)]
  mu := []
  rmu := false
def m__law_below : MS := (seqM (ifM (andT (tobM (bin2 (eqX false (fun c => d__law_below.eqt.lookup c)) (bin2 idxU (varM 0) (litM (.int 1))) (litM (.int 0)))) (tobM (bin2 (cmpU fun i j => decide (j < i)) (preM lenU (consA (varM 0) nilA)) (litM (.int 2))))) (stE3 (bmM popU (varM 0) (consA (litM (.int 2)) nilA)) (varM 0) (litM (.int 1)) itemM) nxM) (seqM (ifM (tobM (bin2 (cmpU fun i j => decide (j < i)) (bin2 idxU (varM 0) (litM (.int 1))) (litM (.int 0)))) (seqM (stE (bin2 modU (preM intU1 (consA (bin2 idxU (varM 0) (litM (.int 1))) nilA)) (varM 1)) (setM 2)) (seqM (stE3 (bin2 fdivU (bin2 idxU (varM 0) (litM (.int 1))) (varM 1)) (varM 0) (litM (.int 1)) itemM) (stE (varM 2) rtM))) nxM) (seqM (stE3 (bin2 modU (preM intU1 (consA (bin2 (addU false) (bin2 (mulU false) (bin2 idxU (varM 0) (litM (.int 0))) (litM (.int 48271))) (litM (.int 11))) nilA)) (litM (.int 2147483647))) (varM 0) (litM (.int 0)) itemM) (stE (bin2 modU (preM intU1 (consA (bin2 fdivU (bin2 idxU (varM 0) (litM (.int 0))) (litM (.int 64))) nilA)) (varM 1)) rtM))))
theorem den__law_below : dSs (dS d__law_below 40 (defScope s__law_below) fnT) (defBody s__law_below) = m__law_below := by kernel_rfl
theorem run__law_below (us : List U) (G : List Ob) : runB d__law_below 40 s__law_below us G = runR (m__law_below (startS d__law_below.N us) G) := congrArg (fun m : MS => runR (m (startS d__law_below.N us) G)) den__law_below

/-! _law_pick -/
abbrev s__law_pick : Stmt := top 22
def d__law_pick : Dn where
  N := ["_law_d", "_law_items"]
  gl := [("_law_below", .fn 2 r__law_below)]
  bl := bls
  ty := []
  cls := [0]
  att := []
  mth := []
  eqt := []
  mu := []
  rmu := false
def m__law_pick : MS := (stE (bin2 idxU (varM 1) (callM 2 r__law_below (consA (varM 0) (consA (preM lenU (consA (varM 1) nilA)) nilA)))) rtM)
theorem den__law_pick : dSs (dS d__law_pick 40 (defScope s__law_pick) fnT) (defBody s__law_pick) = m__law_pick := by kernel_rfl
theorem run__law_pick (us : List U) (G : List Ob) : runB d__law_pick 40 s__law_pick us G = runR (m__law_pick (startS d__law_pick.N us) G) := congrArg (fun m : MS => runR (m (startS d__law_pick.N us) G)) den__law_pick

/-! _law_equal -/
abbrev s__law_equal : Stmt := top 23
def d__law_equal : Dn where
  N := ["_law_actual", "_law_expected", "_law_k", "_law_key"]
  gl := []
  bl := bls
  ty := []
  cls := [0]
  att := []
  mth := []
  eqt := [(0, r_Stepper_eq)]
  mu := []
  rmu := false
def m__law_equal : MS := (seqM (ifM (tobM (bin2 (isU false) (varM 1) (litM .non))) (stE (bin2 (isU false) (varM 0) (litM .non)) rtM) nxM) (seqM (ifM (tobM (isiM [0] (.inl .bl) (varM 1))) (stE (andM (isiM [0] (.inl .bl) (varM 0)) (bin2 (eqX false (fun c => d__law_equal.eqt.lookup c)) (varM 0) (varM 1))) rtM) nxM) (seqM (ifM (tobM (isiM [0] (.inl .int) (varM 1))) (stE (andM (isiM [0] (.inl .int) (varM 0)) (andM (notM (isiM [0] (.inl .bl) (varM 0))) (bin2 (eqX false (fun c => d__law_equal.eqt.lookup c)) (varM 0) (varM 1)))) rtM) nxM) (seqM (ifM (tobM (isiM [0] (.inl .str) (varM 1))) (stE (andM (isiM [0] (.inl .str) (varM 0)) (bin2 (eqX false (fun c => d__law_equal.eqt.lookup c)) (varM 0) (varM 1))) rtM) nxM) (seqM (ifM (tobM (isiM [0] (.inl .dct) (varM 1))) (seqM (ifM (orT (notT (tobM (isiM [0] (.inl .dct) (varM 0)))) (tobM (bin2 (eqX true (fun c => d__law_equal.eqt.lookup c)) (preM (listU false) (consA (varM 0) nilA)) badE))) (stE (litM (.bl false)) rtM) nxM) (stE (preM allU (consA (compM false (seqI (preM (listU false) (consA (varM 0) nilA))) (nameG 3) yesT badE [3]) nilA)) rtM)) nxM) (seqM (ifM (tobM (bin2 (eqX true (fun c => d__law_equal.eqt.lookup c)) (isiM [0] (.inl .tup) (varM 1)) (isiM [0] (.inl .tup) (varM 0)))) (stE (litM (.bl false)) rtM) nxM) (seqM (ifM (tobM (bin2 (eqX true (fun c => d__law_equal.eqt.lookup c)) (isiM [0] (.inl .lst) (varM 1)) (isiM [0] (.inl .lst) (varM 0)))) (stE (litM (.bl false)) rtM) nxM) (seqM (ifM (tobM (bin2 (eqX true (fun c => d__law_equal.eqt.lookup c)) (preM lenU (consA (varM 0) nilA)) (preM lenU (consA (varM 1) nilA)))) (stE (litM (.bl false)) rtM) nxM) (stE (preM allU (consA (compM false (preI rng1U (consA (preM lenU (consA (varM 1) nilA)) nilA)) (nameG 2) yesT badE [2]) nilA)) rtM)))))))))
theorem den__law_equal : dSs (dS d__law_equal 40 (defScope s__law_equal) fnT) (defBody s__law_equal) = m__law_equal := by kernel_rfl
theorem run__law_equal (us : List U) (G : List Ob) : runB d__law_equal 40 s__law_equal us G = runR (m__law_equal (startS d__law_equal.N us) G) := congrArg (fun m : MS => runR (m (startS d__law_equal.N us) G)) den__law_equal

/-! _law_equal_1 -/

def d__law_equal_1 : Dn where
  N := ["_law_actual", "_law_expected", "_law_k", "_law_key"]
  gl := [("_law_equal", .fn 2 r__law_equal)]
  bl := bls
  ty := []
  cls := [0]
  att := []
  mth := []
  eqt := [(0, r_Stepper_eq)]
  mu := []
  rmu := false
def m__law_equal_1 : MS := (seqM (ifM (tobM (bin2 (isU false) (varM 1) (litM .non))) (stE (bin2 (isU false) (varM 0) (litM .non)) rtM) nxM) (seqM (ifM (tobM (isiM [0] (.inl .bl) (varM 1))) (stE (andM (isiM [0] (.inl .bl) (varM 0)) (bin2 (eqX false (fun c => d__law_equal_1.eqt.lookup c)) (varM 0) (varM 1))) rtM) nxM) (seqM (ifM (tobM (isiM [0] (.inl .int) (varM 1))) (stE (andM (isiM [0] (.inl .int) (varM 0)) (andM (notM (isiM [0] (.inl .bl) (varM 0))) (bin2 (eqX false (fun c => d__law_equal_1.eqt.lookup c)) (varM 0) (varM 1)))) rtM) nxM) (seqM (ifM (tobM (isiM [0] (.inl .str) (varM 1))) (stE (andM (isiM [0] (.inl .str) (varM 0)) (bin2 (eqX false (fun c => d__law_equal_1.eqt.lookup c)) (varM 0) (varM 1))) rtM) nxM) (seqM (ifM (tobM (isiM [0] (.inl .dct) (varM 1))) (seqM (ifM (orT (notT (tobM (isiM [0] (.inl .dct) (varM 0)))) (tobM (bin2 (eqX true (fun c => d__law_equal_1.eqt.lookup c)) (preM (listU false) (consA (varM 0) nilA)) badE))) (stE (litM (.bl false)) rtM) nxM) (stE (preM allU (consA (compM false (seqI (preM (listU false) (consA (varM 0) nilA))) (nameG 3) yesT (callM 2 r__law_equal (consA (bin2 idxU (varM 0) (varM 3)) (consA (bin2 idxU (varM 1) (varM 3)) nilA))) [3]) nilA)) rtM)) nxM) (seqM (ifM (tobM (bin2 (eqX true (fun c => d__law_equal_1.eqt.lookup c)) (isiM [0] (.inl .tup) (varM 1)) (isiM [0] (.inl .tup) (varM 0)))) (stE (litM (.bl false)) rtM) nxM) (seqM (ifM (tobM (bin2 (eqX true (fun c => d__law_equal_1.eqt.lookup c)) (isiM [0] (.inl .lst) (varM 1)) (isiM [0] (.inl .lst) (varM 0)))) (stE (litM (.bl false)) rtM) nxM) (seqM (ifM (tobM (bin2 (eqX true (fun c => d__law_equal_1.eqt.lookup c)) (preM lenU (consA (varM 0) nilA)) (preM lenU (consA (varM 1) nilA)))) (stE (litM (.bl false)) rtM) nxM) (stE (preM allU (consA (compM false (preI rng1U (consA (preM lenU (consA (varM 1) nilA)) nilA)) (nameG 2) yesT (callM 2 r__law_equal (consA (bin2 idxU (varM 0) (varM 2)) (consA (bin2 idxU (varM 1) (varM 2)) nilA))) [2]) nilA)) rtM)))))))))
theorem den__law_equal_1 : dSs (dS d__law_equal_1 40 (defScope s__law_equal) fnT) (defBody s__law_equal) = m__law_equal_1 := by kernel_rfl
theorem run__law_equal_1 (us : List U) (G : List Ob) : runB d__law_equal_1 40 s__law_equal us G = runR (m__law_equal_1 (startS d__law_equal_1.N us) G) := congrArg (fun m : MS => runR (m (startS d__law_equal_1.N us) G)) den__law_equal_1

/-! _law_equal_2 -/

def d__law_equal_2 : Dn where
  N := ["_law_actual", "_law_expected", "_law_k", "_law_key"]
  gl := [("_law_equal", .fn 2 r__law_equal_1)]
  bl := bls
  ty := []
  cls := [0]
  att := []
  mth := []
  eqt := [(0, r_Stepper_eq)]
  mu := []
  rmu := false
def m__law_equal_2 : MS := (seqM (ifM (tobM (bin2 (isU false) (varM 1) (litM .non))) (stE (bin2 (isU false) (varM 0) (litM .non)) rtM) nxM) (seqM (ifM (tobM (isiM [0] (.inl .bl) (varM 1))) (stE (andM (isiM [0] (.inl .bl) (varM 0)) (bin2 (eqX false (fun c => d__law_equal_2.eqt.lookup c)) (varM 0) (varM 1))) rtM) nxM) (seqM (ifM (tobM (isiM [0] (.inl .int) (varM 1))) (stE (andM (isiM [0] (.inl .int) (varM 0)) (andM (notM (isiM [0] (.inl .bl) (varM 0))) (bin2 (eqX false (fun c => d__law_equal_2.eqt.lookup c)) (varM 0) (varM 1)))) rtM) nxM) (seqM (ifM (tobM (isiM [0] (.inl .str) (varM 1))) (stE (andM (isiM [0] (.inl .str) (varM 0)) (bin2 (eqX false (fun c => d__law_equal_2.eqt.lookup c)) (varM 0) (varM 1))) rtM) nxM) (seqM (ifM (tobM (isiM [0] (.inl .dct) (varM 1))) (seqM (ifM (orT (notT (tobM (isiM [0] (.inl .dct) (varM 0)))) (tobM (bin2 (eqX true (fun c => d__law_equal_2.eqt.lookup c)) (preM (listU false) (consA (varM 0) nilA)) badE))) (stE (litM (.bl false)) rtM) nxM) (stE (preM allU (consA (compM false (seqI (preM (listU false) (consA (varM 0) nilA))) (nameG 3) yesT (callM 2 r__law_equal_1 (consA (bin2 idxU (varM 0) (varM 3)) (consA (bin2 idxU (varM 1) (varM 3)) nilA))) [3]) nilA)) rtM)) nxM) (seqM (ifM (tobM (bin2 (eqX true (fun c => d__law_equal_2.eqt.lookup c)) (isiM [0] (.inl .tup) (varM 1)) (isiM [0] (.inl .tup) (varM 0)))) (stE (litM (.bl false)) rtM) nxM) (seqM (ifM (tobM (bin2 (eqX true (fun c => d__law_equal_2.eqt.lookup c)) (isiM [0] (.inl .lst) (varM 1)) (isiM [0] (.inl .lst) (varM 0)))) (stE (litM (.bl false)) rtM) nxM) (seqM (ifM (tobM (bin2 (eqX true (fun c => d__law_equal_2.eqt.lookup c)) (preM lenU (consA (varM 0) nilA)) (preM lenU (consA (varM 1) nilA)))) (stE (litM (.bl false)) rtM) nxM) (stE (preM allU (consA (compM false (preI rng1U (consA (preM lenU (consA (varM 1) nilA)) nilA)) (nameG 2) yesT (callM 2 r__law_equal_1 (consA (bin2 idxU (varM 0) (varM 2)) (consA (bin2 idxU (varM 1) (varM 2)) nilA))) [2]) nilA)) rtM)))))))))
theorem den__law_equal_2 : dSs (dS d__law_equal_2 40 (defScope s__law_equal) fnT) (defBody s__law_equal) = m__law_equal_2 := by kernel_rfl
theorem run__law_equal_2 (us : List U) (G : List Ob) : runB d__law_equal_2 40 s__law_equal us G = runR (m__law_equal_2 (startS d__law_equal_2.N us) G) := congrArg (fun m : MS => runR (m (startS d__law_equal_2.N us) G)) den__law_equal_2

/-! _law_drawn -/
abbrev s__law_drawn : Stmt := top 24
def d__law_drawn : Dn where
  N := ["_law_d", "_law_word", "_law_new", "_law_chances", "_law_goes"]
  gl := [("_law_pick", .fn 2 r__law_pick), ("_law_below", .fn 2 r__law_below)]
  bl := bls
  ty := []
  cls := [0]
  att := []
  mth := []
  eqt := []
  mu := []
  rmu := false
def m__law_drawn : MS := (seqM (stE (callM 2 r__law_pick (consA (varM 0) (consA (lstM false (consA (litM (.str (Str.ofString "a").cps.toList)) (consA (litM (.str (Str.ofString "ab").cps.toList)) (consA (litM (.str (Str.ofString "aa").cps.toList)) (consA (litM (.str (Str.ofString "aba").cps.toList)) (consA (litM (.str (Str.ofString "aab").cps.toList)) (consA (litM (.str (Str.ofString "abc").cps.toList)) nilA))))))) nilA))) (setM 1)) (seqM (stE (callM 2 r__law_pick (consA (varM 0) (consA (lstM false (consA (litM (.str (Str.ofString "").cps.toList)) (consA (litM (.str (Str.ofString "a").cps.toList)) (consA (litM (.str (Str.ofString "b").cps.toList)) (consA (litM (.str (Str.ofString "ab").cps.toList)) (consA (litM (.str (Str.ofString "ba").cps.toList)) (consA (litM (.str (Str.ofString "aa").cps.toList)) (consA (litM (.str (Str.ofString "aba").cps.toList)) (consA (litM (.str (Str.ofString "bab").cps.toList)) (consA (litM (.str (Str.ofString "aab").cps.toList)) (consA (litM (.str (Str.ofString "c").cps.toList)) nilA))))))))))) nilA))) (setM 2)) (seqM (stE (lstM false (consA (tupM (consA (litM (.str (Str.ofString "replace").cps.toList)) nilA)) (consA (tupM (consA (litM (.str (Str.ofString "replace").cps.toList)) nilA)) (consA (tupM (consA (litM (.str (Str.ofString "replace").cps.toList)) (consA (litM (.str (Str.ofString "keep").cps.toList)) nilA))) (consA (tupM (consA (litM (.str (Str.ofString "keep").cps.toList)) (consA (litM (.str (Str.ofString "replace").cps.toList)) nilA))) (consA (tupM (consA (litM (.str (Str.ofString "keep").cps.toList)) (consA (litM (.str (Str.ofString "keep").cps.toList)) (consA (litM (.str (Str.ofString "replace").cps.toList)) nilA)))) nilA)))))) (setM 3)) (seqM (stE (bin2 (addU false) (varM 3) (lstM false (consA (tupM (consA (litM (.str (Str.ofString "replace").cps.toList)) (consA (litM (.str (Str.ofString "replace").cps.toList)) (consA (litM (.str (Str.ofString "stop").cps.toList)) nilA)))) (consA (tupM (consA (litM (.str (Str.ofString "keep").cps.toList)) nilA)) (consA (tupM (consA (litM (.str (Str.ofString "keep").cps.toList)) (consA (litM (.str (Str.ofString "replace").cps.toList)) (consA (litM (.str (Str.ofString "stop").cps.toList)) nilA)))) nilA))))) (setM 3)) (seqM (stE (callM 2 r__law_pick (consA (varM 0) (consA (lstM false (consA (litM (.str (Str.ofString "one").cps.toList)) (consA (litM (.str (Str.ofString "all").cps.toList)) nilA))) nilA))) (setM 4)) (stE (tupM (consA (varM 1) (consA (varM 2) (consA (varM 4) (consA (callM 2 r__law_pick (consA (varM 0) (consA (lstM false (consA (litM (.str (Str.ofString "first").cps.toList)) (consA (litM (.str (Str.ofString "last").cps.toList)) (consA (litM (.str (Str.ofString "behind").cps.toList)) nilA)))) nilA))) (consA (callM 2 r__law_pick (consA (varM 0) (consA (varM 3) nilA))) (consA (bin2 (addU false) (litM (.int 1)) (callM 2 r__law_below (consA (varM 0) (consA (litM (.int 2)) nilA)))) nilA))))))) rtM))))))
theorem den__law_drawn : dSs (dS d__law_drawn 40 (defScope s__law_drawn) fnT) (defBody s__law_drawn) = m__law_drawn := by kernel_rfl
theorem run__law_drawn (us : List U) (G : List Ob) : runB d__law_drawn 40 s__law_drawn us G = runR (m__law_drawn (startS d__law_drawn.N us) G) := congrArg (fun m : MS => runR (m (startS d__law_drawn.N us) G)) den__law_drawn

/-! _law_make -/
abbrev s__law_make : Stmt := top 25
def d__law_make : Dn where
  N := ["_law_s"]
  gl := [("Stepper", .mkK 0 2 ["keep", "turn", "deeds", "passes"] r_Stepper_init)]
  bl := bls
  ty := []
  cls := [0]
  att := []
  mth := []
  eqt := []
  mu := []
  rmu := false
def m__law_make : MS := (stE (makeKM 0 2 4 r_Stepper_init (consA (bin2 idxU (varM 0) (litM (.int 0))) (consA (bin2 idxU (varM 0) (litM (.int 1))) nilA)) (consA (bin2 idxU (varM 0) (litM (.int 2))) (consA (bin2 idxU (varM 0) (litM (.int 3))) (consA (bin2 idxU (varM 0) (litM (.int 4))) (consA (bin2 idxU (varM 0) (litM (.int 5))) nilA))))) rtM)
theorem den__law_make : dSs (dS d__law_make 40 (defScope s__law_make) fnT) (defBody s__law_make) = m__law_make := by kernel_rfl
theorem run__law_make (us : List U) (G : List Ob) : runB d__law_make 40 s__law_make us G = runR (m__law_make (startS d__law_make.N us) G) := congrArg (fun m : MS => runR (m (startS d__law_make.N us) G)) den__law_make

/-! _law_made -/
abbrev s__law_made : Stmt := top 26
def d__law_made : Dn where
  N := ["_law_s", "_law_found", "e"]
  gl := [("_law_make", .fn 1 r__law_make)]
  bl := bls
  ty := []
  cls := [0]
  att := [("field", (6, [], []))]
  mth := []
  eqt := []
  mu := []
  rmu := false
  xc := [("InvalidStepper", (2, some 6)), ("UnknownField", (3, some 6)), ("HitError", (1, none))]
  xs := exs
  xi := exi
def m__law_made : MS := (seqM (stE (litM .non) (setM 1)) (seqM (tryM exs (stE (callM 1 r__law_make (consA (varM 0) nilA)) (fun _ => nxM)) [⟨2, (some 2), (setIX 2 (some 2) 1 (fldX 2 6))⟩]) (stE (varM 1) rtM)))
theorem den__law_made : dSs (dS d__law_made 40 (defScope s__law_made) fnT) (defBody s__law_made) = m__law_made := by kernel_rfl
theorem run__law_made (us : List U) (G : List Ob) : runB d__law_made 40 s__law_made us G = runR (m__law_made (startS d__law_made.N us) G) := congrArg (fun m : MS => runR (m (startS d__law_made.N us) G)) den__law_made

/-! _law_fault -/
abbrev s__law_fault : Stmt := top 27
def d__law_fault : Dn where
  N := ["_law_s", "_law_names", "_law_texts", "_law_good", "_law_words", "_law_k", "_law_one", "_law_sign"]
  gl := []
  bl := bls
  ty := []
  cls := [0]
  att := []
  mth := []
  eqt := []
  mu := ["_law_good"]
  rmu := false
def m__law_fault : MS := (seqM (stE (lstM false (consA (litM (.str (Str.ofString "word").cps.toList)) (consA (litM (.str (Str.ofString "put").cps.toList)) (consA (litM (.str (Str.ofString "keep").cps.toList)) (consA (litM (.str (Str.ofString "turn").cps.toList)) (consA (litM (.str (Str.ofString "deeds").cps.toList)) (consA (litM (.str (Str.ofString "passes").cps.toList)) nilA))))))) (setM 1)) (seqM (stE (compM false (seqI (slM false (varM 0) noneO (someO (litM (.int 2))))) (nameG 6) yesT (andM (isiM [0] (.inl .str) (varM 6)) (preM allU (consA (compM false (seqI (varM 6)) (nameG 7) yesT (bin2 (inU false) (varM 7) (litM (.str (Str.ofString "abc").cps.toList))) [7]) nilA))) [6]) (setM 2)) (seqM (stE (lstM true (consA (andM (bin2 idxU (varM 2) (litM (.int 0))) (chM (cmpU fun i j => decide (i < j)) (cmpU fun i j => decide (i < j)) (litM (.int 0)) (preM lenU (consA (bin2 idxU (varM 0) (litM (.int 0))) nilA)) (litM (.int 4)))) (consA (andM (bin2 idxU (varM 2) (litM (.int 1))) (bin2 (cmpU fun i j => decide (i < j)) (preM lenU (consA (bin2 idxU (varM 0) (litM (.int 1))) nilA)) (litM (.int 4)))) (consA (bin2 (inU false) (bin2 idxU (varM 0) (litM (.int 2))) (tupM (consA (litM (.str (Str.ofString "one").cps.toList)) (consA (litM (.str (Str.ofString "all").cps.toList)) nilA)))) nilA)))) (setM 3)) (seqM (stE (bmM appendU (varM 3) (consA (bin2 (inU false) (bin2 idxU (varM 0) (litM (.int 3))) (tupM (consA (litM (.str (Str.ofString "first").cps.toList)) (consA (litM (.str (Str.ofString "last").cps.toList)) (consA (litM (.str (Str.ofString "behind").cps.toList)) nilA))))) nilA)) (fun _ => nxM)) (seqM (stE (andM (isiM [0] (.inl .tup) (bin2 idxU (varM 0) (litM (.int 4)))) (chM (cmpU fun i j => decide (i < j)) (cmpU fun i j => decide (i < j)) (litM (.int 0)) (preM lenU (consA (bin2 idxU (varM 0) (litM (.int 4))) nilA)) (litM (.int 4)))) (setM 4)) (seqM (stE (bmM appendU (varM 3) (consA (andM (varM 4) (preM allU (consA (compM false (seqI (bin2 idxU (varM 0) (litM (.int 4)))) (nameG 6) yesT (bin2 (inU false) (varM 6) (tupM (consA (litM (.str (Str.ofString "replace").cps.toList)) (consA (litM (.str (Str.ofString "keep").cps.toList)) (consA (litM (.str (Str.ofString "stop").cps.toList)) nilA))))) [6]) nilA))) nilA)) (fun _ => nxM)) (seqM (stE (bmM appendU (varM 3) (consA (andM (bin2 (inU false) (bin2 idxU (varM 0) (litM (.int 5))) (tupM (consA (litM (.int 1)) (consA (litM (.int 2)) nilA)))) (bin2 (isU true) (bin2 idxU (varM 0) (litM (.int 5))) (litM (.bl true)))) nilA)) (fun _ => nxM)) (seqM (forM (preI rng1U (consA (litM (.int 6)) nilA)) (nameG 5) (ifM (notT (tobM (bin2 idxU (varM 3) (varM 5)))) (stE (bin2 idxU (varM 1) (varM 5)) rtM) nxM)) (stE (litM .non) rtM)))))))))
theorem den__law_fault : dSs (dS d__law_fault 40 (defScope s__law_fault) fnT) (defBody s__law_fault) = m__law_fault := by kernel_rfl
theorem run__law_fault (us : List U) (G : List Ob) : runB d__law_fault 40 s__law_fault us G = runR (m__law_fault (startS d__law_fault.N us) G) := congrArg (fun m : MS => runR (m (startS d__law_fault.N us) G)) den__law_fault

/-! _law_changed -/
abbrev s__law_changed : Stmt := top 28
def d__law_changed : Dn where
  N := ["_law_stepper", "_law_field", "_law_value", "_law_found", "e"]
  gl := []
  bl := bls
  ty := []
  cls := [0]
  att := [("field", (6, [], []))]
  mth := [("changed", (8, [(0, (3, r_Stepper_changed))]))]
  eqt := []
  mu := []
  rmu := false
  xc := [("UnknownField", (3, some 6)), ("InvalidStepper", (2, some 6))]
  xs := exs
  xi := exi
def m__law_changed : MS := (seqM (stE (litM .non) (setM 3)) (seqM (tryM exs (stE (methM (fun c => ([(0, (3, r_Stepper_changed))] : List (Nat × (Nat × RunD))).lookup c) 8 (varM 0) (consA (varM 1) (consA (varM 2) nilA))) (setM 3)) [⟨3, (some 4), (setX 3 (lstX (consX (litX (.str (Str.ofString "unknown").cps.toList)) (consX (fldX 3 6) nilX))))⟩, ⟨2, (some 4), (setX 3 (lstX (consX (litX (.str (Str.ofString "invalid").cps.toList)) (consX (fldX 2 6) nilX))))⟩]) (stE (varM 3) rtM)))
theorem den__law_changed : dSs (dS d__law_changed 40 (defScope s__law_changed) fnT) (defBody s__law_changed) = m__law_changed := by kernel_rfl
theorem run__law_changed (us : List U) (G : List Ob) : runB d__law_changed 40 s__law_changed us G = runR (m__law_changed (startS d__law_changed.N us) G) := congrArg (fun m : MS => runR (m (startS d__law_changed.N us) G)) den__law_changed

/-! law -/
abbrev s_law : Stmt := top 29
def d_law : Dn where
  N := ["_law_script", "_law_d", "_law_s", "_law_bad", "_law_t", "_law_lap", "_law_stepper", "_law_told", "_law_other", "_law_k", "_law_wrong", "_law_field"]
  gl := [("_law_make", .fn 1 r__law_make), ("_law_changed", .fn 3 r__law_changed), ("_law_pick", .fn 2 r__law_pick), ("_law_equal", .fn 2 r__law_equal_2), ("_law_drawn", .fn 1 r__law_drawn), ("_law_made", .fn 1 r__law_made), ("_law_fault", .fn 1 r__law_fault), ("_law_below", .fn 2 r__law_below), ("_law_random", .fn 2 r__law_random)]
  bl := bls
  ty := []
  cls := [0]
  att := [("word", (0, [0], [])), ("put", (1, [0], [])), ("keep", (2, [0], [])), ("turn", (3, [0], [])), ("deeds", (4, [0], [])), ("passes", (5, [0], []))]
  mth := []
  eqt := [(0, r_Stepper_eq)]
  mu := ["_law_bad"]
  rmu := false
def m_law : MS := (seqM (stE (callM 2 r__law_random (consA (varM 0) (consA (litM (.int 1)) nilA))) (setM 1)) (seqM (stE (callM 1 r__law_drawn (consA (varM 1) nilA)) (setM 2)) (seqM (stE (lstM true (consA (lstM false (consA (litM (.str (Str.ofString "").cps.toList)) (consA (litM (.str (Str.ofString "abca").cps.toList)) (consA (litM (.str (Str.ofString "ad").cps.toList)) (consA (litM .non) (consA (litM (.int 5)) nilA)))))) (consA (lstM false (consA (litM (.str (Str.ofString "aaaa").cps.toList)) (consA (litM .non) (consA (litM (.str (Str.ofString "x").cps.toList)) nilA)))) (consA (lstM false (consA (litM (.str (Str.ofString "both").cps.toList)) (consA (litM .non) (consA (litM (.int 1)) nilA)))) (consA (lstM false (consA (litM (.str (Str.ofString "ahead").cps.toList)) (consA (litM (.str (Str.ofString "").cps.toList)) nilA))) nilA))))) (setM 3)) (seqM (stE (bmM appendU (varM 3) (consA (lstM false (consA (tupM nilA) (consA (bin2 (mulU false) (tupM (consA (litM (.str (Str.ofString "replace").cps.toList)) nilA)) (litM (.int 4))) (consA (lstM false (consA (litM (.str (Str.ofString "keep").cps.toList)) nilA)) (consA (tupM (consA (litM (.str (Str.ofString "replace").cps.toList)) (consA (litM (.str (Str.ofString "put").cps.toList)) nilA))) (consA (litM .non) nilA)))))) nilA)) (fun _ => nxM)) (seqM (stE (bmM appendU (varM 3) (consA (lstM false (consA (litM (.int 0)) (consA (litM (.int 3)) (consA (litM (.bl true)) (consA (litM (.str (Str.ofString "1").cps.toList)) (consA (litM .non) nilA)))))) nilA)) (fun _ => nxM)) (seqM (stE (varM 2) (setM 4)) (seqM (forM (preI rng1U (consA (callM 2 r__law_below (consA (varM 1) (consA (litM (.int 3)) nilA))) nilA)) (nameG 5) (seqM (stE (callM 2 r__law_below (consA (varM 1) (consA (litM (.int 6)) nilA))) (setM 9)) (stE (bin2 (addU false) (bin2 (addU false) (slM false (varM 4) noneO (someO (varM 9))) (tupM (consA (callM 2 r__law_pick (consA (varM 1) (consA (bin2 idxU (varM 3) (varM 9)) nilA))) nilA))) (slM false (varM 4) (someO (bin2 (addU false) (varM 9) (litM (.int 1)))) noneO)) (setM 4)))) (seqM (ifM (notT (tobM (callM 2 r__law_equal_2 (consA (callM 1 r__law_made (consA (varM 4) nilA)) (consA (callM 1 r__law_fault (consA (varM 4) nilA)) nilA))))) (stE (litM (.bl false)) rtM) nxM) (seqM (stE (callM 1 r__law_make (consA (varM 2) nilA)) (setM 6)) (seqM (stE (tupM (consA (attrM (fun c => (([] : List (Nat × RunD)).lookup c).map attrP) (fun c => ([0] : List Nat).contains c) 0 (varM 6)) (consA (attrM (fun c => (([] : List (Nat × RunD)).lookup c).map attrP) (fun c => ([0] : List Nat).contains c) 1 (varM 6)) (consA (attrM (fun c => (([] : List (Nat × RunD)).lookup c).map attrP) (fun c => ([0] : List Nat).contains c) 2 (varM 6)) (consA (attrM (fun c => (([] : List (Nat × RunD)).lookup c).map attrP) (fun c => ([0] : List Nat).contains c) 3 (varM 6)) (consA (attrM (fun c => (([] : List (Nat × RunD)).lookup c).map attrP) (fun c => ([0] : List Nat).contains c) 4 (varM 6)) (consA (attrM (fun c => (([] : List (Nat × RunD)).lookup c).map attrP) (fun c => ([0] : List Nat).contains c) 5 (varM 6)) nilA))))))) (setM 7)) (seqM (stE (callM 1 r__law_drawn (consA (varM 1) nilA)) (setM 8)) (seqM (ifM (orT (notT (tobM (callM 2 r__law_equal_2 (consA (varM 7) (consA (varM 2) nilA))))) (orT (tobM (bin2 (eqX true (fun c => d_law.eqt.lookup c)) (bin2 (eqX false (fun c => d_law.eqt.lookup c)) (varM 6) (callM 1 r__law_make (consA (varM 8) nilA))) (bin2 (eqX false (fun c => d_law.eqt.lookup c)) (varM 2) (varM 8)))) (tobM (bin2 (eqX false (fun c => d_law.eqt.lookup c)) (varM 6) (varM 2))))) (stE (litM (.bl false)) rtM) nxM) (seqM (forM (preI rng2U (consA (litM (.int 2)) (consA (litM (.int 6)) nilA))) (nameG 9) (seqM (stE (bin2 idxU (lstM false (consA (litM (.str (Str.ofString "word").cps.toList)) (consA (litM (.str (Str.ofString "put").cps.toList)) (consA (litM (.str (Str.ofString "keep").cps.toList)) (consA (litM (.str (Str.ofString "turn").cps.toList)) (consA (litM (.str (Str.ofString "deeds").cps.toList)) (consA (litM (.str (Str.ofString "passes").cps.toList)) nilA))))))) (varM 9)) (setM 11)) (seqM (ifM (tobM (bin2 (eqX true (fun c => d_law.eqt.lookup c)) (callM 3 r__law_changed (consA (varM 6) (consA (varM 11) (consA (bin2 idxU (varM 8) (varM 9)) nilA)))) (callM 1 r__law_make (consA (bin2 (addU false) (bin2 (addU false) (slM false (varM 2) noneO (someO (varM 9))) (tupM (consA (bin2 idxU (varM 8) (varM 9)) nilA))) (slM false (varM 2) (someO (bin2 (addU false) (varM 9) (litM (.int 1)))) noneO)) nilA)))) (stE (litM (.bl false)) rtM) nxM) (ifM (tobM (bin2 (eqX true (fun c => d_law.eqt.lookup c)) (callM 3 r__law_changed (consA (varM 6) (consA (varM 11) (consA (callM 2 r__law_pick (consA (varM 1) (consA (bin2 idxU (varM 3) (varM 9)) nilA))) nilA)))) (lstM false (consA (litM (.str (Str.ofString "invalid").cps.toList)) (consA (varM 11) nilA))))) (stE (litM (.bl false)) rtM) nxM)))) (seqM (stE (callM 2 r__law_pick (consA (varM 1) (consA (lstM false (consA (litM (.str (Str.ofString "word").cps.toList)) (consA (litM (.str (Str.ofString "put").cps.toList)) (consA (litM (.str (Str.ofString "way").cps.toList)) (consA (litM .non) (consA (litM (.int 3)) nilA)))))) nilA))) (setM 10)) (stE (andM (bin2 (eqX false (fun c => d_law.eqt.lookup c)) (callM 3 r__law_changed (consA (varM 6) (consA (varM 10) (consA (litM (.str (Str.ofString "a").cps.toList)) nilA)))) (lstM false (consA (litM (.str (Str.ofString "unknown").cps.toList)) (consA (varM 10) nilA)))) (bin2 (eqX false (fun c => d_law.eqt.lookup c)) (varM 6) (callM 1 r__law_make (consA (varM 2) nilA)))) rtM)))))))))))))))
theorem den_law : dSs (dS d_law 40 (defScope s_law) fnT) (defBody s_law) = m_law := by kernel_rfl
theorem run_law (us : List U) (G : List Ob) : runB d_law 40 s_law us G = runR (m_law (startS d_law.N us) G) := congrArg (fun m : MS => runR (m (startS d_law.N us) G)) den_law

end FL

namespace FL
open PySem L2 PyProof.Rows
@[simp] theorem txt_2 : (Str.ofString "abc").cps.toList = [97, 98, 99] := by decide +kernel
@[simp] theorem txt_4 : (Str.ofString "one").cps.toList = [111, 110, 101] := by decide +kernel
@[simp] theorem txt_5 : (Str.ofString "all").cps.toList = [97, 108, 108] := by decide +kernel
@[simp] theorem txt_6 : (Str.ofString "first").cps.toList = [102, 105, 114, 115, 116] := by decide +kernel
@[simp] theorem txt_7 : (Str.ofString "last").cps.toList = [108, 97, 115, 116] := by decide +kernel
@[simp] theorem txt_8 : (Str.ofString "behind").cps.toList = [98, 101, 104, 105, 110, 100] := by decide +kernel
@[simp] theorem txt_9 : (Str.ofString "replace").cps.toList = [114, 101, 112, 108, 97, 99, 101] := by decide +kernel
@[simp] theorem txt_10 : (Str.ofString "keep").cps.toList = [107, 101, 101, 112] := by decide +kernel
@[simp] theorem txt_11 : (Str.ofString "stop").cps.toList = [115, 116, 111, 112] := by decide +kernel
@[simp] theorem txt_12 : (Str.ofString "turn").cps.toList = [116, 117, 114, 110] := by decide +kernel
@[simp] theorem txt_13 : (Str.ofString "deeds").cps.toList = [100, 101, 101, 100, 115] := by decide +kernel
@[simp] theorem txt_14 : (Str.ofString "passes").cps.toList = [112, 97, 115, 115, 101, 115] := by decide +kernel
@[simp] theorem txt_15 : (Str.ofString "word").cps.toList = [119, 111, 114, 100] := by decide +kernel
@[simp] theorem txt_16 : (Str.ofString "put").cps.toList = [112, 117, 116] := by decide +kernel
@[simp] theorem txt_17 : (Str.ofString "a").cps.toList = [97] := by decide +kernel
@[simp] theorem txt_18 : (Str.ofString "ab").cps.toList = [97, 98] := by decide +kernel
@[simp] theorem txt_19 : (Str.ofString "aa").cps.toList = [97, 97] := by decide +kernel
@[simp] theorem txt_20 : (Str.ofString "aba").cps.toList = [97, 98, 97] := by decide +kernel
@[simp] theorem txt_21 : (Str.ofString "aab").cps.toList = [97, 97, 98] := by decide +kernel
@[simp] theorem txt_22 : (Str.ofString "").cps.toList = [] := by decide +kernel
@[simp] theorem txt_23 : (Str.ofString "b").cps.toList = [98] := by decide +kernel
@[simp] theorem txt_24 : (Str.ofString "ba").cps.toList = [98, 97] := by decide +kernel
@[simp] theorem txt_25 : (Str.ofString "bab").cps.toList = [98, 97, 98] := by decide +kernel
@[simp] theorem txt_26 : (Str.ofString "c").cps.toList = [99] := by decide +kernel
@[simp] theorem txt_27 : (Str.ofString "abca").cps.toList = [97, 98, 99, 97] := by decide +kernel
@[simp] theorem txt_28 : (Str.ofString "ad").cps.toList = [97, 100] := by decide +kernel
@[simp] theorem txt_29 : (Str.ofString "aaaa").cps.toList = [97, 97, 97, 97] := by decide +kernel
@[simp] theorem txt_30 : (Str.ofString "x").cps.toList = [120] := by decide +kernel
@[simp] theorem txt_31 : (Str.ofString "both").cps.toList = [98, 111, 116, 104] := by decide +kernel
@[simp] theorem txt_32 : (Str.ofString "ahead").cps.toList = [97, 104, 101, 97, 100] := by decide +kernel
@[simp] theorem txt_33 : (Str.ofString "1").cps.toList = [49] := by decide +kernel
@[simp] theorem txt_34 : (Str.ofString "way").cps.toList = [119, 97, 121] := by decide +kernel
@[simp] theorem txt_35 : (Str.ofString "class").cps.toList = [99, 108, 97, 115, 115] := by decide +kernel
@[simp] theorem txt_36 : (Str.ofString "unknown").cps.toList = [117, 110, 107, 110, 111, 119, 110] := by decide +kernel
@[simp] theorem txt_37 : (Str.ofString "invalid").cps.toList = [105, 110, 118, 97, 108, 105, 100] := by decide +kernel
theorem le_is_integer : Le r_is_integer (runB d_is_integer 40 s_is_integer) := fun us G => by
  unfold r_is_integer
  split
  all_goals first
    | exact .inl rfl
    | (refine .inr ?_
       rw [run_is_integer]
       simp [m_is_integer, d_is_integer, startS, runR, stE, andM, isiM, varM, tyOf, Ty.sub, notM, rtM])
theorem admT_cases {u : U} (h : admT u = true) : (∃ l, u = .str l ∧ l.length ≤ 1000) ∨ u = .non ∨ ∃ n, u = .int n := by
  unfold admT at h
  split at h
  · exact .inl ⟨_, rfl, of_decide_eq_true h⟩
  · exact .inr (.inl rfl)
  · exact .inr (.inr ⟨_, rfl⟩)
  · cases h
theorem le_is_text : Le r_is_text (runB d_is_text 40 s_is_text) := fun us G => by
  unfold r_is_text
  split
  · rename_i u
    split
    · rename_i hu
      refine .inr ?_
      rw [run_is_text]
      rcases admT_cases hu with ⟨l, rfl, hl⟩ | rfl | ⟨n, rfl⟩
      · have hl : l.length ≤ szL := Nat.le_trans hl (by decide)
        have hc : compM false (seqI (varM 0)) (nameG 1) yesT (bin2 (inU false) (varM 1) (litM c_SIGNS)) [1] [some (U.str l), none] G = newL false ((l.map fun c => U.str [c]).map fun u => match u with | .str a => .bl (infB a [97, 98, 99]) | u => u) G := by
          refine comp_items (by simp [seqI, varM]) fun u hu => ?_
          simp only [List.mem_map] at hu
          obtain ⟨c, _, rfl⟩ := hu
          exact ⟨_, rfl, rfl, by simp [bin2, varM, litM, inU, wipeS, c_SIGNS]⟩
        have hb : blsOf (l.map fun c => U.bl (infB [c] [97, 98, 99])) = some (l.map fun c => infB [c] [97, 98, 99]) := blsOf_fun _ _
        simp [m_is_text, d_is_text, startS, runR, stE, andM, isiM, varM, tyOf, Ty.sub, rtM, preM, consA, hc, newL_f, hl, nilA, allU, lstOf, Function.comp_def, hb, isT, isTU]
      · simp [m_is_text, d_is_text, startS, runR, stE, andM, isiM, varM, tyOf, Ty.sub, rtM, isTU]
      · simp [m_is_text, d_is_text, startS, runR, stE, andM, isiM, varM, tyOf, Ty.sub, rtM, isTU]
    · exact .inl rfl
  · exact .inl rfl
theorem flat_strs (zs : List W1) : (zs.map U.str).all flatU = true := by simp [flatU]
theorem eqF_strs (zs : List W1) (a : W1) : ((zs.map U.str).any fun z => eqF z (.str a)) = inW zs a := by simp [eqF, inW, List.any_map, Function.comp_def]
/-- a text among texts -/
theorem inU_strs (zs : List W1) (a : W1) (G : List Ob) : inU false (.str a) (.tup (zs.map .str)) G = .ok (.bl (inW zs a)) G := by
  simp only [inU, seqOf, flat_strs, eqF_strs]
  simp [flatU]
theorem inU_adm {u : U} (h : admT u = true) (zs : List W1) (G : List Ob) : inU false u (.tup (zs.map .str)) G = .ok (.bl (isOne zs u)) G := by
  rcases admT_cases h with ⟨l, rfl, hl⟩ | rfl | ⟨n, rfl⟩
  · exact inU_strs zs l G
  · have : ((zs.map U.str).any fun z => eqF z .non) = false := by simp [eqF]
    simp only [inU, seqOf, flat_strs]
    simp [flatU, this, isOne]
  · have : ((zs.map U.str).any fun z => eqF z (.int n)) = false := by simp [eqF]
    simp only [inU, seqOf, flat_strs]
    simp [flatU, this, isOne]
theorem le_is_one_of : Le r_is_one_of (runB d_is_one_of 40 s_is_one_of) := fun us G => by
  unfold r_is_one_of
  split
  · rename_i u ws
    split
    · rename_i zs e
      split
      · rename_i hu
        refine .inr ?_
        rw [run_is_one_of, strsOf_eq e]
        rcases admT_cases hu with ⟨l, rfl, hl⟩ | rfl | ⟨n, rfl⟩
        · simp [m_is_one_of, d_is_one_of, startS, runR, stE, andM, isiM, varM, tyOf, Ty.sub, rtM, bin2, inU_strs, isOne]
        · simp [m_is_one_of, d_is_one_of, startS, runR, stE, andM, isiM, varM, tyOf, Ty.sub, rtM, isOne]
        · simp [m_is_one_of, d_is_one_of, startS, runR, stE, andM, isiM, varM, tyOf, Ty.sub, rtM, isOne]
      · exact .inl rfl
    · exact .inl rfl
  · exact .inl rfl
theorem deeds_eq : c_DEEDS = .tup (deedsL.map .str) := by simp [c_DEEDS, deedsL]
theorem admD_cases {u : U} (h : admD u = true) : (∃ zs : List W1, u = .tup (zs.map .str) ∧ zs.length ≤ 1000 ∧ zs.all (fun z => decide (z.length ≤ 1000)) = true) ∨ u = .non ∨ ∃ l, u = .lst l := by
  unfold admD at h
  split at h
  · split at h
    · rename_i zs e
      rw [strsOf_eq e]
      rw [Bool.and_eq_true] at h
      exact .inl ⟨zs, rfl, of_decide_eq_true h.1, h.2⟩
    · cases h
  · exact .inr (.inr ⟨_, rfl⟩)
  · exact .inr (.inl rfl)
  · cases h
theorem isDs_strs (zs : List W1) : isDs (.tup (zs.map .str)) = okDs zs := by simp [isDs, strsOf_map]
theorem admD_strs {zs : List W1} (h : zs.length ≤ 1000) (h2 : zs.all (fun z => decide (z.length ≤ 1000)) = true) : admD (.tup (zs.map .str)) = true := by
  simp only [admD, strsOf_map, h2, Bool.and_true]
  exact decide_eq_true h
theorem inW_adm {zs : List W1} {a : W1} (hz : zs.all (fun z => decide (z.length ≤ 1000)) = true) (h : inW zs a = true) : admT (.str a) = true := by
  unfold inW at h
  rw [List.any_eq_true] at h
  obtain ⟨z, h1, e⟩ := h
  rw [beq_iff_eq] at e
  subst e
  have := List.all_eq_true.mp hz z h1
  simpa [admT] using this
theorem le_are_deeds : Le r_are_deeds (runB d_are_deeds 40 s_are_deeds) := fun us G => by
  unfold r_are_deeds
  split
  · rename_i u
    split
    · rename_i hu
      rcases admD_cases hu with ⟨zs, rfl, hl, hall⟩ | rfl | ⟨l, rfl⟩
      · rw [isDs_strs]
        refine .inr ?_
        rw [run_are_deeds]
        have hl' : zs.length ≤ szL := Nat.le_trans hl (by decide)
        have hc : compM false (seqI (varM 0)) (nameG 1) yesT (callM 2 r_is_one_of (consA (varM 1) (consA (litM c_DEEDS) nilA))) [1] [some (U.tup (zs.map U.str)), none] G = newL false ((zs.map U.str).map fun u => match u with | .str a => .bl (inW deedsL a) | u => u) G := by
          refine comp_seq (u := .tup (zs.map .str)) (by simp [seqI, varM, seqOf]) (by simp [seqOf]) fun u hu => ?_
          simp only [List.mem_map] at hu
          obtain ⟨a, ha, rfl⟩ := hu
          have hz := List.all_eq_true.mp hall a ha
          exact ⟨_, rfl, rfl, by simp [callM, consA, varM, litM, wipeS, nilA, arM, r_is_one_of, deeds_eq, admT, of_decide_eq_true hz, isOne]⟩
        have hb : blsOf (zs.map fun c => U.bl (inW deedsL c)) = some (zs.map fun c => inW deedsL c) := blsOf_fun _ _
        by_cases h1 : 1 ≤ zs.length
        · by_cases h2 : zs.length ≤ 3
          · have h1' : 1 ≤ (zs.length : Int) := by omega
            have h2' : (zs.length : Int) ≤ 3 := by omega
            simp [m_are_deeds, d_are_deeds, startS, runR, stE, andM, isiM, varM, tyOf, Ty.sub, rtM, seqM, ifM, orT, notT, tobM, chM, preM, consA, nilA, lenU, seqOf, cmpU, litM, blU, bin2, hc, newL_f, hl', allU, lstOf, hb, nxM, Function.comp_def, h1', h2', okDs, h1, h2]
          · have h1' : 1 ≤ (zs.length : Int) := by omega
            have h2' : ¬ (zs.length : Int) ≤ 3 := by omega
            simp [m_are_deeds, d_are_deeds, startS, runR, stE, andM, isiM, varM, tyOf, Ty.sub, rtM, seqM, ifM, orT, notT, tobM, chM, preM, consA, nilA, lenU, seqOf, cmpU, litM, blU, bin2, nxM, h1', h2', okDs, h1, h2]
        · have h1' : ¬ 1 ≤ (zs.length : Int) := by omega
          simp [m_are_deeds, d_are_deeds, startS, runR, stE, andM, isiM, varM, tyOf, Ty.sub, rtM, seqM, ifM, orT, notT, tobM, chM, preM, consA, nilA, lenU, seqOf, cmpU, litM, blU, bin2, nxM, h1', okDs, h1]
      · refine .inr ?_
        rw [run_are_deeds]
        simp [m_are_deeds, d_are_deeds, startS, runR, stE, isiM, varM, tyOf, Ty.sub, rtM, seqM, ifM, orT, notT, tobM, litM, isDs, blU]
      · refine .inr ?_
        rw [run_are_deeds]
        simp [m_are_deeds, d_are_deeds, startS, runR, stE, isiM, varM, tyOf, Ty.sub, rtM, seqM, ifM, orT, notT, tobM, litM, isDs, blU]
    · exact .inl rfl
  · exact .inl rfl
end FL

namespace FL
open PySem L2 PyProof.Rows
theorem tob_bl {m : ME} {s : Sg} {G G1 : List Ob} {b : Bool} (h : m s G = .ok (.bl b) G1) : tobM m s G = .ok b G1 := by unfold tobM; rw [h]; rfl
theorem notT_p {m : MT} {s : Sg} {G G1 : List Ob} {b : Bool} (h : m s G = .ok b G1) : notT m s G = .ok (!b) G1 := by unfold notT; rw [h]; rfl
theorem orT_p {p q : MT} {s : Sg} {G : List Ob} {a b : Bool} (h1 : p s G = .ok a G) (h2 : a = false → q s G = .ok b G) : orT p q s G = .ok (a || b) G := by
  unfold orT
  rw [h1]
  cases a with
  | true => rfl
  | false => exact h2 rfl
theorem andT_p {p q : MT} {s : Sg} {G : List Ob} {a b : Bool} (h1 : p s G = .ok a G) (h2 : a = true → q s G = .ok b G) : andT p q s G = .ok (a && b) G := by
  unfold andT
  rw [h1]
  cases a with
  | false => rfl
  | true => exact h2 rfl
theorem andM_p {p q : ME} {s : Sg} {G : List Ob} {a b : Bool} (h1 : p s G = .ok (.bl a) G) (h2 : a = true → q s G = .ok (.bl b) G) : andM p q s G = .ok (.bl (a && b)) G := by
  unfold andM
  rw [h1]
  cases a with
  | false => rfl
  | true => exact h2 rfl
theorem call1 {r : RunD} {m : ME} {s : Sg} {G G1 G2 : List Ob} {u : U} (hm : m s G = .ok u G1) : callM 1 r (consA m nilA) s G = r [u] G1 := by
  unfold callM
  rw [consA_ok hm rfl]
  rfl
theorem call2 {r : RunD} {m m' : ME} {s : Sg} {G G1 G2 : List Ob} {u u' : U} (hm : m s G = .ok u G1) (hm' : m' s G1 = .ok u' G2) : callM 2 r (consA m (consA m' nilA)) s G = r [u, u'] G2 := by
  unfold callM
  rw [consA_ok hm (consA_ok hm' rfl)]
  rfl
/-- a check, a raise -/
theorem chk_step {c : MT} {e : ME} {k kf : Nat} {m : MS} {s : Sg} {G : List Ob} {b : Bool} {f : W1} (hc : c s G = .ok b G) (he : e s G = .ok (.str f) G) : seqM (ifM c (stE e (raiseM k kf)) nxM) m s G = if b = true then .exc ⟨k, [(kf, .str f)]⟩ s G else m s G := by
  cases b with
  | true =>
    rw [if_pos rfl]
    unfold seqM
    rw [ifM_t hc]
    unfold stE
    rw [he]
    rfl
  | false =>
    rw [if_neg Bool.false_ne_true]
    exact seqM_if hc
theorem text_len {u : U} (h : isTU u = true) : ∃ l, u = .str l ∧ isT l = true := by
  unfold isTU at h
  split at h
  · exact ⟨_, rfl, h⟩
  · cases h
section
variable {s : Sg} {G : List Ob} {u : U} {j : Nat}
theorem var_len {l : W1} (hz : l.length ≤ szL) (hs : s[j]? = some (some (.str l))) : preM lenU (consA (varM j) nilA) s G = .ok (.int l.length) G := by
  unfold preM
  rw [consA_p (var_ok hs) rfl]
  simp [lenU, hz]
theorem admT_len {l : W1} (h : admT (.str l) = true) : l.length ≤ szL := Nat.le_trans (of_decide_eq_true (show decide (l.length ≤ 1000) = true from h)) (by decide)
theorem chk_word (hs : s[j]? = some (some u)) (h : admT u = true) : orT (notT (tobM (callM 1 r_is_text (consA (varM j) nilA)))) (notT (tobM (chM (cmpU fun i j => decide (i ≤ j)) (cmpU fun i j => decide (i ≤ j)) (litM (.int 1)) (preM lenU (consA (varM j) nilA)) (litM (.int 3))))) s G = .ok (!isTx 1 u) G := by
  have ht : tobM (callM 1 r_is_text (consA (varM j) nilA)) s G = .ok (isTU u) G := tob_bl ((call1 (G2 := G) (var_ok hs)).trans (by simp [r_is_text, h]))
  cases e : isTU u with
  | false =>
    rw [e] at ht
    have : isTx 1 u = false := by
      unfold isTx
      split
      · have : isT _ = false := e
        simp [this]
      · rfl
    rw [this]
    exact (orT_p (b := true) (notT_p ht) (fun z => by cases z)).trans rfl
  | true =>
    rw [e] at ht
    obtain ⟨l, rfl, hl⟩ := text_len e
    refine (orT_p (b := !(decide (1 ≤ l.length) && decide (l.length ≤ 3))) (notT_p ht) (fun _ => notT_p ?_)).trans (by simp [isTx, hl])
    have hv := var_len (G := G) (admT_len h) hs
    unfold tobM chM
    have h1 : litM (.int 1) s G = .ok (.int 1) G := rfl
    rw [h1]
    simp only [bind_ok]
    rw [hv]
    have h3 : litM (.int 3) s G = .ok (.int 3) G := rfl
    by_cases c1 : 1 ≤ l.length
    · have c1' : (1 : Int) ≤ l.length := by omega
      simp [cmpU, c1, c1', h3, blU]
      omega
    · have c1' : ¬ (1 : Int) ≤ l.length := by omega
      simp [cmpU, c1, c1', h3, blU]
theorem chk_put (hs : s[j]? = some (some u)) (h : admT u = true) : orT (notT (tobM (callM 1 r_is_text (consA (varM j) nilA)))) (tobM (bin2 (cmpU fun i j => decide (j < i)) (preM lenU (consA (varM j) nilA)) (litM (.int 3)))) s G = .ok (!isTx 0 u) G := by
  have ht : tobM (callM 1 r_is_text (consA (varM j) nilA)) s G = .ok (isTU u) G := tob_bl ((call1 (G2 := G) (var_ok hs)).trans (by simp [r_is_text, h]))
  cases e : isTU u with
  | false =>
    rw [e] at ht
    have : isTx 0 u = false := by
      unfold isTx
      split
      · have : isT _ = false := e
        simp [this]
      · rfl
    rw [this]
    exact (orT_p (b := true) (notT_p ht) (fun z => by cases z)).trans rfl
  | true =>
    rw [e] at ht
    obtain ⟨l, rfl, hl⟩ := text_len e
    refine (orT_p (b := decide (3 < l.length)) (notT_p ht) (fun _ => tob_bl ?_)).trans (by by_cases z : l.length ≤ 3 <;> simp [isTx, hl, z] <;> omega)
    rw [bin2_p (y := .int 3) (var_len (admT_len h) hs) rfl]
    simp [cmpU]
    omega
theorem chk_one {c : U} {zs : List W1} (hc : c = .tup (zs.map .str)) (hs : s[j]? = some (some u)) (h : admT u = true) : notT (tobM (callM 2 r_is_one_of (consA (varM j) (consA (litM c) nilA)))) s G = .ok (!isOne zs u) G := by
  subst hc
  exact notT_p (tob_bl ((call2 (var_ok hs) (u' := .tup (zs.map .str)) (G2 := G) rfl).trans (by simp [r_is_one_of, h])))
theorem chk_deeds (hs : s[j]? = some (some u)) (h : admD u = true) : notT (tobM (callM 1 r_are_deeds (consA (varM j) nilA))) s G = .ok (!isDs u) G :=
  notT_p (tob_bl ((call1 (G2 := G) (var_ok hs)).trans (by simp [r_are_deeds, h])))
theorem chk_passes (hs : s[j]? = some (some u)) (h : admP u = true) : orT (notT (tobM (callM 1 r_is_integer (consA (varM j) nilA)))) (notT (tobM (chM (cmpU fun i j => decide (i ≤ j)) (cmpU fun i j => decide (i ≤ j)) (litM (.int 1)) (varM j) (litM (.int 2))))) s G = .ok (!isPs u) G := by
  have hv := var_ok (G := G) hs
  have hc := call1 (r := r_is_integer) (G2 := G) hv
  have h2 : litM (.int 2) s G = .ok (.int 2) G := rfl
  unfold admP at h
  split at h
  · exact (orT_p (b := true) (notT_p (tob_bl (hc.trans rfl))) (fun z => by cases z)).trans rfl
  · exact (orT_p (b := true) (notT_p (tob_bl (hc.trans rfl))) (fun z => by cases z)).trans rfl
  · rename_i n
    refine (orT_p (b := !(decide (1 ≤ n) && decide (n ≤ 2))) (notT_p (tob_bl (hc.trans rfl))) (fun _ => notT_p ?_)).trans (by simp [isPs])
    unfold tobM chM
    have h1 : litM (.int 1) s G = .ok (.int 1) G := rfl
    rw [h1]
    simp only [bind_ok]
    rw [hv]
    by_cases c1 : 1 ≤ n
    · simp [cmpU, c1, h2, blU]
    · simp [cmpU, c1, h2, blU]
  · exact (orT_p (b := true) (notT_p (tob_bl (hc.trans rfl))) (fun z => by cases z)).trans rfl
  · cases h
end
theorem keeps_eq : c_KEEPS = .tup (keepsL.map .str) := by simp [c_KEEPS, keepsL]
theorem turns_eq : c_TURNS = .tup (turnsL.map .str) := by simp [c_TURNS, turnsL]
theorem fields_eq : c_FIELDS = .tup (fieldsL.map .str) := by simp [c_FIELDS, fieldsL, wKeep, wTurn, wDeeds, wPasses]
theorem adm6_parts {x : S6} (h : adm6 x = true) : admT x.w = true ∧ admT x.p = true ∧ admT x.k = true ∧ admT x.t = true ∧ admD x.d = true ∧ admP x.n = true := by
  simpa [adm6, and_assoc] using h
theorem le_need_fields : Le r_need_fields (runB d_need_fields 40 s_need_fields) := fun us G => by
  unfold r_need_fields
  split
  · rename_i w p k t d n
    split
    · rename_i ha
      obtain ⟨h1, h2, h3, h4, h5, h6⟩ := adm6_parts ha
      refine .inr ?_
      rw [run_need_fields]
      have hs : startS d_need_fields.N [w, p, k, t, d, n] = [some w, some p, some k, some t, some d, some n] := rfl
      rw [hs]
      unfold m_need_fields
      rw [chk_step (chk_word (u := w) rfl h1) (f := wWord) (by simp [litM, wWord]), chk_step (chk_put (u := p) rfl h2) (f := wPut) (by simp [litM, wPut]), chk_step (chk_one keeps_eq (u := k) rfl h3) (f := wKeep) (by simp [litM, wKeep]),
        chk_step (chk_one turns_eq (u := t) rfl h4) (f := wTurn) (by simp [litM, wTurn]), chk_step (chk_deeds (u := d) rfl h5) (f := wDeeds) (by simp [litM, wDeeds])]
      have hl : ifM (orT (notT (tobM (callM 1 r_is_integer (consA (varM 5) nilA)))) (notT (tobM (chM (cmpU fun i j => decide (i ≤ j)) (cmpU fun i j => decide (i ≤ j)) (litM (.int 1)) (varM 5) (litM (.int 2)))))) (stE (litM (.str (Str.ofString "passes").cps.toList)) (raiseM 2 6)) nxM [some w, some p, some k, some t, some d, some n] G = if (!isPs n) = true then .exc (exS wPasses) [some w, some p, some k, some t, some d, some n] G else .nx [some w, some p, some k, some t, some d, some n] G := by
        have hc := chk_passes (s := [some w, some p, some k, some t, some d, some n]) (G := G) (u := n) (j := 5) rfl h6
        by_cases z : isPs n = true
        · rw [z] at hc ⊢
          exact ifM_fn hc
        · have z : isPs n = false := by simpa using z
          rw [z] at hc ⊢
          rw [ifM_t hc]
          simp [stE, litM, raiseM, flatU, exS, wPasses]
      rw [hl]
      unfold bad6
      simp only
      by_cases z1 : isTx 1 w = true
      · by_cases z2 : isTx 0 p = true
        · by_cases z3 : isOne keepsL k = true
          · by_cases z4 : isOne turnsL t = true
            · by_cases z5 : isDs d = true
              · by_cases z6 : isPs n = true
                · simp [z1, z2, z3, z4, z5, z6, runR]
                · simp [z1, z2, z3, z4, z5, z6, runR, exS]
              · simp [z1, z2, z3, z4, z5, runR, exS]
            · simp [z1, z2, z3, z4, runR, exS]
          · simp [z1, z2, z3, runR, exS]
        · simp [z1, z2, runR, exS]
      · simp [z1, runR, exS]
    · exact .inl rfl
  · exact .inl rfl
theorem le_Stepper_init : Le r_Stepper_init (runB d_Stepper_init 40 s_Stepper_init) := fun us G => by
  unfold r_Stepper_init
  split
  · rename_i i w p k t d n
    split
    · rename_i hg
      split
      · rename_i ha
        refine .inr ?_
        rw [run_Stepper_init]
        obtain ⟨hi, hg⟩ := List.getElem?_eq_some_iff.mp hg
        cases e : bad6 ⟨w, p, k, t, d, n⟩ with
        | none => simp [m_Stepper_init, d_Stepper_init, startS, runR, seqM, stE, stE2, callM, consA, nilA, varM, arM, r_need_fields, ha, e, nxM, fldM, hg, putU, List.getElem?_set, hi, fl6]
        | some f => simp [m_Stepper_init, d_Stepper_init, startS, runR, seqM, stE, stE2, callM, consA, nilA, varM, arM, r_need_fields, ha, e]
      · exact .inl rfl
    · exact .inl rfl
  · exact .inl rfl
theorem of6_ok {l : List (Nat × U)} {x : S6} (h : of6 l = some x) : l = fl6 x ∧ adm6 x = true ∧ bad6 x = none := by
  unfold of6 at h
  split at h
  · split at h
    · rename_i ho
      cases h
      exact ⟨rfl, ho⟩
    · cases h
  · cases h
theorem of6_fl6 {x : S6} (h : adm6 x = true) (hb : bad6 x = none) : of6 (fl6 x) = some x := by
  unfold of6 fl6
  exact if_pos ⟨h, hb⟩
theorem le_Stepper_parts_told : Le r_Stepper_parts_told (runB d_Stepper_parts_told 40 s_Stepper_parts_told) := fun us G => by
  unfold r_Stepper_parts_told
  split
  · rename_i fs
    split
    · rename_i x e
      obtain ⟨rfl, _⟩ := of6_ok e
      refine .inr ?_
      rw [run_Stepper_parts_told]
      simp [m_Stepper_parts_told, d_Stepper_parts_told, startS, runR, stE, tupM, consA, attrM, varM, insOf, fl6, List.lookup, nilA, newT, szL, rtM, us6]
    · exact .inl rfl
  · exact .inl rfl
theorem bad6_none {x : S6} (h : bad6 x = none) : isTx 1 x.w = true ∧ isTx 0 x.p = true ∧ isOne keepsL x.k = true ∧ isOne turnsL x.t = true ∧ isDs x.d = true ∧ isPs x.n = true := by
  unfold bad6 at h
  split at h
  · cases h
  · split at h
    · cases h
    · split at h
      · cases h
      · split at h
        · cases h
        · split at h
          · cases h
          · split at h
            · cases h
            · rename_i a b c d e f
              simp at a b c d e f
              exact ⟨a, b, c, d, e, f⟩
theorem isT_ok {l : W1} (h : isT l = true) : okC l = true := by
  unfold isT at h
  unfold okC
  rw [List.all_eq_true] at h ⊢
  intro c hc
  have := h c hc
  simp [infB, List.isPrefixOf] at this
  simp
  omega
theorem inW_ok {zs : List W1} {a : W1} (hz : zs.all okC = true) (h : inW zs a = true) : okC a = true := by
  unfold inW at h
  rw [List.any_eq_true] at h
  obtain ⟨z, hz1, e⟩ := h
  rw [beq_iff_eq] at e
  subst e
  exact List.all_eq_true.mp hz z hz1
theorem pds_strs {k : Nat} : ∀ {zs : List W1}, zs.all okC = true → pds k (zs.map .str) = true
  | [], _ => by cases k <;> rfl
  | z :: r, h => by
    rw [List.all_cons, Bool.and_eq_true] at h
    rw [List.map_cons]
    unfold pds
    rw [pds_strs h.2, Bool.and_true]
    cases k <;> (unfold pd; exact h.1)
theorem pd_str {k : Nat} {l : W1} (h : okC l = true) : pd k (.str l) = true := by cases k <;> (unfold pd; exact h)
theorem okDs_ok {zs : List W1} (h : okDs zs = true) : zs.all okC = true ∧ zs.length ≤ 3 ∧ 1 ≤ zs.length := by
  simp only [okDs, Bool.and_eq_true, decide_eq_true_eq] at h
  refine ⟨?_, h.1.2, h.1.1⟩
  rw [List.all_eq_true]
  exact fun z hz => inW_ok (by decide) (List.all_eq_true.mp h.2 z hz)
theorem isTx_str {lo : Nat} {u : U} (h : isTx lo u = true) : ∃ l, u = .str l ∧ isT l = true ∧ lo ≤ l.length ∧ l.length ≤ 3 := by
  unfold isTx at h
  split at h
  · simp only [Bool.and_eq_true, decide_eq_true_eq] at h
    exact ⟨_, rfl, h.1.1, h.1.2, h.2⟩
  · cases h
theorem isOne_str {zs : List W1} {u : U} (h : isOne zs u = true) : ∃ l, u = .str l ∧ inW zs l = true := by
  unfold isOne at h
  split at h
  · exact ⟨_, rfl, h⟩
  · cases h
theorem isDs_tup {u : U} (h : isDs u = true) : ∃ zs : List W1, u = .tup (zs.map .str) ∧ okDs zs = true := by
  unfold isDs at h
  split at h
  · split at h
    · rename_i zs e
      exact ⟨zs, by rw [strsOf_eq e], h⟩
    · cases h
  · cases h
theorem isPs_int {u : U} (h : isPs u = true) : ∃ n, u = .int n ∧ 1 ≤ n ∧ n ≤ 2 := by
  unfold isPs at h
  split at h
  · simp only [Bool.and_eq_true, decide_eq_true_eq] at h
    exact ⟨_, rfl, h⟩
  · cases h
theorem pd_us6 {x : S6} (h : bad6 x = none) : pd 20 (.tup (us6 x)) = true := by
  obtain ⟨h1, h2, h3, h4, h5, h6⟩ := bad6_none h
  obtain ⟨w, e1, g1, _⟩ := isTx_str h1
  obtain ⟨p, e2, g2, _⟩ := isTx_str h2
  obtain ⟨k, e3, g3⟩ := isOne_str h3
  obtain ⟨t, e4, g4⟩ := isOne_str h4
  obtain ⟨zs, e5, g5⟩ := isDs_tup h5
  obtain ⟨n, e6, g6⟩ := isPs_int h6
  have hk : okC k = true := inW_ok (by decide) g3
  have ht : okC t = true := inW_ok (by decide) g4
  unfold us6
  rw [e1, e2, e3, e4, e5, e6]
  simp [pd, pds, isT_ok g1, isT_ok g2, hk, ht, pds_strs (okDs_ok g5).1]
theorem le_Stepper_eq : Le r_Stepper_eq (runB d_Stepper_eq 40 s_Stepper_eq) := fun us G => by
  unfold r_Stepper_eq
  split
  · rename_i fs gs
    split
    · rename_i x y ex ey
      obtain ⟨rfl, ax, bx⟩ := of6_ok ex
      obtain ⟨rfl, ay, by'⟩ := of6_ok ey
      refine .inr ?_
      rw [run_Stepper_eq]
      have hs : startS d_Stepper_eq.N [.ins 0 (fl6 x), .ins 0 (fl6 y)] = [some (.ins 0 (fl6 x)), some (.ins 0 (fl6 y))] := rfl
      rw [hs]
      unfold m_Stepper_eq
      have m1 : methM (fun c => ([(0, (1, r_Stepper_parts_told))] : List (Nat × (Nat × RunD))).lookup c) 7 (varM 0) nilA [some (.ins 0 (fl6 x)), some (.ins 0 (fl6 y))] G = .ok (.tup (us6 x)) G :=
        (meth_eval (c := 0) (l := fl6 x) (n := 1) (r := r_Stepper_parts_told) (us := []) (var_ok rfl) rfl rfl rfl rfl).trans (by simp [arM, r_Stepper_parts_told, ex])
      have m2 : methM (fun c => ([(0, (1, r_Stepper_parts_told))] : List (Nat × (Nat × RunD))).lookup c) 7 (varM 1) nilA [some (.ins 0 (fl6 x)), some (.ins 0 (fl6 y))] G = .ok (.tup (us6 y)) G :=
        (meth_eval (c := 0) (l := fl6 y) (n := 1) (r := r_Stepper_parts_told) (us := []) (var_ok rfl) rfl rfl rfl rfl).trans (by simp [arM, r_Stepper_parts_told, ey])
      rw [stE_rt (u := .bl (PyData.eqv (dP (.tup (us6 x))) (dP (.tup (us6 y))))) (G1 := G) ?_]
      · rfl
      · unfold andM
        rw [show isiM [0] (.inr 0) (varM 1) [some (.ins 0 (fl6 x)), some (.ins 0 (fl6 y))] G = .ok (.bl true) G by simp [isiM, varM, tyOf]]
        simp only [bind_ok]
        rw [bin2_p m1 m2, eqX_pd (pd_us6 bx) (pd_us6 by')]
        rfl
    · exact .inl rfl
  · refine .inr ?_
    rw [run_Stepper_eq]
    simp [m_Stepper_eq, d_Stepper_eq, startS, runR, stE, andM, isiM, varM, tyOf, rtM]
  · exact .inl rfl
end FL

namespace FL
open PySem L2 PyProof.Rows
theorem cut_newX {G g : List Ob} {x : Exn} : Cut G (.exc x G) (.exc x (G ++ g)) := ⟨rfl, ⟨g, rfl⟩, rfl, fun _ _ e => .inl e⟩
theorem stE_x {m : ME} {f : U → MS} {s : Sg} {G G1 : List Ob} {x : Exn} (h : m s G = .exc x G1) : stE m f s G = .exc x s G1 := by unfold stE; rw [h]
theorem cut_n {A : Rs U} {G : List Ob} {X Y : Rt} (q : X = Y) (h : Cut G A (runR Y)) : Cut G A (runR X) := by rw [q]; exact h
theorem map_fl6 {f : Nat → Option U} {x : S6} (h : bad6 x = none) : mapF f (fl6 x) = some (fl6 x) := by
  obtain ⟨h1, h2, h3, h4, h5, h6⟩ := bad6_none h
  obtain ⟨w, e1, g1, _⟩ := isTx_str h1
  obtain ⟨p, e2, g2, _⟩ := isTx_str h2
  obtain ⟨k, e3, g3⟩ := isOne_str h3
  obtain ⟨t, e4, g4⟩ := isOne_str h4
  obtain ⟨zs, e5, g5⟩ := isDs_tup h5
  obtain ⟨n, e6, g6⟩ := isPs_int h6
  unfold fl6
  rw [e1, e2, e3, e4, e5, e6]
  simp [mapF, mapU, map_strs]
/-- a stepper made, as a value -/
theorem mk_cut {x : S6} (h : adm6 x = true) {m : ME} {s : Sg} {G : List Ob} (hm : m s G = madeU 0 7 r_Stepper_init (us6 x) G) : Cut G (made6 G x) (runR (stE m rtM s G)) := by
  have e3 : (G ++ [Ob.ins 0 []])[G.length]? = some (.ins 0 []) := get_new
  unfold made6
  rw [if_pos h]
  have h' : adm6 ⟨x.w, x.p, x.k, x.t, x.d, x.n⟩ = true := h
  cases e : bad6 x with
  | none =>
    have e' : bad6 ⟨x.w, x.p, x.k, x.t, x.d, x.n⟩ = none := e
    have hm : m s G = .ok (.ref G.length) (G ++ [.ins 0 (fl6 x)]) := by
      rw [hm]
      simp [madeU, arM, us6, r_Stepper_init, h', e']
    rw [stE_rt hm]
    refine cut_new (g := [.ins 0 (fl6 x)]) ?_
    simp [frzU, mapU, refF, map_fl6 e]
  | some f =>
    have e' : bad6 ⟨x.w, x.p, x.k, x.t, x.d, x.n⟩ = some f := e
    have hm : m s G = .exc (exS f) (G ++ [.ins 0 []]) := by
      rw [hm]
      simp [madeU, arM, us6, r_Stepper_init, h', e']
    rw [stE_x hm]
    exact cut_newX (g := [.ins 0 []])
abbrev At0 (c j : Nat) (m : ME) : ME := attrM (fun c => (([] : List (Nat × RunD)).lookup c).map attrP) (fun c' => ([c] : List Nat).contains c') j m
theorem fl_attr {x : S6} {j : Nat} {s : Sg} {G : List Ob} (hs : s[j]? = some (some (.ins 0 (fl6 x)))) : At0 0 0 (varM j) s G = .ok x.w G ∧ At0 0 1 (varM j) s G = .ok x.p G ∧ At0 0 2 (varM j) s G = .ok x.k G ∧ At0 0 3 (varM j) s G = .ok x.t G ∧ At0 0 4 (varM j) s G = .ok x.d G ∧ At0 0 5 (varM j) s G = .ok x.n G := by
  have hv := var_ok (G := G) hs
  refine ⟨?_, ?_, ?_, ?_, ?_, ?_⟩ <;> (unfold At0 attrM; rw [hv]; simp [insOf, fl6, List.lookup])
theorem isFld_some {u : U} {f : W1} (h : isFld u = some f) : u = .str f ∧ inW fieldsL f = true := by
  unfold isFld at h
  split at h
  · split at h
    · rename_i hi
      cases h
      exact ⟨rfl, hi⟩
    · cases h
  · cases h
theorem isFld_none {u : U} (h : isFld u = none) : isOne fieldsL u = false := by
  unfold isFld at h
  split at h
  · split at h
    · cases h
    · rename_i hi
      simpa [isOne] using hi
  · rename_i hu
    unfold isOne
    split
    · exact absurd rfl (hu _)
    · rfl
theorem flds_ok : fieldsL.all okC = true := by decide
theorem ite_fld {f name : W1} {u y : U} {m a : ME} {et : Nat → Option RunD} {s : Sg} {G : List Ob} (hf : okC f = true) (hn : okC name = true) (h1 : s[1]? = some (some (.str f))) (h2 : s[2]? = some (some u)) (hm : m s G = .ok (.str name) G) (ha : a s G = .ok y G) :
    iteM (tobM (bin2 (eqX false et) (varM 1) m)) (varM 2) a s G = .ok (if f = name then u else y) G := by
  have ht := tob_str (neg := false) (et := et) (var_ok (G := G) h1) hm hf hn
  unfold iteM
  rw [ht]
  by_cases z : f = name
  · subst z
    simp [var_ok h2]
  · simp [z, ha]
theorem le_Stepper_changed : LeC r_Stepper_changed (runB d_Stepper_changed 40 s_Stepper_changed) := fun us G => by
  unfold r_Stepper_changed
  split
  · rename_i fs f u
    split
    · rename_i x ex
      obtain ⟨rfl, ax, bx⟩ := of6_ok ex
      split
      · rename_i hf
        have hs : startS d_Stepper_changed.N [.ins 0 (fl6 x), f, u] = [some (.ins 0 (fl6 x)), some f, some u, none, none, none, none] := rfl
        have hc := chk_one fields_eq (s := [some (.ins 0 (fl6 x)), some f, some u, none, none, none, none]) (G := G) (j := 1) (u := f) rfl hf
        split
        · rename_i fl hfl
          obtain ⟨rfl, hin⟩ := isFld_some hfl
          have ok : okC fl = true := inW_ok flds_ok hin
          by_cases ha : adm6 (put6 x fl u) = true
          · refine .inr (.inr ?_)
            rw [run_Stepper_changed, hs]
            unfold m_Stepper_changed
            have h1 : isOne fieldsL (.str fl) = true := hin
            rw [h1] at hc
            refine cut_n (seqM_if hc) ?_
            have A := fun s h => fl_attr (x := x) (j := 0) (s := s) (G := G) h
            refine cut_n (seqM_set (ite_fld (name := wKeep) (y := x.k) ok (by decide) rfl (u := u) rfl (by simp [litM, wKeep]) (A _ rfl).2.2.1)) ?_
            refine cut_n (seqM_set (ite_fld (name := wTurn) (y := x.t) ok (by decide) rfl (u := u) rfl (by simp [litM, wTurn]) (A _ rfl).2.2.2.1)) ?_
            refine cut_n (seqM_set (ite_fld (name := wDeeds) (y := x.d) ok (by decide) rfl (u := u) rfl (by simp [litM, wDeeds]) (A _ rfl).2.2.2.2.1)) ?_
            refine cut_n (seqM_set (ite_fld (name := wPasses) (y := x.n) ok (by decide) rfl (u := u) rfl (by simp [litM, wPasses]) (A _ rfl).2.2.2.2.2)) ?_
            refine mk_cut ha ?_
            unfold makeKM
            have A := A [some (.ins 0 (fl6 x)), some (.str fl), some u, some (if fl = wKeep then u else x.k), some (if fl = wTurn then u else x.t), some (if fl = wDeeds then u else x.d), some (if fl = wPasses then u else x.n)] rfl
            refine (show _ = Rs.bind _ _ from congrArg (fun z => Rs.bind z _) (consA_p A.1 (consA_p A.2.1 rfl))).trans ?_
            simp only [bind_ok]
            refine (show _ = Rs.bind _ _ from congrArg (fun z => Rs.bind z _) (consA_p (var_ok rfl) (consA_p (var_ok rfl) (consA_p (var_ok rfl) (consA_p (var_ok rfl) rfl))))).trans ?_
            simp only [bind_ok]
            exact if_pos ⟨rfl, rfl⟩
          · exact .inl (if_neg ha)
        · rename_i hfl
          refine .inr (.inl ?_)
          rw [run_Stepper_changed, hs]
          unfold m_Stepper_changed
          rw [isFld_none hfl] at hc
          have q : ∀ (c : MT) (m : MS) (s : Sg), c s G = .ok true G → varM 1 s G = .ok f G → flatU f = true → runR (seqM (ifM c (stE (varM 1) (raiseM 3 6)) nxM) m s G) = .exc (exU f) G := fun c m s h1 h2 h3 => by
            unfold seqM
            rw [ifM_t h1]
            unfold stE
            rw [h2]
            simp [raiseM, h3, runR, exU]
          rw [q _ _ _ hc rfl]
          rcases admT_cases hf with ⟨l, rfl, _⟩ | rfl | ⟨n, rfl⟩ <;> rfl
      · exact .inl rfl
    · exact .inl rfl
  · exact .inl rfl
end FL

namespace FL
open PySem L2 PyProof.Rows
theorem rndP_snoc (ns : List Int) (c salt : Int) : rndP (ns ++ [c]) salt = (rndP ns salt * 31 + (if c < 0 then -c else c)).fmod 2147483647 := by simp [rndP, List.foldl_append]
theorem le__law_random : Le r__law_random (runB d__law_random 40 s__law_random) := fun us G => by
  unfold r__law_random
  split
  · rename_i l
    split
    · rename_i ns e
      split
      · rename_i hl
        refine .inr ?_
        rw [run__law_random, intsOf_eq e]
        have hs : startS d__law_random.N [.sc (ns.map .int), .int 1] = [some (.sc (ns.map .int)), some (.int 1), none, none] := rfl
        rw [hs]
        unfold m__law_random
        rw [seqM_set (u := .int 1) (G1 := G) rfl]
        have hit : seqI (varM 0) [some (.sc (ns.map .int)), some (.int 1), some (.int 1), none] G = .ok (.seq (.sc (ns.map .int)), ns.length) G := by
          unfold seqI
          rw [var_ok (u := .sc (ns.map .int)) rfl]
          simp [seqOf, lstOf]
        obtain ⟨s', G', h1, x, h2, h3⟩ := forL_inv (b := .seq (.sc (ns.map .int))) (g := nameG 3)
          (body := stE (bin2 modU (preM intU1 (consA (bin2 (addU false) (bin2 (mulU false) (varM 2) (litM (.int 31))) (preM absU (consA (varM 3) nilA))) nilA)) (litM (.int 2147483647))) (setM 2))
          (fun k s' G' => ∃ x, s' = [some (.sc (ns.map .int)), some (.int 1), some (.int (rndP (ns.take k) 1)), x] ∧ G' = G) (n := ns.length) (l := ns.map .int) (by simp) (fun G i => by simp [itAt, seqOf, lstOf])
          (fun k u s1 G1 hu ⟨x, e1, e2⟩ => by
            subst e1
            subst e2
            rw [List.getElem?_map] at hu
            cases hc : ns[k]? with
            | none => rw [hc] at hu; cases hu
            | some c =>
              rw [hc] at hu
              cases hu
              refine ⟨_, _, _, rfl, .inl (by
                simp [stE, bin2, preM, consA, varM, litM, nilA, mulU, addU, absU, intU1, modU, intU, setM]; rfl), some (.int c), ?_, rfl⟩
              have : ns.take (k + 1) = ns.take k ++ [c] := by rw [List.take_add_one, hc]; rfl
              rw [this, rndP_snoc]) ns.length 0 [some (.sc (ns.map .int)), some (.int 1), some (.int 1), none] G (by omega) ⟨none, rfl, rfl⟩
        have hfor : forM (seqI (varM 0)) (nameG 3) (stE (bin2 modU (preM intU1 (consA (bin2 (addU false) (bin2 (mulU false) (varM 2) (litM (.int 31))) (preM absU (consA (varM 3) nilA))) nilA)) (litM (.int 2147483647))) (setM 2)) [some (.sc (ns.map .int)), some (.int 1), some (.int 1), none] G = .nx s' G' := by
          unfold forM
          rw [hit]
          exact h1
        subst h2
        subst h3
        rw [List.take_length] at hfor
        refine Eq.symm ((congrArg runR (seqM_nx hfor)).trans ?_)
        have hc : compM false (seqI (varM 0)) (nameG 3) (tobM (bin2 (cmpU fun i j => decide (j ≤ i)) (varM 3) (bin2 powU (litM (.int 10)) (litM (.int 18))))) (varM 3) [3] [some (.sc (ns.map .int)), some (.int 1), some (.int (rndP ns 1)), x] G' = newL false (((ns.map U.int).filter fun u => match u with | .int c => decide (10 ^ 18 ≤ c) | _ => false).map id) G' := by
          refine comp_seqF (u := .sc (ns.map .int)) (by simp [seqI, varM, seqOf, lstOf]) (by simp [seqOf, lstOf]) fun u hu => ?_
          simp only [List.mem_map] at hu
          obtain ⟨c, _, rfl⟩ := hu
          exact ⟨_, rfl, by simp [tobM, bin2, varM, wipeS, litM, powU, intU, cmpU, blU], fun _ => by simp [varM, wipeS]⟩
        have hf : ((ns.map U.int).filter fun u => match u with | .int c => decide (10 ^ 18 ≤ c) | _ => false).map id = (ns.filter fun c => decide (10 ^ 18 ≤ c)).map U.int := by
          rw [List.map_id, List.filter_map]
          rfl
        have hlen : (ns.filter fun c => decide ((10 : Int) ^ 18 ≤ c)).length ≤ 63 := Nat.le_trans (List.length_filter_le _ _) hl
        rw [stE_rt (u := .ref G'.length) (G1 := G' ++ [drC (rndP ns 1 :: 0 :: ns.filter fun c => decide (10 ^ 18 ≤ c))]) (by
          rw [bin2_p (x := .lst [.int (rndP ns 1), .int 0]) (y := .lst ((ns.filter fun c => decide (10 ^ 18 ≤ c)).map .int)) (by simp [lstM, consA, varM, litM, nilA, newL, szL]) (by
            rw [hc, hf, newL_f (by simp [szL]; simp at hlen; omega)])]
          simp only [addU, lstOfW]
          rw [newL_t (by simp [szL]; simp at hlen; omega)]
          simp [drC])]
        rfl
      · exact .inl rfl
    · exact .inl rfl
  · exact .inl rfl
theorem below_rest {G : List Ob} {i : Nat} {a b n : Int} {r : List Int} {x : Option U} (hg : G[i]? = some (drC (a :: b :: r))) (hn : 0 < n ∧ n < 1000) :
    seqM (ifM (tobM (bin2 (cmpU fun i j => decide (j < i)) (bin2 idxU (varM 0) (litM (.int 1))) (litM (.int 0)))) (seqM (stE (bin2 modU (preM intU1 (consA (bin2 idxU (varM 0) (litM (.int 1))) nilA)) (varM 1)) (setM 2)) (seqM (stE3 (bin2 fdivU (bin2 idxU (varM 0) (litM (.int 1))) (varM 1)) (varM 0) (litM (.int 1)) itemM) (stE (varM 2) rtM))) nxM) (seqM (stE3 (bin2 modU (preM intU1 (consA (bin2 (addU false) (bin2 (mulU false) (bin2 idxU (varM 0) (litM (.int 0))) (litM (.int 48271))) (litM (.int 11))) nilA)) (litM (.int 2147483647))) (varM 0) (litM (.int 0)) itemM) (stE (bin2 modU (preM intU1 (consA (bin2 fdivU (bin2 idxU (varM 0) (litM (.int 0))) (litM (.int 64))) nilA)) (varM 1)) rtM))
      [some (.ref i), some (.int n), x] G = if b > 0 then .rt (.int (b.fmod n)) (G.set i (drC (a :: b.fdiv n :: r))) else .rt (.int ((((a * 48271 + 11).fmod 2147483647).fdiv 64).fmod n)) (G.set i (drC ((a * 48271 + 11).fmod 2147483647 :: b :: r))) := by
  obtain ⟨hi, hgi⟩ := List.getElem?_eq_some_iff.mp hg
  have hn0 : n ≠ 0 := by omega
  have hn1 : n.natAbs < 1073741824 := by omega
  have i1 : ∀ (s : Sg), s[0]? = some (some (.ref i)) → bin2 idxU (varM 0) (litM (.int 1)) s G = .ok (.int b) G := fun s hs => by
    rw [bin2_p (var_ok hs) (y := .int 1) rfl]
    have : atI ((a :: b :: r).map U.int) 1 = some (.int b) := atI_nat (j := 1) (by simp)
    simp only [idxU, seqOf, lstOf, hg, drC, this]
  have i0 : ∀ (s : Sg) (G : List Ob) (a b : Int) (r : List Int), G[i]? = some (drC (a :: b :: r)) → s[0]? = some (some (.ref i)) → bin2 idxU (varM 0) (litM (.int 0)) s G = .ok (.int a) G := fun s G a b r hg hs => by
    rw [bin2_p (var_ok hs) (y := .int 0) rfl]
    have : atI ((a :: b :: r).map U.int) 0 = some (.int a) := atI_nat (j := 0) (by simp)
    simp only [idxU, seqOf, lstOf, hg, drC, this]
  have x1 : ixN ((a :: b :: r).map U.int).length 1 = some 1 := by simp [ixN]; omega
  have x0 : ixN ((a :: b :: r).map U.int).length 0 = some 0 := by simp [ixN]; omega
  have ht : tobM (bin2 (cmpU fun i j => decide (j < i)) (bin2 idxU (varM 0) (litM (.int 1))) (litM (.int 0))) [some (.ref i), some (.int n), x] G = .ok (decide (0 < b)) G := by
    unfold tobM
    rw [bin2_p (i1 _ rfl) (y := .int 0) rfl]
    rfl
  by_cases hb : b > 0
  · rw [if_pos hb]
    have hb' : decide (0 < b) = true := decide_eq_true hb
    rw [hb'] at ht
    refine seqM_rt ((ifM_t ht).trans ?_)
    rw [seqM_set (u := .int (b.fmod n)) (G1 := G) (by
      rw [bin2_p (x := .int b) (by unfold preM; rw [consA_p (i1 _ rfl) rfl]; rfl) (var_ok (u := .int n) rfl)]
      simp [modU, intU, hn0])]
    rw [seqM_nx (s1 := [some (.ref i), some (.int n), some (.int (b.fmod n))]) (G1 := G.set i (drC (a :: b.fdiv n :: r))) (by
      show stE3 _ _ _ _ [some (.ref i), some (.int n), some (.int (b.fmod n))] G = _
      unfold stE3
      rw [bin2_p (i1 _ rfl) (var_ok (u := .int n) rfl)]
      simp only [fdivU, intU]
      rw [if_pos (by simp [hn0, hn1])]
      simp only [varM, litM, List.getElem?_cons_zero, itemM, hg, drC, x1]
      simp)]
    exact stE_rt rfl
  · rw [if_neg hb]
    have hb' : decide (0 < b) = false := decide_eq_false hb
    rw [hb'] at ht
    rw [seqM_if ht]
    rw [seqM_nx (s1 := [some (.ref i), some (.int n), x]) (G1 := G.set i (drC ((a * 48271 + 11).fmod 2147483647 :: b :: r))) (by
      unfold stE3
      rw [bin2_p (x := .int (a * 48271 + 11)) (y := .int 2147483647) (by
        unfold preM
        rw [consA_p (x := .int (a * 48271 + 11)) (by
          rw [bin2_p (x := .int (a * 48271)) (y := .int 11) (by
            rw [bin2_p (i0 _ _ _ _ _ hg rfl) (y := .int 48271) rfl]
            simp [mulU]) rfl]
          rfl) rfl]
        rfl) rfl]
      simp only [modU, intU]
      rw [if_pos (by decide)]
      simp only [varM, litM, List.getElem?_cons_zero, itemM, hg, drC, x0]
      simp)]
    have hg2 : (G.set i (drC ((a * 48271 + 11).fmod 2147483647 :: b :: r)))[i]? = some (drC ((a * 48271 + 11).fmod 2147483647 :: b :: r)) := List.getElem?_set_self hi
    refine stE_rt ?_
    rw [bin2_p (x := .int (((a * 48271 + 11).fmod 2147483647).fdiv 64)) (by
      unfold preM
      rw [consA_p (x := .int (((a * 48271 + 11).fmod 2147483647).fdiv 64)) (by
        rw [bin2_p (i0 _ _ _ _ _ hg2 rfl) (y := .int 64) rfl]
        simp [fdivU, intU]) rfl]
      rfl) (var_ok (u := .int n) rfl)]
    simp [modU, intU, hn0]
theorem le__law_below : Le r__law_below (runB d__law_below 40 s__law_below) := fun us G => by
  unfold r__law_below
  split
  · rename_i i n
    split
    · rename_i a b r e
      split
      · rename_i hn
        obtain ⟨hg, hr⟩ := drOf_ok e
        obtain ⟨hi, hgi⟩ := List.getElem?_eq_some_iff.mp hg
        refine .inr ?_
        rw [run__law_below]
        have hs : startS d__law_below.N [.ref i, .int n] = [some (.ref i), some (.int n), none] := rfl
        rw [hs]
        unfold m__law_below
        have i1 : bin2 idxU (varM 0) (litM (.int 1)) [some (.ref i), some (.int n), none] G = .ok (.int b) G := by
          rw [bin2_p (var_ok (u := .ref i) rfl) (y := .int 1) rfl]
          have : atI ((a :: b :: r).map U.int) 1 = some (.int b) := atI_nat (j := 1) (by simp)
          simp only [idxU, seqOf, lstOf, hg, drC, this]
        have ht : andT (tobM (bin2 (eqX false (fun c => d__law_below.eqt.lookup c)) (bin2 idxU (varM 0) (litM (.int 1))) (litM (.int 0)))) (tobM (bin2 (cmpU fun i j => decide (j < i)) (preM lenU (consA (varM 0) nilA)) (litM (.int 2)))) [some (.ref i), some (.int n), none] G = .ok (decide (b = 0 ∧ r ≠ [])) G := by
          unfold andT
          rw [tob_int (x := b) (y := 0) i1 rfl]
          by_cases hb : b = 0
          · subst hb
            have hl : tobM (bin2 (cmpU fun i j => decide (j < i)) (preM lenU (consA (varM 0) nilA)) (litM (.int 2))) [some (.ref i), some (.int n), none] G = .ok (decide ((2 : Int) < (r.length + 1 + 1 : Nat))) G := by
              unfold tobM
              rw [bin2_p (x := .int (r.length + 1 + 1 : Nat)) (y := .int 2) (by unfold preM; rw [consA_p (var_ok (u := .ref i) rfl) rfl]; simp [lenU, seqOf, lstOf, hg, drC]) rfl]
              rfl
            simp only [bind_ok, Bool.false_eq_true, if_false, beq_self_eq_true, if_true, hl]
            congr 1
            cases r with
            | nil => simp
            | cons y t => simp; omega
          · simp [hb]
        by_cases hz : b = 0 ∧ r ≠ []
        · obtain ⟨rfl, hr0⟩ := hz
          cases r with
          | nil => exact absurd rfl hr0
          | cons y t =>
            have ht' : andT _ _ [some (.ref i), some (.int n), none] G = .ok true G := ht.trans (by simp)
            have hx : ixN ((a :: 0 :: t).map U.int).length 1 = some 1 := by simp [ixN]; omega
            have hp : bmM popU (varM 0) (consA (litM (.int 2)) nilA) [some (.ref i), some (.int n), none] G = .ok (.int y) (G.set i (drC (a :: 0 :: t))) := by
              unfold bmM
              rw [var_ok (u := .ref i) rfl]
              have hsq : seqIndex? 2 ((a :: 0 :: y :: t).map U.int).length = some 2 := by simp [seqIndex?]; omega
              simp only [bind_ok, lstOfW, hg, drC, consA, litM, nilA, popU, hsq]
              rw [if_pos (by decide)]
              simp
            have q : ifM (andT (tobM (bin2 (eqX false (fun c => d__law_below.eqt.lookup c)) (bin2 idxU (varM 0) (litM (.int 1))) (litM (.int 0)))) (tobM (bin2 (cmpU fun i j => decide (j < i)) (preM lenU (consA (varM 0) nilA)) (litM (.int 2))))) (stE3 (bmM popU (varM 0) (consA (litM (.int 2)) nilA)) (varM 0) (litM (.int 1)) itemM) nxM [some (.ref i), some (.int n), none] G = .nx [some (.ref i), some (.int n), none] (G.set i (drC (a :: y :: t))) := by
              refine (ifM_t ht').trans ?_
              unfold stE3
              rw [hp]
              have hg2 : (G.set i (drC (a :: 0 :: t)))[i]? = some (drC (a :: 0 :: t)) := List.getElem?_set_self hi
              simp only [varM, litM, List.getElem?_cons_zero, itemM, hg2]
              simp only [drC, hx, List.set_set]
              simp
            have hg3 : (G.set i (drC (a :: y :: t)))[i]? = some (drC (a :: y :: t)) := List.getElem?_set_self hi
            rw [seqM_nx q, below_rest hg3 hn]
            have hb : brP 0 (y :: t) = (y, t) := rfl
            simp only [belowP, hb, belowQ, List.set_set]
            by_cases hy : y > 0 <;> simp [hy, runR]
        · have ht' : andT _ _ [some (.ref i), some (.int n), none] G = .ok false G := ht.trans (by simp [hz])
          rw [seqM_if ht', below_rest hg hn]
          have hbr : brP b r = (b, r) := by
            unfold brP
            by_cases hb : b = 0
            · rw [if_pos hb]
              cases r with
              | nil => rfl
              | cons y t => exact absurd ⟨hb, by simp⟩ hz
            · rw [if_neg hb]
          simp only [belowP, hbr, belowQ]
          by_cases hy : b > 0 <;> simp [hy, runR]
      · exact .inl rfl
    · exact .inl rfl
  · exact .inl rfl
end FL

namespace FL
open PySem L2 PyProof.Rows
theorem brP_len (b : Int) (r : List Int) : (brP b r).2.length ≤ r.length := by
  unfold brP
  split
  · cases r <;> simp
  · exact Nat.le_refl _
theorem below_form (a b : Int) (r : List Int) (n : Int) : ∃ v a' b' r', belowP a b r n = (v, a' :: b' :: r') ∧ r'.length ≤ r.length ∧ (0 < n → 0 ≤ v ∧ v < n) := by
  unfold belowP belowQ
  split
  · exact ⟨_, _, _, _, rfl, brP_len b r, fun h => ⟨Int.fmod_nonneg_of_pos _ h, Int.fmod_lt_of_pos _ h⟩⟩
  · exact ⟨_, _, _, _, rfl, brP_len b r, fun h => ⟨Int.fmod_nonneg_of_pos _ h, Int.fmod_lt_of_pos _ h⟩⟩
theorem drOf_set {G : List Ob} {i : Nat} {l l' : Int × Int × List Int} (h : drOf G i = some l) (hl : l'.2.2.length ≤ 63) : drOf (G.set i (drC (dl l'))) i = some l' := by
  obtain ⟨a, b, r⟩ := l
  obtain ⟨hg, hr⟩ := drOf_ok h
  have hi := (List.getElem?_eq_some_iff.mp hg).1
  obtain ⟨a', b', r'⟩ := l'
  unfold drOf
  rw [List.getElem?_set_self hi]
  simp only [drC, dl, intsOf_map]
  rw [if_pos hl]
theorem le__law_pick : Le r__law_pick (runB d__law_pick 40 s__law_pick) := fun us G => by
  unfold r__law_pick
  split
  · rename_i i xs
    split
    · rename_i a b r e
      split
      · rename_i hx
        split
        · rename_i u hu
          refine .inr ?_
          rw [run__law_pick]
          have hs : startS d__law_pick.N [.ref i, .lst xs] = [some (.ref i), some (.lst xs)] := rfl
          rw [hs]
          unfold m__law_pick
          obtain ⟨v, a', b', r', hb, hr', hv⟩ := below_form a b r xs.length
          have hv := hv (by omega)
          rw [hb] at hu
          have hat : atI xs v = some u := by
            have := atI_nat hu
            rw [Int.toNat_of_nonneg hv.1] at this
            exact this
          rw [stE_rt (u := u) (G1 := G.set i (drC (belowP a b r xs.length).2)) (by
            rw [bin2_ok (G1 := G) (x := .lst xs) (y := .int v) (G2 := G.set i (drC (belowP a b r xs.length).2)) (var_ok rfl) (by
              unfold callM
              rw [consA_p (var_ok (u := .ref i) rfl) (consA_p (x := .int xs.length) (by unfold preM; rw [consA_p (var_ok (u := .lst xs) rfl) rfl]; simp [lenU, seqOf, lstOf]) rfl)]
              have h1 : (0 : Int) < xs.length ∧ (xs.length : Int) < 1000 := by omega
              simp only [bind_ok, arM, r__law_below, e, if_pos h1, hb]
              rfl)]
            simp [idxU, seqOf, lstOf, hat])]
          rfl
        · exact .inl rfl
      · exact .inl rfl
    · exact .inl rfl
  · exact .inl rfl
theorem pick_ok {α : Type} (f : α → U) (ys : List α) (d : α) {G : List Ob} {i : Nat} {l : Int × Int × List Int} (h0 : 0 < ys.length) (h1 : ys.length < 1000) (h : drOf G i = some l) :
    r__law_pick [.ref i, .lst (ys.map f)] G = .ok (f (pickP d l ys).1) (G.set i (drC (dl (pickP d l ys).2))) ∧ drOf (G.set i (drC (dl (pickP d l ys).2))) i = some (pickP d l ys).2 ∧ (pickP d l ys).1 ∈ ys := by
  obtain ⟨a, b, r⟩ := l
  obtain ⟨hg, hr⟩ := drOf_ok h
  obtain ⟨v, a', b', r', hb, hr', hv⟩ := below_form a b r ys.length
  have hv := hv (by omega)
  have hlt : v.toNat < ys.length := by omega
  have hp : pickP d (a, b, r) ys = (ys[v.toNat], (a', b', r')) := by
    unfold pickP
    simp only [hb]
    simp [List.getD, hlt]
  rw [hp]
  refine ⟨?_, drOf_set h (by simp; omega), List.getElem_mem hlt⟩
  unfold r__law_pick
  simp only [h, List.length_map, if_pos (And.intro h0 h1), hb]
  rw [List.getElem?_map, List.getElem?_eq_getElem hlt]
  rfl
theorem call_pick {α : Type} (f : α → U) (ys : List α) (d : α) {G : List Ob} {i j : Nat} {l : Int × Int × List Int} {s : Sg} {m : ME} (h0 : 0 < ys.length) (h1 : ys.length < 1000) (h : drOf G i = some l) (hs : s[j]? = some (some (.ref i))) (hm : m s G = .ok (.lst (ys.map f)) G) :
    callM 2 r__law_pick (consA (varM j) (consA m nilA)) s G = .ok (f (pickP d l ys).1) (G.set i (drC (dl (pickP d l ys).2))) := by
  unfold callM
  rw [consA_p (var_ok hs) (consA_p hm rfl)]
  simp only [bind_ok, arM]
  exact (if_pos rfl).trans (pick_ok f ys d h0 h1 h).1
theorem drU_eq (s : Dr) : drU s = .tup [.str s.w, .str s.p, .str s.k, .str s.t, .tup (s.zs.map .str), .int s.n] := rfl
theorem le__law_drawn : Le r__law_drawn (runB d__law_drawn 40 s__law_drawn) := fun us G => by
  unfold r__law_drawn
  split
  · rename_i i
    split
    · rename_i l e
      refine .inr ?_
      rw [run__law_drawn]
      have hs : startS d__law_drawn.N [.ref i] = [some (.ref i), none, none, none, none] := rfl
      rw [hs]
      unfold m__law_drawn
      obtain ⟨_, e1, _⟩ := pick_ok U.str words6 [] (by decide) (by decide) e
      rw [seqM_set (call_pick U.str words6 [] (by decide) (by decide) e rfl (by simp [lstM, consA, litM, nilA, newL, szL, words6]))]
      obtain ⟨_, e2, _⟩ := pick_ok U.str puts10 [] (by decide) (by decide) e1
      rw [seqM_set (call_pick U.str puts10 [] (by decide) (by decide) e1 rfl (by simp [lstM, consA, litM, nilA, newL, szL, puts10])), List.set_set]
      rw [List.set_set] at e2
      generalize ha : pickP [] l words6 = a at *
      generalize hb : pickP [] a.2 puts10 = b at *
      generalize hGb : G.set i (drC (dl b.2)) = Gb at *
      rw [seqM_set (u := .lst ((deeds8.take 5).map fun zs => .tup (zs.map .str))) (G1 := Gb) (by simp [lstM, tupM, consA, litM, nilA, newL, newT, szL, deeds8, wRep, dK])]
      rw [seqM_set (u := .lst (deeds8.map fun zs => .tup (zs.map .str))) (G1 := Gb) (by
        rw [bin2_p (x := .lst ((deeds8.take 5).map fun zs => .tup (zs.map .str))) (y := .lst ((deeds8.drop 5).map fun zs => .tup (zs.map .str))) (var_ok rfl) (by simp [lstM, tupM, consA, litM, nilA, newL, newT, szL, deeds8, wRep, dK, dS'])]
        simp only [addU, lstOfW]
        rw [← List.map_append, List.take_append_drop, newL_f (by simp [szL, deeds8])])]
      obtain ⟨_, e3, _⟩ := pick_ok U.str keepsL [] (by decide) (by decide) e2
      rw [seqM_set (call_pick U.str keepsL [] (by decide) (by decide) e2 rfl (by simp [lstM, consA, litM, nilA, newL, szL, keepsL]))]
      generalize hc : pickP [] b.2 keepsL = c at *
      generalize hGc : Gb.set i (drC (dl c.2)) = Gc at *
      obtain ⟨_, e4, _⟩ := pick_ok U.str turnsL [] (by decide) (by decide) e3
      obtain ⟨_, e5, _⟩ := pick_ok (fun zs : List W1 => U.tup (zs.map .str)) deeds8 [] (by decide) (by decide) e4
      have q4 := call_pick U.str turnsL [] (s := [some (.ref i), some (.str a.1), some (.str b.1), some (.lst (deeds8.map fun zs => .tup (zs.map .str))), some (.str c.1)]) (j := 0) (m := lstM false (consA (litM (.str (Str.ofString "first").cps.toList)) (consA (litM (.str (Str.ofString "last").cps.toList)) (consA (litM (.str (Str.ofString "behind").cps.toList)) nilA)))) (by decide) (by decide) e3 rfl (by simp [lstM, consA, litM, nilA, newL, szL, turnsL])
      have q5 := call_pick (fun zs : List W1 => U.tup (zs.map .str)) deeds8 [] (s := [some (.ref i), some (.str a.1), some (.str b.1), some (.lst (deeds8.map fun zs => .tup (zs.map .str))), some (.str c.1)]) (j := 0) (m := varM 3) (by decide) (by decide) e4 rfl (var_ok rfl)
      generalize hd : pickP [] c.2 turnsL = d at *
      generalize hGd : Gc.set i (drC (dl d.2)) = Gd at *
      generalize he : pickP [] d.2 deeds8 = f at *
      generalize hGe : Gd.set i (drC (dl f.2)) = Ge at *
      have q6 : bin2 (addU false) (litM (.int 1)) (callM 2 r__law_below (consA (varM 0) (consA (litM (.int 2)) nilA))) [some (.ref i), some (.str a.1), some (.str b.1), some (.lst (deeds8.map fun zs => .tup (zs.map .str))), some (.str c.1)] Ge = .ok (.int (pickP 0 f.2 [1, (2 : Int)]).1) (Ge.set i (drC (dl (pickP 0 f.2 [1, (2 : Int)]).2))) := by
        obtain ⟨fv, fa, fb, fr⟩ := f
        obtain ⟨v, a', b', r', hb, hr', hv⟩ := below_form fa fb fr 2
        have hv := hv (by omega)
        have hp : pickP 0 (fa, fb, fr) [1, (2 : Int)] = (1 + v, (a', b', r')) := by
          unfold pickP
          have : (([1, (2 : Int)] : List Int).length : Int) = 2 := rfl
          simp only [this, hb]
          have hv2 : v = 0 ∨ v = 1 := by omega
          rcases hv2 with rfl | rfl <;> simp
        rw [hp]
        rw [bin2_ok (x := .int 1) (G1 := Ge) (y := .int v) (G2 := Ge.set i (drC (dl (a', b', r')))) rfl (by
          unfold callM
          rw [consA_p (var_ok (u := .ref i) rfl) (consA_p (x := .int 2) rfl rfl)]
          simp only [bind_ok, arM, r__law_below, e5, hb]
          rfl)]
        rfl
      rw [stE_rt (u := drU (drawnP l).1) (G1 := G.set i (drC (dl (drawnP l).2))) (by
        unfold tupM
        show ((consA _ _ : MA) [some (.ref i), some (.str a.1), some (.str b.1), some (.lst (deeds8.map fun zs => .tup (zs.map .str))), some (.str c.1)] Gc).bind _ = _
        rw [consA_ok (G1 := Gc) (x := .str a.1) (xs := [.str b.1, .str c.1, .str d.1, .tup (f.1.map .str), .int (pickP 0 f.2 [1, (2 : Int)]).1]) (G2 := Ge.set i (drC (dl (pickP 0 f.2 [1, (2 : Int)]).2))) (var_ok rfl)
          (consA_ok (G1 := Gc) (var_ok (u := .str b.1) rfl) (consA_ok (G1 := Gc) (var_ok (u := .str c.1) rfl) (consA_ok (G1 := Gd) q4 (consA_ok (G1 := Ge) q5 (consA_ok (G1 := Ge.set i (drC (dl (pickP 0 f.2 [1, (2 : Int)]).2))) q6 rfl)))))]
        simp only [bind_ok]
        rw [newT_ok' (by simp [szL])]
        have hG : Ge.set i (drC (dl (pickP 0 f.2 [1, (2 : Int)]).2)) = G.set i (drC (dl (pickP 0 f.2 [1, (2 : Int)]).2)) := by
          rw [← hGe, List.set_set, ← hGd, List.set_set, ← hGc, List.set_set, ← hGb, List.set_set]
        rw [hG]
        simp only [drU, drawnP, ha, hb, hc, hd, he])]
      rfl
    · exact .inl rfl
  · exact .inl rfl
theorem pick_mem {α : Type} (d : α) (l : Int × Int × List Int) (ys : List α) (h0 : 0 < ys.length) : (pickP d l ys).1 ∈ ys ∧ (pickP d l ys).2.2.2.length ≤ l.2.2.length := by
  obtain ⟨a, b, r⟩ := l
  obtain ⟨v, a', b', r', hb, hr', hv⟩ := below_form a b r ys.length
  have hv := hv (by omega)
  have hlt : v.toNat < ys.length := by omega
  have hp : pickP d (a, b, r) ys = (ys[v.toNat], (a', b', r')) := by
    unfold pickP
    simp only [hb]
    simp [List.getD, hlt]
  rw [hp]
  exact ⟨List.getElem_mem hlt, hr'⟩
theorem drawn_mem (l : Int × Int × List Int) : (drawnP l).1.w ∈ words6 ∧ (drawnP l).1.p ∈ puts10 ∧ (drawnP l).1.k ∈ keepsL ∧ (drawnP l).1.t ∈ turnsL ∧ (drawnP l).1.zs ∈ deeds8 ∧ (drawnP l).1.n ∈ [1, (2 : Int)] ∧ (drawnP l).2.2.2.length ≤ l.2.2.length := by
  have a := pick_mem [] l words6 (by decide)
  have b := pick_mem [] (pickP [] l words6).2 puts10 (by decide)
  have c := pick_mem [] (pickP [] (pickP [] l words6).2 puts10).2 keepsL (by decide)
  have d := pick_mem [] (pickP [] (pickP [] (pickP [] l words6).2 puts10).2 keepsL).2 turnsL (by decide)
  have e := pick_mem [] (pickP [] (pickP [] (pickP [] (pickP [] l words6).2 puts10).2 keepsL).2 turnsL).2 deeds8 (by decide)
  have f := pick_mem 0 (pickP [] (pickP [] (pickP [] (pickP [] (pickP [] l words6).2 puts10).2 keepsL).2 turnsL).2 deeds8).2 [1, (2 : Int)] (by decide)
  exact ⟨a.1, b.1, c.1, d.1, e.1, f.1, by unfold drawnP; simp only; omega⟩
theorem w6 : (words6.all fun w => isT w && decide (1 ≤ w.length) && decide (w.length ≤ 3)) = true := by decide +kernel
theorem p10 : (puts10.all fun p => isT p && decide (p.length ≤ 3)) = true := by decide +kernel
theorem z8 : (deeds8.all okDs) = true := by decide +kernel
theorem k2 : (keepsL.all fun k => inW keepsL k) = true := by decide +kernel
theorem t3 : (turnsL.all fun k => inW turnsL k) = true := by decide +kernel
theorem drawn_ok (l : Int × Int × List Int) : okS (drawnP l).1.w (drawnP l).1.p (drawnP l).1.k (drawnP l).1.t (drawnP l).1.zs (drawnP l).1.n = true := by
  obtain ⟨hw, hp, hk, ht, hz, hn, _⟩ := drawn_mem l
  have a := List.all_eq_true.mp w6 _ hw
  have b := List.all_eq_true.mp p10 _ hp
  have c := List.all_eq_true.mp k2 _ hk
  have d := List.all_eq_true.mp t3 _ ht
  have e := List.all_eq_true.mp z8 _ hz
  simp only [Bool.and_eq_true, decide_eq_true_eq] at a b
  have hn' : (drawnP l).1.n = 1 ∨ (drawnP l).1.n = 2 := by simpa using hn
  unfold okS
  simp only [Bool.and_eq_true, decide_eq_true_eq]
  exact ⟨⟨⟨⟨⟨⟨⟨⟨⟨a.1.1, a.1.2⟩, a.2⟩, b.1⟩, b.2⟩, c⟩, d⟩, e⟩, by omega⟩, by omega⟩
theorem drOfU_drU {d : Dr} (ho : okS d.w d.p d.k d.t d.zs d.n = true) : drOfU (drU d) = some d := by simp [drOfU, drU, ho]
end FL

namespace FL
open PySem L2 PyProof.Rows
theorem le__law_equal : Le r__law_equal (runB d__law_equal 40 s__law_equal) := fun us G => by
  unfold r__law_equal r_eq
  split
  · rename_i u v
    cases e : eqN 0 u v with
    | none => exact .inl rfl
    | some b =>
      refine .inr ?_
      rw [run__law_equal]
      exact (congrArg runR (eq_zero (G := G) (et := fun c => d__law_equal.eqt.lookup c) e)).symm
  · exact .inl rfl
theorem le__law_equal_1 : Le r__law_equal_1 (runB d__law_equal_1 40 s__law_equal) := fun us G => by
  unfold r__law_equal_1 r_eq
  split
  · rename_i u v
    cases e : eqN 1 u v with
    | none => exact .inl rfl
    | some b =>
      refine .inr ?_
      rw [run__law_equal_1]
      exact (congrArg runR (eq_succ (G := G) (et := fun c => d__law_equal_1.eqt.lookup c) e)).symm
  · exact .inl rfl
theorem le__law_equal_2 : Le r__law_equal_2 (runB d__law_equal_2 40 s__law_equal) := fun us G => by
  unfold r__law_equal_2 r_eq
  split
  · rename_i u v
    cases e : eqN 2 u v with
    | none => exact .inl rfl
    | some b =>
      refine .inr ?_
      rw [run__law_equal_2]
      exact (congrArg runR (eq_succ (G := G) (et := fun c => d__law_equal_2.eqt.lookup c) e)).symm
  · exact .inl rfl
theorem of6U_ok {u : U} {x : S6} (h : of6U u = some x) : u = .tup (us6 x) := by
  unfold of6U at h
  split at h
  · cases h; rfl
  · cases h
theorem of6U_tup (x : S6) : of6U (.tup (us6 x)) = some x := rfl
theorem idx6 {x : S6} {j : Nat} {s : Sg} {G : List Ob} (hs : s[j]? = some (some (.tup (us6 x)))) : bin2 idxU (varM j) (litM (.int 0)) s G = .ok x.w G ∧ bin2 idxU (varM j) (litM (.int 1)) s G = .ok x.p G ∧ bin2 idxU (varM j) (litM (.int 2)) s G = .ok x.k G ∧ bin2 idxU (varM j) (litM (.int 3)) s G = .ok x.t G ∧
    bin2 idxU (varM j) (litM (.int 4)) s G = .ok x.d G ∧ bin2 idxU (varM j) (litM (.int 5)) s G = .ok x.n G := by
  have I : ∀ (k : Nat) (u : U), (us6 x)[k]? = some u → bin2 idxU (varM j) (litM (.int (k : Nat))) s G = .ok u G := fun k u hu => by
    rw [bin2_p (var_ok hs) (y := .int k) rfl]
    simp [idxU, seqOf, atI_nat hu]
  exact ⟨I 0 _ rfl, I 1 _ rfl, I 2 _ rfl, I 3 _ rfl, I 4 _ rfl, I 5 _ rfl⟩
theorem le__law_make : LeC r__law_make (runB d__law_make 40 s__law_make) := fun us G => by
  unfold r__law_make
  split
  · rename_i u
    split
    · rename_i x e
      have := of6U_ok e
      subst this
      by_cases ha : adm6 x = true
      · refine .inr (.inr ?_)
        rw [run__law_make]
        have hs : startS d__law_make.N [.tup (us6 x)] = [some (.tup (us6 x))] := rfl
        rw [hs]
        unfold m__law_make
        refine mk_cut ha ?_
        have A := idx6 (x := x) (s := [some (.tup (us6 x))]) (j := 0) (G := G) rfl
        unfold makeKM
        refine (show _ = Rs.bind _ _ from congrArg (fun z => Rs.bind z _) (consA_p A.1 (consA_p A.2.1 rfl))).trans ?_
        simp only [bind_ok]
        refine (show _ = Rs.bind _ _ from congrArg (fun z => Rs.bind z _) (consA_p A.2.2.1 (consA_p A.2.2.2.1 (consA_p A.2.2.2.2.1 (consA_p A.2.2.2.2.2 rfl))))).trans ?_
        simp only [bind_ok]
        exact if_pos ⟨rfl, rfl⟩
      · exact .inl (if_neg ha)
    · exact .inl rfl
  · exact .inl rfl
theorem le__law_made : Le r__law_made (runB d__law_made 40 s__law_made) := fun us G => by
  unfold r__law_made
  split
  · rename_i u
    split
    · rename_i x e
      split
      · rename_i ha
        refine .inr ?_
        rw [run__law_made]
        have hs : startS d__law_made.N [u] = [some u, none, none] := rfl
        rw [hs]
        have hm : callM 1 r__law_make (consA (varM 0) nilA) [some u, some .non, none] G = made6 G x := by
          rw [call1 (G2 := G) (var_ok (u := u) rfl)]
          simp [r__law_make, e]
        unfold m__law_made
        rw [seqM_set (u := .non) (G1 := G) rfl]
        show _ = runR (seqM _ _ [some u, some .non, none] G)
        unfold made6 at hm
        rw [if_pos ha] at hm
        unfold faultU
        cases hb : bad6 x with
        | none =>
          rw [hb] at hm
          simp [seqM, tryM, stE, hm, varM, rtM, runR, nxM]
        | some f =>
          rw [hb] at hm
          have hx : exs.lookup (2, 2) = some true := by decide
          simp [seqM, tryM, stE, hm, varM, rtM, runR, hdM, exS, hx, offR, quiet, setIX, fldX, flatU]
      · exact .inl rfl
    · exact .inl rfl
  · exact .inl rfl
theorem changed_cases {fs : List (Nat × U)} {f u : U} {G : List Ob} : r_Stepper_changed [.ins 0 fs, f, u] G = .bad ∨ (∃ v, r_Stepper_changed [.ins 0 fs, f, u] G = .ok v G) ∨ (∃ f', r_Stepper_changed [.ins 0 fs, f, u] G = .exc (exS f') G) ∨ ∃ f', flatU f' = true ∧ r_Stepper_changed [.ins 0 fs, f, u] G = .exc (exU f') G := by
  unfold r_Stepper_changed
  simp only
  split
  · split
    · rename_i hf
      split
      · unfold made6
        split
        · split
          · exact .inr (.inl ⟨_, rfl⟩)
          · exact .inr (.inr (.inl ⟨_, rfl⟩))
        · exact .inl rfl
      · refine .inr (.inr (.inr ⟨f, ?_, rfl⟩))
        rcases admT_cases hf with ⟨l, rfl, _⟩ | rfl | ⟨n, rfl⟩ <;> rfl
    · exact .inl rfl
  · exact .inl rfl
theorem le__law_changed : Le r__law_changed (runB d__law_changed 40 s__law_changed) := fun us G => by
  unfold r__law_changed
  split
  · rename_i fs f u
    have hs : startS d__law_changed.N [.ins 0 fs, f, u] = [some (.ins 0 fs), some f, some u, none, none] := rfl
    by_cases hk : fs.lookup 8 = none
    · have hm : methM (fun c => ([(0, (3, r_Stepper_changed))] : List (Nat × (Nat × RunD))).lookup c) 8 (varM 0) (consA (varM 1) (consA (varM 2) nilA)) [some (.ins 0 fs), some f, some u, some .non, none] G = r_Stepper_changed [.ins 0 fs, f, u] G :=
        (meth_eval (c := 0) (l := fs) (n := 3) (r := r_Stepper_changed) (us := [f, u]) (var_ok rfl) rfl rfl hk rfl).trans rfl
      rcases changed_cases (fs := fs) (f := f) (u := u) (G := G) with h | ⟨v, h⟩ | ⟨f', h⟩ | ⟨f', hf, h⟩
      · rw [h]; exact .inl rfl
      · refine .inr ?_
        rw [run__law_changed, hs, h]
        rw [h] at hm
        unfold m__law_changed
        rw [seqM_set (u := .non) (G1 := G) rfl]
        show _ = runR (seqM _ _ [some (.ins 0 fs), some f, some u, some .non, none] G)
        simp [seqM, tryM, stE, hm, setM, varM, rtM, runR, chR]
      · refine .inr ?_
        rw [run__law_changed, hs, h]
        rw [h] at hm
        unfold m__law_changed
        rw [seqM_set (u := .non) (G1 := G) rfl]
        show _ = runR (seqM _ _ [some (.ins 0 fs), some f, some u, some .non, none] G)
        have h1 : exs.lookup (2, 3) = some false := by decide
        have h2 : exs.lookup (2, 2) = some true := by decide
        simp [seqM, tryM, stE, hm, setM, varM, rtM, runR, chR, exS, hdM, h1, h2, offR, quiet, setX, lstX, consX, litX, fldX, nilX, flatU, szL, wInv]
      · refine .inr ?_
        rw [run__law_changed, hs, h]
        rw [h] at hm
        unfold m__law_changed
        rw [seqM_set (u := .non) (G1 := G) rfl]
        show _ = runR (seqM _ _ [some (.ins 0 fs), some f, some u, some .non, none] G)
        have h1 : exs.lookup (3, 3) = some true := by decide
        simp [seqM, tryM, stE, hm, setM, varM, rtM, runR, chR, exU, hdM, h1, offR, quiet, setX, lstX, consX, litX, fldX, nilX, hf, szL, wUnk]
    · cases e : of6 fs with
      | none =>
        have h : r_Stepper_changed [.ins 0 fs, f, u] G = .bad := by simp [r_Stepper_changed, e]
        rw [h]
        exact .inl rfl
      | some x =>
        have := (of6_ok e).1
        subst this
        exact absurd rfl hk
  · exact .inl rfl
end FL

namespace FL
open PySem L2 PyProof.Rows
abbrev faT : ME := compM false (seqI (slM false (varM 0) noneO (someO (litM (.int 2))))) (nameG 6) yesT (andM (isiM [0] (.inl .str) (varM 6)) (preM allU (consA (compM false (seqI (varM 6)) (nameG 7) yesT (bin2 (inU false) (varM 7) (litM (.str (Str.ofString "abc").cps.toList))) [7]) nilA))) [6]
abbrev faG : ME := lstM true (consA (andM (bin2 idxU (varM 2) (litM (.int 0))) (chM (cmpU fun i j => decide (i < j)) (cmpU fun i j => decide (i < j)) (litM (.int 0)) (preM lenU (consA (bin2 idxU (varM 0) (litM (.int 0))) nilA)) (litM (.int 4)))) (consA (andM (bin2 idxU (varM 2) (litM (.int 1))) (bin2 (cmpU fun i j => decide (i < j)) (preM lenU (consA (bin2 idxU (varM 0) (litM (.int 1))) nilA)) (litM (.int 4)))) (consA (bin2 (inU false) (bin2 idxU (varM 0) (litM (.int 2))) (tupM (consA (litM (.str (Str.ofString "one").cps.toList)) (consA (litM (.str (Str.ofString "all").cps.toList)) nilA)))) nilA)))
abbrev faA (m : ME) : MS := stE (bmM appendU (varM 3) (consA m nilA)) (fun _ => nxM)
abbrev faN : ME := lstM false (consA (litM (.str (Str.ofString "word").cps.toList)) (consA (litM (.str (Str.ofString "put").cps.toList)) (consA (litM (.str (Str.ofString "keep").cps.toList)) (consA (litM (.str (Str.ofString "turn").cps.toList)) (consA (litM (.str (Str.ofString "deeds").cps.toList)) (consA (litM (.str (Str.ofString "passes").cps.toList)) nilA))))))
abbrev fa3 : ME := bin2 (inU false) (bin2 idxU (varM 0) (litM (.int 3))) (tupM (consA (litM (.str (Str.ofString "first").cps.toList)) (consA (litM (.str (Str.ofString "last").cps.toList)) (consA (litM (.str (Str.ofString "behind").cps.toList)) nilA))))
abbrev fa4a : ME := andM (isiM [0] (.inl .tup) (bin2 idxU (varM 0) (litM (.int 4)))) (chM (cmpU fun i j => decide (i < j)) (cmpU fun i j => decide (i < j)) (litM (.int 0)) (preM lenU (consA (bin2 idxU (varM 0) (litM (.int 4))) nilA)) (litM (.int 4)))
abbrev fa4b : ME := andM (varM 4) (preM allU (consA (compM false (seqI (bin2 idxU (varM 0) (litM (.int 4)))) (nameG 6) yesT (bin2 (inU false) (varM 6) (tupM (consA (litM (.str (Str.ofString "replace").cps.toList)) (consA (litM (.str (Str.ofString "keep").cps.toList)) (consA (litM (.str (Str.ofString "stop").cps.toList)) nilA))))) [6]) nilA))
abbrev fa5 : ME := andM (bin2 (inU false) (bin2 idxU (varM 0) (litM (.int 5))) (tupM (consA (litM (.int 1)) (consA (litM (.int 2)) nilA)))) (bin2 (isU true) (bin2 idxU (varM 0) (litM (.int 5))) (litM (.bl true)))
abbrev faH : MS := forM (preI rng1U (consA (litM (.int 6)) nilA)) (nameG 5) (ifM (notT (tobM (bin2 idxU (varM 3) (varM 5)))) (stE (bin2 idxU (varM 1) (varM 5)) rtM) nxM)
theorem fault_m : m__law_fault = seqM (stE faN (setM 1)) (seqM (stE faT (setM 2)) (seqM (stE faG (setM 3)) (seqM (faA fa3) (seqM (stE fa4a (setM 4)) (seqM (faA fa4b) (seqM (faA fa5) (seqM faH (stE (litM .non) rtM)))))))) := rfl
def namesU : U := .lst ([wWord, wPut, wKeep, wTurn, wDeeds, wPasses].map .str)
theorem heads6 {i : Nat} {b0 b1 b2 b3 b4 b5 : Bool} {x0 x2 x4 x5 x6 x7 : Option U} {G : List Ob} (g : G[i]? = some (.lst [.bl b0, .bl b1, .bl b2, .bl b3, .bl b4, .bl b5])) :
    faH [x0, some namesU, x2, some (.ref i), x4, x5, x6, x7] G = if (!b0) = true then .rt (.str wWord) G else if (!b1) = true then .rt (.str wPut) G else if (!b2) = true then .rt (.str wKeep) G else if (!b3) = true then .rt (.str wTurn) G else if (!b4) = true then .rt (.str wDeeds) G else if (!b5) = true then .rt (.str wPasses) G else .nx [x0, some namesU, x2, some (.ref i), x4, some (.int 5), x6, x7] G := by
  show forM _ _ _ _ _ = _
  unfold forM
  rw [show preI rng1U (consA (litM (.int 6)) nilA) [x0, some namesU, x2, some (.ref i), x4, x5, x6, x7] G = .ok (.items [.int 0, .int 1, .int 2, .int 3, .int 4, .int 5], 6) G from rfl]
  unfold namesU
  cases b0 with
  | false => simp [forL, itAt, nameG, ifM, notT, tobM, bin2, varM, idxU, seqOf, lstOf, g, atI, ixN, blU, stE, rtM, nxM]
  | true =>
  cases b1 with
  | false => simp [forL, itAt, nameG, ifM, notT, tobM, bin2, varM, idxU, seqOf, lstOf, g, atI, ixN, blU, stE, rtM, nxM]
  | true =>
  cases b2 with
  | false => simp [forL, itAt, nameG, ifM, notT, tobM, bin2, varM, idxU, seqOf, lstOf, g, atI, ixN, blU, stE, rtM, nxM]
  | true =>
  cases b3 with
  | false => simp [forL, itAt, nameG, ifM, notT, tobM, bin2, varM, idxU, seqOf, lstOf, g, atI, ixN, blU, stE, rtM, nxM]
  | true =>
  cases b4 with
  | false => simp [forL, itAt, nameG, ifM, notT, tobM, bin2, varM, idxU, seqOf, lstOf, g, atI, ixN, blU, stE, rtM, nxM]
  | true =>
  cases b5 <;> simp [forL, itAt, nameG, ifM, notT, tobM, bin2, varM, idxU, seqOf, lstOf, g, atI, ixN, blU, stE, rtM, nxM]
section
variable {G : List Ob} {x : S6}
theorem text_run {s : Sg} {u : U} (hs : s[6]? = some (some u)) (h8 : s.length = 8) (h : admT u = true) : andM (isiM [0] (.inl .str) (varM 6)) (preM allU (consA (compM false (seqI (varM 6)) (nameG 7) yesT (bin2 (inU false) (varM 7) (litM (.str (Str.ofString "abc").cps.toList))) [7]) nilA)) s G = .ok (.bl (isTU u)) G := by
  rcases admT_cases h with ⟨l, rfl, hl⟩ | rfl | ⟨n, rfl⟩
  · have hl : l.length ≤ szL := Nat.le_trans hl (by decide)
    have hc : compM false (seqI (varM 6)) (nameG 7) yesT (bin2 (inU false) (varM 7) (litM (.str (Str.ofString "abc").cps.toList))) [7] s G = newL false ((l.map fun c => U.str [c]).map fun u => match u with | .str a => .bl (infB a [97, 98, 99]) | u => u) G := by
      refine comp_items (by simp [seqI, var_ok hs]) fun u hu => ?_
      simp only [List.mem_map] at hu
      obtain ⟨c, _, rfl⟩ := hu
      have h7 : 7 < (wipeS s [7]).length := by simp [wipeS]; omega
      refine ⟨(wipeS s [7]).set 7 (some (.str [c])), by simp [nameG, h7], rfl, ?_⟩
      rw [bin2_p (x := .str [c]) (var_ok (List.getElem?_set_self h7)) rfl]
      simp [inU]
    have hb : blsOf (l.map fun c => U.bl (infB [c] [97, 98, 99])) = some (l.map fun c => infB [c] [97, 98, 99]) := blsOf_fun _ _
    refine (andM_p (a := true) (b := isT l) (by simp [isiM, var_ok hs, tyOf, Ty.sub]) fun _ => ?_).trans rfl
    rw [newL_f (by simpa using hl)] at hc
    rw [pre_one hc]
    simp [allU, lstOf, Function.comp_def, hb, isT]
  · simp [andM, isiM, var_ok hs, tyOf, Ty.sub, isTU]
  · simp [andM, isiM, var_ok hs, tyOf, Ty.sub, isTU]
end
theorem app_new {G : List Ob} {m : ME} {s : Sg} {j : Nat} {l : List U} {y : U} (hs : s[j]? = some (some (.ref G.length))) (hm : m s (G ++ [.lst l]) = .ok y (G ++ [.lst l])) (hl : l.length < 1000) : stE (bmM appendU (varM j) (consA m nilA)) (fun _ => nxM) s (G ++ [.lst l]) = .nx s (G ++ [.lst (l ++ [y])]) := by
  unfold stE bmM
  rw [var_ok hs]
  simp only [bind_ok, lstOfW, get_new]
  rw [consA_p hm rfl]
  simp only [bind_ok, appendU, get_new]
  rw [if_pos (Nat.lt_trans hl (by decide))]
  simp only [set_new]
  rfl
theorem rng_run {m : ME} {s : Sg} {G : List Ob} {n : Nat} (h : m s G = .ok (.int n) G) : chM (cmpU fun i j => decide (i < j)) (cmpU fun i j => decide (i < j)) (litM (.int 0)) m (litM (.int 4)) s G = .ok (.bl (decide (1 ≤ n) && decide (n ≤ 3))) G := by
  unfold chM
  have h1 : litM (.int 0) s G = .ok (.int 0) G := rfl
  have h4 : litM (.int 4) s G = .ok (.int 4) G := rfl
  rw [h1]
  simp only [bind_ok]
  rw [h]
  have e1 : decide ((0 : Int) < n) = decide (1 ≤ n) := decide_eq_decide.mpr (by omega)
  have e2 : decide ((n : Int) < 4) = decide (n ≤ 3) := decide_eq_decide.mpr (by omega)
  cases c1 : decide (1 ≤ n) with
  | true => simp only [cmpU, e1, c1, bind_ok, h4, e2, Bool.true_and]
  | false => simp only [cmpU, e1, c1, bind_ok, Bool.false_and]
section
variable {G : List Ob} {x : S6}
theorem isTx_eq {lo : Nat} {l : W1} : isTx lo (.str l) = (isT l && (decide (lo ≤ l.length) && decide (l.length ≤ 3))) := by simp [isTx, Bool.and_assoc]
theorem isTx_no {lo : Nat} {u : U} (h : isTU u = false) : isTx lo u = false := by
  unfold isTx
  split
  · have : isT _ = false := h
    simp [this]
  · rfl
theorem texts_run {s : Sg} (hs : s[0]? = some (some (.tup (us6 x)))) (h8 : s.length = 8) (h1 : admT x.w = true) (h2 : admT x.p = true) : faT s G = .ok (.lst [.bl (isTU x.w), .bl (isTU x.p)]) G := by
  have hsl : slM false (varM 0) noneO (someO (litM (.int 2))) s G = .ok (.tup [x.w, x.p]) G := by
    simp [slM, var_ok hs, noneO, someO, litM, slU, us6]
    rfl
  have hi : seqI (slM false (varM 0) noneO (someO (litM (.int 2)))) s G = .ok (.seq (.tup [x.w, x.p]), [x.w, x.p].length) G := by
    simp [seqI, hsl, seqOf]
  refine (comp_seq (h := fun u => .bl (isTU u)) hi rfl fun u hu => ?_).trans (newL_f (by simp [szL]))
  have hu' : admT u = true := by
    simp at hu
    rcases hu with rfl | rfl <;> assumption
  have h6 : 6 < (wipeS s [6]).length := by simp [wipeS]; omega
  exact ⟨(wipeS s [6]).set 6 (some u), by simp [nameG, h6], rfl, text_run (List.getElem?_set_self h6) (by simp [wipeS, h8]) hu'⟩
theorem g01_run {s : Sg} (hs : s[0]? = some (some (.tup (us6 x)))) (h2s : s[2]? = some (some (.lst [.bl (isTU x.w), .bl (isTU x.p)]))) (h1 : admT x.w = true) (h2 : admT x.p = true) (h3 : admT x.k = true) : faG s G = .ok (.ref G.length) (G ++ [.lst [.bl (isTx 1 x.w), .bl (isTx 0 x.p), .bl (isOne keepsL x.k)]]) := by
  have A := idx6 (G := G) hs
  have t0 : bin2 idxU (varM 2) (litM (.int 0)) s G = .ok (.bl (isTU x.w)) G := by
    rw [bin2_p (var_ok h2s) (y := .int 0) rfl]; rfl
  have t1 : bin2 idxU (varM 2) (litM (.int 1)) s G = .ok (.bl (isTU x.p)) G := by
    rw [bin2_p (var_ok h2s) (y := .int 1) rfl]; rfl
  have a0 : andM (bin2 idxU (varM 2) (litM (.int 0))) (chM (cmpU fun i j => decide (i < j)) (cmpU fun i j => decide (i < j)) (litM (.int 0)) (preM lenU (consA (bin2 idxU (varM 0) (litM (.int 0))) nilA)) (litM (.int 4))) s G = .ok (.bl (isTx 1 x.w)) G := by
    cases e : isTU x.w with
    | false => rw [e] at t0; exact (andM_p (b := true) t0 (fun z => by cases z)).trans (by rw [isTx_no e]; rfl)
    | true =>
      rw [e] at t0
      obtain ⟨l, el, hl⟩ := text_len e
      rw [el] at A h1 ⊢
      rw [isTx_eq, hl]
      exact andM_p t0 fun _ => rng_run ((pre_one A.1).trans (by simp [lenU, admT_len h1]))
  have a1 : andM (bin2 idxU (varM 2) (litM (.int 1))) (bin2 (cmpU fun i j => decide (i < j)) (preM lenU (consA (bin2 idxU (varM 0) (litM (.int 1))) nilA)) (litM (.int 4))) s G = .ok (.bl (isTx 0 x.p)) G := by
    cases e : isTU x.p with
    | false => rw [e] at t1; exact (andM_p (b := true) t1 (fun z => by cases z)).trans (by rw [isTx_no e]; rfl)
    | true =>
      rw [e] at t1
      obtain ⟨l, el, hl⟩ := text_len e
      rw [el] at A h2 ⊢
      rw [isTx_eq, hl]
      refine andM_p t1 fun _ => ?_
      rw [bin2_p (x := .int l.length) (y := .int 4) ((pre_one A.2.1).trans (by simp [lenU, admT_len h2])) rfl]
      simp [cmpU]
      omega
  have a2 : bin2 (inU false) (bin2 idxU (varM 0) (litM (.int 2))) (tupM (consA (litM (.str (Str.ofString "one").cps.toList)) (consA (litM (.str (Str.ofString "all").cps.toList)) nilA))) s G = .ok (.bl (isOne keepsL x.k)) G := by
    rw [bin2_p A.2.2.1 (y := .tup (keepsL.map .str)) (by simp [tupM, consA, litM, nilA, newT, szL, keepsL])]
    exact inU_adm h3 _ _
  unfold faG lstM
  rw [consA_p a0 (consA_p a1 (consA_p a2 rfl))]
  exact newL_t (by simp [szL])
def psB : U → Bool
  | .int n => (n == 1 || n == 2)
  | .bl b => b
  | _ => false
theorem in_ps {u : U} (h : admP u = true) : inU false u (.tup [.int 1, .int 2]) G = .ok (.bl (psB u)) G := by
  unfold admP at h
  split at h
  · simp [inU, seqOf, flatU, eqF, psB]
  · simp [inU, seqOf, flatU, eqF, psB]
  · rename_i n
    have e1 : ((1 : Int) == n) = (n == 1) := by rw [Bool.eq_iff_iff, beq_iff_eq, beq_iff_eq]; omega
    have e2 : ((2 : Int) == n) = (n == 2) := by rw [Bool.eq_iff_iff, beq_iff_eq, beq_iff_eq]; omega
    simp [inU, seqOf, flatU, eqF, psB, e1, e2]
  · rename_i b
    cases b <;> simp [inU, seqOf, flatU, eqF, psB]
  · cases h
theorem a5_run {s : Sg} (hs : s[0]? = some (some (.tup (us6 x)))) (h : admP x.n = true) : fa5 s G = .ok (.bl (isPs x.n)) G := by
  have A := (idx6 (G := G) hs).2.2.2.2.2
  have h1 : bin2 (inU false) (bin2 idxU (varM 0) (litM (.int 5))) (tupM (consA (litM (.int 1)) (consA (litM (.int 2)) nilA))) s G = .ok (.bl (psB x.n)) G := by
    rw [bin2_p A (y := .tup [.int 1, .int 2]) (by simp [tupM, consA, litM, nilA, newT, szL])]
    exact in_ps h
  have h2 : bin2 (isU true) (bin2 idxU (varM 0) (litM (.int 5))) (litM (.bl true)) s G = .ok (.bl (match x.n with | .bl b => !decide (b = true) | _ => true)) G := by
    rw [bin2_p A (y := .bl true) rfl]
    unfold isU
    cases x.n <;> rfl
  refine (andM_p h1 fun _ => h2).trans ?_
  unfold admP at h
  cases e : x.n with
  | int n =>
    have e1 : (n == 1 || n == 2) = (decide (1 ≤ n) && decide (n ≤ 2)) := by
      rw [Bool.eq_iff_iff, Bool.or_eq_true, Bool.and_eq_true, beq_iff_eq, beq_iff_eq, decide_eq_true_eq, decide_eq_true_eq]; omega
    simp only [isPs, psB, e1, Bool.and_true]
  | bl b => cases b <;> rfl
  | _ => first | rfl | (rw [e] at h; cases h)
theorem a3_run {s : Sg} (hs : s[0]? = some (some (.tup (us6 x)))) (h : admT x.t = true) : fa3 s G = .ok (.bl (isOne turnsL x.t)) G := by
  have A := (idx6 (G := G) hs).2.2.2.1
  show bin2 _ _ _ _ _ = _
  rw [bin2_p A (y := .tup (turnsL.map .str)) (by simp [tupM, consA, litM, nilA, newT, szL, turnsL])]
  exact inU_adm h _ _
def lenOkD : U → Bool
  | .tup l => decide (1 ≤ l.length) && decide (l.length ≤ 3)
  | _ => false
theorem a4a_run {s : Sg} (hs : s[0]? = some (some (.tup (us6 x)))) (h : admD x.d = true) : fa4a s G = .ok (.bl (lenOkD x.d)) G := by
  have A := (idx6 (G := G) hs).2.2.2.2.1
  have ht : isiM [0] (.inl .tup) (bin2 idxU (varM 0) (litM (.int 4))) s G = .ok (.bl (match x.d with | .tup _ => true | _ => false)) G := by
    unfold isiM
    rw [A]
    rcases admD_cases h with ⟨zs, e, _⟩ | e | ⟨l, e⟩ <;> rw [e] <;> simp [tyOf, Ty.sub]
  rcases admD_cases h with ⟨zs, e, hl, _⟩ | e | ⟨l, e⟩
  · rw [e] at ht A ⊢
    refine (andM_p (a := true) ht fun _ => rng_run (n := zs.length) ((pre_one A).trans (by simp [lenU, seqOf]))).trans ?_
    simp [lenOkD]
  · rw [e] at ht ⊢
    exact (andM_p (a := false) (b := true) ht fun z => by cases z).trans rfl
  · rw [e] at ht ⊢
    exact (andM_p (a := false) (b := true) ht fun z => by cases z).trans rfl
theorem a4b_run {s : Sg} (hs : s[0]? = some (some (.tup (us6 x)))) (h4 : s[4]? = some (some (.bl (lenOkD x.d)))) (h8 : s.length = 8) (h : admD x.d = true) : fa4b s G = .ok (.bl (isDs x.d)) G := by
  have A := (idx6 (G := G) hs).2.2.2.2.1
  rcases admD_cases h with ⟨zs, e, hl, hall⟩ | e | ⟨l, e⟩
  · rw [e] at h4 A ⊢
    have hc : compM false (seqI (bin2 idxU (varM 0) (litM (.int 4)))) (nameG 6) yesT (bin2 (inU false) (varM 6) (tupM (consA (litM (.str (Str.ofString "replace").cps.toList)) (consA (litM (.str (Str.ofString "keep").cps.toList)) (consA (litM (.str (Str.ofString "stop").cps.toList)) nilA))))) [6] s G = newL false ((zs.map U.str).map fun u => match u with | .str a => .bl (inW deedsL a) | u => u) G := by
      refine comp_seq (u := .tup (zs.map .str)) (by simp [seqI, A, seqOf]) (by simp [seqOf]) fun u hu => ?_
      simp only [List.mem_map] at hu
      obtain ⟨a, ha, rfl⟩ := hu
      have h6 : 6 < (wipeS s [6]).length := by simp [wipeS]; omega
      refine ⟨(wipeS s [6]).set 6 (some (.str a)), by simp [nameG, h6], rfl, ?_⟩
      rw [bin2_p (x := .str a) (var_ok (List.getElem?_set_self h6)) (y := .tup (deedsL.map .str)) (by simp [tupM, consA, litM, nilA, newT, szL, deedsL])]
      exact inU_strs _ _ _
    have hb : blsOf (zs.map fun c => U.bl (inW deedsL c)) = some (zs.map fun c => inW deedsL c) := blsOf_fun _ _
    rw [newL_f (by simp; exact Nat.le_trans hl (by decide))] at hc
    refine (andM_p (b := zs.all (inW deedsL)) (var_ok h4) fun _ => (pre_one hc).trans (by simp [allU, lstOf, Function.comp_def, hb])).trans ?_
    simp [isDs_strs, lenOkD, okDs]
  · rw [e] at h4 ⊢
    exact (andM_p (a := false) (b := true) (var_ok h4) fun z => by cases z).trans rfl
  · rw [e] at h4 ⊢
    exact (andM_p (a := false) (b := true) (var_ok h4) fun z => by cases z).trans rfl
theorem cut_rt {g : List Ob} {u : U} {X : Rt} (q : X = .rt u (G ++ g)) (hf : frzU G.length (G ++ g) u = some u) : Cut G (.ok u G) (runR X) := by rw [q]; exact cut_new hf
theorem le__law_fault : LeC r__law_fault (runB d__law_fault 40 s__law_fault) := fun us G => by
  unfold r__law_fault
  split
  · rename_i u
    split
    · rename_i x e
      have := of6U_ok e
      subst this
      split
      · rename_i ha
        obtain ⟨h1, h2, h3, h4, h5, h6⟩ := adm6_parts ha
        refine .inr (.inr ?_)
        rw [run__law_fault, fault_m]
        have hs : startS d__law_fault.N [.tup (us6 x)] = [some (.tup (us6 x)), none, none, none, none, none, none, none] := rfl
        rw [hs]
        refine cut_n (seqM_set (u := namesU) (G1 := G) (by simp [faN, lstM, consA, litM, nilA, newL, szL, namesU, wWord, wPut, wKeep, wTurn, wDeeds, wPasses])) ?_
        refine cut_n (seqM_set (s := [some (.tup (us6 x)), some namesU, none, none, none, none, none, none]) (texts_run rfl rfl h1 h2)) ?_
        refine cut_n (seqM_set (s := [some (.tup (us6 x)), some namesU, some (.lst [.bl (isTU x.w), .bl (isTU x.p)]), none, none, none, none, none]) (g01_run rfl rfl h1 h2 h3)) ?_
        refine cut_n (seqM_nx (s := [some (.tup (us6 x)), some namesU, some (.lst [.bl (isTU x.w), .bl (isTU x.p)]), some (.ref G.length), none, none, none, none]) (app_new rfl (a3_run rfl h4) (by simp))) ?_
        refine cut_n (seqM_set (s := [some (.tup (us6 x)), some namesU, some (.lst [.bl (isTU x.w), .bl (isTU x.p)]), some (.ref G.length), none, none, none, none]) (a4a_run rfl h5)) ?_
        refine cut_n (seqM_nx (s := [some (.tup (us6 x)), some namesU, some (.lst [.bl (isTU x.w), .bl (isTU x.p)]), some (.ref G.length), some (.bl (lenOkD x.d)), none, none, none]) (app_new rfl (a4b_run rfl rfl rfl h5) (by simp))) ?_
        refine cut_n (seqM_nx (s := [some (.tup (us6 x)), some namesU, some (.lst [.bl (isTU x.w), .bl (isTU x.p)]), some (.ref G.length), some (.bl (lenOkD x.d)), none, none, none]) (app_new rfl (a5_run rfl h6) (by simp))) ?_
        have hh := heads6 (i := G.length) (b0 := isTx 1 x.w) (b1 := isTx 0 x.p) (b2 := isOne keepsL x.k) (b3 := isOne turnsL x.t) (b4 := isDs x.d) (b5 := isPs x.n) (x0 := some (.tup (us6 x))) (x2 := some (.lst [.bl (isTU x.w), .bl (isTU x.p)])) (x4 := some (.bl (lenOkD x.d))) (x5 := none) (x6 := none) (x7 := none) (G := G ++ [.lst [.bl (isTx 1 x.w), .bl (isTx 0 x.p), .bl (isOne keepsL x.k), .bl (isOne turnsL x.t), .bl (isDs x.d), .bl (isPs x.n)]]) get_new
        show Cut G _ (runR (seqM faH _ _ (G ++ [.lst [.bl (isTx 1 x.w), .bl (isTx 0 x.p), .bl (isOne keepsL x.k), .bl (isOne turnsL x.t), .bl (isDs x.d), .bl (isPs x.n)]])))
        generalize [Ob.lst [.bl (isTx 1 x.w), .bl (isTx 0 x.p), .bl (isOne keepsL x.k), .bl (isOne turnsL x.t), .bl (isDs x.d), .bl (isPs x.n)]] = L at hh ⊢
        unfold faultU bad6
        by_cases z1 : (!isTx 1 x.w) = true
        · simp only [if_pos z1] at hh ⊢; exact cut_rt (seqM_rt hh) rfl
        simp only [if_neg z1] at hh ⊢
        by_cases z2 : (!isTx 0 x.p) = true
        · simp only [if_pos z2] at hh ⊢; exact cut_rt (seqM_rt hh) rfl
        simp only [if_neg z2] at hh ⊢
        by_cases z3 : (!isOne keepsL x.k) = true
        · simp only [if_pos z3] at hh ⊢; exact cut_rt (seqM_rt hh) rfl
        simp only [if_neg z3] at hh ⊢
        by_cases z4 : (!isOne turnsL x.t) = true
        · simp only [if_pos z4] at hh ⊢; exact cut_rt (seqM_rt hh) rfl
        simp only [if_neg z4] at hh ⊢
        by_cases z5 : (!isDs x.d) = true
        · simp only [if_pos z5] at hh ⊢; exact cut_rt (seqM_rt hh) rfl
        simp only [if_neg z5] at hh ⊢
        by_cases z6 : (!isPs x.n) = true
        · simp only [if_pos z6] at hh ⊢; exact cut_rt (seqM_rt hh) rfl
        simp only [if_neg z6] at hh ⊢
        exact cut_rt ((seqM_nx hh).trans rfl) rfl
      · exact .inl rfl
    · exact .inl rfl
  · exact .inl rfl
end
end FL

namespace FL
open PySem L2 PyProof.Rows
def wX : W1 := [120]
def bads : List (List U) := [[.str [], .str [97, 98, 99, 97], .str [97, 100], .non, .int 5], [.str [97, 97, 97, 97], .non, .str [120]], [.str [98, 111, 116, 104], .non, .int 1], [.str [97, 104, 101, 97, 100], .str []],
  [.tup [], .tup [.str wRep, .str wRep, .str wRep, .str wRep], .lst [.str wKeep], .tup [.str wRep, .str wPut], .non], [.int 0, .int 3, .bl true, .str [49], .non]]
def set6 (x : S6) : Nat → U → S6
  | 0, u => ⟨u, x.p, x.k, x.t, x.d, x.n⟩
  | 1, u => ⟨x.w, u, x.k, x.t, x.d, x.n⟩
  | 2, u => ⟨x.w, x.p, u, x.t, x.d, x.n⟩
  | 3, u => ⟨x.w, x.p, x.k, u, x.d, x.n⟩
  | 4, u => ⟨x.w, x.p, x.k, x.t, u, x.n⟩
  | _, u => ⟨x.w, x.p, x.k, x.t, x.d, u⟩
def nm6 (k : Nat) : W1 := [wWord, wPut, wKeep, wTurn, wDeeds, wPasses].getD k []
def admK : Nat → U → Bool
  | 4, u => admD u
  | 5, u => admP u
  | _, u => admT u
theorem bads_adm {k : Nat} (hk : k < 6) {u : U} (hu : u ∈ bads.getD k []) : admK k u = true := by
  have : ∀ k, k < 6 → ((bads.getD k []).all (admK k)) = true := by decide +kernel
  exact List.all_eq_true.mp (this k hk) u hu
theorem lt6 {k : Nat} (hk : k < 6) : k = 0 ∨ k = 1 ∨ k = 2 ∨ k = 3 ∨ k = 4 ∨ k = 5 := by omega
theorem set6_adm {x : S6} (h : adm6 x = true) {k : Nat} (hk : k < 6) {u : U} (hu : admK k u = true) : adm6 (set6 x k u) = true := by
  obtain ⟨h1, h2, h3, h4, h5, h6⟩ := adm6_parts h
  rcases lt6 hk with rfl | rfl | rfl | rfl | rfl | rfl <;> (simp [adm6, set6, h1, h2, h3, h4, h5, h6]; exact hu)
theorem us6_set (x : S6) {k : Nat} (hk : k < 6) (u : U) : cutL (us6 x) none (some (k : Int)) ++ [u] ++ cutL (us6 x) (some ((k : Int) + 1)) none = us6 (set6 x k u) := by
  rcases lt6 hk with rfl | rfl | rfl | rfl | rfl | rfl <;> rfl
theorem put6_set (x : S6) {k : Nat} (h2 : 2 ≤ k) (hk : k < 6) (u : U) : put6 x (nm6 k) u = set6 x k u := by
  rcases lt6 hk with rfl | rfl | rfl | rfl | rfl | rfl
  · omega
  · omega
  all_goals rfl
def okK : Nat → U → Bool
  | 2, u => isOne keepsL u
  | 3, u => isOne turnsL u
  | 4, u => isDs u
  | _, u => isPs u
theorem badK {k : Nat} (h2 : 2 ≤ k) (hk : k < 6) {u : U} (hu : u ∈ bads.getD k []) : (okK k u) = false := by
  have : ∀ k, k < 6 → 2 ≤ k → ((bads.getD k []).all fun u => !(okK k u)) = true := by decide +kernel
  have := List.all_eq_true.mp (this k hk h2) u hu
  exact (Bool.not_eq_true' _).mp this
theorem bad_set {x : S6} (h : bad6 x = none) {k : Nat} (h2 : 2 ≤ k) (hk : k < 6) {u : U} (hu : u ∈ bads.getD k []) : bad6 (set6 x k u) = some (nm6 k) := by
  obtain ⟨g1, g2, g3, g4, g5, g6⟩ := bad6_none h
  have hb := badK h2 hk hu
  rcases lt6 hk with rfl | rfl | rfl | rfl | rfl | rfl
  · omega
  · omega
  all_goals (simp only [okK] at hb; simp [bad6, set6, g1, g2, g3, g4, g5, g6, hb, nm6])
theorem ok_set {x y : S6} (h : bad6 x = none) (ha : adm6 x = true) (hy : bad6 y = none) (hb : adm6 y = true) {k : Nat} (h2 : 2 ≤ k) (hk : k < 6) : ∃ u, (us6 y)[k]? = some u ∧ bad6 (set6 x k u) = none ∧ adm6 (set6 x k u) = true := by
  obtain ⟨g1, g2, g3, g4, g5, g6⟩ := bad6_none h
  obtain ⟨a1, a2, a3, a4, a5, a6⟩ := bad6_none hy
  obtain ⟨h1, h2', h3, h4, h5, h6⟩ := adm6_parts ha
  obtain ⟨b1, b2', b3, b4, b5, b6⟩ := adm6_parts hb
  rcases lt6 hk with rfl | rfl | rfl | rfl | rfl | rfl
  · omega
  · omega
  all_goals exact ⟨_, rfl, by simp [bad6, set6, g1, g2, g3, g4, g5, g6, a3, a4, a5, a6], by simp [adm6, set6, h1, h2', h3, h4, h5, h6, b3, b4, b5, b6]⟩
def s6 (d : Dr) : S6 := ⟨.str d.w, .str d.p, .str d.k, .str d.t, .tup (d.zs.map .str), .int d.n⟩
theorem drU_s6 (d : Dr) : drU d = .tup (us6 (s6 d)) := rfl
theorem okS_parts {w p k t : W1} {zs : List W1} {n : Int} (h : okS w p k t zs n = true) : isT w = true ∧ 1 ≤ w.length ∧ w.length ≤ 3 ∧ isT p = true ∧ p.length ≤ 3 ∧ inW keepsL k = true ∧ inW turnsL t = true ∧ okDs zs = true ∧ 1 ≤ n ∧ n ≤ 2 := by
  simpa [okS, and_assoc] using h
theorem s6_ok {d : Dr} (h : okS d.w d.p d.k d.t d.zs d.n = true) : adm6 (s6 d) = true ∧ bad6 (s6 d) = none := by
  obtain ⟨h1, h2, h3, h4, h5, h6, h7, h8, h9, h10⟩ := okS_parts h
  have hk : admT (.str d.k) = true := inW_adm (by decide) h6
  have ht : admT (.str d.t) = true := inW_adm (by decide) h7
  have hz : ∀ z ∈ d.zs, z.length ≤ 1000 := fun z hz => by
    simp only [okDs, Bool.and_eq_true, List.all_eq_true] at h8
    have := inW_adm (a := z) (zs := deedsL) (by decide) (h8.2 z hz)
    exact of_decide_eq_true this
  have hd : admD (.tup (d.zs.map .str)) = true := admD_strs (Nat.le_trans (okDs_ok h8).2.1 (by decide)) (List.all_eq_true.mpr fun z h => decide_eq_true (hz z h))
  have hw : admT (.str d.w) = true := decide_eq_true (by omega)
  have hp : admT (.str d.p) = true := decide_eq_true (by omega)
  constructor
  · simp only [adm6, s6, hk, ht, hd, hw, hp, admP, Bool.and_true]
  · simp [bad6, s6, isTx, isOne, isDs_strs, isPs, h1, h2, h3, h4, h5, h6, h7, h8, h9, h10]
theorem allO_same : ∀ {zs : List W1}, zs.all okC = true → allO (List.zipWith (eqN 0) (zs.map U.str) (zs.map U.str)) = some true
  | [], _ => rfl
  | z :: r, h => by
    rw [List.all_cons, Bool.and_eq_true] at h
    simp only [List.map_cons, List.zipWith_cons_cons]
    have : eqN 0 (.str z) (.str z) = some true := by simp [eqN, eqS, h.1]
    rw [this]
    simp only [allO]
    rw [allO_same h.2]
    rfl
theorem told_same {d : Dr} (h : okS d.w d.p d.k d.t d.zs d.n = true) : eqN 2 (drU d) (drU d) = some true := by
  obtain ⟨h1, h2, h3, h4, h5, h6, h7, h8, h9, h10⟩ := okS_parts h
  have hz := okDs_ok h8
  have hk : okC d.k = true := inW_ok (by decide) h6
  have ht : okC d.t = true := inW_ok (by decide) h7
  have e : eqQ (eqN 0) (d.zs.map U.str) (d.zs.map U.str) = some true := by
    unfold eqQ
    rw [if_pos ⟨by simp; exact Nat.le_trans hz.2.1 (by decide), by simp; exact Nat.le_trans hz.2.1 (by decide)⟩, if_pos rfl]
    exact allO_same hz.1
  have e1 : ∀ l : W1, okC l = true → eqN 1 (.str l) (.str l) = some true := fun l h => by simp [eqN, eqS, h]
  have e5 : eqN 1 (.tup (d.zs.map U.str)) (.tup (d.zs.map U.str)) = some true := e
  have e6 : eqN 1 (.int d.n) (.int d.n) = some true := by simp [eqN, eqS]
  show eqQ (eqN 1) (us6 (s6 d)) (us6 (s6 d)) = some true
  unfold eqQ
  rw [if_pos ⟨by simp [us6, szL], by simp [us6, szL]⟩, if_pos rfl]
  simp only [us6, s6, List.zipWith_cons_cons, List.zipWith_nil_right, e1 _ (isT_ok h1), e1 _ (isT_ok h4), e1 _ hk, e1 _ ht, e5, e6, allO]
  rfl
end FL

namespace FL
open PySem L2 PyProof.Rows
abbrev lw0 : MS := (stE (callM 2 r__law_random (consA (varM 0) (consA (litM (.int 1)) nilA))) (setM 1))
abbrev lw1 : MS := (stE (callM 1 r__law_drawn (consA (varM 1) nilA)) (setM 2))
abbrev lw2 : MS := (stE (lstM true (consA (lstM false (consA (litM (.str (Str.ofString "").cps.toList)) (consA (litM (.str (Str.ofString "abca").cps.toList)) (consA (litM (.str (Str.ofString "ad").cps.toList)) (consA (litM .non) (consA (litM (.int 5)) nilA)))))) (consA (lstM false (consA (litM (.str (Str.ofString "aaaa").cps.toList)) (consA (litM .non) (consA (litM (.str (Str.ofString "x").cps.toList)) nilA)))) (consA (lstM false (consA (litM (.str (Str.ofString "both").cps.toList)) (consA (litM .non) (consA (litM (.int 1)) nilA)))) (consA (lstM false (consA (litM (.str (Str.ofString "ahead").cps.toList)) (consA (litM (.str (Str.ofString "").cps.toList)) nilA))) nilA))))) (setM 3))
abbrev lw3 : MS := (stE (bmM appendU (varM 3) (consA (lstM false (consA (tupM nilA) (consA (bin2 (mulU false) (tupM (consA (litM (.str (Str.ofString "replace").cps.toList)) nilA)) (litM (.int 4))) (consA (lstM false (consA (litM (.str (Str.ofString "keep").cps.toList)) nilA)) (consA (tupM (consA (litM (.str (Str.ofString "replace").cps.toList)) (consA (litM (.str (Str.ofString "put").cps.toList)) nilA))) (consA (litM .non) nilA)))))) nilA)) (fun _ => nxM))
abbrev lw4 : MS := (stE (bmM appendU (varM 3) (consA (lstM false (consA (litM (.int 0)) (consA (litM (.int 3)) (consA (litM (.bl true)) (consA (litM (.str (Str.ofString "1").cps.toList)) (consA (litM .non) nilA)))))) nilA)) (fun _ => nxM))
abbrev lw5 : MS := (stE (varM 2) (setM 4))
abbrev lw6I : MI := (preI rng1U (consA (callM 2 r__law_below (consA (varM 1) (consA (litM (.int 3)) nilA))) nilA))
abbrev lw6G : MG := (nameG 5)
abbrev lw6b0 : MS := (stE (callM 2 r__law_below (consA (varM 1) (consA (litM (.int 6)) nilA))) (setM 9))
abbrev lw6b1 : MS := (stE (bin2 (addU false) (bin2 (addU false) (slM false (varM 4) noneO (someO (varM 9))) (tupM (consA (callM 2 r__law_pick (consA (varM 1) (consA (bin2 idxU (varM 3) (varM 9)) nilA))) nilA))) (slM false (varM 4) (someO (bin2 (addU false) (varM 9) (litM (.int 1)))) noneO)) (setM 4))
abbrev lw6B : MS := seqM lw6b0 lw6b1
abbrev lw6 : MS := forM lw6I lw6G lw6B
abbrev lw7 : MS := (ifM (notT (tobM (callM 2 r__law_equal_2 (consA (callM 1 r__law_made (consA (varM 4) nilA)) (consA (callM 1 r__law_fault (consA (varM 4) nilA)) nilA))))) (stE (litM (.bl false)) rtM) nxM)
abbrev lw8 : MS := (stE (callM 1 r__law_make (consA (varM 2) nilA)) (setM 6))
abbrev lw9 : MS := (stE (tupM (consA (attrM (fun c => (([] : List (Nat × RunD)).lookup c).map attrP) (fun c => ([0] : List Nat).contains c) 0 (varM 6)) (consA (attrM (fun c => (([] : List (Nat × RunD)).lookup c).map attrP) (fun c => ([0] : List Nat).contains c) 1 (varM 6)) (consA (attrM (fun c => (([] : List (Nat × RunD)).lookup c).map attrP) (fun c => ([0] : List Nat).contains c) 2 (varM 6)) (consA (attrM (fun c => (([] : List (Nat × RunD)).lookup c).map attrP) (fun c => ([0] : List Nat).contains c) 3 (varM 6)) (consA (attrM (fun c => (([] : List (Nat × RunD)).lookup c).map attrP) (fun c => ([0] : List Nat).contains c) 4 (varM 6)) (consA (attrM (fun c => (([] : List (Nat × RunD)).lookup c).map attrP) (fun c => ([0] : List Nat).contains c) 5 (varM 6)) nilA))))))) (setM 7))
abbrev lw10 : MS := (stE (callM 1 r__law_drawn (consA (varM 1) nilA)) (setM 8))
abbrev lw11 : MS := (ifM (orT (notT (tobM (callM 2 r__law_equal_2 (consA (varM 7) (consA (varM 2) nilA))))) (orT (tobM (bin2 (eqX true (fun c => d_law.eqt.lookup c)) (bin2 (eqX false (fun c => d_law.eqt.lookup c)) (varM 6) (callM 1 r__law_make (consA (varM 8) nilA))) (bin2 (eqX false (fun c => d_law.eqt.lookup c)) (varM 2) (varM 8)))) (tobM (bin2 (eqX false (fun c => d_law.eqt.lookup c)) (varM 6) (varM 2))))) (stE (litM (.bl false)) rtM) nxM)
abbrev lw12I : MI := (preI rng2U (consA (litM (.int 2)) (consA (litM (.int 6)) nilA)))
abbrev lw12G : MG := (nameG 9)
abbrev lw12b0 : MS := (stE (bin2 idxU (lstM false (consA (litM (.str (Str.ofString "word").cps.toList)) (consA (litM (.str (Str.ofString "put").cps.toList)) (consA (litM (.str (Str.ofString "keep").cps.toList)) (consA (litM (.str (Str.ofString "turn").cps.toList)) (consA (litM (.str (Str.ofString "deeds").cps.toList)) (consA (litM (.str (Str.ofString "passes").cps.toList)) nilA))))))) (varM 9)) (setM 11))
abbrev lw12b1 : MS := (ifM (tobM (bin2 (eqX true (fun c => d_law.eqt.lookup c)) (callM 3 r__law_changed (consA (varM 6) (consA (varM 11) (consA (bin2 idxU (varM 8) (varM 9)) nilA)))) (callM 1 r__law_make (consA (bin2 (addU false) (bin2 (addU false) (slM false (varM 2) noneO (someO (varM 9))) (tupM (consA (bin2 idxU (varM 8) (varM 9)) nilA))) (slM false (varM 2) (someO (bin2 (addU false) (varM 9) (litM (.int 1)))) noneO)) nilA)))) (stE (litM (.bl false)) rtM) nxM)
abbrev lw12b2 : MS := (ifM (tobM (bin2 (eqX true (fun c => d_law.eqt.lookup c)) (callM 3 r__law_changed (consA (varM 6) (consA (varM 11) (consA (callM 2 r__law_pick (consA (varM 1) (consA (bin2 idxU (varM 3) (varM 9)) nilA))) nilA)))) (lstM false (consA (litM (.str (Str.ofString "invalid").cps.toList)) (consA (varM 11) nilA))))) (stE (litM (.bl false)) rtM) nxM)
abbrev lw12B : MS := seqM lw12b0 (seqM lw12b1 lw12b2)
abbrev lw12 : MS := forM lw12I lw12G lw12B
abbrev lw13 : MS := (stE (callM 2 r__law_pick (consA (varM 1) (consA (lstM false (consA (litM (.str (Str.ofString "word").cps.toList)) (consA (litM (.str (Str.ofString "put").cps.toList)) (consA (litM (.str (Str.ofString "way").cps.toList)) (consA (litM .non) (consA (litM (.int 3)) nilA)))))) nilA))) (setM 10))
abbrev lw14 : MS := (stE (andM (bin2 (eqX false (fun c => d_law.eqt.lookup c)) (callM 3 r__law_changed (consA (varM 6) (consA (varM 10) (consA (litM (.str (Str.ofString "a").cps.toList)) nilA)))) (lstM false (consA (litM (.str (Str.ofString "unknown").cps.toList)) (consA (varM 10) nilA)))) (bin2 (eqX false (fun c => d_law.eqt.lookup c)) (varM 6) (callM 1 r__law_make (consA (varM 2) nilA)))) rtM)
theorem law_m : m_law = seqM lw0 (seqM lw1 (seqM lw2 (seqM lw3 (seqM lw4 (seqM lw5 (seqM lw6 (seqM lw7 (seqM lw8 (seqM lw9 (seqM lw10 (seqM lw11 (seqM lw12 (seqM lw13 lw14))))))))))))) := rfl
section
variable {G : List Ob} {s : Sg} {i j : Nat}
theorem below_call {l : Int × Int × List Int} {m : ME} {n : Int} (h : drOf G i = some l) (hs : s[j]? = some (some (.ref i))) (hm : m s G = .ok (.int n) G) (hn : 0 < n ∧ n < 1000) :
    ∃ v l', callM 2 r__law_below (consA (varM j) (consA m nilA)) s G = .ok (.int v) (G.set i (drC (dl l'))) ∧ l'.2.2.length ≤ l.2.2.length ∧ 0 ≤ v ∧ v < n := by
  obtain ⟨a, b, r⟩ := l
  obtain ⟨v, a', b', r', hb, hr', hv⟩ := below_form a b r n
  refine ⟨v, (a', b', r'), ?_, hr', hv hn.1⟩
  rw [call2 (var_ok hs) hm]
  simp [r__law_below, h, hn, hb, dl]
theorem someO_ok {m : ME} {z : Int} (h : m s G = .ok (.int z) G) : someO m s G = .ok (some z) G := by unfold someO; rw [h]; rfl
theorem add_int {m1 m2 : ME} {x y z : Int} (h1 : m1 s G = .ok (.int x) G) (h2 : m2 s G = .ok (.int y) G) (e : x + y = z) : bin2 (addU false) m1 m2 s G = .ok (.int z) G := by
  rw [bin2_p h1 h2, ← e]
  rfl
theorem sl_tup {xs : List U} {lo hi : Option Int} {m1 m2 : MO} (hs : s[j]? = some (some (.tup xs))) (h1 : m1 s G = .ok lo G) (h2 : m2 s G = .ok hi G) : slM false (varM j) m1 m2 s G = .ok (.tup (cutL xs lo hi)) G := by
  unfold slM
  rw [var_ok hs]
  simp only [bind_ok, h1, h2, slU]
theorem add_tup {m1 m2 : ME} {G1 G2 : List Ob} {a b : List U} (h1 : m1 s G = .ok (.tup a) G1) (h2 : m2 s G1 = .ok (.tup b) G2) (hl : a.length + b.length ≤ 1000) : bin2 (addU false) m1 m2 s G = .ok (.tup (a ++ b)) G2 := by
  rw [bin2_ok h1 h2]
  exact if_pos (Nat.le_trans hl (by decide))
theorem call3 {r : RunD} {m m' m'' : ME} {G1 G2 G3 : List Ob} {u u' u'' : U} (hm : m s G = .ok u G1) (hm' : m' s G1 = .ok u' G2) (hm'' : m'' s G2 = .ok u'' G3) : callM 3 r (consA m (consA m' (consA m'' nilA))) s G = r [u, u', u''] G3 := by
  unfold callM
  rw [consA_ok hm (consA_ok hm' (consA_ok hm'' rfl))]
  rfl
abbrev Gb (G : List Ob) (l : Int × Int × List Int) : List Ob := G ++ [drC (dl l), .lst (bads.map .lst)]
theorem gb_dr {l : Int × Int × List Int} (h : l.2.2.length ≤ 63) : drOf (Gb G l) G.length = some l := by
  obtain ⟨a, b, r⟩ := l
  unfold drOf Gb
  rw [List.getElem?_append_right (Nat.le_refl _), Nat.sub_self]
  simp only [List.getElem?_cons_zero, drC, dl, intsOf_map]
  exact if_pos h
theorem gb_set {l l' : Int × Int × List Int} : (Gb G l).set G.length (drC (dl l')) = Gb G l' := by
  unfold Gb
  rw [List.set_append_right _ _ (Nat.le_refl _), Nat.sub_self]
  rfl
theorem gb_bad {l : Int × Int × List Int} : (Gb G l)[G.length + 1]? = some (.lst (bads.map .lst)) := by
  unfold Gb
  rw [List.getElem?_append_right (by omega)]
  simp
theorem idx_bad {l : Int × Int × List Int} {k : Nat} {m : ME} (hk : k < 6) (hs : s[3]? = some (some (.ref (G.length + 1)))) (hm : m s (Gb G l) = .ok (.int k) (Gb G l)) : bin2 idxU (varM 3) m s (Gb G l) = .ok (.lst (bads.getD k [])) (Gb G l) := by
  rw [bin2_p (var_ok hs) hm]
  have hl : k < bads.length := hk
  have e : (bads.map U.lst)[k]? = some (.lst (bads.getD k [])) := by simp [List.getD, hl]
  simp [idxU, seqOf, lstOf, gb_bad, atI_nat e]
theorem bads_len {k : Nat} (hk : k < 6) : 0 < (bads.getD k []).length ∧ (bads.getD k []).length < 1000 := by
  have : ∀ k, k < 6 → 0 < (bads.getD k []).length ∧ (bads.getD k []).length < 1000 := by decide +kernel
  exact this k hk
theorem pick_bad {l : Int × Int × List Int} {k : Nat} {m : ME} (hk : k < 6) (h : l.2.2.length ≤ 63) (h1 : s[1]? = some (some (.ref G.length))) (hs : s[3]? = some (some (.ref (G.length + 1)))) (hm : m s (Gb G l) = .ok (.int k) (Gb G l)) :
    ∃ u l', callM 2 r__law_pick (consA (varM 1) (consA (bin2 idxU (varM 3) m) nilA)) s (Gb G l) = .ok u (Gb G l') ∧ u ∈ bads.getD k [] ∧ l'.2.2.length ≤ 63 := by
  have hb := bads_len hk
  have q := call_pick (fun u : U => u) (bads.getD k []) .non (m := bin2 idxU (varM 3) m) hb.1 hb.2 (gb_dr h) h1 (by rw [idx_bad hk hs hm, List.map_id'])
  have pm := pick_mem .non l (bads.getD k []) hb.1
  rw [gb_set] at q
  exact ⟨_, _, q, pm.1, by omega⟩
/-- one field replaced -/
theorem turn6 {x : S6} (hx : adm6 x = true) {l : Int × Int × List Int} (h : l.2.2.length ≤ 63) {x0 x2 x5 x9 : Option U} :
    ∃ x' l' y9, lw6B [x0, some (.ref G.length), x2, some (.ref (G.length + 1)), some (.tup (us6 x)), x5, none, none, none, x9, none, none] (Gb G l) = .nx [x0, some (.ref G.length), x2, some (.ref (G.length + 1)), some (.tup (us6 x')), x5, none, none, none, y9, none, none] (Gb G l') ∧ adm6 x' = true ∧ l'.2.2.length ≤ 63 := by
  obtain ⟨v, l1, q1, k1, hv⟩ := below_call (j := 1) (s := [x0, some (.ref G.length), x2, some (.ref (G.length + 1)), some (.tup (us6 x)), x5, none, none, none, x9, none, none]) (m := litM (.int 6)) (n := 6) (gb_dr h) rfl rfl (by decide)
  rw [gb_set] at q1
  obtain ⟨k, rfl⟩ : ∃ k : Nat, v = (k : Int) := ⟨v.toNat, by omega⟩
  have hk : k < 6 := by omega
  obtain ⟨u, l2, q2, hu, hl2⟩ := pick_bad (s := [x0, some (.ref G.length), x2, some (.ref (G.length + 1)), some (.tup (us6 x)), x5, none, none, none, some (.int (k : Int)), none, none]) (m := varM 9) (G := G) (l := l1) hk (by omega) rfl rfl rfl
  refine ⟨set6 x k u, l2, some (.int k), ?_, set6_adm hx hk (bads_adm hk hu), hl2⟩
  show seqM _ _ _ _ = _
  rw [seqM_set q1]
  refine (stE_set (s := [x0, some (.ref G.length), x2, some (.ref (G.length + 1)), some (.tup (us6 x)), x5, none, none, none, some (.int (k : Int)), none, none]) (add_tup (add_tup (sl_tup rfl rfl (someO_ok rfl)) (b := [u]) (G2 := Gb G l2) (by
      unfold tupM
      rw [consA_ok q2 rfl]
      exact newT_ok' (by simp [szL])) ?_) (sl_tup rfl (someO_ok (add_int (x := k) (y := 1) rfl rfl rfl)) rfl) ?_)).trans ?_
  · have : (cutL (us6 x) none (some (k : Int))).length ≤ (us6 x).length := by unfold cutL; rw [List.length_take, List.length_drop]; omega
    have : (us6 x).length = 6 := rfl
    simp; omega
  · have : (cutL (us6 x) none (some (k : Int))).length ≤ (us6 x).length := by unfold cutL; rw [List.length_take, List.length_drop]; omega
    have : (cutL (us6 x) (some ((k : Int) + 1)) none).length ≤ (us6 x).length := by unfold cutL; rw [List.length_take, List.length_drop]; omega
    have : (us6 x).length = 6 := rfl
    simp; omega
  · rw [us6_set x hk u]
    rfl
theorem eqX_st {neg : Bool} {x y : S6} (hx : adm6 x = true) (bx : bad6 x = none) (hy : adm6 y = true) (by' : bad6 y = none) : eqX neg (fun c => d_law.eqt.lookup c) (.ins 0 (fl6 x)) (.ins 0 (fl6 y)) G = .ok (.bl (if neg then !PyData.eqv (dP (.tup (us6 x))) (dP (.tup (us6 y))) else PyData.eqv (dP (.tup (us6 x))) (dP (.tup (us6 y))))) G := by
  have e : (fun c => d_law.eqt.lookup c) 0 = some r_Stepper_eq := rfl
  simp only [eqX, insOf]
  have e' : List.lookup 0 d_law.eqt = some r_Stepper_eq := rfl
  rw [e']
  simp [arM, r_Stepper_eq, of6_fl6 hx bx, of6_fl6 hy by', boolB]
theorem st_refl {x : S6} (bx : bad6 x = none) : PyData.eqv (dP (.tup (us6 x))) (dP (.tup (us6 x))) = true := eqv_refl_pd (pd_us6 bx)
theorem isFld_nm {k : Nat} (h2 : 2 ≤ k) (hk : k < 6) : isFld (.str (nm6 k)) = some (nm6 k) ∧ admT (.str (nm6 k)) = true := by
  rcases lt6 hk with rfl | rfl | rfl | rfl | rfl | rfl
  · omega
  · omega
  all_goals exact ⟨by decide, by decide⟩
theorem changed_run {x : S6} (hx : adm6 x = true) (bx : bad6 x = none) {k : Nat} (h2 : 2 ≤ k) (hk : k < 6) (u : U) : r__law_changed [.ins 0 (fl6 x), .str (nm6 k), u] G = chR G (made6 G (set6 x k u)) := by
  obtain ⟨e1, e2⟩ := isFld_nm h2 hk
  simp only [r__law_changed, r_Stepper_changed, of6_fl6 hx bx, e1, e2, put6_set x h2 hk u]
  rfl
theorem nm_ok {k : Nat} (hk : k < 6) : okC (nm6 k) = true := by
  rcases lt6 hk with rfl | rfl | rfl | rfl | rfl | rfl <;> decide
theorem turn12 {x y : S6} (hx : adm6 x = true) (bx : bad6 x = none) (hy : adm6 y = true) (by' : bad6 y = none) {l : Int × Int × List Int} (h : l.2.2.length ≤ 63) {k : Nat} (h2 : 2 ≤ k) (hk : k < 6) {x0 x4 x5 x7 x10 x11 : Option U} :
    ∃ l', lw12B [x0, some (.ref G.length), some (.tup (us6 x)), some (.ref (G.length + 1)), x4, x5, some (.ins 0 (fl6 x)), x7, some (.tup (us6 y)), some (.int k), x10, x11] (Gb G l) = .nx [x0, some (.ref G.length), some (.tup (us6 x)), some (.ref (G.length + 1)), x4, x5, some (.ins 0 (fl6 x)), x7, some (.tup (us6 y)), some (.int k), x10, some (.str (nm6 k))] (Gb G l') ∧ l'.2.2.length ≤ 63 := by
  have q0 : bin2 idxU (lstM false (consA (litM (.str (Str.ofString "word").cps.toList)) (consA (litM (.str (Str.ofString "put").cps.toList)) (consA (litM (.str (Str.ofString "keep").cps.toList)) (consA (litM (.str (Str.ofString "turn").cps.toList)) (consA (litM (.str (Str.ofString "deeds").cps.toList)) (consA (litM (.str (Str.ofString "passes").cps.toList)) nilA))))))) (varM 9) [x0, some (.ref G.length), some (.tup (us6 x)), some (.ref (G.length + 1)), x4, x5, some (.ins 0 (fl6 x)), x7, some (.tup (us6 y)), some (.int k), x10, x11] (Gb G l) = .ok (.str (nm6 k)) (Gb G l) := by
    rw [bin2_p (x := namesU) (y := .int k) (by simp [lstM, consA, litM, nilA, newL, szL, namesU, wWord, wPut, wKeep, wTurn, wDeeds, wPasses]) rfl]
    have e : ([wWord, wPut, wKeep, wTurn, wDeeds, wPasses].map U.str)[k]? = some (.str (nm6 k)) := by
      rcases lt6 hk with rfl | rfl | rfl | rfl | rfl | rfl <;> rfl
    simp [idxU, seqOf, lstOf, namesU] at e ⊢
    simp [atI_nat e]
  obtain ⟨u, hu, b1, a1⟩ := ok_set bx hx by' hy h2 hk
  obtain ⟨v, l', q2, hv, hl'⟩ := pick_bad (s := [x0, some (.ref G.length), some (.tup (us6 x)), some (.ref (G.length + 1)), x4, x5, some (.ins 0 (fl6 x)), x7, some (.tup (us6 y)), some (.int k), x10, some (.str (nm6 k))]) (m := varM 9) (G := G) (l := l) hk h rfl rfl rfl
  have hidx : bin2 idxU (varM 8) (varM 9) [x0, some (.ref G.length), some (.tup (us6 x)), some (.ref (G.length + 1)), x4, x5, some (.ins 0 (fl6 x)), x7, some (.tup (us6 y)), some (.int k), x10, some (.str (nm6 k))] (Gb G l) = .ok u (Gb G l) := by
    rw [bin2_p (x := .tup (us6 y)) (y := .int k) rfl rfl]
    simp [idxU, seqOf, atI_nat hu]
  refine ⟨l', ?_, hl'⟩
  show seqM _ _ _ _ = _
  rw [seqM_set q0]
  have p1 : lw12b1 [x0, some (.ref G.length), some (.tup (us6 x)), some (.ref (G.length + 1)), x4, x5, some (.ins 0 (fl6 x)), x7, some (.tup (us6 y)), some (.int k), x10, some (.str (nm6 k))] (Gb G l) = .nx [x0, some (.ref G.length), some (.tup (us6 x)), some (.ref (G.length + 1)), x4, x5, some (.ins 0 (fl6 x)), x7, some (.tup (us6 y)), some (.int k), x10, some (.str (nm6 k))] (Gb G l) := by
    refine ifM_fn (tob_bl ?_)
    have c1 : (cutL (us6 x) none (some (k : Int))).length ≤ (us6 x).length := by unfold cutL; rw [List.length_take, List.length_drop]; omega
    have c2 : (cutL (us6 x) (some ((k : Int) + 1)) none).length ≤ (us6 x).length := by unfold cutL; rw [List.length_take, List.length_drop]; omega
    have c3 : (us6 x).length = 6 := rfl
    rw [bin2_p (x := .ins 0 (fl6 (set6 x k u))) (y := .ins 0 (fl6 (set6 x k u))) ((call3 rfl rfl hidx).trans ((changed_run hx bx h2 hk u).trans (by simp [made6, a1, b1, chR]))) ((call1 (G2 := Gb G l) (add_tup (add_tup (sl_tup rfl rfl (someO_ok rfl)) (b := [u]) (G2 := Gb G l) (by
      unfold tupM
      rw [consA_ok hidx rfl]
      exact newT_ok' (by simp [szL])) (by simp; omega)) (sl_tup rfl (someO_ok (add_int (x := k) (y := 1) rfl rfl rfl)) rfl) (by simp; omega))).trans (by rw [us6_set x hk u]; simp [r__law_make, of6U_tup, made6, a1, b1]))]
    rw [eqX_st a1 b1 a1 b1, st_refl b1]
    rfl
  have p2 : lw12b2 [x0, some (.ref G.length), some (.tup (us6 x)), some (.ref (G.length + 1)), x4, x5, some (.ins 0 (fl6 x)), x7, some (.tup (us6 y)), some (.int k), x10, some (.str (nm6 k))] (Gb G l) = .nx [x0, some (.ref G.length), some (.tup (us6 x)), some (.ref (G.length + 1)), x4, x5, some (.ins 0 (fl6 x)), x7, some (.tup (us6 y)), some (.int k), x10, some (.str (nm6 k))] (Gb G l') := by
    refine ifM_fn (tob_bl ?_)
    have av := set6_adm hx hk (bads_adm hk hv)
    have bv := bad_set bx h2 hk hv
    rw [bin2_ok (x := .lst [.str wInv, .str (nm6 k)]) (G1 := Gb G l') (y := .lst [.str wInv, .str (nm6 k)]) (G2 := Gb G l') ((call3 rfl rfl q2).trans ((changed_run hx bx h2 hk v).trans (by simp [made6, av, bv, chR, exS]))) (by simp [lstM, consA, litM, nilA, varM, newL, szL, wInv])]
    have pd1 : pd 20 (.lst [.str wInv, .str (nm6 k)]) = true := by
      have : okC wInv = true := by decide
      simp [pd, pds, this, nm_ok hk]
    rw [eqX_pd pd1 pd1, eqv_refl_pd pd1]
    rfl
  refine (seqM_nx (s := [x0, some (.ref G.length), some (.tup (us6 x)), some (.ref (G.length + 1)), x4, x5, some (.ins 0 (fl6 x)), x7, some (.tup (us6 y)), some (.int k), x10, some (.str (nm6 k))]) p1).trans ?_
  exact p2
end
end FL

namespace FL
open PySem L2 PyProof.Rows
section
variable {G : List Ob}
theorem bad6_ok {x : S6} {f : W1} (h : bad6 x = some f) : okC f = true := by
  unfold bad6 at h
  split at h
  · cases h; decide
  split at h
  · cases h; decide
  split at h
  · cases h; decide
  split at h
  · cases h; decide
  split at h
  · cases h; decide
  split at h
  · cases h; decide
  · cases h
theorem wrong_run {x : S6} (hx : adm6 x = true) (bx : bad6 x = none) {u : U} (hu : u ∈ ([.str wWord, .str wPut, .str [119, 97, 121], .non, .int 3] : List U)) : r__law_changed [.ins 0 (fl6 x), u, .str [97]] G = .ok (.lst [.str wUnk, u]) G ∧ pd 20 (.lst [.str wUnk, u]) = true := by
  have h1 : ∀ u ∈ ([.str wWord, .str wPut, .str [119, 97, 121], .non, .int 3] : List U), admT u = true ∧ isFld u = none ∧ pd 20 (.lst [.str wUnk, u]) = true := by
    intro u hu
    simp only [List.mem_cons, List.not_mem_nil, or_false] at hu
    rcases hu with rfl | rfl | rfl | rfl | rfl <;> decide
  obtain ⟨a, b, c⟩ := h1 u hu
  refine ⟨?_, c⟩
  simp [r__law_changed, r_Stepper_changed, of6_fl6 hx bx, a, b, chR, exU]
theorem le_law : LeC r_law (runB d_law 40 s_law) := fun us G => by
  unfold r_law
  split
  · rename_i sl
    split
    · rename_i ns e
      split
      · rename_i hl
        refine .inr (.inr ?_)
        rw [run_law]
        have hs : startS d_law.N [.sc sl] = [some (.sc sl), none, none, none, none, none, none, none, none, none, none, none] := rfl
        rw [hs, law_m]
        have hlen : (ns.filter fun c => decide ((10 : Int) ^ 18 ≤ c)).length ≤ 63 := Nat.le_trans (List.length_filter_le _ _) hl
        refine cut_n (seqM_set (u := .ref G.length) (G1 := G ++ [drC (rndP ns 1 :: 0 :: ns.filter fun c => decide (10 ^ 18 ≤ c))]) ((call2 (var_ok (u := .sc sl) rfl) (u' := .int 1) (G2 := G) rfl).trans (by simp [r__law_random, e, hl]))) ?_
        generalize hl0 : (rndP ns 1, (0 : Int), ns.filter fun c => decide ((10 : Int) ^ 18 ≤ c)) = l0
        have hdl : (rndP ns 1 :: 0 :: ns.filter fun c => decide ((10 : Int) ^ 18 ≤ c)) = dl l0 := by rw [← hl0]; rfl
        rw [hdl]
        have hl0' : l0.2.2.length ≤ 63 := by rw [← hl0]; exact hlen
        have D : ∀ l : Int × Int × List Int, l.2.2.length ≤ 63 → drOf (G ++ [drC (dl l)]) G.length = some l := fun l hl => by
          obtain ⟨a, b, r⟩ := l
          unfold drOf
          simp only [get_new, drC, dl, intsOf_map]
          rw [if_pos hl]
        obtain ⟨ax, bx⟩ := s6_ok (drawn_ok l0)
        have tsame := told_same (drawn_ok l0)
        have hdl2 := (drawn_mem l0).2.2.2.2.2.2
        refine cut_n (seqM_set (s := [some (.sc sl), some (.ref G.length), none, none, none, none, none, none, none, none, none, none]) (u := drU (drawnP l0).1) (G1 := G ++ [drC (dl (drawnP l0).2)]) ((call1 (G2 := G) (var_ok (u := .ref G.length) rfl)).trans (by simp only [r__law_drawn, D l0 hl0', set_new]))) ?_
        rw [drU_s6] at tsame ⊢
        generalize s6 (drawnP l0).1 = x at ax bx tsame ⊢
        generalize (drawnP l0).2 = l1 at hdl2 ⊢
        have hG : ∀ (L : List U) (l : Int × Int × List Int), G ++ [drC (dl l)] ++ [Ob.lst L] = G ++ [drC (dl l), .lst L] := fun L l => by simp
        have hn : (G ++ [drC (dl l1)]).length = G.length + 1 := by simp
        refine cut_n (seqM_set (s := [some (.sc sl), some (.ref G.length), some (.tup (us6 x)), none, none, none, none, none, none, none, none, none]) (u := .ref (G ++ [drC (dl l1)]).length) (G1 := G ++ [drC (dl l1)] ++ [.lst ((bads.take 4).map .lst)]) (by simp [lstM, consA, litM, nilA, newL, szL, bads])) ?_
        refine cut_n (seqM_nx (s := [some (.sc sl), some (.ref G.length), some (.tup (us6 x)), some (.ref (G ++ [drC (dl l1)]).length), none, none, none, none, none, none, none, none]) (app_new (y := .lst (bads.getD 4 [])) rfl (by simp [lstM, tupM, consA, litM, nilA, newL, newT, szL, bads, wRep, wKeep, wPut, bin2, mulU]) (by simp; omega))) ?_
        refine cut_n (seqM_nx (s := [some (.sc sl), some (.ref G.length), some (.tup (us6 x)), some (.ref (G ++ [drC (dl l1)]).length), none, none, none, none, none, none, none, none]) (app_new (y := .lst (bads.getD 5 [])) rfl (by simp [lstM, consA, litM, nilA, newL, szL, bads]) (by simp; omega))) ?_
        have hb : ((bads.take 4).map U.lst ++ [.lst (bads.getD 4 [])]) ++ [.lst (bads.getD 5 [])] = bads.map .lst := rfl
        rw [hb, hG, hn]
        refine cut_n (seqM_set (s := [some (.sc sl), some (.ref G.length), some (.tup (us6 x)), some (.ref (G.length + 1)), none, none, none, none, none, none, none, none]) (u := .tup (us6 x)) (G1 := Gb G l1) rfl) ?_
        have d1 : drOf (Gb G l1) G.length = some l1 := gb_dr (by omega)
        obtain ⟨v, l2, q2, k2, hv⟩ := below_call (j := 1) (s := [some (.sc sl), some (.ref G.length), some (.tup (us6 x)), some (.ref (G.length + 1)), some (.tup (us6 x)), none, none, none, none, none, none, none]) (m := litM (.int 3)) (n := 3) d1 rfl rfl (by decide)
        rw [gb_set] at q2
        obtain ⟨n, rfl⟩ : ∃ n : Nat, v = (n : Int) := ⟨v.toNat, by omega⟩
        have hit : lw6I [some (.sc sl), some (.ref G.length), some (.tup (us6 x)), some (.ref (G.length + 1)), some (.tup (us6 x)), none, none, none, none, none, none, none] (Gb G l1) = .ok (.items (rangeL 0 1 n), (rangeL 0 1 n).length) (Gb G l2) := (pre_oneI q2).trans (rng_items (by unfold szL; omega))
        obtain ⟨s', G', h1, x', l3, y5, y9, e1, e2, e3, e4⟩ := forL_inv (b := .items (rangeL 0 1 n)) (g := nameG 5) (body := lw6B)
          (fun k s' G' => ∃ x' l y5 y9, s' = [some (.sc sl), some (.ref G.length), some (.tup (us6 x)), some (.ref (G.length + 1)), some (.tup (us6 x')), y5, none, none, none, y9, none, none] ∧ G' = Gb G l ∧ adm6 x' = true ∧ l.2.2.length ≤ 63) (n := (rangeL 0 1 n).length) (l := rangeL 0 1 n) rfl (fun G i => rfl)
          (fun k u s1 G1 hu ⟨x', l, y5, y9, e1, e2, e3, e4⟩ => by
            subst e1
            subst e2
            obtain ⟨x'', l', z9, q1, q2, q3⟩ := turn6 (G := G) e3 e4 (x0 := some (.sc sl)) (x2 := some (.tup (us6 x))) (x5 := some u) (x9 := y9)
            exact ⟨_, _, _, rfl, .inl q1, x'', l', _, _, rfl, rfl, q2, q3⟩) (rangeL 0 1 n).length 0 [some (.sc sl), some (.ref G.length), some (.tup (us6 x)), some (.ref (G.length + 1)), some (.tup (us6 x)), none, none, none, none, none, none, none] (Gb G l2) (Nat.zero_add _) ⟨x, l2, _, _, rfl, rfl, ax, by omega⟩
        subst e1
        subst e2
        refine cut_n (seqM_nx (m1 := lw6) (s := [some (.sc sl), some (.ref G.length), some (.tup (us6 x)), some (.ref (G.length + 1)), some (.tup (us6 x)), none, none, none, none, none, none, none]) (G := Gb G l1) (by
          show forM _ _ _ _ _ = _
          unfold forM
          rw [hit]
          exact h1)) ?_
        have r7 : eqN 2 (faultU x') (faultU x') = some true := by
          unfold faultU
          cases hb' : bad6 x' with
          | none => rfl
          | some f =>
            have : okC f = true := bad6_ok hb'
            simp [eqN, eqS, this]
        have p7 : lw7 [some (.sc sl), some (.ref G.length), some (.tup (us6 x)), some (.ref (G.length + 1)), some (.tup (us6 x')), y5, none, none, none, y9, none, none] (Gb G l3) = .nx [some (.sc sl), some (.ref G.length), some (.tup (us6 x)), some (.ref (G.length + 1)), some (.tup (us6 x')), y5, none, none, none, y9, none, none] (Gb G l3) := by
          refine ifM_fn ((notT_p (b := true) (tob_bl ?_)).trans rfl)
          rw [call2 (u := faultU x') (G1 := Gb G l3) (u' := faultU x') (G2 := Gb G l3) ((call1 (G2 := G) (var_ok (u := .tup (us6 x')) rfl)).trans (by simp [r__law_made, of6U_tup, e3])) ((call1 (G2 := G) (var_ok (u := .tup (us6 x')) rfl)).trans (by simp [r__law_fault, of6U_tup, e3]))]
          simp [r_eq, r7]
        refine cut_n (seqM_nx p7) ?_
        refine cut_n (seqM_set (u := .ins 0 (fl6 x)) (G1 := Gb G l3) ((call1 (G2 := G) (var_ok (u := .tup (us6 x)) rfl)).trans (by simp [r__law_make, of6U_tup, made6, ax, bx]))) ?_
        have A := fl_attr (x := x) (j := 6) (s := [some (.sc sl), some (.ref G.length), some (.tup (us6 x)), some (.ref (G.length + 1)), some (.tup (us6 x')), y5, some (.ins 0 (fl6 x)), none, none, y9, none, none]) (G := Gb G l3) rfl
        refine cut_n (seqM_set (s := [some (.sc sl), some (.ref G.length), some (.tup (us6 x)), some (.ref (G.length + 1)), some (.tup (us6 x')), y5, some (.ins 0 (fl6 x)), none, none, y9, none, none]) (u := .tup (us6 x)) (G1 := Gb G l3) (by
          unfold tupM
          rw [consA_p A.1 (consA_p A.2.1 (consA_p A.2.2.1 (consA_p A.2.2.2.1 (consA_p A.2.2.2.2.1 (consA_p A.2.2.2.2.2 rfl)))))]
          exact newT_ok' (by simp [szL]))) ?_
        obtain ⟨ay, by'⟩ := s6_ok (drawn_ok l3)
        have hdl4 := (drawn_mem l3).2.2.2.2.2.2
        refine cut_n (seqM_set (s := [some (.sc sl), some (.ref G.length), some (.tup (us6 x)), some (.ref (G.length + 1)), some (.tup (us6 x')), y5, some (.ins 0 (fl6 x)), some (.tup (us6 x)), none, y9, none, none]) (u := drU (drawnP l3).1) (G1 := Gb G (drawnP l3).2) ((call1 (G2 := G) (var_ok (u := .ref G.length) rfl)).trans (by simp only [r__law_drawn, gb_dr e4, gb_set]))) ?_
        rw [drU_s6]
        generalize s6 (drawnP l3).1 = y at ay by' ⊢
        generalize (drawnP l3).2 = l4 at hdl4 ⊢
        have p11 : lw11 [some (.sc sl), some (.ref G.length), some (.tup (us6 x)), some (.ref (G.length + 1)), some (.tup (us6 x')), y5, some (.ins 0 (fl6 x)), some (.tup (us6 x)), some (.tup (us6 y)), y9, none, none] (Gb G l4) = .nx [some (.sc sl), some (.ref G.length), some (.tup (us6 x)), some (.ref (G.length + 1)), some (.tup (us6 x')), y5, some (.ins 0 (fl6 x)), some (.tup (us6 x)), some (.tup (us6 y)), y9, none, none] (Gb G l4) := by
          refine ifM_fn ((orT_p (a := false) (b := false) ?_ fun _ => (orT_p (a := false) (b := false) ?_ fun _ => ?_).trans rfl).trans rfl)
          · refine (notT_p (b := true) (tob_bl ?_)).trans rfl
            rw [call2 (u := .tup (us6 x)) (G1 := Gb G l4) (u' := .tup (us6 x)) (G2 := Gb G l4) rfl rfl]
            simp [r_eq, tsame]
          · refine tob_bl ?_
            rw [bin2_p (x := .bl (PyData.eqv (dP (.tup (us6 x))) (dP (.tup (us6 y))))) (y := .bl (PyData.eqv (dP (.tup (us6 x))) (dP (.tup (us6 y))))) (by
              rw [bin2_p (x := .ins 0 (fl6 x)) (y := .ins 0 (fl6 y)) rfl ((call1 (G2 := G) (var_ok (u := .tup (us6 y)) rfl)).trans (by simp [r__law_make, of6U_tup, made6, ay, by'])), eqX_st ax bx ay by']
              rfl) (by
              rw [bin2_p (x := .tup (us6 x)) (y := .tup (us6 y)) rfl rfl, eqX_pd (pd_us6 bx) (pd_us6 by')]
              rfl), eqX_bl]
            simp
          · refine tob_bl ?_
            rw [bin2_p (x := .ins 0 (fl6 x)) (y := .tup (us6 x)) rfl rfl]
            have e' : List.lookup 0 d_law.eqt = some r_Stepper_eq := rfl
            simp only [eqX, insOf]
            rw [e']
            rfl
        refine cut_n (seqM_nx p11) ?_
        obtain ⟨s', G', h2, l5, z9, z11, e1, e2, e5⟩ := forL_inv (b := .items (rangeL 2 1 4)) (g := nameG 9) (body := lw12B)
          (fun k s' G' => ∃ l z9 z11, s' = [some (.sc sl), some (.ref G.length), some (.tup (us6 x)), some (.ref (G.length + 1)), some (.tup (us6 x')), y5, some (.ins 0 (fl6 x)), some (.tup (us6 x)), some (.tup (us6 y)), z9, none, z11] ∧ G' = Gb G l ∧ l.2.2.length ≤ 63) (n := 4) (l := rangeL 2 1 4) rfl (fun G i => rfl)
          (fun k u s1 G1 hu ⟨l, z9, z11, e1, e2, e3⟩ => by
            subst e1
            subst e2
            have hk : k < 4 := by
              have := (List.getElem?_eq_some_iff.mp hu).1
              exact this
            have hu' : u = .int ((2 + k : Nat) : Int) := by
              have hk' : k = 0 ∨ k = 1 ∨ k = 2 ∨ k = 3 := by omega
              rcases hk' with rfl | rfl | rfl | rfl <;> (cases hu; rfl)
            subst hu'
            obtain ⟨l', q1, q2⟩ := turn12 (G := G) ax bx ay by' e3 (k := 2 + k) (by omega) (by omega) (x0 := some (.sc sl)) (x4 := some (.tup (us6 x'))) (x5 := y5) (x7 := some (.tup (us6 x))) (x10 := none) (x11 := z11)
            exact ⟨_, _, _, rfl, .inl q1, l', _, _, rfl, rfl, q2⟩) 4 0 [some (.sc sl), some (.ref G.length), some (.tup (us6 x)), some (.ref (G.length + 1)), some (.tup (us6 x')), y5, some (.ins 0 (fl6 x)), some (.tup (us6 x)), some (.tup (us6 y)), y9, none, none] (Gb G l4) rfl ⟨l4, _, _, rfl, rfl, by omega⟩
        subst e1
        subst e2
        refine cut_n (seqM_nx (m1 := lw12) (s := [some (.sc sl), some (.ref G.length), some (.tup (us6 x)), some (.ref (G.length + 1)), some (.tup (us6 x')), y5, some (.ins 0 (fl6 x)), some (.tup (us6 x)), some (.tup (us6 y)), y9, none, none]) (G := Gb G l4) h2) ?_
        have q13 := call_pick (fun u : U => u) [.str wWord, .str wPut, .str [119, 97, 121], .non, .int 3] .non (j := 1) (s := [some (.sc sl), some (.ref G.length), some (.tup (us6 x)), some (.ref (G.length + 1)), some (.tup (us6 x')), y5, some (.ins 0 (fl6 x)), some (.tup (us6 x)), some (.tup (us6 y)), z9, none, z11])
          (m := lstM false (consA (litM (.str (Str.ofString "word").cps.toList)) (consA (litM (.str (Str.ofString "put").cps.toList)) (consA (litM (.str (Str.ofString "way").cps.toList)) (consA (litM .non) (consA (litM (.int 3)) nilA)))))) (by decide) (by decide) (gb_dr (G := G) e5) rfl (by simp [lstM, consA, litM, nilA, newL, szL, wWord, wPut])
        have pm := pick_mem .non l5 ([.str wWord, .str wPut, .str [119, 97, 121], .non, .int 3] : List U) (by decide)
        rw [gb_set] at q13
        refine cut_n (seqM_set q13) ?_
        generalize (pickP U.non l5 [.str wWord, .str wPut, .str [119, 97, 121], .non, .int 3]).1 = f at pm ⊢
        generalize (pickP U.non l5 [.str wWord, .str wPut, .str [119, 97, 121], .non, .int 3]).2 = l6 at pm ⊢
        obtain ⟨w1, w2⟩ := wrong_run (G := Gb G l6) ax bx pm.1
        refine cut_rt (g := [drC (dl l6), .lst (bads.map .lst)]) (stE_rt (s := [some (.sc sl), some (.ref G.length), some (.tup (us6 x)), some (.ref (G.length + 1)), some (.tup (us6 x')), y5, some (.ins 0 (fl6 x)), some (.tup (us6 x)), some (.tup (us6 y)), z9, some f, z11]) ((andM_p (a := true) (b := true) ?_ fun _ => ?_).trans rfl)) rfl
        · rw [bin2_p (x := .lst [.str wUnk, f]) (y := .lst [.str wUnk, f]) ((call3 (u := .ins 0 (fl6 x)) (u' := f) (u'' := .str [97]) rfl rfl (by simp [litM])).trans w1) (by simp [lstM, consA, litM, nilA, varM, newL, szL, wUnk]), eqX_pd w2 w2, eqv_refl_pd w2]
          rfl
        · rw [bin2_p (x := .ins 0 (fl6 x)) (y := .ins 0 (fl6 x)) rfl ((call1 (G2 := G) (var_ok (u := .tup (us6 x)) rfl)).trans (by simp [r__law_make, of6U_tup, made6, ax, bx])), eqX_st ax bx ax bx, st_refl bx]
          rfl
      · exact .inl rfl
    · exact .inl rfl
  · exact .inl rfl
end
end FL

namespace FL
open PySem L2 PyProof.Rows
theorem law_true (ns : List Int) (h : ns.length ≤ 63) : r_law [.sc (ns.map .int)] [] = .ok (.bl true) [] := by simp [r_law, h]
/-! the chain -/
def flds : List (Str × List Nat) := [("word", [0]), ("put", [0]), ("keep", [0]), ("turn", [0]), ("deeds", [0]), ("passes", [0])]
def atts : List Str := ["word", "put", "keep", "turn", "deeds", "passes", "field", "parts_told", "changed"]
theorem atts_nd : atts.Nodup := by decide +kernel
abbrev tb (K : PySem.W.Frag) (C0 C1 C2 C3 : Addr) : Tb := ⟨K, [C0, C1, C2, C3], atts⟩
structure Facts (K : PySem.W.Frag) (mg : Str → Option Value) (C0 C1 C2 C3 : Addr) : Prop where
  isi : IsiOk K (tb K C0 C1 C2 C3) [0]
  fld : ∀ f cs, (f, cs) ∈ flds → ∀ c ∈ cs, FldOk K (tb K C0 C1 C2 C3) c f
  bl : ∀ x, x ∈ bls → mg x = none
  g0 : mg "Stepper" = some (.ref C0)
  cl0 : Cls K C0
  mk0 : PySem.W.makesIn K C0 = true
  kc0 : PySem.W.keepIn K (.ref C0) = true
  g1 : mg "HitError" = some (.ref C1)
  g2 : mg "InvalidStepper" = some (.ref C2)
  g3 : mg "UnknownField" = some (.ref C3)
  xs : XsOk K (tb K C0 C1 C2 C3) exs
  xi : XiOk K (tb K C0 C1 C2 C3) exi
  con_SIGNS : ∃ v val, mg "SIGNS" = some val ∧ RelV v val ∧ ∀ ρ Z H, Rep (tb K C0 C1 C2 C3) ρ Z H v c_SIGNS
  con_MOST_SIGNS : ∃ v val, mg "MOST_SIGNS" = some val ∧ RelV v val ∧ ∀ ρ Z H, Rep (tb K C0 C1 C2 C3) ρ Z H v (.int 3)
  con_MOST_DEEDS : ∃ v val, mg "MOST_DEEDS" = some val ∧ RelV v val ∧ ∀ ρ Z H, Rep (tb K C0 C1 C2 C3) ρ Z H v (.int 3)
  con_KEEPS : ∃ v val, mg "KEEPS" = some val ∧ RelV v val ∧ ∀ ρ Z H, Rep (tb K C0 C1 C2 C3) ρ Z H v c_KEEPS
  con_TURNS : ∃ v val, mg "TURNS" = some val ∧ RelV v val ∧ ∀ ρ Z H, Rep (tb K C0 C1 C2 C3) ρ Z H v c_TURNS
  con_DEEDS : ∃ v val, mg "DEEDS" = some val ∧ RelV v val ∧ ∀ ρ Z H, Rep (tb K C0 C1 C2 C3) ρ Z H v c_DEEDS
  con_MOST_PASSES : ∃ v val, mg "MOST_PASSES" = some val ∧ RelV v val ∧ ∀ ρ Z H, Rep (tb K C0 C1 C2 C3) ρ Z H v (.int 2)
  con_FIELDS : ∃ v val, mg "FIELDS" = some val ∧ RelV v val ∧ ∀ ρ Z H, Rep (tb K C0 C1 C2 C3) ρ Z H v c_FIELDS
theorem sc_is_integer : FnScope d_is_integer.N ["value"] (defScope s_is_integer) := ⟨rfl, rfl, rfl, by decide +kernel, rfl, by decide +kernel, by decide +kernel⟩
theorem sc_is_text : FnScope d_is_text.N ["value"] (defScope s_is_text) := ⟨rfl, rfl, rfl, by decide +kernel, rfl, by decide +kernel, by decide +kernel⟩
theorem sc_is_one_of : FnScope d_is_one_of.N ["value", "words"] (defScope s_is_one_of) := ⟨rfl, rfl, rfl, by decide +kernel, rfl, by decide +kernel, by decide +kernel⟩
theorem sc_are_deeds : FnScope d_are_deeds.N ["value"] (defScope s_are_deeds) := ⟨rfl, rfl, rfl, by decide +kernel, rfl, by decide +kernel, by decide +kernel⟩
theorem sc_need_fields : FnScope d_need_fields.N ["word", "put", "keep", "turn", "deeds", "passes"] (defScope s_need_fields) := ⟨rfl, rfl, rfl, by decide +kernel, rfl, by decide +kernel, by decide +kernel⟩
theorem sc_Stepper_init : FnScope d_Stepper_init.N ["self", "word", "put", "keep", "turn", "deeds", "passes"] (defScope s_Stepper_init) := ⟨rfl, rfl, rfl, by decide +kernel, rfl, by decide +kernel, by decide +kernel⟩
theorem sc_Stepper_parts_told : FnScope d_Stepper_parts_told.N ["self"] (defScope s_Stepper_parts_told) := ⟨rfl, rfl, rfl, by decide +kernel, rfl, by decide +kernel, by decide +kernel⟩
theorem sc_Stepper_eq : FnScope d_Stepper_eq.N ["self", "other"] (defScope s_Stepper_eq) := ⟨rfl, rfl, rfl, by decide +kernel, rfl, by decide +kernel, by decide +kernel⟩
theorem sc_Stepper_changed : FnScope d_Stepper_changed.N ["self", "field", "value"] (defScope s_Stepper_changed) := ⟨rfl, rfl, rfl, by decide +kernel, rfl, by decide +kernel, by decide +kernel⟩
theorem sc__law_random : FnScope d__law_random.N ["_law_script", "_law_salt"] (defScope s__law_random) := ⟨rfl, rfl, rfl, by decide +kernel, rfl, by decide +kernel, by decide +kernel⟩
theorem sc__law_below : FnScope d__law_below.N ["_law_d", "_law_size"] (defScope s__law_below) := ⟨rfl, rfl, rfl, by decide +kernel, rfl, by decide +kernel, by decide +kernel⟩
theorem sc__law_pick : FnScope d__law_pick.N ["_law_d", "_law_items"] (defScope s__law_pick) := ⟨rfl, rfl, rfl, by decide +kernel, rfl, by decide +kernel, by decide +kernel⟩
theorem sc__law_equal : FnScope d__law_equal.N ["_law_actual", "_law_expected"] (defScope s__law_equal) := ⟨rfl, rfl, rfl, by decide +kernel, rfl, by decide +kernel, by decide +kernel⟩
theorem sc__law_equal_1 : FnScope d__law_equal_1.N ["_law_actual", "_law_expected"] (defScope s__law_equal) := ⟨rfl, rfl, rfl, by decide +kernel, rfl, by decide +kernel, by decide +kernel⟩
theorem sc__law_equal_2 : FnScope d__law_equal_2.N ["_law_actual", "_law_expected"] (defScope s__law_equal) := ⟨rfl, rfl, rfl, by decide +kernel, rfl, by decide +kernel, by decide +kernel⟩
theorem sc__law_drawn : FnScope d__law_drawn.N ["_law_d"] (defScope s__law_drawn) := ⟨rfl, rfl, rfl, by decide +kernel, rfl, by decide +kernel, by decide +kernel⟩
theorem sc__law_make : FnScope d__law_make.N ["_law_s"] (defScope s__law_make) := ⟨rfl, rfl, rfl, by decide +kernel, rfl, by decide +kernel, by decide +kernel⟩
theorem sc__law_made : FnScope d__law_made.N ["_law_s"] (defScope s__law_made) := ⟨rfl, rfl, rfl, by decide +kernel, rfl, by decide +kernel, by decide +kernel⟩
theorem sc__law_fault : FnScope d__law_fault.N ["_law_s"] (defScope s__law_fault) := ⟨rfl, rfl, rfl, by decide +kernel, rfl, by decide +kernel, by decide +kernel⟩
theorem sc__law_changed : FnScope d__law_changed.N ["_law_stepper", "_law_field", "_law_value"] (defScope s__law_changed) := ⟨rfl, rfl, rfl, by decide +kernel, rfl, by decide +kernel, by decide +kernel⟩
theorem sc_law : FnScope d_law.N ["_law_script"] (defScope s_law) := ⟨rfl, rfl, rfl, by decide +kernel, rfl, by decide +kernel, by decide +kernel⟩
theorem sc_InvalidStepper_init : FnScope ["self", "field"] ["self", "field"] (defScope s_InvalidStepper_init) := ⟨rfl, rfl, rfl, by decide +kernel, rfl, by decide +kernel, by decide +kernel⟩
theorem sc_UnknownField_init : FnScope ["self", "field"] ["self", "field"] (defScope s_UnknownField_init) := ⟨rfl, rfl, rfl, by decide +kernel, rfl, by decide +kernel, by decide +kernel⟩
section
variable {P : Program} {w : World} {K : PySem.W.Frag} {mg : Str → Option Value} {base : Heap} {C0 C1 C2 C3 : Addr}
set_option maxHeartbeats 4000000 in
theorem chain (F : Facts K mg C0 C1 C2 C3)
    {f_is_integer : Addr} {fd_is_integer : FuncData} (F_is_integer : Fun K "is_integer" "is_integer" s_is_integer f_is_integer fd_is_integer)
    (g_is_integer : mg "is_integer" = some (.ref f_is_integer))
    {f_is_text : Addr} {fd_is_text : FuncData} (F_is_text : Fun K "is_text" "is_text" s_is_text f_is_text fd_is_text)
    (g_is_text : mg "is_text" = some (.ref f_is_text))
    {f_is_one_of : Addr} {fd_is_one_of : FuncData} (F_is_one_of : Fun K "is_one_of" "is_one_of" s_is_one_of f_is_one_of fd_is_one_of)
    (g_is_one_of : mg "is_one_of" = some (.ref f_is_one_of))
    {f_are_deeds : Addr} {fd_are_deeds : FuncData} (F_are_deeds : Fun K "are_deeds" "are_deeds" s_are_deeds f_are_deeds fd_are_deeds)
    (g_are_deeds : mg "are_deeds" = some (.ref f_are_deeds))
    {f_need_fields : Addr} {fd_need_fields : FuncData} (F_need_fields : Fun K "need_fields" "need_fields" s_need_fields f_need_fields fd_need_fields)
    (g_need_fields : mg "need_fields" = some (.ref f_need_fields))
    {f_Stepper_init : Addr} {fd_Stepper_init : FuncData} (F_Stepper_init : Fun K "__init__" "Stepper.__init__" s_Stepper_init f_Stepper_init fd_Stepper_init)
    (i_Stepper_init : PySem.W.findIn K (.ref C0) "__init__" = some (some (.ref f_Stepper_init))) (j_Stepper_init : PySem.W.isFn K (.ref f_Stepper_init) = true)
    {f_Stepper_parts_told : Addr} {fd_Stepper_parts_told : FuncData} (F_Stepper_parts_told : Fun K "parts_told" "Stepper.parts_told" s_Stepper_parts_told f_Stepper_parts_told fd_Stepper_parts_told)
    (i_Stepper_parts_told : PySem.W.findIn K (.ref C0) "parts_told" = some (some (.ref f_Stepper_parts_told))) (j_Stepper_parts_told : PySem.W.isFn K (.ref f_Stepper_parts_told) = true)
    {f_Stepper_eq : Addr} {fd_Stepper_eq : FuncData} (F_Stepper_eq : Fun K "__eq__" "Stepper.__eq__" s_Stepper_eq f_Stepper_eq fd_Stepper_eq)
    (i_Stepper_eq : PySem.W.findIn K (.ref C0) "__eq__" = some (some (.ref f_Stepper_eq))) (j_Stepper_eq : PySem.W.isFn K (.ref f_Stepper_eq) = true)
    (E_Stepper_eq : EqC K C0 f_Stepper_eq) (N_Stepper_eq : NeC K C0 f_Stepper_eq)
    {f_Stepper_changed : Addr} {fd_Stepper_changed : FuncData} (F_Stepper_changed : Fun K "changed" "Stepper.changed" s_Stepper_changed f_Stepper_changed fd_Stepper_changed)
    (i_Stepper_changed : PySem.W.findIn K (.ref C0) "changed" = some (some (.ref f_Stepper_changed))) (j_Stepper_changed : PySem.W.isFn K (.ref f_Stepper_changed) = true)
    {f__law_random : Addr} {fd__law_random : FuncData} (F__law_random : Fun K "_law_random" "_law_random" s__law_random f__law_random fd__law_random)
    (g__law_random : mg "_law_random" = some (.ref f__law_random))
    {f__law_below : Addr} {fd__law_below : FuncData} (F__law_below : Fun K "_law_below" "_law_below" s__law_below f__law_below fd__law_below)
    (g__law_below : mg "_law_below" = some (.ref f__law_below))
    {f__law_pick : Addr} {fd__law_pick : FuncData} (F__law_pick : Fun K "_law_pick" "_law_pick" s__law_pick f__law_pick fd__law_pick)
    (g__law_pick : mg "_law_pick" = some (.ref f__law_pick))
    {f__law_equal : Addr} {fd__law_equal : FuncData} (F__law_equal : Fun K "_law_equal" "_law_equal" s__law_equal f__law_equal fd__law_equal)
    (g__law_equal : mg "_law_equal" = some (.ref f__law_equal))
    {f__law_drawn : Addr} {fd__law_drawn : FuncData} (F__law_drawn : Fun K "_law_drawn" "_law_drawn" s__law_drawn f__law_drawn fd__law_drawn)
    (g__law_drawn : mg "_law_drawn" = some (.ref f__law_drawn))
    {f__law_make : Addr} {fd__law_make : FuncData} (F__law_make : Fun K "_law_make" "_law_make" s__law_make f__law_make fd__law_make)
    (g__law_make : mg "_law_make" = some (.ref f__law_make))
    {f__law_made : Addr} {fd__law_made : FuncData} (F__law_made : Fun K "_law_made" "_law_made" s__law_made f__law_made fd__law_made)
    (g__law_made : mg "_law_made" = some (.ref f__law_made))
    {f__law_fault : Addr} {fd__law_fault : FuncData} (F__law_fault : Fun K "_law_fault" "_law_fault" s__law_fault f__law_fault fd__law_fault)
    (g__law_fault : mg "_law_fault" = some (.ref f__law_fault))
    {f__law_changed : Addr} {fd__law_changed : FuncData} (F__law_changed : Fun K "_law_changed" "_law_changed" s__law_changed f__law_changed fd__law_changed)
    (g__law_changed : mg "_law_changed" = some (.ref f__law_changed))
    {f_law : Addr} {fd_law : FuncData} (F_law : Fun K "law" "law" s_law f_law fd_law)
    (g_law : mg "law" = some (.ref f_law))
    (X_HitError : XcOk P w K mg base (tb K C0 C1 C2 C3) 1 "HitError" (1, none))
    (X_InvalidStepper : XcOk P w K mg base (tb K C0 C1 C2 C3) 1 "InvalidStepper" (2, some 6))
    (X_UnknownField : XcOk P w K mg base (tb K C0 C1 C2 C3) 1 "UnknownField" (3, some 6)) :
    FnOk P w K mg base (L2.CX P w) 14 f_law fd_law ["_law_script"] (spD (tb K C0 C1 C2 C3) 1 r_law) := by
  have t_is_integer : TabOk P w K mg base (tb K C0 C1 C2 C3) 0 d_is_integer := tab_mk (att_of atts_nd K [C0, C1, C2, C3]) trivial F.bl trivial F.isi trivial trivial trivial trivial xs_nil xi_nil
  have O_is_integer : DefOk P w K mg base (tb K C0 C1 C2 C3) 2 f_is_integer 1 r_is_integer := (def_body (n := 40) F_is_integer sc_is_integer (F_is_integer.binds (ps := ["value"]) fun _ _ _ _ _ _ us hl => match us, hl with | [_], _ => rfl) rfl t_is_integer).le le_is_integer
  have t_is_text : TabOk P w K mg base (tb K C0 C1 C2 C3) 0 d_is_text := tab_mk (att_of atts_nd K [C0, C1, C2, C3]) ⟨F.con_SIGNS, trivial⟩ F.bl trivial F.isi trivial trivial trivial trivial xs_nil xi_nil
  have O_is_text : DefOk P w K mg base (tb K C0 C1 C2 C3) 2 f_is_text 1 r_is_text := (def_body (n := 40) F_is_text sc_is_text (F_is_text.binds (ps := ["value"]) fun _ _ _ _ _ _ us hl => match us, hl with | [_], _ => rfl) rfl t_is_text).le le_is_text
  have t_is_one_of : TabOk P w K mg base (tb K C0 C1 C2 C3) 0 d_is_one_of := tab_mk (att_of atts_nd K [C0, C1, C2, C3]) trivial F.bl trivial F.isi trivial trivial trivial trivial xs_nil xi_nil
  have O_is_one_of : DefOk P w K mg base (tb K C0 C1 C2 C3) 2 f_is_one_of 2 r_is_one_of := (def_body (n := 40) F_is_one_of sc_is_one_of (F_is_one_of.binds (ps := ["value", "words"]) fun _ _ _ _ _ _ us hl => match us, hl with | [_, _], _ => rfl) rfl t_is_one_of).le le_is_one_of
  have t_are_deeds : TabOk P w K mg base (tb K C0 C1 C2 C3) 2 d_are_deeds := tab_mk (att_of atts_nd K [C0, C1, C2, C3]) ⟨⟨f_is_one_of, g_is_one_of, F_is_one_of.kp, O_is_one_of.mono (by decide)⟩, F.con_DEEDS, F.con_MOST_DEEDS, trivial⟩ F.bl trivial F.isi trivial trivial trivial trivial xs_nil xi_nil
  have O_are_deeds : DefOk P w K mg base (tb K C0 C1 C2 C3) 4 f_are_deeds 1 r_are_deeds := (def_body (n := 40) F_are_deeds sc_are_deeds (F_are_deeds.binds (ps := ["value"]) fun _ _ _ _ _ _ us hl => match us, hl with | [_], _ => rfl) rfl t_are_deeds).le le_are_deeds
  have t_need_fields : TabOk P w K mg base (tb K C0 C1 C2 C3) 4 d_need_fields := tab_mk (att_of atts_nd K [C0, C1, C2, C3]) ⟨F.con_MOST_PASSES, ⟨f_is_integer, g_is_integer, F_is_integer.kp, O_is_integer.mono (by decide)⟩, ⟨f_are_deeds, g_are_deeds, F_are_deeds.kp, O_are_deeds.mono (by decide)⟩, ⟨f_is_one_of, g_is_one_of, F_is_one_of.kp, O_is_one_of.mono (by decide)⟩, F.con_TURNS, F.con_KEEPS, F.con_MOST_SIGNS, ⟨f_is_text, g_is_text, F_is_text.kp, O_is_text.mono (by decide)⟩, trivial⟩ F.bl trivial F.isi trivial trivial trivial ⟨X_InvalidStepper.mono (by decide), trivial⟩ F.xs F.xi
  have O_need_fields : DefOk P w K mg base (tb K C0 C1 C2 C3) 6 f_need_fields 6 r_need_fields := (def_body (n := 40) F_need_fields sc_need_fields (F_need_fields.binds (ps := ["word", "put", "keep", "turn", "deeds", "passes"]) fun _ _ _ _ _ _ us hl => match us, hl with | [_, _, _, _, _, _], _ => rfl) rfl t_need_fields).le le_need_fields
  have t_Stepper_init : TabOk P w K mg base (tb K C0 C1 C2 C3) 6 d_Stepper_init := tab_mk (att_of atts_nd K [C0, C1, C2, C3]) ⟨⟨f_need_fields, g_need_fields, F_need_fields.kp, O_need_fields.mono (by decide)⟩, trivial⟩ F.bl trivial F.isi ⟨⟨rfl, F.fld _ _ (List.mem_of_getElem? (i := 0) rfl), trivial⟩, ⟨rfl, F.fld _ _ (List.mem_of_getElem? (i := 1) rfl), trivial⟩, ⟨rfl, F.fld _ _ (List.mem_of_getElem? (i := 2) rfl), trivial⟩, ⟨rfl, F.fld _ _ (List.mem_of_getElem? (i := 3) rfl), trivial⟩, ⟨rfl, F.fld _ _ (List.mem_of_getElem? (i := 4) rfl), trivial⟩, ⟨rfl, F.fld _ _ (List.mem_of_getElem? (i := 5) rfl), trivial⟩, trivial⟩ trivial trivial trivial xs_nil xi_nil
  have O_Stepper_init : FnOk P w K mg base (L2.CX P w) 8 f_Stepper_init fd_Stepper_init _ (spD (tb K C0 C1 C2 C3) 7 r_Stepper_init) := FnOk.leC (fn_body (n := 40) F_Stepper_init sc_Stepper_init rfl t_Stepper_init) (Le.c le_Stepper_init)
  have t_Stepper_parts_told : TabOk P w K mg base (tb K C0 C1 C2 C3) 0 d_Stepper_parts_told := tab_mk (att_of atts_nd K [C0, C1, C2, C3]) trivial F.bl trivial F.isi ⟨⟨rfl, F.fld _ _ (List.mem_of_getElem? (i := 0) rfl), trivial⟩, ⟨rfl, F.fld _ _ (List.mem_of_getElem? (i := 1) rfl), trivial⟩, ⟨rfl, F.fld _ _ (List.mem_of_getElem? (i := 2) rfl), trivial⟩, ⟨rfl, F.fld _ _ (List.mem_of_getElem? (i := 3) rfl), trivial⟩, ⟨rfl, F.fld _ _ (List.mem_of_getElem? (i := 4) rfl), trivial⟩, ⟨rfl, F.fld _ _ (List.mem_of_getElem? (i := 5) rfl), trivial⟩, trivial⟩ trivial trivial trivial xs_nil xi_nil
  have O_Stepper_parts_told : DefOk P w K mg base (tb K C0 C1 C2 C3) 2 f_Stepper_parts_told 1 r_Stepper_parts_told := (def_body (n := 40) F_Stepper_parts_told sc_Stepper_parts_told (F_Stepper_parts_told.binds (ps := ["self"]) fun _ _ _ _ _ _ us hl => match us, hl with | [_], _ => rfl) rfl t_Stepper_parts_told).le le_Stepper_parts_told
  have t_Stepper_eq : TabOk P w K mg base (tb K C0 C1 C2 C3) 2 d_Stepper_eq := tab_mk (att_of atts_nd K [C0, C1, C2, C3]) trivial F.bl ⟨⟨C0, rfl, F.g0⟩, trivial⟩ F.isi trivial ⟨⟨List.cons_ne_nil _ _, ⟨⟨⟨C0, f_Stepper_parts_told, rfl, F.cl0, ⟨i_Stepper_parts_told, j_Stepper_parts_told, F_Stepper_parts_told.kp⟩, rfl, O_Stepper_parts_told.mono (by decide)⟩⟩, trivial⟩⟩, trivial⟩ trivial trivial xs_nil xi_nil
  have O_Stepper_eq : DefOk P w K mg base (tb K C0 C1 C2 C3) 4 f_Stepper_eq 2 r_Stepper_eq := (def_body (n := 40) F_Stepper_eq sc_Stepper_eq (F_Stepper_eq.binds (ps := ["self", "other"]) fun _ _ _ _ _ _ us hl => match us, hl with | [_, _], _ => rfl) rfl t_Stepper_eq).le le_Stepper_eq
  have t_Stepper_changed : TabOk P w K mg base (tb K C0 C1 C2 C3) 8 d_Stepper_changed := tab_mk (att_of atts_nd K [C0, C1, C2, C3]) ⟨⟨C0, f_Stepper_init, fd_Stepper_init, _, rfl, F.g0, ⟨F.mk0, i_Stepper_init, j_Stepper_init, F.kc0⟩, kbn_of (n := 3) F_Stepper_init (fun _ _ _ _ _ _ us ws l1 l2 => match us, l1, ws, l2 with | [_, _, _], _, [_, _, _, _], _ => rfl), FnOk.mono O_Stepper_init (by decide)⟩, ⟨f_is_one_of, g_is_one_of, F_is_one_of.kp, O_is_one_of.mono (by decide)⟩, F.con_FIELDS, trivial⟩ F.bl trivial F.isi ⟨⟨rfl, F.fld _ _ (List.mem_of_getElem? (i := 0) rfl), trivial⟩, ⟨rfl, F.fld _ _ (List.mem_of_getElem? (i := 1) rfl), trivial⟩, ⟨rfl, F.fld _ _ (List.mem_of_getElem? (i := 2) rfl), trivial⟩, ⟨rfl, F.fld _ _ (List.mem_of_getElem? (i := 3) rfl), trivial⟩, ⟨rfl, F.fld _ _ (List.mem_of_getElem? (i := 4) rfl), trivial⟩, ⟨rfl, F.fld _ _ (List.mem_of_getElem? (i := 5) rfl), trivial⟩, trivial⟩ trivial ⟨⟨⟨C0, f_Stepper_eq, rfl, E_Stepper_eq, N_Stepper_eq, O_Stepper_eq.mono (by decide)⟩⟩, trivial⟩ ⟨X_UnknownField.mono (by decide), trivial⟩ F.xs F.xi
  have O_Stepper_changed : DefOk P w K mg base (tb K C0 C1 C2 C3) 10 f_Stepper_changed 3 r_Stepper_changed := (def_body (n := 40) F_Stepper_changed sc_Stepper_changed (F_Stepper_changed.binds (ps := ["self", "field", "value"]) fun _ _ _ _ _ _ us hl => match us, hl with | [_, _, _], _ => rfl) rfl t_Stepper_changed).leC le_Stepper_changed
  have t__law_random : TabOk P w K mg base (tb K C0 C1 C2 C3) 0 d__law_random := tab_mk (att_of atts_nd K [C0, C1, C2, C3]) trivial F.bl trivial F.isi trivial trivial trivial trivial xs_nil xi_nil
  have O__law_random : DefOk P w K mg base (tb K C0 C1 C2 C3) 2 f__law_random 2 r__law_random := (def_body (n := 40) F__law_random sc__law_random (F__law_random.binds (ps := ["_law_script", "_law_salt"]) fun _ _ _ _ _ _ us hl => match us, hl with | [_, _], _ => rfl) rfl t__law_random).le le__law_random
  have t__law_below : TabOk P w K mg base (tb K C0 C1 C2 C3) 4 d__law_below := tab_mk (att_of atts_nd K [C0, C1, C2, C3]) trivial F.bl trivial F.isi trivial trivial ⟨⟨⟨C0, f_Stepper_eq, rfl, E_Stepper_eq, N_Stepper_eq, O_Stepper_eq.mono (by decide)⟩⟩, trivial⟩ trivial xs_nil xi_nil
  have O__law_below : DefOk P w K mg base (tb K C0 C1 C2 C3) 6 f__law_below 2 r__law_below := (def_body (n := 40) F__law_below sc__law_below (F__law_below.binds (ps := ["_law_d", "_law_size"]) fun _ _ _ _ _ _ us hl => match us, hl with | [_, _], _ => rfl) rfl t__law_below).le le__law_below
  have t__law_pick : TabOk P w K mg base (tb K C0 C1 C2 C3) 6 d__law_pick := tab_mk (att_of atts_nd K [C0, C1, C2, C3]) ⟨⟨f__law_below, g__law_below, F__law_below.kp, O__law_below.mono (by decide)⟩, trivial⟩ F.bl trivial F.isi trivial trivial trivial trivial xs_nil xi_nil
  have O__law_pick : DefOk P w K mg base (tb K C0 C1 C2 C3) 8 f__law_pick 2 r__law_pick := (def_body (n := 40) F__law_pick sc__law_pick (F__law_pick.binds (ps := ["_law_d", "_law_items"]) fun _ _ _ _ _ _ us hl => match us, hl with | [_, _], _ => rfl) rfl t__law_pick).le le__law_pick
  have t__law_equal : TabOk P w K mg base (tb K C0 C1 C2 C3) 4 d__law_equal := tab_mk (att_of atts_nd K [C0, C1, C2, C3]) trivial F.bl trivial F.isi trivial trivial ⟨⟨⟨C0, f_Stepper_eq, rfl, E_Stepper_eq, N_Stepper_eq, O_Stepper_eq.mono (by decide)⟩⟩, trivial⟩ trivial xs_nil xi_nil
  have O__law_equal : DefOk P w K mg base (tb K C0 C1 C2 C3) 6 f__law_equal 2 r__law_equal := (def_body (n := 40) F__law_equal sc__law_equal (F__law_equal.binds (ps := ["_law_actual", "_law_expected"]) fun _ _ _ _ _ _ us hl => match us, hl with | [_, _], _ => rfl) rfl t__law_equal).le le__law_equal
  have t__law_equal_1 : TabOk P w K mg base (tb K C0 C1 C2 C3) 6 d__law_equal_1 := tab_mk (att_of atts_nd K [C0, C1, C2, C3]) ⟨⟨f__law_equal, g__law_equal, F__law_equal.kp, O__law_equal.mono (by decide)⟩, trivial⟩ F.bl trivial F.isi trivial trivial ⟨⟨⟨C0, f_Stepper_eq, rfl, E_Stepper_eq, N_Stepper_eq, O_Stepper_eq.mono (by decide)⟩⟩, trivial⟩ trivial xs_nil xi_nil
  have O__law_equal_1 : DefOk P w K mg base (tb K C0 C1 C2 C3) 8 f__law_equal 2 r__law_equal_1 := (def_body (n := 40) F__law_equal sc__law_equal_1 (F__law_equal.binds (ps := ["_law_actual", "_law_expected"]) fun _ _ _ _ _ _ us hl => match us, hl with | [_, _], _ => rfl) rfl t__law_equal_1).le le__law_equal_1
  have t__law_equal_2 : TabOk P w K mg base (tb K C0 C1 C2 C3) 8 d__law_equal_2 := tab_mk (att_of atts_nd K [C0, C1, C2, C3]) ⟨⟨f__law_equal, g__law_equal, F__law_equal.kp, O__law_equal_1.mono (by decide)⟩, trivial⟩ F.bl trivial F.isi trivial trivial ⟨⟨⟨C0, f_Stepper_eq, rfl, E_Stepper_eq, N_Stepper_eq, O_Stepper_eq.mono (by decide)⟩⟩, trivial⟩ trivial xs_nil xi_nil
  have O__law_equal_2 : DefOk P w K mg base (tb K C0 C1 C2 C3) 10 f__law_equal 2 r__law_equal_2 := (def_body (n := 40) F__law_equal sc__law_equal_2 (F__law_equal.binds (ps := ["_law_actual", "_law_expected"]) fun _ _ _ _ _ _ us hl => match us, hl with | [_, _], _ => rfl) rfl t__law_equal_2).le le__law_equal_2
  have t__law_drawn : TabOk P w K mg base (tb K C0 C1 C2 C3) 8 d__law_drawn := tab_mk (att_of atts_nd K [C0, C1, C2, C3]) ⟨⟨f__law_pick, g__law_pick, F__law_pick.kp, O__law_pick.mono (by decide)⟩, ⟨f__law_below, g__law_below, F__law_below.kp, O__law_below.mono (by decide)⟩, trivial⟩ F.bl trivial F.isi trivial trivial trivial trivial xs_nil xi_nil
  have O__law_drawn : DefOk P w K mg base (tb K C0 C1 C2 C3) 10 f__law_drawn 1 r__law_drawn := (def_body (n := 40) F__law_drawn sc__law_drawn (F__law_drawn.binds (ps := ["_law_d"]) fun _ _ _ _ _ _ us hl => match us, hl with | [_], _ => rfl) rfl t__law_drawn).le le__law_drawn
  have t__law_make : TabOk P w K mg base (tb K C0 C1 C2 C3) 8 d__law_make := tab_mk (att_of atts_nd K [C0, C1, C2, C3]) ⟨⟨C0, f_Stepper_init, fd_Stepper_init, _, rfl, F.g0, ⟨F.mk0, i_Stepper_init, j_Stepper_init, F.kc0⟩, kbn_of (n := 3) F_Stepper_init (fun _ _ _ _ _ _ us ws l1 l2 => match us, l1, ws, l2 with | [_, _, _], _, [_, _, _, _], _ => rfl), FnOk.mono O_Stepper_init (by decide)⟩, trivial⟩ F.bl trivial F.isi trivial trivial trivial trivial xs_nil xi_nil
  have O__law_make : DefOk P w K mg base (tb K C0 C1 C2 C3) 10 f__law_make 1 r__law_make := (def_body (n := 40) F__law_make sc__law_make (F__law_make.binds (ps := ["_law_s"]) fun _ _ _ _ _ _ us hl => match us, hl with | [_], _ => rfl) rfl t__law_make).leC le__law_make
  have t__law_made : TabOk P w K mg base (tb K C0 C1 C2 C3) 10 d__law_made := tab_mk (att_of atts_nd K [C0, C1, C2, C3]) ⟨⟨f__law_make, g__law_make, F__law_make.kp, O__law_make.mono (by decide)⟩, trivial⟩ F.bl trivial F.isi ⟨⟨rfl, (fun c hc => nomatch hc), trivial⟩, trivial⟩ trivial trivial ⟨X_InvalidStepper.mono (by decide), X_UnknownField.mono (by decide), X_HitError.mono (by decide), trivial⟩ F.xs F.xi
  have O__law_made : DefOk P w K mg base (tb K C0 C1 C2 C3) 12 f__law_made 1 r__law_made := (def_body (n := 40) F__law_made sc__law_made (F__law_made.binds (ps := ["_law_s"]) fun _ _ _ _ _ _ us hl => match us, hl with | [_], _ => rfl) rfl t__law_made).le le__law_made
  have t__law_fault : TabOk P w K mg base (tb K C0 C1 C2 C3) 0 d__law_fault := tab_mk (att_of atts_nd K [C0, C1, C2, C3]) trivial F.bl trivial F.isi trivial trivial trivial trivial xs_nil xi_nil
  have O__law_fault : DefOk P w K mg base (tb K C0 C1 C2 C3) 2 f__law_fault 1 r__law_fault := (def_body (n := 40) F__law_fault sc__law_fault (F__law_fault.binds (ps := ["_law_s"]) fun _ _ _ _ _ _ us hl => match us, hl with | [_], _ => rfl) rfl t__law_fault).leC le__law_fault
  have t__law_changed : TabOk P w K mg base (tb K C0 C1 C2 C3) 10 d__law_changed := tab_mk (att_of atts_nd K [C0, C1, C2, C3]) trivial F.bl trivial F.isi ⟨⟨rfl, (fun c hc => nomatch hc), trivial⟩, trivial⟩ ⟨⟨List.cons_ne_nil _ _, ⟨⟨⟨C0, f_Stepper_changed, rfl, F.cl0, ⟨i_Stepper_changed, j_Stepper_changed, F_Stepper_changed.kp⟩, rfl, O_Stepper_changed.mono (by decide)⟩⟩, trivial⟩⟩, trivial⟩ trivial ⟨X_UnknownField.mono (by decide), X_InvalidStepper.mono (by decide), trivial⟩ F.xs F.xi
  have O__law_changed : DefOk P w K mg base (tb K C0 C1 C2 C3) 12 f__law_changed 3 r__law_changed := (def_body (n := 40) F__law_changed sc__law_changed (F__law_changed.binds (ps := ["_law_stepper", "_law_field", "_law_value"]) fun _ _ _ _ _ _ us hl => match us, hl with | [_, _, _], _ => rfl) rfl t__law_changed).le le__law_changed
  have t_law : TabOk P w K mg base (tb K C0 C1 C2 C3) 12 d_law := tab_mk (att_of atts_nd K [C0, C1, C2, C3]) ⟨⟨f__law_make, g__law_make, F__law_make.kp, O__law_make.mono (by decide)⟩, ⟨f__law_changed, g__law_changed, F__law_changed.kp, O__law_changed.mono (by decide)⟩, ⟨f__law_pick, g__law_pick, F__law_pick.kp, O__law_pick.mono (by decide)⟩, ⟨f__law_equal, g__law_equal, F__law_equal.kp, O__law_equal_2.mono (by decide)⟩, ⟨f__law_drawn, g__law_drawn, F__law_drawn.kp, O__law_drawn.mono (by decide)⟩, ⟨f__law_made, g__law_made, F__law_made.kp, O__law_made.mono (by decide)⟩, ⟨f__law_fault, g__law_fault, F__law_fault.kp, O__law_fault.mono (by decide)⟩, ⟨f__law_below, g__law_below, F__law_below.kp, O__law_below.mono (by decide)⟩, ⟨f__law_random, g__law_random, F__law_random.kp, O__law_random.mono (by decide)⟩, trivial⟩ F.bl trivial F.isi ⟨⟨rfl, F.fld _ _ (List.mem_of_getElem? (i := 0) rfl), trivial⟩, ⟨rfl, F.fld _ _ (List.mem_of_getElem? (i := 1) rfl), trivial⟩, ⟨rfl, F.fld _ _ (List.mem_of_getElem? (i := 2) rfl), trivial⟩, ⟨rfl, F.fld _ _ (List.mem_of_getElem? (i := 3) rfl), trivial⟩, ⟨rfl, F.fld _ _ (List.mem_of_getElem? (i := 4) rfl), trivial⟩, ⟨rfl, F.fld _ _ (List.mem_of_getElem? (i := 5) rfl), trivial⟩, trivial⟩ trivial ⟨⟨⟨C0, f_Stepper_eq, rfl, E_Stepper_eq, N_Stepper_eq, O_Stepper_eq.mono (by decide)⟩⟩, trivial⟩ trivial xs_nil xi_nil
  have O_law : FnOk P w K mg base (L2.CX P w) 14 f_law fd_law _ (spD (tb K C0 C1 C2 C3) 1 r_law) := FnOk.leC (fn_body (n := 40) F_law sc_law rfl t_law) le_law
  exact O_law
end
set_option maxHeartbeats 4000000 in
theorem all_mk {l : PySem.W.OpenLaw} {w : World} {K : PySem.W.Frag} {h : Heap} {mg : Str → Option Value} (X : K.In h) (G : h.Ns mainGlobals mg) {fa : Addr} (hfa : mg "law" = some (.ref fa))
    {C0 C1 C2 C3 : Addr}
    (aC0 : PySem.W.nsIn K mainGlobals "Stepper" = some (some (.ref C0)))
    (aC1 : PySem.W.nsIn K mainGlobals "HitError" = some (some (.ref C1)))
    (aC2 : PySem.W.nsIn K mainGlobals "InvalidStepper" = some (some (.ref C2)))
    (aC3 : PySem.W.nsIn K mainGlobals "UnknownField" = some (some (.ref C3)))
    {f_is_integer : Addr} {oc_is_integer kV_is_integer dc_is_integer pm_is_integer cd_is_integer ct_is_integer : Value} {od_is_integer an_is_integer : Option Addr} {sl_is_integer : Array (Option Value)}
    (a_is_integer : PySem.W.nsIn K mainGlobals "is_integer" = some (some (.ref f_is_integer)))
    (l_is_integer : K.lookup f_is_integer = some ⟨oc_is_integer, od_is_integer, .func (PySem.W.fnOf "is_integer" "is_integer" (defArgs s_is_integer) (defBody s_is_integer) (defScope s_is_integer) .none kV_is_integer dc_is_integer pm_is_integer an_is_integer cd_is_integer ct_is_integer), sl_is_integer⟩)
    (c_is_integer : PySem.W.codeIn K cd_is_integer "is_integer" = true)
    (k_is_integer : PySem.W.keepIn K (.ref f_is_integer) = true)
    {f_is_text : Addr} {oc_is_text kV_is_text dc_is_text pm_is_text cd_is_text ct_is_text : Value} {od_is_text an_is_text : Option Addr} {sl_is_text : Array (Option Value)}
    (a_is_text : PySem.W.nsIn K mainGlobals "is_text" = some (some (.ref f_is_text)))
    (l_is_text : K.lookup f_is_text = some ⟨oc_is_text, od_is_text, .func (PySem.W.fnOf "is_text" "is_text" (defArgs s_is_text) (defBody s_is_text) (defScope s_is_text) .none kV_is_text dc_is_text pm_is_text an_is_text cd_is_text ct_is_text), sl_is_text⟩)
    (c_is_text : PySem.W.codeIn K cd_is_text "is_text" = true)
    (k_is_text : PySem.W.keepIn K (.ref f_is_text) = true)
    {f_is_one_of : Addr} {oc_is_one_of kV_is_one_of dc_is_one_of pm_is_one_of cd_is_one_of ct_is_one_of : Value} {od_is_one_of an_is_one_of : Option Addr} {sl_is_one_of : Array (Option Value)}
    (a_is_one_of : PySem.W.nsIn K mainGlobals "is_one_of" = some (some (.ref f_is_one_of)))
    (l_is_one_of : K.lookup f_is_one_of = some ⟨oc_is_one_of, od_is_one_of, .func (PySem.W.fnOf "is_one_of" "is_one_of" (defArgs s_is_one_of) (defBody s_is_one_of) (defScope s_is_one_of) .none kV_is_one_of dc_is_one_of pm_is_one_of an_is_one_of cd_is_one_of ct_is_one_of), sl_is_one_of⟩)
    (c_is_one_of : PySem.W.codeIn K cd_is_one_of "is_one_of" = true)
    (k_is_one_of : PySem.W.keepIn K (.ref f_is_one_of) = true)
    {f_are_deeds : Addr} {oc_are_deeds kV_are_deeds dc_are_deeds pm_are_deeds cd_are_deeds ct_are_deeds : Value} {od_are_deeds an_are_deeds : Option Addr} {sl_are_deeds : Array (Option Value)}
    (a_are_deeds : PySem.W.nsIn K mainGlobals "are_deeds" = some (some (.ref f_are_deeds)))
    (l_are_deeds : K.lookup f_are_deeds = some ⟨oc_are_deeds, od_are_deeds, .func (PySem.W.fnOf "are_deeds" "are_deeds" (defArgs s_are_deeds) (defBody s_are_deeds) (defScope s_are_deeds) .none kV_are_deeds dc_are_deeds pm_are_deeds an_are_deeds cd_are_deeds ct_are_deeds), sl_are_deeds⟩)
    (c_are_deeds : PySem.W.codeIn K cd_are_deeds "are_deeds" = true)
    (k_are_deeds : PySem.W.keepIn K (.ref f_are_deeds) = true)
    {f_need_fields : Addr} {oc_need_fields kV_need_fields dc_need_fields pm_need_fields cd_need_fields ct_need_fields : Value} {od_need_fields an_need_fields : Option Addr} {sl_need_fields : Array (Option Value)}
    (a_need_fields : PySem.W.nsIn K mainGlobals "need_fields" = some (some (.ref f_need_fields)))
    (l_need_fields : K.lookup f_need_fields = some ⟨oc_need_fields, od_need_fields, .func (PySem.W.fnOf "need_fields" "need_fields" (defArgs s_need_fields) (defBody s_need_fields) (defScope s_need_fields) .none kV_need_fields dc_need_fields pm_need_fields an_need_fields cd_need_fields ct_need_fields), sl_need_fields⟩)
    (c_need_fields : PySem.W.codeIn K cd_need_fields "need_fields" = true)
    (k_need_fields : PySem.W.keepIn K (.ref f_need_fields) = true)
    {f_Stepper_init : Addr} {oc_Stepper_init kV_Stepper_init dc_Stepper_init pm_Stepper_init cd_Stepper_init ct_Stepper_init : Value} {od_Stepper_init an_Stepper_init : Option Addr} {sl_Stepper_init : Array (Option Value)}
    (i_Stepper_init : PySem.W.findIn K (.ref C0) "__init__" = some (some (.ref f_Stepper_init)))
    (j_Stepper_init : PySem.W.isFn K (.ref f_Stepper_init) = true)
    (l_Stepper_init : K.lookup f_Stepper_init = some ⟨oc_Stepper_init, od_Stepper_init, .func (PySem.W.fnOf "__init__" "Stepper.__init__" (defArgs s_Stepper_init) (defBody s_Stepper_init) (defScope s_Stepper_init) .none kV_Stepper_init dc_Stepper_init pm_Stepper_init an_Stepper_init cd_Stepper_init ct_Stepper_init), sl_Stepper_init⟩)
    (c_Stepper_init : PySem.W.codeIn K cd_Stepper_init "Stepper.__init__" = true)
    (k_Stepper_init : PySem.W.keepIn K (.ref f_Stepper_init) = true)
    {f_Stepper_parts_told : Addr} {oc_Stepper_parts_told kV_Stepper_parts_told dc_Stepper_parts_told pm_Stepper_parts_told cd_Stepper_parts_told ct_Stepper_parts_told : Value} {od_Stepper_parts_told an_Stepper_parts_told : Option Addr} {sl_Stepper_parts_told : Array (Option Value)}
    (i_Stepper_parts_told : PySem.W.findIn K (.ref C0) "parts_told" = some (some (.ref f_Stepper_parts_told)))
    (j_Stepper_parts_told : PySem.W.isFn K (.ref f_Stepper_parts_told) = true)
    (l_Stepper_parts_told : K.lookup f_Stepper_parts_told = some ⟨oc_Stepper_parts_told, od_Stepper_parts_told, .func (PySem.W.fnOf "parts_told" "Stepper.parts_told" (defArgs s_Stepper_parts_told) (defBody s_Stepper_parts_told) (defScope s_Stepper_parts_told) .none kV_Stepper_parts_told dc_Stepper_parts_told pm_Stepper_parts_told an_Stepper_parts_told cd_Stepper_parts_told ct_Stepper_parts_told), sl_Stepper_parts_told⟩)
    (c_Stepper_parts_told : PySem.W.codeIn K cd_Stepper_parts_told "Stepper.parts_told" = true)
    (k_Stepper_parts_told : PySem.W.keepIn K (.ref f_Stepper_parts_told) = true)
    {f_Stepper_eq : Addr} {oc_Stepper_eq kV_Stepper_eq dc_Stepper_eq pm_Stepper_eq cd_Stepper_eq ct_Stepper_eq : Value} {od_Stepper_eq an_Stepper_eq : Option Addr} {sl_Stepper_eq : Array (Option Value)}
    (i_Stepper_eq : PySem.W.findIn K (.ref C0) "__eq__" = some (some (.ref f_Stepper_eq)))
    (j_Stepper_eq : PySem.W.isFn K (.ref f_Stepper_eq) = true)
    (l_Stepper_eq : K.lookup f_Stepper_eq = some ⟨oc_Stepper_eq, od_Stepper_eq, .func (PySem.W.fnOf "__eq__" "Stepper.__eq__" (defArgs s_Stepper_eq) (defBody s_Stepper_eq) (defScope s_Stepper_eq) .none kV_Stepper_eq dc_Stepper_eq pm_Stepper_eq an_Stepper_eq cd_Stepper_eq ct_Stepper_eq), sl_Stepper_eq⟩)
    (c_Stepper_eq : PySem.W.codeIn K cd_Stepper_eq "Stepper.__eq__" = true)
    (k_Stepper_eq : PySem.W.keepIn K (.ref f_Stepper_eq) = true)
    {nm0 q0 : Str} {N0 : Addr} {bs0 : List Value} {hdct0 : Bool} {sn0 : List Str} {sub0 : List Value} {ab0 : Bool} {col0 : Option Bool} {dd0 : Option Addr} {e00 e10 e20 e30 e50 : Option Value} {newId0 : String}
    (o0 : K.lookup C0 = some (excClassObj nm0 q0 C0 N0 bs0 [.type "object"] hdct0 sn0 sub0 ab0 col0 dd0 e00 e10 e20 e30 e50 newId0))
    (oe0 : PySem.W.nsIn K N0 "__eq__" = some (some (.ref f_Stepper_eq)))
    (on0 : PySem.W.nsIn K N0 "__ne__" = some none)
    (nt0 : PySem.W.notFirst K C0 (.type "tuple") = true)
    (ok0 : PySem.W.nsOkIn K N0 = true)
    {f_Stepper_changed : Addr} {oc_Stepper_changed kV_Stepper_changed dc_Stepper_changed pm_Stepper_changed cd_Stepper_changed ct_Stepper_changed : Value} {od_Stepper_changed an_Stepper_changed : Option Addr} {sl_Stepper_changed : Array (Option Value)}
    (i_Stepper_changed : PySem.W.findIn K (.ref C0) "changed" = some (some (.ref f_Stepper_changed)))
    (j_Stepper_changed : PySem.W.isFn K (.ref f_Stepper_changed) = true)
    (l_Stepper_changed : K.lookup f_Stepper_changed = some ⟨oc_Stepper_changed, od_Stepper_changed, .func (PySem.W.fnOf "changed" "Stepper.changed" (defArgs s_Stepper_changed) (defBody s_Stepper_changed) (defScope s_Stepper_changed) .none kV_Stepper_changed dc_Stepper_changed pm_Stepper_changed an_Stepper_changed cd_Stepper_changed ct_Stepper_changed), sl_Stepper_changed⟩)
    (c_Stepper_changed : PySem.W.codeIn K cd_Stepper_changed "Stepper.changed" = true)
    (k_Stepper_changed : PySem.W.keepIn K (.ref f_Stepper_changed) = true)
    {f__law_random : Addr} {oc__law_random kV__law_random dc__law_random pm__law_random cd__law_random ct__law_random : Value} {od__law_random an__law_random : Option Addr} {sl__law_random : Array (Option Value)}
    (a__law_random : PySem.W.nsIn K mainGlobals "_law_random" = some (some (.ref f__law_random)))
    (l__law_random : K.lookup f__law_random = some ⟨oc__law_random, od__law_random, .func (PySem.W.fnOf "_law_random" "_law_random" (defArgs s__law_random) (defBody s__law_random) (defScope s__law_random) .none kV__law_random dc__law_random pm__law_random an__law_random cd__law_random ct__law_random), sl__law_random⟩)
    (c__law_random : PySem.W.codeIn K cd__law_random "_law_random" = true)
    (k__law_random : PySem.W.keepIn K (.ref f__law_random) = true)
    {f__law_below : Addr} {oc__law_below kV__law_below dc__law_below pm__law_below cd__law_below ct__law_below : Value} {od__law_below an__law_below : Option Addr} {sl__law_below : Array (Option Value)}
    (a__law_below : PySem.W.nsIn K mainGlobals "_law_below" = some (some (.ref f__law_below)))
    (l__law_below : K.lookup f__law_below = some ⟨oc__law_below, od__law_below, .func (PySem.W.fnOf "_law_below" "_law_below" (defArgs s__law_below) (defBody s__law_below) (defScope s__law_below) .none kV__law_below dc__law_below pm__law_below an__law_below cd__law_below ct__law_below), sl__law_below⟩)
    (c__law_below : PySem.W.codeIn K cd__law_below "_law_below" = true)
    (k__law_below : PySem.W.keepIn K (.ref f__law_below) = true)
    {f__law_pick : Addr} {oc__law_pick kV__law_pick dc__law_pick pm__law_pick cd__law_pick ct__law_pick : Value} {od__law_pick an__law_pick : Option Addr} {sl__law_pick : Array (Option Value)}
    (a__law_pick : PySem.W.nsIn K mainGlobals "_law_pick" = some (some (.ref f__law_pick)))
    (l__law_pick : K.lookup f__law_pick = some ⟨oc__law_pick, od__law_pick, .func (PySem.W.fnOf "_law_pick" "_law_pick" (defArgs s__law_pick) (defBody s__law_pick) (defScope s__law_pick) .none kV__law_pick dc__law_pick pm__law_pick an__law_pick cd__law_pick ct__law_pick), sl__law_pick⟩)
    (c__law_pick : PySem.W.codeIn K cd__law_pick "_law_pick" = true)
    (k__law_pick : PySem.W.keepIn K (.ref f__law_pick) = true)
    {f__law_equal : Addr} {oc__law_equal kV__law_equal dc__law_equal pm__law_equal cd__law_equal ct__law_equal : Value} {od__law_equal an__law_equal : Option Addr} {sl__law_equal : Array (Option Value)}
    (a__law_equal : PySem.W.nsIn K mainGlobals "_law_equal" = some (some (.ref f__law_equal)))
    (l__law_equal : K.lookup f__law_equal = some ⟨oc__law_equal, od__law_equal, .func (PySem.W.fnOf "_law_equal" "_law_equal" (defArgs s__law_equal) (defBody s__law_equal) (defScope s__law_equal) .none kV__law_equal dc__law_equal pm__law_equal an__law_equal cd__law_equal ct__law_equal), sl__law_equal⟩)
    (c__law_equal : PySem.W.codeIn K cd__law_equal "_law_equal" = true)
    (k__law_equal : PySem.W.keepIn K (.ref f__law_equal) = true)
    {f__law_drawn : Addr} {oc__law_drawn kV__law_drawn dc__law_drawn pm__law_drawn cd__law_drawn ct__law_drawn : Value} {od__law_drawn an__law_drawn : Option Addr} {sl__law_drawn : Array (Option Value)}
    (a__law_drawn : PySem.W.nsIn K mainGlobals "_law_drawn" = some (some (.ref f__law_drawn)))
    (l__law_drawn : K.lookup f__law_drawn = some ⟨oc__law_drawn, od__law_drawn, .func (PySem.W.fnOf "_law_drawn" "_law_drawn" (defArgs s__law_drawn) (defBody s__law_drawn) (defScope s__law_drawn) .none kV__law_drawn dc__law_drawn pm__law_drawn an__law_drawn cd__law_drawn ct__law_drawn), sl__law_drawn⟩)
    (c__law_drawn : PySem.W.codeIn K cd__law_drawn "_law_drawn" = true)
    (k__law_drawn : PySem.W.keepIn K (.ref f__law_drawn) = true)
    {f__law_make : Addr} {oc__law_make kV__law_make dc__law_make pm__law_make cd__law_make ct__law_make : Value} {od__law_make an__law_make : Option Addr} {sl__law_make : Array (Option Value)}
    (a__law_make : PySem.W.nsIn K mainGlobals "_law_make" = some (some (.ref f__law_make)))
    (l__law_make : K.lookup f__law_make = some ⟨oc__law_make, od__law_make, .func (PySem.W.fnOf "_law_make" "_law_make" (defArgs s__law_make) (defBody s__law_make) (defScope s__law_make) .none kV__law_make dc__law_make pm__law_make an__law_make cd__law_make ct__law_make), sl__law_make⟩)
    (c__law_make : PySem.W.codeIn K cd__law_make "_law_make" = true)
    (k__law_make : PySem.W.keepIn K (.ref f__law_make) = true)
    {f__law_made : Addr} {oc__law_made kV__law_made dc__law_made pm__law_made cd__law_made ct__law_made : Value} {od__law_made an__law_made : Option Addr} {sl__law_made : Array (Option Value)}
    (a__law_made : PySem.W.nsIn K mainGlobals "_law_made" = some (some (.ref f__law_made)))
    (l__law_made : K.lookup f__law_made = some ⟨oc__law_made, od__law_made, .func (PySem.W.fnOf "_law_made" "_law_made" (defArgs s__law_made) (defBody s__law_made) (defScope s__law_made) .none kV__law_made dc__law_made pm__law_made an__law_made cd__law_made ct__law_made), sl__law_made⟩)
    (c__law_made : PySem.W.codeIn K cd__law_made "_law_made" = true)
    (k__law_made : PySem.W.keepIn K (.ref f__law_made) = true)
    {f__law_fault : Addr} {oc__law_fault kV__law_fault dc__law_fault pm__law_fault cd__law_fault ct__law_fault : Value} {od__law_fault an__law_fault : Option Addr} {sl__law_fault : Array (Option Value)}
    (a__law_fault : PySem.W.nsIn K mainGlobals "_law_fault" = some (some (.ref f__law_fault)))
    (l__law_fault : K.lookup f__law_fault = some ⟨oc__law_fault, od__law_fault, .func (PySem.W.fnOf "_law_fault" "_law_fault" (defArgs s__law_fault) (defBody s__law_fault) (defScope s__law_fault) .none kV__law_fault dc__law_fault pm__law_fault an__law_fault cd__law_fault ct__law_fault), sl__law_fault⟩)
    (c__law_fault : PySem.W.codeIn K cd__law_fault "_law_fault" = true)
    (k__law_fault : PySem.W.keepIn K (.ref f__law_fault) = true)
    {f__law_changed : Addr} {oc__law_changed kV__law_changed dc__law_changed pm__law_changed cd__law_changed ct__law_changed : Value} {od__law_changed an__law_changed : Option Addr} {sl__law_changed : Array (Option Value)}
    (a__law_changed : PySem.W.nsIn K mainGlobals "_law_changed" = some (some (.ref f__law_changed)))
    (l__law_changed : K.lookup f__law_changed = some ⟨oc__law_changed, od__law_changed, .func (PySem.W.fnOf "_law_changed" "_law_changed" (defArgs s__law_changed) (defBody s__law_changed) (defScope s__law_changed) .none kV__law_changed dc__law_changed pm__law_changed an__law_changed cd__law_changed ct__law_changed), sl__law_changed⟩)
    (c__law_changed : PySem.W.codeIn K cd__law_changed "_law_changed" = true)
    (k__law_changed : PySem.W.keepIn K (.ref f__law_changed) = true)
    {f_law : Addr} {oc_law kV_law dc_law pm_law cd_law ct_law : Value} {od_law an_law : Option Addr} {sl_law : Array (Option Value)}
    (a_law : PySem.W.nsIn K mainGlobals "law" = some (some (.ref f_law)))
    (l_law : K.lookup f_law = some ⟨oc_law, od_law, .func (PySem.W.fnOf "law" "law" (defArgs s_law) (defBody s_law) (defScope s_law) .none kV_law dc_law pm_law an_law cd_law ct_law), sl_law⟩)
    (c_law : PySem.W.codeIn K cd_law "law" = true)
    (k_law : PySem.W.keepIn K (.ref f_law) = true)
    (cl0 : clsB K C0 = true)
    (mk0 : PySem.W.makesIn K C0 = true)
    (kc0 : PySem.W.keepIn K (.ref C0) = true)
    (xb1 : xpB K C1 = true)
    {nm2 q2 : Str} {N2 : Addr} {bs2 bm2 sub2 : List Value} {sn2 : List Str} {ab2 : Bool} {col2 : Option Bool} {dd2 : Option Addr} {e02 e12 e22 e32 e52 : Option Value}
    {f_InvalidStepper_init : Addr} {oc_InvalidStepper_init kV_InvalidStepper_init dc_InvalidStepper_init pm_InvalidStepper_init cd_InvalidStepper_init ct_InvalidStepper_init : Value} {od_InvalidStepper_init an_InvalidStepper_init : Option Addr} {sl_InvalidStepper_init : Array (Option Value)}
    (o2 : K.lookup C2 = some (excClassObj nm2 q2 C2 N2 bs2 bm2 true sn2 sub2 ab2 col2 dd2 e02 e12 e22 e32 e52 "ValueError.__new__"))
    (i_InvalidStepper_init : PySem.W.findIn K (.ref C2) "__init__" = some (some (.ref f_InvalidStepper_init)))
    (l_InvalidStepper_init : K.lookup f_InvalidStepper_init = some ⟨oc_InvalidStepper_init, od_InvalidStepper_init, .func (PySem.W.fnOf "__init__" "InvalidStepper.__init__" (defArgs s_InvalidStepper_init) (defBody s_InvalidStepper_init) (defScope s_InvalidStepper_init) .none kV_InvalidStepper_init dc_InvalidStepper_init pm_InvalidStepper_init an_InvalidStepper_init cd_InvalidStepper_init ct_InvalidStepper_init), sl_InvalidStepper_init⟩)
    (c_InvalidStepper_init : PySem.W.codeIn K cd_InvalidStepper_init "InvalidStepper.__init__" = true)
    (k_InvalidStepper_init : PySem.W.keepIn K (.ref f_InvalidStepper_init) = true)
    (rv2 : PySem.HandSPX.refsVE bm2 = true)
    (xb2 : xcB K C2 f_InvalidStepper_init "field" = true)
    {nm3 q3 : Str} {N3 : Addr} {bs3 bm3 sub3 : List Value} {sn3 : List Str} {ab3 : Bool} {col3 : Option Bool} {dd3 : Option Addr} {e03 e13 e23 e33 e53 : Option Value}
    {f_UnknownField_init : Addr} {oc_UnknownField_init kV_UnknownField_init dc_UnknownField_init pm_UnknownField_init cd_UnknownField_init ct_UnknownField_init : Value} {od_UnknownField_init an_UnknownField_init : Option Addr} {sl_UnknownField_init : Array (Option Value)}
    (o3 : K.lookup C3 = some (excClassObj nm3 q3 C3 N3 bs3 bm3 true sn3 sub3 ab3 col3 dd3 e03 e13 e23 e33 e53 "ValueError.__new__"))
    (i_UnknownField_init : PySem.W.findIn K (.ref C3) "__init__" = some (some (.ref f_UnknownField_init)))
    (l_UnknownField_init : K.lookup f_UnknownField_init = some ⟨oc_UnknownField_init, od_UnknownField_init, .func (PySem.W.fnOf "__init__" "UnknownField.__init__" (defArgs s_UnknownField_init) (defBody s_UnknownField_init) (defScope s_UnknownField_init) .none kV_UnknownField_init dc_UnknownField_init pm_UnknownField_init an_UnknownField_init cd_UnknownField_init ct_UnknownField_init), sl_UnknownField_init⟩)
    (c_UnknownField_init : PySem.W.codeIn K cd_UnknownField_init "UnknownField.__init__" = true)
    (k_UnknownField_init : PySem.W.keepIn K (.ref f_UnknownField_init) = true)
    (rv3 : PySem.HandSPX.refsVE bm3 = true)
    (xb3 : xcB K C3 f_UnknownField_init "field" = true)
    (isi : isiB K [C0, C1, C2, C3] [0] = true)
    (fld : fldB K [C0, C1, C2, C3] flds = true)
    (blt : blB K bls = true)
    (xsb : xsB K [C0, C1, C2, C3] exs = true)
    (xib : xiB K [C0, C1, C2, C3] exi = true)
    (con_SIGNS : conAt K "SIGNS" = some c_SIGNS)
    (con_MOST_SIGNS : conAt K "MOST_SIGNS" = some (.int 3))
    (con_MOST_DEEDS : conAt K "MOST_DEEDS" = some (.int 3))
    (con_KEEPS : conAt K "KEEPS" = some c_KEEPS)
    (con_TURNS : conAt K "TURNS" = some c_TURNS)
    (con_DEEDS : conAt K "DEEDS" = some c_DEEDS)
    (con_MOST_PASSES : conAt K "MOST_PASSES" = some (.int 2))
    (con_FIELDS : conAt K "FIELDS" = some c_FIELDS) :
    ∃ fd : FuncData, (∀ (s : Shared) (v : Value), BindsTo s fd ⟨[v], []⟩ [("_law_script", v)]) ∧ ∀ base : Heap, K.In base → base.Ns mainGlobals mg → FnOk l.prog w K mg base (L2.CX l.prog w) 14 fa fd ["_law_script"] (spLaw K) := by
  have e := hfa.symm.trans (PySem.W.mg_of X G a_law)
  cases e
  have F : Facts K mg C0 C1 C2 C3 := ⟨isiB_ok (T := (tb K C0 C1 C2 C3)) isi, (fun f cs hm => fldB_ok (T := (tb K C0 C1 C2 C3)) fld hm), blB_ok X G blt, PySem.W.mg_of X G aC0, clsB_ok cl0, mk0, kc0, PySem.W.mg_of X G aC1, PySem.W.mg_of X G aC2, PySem.W.mg_of X G aC3, xsB_ok (T := (tb K C0 C1 C2 C3)) xsb, xiB_ok (T := (tb K C0 C1 C2 C3)) xib, con_ok (T := (tb K C0 C1 C2 C3)) rfl X G con_SIGNS, con_ok (T := (tb K C0 C1 C2 C3)) rfl X G con_MOST_SIGNS, con_ok (T := (tb K C0 C1 C2 C3)) rfl X G con_MOST_DEEDS, con_ok (T := (tb K C0 C1 C2 C3)) rfl X G con_KEEPS, con_ok (T := (tb K C0 C1 C2 C3)) rfl X G con_TURNS, con_ok (T := (tb K C0 C1 C2 C3)) rfl X G con_DEEDS, con_ok (T := (tb K C0 C1 C2 C3)) rfl X G con_MOST_PASSES, con_ok (T := (tb K C0 C1 C2 C3)) rfl X G con_FIELDS⟩
  refine ⟨PySem.W.fnOf "law" "law" (defArgs s_law) (defBody s_law) (defScope s_law) .none kV_law dc_law pm_law an_law cd_law ct_law, fun s v => .of_eq rfl, fun base _ _ => ?_⟩
  exact (chain (P := l.prog) (w := w) (base := base) F (fun_mk (st := s_is_integer) l_is_integer c_is_integer k_is_integer) (PySem.W.mg_of X G a_is_integer) (fun_mk (st := s_is_text) l_is_text c_is_text k_is_text) (PySem.W.mg_of X G a_is_text) (fun_mk (st := s_is_one_of) l_is_one_of c_is_one_of k_is_one_of) (PySem.W.mg_of X G a_is_one_of) (fun_mk (st := s_are_deeds) l_are_deeds c_are_deeds k_are_deeds) (PySem.W.mg_of X G a_are_deeds) (fun_mk (st := s_need_fields) l_need_fields c_need_fields k_need_fields) (PySem.W.mg_of X G a_need_fields) (fun_mk (st := s_Stepper_init) l_Stepper_init c_Stepper_init k_Stepper_init) i_Stepper_init j_Stepper_init (fun_mk (st := s_Stepper_parts_told) l_Stepper_parts_told c_Stepper_parts_told k_Stepper_parts_told) i_Stepper_parts_told j_Stepper_parts_told (fun_mk (st := s_Stepper_eq) l_Stepper_eq c_Stepper_eq k_Stepper_eq) i_Stepper_eq j_Stepper_eq ⟨i_Stepper_eq, j_Stepper_eq, nt0⟩ ⟨⟨_, _, _, _, _, _, _, _, _, _, _, _, _, _, _, _, o0, ok0, oe0, on0⟩⟩ (fun_mk (st := s_Stepper_changed) l_Stepper_changed c_Stepper_changed k_Stepper_changed) i_Stepper_changed j_Stepper_changed (fun_mk (st := s__law_random) l__law_random c__law_random k__law_random) (PySem.W.mg_of X G a__law_random) (fun_mk (st := s__law_below) l__law_below c__law_below k__law_below) (PySem.W.mg_of X G a__law_below) (fun_mk (st := s__law_pick) l__law_pick c__law_pick k__law_pick) (PySem.W.mg_of X G a__law_pick) (fun_mk (st := s__law_equal) l__law_equal c__law_equal k__law_equal) (PySem.W.mg_of X G a__law_equal) (fun_mk (st := s__law_drawn) l__law_drawn c__law_drawn k__law_drawn) (PySem.W.mg_of X G a__law_drawn) (fun_mk (st := s__law_make) l__law_make c__law_make k__law_make) (PySem.W.mg_of X G a__law_make) (fun_mk (st := s__law_made) l__law_made c__law_made k__law_made) (PySem.W.mg_of X G a__law_made) (fun_mk (st := s__law_fault) l__law_fault c__law_fault k__law_fault) (PySem.W.mg_of X G a__law_fault) (fun_mk (st := s__law_changed) l__law_changed c__law_changed k__law_changed) (PySem.W.mg_of X G a__law_changed) (fun_mk (st := s_law) l_law c_law k_law) (PySem.W.mg_of X G a_law) (xc_plain (T := (tb K C0 C1 C2 C3)) rfl (PySem.W.mg_of X G aC1) xb1) (xc_init (T := (tb K C0 C1 C2 C3)) rfl (PySem.W.mg_of X G aC2) rfl o2 rv2 xb2 (fun_mk (st := s_InvalidStepper_init) l_InvalidStepper_init c_InvalidStepper_init k_InvalidStepper_init) sc_InvalidStepper_init rfl (by decide +kernel) (by decide +kernel) ((fun_mk (st := s_InvalidStepper_init) l_InvalidStepper_init c_InvalidStepper_init k_InvalidStepper_init).binds (ps := ["self", "field"]) fun _ _ _ _ _ _ us hl => match us, hl with | [_, _], _ => rfl)) (xc_init (T := (tb K C0 C1 C2 C3)) rfl (PySem.W.mg_of X G aC3) rfl o3 rv3 xb3 (fun_mk (st := s_UnknownField_init) l_UnknownField_init c_UnknownField_init k_UnknownField_init) sc_UnknownField_init rfl (by decide +kernel) (by decide +kernel) ((fun_mk (st := s_UnknownField_init) l_UnknownField_init c_UnknownField_init k_UnknownField_init).binds (ps := ["self", "field"]) fun _ _ _ _ _ _ us hl => match us, hl with | [_, _], _ => rfl))).imp (spLaw_le (T := (tb K C0 C1 C2 C3)) rfl law_true)
theorem walk {l : PySem.W.OpenLaw} {q : Program} {loose : List Str} {XP : (Str → Option Value) → Heap → Prop} {YP : World → Heap → Prop} {d : DefRec} {K : Params → PySem.W.Frag} (hn : l.most = some 63) (hdf : d.params.defaults = [])
    (hY : ∀ (w : World) (h : Heap), YP w h → (K w.params).In h)
    (F : ∀ (w : World) (mg : Str → Option Value) (fa : Addr) (h : Heap), (K w.params).In h → h.Ns mainGlobals mg → mg d.name = some (.ref fa) →
      ∃ fd : FuncData, (∀ (s : Shared) (u : Value), BindsTo s fd ⟨[u], []⟩ [("_law_script", u)]) ∧ ∀ base : Heap, (K w.params).In base → base.Ns mainGlobals mg → FnOk l.prog w (K w.params) mg base (L2.CX l.prog w) 14 fa fd ["_law_script"] (spLaw (K w.params))) :
    PySem.W.WalkO q loose XP YP l.row.toRowW d [] (fun f vs => PySem.call f vs) :=
  L2.walk_of (n := 63) (k := 14) (x := "_law_script") (CX := fun w => L2.CX l.prog w) (sp := fun w => spLaw (K w.params)) hn (by decide) hdf ⟨rfl, by decide, by decide⟩ hY F (fun _ _ a ns hl _ hS => ⟨a, ns, rfl, hS, hl, fun _ => rfl⟩) fun w H s e s' z => cx_no H s e s' z
end FL

open PySem PySem.W PyProof.Rows
set_option maxRecDepth 100000 in
set_option maxHeartbeats 0 in
theorem PySem.Challenge.cw_hitsteps_k01_steppers_kept_and_refused_holds : PySem.Challenge.rw_hitsteps_k01_steppers_kept_and_refused.Holds := by
  w_on; o_law; k_head; (case hw => w_witness2)
  k_fill
  refine FL.walk (l := PySem.Challenge.rw_hitsteps_k01_steppers_kept_and_refused) rfl rfl (fun w h Y => PySem.W.kIn_of Y) ?F
  case F =>
    intro w mg fa h KX G hmg
    refine' FL.all_mk KX G hmg ?aC0 ?aC1 ?aC2 ?aC3 ?a_is_integer ?l_is_integer ?c_is_integer ?k_is_integer ?a_is_text ?l_is_text ?c_is_text ?k_is_text ?a_is_one_of ?l_is_one_of ?c_is_one_of ?k_is_one_of ?a_are_deeds ?l_are_deeds ?c_are_deeds ?k_are_deeds ?a_need_fields ?l_need_fields ?c_need_fields ?k_need_fields ?i_Stepper_init ?j_Stepper_init ?l_Stepper_init ?c_Stepper_init ?k_Stepper_init ?i_Stepper_parts_told ?j_Stepper_parts_told ?l_Stepper_parts_told ?c_Stepper_parts_told ?k_Stepper_parts_told ?i_Stepper_eq ?j_Stepper_eq ?l_Stepper_eq ?c_Stepper_eq ?k_Stepper_eq ?o0 ?oe0 ?on0 ?nt0 ?ok0 ?i_Stepper_changed ?j_Stepper_changed ?l_Stepper_changed ?c_Stepper_changed ?k_Stepper_changed ?a__law_random ?l__law_random ?c__law_random ?k__law_random ?a__law_below ?l__law_below ?c__law_below ?k__law_below ?a__law_pick ?l__law_pick ?c__law_pick ?k__law_pick ?a__law_equal ?l__law_equal ?c__law_equal ?k__law_equal ?a__law_drawn ?l__law_drawn ?c__law_drawn ?k__law_drawn ?a__law_make ?l__law_make ?c__law_make ?k__law_make ?a__law_made ?l__law_made ?c__law_made ?k__law_made ?a__law_fault ?l__law_fault ?c__law_fault ?k__law_fault ?a__law_changed ?l__law_changed ?c__law_changed ?k__law_changed ?a_law ?l_law ?c_law ?k_law ?cl0 ?mk0 ?kc0 ?xb1 ?o2 ?i_InvalidStepper_init ?l_InvalidStepper_init ?c_InvalidStepper_init ?k_InvalidStepper_init ?rv2 ?xb2 ?o3 ?i_UnknownField_init ?l_UnknownField_init ?c_UnknownField_init ?k_UnknownField_init ?rv3 ?xb3 ?isi ?fld ?blt ?xsb ?xib ?con_SIGNS ?con_MOST_SIGNS ?con_MOST_DEEDS ?con_KEEPS ?con_TURNS ?con_DEEDS ?con_MOST_PASSES ?con_FIELDS
    (case aC0 => k_is)
    (case aC1 => k_is)
    (case aC2 => k_is)
    (case aC3 => k_is)
    (case a_is_integer => k_is)
    (case l_is_integer => k_is)
    (case c_is_integer => k_is)
    (case k_is_integer => k_is)
    (case a_is_text => k_is)
    (case l_is_text => k_is)
    (case c_is_text => k_is)
    (case k_is_text => k_is)
    (case a_is_one_of => k_is)
    (case l_is_one_of => k_is)
    (case c_is_one_of => k_is)
    (case k_is_one_of => k_is)
    (case a_are_deeds => k_is)
    (case l_are_deeds => k_is)
    (case c_are_deeds => k_is)
    (case k_are_deeds => k_is)
    (case a_need_fields => k_is)
    (case l_need_fields => k_is)
    (case c_need_fields => k_is)
    (case k_need_fields => k_is)
    (case i_Stepper_init => k_is)
    (case j_Stepper_init => k_is)
    (case l_Stepper_init => k_is)
    (case c_Stepper_init => k_is)
    (case k_Stepper_init => k_is)
    (case i_Stepper_parts_told => k_is)
    (case j_Stepper_parts_told => k_is)
    (case l_Stepper_parts_told => k_is)
    (case c_Stepper_parts_told => k_is)
    (case k_Stepper_parts_told => k_is)
    (case i_Stepper_eq => k_is)
    (case j_Stepper_eq => k_is)
    (case l_Stepper_eq => k_is)
    (case c_Stepper_eq => k_is)
    (case k_Stepper_eq => k_is)
    (case o0 => k_is)
    (case oe0 => k_is)
    (case on0 => k_is)
    (case nt0 => k_is)
    (case ok0 => kernel_rfl)
    (case i_Stepper_changed => k_is)
    (case j_Stepper_changed => k_is)
    (case l_Stepper_changed => k_is)
    (case c_Stepper_changed => k_is)
    (case k_Stepper_changed => k_is)
    (case a__law_random => k_is)
    (case l__law_random => k_is)
    (case c__law_random => k_is)
    (case k__law_random => k_is)
    (case a__law_below => k_is)
    (case l__law_below => k_is)
    (case c__law_below => k_is)
    (case k__law_below => k_is)
    (case a__law_pick => k_is)
    (case l__law_pick => k_is)
    (case c__law_pick => k_is)
    (case k__law_pick => k_is)
    (case a__law_equal => k_is)
    (case l__law_equal => k_is)
    (case c__law_equal => k_is)
    (case k__law_equal => k_is)
    (case a__law_drawn => k_is)
    (case l__law_drawn => k_is)
    (case c__law_drawn => k_is)
    (case k__law_drawn => k_is)
    (case a__law_make => k_is)
    (case l__law_make => k_is)
    (case c__law_make => k_is)
    (case k__law_make => k_is)
    (case a__law_made => k_is)
    (case l__law_made => k_is)
    (case c__law_made => k_is)
    (case k__law_made => k_is)
    (case a__law_fault => k_is)
    (case l__law_fault => k_is)
    (case c__law_fault => k_is)
    (case k__law_fault => k_is)
    (case a__law_changed => k_is)
    (case l__law_changed => k_is)
    (case c__law_changed => k_is)
    (case k__law_changed => k_is)
    (case a_law => k_is)
    (case l_law => k_is)
    (case c_law => k_is)
    (case k_law => k_is)
    (case cl0 => kernel_rfl)
    (case mk0 => k_is)
    (case kc0 => k_is)
    (case xb1 => kernel_rfl)
    (case o2 => k_is)
    (case i_InvalidStepper_init => k_is)
    (case l_InvalidStepper_init => k_is)
    (case c_InvalidStepper_init => k_is)
    (case k_InvalidStepper_init => k_is)
    (case rv2 => kernel_rfl)
    (case xb2 => kernel_rfl)
    (case o3 => k_is)
    (case i_UnknownField_init => k_is)
    (case l_UnknownField_init => k_is)
    (case c_UnknownField_init => k_is)
    (case k_UnknownField_init => k_is)
    (case rv3 => kernel_rfl)
    (case xb3 => kernel_rfl)
    (case isi => kernel_rfl)
    (case fld => kernel_rfl)
    (case blt => kernel_rfl)
    (case xsb => kernel_rfl)
    (case xib => kernel_rfl)
    (case con_SIGNS => kernel_rfl)
    (case con_MOST_SIGNS => kernel_rfl)
    (case con_MOST_DEEDS => kernel_rfl)
    (case con_KEEPS => kernel_rfl)
    (case con_TURNS => kernel_rfl)
    (case con_DEEDS => kernel_rfl)
    (case con_MOST_PASSES => kernel_rfl)
    (case con_FIELDS => kernel_rfl)
