import PyProof.Rows.All
import Wide.All
import OpenK.AllK
import Wide.FinOn
import HandS.ForMost
import HandS.Exc
import HandS.TupAny
import HandS.TupMul
import HandS.IsInst
import HandS.Style
import HandS.Deep
import HandS.Codes
import KE.DataEq
import HandS.CallSlots
import HandS.MakeKwOnly
import HandS.Property
import HandS.ExcOwn
import HandS.WordsExc
import HandS.Flow
import HandS.Small
import HandS.OwnEq
import HandS.Text
import PyProof.InstNe
import HandS.RaiseMore
import KE.GoesZip
import PyProof.EnumMake
import OpenK.KOps
import HandS.TryMany
import HandS.ExcInit
import HandS.ExcField
import HandS.ExcIs
import PySem.Challenge.RW_hitsteps_k15_whole_editors_led_by_steppe
set_option Elab.async false
set_option linter.all false
set_option maxRecDepth 100000
/-! FL1: the values U, the mutable cells, how they are borne by an abstract heap. -/
namespace FL
open PySem L2

/-- a value as data; ref i: the i-th mutable cell -/
inductive U where
  | non | bl (b : Bool) | int (i : Int) | str (x : List Nat)
  | tup (l : List U) | lst (l : List U) | sc (l : List U) | dct (l : List (U × U)) | ins (c : Nat) (l : List (Nat × U)) | ref (i : Nat)
  deriving Inhabited
/-- a mutable cell -/
inductive Ob where
  | dead | lst (l : List U) | dct (l : List (U × U)) | ins (c : Nat) (l : List (Nat × U))
  deriving Inhabited
/-- an exception: its class, its fields -/
structure Exn where
  cls : Nat
  fs : List (Nat × U)

/-- the names of a program: the written part, its classes, its attributes -/
structure Tb where
  K : PySem.W.Frag
  cls : List Addr
  att : List Str

abbrev SS (l : List Nat) : Str := ⟨l.toArray⟩
def keyU : Key → U
  | .inl i => .int i
  | .inr x => .str x.cps.toList

/-- a list that stands still -/
def SqS (K : PySem.W.Frag) (Z : Addr → Prop) (H : Hp) (a : Addr) (xs : List V) : Prop :=
  (Rd H a (.lst xs) ∧ ¬ Z a) ∨ ∃ (o : Obj) (its : Array Value) (n : Nat), K.lookup a = some o ∧ o.cls = .type "list" ∧ o.dict = none ∧ o.data = .seq its n ∧ its.size ≤ sizeLine ∧ Vals xs its.toList
theorem SqS.sqL {K : PySem.W.Frag} {Z : Addr → Prop} {H : Hp} {a : Addr} {xs : List V} (h : SqS K Z H a xs) : SqL K H a xs := h.elim (fun z => .inl z.1) .inr

mutual
inductive Rep (T : Tb) (ρ : List Addr) (Z : Addr → Prop) (H : Hp) : V → U → Prop
  | non : Rep T ρ Z H .non .non
  | bl (b : Bool) : Rep T ρ Z H (.bl b) (.bl b)
  | int (i : Int) : Rep T ρ Z H (.int i) (.int i)
  | str (x : Str) : Rep T ρ Z H (.str x) (.str x.cps.toList)
  | tup {a : Addr} {vs : List V} {us : List U} : SqT T.K H a vs → Reps T ρ Z H vs us → Rep T ρ Z H (.ref a) (.tup us)
  | lst {a : Addr} {vs : List V} {us : List U} : H a = some (.lst vs) → ¬ Z a → Reps T ρ Z H vs us → Rep T ρ Z H (.ref a) (.lst us)
  | sc {a : Addr} {vs : List V} {us : List U} : SqS T.K Z H a vs → Reps T ρ Z H vs us → Rep T ρ Z H (.ref a) (.sc us)
  | dct {a : Addr} {kvs : List (Key × V)} {l : List (U × U)} : H a = some (.dK kvs) → ¬ Z a → RepK T ρ Z H kvs l → Rep T ρ Z H (.ref a) (.dct l)
  | ins {a C dx : Addr} {c : Nat} {fv : List (Str × V)} {fu : List (Nat × U)} : H a = some (.ins C dx fv) → ¬ Z a → T.cls[c]? = some C → RepF T ρ Z H fv fu → Rep T ρ Z H (.ref a) (.ins c fu)
  | ref {a : Addr} {i : Nat} : ρ[i]? = some a → Rep T ρ Z H (.ref a) (.ref i)
inductive Reps (T : Tb) (ρ : List Addr) (Z : Addr → Prop) (H : Hp) : List V → List U → Prop
  | nil : Reps T ρ Z H [] []
  | cons {v : V} {u : U} {vs : List V} {us : List U} : Rep T ρ Z H v u → Reps T ρ Z H vs us → Reps T ρ Z H (v :: vs) (u :: us)
inductive RepF (T : Tb) (ρ : List Addr) (Z : Addr → Prop) (H : Hp) : List (Str × V) → List (Nat × U) → Prop
  | nil : RepF T ρ Z H [] []
  | cons {f : Str} {k : Nat} {v : V} {u : U} {vs : List (Str × V)} {us : List (Nat × U)} : T.att[k]? = some f → Rep T ρ Z H v u → RepF T ρ Z H vs us → RepF T ρ Z H ((f, v) :: vs) ((k, u) :: us)
inductive RepK (T : Tb) (ρ : List Addr) (Z : Addr → Prop) (H : Hp) : List (Key × V) → List (U × U) → Prop
  | nil : RepK T ρ Z H [] []
  | cons {k : Key} {v : V} {u : U} {vs : List (Key × V)} {us : List (U × U)} : Rep T ρ Z H v u → RepK T ρ Z H vs us → RepK T ρ Z H ((k, v) :: vs) ((keyU k, u) :: us)
end

/-- from (ρ, Z, H) to a later (ρ', Z', H'): what is frozen stays, the cells of others stay -/
structure Ex (ρ : List Addr) (Z : Addr → Prop) (H : Hp) (ρ' : List Addr) (Z' : Addr → Prop) (H' : Hp) : Prop where
  pre : ∃ t, ρ' = ρ ++ t
  fz : ∀ a o, H a = some o → ¬ Z a → H' a = some o ∧ ¬ Z' a
  ou : ∀ a o, H a = some o → Z a → a ∉ ρ → H' a = some o ∧ Z' a ∧ a ∉ ρ'
  th : ∀ a, H a ≠ none → H' a ≠ none
theorem Ex.refl {ρ : List Addr} {Z : Addr → Prop} {H : Hp} : Ex ρ Z H ρ Z H := ⟨⟨[], by simp⟩, fun _ _ h z => ⟨h, z⟩, fun _ _ h z n => ⟨h, z, n⟩, fun _ h => h⟩
theorem Ex.trans {ρ ρ1 ρ2 : List Addr} {Z Z1 Z2 : Addr → Prop} {H H1 H2 : Hp} (x : Ex ρ Z H ρ1 Z1 H1) (y : Ex ρ1 Z1 H1 ρ2 Z2 H2) : Ex ρ Z H ρ2 Z2 H2 := by
  refine ⟨?_, fun a o h z => ?_, fun a o h z n => ?_, fun a h => y.th a (x.th a h)⟩
  · obtain ⟨t, e⟩ := x.pre
    obtain ⟨u, e'⟩ := y.pre
    exact ⟨t ++ u, by rw [e', e, List.append_assoc]⟩
  · obtain ⟨h1, z1⟩ := x.fz a o h z
    exact y.fz a o h1 z1
  · obtain ⟨h1, z1, n1⟩ := x.ou a o h z n
    exact y.ou a o h1 z1 n1

def ObAt (T : Tb) (ρ : List Addr) (Z : Addr → Prop) (H : Hp) (a : Addr) : Ob → Prop
  | .dead => True
  | .lst us => Z a ∧ ∃ vs, H a = some (.lst vs) ∧ Reps T ρ Z H vs us
  | .dct l => Z a ∧ ∃ kvs, H a = some (.dK kvs) ∧ RepK T ρ Z H kvs l
  | .ins c fu => Z a ∧ ∃ C dx fv, H a = some (.ins C dx fv) ∧ T.cls[c]? = some C ∧ RepF T ρ Z H fv fu

/-- the cells G are borne at ρ -/
structure Rl (T : Tb) (ρ : List Addr) (Z : Addr → Prop) (G : List Ob) (H : Hp) : Prop where
  len : ρ.length = G.length
  nd : ρ.Nodup
  zm : ∀ a, Z a → Mut (H a)
  trk : ∀ a ∈ ρ, H a ≠ none
  ob : ∀ (i : Nat) (a : Addr) (o : Ob), ρ[i]? = some a → G[i]? = some o → ObAt T ρ Z H a o

section
variable {T : Tb} {ρ ρ' : List Addr} {Z Z' : Addr → Prop} {H H' : Hp}

theorem pre_get {α : Type} {ρ ρ' t : List α} (e : ρ' = ρ ++ t) {i : Nat} {a : α} (h : ρ[i]? = some a) : ρ'[i]? = some a := by
  rw [e, List.getElem?_append_left (List.getElem?_eq_some_iff.mp h).1]
  exact h
theorem sqT_ex (zm : ∀ a, Z a → Mut (H a)) (fz : ∀ a o, H a = some o → ¬ Z a → H' a = some o ∧ ¬ Z' a) {K : PySem.W.Frag} {a : Addr} {vs : List V} (h : SqT K H a vs) : SqT K H' a vs := by
  rcases h with (h | ⟨o, h⟩) | h
  · exact .inl (.inl (fz a _ h fun z => by have m := zm a z; rw [h] at m; exact m).1)
  · exact .inl (.inr ⟨o, (fz a _ h fun z => by have m := zm a z; rw [h] at m; exact m).1⟩)
  · exact .inr h
theorem sqS_ex (fz : ∀ a o, H a = some o → ¬ Z a → H' a = some o ∧ ¬ Z' a) {K : PySem.W.Frag} {a : Addr} {vs : List V} (h : SqS K Z H a vs) : SqS K Z' H' a vs := by
  rcases h with ⟨h | ⟨o, h⟩, z⟩ | h
  · exact .inl ⟨.inl (fz a _ h z).1, (fz a _ h z).2⟩
  · exact .inl ⟨.inr ⟨o, (fz a _ h z).1⟩, (fz a _ h z).2⟩
  · exact .inr h

mutual
theorem Rep.exf (hp : ∃ t, ρ' = ρ ++ t) (fz : ∀ a o, H a = some o → ¬ Z a → H' a = some o ∧ ¬ Z' a) (zm : ∀ a, Z a → Mut (H a)) : ∀ {v : V} {u : U}, Rep T ρ Z H v u → Rep T ρ' Z' H' v u
  | _, _, .non => .non
  | _, _, .bl b => .bl b
  | _, _, .int i => .int i
  | _, _, .str l => .str l
  | _, _, .tup h r => .tup (sqT_ex zm fz h) (Reps.exf hp fz zm r)
  | _, _, .lst h z r => .lst (fz _ _ h z).1 (fz _ _ h z).2 (Reps.exf hp fz zm r)
  | _, _, .sc h r => .sc (sqS_ex fz h) (Reps.exf hp fz zm r)
  | _, _, .dct h z r => .dct (fz _ _ h z).1 (fz _ _ h z).2 (RepK.exf hp fz zm r)
  | _, _, .ins h z c r => .ins (fz _ _ h z).1 (fz _ _ h z).2 c (RepF.exf hp fz zm r)
  | _, _, .ref h => .ref (by obtain ⟨t, e⟩ := hp; exact pre_get e h)
theorem Reps.exf (hp : ∃ t, ρ' = ρ ++ t) (fz : ∀ a o, H a = some o → ¬ Z a → H' a = some o ∧ ¬ Z' a) (zm : ∀ a, Z a → Mut (H a)) : ∀ {v : List V} {u : List U}, Reps T ρ Z H v u → Reps T ρ' Z' H' v u
  | _, _, .nil => .nil
  | _, _, .cons r t => .cons (Rep.exf hp fz zm r) (Reps.exf hp fz zm t)
theorem RepF.exf (hp : ∃ t, ρ' = ρ ++ t) (fz : ∀ a o, H a = some o → ¬ Z a → H' a = some o ∧ ¬ Z' a) (zm : ∀ a, Z a → Mut (H a)) : ∀ {v : List (Str × V)} {u : List (Nat × U)}, RepF T ρ Z H v u → RepF T ρ' Z' H' v u
  | _, _, .nil => .nil
  | _, _, .cons e r t => .cons e (Rep.exf hp fz zm r) (RepF.exf hp fz zm t)
theorem RepK.exf (hp : ∃ t, ρ' = ρ ++ t) (fz : ∀ a o, H a = some o → ¬ Z a → H' a = some o ∧ ¬ Z' a) (zm : ∀ a, Z a → Mut (H a)) : ∀ {v : List (Key × V)} {u : List (U × U)}, RepK T ρ Z H v u → RepK T ρ' Z' H' v u
  | _, _, .nil => .nil
  | _, _, .cons r t => .cons (Rep.exf hp fz zm r) (RepK.exf hp fz zm t)
end
theorem Rep.ex (zm : ∀ a, Z a → Mut (H a)) (x : Ex ρ Z H ρ' Z' H') {v : V} {u : U} (r : Rep T ρ Z H v u) : Rep T ρ' Z' H' v u := r.exf x.pre x.fz zm
theorem Reps.ex (zm : ∀ a, Z a → Mut (H a)) (x : Ex ρ Z H ρ' Z' H') {v : List V} {u : List U} (r : Reps T ρ Z H v u) : Reps T ρ' Z' H' v u := r.exf x.pre x.fz zm
theorem RepF.ex (zm : ∀ a, Z a → Mut (H a)) (x : Ex ρ Z H ρ' Z' H') {v : List (Str × V)} {u : List (Nat × U)} (r : RepF T ρ Z H v u) : RepF T ρ' Z' H' v u := r.exf x.pre x.fz zm
theorem RepK.ex (zm : ∀ a, Z a → Mut (H a)) (x : Ex ρ Z H ρ' Z' H') {v : List (Key × V)} {u : List (U × U)} (r : RepK T ρ Z H v u) : RepK T ρ' Z' H' v u := r.exf x.pre x.fz zm
end
end FL

/-! FL2: the monad, the readings tE (of an expression), tS (of a statement). -/
namespace FL
open PySem L2

/-- what an evaluation gives -/
inductive Rs (α : Type) where
  | ok (a : α) (G : List Ob) | exc (x : Exn) (G : List Ob) | bad
@[reducible] def Sg := List (Option U)
abbrev ME := Sg → List Ob → Rs U
abbrev MA := Sg → List Ob → Rs (List U)
def Rs.bind {α β : Type} : Rs α → (α → List Ob → Rs β) → Rs β
  | .ok a G, f => f a G
  | .exc x G, _ => .exc x G
  | .bad, _ => .bad
/-- what a statement gives -/
inductive Rt where
  | nx (s : Sg) (G : List Ob) | rt (u : U) (G : List Ob) | bk (s : Sg) (G : List Ob) | ct (s : Sg) (G : List Ob) | exc (x : Exn) (s : Sg) (G : List Ob) | bad
abbrev MS := Sg → List Ob → Rt

/-- the frame's values -/
def Fm (T : Tb) (ρ : List Addr) (Z : Addr → Prop) (H : Hp) (σ : St) (s : Sg) : Prop :=
  σ.length = s.length ∧ ∀ (i : Nat) (u : U), s[i]? = some (some u) → ∃ v, σ[i]? = some (some v) ∧ Rep T ρ Z H v u
structure Sm (T : Tb) (σ : St) (H : Hp) (s : Sg) (G : List Ob) (ρ : List Addr) (Z : Addr → Prop) : Prop where
  rl : Rl T ρ Z G H
  fm : Fm T ρ Z H σ s
/-- how an exception stands -/
def ExAt (T : Tb) (x : Exn) (cls : Value) (d : Option Addr) (H : Hp) : Prop :=
  ∃ C, T.cls[x.cls]? = some C ∧ cls = .ref C ∧ ((x.fs = [] ∧ d = none) ∨ ∃ dd fv, d = some dd ∧ H dd = some (.xd fv) ∧ RepF T [] (fun _ => False) H fv x.fs)
section
variable (T : Tb) (W : WX)
def EEnd (σ : St) (H : Hp) (ρ : List Addr) (Z : Addr → Prop) (x : Exn) (G' : List Ob) : Prop :=
  ∀ cls d H' ρ' Z', Ex ρ Z H ρ' Z' H' → Rl T ρ' Z' G' H' → ExAt T x cls d H' → W cls d σ H'
def RE (σ : St) (H : Hp) (ρ : List Addr) (Z : Addr → Prop) (Q : VK) : Rs U → Prop
  | .ok u G' => ∀ v H' ρ' Z', Ex ρ Z H ρ' Z' H' → Rl T ρ' Z' G' H' → Rep T ρ' Z' H' v u → Q v H'
  | .exc x G' => EEnd T W σ H ρ Z x G'
  | .bad => False
def RA (σ : St) (H : Hp) (ρ : List Addr) (Z : Addr → Prop) (Q : List V → Hp → Prop) : Rs (List U) → Prop
  | .ok u G' => ∀ v H' ρ' Z', Ex ρ Z H ρ' Z' H' → Rl T ρ' Z' G' H' → Reps T ρ' Z' H' v u → Q v H'
  | .exc x G' => EEnd T W σ H ρ Z x G'
  | .bad => False
def RB (σ : St) (H : Hp) (ρ : List Addr) (Z : Addr → Prop) (Q : Bool → Hp → Prop) : Rs Bool → Prop
  | .ok u G' => ∀ H' ρ' Z', Ex ρ Z H ρ' Z' H' → Rl T ρ' Z' G' H' → Q u H'
  | .exc x G' => EEnd T W σ H ρ Z x G'
  | .bad => False
def tE (m : ME) : TE := fun σ H Q => ∃ s G ρ Z, Sm T σ H s G ρ Z ∧ RE T W σ H ρ Z Q (m s G)
def tA (m : MA) : TA := fun σ H Q => ∃ s G ρ Z, Sm T σ H s G ρ Z ∧ RA T W σ H ρ Z Q (m s G)
def tT (m : Sg → List Ob → Rs Bool) : TT := fun σ H Q => ∃ s G ρ Z, Sm T σ H s G ρ Z ∧ RB T W σ H ρ Z Q (m s G)
def RS (σ : St) (H : Hp) (ρ : List Addr) (Z : Addr → Prop) (D : Ends) : Rt → Prop
  | .nx s G => ∀ σ' H' ρ' Z', Ex ρ Z H ρ' Z' H' → Sm T σ' H' s G ρ' Z' → D.nx σ' H'
  | .rt u G => ∀ v H' ρ' Z', Ex ρ Z H ρ' Z' H' → Rl T ρ' Z' G H' → Rep T ρ' Z' H' v u → D.rt v H'
  | .bk s G => ∀ σ' H' ρ' Z', Ex ρ Z H ρ' Z' H' → Sm T σ' H' s G ρ' Z' → D.bk σ' H'
  | .ct s G => ∀ σ' H' ρ' Z', Ex ρ Z H ρ' Z' H' → Sm T σ' H' s G ρ' Z' → D.ct σ' H'
  | .exc x s G => ∀ cls d σ' H' ρ' Z', Ex ρ Z H ρ' Z' H' → Sm T σ' H' s G ρ' Z' → ExAt T x cls d H' → W cls d σ' H'
  | .bad => False
def tS (m : MS) : TS := fun D σ H => ∃ s G ρ Z, Sm T σ H s G ρ Z ∧ RS T W σ H ρ Z D (m s G)
end

section
variable {T : Tb} {W : WX} {σ σ' : St} {H H' : Hp} {ρ ρ' : List Addr} {Z Z' : Addr → Prop} {s : Sg} {G : List Ob}
theorem Fm.ex (zm : ∀ a, Z a → Mut (H a)) (x : Ex ρ Z H ρ' Z' H') (f : Fm T ρ Z H σ s) : Fm T ρ' Z' H' σ s :=
  ⟨f.1, fun i u e => let ⟨v, e1, r⟩ := f.2 i u e; ⟨v, e1, r.ex zm x⟩⟩
theorem Sm.ex {G' : List Ob} (m : Sm T σ H s G ρ Z) (x : Ex ρ Z H ρ' Z' H') (r : Rl T ρ' Z' G' H') : Sm T σ H' s G' ρ' Z' := ⟨r, m.fm.ex m.rl.zm x⟩
theorem EEnd.ex {x : Exn} (e : EEnd T W σ H ρ Z x G) (y : Ex ρ Z H ρ' Z' H') : EEnd T W σ H' ρ' Z' x G :=
  fun cls d H2 ρ2 Z2 z r a => e cls d H2 ρ2 Z2 (y.trans z) r a
theorem RE.ex {Q : VK} {r : Rs U} (e : RE T W σ H ρ Z Q r) (y : Ex ρ Z H ρ' Z' H') : RE T W σ H' ρ' Z' Q r := by
  cases r with
  | ok u G' => exact fun v H2 ρ2 Z2 z => e v H2 ρ2 Z2 (y.trans z)
  | exc x G' => exact EEnd.ex e y
  | bad => exact e
theorem RA.ex {Q : List V → Hp → Prop} {r : Rs (List U)} (e : RA T W σ H ρ Z Q r) (y : Ex ρ Z H ρ' Z' H') : RA T W σ H' ρ' Z' Q r := by
  cases r with
  | ok u G' => exact fun v H2 ρ2 Z2 z => e v H2 ρ2 Z2 (y.trans z)
  | exc x G' => exact EEnd.ex e y
  | bad => exact e
theorem RB.ex {Q : Bool → Hp → Prop} {r : Rs Bool} (e : RB T W σ H ρ Z Q r) (y : Ex ρ Z H ρ' Z' H') : RB T W σ H' ρ' Z' Q r := by
  cases r with
  | ok u G' => exact fun H2 ρ2 Z2 z => e H2 ρ2 Z2 (y.trans z)
  | exc x G' => exact EEnd.ex e y
  | bad => exact e
theorem RS.ex {D : Ends} {r : Rt} (e : RS T W σ H ρ Z D r) (y : Ex ρ Z H ρ' Z' H') : RS T W σ' H' ρ' Z' D r := by
  cases r with
  | nx s G => exact fun s2 H2 ρ2 Z2 z => e s2 H2 ρ2 Z2 (y.trans z)
  | rt u G => exact fun v H2 ρ2 Z2 z => e v H2 ρ2 Z2 (y.trans z)
  | bk s G => exact fun s2 H2 ρ2 Z2 z => e s2 H2 ρ2 Z2 (y.trans z)
  | ct s G => exact fun s2 H2 ρ2 Z2 z => e s2 H2 ρ2 Z2 (y.trans z)
  | exc x s G => exact fun cls d s2 H2 ρ2 Z2 z => e cls d s2 H2 ρ2 Z2 (y.trans z)
  | bad => exact e

/-- the central step: an expression, then what follows -/
theorem tE_step {m : ME} {r : Rs U} {k : VK} {E : EEnd T W σ H ρ Z = EEnd T W σ H ρ Z} (sm : Sm T σ H s G ρ Z) (e : m s G = r)
    (ho : ∀ u G', r = .ok u G' → ∀ v H' ρ' Z', Ex ρ Z H ρ' Z' H' → Sm T σ H' s G' ρ' Z' → Rep T ρ' Z' H' v u → k v H') (hx : ∀ x G', r = .exc x G' → EEnd T W σ H ρ Z x G') (hb : r ≠ .bad) : tE T W m σ H k := by
  refine ⟨s, G, ρ, Z, sm, ?_⟩
  rw [e]
  cases r with
  | ok u G' => exact fun v H' ρ' Z' x rl rp => ho u G' rfl v H' ρ' Z' x (sm.ex x rl) rp
  | exc x G' => exact hx x G' rfl
  | bad => exact absurd rfl hb
/-- m, then f -/
theorem tE_bind {m : ME} {f : U → List Ob → Rs U} {Q : VK} {k : VK} (sm : Sm T σ H s G ρ Z) (h : RE T W σ H ρ Z Q ((m s G).bind f))
    (hk : ∀ u G' v H' ρ' Z', Ex ρ Z H ρ' Z' H' → Sm T σ H' s G' ρ' Z' → Rep T ρ' Z' H' v u → RE T W σ H' ρ' Z' Q (f u G') → k v H') : tE T W m σ H k := by
  refine ⟨s, G, ρ, Z, sm, ?_⟩
  cases e : m s G with
  | ok u G' =>
    rw [e] at h
    exact fun v H' ρ' Z' x rl rp => hk u G' v H' ρ' Z' x (sm.ex x rl) rp (RE.ex h x)
  | exc x G' => rw [e] at h; exact h
  | bad => rw [e] at h; exact h
theorem tE_bindA {m : ME} {f : U → List Ob → Rs (List U)} {Q : List V → Hp → Prop} {k : VK} (sm : Sm T σ H s G ρ Z) (h : RA T W σ H ρ Z Q ((m s G).bind f))
    (hk : ∀ u G' v H' ρ' Z', Ex ρ Z H ρ' Z' H' → Sm T σ H' s G' ρ' Z' → Rep T ρ' Z' H' v u → RA T W σ H' ρ' Z' Q (f u G') → k v H') : tE T W m σ H k := by
  refine ⟨s, G, ρ, Z, sm, ?_⟩
  cases e : m s G with
  | ok u G' =>
    rw [e] at h
    exact fun v H' ρ' Z' x rl rp => hk u G' v H' ρ' Z' x (sm.ex x rl) rp (RA.ex h x)
  | exc x G' => rw [e] at h; exact h
  | bad => rw [e] at h; exact h
theorem tA_bind {m : MA} {f : List U → List Ob → Rs U} {Q : VK} {k : List V → Hp → Prop} (sm : Sm T σ H s G ρ Z) (h : RE T W σ H ρ Z Q ((m s G).bind f))
    (hk : ∀ u G' v H' ρ' Z', Ex ρ Z H ρ' Z' H' → Sm T σ H' s G' ρ' Z' → Reps T ρ' Z' H' v u → RE T W σ H' ρ' Z' Q (f u G') → k v H') : tA T W m σ H k := by
  refine ⟨s, G, ρ, Z, sm, ?_⟩
  cases e : m s G with
  | ok u G' =>
    rw [e] at h
    exact fun v H' ρ' Z' x rl rp => hk u G' v H' ρ' Z' x (sm.ex x rl) rp (RE.ex h x)
  | exc x G' => rw [e] at h; exact h
  | bad => rw [e] at h; exact h
theorem tE_bindB {m : ME} {f : U → List Ob → Rs Bool} {Q : Bool → Hp → Prop} {k : VK} (sm : Sm T σ H s G ρ Z) (h : RB T W σ H ρ Z Q ((m s G).bind f))
    (hk : ∀ u G' v H' ρ' Z', Ex ρ Z H ρ' Z' H' → Sm T σ H' s G' ρ' Z' → Rep T ρ' Z' H' v u → RB T W σ H' ρ' Z' Q (f u G') → k v H') : tE T W m σ H k := by
  refine ⟨s, G, ρ, Z, sm, ?_⟩
  cases e : m s G with
  | ok u G' =>
    rw [e] at h
    exact fun v H' ρ' Z' x rl rp => hk u G' v H' ρ' Z' x (sm.ex x rl) rp (RB.ex h x)
  | exc x G' => rw [e] at h; exact h
  | bad => rw [e] at h; exact h
theorem tT_bind {m : Sg → List Ob → Rs Bool} {f : Bool → List Ob → Rs U} {Q : VK} {k : Bool → Hp → Prop} (sm : Sm T σ H s G ρ Z) (h : RE T W σ H ρ Z Q ((m s G).bind f))
    (hk : ∀ u G' H' ρ' Z', Ex ρ Z H ρ' Z' H' → Sm T σ H' s G' ρ' Z' → RE T W σ H' ρ' Z' Q (f u G') → k u H') : tT T W m σ H k := by
  refine ⟨s, G, ρ, Z, sm, ?_⟩
  cases e : m s G with
  | ok u G' =>
    rw [e] at h
    exact fun H' ρ' Z' x rl => hk u G' H' ρ' Z' x (sm.ex x rl) (RE.ex h x)
  | exc x G' => rw [e] at h; exact h
  | bad => rw [e] at h; exact h
theorem tT_bindB {m : Sg → List Ob → Rs Bool} {f : Bool → List Ob → Rs Bool} {Q : Bool → Hp → Prop} {k : Bool → Hp → Prop} (sm : Sm T σ H s G ρ Z) (h : RB T W σ H ρ Z Q ((m s G).bind f))
    (hk : ∀ u G' H' ρ' Z', Ex ρ Z H ρ' Z' H' → Sm T σ H' s G' ρ' Z' → RB T W σ H' ρ' Z' Q (f u G') → k u H') : tT T W m σ H k := by
  refine ⟨s, G, ρ, Z, sm, ?_⟩
  cases e : m s G with
  | ok u G' =>
    rw [e] at h
    exact fun H' ρ' Z' x rl => hk u G' H' ρ' Z' x (sm.ex x rl) (RB.ex h x)
  | exc x G' => rw [e] at h; exact h
  | bad => rw [e] at h; exact h
end

/-! ### the judgements, weakened -/
section
variable {X : Cx}
theorem PE.imp {e : Expr} {t t' : TE} (h : PE X e t) (i : ∀ σ H Q, t' σ H Q → t σ H Q) : PE X e t' := ⟨fun pins s σ H Q I q => h.run pins s σ H Q I (i σ H Q q)⟩
theorem PT.imp {e : Expr} {t t' : TT} (h : PT X e t) (i : ∀ σ H Q, t' σ H Q → t σ H Q) : PT X e t' := ⟨fun pins s σ H Q I q => h.run pins s σ H Q I (i σ H Q q)⟩
theorem PW.imp {e : Expr} {t t' : TT} (h : PW X e t) (i : ∀ σ H Q, t' σ H Q → t σ H Q) : PW X e t' := ⟨fun wh pins s σ H Q I q => h.run wh pins s σ H Q I (i σ H Q q)⟩
theorem PA.imp {e : List Expr} {t t' : TA} (h : PA X e t) (i : ∀ σ H Q, t' σ H Q → t σ H Q) : PA X e t' := ⟨fun pos pins s σ H Q I q => h.run pos pins s σ H Q I (i σ H Q q)⟩
theorem PS.imp {e : Stmt} {t t' : TS} (h : PS X e t) (i : ∀ D σ H, t' D σ H → t D σ H) : PS X e t' := ⟨fun pins s σ H D I q => h.run pins s σ H D I (i D σ H q)⟩
theorem PSs.imp {e : List Stmt} {t t' : TS} (h : PSs X e t) (i : ∀ D σ H, t' D σ H → t D σ H) : PSs X e t' := ⟨fun pins s σ H D I q => h.run pins s σ H D I (i D σ H q)⟩
theorem PG.imp {e : Expr} {t t' : TG} (h : PG X e t) (i : ∀ v σ H Q, t' v σ H Q → t v σ H Q) : PG X e t' := ⟨fun pins s σ H v u Q I r q => h.run pins s σ H v u Q I r (i v σ H Q q)⟩
theorem PE.bad {e : Expr} {T : Tb} {W : WX} {m : ME} (h : ∀ s G, m s G = .bad) : PE X e (tE T W m) := ⟨fun _ _ _ _ _ _ ⟨s, G, _, _, _, q⟩ => by rw [h] at q; exact q.elim⟩
theorem PT.bad {e : Expr} {T : Tb} {W : WX} {m : Sg → List Ob → Rs Bool} (h : ∀ s G, m s G = .bad) : PT X e (tT T W m) := ⟨fun _ _ _ _ _ _ ⟨s, G, _, _, _, q⟩ => by rw [h] at q; exact q.elim⟩
theorem PA.bad {e : List Expr} {T : Tb} {W : WX} {m : MA} (h : ∀ s G, m s G = .bad) : PA X e (tA T W m) := ⟨fun _ _ _ _ _ _ _ ⟨s, G, _, _, _, q⟩ => by rw [h] at q; exact q.elim⟩
theorem PS.bad {e : Stmt} {T : Tb} {W : WX} {m : MS} (h : ∀ s G, m s G = .bad) : PS X e (tS T W m) := ⟨fun _ _ _ _ _ _ ⟨s, G, _, _, _, q⟩ => by rw [h] at q; exact q.elim⟩
theorem PSs.bad {e : List Stmt} {T : Tb} {W : WX} {m : MS} (h : ∀ s G, m s G = .bad) : PSs X e (tS T W m) := ⟨fun _ _ _ _ _ _ ⟨s, G, _, _, _, q⟩ => by rw [h] at q; exact q.elim⟩
end
end FL

/-! FL3: what stands behind a value; new objects; names, constants, operators. -/
namespace FL
open PySem L2
abbrev szL : Nat := 16777216
theorem szL_eq : sizeLine = szL := sizeLine_eq

section
variable {T : Tb} {W : WX} {σ σ' : St} {H H' : Hp} {ρ ρ' : List Addr} {Z Z' : Addr → Prop} {s : Sg} {G : List Ob}
theorem Rep.inv_int {v : V} {i : Int} (r : Rep T ρ Z H v (.int i)) : v = .int i := by cases r; rfl
theorem Rep.inv_bl {v : V} {i : Bool} (r : Rep T ρ Z H v (.bl i)) : v = .bl i := by cases r; rfl
theorem Rep.inv_non {v : V} (r : Rep T ρ Z H v .non) : v = .non := by cases r; rfl
theorem Rep.inv_str {v : V} {l : List Nat} (r : Rep T ρ Z H v (.str l)) : v = .str (SS l) := by
  cases r with
  | str x => simp [SS]
theorem SS_tl (x : Str) : SS x.cps.toList = x := by simp [SS]
theorem tl_SS (l : List Nat) : (SS l).cps.toList = l := by simp [SS]
theorem Rep.ss (l : List Nat) : Rep T ρ Z H (.str (SS l)) (.str l) := by
  have h : Rep T ρ Z H (.str (SS l)) (.str (SS l).cps.toList) := .str _
  rw [tl_SS] at h
  exact h
theorem Rep.inv_tup {v : V} {us : List U} (r : Rep T ρ Z H v (.tup us)) : ∃ a vs, v = .ref a ∧ SqT T.K H a vs ∧ Reps T ρ Z H vs us := by
  cases r with
  | tup h q => exact ⟨_, _, rfl, h, q⟩
theorem Rep.inv_lst {v : V} {us : List U} (r : Rep T ρ Z H v (.lst us)) : ∃ a vs, v = .ref a ∧ H a = some (.lst vs) ∧ ¬ Z a ∧ Reps T ρ Z H vs us := by
  cases r with
  | lst h z q => exact ⟨_, _, rfl, h, z, q⟩
theorem Rep.inv_sc {v : V} {us : List U} (r : Rep T ρ Z H v (.sc us)) : ∃ a vs, v = .ref a ∧ SqL T.K H a vs ∧ Reps T ρ Z H vs us := by
  cases r with
  | sc h q => exact ⟨_, _, rfl, h.sqL, q⟩
theorem Rep.inv_ref {v : V} {i : Nat} (r : Rep T ρ Z H v (.ref i)) : ∃ a, v = .ref a ∧ ρ[i]? = some a := by
  cases r with
  | ref h => exact ⟨_, rfl, h⟩

theorem Reps.length : ∀ {vs : List V} {us : List U}, Reps T ρ Z H vs us → vs.length = us.length
  | _, _, .nil => rfl
  | _, _, .cons _ t => congrArg (· + 1) (Reps.length t)
theorem Reps.get : ∀ {vs : List V} {us : List U} {i : Nat} {u : U}, Reps T ρ Z H vs us → us[i]? = some u → ∃ v, vs[i]? = some v ∧ Rep T ρ Z H v u
  | _, _, _, _, .nil, e => by simp at e
  | _, _, 0, _, .cons r _, e => by simp at e; subst e; exact ⟨_, rfl, r⟩
  | _, _, i + 1, u, .cons _ t, e => by
    obtain ⟨v, h1, h2⟩ := Reps.get (i := i) (u := u) t (by simpa using e)
    exact ⟨v, by simpa using h1, h2⟩
theorem Reps.append : ∀ {vs ws : List V} {us xs : List U}, Reps T ρ Z H vs us → Reps T ρ Z H ws xs → Reps T ρ Z H (vs ++ ws) (us ++ xs)
  | _, _, _, _, .nil, q => q
  | _, _, _, _, .cons r t, q => .cons r (Reps.append t q)
theorem Reps.take : ∀ {vs : List V} {us : List U} (n : Nat), Reps T ρ Z H vs us → Reps T ρ Z H (vs.take n) (us.take n)
  | _, _, 0, _ => by simp; exact .nil
  | _, _, _ + 1, .nil => .nil
  | _, _, n + 1, .cons r t => .cons r (Reps.take n t)
theorem Reps.drop : ∀ {vs : List V} {us : List U} (n : Nat), Reps T ρ Z H vs us → Reps T ρ Z H (vs.drop n) (us.drop n)
  | _, _, 0, r => r
  | _, _, _ + 1, .nil => .nil
  | _, _, n + 1, .cons _ t => Reps.drop n t
theorem Reps.set {v : V} {u : U} (r : Rep T ρ Z H v u) : ∀ {vs : List V} {us : List U} (n : Nat), Reps T ρ Z H vs us → Reps T ρ Z H (vs.set n v) (us.set n u)
  | _, _, _, .nil => .nil
  | _, _, 0, .cons _ t => .cons r t
  | _, _, n + 1, .cons q t => .cons q (Reps.set r n t)
theorem Reps.eraseIdx : ∀ {vs : List V} {us : List U} (n : Nat), Reps T ρ Z H vs us → Reps T ρ Z H (vs.eraseIdx n) (us.eraseIdx n)
  | _, _, _, .nil => .nil
  | _, _, 0, .cons _ t => t
  | _, _, n + 1, .cons q t => .cons q (Reps.eraseIdx n t)
theorem Reps.dropLast {vs : List V} {us : List U} (r : Reps T ρ Z H vs us) : Reps T ρ Z H vs.dropLast us.dropLast := by
  rw [List.dropLast_eq_take, List.dropLast_eq_take, r.length]
  exact r.take _
theorem Reps.reverse : ∀ {vs : List V} {us : List U}, Reps T ρ Z H vs us → Reps T ρ Z H vs.reverse us.reverse
  | _, _, .nil => .nil
  | _, _, .cons r t => by
    rw [List.reverse_cons, List.reverse_cons]
    exact (Reps.reverse t).append (.cons r .nil)
theorem Reps.rep {vs : List V} {us : List U} (r : Reps T ρ Z H vs us) : ∀ k : Nat, Reps T ρ Z H (List.replicate k vs).flatten (List.replicate k us).flatten
  | 0 => .nil
  | k + 1 => by
    rw [List.replicate_succ, List.replicate_succ, List.flatten_cons, List.flatten_cons]
    exact r.append (Reps.rep r k)
theorem Reps.ints : ∀ {ns : List Int} {vs : List V}, Reps T ρ Z H vs (ns.map U.int) → vs = ns.map V.int
  | [], _, r => by cases r; rfl
  | n :: ns, _, r => by
    cases r with
    | cons a b => rw [a.inv_int, Reps.ints b]; rfl
theorem Reps.of_ints : ∀ (ns : List Int), Reps T ρ Z H (ns.map V.int) (ns.map U.int)
  | [] => .nil
  | n :: ns => .cons (.int n) (Reps.of_ints ns)

/-- the list that a value is (a cell, a frozen one, a locked one) -/
def lstOf (G : List Ob) : U → Option (List U)
  | .lst l => some l
  | .sc l => some l
  | .ref i => match G[i]? with
    | some (.lst l) => some l
    | _ => none
  | _ => none
/-- .. that is no locked one -/
def lstOfW (G : List Ob) : U → Option (List U)
  | .lst l => some l
  | .ref i => match G[i]? with
    | some (.lst l) => some l
    | _ => none
  | _ => none
theorem lstOfW_at {u : U} {l : List U} {v : V} (rl : Rl T ρ Z G H) (r : Rep T ρ Z H v u) (e : lstOfW G u = some l) : ∃ a vs, v = .ref a ∧ H a = some (.lst vs) ∧ Reps T ρ Z H vs l := by
  cases u with
  | lst l' =>
    cases e
    obtain ⟨a, vs, h1, h2, _, h3⟩ := r.inv_lst
    exact ⟨a, vs, h1, h2, h3⟩
  | ref i =>
    obtain ⟨a, ev, h⟩ := r.inv_ref
    simp only [lstOfW] at e
    cases g : G[i]? with
    | none => rw [g] at e; cases e
    | some o =>
      rw [g] at e
      cases o with
      | lst l' =>
        cases e
        have ob := rl.ob i a _ h g
        obtain ⟨_, vs, h2, h3⟩ := ob
        exact ⟨a, vs, ev, h2, h3⟩
      | _ => cases e
  | _ => cases e
theorem lstOf_at {u : U} {l : List U} {v : V} (rl : Rl T ρ Z G H) (r : Rep T ρ Z H v u) (e : lstOf G u = some l) : ∃ a vs, v = .ref a ∧ SqL T.K H a vs ∧ Reps T ρ Z H vs l := by
  cases u with
  | sc l' =>
    cases e
    exact r.inv_sc
  | lst l' =>
    obtain ⟨a, vs, h1, h2, h3⟩ := lstOfW_at rl r (show lstOfW G (.lst l') = some l from e)
    exact ⟨a, vs, h1, SqL.of h2, h3⟩
  | ref l' =>
    obtain ⟨a, vs, h1, h2, h3⟩ := lstOfW_at rl r (show lstOfW G (.ref l') = some l from e)
    exact ⟨a, vs, h1, SqL.of h2, h3⟩
  | _ => cases e

/-! ### new objects -/
theorem Rl.nz (rl : Rl T ρ Z G H) {p : Addr} (h : H p = none) : ¬ Z p := fun z => by have m := rl.zm p z; rw [h] at m; exact m
theorem Rl.nin (rl : Rl T ρ Z G H) {p : Addr} (h : H p = none) : p ∉ ρ := fun z => rl.trk p z h
theorem ex_new {o : HO} {p : Addr} (hp : H p = none) : Ex ρ Z H ρ Z (upd H p o) :=
  ⟨⟨[], by simp⟩, fun a o h z => ⟨by rw [upd_ne (ne_of_none h hp)]; exact h, z⟩, fun a o h z n => ⟨by rw [upd_ne (ne_of_none h hp)]; exact h, z, n⟩, fun a h => by
    by_cases e : a = p
    · subst e; exact absurd hp h
    · rw [upd_ne e]; exact h⟩
theorem ObAt.ex {a : Addr} {o : Ob} (zm : ∀ a, Z a → Mut (H a)) (x : Ex ρ Z H ρ' Z' H') (h : ObAt T ρ Z H a o) (he : ∀ u, H a = some u → H' a = some u) (hz : Z a → Z' a) : ObAt T ρ' Z' H' a o := by
  cases o with
  | dead => trivial
  | lst us =>
    obtain ⟨z, vs, h1, h2⟩ := h
    exact ⟨hz z, vs, he _ h1, h2.ex zm x⟩
  | dct l =>
    obtain ⟨z, vs, h1, h2⟩ := h
    exact ⟨hz z, vs, he _ h1, h2.ex zm x⟩
  | ins c l =>
    obtain ⟨z, C, dx, vs, h1, h2, h3⟩ := h
    exact ⟨hz z, C, dx, vs, he _ h1, h2, h3.ex zm x⟩
theorem Rl.new {o : HO} {p : Addr} (rl : Rl T ρ Z G H) (hp : H p = none) : Rl T ρ Z G (upd H p o) where
  len := rl.len
  nd := rl.nd
  zm := fun a z => by
    rw [upd_ne (fun e : a = p => rl.nz hp (e ▸ z))]
    exact rl.zm a z
  trk := fun a h => (ex_new (ρ := ρ) (Z := Z) hp).th a (rl.trk a h)
  ob := fun i a o' h g => ObAt.ex rl.zm (ex_new hp) (rl.ob i a o' h g) (fun u e => by rw [upd_ne (ne_of_none e hp)]; exact e) fun z => z
/-- .. that becomes a cell -/
def zOr (Z : Addr → Prop) (p : Addr) : Addr → Prop := fun a => Z a ∨ a = p
theorem ex_cell {o : HO} {p : Addr} (rl : Rl T ρ Z G H) (hp : H p = none) : Ex ρ Z H (ρ ++ [p]) (zOr Z p) (upd H p o) :=
  ⟨⟨[p], rfl⟩, fun a o h z => ⟨by rw [upd_ne (ne_of_none h hp)]; exact h, fun q => q.elim z (ne_of_none h hp)⟩,
    fun a o h z n => ⟨by rw [upd_ne (ne_of_none h hp)]; exact h, .inl z, fun q => by
      rcases List.mem_append.mp q with q | q
      · exact n q
      · exact ne_of_none h hp (by simpa using q)⟩, (ex_new (ρ := ρ) (Z := Z) hp).th⟩
theorem Rl.cell {o : HO} {p : Addr} {ob : Ob} (rl : Rl T ρ Z G H) (hp : H p = none) (mu : Mut (some o)) (h : ObAt T (ρ ++ [p]) (zOr Z p) (upd H p o) p ob) : Rl T (ρ ++ [p]) (zOr Z p) (G ++ [ob]) (upd H p o) where
  len := by rw [List.length_append, List.length_append, rl.len]; rfl
  nd := by
    rw [List.nodup_append]
    refine ⟨rl.nd, by simp, fun a ha b hb => ?_⟩
    have e : b = p := by simpa using hb
    subst e
    exact fun q => rl.nin hp (q ▸ ha)
  zm := fun a z => by
    rcases z with z | z
    · rw [upd_ne (fun e : a = p => rl.nz hp (e ▸ z))]
      exact rl.zm a z
    · subst z
      rw [upd_same]
      exact mu
  trk := fun a h => by
    rcases List.mem_append.mp h with q | q
    · exact (ex_new (ρ := ρ) (Z := Z) hp).th a (rl.trk a q)
    · have e : a = p := by simpa using q
      subst e
      rw [upd_same]
      exact fun z => by cases z
  ob := fun i a o' h1 g => by
    by_cases hi : i < ρ.length
    · rw [List.getElem?_append_left hi] at h1
      rw [List.getElem?_append_left (by rw [← rl.len]; exact hi)] at g
      exact ObAt.ex rl.zm (ex_cell rl hp) (rl.ob i a o' h1 g) (fun u e => by rw [upd_ne (ne_of_none e hp)]; exact e) .inl
    · have hi2 : i = ρ.length := by
        have := (List.getElem?_eq_some_iff.mp h1).1
        simp at this
        omega
      subst hi2
      rw [List.getElem?_append_right (Nat.le_refl _)] at h1
      rw [List.getElem?_append_right (by rw [rl.len]; exact Nat.le_refl _)] at g
      simp [rl.len] at h1 g
      subst h1
      subst g
      exact h

/-- a new list: frozen, or a cell -/
def newL (mu : Bool) (us : List U) (G : List Ob) : Rs U := if us.length ≤ szL then (if mu then .ok (.ref G.length) (G ++ [.lst us]) else .ok (.lst us) G) else .bad
def newT (us : List U) (G : List Ob) : Rs U := if us.length ≤ szL then .ok (.tup us) G else .bad
theorem newL_ok {mu : Bool} {us : List U} {vs : List V} {Q : VK} (rl : Rl T ρ Z G H) (r : Reps T ρ Z H vs us) (h : RE T W σ H ρ Z Q (newL mu us G)) :
    vs.length ≤ sizeLine ∧ ∀ p, H p = none → Q (.ref p) (upd H p (.lst vs)) := by
  unfold newL at h
  by_cases hz : us.length ≤ szL
  · rw [if_pos hz] at h
    refine ⟨by rw [r.length, szL_eq]; exact hz, fun p hp => ?_⟩
    cases mu with
    | false => exact h _ _ ρ Z (ex_new hp) (rl.new hp) (.lst upd_same (rl.nz hp) (r.ex rl.zm (ex_new hp)))
    | true =>
      refine h _ _ _ _ (ex_cell rl hp) (rl.cell hp trivial ⟨.inr rfl, vs, upd_same, r.ex rl.zm (ex_cell rl hp)⟩) (.ref ?_)
      rw [List.getElem?_append_right (by rw [rl.len]; exact Nat.le_refl _)]
      simp [rl.len]
  · rw [if_neg hz] at h
    exact h.elim
theorem newT_ok {us : List U} {vs : List V} {Q : VK} (rl : Rl T ρ Z G H) (r : Reps T ρ Z H vs us) (h : RE T W σ H ρ Z Q (newT us G)) :
    vs.length ≤ sizeLine ∧ ∀ p, H p = none → Q (.ref p) (upd H p (.tup vs)) := by
  unfold newT at h
  by_cases hz : us.length ≤ szL
  · rw [if_pos hz] at h
    refine ⟨by rw [r.length, szL_eq]; exact hz, fun p hp => ?_⟩
    exact h _ _ ρ Z (ex_new hp) (rl.new hp) (.tup (SqT.of upd_same) (r.ex rl.zm (ex_new hp)))
  · rw [if_neg hz] at h
    exact h.elim
end
end FL

/-! FL4: names, constants, operators, comparisons. -/
namespace FL
open PySem L2
section
variable {X : Cx} {T : Tb} {W : WX}

/-! ### names, constants -/
def varM (i : Nat) : ME := fun s G => match s[i]? with
  | some (some u) => .ok u G
  | _ => .bad
def litM (u : U) : ME := fun _ G => .ok u G
theorem fe_var {i : Nat} {x : Str} {pos : Pos} (hN : X.N[i]? = some x) (hv : Vis X.env.scope x) (hd : (x == ("__debug__" : Str)) = false) (hcd : (x == ("__classdict__" : Str)) = false) : PE X (.Name x pos) (tE T W (varM i)) :=
  PE.imp (pe_var hN hv hd hcd) fun σ H Q ⟨s, G, ρ, Z, sm, h⟩ => by
    unfold varM at h
    cases e : s[i]? with
    | none => rw [e] at h; exact h.elim
    | some o =>
      cases o with
      | none => rw [e] at h; exact h.elim
      | some u =>
        rw [e] at h
        obtain ⟨v, e1, r⟩ := sm.fm.2 i u e
        exact ⟨v, e1, h v H ρ Z Ex.refl sm.rl r⟩
theorem fe_lit {e : Expr} {v : V} {u : U} (he : PE X e (tC v)) (hr : ∀ ρ Z H, Rep T ρ Z H v u) : PE X e (tE T W (litM u)) :=
  PE.imp he fun σ H Q ⟨s, G, ρ, Z, sm, h⟩ => h v H ρ Z Ex.refl sm.rl (hr ρ Z H)

/-! ### two operands -/
def bin2 (f : U → U → List Ob → Rs U) (a b : ME) : ME := fun s G => (a s G).bind fun x G1 => (b s G1).bind fun y G2 => f x y G2
def O2 (T : Tb) (W : WX) (f : U → U → List Ob → Rs U) (r : R2) : Prop :=
  ∀ (σ : St) (H : Hp) (s : Sg) (G : List Ob) (ρ : List Addr) (Z : Addr → Prop) (x y : V) (u w : U) (Q : VK), Sm T σ H s G ρ Z → Rep T ρ Z H x u → Rep T ρ Z H y w → RE T W σ H ρ Z Q (f u w G) → r x y H Q
theorem O2.top {f : U → U → List Ob → Rs U} {r : R2} (h : O2 T W f r) {ma mb : ME} {σ : St} {H : Hp} {Q : VK} (q : tE T W (bin2 f ma mb) σ H Q) : tOp r (tE T W ma) (tE T W mb) σ H Q := by
  obtain ⟨s, G, ρ, Z, sm, q⟩ := q
  refine tE_bind sm q fun u G1 x H1 ρ1 Z1 x1 sm1 r1 q1 => ?_
  refine tE_bind sm1 q1 fun w G2 y H2 ρ2 Z2 x2 sm2 r2 q2 => ?_
  exact h _ _ _ _ _ _ _ _ _ _ _ sm2 (r1.ex sm1.rl.zm x2) r2 q2
theorem fe_bin {op : Operator} {f : U → U → List Ob → Rs U} {r : R2} {a b : Expr} {pos : Pos} {ma mb : ME} (ho : OpR X (binaryOp op) r) (h : O2 T W f r) (ha : PE X a (tE T W ma)) (hb : PE X b (tE T W mb)) : PE X (.BinOp a op b pos) (tE T W (bin2 f ma mb)) :=
  PE.imp (pe_op ho ha hb) fun _ _ _ q => h.top q
theorem fe_cmp {op : CmpOp} {f : U → U → List Ob → Rs U} {r : R2} {a b : Expr} {pos : Pos} {ma mb : ME} (ho : OpR X (compareOp op) r) (h : O2 T W f r) (ha : PE X a (tE T W ma)) (hb : PE X b (tE T W mb)) (hm : behindInMarks op b = false) :
    PE X (.Compare a [op] [b] pos) (tE T W (bin2 f ma mb)) := PE.imp (pe_cmpR ho ha hb hm) fun _ _ _ q => h.top q
theorem OpR.or2 {f : Value → Value → Sem Value} {r r' : R2} (h : OpR X f r) (h' : OpR X f r') : OpR X f (fun x y H Q => r x y H Q ∨ r' x y H Q) := OpR.or h h'

def addU (mu : Bool) : U → U → List Ob → Rs U := fun x y G => match x, y with
  | .int i, .int j => .ok (.int (i + j)) G
  | .str a, .str b => if a.length + b.length ≤ szL then .ok (.str (a ++ b)) G else .bad
  | .tup a, .tup b => if a.length + b.length ≤ szL then .ok (.tup (a ++ b)) G else .bad
  | x, y => match lstOfW G x, lstOfW G y with
    | some a, some b => newL mu (a ++ b) G
    | _, _ => .bad
abbrev rCatS : R2 := fun x y H Q => ∃ i j, x = .str i ∧ y = .str j ∧ i.length + j.length ≤ sizeLine ∧ Q (.str (i ++ j)) H
abbrev rAddA (K : PySem.W.Frag) : R2 := fun x y H Q => rI0 (fun i j => .int (i + j)) x y H Q ∨ rCatS x y H Q ∨ rCatA K x y H Q ∨ rCat x y H Q
theorem op_addA : OpR X (binaryOp .Add) (rAddA X.K) := OpR.or op_add (OpR.or op_add_str (OpR.or op_catA op_cat))
theorem strLen (a : List Nat) : (SS a).length = a.length := SX.S_len a
theorem o2_add {mu : Bool} (hT : X.K = T.K) : O2 T W (addU mu) (rAddA X.K) := by
  intro σ H s G ρ Z x y u w Q sm r1 r2 h
  have lists : ∀ {a b : List U}, lstOfW G u = some a → lstOfW G w = some b → RE T W σ H ρ Z Q (newL mu (a ++ b) G) → rCat x y H Q := fun {a b} e1 e2 h => by
    obtain ⟨p, vs, rfl, h1, q1⟩ := lstOfW_at sm.rl r1 e1
    obtain ⟨p', ws, rfl, h2, q2⟩ := lstOfW_at sm.rl r2 e2
    obtain ⟨hz, hq⟩ := newL_ok sm.rl (q1.append q2) h
    exact ⟨p, p', vs, ws, rfl, rfl, h1, h2, by rw [List.length_append] at hz; exact hz, hq⟩
  have gen : RE T W σ H ρ Z Q (match lstOfW G u, lstOfW G w with | some a, some b => newL mu (a ++ b) G | _, _ => .bad) → rAddA X.K x y H Q := fun h => by
    cases e1 : lstOfW G u with
    | none => rw [e1] at h; exact h.elim
    | some a =>
      cases e2 : lstOfW G w with
      | none => rw [e1, e2] at h; exact h.elim
      | some b => rw [e1, e2] at h; exact .inr (.inr (.inr (lists e1 e2 h)))
  unfold addU at h
  split at h
  · rename_i i j
    exact .inl ⟨i, j, r1.inv_int, r2.inv_int, h _ H ρ Z Ex.refl sm.rl (.int _)⟩
  · rename_i a b
    by_cases hz : a.length + b.length ≤ szL
    · rw [if_pos hz] at h
      refine .inr (.inl ⟨SS a, SS b, r1.inv_str, r2.inv_str, by rw [strLen, strLen, szL_eq]; exact hz, ?_⟩)
      rw [show SS a ++ SS b = SS (a ++ b) from SX.S_cat a b]
      exact h _ H ρ Z Ex.refl sm.rl (Rep.ss _)
    · rw [if_neg hz] at h
      exact h.elim
  · rename_i a b
    by_cases hz : a.length + b.length ≤ szL
    · rw [if_pos hz] at h
      obtain ⟨p, vs, rfl, h1, q1⟩ := r1.inv_tup
      obtain ⟨p', ws, rfl, h2, q2⟩ := r2.inv_tup
      refine .inr (.inr (.inl ⟨p, p', vs, ws, rfl, rfl, hT ▸ h1, hT ▸ h2, by rw [q1.length, q2.length, szL_eq]; exact hz, fun e => ?_, fun e1 e => ?_, fun e1 e2 p hp => ?_⟩))
      · subst e
        cases q1
        exact h _ H ρ Z Ex.refl sm.rl (.tup h2 q2)
      · subst e
        cases q2
        rw [List.append_nil] at h
        exact h _ H ρ Z Ex.refl sm.rl (.tup h1 q1)
      · exact h _ _ ρ Z (ex_new hp) (sm.rl.new hp) (.tup (SqT.of upd_same) ((q1.append q2).ex sm.rl.zm (ex_new hp)))
    · rw [if_neg hz] at h
      exact h.elim
  · exact gen h

def subU : U → U → List Ob → Rs U := fun x y G => match x, y with
  | .int i, .int j => .ok (.int (i - j)) G
  | _, _ => .bad
theorem o2_sub : O2 T W subU (rI0 fun i j => .int (i - j)) := by
  intro σ H s G ρ Z x y u w Q sm r1 r2 h
  unfold subU at h
  split at h
  · exact ⟨_, _, r1.inv_int, r2.inv_int, h _ H ρ Z Ex.refl sm.rl (.int _)⟩
  · exact h.elim
/-- ints in, under a test, an int out -/
def intU (c : Int → Int → Bool) (g : Int → Int → Int) : U → U → List Ob → Rs U := fun x y G => match x, y with
  | .int i, .int j => if c i j then .ok (.int (g i j)) G else .bad
  | _, _ => .bad
theorem o2_int {c : Int → Int → Bool} {C : Int → Int → Prop} {g : Int → Int → Int} (hc : ∀ i j, c i j = true → C i j) : O2 T W (intU c g) (rI C fun i j => .int (g i j)) := by
  intro σ H s G ρ Z x y u w Q sm r1 r2 h
  unfold intU at h
  split at h
  · rename_i i j
    by_cases e : c i j = true
    · rw [if_pos e] at h
      exact ⟨_, _, r1.inv_int, r2.inv_int, hc _ _ e, h _ H ρ Z Ex.refl sm.rl (.int _)⟩
    · rw [if_neg e] at h
      exact h.elim
  · exact h.elim
def modU := intU (fun _ j => decide (j ≠ 0)) Int.fmod
def fdivU := intU (fun _ j => decide (j ≠ 0 ∧ j.natAbs < 1073741824)) Int.fdiv
def powU := intU (fun i j => decide (0 ≤ j ∧ j ≤ 1000000 ∧ i.natAbs < 2 ^ 64)) (fun i j => i ^ j.toNat)
theorem o2_mod : O2 T W modU (rI (fun _ j => j ≠ 0) fun i j => .int (i.fmod j)) := o2_int fun _ _ e => of_decide_eq_true e
theorem o2_fdiv : O2 T W fdivU (rI CDivN fun i j => .int (i.fdiv j)) := o2_int fun i j e => (show j ≠ 0 ∧ j.natAbs < 1073741824 from of_decide_eq_true e)
theorem o2_pow : O2 T W powU (rI CPow fun i j => .int (i ^ j.toNat)) := o2_int fun i j e => (show 0 ≤ j ∧ j ≤ 1000000 ∧ i.natAbs < 2 ^ 64 from of_decide_eq_true e)

def mulU (mu : Bool) : U → U → List Ob → Rs U := fun x y G => match x, y with
  | .int i, .int j => if (-(2 ^ 64) < i ∧ i < 2 ^ 64) ∨ (-(2 ^ 64) < j ∧ j < 2 ^ 64) then .ok (.int (i * j)) G else .bad
  | .tup a, .int k => if 1 ≤ a.length ∧ 2 ≤ k ∧ k ≤ 1000 ∧ a.length ≤ 1000 then .ok (.tup (List.replicate k.toNat a).flatten) G else .bad
  | x, .int k => match lstOfW G x with
    | some a => if -(2 ^ 63) ≤ k ∧ k < 2 ^ 63 then newL mu (List.replicate k.toNat a).flatten G else .bad
    | none => .bad
  | _, _ => .bad
abbrev rMulA (K : PySem.W.Frag) : R2 := fun x y H Q => rI CMul (fun i j => .int (i * j)) x y H Q ∨ rRepT K x y H Q ∨ rRep x y H Q
theorem op_mulA : OpR X (binaryOp .Mult) (rMulA X.K) := OpR.or op_mul (OpR.or op_repT op_rep)
theorem rep_length {α : Type} (l : List α) : ∀ k, (List.replicate k l).flatten.length = k * l.length
  | 0 => by simp
  | k + 1 => by rw [List.replicate_succ, List.flatten_cons, List.length_append, rep_length l k, Nat.succ_mul, Nat.add_comm]
theorem o2_mul {mu : Bool} (hT : X.K = T.K) : O2 T W (mulU mu) (rMulA X.K) := by
  intro σ H s G ρ Z x y u w Q sm r1 r2 h
  unfold mulU at h
  split at h
  · rename_i i j
    by_cases e : (-(2 ^ 64) < i ∧ i < 2 ^ 64) ∨ (-(2 ^ 64) < j ∧ j < 2 ^ 64)
    · rw [if_pos e] at h
      exact .inl ⟨i, j, r1.inv_int, r2.inv_int, e, h _ H ρ Z Ex.refl sm.rl (.int _)⟩
    · rw [if_neg e] at h
      exact h.elim
  · rename_i a k
    by_cases e : 1 ≤ a.length ∧ 2 ≤ k ∧ k ≤ 1000 ∧ a.length ≤ 1000
    · rw [if_pos e] at h
      obtain ⟨p, vs, rfl, h1, q1⟩ := r1.inv_tup
      refine .inr (.inl ⟨p, k, vs, rfl, r2.inv_int, hT ▸ h1, fun z => ?_, e.2.1, e.2.2.1, by rw [q1.length]; exact e.2.2.2, fun p hp => ?_⟩)
      · subst z
        have z1 := q1.length
        have z2 := e.1
        rw [← z1] at z2
        exact absurd z2 (by decide)
      · exact h _ _ ρ Z (ex_new hp) (sm.rl.new hp) (.tup (SqT.of upd_same) ((q1.rep _).ex sm.rl.zm (ex_new hp)))
    · rw [if_neg e] at h
      exact h.elim
  · rename_i k _ _
    cases e1 : lstOfW G u with
    | none => rw [e1] at h; exact h.elim
    | some a =>
      rw [e1] at h
      by_cases e : -(2 ^ 63) ≤ k ∧ k < 2 ^ 63
      · replace h := (by simpa only [if_pos e] using h : RE T W σ H ρ Z Q (newL mu (List.replicate k.toNat a).flatten G))
        obtain ⟨p, vs, rfl, h1, q1⟩ := lstOfW_at sm.rl r1 e1
        obtain ⟨hz, hq⟩ := newL_ok sm.rl (q1.rep k.toNat) h
        rw [rep_length, Nat.mul_comm] at hz
        exact .inr (.inr ⟨p, k, vs, rfl, r2.inv_int, h1, e.1, e.2, hz, hq⟩)
      · replace h := (by simpa only [if_neg e] using h : RE T W σ H ρ Z Q .bad)
        exact h.elim
  · exact h.elim

/-! ### comparisons -/
def cmpU (p : Int → Int → Bool) : U → U → List Ob → Rs U := fun x y G => match x, y with
  | .int i, .int j => .ok (.bl (p i j)) G
  | _, _ => .bad
theorem o2_cmp {p : Int → Int → Bool} : O2 T W (cmpU p) (rI0 fun i j => .bl (p i j)) := by
  intro σ H s G ρ Z x y u w Q sm r1 r2 h
  unfold cmpU at h
  split at h
  · exact ⟨_, _, r1.inv_int, r2.inv_int, h _ H ρ Z Ex.refl sm.rl (.bl _)⟩
  · exact h.elim
mutual
def toD0 (f : Nat → Option PyData) : U → Option PyData
  | .non => some .none
  | .bl b => some (.bool b)
  | .int i => some (.int i)
  | .str l => some (.str (SS l))
  | .tup l => (toD0s f l).map .tuple
  | .lst l => (toD0s f l).map .list
  | .ref i => f i
  | .sc _ => none
  | .dct _ => none
  | .ins _ _ => none
def toD0s (f : Nat → Option PyData) : List U → Option (List PyData)
  | [] => some []
  | x :: r => match toD0 f x, toD0s f r with
    | some a, some b => some (a :: b)
    | _, _ => none
end
def refD : Nat → List Ob → Nat → Option PyData
  | 0, _, _ => none
  | k + 1, G, i => match G[i]? with
    | some (.lst l) => (toD0s (refD k G) l).map .list
    | _ => none
def toD (G : List Ob) (u : U) : Option PyData := toD0 (refD 3 G) u
section
variable {σ : St} {H : Hp} {ρ : List Addr} {Z : Addr → Prop} {s : Sg} {G : List Ob}
mutual
theorem toD0_ok {f : Nat → Option PyData} (hf : ∀ i d a, f i = some d → ρ[i]? = some a → Dp T.K H (.ref a) d) : ∀ {v : V} {u : U} {d : PyData}, Rep T ρ Z H v u → toD0 f u = some d → Dp T.K H v d
  | _, _, _, .non, e => by simp [toD0] at e; subst e; exact .non
  | _, _, _, .bl b, e => by simp [toD0] at e; subst e; exact .bl b
  | _, _, _, .int b, e => by simp [toD0] at e; subst e; exact .int b
  | _, _, _, .str x, e => by
    simp only [toD0, SS_tl, Option.some.injEq] at e
    subst e
    exact .str x
  | _, _, _, .tup (us := us) h r, e => by
    simp only [toD0] at e
    cases e2 : toD0s f us with
    | none => rw [e2] at e; cases e
    | some ds =>
      rw [e2] at e
      cases e
      exact .tup h (toD0s_ok hf r e2)
  | _, _, _, .lst (us := us) h z r, e => by
    simp only [toD0] at e
    cases e2 : toD0s f us with
    | none => rw [e2] at e; cases e
    | some ds =>
      rw [e2] at e
      cases e
      exact .lst (SqL.of h) (toD0s_ok hf r e2)
  | _, _, _, .ref h, e => hf _ _ _ (by simpa only [toD0] using e) h
  | _, _, _, .sc h r, e => by simp [toD0] at e
  | _, _, _, .dct h z r, e => by simp [toD0] at e
  | _, _, _, .ins h z c r, e => by simp [toD0] at e
theorem toD0s_ok {f : Nat → Option PyData} (hf : ∀ i d a, f i = some d → ρ[i]? = some a → Dp T.K H (.ref a) d) : ∀ {v : List V} {u : List U} {d : List PyData}, Reps T ρ Z H v u → toD0s f u = some d → DpAll T.K H v d
  | _, _, _, .nil, e => by simp [toD0s] at e; subst e; exact .nil
  | _, _, _, .cons (u := u) (us := us) r t, e => by
    simp only [toD0s] at e
    cases e1 : toD0 f u with
    | none => rw [e1] at e; cases e
    | some a =>
      cases e2 : toD0s f us with
      | none => rw [e1, e2] at e; cases e
      | some b =>
        rw [e1, e2] at e
        cases e
        exact .cons (toD0_ok hf r e1) (toD0s_ok hf t e2)
end
theorem refD_ok (rl : Rl T ρ Z G H) : ∀ (k i : Nat) (d : PyData) (a : Addr), refD k G i = some d → ρ[i]? = some a → Dp T.K H (.ref a) d
  | 0, _, _, _, e, _ => by cases e
  | k + 1, i, d, a, e, h => by
    simp only [refD] at e
    cases g : G[i]? with
    | none => rw [g] at e; cases e
    | some o =>
      rw [g] at e
      cases o with
      | lst l =>
        simp only at e
        cases e2 : toD0s (refD k G) l with
        | none => rw [e2] at e; cases e
        | some ds =>
          rw [e2] at e
          cases e
          obtain ⟨_, vs, h2, h3⟩ := rl.ob i a _ h g
          exact .lst (SqL.of h2) (toD0s_ok (refD_ok rl k) h3 e2)
      | _ => cases e
theorem toD_ok (rl : Rl T ρ Z G H) {v : V} {u : U} {d : PyData} (r : Rep T ρ Z H v u) (e : toD G u = some d) : Dp T.K H v d := toD0_ok (refD_ok rl 3) r e
end
def eqU (neg : Bool) : U → U → List Ob → Rs U := fun x y G => match toD G x, toD G y with
  | some d, some e => if SeqAt.shaped d = true ∧ SeqAt.shaped e = true then .ok (.bl (if neg then !PyData.eqv d e else PyData.eqv d e)) G else .bad
  | _, _ => .bad
theorem o2_eq (hT : X.K = T.K) : O2 T W (eqU false) (rEqD X.K) := by
  intro σ H s G ρ Z x y u w Q sm r1 r2 h
  unfold eqU at h
  split at h
  · rename_i d e h1 h2
    by_cases z : SeqAt.shaped d = true ∧ SeqAt.shaped e = true
    · rw [if_pos z] at h
      exact ⟨d, e, hT ▸ toD_ok sm.rl r1 h1, hT ▸ toD_ok sm.rl r2 h2, z.1, z.2, h _ H ρ Z Ex.refl sm.rl (.bl _)⟩
    · rw [if_neg z] at h
      exact h.elim
  · exact h.elim
theorem o2_ne (hT : X.K = T.K) : O2 T W (eqU true) (rNeD X.K) := by
  intro σ H s G ρ Z x y u w Q sm r1 r2 h
  unfold eqU at h
  split at h
  · rename_i d e h1 h2
    by_cases z : SeqAt.shaped d = true ∧ SeqAt.shaped e = true
    · rw [if_pos z] at h
      exact ⟨d, e, hT ▸ toD_ok sm.rl r1 h1, hT ▸ toD_ok sm.rl r2 h2, z.1, z.2, h _ H ρ Z Ex.refl sm.rl (.bl _)⟩
    · rw [if_neg z] at h
      exact h.elim
  · exact h.elim

/-- is None, is True .. -/
def isNonU : U → Bool
  | .non => true
  | _ => false
def isU (neg : Bool) : U → U → List Ob → Rs U := fun x y G => match y with
  | .non => .ok (.bl (if neg then !isNonU x else isNonU x)) G
  | .bl b => match x with
    | .bl a => .ok (.bl (if neg then !decide (a = b) else decide (a = b))) G
    | _ => .ok (.bl neg) G
  | _ => .bad
/-- what is no bool is none of the two -/
def noBl : V → Bool
  | .non => true
  | .int _ => true
  | .str _ => true
  | .ref _ => true
  | _ => false
def rIsO (neg : Bool) : R2 := fun x y H Q => noBl x = true ∧ ∃ b : Bool, y = .bl b ∧ Q (.bl neg) H
theorem op_isO : OpR X (compareOp .Is) (rIsO false) := by
  intro pins s σ H x y v u Q I rx ry ⟨hx, b, ey, q⟩
  subst ey
  cases (show u = Value.bool b from ry)
  have hp : plainIs v (.bool b) = true ∧ v ≠ .bool b := by
    cases x with
    | non => cases (show v = Value.none from rx); exact ⟨rfl, by simp⟩
    | int i => obtain ⟨t, e⟩ := (show ∃ t, v = Value.int i t from rx); subst e; exact ⟨rfl, by simp⟩
    | str i => obtain ⟨t, e⟩ := (show ∃ t, v = Value.str i t from rx); subst e; exact ⟨rfl, by simp⟩
    | ref a => cases (show v = Value.ref a from rx); exact ⟨rfl, by simp⟩
    | _ => cases hx
  exact wpAny_is_other hp.1 hp.2 ⟨.bl false, H, I, rfl, q⟩
theorem op_notO : OpR X (compareOp .IsNot) (rIsO true) := by
  intro pins s σ H x y v u Q I rx ry ⟨hx, b, ey, q⟩
  subst ey
  cases (show u = Value.bool b from ry)
  have hp : plainIs v (.bool b) = true ∧ v ≠ .bool b := by
    cases x with
    | non => cases (show v = Value.none from rx); exact ⟨rfl, by simp⟩
    | int i => obtain ⟨t, e⟩ := (show ∃ t, v = Value.int i t from rx); subst e; exact ⟨rfl, by simp⟩
    | str i => obtain ⟨t, e⟩ := (show ∃ t, v = Value.str i t from rx); subst e; exact ⟨rfl, by simp⟩
    | ref a => cases (show v = Value.ref a from rx); exact ⟨rfl, by simp⟩
    | _ => cases hx
  exact wpAny_isNot_other hp.1 hp.2 ⟨.bl true, H, I, rfl, q⟩
theorem rep_noBl {ρ : List Addr} {Z : Addr → Prop} {H : Hp} {v : V} {u : U} (r : Rep T ρ Z H v u) (h : ∀ a, u ≠ .bl a) : noBl v = true := by
  cases r with
  | bl b => exact absurd rfl (h b)
  | _ => rfl
theorem rep_non {ρ : List Addr} {Z : Addr → Prop} {H : Hp} {v : V} {u : U} (r : Rep T ρ Z H v u) : decide (v = .non) = isNonU u := by
  cases r <;> simp [isNonU]
theorem o2_is : O2 T W (isU false) (fun x y H Q => (y = .non ∧ Q (.bl (decide (x = .non))) H) ∨ rIsB x y H Q ∨ rIsO false x y H Q) := by
  intro σ H s G ρ Z x y u w Q sm r1 r2 h
  unfold isU at h
  split at h
  · refine .inl ⟨r2.inv_non, ?_⟩
    rw [rep_non r1]
    exact h _ H ρ Z Ex.refl sm.rl (.bl _)
  · split at h
    · exact .inr (.inl ⟨_, _, r1.inv_bl, r2.inv_bl, h _ H ρ Z Ex.refl sm.rl (.bl _)⟩)
    · rename_i hn
      exact .inr (.inr ⟨rep_noBl r1 hn, _, r2.inv_bl, h _ H ρ Z Ex.refl sm.rl (.bl _)⟩)
  · exact h.elim
theorem o2_isnot : O2 T W (isU true) (fun x y H Q => (y = .non ∧ Q (.bl (!decide (x = .non))) H) ∨ rNotB x y H Q ∨ rIsO true x y H Q) := by
  intro σ H s G ρ Z x y u w Q sm r1 r2 h
  unfold isU at h
  split at h
  · refine .inl ⟨r2.inv_non, ?_⟩
    rw [rep_non r1]
    exact h _ H ρ Z Ex.refl sm.rl (.bl _)
  · split at h
    · exact .inr (.inl ⟨_, _, r1.inv_bl, r2.inv_bl, h _ H ρ Z Ex.refl sm.rl (.bl _)⟩)
    · rename_i hn
      exact .inr (.inr ⟨rep_noBl r1 hn, _, r2.inv_bl, h _ H ρ Z Ex.refl sm.rl (.bl _)⟩)
  · exact h.elim

/-! ### in, not in -/
def flatU : U → Bool
  | .non => true
  | .bl _ => true
  | .int _ => true
  | .str _ => true
  | _ => false
def eqF : U → U → Bool
  | .non, .non => true
  | .bl a, .bl b => a == b
  | .bl a, .int b => (if a then 1 else 0) == b
  | .int a, .bl b => a == (if b then 1 else 0)
  | .int a, .int b => a == b
  | .str a, .str b => a == b
  | _, _ => false
def infB (y : List Nat) : List Nat → Bool
  | [] => y.isEmpty
  | c :: t => y.isPrefixOf (c :: t) || infB y t
theorem eqV_eqF {ρ : List Addr} {Z : Addr → Prop} {H : Hp} {v w : V} {u x : U} (r : Rep T ρ Z H v u) (q : Rep T ρ Z H w x) (f : flatU u = true) (g : flatU x = true) : eqV v w = eqF u x := by
  have hstr : ∀ a b : Str, (a == b) = (a.cps.toList == b.cps.toList) := fun a b => (PyProof.Rows.toList_beq a b).symm
  cases r <;> cases q <;> first | rfl | exact hstr _ _ | (simp [flatU] at f) | (simp [flatU] at g)
theorem flatV_of {ρ : List Addr} {Z : Addr → Prop} {H : Hp} {v : V} {u : U} (r : Rep T ρ Z H v u) (f : flatU u = true) : flatV v = true := by
  cases r <;> first | rfl | (simp [flatU] at f)
theorem flats_of {ρ : List Addr} {Z : Addr → Prop} {H : Hp} : ∀ {vs : List V} {us : List U}, Reps T ρ Z H vs us → us.all flatU = true → vs.all flatV = true
  | _, _, .nil, _ => rfl
  | _, _, .cons r t, f => by
    rw [List.all_cons, Bool.and_eq_true] at f
    rw [List.all_cons, Bool.and_eq_true]
    exact ⟨flatV_of r f.1, flats_of t f.2⟩
theorem inV_of {ρ : List Addr} {Z : Addr → Prop} {H : Hp} {x : V} {u : U} (r : Rep T ρ Z H x u) (fu : flatU u = true) : ∀ {vs : List V} {us : List U}, Reps T ρ Z H vs us → us.all flatU = true → inV x vs = us.any fun y => eqF y u
  | _, _, .nil, _ => rfl
  | _, _, .cons q t, f => by
    rw [List.all_cons, Bool.and_eq_true] at f
    have ih := inV_of r fu t f.2
    unfold inV at ih ⊢
    rw [List.any_cons, List.any_cons, eqV_eqF q r f.1 fu, ih]
/-- the items of a list or tuple -/
def seqOf (G : List Ob) : U → Option (List U)
  | .tup l => some l
  | u => lstOf G u
theorem seqOf_at {σ : St} {ρ : List Addr} {Z : Addr → Prop} {H : Hp} {G : List Ob} {u : U} {l : List U} {v : V} (rl : Rl T ρ Z G H) (r : Rep T ρ Z H v u) (e : seqOf G u = some l) : ∃ a vs, v = .ref a ∧ (SqL T.K H a vs ∨ SqT T.K H a vs) ∧ Reps T ρ Z H vs l := by
  unfold seqOf at e
  split at e
  · cases e
    obtain ⟨a, vs, h1, h2, h3⟩ := r.inv_tup
    exact ⟨a, vs, h1, .inr h2, h3⟩
  · obtain ⟨a, vs, h1, h2, h3⟩ := lstOf_at rl r e
    exact ⟨a, vs, h1, .inl h2, h3⟩
theorem infB_iff (y : List Nat) : ∀ x : List Nat, infB y x = true ↔ ∃ i, i + y.length ≤ x.length ∧ (x.drop i).take y.length = y
  | [] => by
    constructor
    · intro h
      have e : y = [] := List.isEmpty_iff.mp h
      subst e
      exact ⟨0, Nat.le_refl _, rfl⟩
    · rintro ⟨i, h, _⟩
      have e : y.length = 0 := by
        have h' : i + y.length ≤ 0 := h
        omega
      have e : y = [] := List.length_eq_zero_iff.mp e
      subst e
      rfl
  | c :: t => by
    have ih := infB_iff y t
    unfold infB
    rw [Bool.or_eq_true, ih, List.isPrefixOf_iff_prefix]
    constructor
    · rintro (h | ⟨i, h, e⟩)
      · exact ⟨0, by rw [Nat.zero_add]; exact h.length_le, by rw [List.drop_zero]; exact (List.prefix_iff_eq_take.mp h).symm⟩
      · exact ⟨i + 1, by simp; omega, by simpa using e⟩
    · rintro ⟨i, h, e⟩
      cases i with
      | zero => exact .inl (List.prefix_iff_eq_take.mpr (by simpa using e.symm))
      | succ i => exact .inr ⟨i, by simp at h; omega, by simpa using e⟩
def inU (neg : Bool) : U → U → List Ob → Rs U := fun x y G => match x, y with
  | .str a, .str b => .ok (.bl (if neg then !infB a b else infB a b)) G
  | x, y => match seqOf G y with
    | some l => if flatU x = true ∧ l.all flatU = true then .ok (.bl (if neg then !(l.any fun z => eqF z x) else (l.any fun z => eqF z x))) G
      else match toD G x, toD G y with
        | some d, some (.list ds) => if SeqAt.shaped d = true ∧ SeqAt.shaped (.list ds) = true then .ok (.bl (if neg then !(ds.any fun z => PyData.eqv z d) else (ds.any fun z => PyData.eqv z d))) G else .bad
        | some d, some (.tuple ds) => if SeqAt.shaped d = true ∧ SeqAt.shaped (.list ds) = true then .ok (.bl (if neg then !(ds.any fun z => PyData.eqv z d) else (ds.any fun z => PyData.eqv z d))) G else .bad
        | _, _ => .bad
    | none => .bad
/-- among the items of a tuple, whatever they are -/
abbrev rInT (K : PySem.W.Frag) (neg : Bool) : R2 := fun x y H Q => ∃ d ds, Dp K H x d ∧ Dp K H y (.tuple ds) ∧ SeqAt.shaped d = true ∧ SeqAt.shaped (.list ds) = true ∧ Q (.bl (if neg then !(ds.any fun z => PyData.eqv z d) else (ds.any fun z => PyData.eqv z d))) H
theorem op_inT (hu : X.A.units + 65 < cLine) : OpR X (compareOp .In) (rInT X.K false) := by
  intro pins s σ H x y v u Q I rx ry ⟨d, ds, hd, he, sd, se, q⟩
  obtain ⟨as, r1⟩ := Dp.reads I d x v hd rx
  obtain ⟨bs, r2⟩ := Dp.reads I (.tuple ds) y u he ry
  have pl : PyData.plain (.list ds) = true := PyData.plain_of_canLay0 _ (SeqAt.canLay_of_shaped se)
  refine SeqAt.in_tuple_data r2 r1 (by simpa [PyData.plain] using pl) (PyData.plain_of_canLay0 _ (SeqAt.canLay_of_shaped sd)) (PyProof.Rows.room_in_shaped sd hu) ⟨.bl _, H, I, rfl, q⟩
theorem op_notInT (hu : X.A.units + 65 < cLine) : OpR X (compareOp .NotIn) (rInT X.K true) := by
  intro pins s σ H x y v u Q I rx ry ⟨d, ds, hd, he, sd, se, q⟩
  obtain ⟨as, r1⟩ := Dp.reads I d x v hd rx
  obtain ⟨bs, r2⟩ := Dp.reads I (.tuple ds) y u he ry
  have pl : PyData.plain (.list ds) = true := PyData.plain_of_canLay0 _ (SeqAt.canLay_of_shaped se)
  refine SeqAt.notIn_tuple_data r2 r1 (by simpa [PyData.plain] using pl) (PyData.plain_of_canLay0 _ (SeqAt.canLay_of_shaped sd)) (PyProof.Rows.room_in_shaped sd hu) ⟨.bl _, H, I, rfl, q⟩
abbrev rInA (K : PySem.W.Frag) (neg : Bool) : R2 := fun x y H Q =>
  (∃ i j, x = .str i ∧ y = .str j ∧ Q (.bl (if neg then !(!(Builtin.Str.occurrences j i 0 j.length 1).isEmpty) else (!(Builtin.Str.occurrences j i 0 j.length 1).isEmpty))) H) ∨ rIn K neg x y H Q ∨
  (∃ d ds, Dp K H x d ∧ Dp K H y (.list ds) ∧ SeqAt.shaped d = true ∧ SeqAt.shaped (.list ds) = true ∧ Q (.bl (if neg then !(ds.any fun z => PyData.eqv z d) else (ds.any fun z => PyData.eqv z d))) H) ∨ rInT K neg x y H Q
theorem op_inA (hu : X.A.units + 65 < cLine) : OpR X (compareOp .In) (rInA X.K false) := OpR.or op_in_str (OpR.or op_in_seq (OpR.or (op_inD hu) (op_inT hu)))
theorem op_notinA (hu : X.A.units + 65 < cLine) : OpR X (compareOp .NotIn) (rInA X.K true) := OpR.or op_notin_str (OpR.or op_notIn_seq (OpR.or (op_notInD hu) (op_notInT hu)))
theorem occ_inf (a b : List Nat) : (!(Builtin.Str.occurrences (SS b) (SS a) 0 (SS b).length 1).isEmpty) = infB a b := by
  rw [Bool.eq_iff_iff, StrLaws.found_iff, infB_iff]
  constructor
  · rintro ⟨i, h, e⟩
    rw [StrLaws.subAt_eq, beq_iff_eq, tl_SS, tl_SS, strLen] at e
    rw [strLen, strLen] at h
    exact ⟨i, h, e⟩
  · rintro ⟨i, h, e⟩
    refine ⟨i, by rw [strLen, strLen]; exact h, ?_⟩
    rw [StrLaws.subAt_eq, beq_iff_eq, tl_SS, tl_SS, strLen]
    exact e
theorem o2_in {neg : Bool} (hT : X.K = T.K) : O2 T W (inU neg) (rInA X.K neg) := by
  intro σ H s G ρ Z x y u w Q sm r1 r2 h
  unfold inU at h
  split at h
  · rename_i a b
    refine .inl ⟨_, _, r1.inv_str, r2.inv_str, ?_⟩
    rw [occ_inf]
    exact h _ H ρ Z Ex.refl sm.rl (.bl _)
  · split at h
    · rename_i l e
      obtain ⟨p, vs, rfl, h1, q1⟩ := seqOf_at (σ := σ) sm.rl r2 e
      by_cases z : flatU u = true ∧ l.all flatU = true
      · rw [if_pos z] at h
        refine .inr (.inl ⟨p, vs, rfl, hT ▸ h1, flatV_of r1 z.1, flats_of q1 z.2, ?_⟩)
        rw [inV_of r1 z.1 q1 z.2]
        exact h _ H ρ Z Ex.refl sm.rl (.bl _)
      · rw [if_neg z] at h
        split at h
        · rename_i d ds e1 e2
          by_cases z : SeqAt.shaped d = true ∧ SeqAt.shaped (.list ds) = true
          · rw [if_pos z] at h
            exact .inr (.inr (.inl ⟨d, ds, hT ▸ toD_ok sm.rl r1 e1, hT ▸ toD_ok sm.rl r2 e2, z.1, z.2, h _ H ρ Z Ex.refl sm.rl (.bl _)⟩))
          · rw [if_neg z] at h
            exact h.elim
        · rename_i d ds e1 e2
          by_cases z : SeqAt.shaped d = true ∧ SeqAt.shaped (.list ds) = true
          · rw [if_pos z] at h
            exact .inr (.inr (.inr ⟨d, ds, hT ▸ toD_ok sm.rl r1 e1, hT ▸ toD_ok sm.rl r2 e2, z.1, z.2, h _ H ρ Z Ex.refl sm.rl (.bl _)⟩))
          · rw [if_neg z] at h
            exact h.elim
        · exact h.elim
    · exact h.elim

/-! ### an item -/
def idxU : U → U → List Ob → Rs U := fun x y G => match x, y with
  | .str l, .int i => if l.length ≤ szL then (match atI l i with | some c => .ok (.str [c]) G | none => .bad) else .bad
  | x, .int i => match seqOf G x with
    | some l => (match atI l i with | some u => .ok u G | none => .bad)
    | none => .bad
  | _, _ => .bad
theorem atI_rep {ρ : List Addr} {Z : Addr → Prop} {H : Hp} {vs : List V} {us : List U} {i : Int} {u : U} (r : Reps T ρ Z H vs us) (e : atI us i = some u) : ∃ v, atI vs i = some v ∧ Rep T ρ Z H v u := by
  unfold atI at e ⊢
  rw [r.length]
  cases e1 : ixN us.length i with
  | none => rw [e1] at e; cases e
  | some j =>
    rw [e1] at e
    exact r.get e
theorem o2_idx (hT : X.K = T.K) : O2 T W idxU (rIx X.K) := by
  intro σ H s G ρ Z x y u w Q sm r1 r2 h
  unfold idxU at h
  split at h
  · rename_i l i
    by_cases z : l.length ≤ szL
    · rw [if_pos z] at h
      split at h
      · rename_i c e
        refine .inr (.inr ⟨SS l, i, c, r1.inv_str, r2.inv_int, by rw [strLen, szL_eq]; exact z, by rw [tl_SS]; exact e, ?_⟩)
        exact h _ H ρ Z Ex.refl sm.rl (Rep.ss [c])
      · exact h.elim
    · rw [if_neg z] at h
      exact h.elim
  · split at h
    · rename_i l e
      split at h
      · rename_i u' e2
        obtain ⟨p, vs, rfl, h1, q1⟩ := seqOf_at (σ := σ) sm.rl r1 e
        obtain ⟨v, e3, rv⟩ := atI_rep q1 e2
        rcases h1 with h1 | h1
        · exact .inl ⟨p, vs, _, v, rfl, r2.inv_int, hT ▸ h1, e3, h _ H ρ Z Ex.refl sm.rl rv⟩
        · exact .inr (.inl ⟨p, vs, _, v, rfl, r2.inv_int, hT ▸ h1, e3, h _ H ρ Z Ex.refl sm.rl rv⟩)
      · exact h.elim
    · exact h.elim
  · exact h.elim
theorem fe_ix {a b : Expr} {pos : Pos} {ma mb : ME} (hT : X.K = T.K) (ha : PE X a (tE T W ma)) (hb : PE X b (tE T W mb)) (hs : PlainIx b) : PE X (.Subscript a b pos) (tE T W (bin2 idxU ma mb)) :=
  PE.imp (pe_ix ix_seq ha hb hs) fun _ _ _ q => (o2_idx hT).top q
end
end FL

/-! FL5: tests, and, or, not, displays, slices, built-ins by name. -/
namespace FL
open PySem L2
abbrev MT := Sg → List Ob → Rs Bool
section
variable {X : Cx} {T : Tb} {W : WX} {a b c : Expr} {pos : Pos} {ma mb mc : ME}

/-! ### tests -/
def blU : U → List Ob → Rs Bool := fun u G => match u with
  | .bl k => .ok k G
  | _ => .bad
def tobM (m : ME) : MT := fun s G => (m s G).bind blU
theorem tB_of {σ : St} {H : Hp} {Q : Bool → Hp → Prop} {m : ME} (q : tT T W (tobM m) σ H Q) : tE T W m σ H fun x H1 => ∃ k, x = .bl k ∧ Q k H1 := by
  obtain ⟨s, G, ρ, Z, sm, q⟩ := q
  refine tE_bindB sm q fun u G1 x H1 ρ1 Z1 x1 sm1 r1 q1 => ?_
  unfold blU at q1
  split at q1
  · exact ⟨_, r1.inv_bl, q1 H1 ρ1 Z1 Ex.refl sm1.rl⟩
  · exact q1.elim
theorem ft_val (h : PE X a (tE T W ma)) (he : ∀ whole, isTrue a X.env whole = (do let v ← whole; standAt a.pos; holding [v] (truthy v))) : PT X a (tT T W (tobM ma)) :=
  PT.imp (pt_val h he) fun _ _ _ q => tB_of q
theorem ft_cmp {op : CmpOp} {f : U → U → List Ob → Rs U} {r : R2} (ho : OpR X (compareOp op) r) (h : O2 T W f r) (ha : PE X a (tE T W ma)) (hb : PE X b (tE T W mb)) (hm : behindInMarks op b = false) :
    PT X (.Compare a [op] [b] pos) (tT T W (tobM (bin2 f ma mb))) := PT.imp (pt_cmpR ho ha hb hm) fun _ _ _ q => by
  obtain ⟨s, G, ρ, Z, sm, q⟩ := tB_of q
  exact h.top ⟨s, G, ρ, Z, sm, q⟩
/-- a < b < c -/
def chM (f g : U → U → List Ob → Rs U) (a b c : ME) : ME := fun s G => (a s G).bind fun x G1 => (b s G1).bind fun y G2 => (f x y G2).bind fun z G3 => match z with
  | .bl true => (c s G3).bind fun w G4 => g y w G4
  | .bl false => .ok (.bl false) G3
  | _ => .bad
theorem chM_top {f g : U → U → List Ob → Rs U} {r r' : R2} (h : O2 T W f r) (h' : O2 T W g r') {σ : St} {H : Hp} {Q : VK} (q : tE T W (chM f g ma mb mc) σ H Q) :
    tE T W ma σ H fun x H1 => tE T W mb σ H1 fun y H2 => r x y H2 fun z H3 => ∃ k, z = .bl k ∧ if k = true then tE T W mc σ H3 fun w H4 => r' y w H4 Q else Q (.bl false) H3 := by
  obtain ⟨s, G, ρ, Z, sm, q⟩ := q
  refine tE_bind sm q fun u G1 x H1 ρ1 Z1 x1 sm1 r1 q1 => ?_
  refine tE_bind sm1 q1 fun w G2 y H2 ρ2 Z2 x2 sm2 r2 q2 => ?_
  refine h _ _ _ _ _ _ _ _ _ _ _ sm2 (r1.ex sm1.rl.zm x2) r2 ?_
  cases e : f u w G2 with
  | bad => rw [e] at q2; exact q2
  | exc x G3 => rw [e] at q2; exact q2
  | ok z G3 =>
    rw [e] at q2
    intro v3 H3 ρ3 Z3 x3 rl3 r3
    have q3 := RE.ex q2 x3
    simp only [Rs.bind] at q3
    split at q3
    · refine ⟨true, r3.inv_bl, ?_⟩
      rw [if_pos rfl]
      refine tE_bind (sm2.ex x3 rl3) q3 fun u4 G4 x4 H4 ρ4 Z4 y4 sm4 r4 q4 => ?_
      exact h' _ _ _ _ _ _ _ _ _ _ _ sm4 (((r2.ex sm2.rl.zm x3)).ex rl3.zm y4) r4 q4
    · refine ⟨false, r3.inv_bl, ?_⟩
      rw [if_neg Bool.false_ne_true]
      exact q3 _ H3 ρ3 Z3 Ex.refl rl3 (.bl _)
    · exact q3.elim

/-! ### and, or, not -/
def andT (p q : MT) : MT := fun s G => (p s G).bind fun k G1 => if k then q s G1 else .ok false G1
def orT (p q : MT) : MT := fun s G => (p s G).bind fun k G1 => if k then .ok true G1 else q s G1
def notT (p : MT) : MT := fun s G => (p s G).bind fun k G1 => .ok (!k) G1
variable {pa pb pc : MT} {rest : List Expr}
theorem fw_and1 (h : PT X a (tT T W pa)) : PW X (.BoolOp .And [a] pos) (tT T W pa) := pw_and1 h
theorem fw_or1 (h : PT X a (tT T W pa)) : PW X (.BoolOp .Or [a] pos) (tT T W pa) := pw_or1 h
theorem fw_and (ha : PT X a (tT T W pa)) (hb : PW X (.BoolOp .And (b :: rest) pos) (tT T W pb)) : PW X (.BoolOp .And (a :: b :: rest) pos) (tT T W (andT pa pb)) :=
  PW.imp (pw_and ha hb) fun σ H Q ⟨s, G, ρ, Z, sm, q⟩ => by
    refine tT_bindB sm q fun k G1 H1 ρ1 Z1 x1 sm1 q1 => ?_
    cases k with
    | true => rw [if_pos rfl]; exact ⟨s, G1, ρ1, Z1, sm1, by simpa using q1⟩
    | false => rw [if_neg Bool.false_ne_true]; exact (by simpa using q1 : RB T W σ H1 ρ1 Z1 Q (.ok false G1)) H1 ρ1 Z1 Ex.refl sm1.rl
theorem fw_or (ha : PT X a (tT T W pa)) (hb : PW X (.BoolOp .Or (b :: rest) pos) (tT T W pb)) : PW X (.BoolOp .Or (a :: b :: rest) pos) (tT T W (orT pa pb)) :=
  PW.imp (pw_or ha hb) fun σ H Q ⟨s, G, ρ, Z, sm, q⟩ => by
    refine tT_bindB sm q fun k G1 H1 ρ1 Z1 x1 sm1 q1 => ?_
    cases k with
    | true => rw [if_pos rfl]; exact (by simpa using q1 : RB T W σ H1 ρ1 Z1 Q (.ok true G1)) H1 ρ1 Z1 Ex.refl sm1.rl
    | false => rw [if_neg Bool.false_ne_true]; exact ⟨s, G1, ρ1, Z1, sm1, by simpa using q1⟩
theorem ft_not (h : PT X a (tT T W pa)) : PT X (.UnaryOp .Not a pos) (tT T W (notT pa)) :=
  PT.imp (pt_not h) fun σ H Q ⟨s, G, ρ, Z, sm, q⟩ => tT_bindB sm q fun k G1 H1 ρ1 Z1 x1 sm1 q1 => q1 H1 ρ1 Z1 Ex.refl sm1.rl
/-- as values -/
def andM (p q : ME) : ME := fun s G => (p s G).bind fun u G1 => match u with
  | .bl true => q s G1
  | .bl false => .ok (.bl false) G1
  | _ => .bad
def orM (p q : ME) : ME := fun s G => (p s G).bind fun u G1 => match u with
  | .bl false => q s G1
  | .bl true => .ok (.bl true) G1
  | _ => .bad
def notM (p : ME) : ME := fun s G => (p s G).bind fun u G1 => match u with
  | .bl k => .ok (.bl (!k)) G1
  | _ => .bad
theorem fe_and (ha : PE X a (tE T W ma)) (hb : PE X (.BoolOp .And (b :: rest) pos) (tE T W mb)) : PE X (.BoolOp .And (a :: b :: rest) pos) (tE T W (andM ma mb)) :=
  PE.imp (pe_and ha hb) fun σ H Q ⟨s, G, ρ, Z, sm, q⟩ => by
    refine tE_bind sm q fun u G1 x H1 ρ1 Z1 x1 sm1 r1 q1 => ?_
    split at q1
    · refine ⟨true, r1.inv_bl, ?_⟩
      rw [if_pos rfl]
      exact ⟨s, G1, ρ1, Z1, sm1, q1⟩
    · refine ⟨false, r1.inv_bl, ?_⟩
      rw [if_neg Bool.false_ne_true]
      exact q1 _ H1 ρ1 Z1 Ex.refl sm1.rl (.bl _)
    · exact q1.elim
theorem fe_or (ha : PE X a (tE T W ma)) (hb : PE X (.BoolOp .Or (b :: rest) pos) (tE T W mb)) : PE X (.BoolOp .Or (a :: b :: rest) pos) (tE T W (orM ma mb)) :=
  PE.imp (pe_or ha hb) fun σ H Q ⟨s, G, ρ, Z, sm, q⟩ => by
    refine tE_bind sm q fun u G1 x H1 ρ1 Z1 x1 sm1 r1 q1 => ?_
    split at q1
    · refine ⟨false, r1.inv_bl, ?_⟩
      rw [if_neg Bool.false_ne_true]
      exact ⟨s, G1, ρ1, Z1, sm1, q1⟩
    · refine ⟨true, r1.inv_bl, ?_⟩
      rw [if_pos rfl]
      exact q1 _ H1 ρ1 Z1 Ex.refl sm1.rl (.bl _)
    · exact q1.elim
theorem fe_not (ha : PE X a (tE T W ma)) : PE X (.UnaryOp .Not a pos) (tE T W (notM ma)) :=
  PE.imp (pe_not ha) fun σ H Q ⟨s, G, ρ, Z, sm, q⟩ => by
    refine tE_bind sm q fun u G1 x H1 ρ1 Z1 x1 sm1 r1 q1 => ?_
    split at q1
    · exact ⟨_, r1.inv_bl, q1 _ H1 ρ1 Z1 Ex.refl sm1.rl (.bl _)⟩
    · exact q1.elim
def negM (p : ME) : ME := fun s G => (p s G).bind fun u G1 => match u with
  | .int k => .ok (.int (-k)) G1
  | _ => .bad
theorem fe_neg (ha : PE X a (tE T W ma)) : PE X (.UnaryOp .USub a pos) (tE T W (negM ma)) :=
  PE.imp (pe_un un_neg ha) fun σ H Q ⟨s, G, ρ, Z, sm, q⟩ => by
    refine tE_bind sm q fun u G1 x H1 ρ1 Z1 x1 sm1 r1 q1 => ?_
    split at q1
    · exact ⟨_, r1.inv_int, q1 _ H1 ρ1 Z1 Ex.refl sm1.rl (.int _)⟩
    · exact q1.elim
def iteM (t : MT) (p q : ME) : ME := fun s G => (t s G).bind fun k G1 => if k then p s G1 else q s G1
theorem fe_ite (hc : PT X c (tT T W pc)) (ha : PE X a (tE T W ma)) (hb : PE X b (tE T W mb)) : PE X (.IfExp c a b pos) (tE T W (iteM pc ma mb)) :=
  PE.imp (pe_ifExp hc ha hb) fun σ H Q ⟨s, G, ρ, Z, sm, q⟩ => by
    refine tT_bind sm q fun k G1 H1 ρ1 Z1 x1 sm1 q1 => ?_
    cases k with
    | true => rw [if_pos rfl]; exact ⟨s, G1, ρ1, Z1, sm1, by simpa using q1⟩
    | false => rw [if_neg Bool.false_ne_true]; exact ⟨s, G1, ρ1, Z1, sm1, by simpa using q1⟩

/-! ### argument lists, displays -/
def nilA : MA := fun _ G => .ok [] G
def consA (p : ME) (q : MA) : MA := fun s G => (p s G).bind fun u G1 => (q s G1).bind fun us G2 => .ok (u :: us) G2
variable {es : List Expr} {mas : MA}
theorem fa_nil : PA X [] (tA T W nilA) := PA.imp pa_nil fun σ H Q ⟨s, G, ρ, Z, sm, q⟩ => q [] H ρ Z Ex.refl sm.rl .nil
theorem tA_bindA {m : MA} {f : List U → List Ob → Rs (List U)} {Q : List V → Hp → Prop} {k : List V → Hp → Prop} {σ : St} {H : Hp} {s : Sg} {G : List Ob} {ρ : List Addr} {Z : Addr → Prop} (sm : Sm T σ H s G ρ Z) (h : RA T W σ H ρ Z Q ((m s G).bind f))
    (hk : ∀ u G' v H' ρ' Z', Ex ρ Z H ρ' Z' H' → Sm T σ H' s G' ρ' Z' → Reps T ρ' Z' H' v u → RA T W σ H' ρ' Z' Q (f u G') → k v H') : tA T W m σ H k := by
  refine ⟨s, G, ρ, Z, sm, ?_⟩
  cases e : m s G with
  | ok u G' =>
    rw [e] at h
    exact fun v H' ρ' Z' x rl rp => hk u G' v H' ρ' Z' x (sm.ex x rl) rp (RA.ex h x)
  | exc x G' => rw [e] at h; exact h
  | bad => rw [e] at h; exact h
theorem fa_cons (ha : PE X a (tE T W ma)) (hr : PA X es (tA T W mas)) (hs : starEach (a :: es) X.env = (false, eval a X.env) :: starEach es X.env) : PA X (a :: es) (tA T W (consA ma mas)) :=
  PA.imp (pa_cons ha hr hs) fun σ H Q ⟨s, G, ρ, Z, sm, q⟩ => by
    refine tE_bindA sm q fun u G1 x H1 ρ1 Z1 x1 sm1 r1 q1 => ?_
    refine tA_bindA sm1 q1 fun us G2 vs H2 ρ2 Z2 x2 sm2 r2 q2 => ?_
    exact q2 _ H2 ρ2 Z2 Ex.refl sm2.rl (.cons (r1.ex sm1.rl.zm x2) r2)
def lstM (mu : Bool) (p : MA) : ME := fun s G => (p s G).bind fun us G1 => newL mu us G1
def tupM (p : MA) : ME := fun s G => (p s G).bind fun us G1 => newT us G1
theorem fe_lst {mu : Bool} (h : PA X es (tA T W mas)) : PE X (.List es pos) (tE T W (lstM mu mas)) :=
  PE.imp (pe_lst h) fun σ H Q ⟨s, G, ρ, Z, sm, q⟩ => tA_bind sm q fun us G1 vs H1 ρ1 Z1 x1 sm1 r1 q1 => newL_ok sm1.rl r1 q1
theorem fe_tup {k : Nat} (h : PA X es (tA T W mas)) : PE X (.Tuple es k pos) (tE T W (tupM mas)) :=
  PE.imp (pe_tup h) fun σ H Q ⟨s, G, ρ, Z, sm, q⟩ => tA_bind sm q fun us G1 vs H1 ρ1 Z1 x1 sm1 r1 q1 => newT_ok sm1.rl r1 q1

/-! ### slices -/
def cutL {α : Type} (xs : List α) (lo hi : Option Int) : List α := (xs.drop (HT.sIx xs.length 0 lo)).take (HT.sIx xs.length xs.length hi - HT.sIx xs.length 0 lo)
theorem cutV_rep {ρ : List Addr} {Z : Addr → Prop} {H : Hp} {vs : List V} {us : List U} (r : Reps T ρ Z H vs us) (lo hi : Option Int) : Reps T ρ Z H (cutV vs lo hi) (cutL us lo hi) := by
  unfold cutV cutL
  rw [r.length]
  exact (r.drop _).take _
def slU (mu : Bool) (lo hi : Option Int) : U → List Ob → Rs U := fun u G => match u with
  | .str l => if l.length ≤ szL then .ok (.str (cutL l lo hi)) G else .bad
  | .tup l => .ok (.tup (cutL l lo hi)) G
  | u => match lstOf G u with
    | some l => newL mu (cutL l lo hi) G
    | none => .bad
/-- a part of a slice -/
abbrev MO := Sg → List Ob → Rs (Option Int)
def noneO : MO := fun _ G => .ok none G
def someO (m : ME) : MO := fun s G => (m s G).bind fun u G1 => match u with
  | .int i => .ok (some i) G1
  | _ => .bad
def RO (T : Tb) (W : WX) (σ : St) (H : Hp) (ρ : List Addr) (Z : Addr → Prop) (Q : Option Int → Hp → Prop) : Rs (Option Int) → Prop
  | .ok u G' => ∀ H' ρ' Z', Ex ρ Z H ρ' Z' H' → Rl T ρ' Z' G' H' → Q u H'
  | .exc x G' => EEnd T W σ H ρ Z x G'
  | .bad => False
def tO (T : Tb) (W : WX) (m : MO) : TO := fun σ H Q => ∃ s G ρ Z, Sm T σ H s G ρ Z ∧ RO T W σ H ρ Z Q (m s G)
theorem fo_none : PO X none (tO T W noneO) := by
  refine ⟨?_⟩
  have h := (po_none (X := X)).run
  intro pins s σ H Q I
  intro q
  obtain ⟨s', G, ρ, Z, sm, q⟩ := q
  exact h pins s σ H Q I (q H ρ Z Ex.refl sm.rl)
theorem fo_some {e : Expr} {m : ME} (he : PE X e (tE T W m)) : PO X (some e) (tO T W (someO m)) := by
  refine ⟨?_⟩
  have h := (po_some he).run
  intro pins s σ H Q I q
  refine h pins s σ H Q I ?_
  obtain ⟨s', G, ρ, Z, sm, q⟩ := q
  refine ⟨s', G, ρ, Z, sm, ?_⟩
  unfold someO at q
  cases e1 : m s' G with
  | bad => rw [e1] at q; exact q
  | exc x G' => rw [e1] at q; exact q
  | ok u G' =>
    rw [e1] at q
    intro v H' ρ' Z' x rl r
    simp only [Rs.bind] at q
    split at q
    · exact ⟨_, r.inv_int, q H' ρ' Z' x rl⟩
    · exact q.elim
def slM (mu : Bool) (a : ME) (lo hi : MO) : ME := fun s G => (a s G).bind fun u G1 => (lo s G1).bind fun i G2 => (hi s G2).bind fun j G3 => slU mu i j u G3
theorem tO_bind {m : MO} {f : Option Int → List Ob → Rs U} {Q : VK} {k : Option Int → Hp → Prop} {σ : St} {H : Hp} {s : Sg} {G : List Ob} {ρ : List Addr} {Z : Addr → Prop} (sm : Sm T σ H s G ρ Z) (h : RE T W σ H ρ Z Q ((m s G).bind f))
    (hk : ∀ u G' H' ρ' Z', Ex ρ Z H ρ' Z' H' → Sm T σ H' s G' ρ' Z' → RE T W σ H' ρ' Z' Q (f u G') → k u H') : tO T W m σ H k := by
  refine ⟨s, G, ρ, Z, sm, ?_⟩
  cases e : m s G with
  | ok u G' =>
    rw [e] at h
    exact fun H' ρ' Z' x rl => hk u G' H' ρ' Z' x (sm.ex x rl) (RE.ex h x)
  | exc x G' => rw [e] at h; exact h
  | bad => rw [e] at h; exact h
abbrev rSlAll (K : PySem.W.Frag) : V → Option Int → Option Int → Hp → VK → Prop := fun x lo hi H Q => rSlS x lo hi H Q ∨ rSlA K x lo hi H Q ∨ rSlL K x lo hi H Q
theorem sl_all : SlR X (rSlAll X.K) := SlR.or sl_str (SlR.or sl_tupA sl_list)
theorem cutS_eq (l : List Nat) (lo hi : Option Int) : cutS (SS l) lo hi = SS (cutL l lo hi) := by
  unfold cutS cutL
  rw [tl_SS, strLen]
theorem fe_slice {mu : Bool} {lo hi : Option Expr} {ml mh : MO} {p2 : Pos} (hT : X.K = T.K) (ha : PE X a (tE T W ma)) (hl : PO X lo (tO T W ml)) (hh : PO X hi (tO T W mh)) : PE X (.Subscript a (.Slice lo hi none p2) pos) (tE T W (slM mu ma ml mh)) :=
  PE.imp (pe_slice sl_all ha hl hh) fun σ H Q ⟨s, G, ρ, Z, sm, q⟩ => by
    refine tE_bind sm q fun u G1 x H1 ρ1 Z1 x1 sm1 r1 q1 => ?_
    refine tO_bind sm1 q1 fun i G2 H2 ρ2 Z2 x2 sm2 q2 => ?_
    refine tO_bind sm2 q2 fun j G3 H3 ρ3 Z3 x3 sm3 q3 => ?_
    have r3 := (r1.ex sm1.rl.zm x2).ex sm2.rl.zm x3
    unfold slU at q3
    split at q3
    · rename_i l
      by_cases z : l.length ≤ szL
      · rw [if_pos z] at q3
        refine .inl ⟨SS l, r3.inv_str, by rw [strLen, szL_eq]; exact z, ?_⟩
        rw [cutS_eq]
        exact q3 _ H3 ρ3 Z3 Ex.refl sm3.rl (Rep.ss _)
      · rw [if_neg z] at q3
        exact q3.elim
    · rename_i l
      obtain ⟨p, vs, rfl, h1, q4⟩ := r3.inv_tup
      refine .inr (.inl ⟨p, vs, rfl, hT ▸ h1, fun hw => ?_, fun hw p' hp => ?_⟩)
      · refine q3 _ H3 ρ3 Z3 Ex.refl sm3.rl (.tup h1 ?_)
        have e : cutL l i j = l := by
          unfold cutL
          rw [← q4.length, hw.1, hw.2, List.drop_zero, Nat.sub_zero, q4.length, List.take_length]
        rw [e]
        exact q4
      · exact q3 _ _ ρ3 Z3 (ex_new hp) (sm3.rl.new hp) (.tup (SqT.of upd_same) ((cutV_rep q4 i j).ex sm3.rl.zm (ex_new hp)))
    · split at q3
      · rename_i l e
        obtain ⟨p, vs, rfl, h1, q4⟩ := lstOf_at sm3.rl r3 e
        exact .inr (.inr ⟨p, vs, rfl, hT ▸ h1, (newL_ok sm3.rl (cutV_rep q4 i j) q3).2⟩)
      · exact q3.elim
end
end FL

/-! FL6: side conditions by the syntax's head. -/
namespace FL
open PySem L2
def noStar : Expr → Bool
  | .Starred .. => false
  | _ => true
theorem star_cons {a : Expr} {es : List Expr} {env : Env} (h : noStar a = true) : starEach (a :: es) env = (false, eval a env) :: starEach es env := by
  cases a <;> first | rfl | (simp [noStar] at h)
theorem star_any {es : List Expr} {env : Env} {pos : Pos} (h : es.all noStar = true) : (backTo pos (starEach es env)).any (·.1) = false := by
  induction es with
  | nil => rfl
  | cons a r ih =>
    rw [List.all_cons, Bool.and_eq_true] at h
    rw [star_cons h.1]
    show (false || (backTo pos (starEach r env)).any (·.1)) = false
    rw [ih h.2]
    rfl
theorem star_all {es : List Expr} {env : Env} {pos : Pos} (h : es.all noStar = true) : (backTo pos (starEach es env)).all (fun x => !x.1) = true := by
  induction es with
  | nil => rfl
  | cons a r ih =>
    rw [List.all_cons, Bool.and_eq_true] at h
    rw [star_cons h.1]
    show (true && (backTo pos (starEach r env)).all (fun x => !x.1)) = true
    rw [ih h.2]
    rfl
/-- a receiver that is no call of a name without arguments -/
def plainRecv : Expr → Bool
  | .Call _ [] _ _ => false
  | _ => true
theorem attrBase {o : Expr} {f : Str} {env : Env} {w : Sem Value} (h : plainRecv o = true) : attributeBase o f env w = w := by
  cases o with
  | Call g as ks p =>
    cases as with
    | nil => simp [plainRecv] at h
    | cons a r => cases g <;> rfl
  | _ => rfl
/-- a test whose truth is asked of its value -/
def plainTest : Expr → Bool
  | .UnaryOp .Not _ _ => false
  | .BoolOp .. => false
  | .IfExp .. => false
  | .Compare .. => false
  | _ => true
theorem plain_test {a : Expr} {env : Env} (h : plainTest a = true) : ∀ whole, isTrue a env whole = (do let v ← whole; standAt a.pos; holding [v] (truthy v)) := by
  intro whole
  cases a with
  | UnaryOp op x p => cases op <;> first | rfl | (simp [plainTest] at h)
  | BoolOp _ _ _ => simp [plainTest] at h
  | IfExp _ _ _ _ => simp [plainTest] at h
  | Compare _ _ _ _ => simp [plainTest] at h
  | _ => rfl
/-- no comprehension -/
def noComp : Expr → Bool
  | .ListComp .. => false
  | .SetComp .. => false
  | .DictComp .. => false
  | _ => true
theorem swaps_no {e : Expr} {t : Option Expr} {l : Nat} {env : Env} (h : noComp e = true) : swapsWith e t l env = pure false := by
  cases e <;> first | rfl | (simp [noComp] at h)
def notName : Expr → Bool
  | .Name .. => false
  | _ => true
theorem swaps_other {e t : Expr} {l : Nat} {env : Env} (h : notName t = true) : swapsWith e (some t) l env = pure false := by
  cases e <;> first | rfl | (cases t <;> first | rfl | (simp [notName] at h))
theorem swaps_sole {e t : Expr} {l : Nat} {env : Env} (h : notName t = true) : swapsWithSole [t] e l env = pure false := swaps_other h
/-- no set display -/
def noSet : Expr → Bool
  | .Set .. => false
  | _ => true
theorem folded_no {e : Expr} {env : Env} (h : noSet e = true) : ∀ x, foldedSetIterable e env x = pure x := by
  intro x
  cases e <;> first | rfl | (simp [noSet] at h)
theorem marks_no {e : Expr} {op : CmpOp} (h : noSet e = true) : behindInMarks op e = false := by
  cases e <;> first | rfl | (simp [noSet] at h)
/-- an index that is no slice -/
def noSlice : Expr → Bool
  | .Slice .. => false
  | _ => true
theorem plainIx {e : Expr} (h : noSlice e = true) : PlainIx e := by
  intro o i
  cases e <;> first | rfl | (simp [noSlice] at h)
def notTT : Expr → Expr → Bool
  | .Tuple .., .Tuple .. => false
  | .List .., .Tuple .. => false
  | _, _ => true
theorem swapped_no {t v : Expr} {env : Env} (h : notTT t v = true) : swappedStores [t] v env = pure none := by
  cases t <;> cases v <;> first | rfl | (simp [notTT] at h)
/-- a target that is no starred one -/
theorem assign_one {t : Expr} {env : Env} (h : noStar t = true) : (assignEach [t] env).map (·.2) = [assign t env] := by
  cases t <;> first | rfl | (simp [noStar] at h)
theorem assign_cons {t : Expr} {ts : List Expr} {env : Env} (h : noStar t = true) : assignEach (t :: ts) env = (false, assign t env) :: assignEach ts env := by
  cases t <;> first | rfl | (simp [noStar] at h)
theorem assign_len {env : Env} : ∀ {ts : List Expr}, ts.all noStar = true → (assignEach ts env).length = ts.length
  | [], _ => rfl
  | t :: ts, h => by
    rw [List.all_cons, Bool.and_eq_true] at h
    rw [assign_cons h.1, List.length_cons, List.length_cons, assign_len h.2]
theorem assign_idx {env : Env} : ∀ {ts : List Expr}, ts.all noStar = true → (assignEach ts env).findIdx? (·.1) = none
  | [], _ => rfl
  | t :: ts, h => by
    rw [List.all_cons, Bool.and_eq_true] at h
    rw [assign_cons h.1, List.findIdx?_cons]
    simp [assign_idx h.2]
theorem call_eval {o : Expr} {m : Str} {apos pos : Pos} {es : List Expr} {env : Env} (h1 : plainRecv o = true) (h2 : es.all noStar = true) (h3 : es.length < 30) (h4 : (apos.endLine == pos.line) = true) :
    eval (.Call (.Attribute o m apos) es [] pos) env = (do
      let ov ← eval o env
      standAt apos.atName
      let (f, first) ← holding [ov] (getMethod ov m (do return (← importBound o env).getD true))
      callWith pos f first (backTo pos (starEach es env)) (backToKw pos (keywordEach [] env))) := by
  have e1 : eval (.Call (.Attribute o m apos) es [] pos) env = (do
      let ov ← attributeBase o m env (eval o env)
      standAt apos.atName
      methodCall o m apos pos env ov (es.length + ([] : List Keyword).length) (backTo pos (starEach es env)) (backToKw pos (keywordEach [] env))) := rfl
  have hform : methodCallForm (es.length + ([] : List Keyword).length) (backTo pos (starEach es env)) (backToKw pos (keywordEach [] env)) = true := by
    unfold methodCallForm
    rw [star_all h2]
    have : es.length + 0 + 0 < 30 := by omega
    simp [backToKw, keywordEach]
    omega
  have hpos : methodCallPos true o env apos pos = pure pos := by unfold methodCallPos; simp [h4]
  rw [e1, attrBase h1]
  unfold methodCall
  rw [hform, hpos]
  rfl
end FL

/-! FL7: calls of defs, methods, classes; attributes. -/
namespace FL
open PySem L2 PyProof.Rows
abbrev RunD := List U → List Ob → Rs U
/-- what a def's result promises -/
def RD (T : Tb) (H : Hp) (ρ : List Addr) (Z : Addr → Prop) (Q : VK) (E : XK) : Rs U → Prop
  | .ok u G' => ∀ v H' ρ' Z', Ex ρ Z H ρ' Z' H' → Rl T ρ' Z' G' H' → Rep T ρ' Z' H' v u → Q v H'
  | .exc x G' => ∀ cls d H' ρ' Z', Ex ρ Z H ρ' Z' H' → Rl T ρ' Z' G' H' → ExAt T x cls d H' → E cls d H'
  | .bad => False
/-- a def's promise: it does what the function r does -/
def spD (T : Tb) (n : Nat) (r : RunD) : Sp := fun vs H Q E => ∃ us G ρ Z, Rl T ρ Z G H ∧ Reps T ρ Z H vs us ∧ us.length = n ∧ RD T H ρ Z Q E (r us G)
def arM (n : Nat) (r : RunD) : RunD := fun us G => if us.length = n then r us G else .bad
section
variable {T : Tb} {W : WX} {σ : L2.St} {H : Hp} {ρ : List Addr} {Z : Addr → Prop} {G : List Ob} {s : Sg}
theorem RE.rd {Q : VK} {r : Rs U} (h : RE T W σ H ρ Z Q r) : RD T H ρ Z Q (WE W σ) r := by
  cases r with
  | ok u G' => exact h
  | exc x G' => exact h
  | bad => exact h
theorem RE.sp {Q : VK} {r : RunD} {n : Nat} {us : List U} {vs : List V} (sm : Sm T σ H s G ρ Z) (q : Reps T ρ Z H vs us) (h : RE T W σ H ρ Z Q (arM n r us G)) : spD T n r vs H Q (WE W σ) := by
  unfold arM at h
  by_cases e : us.length = n
  · rw [if_pos e] at h
    exact ⟨us, G, ρ, Z, sm.rl, q, e, h.rd⟩
  · rw [if_neg e] at h
    exact h.elim
/-- the promise weakened: what follows of the ends -/
theorem RD.imp {Q Q' : VK} {E E' : XK} {r : Rs U} (h : RD T H ρ Z Q E r) (hq : ∀ v H', Q v H' → Q' v H') (he : ∀ c d H', E c d H' → E' c d H') : RD T H ρ Z Q' E' r := by
  cases r with
  | ok u G' => exact fun v H' ρ' Z' x rl r => hq _ _ (h v H' ρ' Z' x rl r)
  | exc x G' => exact fun c d H' ρ' Z' y rl r => he _ _ _ (h c d H' ρ' Z' y rl r)
  | bad => exact h
end

/-! ### a def that is called -/
section
variable {X : Cx} {T : Tb} {W : WX} {k n : Nat} {f C : Addr} {fd : FuncData} {ps : List Str} {r : RunD} {x m : Str} {p pos apos : Pos} {e o : Expr} {es : List Expr} {mas : MA} {mo : ME}
/-- the def at f as the program has it: it keeps r -/
structure DefOk (P : Program) (w : World) (K : PySem.W.Frag) (mg : Str → Option Value) (base : Heap) (T : Tb) (k : Nat) (f : Addr) (n : Nat) (r : RunD) : Prop where
  ex : ∃ fd ps, Binds K fd ps [] ∧ ps.length = n ∧ FnOk P w K mg base (L2.CX P w) k f fd ps (spD T n r)
def callM (n : Nat) (r : RunD) (mas : MA) : ME := fun s G => (mas s G).bind fun us G1 => arM n r us G1
theorem fe_call (F : DefOk X.prog X.w X.K X.mg X.base T k f n r) (hr : Room k X.A) (hg : Gl X x) (hm : X.mg x = some (.ref f)) (hk : PySem.W.keepIn X.K (.ref f) = true) (tk : Takes X W)
    (ha : PA X (e :: es) (tA T W mas)) (hdb : (x == ("__debug__" : Str)) = false) (hst : (e :: es).all noStar = true) : PE X (.Call (.Name x p) (e :: es) [] pos) (tE T W (callM n r mas)) := by
  obtain ⟨fd, ps, hb, hl, F⟩ := F.ex
  rw [List.all_cons, Bool.and_eq_true] at hst
  refine PE.imp (pe_callSD F hr hg hm hk hb .nil (fun σ => passAt tk σ) ha hdb (star_cons hst.1) (star_any hst.2)) fun σ H Q ⟨s, G, ρ, Z, sm, q⟩ => ?_
  refine tA_bind sm q fun us G1 vs H1 ρ1 Z1 x1 sm1 r1 q1 => ?_
  rw [List.append_nil]
  exact RE.sp sm1 r1 q1

/-- o.m(e, ..), what is raised wished for at the caller's slots -/
def tMethS (C : Addr) (m : Str) (sp : Sp) (E : L2.St → XK) (ta : TE) (t : TA) : TE := fun σ H Q => ta σ H fun x H1 => ∃ a dx fs, x = .ref a ∧ H1 a = some (.ins C dx fs) ∧ fs.lookup m = none ∧ t σ H1 fun vs H2 => sp (x :: vs) H2 Q (E σ)
theorem pe_methS {CX : CXT} {sp : Sp} {E : L2.St → XK} {ta : TE} {t : TA} {pl : Sem Bool} (he : PE X o ta) (c : Cls X.K C) (hm : Meth X.K C m f) (F : FnOk X.prog X.w X.K X.mg X.base CX k f fd ps sp) (hr : Room k X.A) (hb : Binds X.K fd ps []) (hx : ∀ σ, PassesAt CX X σ (E σ)) (ha : PA X (e :: es) t)
    (hst : starEach (e :: es) X.env = (false, eval e X.env) :: starEach es X.env) (hpl : (backTo pos (starEach es X.env)).any (·.1) = false)
    (ht : eval (.Call (.Attribute o m apos) (e :: es) [] pos) X.env = (do
      let ov ← eval o X.env
      standAt apos.atName
      let (f, first) ← holding [ov] (getMethod ov m pl)
      callWith pos f first (backTo pos (starEach (e :: es) X.env)) (backToKw pos (keywordEach [] X.env)))) :
    PE X (.Call (.Attribute o m apos) (e :: es) [] pos) (tMethS C m sp E ta t) := by
  refine ⟨fun pins s σ H Q I h => ?_⟩
  refine PySem.W.methodCall_KW (pl := pl) (thn (he.run pins s σ H _ I h) fun u s1 ⟨x, H1, I1, rx, a, dx, fs, ex, ea, l, q⟩ => ?_) ht
  subst ex
  obtain rfl : u = Value.ref a := rx
  refine getmeth_ok I1 ea c hm l ?_
  refine PySem.W.callWith_K (first := [.ref a]) (h₀ := X.base) I.ok.mod.kin hm.kp (thn (ha.run pos pins s1 σ H1 _ I1 q) fun us s2 ⟨vs, H2, I2, r, q2⟩ => ⟨I2.kIn, ?_⟩) hst hpl
  exact run_fnSD (us := .ref a :: us) (vs := .ref a :: vs) (ds := []) (dvs := []) F hr hb .nil (hx σ) I2 (.cons rfl r) (by rw [List.append_nil]; exact q2)
theorem pe_meth0S {CX : CXT} {sp : Sp} {E : L2.St → XK} {ta : TE} {pl : Sem Bool} (he : PE X o ta) (c : Cls X.K C) (hm : Meth X.K C m f) (F : FnOk X.prog X.w X.K X.mg X.base CX k f fd ps sp) (hr : Room k X.A) (hb : Binds X.K fd ps []) (hx : ∀ σ, PassesAt CX X σ (E σ))
    (ht : eval (.Call (.Attribute o m apos) [] [] pos) X.env = (do
      let ov ← eval o X.env
      standAt apos.atName
      let (f, first) ← holding [ov] (getMethod ov m pl)
      callWith pos f first (backTo pos (starEach [] X.env)) (backToKw pos (keywordEach [] X.env)))) :
    PE X (.Call (.Attribute o m apos) [] [] pos) (tMethS C m sp E ta tNil) := by
  refine ⟨fun pins s σ H Q I h => ?_⟩
  refine PySem.W.methodCall_KW (pl := pl) (thn (he.run pins s σ H _ I h) fun u s1 ⟨x, H1, I1, rx, a, dx, fs, ex, ea, l, q⟩ => ?_) ht
  subst ex
  obtain rfl : u = Value.ref a := rx
  refine getmeth_ok I1 ea c hm l ?_
  exact PySem.W.callWith_K0 (first := [.ref a]) I1.kIn hm.kp (run_fnSD (us := [.ref a]) (vs := [.ref a]) (ds := []) (dvs := []) F hr hb .nil (hx σ) I1 (.cons rfl .nil) (by rw [List.append_nil]; exact q))

/-- the class and the fields of an instance -/
def insOf (G : List Ob) : U → Option (Nat × List (Nat × U))
  | .ins c l => some (c, l)
  | .ref i => match G[i]? with
    | some (.ins c l) => some (c, l)
    | _ => none
  | _ => none
theorem insOf_at {H : Hp} {ρ : List Addr} {Z : Addr → Prop} {G : List Ob} {u : U} {c : Nat} {l : List (Nat × U)} {v : V} (rl : Rl T ρ Z G H) (q : Rep T ρ Z H v u) (e : insOf G u = some (c, l)) :
    ∃ a C dx fv, v = .ref a ∧ H a = some (.ins C dx fv) ∧ T.cls[c]? = some C ∧ RepF T ρ Z H fv l := by
  cases u with
  | ins c' l' =>
    cases e
    cases q with
    | ins h z hc r => exact ⟨_, _, _, _, rfl, h, hc, r⟩
  | ref i =>
    obtain ⟨a, ev, h⟩ := q.inv_ref
    simp only [insOf] at e
    cases g : G[i]? with
    | none => rw [g] at e; cases e
    | some ob =>
      rw [g] at e
      cases ob with
      | ins c' l' =>
        cases e
        obtain ⟨_, C, dx, fv, h2, h3, h4⟩ := rl.ob i a _ h g
        exact ⟨a, C, dx, fv, ev, h2, h3, h4⟩
      | _ => cases e
  | _ => cases e
theorem repF_none {H : Hp} {ρ : List Addr} {Z : Addr → Prop} {k : Nat} {f : Str} (hf : ∀ j, T.att[j]? = some f → j = k) : ∀ {fv : List (Str × V)} {l : List (Nat × U)}, RepF T ρ Z H fv l → l.lookup k = none → fv.lookup f = none
  | _, _, .nil, _ => rfl
  | _, _, .cons (f := g) (k := j) e r t, h => by
    rw [List.lookup_cons] at h ⊢
    by_cases hg : f = g
    · subst hg
      rw [hf j e] at h
      simp at h
    · have : (f == g) = false := by simpa using hg
      rw [this]
      by_cases hk : k = j
      · subst hk; simp at h
      · have : (k == j) = false := by simpa using hk
        rw [this] at h
        exact repF_none hf t h
theorem repF_some {H : Hp} {ρ : List Addr} {Z : Addr → Prop} {k : Nat} {f : Str} {u : U} (hk : T.att[k]? = some f) (hf : ∀ j, T.att[j]? = some f → j = k) : ∀ {fv : List (Str × V)} {l : List (Nat × U)}, RepF T ρ Z H fv l → l.lookup k = some u → ∃ v, fv.lookup f = some v ∧ Rep T ρ Z H v u
  | _, _, .nil, h => by cases h
  | _, _, .cons (f := g) (k := j) (v := v) (u := u') e r t, h => by
    rw [List.lookup_cons] at h ⊢
    by_cases hj : k = j
    · subst hj
      rw [hk] at e
      cases e
      simp at h ⊢
      subst h
      exact r
    · have h1 : (k == j) = false := by simpa using hj
      rw [h1] at h
      have h2 : (f == g) = false := by
        simp only [beq_eq_false_iff_ne, ne_eq]
        intro z
        subst z
        exact hj (hf j e).symm
      rw [h2]
      exact repF_some hk hf t h

/-- the names of attributes are all different -/
def AttOk (T : Tb) : Prop := ∀ (i j : Nat) (f : Str), T.att[i]? = some f → T.att[j]? = some f → i = j
/-- one class's method: its def -/
structure MethOk (P : Program) (w : World) (K : PySem.W.Frag) (mg : Str → Option Value) (base : Heap) (T : Tb) (k : Nat) (c : Nat) (m : Str) (km : Nat) (n : Nat) (r : RunD) : Prop where
  cl : ∃ C f, T.cls[c]? = some C ∧ Cls K C ∧ Meth K C m f ∧ T.att[km]? = some m ∧ DefOk P w K mg base T k f n r
/-- o.m(e, ..): mt c is the method's def in the class c -/
def methM (mt : Nat → Option (Nat × RunD)) (km : Nat) (mo : ME) (mas : MA) : ME := fun s G => (mo s G).bind fun u G1 => match insOf G1 u with
  | some (c, l) => match mt c with
    | some (n, r) => match l.lookup km with
      | none => (mas s G1).bind fun us G2 => arM n r (u :: us) G2
      | some _ => .bad
    | none => .bad
  | none => .bad
theorem PE.ex {ι : Sort _} {e : Expr} {t : ι → TE} (h : ∀ i, PE X e (t i)) : PE X e (fun σ H Q => ∃ i, t i σ H Q) := ⟨fun pins s σ H Q I ⟨i, q⟩ => (h i).run pins s σ H Q I q⟩
/-- the class that a receiver has, for the choice of the rule -/
theorem meth_imp {mt : Nat → Option (Nat × RunD)} {km : Nat} {σ : L2.St} {H : Hp} {Q : VK} (hat : AttOk T) (h0 : ∃ c n r, mt c = some (n, r)) (hmt : ∀ c n r, mt c = some (n, r) → ∃ C, T.cls[c]? = some C ∧ T.att[km]? = some m)
    (q : tE T W (methM mt km mo mas) σ H Q) : ∃ c n r C, mt c = some (n, r) ∧ T.cls[c]? = some C ∧ tMethS C m (spD T n r) (WE W) (tE T W mo) (tA T W mas) σ H Q := by
  obtain ⟨s, G, ρ, Z, sm, q⟩ := q
  unfold methM at q
  cases e : mo s G with
  | bad => rw [e] at q; exact q.elim
  | exc x G1 =>
    obtain ⟨c, n, r, hc⟩ := h0
    obtain ⟨C, g1, g2⟩ := hmt c n r hc
    refine ⟨c, n, r, C, hc, g1, s, G, ρ, Z, sm, ?_⟩
    rw [e] at q ⊢
    exact q
  | ok u G1 =>
    rw [e] at q
    simp only [Rs.bind] at q
    split at q
    · rename_i c l hi
      split at q
      · rename_i n r hc
        obtain ⟨C, g1, g2⟩ := hmt c n r hc
        split at q
        · rename_i hl
          refine ⟨c, n, r, C, hc, g1, s, G, ρ, Z, sm, ?_⟩
          rw [e]
          intro v H1 ρ1 Z1 x1 rl1 r1
          obtain ⟨a, C', dx, fv, ev, h1, h2, h3⟩ := insOf_at rl1 r1 hi
          have eC : C' = C := by rw [g1] at h2; exact (Option.some.inj h2).symm
          subst eC
          refine ⟨a, dx, fv, ev, h1, repF_none (fun j hj => hat j km m hj g2) h3 hl, ?_⟩
          have sm1 := sm.ex x1 rl1
          refine tA_bind sm1 (RE.ex q x1) fun us G2 vs H2 ρ2 Z2 x2 sm2 r2 q2 => ?_
          exact RE.sp sm2 (.cons (r1.ex rl1.zm x2) r2) q2
        · exact q.elim
      · exact q.elim
    · exact q.elim
theorem fe_meth {mt : Nat → Option (Nat × RunD)} {km : Nat} (ho : PE X o (tE T W mo)) (ha : PA X (e :: es) (tA T W mas)) (hat : AttOk T) (h0 : ∃ c n r, mt c = some (n, r)) (hmt : ∀ c n r, mt c = some (n, r) → MethOk X.prog X.w X.K X.mg X.base T k c m km n r) (hr : Room k X.A) (tk : Takes X W)
    (h1 : plainRecv o = true) (h2 : (e :: es).all noStar = true) (h3 : (e :: es).length < 30) (h4 : (apos.endLine == pos.line) = true) : PE X (.Call (.Attribute o m apos) (e :: es) [] pos) (tE T W (methM mt km mo mas)) := by
  have key : ∀ (i : { z : Nat × Nat × RunD × Addr // mt z.1 = some (z.2.1, z.2.2.1) ∧ T.cls[z.1]? = some z.2.2.2 }), PE X (.Call (.Attribute o m apos) (e :: es) [] pos) (tMethS i.1.2.2.2 m (spD T i.1.2.1 i.1.2.2.1) (WE W) (tE T W mo) (tA T W mas)) := fun ⟨⟨c, n, r, C⟩, hc, hC⟩ => by
    obtain ⟨C', f, g1, g2, g3, g4, g5⟩ := (hmt c n r hc).cl
    have eC : C' = C := by rw [hC] at g1; exact (Option.some.inj g1).symm
    subst eC
    obtain ⟨fd, ps, hb, hl, F⟩ := g5.ex
    have h2' := h2
    rw [List.all_cons, Bool.and_eq_true] at h2'
    exact pe_methS ho g2 g3 F hr hb (fun σ => passAt tk σ) ha (star_cons h2'.1) (star_any h2'.2) (call_eval h1 h2 h3 h4)
  refine PE.imp (PE.ex key) fun σ H Q q => ?_
  obtain ⟨c, n, r, C, hc, hC, q⟩ := meth_imp hat h0 (fun c n r hc => let ⟨C, f, g1, g2, g3, g4, g5⟩ := (hmt c n r hc).cl; ⟨C, g1, g4⟩) q
  exact ⟨⟨⟨c, n, r, C⟩, hc, hC⟩, q⟩
theorem tNil_of {σ : L2.St} {H : Hp} {Q : List V → Hp → Prop} (q : tA T W nilA σ H Q) : tNil σ H Q := by
  obtain ⟨s, G, ρ, Z, sm, q⟩ := q
  exact q [] H ρ Z Ex.refl sm.rl .nil
theorem fe_meth0 {mt : Nat → Option (Nat × RunD)} {km : Nat} (ho : PE X o (tE T W mo)) (hat : AttOk T) (h0 : ∃ c n r, mt c = some (n, r)) (hmt : ∀ c n r, mt c = some (n, r) → MethOk X.prog X.w X.K X.mg X.base T k c m km n r) (hr : Room k X.A) (tk : Takes X W)
    (h1 : plainRecv o = true) (h4 : (apos.endLine == pos.line) = true) : PE X (.Call (.Attribute o m apos) [] [] pos) (tE T W (methM mt km mo nilA)) := by
  have key : ∀ (i : { z : Nat × Nat × RunD × Addr // mt z.1 = some (z.2.1, z.2.2.1) ∧ T.cls[z.1]? = some z.2.2.2 }), PE X (.Call (.Attribute o m apos) [] [] pos) (tMethS i.1.2.2.2 m (spD T i.1.2.1 i.1.2.2.1) (WE W) (tE T W mo) tNil) := fun ⟨⟨c, n, r, C⟩, hc, hC⟩ => by
    obtain ⟨C', f, g1, g2, g3, g4, g5⟩ := (hmt c n r hc).cl
    have eC : C' = C := by rw [hC] at g1; exact (Option.some.inj g1).symm
    subst eC
    obtain ⟨fd, ps, hb, hl, F⟩ := g5.ex
    exact pe_meth0S ho g2 g3 F hr hb (fun σ => passAt tk σ) (call_eval h1 rfl (by decide) h4)
  refine PE.imp (PE.ex key) fun σ H Q q => ?_
  obtain ⟨c, n, r, C, hc, hC, q⟩ := meth_imp hat h0 (fun c n r hc => let ⟨C, f, g1, g2, g3, g4, g5⟩ := (hmt c n r hc).cl; ⟨C, g1, g4⟩) q
  refine ⟨⟨⟨c, n, r, C⟩, hc, hC⟩, ?_⟩
  obtain ⟨s, G, ρ, Z, sm, q⟩ := q
  refine ⟨s, G, ρ, Z, sm, ?_⟩
  cases e : mo s G with
  | bad => rw [e] at q; exact q
  | exc x G1 => rw [e] at q; exact q
  | ok u G1 =>
    rw [e] at q
    intro v H1 ρ1 Z1 x1 rl1 r1
    obtain ⟨a, dx, fs, ex, ea, l, q2⟩ := q v H1 ρ1 Z1 x1 rl1 r1
    exact ⟨a, dx, fs, ex, ea, l, tNil_of q2⟩

/-! ### attributes -/
/-- o.f: a field, or the property's def in its class -/
def attrM (pt : Nat → Option RunD) (ok : Nat → Bool) (kf : Nat) (mo : ME) : ME := fun s G => (mo s G).bind fun u G1 => match insOf G1 u with
  | some (c, l) => match pt c with
    | some r => r [u] G1
    | none => if ok c then (match l.lookup kf with
      | some w => .ok w G1
      | none => .bad) else .bad
  | none => .bad
structure PropOk (P : Program) (w : World) (K : PySem.W.Frag) (mg : Str → Option Value) (base : Heap) (T : Tb) (k : Nat) (c : Nat) (fn : Str) (r : RunD) : Prop where
  cl : ∃ C p g, T.cls[c]? = some C ∧ Cls K C ∧ PropOf K C fn p g ∧ DefOk P w K mg base T k g 1 r
structure FldOk (K : PySem.W.Frag) (T : Tb) (c : Nat) (fn : Str) : Prop where
  cl : ∃ C, T.cls[c]? = some C ∧ Cls K C ∧ NoAttr K C fn
theorem PE.or {e : Expr} {t t' : TE} (h : PE X e t) (h' : PE X e t') : PE X e (fun σ H Q => t σ H Q ∨ t' σ H Q) := ⟨fun pins s σ H Q I q => q.elim (h.run pins s σ H Q I) (h'.run pins s σ H Q I)⟩
def noExc : Rs U → Rs U
  | .ok u G => .ok u G
  | _ => .bad
def attrP (r : RunD) : RunD := fun us G => noExc (arM 1 r us G)
theorem attrP_sp {r : RunD} {σ : L2.St} {H : Hp} {ρ : List Addr} {Z : Addr → Prop} {G : List Ob} {s : Sg} {Q : VK} {us : List U} {vs : List V} (sm : Sm T σ H s G ρ Z) (q : Reps T ρ Z H vs us) (h : RE T W σ H ρ Z Q (attrP r us G)) : spD T 1 r vs H Q E0 := by
  unfold attrP arM at h
  by_cases e : us.length = 1
  · rw [if_pos e] at h
    refine ⟨us, G, ρ, Z, sm.rl, q, e, ?_⟩
    cases e2 : r us G with
    | ok u G' => rw [e2] at h; exact h
    | exc x G' => rw [e2] at h; exact h.elim
    | bad => rw [e2] at h; exact h.elim
  · rw [if_neg e] at h
    exact h.elim
theorem fe_attr {fn : Str} {pt : Nat → Option RunD} {ok : Nat → Bool} {kf : Nat} (ho : PE X o (tE T W mo)) (hT : X.K = T.K) (hat : AttOk T) (hf : T.att[kf]? = some fn) (hpt : ∀ c r, pt c = some r → PropOk X.prog X.w X.K X.mg X.base T k c fn r)
    (hfld : ∀ c, ok c = true → FldOk X.K T c fn) (hr : Room (k + 1) X.A) (h1 : plainRecv o = true) : PE X (.Attribute o fn pos) (tE T W (attrM (fun c => (pt c).map attrP) ok kf mo)) := by
  have key : ∀ (i : { z : Nat × RunD × Addr // pt z.1 = some z.2.1 ∧ T.cls[z.1]? = some z.2.2 }), PE X (.Attribute o fn pos) (tProp i.1.2.2 (spD T 1 i.1.2.1) [] E0 (tE T W mo)) := fun ⟨⟨c, r, C⟩, hc, hC⟩ => by
    obtain ⟨C', p, g, g1, g2, g3, g5⟩ := (hpt c r hc).cl
    have eC : C' = C := by rw [hC] at g1; exact (Option.some.inj g1).symm
    subst eC
    obtain ⟨fd, ps, hb, hl, F⟩ := g5.ex
    exact pe_prop ho g2 g3 F hr hb .nil passL (attrBase h1)
  refine PE.imp (PE.or (pe_fld ho (attrBase h1)) (PE.ex key)) fun σ H Q ⟨s, G, ρ, Z, sm, q⟩ => ?_
  unfold attrM at q
  cases e : mo s G with
  | bad => rw [e] at q; exact q.elim
  | exc x G1 =>
    rw [e] at q
    refine .inl ⟨s, G, ρ, Z, sm, ?_⟩
    rw [e]
    exact q
  | ok u G1 =>
    rw [e] at q
    simp only [Rs.bind] at q
    split at q
    · rename_i c l hi
      split at q
      · rename_i r hr'
        cases hp : pt c with
        | none => rw [hp] at hr'; cases hr'
        | some r0 =>
          rw [hp] at hr'
          cases hr'
          obtain ⟨C, p, g, g1, g2, g3, g5⟩ := (hpt c r0 hp).cl
          refine .inr ⟨⟨⟨c, r0, C⟩, hp, g1⟩, s, G, ρ, Z, sm, ?_⟩
          rw [e]
          intro v H1 ρ1 Z1 x1 rl1 r1
          obtain ⟨a, C', dx, fv, ev, h1, h2, h3⟩ := insOf_at rl1 r1 hi
          have eC : C' = C := by rw [g1] at h2; exact (Option.some.inj h2).symm
          subst eC
          subst ev
          exact ⟨a, dx, fv, rfl, h1, attrP_sp (sm.ex x1 rl1) (.cons r1 .nil) (RE.ex q x1)⟩
      · rename_i hr'
        have hp : pt c = none := by
          cases hp : pt c with
          | none => rfl
          | some r0 => rw [hp] at hr'; cases hr'
        by_cases hok : ok c = true
        case neg => rw [if_neg hok] at q; exact q.elim
        rw [if_pos hok] at q
        split at q
        · rename_i w hl
          refine .inl ⟨s, G, ρ, Z, sm, ?_⟩
          rw [e]
          intro v H1 ρ1 Z1 x1 rl1 r1
          obtain ⟨a, C', dx, fv, ev, h1, h2, h3⟩ := insOf_at rl1 r1 hi
          obtain ⟨C, g1, g2, g3⟩ := (hfld c hok).cl
          have eC : C' = C := by rw [g1] at h2; exact (Option.some.inj h2).symm
          subst eC
          obtain ⟨v', hv, rv⟩ := repF_some hf (fun j hj => hat j kf fn hj hf) h3 hl
          exact ⟨a, C', dx, fv, v', ev, h1, g2, g3, hv, q v' H1 ρ1 Z1 x1 rl1 rv⟩
        · exact q.elim
    · exact q.elim

/-! ### a class that is made -/
structure MakeOk (P : Program) (w : World) (K : PySem.W.Frag) (mg : Str → Option Value) (base : Heap) (T : Tb) (k : Nat) (c : Nat) (x : Str) (n : Nat) (r : RunD) : Prop where
  cl : ∃ C f, T.cls[c]? = some C ∧ mg x = some (.ref C) ∧ Mk K C f ∧ DefOk P w K mg base T k f n r
def madeU (c : Nat) (n : Nat) (r : RunD) : RunD := fun us G => (arM n r (.ref G.length :: us) (G ++ [.ins c []])).bind fun u G2 => match u with
  | .non => .ok (.ref G.length) G2
  | _ => .bad
def makeM (c n : Nat) (r : RunD) (mas : MA) : ME := fun s G => (mas s G).bind fun us G1 => madeU c n r us G1
theorem made_ok {σ : L2.St} {H : Hp} {ρ : List Addr} {Z : Addr → Prop} {G : List Ob} {s : Sg} {Q : VK} {us : List U} {vs : List V} {c : Nat} (sm : Sm T σ H s G ρ Z) (q : Reps T ρ Z H vs us) (hC : T.cls[c]? = some C) (h : RE T W σ H ρ Z Q (madeU c n r us G)) :
    ∀ x dx, H x = none → H dx = none → dx ≠ x → spD T n r (.ref x :: vs) (upd (upd H dx (.own x)) x (.ins C dx [])) (fun v H2 => v = .non ∧ Q (.ref x) H2) (WE W σ) := by
  intro x dx hx hdx hne
  have x1 : Ex ρ Z H ρ Z (upd H dx (.own x)) := ex_new hdx
  have rl1 := sm.rl.new (o := .own x) hdx
  have hx1 : upd H dx (.own x) x = none := by rw [upd_ne (Ne.symm hne)]; exact hx
  have x2 : Ex ρ Z (upd H dx (.own x)) (ρ ++ [x]) (zOr Z x) (upd (upd H dx (.own x)) x (.ins C dx [])) := ex_cell rl1 hx1
  have rl2 : Rl T (ρ ++ [x]) (zOr Z x) (G ++ [.ins c []]) (upd (upd H dx (.own x)) x (.ins C dx [])) := rl1.cell hx1 trivial ⟨.inr rfl, C, dx, [], upd_same, hC, .nil⟩
  have hget : (ρ ++ [x])[G.length]? = some x := by
    rw [List.getElem?_append_right (by rw [sm.rl.len]; exact Nat.le_refl _)]
    simp [sm.rl.len]
  unfold madeU at h
  have h2 := RE.ex h (x1.trans x2)
  unfold arM at h2
  by_cases e : (U.ref G.length :: us).length = n
  · rw [if_pos e] at h2
    refine ⟨.ref G.length :: us, G ++ [.ins c []], ρ ++ [x], zOr Z x, rl2, .cons (.ref hget) ((q.ex sm.rl.zm x1).ex rl1.zm x2), e, ?_⟩
    cases e2 : r (.ref G.length :: us) (G ++ [.ins c []]) with
    | bad => rw [e2] at h2; exact h2.elim
    | exc y G' => rw [e2] at h2; exact h2
    | ok u G' =>
      rw [e2] at h2
      simp only [Rs.bind] at h2
      intro v H' ρ' Z' x3 rl3 r3
      split at h2
      · refine ⟨r3.inv_non, h2 _ H' ρ' Z' x3 rl3 (.ref ?_)⟩
        obtain ⟨t, et⟩ := x3.pre
        exact pre_get et hget
      · exact h2.elim
  · rw [if_neg e] at h2
    exact h2.elim
theorem run_makeS {CX : CXT} {sp : Sp} {E : XK} {pins : List (Addr × Obj)} {σ : L2.St} {H : Hp} {s : Shared} {Q : VK} {us : List Value} {vs : List V} (M : Mk X.K C f) (F : FnOk X.prog X.w X.K X.mg X.base CX k f fd ps sp) (hr : Room (k + 1) X.A) (hb : Binds X.K fd ps [])
    (hx : PassesAt CX X σ E) (I : Inv X pins σ H s) (r : Vals vs us)
    (h : ∀ x dx, H x = none → H dx = none → dx ≠ x → sp (.ref x :: vs) (upd (upd H dx (.own x)) x (.ins C dx [])) (fun v H2 => v = .non ∧ Q (.ref x) H2) E) :
    wpAny (model X.prog X.w) X.A (call (.ref C) us) (EP X pins σ Q) X.xe s := by
  have hq := h (s.heap.objs.size + 1) s.heap.objs.size (I.hok.fresh (Nat.le_succ _)) (I.hok.fresh (Nat.le_refl _)) (Nat.ne_of_lt (Nat.lt_succ_self _))
  have I2 := Inv.made (C := C) I
  have r2 : Vals (V.ref (s.heap.objs.size + 1) :: vs) (Value.ref (s.heap.objs.size + 1) :: us) := .cons rfl r
  have hl : (Value.ref (s.heap.objs.size + 1) :: us ++ []).length = ps.length := by
    have e := r2.length
    rw [F.len _ _ _ _ hq] at e
    simpa using e.symm
  have hb' := hb _ (Value.ref (s.heap.objs.size + 1) :: us) I2.kIn hl
  rw [List.append_nil] at hb'
  refine wpAny_call (make_map (f := f) I.kIn M.makes M.init (beq_iff_eq.mp M.fn) (codeAny_mono (F.run _ X.stack _ _ ⟨Value.ref (s.heap.objs.size + 1) :: us, []⟩ (Value.ref (s.heap.objs.size + 1) :: us) _ _ E (hr.make C us [])
    (I2.env0.make C us []) hb' r2 hq) fun r s' hq' => ?_))
  cases r with
  | error e => exact hx pins _ _ e s' I2 hq'
  | ok fl =>
    cases fl with
    | ret u =>
      obtain ⟨v, H', I3, rv, ev, q3⟩ := I2.after hq'
      subst ev
      exact ⟨rv, ⟨V.ref (s.heap.objs.size + 1), H', I3, rfl, q3⟩⟩
    | next => exact False.elim hq'
    | brk => exact False.elim hq'
    | cont => exact False.elim hq'
theorem fe_make {c : Nat} (M : MakeOk X.prog X.w X.K X.mg X.base T k c x n r) (hr : Room (k + 1) X.A) (hg : Gl X x) (tk : Takes X W) (ha : PA X (e :: es) (tA T W mas)) (hdb : (x == ("__debug__" : Str)) = false) (hst : (e :: es).all noStar = true) :
    PE X (.Call (.Name x p) (e :: es) [] pos) (tE T W (makeM c n r mas)) := by
  obtain ⟨C, f, g1, g2, g3, g4⟩ := M.cl
  obtain ⟨fd, ps, hb, hl, F⟩ := g4.ex
  rw [List.all_cons, Bool.and_eq_true] at hst
  refine ⟨fun pins s σ H Q I h => ?_⟩
  refine wpAny_Call_Name_kw (ld_glob I hg g2 ?_ hdb)
  obtain ⟨s', G, ρ, Z, sm, q⟩ := h
  have q' : tA T W mas σ H fun vs H1 => ∀ x dx, H1 x = none → H1 dx = none → dx ≠ x → spD T n r (.ref x :: vs) (upd (upd H1 dx (.own x)) x (.ins C dx [])) (fun v H2 => v = .non ∧ Q (.ref x) H2) (WE W σ) :=
    tA_bind sm q fun us G1 vs H1 ρ1 Z1 x1 sm1 r1 q1 => made_ok sm1 r1 g1 (RE.ex q1 Ex.refl)
  exact PySem.W.callWith_K (h₀ := X.base) I.ok.mod.kin g3.kp (thn (ha.run pos pins s σ H _ I q') fun us s1 ⟨vs, H1, I1, r, q⟩ => ⟨I1.kIn, run_makeS g3 F hr hb (passAt tk σ) I1 r q⟩) (star_cons hst.1) (star_any hst.2)
theorem fe_make0 {c : Nat} (M : MakeOk X.prog X.w X.K X.mg X.base T k c x n r) (hr : Room (k + 1) X.A) (hg : Gl X x) (tk : Takes X W) (hdb : (x == ("__debug__" : Str)) = false) :
    PE X (.Call (.Name x p) [] [] pos) (tE T W (makeM c n r nilA)) := by
  obtain ⟨C, f, g1, g2, g3, g4⟩ := M.cl
  obtain ⟨fd, ps, hb, hl, F⟩ := g4.ex
  refine ⟨fun pins s σ H Q I h => ?_⟩
  refine wpAny_Call_Name_kw (ld_glob I hg g2 ?_ hdb)
  obtain ⟨s', G, ρ, Z, sm, q⟩ := h
  exact PySem.W.callWith_K0 I.kIn g3.kp (run_makeS (us := []) (vs := []) g3 F hr hb (passAt tk σ) I .nil (made_ok sm .nil g1 q))
end
end FL

/-! FL8: built-in functions, types, methods of built-in types. -/
namespace FL
open PySem L2 PyProof.Rows
section
variable {X : Cx} {T : Tb} {W : WX} {id : String} {x : Str} {p pos apos : Pos} {e o : Expr} {es : List Expr} {mas : MA} {mo : ME} {r : List V → Hp → VK → Prop} {f : RunD}
def OC (T : Tb) (W : WX) (f : RunD) (r : List V → Hp → VK → Prop) : Prop :=
  ∀ (σ : L2.St) (H : Hp) (s : Sg) (G : List Ob) (ρ : List Addr) (Z : Addr → Prop) (vs : List V) (us : List U) (Q : VK), Sm T σ H s G ρ Z → Reps T ρ Z H vs us → RE T W σ H ρ Z Q (f us G) → r vs H Q
def preM (f : RunD) (mas : MA) : ME := fun s G => (mas s G).bind f
theorem OC.top (h : OC T W f r) {σ : L2.St} {H : Hp} {Q : VK} (q : tE T W (preM f mas) σ H Q) : tCB r (tA T W mas) σ H Q := by
  obtain ⟨s, G, ρ, Z, sm, q⟩ := q
  exact tA_bind sm q fun us G1 vs H1 ρ1 Z1 x1 sm1 r1 q1 => h _ _ _ _ _ _ _ _ _ sm1 r1 q1
theorem fe_callB (hc : CallR X (.builtin id) r) (h : OC T W f r) (hg : Gl X x) (hm : X.mg x = none) (hv : bootBuiltins x = some (.builtin id)) (ha : PA X (e :: es) (tA T W mas)) (hn : x ≠ "__name__") (hdb : (x == ("__debug__" : Str)) = false) (hst : (e :: es).all noStar = true) :
    PE X (.Call (.Name x p) (e :: es) [] pos) (tE T W (preM f mas)) := by
  rw [List.all_cons, Bool.and_eq_true] at hst
  exact PE.imp (pe_callB hc hg hm hv ha hn hdb (star_cons hst.1) (star_any hst.2)) fun _ _ _ q => h.top q
theorem fe_callTy {n : String} (hc : CallR X (.type n) r) (h : OC T W f r) (hg : Gl X x) (hm : X.mg x = none) (hv : bootBuiltins x = some (.type n)) (ha : PA X (e :: es) (tA T W mas)) (hn : x ≠ "__name__") (hdb : (x == ("__debug__" : Str)) = false) (hst : (e :: es).all noStar = true) :
    PE X (.Call (.Name x p) (e :: es) [] pos) (tE T W (preM f mas)) := by
  rw [List.all_cons, Bool.and_eq_true] at hst
  exact PE.imp (pe_callTy hc hg hm hv ha hn hdb (star_cons hst.1) (star_any hst.2)) fun _ _ _ q => h.top q

theorem Reps.inv1 {ρ : List Addr} {Z : Addr → Prop} {H : Hp} {vs : List V} {u : U} (h : Reps T ρ Z H vs [u]) : ∃ v, vs = [v] ∧ Rep T ρ Z H v u := by
  cases h with
  | cons a b => cases b; exact ⟨_, rfl, a⟩
theorem Reps.inv2 {ρ : List Addr} {Z : Addr → Prop} {H : Hp} {vs : List V} {u w : U} (h : Reps T ρ Z H vs [u, w]) : ∃ v v', vs = [v, v'] ∧ Rep T ρ Z H v u ∧ Rep T ρ Z H v' w := by
  cases h with
  | cons a b =>
    cases b with
    | cons c d => cases d; exact ⟨_, _, rfl, a, c⟩

/-! ### len -/
def lenU : RunD := fun us G => match us with
  | [.str l] => if l.length ≤ szL then .ok (.int l.length) G else .bad
  | [u] => match seqOf G u with
    | some l => .ok (.int l.length) G
    | none => .bad
  | _ => .bad
abbrev rLen (K : PySem.W.Frag) : List V → Hp → VK → Prop := fun xs H Q => ∃ x n, xs = [x] ∧ LenV K x H n ∧ Q (.int n) H
theorem oc_len (hT : X.K = T.K) : OC T W lenU (rLen X.K) := by
  intro σ H s G ρ Z vs us Q sm r1 h
  unfold lenU at h
  split at h
  · rename_i l
    by_cases z : l.length ≤ szL
    · rw [if_pos z] at h
      obtain ⟨v, rfl, rv⟩ := r1.inv1
      refine ⟨v, l.length, rfl, ?_, h _ H ρ Z Ex.refl sm.rl (.int _)⟩
      rw [rv.inv_str]
      show (SS l).length ≤ sizeLine ∧ l.length = (SS l).length
      rw [strLen, szL_eq]
      exact ⟨z, rfl⟩
    · rw [if_neg z] at h
      exact h.elim
  · split at h
    · rename_i l e
      obtain ⟨v, rfl, rv⟩ := r1.inv1
      obtain ⟨a, ws, rfl, h1, q1⟩ := seqOf_at (σ := σ) sm.rl rv e
      refine ⟨.ref a, l.length, rfl, ?_, h _ H ρ Z Ex.refl sm.rl (.int _)⟩
      rcases h1 with h1 | h1
      · exact .inl ⟨ws, hT ▸ h1, q1.length.symm⟩
      · exact .inr ⟨ws, hT ▸ h1, q1.length.symm⟩
    · exact h.elim
  · exact h.elim

/-! ### ints -/
def absU : RunD := fun us G => match us with
  | [.int i] => .ok (.int (if i < 0 then -i else i)) G
  | _ => .bad
theorem oc_abs : OC T W absU (fun xs H Q => ∃ i, xs = [.int i] ∧ Q (.int (if i < 0 then -i else i)) H) := by
  intro σ H s G ρ Z vs us Q sm r1 h
  unfold absU at h
  split at h
  · obtain ⟨v, rfl, rv⟩ := r1.inv1
    exact ⟨_, by rw [rv.inv_int], h _ H ρ Z Ex.refl sm.rl (.int _)⟩
  · exact h.elim
def intU1 : RunD := fun us G => match us with
  | [.int i] => .ok (.int i) G
  | [.bl k] => .ok (.int (if k then 1 else 0)) G
  | [.str l] => match PySem.intText? (SS l) with
    | some n => if l.length ≤ 640 then .ok (.int n) G else .bad
    | none => .bad
  | _ => .bad
abbrev rInt : List V → Hp → VK → Prop := fun xs H Q => ((∃ i, xs = [.int i] ∧ Q (.int i) H) ∨ ∃ k, xs = [.bl k] ∧ Q (.int (if k then 1 else 0)) H) ∨ ∃ a n, xs = [.str a] ∧ PySem.intText? a = some n ∧ a.length ≤ 640 ∧ Q (.int n) H
theorem cr_int : CallR X (.type "int") rInt := CallR.or call_int1 call_int_str
theorem oc_int : OC T W intU1 rInt := by
  intro σ H s G ρ Z vs us Q sm r1 h
  unfold intU1 at h
  split at h
  · obtain ⟨v, rfl, rv⟩ := r1.inv1
    exact .inl (.inl ⟨_, by rw [rv.inv_int], h _ H ρ Z Ex.refl sm.rl (.int _)⟩)
  · obtain ⟨v, rfl, rv⟩ := r1.inv1
    exact .inl (.inr ⟨_, by rw [rv.inv_bl], h _ H ρ Z Ex.refl sm.rl (.int _)⟩)
  · rename_i l
    split at h
    · rename_i n e
      by_cases z : l.length ≤ 640
      · rw [if_pos z] at h
        obtain ⟨v, rfl, rv⟩ := r1.inv1
        exact .inr ⟨SS l, n, by rw [rv.inv_str], e, by rw [strLen]; exact z, h _ H ρ Z Ex.refl sm.rl (.int _)⟩
      · rw [if_neg z] at h
        exact h.elim
    · exact h.elim
  · exact h.elim
def strU1 : RunD := fun us G => match us with
  | [.int i] => if i.natAbs.log2 < 1920 then .ok (.str (Str.ofString (toString i)).cps.toList) G else .bad
  | _ => .bad
theorem oc_str : OC T W strU1 (fun xs H Q => ∃ i, xs = [.int i] ∧ i.natAbs.log2 < 1920 ∧ Q (.str (toString i)) H) := by
  intro σ H s G ρ Z vs us Q sm r1 h
  unfold strU1 at h
  split at h
  · rename_i i
    by_cases z : i.natAbs.log2 < 1920
    · rw [if_pos z] at h
      obtain ⟨v, rfl, rv⟩ := r1.inv1
      exact ⟨i, by rw [rv.inv_int], z, h _ H ρ Z Ex.refl sm.rl (.str _)⟩
    · rw [if_neg z] at h
      exact h.elim
  · exact h.elim
/-- the ints, bools, texts of a list -/
def intsOf : List U → Option (List Int)
  | [] => some []
  | .int i :: r => (intsOf r).map (i :: ·)
  | _ :: _ => none
def blsOf : List U → Option (List Bool)
  | [] => some []
  | .bl i :: r => (blsOf r).map (i :: ·)
  | _ :: _ => none
def strsOf : List U → Option (List (List Nat))
  | [] => some []
  | .str i :: r => (strsOf r).map (i :: ·)
  | _ :: _ => none
theorem intsOf_eq : ∀ {l : List U} {ns : List Int}, intsOf l = some ns → l = ns.map U.int
  | [], ns, e => by cases e; rfl
  | u :: r, ns, e => by
    cases u with
    | int i =>
      simp only [intsOf] at e
      cases e2 : intsOf r with
      | none => rw [e2] at e; cases e
      | some ms =>
        rw [e2] at e
        cases e
        rw [intsOf_eq e2]
        rfl
    | _ => cases e
theorem blsOf_eq : ∀ {l : List U} {ns : List Bool}, blsOf l = some ns → l = ns.map U.bl
  | [], ns, e => by cases e; rfl
  | u :: r, ns, e => by
    cases u with
    | bl i =>
      simp only [blsOf] at e
      cases e2 : blsOf r with
      | none => rw [e2] at e; cases e
      | some ms =>
        rw [e2] at e
        cases e
        rw [blsOf_eq e2]
        rfl
    | _ => cases e
theorem strsOf_eq : ∀ {l : List U} {ns : List (List Nat)}, strsOf l = some ns → l = ns.map U.str
  | [], ns, e => by cases e; rfl
  | u :: r, ns, e => by
    cases u with
    | str i =>
      simp only [strsOf] at e
      cases e2 : strsOf r with
      | none => rw [e2] at e; cases e
      | some ms =>
        rw [e2] at e
        cases e
        rw [strsOf_eq e2]
        rfl
    | _ => cases e
theorem Reps.bls {ρ : List Addr} {Z : Addr → Prop} {H : Hp} : ∀ {ns : List Bool} {vs : List V}, Reps T ρ Z H vs (ns.map U.bl) → vs = ns.map V.bl
  | [], _, r => by cases r; rfl
  | n :: ns, _, r => by
    cases r with
    | cons a b => rw [a.inv_bl, Reps.bls b]; rfl
theorem Reps.strs {ρ : List Addr} {Z : Addr → Prop} {H : Hp} : ∀ {ns : List (List Nat)} {vs : List V}, Reps T ρ Z H vs (ns.map U.str) → vs = (ns.map SS).map V.str
  | [], _, r => by cases r; rfl
  | n :: ns, _, r => by
    cases r with
    | cons a b => rw [a.inv_str, Reps.strs b]; rfl
theorem Reps.of_strs {ρ : List Addr} {Z : Addr → Prop} {H : Hp} : ∀ (ns : List (List Nat)), Reps T ρ Z H ((ns.map SS).map V.str) (ns.map U.str)
  | [] => .nil
  | n :: ns => .cons (Rep.ss n) (Reps.of_strs ns)
/-! ### all, any, max, min, sum -/
def allU : RunD := fun us G => match us with
  | [u] => match lstOf G u with
    | some l => match blsOf l with
      | some bs => .ok (.bl (bs.all fun b => b)) G
      | none => .bad
    | none => .bad
  | _ => .bad
def anyU : RunD := fun us G => match us with
  | [u] => match lstOf G u with
    | some l => match blsOf l with
      | some bs => .ok (.bl (bs.any fun b => b)) G
      | none => .bad
    | none => .bad
  | _ => .bad
theorem oc_all (hT : X.K = T.K) : OC T W allU (rAll X.K) := by
  intro σ H s G ρ Z vs us Q sm r1 h
  unfold allU at h
  split at h
  · split at h
    · rename_i l e
      split at h
      · rename_i bs eb
        obtain ⟨v, rfl, rv⟩ := r1.inv1
        obtain ⟨a, ws, rfl, h1, q1⟩ := lstOf_at sm.rl rv e
        rw [blsOf_eq eb] at q1
        have e2 := q1.bls
        subst e2
        exact ⟨a, bs, rfl, hT ▸ h1, h _ H ρ Z Ex.refl sm.rl (.bl _)⟩
      · exact h.elim
    · exact h.elim
  · exact h.elim
theorem oc_any (hT : X.K = T.K) : OC T W anyU (rAny X.K) := by
  intro σ H s G ρ Z vs us Q sm r1 h
  unfold anyU at h
  split at h
  · split at h
    · rename_i l e
      split at h
      · rename_i bs eb
        obtain ⟨v, rfl, rv⟩ := r1.inv1
        obtain ⟨a, ws, rfl, h1, q1⟩ := lstOf_at sm.rl rv e
        rw [blsOf_eq eb] at q1
        have e2 := q1.bls
        subst e2
        exact ⟨a, bs, rfl, hT ▸ h1, h _ H ρ Z Ex.refl sm.rl (.bl _)⟩
      · exact h.elim
    · exact h.elim
  · exact h.elim
def maxL : List Int → Int
  | [] => 0
  | [a] => a
  | a :: r => if maxL r > a then maxL r else a
def minL : List Int → Int
  | [] => 0
  | [a] => a
  | a :: r => if minL r < a then minL r else a
theorem maxL_mem : ∀ {l : List Int}, 0 < l.length → maxL l ∈ l
  | [a], _ => by simp [maxL]
  | a :: b :: r, _ => by
    have ih := maxL_mem (l := b :: r) (by simp)
    simp only [maxL]
    split
    · exact List.mem_cons_of_mem _ ih
    · exact List.mem_cons_self
theorem maxL_le : ∀ {l : List Int}, ∀ y ∈ l, y ≤ maxL l
  | [a], y, h => by simp at h; subst h; simp [maxL]
  | a :: b :: r, y, h => by
    have ih := maxL_le (l := b :: r)
    simp only [maxL]
    rcases List.mem_cons.mp h with rfl | h
    · split <;> omega
    · have := ih y h
      split <;> omega
theorem minL_mem : ∀ {l : List Int}, 0 < l.length → minL l ∈ l
  | [a], _ => by simp [minL]
  | a :: b :: r, _ => by
    have ih := minL_mem (l := b :: r) (by simp)
    simp only [minL]
    split
    · exact List.mem_cons_of_mem _ ih
    · exact List.mem_cons_self
theorem minL_le : ∀ {l : List Int}, ∀ y ∈ l, minL l ≤ y
  | [a], y, h => by simp at h; subst h; simp [minL]
  | a :: b :: r, y, h => by
    have ih := minL_le (l := b :: r)
    simp only [minL]
    rcases List.mem_cons.mp h with rfl | h
    · split <;> omega
    · have := ih y h
      split <;> omega
def maxU : RunD := fun us G => match us with
  | [.int i, .int j] => .ok (.int (if j > i then j else i)) G
  | [u] => match lstOf G u with
    | some l => match intsOf l with
      | some ns => if 0 < ns.length then .ok (.int (maxL ns)) G else .bad
      | none => .bad
    | none => .bad
  | _ => .bad
def minU : RunD := fun us G => match us with
  | [.int i, .int j] => .ok (.int (if j < i then j else i)) G
  | [u] => match lstOf G u with
    | some l => match intsOf l with
      | some ns => if 0 < ns.length then .ok (.int (minL ns)) G else .bad
      | none => .bad
    | none => .bad
  | _ => .bad
abbrev rMaxA (K : PySem.W.Frag) : List V → Hp → VK → Prop := fun xs H Q => (∃ i j, xs = [.int i, .int j] ∧ Q (.int (if j > i then j else i)) H) ∨ rMax K xs H Q
abbrev rMinA (K : PySem.W.Frag) : List V → Hp → VK → Prop := fun xs H Q => (∃ i j, xs = [.int i, .int j] ∧ Q (.int (if j < i then j else i)) H) ∨ rMin K xs H Q
theorem cr_maxA (hc : X.calm = true) : CallR X (.builtin "max") (rMaxA X.K) := CallR.or (call_max2 hc) (cr_max hc)
theorem cr_minA (hc : X.calm = true) : CallR X (.builtin "min") (rMinA X.K) := CallR.or (call_min2 hc) (cr_min hc)
theorem oc_max (hT : X.K = T.K) : OC T W maxU (rMaxA X.K) := by
  intro σ H s G ρ Z vs us Q sm r1 h
  unfold maxU at h
  split at h
  · obtain ⟨v, v', rfl, rv, rv'⟩ := r1.inv2
    exact .inl ⟨_, _, by rw [rv.inv_int, rv'.inv_int], h _ H ρ Z Ex.refl sm.rl (.int _)⟩
  · split at h
    · rename_i l e
      split at h
      · rename_i bs eb
        by_cases z : 0 < bs.length
        · rw [if_pos z] at h
          obtain ⟨v, rfl, rv⟩ := r1.inv1
          obtain ⟨a, ws, rfl, h1, q1⟩ := lstOf_at sm.rl rv e
          rw [intsOf_eq eb] at q1
          have e2 := q1.ints
          subst e2
          refine .inr ⟨a, bs, rfl, hT ▸ h1, z, fun m hm hle => ?_⟩
          have em : m = maxL bs := Int.le_antisymm (maxL_le m hm) (hle _ (maxL_mem z))
          rw [em]
          exact h _ H ρ Z Ex.refl sm.rl (.int _)
        · rw [if_neg z] at h
          exact h.elim
      · exact h.elim
    · exact h.elim
  · exact h.elim
theorem oc_min (hT : X.K = T.K) : OC T W minU (rMinA X.K) := by
  intro σ H s G ρ Z vs us Q sm r1 h
  unfold minU at h
  split at h
  · obtain ⟨v, v', rfl, rv, rv'⟩ := r1.inv2
    exact .inl ⟨_, _, by rw [rv.inv_int, rv'.inv_int], h _ H ρ Z Ex.refl sm.rl (.int _)⟩
  · split at h
    · rename_i l e
      split at h
      · rename_i bs eb
        by_cases z : 0 < bs.length
        · rw [if_pos z] at h
          obtain ⟨v, rfl, rv⟩ := r1.inv1
          obtain ⟨a, ws, rfl, h1, q1⟩ := lstOf_at sm.rl rv e
          rw [intsOf_eq eb] at q1
          have e2 := q1.ints
          subst e2
          refine .inr ⟨a, bs, rfl, hT ▸ h1, z, fun m hm hle => ?_⟩
          have em : m = minL bs := Int.le_antisymm (hle _ (minL_mem z)) (minL_le m hm)
          rw [em]
          exact h _ H ρ Z Ex.refl sm.rl (.int _)
        · rw [if_neg z] at h
          exact h.elim
      · exact h.elim
    · exact h.elim
  · exact h.elim
def sumU : RunD := fun us G => match us with
  | [u] => match lstOf G u with
    | some l => match intsOf l with
      | some ns => .ok (.int ns.sum) G
      | none => .bad
    | none => .bad
  | _ => .bad
theorem oc_sum (hT : X.K = T.K) : OC T W sumU (rSum X.K) := by
  intro σ H s G ρ Z vs us Q sm r1 h
  unfold sumU at h
  split at h
  · split at h
    · rename_i l e
      split at h
      · rename_i bs eb
        obtain ⟨v, rfl, rv⟩ := r1.inv1
        obtain ⟨a, ws, rfl, h1, q1⟩ := lstOf_at sm.rl rv e
        rw [intsOf_eq eb] at q1
        have e2 := q1.ints
        subst e2
        exact ⟨a, bs, rfl, hT ▸ h1, h _ H ρ Z Ex.refl sm.rl (.int _)⟩
      · exact h.elim
    · exact h.elim
  · exact h.elim

/-! ### list(x), tuple(x) -/
def listU (mu : Bool) : RunD := fun us G => match us with
  | [u] => match seqOf G u with
    | some l => newL mu l G
    | none => .bad
  | _ => .bad
theorem oc_list {mu : Bool} (hT : X.K = T.K) : OC T W (listU mu) (fun xs H Q => ∃ p ys, xs = [.ref p] ∧ (SqL X.K H p ys ∨ SqT X.K H p ys) ∧ ∀ l, H l = none → Q (.ref l) (upd H l (.lst ys))) := by
  intro σ H s G ρ Z vs us Q sm r1 h
  unfold listU at h
  split at h
  · split at h
    · rename_i l e
      obtain ⟨v, rfl, rv⟩ := r1.inv1
      obtain ⟨a, ws, rfl, h1, q1⟩ := seqOf_at (σ := σ) sm.rl rv e
      exact ⟨a, ws, rfl, hT ▸ h1, (newL_ok sm.rl q1 h).2⟩
    · exact h.elim
  · exact h.elim
def tupleU : RunD := fun us G => match us with
  | [.tup l] => .ok (.tup l) G
  | [u] => match lstOf G u with
    | some l => newT l G
    | none => .bad
  | _ => .bad
theorem oc_tuple (hT : X.K = T.K) : OC T W tupleU (fun xs H Q => ∃ p ys, xs = [.ref p] ∧ ((SqL X.K H p ys ∧ ∀ l, H l = none → Q (.ref l) (upd H l (.tup ys))) ∨ (SqT X.K H p ys ∧ Q (.ref p) H))) := by
  intro σ H s G ρ Z vs us Q sm r1 h
  unfold tupleU at h
  split at h
  · obtain ⟨v, rfl, rv⟩ := r1.inv1
    obtain ⟨a, ws, rfl, h1, q1⟩ := rv.inv_tup
    exact ⟨a, ws, rfl, .inr ⟨hT ▸ h1, h _ H ρ Z Ex.refl sm.rl (.tup h1 q1)⟩⟩
  · split at h
    · rename_i l e
      obtain ⟨v, rfl, rv⟩ := r1.inv1
      obtain ⟨a, ws, rfl, h1, q1⟩ := lstOf_at sm.rl rv e
      exact ⟨a, ws, rfl, .inl ⟨hT ▸ h1, (newT_ok sm.rl q1 h).2⟩⟩
    · exact h.elim
  · exact h.elim

/-! ### sorted: ints, texts, fewer than 64 -/
def insI (a : Int) : List Int → List Int
  | [] => [a]
  | b :: r => if a ≤ b then a :: b :: r else b :: insI a r
def sortI : List Int → List Int
  | [] => []
  | a :: r => insI a (sortI r)
theorem insI_perm (a : Int) : ∀ l, (insI a l).Perm (a :: l)
  | [] => .refl _
  | b :: r => by
    unfold insI
    split
    · exact .refl _
    · exact ((insI_perm a r).cons b).trans (.swap a b r)
theorem sortI_perm : ∀ l, (sortI l).Perm l
  | [] => .refl _
  | a :: r => (insI_perm a _).trans ((sortI_perm r).cons a)
theorem insI_sorted (a : Int) : ∀ {l : List Int}, l.Pairwise (· ≤ ·) → (insI a l).Pairwise (· ≤ ·)
  | [], _ => by simp [insI]
  | b :: r, h => by
    unfold insI
    rw [List.pairwise_cons] at h
    split
    · rename_i hab
      rw [List.pairwise_cons]
      refine ⟨fun y hy => ?_, List.pairwise_cons.mpr h⟩
      rcases List.mem_cons.mp hy with rfl | hy
      · exact hab
      · have := h.1 y hy
        omega
    · rename_i hab
      rw [List.pairwise_cons]
      refine ⟨fun y hy => ?_, insI_sorted a h.2⟩
      rcases List.mem_cons.mp ((insI_perm a r).mem_iff.mp hy) with rfl | hy
      · omega
      · exact h.1 y hy
theorem sortI_sorted : ∀ l, (sortI l).Pairwise (· ≤ ·)
  | [] => .nil
  | a :: r => insI_sorted a (sortI_sorted r)
def sortedU (mu : Bool) : RunD := fun us G => match us with
  | [u] => match lstOf G u with
    | some l => match intsOf l with
      | some ns => if ns.length < 64 then newL mu ((sortI ns).map U.int) G else .bad
      | none => .bad
    | none => .bad
  | _ => .bad
theorem oc_sorted {mu : Bool} (hT : X.K = T.K) : OC T W (sortedU mu) (rSorted X.K) := by
  intro σ H s G ρ Z vs us Q sm r1 h
  unfold sortedU at h
  split at h
  · split at h
    · rename_i l e
      split at h
      · rename_i ns eb
        by_cases z : ns.length < 64
        · rw [if_pos z] at h
          obtain ⟨v, rfl, rv⟩ := r1.inv1
          obtain ⟨a, ws, rfl, h1, q1⟩ := lstOf_at sm.rl rv e
          rw [intsOf_eq eb] at q1
          have e2 := q1.ints
          subst e2
          refine ⟨a, ns, rfl, hT ▸ h1, z, fun ns' p hp hs hn => ?_⟩
          have en : ns' = sortI ns := (fun (a b : List Int) (hp : a.Perm b) (ha : a.Pairwise (· ≤ ·)) (hb : b.Pairwise (· ≤ ·)) => hp.eq_of_pairwise (fun x y _ _ h1 h2 => Int.le_antisymm h1 h2) ha hb) _ _ (hp.trans (sortI_perm ns).symm) hs (sortI_sorted ns)
          rw [en]
          exact (newL_ok sm.rl (Reps.of_ints _) h).2 p hn
        · rw [if_neg z] at h
          exact h.elim
      · exact h.elim
    · exact h.elim
  · exact h.elim
end
end FL

/-! FL9: cells that are written; methods of lists and texts; isinstance. -/
namespace FL
open PySem L2 PyProof.Rows
section
variable {X : Cx} {T : Tb} {W : WX} {id : String} {x : Str} {p pos apos : Pos} {e o : Expr} {es : List Expr} {mas : MA} {mo : ME}
section
variable {H : Hp} {ρ : List Addr} {Z : Addr → Prop} {G : List Ob}
theorem ex_set {a : Addr} {o : HO} (ha : a ∈ ρ) (za : Z a) : Ex ρ Z H ρ Z (upd H a o) :=
  ⟨⟨[], by simp⟩, fun b u h z => ⟨by rw [upd_ne (fun e : b = a => z (e ▸ za))]; exact h, z⟩, fun b u h z n => ⟨by rw [upd_ne (fun e : b = a => n (e ▸ ha))]; exact h, z, n⟩, fun b h => by
    by_cases e : b = a
    · rw [e, upd_same]; exact fun z => by cases z
    · rw [upd_ne e]; exact h⟩
theorem Rl.set {i : Nat} {a : Addr} {o : HO} {ob : Ob} (rl : Rl T ρ Z G H) (hi : ρ[i]? = some a) (za : Z a) (mu : Mut (some o)) (h : ObAt T ρ Z (upd H a o) a ob) : Rl T ρ Z (G.set i ob) (upd H a o) where
  len := by rw [List.length_set]; exact rl.len
  nd := rl.nd
  zm := fun b z => by
    by_cases e : b = a
    · rw [e, upd_same]; exact mu
    · rw [upd_ne e]; exact rl.zm b z
  trk := fun b hb => (ex_set (ρ := ρ) (Z := Z) (List.mem_of_getElem? hi) za).th b (rl.trk b hb)
  ob := fun j b o' h1 g => by
    have ha : a ∈ ρ := List.mem_of_getElem? hi
    by_cases e : i = j
    · subst e
      rw [hi] at h1
      cases h1
      have hl : i < G.length := by
        have := (List.getElem?_eq_some_iff.mp hi).1
        rw [rl.len] at this
        exact this
      rw [List.getElem?_set_self hl] at g
      cases g
      exact h
    · rw [List.getElem?_set_ne e] at g
      have hne : b ≠ a := fun z => by
        subst z
        obtain ⟨l1, e1⟩ := List.getElem?_eq_some_iff.mp hi
        obtain ⟨l2, e2⟩ := List.getElem?_eq_some_iff.mp h1
        exact e ((List.getElem_inj rl.nd).mp (e1.trans e2.symm))
      exact ObAt.ex rl.zm (ex_set ha za) (rl.ob j b o' h1 g) (fun u q => by rw [upd_ne hne]; exact q) fun z => z
/-- a cell that holds a list -/
theorem cell_lst {u : U} {v : V} {i : Nat} {l : List U} (rl : Rl T ρ Z G H) (r : Rep T ρ Z H v (.ref i)) (g : G[i]? = some (.lst l)) : ∃ a vs, v = .ref a ∧ ρ[i]? = some a ∧ Z a ∧ H a = some (.lst vs) ∧ Reps T ρ Z H vs l := by
  obtain ⟨a, ev, h⟩ := r.inv_ref
  obtain ⟨z, vs, h2, h3⟩ := rl.ob i a _ h g
  exact ⟨a, vs, ev, h, z, h2, h3⟩
theorem set_lst {i : Nat} {a : Addr} {vs : List V} {l l' : List U} (rl : Rl T ρ Z G H) (hi : ρ[i]? = some a) (za : Z a) (r : Reps T ρ Z H vs l') : Rl T ρ Z (G.set i (.lst l')) (upd H a (.lst vs)) :=
  rl.set hi za trivial ⟨za, vs, upd_same, r.ex rl.zm (ex_set (List.mem_of_getElem? hi) za)⟩
end

/-! ### methods of a list -/
def OM (T : Tb) (W : WX) (f : U → RunD) (r : V → List V → Hp → VK → Prop) : Prop :=
  ∀ (σ : L2.St) (H : Hp) (s : Sg) (G : List Ob) (ρ : List Addr) (Z : Addr → Prop) (x : V) (u : U) (vs : List V) (us : List U) (Q : VK), Sm T σ H s G ρ Z → Rep T ρ Z H x u → Reps T ρ Z H vs us → RE T W σ H ρ Z Q (f u us G) → r x vs H Q
def bmM (f : U → RunD) (mo : ME) (mas : MA) : ME := fun s G => (mo s G).bind fun u G1 => match lstOfW G1 u with
  | some _ => (mas s G1).bind fun us G2 => f u us G2
  | none => .bad
def bm0M (f : U → RunD) (mo : ME) : ME := fun s G => (mo s G).bind fun u G1 => match lstOfW G1 u with
  | some _ => f u [] G1
  | none => .bad
theorem fe_lm {name : Str} {f : U → RunD} {r : V → List V → Hp → VK → Prop} (pa : PlainAttrs "list") (slot : Slot "list" name id) (hty : typeOf (.builtin id) = pure (.type "method_descriptor")) (hm : MtR X id r) (h : OM T W f r) (ho : PE X o (tE T W mo)) (ha : PA X (e :: es) (tA T W mas))
    (h1 : plainRecv o = true) (h2 : (e :: es).all noStar = true) (h3 : (e :: es).length < 30) (h4 : (apos.endLine == pos.line) = true) : PE X (.Call (.Attribute o name apos) (e :: es) [] pos) (tE T W (bmM f mo mas)) := by
  have h2' := h2
  rw [List.all_cons, Bool.and_eq_true] at h2'
  refine PE.imp (pe_bm pa slot hty hm ho ha (attrBase h1) ?_ h4 (star_cons h2'.1) (star_any h2'.2)) fun σ H Q ⟨s, G, ρ, Z, sm, q⟩ => ?_
  · rw [star_all h2, Bool.true_and]
    simp [backToKw, keywordEach]
    simpa using h3
  · refine tE_bind sm q fun u G1 x H1 ρ1 Z1 x1 sm1 r1 q1 => ?_
    split at q1
    · rename_i l el
      obtain ⟨a, vs, rfl, hl, _⟩ := lstOfW_at sm1.rl r1 el
      refine ⟨.inl ⟨rfl, _, SqL.of hl⟩, ?_⟩
      refine tA_bind sm1 q1 fun us G2 vs2 H2 ρ2 Z2 x2 sm2 r2 q2 => ?_
      exact h _ _ _ _ _ _ _ _ _ _ _ sm2 (r1.ex sm1.rl.zm x2) r2 q2
    · exact q1.elim
theorem fe_lm0 {name : Str} {f : U → RunD} {r : V → List V → Hp → VK → Prop} (pa : PlainAttrs "list") (slot : Slot "list" name id) (hty : typeOf (.builtin id) = pure (.type "method_descriptor")) (hm : MtR X id r) (h : OM T W f r) (ho : PE X o (tE T W mo))
    (h1 : plainRecv o = true) (h4 : (apos.endLine == pos.line) = true) : PE X (.Call (.Attribute o name apos) [] [] pos) (tE T W (bm0M f mo)) := by
  refine PE.imp (pe_bm0 pa slot hty hm ho (attrBase h1) h4) fun σ H Q ⟨s, G, ρ, Z, sm, q⟩ => ?_
  refine tE_bind sm q fun u G1 x H1 ρ1 Z1 x1 sm1 r1 q1 => ?_
  split at q1
  · rename_i l el
    obtain ⟨a, vs, rfl, hl, _⟩ := lstOfW_at sm1.rl r1 el
    exact ⟨.inl ⟨rfl, _, SqL.of hl⟩, h _ _ _ _ _ _ _ _ _ _ _ sm1 r1 .nil q1⟩
  · exact q1.elim
def appendU : U → RunD := fun u us G => match u, us with
  | .ref i, [y] => match G[i]? with
    | some (.lst l) => if l.length < szL then .ok .non (G.set i (.lst (l ++ [y]))) else .bad
    | _ => .bad
  | _, _ => .bad
theorem om_append : OM T W appendU rAppend := by
  intro σ H s G ρ Z x u vs us Q sm r1 r2 h
  unfold appendU at h
  split at h
  · rename_i i y
    split at h
    · rename_i l g
      by_cases z : l.length < szL
      · rw [if_pos z] at h
        obtain ⟨a, ws, rfl, hi, za, ha, q⟩ := cell_lst (u := .ref i) sm.rl r1 g
        obtain ⟨v, rfl, rv⟩ := r2.inv1
        refine ⟨a, ws, v, rfl, rfl, ha, by rw [q.length, szL_eq]; exact z, ?_⟩
        exact h _ _ ρ Z (ex_set (List.mem_of_getElem? hi) za) (set_lst (l := l) sm.rl hi za (q.append (.cons rv .nil))) .non
      · rw [if_neg z] at h
        exact h.elim
    · exact h.elim
  · exact h.elim
def extendU : U → RunD := fun u us G => match u, us with
  | .ref i, [y] => match G[i]?, lstOfW G y with
    | some (.lst l), some l' => if l.length + l'.length ≤ szL then .ok .non (G.set i (.lst (l ++ l'))) else .bad
    | _, _ => .bad
  | _, _ => .bad
theorem om_extend : OM T W extendU rExtend := by
  intro σ H s G ρ Z x u vs us Q sm r1 r2 h
  unfold extendU at h
  split at h
  · rename_i i y
    split at h
    · rename_i l l' g g'
      by_cases z : l.length + l'.length ≤ szL
      · rw [if_pos z] at h
        obtain ⟨a, ws, rfl, hi, za, ha, q⟩ := cell_lst (u := .ref i) sm.rl r1 g
        obtain ⟨v, rfl, rv⟩ := r2.inv1
        obtain ⟨b, zs, rfl, hb, q'⟩ := lstOfW_at sm.rl rv g'
        refine ⟨a, b, ws, zs, rfl, rfl, ha, hb, by rw [q.length, q'.length, szL_eq]; exact z, ?_⟩
        exact h _ _ ρ Z (ex_set (List.mem_of_getElem? hi) za) (set_lst (l := l) sm.rl hi za (q.append q')) .non
      · rw [if_neg z] at h
        exact h.elim
    · exact h.elim
  · exact h.elim
def popU : U → RunD := fun u us G => match u, us with
  | .ref i, [] => match G[i]? with
    | some (.lst l) => match l[l.length - 1]? with
      | some y => .ok y (G.set i (.lst l.dropLast))
      | none => .bad
    | _ => .bad
  | .ref i, [.int j] => match G[i]? with
    | some (.lst l) => if -(2 ^ 63) ≤ j ∧ j < 2 ^ 63 then (match seqIndex? j l.length with
      | some k => match l[k]? with
        | some y => .ok y (G.set i (.lst (l.eraseIdx k)))
        | none => .bad
      | none => .bad) else .bad
    | _ => .bad
  | _, _ => .bad
abbrev rPopA : V → List V → Hp → VK → Prop := fun x vs H Q => rPop x vs H Q ∨ rPopAt x vs H Q
theorem mt_popA : MtM X "list.pop" rPopA := MtR.or mt_pop mt_popAt
theorem om_pop : OM T W popU rPopA := by
  intro σ H s G ρ Z x u vs us Q sm r1 r2 h
  unfold popU at h
  split at h
  · rename_i i
    split at h
    · rename_i l g
      split at h
      · rename_i y ey
        obtain ⟨a, ws, rfl, hi, za, ha, q⟩ := cell_lst (u := .ref i) sm.rl r1 g
        cases r2
        obtain ⟨v, hv, rv⟩ := q.get ey
        rw [← q.length] at hv
        refine .inl ⟨a, ws, v, rfl, rfl, ha, hv, ?_⟩
        exact h _ _ ρ Z (ex_set (List.mem_of_getElem? hi) za) (set_lst (l := l) sm.rl hi za q.dropLast) (rv.ex sm.rl.zm (ex_set (List.mem_of_getElem? hi) za))
      · exact h.elim
    · exact h.elim
  · rename_i i j
    split at h
    · rename_i l g
      by_cases z : -(2 ^ 63) ≤ j ∧ j < 2 ^ 63
      · rw [if_pos z] at h
        split at h
        · rename_i k ek
          split at h
          · rename_i y ey
            obtain ⟨a, ws, rfl, hi, za, ha, q⟩ := cell_lst (u := .ref i) sm.rl r1 g
            obtain ⟨v0, rfl, rv0⟩ := r2.inv1
            obtain ⟨v, hv, rv⟩ := q.get ey
            refine .inr ⟨a, ws, j, k, v, rfl, by rw [rv0.inv_int], ha, z.1, z.2, by rw [q.length]; exact ek, hv, ?_⟩
            exact h _ _ ρ Z (ex_set (List.mem_of_getElem? hi) za) (set_lst (l := l) sm.rl hi za (q.eraseIdx k)) (rv.ex sm.rl.zm (ex_set (List.mem_of_getElem? hi) za))
          · exact h.elim
        · exact h.elim
      · rw [if_neg z] at h
        exact h.elim
    · exact h.elim
  · exact h.elim

/-! ### texts -/
def joinM (a b : ME) : ME := fun s G => (a s G).bind fun u G1 => match u with
  | .str l => (b s G1).bind fun w G2 => match lstOf G2 w with
    | some ys => match strsOf ys with
      | some zs => if (zs.map List.length).sum + zs.length * l.length ≤ szL then .ok (.str (TL.joinL l zs)) G2 else .bad
      | none => .bad
    | none => .bad
  | _ => .bad
theorem fe_join {ma mb : ME} (hT : X.K = T.K) (ho : PE X o (tE T W ma)) (he : PE X e (tE T W mb)) (h1 : plainRecv o = true) (h2 : noStar e = true) (h4 : (apos.endLine == pos.line) = true) : PE X (.Call (.Attribute o "join" apos) [e] [] pos) (tE T W (joinM ma mb)) :=
  PE.imp (pe_join ho he (star_cons h2) (attrBase h1) h4) fun σ H Q ⟨s, G, ρ, Z, sm, q⟩ => by
    refine tE_bind sm q fun u G1 x H1 ρ1 Z1 x1 sm1 r1 q1 => ?_
    split at q1
    · rename_i l
      refine ⟨⟨_, r1.inv_str⟩, ?_⟩
      refine tE_bind sm1 q1 fun w G2 y H2 ρ2 Z2 x2 sm2 r2 q2 => ?_
      split at q2
      · rename_i ys ey
        split at q2
        · rename_i zs ez
          by_cases z : (zs.map List.length).sum + zs.length * l.length ≤ szL
          · rw [if_pos z] at q2
            obtain ⟨a, vs, rfl, hv, qv⟩ := lstOf_at sm2.rl r2 ey
            rw [strsOf_eq ez] at qv
            have e2 := qv.strs
            subst e2
            have el : ((zs.map SS).map (·.length)) = zs.map List.length := SX.lens zs
            refine ⟨SS l, a, zs.map SS, r1.inv_str, rfl, .inl (hT ▸ hv), by rw [el, List.length_map, strLen]; exact z, ?_⟩
            rw [show Txt.join (SS l) (zs.map SS) = SS (TL.joinL l zs) from SX.join_S l zs]
            exact q2 _ H2 ρ2 Z2 Ex.refl sm2.rl (Rep.ss _)
          · rw [if_neg z] at q2
            exact q2.elim
        · exact q2.elim
      · exact q2.elim
    · exact q1.elim
def splitM (mu : Bool) (a b : ME) : ME := fun s G => (a s G).bind fun u G1 => match u with
  | .str l => (b s G1).bind fun w G2 => match w with
    | .str z => if z ≠ [] ∧ z.all (fun c => decide (c < 256)) = true ∧ l.length + 2 ≤ szL then newL mu ((TL.spl z 0 [] l).map U.str) G2 else .bad
    | _ => .bad
  | _ => .bad
theorem fe_split {mu : Bool} {ma mb : ME} (ho : PE X o (tE T W ma)) (he : PE X e (tE T W mb)) (h1 : plainRecv o = true) (h2 : noStar e = true) (h4 : (apos.endLine == pos.line) = true) : PE X (.Call (.Attribute o "split" apos) [e] [] pos) (tE T W (splitM mu ma mb)) :=
  PE.imp (pe_split ho he (star_cons h2) (attrBase h1) h4) fun σ H Q ⟨s, G, ρ, Z, sm, q⟩ => by
    refine tE_bind sm q fun u G1 x H1 ρ1 Z1 x1 sm1 r1 q1 => ?_
    split at q1
    · rename_i l
      refine ⟨⟨_, r1.inv_str⟩, ?_⟩
      refine tE_bind sm1 q1 fun w G2 y H2 ρ2 Z2 x2 sm2 r2 q2 => ?_
      split at q2
      · rename_i z
        by_cases c : z ≠ [] ∧ z.all (fun c => decide (c < 256)) = true ∧ l.length + 2 ≤ szL
        · rw [if_pos c] at q2
          have hne : ((SS z).length == 0) = false := by
            rw [strLen]
            cases z with
            | nil => exact absurd rfl c.1
            | cons a b => rfl
          refine ⟨SS l, SS z, r1.inv_str, by rw [r2.inv_str], hne, by rw [strLen, szL_eq]; exact c.2.2, ?_⟩
          rw [show Txt.split (SS l) (SS z) = (TL.spl z 0 [] l).map SS from SX.split_S c.1 c.2.1]
          exact (newL_ok sm2.rl (Reps.of_strs _) q2).2
        · rw [if_neg c] at q2
          exact q2.elim
      · exact q2.elim
    · exact q1.elim
end
end FL

/-! FL10: what is walked; for, while, comprehensions; statements. -/
namespace FL
open PySem L2 PyProof.Rows
/-- what is walked: a list or tuple as it stands, or items known -/
inductive Itb where
  | seq (u : U) | items (l : List U)
def itAt : Itb → List Ob → Nat → Option (Option U)
  | .seq u, G, k => match seqOf G u with
    | some l => some l[k]?
    | none => none
  | .items l, _, k => some l[k]?
abbrev MI := Sg → List Ob → Rs (Itb × Nat)
/-- the walk J does what b says, from (ρ0, Z0, H0) on -/
def ItOk (T : Tb) (b : Itb) (J : It) (ρ0 : List Addr) (Z0 : Addr → Prop) (H0 : Hp) : Prop :=
  ∀ ρ Z G H, (∃ t, ρ = ρ0 ++ t) → (∀ a o, H0 a = some o → ¬ Z0 a → H a = some o ∧ ¬ Z a) → Rl T ρ Z G H → ∀ k, (∀ u, itAt b G k = some (some u) → J.go k H ∧ ∀ x H', J.yld k H x H' → Ex ρ Z H ρ Z H' ∧ Rl T ρ Z G H' ∧ Rep T ρ Z H' x u) ∧ (itAt b G k = some none → J.stop k H)
def RI (T : Tb) (W : WX) (σ : L2.St) (H : Hp) (ρ : List Addr) (Z : Addr → Prop) (R : It → Hp → Prop) : Rs (Itb × Nat) → Prop
  | .ok b G' => ∀ J H' ρ' Z', Ex ρ Z H ρ' Z' H' → Rl T ρ' Z' G' H' → ItOk T b.1 J ρ' Z' H' → R J H'
  | .exc x G' => EEnd T W σ H ρ Z x G'
  | .bad => False
def tI (T : Tb) (W : WX) (m : MI) : TI := fun σ H R => ∃ s G ρ Z, Sm T σ H s G ρ Z ∧ RI T W σ H ρ Z R (m s G)
section
variable {X : Cx} {T : Tb} {W : WX} {tg : Expr} {p pos : Pos} {a e : Expr} {es : List Expr} {ma : ME} {mas : MA}
theorem PI.imp {t t' : TI} (h : PI X tg e t) (i : ∀ σ H Q, t' σ H Q → t σ H Q) : PI X tg e t' := ⟨fun pins s σ H R I q => h.run pins s σ H R I (i σ H R q)⟩
theorem PI.or {t t' : TI} (h : PI X tg e t) (h' : PI X tg e t') : PI X tg e (fun σ H R => t σ H R ∨ t' σ H R) := ⟨fun pins s σ H R I q => q.elim (h.run pins s σ H R I) (h'.run pins s σ H R I)⟩
theorem tE_bindI {m : ME} {f : U → List Ob → Rs (Itb × Nat)} {Q : It → Hp → Prop} {k : VK} {σ : L2.St} {H : Hp} {s : Sg} {G : List Ob} {ρ : List Addr} {Z : Addr → Prop} (sm : Sm T σ H s G ρ Z) (h : RI T W σ H ρ Z Q ((m s G).bind f))
    (hk : ∀ u G' v H' ρ' Z', m s G = .ok u G' → Ex ρ Z H ρ' Z' H' → Sm T σ H' s G' ρ' Z' → Rep T ρ' Z' H' v u → RI T W σ H' ρ' Z' Q (f u G') → k v H') : tE T W m σ H k := by
  refine ⟨s, G, ρ, Z, sm, ?_⟩
  cases e : m s G with
  | ok u G' =>
    rw [e] at h
    refine fun v H' ρ' Z' x rl rp => hk u G' v H' ρ' Z' e x (sm.ex x rl) rp ?_
    have h : RI T W σ H ρ Z Q (f u G') := h
    cases e2 : f u G' with
    | ok b G2 => rw [e2] at h; exact fun J H2 ρ2 Z2 y => h J H2 ρ2 Z2 (x.trans y)
    | exc y G2 => rw [e2] at h; exact EEnd.ex h x
    | bad => rw [e2] at h; exact h
  | exc x G' => rw [e] at h; exact h
  | bad => rw [e] at h; exact h
theorem tA_bindI {m : MA} {f : List U → List Ob → Rs (Itb × Nat)} {Q : It → Hp → Prop} {k : List V → Hp → Prop} {σ : L2.St} {H : Hp} {s : Sg} {G : List Ob} {ρ : List Addr} {Z : Addr → Prop} (sm : Sm T σ H s G ρ Z) (h : RI T W σ H ρ Z Q ((m s G).bind f))
    (hk : ∀ u G' v H' ρ' Z', Ex ρ Z H ρ' Z' H' → Sm T σ H' s G' ρ' Z' → Reps T ρ' Z' H' v u → RI T W σ H' ρ' Z' Q (f u G') → k v H') : tA T W m σ H k := by
  refine ⟨s, G, ρ, Z, sm, ?_⟩
  cases e : m s G with
  | ok u G' =>
    rw [e] at h
    refine fun v H' ρ' Z' x rl rp => hk u G' v H' ρ' Z' x (sm.ex x rl) rp ?_
    have h : RI T W σ H ρ Z Q (f u G') := h
    cases e2 : f u G' with
    | ok b G2 => rw [e2] at h; exact fun J H2 ρ2 Z2 y => h J H2 ρ2 Z2 (x.trans y)
    | exc y G2 => rw [e2] at h; exact EEnd.ex h x
    | bad => rw [e2] at h; exact h
  | exc x G' => rw [e] at h; exact h
  | bad => rw [e] at h; exact h
/-- a list, a tuple, a text -/
def seqI (m : ME) : MI := fun s G => (m s G).bind fun u G1 => match u with
  | .str l => .ok (.items (l.map fun c => .str [c]), l.length) G1
  | u => match seqOf G1 u with
    | some l => .ok (.seq u, l.length) G1
    | none => .bad
theorem seqOf_mono {ρ0 ρ : List Addr} {Z0 Z : Addr → Prop} {H0 H : Hp} {v : V} {u : U} {G0 : List Ob} (rl0 : Rl T ρ0 Z0 G0 H0) (r : Rep T ρ0 Z0 H0 v u) (hp : ∃ t, ρ = ρ0 ++ t) (fz : ∀ a o, H0 a = some o → ¬ Z0 a → H a = some o ∧ ¬ Z a) : Rep T ρ Z H v u := r.exf hp fz rl0.zm
theorem itl_ok {σ : L2.St} {ρ0 : List Addr} {Z0 : Addr → Prop} {H0 : Hp} {a : Addr} {u : U} {G0 : List Ob} (rl0 : Rl T ρ0 Z0 G0 H0) (r : Rep T ρ0 Z0 H0 (.ref a) u) (hn : ∀ l, u ≠ .tup l) : ItOk T (.seq u) (Itl T.K a) ρ0 Z0 H0 := by
  intro ρ Z G H hp fz rl k
  have rv := seqOf_mono rl0 r hp fz
  have key : ∀ l, seqOf G u = some l → ∃ vs, SqL T.K H a vs ∧ Reps T ρ Z H vs l := fun l e => by
    have e' : lstOf G u = some l := by
      cases u with
      | tup l' => exact absurd rfl (hn l')
      | _ => exact e
    obtain ⟨a', vs, ea, h1, h2⟩ := lstOf_at rl rv e'
    cases ea
    exact ⟨vs, h1, h2⟩
  constructor
  · intro y e
    simp only [itAt] at e
    split at e
    · rename_i l el
      obtain ⟨vs, h1, h2⟩ := key l el
      have e := Option.some.inj e
      obtain ⟨v, hv, rv⟩ := h2.get e
      refine ⟨⟨vs, v, h1, hv⟩, ?_⟩
      rintro x H' ⟨rfl, hy⟩
      have : x = v := by have := hy vs h1; rw [hv] at this; exact (Option.some.inj this).symm
      subst this
      exact ⟨Ex.refl, rl, rv⟩
    · cases e
  · intro e
    simp only [itAt] at e
    split at e
    · rename_i l el
      obtain ⟨vs, h1, h2⟩ := key l el
      have e := Option.some.inj e
      exact ⟨vs, h1, by rw [h2.length]; exact List.getElem?_eq_none_iff.mp e⟩
    · cases e
theorem itt_ok {ρ0 : List Addr} {Z0 : Addr → Prop} {H0 : Hp} {a : Addr} {l : List U} {G0 : List Ob} (rl0 : Rl T ρ0 Z0 G0 H0) (r : Rep T ρ0 Z0 H0 (.ref a) (.tup l)) : ItOk T (.seq (.tup l)) (Itt T.K a) ρ0 Z0 H0 := by
  intro ρ Z G H hp fz rl k
  have rv := seqOf_mono rl0 r hp fz
  obtain ⟨a', vs, ea, h1, h2⟩ := rv.inv_tup
  cases ea
  constructor
  · intro y e
    simp only [itAt, seqOf] at e
    have e := Option.some.inj e
    obtain ⟨v, hv, rv⟩ := h2.get e
    refine ⟨⟨vs, v, h1, hv⟩, ?_⟩
    rintro x H' ⟨rfl, hy⟩
    have : x = v := by have := hy vs h1; rw [hv] at this; exact (Option.some.inj this).symm
    subst this
    exact ⟨Ex.refl, rl, rv⟩
  · intro e
    simp only [itAt, seqOf] at e
    have e := Option.some.inj e
    exact ⟨vs, h1, by rw [h2.length]; exact List.getElem?_eq_none_iff.mp e⟩
theorem its_ok {ρ0 : List Addr} {Z0 : Addr → Prop} {H0 : Hp} {l : List Nat} : ItOk T (.items (l.map fun c => .str [c])) (Its (SS l)) ρ0 Z0 H0 := by
  intro ρ Z G H hp fz rl k
  have hs : (SS l).cps.size = l.length := by simp [SS]
  constructor
  · intro y e
    simp only [itAt] at e
    have e := Option.some.inj e
    rw [List.getElem?_map] at e
    cases e2 : l[k]? with
    | none => rw [e2] at e; cases e
    | some c =>
      rw [e2] at e
      cases e
      refine ⟨by show k < (SS l).cps.size; rw [hs]; exact (List.getElem?_eq_some_iff.mp e2).1, ?_⟩
      rintro x H' ⟨rfl, c', hc, rfl⟩
      have : c' = c := by
        simp [SS] at hc
        rw [e2] at hc
        exact (Option.some.inj hc).symm
      subst this
      exact ⟨Ex.refl, rl, Rep.ss [c']⟩
  · intro e
    simp only [itAt] at e
    have e := Option.some.inj e
    rw [List.getElem?_map] at e
    show (SS l).cps.size ≤ k
    rw [hs]
    cases e2 : l[k]? with
    | none => exact List.getElem?_eq_none_iff.mp e2
    | some c => rw [e2] at e; cases e
theorem fi_seq (hT : X.K = T.K) (h : PE X a (tE T W ma)) : PI X tg a (tI T W (seqI ma)) :=
  PI.imp (PI.or (pi_str h) (PI.or (pi_tup h) (pi_list h))) fun σ H R ⟨s, G, ρ, Z, sm, q⟩ => by
    cases e : ma s G with
    | bad => unfold seqI at q; rw [e] at q; exact q.elim
    | exc x G1 =>
      unfold seqI at q
      rw [e] at q
      refine .inl ⟨s, G, ρ, Z, sm, ?_⟩
      rw [e]
      exact q
    | ok u G1 =>
      have hu : (∃ l, u = .str l) ∨ (∃ l, u = .tup l) ∨ ((∀ l, u ≠ .str l) ∧ ∀ l, u ≠ .tup l) := by
        cases u <;> first | exact .inl ⟨_, rfl⟩ | exact .inr (.inl ⟨_, rfl⟩) | exact .inr (.inr ⟨(fun l z => by cases z), fun l z => by cases z⟩)
      rcases hu with ⟨l, rfl⟩ | ⟨l, rfl⟩ | ⟨hs, ht⟩
      · refine .inl (tE_bindI sm q fun u' G2 x H1 ρ1 Z1 e2 x1 sm1 r1 q1 => ?_)
        rw [e] at e2
        cases e2
        exact ⟨SS l, r1.inv_str, q1 _ H1 ρ1 Z1 Ex.refl sm1.rl its_ok⟩
      · refine .inr (.inl (tE_bindI sm q fun u' G2 x H1 ρ1 Z1 e2 x1 sm1 r1 q1 => ?_))
        rw [e] at e2
        cases e2
        obtain ⟨p, vs, rfl, h1, h2⟩ := r1.inv_tup
        exact ⟨p, rfl, ⟨vs, hT ▸ h1⟩, hT ▸ q1 _ H1 ρ1 Z1 Ex.refl sm1.rl (itt_ok sm1.rl r1)⟩
      · refine .inr (.inr (tE_bindI sm q fun u' G2 x H1 ρ1 Z1 e2 x1 sm1 r1 q1 => ?_))
        rw [e] at e2
        cases e2
        split at q1
        · exact absurd rfl (hs _)
        · split at q1
          · rename_i l el
            have el' : lstOf G1 u = some l := by
              cases u with
              | tup l' => exact absurd rfl (ht l')
              | _ => exact el
            obtain ⟨p, vs, rfl, h1, h2⟩ := lstOf_at sm1.rl r1 el'
            exact ⟨p, rfl, ⟨vs, hT ▸ h1⟩, hT ▸ q1 _ H1 ρ1 Z1 Ex.refl sm1.rl (itl_ok (σ := σ) sm1.rl r1 ht)⟩
          · exact q1.elim

/-! ### ranges -/
def rangeL (lo c : Int) (n : Nat) : List U := (List.range n).map fun k => .int (lo + (k : Nat) * c)
theorem rangeL_get {lo c : Int} {n k : Nat} : (rangeL lo c n)[k]? = if k < n then some (.int (lo + (k : Nat) * c)) else none := by
  unfold rangeL
  rw [List.getElem?_map]
  by_cases h : k < n
  · rw [if_pos h, List.getElem?_range h]; rfl
  · rw [if_neg h, List.getElem?_eq_none_iff.mpr (by simpa using h)]; rfl
theorem itc_ok {ρ0 : List Addr} {Z0 : Addr → Prop} {H0 : Hp} {lo c : Int} {n : Nat} : ItOk T (.items (rangeL lo c n)) (Itc lo c n) ρ0 Z0 H0 := by
  intro ρ Z G H hp fz rl k
  constructor
  · intro y e
    simp only [itAt] at e
    have e := Option.some.inj e
    rw [rangeL_get] at e
    by_cases h : k < n
    · rw [if_pos h] at e
      cases e
      refine ⟨h, ?_⟩
      rintro x H' ⟨rfl, rfl⟩
      exact ⟨Ex.refl, rl, .int _⟩
    · rw [if_neg h] at e; cases e
  · intro e
    simp only [itAt] at e
    have e := Option.some.inj e
    rw [rangeL_get] at e
    by_cases h : k < n
    · rw [if_pos h] at e; cases e
    · show n ≤ k; omega
theorem itr_ok {ρ0 : List Addr} {Z0 : Addr → Prop} {H0 : Hp} {lo : Int} {n : Nat} : ItOk T (.items (rangeL lo 1 n)) (Itr lo n) ρ0 Z0 H0 := by
  intro ρ Z G H hp fz rl k
  obtain ⟨h1, h2⟩ := itc_ok (T := T) (ρ0 := ρ0) (Z0 := Z0) (H0 := H0) (lo := lo) (c := 1) (n := n) ρ Z G H hp fz rl k
  refine ⟨fun y e => ?_, fun e => h2 e⟩
  obtain ⟨g, w⟩ := h1 y e
  refine ⟨g, ?_⟩
  rintro x H' ⟨rfl, rfl⟩
  exact w _ _ ⟨rfl, by rw [Int.mul_one]⟩
def rng1U (us : List U) (G : List Ob) : Rs (Itb × Nat) := match us with
  | [.int j] => if -(2 ^ 62) ≤ j ∧ j < 2 ^ 62 then .ok (.items (rangeL 0 1 j.toNat), j.toNat) G else .bad
  | _ => .bad
def rng2U (us : List U) (G : List Ob) : Rs (Itb × Nat) := match us with
  | [.int i, .int j] => if -(2 ^ 62) ≤ i ∧ i < 2 ^ 62 ∧ -(2 ^ 62) ≤ j ∧ j < 2 ^ 62 then .ok (.items (rangeL i 1 (j - i).toNat), (j - i).toNat) G else .bad
  | _ => .bad
def rng3U (us : List U) (G : List Ob) : Rs (Itb × Nat) := match us with
  | [.int i, .int j, .int c] => if c = -1 ∧ -(2 ^ 62) ≤ i ∧ i < 2 ^ 62 ∧ -(2 ^ 62) ≤ j ∧ j < 2 ^ 62 then .ok (.items (rangeL i (-1) (i - j).toNat), (i - j).toNat) G else .bad
  | _ => .bad
def preI (f : List U → List Ob → Rs (Itb × Nat)) (mas : MA) : MI := fun s G => (mas s G).bind f
theorem fi_rng1 (hg : Gl X "range") (hm : X.mg "range" = none) (ha : PA X [a] (tA T W mas)) (h1 : noStar a = true) : PI X tg (.Call (.Name "range" p) [a] [] pos) (tI T W (preI rng1U mas)) :=
  PI.imp (pi_range1 hg hm ha (star_cons h1)) fun σ H R ⟨s, G, ρ, Z, sm, q⟩ => by
    refine tA_bindI sm q fun us G1 vs H1 ρ1 Z1 x1 sm1 r1 q1 => ?_
    unfold rng1U at q1
    split at q1
    · rename_i j
      by_cases z : -(2 ^ 62) ≤ j ∧ j < 2 ^ 62
      · rw [if_pos z] at q1
        obtain ⟨v, rfl, rv⟩ := r1.inv1
        exact ⟨j, by rw [rv.inv_int], z.1, z.2, q1 _ H1 ρ1 Z1 Ex.refl sm1.rl itr_ok⟩
      · rw [if_neg z] at q1
        exact q1.elim
    · exact q1.elim
theorem fi_rng2 {b : Expr} (hg : Gl X "range") (hm : X.mg "range" = none) (ha : PA X [a, b] (tA T W mas)) (h1 : noStar a = true) (h2 : noStar b = true) : PI X tg (.Call (.Name "range" p) [a, b] [] pos) (tI T W (preI rng2U mas)) :=
  PI.imp (pi_range2 hg hm ha (by rw [star_cons h1, star_cons h2] <;> rfl) (by rw [star_cons h2] <;> rfl)) fun σ H R ⟨s, G, ρ, Z, sm, q⟩ => by
    refine tA_bindI sm q fun us G1 vs H1 ρ1 Z1 x1 sm1 r1 q1 => ?_
    unfold rng2U at q1
    split at q1
    · rename_i i j
      by_cases z : -(2 ^ 62) ≤ i ∧ i < 2 ^ 62 ∧ -(2 ^ 62) ≤ j ∧ j < 2 ^ 62
      · rw [if_pos z] at q1
        obtain ⟨v, v', rfl, rv, rv'⟩ := r1.inv2
        exact ⟨i, j, by rw [rv.inv_int, rv'.inv_int], z, q1 _ H1 ρ1 Z1 Ex.refl sm1.rl itr_ok⟩
      · rw [if_neg z] at q1
        exact q1.elim
    · exact q1.elim
theorem Reps.inv3 {ρ : List Addr} {Z : Addr → Prop} {H : Hp} {vs : List V} {u w z : U} (h : Reps T ρ Z H vs [u, w, z]) : ∃ v v' v'', vs = [v, v', v''] ∧ Rep T ρ Z H v u ∧ Rep T ρ Z H v' w ∧ Rep T ρ Z H v'' z := by
  cases h with
  | cons a b =>
    obtain ⟨v', v'', rfl, h1, h2⟩ := b.inv2
    exact ⟨_, _, _, rfl, a, h1, h2⟩
theorem fi_rng3 {b c : Expr} (hg : Gl X "range") (hm : X.mg "range" = none) (ha : PA X [a, b, c] (tA T W mas)) (h1 : noStar a = true) (h2 : noStar b = true) (h3 : noStar c = true) : PI X tg (.Call (.Name "range" p) [a, b, c] [] pos) (tI T W (preI rng3U mas)) :=
  PI.imp (pi_range3 hg hm ha (star_cons h1) (star_any (by simp [h2, h3]))) fun σ H R ⟨s, G, ρ, Z, sm, q⟩ => by
    refine tA_bindI sm q fun us G1 vs H1 ρ1 Z1 x1 sm1 r1 q1 => ?_
    unfold rng3U at q1
    split at q1
    · rename_i i j c
      by_cases z : c = -1 ∧ -(2 ^ 62) ≤ i ∧ i < 2 ^ 62 ∧ -(2 ^ 62) ≤ j ∧ j < 2 ^ 62
      · rw [if_pos z] at q1
        obtain ⟨v, v', v'', rfl, rv, rv', rv''⟩ := r1.inv3
        obtain ⟨ec, z⟩ := z
        subst ec
        exact ⟨i, j, -1, _, by rw [rv.inv_int, rv'.inv_int, rv''.inv_int], RgC.neg z.1 z.2.1 z.2.2.1 z.2.2.2, q1 _ H1 ρ1 Z1 Ex.refl sm1.rl itc_ok⟩
      · rw [if_neg z] at q1
        exact q1.elim
    · exact q1.elim

/-! ### targets -/
abbrev MG := U → Sg → Option Sg
/-- the slots vs may be stored -/
def Stay (vs : List Nat) (σ σ' : L2.St) : Prop := σ'.length = σ.length ∧ ∀ j, j ∉ vs → σ'[j]? = σ[j]?
def tG (T : Tb) (vs : List Nat) (m : MG) : TG := fun v σ H Q => ∃ s G ρ Z u, Sm T σ H s G ρ Z ∧ Rep T ρ Z H v u ∧ ∃ s', m u s = some s' ∧ ∀ σ', Fm T ρ Z H σ' s' → Stay vs σ σ' → Q σ' H
def nameG (i : Nat) : MG := fun u s => some (s.set i (some u))
theorem Fm.set {σ : L2.St} {H : Hp} {ρ : List Addr} {Z : Addr → Prop} {s : Sg} {v : V} {u : U} {i : Nat} (f : Fm T ρ Z H σ s) (r : Rep T ρ Z H v u) : Fm T ρ Z H (σ.set i (some v)) (s.set i (some u)) := by
  refine ⟨by rw [List.length_set, List.length_set, f.1], fun j w e => ?_⟩
  by_cases h : i = j
  · subst h
    have hl : i < s.length := by
      have := (List.getElem?_eq_some_iff.mp e).1
      simpa using this
    rw [List.getElem?_set_self hl] at e
    have e := Option.some.inj (Option.some.inj e)
    subst e
    exact ⟨v, List.getElem?_set_self (by rw [f.1]; exact hl), r⟩
  · rw [List.getElem?_set_ne h] at e
    obtain ⟨v', e1, r1⟩ := f.2 j w e
    exact ⟨v', by rw [List.getElem?_set_ne h]; exact e1, r1⟩
theorem fg_name {i : Nat} {x : Str} (hN : X.N.Nodup) (hi : X.N[i]? = some x) (hx : Loc X.env.scope x) (hf : X.fn x = true ∨ X.env.scope.names.lookup x = some .local) : PG X (.Name x pos) (tG T [i] (nameG i)) :=
  PG.imp (pg_name hN hi hx hf) fun v σ H Q ⟨s, G, ρ, Z, u, sm, r, s', e, q⟩ => by
    cases e
    exact q _ (sm.fm.set r) ⟨by rw [List.length_set], fun j hj => by rw [List.getElem?_set_ne (by simpa [eq_comm] using hj)]⟩
/-- several targets from the left -/
abbrev MGs := List U → Sg → Option Sg
def tGs (T : Tb) (vs : List Nat) (m : MGs) : TGs := fun ws σ H Q => ∃ s G ρ Z us, Sm T σ H s G ρ Z ∧ Reps T ρ Z H ws us ∧ ∃ s', m us s = some s' ∧ ∀ σ', Fm T ρ Z H σ' s' → Stay vs σ σ' → Q σ' H
def nilG : MGs := fun us s => match us with
  | [] => some s
  | _ => none
def consG (m : MG) (ms : MGs) : MGs := fun us s => match us with
  | u :: r => match m u s with
    | some s' => ms r s'
    | none => none
  | [] => none
theorem PGs.imp {es : List Expr} {t t' : TGs} (h : PGs X es t) (i : ∀ v σ H Q, t' v σ H Q → t v σ H Q) : PGs X es t' := ⟨fun pins s σ H v u Q I r q => h.run pins s σ H v u Q I r (i v σ H Q q)⟩
theorem fg_nil : PGs X [] (tGs T [] nilG) := PGs.imp pgs_nil fun vs σ H Q ⟨s, G, ρ, Z, us, sm, r, s', e, q⟩ => by
  unfold nilG at e
  split at e
  · cases e
    cases r
    exact ⟨rfl, q σ sm.fm ⟨rfl, fun _ _ => rfl⟩⟩
  · cases e
theorem fg_cons {vs ws : List Nat} {m : MG} {ms : MGs} (h1 : PG X e (tG T vs m)) (h2 : PGs X es (tGs T ws ms)) (hs : noStar e = true) : PGs X (e :: es) (tGs T (vs ++ ws) (consG m ms)) :=
  PGs.imp (pgs_cons h1 h2 (by rw [assign_cons hs] <;> rfl)) fun vs' σ H Q ⟨s, G, ρ, Z, us, sm, r, s', e1, q⟩ => by
    unfold consG at e1
    split at e1
    · rename_i u ur
      cases r with
      | cons r1 r2 =>
        split at e1
        · rename_i s2 e2
          refine ⟨_, _, rfl, s, G, ρ, Z, u, sm, r1, s2, e2, fun σ2 f2 st2 => ?_⟩
          exact ⟨s2, G, ρ, Z, ur, ⟨sm.rl, f2⟩, r2, s', e1, fun σ3 f3 st3 => q σ3 f3 ⟨st3.1.trans st2.1, fun j hj => by
            have h1 : j ∉ vs := fun z => hj (List.mem_append_left _ z)
            have h2 : j ∉ ws := fun z => hj (List.mem_append_right _ z)
            rw [st3.2 j h2, st2.2 j h1]⟩⟩
        · cases e1
    · cases e1
def tupG (n : Nat) (ms : MGs) : MG := fun u s => match u with
  | .tup us => if us.length = n then ms us s else none
  | _ => none
theorem fg_tup {vs : List Nat} {ms : MGs} {k : Nat} (hT : X.K = T.K) (hc : X.calm = true) (h : PGs X es (tGs T vs ms)) (hs : es.all noStar = true) : PG X (.Tuple es k pos) (tG T vs (tupG es.length ms)) :=
  PG.imp (pg_tup hc h (assign_len hs) (assign_idx hs)) fun v σ H Q ⟨s, G, ρ, Z, u, sm, r, s', e, q⟩ => by
    unfold tupG at e
    split at e
    · rename_i us
      split at e
      · rename_i hl
        obtain ⟨a, vs, rfl, h1, h2⟩ := r.inv_tup
        exact ⟨a, vs, rfl, hT ▸ h1, by rw [h2.length]; exact hl, s, G, ρ, Z, us, sm, h2, s', e, q⟩
      · cases e
    · cases e
end
end FL

/-! FL11: statements; for, while, comprehensions. -/
namespace FL
open PySem L2 PyProof.Rows
/-- the part of Ex that what is frozen needs -/
structure Fz (ρ : List Addr) (Z : Addr → Prop) (H : Hp) (ρ' : List Addr) (Z' : Addr → Prop) (H' : Hp) : Prop where
  pre : ∃ t, ρ' = ρ ++ t
  fz : ∀ a o, H a = some o → ¬ Z a → H' a = some o ∧ ¬ Z' a
section
variable {ρ ρ1 ρ2 : List Addr} {Z Z1 Z2 : Addr → Prop} {H H1 H2 : Hp}
theorem Ex.toFz (x : Ex ρ Z H ρ1 Z1 H1) : Fz ρ Z H ρ1 Z1 H1 := ⟨x.pre, x.fz⟩
theorem Fz.refl : Fz ρ Z H ρ Z H := Ex.refl.toFz
theorem Fz.trans (x : Fz ρ Z H ρ1 Z1 H1) (y : Fz ρ1 Z1 H1 ρ2 Z2 H2) : Fz ρ Z H ρ2 Z2 H2 := by
  refine ⟨?_, fun a o h z => ?_⟩
  · obtain ⟨t, e⟩ := x.pre
    obtain ⟨u, e'⟩ := y.pre
    exact ⟨t ++ u, by rw [e', e, List.append_assoc]⟩
  · obtain ⟨h1, z1⟩ := x.fz a o h z
    exact y.fz a o h1 z1
end
section
variable {X : Cx} {T : Tb} {W : WX} {tg : Expr} {p pos : Pos} {a e : Expr} {es : List Expr} {ma : ME} {mas : MA} {st : Stmt} {rest body orelse : List Stmt} {m m1 m2 : MS} {c : Expr} {mc : MT}
/-! ### blocks -/
def nxM : MS := fun s G => .nx s G
def seqM (m1 m2 : MS) : MS := fun s G => match m1 s G with
  | .nx s1 G1 => m2 s1 G1
  | r => r
theorem fss_nil : PSs X [] (tS T W nxM) := PSs.imp pss_nil fun D σ H ⟨s, G, ρ, Z, sm, q⟩ => q σ H ρ Z Ex.refl sm
theorem fss_cons (h1 : PS X st (tS T W m1)) (h2 : PSs X rest (tS T W m2)) : PSs X (st :: rest) (tS T W (seqM m1 m2)) :=
  PSs.imp (pss_cons h1 h2) fun D σ H ⟨s, G, ρ, Z, sm, q⟩ => by
    refine ⟨s, G, ρ, Z, sm, ?_⟩
    unfold seqM at q
    cases e : m1 s G with
    | nx s1 G1 =>
      rw [e] at q
      exact fun σ' H' ρ' Z' x sm' => ⟨s1, G1, ρ', Z', sm', RS.ex q x⟩
    | rt u G1 => rw [e] at q; exact q
    | bk s1 G1 => rw [e] at q; exact q
    | ct s1 G1 => rw [e] at q; exact q
    | exc x s1 G1 => rw [e] at q; exact q
    | bad => rw [e] at q; exact q
theorem fss_one (h1 : PS X st (tS T W m1)) : PSs X [st] (tS T W m1) := pss_one h1
def bkM : MS := fun s G => .bk s G
def ctM : MS := fun s G => .ct s G
theorem fs_pass : PS X (.Pass pos) (tS T W nxM) := PS.imp ps_pass fun D σ H ⟨s, G, ρ, Z, sm, q⟩ => q σ H ρ Z Ex.refl sm
theorem fs_break : PS X (.Break pos) (tS T W bkM) := PS.imp ps_break fun D σ H ⟨s, G, ρ, Z, sm, q⟩ => q σ H ρ Z Ex.refl sm
theorem fs_continue : PS X (.Continue pos) (tS T W ctM) := PS.imp ps_continue fun D σ H ⟨s, G, ρ, Z, sm, q⟩ => q σ H ρ Z Ex.refl sm
/-- an expression, then what is done with its value -/
def stE (m : ME) (f : U → MS) : MS := fun s G => match m s G with
  | .ok u G1 => f u s G1
  | .exc x G1 => .exc x s G1
  | .bad => .bad
theorem stE_imp {f : U → MS} {σ : L2.St} {H : Hp} {D : Ends} {k : VK} (q : tS T W (stE ma f) D σ H)
    (hk : ∀ u s G v H' ρ' Z', Sm T σ H' s G ρ' Z' → Rep T ρ' Z' H' v u → RS T W σ H' ρ' Z' D (f u s G) → k v H') : tE T W ma σ H k := by
  obtain ⟨s, G, ρ, Z, sm, q⟩ := q
  refine ⟨s, G, ρ, Z, sm, ?_⟩
  unfold stE at q
  cases e : ma s G with
  | ok u G1 =>
    rw [e] at q
    exact fun v H' ρ' Z' x rl r => hk u s G1 v H' ρ' Z' (sm.ex x rl) r (RS.ex q x)
  | exc x G1 =>
    rw [e] at q
    exact fun cls d H' ρ' Z' y rl a => q cls d σ H' ρ' Z' y (sm.ex y rl) a
  | bad => rw [e] at q; exact q
theorem fs_expr (he : PE X e (tE T W ma)) (h : noComp e = true) : PS X (.Expr e pos) (tS T W (stE ma fun _ => nxM)) :=
  PS.imp (ps_expr he (swaps_no h)) fun D σ H q => stE_imp q fun u s G v H' ρ' Z' sm r q => q σ H' ρ' Z' Ex.refl sm
theorem fs_doc {x : Str} {j : Nat} {pos' : Pos} : PS X (.Expr (.Constant (.str x) j pos) pos') (tS T W nxM) := PS.imp ps_doc fun D σ H ⟨s, G, ρ, Z, sm, q⟩ => q σ H ρ Z Ex.refl sm
def rtM : U → MS := fun u _ G => .rt u G
theorem fs_ret (he : PE X e (tE T W ma)) : PS X (.Return (some e) pos) (tS T W (stE ma rtM)) :=
  PS.imp (ps_ret he) fun D σ H q => stE_imp q fun u s G v H' ρ' Z' sm r q => q v H' ρ' Z' Ex.refl sm.rl r
theorem fs_retN : PS X (.Return none pos) (tS T W (fun _ G => .rt .non G)) := PS.imp ps_retN fun D σ H ⟨s, G, ρ, Z, sm, q⟩ => q _ H ρ Z Ex.refl sm.rl .non
def ifM (c : MT) (a b : MS) : MS := fun s G => match c s G with
  | .ok true G1 => a s G1
  | .ok false G1 => b s G1
  | .exc x G1 => .exc x s G1
  | .bad => .bad
theorem fs_if (hc : PT X c (tT T W mc)) (ha : PSs X body (tS T W m1)) (hb : PSs X orelse (tS T W m2)) : PS X (.If c body orelse pos) (tS T W (ifM mc m1 m2)) :=
  PS.imp (ps_if hc ha hb) fun D σ H ⟨s, G, ρ, Z, sm, q⟩ => by
    refine ⟨s, G, ρ, Z, sm, ?_⟩
    unfold ifM at q
    cases e : mc s G with
    | ok k G1 =>
      rw [e] at q
      intro H' ρ' Z' x rl
      cases k with
      | true => rw [if_pos rfl]; exact ⟨s, G1, ρ', Z', sm.ex x rl, RS.ex q x⟩
      | false => rw [if_neg Bool.false_ne_true]; exact ⟨s, G1, ρ', Z', sm.ex x rl, RS.ex q x⟩
    | exc x G1 =>
      rw [e] at q
      exact fun cls d H' ρ' Z' y rl a => q cls d σ H' ρ' Z' y (sm.ex y rl) a
    | bad => rw [e] at q; exact q
/-- name = e -/
def setM (i : Nat) : U → MS := fun u s G => .nx (s.set i (some u)) G
theorem fs_set {i : Nat} {x : Str} {pos' : Pos} (hN : X.N.Nodup) (hi : X.N[i]? = some x) (hx : Loc X.env.scope x) (he : PE X e (tE T W ma)) (hs : swapsWith e (some (.Name x pos')) pos.line X.env = pure false) (hf : X.fn x = true ∨ X.env.scope.names.lookup x = some .local) :
    PS X (.Assign [.Name x pos'] e pos) (tS T W (stE ma (setM i))) :=
  PS.imp (ps_set hN hi hx he hs hf) fun D σ H q => stE_imp q fun u s G v H' ρ' Z' sm r q => q _ H' ρ' Z' Ex.refl ⟨sm.rl, sm.fm.set r⟩
/-- target = e, the target some names -/
def asgM (g : MG) : U → MS := fun u s G => match g u s with
  | some s' => .nx s' G
  | none => .bad
theorem fs_asg {g : MG} {vs : List Nat} (he : PE X e (tE T W ma)) (hg : PG X tg (tG T vs g)) (h1 : notName tg = true) (h2 : notTT tg e = true) (h3 : noStar tg = true) :
    PS X (.Assign [tg] e pos) (tS T W (stE ma (asgM g))) :=
  PS.imp (ps_asg he hg (swaps_sole h1) (swapped_no h2) (assign_one h3)) fun D σ H q => stE_imp q fun u s G v H' ρ' Z' sm r q => by
    unfold asgM at q
    cases e1 : g u s with
    | none => rw [e1] at q; exact q.elim
    | some s' =>
      rw [e1] at q
      exact ⟨s, G, ρ', Z', u, sm, r, s', e1, fun σ' f _ => q σ' H' ρ' Z' Ex.refl ⟨sm.rl, f⟩⟩

/-! ### for -/
def forL (b : Itb) (g : MG) (body : MS) : Nat → Nat → MS
  | 0, k => fun s G => match itAt b G k with
    | some none => .nx s G
    | _ => .bad
  | m + 1, k => fun s G => match itAt b G k with
    | some (some u) => match g u s with
      | some s1 => match body s1 G with
        | .nx s2 G2 => forL b g body m (k + 1) s2 G2
        | .ct s2 G2 => forL b g body m (k + 1) s2 G2
        | .bk s2 G2 => .nx s2 G2
        | r => r
      | none => .bad
    | _ => .bad
def forM (it : MI) (g : MG) (body : MS) : MS := fun s G => match it s G with
  | .ok b G1 => forL b.1 g body b.2 0 s G1
  | .exc x G1 => .exc x s G1
  | .bad => .bad
theorem fs_for {it : MI} {g : MG} {vs : List Nat} (hp : PassesOwn (model X.prog X.w) X.A X.env X.xe) (hc : X.calm = true) (hi : PI X tg a (tI T W it)) (hg : PG X tg (tG T vs g)) (hb : PSs X body (tS T W m)) (hs : noSet a = true) : PS X (.For tg a body [] pos) (tS T W (forM it g m)) :=
  PS.imp (ps_for hp hc hi hg hb (folded_no hs)) fun D σ H ⟨s, G, ρ, Z, sm, q⟩ => by
    refine ⟨s, G, ρ, Z, sm, ?_⟩
    unfold forM at q
    cases e : it s G with
    | bad => rw [e] at q; exact q
    | exc x G1 =>
      rw [e] at q
      exact fun cls d H' ρ' Z' y rl a => q cls d σ H' ρ' Z' y (sm.ex y rl) a
    | ok b G1 =>
      rw [e] at q
      intro J H1 ρ1 Z1 x1 rl1 io
      refine ⟨fun i k σ' H' => ∃ s' G' ρ' Z', Fz ρ1 Z1 H1 ρ' Z' H' ∧ Sm T σ' H' s' G' ρ' Z' ∧ RS T W σ' H' ρ' Z' D (forL b.1 g m k i s' G'), ⟨b.2, s, G1, ρ1, Z1, Fz.refl, sm.ex x1 rl1, RS.ex q x1⟩, ?_⟩
      rintro i k σ' H' ⟨s', G', ρ', Z', f', sm', q'⟩
      obtain ⟨io1, io2⟩ := io ρ' Z' G' H' f'.pre f'.fz sm'.rl i
      cases k with
      | zero =>
        unfold forL at q'
        split at q'
        · rename_i hst
          exact .inl ⟨io2 hst, q' σ' H' ρ' Z' Ex.refl sm'⟩
        · exact q'.elim
      | succ k =>
        unfold forL at q'
        split at q'
        · rename_i u hst
          obtain ⟨go, yl⟩ := io1 u hst
          refine .inr ⟨go, fun σ2 H2 => ∃ s2 G2 ρ2 Z2, Fz ρ1 Z1 H1 ρ2 Z2 H2 ∧ Sm T σ2 H2 s2 G2 ρ2 Z2 ∧ RS T W σ2 H2 ρ2 Z2 D (forL b.1 g m k (i + 1) s2 G2), fun σ2 H2 w => ⟨k, Nat.lt_succ_self k, w⟩, fun y H2 hy => ?_⟩
          obtain ⟨x2, rl2, r2⟩ := yl y H2 hy
          have sm2 := sm'.ex x2 rl2
          have q2 := RS.ex (σ' := σ') q' x2
          split at q2
          · rename_i s1 hg1
            refine ⟨s', G', ρ', Z', u, sm2, r2, s1, hg1, fun σ3 f3 _ => ⟨s1, G', ρ', Z', ⟨rl2, f3⟩, ?_⟩⟩
            cases e3 : m s1 G' with
            | nx s3 G3 =>
              rw [e3] at q2
              exact fun σ4 H4 ρ4 Z4 x4 sm4 => ⟨s3, G3, ρ4, Z4, (f'.trans x2.toFz).trans x4.toFz, sm4, RS.ex q2 x4⟩
            | ct s3 G3 =>
              rw [e3] at q2
              exact fun σ4 H4 ρ4 Z4 x4 sm4 => ⟨s3, G3, ρ4, Z4, (f'.trans x2.toFz).trans x4.toFz, sm4, RS.ex q2 x4⟩
            | bk s3 G3 => rw [e3] at q2; exact q2
            | rt u3 G3 => rw [e3] at q2; exact q2
            | exc x3 s3 G3 => rw [e3] at q2; exact q2
            | bad => rw [e3] at q2; exact q2
          · exact q2.elim
        · exact q'.elim

/-! ### while -/
def whileL (c : MT) (body : MS) : Nat → MS
  | 0 => fun _ _ => .bad
  | k + 1 => fun s G => match c s G with
    | .ok true G1 => match body s G1 with
      | .nx s2 G2 => whileL c body k s2 G2
      | .ct s2 G2 => whileL c body k s2 G2
      | .bk s2 G2 => .nx s2 G2
      | r => r
    | .ok false G1 => .nx s G1
    | .exc x G1 => .exc x s G1
    | .bad => .bad
theorem fs_while {n : Nat} (hp : PassesOwn (model X.prog X.w) X.A X.env X.xe) (hc : PT X c (tT T W mc)) (hb : PSs X body (tS T W m)) : PS X (.While c body [] pos) (tS T W (whileL mc m n)) :=
  PS.imp (ps_while hp hc hb) fun D σ H ⟨s, G, ρ, Z, sm, q⟩ => by
    refine ⟨fun k σ' H' => ∃ s' G' ρ' Z', Sm T σ' H' s' G' ρ' Z' ∧ RS T W σ' H' ρ' Z' D (whileL mc m k s' G'), ⟨n, s, G, ρ, Z, sm, q⟩, ?_⟩
    rintro k σ' H' ⟨s', G', ρ', Z', sm', q'⟩
    refine ⟨s', G', ρ', Z', sm', ?_⟩
    cases k with
    | zero => exact q'.elim
    | succ k =>
      unfold whileL at q'
      cases e : mc s' G' with
      | bad => rw [e] at q'; exact q'
      | exc x G1 =>
        rw [e] at q'
        exact fun cls d H' ρ' Z' y rl a => q' cls d σ' H' ρ' Z' y (sm'.ex y rl) a
      | ok t G1 =>
        rw [e] at q'
        intro H1 ρ1 Z1 x1 rl1
        have q1 := RS.ex (σ' := σ') q' x1
        cases t with
        | false =>
          rw [if_neg Bool.false_ne_true]
          exact q1 σ' H1 ρ1 Z1 Ex.refl (sm'.ex x1 rl1)
        | true =>
          rw [if_pos rfl]
          refine ⟨fun σ2 H2 => ∃ s2 G2 ρ2 Z2, Sm T σ2 H2 s2 G2 ρ2 Z2 ∧ RS T W σ2 H2 ρ2 Z2 D (whileL mc m k s2 G2), fun σ2 H2 w => ⟨k, Nat.lt_succ_self k, w⟩, s', G1, ρ1, Z1, sm'.ex x1 rl1, ?_⟩
          simp only at q1
          cases e3 : m s' G1 with
          | nx s3 G3 =>
            rw [e3] at q1
            exact fun σ4 H4 ρ4 Z4 x4 sm4 => ⟨s3, G3, ρ4, Z4, sm4, RS.ex q1 x4⟩
          | ct s3 G3 =>
            rw [e3] at q1
            exact fun σ4 H4 ρ4 Z4 x4 sm4 => ⟨s3, G3, ρ4, Z4, sm4, RS.ex q1 x4⟩
          | bk s3 G3 => rw [e3] at q1; exact q1
          | rt u3 G3 => rw [e3] at q1; exact q1
          | exc x3 s3 G3 => rw [e3] at q1; exact q1
          | bad => rw [e3] at q1; exact q1
end
end FL

/-! FL12: list comprehensions. -/
namespace FL
open PySem L2 PyProof.Rows
def wipeS (s : Sg) : List Nat → Sg
  | [] => s
  | v :: vs => (wipeS s vs).set v none
def compL (b : Itb) (g : MG) (t : MT) (e : ME) (s0 : Sg) : Nat → Nat → List Ob → Option (List U × List Ob)
  | 0, k => fun G => match itAt b G k with
    | some none => some ([], G)
    | _ => none
  | m + 1, k => fun G => match itAt b G k with
    | some (some u) => match g u s0 with
      | some s1 => match t s1 G with
        | .ok true G1 => match e s1 G1 with
          | .ok y G2 => match compL b g t e s0 m (k + 1) G2 with
            | some (r, G3) => some (y :: r, G3)
            | none => none
          | _ => none
        | .ok false G1 => compL b g t e s0 m (k + 1) G1
        | _ => none
      | none => none
    | _ => none
def compE (mu : Bool) : Option (List U × List Ob) → Rs U
  | some (us, G) => newL mu us G
  | none => .bad
def compM (mu : Bool) (it : MI) (g : MG) (t : MT) (e : ME) (own : List Nat) : ME := fun s G => match it s G with
  | .ok b G1 => compE mu (compL b.1 g t e (wipeS s own) b.2 0 G1)
  | .exc x G1 => .exc x G1
  | .bad => .bad
abbrev WF : WX := fun _ _ _ _ => False

theorem set_none_get (σ : L2.St) (v j : Nat) : (σ.set v none)[j]? = if v = j then (σ[j]?).map (fun _ => none) else σ[j]? := by
  by_cases h : v = j
  · subst h
    rw [if_pos rfl, List.getElem?_set]
    by_cases hl : v < σ.length
    · simp [hl]
    · simp [hl]
  · rw [if_neg h, List.getElem?_set_ne h]
theorem wipe_get (σ : L2.St) : ∀ (vs : List Nat) (j : Nat), (wipe σ vs)[j]? = if j ∈ vs then (σ[j]?).map (fun _ => none) else σ[j]?
  | [], j => by simp [wipe]
  | v :: vs, j => by
    show ((wipe σ vs).set v none)[j]? = _
    rw [set_none_get, wipe_get σ vs j]
    by_cases h : v = j
    · subst h
      by_cases h2 : v ∈ vs
      · rw [if_pos rfl, if_pos h2, if_pos List.mem_cons_self]
        cases σ[v]? <;> rfl
      · rw [if_pos rfl, if_neg h2, if_pos List.mem_cons_self]
    · by_cases h2 : j ∈ vs
      · rw [if_neg h, if_pos h2, if_pos (List.mem_cons_of_mem _ h2)]
      · rw [if_neg h, if_neg h2, if_neg (fun z => (List.mem_cons.mp z).elim (fun e => h e.symm) h2)]
theorem wipe_eq {σ σ' : L2.St} {vs ws : List Nat} (hs : ∀ j ∈ ws, j ∈ vs) (st : Stay ws (wipe σ vs) σ') : wipe σ' vs = wipe σ vs := by
  apply List.ext_getElem?
  intro j
  rw [wipe_get, wipe_get]
  by_cases h : j ∈ vs
  · simp only [h, if_true]
    have hl := st.1
    rw [wipe_length] at hl
    by_cases hj : j < σ.length
    · rw [List.getElem?_eq_getElem hj, List.getElem?_eq_getElem (by rw [hl]; exact hj)]; rfl
    · rw [List.getElem?_eq_none_iff.mpr (by omega), List.getElem?_eq_none_iff.mpr (by omega)]
  · simp only [h, if_false]
    rw [st.2 j (fun z => h (hs j z)), wipe_get, if_neg h]
theorem wipeS_get (s : Sg) : ∀ (vs : List Nat) (j : Nat) (u : U), (wipeS s vs)[j]? = some (some u) → s[j]? = some (some u) ∧ j ∉ vs
  | [], j, u, e => ⟨e, by simp⟩
  | v :: vs, j, u, e => by
    have e : ((wipeS s vs).set v none)[j]? = some (some u) := e
    by_cases h : v = j
    · subst h
      rw [List.getElem?_set] at e
      simp at e
    · rw [List.getElem?_set_ne h] at e
      obtain ⟨h1, h2⟩ := wipeS_get s vs j u e
      exact ⟨h1, by simp [Ne.symm h, h2]⟩
theorem wipeS_length (s : Sg) : ∀ vs : List Nat, (wipeS s vs).length = s.length
  | [] => rfl
  | v :: vs => by unfold wipeS; rw [List.length_set, wipeS_length s vs]
section
variable {T : Tb} {ρ ρ1 : List Addr} {Z Z1 : Addr → Prop} {H H1 : Hp} {G : List Ob} {D : Addr}
theorem Fm.wipe {σ : L2.St} {s : Sg} (f : Fm T ρ Z H σ s) (vs : List Nat) : Fm T ρ Z H (L2.wipe σ vs) (wipeS s vs) :=
  ⟨by rw [wipe_length, wipeS_length, f.1], fun i u e => by
    obtain ⟨h1, h2⟩ := wipeS_get s vs i u e
    obtain ⟨v, e1, r⟩ := f.2 i u h1
    exact ⟨v, by rw [wipe_get, if_neg h2]; exact e1, r⟩⟩
/-- the growing list at D is another's cell -/
structure Gr (T : Tb) (ρ : List Addr) (Z : Addr → Prop) (G : List Ob) (H : Hp) (D : Addr) (vs : List V) (acc : List U) : Prop where
  rl : Rl T ρ Z G H
  z : Z D
  n : D ∉ ρ
  at_ : H D = some (.lst vs)
  r : Reps T ρ Z H vs acc
theorem Gr.start (rl : Rl T ρ Z G H) (hD : H D = none) : Gr T ρ (zOr Z D) G (upd H D (.lst [])) D [] [] ∧ Ex ρ Z H ρ (zOr Z D) (upd H D (.lst [])) := by
  have x : Ex ρ Z H ρ (zOr Z D) (upd H D (.lst [])) := ⟨⟨[], by simp⟩, fun a o h z => ⟨by rw [upd_ne (ne_of_none h hD)]; exact h, fun q => q.elim z (ne_of_none h hD)⟩,
    fun a o h z n => ⟨by rw [upd_ne (ne_of_none h hD)]; exact h, .inl z, n⟩, (ex_new (ρ := ρ) (Z := Z) hD).th⟩
  refine ⟨⟨⟨rl.len, rl.nd, fun a z => ?_, fun a h => x.th a (rl.trk a h), fun i a o h g => ObAt.ex rl.zm x (rl.ob i a o h g) (fun u e => by rw [upd_ne (ne_of_none e hD)]; exact e) .inl⟩, .inr rfl, rl.nin hD, upd_same, .nil⟩, x⟩
  rcases z with z | z
  · rw [upd_ne (fun e : a = D => rl.nz hD (e ▸ z))]
    exact rl.zm a z
  · subst z
    rw [upd_same]
    trivial
theorem Gr.ex {ρ' : List Addr} {Z' : Addr → Prop} {H' : Hp} {G' : List Ob} {vs : List V} {acc : List U} (g : Gr T ρ Z G H D vs acc) (x : Ex ρ Z H ρ' Z' H') (rl : Rl T ρ' Z' G' H') : Gr T ρ' Z' G' H' D vs acc := by
  obtain ⟨h1, h2, h3⟩ := x.ou D _ g.at_ g.z g.n
  exact ⟨rl, h2, h3, h1, g.r.ex g.rl.zm x⟩
theorem Gr.more {vs : List V} {acc : List U} {v : V} {u : U} (g : Gr T ρ Z G H D vs acc) (r : Rep T ρ Z H v u) : Gr T ρ Z G (upd H D (.lst (vs ++ [v]))) D (vs ++ [v]) (acc ++ [u]) := by
  have fz : ∀ a o, H a = some o → ¬ Z a → upd H D (.lst (vs ++ [v])) a = some o ∧ ¬ Z a := fun a o h z => ⟨by rw [upd_ne (fun e : a = D => z (e ▸ g.z))]; exact h, z⟩
  refine ⟨⟨g.rl.len, g.rl.nd, fun a z => ?_, fun a h => ?_, fun i a o h gg => ?_⟩, g.z, g.n, upd_same, (g.r.append (.cons r .nil)).exf ⟨[], by simp⟩ fz g.rl.zm⟩
  · by_cases e : a = D
    · subst e; rw [upd_same]; trivial
    · rw [upd_ne e]; exact g.rl.zm a z
  · rw [upd_ne (fun e : a = D => g.n (e ▸ h))]
    exact g.rl.trk a h
  · have hne : a ≠ D := fun e => g.n (e ▸ List.mem_of_getElem? h)
    have ho := g.rl.ob i a o h gg
    cases o with
    | dead => trivial
    | lst us =>
      obtain ⟨z, ws, h1, h2⟩ := ho
      exact ⟨z, ws, by rw [upd_ne hne]; exact h1, h2.exf ⟨[], by simp⟩ fz g.rl.zm⟩
    | dct l =>
      obtain ⟨z, ws, h1, h2⟩ := ho
      exact ⟨z, ws, by rw [upd_ne hne]; exact h1, h2.exf ⟨[], by simp⟩ fz g.rl.zm⟩
    | ins c l =>
      obtain ⟨z, C, dx, ws, h1, h2, h3⟩ := ho
      exact ⟨z, C, dx, ws, by rw [upd_ne hne]; exact h1, h2, h3.exf ⟨[], by simp⟩ fz g.rl.zm⟩
theorem ex_grow {o : HO} (x : Ex ρ1 Z1 H1 ρ Z H) (hD : H1 D = none) : Ex ρ1 Z1 H1 ρ Z (upd H D o) :=
  ⟨x.pre, fun a u h z => ⟨by rw [upd_ne (ne_of_none h hD)]; exact (x.fz a u h z).1, (x.fz a u h z).2⟩, fun a u h z n => ⟨by rw [upd_ne (ne_of_none h hD)]; exact (x.ou a u h z n).1, (x.ou a u h z n).2⟩, fun a h => by
    by_cases e : a = D
    · subst e; rw [upd_same]; exact fun z => by cases z
    · rw [upd_ne e]; exact x.th a h⟩
/-- the list is done: frozen, or a cell -/
theorem Gr.done {W : WX} {σ : L2.St} {mu : Bool} {vs : List V} {acc : List U} {Q : VK} (g : Gr T ρ Z G H D vs acc) (x : Ex ρ1 Z1 H1 ρ Z H) (hD : H1 D = none) (q : RE T W σ H1 ρ1 Z1 Q (newL mu acc G)) : Q (.ref D) H := by
  unfold newL at q
  by_cases hz : acc.length ≤ szL
  · rw [if_pos hz] at q
    cases mu with
    | false =>
      have fz : ∀ a o, H a = some o → ¬ Z a → H a = some o ∧ ¬ (Z a ∧ a ≠ D) := fun a o h z => ⟨h, fun w => z w.1⟩
      refine q _ H ρ (fun a => Z a ∧ a ≠ D) ⟨x.pre, fun a o h z => ⟨(x.fz a o h z).1, fun w => (x.fz a o h z).2 w.1⟩, fun a o h z n => ⟨(x.ou a o h z n).1, ⟨(x.ou a o h z n).2.1, ne_of_none h hD⟩, (x.ou a o h z n).2.2⟩, x.th⟩ ?_ (.lst g.at_ (fun w => w.2 rfl) (g.r.exf ⟨[], by simp⟩ fz g.rl.zm))
      refine ⟨g.rl.len, g.rl.nd, fun a z => g.rl.zm a z.1, g.rl.trk, fun i a o h gg => ?_⟩
      have hne : a ≠ D := fun e => g.n (e ▸ List.mem_of_getElem? h)
      have ho := g.rl.ob i a o h gg
      cases o with
      | dead => trivial
      | lst us =>
        obtain ⟨z, ws, h1, h2⟩ := ho
        exact ⟨⟨z, hne⟩, ws, h1, h2.exf ⟨[], by simp⟩ fz g.rl.zm⟩
      | dct l =>
        obtain ⟨z, ws, h1, h2⟩ := ho
        exact ⟨⟨z, hne⟩, ws, h1, h2.exf ⟨[], by simp⟩ fz g.rl.zm⟩
      | ins c l =>
        obtain ⟨z, C, dx, ws, h1, h2, h3⟩ := ho
        exact ⟨⟨z, hne⟩, C, dx, ws, h1, h2, h3.exf ⟨[], by simp⟩ fz g.rl.zm⟩
    | true =>
      have fz : ∀ a o, H a = some o → ¬ Z a → H a = some o ∧ ¬ Z a := fun a o h z => ⟨h, z⟩
      refine q _ H (ρ ++ [D]) Z ⟨by obtain ⟨t, e⟩ := x.pre; exact ⟨t ++ [D], by rw [e, List.append_assoc]⟩, x.fz, fun a o h z n => ⟨(x.ou a o h z n).1, (x.ou a o h z n).2.1, fun w => by
        rcases List.mem_append.mp w with w | w
        · exact (x.ou a o h z n).2.2 w
        · exact ne_of_none h hD (by simpa using w)⟩, x.th⟩ ?_ (.ref (by rw [List.getElem?_append_right (by rw [g.rl.len]; exact Nat.le_refl _)]; simp [g.rl.len]))
      refine ⟨by rw [List.length_append, List.length_append, g.rl.len]; rfl, ?_, g.rl.zm, fun a h => ?_, fun i a o h gg => ?_⟩
      · rw [List.nodup_append]
        refine ⟨g.rl.nd, by simp, fun a ha b hb => ?_⟩
        have e : b = D := by simpa using hb
        subst e
        exact fun e => g.n (e ▸ ha)
      · rcases List.mem_append.mp h with h | h
        · exact g.rl.trk a h
        · have e : a = D := by simpa using h
          subst e
          rw [g.at_]
          exact fun z => by cases z
      · have up : ∀ {o : Ob}, ObAt T ρ Z H a o → ObAt T (ρ ++ [D]) Z H a o := fun {o} ho => by
          cases o with
          | dead => trivial
          | lst us =>
            obtain ⟨z, ws, h1, h2⟩ := ho
            exact ⟨z, ws, h1, h2.exf ⟨[D], rfl⟩ fz g.rl.zm⟩
          | dct l =>
            obtain ⟨z, ws, h1, h2⟩ := ho
            exact ⟨z, ws, h1, h2.exf ⟨[D], rfl⟩ fz g.rl.zm⟩
          | ins c l =>
            obtain ⟨z, C, dx, ws, h1, h2, h3⟩ := ho
            exact ⟨z, C, dx, ws, h1, h2, h3.exf ⟨[D], rfl⟩ fz g.rl.zm⟩
        by_cases hi : i < ρ.length
        · rw [List.getElem?_append_left hi] at h
          rw [List.getElem?_append_left (by rw [← g.rl.len]; exact hi)] at gg
          exact up (g.rl.ob i a o h gg)
        · have hi2 : i = ρ.length := by
            have := (List.getElem?_eq_some_iff.mp h).1
            simp at this
            omega
          subst hi2
          rw [List.getElem?_append_right (Nat.le_refl _)] at h
          rw [List.getElem?_append_right (by rw [g.rl.len]; exact Nat.le_refl _)] at gg
          simp [g.rl.len] at h gg
          subst h
          subst gg
          exact ⟨g.z, vs, g.at_, g.r.exf ⟨[D], rfl⟩ fz g.rl.zm⟩
  · rw [if_neg hz] at q
    exact q.elim
end
section
variable {X : Cx} {T : Tb} {W : WX} {tg : Expr} {p pos : Pos} {a elt : Expr}
theorem lc_top {it : MI} {g : MG} {ws : List Nat} {t : MT} {e : ME} {mu : Bool} {vs : List Nat} (hs : ∀ j ∈ ws, j ∈ vs) {σ : L2.St} {H : Hp} {Q : VK} (q : tE T W (compM mu it g t e vs) σ H Q) :
    tLc (tI T W it) (tG T ws g) (tT T WF t) (tE T WF e) vs σ H Q := by
  obtain ⟨s, G, ρ, Z, sm, q⟩ := q
  refine ⟨s, G, ρ, Z, sm, ?_⟩
  unfold compM at q
  cases e1 : it s G with
  | bad => rw [e1] at q; exact q
  | exc x G1 => rw [e1] at q; exact q
  | ok b G1 =>
    rw [e1] at q
    intro J H1 ρ1 Z1 x1 rl1 io D hD
    have q1 : RE T W σ H1 ρ1 Z1 Q (compE mu (compL b.1 g t e (wipeS s vs) b.2 0 G1)) := RE.ex q x1
    have f1 := (sm.fm.ex sm.rl.zm x1).wipe vs
    obtain ⟨g0, xs⟩ := Gr.start rl1 hD
    refine ⟨fun i k H' => ∃ ac vac G' ρ' Z', Ex ρ1 Z1 H1 ρ' Z' H' ∧ Gr T ρ' Z' G' H' D vac ac ∧ RE T W σ H1 ρ1 Z1 Q (compE mu ((compL b.1 g t e (wipeS s vs) k i G').map fun z => (ac ++ z.1, z.2))), ⟨b.2, [], [], G1, ρ1, zOr Z1 D, xs, g0, ?_⟩, ?_⟩
    · cases e2 : compL b.1 g t e (wipeS s vs) b.2 0 G1 with
      | none => rw [e2] at q1; exact q1
      | some z => rw [e2] at q1; exact q1
    rintro i k H' ⟨ac, vac, G', ρ', Z', x', g', q'⟩
    obtain ⟨io1, io2⟩ := io ρ' Z' G' H' x'.pre x'.fz g'.rl i
    cases k with
    | zero =>
      unfold compL at q'
      split at q'
      · rename_i hst
        have q2 : RE T W σ H1 ρ1 Z1 Q (newL mu (ac ++ []) G') := q'
        rw [List.append_nil] at q2
        exact .inl ⟨io2 hst, g'.done x' hD q2⟩
      · exact q'.elim
    | succ k =>
      unfold compL at q'
      split at q'
      · rename_i u hst
        obtain ⟨go, yl⟩ := io1 u hst
        refine .inr ⟨go, fun H2 => ∃ ac vac G' ρ' Z', Ex ρ1 Z1 H1 ρ' Z' H2 ∧ Gr T ρ' Z' G' H2 D vac ac ∧ RE T W σ H1 ρ1 Z1 Q (compE mu ((compL b.1 g t e (wipeS s vs) k (i + 1) G').map fun z => (ac ++ z.1, z.2))), fun H2 w => ⟨k, Nat.lt_succ_self k, w⟩, fun y H2 hy => ?_⟩
        obtain ⟨x2, rl2, r2⟩ := yl y H2 hy
        have g2 := g'.ex x2 rl2
        have f2 : Fm T ρ' Z' H2 (wipe σ vs) (wipeS s vs) := ⟨f1.1, fun j w ew => let ⟨v, ev, rv⟩ := f1.2 j w ew; ⟨v, ev, rv.exf (x'.trans x2).pre (x'.trans x2).fz rl1.zm⟩⟩
        split at q'
        · rename_i s1 hg1
          refine ⟨wipeS s vs, G', ρ', Z', u, ⟨rl2, f2⟩, r2, s1, hg1, fun σ3 f3 st3 => ⟨wipe_eq hs st3, s1, G', ρ', Z', ⟨rl2, f3⟩, ?_⟩⟩
          split at q'
          · rename_i G3 et
            rw [et]
            intro H3 ρ3 Z3 x3 rl3
            have g3 := g2.ex x3 rl3
            rw [if_pos rfl]
            have sm3 : Sm T σ3 H3 s1 G3 ρ3 Z3 := ⟨rl3, f3.ex rl2.zm x3⟩
            refine ⟨s1, G3, ρ3, Z3, sm3, ?_⟩
            split at q'
            · rename_i y4 G4 ee
              rw [ee]
              intro v H4 ρ4 Z4 x4 rl4 r4
              have g4 := g3.ex x4 rl4
              cases e5 : compL b.1 g t e (wipeS s vs) k (i + 1) G4 with
              | none => rw [e5] at q'; exact q'.elim
              | some z =>
                rw [e5] at q'
                have q5 : RE T W σ H1 ρ1 Z1 Q (newL mu (ac ++ (y4 :: z.1)) z.2) := q'
                have hlen : ac.length < szL := by
                  by_cases hz : (ac ++ (y4 :: z.1)).length ≤ szL
                  · simp at hz; omega
                  · unfold newL at q5; rw [if_neg hz] at q5; exact q5.elim
                refine ⟨vac, g4.at_, by rw [g4.r.length, szL_eq]; exact hlen, ac ++ [y4], vac ++ [v], G4, ρ4, Z4, ex_grow (((x'.trans x2).trans x3).trans x4) hD, g4.more r4, ?_⟩
                rw [e5]
                show RE T W σ H1 ρ1 Z1 Q (newL mu ((ac ++ [y4]) ++ z.1) z.2)
                rw [List.append_assoc]
                exact q5
            · exact q'.elim
          · rename_i G3 et
            rw [et]
            intro H3 ρ3 Z3 x3 rl3
            rw [if_neg Bool.false_ne_true]
            exact ⟨ac, vac, G3, ρ3, Z3, (x'.trans x2).trans x3, g2.ex x3 rl3, q'⟩
          · exact q'.elim
        · exact q'.elim
      · exact q'.elim
theorem fe_lc {ifs : List Expr} {scope : Scope} {own : List (Str × Nat)} {it : MI} {g : MG} {ws : List Nat} {t : MT} {e : ME} {mu : Bool} (hc : X.calm = true) (hN : X.N.Nodup) (hi : PI X tg a (tI T W it)) (ok : BlkOk X.N X.env.scope scope own) (hs : ∀ j ∈ ws, j ∈ own.map (·.2))
    (hg : ∀ (s : Shared) (H : Hp) (C : Addr) (cl : List (Str × Addr)) (fp : List Addr), PG (X.blk s H scope (compEnvC scope cl C X.env) fp) tg (tG T ws g)) (ht : ∀ (s : Shared) (H : Hp) (C : Addr) (cl : List (Str × Addr)) (fp : List Addr), PTs (X.blk s H scope (compEnvC scope cl C X.env) fp) ifs (tT T WF t))
    (he : ∀ (s : Shared) (H : Hp) (C : Addr) (cl : List (Str × Addr)) (fp : List Addr), PE (X.blk s H scope (compEnvC scope cl C X.env) fp) elt (tE T WF e)) (hf : noSet a = true) :
    PE X (.ListComp elt [⟨tg, a, ifs, 0⟩] scope pos) (tE T W (compM mu it g t e (own.map (·.2)))) :=
  PE.imp (pe_lc hc hN hi ok hg ht he (folded_no hf)) fun _ _ _ q => lc_top hs q
theorem fs_setLc {i : Nat} {y : Str} {py spos : Pos} {ifs : List Expr} {scope : Scope} {own : List (Str × Nat)} {it : MI} {g : MG} {ws : List Nat} {t : MT} {e : ME} {mu : Bool} (hc : X.calm = true) (hN : X.N.Nodup) (hy : X.N[i]? = some y) (hyl : X.env.scope.names.lookup y = some .local)
    (hsw : swapsWith (.ListComp elt [⟨tg, a, ifs, 0⟩] scope pos) (some (.Name y py)) spos.line X.env = pure true) (hi : PI X tg a (tI T W it)) (ok : BlkOk X.N X.env.scope scope own) (hs : ∀ j ∈ ws, j ∈ own.map (·.2))
    (hg : ∀ (s : Shared) (H : Hp) (C : Addr) (cl : List (Str × Addr)) (fp : List Addr), PG (X.blk s H scope (compEnvC scope cl C X.env) fp) tg (tG T ws g)) (ht : ∀ (s : Shared) (H : Hp) (C : Addr) (cl : List (Str × Addr)) (fp : List Addr), PTs (X.blk s H scope (compEnvC scope cl C X.env) fp) ifs (tT T WF t))
    (he : ∀ (s : Shared) (H : Hp) (C : Addr) (cl : List (Str × Addr)) (fp : List Addr), PE (X.blk s H scope (compEnvC scope cl C X.env) fp) elt (tE T WF e)) (hf : noSet a = true) :
    PS X (.Assign [.Name y py] (.ListComp elt [⟨tg, a, ifs, 0⟩] scope pos) spos) (tS T W (stE (compM mu it g t e (own.map (·.2))) (setM i))) :=
  PS.imp (ps_setLc hc hN hy hyl hsw hi ok hg ht he (folded_no hf)) fun D σ H q => lc_top hs (stE_imp q fun u s G v H' ρ' Z' sm r q => q _ H' ρ' Z' Ex.refl ⟨sm.rl, sm.fm.set r⟩)
def yesT : MT := fun _ G => .ok true G
theorem ft_nil : PTs X [] (tT T WF yesT) := ⟨fun pins s σ H Q I ⟨s', G, ρ, Z, sm, q⟩ => pts_nil.run pins s σ H Q I (q H ρ Z Ex.refl sm.rl)⟩
theorem ft_one {c : Expr} {t : MT} (h : PT X c (tT T WF t)) : PTs X [c] (tT T WF t) := pts_one h
end
end FL

/-! FL13: stores; isinstance; own ==; classes made with keywords. -/
namespace FL
open PySem L2 PyProof.Rows
section
variable {X : Cx} {T : Tb} {W : WX} {p pos apos : Pos} {a e o i : Expr} {es : List Expr} {ma mo mi : ME} {mas mks : MA} {k : Nat}
/-! ### o.f = e -/
def putU (f : Nat) (v : U) : List (Nat × U) → List (Nat × U)
  | [] => [(f, v)]
  | (g, x) :: r => if g = f then (g, v) :: r else (g, x) :: putU f v r
theorem repF_put {ρ : List Addr} {Z : Addr → Prop} {H : Hp} {kf : Nat} {f : Str} {v : V} {u : U} (hat : AttOk T) (hf : T.att[kf]? = some f) (r : Rep T ρ Z H v u) : ∀ {fv : List (Str × V)} {l : List (Nat × U)}, RepF T ρ Z H fv l → RepF T ρ Z H (putF f v fv) (putU kf u l)
  | _, _, .nil => .cons hf r .nil
  | _, _, .cons (f := g) (k := j) e q t => by
    by_cases h : j = kf
    · subst h
      rw [hf] at e
      cases e
      show RepF T ρ Z H (if f = f then (f, v) :: _ else _) (if j = j then (j, u) :: _ else _)
      rw [if_pos rfl, if_pos rfl]
      exact .cons hf r t
    · have hg : g ≠ f := fun z => by subst z; exact h (hat _ _ _ e hf)
      show RepF T ρ Z H (if g = f then _ else (g, _) :: putF f v _) (if j = kf then _ else (j, _) :: putU kf u _)
      rw [if_neg hg, if_neg h]
      exact .cons e q (repF_put hat hf r t)
theorem RepF.length {ρ : List Addr} {Z : Addr → Prop} {H : Hp} : ∀ {fv : List (Str × V)} {l : List (Nat × U)}, RepF T ρ Z H fv l → fv.length = l.length
  | _, _, .nil => rfl
  | _, _, .cons _ _ t => congrArg (· + 1) (RepF.length t)
/-- the value, then the receiver, then the store -/
def stE2 (mv mo : ME) (f : U → U → MS) : MS := fun s G => match mv s G with
  | .ok y G1 => match mo s G1 with
    | .ok o G2 => f y o s G2
    | .exc x G2 => .exc x s G2
    | .bad => .bad
  | .exc x G1 => .exc x s G1
  | .bad => .bad
def fldM (ok : Nat → Bool) (kf : Nat) : U → U → MS := fun y o s G => match o with
  | .ref i => match G[i]? with
    | some (.ins c l) => if ok c = true ∧ l.length < 1000 then .nx s (G.set i (.ins c (putU kf y l))) else .bad
    | _ => .bad
  | _ => .bad
theorem stE2_imp {mv mo : ME} {f : U → U → MS} {σ : L2.St} {H : Hp} {D : Ends} {k : V → V → Hp → Prop} (q : tS T W (stE2 mv mo f) D σ H)
    (hk : ∀ y o s G v w H' ρ' Z', Sm T σ H' s G ρ' Z' → Rep T ρ' Z' H' v y → Rep T ρ' Z' H' w o → RS T W σ H' ρ' Z' D (f y o s G) → k v w H') : tE T W mv σ H fun v H1 => tE T W mo σ H1 fun w H2 => k v w H2 := by
  obtain ⟨s, G, ρ, Z, sm, q⟩ := q
  refine ⟨s, G, ρ, Z, sm, ?_⟩
  unfold stE2 at q
  cases e : mv s G with
  | bad => rw [e] at q; exact q
  | exc x G1 =>
    rw [e] at q
    exact fun cls d H' ρ' Z' y rl a => q cls d σ H' ρ' Z' y (sm.ex y rl) a
  | ok y G1 =>
    rw [e] at q
    intro v H1 ρ1 Z1 x1 rl1 r1
    have sm1 := sm.ex x1 rl1
    have q1 := RS.ex (σ' := σ) q x1
    refine ⟨s, G1, ρ1, Z1, sm1, ?_⟩
    cases e2 : mo s G1 with
    | bad => simp only [e2] at q1; exact q1
    | exc x G2 =>
      simp only [e2] at q1
      exact fun cls d H' ρ' Z' y rl a => q1 cls d σ H' ρ' Z' y (sm1.ex y rl) a
    | ok o G2 =>
      simp only [e2] at q1
      exact fun w H2 ρ2 Z2 x2 rl2 r2 => hk y o s G2 v w H2 ρ2 Z2 (sm1.ex x2 rl2) (r1.ex rl1.zm x2) r2 (RS.ex q1 x2)
theorem fs_fld {f : Str} {kf : Nat} {ok : Nat → Bool} {pos' : Pos} (hat : AttOk T) (hf : T.att[kf]? = some f) (hok : ∀ c, ok c = true → FldOk X.K T c f) (ho : PE X o (tE T W mo)) (hv : PE X e (tE T W ma)) : PS X (.Assign [.Attribute o f pos'] e pos) (tS T W (stE2 ma mo (fldM ok kf))) :=
  PS.imp (ps_fld ho hv (swaps_other rfl)) fun D σ H q => stE2_imp q fun y o s G v w H' ρ' Z' sm r1 r2 q => by
    unfold fldM at q
    split at q
    · rename_i i
      split at q
      · rename_i c l g
        by_cases z : ok c = true ∧ l.length < 1000
        · rw [if_pos z] at q
          obtain ⟨b, ew, hb⟩ := r2.inv_ref
          obtain ⟨zb, C, dx, fv, h2, h3, h4⟩ := sm.rl.ob i b _ hb g
          obtain ⟨C', g1, g2, g3⟩ := (hok c z.1).cl
          have eC : C = C' := by rw [h3] at g1; exact Option.some.inj g1
          subst eC
          refine ⟨b, C, dx, fv, ew, h2, g2, g3, by rw [h4.length]; exact z.2, ?_⟩
          have hm : b ∈ ρ' := List.mem_of_getElem? hb
          refine q σ _ ρ' Z' (ex_set hm zb) ⟨sm.rl.set hb zb trivial ⟨zb, C, dx, _, upd_same, h3, (repF_put hat hf r1 h4).ex sm.rl.zm (ex_set hm zb)⟩, sm.fm.ex sm.rl.zm (ex_set hm zb)⟩
        · rw [if_neg z] at q
          exact q.elim
      · exact q.elim
    · exact q.elim

/-! ### xs[i] = e -/
def stE3 (mv mo mi : ME) (f : U → U → U → MS) : MS := fun s G => match mv s G with
  | .ok y G1 => match mo s G1 with
    | .ok o G2 => match mi s G2 with
      | .ok i G3 => f y o i s G3
      | .exc x G3 => .exc x s G3
      | .bad => .bad
    | .exc x G2 => .exc x s G2
    | .bad => .bad
  | .exc x G1 => .exc x s G1
  | .bad => .bad
theorem stE3_imp {mv mo mi : ME} {f : U → U → U → MS} {σ : L2.St} {H : Hp} {D : Ends} {k : V → V → V → Hp → Prop} (q : tS T W (stE3 mv mo mi f) D σ H)
    (hk : ∀ y o i s G v w j H' ρ' Z', Sm T σ H' s G ρ' Z' → Rep T ρ' Z' H' v y → Rep T ρ' Z' H' w o → Rep T ρ' Z' H' j i → RS T W σ H' ρ' Z' D (f y o i s G) → k v w j H') : tE T W mv σ H fun v H1 => tE T W mo σ H1 fun w H2 => tE T W mi σ H2 fun j H3 => k v w j H3 := by
  obtain ⟨s, G, ρ, Z, sm, q⟩ := q
  refine ⟨s, G, ρ, Z, sm, ?_⟩
  unfold stE3 at q
  cases e : mv s G with
  | bad => rw [e] at q; exact q
  | exc x G1 =>
    rw [e] at q
    exact fun cls d H' ρ' Z' y rl a => q cls d σ H' ρ' Z' y (sm.ex y rl) a
  | ok y G1 =>
    rw [e] at q
    intro v H1 ρ1 Z1 x1 rl1 r1
    have sm1 := sm.ex x1 rl1
    have q1 := RS.ex (σ' := σ) q x1
    refine ⟨s, G1, ρ1, Z1, sm1, ?_⟩
    cases e2 : mo s G1 with
    | bad => simp only [e2] at q1; exact q1
    | exc x G2 =>
      simp only [e2] at q1
      exact fun cls d H' ρ' Z' y rl a => q1 cls d σ H' ρ' Z' y (sm1.ex y rl) a
    | ok o G2 =>
      simp only [e2] at q1
      intro w H2 ρ2 Z2 x2 rl2 r2
      have sm2 := sm1.ex x2 rl2
      have q2 := RS.ex (σ' := σ) q1 x2
      refine ⟨s, G2, ρ2, Z2, sm2, ?_⟩
      cases e3 : mi s G2 with
      | bad => simp only [e3] at q2; exact q2
      | exc x G3 =>
        simp only [e3] at q2
        exact fun cls d H' ρ' Z' y rl a => q2 cls d σ H' ρ' Z' y (sm2.ex y rl) a
      | ok i G3 =>
        simp only [e3] at q2
        exact fun j H3 ρ3 Z3 x3 rl3 r3 => hk y o i s G3 v w j H3 ρ3 Z3 (sm2.ex x3 rl3) ((r1.ex rl1.zm x2).ex rl2.zm x3) (r2.ex rl2.zm x3) r3 (RS.ex q2 x3)
/-! keys of a dict -/
def keyEq : U → U → Bool
  | .int a, .int b => a == b
  | .str a, .str b => a == b
  | _, _ => false
def keyB : U → Bool
  | .int _ => true
  | .str _ => true
  | _ => false
def putD (l : List (U × U)) (k v : U) : List (U × U) := if (l.any fun p => keyEq p.1 k) = true then l.map (fun p => if keyEq p.1 k = true then (p.1, v) else p) else l ++ [(k, v)]
theorem keyEq_U : ∀ k k' : Key, keyEq (keyU k) (keyU k') = decide (k = k')
  | .inl i, .inl j => by by_cases e : i = j <;> simp [keyEq, keyU, e]
  | .inl i, .inr y => by simp [keyEq, keyU]
  | .inr x, .inl j => by simp [keyEq, keyU]
  | .inr x, .inr y => by
    simp only [keyEq, keyU]
    rw [PyProof.Rows.toList_beq]
    by_cases e : x = y
    · subst e; simp
    · have h1 : (x == y) = false := by simpa using e
      simp [h1, e]
section
variable {ρ : List Addr} {Z : Addr → Prop} {H : Hp} {G : List Ob}
theorem key_of {v : V} {u : U} (r : Rep T ρ Z H v u) (h : keyB u = true) : ∃ k, v = kV k ∧ u = keyU k := by
  cases r with
  | int i => exact ⟨.inl i, rfl, rfl⟩
  | str x => exact ⟨.inr x, rfl, rfl⟩
  | _ => cases h
theorem repk_any {k : Key} : ∀ {kvs : List (Key × V)} {l : List (U × U)}, RepK T ρ Z H kvs l → (l.any fun p => keyEq p.1 (keyU k)) = kvs.any fun kv => decide (kv.1 = k)
  | _, _, .nil => rfl
  | _, _, .cons (k := k') r t => by rw [List.any_cons, List.any_cons, repk_any t, keyEq_U]
theorem repk_mp {k : Key} {v : V} {u : U} (rv : Rep T ρ Z H v u) : ∀ {kvs : List (Key × V)} {l : List (U × U)}, RepK T ρ Z H kvs l → RepK T ρ Z H (kvs.map fun kv => if kv.1 = k then (kv.1, v) else kv) (l.map fun p => if keyEq p.1 (keyU k) = true then (p.1, u) else p)
  | _, _, .nil => .nil
  | _, _, .cons (k := k') r t => by
    rw [List.map_cons, List.map_cons]
    simp only [keyEq_U]
    by_cases e : k' = k
    · rw [if_pos e, if_pos (by simpa using e)]
      exact .cons rv (repk_mp rv t)
    · rw [if_neg e, if_neg (by simpa using e)]
      exact .cons r (repk_mp rv t)
theorem repk_app {kvs' : List (Key × V)} {l' : List (U × U)} (q : RepK T ρ Z H kvs' l') : ∀ {kvs : List (Key × V)} {l : List (U × U)}, RepK T ρ Z H kvs l → RepK T ρ Z H (kvs ++ kvs') (l ++ l')
  | _, _, .nil => q
  | _, _, .cons r t => .cons r (repk_app q t)
theorem repk_len : ∀ {kvs : List (Key × V)} {l : List (U × U)}, RepK T ρ Z H kvs l → kvs.length = l.length
  | _, _, .nil => rfl
  | _, _, .cons r t => congrArg (· + 1) (repk_len t)
theorem repk_put {k : Key} {v : V} {u : U} {kvs : List (Key × V)} {l : List (U × U)} (q : RepK T ρ Z H kvs l) (rv : Rep T ρ Z H v u) : RepK T ρ Z H (putK kvs k v) (putD l (keyU k) u) := by
  unfold putK putD
  rw [repk_any q]
  by_cases h : (kvs.any fun kv => decide (kv.1 = k)) = true
  · rw [if_pos h, if_pos h]; exact repk_mp rv q
  · rw [if_neg h, if_neg h]; exact repk_app (.cons rv .nil) q
theorem cell_dct {u : U} {v : V} {i : Nat} {l : List (U × U)} (rl : Rl T ρ Z G H) (r : Rep T ρ Z H v (.ref i)) (g : G[i]? = some (.dct l)) : ∃ a kvs, v = .ref a ∧ ρ[i]? = some a ∧ Z a ∧ H a = some (.dK kvs) ∧ RepK T ρ Z H kvs l := by
  obtain ⟨a, ev, h⟩ := r.inv_ref
  obtain ⟨z, kvs, h2, h3⟩ := rl.ob i a _ h g
  exact ⟨a, kvs, ev, h, z, h2, h3⟩
end
theorem PSet.or {t t' : TSet} (h : PSet X t) (h' : PSet X t') : PSet X (fun o i v H Q => t o i v H Q ∨ t' o i v H Q) := fun pins s σ H o i v ov iv u Q I r1 r2 r3 q => q.elim (h pins s σ H o i v ov iv u Q I r1 r2 r3) (h' pins s σ H o i v ov iv u Q I r1 r2 r3)
def itemM : U → U → U → MS := fun y o i s G => match o, i with
  | .ref j, i => match G[j]? with
    | some (.lst l) => (match i with
      | .int n => (match ixN l.length n with
        | some m => .nx s (G.set j (.lst (l.set m y)))
        | none => .bad)
      | _ => .bad)
    | some (.dct l) => if keyB i = true ∧ l.length < szL then .nx s (G.set j (.dct (putD l i y))) else .bad
    | _ => .bad
  | _, _ => .bad
theorem sub_eval {o i : Expr} {pos : Pos} {env : Env} (h : noSlice i = true) (v : Value) : assign (.Subscript o i pos) env v = (do
      let ov ← holding [v] (eval o env)
      let iv ← holding [v, ov] (eval i env)
      standAt pos
      holding [v, ov, iv] (setItem ov iv v)
      release [v, ov, iv] []) := by
  cases i <;> first | rfl | (simp [noSlice] at h)
theorem fs_item {pos' : Pos} (hu : X.A.units + 1 < cLine) (hns : noSlice i = true) (ho : PE X o (tE T W mo)) (hi : PE X i (tE T W mi)) (hv : PE X e (tE T W ma)) : PS X (.Assign [.Subscript o i pos'] e pos) (tS T W (stE3 ma mo mi itemM)) :=
  PS.imp (ps_asg hv (pg_sub ho hi (PSet.or set_list (set_dict hu)) (sub_eval hns)) (swaps_sole rfl) (swapped_no rfl) (assign_one rfl)) fun D σ H q => stE3_imp q fun y o ii s G v w j H' ρ' Z' sm r1 r2 r3 q => by
    unfold itemM at q
    split at q
    · rename_i jj
      split at q
      · rename_i l g
        split at q
        · rename_i n
          split at q
          · rename_i m hm
            obtain ⟨b, ws, rfl, hb, zb, hl, rw'⟩ := cell_lst (u := .ref jj) sm.rl r2 g
            have hmem : b ∈ ρ' := List.mem_of_getElem? hb
            refine .inl ⟨b, ws, n, m, rfl, r3.inv_int, hl, by rw [rw'.length]; exact hm, ?_⟩
            exact q σ _ ρ' Z' (ex_set hmem zb) ⟨set_lst (l := l) sm.rl hb zb (rw'.set r1 m), sm.fm.ex sm.rl.zm (ex_set hmem zb)⟩
          · exact q.elim
        · exact q.elim
      · rename_i l g
        by_cases hz : keyB ii = true ∧ l.length < szL
        · rw [if_pos hz] at q
          obtain ⟨b, kvs, rfl, hb, zb, hl, rw'⟩ := cell_dct (u := .ref jj) sm.rl r2 g
          obtain ⟨k, rfl, rfl⟩ := key_of r3 hz.1
          have hmem : b ∈ ρ' := List.mem_of_getElem? hb
          refine .inr ⟨b, _, rfl, DPut.k hl (by rw [repk_len rw', szL_eq]; exact hz.2), ?_⟩
          exact q σ _ ρ' Z' (ex_set hmem zb) ⟨sm.rl.set hb zb trivial ⟨zb, _, upd_same, (repk_put rw' r1).ex sm.rl.zm (ex_set hmem zb)⟩, sm.fm.ex sm.rl.zm (ex_set hmem zb)⟩
        · rw [if_neg hz] at q
          exact q.elim
      · exact q.elim
    · exact q.elim

/-! ### isinstance -/
inductive Ty where
  | non | bl | int | str | lst | tup | dct
  deriving DecidableEq
def Ty.name : Ty → String
  | .non => "NoneType" | .bl => "bool" | .int => "int" | .str => "str" | .lst => "list" | .tup => "tuple" | .dct => "dict"
def Ty.sub (a b : Ty) : Bool := decide (a = b) || (decide (a = .bl) && decide (b = .int))
theorem kit_sub (a b : Ty) (h : b ≠ .non) : kitB a.name b.name = some (a.sub b) := by
  cases b <;> first | exact absurd rfl h | (cases a <;> decide +kernel)
/-- a value's type: built in, or the class of an instance -/
def tyOf (G : List Ob) : U → Option (Ty ⊕ Nat)
  | .non => some (.inl .non)
  | .bl _ => some (.inl .bl)
  | .int _ => some (.inl .int)
  | .str _ => some (.inl .str)
  | .lst _ => some (.inl .lst)
  | .tup _ => some (.inl .tup)
  | .dct _ => some (.inl .dct)
  | .sc _ => none
  | .ins c _ => some (.inr c)
  | .ref i => match G[i]? with
    | some (.lst _) => some (.inl .lst)
    | some (.dct _) => some (.inl .dct)
    | some (.ins c _) => some (.inr c)
    | _ => none
/-- the facts of a class for isinstance -/
structure InsT (K : PySem.W.Frag) (C : Addr) : Prop where
  cl : Cls K C
  ha : PySem.W.findIn K (.ref C) "__class__" = some (some (.builtin "object.__class__"))
  hn : PySem.W.specialIn K (.builtin "object.__class__") "__get__" = some (some (.builtin "getset_descriptor.__get__"))
  htk : PySem.W.takesIn K (.builtin "object.__class__") = some true
  hm : PySem.W.mroIn K C (.type "object") = some true
theorem ty_at {H : Hp} {ρ : List Addr} {Z : Addr → Prop} {G : List Ob} {v : V} {u : U} (rl : Rl T ρ Z G H) (r : Rep T ρ Z H v u) : (∀ t, tyOf G u = some (.inl t) → TyX T.K H v (.type t.name)) ∧ ∀ c, tyOf G u = some (.inr c) → ∃ C, T.cls[c]? = some C ∧ (InsT T.K C → TyX T.K H v (.ref C)) := by
  constructor
  · intro t e
    cases u with
    | non => cases e; rw [r.inv_non]; exact .base .non
    | bl b => cases e; rw [r.inv_bl]; exact .base (.bl b)
    | int b => cases e; rw [r.inv_int]; exact .base (.int b)
    | str b => cases e; rw [r.inv_str]; exact .base (.str _)
    | lst l =>
      cases e
      obtain ⟨a, vs, rfl, h, _, _⟩ := r.inv_lst
      exact .base (.lst h)
    | tup l =>
      cases e
      obtain ⟨a, vs, rfl, h, _⟩ := r.inv_tup
      rcases h with (h | ⟨o, h⟩) | ⟨o, its, n, hk, hc, _⟩
      · exact .base (.tup h)
      · exact .fTuple h
      · exact .kTuple hk hc
    | dct l =>
      cases e
      cases r with
      | dct h z q => exact .base (.dK h)
    | sc l => cases e
    | ins c l => cases e
    | ref i =>
      obtain ⟨a, rfl, h⟩ := r.inv_ref
      simp only [tyOf] at e
      cases g : G[i]? with
      | none => rw [g] at e; cases e
      | some ob =>
        rw [g] at e
        cases ob with
        | dead => cases e
        | lst l =>
          cases e
          obtain ⟨_, vs, h2, _⟩ := rl.ob i a _ h g
          exact .base (.lst h2)
        | dct l =>
          cases e
          obtain ⟨_, vs, h2, _⟩ := rl.ob i a _ h g
          exact .base (.dK h2)
        | ins c l => cases e
  · intro c e
    cases u with
    | ins c' l =>
      cases e
      cases r with
      | ins h z hc q => exact ⟨_, hc, fun it => .base (.ins h it.cl it.ha it.hn it.htk it.hm)⟩
    | ref i =>
      obtain ⟨a, rfl, h⟩ := r.inv_ref
      simp only [tyOf] at e
      cases g : G[i]? with
      | none => rw [g] at e; cases e
      | some ob =>
        rw [g] at e
        cases ob with
        | ins c' l =>
          cases e
          obtain ⟨_, C, dx, fv, h2, h3, _⟩ := rl.ob i a _ h g
          exact ⟨C, h3, fun it => .base (.ins h2 it.cl it.ha it.hn it.htk it.hm)⟩
        | _ => cases e
    | _ => cases e
def isiM (cls : List Nat) (t : Ty ⊕ Nat) (m : ME) : ME := fun s G => (m s G).bind fun u G1 => match tyOf G1 u, t with
  | some (.inl a), .inl b => if b ≠ .non then .ok (.bl (a.sub b)) G1 else .bad
  | some (.inl _), .inr c => if c ∈ cls then .ok (.bl false) G1 else .bad
  | some (.inr c), .inl b => if c ∈ cls ∧ b ≠ .non then .ok (.bl false) G1 else .bad
  | some (.inr c), .inr c' => if c ∈ cls ∧ c' ∈ cls then .ok (.bl (decide (c = c'))) G1 else .bad
  | none, _ => .bad
structure IsiOk (K : PySem.W.Frag) (T : Tb) (cls : List Nat) : Prop where
  ins : ∀ c ∈ cls, ∀ C, T.cls[c]? = some C → InsT K C
  cb : ∀ c ∈ cls, ∀ C, T.cls[c]? = some C → ∀ b : Ty, b ≠ .non → PySem.W.kitOne K (.ref C) (.type b.name) = some false
  bc : ∀ c ∈ cls, ∀ C, T.cls[c]? = some C → ∀ b : Ty, PySem.W.kitOne K (.type b.name) (.ref C) = some false
  cc : ∀ c ∈ cls, ∀ c' ∈ cls, ∀ C C', T.cls[c]? = some C → T.cls[c']? = some C' → PySem.W.kitOne K (.ref C) (.ref C') = some (decide (c = c'))
/-- what the second argument names -/
def NamesTy (X : Cx) (T : Tb) (n : Str) : Ty ⊕ Nat → Prop
  | .inl b => X.mg n = none ∧ bootBuiltins n = some (.type b.name) ∧ n ≠ "__name__"
  | .inr c => ∃ C, T.cls[c]? = some C ∧ X.mg n = some (.ref C)
theorem fe_isi {cls : List Nat} {t : Ty ⊕ Nat} {n x : Str} {np : Pos} (hT : X.K = T.K) (I : IsiOk T.K T cls) (hx : x = ("isinstance" : Str)) (hg : Gl X x) (hm : X.mg x = none) (hgn : Gl X n) (hn : NamesTy X T n t) (hdb : (n == ("__debug__" : Str)) = false) (ha : PE X a (tE T W ma)) (h1 : noStar a = true) :
    PE X (.Call (.Name x p) [a, .Name n np] [] pos) (tE T W (isiM cls t ma)) := by
  subst hx
  have hv : bootBuiltins ("isinstance" : Str) = some (.builtin "isinstance") := by decide +kernel
  -- the class as a value
  have hc : ∃ (c : V) (u : Value), PE X (.Name n np) (tC c) ∧ ClsV c u ∧ (match t with | .inl b => u = .type b.name | .inr c' => ∃ C, T.cls[c']? = some C ∧ u = .ref C) := by
    cases t with
    | inl b =>
      obtain ⟨q1, q2, q3⟩ := hn
      exact ⟨.ty b.name, .type b.name, pe_bltn hgn q1 q2 rfl q3 hdb, .ty _, rfl⟩
    | inr c =>
      obtain ⟨C, q1, q2⟩ := hn
      exact ⟨.ref C, .ref C, pe_glob hgn q2 rfl hdb, .own C, C, q1, rfl⟩
  obtain ⟨c, cu, pc, ck, ct⟩ := hc
  refine PE.imp (pe_callB call_isi hg hm hv (pa_cons ha (pa_cons pc pa_nil rfl) (star_cons h1)) (by decide) (by decide) (star_cons h1) rfl) fun σ H Q ⟨s, G, ρ, Z, sm, q⟩ => ?_
  refine tE_bind sm q fun u G1 v H1 ρ1 Z1 x1 sm1 r1 q1 => ?_
  show ∃ (x c' : V) (t' u' : Value) (b : Bool), [v, c] = [x, c'] ∧ ClsV c' u' ∧ TyX X.K H1 x t' ∧ PySem.W.kitOne X.K t' u' = some b ∧ Q (.bl b) H1
  obtain ⟨t1, t2⟩ := ty_at sm1.rl r1
  rw [hT]
  split at q1
  · rename_i a' b e1 _
    by_cases z : b ≠ .non
    · rw [if_pos z] at q1
      subst ct
      exact ⟨v, c, _, _, _, rfl, ck, t1 _ e1, kit_ty (kit_sub a' b z), q1 _ H1 ρ1 Z1 Ex.refl sm1.rl (.bl _)⟩
    · rw [if_neg z] at q1
      exact q1.elim
  · rename_i a' c' e1 _
    by_cases z : c' ∈ cls
    · rw [if_pos z] at q1
      obtain ⟨C, h1, rfl⟩ := ct
      exact ⟨v, c, _, _, _, rfl, ck, t1 _ e1, I.bc c' z C h1 a', q1 _ H1 ρ1 Z1 Ex.refl sm1.rl (.bl _)⟩
    · rw [if_neg z] at q1
      exact q1.elim
  · rename_i c' b e1 _
    by_cases z : c' ∈ cls ∧ b ≠ .non
    · rw [if_pos z] at q1
      subst ct
      obtain ⟨C, h1, h2⟩ := t2 _ e1
      exact ⟨v, c, _, _, _, rfl, ck, h2 (I.ins c' z.1 C h1), I.cb c' z.1 C h1 b z.2, q1 _ H1 ρ1 Z1 Ex.refl sm1.rl (.bl _)⟩
    · rw [if_neg z] at q1
      exact q1.elim
  · rename_i c1 c2 e1 _
    by_cases z : c1 ∈ cls ∧ c2 ∈ cls
    · rw [if_pos z] at q1
      obtain ⟨C2, g1, rfl⟩ := ct
      obtain ⟨C, h1, h2⟩ := t2 _ e1
      exact ⟨v, c, _, _, _, rfl, ck, h2 (I.ins c1 z.1 C h1), I.cc c1 z.1 c2 z.2 C C2 h1 g1, q1 _ H1 ρ1 Z1 Ex.refl sm1.rl (.bl _)⟩
    · rw [if_neg z] at q1
      exact q1.elim
  · exact q1.elim
end
end FL

/-! FL14: classes made with keywords; own == and !=; int of a text. -/
namespace FL
open PySem L2 PyProof.Rows
section
variable {X : Cx} {T : Tb} {W : WX} {p pos apos : Pos} {a e o i : Expr} {es : List Expr} {ma mo mi : ME} {mas mks : MA} {k n : Nat} {C f : Addr} {x : Str} {r : RunD}
/-! ### C(e, .., k = v, ..) -/
def kwName (k : Keyword) : Option Str := match k with
  | ⟨nm, _, _⟩ => nm
def kwVal (k : Keyword) : Expr := match k with
  | ⟨_, e, _⟩ => e
theorem kw_cons {nm : Option Str} {e : Expr} {kp : Pos} {kws : List Keyword} {env : Env} : backToKw pos (keywordEach (⟨nm, e, kp⟩ :: kws) env) = (nm, do let v ← eval e env; standAt pos; pure v) :: backToKw pos (keywordEach kws env) := rfl
theorem kw_all {env : Env} : ∀ {kws : List Keyword}, kws.all (fun k => (kwName k).isSome) = true → (backToKw pos (keywordEach kws env)).all (·.1.isSome) = true
  | [], _ => rfl
  | ⟨nm, e, kp⟩ :: r, h => by
    rw [List.all_cons, Bool.and_eq_true] at h
    rw [kw_cons, List.all_cons, Bool.and_eq_true]
    exact ⟨h.1, kw_all h.2⟩
theorem kw_any {env : Env} : ∀ {kws : List Keyword}, kws.all (fun k => (kwName k).isSome) = true → (backToKw pos (keywordEach kws env)).any (·.1.isNone) = false
  | [], _ => rfl
  | ⟨nm, e, kp⟩ :: r, h => by
    rw [List.all_cons, Bool.and_eq_true] at h
    rw [kw_cons, List.any_cons, kw_any h.2, Bool.or_false]
    have h1 : nm.isSome = true := h.1
    cases nm with
    | none => cases h1
    | some _ => rfl
theorem kw_map {env : Env} : ∀ {kws : List Keyword}, (backToKw pos (keywordEach kws env)).filterMap (·.1) = kws.filterMap kwName
  | [] => rfl
  | ⟨nm, e, kp⟩ :: r => by
    rw [kw_cons]
    cases nm with
    | none => exact kw_map
    | some y => exact congrArg (y :: ·) kw_map
theorem PK.imp {kws : List Keyword} {t t' : L2.TA} (h : PK X kws t) (i : ∀ σ H Q, t' σ H Q → t σ H Q) : PK X kws t' := ⟨fun pos pins s σ H Q I q => h.run pos pins s σ H Q I (i σ H Q q)⟩
theorem fk_nil : PK X [] (tA T W nilA) := PK.imp pk_nil fun σ H Q ⟨s, G, ρ, Z, sm, q⟩ => q [] H ρ Z Ex.refl sm.rl .nil
theorem fk_cons {nm : Option Str} {kp : Pos} {kws : List Keyword} (ha : PE X a (tE T W ma)) (hr : PK X kws (tA T W mas)) : PK X (⟨nm, a, kp⟩ :: kws) (tA T W (consA ma mas)) :=
  PK.imp (pk_cons ha hr) fun σ H Q ⟨s, G, ρ, Z, sm, q⟩ => by
    refine tE_bindA sm q fun u G1 x H1 ρ1 Z1 x1 sm1 r1 q1 => ?_
    refine tA_bindA sm1 q1 fun us G2 vs H2 ρ2 Z2 x2 sm2 r2 q2 => ?_
    exact q2 _ H2 ρ2 Z2 Ex.refl sm2.rl (.cons (r1.ex sm1.rl.zm x2) r2)
/-- a class made with n values by place and the keywords ks -/
structure MakeKOk (P : Program) (w : World) (K : PySem.W.Frag) (mg : Str → Option Value) (base : Heap) (T : Tb) (k : Nat) (c : Nat) (x : Str) (n : Nat) (ks : List Str) (r : RunD) : Prop where
  cl : ∃ C f fd ps, T.cls[c]? = some C ∧ mg x = some (.ref C) ∧ Mk K C f ∧ KBn K fd ps (n + 1) ks (fun us ws => us ++ ws) (fun vs zs => vs ++ zs) ∧ FnOk P w K mg base (L2.CX P w) k f fd ps (spD T (n + 1 + ks.length) r)
def makeKM (c n m : Nat) (r : RunD) (mas mks : MA) : ME := fun s G => (mas s G).bind fun us G1 => (mks s G1).bind fun zs G2 => if us.length = n ∧ zs.length = m then madeU c (n + 1 + m) r (us ++ zs) G2 else .bad
theorem run_makeKS {CX : CXT} {sp : Sp} {E : XK} {fd : FuncData} {ps ks : List Str} {g : List Value → List Value → List Value} {gV : List V → List V → List V} {pins : List (Addr × Obj)} {σ : L2.St} {H : Hp} {s : Shared} {Q : VK} {us ws : List Value} {vs zs : List V}
    (M : Mk X.K C f) (F : FnOk X.prog X.w X.K X.mg X.base CX k f fd ps sp) (hr : Room (k + 1) X.A) (hb : KBn X.K fd ps (n + 1) ks g gV) (hx : PassesAt CX X σ E)
    (I : Inv X pins σ H s) (r : Vals vs us) (rz : Vals zs ws) (l1 : vs.length = n) (l2 : zs.length = ks.length)
    (h : ∀ x dx, H x = none → H dx = none → dx ≠ x → sp (gV (.ref x :: vs) zs) (upd (upd H dx (.own x)) x (.ins C dx [])) (fun v H2 => v = .non ∧ Q (.ref x) H2) E) :
    wpAny (model X.prog X.w) X.A (call (.ref C) us (ks.zip ws)) (EP X pins σ Q) X.xe s := by
  have hq := h (s.heap.objs.size + 1) s.heap.objs.size (I.hok.fresh (Nat.le_succ _)) (I.hok.fresh (Nat.le_refl _)) (Nat.ne_of_lt (Nat.lt_succ_self _))
  have I2 := Inv.made (C := C) I
  have r1 : Vals (V.ref (s.heap.objs.size + 1) :: vs) (Value.ref (s.heap.objs.size + 1) :: us) := .cons rfl r
  have r2 := hb.rel r1 rz
  have n1 : (Value.ref (s.heap.objs.size + 1) :: us).length = n + 1 := by
    rw [List.length_cons, ← r.length, l1]
  refine wpAny_call (make_map (f := f) I.kIn M.makes M.init (beq_iff_eq.mp M.fn) (codeAny_mono (F.run _ X.stack _ _ ⟨Value.ref (s.heap.objs.size + 1) :: us, ks.zip ws⟩ (g (Value.ref (s.heap.objs.size + 1) :: us) ws) _ _ E (hr.make C us (ks.zip ws))
    (I2.env0.make C us (ks.zip ws)) (hb.to _ (Value.ref (s.heap.objs.size + 1) :: us) ws I2.kIn n1 (rz.length.symm.trans l2)) r2 hq) fun r s' hq' => ?_))
  cases r with
  | error e => exact hx pins _ _ e s' I2 hq'
  | ok fl =>
    cases fl with
    | ret u =>
      obtain ⟨v, H', I3, rv, ev, q3⟩ := I2.after hq'
      subst ev
      exact ⟨rv, ⟨V.ref (s.heap.objs.size + 1), H', I3, rfl, q3⟩⟩
    | next => exact False.elim hq'
    | brk => exact False.elim hq'
    | cont => exact False.elim hq'
theorem Reps.of_append {ρ : List Addr} {Z : Addr → Prop} {H : Hp} {vs : List V} {us : List U} (r : Reps T ρ Z H vs us) : vs.length = us.length := r.length
theorem fe_makeK {c : Nat} {ks : List Str} {kws : List Keyword} (M : MakeKOk X.prog X.w X.K X.mg X.base T k c x n ks r) (hr : Room (k + 1) X.A) (hg : Gl X x) (tk : Takes X W) (ha : PA X (e :: es) (tA T W mas)) (hk : PK X kws (tA T W mks)) (hdb : (x == ("__debug__" : Str)) = false) (hst : (e :: es).all noStar = true)
    (hkw : kws.all (fun k => (kwName k).isSome) = true) (hks : kws.filterMap kwName = ks) :
    PE X (.Call (.Name x p) (e :: es) kws pos) (tE T W (makeKM c n ks.length r mas mks)) := by
  obtain ⟨C, f, fd, ps, g1, g2, g3, hb, F⟩ := M.cl
  rw [List.all_cons, Bool.and_eq_true] at hst
  refine ⟨fun pins s σ H Q I h => ?_⟩
  refine wpAny_Call_Name_kw (ld_glob I hg g2 ?_ hdb)
  obtain ⟨s', G, ρ, Z, sm, q⟩ := h
  have q' : tA T W mas σ H fun vs H1 => tA T W mks σ H1 fun zs H2 => vs.length = n ∧ zs.length = ks.length ∧ ∀ x dx, H2 x = none → H2 dx = none → dx ≠ x → spD T (n + 1 + ks.length) r ((.ref x :: vs) ++ zs) (upd (upd H2 dx (.own x)) x (.ins C dx [])) (fun v H3 => v = .non ∧ Q (.ref x) H3) (WE W σ) :=
    tA_bind sm q fun us G1 vs H1 ρ1 Z1 x1 sm1 r1 q1 => tA_bind sm1 q1 fun zs G2 ws H2 ρ2 Z2 x2 sm2 r2 q2 => by
      by_cases z : us.length = n ∧ zs.length = ks.length
      · rw [if_pos z] at q2
        exact ⟨r1.length.trans z.1, r2.length.trans z.2, made_ok sm2 ((r1.ex sm1.rl.zm x2).append r2) g1 q2⟩
      · rw [if_neg z] at q2
        exact q2.elim
  refine PySem.W.callWith_KW (h₀ := X.base) I.ok.mod.kin g3.kp (kw_all hkw) (thn (ha.run pos pins s σ H _ I q') fun us s1 ⟨vs, H1, I1, r, q⟩ => ?_) (by rw [star_any (by rw [List.all_cons, hst.1, hst.2]; rfl), kw_any hkw]; rfl) (star_cons hst.1)
  refine thn (hk.run pos pins s1 σ H1 _ I1 q) fun ws s2 ⟨zs, H2, I2, rz, l1, l2, q2⟩ => ⟨I2.kIn, ?_⟩
  rw [kw_map, hks]
  exact run_makeKS g3 F hr hb (passAt tk σ) I2 r rz l1 l2 q2

/-! ### own == and != -/
theorem objEq_look : ∃ y, typeLookup (.type "object") ("__eq__" : Str) = pure y := ⟨some (.builtin "object.__eq__"), by rw [typeLookup_type, builtinLookup_eq_fast]; kernel_rfl⟩
/-- what the class at C has for its own == -/
structure EqC (K : PySem.W.Frag) (C f : Addr) : Prop where
  at_ : PySem.W.findIn K (.ref C) "__eq__" = some (some (.ref f))
  fn : PySem.W.isFn K (.ref f) = true
  nt : PySem.W.notFirst K C (.type "tuple") = true
/-- .. and for != by it -/
structure NeC (K : PySem.W.Frag) (C f : Addr) : Prop where
  ob : ∃ (nm q : Str) (N : Addr) (bs : List Value) (hdct : Bool) (sn : List Str) (sub : List Value) (ab : Bool) (col : Option Bool) (dd : Option Addr) (k0 k1 k2 k3 k5 : Option Value) (newId : String),
    K.lookup C = some (excClassObj nm q C N bs [.type "object"] hdct sn sub ab col dd k0 k1 k2 k3 k5 newId) ∧ PySem.W.nsOkIn K N = true ∧ PySem.W.nsIn K N "__eq__" = some (some (.ref f)) ∧ PySem.W.nsIn K N "__ne__" = some none
theorem ns_some_of {K : PySem.W.Frag} {h : Heap} {N : Addr} {mg : Str → Option Value} {n : Str} {v : Value} (X : K.In h) (G : h.Ns N mg) (e : PySem.W.nsIn K N n = some (some v)) : mg n = some v := by
  obtain ⟨o, es, ep, ho, hd, _, hf⟩ := G
  unfold PySem.W.nsIn at e
  split at e
  · rename_i c d es' n' sl q
    have := X _ _ q
    rw [ho] at this
    cases this
    cases hd
    split at e
    · rename_i en he
      cases e
      rw [← hf]
      unfold nsFind findBy
      rw [← Array.find?_toList, he]
      rfl
    · split at e <;> cases e
  · cases e
def rOwnEq (T : Tb) (r : RunD) (C : Addr) : R2 := fun x y H Q => ∃ a dx fs, x = .ref a ∧ H a = some (.ins C dx fs) ∧ (∃ b, y = .ref b ∧ ((∃ dy gs, H b = some (.ins C dy gs)) ∨ ∃ ys, SqT T.K H b ys)) ∧ spD T 2 r [x, y] H (fun v H' => ∃ t, v = .bl t ∧ Q (.bl t) H') E0
def rOwnNe (T : Tb) (r : RunD) (C : Addr) : R2 := fun x y H Q => ∃ a dx fs, x = .ref a ∧ H a = some (.ins C dx fs) ∧ (∃ b, y = .ref b ∧ (∃ dy gs, H b = some (.ins C dy gs))) ∧ spD T 2 r [x, y] H (fun v H' => ∃ t, v = .bl t ∧ Q (.bl (!t)) H') E0
theorem op_ownEq (hT : X.K = T.K) (F : DefOk X.prog X.w X.K X.mg X.base T k f 2 r) (ec : EqC X.K C f) (hr : Room k X.A) : OpR X (compareOp .Eq) (rOwnEq T r C) := by
  intro pins s σ H x y v u Q I rx ry ⟨a, dx, fs, ex, ha, ⟨b, ey, hb'⟩, hsp⟩
  subst ex
  subst ey
  obtain ⟨fd, ps, hbi, hl, F⟩ := F.ex
  cases rx
  cases ry
  show wpAny (model X.prog X.w) X.A (richCompare .Eq (.ref a) (.ref b)) (EP X pins σ Q) X.xe s
  obtain ⟨mA, J, _⟩ := ins_get I.hok ha
  obtain ⟨od, J, _⟩ := J.look
  obtain ⟨m, hF⟩ := I.fr
  have key : ∃ tb, PySem.W.Looks (model X.prog X.w) s.heap (typeOf (.ref b)) tb ∧ PySem.W.notFirst X.K C tb = true := by
    rcases hb' with ⟨dy, gs, hb⟩ | ⟨ys, hb⟩
    · obtain ⟨mB, J', _⟩ := ins_get I.hok hb
      obtain ⟨od', J', _⟩ := J'.look
      exact ⟨_, J'.type, by simp [PySem.W.notFirst]⟩
    · rw [← hT] at hb
      obtain ⟨its, r, ⟨o, ho, hc, _⟩, z⟩ := I.tuple hb
      exact ⟨.type "tuple", fun A Q E s k q => wpAny_typeOf_ref (k _ _ ho) (by rw [hc]; exact q), ec.nt⟩
  obtain ⟨tb, L, nf⟩ := key
  refine PySem.W.cmp_K (op := .Eq) (tb := tb) (hu_of hr |> Nat.lt_of_succ_lt) hF I.ok.mod.kin J L nf ec.at_ ec.fn ?_
  have r2 : Vals [V.ref a, V.ref b] [Value.ref a, Value.ref b] := .cons rfl (.cons rfl .nil)
  refine wpAny_call (codeAny_mono (F.run X.A X.stack s H ⟨[.ref a, .ref b], []⟩ [.ref a, .ref b] [.ref a, .ref b] _ E0 hr I.env0 (by
    have := hbi s [.ref a, .ref b] I.kIn (by simpa using hl.symm)
    simpa using this) r2 hsp) fun r s' hq => ?_)
  cases r with
  | error e => exact passL pins σ H s e s' I hq
  | ok fl =>
    cases fl with
    | ret w =>
      obtain ⟨z, H', I', rz, t, ez, ex⟩ := I.after hq
      subst ez
      cases rz
      exact ⟨.bl t, H', I', rfl, ex⟩
    | next => exact False.elim hq
    | brk => exact False.elim hq
    | cont => exact False.elim hq
theorem op_ownNe (F : DefOk X.prog X.w X.K X.mg X.base T k f 2 r) (ec : EqC X.K C f) (nc : NeC X.K C f) (hr : Room (k + 1) X.A) : OpR X (compareOp .NotEq) (rOwnNe T r C) := by
  intro pins s σ H x y v u Q I rx ry ⟨a, dx, fs, ex, ha, ⟨b, ey, dy, gs, hb'⟩, hsp⟩
  subst ex
  subst ey
  obtain ⟨fd, ps, hbi, hl, F⟩ := F.ex
  cases rx
  cases ry
  obtain ⟨mA, J, _⟩ := ins_get I.hok ha
  obtain ⟨mB, J', _⟩ := ins_get I.hok hb'
  obtain ⟨od, J, _⟩ := J.look
  obtain ⟨od', J', _⟩ := J'.look
  obtain ⟨nm, q, N, bs, hdct, sn, sub, ab, col, dd, k0, k1, k2, k3, k5, newId, hC, hN, he, hne⟩ := nc.ob
  have KI := I.kIn
  obtain ⟨of, hof, hofc⟩ : ∃ of, s.heap.get? f = some of ∧ of.cls = .type "function" := by
    have := beq_iff_eq.mp ec.fn
    unfold PySem.W.typeIn at this
    cases hl' : X.K.lookup f with
    | none => simp [hl'] at this
    | some of => exact ⟨of, KI _ _ hl', by simpa [hl'] using this⟩
  obtain ⟨y, hy⟩ := objEq_look
  have Y : s.heap.OwnEqNoNe a C f "object" [.type "object"] := ⟨_, of, nm, q, N, bs, hdct, sn, sub, ab, col, dd, k0, k1, k2, k3, k5, newId, _, y, J.at_, J.cls, KI _ _ hC, .of_isNs (PySem.W.isNs_of_in KI hN), ns_some_of KI (.of_isNs (PySem.W.isNs_of_in KI hN)) he, hof, hofc, PySem.F.mro_object, hy, PySem.W.ns_none_of KI (.of_isNs (PySem.W.isNs_of_in KI hN)) hne⟩
  have e0 : Env0 X.prog X.w X.K X.mg X.base X.A.in1 X.stack s H := by
    have e := I.env0
    exact ⟨e.frames, e.mod, e.bs, e.bsz, e.funs, e.frf, e.hok, e.bare⟩
  have r2 : Vals [V.ref a, V.ref b] [Value.ref a, Value.ref b] := .cons rfl (.cons rfl .nil)
  have hu : X.A.units + 1 < cLine := hu_of hr
  have call : wpAny (model X.prog X.w) X.A.in1 (call (.ref f) [.ref a, .ref b]) (fun v s' => ∃ t, v = .bool t ∧ EP X pins σ Q (.bool (!t)) s') X.xe s := by
    refine wpAny_call (codeAny_mono (F.run X.A.in1 X.stack s H ⟨[.ref a, .ref b], []⟩ [.ref a, .ref b] [.ref a, .ref b] _ E0 hr.in1 e0 (by
      have := hbi s [.ref a, .ref b] I.kIn (by simpa using hl.symm)
      simpa using this) r2 hsp) fun r s' hq => ?_)
    cases r with
    | error e => exact passL pins σ H s e s' I hq
    | ok fl =>
      cases fl with
      | ret w =>
        obtain ⟨z, H', I', rz, t, ez, ex⟩ := I.after hq
        subst ez
        cases rz
        exact ⟨t, rfl, .bl (!t), H', I', rfl, ex⟩
      | next => exact False.elim hq
      | brk => exact False.elim hq
      | cont => exact False.elim hq
  have hB := J'.at_
  have hBc := J'.cls
  clear J' J
  obtain ⟨hh, g, d, t, os⟩ := s
  exact compareOp_ne_ownEq PySem.F.cmp_object Y hB hBc hu call
end
end FL

/-! FL15: chains, == with own classes, built-ins by name; the table of a body. -/
namespace FL
open PySem L2 PyProof.Rows
section
variable {X : Cx} {T : Tb} {W : WX} {p pos apos : Pos} {a b c e o i : Expr} {es : List Expr} {ma mb mc mo mi : ME} {mas mks : MA} {k n : Nat} {C f : Addr} {x : Str} {r : RunD}
/-! ### a < b < c -/
theorem last_marks {op op' : CmpOp} (h : noSet c = true) : lastMarks [op, op'] [b, c] = false := by
  show behindInMarks op' c = false
  exact marks_no h
theorem fe_chain {op op' : CmpOp} {f g : U → U → List Ob → Rs U} {r r' : R2} (ho : OpR X (compareOp op) r) (ho' : OpR X (compareOp op') r') (h : O2 T W f r) (h' : O2 T W g r') (ha : PE X a (tE T W ma)) (hb : PE X b (tE T W mb)) (hc : PE X c (tE T W mc)) (hs : noSet c = true) :
    PE X (.Compare a [op, op'] [b, c] pos) (tE T W (chM f g ma mb mc)) := PE.imp (pe_chain ho ho' ha hb hc (last_marks hs)) fun _ _ _ q => chM_top h h' q
theorem ft_chain {op op' : CmpOp} {f g : U → U → List Ob → Rs U} {r r' : R2} (ho : OpR X (compareOp op) r) (ho' : OpR X (compareOp op') r') (h : O2 T W f r) (h' : O2 T W g r') (ha : PE X a (tE T W ma)) (hb : PE X b (tE T W mb)) (hc : PE X c (tE T W mc)) (hs : noSet c = true) :
    PT X (.Compare a [op, op'] [b, c] pos) (tT T W (tobM (chM f g ma mb mc))) := PT.imp (pt_chain ho ho' ha hb hc (last_marks hs)) fun _ _ _ q => chM_top h h' (tB_of q)

/-! ### == and != where own classes stand -/
theorem OpR.ex {ι : Sort _} {f : Value → Value → Sem Value} {r : ι → R2} (h : ∀ i, OpR X f (r i)) : OpR X f (fun x y H Q => ∃ i, r i x y H Q) := fun pins s σ H x y v u Q I rx ry ⟨i, q⟩ => h i pins s σ H x y v u Q I rx ry q
structure EqOk (P : Program) (w : World) (K : PySem.W.Frag) (mg : Str → Option Value) (base : Heap) (T : Tb) (k : Nat) (c : Nat) (r : RunD) : Prop where
  cl : ∃ C f, T.cls[c]? = some C ∧ EqC K C f ∧ NeC K C f ∧ DefOk P w K mg base T k f 2 r
def isTupU : U → Bool
  | .tup _ => true
  | _ => false
def boolB (neg : Bool) : Rs U → Rs U
  | .ok (.bl t) G => .ok (.bl (if neg then !t else t)) G
  | _ => .bad
def eqX (neg : Bool) (et : Nat → Option RunD) : U → U → List Ob → Rs U := fun x y G => match insOf G x with
  | some (c, _) => match et c with
    | some r => if (match insOf G y with | some (c', _) => decide (c' = c) | none => isTupU y && !neg) then boolB neg (arM 2 r [x, y] G) else .bad
    | none => .bad
  | none => eqU neg x y G
def rEqX (X : Cx) (T : Tb) (et : Nat → Option RunD) : R2 := fun x y H Q => (∃ i : { z : RunD × Addr // ∃ c, et c = some z.1 ∧ T.cls[c]? = some z.2 }, rOwnEq T i.1.1 i.1.2 x y H Q) ∨ rEqD X.K x y H Q
def rNeX (X : Cx) (T : Tb) (et : Nat → Option RunD) : R2 := fun x y H Q => (∃ i : { z : RunD × Addr // ∃ c, et c = some z.1 ∧ T.cls[c]? = some z.2 }, rOwnNe T i.1.1 i.1.2 x y H Q) ∨ rNeD X.K x y H Q
theorem op_eqX {et : Nat → Option RunD} (hT : X.K = T.K) (he : ∀ c r, et c = some r → EqOk X.prog X.w X.K X.mg X.base T k c r) (hr : Room (k + 1) X.A) : OpR X (compareOp .Eq) (rEqX X T et) := by
  refine OpR.or (OpR.ex fun ⟨⟨r, C⟩, c, h1, h2⟩ => ?_) (op_eqD hr.units)
  obtain ⟨C', f, g1, g2, g3, g4⟩ := (he c r h1).cl
  have eC : C' = C := by rw [h2] at g1; exact (Option.some.inj g1).symm
  subst eC
  exact op_ownEq hT g4 g2 (hr.mono (Nat.le_succ _))
theorem op_neX {et : Nat → Option RunD} (he : ∀ c r, et c = some r → EqOk X.prog X.w X.K X.mg X.base T k c r) (hr : Room (k + 1) X.A) : OpR X (compareOp .NotEq) (rNeX X T et) := by
  refine OpR.or (OpR.ex fun ⟨⟨r, C⟩, c, h1, h2⟩ => ?_) (op_neD hr.units)
  obtain ⟨C', f, g1, g2, g3, g4⟩ := (he c r h1).cl
  have eC : C' = C := by rw [h2] at g1; exact (Option.some.inj g1).symm
  subst eC
  exact op_ownNe g4 g2 g3 hr
theorem boolB_sp {neg : Bool} {σ : L2.St} {H : Hp} {ρ : List Addr} {Z : Addr → Prop} {G : List Ob} {s : Sg} {Q : VK} {us : List U} {vs : List V} (sm : Sm T σ H s G ρ Z) (q : Reps T ρ Z H vs us) (h : RE T W σ H ρ Z Q (boolB neg (arM n r us G))) :
    spD T n r vs H (fun v H' => ∃ t, v = .bl t ∧ Q (.bl (if neg then !t else t)) H') E0 := by
  unfold arM at h
  by_cases e : us.length = n
  · rw [if_pos e] at h
    refine ⟨us, G, ρ, Z, sm.rl, q, e, ?_⟩
    cases e2 : r us G with
    | ok u G' =>
      rw [e2] at h
      cases u with
      | bl t => exact fun v H' ρ' Z' x rl rv => ⟨t, rv.inv_bl, h _ H' ρ' Z' x rl (.bl _)⟩
      | _ => exact h.elim
    | exc x G' => rw [e2] at h; exact h.elim
    | bad => rw [e2] at h; exact h.elim
  · rw [if_neg e] at h
    exact h.elim
theorem own_top {neg : Bool} {et : Nat → Option RunD} {σ : L2.St} {H : Hp} {s : Sg} {G : List Ob} {ρ : List Addr} {Z : Addr → Prop} {x y : V} {u w : U} {Q : VK} (sm : Sm T σ H s G ρ Z) (r1 : Rep T ρ Z H x u) (r2 : Rep T ρ Z H y w) {c : Nat} {l : List (Nat × U)} (e : insOf G u = some (c, l)) {r : RunD}
    (z : (match insOf G w with | some (c', _) => decide (c' = c) | none => isTupU w && !neg) = true) (h : RE T W σ H ρ Z Q (boolB neg (arM 2 r [u, w] G))) :
    ∃ C, T.cls[c]? = some C ∧ ∃ a dx fs, x = .ref a ∧ H a = some (.ins C dx fs) ∧ (∃ b, y = .ref b ∧ ((∃ dy gs, H b = some (.ins C dy gs)) ∨ (neg = false ∧ ∃ ys, SqT T.K H b ys))) ∧ spD T 2 r [x, y] H (fun v H' => ∃ t, v = .bl t ∧ Q (.bl (if neg then !t else t)) H') E0 := by
  obtain ⟨a, C, dx, fv, rfl, h1, h2, h3⟩ := insOf_at sm.rl r1 e
  refine ⟨C, h2, a, dx, fv, rfl, h1, ?_, boolB_sp sm (.cons r1 (.cons r2 .nil)) h⟩
  cases e2 : insOf G w with
  | some cl =>
    obtain ⟨c', l'⟩ := cl
    rw [e2] at z
    obtain ⟨b, C', dy, gv, ey, g1, g2, g3⟩ := insOf_at sm.rl r2 e2
    have ec : c' = c := of_decide_eq_true z
    subst ec
    have eC : C' = C := by rw [h2] at g2; exact (Option.some.inj g2).symm
    subst eC
    exact ⟨b, ey, .inl ⟨dy, gv, g1⟩⟩
  | none =>
    rw [e2] at z
    cases w with
    | tup l' =>
      obtain ⟨b, vs, ey, g1, g2⟩ := r2.inv_tup
      cases neg with
      | true => cases z
      | false => exact ⟨b, ey, .inr ⟨rfl, vs, g1⟩⟩
    | _ => cases z
theorem o2_eqX {et : Nat → Option RunD} (hT : X.K = T.K) : O2 T W (eqX false et) (rEqX X T et) := by
  intro σ H s G ρ Z x y u w Q sm r1 r2 h
  unfold eqX at h
  split at h
  · rename_i c l e
    split at h
    · rename_i r hr
      by_cases z : (match insOf G w with | some (c', _) => decide (c' = c) | none => isTupU w && !false) = true
      · rw [if_pos z] at h
        obtain ⟨C, h1, a, dx, fs, ex, ha, ⟨b, ey, hb⟩, hs⟩ := own_top (neg := false) (et := et) sm r1 r2 e z h
        exact .inl ⟨⟨⟨r, C⟩, c, hr, h1⟩, a, dx, fs, ex, ha, ⟨b, ey, hb.imp id fun z => z.2⟩, hs⟩
      · rw [if_neg z] at h
        exact h.elim
    · exact h.elim
  · exact .inr (o2_eq hT σ H s G ρ Z x y u w Q sm r1 r2 h)
theorem o2_neX {et : Nat → Option RunD} (hT : X.K = T.K) : O2 T W (eqX true et) (rNeX X T et) := by
  intro σ H s G ρ Z x y u w Q sm r1 r2 h
  unfold eqX at h
  split at h
  · rename_i c l e
    split at h
    · rename_i r hr
      by_cases z : (match insOf G w with | some (c', _) => decide (c' = c) | none => isTupU w && !true) = true
      · rw [if_pos z] at h
        obtain ⟨C, h1, a, dx, fs, ex, ha, ⟨b, ey, hb⟩, hs⟩ := own_top (neg := true) (et := et) sm r1 r2 e z h
        refine .inl ⟨⟨⟨r, C⟩, c, hr, h1⟩, a, dx, fs, ex, ha, ⟨b, ey, hb.elim id fun z => ?_⟩, hs⟩
        cases z.1
      · rw [if_neg z] at h
        exact h.elim
    · exact h.elim
  · exact .inr (o2_ne hT σ H s G ρ Z x y u w Q sm r1 r2 h)

/-! ### built-ins by name -/
def strU2 : RunD := fun us G => match us with
  | [.str l] => .ok (.str l) G
  | us => strU1 us G
theorem oc_str2 : OC T W strU2 (fun xs H Q => (∃ a, xs = [.str a] ∧ Q (.str a) H) ∨ ∃ i, xs = [.int i] ∧ i.natAbs.log2 < 1920 ∧ Q (.str (toString i)) H) := by
  intro σ H s G ρ Z vs us Q sm r1 h
  unfold strU2 at h
  split at h
  · obtain ⟨v, rfl, rv⟩ := r1.inv1
    exact .inl ⟨_, by rw [rv.inv_str], h _ H ρ Z Ex.refl sm.rl (Rep.ss _)⟩
  · exact .inr (oc_str σ H s G ρ Z vs us Q sm r1 h)
/-- the functions -/
def bltF (x : Str) : Option RunD :=
  if x == ("len" : Str) then some lenU else if x == ("abs" : Str) then some absU else if x == ("all" : Str) then some allU else if x == ("any" : Str) then some anyU else if x == ("max" : Str) then some maxU else if x == ("min" : Str) then some minU
  else if x == ("sum" : Str) then some sumU else none
/-- the types, and sorted -/
def bltT (mu : Bool) (x : Str) : Option RunD :=
  if x == ("int" : Str) then some intU1 else if x == ("str" : Str) then some strU2 else if x == ("list" : Str) then some (listU mu) else if x == ("tuple" : Str) then some tupleU else if x == ("sorted" : Str) then some (sortedU mu) else none
theorem fe_bltF {g : RunD} (h : bltF x = some g) (hT : X.K = T.K) (hc : X.calm = true) (hg : Gl X x) (hm : X.mg x = none) (ha : PA X (e :: es) (tA T W mas)) (hst : (e :: es).all noStar = true) : PE X (.Call (.Name x p) (e :: es) [] pos) (tE T W (preM g mas)) := by
  unfold bltF at h
  split at h
  · rename_i hx; cases h; rw [beq_iff_eq] at hx; subst hx
    exact fe_callB call_len (oc_len hT) hg hm (by decide +kernel) ha (by decide) (by decide) hst
  · split at h
    · rename_i hx; cases h; rw [beq_iff_eq] at hx; subst hx
      exact fe_callB call_abs oc_abs hg hm (by decide +kernel) ha (by decide) (by decide) hst
    · split at h
      · rename_i hx; cases h; rw [beq_iff_eq] at hx; subst hx
        exact fe_callB (cr_all hc) (oc_all hT) hg hm (by decide +kernel) ha (by decide) (by decide) hst
      · split at h
        · rename_i hx; cases h; rw [beq_iff_eq] at hx; subst hx
          exact fe_callB (cr_any hc) (oc_any hT) hg hm (by decide +kernel) ha (by decide) (by decide) hst
        · split at h
          · rename_i hx; cases h; rw [beq_iff_eq] at hx; subst hx
            exact fe_callB (cr_maxA hc) (oc_max hT) hg hm (by decide +kernel) ha (by decide) (by decide) hst
          · split at h
            · rename_i hx; cases h; rw [beq_iff_eq] at hx; subst hx
              exact fe_callB (cr_minA hc) (oc_min hT) hg hm (by decide +kernel) ha (by decide) (by decide) hst
            · split at h
              · rename_i hx; cases h; rw [beq_iff_eq] at hx; subst hx
                exact fe_callB (cr_sum hc) (oc_sum hT) hg hm (by decide +kernel) ha (by decide) (by decide) hst
              · cases h
theorem fe_bltT {mu : Bool} {g : RunD} (h : bltT mu x = some g) (hT : X.K = T.K) (hc : X.calm = true) (hg : Gl X x) (hm : X.mg x = none) (ha : PA X (e :: es) (tA T W mas)) (hst : (e :: es).all noStar = true) : PE X (.Call (.Name x p) (e :: es) [] pos) (tE T W (preM g mas)) := by
  unfold bltT at h
  split at h
  · rename_i hx; cases h; rw [beq_iff_eq] at hx; subst hx
    exact fe_callTy cr_int oc_int hg hm (by decide +kernel) ha (by decide) (by decide) hst
  · split at h
    · rename_i hx; cases h; rw [beq_iff_eq] at hx; subst hx
      exact fe_callTy (CallR.or SkE.call_str_str call_str_int) oc_str2 hg hm (by decide +kernel) ha (by decide) (by decide) hst
    · split at h
      · rename_i hx; cases h; rw [beq_iff_eq] at hx; subst hx
        exact fe_callTy call_list_of (oc_list hT) hg hm (by decide +kernel) ha (by decide) (by decide) hst
      · split at h
        · rename_i hx; cases h; rw [beq_iff_eq] at hx; subst hx
          exact fe_callTy call_tuple_of (oc_tuple hT) hg hm (by decide +kernel) ha (by decide) (by decide) hst
        · split at h
          · rename_i hx; cases h; rw [beq_iff_eq] at hx; subst hx
            exact fe_callB cr_sorted (oc_sorted hT) hg hm (by decide +kernel) ha (by decide) (by decide) hst
          · cases h
end
def okN (x : Str) : Bool := !(x == ("__debug__" : Str)) && !(x == ("__classdict__" : Str))
theorem okN_d {x : Str} (h : okN x = true) : (x == ("__debug__" : Str)) = false := by
  unfold okN at h
  rw [Bool.and_eq_true] at h
  simpa using h.1
theorem okN_c {x : Str} (h : okN x = true) : (x == ("__classdict__" : Str)) = false := by
  unfold okN at h
  rw [Bool.and_eq_true] at h
  simpa using h.2
@[simp] theorem bind_ok {α β : Type} (a : α) (G : List Ob) (f : α → List Ob → Rs β) : (Rs.ok a G).bind f = f a G := rfl
@[simp] theorem bind_bad {α β : Type} (f : α → List Ob → Rs β) : (Rs.bad : Rs α).bind f = .bad := rfl
@[simp] theorem bind_exc {α β : Type} (x : Exn) (G : List Ob) (f : α → List Ob → Rs β) : (Rs.exc x G : Rs α).bind f = .exc x G := rfl
end FL

/-! FL29: enumerate(text), zip(list, text), as they are walked. -/
namespace FL
open PySem L2 PyProof.Rows
/-! ### iterators that are at their end, whatever the place -/
theorem draws_listEnd {prog : Program} {w : World} {A : Around} (hh : A.handled = none) (it l : Addr) (items : Array Value) (n : Nat) (hx : items[n]? = none) :
    Draws prog w A it [it, l] n (fun _ _ => False) (fun j h => j = n ∧ h.IsListIter it l j ∧ h.IsList l items) where
  live := fun _ _ st => let ⟨o, ho, _⟩ := st.2.1; ⟨o, ho⟩
  frame := fun _ _ _ st hk => ⟨st.1, st.2.1.at fun o e => hk it (by simp) o e, st.2.2.at fun o e => hk l (by simp) o e⟩
  item := fun i s Q E hi st hQ => absurd st.1 (Nat.ne_of_lt hi)
  done := fun s Q E st hE => wpAny_nextOf_list_end hh st.2.1 st.2.2 hx hE
theorem draws_strEnd {prog : Program} {w : World} {A : Around} (hh : A.handled = none) (it : Addr) (x : Str) (t : Tok) (ty : String) (hty : ty = "str_ascii_iterator" ∨ ty = "str_iterator") (n : Nat) (hx : x.cps[n]? = none) :
    Draws prog w A it [it] n (fun _ _ => False) (fun j h => j = n ∧ h.IsStrIter it ty x t j) where
  live := fun _ _ st => let ⟨o, ho, _⟩ := st.2; ⟨o, ho⟩
  frame := fun _ _ _ st hk => ⟨st.1, let ⟨o, ho, r⟩ := st.2; ⟨o, hk it (by simp) o ho, r⟩⟩
  item := fun i s Q E hi st hQ => absurd st.1 (Nat.ne_of_lt hi)
  done := fun s Q E st hE => by
    have st := st.2
    rcases hty with e | e
    · rw [e] at st; exact wpAny_nextOf_ascii_end hh st hx hE
    · rw [e] at st; exact wpAny_nextOf_wide_end hh st hx hE
theorem draws_str {prog : Program} {w : World} {A : Around} (hh : A.handled = none) (it : Addr) (x : Str) (t : Tok) (ty : String) (hty : ty = "str_ascii_iterator" ∨ ty = "str_iterator") :
    Draws prog w A it [it] x.cps.size (fun i v => ∃ c u, x.cps[i]? = some c ∧ v = .str ⟨#[c]⟩ u) (fun i h => h.IsStrIter it ty x t i) := by
  rcases hty with e | e
  · rw [e]; exact Draws.strAscii hh it x t
  · rw [e]; exact Draws.strWide hh it x t
theorem strType (x : Str) : strIterType x = "str_ascii_iterator" ∨ strIterType x = "str_iterator" := by
  unfold strIterType
  split
  · exact .inl rfl
  · exact .inr rfl
theorem strIter_at {h h' : Heap} {it : Addr} {ty : String} {x : Str} {t : Tok} {i : Nat} (st : h.IsStrIter it ty x t i) (k : ∀ o, h.get? it = some o → h'.get? it = some o) : h'.IsStrIter it ty x t i := let ⟨o, ho, r⟩ := st; ⟨o, k o ho, r⟩
/-! ### enumerate(text) -/
def Ites (x : Str) : It :=
  ⟨fun i H => i < x.cps.size, fun i H v H' => ∃ T c, v = .ref T ∧ H T = none ∧ H' = upd H T (.tup [.int (i : Nat), .str ⟨#[c]⟩]) ∧ x.cps[i]? = some c, fun i H => x.cps.size ≤ i⟩
theorem turn_enumS {P : Program} {w : World} {K : PySem.W.Frag} {elts : List Expr} {kk : Nat} {tpos : Pos} (x : Str) (t : Tok) (ty : String) (hty : ty = "str_ascii_iterator" ∨ ty = "str_iterator") (e it : Addr) :
    Turn P w K (.Tuple elts kk tpos) (Ites x) [e, it] e (fun i h => (∃ old, IsEnum h e it ((i : Nat) : Int) old) ∧ h.IsStrIter it ty x t i ∧ e ≠ it) where
  mem := by simp
  obj := fun i h st b hb => by
    obtain ⟨⟨old, he⟩, ⟨o, ho, hc, hd⟩, _⟩ := st
    have e' : b = e ∨ b = it := by simpa using hb
    rcases e' with z | z
    · rw [z]; exact ⟨_, he, fun v q => nomatch q⟩
    · rw [z]; exact ⟨o, ho, fun v q => by rw [hd] at q; cases q⟩
  keep := fun i h h' st k => let ⟨⟨old, he⟩, hi, hne⟩ := st; ⟨⟨old, k e (by simp) _ he⟩, strIter_at hi fun o q => k it (by simp) o q, hne⟩
  item := by
    intro X hP hw hK hc i pins s σ H E I hf st hg
    subst hP hw hK
    obtain ⟨⟨old, he⟩, hit, hne⟩ := st
    have hel : e < s.heap.objs.size := Heap.lt_size he
    have hil : it < s.heap.objs.size := by obtain ⟨_, q, _⟩ := hit; exact Heap.lt_size q
    refine wpAny_pyNext_enum_itemD (draws_str (show X.A.in1.handled = none from I.ok.hd hc) it x t ty hty) he hit hg hne (by simpa using hne) fun v h' tk hv ho hit' hT hsz hk => ?_
    obtain ⟨c, u, hcx, rfl⟩ := hv
    refine ⟨_, rfl, wpAny_letOwnedTupleGo_enum (s := { s with heap := h', toks := tk + 1 }) ho fun h'' he' sb => ?_⟩
    have hT2 : h''.get? s.heap.objs.size = some { cls := .type "tuple", data := .seq #[.int i tk, .str ⟨#[c]⟩ u] } := (sb.2 _ (Nat.ne_of_gt hel)).trans hT
    have new : ObjOk X.prog X.w (upd H s.heap.objs.size (.tup [.int (i : Nat), .str ⟨#[c]⟩])) h'' s.heap.objs.size (.tup [.int (i : Nat), .str ⟨#[c]⟩]) :=
      ⟨by show 2 ≤ sizeLine; decide, [.int i tk, .str ⟨#[c]⟩ u], .cons ⟨_, rfl⟩ (.cons ⟨u, rfl⟩ .nil), ⟨_, hT2, rfl, _, rfl⟩⟩
    have I1 : Inv X pins σ (upd H s.heap.objs.size (.tup [.int (i : Nat), .str ⟨#[c]⟩])) { s with heap := h'', toks := tk + 1 } :=
      I.turnedNew (ch := [e, it]) (fun b ob hb q => (sb.2 b (fun z => hb (by simp [z]))).trans (hk b ob (fun z => hb (by simp [z])) (fun z => hb (by simp [z])) q)) hf (Nat.le_refl _) new
    refine ⟨.ref s.heap.objs.size, _, I1, rfl, ⟨_, c, rfl, I.hok.fresh (Nat.le_refl _), rfl, hcx⟩, ⟨⟨.str ⟨#[c]⟩ u, ?_⟩, strIter_at hit' fun o q => (sb.2 it (Ne.symm hne)).trans q, hne⟩, fun b hb => ?_⟩
    · have e1 : ((i + 1 : Nat) : Int) = (i : Int) + 1 := by omega
      rw [e1]; exact he'
    · have hb' : b < s.heap.objs.size := by
        have e' : b = e ∨ b = it := by simpa using hb
        rcases e' with z | z
        · rw [z]; exact hel
        · rw [z]; exact hil
      rw [upd_ne (Nat.ne_of_lt hb')]
      exact (hf b hb).1
  done := by
    intro X hP hw hK hc i pins s σ H E I hf st hg
    subst hP hw hK
    obtain ⟨⟨old, he⟩, hit, hne⟩ := st
    obtain ⟨f0, f1, f2, f3, f4, f5⟩ := hf it (by simp)
    have hx : x.cps[i]? = none := Array.getElem?_eq_none hg
    exact wpAny_pyNext_enum_endD (draws_strEnd (show X.A.in1.handled = none from I.ok.hd hc) it x t ty hty i hx) he ⟨rfl, hit⟩ fun h' eb => ⟨rfl, I.turned (t' := s.toks) (fun b o hb q => eb b o hb q) f0 f1 f3 f4 f5⟩
  self := fun A i s Q E st h => let ⟨⟨_, he⟩, _⟩ := st; wpAny_pyIter_enum he h
def iEnumS (ta : TA) : TI := fun σ H R => ta σ H fun vs H1 => ∃ x, vs = [.str x] ∧ R (Ites x) H1
theorem pi_enumS {X : Cx} {e : Expr} {ta : TA} {p pos tpos : Pos} {elts : List Expr} {kk : Nat} (hg : Gl X "enumerate") (hm : X.mg "enumerate" = none) (ha : PA X [e] ta) (hs : starEach [e] X.env = [(false, eval e X.env)] := by rfl) :
    PI X (.Tuple elts kk tpos) (.Call (.Name "enumerate" p) [e] [] pos) (iEnumS ta) := by
  refine ⟨fun pins s σ H R I h => ?_⟩
  refine Call_ (ld_blt I hg hm boot_enumerate (PyProof.Rows.callWith_type1 (thn (ha.run pos pins s σ H _ I h) fun us s1 ⟨vs, H1, I1, r1, q1⟩ => ?_) hs rfl))
  obtain ⟨x, ex, q⟩ := q1
  subst ex
  cases r1 with
  | cons r rr =>
    cases rr
    obtain ⟨t, rfl⟩ := r
    refine call_enumerate_str fun h' he hit hsz hk => wpAny_pyIter_enum he ?_
    have I2 : Inv X pins σ H1 { s1 with heap := h' } := I1.kept (t' := s1.toks) hk
    refine ⟨s1.heap.objs.size + 1, [s1.heap.objs.size + 1, s1.heap.objs.size], _, _, H1, rfl, I2, turn_enumS x t _ (strType x) (s1.heap.objs.size + 1) s1.heap.objs.size, ⟨⟨.none, he⟩, hit, Nat.succ_ne_self _⟩, fun b hb => ?_, q⟩
    have e' : b = s1.heap.objs.size + 1 ∨ b = s1.heap.objs.size := by simpa using hb
    have hle : s1.heap.objs.size ≤ b := by
      rcases e' with z | z
      · rw [z]; exact Nat.le_add_right _ _
      · rw [z]; exact Nat.le_refl _
    exact I1.fpOk hle (I1.hok.fresh hle)
/-! ### zip(list, text) -/
abbrev zsH1 (h : Heap) (l1 : Addr) : Heap := h.push { cls := .type "list_iterator", data := .fields #[.ref l1, .int 0 0] }
abbrev zsH2 (h : Heap) (l1 : Addr) (x : Str) (t : Tok) : Heap := (zsH1 h l1).push { cls := .type (strIterType x), data := .fields #[.str x t, .int 0 0] }
abbrev zsH3 (h : Heap) (l1 : Addr) (x : Str) (t : Tok) : Heap := (zsH2 h l1 x t).push { cls := .type "tuple", data := .seq #[.ref h.objs.size, .ref (zsH1 h l1).objs.size] }
abbrev zsH4 (h : Heap) (l1 : Addr) (x : Str) (t : Tok) : Heap := (zsH3 h l1 x t).push { cls := .type "tuple", data := .seq #[.none, .none] }
abbrev zsH5 (h : Heap) (l1 : Addr) (x : Str) (t : Tok) : Heap := (zsH4 h l1 x t).push { cls := .type "zip", data := .fields #[.none, .bool false, .bool false, .ref (zsH2 h l1 x t).objs.size, .ref (zsH3 h l1 x t).objs.size] }
set_option maxHeartbeats 1000000 in
theorem meets_zs_new (l1 : Addr) (x : Str) (t : Tok) (xs : Array Value) :
    Meets (Builtin.«zip.__new__» ⟨[.type "zip", .ref l1, .str x t], []⟩) (fun _ R s => s.heap.IsList l1 xs ∧
      R (.ok (.ret (.ref (zsH4 s.heap l1 x t).objs.size))) { s with heap := zsH5 s.heap l1 x t }) :=
  .of_wp fun prog w A R s h => by
    obtain ⟨hp, g, d, tk, os⟩ := s; obtain ⟨hl1, h⟩ := h
    have hsub := sub_zip
    have hL1 : Heap.IsList (Shared.heap ⟨hp, g, d, tk, os⟩) l1 xs := hl1
    wp_walk using wpAny_pyIter_list hL1, wpAny_pyIter_strU
    exact ⟨_, rfl, h⟩
section
variable {prog : Program} {w : World} {A : Around} {E : Value → Shared → Prop} {s : Shared}
theorem call_zs {l1 : Addr} {x : Str} {t : Tok} {xs : Array Value} {Q : Value → Shared → Prop} (hl1 : s.heap.IsList l1 xs)
    (h : ∀ h', IsZip h' (s.heap.objs.size + 4) (s.heap.objs.size + 2) (s.heap.objs.size + 3) .none → IsTupOf2 h' (s.heap.objs.size + 2) (.ref s.heap.objs.size) (.ref (s.heap.objs.size + 1)) →
      IsTupOf2 h' (s.heap.objs.size + 3) .none .none → h'.IsListIter s.heap.objs.size l1 0 → h'.IsStrIter (s.heap.objs.size + 1) (strIterType x) x t 0 → h'.objs.size = s.heap.objs.size + 5 →
      (∀ c o, s.heap.get? c = some o → h'.get? c = some o) → Q (.ref (s.heap.objs.size + 4)) { s with heap := h' }) :
    wpAny (model prog w) A (call (.type "zip") [.ref l1, .str x t]) Q E s := by
  refine callType_new F.called_zip (by decide) (F.typeCall_zip_2 _ _) (F.newCall_zip_2 _ _) (fun obj => F.args_object_init_3 obj _ _) F.entry_zip_new
    (meets_zs_new l1 x t xs) ⟨hl1, ?_⟩
  have z1 : (zsH1 s.heap l1).objs.size = s.heap.objs.size + 1 := Heap.size_push ..
  have z2 : (zsH2 s.heap l1 x t).objs.size = s.heap.objs.size + 2 := by rw [Heap.size_push, z1]
  have z3 : (zsH3 s.heap l1 x t).objs.size = s.heap.objs.size + 3 := by rw [Heap.size_push, z2]
  have z4 : (zsH4 s.heap l1 x t).objs.size = s.heap.objs.size + 4 := by rw [Heap.size_push, z3]
  have z5 : (zsH5 s.heap l1 x t).objs.size = s.heap.objs.size + 5 := by rw [Heap.size_push, z4]
  have g5 : (zsH5 s.heap l1 x t).get? (zsH4 s.heap l1 x t).objs.size = some _ := Heap.get?_push_size _ rfl
  have g4 : (zsH5 s.heap l1 x t).get? (zsH3 s.heap l1 x t).objs.size = some _ := Heap.get?_push_of_some _ (Heap.get?_push_size _ rfl)
  have g3 : (zsH5 s.heap l1 x t).get? (zsH2 s.heap l1 x t).objs.size = some _ := Heap.get?_push_of_some _ (Heap.get?_push_of_some _ (Heap.get?_push_size _ rfl))
  have g2 : (zsH5 s.heap l1 x t).get? (zsH1 s.heap l1).objs.size = some _ := Heap.get?_push_of_some _ (Heap.get?_push_of_some _ (Heap.get?_push_of_some _ (Heap.get?_push_size _ rfl)))
  have g1 : (zsH5 s.heap l1 x t).get? s.heap.objs.size = some _ := Heap.get?_push_of_some _ (Heap.get?_push_of_some _ (Heap.get?_push_of_some _ (Heap.get?_push_of_some _ (Heap.get?_push_size _ rfl))))
  show _ ∧ _
  rw [z2, z3, z4] at g5
  rw [z1, z2] at g3
  rw [z3] at g4
  rw [z1] at g2
  rw [z4]
  exact ⟨⟨_, g5, rfl⟩, h _ g5 g3 g4 ⟨_, g1, rfl, rfl⟩ ⟨_, g2, rfl, rfl⟩ z5 fun c o x =>
    Heap.get?_push_of_some _ (Heap.get?_push_of_some _ (Heap.get?_push_of_some _ (Heap.get?_push_of_some _ (Heap.get?_push_of_some _ x))))⟩
end
def Itzs (K : PySem.W.Frag) (a : Addr) (x : Str) : It :=
  ⟨fun i H => ∃ (xs : List V) (y : V), SqL K H a xs ∧ xs[i]? = some y ∧ i < x.cps.size,
    fun i H v H' => ∃ T y c, v = .ref T ∧ H T = none ∧ H' = upd H T (.tup [y, .str ⟨#[c]⟩]) ∧ (∀ xs, SqL K H a xs → xs[i]? = some y) ∧ x.cps[i]? = some c,
    fun i H => ∃ xs : List V, SqL K H a xs ∧ (xs.length ≤ i ∨ x.cps.size ≤ i)⟩
/-- the cells lie apart -/
structure ZsA (z TI TO i1 i2 a : Addr) : Prop where
  TIz : TI ≠ z
  TOz : TO ≠ z
  TITO : TI ≠ TO
  TIi1 : TI ≠ i1
  TIi2 : TI ≠ i2
  TOi1 : TO ≠ i1
  TOi2 : TO ≠ i2
  i1z : i1 ≠ z
  i2z : i2 ≠ z
  i12 : i1 ≠ i2
  az : a ≠ z
  aTO : a ≠ TO
  ai1 : a ≠ i1
  ai2 : a ≠ i2
theorem ZsA.sep {z TI TO i1 i2 a : Addr} (D : ZsA z TI TO i1 i2 a) : ZipSep2 z TI TO i1 i2 [i1, a] [i2] where
  TIz := D.TIz
  TOz := D.TOz
  TITO := D.TITO
  TIi1 := D.TIi1
  mem1 := by simp
  zf1 := by simp; exact ⟨Ne.symm D.i1z, Ne.symm D.az⟩
  Tf1 := by simp; exact ⟨D.TOi1, Ne.symm D.aTO⟩
  TIi2 := D.TIi2
  mem2 := by simp
  zf2 := by simp; exact Ne.symm D.i2z
  Tf2 := by simp; exact D.TOi2
  sep1_2 := by simp; exact D.i12
  sep2_1 := by simp; exact ⟨Ne.symm D.i12, Ne.symm D.ai2⟩
theorem zs_apart (I a : Nat) (h : a < I) : ZsA (I + 4) (I + 2) (I + 3) I (I + 1) a := by
  constructor <;> (refine PySem.W.neN ?_; omega)
theorem turn_zs {P : Program} {w : World} {K : PySem.W.Frag} {elts : List Expr} {kk : Nat} {tpos : Pos} {a z TI TO i1 i2 : Addr} (x : Str) (t : Tok) (ty : String) (hty : ty = "str_ascii_iterator" ∨ ty = "str_iterator") (D : ZsA z TI TO i1 i2 a) :
    Turn P w K (.Tuple elts kk tpos) (Itzs K a x) [z, TI, TO, i1, i2] z (fun i h => IsZip h z TI TO .none ∧ IsTupOf2 h TI (.ref i1) (.ref i2) ∧ (∃ x y, IsTupOf2 h TO x y) ∧ h.IsListIter i1 a i ∧ h.IsStrIter i2 ty x t i) where
  mem := by simp
  obj := fun i h st c hc => by
    obtain ⟨hz, hTI, ⟨x, y, hTO⟩, ⟨o1, e1, _, d1⟩, ⟨o2, e2, _, d2⟩⟩ := st
    have e' : c = z ∨ c = TI ∨ c = TO ∨ c = i1 ∨ c = i2 := by simpa using hc
    rcases e' with q | q | q | q | q
    · rw [q]; exact ⟨_, hz, fun v q => nomatch q⟩
    · rw [q]; exact ⟨_, hTI, fun v q => nomatch q⟩
    · rw [q]; exact ⟨_, hTO, fun v q => nomatch q⟩
    · rw [q]; exact ⟨o1, e1, fun v q => by rw [d1] at q; cases q⟩
    · rw [q]; exact ⟨o2, e2, fun v q => by rw [d2] at q; cases q⟩
  keep := fun i h h' st k => by
    obtain ⟨hz, hTI, ⟨x, y, hTO⟩, h1, h2⟩ := st
    exact ⟨k z (by simp) _ hz, k TI (by simp) _ hTI, ⟨x, y, k TO (by simp) _ hTO⟩, h1.at fun o q => k i1 (by simp) o q, strIter_at h2 fun o q => k i2 (by simp) o q⟩
  item := by
    intro X hP hw hK hc i pins s σ H E I hf st hg
    subst hP hw hK
    obtain ⟨hz, hTI, ⟨x0, y0, hTO⟩, h1, h2⟩ := st
    obtain ⟨xs, y, hqx, hx, hlt⟩ := hg
    obtain ⟨its, rv, p, _⟩ := I.list hqx
    obtain ⟨u, hu, ru⟩ := rv.get hx
    have hzl : z < s.heap.objs.size := Heap.lt_size hz
    have hu' : its.toArray[i]? = some u := by simpa using hu
    have hls : i < its.toArray.size := (Array.getElem?_eq_some_iff.mp hu').1
    have hhd : X.A.in1.handled = none := I.ok.hd hc
    refine wpAny_pyNext_zipD2_item D.sep (Draws.list hhd i1 a D.ai1 its.toArray) (draws_str hhd i2 x t ty hty) hz hTI hTO ⟨h1, p.isList⟩ h2 hls hlt fun v1 v2 h' tk hv1 hv2 z' TO' st1 st2 hT hsz hk => ?_
    have e1 : v1 = u := Option.some.inj (hv1.symm.trans hu')
    subst e1
    obtain ⟨c, tc, hcx, rfl⟩ := hv2
    refine ⟨_, rfl, wpAny_letOwnedTupleGo_zip (s := { s with heap := h', toks := tk }) z' fun h'' z'' sb => ?_⟩
    have hT2 : h''.get? s.heap.objs.size = some { cls := .type "tuple", data := .seq #[v1, .str ⟨#[c]⟩ tc] } := (sb.2 _ (Nat.ne_of_gt hzl)).trans hT
    have new : ObjOk X.prog X.w (upd H s.heap.objs.size (.tup [y, .str ⟨#[c]⟩])) h'' s.heap.objs.size (.tup [y, .str ⟨#[c]⟩]) :=
      ⟨by show 2 ≤ sizeLine; decide, [v1, .str ⟨#[c]⟩ tc], .cons ru (.cons ⟨tc, rfl⟩ .nil), ⟨_, hT2, rfl, _, rfl⟩⟩
    have I1 : Inv X pins σ (upd H s.heap.objs.size (.tup [y, .str ⟨#[c]⟩])) { s with heap := h'', toks := tk } :=
      I.turnedNew (ch := [z, TI, TO, i1, i2]) (fun c o hb q => (sb.2 c (fun q' => hb (by simp [q']))).trans (hk c o (fun q' => hb (by simp [q'])) (fun q' => hb (by simp [q'])) (fun q' => hb (by simp [q'])) (fun q' => hb (by simp [q'])) q)) hf (Nat.le_refl _) new
    refine ⟨.ref s.heap.objs.size, _, I1, rfl, ⟨_, y, c, rfl, I.hok.fresh (Nat.le_refl _), rfl, fun l hl => by rw [I.list_inj hl hqx]; exact hx, hcx⟩, ⟨z'', ?_, ⟨v1, .str ⟨#[c]⟩ tc, ?_⟩, ?_, ?_⟩, fun c hcm => ?_⟩
    · exact (sb.2 _ D.TIz).trans (hk _ _ D.TIz D.TITO D.TIi1 D.TIi2 hTI)
    · exact (sb.2 _ D.TOz).trans TO'
    · exact st1.1.at fun o q => (sb.2 _ D.i1z).trans q
    · exact strIter_at st2 fun o q => (sb.2 _ D.i2z).trans q
    · have hlt : c < s.heap.objs.size := by
        have e' : c = z ∨ c = TI ∨ c = TO ∨ c = i1 ∨ c = i2 := by simpa using hcm
        rcases e' with q | q | q | q | q
        · rw [q]; exact hzl
        · rw [q]; exact Heap.lt_size hTI
        · rw [q]; exact Heap.lt_size hTO
        · rw [q]; obtain ⟨_, e1, _⟩ := h1; exact Heap.lt_size e1
        · rw [q]; obtain ⟨_, e2, _⟩ := h2; exact Heap.lt_size e2
      rw [upd_ne (Nat.ne_of_lt hlt)]
      exact (hf c hcm).1
  done := by
    intro X hP hw hK hc i pins s σ H E I hf st hg
    subst hP hw hK
    obtain ⟨hz, hTI, ⟨x0, y0, hTO⟩, h1, h2⟩ := st
    obtain ⟨xs, hqx, hend⟩ := hg
    obtain ⟨its, rv, p, _⟩ := I.list hqx
    have l1 := rv.length
    have hhd : X.A.in1.handled = none := I.ok.hd hc
    have fin : ∀ (h' : Heap) (tk : Nat), (∀ c o, c ≠ z → c ≠ TO → c ≠ i1 → c ≠ i2 → s.heap.get? c = some o → h'.get? c = some o) → (none : Option Value) = none ∧ Inv X pins σ H { s with heap := h', toks := tk } := fun h' tk hk =>
      ⟨rfl, I.turnedL (ch := [z, TI, TO, i1, i2]) (fun c o hb q => hk c o (fun q' => hb (by simp [q'])) (fun q' => hb (by simp [q'])) (fun q' => hb (by simp [q'])) (fun q' => hb (by simp [q'])) q) hf⟩
    by_cases c1 : its.toArray.size ≤ i
    · have e1 : its.toArray[i]? = none := Array.getElem?_eq_none c1
      by_cases c2 : x.cps.size ≤ i
      · exact wpAny_pyNext_zipD2_end D.sep (draws_listEnd hhd i1 a its.toArray i e1) (draws_strEnd hhd i2 x t ty hty i (Array.getElem?_eq_none c2)) hz hTI hTO ⟨rfl, h1, p.isList⟩ ⟨rfl, h2⟩ (Nat.le_refl _) (Nat.le_refl _) (.inl rfl) fin
      · exact wpAny_pyNext_zipD2_end D.sep (draws_listEnd hhd i1 a its.toArray i e1) (draws_str hhd i2 x t ty hty) hz hTI hTO ⟨rfl, h1, p.isList⟩ h2 (Nat.le_refl _) (by omega) (.inl rfl) fin
    · have c2 : x.cps.size ≤ i := by
        rcases hend with q | q
        · exfalso; apply c1; simp; omega
        · exact q
      exact wpAny_pyNext_zipD2_end D.sep (Draws.list hhd i1 a D.ai1 its.toArray) (draws_strEnd hhd i2 x t ty hty i (Array.getElem?_eq_none c2)) hz hTI hTO ⟨h1, p.isList⟩ ⟨rfl, h2⟩ (by omega) (Nat.le_refl _) (.inr rfl) fin
  self := fun A i s Q E st h => wpAny_pyIter_zip st.1 h
def iZipS (K : PySem.W.Frag) (ta : TA) : TI := fun σ H R => ta σ H fun vs H1 => ∃ a xs x, vs = [.ref a, .str x] ∧ SqL K H1 a xs ∧ R (Itzs K a x) H1
theorem pi_zs {X : Cx} {e e2 : Expr} {ta : TA} {p pos tpos : Pos} {elts : List Expr} {kk : Nat} (hg : Gl X "zip") (hm : X.mg "zip" = none) (ha : PA X [e, e2] ta)
    (hs : starEach [e, e2] X.env = (false, eval e X.env) :: starEach [e2] X.env := by rfl) (hpl : (backTo pos (starEach [e2] X.env)).any (·.1) = false := by rfl) :
    PI X (.Tuple elts kk tpos) (.Call (.Name "zip" p) [e, e2] [] pos) (iZipS X.K ta) := by
  refine ⟨fun pins s σ H R I h => ?_⟩
  refine Call_ (ld_blt I hg hm PyProof.Rows.boot_zip (PyProof.Rows.callWith_type1 (thn (ha.run pos pins s σ H _ I h) fun us s1 ⟨vs, H1, I1, r1, q1⟩ => ?_) hs hpl))
  obtain ⟨a, xs, x, ex, hqx, q⟩ := q1
  subst ex
  cases r1 with
  | cons r rr =>
    cases rr with
    | cons r' rr =>
      cases rr
      cases r
      obtain ⟨t, rfl⟩ := r'
      obtain ⟨its, rv, p1, _⟩ := I1.list hqx
      have la : a < s1.heap.objs.size := p1.lt
      refine call_zs p1.isList fun h' hz hTI hTO h1 h2 hsz hk => wpAny_pyIter_zip hz ?_
      have I2 : Inv X pins σ H1 { s1 with heap := h' } := I1.kept (t' := s1.toks) hk
      refine ⟨s1.heap.objs.size + 4, [s1.heap.objs.size + 4, s1.heap.objs.size + 2, s1.heap.objs.size + 3, s1.heap.objs.size, s1.heap.objs.size + 1], _, _, H1, rfl, I2, turn_zs x t _ (strType x) (zs_apart s1.heap.objs.size a la), ⟨hz, hTI, ⟨_, _, hTO⟩, h1, h2⟩, fun c hcm => ?_, q⟩
      have e' : c = s1.heap.objs.size + 4 ∨ c = s1.heap.objs.size + 2 ∨ c = s1.heap.objs.size + 3 ∨ c = s1.heap.objs.size ∨ c = s1.heap.objs.size + 1 := by simpa using hcm
      have hle : s1.heap.objs.size ≤ c := by
        rcases e' with z | z | z | z | z
        · rw [z]; exact Nat.le_add_right _ _
        · rw [z]; exact Nat.le_add_right _ _
        · rw [z]; exact Nat.le_add_right _ _
        · rw [z]; exact Nat.le_refl _
        · rw [z]; exact Nat.le_add_right _ _
      exact I1.fpOk hle (I1.hok.fresh hle)
end FL

/-! FL30: enumerate and zip, over the values U. -/
namespace FL
open PySem L2 PyProof.Rows
def enL (us : List U) : List U := us.mapIdx fun i u => .tup [.int (i : Nat), u]
def zpL (us : List U) (l : List Nat) : List U := List.zipWith (fun u c => .tup [u, .str [c]]) us l
theorem enL_get {us : List U} {k : Nat} : (enL us)[k]? = (us[k]?).map fun u => .tup [.int (k : Nat), u] := by unfold enL; rw [List.getElem?_mapIdx]
theorem enL_len {us : List U} : (enL us).length = us.length := by simp [enL]
theorem zpL_get {us : List U} {l : List Nat} {k : Nat} : (zpL us l)[k]? = (match us[k]?, l[k]? with | some u, some c => some (.tup [u, .str [c]]) | _, _ => none) := by
  unfold zpL
  rw [List.getElem?_zipWith]
  cases us[k]? <;> cases l[k]? <;> rfl
/-- enumerate(e) -/
def enU : U → List Ob → Rs (Itb × Nat) := fun u G1 => match u with
  | .str l => .ok (.items (enL (l.map fun c => .str [c])), l.length) G1
  | .lst us => .ok (.items (enL us), us.length) G1
  | _ => .bad
def enI (m : ME) : MI := fun s G => (m s G).bind enU
/-- zip(e, text) -/
def zpU (us : List U) (G : List Ob) : Rs (Itb × Nat) := match us with
  | [.lst us, .str l] => .ok (.items (zpL us l), min us.length l.length) G
  | _ => .bad
section
variable {T : Tb} {ρ0 : List Addr} {Z0 : Addr → Prop} {H0 : Hp}
theorem tup_new {ρ : List Addr} {Z : Addr → Prop} {H : Hp} {G : List Ob} (rl : Rl T ρ Z G H) {B : Addr} {vs : List V} {us : List U} (h : H B = none) (r : Reps T ρ Z H vs us) : Ex ρ Z H ρ Z (upd H B (.tup vs)) ∧ Rl T ρ Z G (upd H B (.tup vs)) ∧ Rep T ρ Z (upd H B (.tup vs)) (.ref B) (.tup us) := by
  have x : Ex ρ Z H ρ Z (upd H B (.tup vs)) := ex_new h
  exact ⟨x, rl.new h, .tup (.inl (.inl upd_same)) (r.ex rl.zm x)⟩
theorem ites_ok {l : List Nat} : ItOk T (.items (enL (l.map fun c => .str [c]))) (Ites (SS l)) ρ0 Z0 H0 := by
  intro ρ Z G H hp fz rl k
  have hs : (SS l).cps.size = l.length := by simp [SS]
  constructor
  · intro y e
    simp only [itAt] at e
    have e := Option.some.inj e
    rw [enL_get, List.getElem?_map] at e
    cases e2 : l[k]? with
    | none => rw [e2] at e; cases e
    | some c =>
      rw [e2] at e
      cases e
      refine ⟨by show k < (SS l).cps.size; rw [hs]; exact (List.getElem?_eq_some_iff.mp e2).1, ?_⟩
      rintro x H' ⟨B, c', rfl, hB, rfl, hc⟩
      have : c' = c := by
        simp [SS] at hc
        rw [e2] at hc
        exact (Option.some.inj hc).symm
      subst this
      exact tup_new rl hB (.cons (.int _) (.cons (Rep.ss [c']) .nil))
  · intro e
    simp only [itAt] at e
    have e := Option.some.inj e
    rw [enL_get, List.getElem?_map] at e
    show (SS l).cps.size ≤ k
    rw [hs]
    cases e2 : l[k]? with
    | none => exact List.getElem?_eq_none_iff.mp e2
    | some c => rw [e2] at e; cases e
theorem itel_ok {a : Addr} {us : List U} {G0 : List Ob} (rl0 : Rl T ρ0 Z0 G0 H0) (r : Rep T ρ0 Z0 H0 (.ref a) (.lst us)) : ItOk T (.items (enL us)) (Ite T.K a) ρ0 Z0 H0 := by
  intro ρ Z G H hp fz rl k
  have rv := seqOf_mono rl0 r hp fz
  obtain ⟨a', vs, ea, h1, h2⟩ := lstOf_at rl rv (show lstOf G (.lst us) = some us from rfl)
  cases ea
  constructor
  · intro y e
    simp only [itAt] at e
    have e := Option.some.inj e
    rw [enL_get] at e
    cases e2 : us[k]? with
    | none => rw [e2] at e; cases e
    | some u =>
      rw [e2] at e
      cases e
      obtain ⟨v, hv, rv'⟩ := h2.get e2
      refine ⟨⟨vs, v, h1, hv⟩, ?_⟩
      rintro x H' ⟨B, v', rfl, hB, rfl, hy⟩
      have : v' = v := by have := hy vs h1; rw [hv] at this; exact (Option.some.inj this).symm
      subst this
      exact tup_new rl hB (.cons (.int _) (.cons rv' .nil))
  · intro e
    simp only [itAt] at e
    have e := Option.some.inj e
    rw [enL_get] at e
    refine ⟨vs, h1, ?_⟩
    rw [h2.length]
    cases e2 : us[k]? with
    | none => exact List.getElem?_eq_none_iff.mp e2
    | some c => rw [e2] at e; cases e
theorem itzs_ok {a : Addr} {us : List U} {l : List Nat} {G0 : List Ob} (rl0 : Rl T ρ0 Z0 G0 H0) (r : Rep T ρ0 Z0 H0 (.ref a) (.lst us)) : ItOk T (.items (zpL us l)) (Itzs T.K a (SS l)) ρ0 Z0 H0 := by
  intro ρ Z G H hp fz rl k
  have rv := seqOf_mono rl0 r hp fz
  have hs : (SS l).cps.size = l.length := by simp [SS]
  obtain ⟨a', vs, ea, h1, h2⟩ := lstOf_at rl rv (show lstOf G (.lst us) = some us from rfl)
  cases ea
  constructor
  · intro y e
    simp only [itAt] at e
    have e := Option.some.inj e
    rw [zpL_get] at e
    cases e2 : us[k]? with
    | none => rw [e2] at e; cases e
    | some u =>
      cases e3 : l[k]? with
      | none => rw [e2, e3] at e; cases e
      | some c =>
        rw [e2, e3] at e
        cases e
        obtain ⟨v, hv, rv'⟩ := h2.get e2
        refine ⟨⟨vs, v, h1, hv, by rw [hs]; exact (List.getElem?_eq_some_iff.mp e3).1⟩, ?_⟩
        rintro x H' ⟨B, v', c', rfl, hB, rfl, hy, hc⟩
        have : v' = v := by have := hy vs h1; rw [hv] at this; exact (Option.some.inj this).symm
        subst this
        have : c' = c := by
          simp [SS] at hc
          rw [e3] at hc
          exact (Option.some.inj hc).symm
        subst this
        exact tup_new rl hB (.cons rv' (.cons (Rep.ss [c']) .nil))
  · intro e
    simp only [itAt] at e
    have e := Option.some.inj e
    rw [zpL_get] at e
    refine ⟨vs, h1, ?_⟩
    rw [h2.length, hs]
    cases e2 : us[k]? with
    | none => exact .inl (List.getElem?_eq_none_iff.mp e2)
    | some c =>
      cases e3 : l[k]? with
      | none => exact .inr (List.getElem?_eq_none_iff.mp e3)
      | some c => rw [e2, e3] at e; cases e
end
section
variable {X : Cx} {T : Tb} {W : WX} {p pos tpos : Pos} {a b : Expr} {ma : ME} {mas : MA} {elts : List Expr} {kk : Nat}
theorem fi_enum (hT : X.K = T.K) (hg : Gl X "enumerate") (hm : X.mg "enumerate" = none) (h : PE X a (tE T W ma)) (h1 : noStar a = true) : PI X (.Tuple elts kk tpos) (.Call (.Name "enumerate" p) [a] [] pos) (tI T W (enI ma)) := by
  have ha : PA X [a] (tA T W (consA ma nilA)) := fa_cons h fa_nil (star_cons h1)
  have hst : starEach [a] X.env = [(false, eval a X.env)] := star_cons h1
  refine PI.imp (PI.or (pi_enumS hg hm ha hst) (pi_enum hg hm ha hst)) fun σ H R ⟨s, G, ρ, Z, sm, q⟩ => ?_
  have key : ∀ k : List V → Hp → Prop, (∀ u G1 v H1 ρ1 Z1, ma s G = .ok u G1 → Ex ρ Z H ρ1 Z1 H1 → Sm T σ H1 s G1 ρ1 Z1 → Rep T ρ1 Z1 H1 v u → RI T W σ H1 ρ1 Z1 R (enU u G1) → k [v] H1) → tA T W (consA ma nilA) σ H k := fun k hk => by
    refine ⟨s, G, ρ, Z, sm, ?_⟩
    unfold enI at q
    cases e : ma s G with
    | bad => rw [e] at q; exact q.elim
    | exc x G1 =>
      rw [e] at q
      unfold consA
      rw [e]
      exact q
    | ok u G1 =>
      rw [e] at q
      have q : RI T W σ H ρ Z R (enU u G1) := q
      rw [show consA ma nilA s G = .ok [u] G1 by unfold consA nilA; rw [e]; rfl]
      intro vs H1 ρ1 Z1 x1 rl1 rv
      cases rv with
      | cons rv rr =>
        cases rr
        refine hk u G1 _ H1 ρ1 Z1 e x1 (sm.ex x1 rl1) rv ?_
        revert q
        cases u with
        | str l => exact fun q J H2 ρ2 Z2 y => q J H2 ρ2 Z2 (x1.trans y)
        | lst l => exact fun q J H2 ρ2 Z2 y => q J H2 ρ2 Z2 (x1.trans y)
        | _ => exact fun q => q.elim
  cases e : ma s G with
  | ok u G1 =>
    cases u with
    | str l =>
      refine .inl (key _ fun u' G2 v H1 ρ1 Z1 e2 x1 sm1 r1 q1 => ?_)
      rw [e] at e2
      cases e2
      exact ⟨SS l, by rw [r1.inv_str], q1 _ H1 ρ1 Z1 Ex.refl sm1.rl ites_ok⟩
    | lst us =>
      refine .inr (key _ fun u' G2 v H1 ρ1 Z1 e2 x1 sm1 r1 q1 => ?_)
      rw [e] at e2
      cases e2
      obtain ⟨p, vs, rfl, h1, h2⟩ := lstOf_at sm1.rl r1 (show lstOf G1 (.lst us) = some us from rfl)
      exact ⟨p, vs, rfl, hT ▸ h1, hT ▸ q1 _ H1 ρ1 Z1 Ex.refl sm1.rl (itel_ok sm1.rl r1)⟩
    | _ => unfold enI at q; rw [e] at q; exact q.elim
  | exc x G1 => exact .inl (key _ fun u' G2 v H1 ρ1 Z1 e2 => by rw [e] at e2; cases e2)
  | bad => unfold enI at q; rw [e] at q; exact q.elim
theorem fi_zip (hT : X.K = T.K) (hg : Gl X "zip") (hm : X.mg "zip" = none) (ha : PA X [a, b] (tA T W mas)) (h1 : noStar a = true) (h2 : noStar b = true) : PI X (.Tuple elts kk tpos) (.Call (.Name "zip" p) [a, b] [] pos) (tI T W (preI zpU mas)) := by
  have hst : starEach [a, b] X.env = (false, eval a X.env) :: starEach [b] X.env := star_cons h1
  have hpl : (backTo pos (starEach [b] X.env)).any (·.1) = false := by
    rw [show starEach [b] X.env = [(false, eval b X.env)] from star_cons h2]
    rfl
  refine PI.imp (pi_zs hg hm ha hst hpl) fun σ H R ⟨s, G, ρ, Z, sm, q⟩ => ?_
  refine tA_bindI sm q fun us G1 vs H1 ρ1 Z1 x1 sm1 r1 q1 => ?_
  unfold zpU at q1
  split at q1
  · rename_i us l
    cases r1 with
    | cons r1 rr =>
      cases rr with
      | cons r2 rr =>
        cases rr
        obtain ⟨p, vs, rfl, h1, h2⟩ := lstOf_at sm1.rl r1 (show lstOf G1 (.lst us) = some us from rfl)
        exact ⟨p, vs, SS l, by rw [r2.inv_str], hT ▸ h1, hT ▸ q1 _ H1 ρ1 Z1 Ex.refl sm1.rl (itzs_ok sm1.rl r1)⟩
  · exact q1.elim
end
end FL

/-! FL31: {}; len of an instance with its own __len__. -/
namespace FL
open PySem L2 PyProof.Rows
def dctM (mu : Bool) : ME := fun _ G => if mu then .ok (.ref G.length) (G ++ [.dct []]) else .ok (.dct []) G
section
variable {X : Cx} {T : Tb} {W : WX} {p pos : Pos} {e : Expr} {ma : ME} {k : Nat}
theorem fe_dct {mu : Bool} : PE X (.Dict [] [] pos) (tE T W (dctM mu)) :=
  PE.imp pe_dnewK fun σ H Q ⟨s, G, ρ, Z, sm, q⟩ => by
    intro a ha
    unfold dctM at q
    cases mu with
    | false => exact q _ _ ρ Z (ex_new ha) (sm.rl.new ha) (.dct upd_same (sm.rl.nz ha) .nil)
    | true =>
      refine q _ _ _ _ (ex_cell sm.rl ha) (sm.rl.cell ha trivial ⟨.inr rfl, [], upd_same, .nil⟩) (.ref ?_)
      rw [List.getElem?_append_right (by rw [sm.rl.len]; exact Nat.le_refl _)]
      simp [sm.rl.len]
/-- the facts of a class with its own __len__ -/
structure LnOk (P : Program) (w : World) (K : PySem.W.Frag) (mg : Str → Option Value) (base : Heap) (T : Tb) (k : Nat) (c : Nat) (r : RunD) : Prop where
  cl : ∃ C f, T.cls[c]? = some C ∧ PySem.W.findIn K (.ref C) "__len__" = some (some (.ref f)) ∧ PySem.W.isFn K (.ref f) = true ∧ DefOk P w K mg base T k f 1 r
def lenX (lt : Nat → Option RunD) : RunD := fun us G => match us with
  | [u] => match insOf G u with
    | some (c, _) => (match lt c with
      | some r => (match arM 1 r [u] G with
        | .ok (.int n) G1 => if 0 ≤ n ∧ n < 2 ^ 63 then .ok (.int n) G1 else .bad
        | _ => .bad)
      | none => .bad)
    | none => lenU us G
  | _ => .bad
def rOwnLen (T : Tb) (r : RunD) (C : Addr) : List V → Hp → VK → Prop := fun xs H Q => ∃ a dx fs, xs = [.ref a] ∧ H a = some (.ins C dx fs) ∧ spD T 1 r [.ref a] H (fun v H' => ∃ n : Int, v = .int n ∧ 0 ≤ n ∧ n < 2 ^ 63 ∧ Q (.int n) H') E0
theorem call_ownLen {C f : Addr} {r : RunD} (hl : PySem.W.findIn X.K (.ref C) "__len__" = some (some (.ref f))) (hf : PySem.W.isFn X.K (.ref f) = true) (F : DefOk X.prog X.w X.K X.mg X.base T k f 1 r) (hr : Room (k + 1) X.A) : CallR X (.builtin "len") (rOwnLen T r C) := by
  intro pins s σ H xs us Q I r1 ⟨a, dx, fs, ex, ha, hsp⟩
  subst ex
  obtain rfl := Vals.ref1 r1
  obtain ⟨fd, ps, hbi, hlp, F⟩ := F.ex
  obtain ⟨mA, J, _⟩ := ins_get I.hok ha
  obtain ⟨od, J, _⟩ := J.look
  obtain ⟨m, hF⟩ := I.fr
  have e0 : Env0 X.prog X.w X.K X.mg X.base X.A.in1 X.stack s H := by
    have e := I.env0
    exact ⟨e.frames, e.mod, e.bs, e.bsz, e.funs, e.frf, e.hok, e.bare⟩
  refine PySem.W.len_K hF I.ok.mod.kin J hl hf ?_
  refine wpAny_call (codeAny_mono (F.run X.A.in1 X.stack s H ⟨[.ref a], []⟩ [.ref a] [.ref a] _ E0 hr.in1 e0 (by
    have := hbi s [.ref a] I.kIn (by simpa using hlp.symm)
    simpa using this) (.cons rfl .nil) hsp) fun r s' hq => ?_)
  cases r with
  | error e => exact passL pins σ H s e s' I hq
  | ok fl =>
    cases fl with
    | ret w =>
      obtain ⟨z, H', I', rz, n, ez, h0, h1, ex⟩ := I.after hq
      subst ez
      obtain ⟨t, rfl⟩ := rz
      exact ⟨⟨h0, h1⟩, .int n, H', I'.tok _, ⟨_, rfl⟩, ex⟩
    | next => exact False.elim hq
    | brk => exact False.elim hq
    | cont => exact False.elim hq
theorem CallR.ex {ι : Sort _} {f : Value} {r : ι → List V → Hp → VK → Prop} (h : ∀ i, CallR X f (r i)) : CallR X f (fun xs H Q => ∃ i, r i xs H Q) := fun pins s σ H xs us Q I r1 ⟨i, q⟩ => h i pins s σ H xs us Q I r1 q
def rLenX (X : Cx) (T : Tb) (lt : Nat → Option RunD) : List V → Hp → VK → Prop := fun xs H Q => (∃ i : { z : RunD × Addr // ∃ c, lt c = some z.1 ∧ T.cls[c]? = some z.2 }, rOwnLen T i.1.1 i.1.2 xs H Q) ∨ rLen X.K xs H Q
theorem cr_lenX {lt : Nat → Option RunD} (h : ∀ c r, lt c = some r → LnOk X.prog X.w X.K X.mg X.base T k c r) (hr : Room (k + 1) X.A) : CallR X (.builtin "len") (rLenX X T lt) := by
  refine CallR.or (CallR.ex fun ⟨⟨r, C⟩, c, h1, h2⟩ => ?_) call_len
  obtain ⟨C', f, g1, g2, g3, g4⟩ := (h c r h1).cl
  have eC : C' = C := by rw [h2] at g1; exact (Option.some.inj g1).symm
  subst eC
  exact call_ownLen g2 g3 g4 hr
theorem oc_lenX {lt : Nat → Option RunD} (hT : X.K = T.K) : OC T W (lenX lt) (rLenX X T lt) := by
  intro σ H s G ρ Z vs us Q sm r1 h
  unfold lenX at h
  split at h
  · rename_i u
    split at h
    · rename_i c l e
      split at h
      · rename_i r hr
        obtain ⟨v, rfl, rv⟩ := r1.inv1
        obtain ⟨a, C, dx, fv, rfl, h1, h2, h3⟩ := insOf_at sm.rl rv e
        refine .inl ⟨⟨⟨r, C⟩, c, hr, h2⟩, a, dx, fv, rfl, h1, ?_⟩
        unfold arM at h
        rw [if_pos (show [u].length = 1 from rfl)] at h
        refine ⟨[u], G, ρ, Z, sm.rl, r1, rfl, ?_⟩
        show RD T H ρ Z _ E0 (r [u] G)
        cases e2 : r [u] G with
        | ok w G' =>
          rw [e2] at h
          cases w with
          | int n =>
            simp only at h
            by_cases hn : 0 ≤ n ∧ n < 2 ^ 63
            · rw [if_pos hn] at h
              exact fun v H' ρ' Z' x rl rv => ⟨n, rv.inv_int, hn.1, hn.2, h _ H' ρ' Z' x rl (.int n)⟩
            · rw [if_neg hn] at h
              exact h.elim
          | _ => exact h.elim
        | exc x G' => rw [e2] at h; exact h.elim
        | bad => rw [e2] at h; exact h.elim
      · exact h.elim
    · exact .inr (oc_len hT σ H s G ρ Z vs _ Q sm r1 h)
  · exact h.elim
theorem fe_len {lt : Nat → Option RunD} {x : Str} {es : List Expr} {mas : MA} (hx : x = ("len" : Str)) (h : ∀ c r, lt c = some r → LnOk X.prog X.w X.K X.mg X.base T k c r) (hr : Room (k + 1) X.A) (hT : X.K = T.K) (hg : Gl X x) (hm : X.mg x = none) (ha : PA X (e :: es) (tA T W mas)) (hst : (e :: es).all noStar = true) :
    PE X (.Call (.Name x p) (e :: es) [] pos) (tE T W (preM (lenX lt) mas)) := by
  subst hx
  exact fe_callB (cr_lenX h hr) (oc_lenX hT) hg hm (by decide +kernel) ha (by decide) (by decide) hst
end
end FL

/-! FL23: try with several clauses, each with a name or without. -/
namespace FL
open PySem L2 PyProof.Rows
/-- a clause: its class, its name's slot, its suite -/
structure Hd where
  c : Value
  i : Option Nat
  ts : Addr → Value → Option Addr → TS
def offD (i : Nat) (D : Ends) : Ends := { nx := fun τ G => D.nx (τ.set i none) G, rt := D.rt, bk := fun τ G => D.bk (τ.set i none) G, ct := fun τ G => D.ct (τ.set i none) G }
def runHd (h : Hd) (a : Addr) (cls : Value) (d : Option Addr) (D : Ends) (σ : L2.St) (H : Hp) : Prop := match h.i with
  | none => h.ts a cls d D σ H
  | some i => h.ts a cls d (offD i D) (σ.set i (some (.ref a))) H
def wAll (K : PySem.W.Frag) (Wo : WX) (D : Ends) : List Hd → WX
  | [] => Wo
  | h :: r => fun cls d σ H => ∃ b, PySem.W.exmOne K cls h.c = some b ∧ (b = true → ∀ a, H a = none → runHd h a cls d D σ H) ∧ (b = false → wAll K Wo D r cls d σ H)
abbrev SuiteOk (X : Cx) (ss : List Stmt) (ts : Addr → Value → Option Addr → TS) : Prop :=
  ∀ (a : Addr) (oe : Obj) (cls : Value) (d : Option Addr) (pn : List (Addr × Obj)), Zc cls d oe → (∃ vs, oe.data = .fields vs) → PSs (X.suite a ((a, oe) :: pn)) ss (ts a cls d)
inductive HAll (X : Cx) : List ExceptHandler → List Hd → Prop
  | nil : HAll X [] []
  | no {x : Str} {c : Value} {ts : Addr → Value → Option Addr → TS} {s0 : Stmt} {ss : List Stmt} {p q : Pos} {es : List ExceptHandler} {l : List Hd} : Names X x c → SuiteOk X (s0 :: ss) ts → HAll X es l →
      HAll X (.ExceptHandler (some (.Name x p)) none (s0 :: ss) q :: es) (⟨c, none, ts⟩ :: l)
  | as {x n : Str} {i : Nat} {c : Value} {ts : Addr → Value → Option Addr → TS} {s0 : Stmt} {ss : List Stmt} {p q : Pos} {es : List ExceptHandler} {l : List Hd} : Names X x c → X.N[i]? = some n → X.env.kindOf n = some .local → SuiteOk X (s0 :: ss) ts → HAll X es l →
      HAll X (.ExceptHandler (some (.Name x p)) (some n) (s0 :: ss) q :: es) (⟨c, some i, ts⟩ :: l)
section
variable {X : Cx} {pins : List (Addr × Obj)} {σ τ : L2.St} {H : Hp} {D : Ends}
/-- the suite is done, its name (if any) has gone -/
theorem suite_end {f : Flow} {a : Addr} {q : Addr × Obj} {s : Shared} (ok : X.Ok) (h : SP (X.suite a (q :: (X.pn ++ pins))) [] D f s) : SP X pins D f s := by
  cases f with
  | next => exact h.imp fun _ ⟨G, J, r⟩ => ⟨G, J.unsuite ok, r⟩
  | brk => exact h.imp fun _ ⟨G, J, r⟩ => ⟨G, J.unsuite ok, r⟩
  | cont => exact h.imp fun _ ⟨G, J, r⟩ => ⟨G, J.unsuite ok, r⟩
  | ret u => exact h.imp fun _ ⟨σ', G, J, r⟩ => ⟨σ', G, J.unsuite ok, r⟩
theorem suite_gone {f : Flow} {a : Addr} {q : Addr × Obj} {s : Shared} {M : Model} {A : Around} {E : Value → Shared → Prop} {i : Nat} {n : Str} {pos : Pos} (ok : X.Ok) (hN : X.N.Nodup) (hi : X.N[i]? = some n) (hl : X.env.kindOf n = some .local)
    (h : SP (X.suite a (q :: (X.pn ++ pins))) [] (offD i D) f s) : wpAny M A (do bindName X.env n .none; unbindBehindTheSuite X.env n pos) (fun _ s2 => SP X pins D f s2) E s := by
  cases f with
  | next =>
    obtain ⟨σ', G, J, r⟩ := h
    exact gone_ok (J.unsuite ok) hN hi hl fun _ J2 => ⟨_, _, J2, r⟩
  | brk =>
    obtain ⟨σ', G, J, r⟩ := h
    exact gone_ok (J.unsuite ok) hN hi hl fun _ J2 => ⟨_, _, J2, r⟩
  | cont =>
    obtain ⟨σ', G, J, r⟩ := h
    exact gone_ok (J.unsuite ok) hN hi hl fun _ J2 => ⟨_, _, J2, r⟩
  | ret u =>
    obtain ⟨v, σ', G, J, r1, r⟩ := h
    exact gone_ok (J.unsuite ok) hN hi hl fun _ J2 => ⟨_, _, _, J2, r1, r⟩
theorem try_end {f : Flow} {s : Shared} {xe : Value → Shared → Prop} (ok : X.Ok) (h : SP (X.tr (X.pn ++ pins) xe) [] D f s) : SP X pins D f s := by
  cases f with
  | next => exact h.imp fun _ ⟨G, J, r⟩ => ⟨G, J.ofTry ok, r⟩
  | brk => exact h.imp fun _ ⟨G, J, r⟩ => ⟨G, J.ofTry ok, r⟩
  | cont => exact h.imp fun _ ⟨G, J, r⟩ => ⟨G, J.ofTry ok, r⟩
  | ret u => exact h.imp fun _ ⟨σ', G, J, r⟩ => ⟨σ', G, J.ofTry ok, r⟩
variable {body : List Stmt} {e0 : ExceptHandler} {es : List ExceptHandler} {l : List Hd} {pos : Pos} {tb : WX → TS} {Wo : WX}
theorem ps_try_all (hs : X.stack = X.env :: X.outer) (hf : X.env.frame = some X.env.locals) (hN : X.N.Nodup) (tk : Takes X Wo)
    (hb : ∀ (W : WX) (pn : List (Addr × Obj)) (xe : Value → Shared → Prop), Takes (X.tr pn xe) W → PassesOwn (model X.prog X.w) X.A X.env xe → PSs (X.tr pn xe) body (tb W)) (hh : HAll X (e0 :: es) l) :
    PS X (.Try body (e0 :: es) [] [] pos) (fun D σ H => tb (wAll X.K Wo D l) D σ H) := by
  refine ⟨fun pins s σ H D I h => wpAny_Try_except ?_⟩
  have ok := I.ok
  have fr : X.A.frames = some (X.env :: X.outer) := hs ▸ ok.frames
  have run := (hb (wAll X.K Wo D l) (X.pn ++ pins) (fun e s1 => wpAny (model X.prog X.w) X.A (noteFrame e X.env) (fun _ s2 => wpAny (model X.prog X.w) X.A (setFlight e none) (fun _ s3 => wpAny (model X.prog X.w) X.A (handleBy e X.env (e0 :: es)) (SP X pins D) X.xe s3) X.xe s2) X.xe s1)
    (fun u s1 xx => ?_) PassesOwn.looking).run [] s σ H D (I.toTry _) h
  · refine wpAny_mono run (fun f s1 q => ?_) fun _ _ z => z
    have q2 := try_end ok q
    cases f with
    | next => exact wpAny_execs_nil q2
    | brk => exact q2
    | cont => exact q2
    | ret u => exact q2
  · -- caught
    obtain ⟨a, B, sI, pins1, σ1, H1, cls, d, rfl, J0, nb, up, sky, na, os, ag, w⟩ := xx
    have J := J0.ofTry (pins := pins) ok
    refine Sky.land Zc.steady fr hf (hs ▸ sky) fun g3 fl3 up3 => ?_
    have up' := up.trans up3
    have J3 : Inv X pins σ1 H1 { s1 with heap := g3 } := J.landed nb fl3.1 up' os ag
    have K3 := J3.kIn
    have apart : ∀ {g : Heap} {o : Obj} {vs : Array Value}, g.FunFrames B (X.env :: X.outer) → g.get? a = some o → o.data = .fields vs → a ≠ X.env.locals ∧ a ∉ X.fs := fun {g o vs} ff e dd => by
      have no : a ∉ frs (X.env :: X.outer) := fun hm => by
        obtain ⟨_, o2, e2, bad⟩ := ff.mem hm
        cases e.symm.trans e2
        exact bad _ dd
      refine ⟨fun z => no (List.mem_filterMap.mpr ⟨X.env, .head _, by rw [hf, z]⟩), fun hm => ?_⟩
      obtain ⟨v, hv, q⟩ := List.mem_filterMap.mp hm
      exact no (List.mem_filterMap.mpr ⟨v, .tail _ hv, q⟩)
    have go : ∀ {es1 : List ExceptHandler} {l1 : List Hd}, HAll X es1 l1 → wAll X.K Wo D l1 cls d σ1 H1 → wpAny (model X.prog X.w) X.A (handleBy (.ref a) X.env es1) (SP X pins D) X.xe { s1 with heap := g3 } := by
      intro es1 l1 hk
      induction hk with
      | nil =>
        intro w
        obtain ⟨k1, k2, k3, oe, vs, T, oT, ts', he, hz, hd, h1, hr⟩ := id fl3
        refine wpAny_handleBy_nil ?_
        unfold PySem.passOn
        refine wpAny_bind (wpAny_field he hd h1 ?_)
        rw [if_neg (show ¬ (Value.ref T == Value.none) = true by simp)]
        have out : wpAny (model X.prog X.w) X.A (setFlight (.ref a) X.env.frame) (fun _ s4 => wpAny (model X.prog X.w) X.A (throw (.ref a) : Sem Flow) (SP X pins D) X.xe s4) X.xe { s1 with heap := g3 } := by
          rw [hf]
          exact HandSPX.setFlight_upZ fl3 fun g4 hh4 up4 => wpAny_throw (tk _ _ ⟨a, B, sI, pins, σ1, H1, cls, d, rfl, J, nb, up'.trans up4, .inr (.inr (hs ▸ hh4)), na, os, ag, w⟩)
        first
          | exact wpAny_bind (wpAny_pure (wpAny_bind out))
          | exact wpAny_bind out
      | @no x c ts s0 ss p q es2 l2 hc hsu r ih =>
        rintro ⟨b, e1, yes, no⟩
        obtain ⟨oe3, vs3, he3, hz3, hd3⟩ := fl3.there
        obtain ⟨nL, nF⟩ := apart fl3.2.2.1 he3 hd3
        have S3 := J3.suite he3 hd3 na nL nF
        refine wpAny_handleBy_cons (codeAny_handlers_test ?_) (by intro z; cases z)
        have LM := PySem.W.exm_one (M := model X.prog X.w) K3 (fun A Q E s k y => wpAny_typeOf_ref (k _ _ he3) (by rw [hz3.1]; exact y)) e1
        have test : ∀ {Q E : Value → Shared → Prop}, Q c { s1 with heap := g3 } → wpAny (model X.prog X.w) (X.A.mark (some (.ref a))) (eval (.Name x p) X.env) Q E { s1 with heap := g3 } := fun {Q E} y => by
          obtain ⟨hg, hdb, hm | ⟨hm, hv, hnn⟩⟩ := hc
          · exact ld_glob (X := X.suite a ((a, oe3) :: (X.pn ++ pins))) S3 hg hm y hdb
          · exact ld_blt (X := X.suite a ((a, oe3) :: (X.pn ++ pins))) S3 hg hm hv y hnn hdb
        refine test (LM.here ?_)
        cases b with
        | false => exact ih (no rfl)
        | true =>
          refine codeAny_handlers_suite (HandSPX.lands_againZ fl3 fun g4 fl4 up4 => ?_)
          obtain ⟨oe4, vs4, he4, hz4, hd4⟩ := fl4.there
          have J4 : Inv X pins σ1 H1 { s1 with heap := g4 } := J.landed nb fl4.1 (up'.trans up4) os ag
          have S4 := J4.suite he4 hd4 na nL nF
          exact wpAny_mono ((hsu a oe4 cls d (X.pn ++ pins) hz4 ⟨_, hd4⟩).run [] _ _ H1 _ S4 (yes rfl a na)) (fun f s6 y => suite_end ok y) fun _ _ z => z.elim
      | @as x n i c ts s0 ss p q es2 l2 hc hi hln hsu r ih =>
        rintro ⟨b, e1, yes, no⟩
        obtain ⟨oe3, vs3, he3, hz3, hd3⟩ := fl3.there
        obtain ⟨nL, nF⟩ := apart fl3.2.2.1 he3 hd3
        have S3 := J3.suite he3 hd3 na nL nF
        refine wpAny_handleBy_cons (codeAny_handlers_test ?_) (by intro z; cases z)
        have LM := PySem.W.exm_one (M := model X.prog X.w) K3 (fun A Q E s k y => wpAny_typeOf_ref (k _ _ he3) (by rw [hz3.1]; exact y)) e1
        have test : ∀ {Q E : Value → Shared → Prop}, Q c { s1 with heap := g3 } → wpAny (model X.prog X.w) (X.A.mark (some (.ref a))) (eval (.Name x p) X.env) Q E { s1 with heap := g3 } := fun {Q E} y => by
          obtain ⟨hg, hdb, hm | ⟨hm, hv, hnn⟩⟩ := hc
          · exact ld_glob (X := X.suite a ((a, oe3) :: (X.pn ++ pins))) S3 hg hm y hdb
          · exact ld_blt (X := X.suite a ((a, oe3) :: (X.pn ++ pins))) S3 hg hm hv y hnn hdb
        refine test (LM.here ?_)
        cases b with
        | false => exact ih (no rfl)
        | true =>
          refine codeAny_handlers_suite_as (HandSPX.lands_againZ fl3 fun g4 fl4 up4 => ?_)
          obtain ⟨oe4, vs4, he4, hz4, hd4⟩ := fl4.there
          have J4 : Inv X pins σ1 H1 { s1 with heap := g4 } := J.landed nb fl4.1 (up'.trans up4) os ag
          have S4 := J4.suite he4 hd4 na nL nF
          refine store_ok (X := X.suite a ((a, oe4) :: (X.pn ++ pins))) (v := .ref a) S4 hN hi (.inl hln) rfl (fun s5 S5 => ?_) (.inr hln)
          refine wpAny_mono ((hsu a oe4 cls d (X.pn ++ pins) hz4 ⟨_, hd4⟩).run [] s5 _ H1 _ S5 (yes rfl a na)) (fun f s6 y => ?_) fun _ _ z => z.elim
          exact suite_gone ok hN hi hln y
    exact go hh w
end
end FL

/-! FL24: raise; try, at the level of plain functions. -/
namespace FL
open PySem L2 PyProof.Rows
/-- an exception class's own __init__: it stores one field -/
def spXI (C : Addr) (f : Str) : Sp := fun vs H Q _ => ∃ (a : Addr) (y : V), vs = [.ref a, y] ∧ H a = some (exo a C none) ∧ ∀ dx, H dx = none → dx ≠ a → Q .non (upd (upd H dx (exd dx [(f, y)])) a (exo a C (some dx)))
structure XInit (P : Program) (w : World) (K : PySem.W.Frag) (mg : Str → Option Value) (base : Heap) (T : Tb) (k : Nat) (c : Nat) (x : Str) (kf : Nat) : Prop where
  cl : ∃ C fI fd ps f, T.cls[c]? = some C ∧ mg x = some (.ref C) ∧ OexC K C ∧ PySem.W.findIn K (.ref C) "__init__" = some (some (.ref fI)) ∧ PySem.W.typeIn K (.ref fI) = some (.type "function") ∧ Binds K fd ps [] ∧ T.att[kf]? = some f ∧ FnOk P w K mg base (L2.CX P w) k fI fd ps (spXI C f)
structure XPlain (K : PySem.W.Frag) (mg : Str → Option Value) (T : Tb) (c : Nat) (x : Str) : Prop where
  cl : ∃ C bmB newId initId, T.cls[c]? = some C ∧ mg x = some (.ref C) ∧ ExcBaseFacts "ValueError" newId initId bmB ∧ PySem.W.excIn K C bmB newId = true ∧ PySem.W.keepIn K (.ref C) = true ∧ PySem.W.subIn K (.ref C) (.type "BaseException") = some true ∧ PySem.W.typeIn K (.ref C) = some (.type "type")
section
variable {P : Program} {w : World} {K : PySem.W.Frag} {mg : Str → Option Value} {base : Heap}
theorem xinit_ok {x qual : Str} {st : Stmt} {f C : Addr} {fd : FuncData} {sN vN fn : Str} {p1 p2 p3 p4 : Pos} (F : Fun K x qual st f fd) (S : FnScope [sN, vN] [sN, vN] (defScope st)) (hb : defBody st = [.Assign [.Attribute (.Name sN p1) fn p2] (.Name vN p3) p4])
    (T : OexC K C) (hn : PySem.W.findIn K (.ref C) fn = some none) (h1 : okN sN = true) (h2 : okN vN = true) : FnOk P w K mg base (L2.CX P w) 1 f fd [sN, vN] (spXI C fn) := by
  refine F.okX S (fun vs H Q E ⟨a, y, e, _⟩ => by rw [e]; rfl) fun cdv A outer s H vs Q E hr ⟨a, y, e, ha, q⟩ => ?_
  subst e
  rw [hb]
  have par : ∀ z ∈ [sN, vN], Vis (defScope st) z := fun z hz => (S.par z hz).imp id .inl
  refine ⟨_, pss_one (ps_ost (pe_var (i := 0) rfl (par sN (.head _)) (okN_d h1) (okN_c h1)) (pe_var (i := 1) rfl (par vN (.tail _ (.head _))) (okN_d h2) (okN_c h2)) (swaps_other rfl)), ?_⟩
  refine ⟨y, rfl, .ref a, rfl, a, C, rfl, T, hn, .inl ⟨ha, fun dx h3 h4 => q dx h3 h4⟩⟩
end
section
variable {X : Cx} {T : Tb} {W : WX} {k c kf : Nat} {x : Str} {p pos pos' : Pos} {e : Expr} {me : ME}
/-- a flat value needs no heap -/
theorem rep_flat {ρ ρ' : List Addr} {Z Z' : Addr → Prop} {H H' : Hp} {v : V} {u : U} (r : Rep T ρ Z H v u) (f : flatU u = true) : Rep T ρ' Z' H' v u := by
  cases r with
  | non => exact .non
  | bl b => exact .bl b
  | int i => exact .int i
  | str y => exact .str y
  | _ => simp [flatU] at f
def raiseM (c kf : Nat) : U → MS := fun u s G => if flatU u then .exc ⟨c, [(kf, u)]⟩ s G else .bad
theorem ost_heap {H : Hp} {a C dx : Addr} {fs : List (Str × V)} (ha : H a = none) (hd : dx ≠ a) : upd (del (upd (upd (upd H a (exo a C none)) dx (exd dx fs)) a (exo a C (some dx))) a) dx (.xd fs) = upd H dx (.xd fs) := by
  funext b
  by_cases h1 : b = dx
  · subst h1; rw [upd_same, upd_same]
  · rw [upd_ne h1, upd_ne h1]
    by_cases h2 : b = a
    · subst h2; rw [del_same, ha]
    · rw [del_ne h2, upd_ne h2, upd_ne h1, upd_ne h2]
theorem fs_raiseI (hc : X.calm = true) (tk : Takes X W) (M : XInit X.prog X.w X.K X.mg X.base T k c x kf) (hr : Room (k + 1) X.A) (hg : Gl X x) (he : PE X e (tE T W me)) (hdb : (x == ("__debug__" : Str)) = false) (h1 : noStar e = true) :
    PS X (.Raise (some (.Call (.Name x p) [e] [] pos)) none pos') (tS T W (stE me (raiseM c kf))) := by
  obtain ⟨C, fI, fd, ps, f, g1, g2, g3, g4, g5, g6, g7, g8⟩ := M.cl
  have ha : PA X [e] (tA T W (consA me nilA)) := fa_cons he fa_nil (star_cons h1)
  refine PS.imp (ps_raise hc tk (pmk_oex (sp := spXI C f) g3 g4 g5 g8 hr g6 .nil passL hg g2 ha hdb (star_cons h1) rfl)) fun D σ H ⟨s, G, ρ, Z, sm, q⟩ => ?_
  unfold stE at q
  show tA T W (consA me nilA) σ H fun vs H1 => vs.length ≤ 1000 ∧ ∀ a, H1 a = none → spXI C f (.ref a :: (vs ++ [])) (upd H1 a (exo a C none)) _ _
  refine ⟨s, G, ρ, Z, sm, ?_⟩
  unfold consA nilA
  cases e1 : me s G with
  | bad => rw [e1] at q; exact q.elim
  | exc y G1 =>
    rw [e1] at q
    exact fun cls d H' ρ' Z' x1 rl a => q cls d σ H' ρ' Z' x1 (sm.ex x1 rl) a
  | ok u G1 =>
    rw [e1] at q
    simp only [bind_ok]
    intro vs H1 ρ1 Z1 x1 rl1 r1
    obtain ⟨y, rfl, ry⟩ := r1.inv1
    have q1 := RS.ex (σ' := σ) q x1
    unfold raiseM at q1
    simp only at q1
    by_cases hf : flatU u = true
    · rw [if_pos hf] at q1
      refine ⟨by show 1 ≤ 1000; decide, fun a na => ⟨a, y, rfl, upd_same, fun dx h3 h4 => ⟨rfl, dx, [(f, y)], upd_same, ?_, ?_, ?_⟩⟩⟩
      · rw [upd_ne h4, upd_same]
      · rw [upd_ne h4] at h3; exact h3
      · have hd : H1 dx = none := by rw [upd_ne h4] at h3; exact h3
        rw [ost_heap na h4]
        refine q1 _ _ σ _ ρ1 Z1 (ex_new hd) ⟨rl1.new hd, (sm.fm.ex sm.rl.zm x1).ex rl1.zm (ex_new hd)⟩ ⟨C, g1, rfl, .inr ⟨dx, [(f, y)], rfl, upd_same, .cons g7 (rep_flat ry hf) .nil⟩⟩
    · rw [if_neg hf] at q1
      exact q1.elim
theorem pmk_zero {C : Addr} {bmB : List Value} {newId initId : String} (F : ExcBaseFacts "ValueError" newId initId bmB) (q : PySem.W.excIn X.K C bmB newId = true) (gC : X.mg x = some (.ref C)) (kC : PySem.W.keepIn X.K (.ref C) = true) (r : Raises X (.ref C)) (hg : Gl X x) (hdb : (x == ("__debug__" : Str)) = false) :
    PMk X (.Call (.Name x p) [] [] pos) (fun _ H Q => Q (.ref C) none H) := by
  intro pins s σ H Q I h
  refine wpAny_Call_Name_kw (ld_glob I hg gC ?_ hdb)
  refine PySem.W.callWith_K0 I.kIn kC ?_
  obtain ⟨bm, N, nm, qn, bs, hdct, sn, sub, ab, col, dd, k0, k1, k2, k3, k5, mN, hC, hN, hni, T⟩ := exc_obj I.kIn q
  exact wpAny_call_exc_subT F T hC hN hni (fun h' e hm => mk_of I hm r h (I.hok.gone hm.new)) (Nat.zero_le _)
theorem fs_raise0 (hc : X.calm = true) (tk : Takes X W) (M : XPlain X.K X.mg T c x) (hg : Gl X x) (hdb : (x == ("__debug__" : Str)) = false) :
    PS X (.Raise (some (.Call (.Name x p) [] [] pos)) none pos') (tS T W fun s G => .exc ⟨c, []⟩ s G) := by
  obtain ⟨C, bmB, newId, initId, g1, g2, g3, g4, g5, g6, g7⟩ := M.cl
  exact PS.imp (ps_raise hc tk (pmk_zero g3 g4 g2 g5 (raises_own g6 g7) hg hdb)) fun D σ H ⟨s, G, ρ, Z, sm, q⟩ => q _ _ σ H ρ Z Ex.refl sm ⟨C, g1, rfl, .inl ⟨rfl, rfl⟩⟩

/-! ### try -/
/-- a clause: the class, the name's slot, the suite -/
structure HM where
  c : Nat
  i : Option Nat
  m : Exn → MS
def offR (i : Nat) : Rt → Rt
  | .nx s G => .nx (s.set i none) G
  | .bk s G => .bk (s.set i none) G
  | .ct s G => .ct (s.set i none) G
  | r => r
def quiet : Rt → Rt
  | .exc _ _ _ => .bad
  | r => r
def hdM (xs : List ((Nat × Nat) × Bool)) : List HM → Exn → MS
  | [] => fun x s G => .exc x s G
  | h :: r => fun x s G => match xs.lookup (x.cls, h.c) with
    | some true => (match h.i with
      | none => quiet (h.m x s G)
      | some i => if i < s.length then offR i (quiet (h.m x (s.set i none) G)) else .bad)
    | some false => hdM xs r x s G
    | none => .bad
def tryM (xs : List ((Nat × Nat) × Bool)) (mb : MS) (hs : List HM) : MS := fun s G => match mb s G with
  | .exc x s1 G1 => hdM xs hs x s1 G1
  | r => r
/-- a suite does what m says of the exception held -/
def tX (T : Tb) (i : Option Nat) (m : Exn → MS) (a : Addr) (cls : Value) (d : Option Addr) : TS := fun D σ H => ∃ s G ρ Z x, Sm T σ H s G ρ Z ∧ ExAt T x cls d H ∧ H a = none ∧ (∀ j, i = some j → σ[j]? = some (some (.ref a))) ∧ RS T WF σ H ρ Z D (quiet (m x s G))
/-- the clauses, at both levels -/
inductive HRel (T : Tb) : List HM → List Hd → Prop
  | nil : HRel T [] []
  | cons {h : HM} {C : Addr} {hs : List HM} {l : List Hd} : T.cls[h.c]? = some C → HRel T hs l → HRel T (h :: hs) (⟨.ref C, h.i, tX T h.i h.m⟩ :: l)
def XsOk (K : PySem.W.Frag) (T : Tb) (xs : List ((Nat × Nat) × Bool)) : Prop := ∀ c c' b C C', xs.lookup (c, c') = some b → T.cls[c]? = some C → T.cls[c']? = some C' → PySem.W.exmOne K (.ref C) (.ref C') = some b
theorem Fm.off {ρ : List Addr} {Z : Addr → Prop} {H : Hp} {σ : L2.St} {s : Sg} {o : Option V} (f : Fm T ρ Z H σ s) (i : Nat) : Fm T ρ Z H (σ.set i o) (s.set i none) :=
  ⟨by rw [List.length_set, List.length_set, f.1], fun j u e => by
    by_cases h : i = j
    · subst h
      rw [List.getElem?_set] at e
      simp at e
    · rw [List.getElem?_set_ne h] at e
      obtain ⟨v, e1, r⟩ := f.2 j u e
      exact ⟨v, by rw [List.getElem?_set_ne h]; exact e1, r⟩⟩
theorem RS_off {σ σ0 : L2.St} {H : Hp} {ρ : List Addr} {Z : Addr → Prop} {D : Ends} {i : Nat} {r : Rt} (h : RS T W σ H ρ Z D (offR i (quiet r))) : RS T WF σ0 H ρ Z (offD i D) (quiet r) := by
  cases r with
  | nx s G => exact fun σ' H' ρ' Z' x sm => h _ H' ρ' Z' x ⟨sm.rl, sm.fm.off i⟩
  | bk s G => exact fun σ' H' ρ' Z' x sm => h _ H' ρ' Z' x ⟨sm.rl, sm.fm.off i⟩
  | ct s G => exact fun σ' H' ρ' Z' x sm => h _ H' ρ' Z' x ⟨sm.rl, sm.fm.off i⟩
  | rt u G => exact h
  | exc x s G => exact h.elim
  | bad => exact h.elim
theorem RS_quiet {σ : L2.St} {H : Hp} {ρ : List Addr} {Z : Addr → Prop} {D : Ends} {r : Rt} (h : RS T W σ H ρ Z D (quiet r)) : RS T WF σ H ρ Z D (quiet r) := by
  cases r with
  | exc x s G => exact h.elim
  | _ => exact h
theorem hd_ok {K : PySem.W.Frag} {xs : List ((Nat × Nat) × Bool)} (hx : XsOk K T xs) {σ : L2.St} {H : Hp} {D : Ends} {x : Exn} {cls : Value} {d : Option Addr} {ρ : List Addr} {Z : Addr → Prop} {s : Sg} {G : List Ob} (sm : Sm T σ H s G ρ Z) (ax : ExAt T x cls d H) :
    ∀ {hs : List HM} {l : List Hd}, HRel T hs l → RS T W σ H ρ Z D (hdM xs hs x s G) → wAll K W D l cls d σ H := by
  intro hs l hr
  induction hr with
  | nil => exact fun q => q cls d σ H ρ Z Ex.refl sm ax
  | @cons h C hs l hC r ih =>
    intro q
    unfold hdM at q
    obtain ⟨C0, c1, c2, c3⟩ := id ax
    split at q
    · rename_i e
      refine ⟨true, by rw [c2]; exact hx _ _ _ _ _ e c1 hC, fun _ a na => ?_, fun z => by cases z⟩
      unfold runHd
      simp only
      cases hi : h.i with
      | none =>
        rw [hi] at q
        exact ⟨s, G, ρ, Z, x, sm, ax, na, (fun j z => nomatch z), RS_quiet q⟩
      | some i =>
        rw [hi] at q
        simp only at q
        by_cases hl : i < s.length
        · rw [if_pos hl] at q
          refine ⟨s.set i none, G, ρ, Z, x, ⟨sm.rl, sm.fm.off i⟩, ax, na, (fun j z => ?_), RS_off q⟩
          cases z
          rw [List.getElem?_set_self (by rw [sm.fm.1]; exact hl)]
        · rw [if_neg hl] at q
          exact q.elim
    · rename_i e
      exact ⟨false, by rw [c2]; exact hx _ _ _ _ _ e c1 hC, (fun z => by cases z), fun _ => ih q⟩
    · exact q.elim
theorem fs_try {xs : List ((Nat × Nat) × Bool)} {body : List Stmt} {e0 : ExceptHandler} {es : List ExceptHandler} {mb : MS} {hs : List HM} {l : List Hd} (hst : X.stack = X.env :: X.outer) (hf : X.env.frame = some X.env.locals) (hN : X.N.Nodup) (tk : Takes X W) (hx : XsOk X.K T xs)
    (hb : ∀ (W : WX) (pn : List (Addr × Obj)) (xe : Value → Shared → Prop), Takes (X.tr pn xe) W → PassesOwn (model X.prog X.w) X.A X.env xe → PSs (X.tr pn xe) body (tS T W mb)) (hh : HAll X (e0 :: es) l) (hr : HRel T hs l) :
    PS X (.Try body (e0 :: es) [] [] pos) (tS T W (tryM xs mb hs)) :=
  PS.imp (ps_try_all hst hf hN tk hb hh) fun D σ H ⟨s, G, ρ, Z, sm, q⟩ => by
    refine ⟨s, G, ρ, Z, sm, ?_⟩
    unfold tryM at q
    cases e : mb s G with
    | nx s1 G1 => rw [e] at q; exact q
    | rt u G1 => rw [e] at q; exact q
    | bk s1 G1 => rw [e] at q; exact q
    | ct s1 G1 => rw [e] at q; exact q
    | bad => rw [e] at q; exact q
    | exc x s1 G1 =>
      rw [e] at q
      exact fun cls d σ' H' ρ' Z' y sm' a => hd_ok hx sm' a hr (RS.ex q y)
end
end FL

/-! FL26: isinstance(e, C), e the exception that a suite holds, with its fields. -/
namespace PySem.W
section
variable {prog : Program} {w : World} {A : Around} {E : Value → Shared → Prop} {s : Shared} {K : Frag} {x D : Addr} {ox : Obj} {od : Option Obj}
theorem findObj_dataX {C : Addr} {name : Str} {a g : Value} (hc : (clsIn K C).isSome = true) (ha : findIn K (.ref C) name = some (some a)) (hg : specialIn K a "__get__" = some (some g)) (ht : takesIn K a = some true) : findObj K C od name = some (.bind g a) := by
  cases e : clsIn K C with
  | none => rw [e] at hc; cases hc
  | some cd =>
    unfold findObj
    rw [e, Option.bind_some, ha, Option.bind_some]
    simp [hg, ht]
/-- how a class that is an exception's, with instances' dicts, hands out __class__ -/
theorem classX {Q : Option Value → Shared → Prop} (c : L2.ExcC K D) (X : K.In s.heap) (I : InstAt s.heap x ox D od) (h : Q (some (.ref D)) { s with toks := s.toks + 1 }) : wpAny (model prog w) A (getAttr? (.ref x) "__class__") Q E s := by
  have isC : (clsIn K D).isSome = true := by
    obtain ⟨cd, e, _⟩ := any_some c.hd
    rw [e] <;> rfl
  have fo : findObj K D od "__class__" = some (.bind (.builtin "getset_descriptor.__get__") (.builtin "object.__class__")) := findObj_dataX isC c.ha c.hn c.ht
  obtain ⟨g0, gs, dr, tk, os⟩ := s
  have ty := I.type (M := model prog w)
  have ga := looks_findIn (M := model prog w) X c.hg
  have gt := looks_findIn (M := model prog w) X c.hk
  have fd := looks_find (M := model prog w) X I fo
  have be : Looks (model prog w) g0 (isInstance (.ref x) (.type "BaseException")) true := ty.andThen (looks_subIn X c.hs)
  have ne : (onTheHeap (Value.ref D) && Value.builtin "BaseException.__getattribute__" == Value.builtin "object.__getattribute__") = false := by
    have e : (Value.builtin "BaseException.__getattribute__" == Value.builtin "object.__getattribute__") = false := by decide +kernel
    rw [e, Bool.and_false]
  unfold getAttr? getAttrBy? getAttrBy
  refine wpAny_bind (wpAny_mkText (wpAny_bind (wpAny_attempt (wpAny_holding (wpAny_bind (ty.at (wpAny_bind (ga.at ?_))))))))
  change wpAny _ _ (if (onTheHeap (Value.ref D) && Value.builtin "BaseException.__getattribute__" == Value.builtin "object.__getattribute__") = true then _ else _) _ _ _
  rw [ne]
  rw [if_neg Bool.false_ne_true]
  unfold getAttrByItsOwn hookBefore
  refine wpAny_bind ?_
  rw [if_pos (show onTheHeap (Value.ref D) = true from rfl)]
  refine gt.at (wpAny_bind (wpAny_attempt (wpAny_holding ?_)))
  unfold callGetattribute
  rw [show (false && onTheHeap (Value.builtin "BaseException.__getattribute__")) = false from rfl]
  rw [if_neg Bool.false_ne_true]
  unfold boundAndCalled
  rw [PySem.F.excAttr_ValueError.ga.bind (.ref x)]
  refine wpAny_bind (wpAny_pure ?_)
  change wpAny _ _ (call (.builtin "BaseException.__getattribute__") [.ref x, .str "__class__" tk]) _ _ _
  refine wpAny_call (codeAny_call_builtin PySem.F.excAttr_ValueError.ga.plain PySem.F.entry_bexc_ga ?_)
  refine @check_slot _ _ _ ⟨g0, gs, dr, tk + 1, os⟩ "BaseException.__getattribute__" "BaseException" "__getattribute__" (.ref x) [.str "__class__" tk] [] _ (by decide +kernel) (by decide +kernel) be (PySem.F.args_bexc_ga (.ref x) (.str "__class__" tk)) ?_
  unfold Builtin.«object.__getattribute__»
  refine wpAny_bind (wpAny_of_eq (a := ((Value.ref x : Value), [Value.str "__class__" tk])) (by first | rfl | (simp only [slotArgs]; rfl)) (wpAny_bind (wpAny_pure (wpAny_bind (ty.at (wpAny_bind (fd.at ?_)))))))
  change wpAny _ _ (holding [Value.builtin "object.__class__"] (call (.builtin "getset_descriptor.__get__") [.builtin "object.__class__", .ref x, .ref D]) >>= ret) _ _ _
  refine wpAny_bind (wpAny_holding (wpAny_call (class_get (s := ⟨g0, gs, dr, tk + 1, os⟩) (ox := ox) (od := od) X I c.hm (wpAny_pure ?_))))
  change wpAny _ _ (handedOut (.ref D)) _ _ _
  rw [handedOut_of (v := .ref D) rfl]
  first
    | exact wpAny_pure (wpAny_pure h)
    | exact wpAny_pure h
    | exact wpAny_pure (wpAny_bind (wpAny_pure (wpAny_pure h)))
theorem kitxX (c : L2.ExcC K D) : KitX K (.ref x) (.ref D) (fun h => InstAt h x ox D od) where
  ty := fun _ _ _ I => I.type
  it := fun _ _ X _ => by
    obtain ⟨cd, e, _⟩ := any_some c.hd
    unfold clsIn at e
    split at e
    · rename_i ho
      exact fun A Q E s k q => by
        unfold isType loadHead
        exact wpAny_bind (wpAny_loadPart (k _ _ (X _ _ ho)) (wpAny_pure q))
    · cases e
  ne := fun h tp dd its n sl X htp => by
    obtain ⟨cd, e, _⟩ := any_some c.hd
    refine Bool.eq_false_iff.mpr fun q => ?_
    cases (Value.ref.inj (beq_iff_eq.mp q) : D = tp)
    unfold clsIn at e
    split at e
    · rename_i ho
      cases (X _ _ ho).symm.trans htp
    · cases e
  ca := fun X I k => classX c X I k
end
end PySem.W
namespace FL
open PySem L2 PyProof.Rows
/-- isinstance(e, c), e the exception held, its class D, its fields at d -/
def rIsX (K : PySem.W.Frag) (D a d : Addr) : List V → Hp → VK → Prop := fun xs H Q => ∃ (C : Addr) (b : Bool) (fv : List (Str × V)), xs = [.ref a, .ref C] ∧ H d = some (.xd fv) ∧ PySem.W.kitOne K (.ref D) (.ref C) = some b ∧ Q (.bl b) H
theorem call_isX {X : Cx} {a D d : Addr} {oe : Obj} {pn : List (Addr × Obj)} (c : ExcC X.K D) (hz : Zc (.ref D) (some d) oe) (hf : ∃ vs, oe.data = .fields vs) : CallR (X.suite a ((a, oe) :: pn)) (.builtin "isinstance") (rIsX X.K D a d) := by
  intro pins s σ H xs us Q I r ⟨C, b, fv, ex, hd, e, q⟩
  subst ex
  cases r with
  | cons r1 r2 =>
    cases r2 with
    | cons r2 r3 =>
      cases r3
      cases r1
      cases r2
      obtain ⟨hget, _⟩ := I.pin (a, oe) (List.mem_append.mpr (.inl List.mem_cons_self))
      obtain ⟨vs, hv⟩ := hf
      have ok : ObjOk X.prog X.w H s.heap d (.xd fv) := I.hok d _ hd
      obtain ⟨mA, hns, _⟩ := ok
      obtain ⟨od, ho, _⟩ := lookIn_ns hns
      have J : PySem.W.InstAt s.heap a oe D (some od) := ⟨hget, hz.1, by unfold PySem.W.notCls; rw [hv] <;> rfl, by rw [hz.2]; exact ho⟩
      exact PySem.W.kia_one (PySem.W.kitxX c) I.kIn J e (fun z => nomatch z) fun tk => ⟨.bl b, H, I.tok tk, rfl, q⟩
end FL

/-! FL16: the translation of expressions, by the syntax; it is sound. -/
namespace FL
open PySem L2 PyProof.Rows
/-- what a name of the module is -/
inductive GV where
  | fn (n : Nat) (r : RunD)
  | con (u : U)
  | mk (c n : Nat) (r : RunD)
  | mkK (c n : Nat) (ks : List Str) (r : RunD)
/-- the table of a body -/
structure Dn where
  N : List Str
  gl : List (Str × GV) := []
  bl : List Str := []
  ty : List (Str × Nat) := []
  cls : List Nat := []
  att : List (Str × (Nat × List Nat × List (Nat × RunD))) := []
  mth : List (Str × (Nat × List (Nat × (Nat × RunD)))) := []
  eqt : List (Nat × RunD) := []
  mu : List Str := []
  rmu : Bool := false
  /-- exception classes: the class, the field of an own __init__ -/
  xc : List (Str × (Nat × Option Nat)) := []
  /-- whether one exception class is below another -/
  xs : List ((Nat × Nat) × Bool) := []
  /-- .. asked by isinstance -/
  xi : List ((Nat × Nat) × Bool) := []
  /-- classes with their own __len__ -/
  lnt : List (Nat × RunD) := []
def GvOk (P : Program) (w : World) (K : PySem.W.Frag) (mg : Str → Option Value) (base : Heap) (T : Tb) (k : Nat) (x : Str) : GV → Prop
  | .fn n r => ∃ f, mg x = some (.ref f) ∧ PySem.W.keepIn K (.ref f) = true ∧ DefOk P w K mg base T k f n r
  | .con u => ∃ v val, mg x = some val ∧ RelV v val ∧ ∀ ρ Z H, Rep T ρ Z H v u
  | .mk c n r => MakeOk P w K mg base T k c x n r
  | .mkK c n ks r => MakeKOk P w K mg base T k c x n ks r
/-- an exception class: it is named, it is raised, its field is read -/
def XcOk (P : Program) (w : World) (K : PySem.W.Frag) (mg : Str → Option Value) (base : Heap) (T : Tb) (k : Nat) (x : Str) (z : Nat × Option Nat) : Prop :=
  (∃ C, T.cls[z.1]? = some C ∧ mg x = some (.ref C)) ∧ match z.2 with
    | none => XPlain K mg T z.1 x
    | some kf => XInit P w K mg base T k z.1 x kf ∧ ∃ C f, T.cls[z.1]? = some C ∧ T.att[kf]? = some f ∧ XfC K C ∧ PySem.W.findIn K (.ref C) f = some none
def XiOk (K : PySem.W.Frag) (T : Tb) (xi : List ((Nat × Nat) × Bool)) : Prop := ∀ c c' b C C', xi.lookup (c, c') = some b → T.cls[c]? = some C → T.cls[c']? = some C' → ExcC K C ∧ PySem.W.kitOne K (.ref C) (.ref C') = some b
structure TabOk (P : Program) (w : World) (K : PySem.W.Frag) (mg : Str → Option Value) (base : Heap) (T : Tb) (k : Nat) (d : Dn) : Prop where
  hat : AttOk T
  gl : ∀ x g, d.gl.lookup x = some g → GvOk P w K mg base T k x g
  bl : ∀ x, x ∈ d.bl → mg x = none
  ty : ∀ x c, d.ty.lookup x = some c → ∃ C, T.cls[c]? = some C ∧ mg x = some (.ref C)
  isi : IsiOk K T d.cls
  att : ∀ f z, d.att.lookup f = some z → T.att[z.1]? = some f ∧ (∀ c ∈ z.2.1, FldOk K T c f) ∧ ∀ c r, z.2.2.lookup c = some r → PropOk P w K mg base T k c f r
  mth : ∀ m z, d.mth.lookup m = some z → z.2 ≠ [] ∧ ∀ c n r, z.2.lookup c = some (n, r) → MethOk P w K mg base T k c m z.1 n r
  eqt : ∀ c r, d.eqt.lookup c = some r → EqOk P w K mg base T k c r
  xc : ∀ x z, d.xc.lookup x = some z → XcOk P w K mg base T k x z
  xs : XsOk K T d.xs
  xi : XiOk K T d.xi
  lnt : ∀ c r, d.lnt.lookup c = some r → LnOk P w K mg base T k c r

/-! ### names -/
def vis (sc : Scope) (x : Str) : Bool := match sc.names.lookup x with
  | some .local => true
  | some .cell => true
  | some .free => true
  | _ => false
def glb (sc : Scope) (x : Str) : Bool := match sc.names.lookup x with
  | some .globalImplicit => true
  | _ => false
theorem vis_ok {sc : Scope} {x : Str} (h : vis sc x = true) : Vis sc x := by
  unfold vis at h
  unfold Vis
  split at h <;> simp_all
theorem glb_ok {X : Cx} {x : Str} (h : glb X.env.scope x = true) : Gl X x := by
  unfold glb at h
  split at h
  · rename_i e; exact e
  · cases h
def findI (x : Str) : List Str → Option Nat
  | [] => none
  | y :: r => if y == x then some 0 else (findI x r).map (· + 1)
theorem findI_ok {x : Str} : ∀ {N : List Str} {i : Nat}, findI x N = some i → N[i]? = some x
  | [], _, h => by cases h
  | y :: r, i, h => by
    unfold findI at h
    split at h
    · rename_i e
      cases h
      rw [beq_iff_eq] at e
      subst e
      rfl
    · cases e : findI x r with
      | none => rw [e] at h; cases h
      | some j =>
        rw [e] at h
        cases h
        rw [List.getElem?_cons_succ]
        exact findI_ok e
def badE : ME := fun _ _ => .bad
def badT : MT := fun _ _ => .bad
def badI : MI := fun _ _ => .bad
def badA : MA := fun _ _ => .bad
def badS : MS := fun _ _ => .bad
/-- a name's kind in a block -/
def relS (sc scope : Scope) : Scope := { scope with names := scope.names.map fun (n, k) => if (k == .free && sc.kind == .function && sc.names.lookup n == some .cell) then (n, .cell) else (n, k) }
/-- the block's own names, their slots -/
def ownOf (N : List Str) : List (Str × NameKind) → List (Str × Nat)
  | [] => []
  | (x, k) :: r => if (k == .local || k == .cell) then (match findI x N with | some i => (x, i) :: ownOf N r | none => ownOf N r) else ownOf N r

/-! ### operators -/
def binF (mu : Bool) : Operator → Option (U → U → List Ob → Rs U)
  | .Add => some (addU mu)
  | .Sub => some subU
  | .Mult => some (mulU mu)
  | .Mod => some modU
  | .FloorDiv => some fdivU
  | .Pow => some powU
  | _ => none
def cmpF (et : Nat → Option RunD) : CmpOp → Option (U → U → List Ob → Rs U)
  | .Lt => some (cmpU fun i j => decide (i < j))
  | .LtE => some (cmpU fun i j => decide (i ≤ j))
  | .Gt => some (cmpU fun i j => decide (j < i))
  | .GtE => some (cmpU fun i j => decide (j ≤ i))
  | .Eq => some (eqX false et)
  | .NotEq => some (eqX true et)
  | .Is => some (isU false)
  | .IsNot => some (isU true)
  | .In => some (inU false)
  | .NotIn => some (inU true)
section
variable {X : Cx} {T : Tb} {W : WX} {k : Nat}
theorem binF_ok {mu : Bool} {op : Operator} {f : U → U → List Ob → Rs U} (hT : X.K = T.K) (h : binF mu op = some f) : ∃ r, OpR X (binaryOp op) r ∧ O2 T W f r := by
  cases op with
  | Add => cases h; exact ⟨_, op_addA, o2_add hT⟩
  | Sub => cases h; exact ⟨_, op_sub, o2_sub⟩
  | Mult => cases h; exact ⟨_, op_mulA, o2_mul hT⟩
  | Mod => cases h; exact ⟨_, op_modN, o2_mod⟩
  | FloorDiv => cases h; exact ⟨_, op_fdivN, o2_fdiv⟩
  | Pow => cases h; exact ⟨_, op_pow, o2_pow⟩
  | _ => cases h
theorem cmpF_ok {et : Nat → Option RunD} {op : CmpOp} {f : U → U → List Ob → Rs U} (hT : X.K = T.K) (he : ∀ c r, et c = some r → EqOk X.prog X.w X.K X.mg X.base T k c r) (hr : Room (k + 1) X.A) (h : cmpF et op = some f) : ∃ r, OpR X (compareOp op) r ∧ O2 T W f r := by
  have hu : X.A.units + 65 < cLine := by have := hr.un; omega
  cases op with
  | Lt => cases h; exact ⟨_, op_lt, o2_cmp⟩
  | LtE => cases h; exact ⟨_, op_le, o2_cmp⟩
  | Gt => cases h; exact ⟨_, op_gt, o2_cmp⟩
  | GtE => cases h; exact ⟨_, op_ge, o2_cmp⟩
  | Eq => cases h; exact ⟨_, op_eqX hT he hr, o2_eqX hT⟩
  | NotEq => cases h; exact ⟨_, op_neX he hr, o2_neX hT⟩
  | Is => cases h; exact ⟨_, OpR.or op_isN (OpR.or op_isBl op_isO), o2_is⟩
  | IsNot => cases h; exact ⟨_, OpR.or op_notN (OpR.or op_notBl op_notO), o2_isnot⟩
  | In => cases h; exact ⟨_, op_inA hu, o2_in hT⟩
  | NotIn => cases h; exact ⟨_, op_notinA hu, o2_in hT⟩
end

/-! ### the parts -/
def dAs (f : Expr → ME) : List Expr → MA
  | [] => nilA
  | e :: r => consA (f e) (dAs f r)
def dKs (f : Expr → ME) : List Keyword → MA
  | [] => nilA
  | k :: r => consA (f (kwVal k)) (dKs f r)
def dAnd (f : Expr → ME) : List Expr → ME
  | [] => badE
  | [a] => f a
  | a :: r => andM (f a) (dAnd f r)
def dOr (f : Expr → ME) : List Expr → ME
  | [] => badE
  | [a] => f a
  | a :: r => orM (f a) (dOr f r)
def dAndT (f : Expr → MT) : List Expr → MT
  | [] => badT
  | [a] => f a
  | a :: r => andT (f a) (dAndT f r)
def dOrT (f : Expr → MT) : List Expr → MT
  | [] => badT
  | [a] => f a
  | a :: r => orT (f a) (dOrT f r)
def dO (f : Expr → ME) : Option Expr → MO
  | none => noneO
  | some e => someO (f e)
/-- a for's target: the slots that it stores, the store -/
def dGn (N : List Str) (sc : Scope) (fnb : Str → Bool) (x : Str) : Option (MG × List Nat) := match findI x N with
  | some i => (match sc.names.lookup x with
    | some .local => some (nameG i, [i])
    | some .cell => if fnb x then some (nameG i, [i]) else none
    | _ => none)
  | none => none
def dGs (g : Expr → Option (MG × List Nat)) : List Expr → Option (MGs × List Nat)
  | [] => some (nilG, [])
  | e :: r => match g e, dGs g r with
    | some (m, vs), some (ms, ws) => some (consG m ms, vs ++ ws)
    | _, _ => none
def dG (N : List Str) (sc : Scope) (fnb : Str → Bool) : Nat → Expr → Option (MG × List Nat)
  | 0, _ => none
  | n + 1, e => match e with
    | .Name x _ => dGn N sc fnb x
    | .Tuple es _ _ => if es.all noStar then (match dGs (dG N sc fnb n) es with
      | some (ms, vs) => some (tupG es.length ms, vs)
      | none => none) else none
    | _ => none
def litOf : Const → Option U
  | .none => some .non
  | .bool b => some (.bl b)
  | .int i => some (.int i)
  | .str x => some (.str x.cps.toList)
  | _ => none
def blk (d : Dn) (sc scope : Scope) : Bool := blkC d.N sc scope (ownOf d.N scope.names)
/-- the type that a name means -/
def tyNm (d : Dn) (x : Str) : Option (Ty ⊕ Nat) := match d.ty.lookup x with
  | some c => some (.inr c)
  | none => if d.bl.contains x then (if x == ("int" : Str) then some (.inl .int) else if x == ("str" : Str) then some (.inl .str) else if x == ("bool" : Str) then some (.inl .bl) else if x == ("list" : Str) then some (.inl .lst) else if x == ("tuple" : Str) then some (.inl .tup)
    else if x == ("dict" : Str) then some (.inl .dct) else none) else none
def lmF (m : Str) : Option (U → RunD) := if m == ("append" : Str) then some appendU else if m == ("extend" : Str) then some extendU else if m == ("pop" : Str) then some popU else none
/-- name(e, ..) -/
def dCallN (d : Dn) (sc : Scope) (mu : Bool) (f : Expr → ME) (x : Str) (es : List Expr) (kws : List Keyword) : ME :=
  if glb sc x && okN x && es.all noStar then (match d.gl.lookup x with
    | some (.fn n r) => (match kws, es with
      | [], _ :: _ => callM n r (dAs f es)
      | _, _ => badE)
    | some (.mk c n r) => (match kws with
      | [] => makeM c n r (dAs f es)
      | _ => badE)
    | some (.mkK c n ks r) => (match es with
      | _ :: _ => if kws.all (fun k => (kwName k).isSome) && (kws.filterMap kwName == ks) then makeKM c n ks.length r (dAs f es) (dKs f kws) else badE
      | _ => badE)
    | some (.con _) => badE
    | none => if d.bl.contains x then (match kws, es with
      | [], e :: r => if x == ("isinstance" : Str) then (match r with
          | [.Name y _] => if glb sc y && okN y then (match tyNm d y with
            | some t => isiM d.cls t (f e)
            | none => badE) else badE
          | _ => badE)
        else if x == ("len" : Str) && !d.lnt.isEmpty then preM (lenX fun c => d.lnt.lookup c) (dAs f es)
        else (match bltF x with
          | some g => preM g (dAs f es)
          | none => match bltT mu x with
            | some g => preM g (dAs f es)
            | none => badE)
      | _, _ => badE) else badE) else badE
/-- o.m(e, ..) -/
def dCallM (d : Dn) (mu : Bool) (f : Expr → ME) (o : Expr) (m : Str) (es : List Expr) (kws : List Keyword) (same : Bool) : ME :=
  if plainRecv o && es.all noStar && decide (es.length < 30) && same then (match kws with
    | [] => (match d.mth.lookup m with
      | some (km, tb) => (match es with
        | [] => methM (fun c => tb.lookup c) km (f o) nilA
        | _ => methM (fun c => tb.lookup c) km (f o) (dAs f es))
      | none => if m == ("join" : Str) then (match es with | [e] => joinM (f o) (f e) | _ => badE)
        else if m == ("split" : Str) then (match es with | [e] => splitM mu (f o) (f e) | _ => badE)
        else (match lmF m with
          | some g => (match es with
            | [] => bm0M g (f o)
            | _ => bmM g (f o) (dAs f es))
          | none => badE))
    | _ => badE) else badE
def isTupE : Expr → Bool
  | .Tuple _ _ _ => true
  | _ => false
mutual
/-- an expression -/
def dE (d : Dn) : Nat → Scope → (Str → Bool) → Bool → Expr → ME
  | 0, _, _, _, _ => badE
  | n + 1, sc, fnb, mu, e => match e with
    | .Name x _ => if okN x then (if vis sc x then (match findI x d.N with | some i => varM i | none => badE)
      else if glb sc x then (match d.gl.lookup x with | some (.con u) => litM u | _ => badE) else badE) else badE
    | .Constant c _ _ => (match litOf c with | some u => litM u | none => badE)
    | .BinOp a op b _ => (match binF mu op with | some f => bin2 f (dE d n sc fnb false a) (dE d n sc fnb false b) | none => badE)
    | .UnaryOp .Not a _ => notM (dE d n sc fnb false a)
    | .UnaryOp .USub a _ => negM (dE d n sc fnb false a)
    | .BoolOp .And es _ => dAnd (dE d n sc fnb false) es
    | .BoolOp .Or es _ => dOr (dE d n sc fnb false) es
    | .IfExp c a b _ => iteM (dT d n sc fnb c) (dE d n sc fnb mu a) (dE d n sc fnb mu b)
    | .Compare a [op] [b] _ => if noSet b then (match cmpF (fun c => d.eqt.lookup c) op with | some f => bin2 f (dE d n sc fnb false a) (dE d n sc fnb false b) | none => badE) else badE
    | .Compare a [op, op'] [b, c] _ => if noSet c then (match cmpF (fun c => d.eqt.lookup c) op, cmpF (fun c => d.eqt.lookup c) op' with | some f, some g => chM f g (dE d n sc fnb false a) (dE d n sc fnb false b) (dE d n sc fnb false c) | _, _ => badE) else badE
    | .Dict [] [] _ => dctM mu
    | .List es _ => if es.all noStar then lstM mu (dAs (dE d n sc fnb false) es) else badE
    | .Tuple es _ _ => if es.all noStar then tupM (dAs (dE d n sc fnb false) es) else badE
    | .Subscript a (.Slice lo hi none _) _ => slM mu (dE d n sc fnb false a) (dO (dE d n sc fnb false) lo) (dO (dE d n sc fnb false) hi)
    | .Subscript a i _ => if noSlice i then bin2 idxU (dE d n sc fnb false a) (dE d n sc fnb false i) else badE
    | .Attribute o f _ => (match d.att.lookup f with
      | some (kf, cs, ps) => if plainRecv o then attrM (fun c => (ps.lookup c).map attrP) (fun c => cs.contains c) kf (dE d n sc fnb false o) else badE
      | none => badE)
    | .Call (.Name x _) es kws _ => dCallN d sc mu (dE d n sc fnb false) x es kws
    | .Call (.Attribute o m apos) es kws pos => dCallM d mu (dE d n sc fnb false) o m es kws (apos.endLine == pos.line)
    | .ListComp elt [⟨tg, it, ifs, 0⟩] scope _ => if blk d sc scope && noSet it then
      (match dG d.N (relS sc scope) (fun x => scope.names.lookup x == some .cell) n tg with
        | some (g, ws) => if ws.all (fun j => ((ownOf d.N scope.names).map (·.2)).contains j) then (match ifs with
          | [] => compM mu (dI d n sc fnb (isTupE tg) it) g yesT (dE d n (relS sc scope) (fun x => scope.names.lookup x == some .cell) false elt) ((ownOf d.N scope.names).map (·.2))
          | [c] => compM mu (dI d n sc fnb (isTupE tg) it) g (dT d n (relS sc scope) (fun x => scope.names.lookup x == some .cell) c) (dE d n (relS sc scope) (fun x => scope.names.lookup x == some .cell) false elt) ((ownOf d.N scope.names).map (·.2))
          | _ => badE) else badE
        | none => badE) else badE
    | _ => badE
/-- a test -/
def dT (d : Dn) : Nat → Scope → (Str → Bool) → Expr → MT
  | 0, _, _, _ => badT
  | n + 1, sc, fnb, e => match e with
    | .BoolOp .And es _ => dAndT (dT d n sc fnb) es
    | .BoolOp .Or es _ => dOrT (dT d n sc fnb) es
    | .UnaryOp .Not a _ => notT (dT d n sc fnb a)
    | .Compare a [op] [b] _ => if noSet b then (match cmpF (fun c => d.eqt.lookup c) op with | some f => tobM (bin2 f (dE d n sc fnb false a) (dE d n sc fnb false b)) | none => badT) else badT
    | .Compare a [op, op'] [b, c] _ => if noSet c then (match cmpF (fun c => d.eqt.lookup c) op, cmpF (fun c => d.eqt.lookup c) op' with | some f, some g => tobM (chM f g (dE d n sc fnb false a) (dE d n sc fnb false b) (dE d n sc fnb false c)) | _, _ => badT) else badT
    | e => if plainTest e then tobM (dE d n sc fnb false e) else badT
/-- what is walked; tp: the target is a tuple -/
def dI (d : Dn) : Nat → Scope → (Str → Bool) → Bool → Expr → MI
  | 0, _, _, _, _ => badI
  | n + 1, sc, fnb, tp, e => match e with
    | .Call (.Name x p) es [] _ => if x == ("range" : Str) then (if glb sc x && d.bl.contains x && es.all noStar then (match es with
        | [_] => preI rng1U (dAs (dE d n sc fnb false) es)
        | [_, _] => preI rng2U (dAs (dE d n sc fnb false) es)
        | [_, _, _] => preI rng3U (dAs (dE d n sc fnb false) es)
        | _ => badI) else badI)
      else if x == ("enumerate" : Str) then (if tp && glb sc x && d.bl.contains x && es.all noStar then (match es with
        | [a] => enI (dE d n sc fnb false a)
        | _ => badI) else badI)
      else if x == ("zip" : Str) then (if tp && glb sc x && d.bl.contains x && es.all noStar then (match es with
        | [_, _] => preI zpU (dAs (dE d n sc fnb false) es)
        | _ => badI) else badI)
      else seqI (dE d n sc fnb false e)
    | e => seqI (dE d n sc fnb false e)
end
end FL

/-! FL17: the translation of expressions is sound. -/
namespace FL
open PySem L2 PyProof.Rows
structure XOk (X : Cx) (T : Tb) (W : WX) (k : Nat) (d : Dn) (sc : Scope) (fnb : Str → Bool) : Prop where
  N : X.N = d.N
  nd : X.N.Nodup
  sc : X.env.scope = sc
  fn : X.fn = fnb
  hT : X.K = T.K
  calm : X.calm = true
  tk : Takes X W
  room : Room (k + 1) X.A
  tab : TabOk X.prog X.w X.K X.mg X.base T k d
section
variable {X : Cx} {T : Tb} {W : WX} {k : Nat} {d : Dn} {sc : Scope} {fnb : Str → Bool}
theorem relS_eq {X : Cx} {sc scope : Scope} (h : X.env.scope = sc) (cl : List (Str × Addr)) (C : Addr) : (compEnvC scope cl C X.env).scope = relS sc scope := by subst h; rfl
theorem XOk.blk (h : XOk X T W k d sc fnb) (s : Shared) (H : Hp) (scope : Scope) (C : Addr) (cl : List (Str × Addr)) (fp : List Addr) :
    XOk (X.blk s H scope (compEnvC scope cl C X.env) fp) T WF k d (relS sc scope) (fun x => scope.names.lookup x == some .cell) :=
  ⟨h.N, h.nd, relS_eq h.sc cl C, rfl, h.hT, h.calm, takes0, h.room, h.tab⟩
theorem PE.badE {e : Expr} : PE X e (tE T W FL.badE) := PE.bad fun _ _ => rfl
theorem PT.badT {e : Expr} : PT X e (tT T W FL.badT) := PT.bad fun _ _ => rfl
theorem PI.badI {tg e : Expr} : PI X tg e (tI T W FL.badI) := ⟨fun _ _ _ _ _ _ ⟨s, G, _, _, _, q⟩ => q.elim⟩

/-! ### the parts -/
theorem dAs_ok {f : Expr → ME} (hf : ∀ e, PE X e (tE T W (f e))) : ∀ {es : List Expr}, es.all noStar = true → PA X es (tA T W (dAs f es))
  | [], _ => fa_nil
  | e :: r, h => by
    rw [List.all_cons, Bool.and_eq_true] at h
    exact fa_cons (hf e) (dAs_ok hf h.2) (star_cons h.1)
theorem dKs_ok {f : Expr → ME} (hf : ∀ e, PE X e (tE T W (f e))) : ∀ {kws : List Keyword}, PK X kws (tA T W (dKs f kws))
  | [] => fk_nil
  | ⟨nm, e, kp⟩ :: r => fk_cons (hf e) (dKs_ok hf)
theorem fe_and1 {a : Expr} {pos : Pos} {ma : ME} (h : PE X a (tE T W ma)) : PE X (.BoolOp .And [a] pos) (tE T W ma) := pe_one h
theorem fe_or1 {a : Expr} {pos : Pos} {ma : ME} (h : PE X a (tE T W ma)) : PE X (.BoolOp .Or [a] pos) (tE T W ma) := pe_one h
theorem dAnd_ok {f : Expr → ME} {pos : Pos} (hf : ∀ e, PE X e (tE T W (f e))) : ∀ {es : List Expr}, PE X (.BoolOp .And es pos) (tE T W (dAnd f es))
  | [] => PE.badE
  | [a] => fe_and1 (hf a)
  | a :: b :: r => fe_and (hf a) (dAnd_ok hf)
theorem dOr_ok {f : Expr → ME} {pos : Pos} (hf : ∀ e, PE X e (tE T W (f e))) : ∀ {es : List Expr}, PE X (.BoolOp .Or es pos) (tE T W (dOr f es))
  | [] => PE.badE
  | [a] => fe_or1 (hf a)
  | a :: b :: r => fe_or (hf a) (dOr_ok hf)
theorem PW.badT {e : Expr} : PW X e (tT T W FL.badT) := ⟨fun _ _ _ _ _ _ _ ⟨s, G, _, _, _, q⟩ => q.elim⟩
theorem dAndT_ok {f : Expr → MT} {pos : Pos} (hf : ∀ e, PT X e (tT T W (f e))) : ∀ {es : List Expr}, PW X (.BoolOp .And es pos) (tT T W (dAndT f es))
  | [] => PW.badT
  | [a] => fw_and1 (hf a)
  | a :: b :: r => fw_and (hf a) (dAndT_ok hf)
theorem dOrT_ok {f : Expr → MT} {pos : Pos} (hf : ∀ e, PT X e (tT T W (f e))) : ∀ {es : List Expr}, PW X (.BoolOp .Or es pos) (tT T W (dOrT f es))
  | [] => PW.badT
  | [a] => fw_or1 (hf a)
  | a :: b :: r => fw_or (hf a) (dOrT_ok hf)
theorem dO_ok {f : Expr → ME} (hf : ∀ e, PE X e (tE T W (f e))) : ∀ {o : Option Expr}, PO X o (tO T W (dO f o))
  | none => fo_none
  | some e => fo_some (hf e)
theorem litOf_ok {c : Const} {u : U} {j : Nat} {pos : Pos} (h : litOf c = some u) : PE X (.Constant c j pos) (tE T W (litM u)) := by
  unfold litOf at h
  split at h <;> cases h
  · exact fe_lit pe_non fun _ _ _ => .non
  · exact fe_lit pe_bl fun _ _ _ => .bl _
  · exact fe_lit pe_int fun _ _ _ => .int _
  · exact fe_lit pe_str fun _ _ _ => .str _
theorem dGn_ok (h : XOk X T W k d sc fnb) {x : Str} {pos : Pos} {m : MG} {vs : List Nat} (e : dGn d.N sc fnb x = some (m, vs)) : PG X (.Name x pos) (tG T vs m) := by
  unfold dGn at e
  split at e
  · rename_i i hi
    have hN : X.N[i]? = some x := by rw [h.N]; exact findI_ok hi
    split at e
    · rename_i hl
      cases e
      rw [← h.sc] at hl
      exact fg_name h.nd hN (.inl hl) (.inr hl)
    · rename_i hl
      split at e
      · rename_i hf
        cases e
        rw [← h.sc] at hl
        exact fg_name h.nd hN (.inr hl) (.inl (by rw [h.fn]; exact hf))
      · cases e
    · cases e
  · cases e
theorem dGs_ok {g : Expr → Option (MG × List Nat)} (hg : ∀ e m vs, g e = some (m, vs) → PG X e (tG T vs m)) : ∀ {es : List Expr} {ms : MGs} {vs : List Nat}, es.all noStar = true → dGs g es = some (ms, vs) → PGs X es (tGs T vs ms)
  | [], _, _, _, e => by cases e; exact fg_nil
  | a :: r, ms, vs, h, e => by
    rw [List.all_cons, Bool.and_eq_true] at h
    unfold dGs at e
    split at e
    · rename_i m vs1 ms1 ws1 e1 e2
      cases e
      exact fg_cons (hg _ _ _ e1) (dGs_ok hg h.2 e2) h.1
    · cases e
theorem dG_ok (h : XOk X T W k d sc fnb) : ∀ (n : Nat) {e : Expr} {m : MG} {vs : List Nat}, dG d.N sc fnb n e = some (m, vs) → PG X e (tG T vs m)
  | 0, _, _, _, z => by cases z
  | n + 1, e, m, vs, z => by
    unfold dG at z
    split at z
    · exact dGn_ok h z
    · split at z
      · rename_i hs
        split at z
        · rename_i ms vs1 e1
          cases z
          exact fg_tup h.hT h.calm (dGs_ok (fun _ _ _ q => dG_ok h n q) hs e1) hs
        · cases z
      · cases z
    · cases z

theorem contains_mem {x : Str} {l : List Str} (h : l.contains x = true) : x ∈ l := by simpa using h
theorem tyNm_ok (h : XOk X T W k d sc fnb) {x : Str} {t : Ty ⊕ Nat} (e : tyNm d x = some t) : NamesTy X T x t := by
  unfold tyNm at e
  split at e
  · rename_i c hc
    cases e
    exact h.tab.ty x c hc
  · split at e
    · rename_i hb
      have hm := h.tab.bl x (contains_mem hb)
      split at e
      · rename_i hx; cases e; rw [beq_iff_eq] at hx; subst hx
        exact ⟨hm, by decide +kernel, by decide⟩
      · split at e
        · rename_i hx; cases e; rw [beq_iff_eq] at hx; subst hx
          exact ⟨hm, by decide +kernel, by decide⟩
        · split at e
          · rename_i hx; cases e; rw [beq_iff_eq] at hx; subst hx
            exact ⟨hm, by decide +kernel, by decide⟩
          · split at e
            · rename_i hx; cases e; rw [beq_iff_eq] at hx; subst hx
              exact ⟨hm, by decide +kernel, by decide⟩
            · split at e
              · rename_i hx; cases e; rw [beq_iff_eq] at hx; subst hx
                exact ⟨hm, by decide +kernel, by decide⟩
              · split at e
                · rename_i hx; cases e; rw [beq_iff_eq] at hx; subst hx
                  exact ⟨hm, by decide +kernel, by decide⟩
                · cases e
    · cases e
theorem dCallN_ok (h : XOk X T W k d sc fnb) {f : Expr → ME} (hf : ∀ e, PE X e (tE T W (f e))) {mu : Bool} {x : Str} {es : List Expr} {kws : List Keyword} {p pos : Pos} : PE X (.Call (.Name x p) es kws pos) (tE T W (dCallN d sc mu f x es kws)) := by
  have hrk : Room k X.A := h.room.mono (Nat.le_succ _)
  unfold dCallN
  split
  · rename_i hc
    rw [Bool.and_eq_true, Bool.and_eq_true] at hc
    obtain ⟨⟨h1, h2⟩, h3⟩ := hc
    have hg : Gl X x := glb_ok (by rw [h.sc]; exact h1)
    split
    · rename_i n r e
      obtain ⟨fa, g1, g2, g3⟩ := h.tab.gl x _ e
      split
      · exact fe_call g3 hrk hg g1 g2 h.tk (dAs_ok hf h3) (okN_d h2) h3
      · exact PE.badE
    · rename_i c n r e
      have M : MakeOk X.prog X.w X.K X.mg X.base T k c x n r := h.tab.gl x _ e
      split
      · cases es with
        | nil => exact fe_make0 M h.room hg h.tk (okN_d h2)
        | cons a r => exact fe_make M h.room hg h.tk (dAs_ok hf h3) (okN_d h2) h3
      · exact PE.badE
    · rename_i c n ks r e
      have M : MakeKOk X.prog X.w X.K X.mg X.base T k c x n ks r := h.tab.gl x _ e
      split
      · split
        · rename_i hk
          rw [Bool.and_eq_true] at hk
          exact fe_makeK M h.room hg h.tk (dAs_ok hf h3) (dKs_ok hf) (okN_d h2) h3 hk.1 (beq_iff_eq.mp hk.2)
        · exact PE.badE
      · exact PE.badE
    · exact PE.badE
    · split
      · rename_i hb
        have hm := h.tab.bl x (contains_mem hb)
        split
        · rename_i e r
          split
          · rename_i hx
            rw [beq_iff_eq] at hx
            split
            · rename_i y yp
              split
              · rename_i hy
                rw [Bool.and_eq_true] at hy
                split
                · rename_i t ht
                  exact fe_isi h.hT (h.hT ▸ h.tab.isi) hx hg hm (glb_ok (by rw [h.sc]; exact hy.1)) (tyNm_ok h ht) (okN_d hy.2) (hf e) (by rw [List.all_cons, Bool.and_eq_true] at h3; exact h3.1)
                · exact PE.badE
              · exact PE.badE
            · exact PE.badE
          · split
            · rename_i hx
              rw [Bool.and_eq_true, beq_iff_eq] at hx
              exact fe_len hx.1 h.tab.lnt h.room h.hT hg hm (dAs_ok hf h3) h3
            · split
              · rename_i g e1
                exact fe_bltF e1 h.hT h.calm hg hm (dAs_ok hf h3) h3
              · split
                · rename_i g e1
                  exact fe_bltT e1 h.hT h.calm hg hm (dAs_ok hf h3) h3
                · exact PE.badE
        · exact PE.badE
      · exact PE.badE
  · exact PE.badE
theorem lmF_ok {m : Str} {g : U → RunD} (e : lmF m = some g) : ∃ id r, Slot "list" m id ∧ typeOf (.builtin id) = pure (.type "method_descriptor") ∧ MtR X id r ∧ OM T W g r := by
  unfold lmF at e
  split at e
  · rename_i hx; cases e; rw [beq_iff_eq] at hx; subst hx
    exact ⟨_, _, PySem.F.slot_list_append, PySem.F.type_list_append, mt_append, om_append⟩
  · split at e
    · rename_i hx; cases e; rw [beq_iff_eq] at hx; subst hx
      exact ⟨_, _, PySem.F.slot_list_extend, PySem.F.type_list_extend, mt_extend, om_extend⟩
    · split at e
      · rename_i hx; cases e; rw [beq_iff_eq] at hx; subst hx
        exact ⟨_, _, PySem.F.slot_list_pop, PySem.F.type_list_pop, mt_popA, om_pop⟩
      · cases e
theorem lookup_ne {α β : Type} [BEq α] [LawfulBEq α] : ∀ {l : List (α × β)}, l ≠ [] → ∃ a b, l.lookup a = some b
  | [], h => absurd rfl h
  | (a, b) :: r, _ => ⟨a, b, by simp⟩
theorem dCallM_ok (h : XOk X T W k d sc fnb) {f : Expr → ME} (hf : ∀ e, PE X e (tE T W (f e))) {mu : Bool} {o : Expr} {m : Str} {es : List Expr} {kws : List Keyword} {apos pos : Pos} : PE X (.Call (.Attribute o m apos) es kws pos) (tE T W (dCallM d mu f o m es kws (apos.endLine == pos.line))) := by
  have hrk : Room k X.A := h.room.mono (Nat.le_succ _)
  unfold dCallM
  split
  · rename_i hc
    rw [Bool.and_eq_true, Bool.and_eq_true, Bool.and_eq_true] at hc
    obtain ⟨⟨⟨h1, h2⟩, h3⟩, h4⟩ := hc
    replace h3 := of_decide_eq_true h3
    split
    · split
      · rename_i km tb e
        obtain ⟨g1, g2⟩ := h.tab.mth m _ e
        obtain ⟨c, ⟨n, r⟩, hc⟩ := lookup_ne g1
        split
        · exact fe_meth0 (hf o) h.tab.hat ⟨c, n, r, hc⟩ g2 hrk h.tk h1 h4
        · rename_i hne
          cases es with
          | nil => exact absurd rfl hne
          | cons a r' => exact fe_meth (hf o) (dAs_ok hf h2) h.tab.hat ⟨c, n, r, hc⟩ g2 hrk h.tk h1 h2 h3 h4
      · split
        · rename_i hx
          rw [beq_iff_eq] at hx
          subst hx
          split
          · rename_i e
            exact fe_join h.hT (hf o) (hf e) h1 (by simpa using h2) h4
          · exact PE.badE
        · split
          · rename_i hx
            rw [beq_iff_eq] at hx
            subst hx
            split
            · rename_i e
              exact fe_split (hf o) (hf e) h1 (by simpa using h2) h4
            · exact PE.badE
          · split
            · rename_i g e
              obtain ⟨id, r, q1, q2, q3, q4⟩ := lmF_ok (X := X) (T := T) (W := W) e
              split
              · exact fe_lm0 PySem.F.plainAttrs_list q1 q2 q3 q4 (hf o) h1 h4
              · rename_i hne
                cases es with
                | nil => exact absurd rfl hne
                | cons a r' => exact fe_lm PySem.F.plainAttrs_list q1 q2 q3 q4 (hf o) (dAs_ok hf h2) h1 h2 h3 h4
            · exact PE.badE
    · exact PE.badE
  · exact PE.badE
end
def SndE (n : Nat) : Prop := ∀ (X : Cx) (T : Tb) (W : WX) (k : Nat) (d : Dn) (sc : Scope) (fnb : Str → Bool), XOk X T W k d sc fnb →
  (∀ mu e, PE X e (tE T W (dE d n sc fnb mu e))) ∧ (∀ e, PT X e (tT T W (dT d n sc fnb e))) ∧ ∀ tg e, PI X tg e (tI T W (dI d n sc fnb (isTupE tg) e))
theorem sndE : ∀ n, SndE n
  | 0 => fun X T W k d sc fnb h => ⟨fun mu e => by unfold dE; exact PE.badE, fun e => by unfold dT; exact PT.badT, fun tg e => by unfold dI; exact PI.badI⟩
  | n + 1 => fun X T W k d sc fnb h => by
    obtain ⟨hE, hT, hI⟩ := sndE n X T W k d sc fnb h
    have hQ : ∀ op f, cmpF (fun c => d.eqt.lookup c) op = some f → ∃ r, OpR X (compareOp op) r ∧ O2 T W f r := fun op f e => cmpF_ok h.hT (fun c r q => h.tab.eqt c r q) h.room e
    refine ⟨fun mu e => ?_, fun e => ?_, fun tg e => ?_⟩
    · unfold dE
      split
      · -- a name
        rename_i x pos
        split
        · rename_i hx
          split
          · rename_i hv
            split
            · rename_i i hi
              exact fe_var (by rw [h.N]; exact findI_ok hi) (by rw [h.sc]; exact vis_ok hv) (okN_d hx) (okN_c hx)
            · exact PE.badE
          · split
            · rename_i hg
              split
              · rename_i u hu
                obtain ⟨v, val, q1, q2, q3⟩ := h.tab.gl x _ hu
                exact fe_lit (pe_glob (glb_ok (by rw [h.sc]; exact hg)) q1 q2 (okN_d hx)) q3
              · exact PE.badE
            · exact PE.badE
        · exact PE.badE
      · split
        · rename_i u hu
          exact litOf_ok hu
        · exact PE.badE
      · split
        · rename_i f hf
          obtain ⟨r, q1, q2⟩ := binF_ok (W := W) h.hT hf
          exact fe_bin q1 q2 (hE _ _) (hE _ _)
        · exact PE.badE
      · exact fe_not (hE _ _)
      · exact fe_neg (hE _ _)
      · exact dAnd_ok (hE false)
      · exact dOr_ok (hE false)
      · exact fe_ite (hT _) (hE _ _) (hE _ _)
      · split
        · rename_i hs
          split
          · rename_i f hf
            obtain ⟨r, q1, q2⟩ := hQ _ _ hf
            exact fe_cmp q1 q2 (hE _ _) (hE _ _) (marks_no hs)
          · exact PE.badE
        · exact PE.badE
      · split
        · rename_i hs
          split
          · rename_i f g hf hg
            obtain ⟨r, q1, q2⟩ := hQ _ _ hf
            obtain ⟨r', q3, q4⟩ := hQ _ _ hg
            exact fe_chain q1 q3 q2 q4 (hE _ _) (hE _ _) (hE _ _) hs
          · exact PE.badE
        · exact PE.badE
      · exact fe_dct
      · split
        · rename_i hs
          exact fe_lst (dAs_ok (hE false) hs)
        · exact PE.badE
      · split
        · rename_i hs
          exact fe_tup (dAs_ok (hE false) hs)
        · exact PE.badE
      · exact fe_slice h.hT (hE _ _) (dO_ok (hE false)) (dO_ok (hE false))
      · split
        · rename_i hs
          exact fe_ix h.hT (hE _ _) (hE _ _) (plainIx hs)
        · exact PE.badE
      · split
        · rename_i kf cs ps e
          obtain ⟨g1, g2, g3⟩ := h.tab.att _ _ e
          split
          · rename_i hp
            exact fe_attr (hE _ _) h.hT h.tab.hat g1 g3 (fun c hc => g2 c (by simpa using hc)) h.room hp
          · exact PE.badE
        · exact PE.badE
      · exact dCallN_ok h (hE false)
      · exact dCallM_ok h (hE false)
      · -- a comprehension
        split
        · rename_i hb
          rw [Bool.and_eq_true] at hb
          split
          · rename_i g ws hg
            split
            · rename_i hw
              have hw' : ∀ j ∈ ws, j ∈ (ownOf d.N _).map (·.2) := fun j hj => by
                have := List.all_eq_true.mp hw j hj
                simpa using this
              have ok := blkOk_by (show blkC d.N sc _ _ = true from hb.1)
              rw [← h.N, ← h.sc] at ok
              split
              · refine fe_lc h.calm h.nd (hI _ _) ?_ hw' (fun s H C cl fp => dG_ok (h.blk s H _ C cl fp) n hg) (fun s H C cl fp => ft_nil) (fun s H C cl fp => (sndE n _ T WF k d _ _ (h.blk s H _ C cl fp)).1 _ _) hb.2
                rw [← h.N]; exact ok
              · refine fe_lc h.calm h.nd (hI _ _) ?_ hw' (fun s H C cl fp => dG_ok (h.blk s H _ C cl fp) n hg) (fun s H C cl fp => ft_one ((sndE n _ T WF k d _ _ (h.blk s H _ C cl fp)).2.1 _)) (fun s H C cl fp => (sndE n _ T WF k d _ _ (h.blk s H _ C cl fp)).1 _ _) hb.2
                rw [← h.N]; exact ok
              · exact PE.badE
            · exact PE.badE
          · exact PE.badE
        · exact PE.badE
      · exact PE.badE
    · unfold dT
      split
      · exact (dAndT_ok hT).pt
      · exact (dOrT_ok hT).pt
      · exact ft_not (hT _)
      · split
        · rename_i hs
          split
          · rename_i f hf
            obtain ⟨r, q1, q2⟩ := hQ _ _ hf
            exact ft_cmp q1 q2 (hE _ _) (hE _ _) (marks_no hs)
          · exact PT.badT
        · exact PT.badT
      · split
        · rename_i hs
          split
          · rename_i f g hf hg
            obtain ⟨r, q1, q2⟩ := hQ _ _ hf
            obtain ⟨r', q3, q4⟩ := hQ _ _ hg
            exact ft_chain q1 q3 q2 q4 (hE _ _) (hE _ _) (hE _ _) hs
          · exact PT.badT
        · exact PT.badT
      · split
        · rename_i hs
          exact ft_val (hE _ _) (plain_test hs)
        · exact PT.badT
    · unfold dI
      split
      · rename_i x p es pos
        split
        · rename_i hx
          rw [beq_iff_eq] at hx
          subst hx
          split
          · rename_i hc
            rw [Bool.and_eq_true, Bool.and_eq_true] at hc
            obtain ⟨⟨h1, h2⟩, h3⟩ := hc
            have hg : Gl X "range" := glb_ok (by rw [h.sc]; exact h1)
            have hm := h.tab.bl _ (contains_mem h2)
            have ha := dAs_ok (hE false) h3
            split
            · exact fi_rng1 hg hm ha (by simpa using h3)
            · exact fi_rng2 hg hm ha (by simp at h3; exact h3.1) (by simp at h3; exact h3.2)
            · exact fi_rng3 hg hm ha (by simp at h3; exact h3.1) (by simp at h3; exact h3.2.1) (by simp at h3; exact h3.2.2)
            · exact PI.badI
          · exact PI.badI
        · split
          · rename_i hx
            rw [beq_iff_eq] at hx
            subst hx
            split
            · rename_i hc
              rw [Bool.and_eq_true, Bool.and_eq_true, Bool.and_eq_true] at hc
              obtain ⟨⟨⟨ht, h1⟩, h2⟩, h3⟩ := hc
              have hg : Gl X "enumerate" := glb_ok (by rw [h.sc]; exact h1)
              have hm := h.tab.bl _ (contains_mem h2)
              cases tg with
              | Tuple elts kk tpos =>
                split
                · exact fi_enum h.hT hg hm (hE _ _) (by simpa using h3)
                · exact PI.badI
              | _ => cases ht
            · exact PI.badI
          · split
            · rename_i hx
              rw [beq_iff_eq] at hx
              subst hx
              split
              · rename_i hc
                rw [Bool.and_eq_true, Bool.and_eq_true, Bool.and_eq_true] at hc
                obtain ⟨⟨⟨ht, h1⟩, h2⟩, h3⟩ := hc
                have hg : Gl X "zip" := glb_ok (by rw [h.sc]; exact h1)
                have hm := h.tab.bl _ (contains_mem h2)
                cases tg with
                | Tuple elts kk tpos =>
                  split
                  · have ha := dAs_ok (hE false) h3
                    simp only [List.all_cons, List.all_nil, Bool.and_true, Bool.and_eq_true] at h3
                    exact fi_zip h.hT hg hm ha h3.1 h3.2
                  · exact PI.badI
                | _ => cases ht
              · exact PI.badI
            · exact fi_seq h.hT (hE _ _)
      · exact fi_seq h.hT (hE _ _)
end FL

/-! FL25: the suites of except clauses. -/
namespace FL
open PySem L2 PyProof.Rows
/-- an expression of a suite: c the class caught, y its name -/
def dXe (d : Dn) (y : Option Str) (c : Nat) (o : Option Nat) : Expr → Option (Exn → Option U)
  | .Constant k _ _ => (litOf k).map fun u _ => some u
  | .Attribute (.Name z _) f _ => if y = some z ∧ okN z = true then (match d.att.lookup f, o with
    | some (kf, _, _), some kf' => if kf = kf' then some (fun x => if x.cls = c then (match x.fs.lookup kf with | some u => if flatU u then some u else none | none => none) else none) else none
    | _, _ => none) else none
  | _ => none
def dXs (f : Expr → Option (Exn → Option U)) : List Expr → Option (Exn → Option (List U))
  | [] => some fun _ => some []
  | e :: r => match f e, dXs f r with
    | some m, some ms => some fun x => match m x, ms x with
      | some u, some us => some (u :: us)
      | _, _ => none
    | _, _ => none
def dXv (d : Dn) (y : Option Str) (c : Nat) (o : Option Nat) : Expr → Option (Exn → Option U)
  | .List es _ => if es.all noStar then (dXs (dXe d y c o) es).map fun ms x => (ms x).bind fun us => if us.length ≤ szL then some (.lst us) else none else none
  | e => dXe d y c o e
def locI (d : Dn) (sc : Scope) (fnb : Str → Bool) (x : Str) : Option Nat := match findI x d.N with
  | some i => (match sc.names.lookup x with
    | some .local => some i
    | some .cell => if fnb x then some i else none
    | _ => none)
  | none => none
/-- a test of a suite whose answer is known: isinstance(y, C), not, or -/
def tstB (d : Dn) (sc : Scope) (y : Option Str) (c : Nat) : Nat → Expr → Option Bool
  | 0, _ => none
  | n + 1, e => match e with
    | .UnaryOp .Not t _ => (tstB d sc y c n t).map not
    | .BoolOp .Or [t, u] _ => match tstB d sc y c n t, tstB d sc y c n u with
      | some a, some b => some (a || b)
      | _, _ => none
    | .Call (.Name f _) [.Name z _, .Name x _] [] _ => if f == ("isinstance" : Str) && glb sc f && d.bl.contains f && decide (y = some z) && okN z && glb sc x && okN x then (match d.xc.lookup x with
      | some (c', _) => d.xi.lookup (c, c')
      | none => none) else none
    | _ => none
def dX (d : Dn) (sc : Scope) (fnb : Str → Bool) (y : Option Str) (i : Option Nat) (c : Nat) (o : Option Nat) : List Stmt → Option (Exn → MS)
  | [.Assign [.Name x _] e _] => if noComp e then (match locI d sc fnb x, dXv d y c o e with
    | some j, some m => some fun ex s G => (match m ex with
      | some u => .nx (s.set j (some u)) G
      | none => .bad)
    | _, _ => none) else none
  | [.Assign [.Name x _] e _, .If t _ [] _] => if noComp e then (match locI d sc fnb x, dXe d y c o e, tstB d sc y c 8 t with
    | some j, some m, some false => some fun ex s G => (match m ex with
      | some u => if ex.cls = c ∧ ex.fs ≠ [] ∧ i ≠ some j then .nx (s.set j (some u)) G else .bad
      | none => .bad)
    | _, _, _ => none) else none
  | [.Return (some e) _] => (match dXv d y c o e with
    | some m => some fun ex s G => (match m ex with
      | some u => .rt u G
      | none => .bad)
    | none => none)
  | _ => none
section
variable {X : Cx} {T : Tb} {W : WX} {k : Nat} {d : Dn} {sc : Scope} {fnb : Str → Bool}
theorem locI_ok (h : XOk X T W k d sc fnb) {x : Str} {i : Nat} (e : locI d sc fnb x = some i) : X.N[i]? = some x ∧ Loc X.env.scope x ∧ (X.fn x = true ∨ X.env.scope.names.lookup x = some .local) := by
  unfold locI at e
  split at e
  · rename_i j hj
    have hN : X.N[j]? = some x := by rw [h.N]; exact findI_ok hj
    split at e
    · rename_i hl
      cases e
      rw [← h.sc] at hl
      exact ⟨hN, .inl hl, .inr hl⟩
    · rename_i hl
      split at e
      · rename_i hf
        cases e
        rw [← h.sc] at hl
        exact ⟨hN, .inr hl, .inl (by rw [h.fn]; exact hf)⟩
      · cases e
    · cases e
  · cases e
/-- what is known in a suite -/
structure InX (T : Tb) (i : Option Nat) (a : Addr) (cls : Value) (dd : Option Addr) (σ : L2.St) (H : Hp) (s : Sg) (G : List Ob) (ρ : List Addr) (Z : Addr → Prop) (x : Exn) : Prop where
  sm : Sm T σ H s G ρ Z
  ax : ExAt T x cls dd H
  na : H a = none
  sl : ∀ j, i = some j → σ[j]? = some (some (.ref a))
def tXa (T : Tb) (i : Option Nat) (m : Exn → Option U) (a : Addr) (cls : Value) (dd : Option Addr) : TE := fun σ H Q => ∃ s G ρ Z x u, InX T i a cls dd σ H s G ρ Z x ∧ m x = some u ∧ ∀ v, Rep T ρ Z H v u → Q v H
def tXas (T : Tb) (i : Option Nat) (m : Exn → Option (List U)) (a : Addr) (cls : Value) (dd : Option Addr) : L2.TA := fun σ H Q => ∃ s G ρ Z x us, InX T i a cls dd σ H s G ρ Z x ∧ m x = some us ∧ ∀ vs, Reps T ρ Z H vs us → Q vs H
variable {a : Addr} {oe : Obj} {cls : Value} {dd : Option Addr} {pn : List (Addr × Obj)} {i : Option Nat} {y : Option Str} {c : Nat} {o : Option Nat}
theorem litOf_v {c : Const} {u : U} {j : Nat} {pos : Pos} (h : litOf c = some u) : ∃ v, PE X (.Constant c j pos) (tC v) ∧ ∀ ρ Z H, Rep T ρ Z H v u := by
  unfold litOf at h
  split at h <;> cases h
  · exact ⟨_, pe_non, fun _ _ _ => .non⟩
  · exact ⟨_, pe_bl, fun _ _ _ => .bl _⟩
  · exact ⟨_, pe_int, fun _ _ _ => .int _⟩
  · exact ⟨_, pe_str, fun _ _ _ => .str _⟩
/-- the clause's name and slot, its class's field -/
structure ClOk (X : Cx) (T : Tb) (i : Option Nat) (y : Option Str) (c : Nat) (o : Option Nat) : Prop where
  nm : ∀ z, y = some z → ∃ j, i = some j ∧ X.N[j]? = some z ∧ X.env.scope.names.lookup z = some .local
  fl : ∀ kf, o = some kf → ∃ C f, T.cls[c]? = some C ∧ T.att[kf]? = some f ∧ XfC X.K C ∧ PySem.W.findIn X.K (.ref C) f = some none
theorem dXe_ok (h : XOk X T W k d sc fnb) (hc : ClOk X T i y c o) (hz : Zc cls dd oe) (hv : ∃ vs, oe.data = .fields vs) {e : Expr} {m : Exn → Option U} (q : dXe d y c o e = some m) : PE (X.suite a ((a, oe) :: pn)) e (tXa T i m a cls dd) := by
  unfold dXe at q
  split at q
  · rename_i k' p1 p2
    obtain ⟨u, e1, e2⟩ := Option.map_eq_some_iff.mp q
    subst e2
    obtain ⟨v, pe, rv⟩ := litOf_v (X := X.suite a ((a, oe) :: pn)) (T := T) (j := p1) (pos := p2) e1
    exact PE.imp pe fun σ H Q ⟨s, G, ρ, Z, x, u', ix, e3, r⟩ => by
      cases e3
      exact r v (rv ρ Z H)
  · rename_i z p1 f p2
    split at q
    · rename_i hy
      split at q
      · rename_i kf cs ps kf' ea
        split at q
        · rename_i hk
          subst hk
          obtain ⟨j, hj, hN, hl⟩ := hc.nm z hy.1
          obtain ⟨C, f', g1, g2, g3, g4⟩ := hc.fl _ rfl
          obtain ⟨t1, _, _⟩ := h.tab.att f _ ea
          have ef : f' = f := by rw [t1] at g2; exact (Option.some.inj g2).symm
          subst ef
          have pv : PE (X.suite a ((a, oe) :: pn)) (.Name z p1) (tVar j) := pe_var hN (.inl hl) (okN_d hy.2) (okN_c hy.2)
          refine PE.imp (pe_xf g3 g4 hz hv pv (attrBase rfl)) fun σ H Q ⟨s, G, ρ, Z, x, u, ix, em, r⟩ => ?_
          cases q
          simp only at em
          split at em
          · rename_i hx
            split at em
            · rename_i u' eu
              split at em
              · rename_i hf
                cases em
                obtain ⟨C', c1, c2, c3⟩ := ix.ax
                have eC : C' = C := by rw [hx, g1] at c1; exact (Option.some.inj c1).symm
                subst eC
                refine ⟨_, ix.sl j hj, rfl, c2, ?_⟩
                rcases c3 with ⟨c3, _⟩ | ⟨d', fv, c4, c5, c6⟩
                · rw [c3] at eu; cases eu
                · obtain ⟨v, l1, l2⟩ := repF_some t1 (fun j' hj' => h.tab.hat j' kf f' hj' t1) c6 eu
                  exact ⟨d', fv, v, c4, c5, l1, r v (rep_flat l2 hf)⟩
              · cases em
            · cases em
          · cases em
        · cases q
      · cases q
    · cases q
  · cases q
theorem dXs_ok {f : Expr → Option (Exn → Option U)} (hf : ∀ e m, f e = some m → PE (X.suite a ((a, oe) :: pn)) e (tXa T i m a cls dd)) : ∀ {es : List Expr} {ms : Exn → Option (List U)}, es.all noStar = true → dXs f es = some ms → PA (X.suite a ((a, oe) :: pn)) es (tXas T i ms a cls dd)
  | [], ms, _, q => by
    cases q
    exact PA.imp pa_nil fun σ H Q ⟨s, G, ρ, Z, x, us, ix, e, r⟩ => by
      cases e
      exact r [] .nil
  | e :: es, ms, hs, q => by
    rw [List.all_cons, Bool.and_eq_true] at hs
    unfold dXs at q
    split at q
    · rename_i m ms' e1 e2
      cases q
      refine PA.imp (pa_cons (hf e m e1) (dXs_ok hf hs.2 e2) (star_cons hs.1)) fun σ H Q ⟨s, G, ρ, Z, x, us, ix, em, r⟩ => ?_
      simp only at em
      split at em
      · rename_i u us' q1 q2
        cases em
        exact ⟨s, G, ρ, Z, x, u, ix, q1, fun v rv => ⟨s, G, ρ, Z, x, us', ix, q2, fun vs rvs => r (v :: vs) (.cons rv rvs)⟩⟩
      · cases em
    · cases q
/-- .. the value may be new -/
def tXn (T : Tb) (i : Option Nat) (m : Exn → Option U) (a : Addr) (cls : Value) (dd : Option Addr) : TE := fun σ H Q => ∃ s G ρ Z x u, InX T i a cls dd σ H s G ρ Z x ∧ m x = some u ∧ ∀ v H', Ex ρ Z H ρ Z H' → Rl T ρ Z G H' → Rep T ρ Z H' v u → Q v H'
theorem dXv_ok (h : XOk X T W k d sc fnb) (hc : ClOk X T i y c o) (hz : Zc cls dd oe) (hv : ∃ vs, oe.data = .fields vs) {e : Expr} {m : Exn → Option U} (q : dXv d y c o e = some m) : PE (X.suite a ((a, oe) :: pn)) e (tXn T i m a cls dd) := by
  unfold dXv at q
  split at q
  · rename_i es p
    split at q
    · rename_i hs
      obtain ⟨ms, e1, e2⟩ := Option.map_eq_some_iff.mp q
      subst e2
      refine PE.imp (pe_lst (dXs_ok (fun e m q => dXe_ok h hc hz hv q) hs e1)) fun σ H Q ⟨s, G, ρ, Z, x, u, ix, em, r⟩ => ?_
      simp only at em
      cases e3 : ms x with
      | none => rw [e3] at em; cases em
      | some us =>
        rw [e3] at em
        simp only [Option.bind_some] at em
        split at em
        · rename_i hl
          cases em
          refine ⟨s, G, ρ, Z, x, us, ix, e3, fun vs rvs => ⟨by rw [rvs.length, szL_eq]; exact hl, fun p hp => ?_⟩⟩
          exact r _ _ (ex_new hp) (ix.sm.rl.new hp) (.lst upd_same (ix.sm.rl.nz hp) (rvs.ex ix.sm.rl.zm (ex_new hp)))
        · cases em
    · cases q
  · exact PE.imp (dXe_ok h hc hz hv q) fun σ H Q ⟨s, G, ρ, Z, x, u, ix, em, r⟩ => ⟨s, G, ρ, Z, x, u, ix, em, fun v rv => r v H Ex.refl ix.sm.rl rv⟩
/-- a suite's test -/
def tXt (T : Tb) (i : Option Nat) (c : Nat) (b : Bool) (a : Addr) (cls : Value) (dd : Option Addr) : TT := fun σ H Q => (∃ s G ρ Z x d fv, InX T i a cls dd σ H s G ρ Z x ∧ x.cls = c ∧ dd = some d ∧ H d = some (.xd fv)) ∧ Q b H
theorem tstB_ok (h : XOk X T W k d sc fnb) (hc : ClOk X T i y c o) (hz : Zc cls dd oe) (hv : ∃ vs, oe.data = .fields vs) : ∀ (n : Nat) {t : Expr} {b : Bool}, tstB d sc y c n t = some b → PT (X.suite a ((a, oe) :: pn)) t (tXt T i c b a cls dd)
  | 0, _, _, q => by cases q
  | n + 1, t, b, q => by
    unfold tstB at q
    split at q
    · obtain ⟨b', e1, e2⟩ := Option.map_eq_some_iff.mp q
      subst e2
      exact PT.imp (pt_not (tstB_ok h hc hz hv n e1)) fun σ H Q ⟨w, r⟩ => ⟨w, r⟩
    · split at q
      · rename_i b1 b2 e1 e2
        cases q
        refine PT.imp (pw_or (tstB_ok h hc hz hv n e1) (pw_or1 (tstB_ok h hc hz hv n e2))).pt fun σ H Q ⟨w, r⟩ => ⟨w, ?_⟩
        cases b1 with
        | true => exact r
        | false => exact ⟨w, r⟩
      · cases q
    · rename_i f p1 z p2 x p3 p4
      split at q
      · rename_i hq
        simp only [Bool.and_eq_true, decide_eq_true_eq, beq_iff_eq] at hq
        obtain ⟨⟨⟨⟨⟨⟨q1, q2⟩, q3⟩, q4⟩, q5⟩, q6⟩, q7⟩ := hq
        split at q
        · rename_i c' o' el
          subst q1
          obtain ⟨⟨C', g1, g2⟩, _⟩ := h.tab.xc x _ el
          obtain ⟨j, hj, hN, hl⟩ := hc.nm z q4
          have hm := h.tab.bl _ (contains_mem q3)
          -- the class of what is caught must be known: by cases on it
          refine ⟨fun pins s σ H Q I ⟨⟨s0, G, ρ, Z, xn, d0, fv, ix, ex, ed, eh⟩, r⟩ => ?_⟩
          obtain ⟨C, c1, c2, c3⟩ := ix.ax
          rw [ex] at c1
          obtain ⟨K1, K2⟩ := h.tab.xi c c' b C C' q c1 g1
          subst c2
          subst ed
          have call := pe_callB (X := X.suite a ((a, oe) :: pn)) (p := p1) (pos := p4) (call_isX (h.hT ▸ K1 : ExcC X.K C) hz hv) (glb_ok (by rw [h.sc]; exact q2)) hm (by decide +kernel)
            (pa_cons (pe_var (X := X.suite a ((a, oe) :: pn)) (pos := p2) hN (.inl hl) (okN_d q5) (okN_c q5)) (pa_cons (pe_glob (v := .ref C') (X := X.suite a ((a, oe) :: pn)) (pos := p3) (glb_ok (by rw [h.sc]; exact q6)) g2 rfl (okN_d q7)) pa_nil rfl) rfl) (by decide) (by decide) rfl rfl
          refine (pt_val call (plain_test rfl)).run pins s σ H Q I ?_
          exact ⟨.ref a, ix.sl j hj, C', b, fv, rfl, eh, h.hT ▸ K2, b, rfl, r⟩
        · cases q
      · cases q
    · cases q
theorem PSs.any {Y : Cx} {ss : List Stmt} : PSs Y ss (fun _ _ _ => False) := ⟨fun _ _ _ _ _ _ z => z.elim⟩
theorem dX_ok (h : XOk X T W k d sc fnb) (hc : ClOk X T i y c o) {ss : List Stmt} {m : Exn → MS} (q : dX d sc fnb y i c o ss = some m) : SuiteOk X ss (tX T i m) := by
  intro a oe cls dd pn hz hv
  unfold dX at q
  split at q
  · rename_i x p e pos
    split at q
    · rename_i hn
      split at q
      · rename_i j mv e1 e2
        cases q
        obtain ⟨n1, n2, n3⟩ := locI_ok h e1
        refine pss_one (PS.imp (ps_set (X := X.suite a ((a, oe) :: pn)) h.nd n1 n2 (dXv_ok h hc hz hv e2) (swaps_no hn) n3) fun D σ H ⟨s, G, ρ, Z, xn, sm, ax, na, sl, r⟩ => ?_)
        cases em : mv xn with
        | none => simp only [em] at r; exact r.elim
        | some u =>
          simp only [em] at r
          exact ⟨s, G, ρ, Z, xn, u, ⟨sm, ax, na, sl⟩, em, fun v H' x' rl rv => r _ H' ρ Z x' ⟨rl, (sm.fm.ex sm.rl.zm x').set rv⟩⟩
      · cases q
    · cases q
  · rename_i x p e pos t body pos2
    split at q
    · rename_i hn
      split at q
      · rename_i j mv e1 e2 e3
        cases q
        obtain ⟨n1, n2, n3⟩ := locI_ok h e1
        have pt := tstB_ok (a := a) (oe := oe) (cls := cls) (dd := dd) (pn := pn) h hc hz hv 8 e3
        refine PSs.imp (pss_cons (ps_set (X := X.suite a ((a, oe) :: pn)) h.nd n1 n2 (dXe_ok h hc hz hv e2) (swaps_no hn) n3) (pss_one (ps_if pt PSs.any pss_nil))) fun D σ H ⟨s, G, ρ, Z, xn, sm, ax, na, sl, r⟩ => ?_
        cases em : mv xn with
        | none => simp only [em] at r; exact r.elim
        | some u =>
          simp only [em] at r
          by_cases hh : xn.cls = c ∧ xn.fs ≠ [] ∧ i ≠ some j
          · rw [if_pos hh] at r
            refine ⟨s, G, ρ, Z, xn, u, ⟨sm, ax, na, sl⟩, em, fun v rv => ?_⟩
            obtain ⟨C, c1, c2, c3⟩ := id ax
            rcases c3 with ⟨c3, _⟩ | ⟨d', fv, c4, c5, c6⟩
            · exact absurd c3 hh.2.1
            · have fm2 : Fm T ρ Z H (σ.set j (some v)) (s.set j (some u)) := sm.fm.set rv
              refine ⟨⟨s.set j (some u), G, ρ, Z, xn, d', fv, ⟨⟨sm.rl, fm2⟩, ax, na, fun l hl => ?_⟩, hh.1, c4, c5⟩, ?_⟩
              · have : j ≠ l := fun z => hh.2.2 (by rw [z]; exact hl)
                rw [List.getElem?_set_ne this]
                exact sl l hl
              · show if false = true then _ else _
                rw [if_neg Bool.false_ne_true]
                exact r _ H ρ Z Ex.refl ⟨sm.rl, fm2⟩
          · rw [if_neg hh] at r
            exact r.elim
      · cases q
    · cases q
  · rename_i e pos
    split at q
    · rename_i mv e2
      cases q
      refine pss_one (PS.imp (ps_ret (dXv_ok h hc hz hv e2)) fun D σ H ⟨s, G, ρ, Z, xn, sm, ax, na, sl, r⟩ => ?_)
      cases em : mv xn with
      | none => simp only [em] at r; exact r.elim
      | some u =>
        simp only [em] at r
        exact ⟨s, G, ρ, Z, xn, u, ⟨sm, ax, na, sl⟩, em, fun v H' x' rl rv => r v H' ρ Z x' rl rv⟩
    · cases q
  · cases q
end
end FL

/-! FL18: statements, a def's body. -/
namespace FL
open PySem L2 PyProof.Rows
/-- how many turns a while may take -/
def wF : Nat := 100000
def dSs (f : Stmt → MS) : List Stmt → MS
  | [] => nxM
  | [s] => f s
  | s :: r => seqM (f s) (dSs f r)
/-- name = a comprehension: whether its name is kept over it -/
def swB (sc : Scope) (x : Str) (p q : Pos) (scope : Scope) : Bool :=
  (if sc.kind.isAnnotationScope then ScopeKind.function else sc.kind) == .function && sc.names.lookup x == some .local && p.line == q.line && !(scope.names.any fun (n, k) => n == x && (k == .local || k == .cell))
theorem swB_eq {env : Env} {elt : Expr} {gs : List Comprehension} {scope : Scope} {pos py : Pos} {x : Str} {l : Nat} : swapsWith (.ListComp elt gs scope pos) (some (.Name x py)) l env = pure (swB env.scope x py pos scope) := rfl
def bkF (sc : Scope) : Bool := (if sc.kind.isAnnotationScope then ScopeKind.function else sc.kind) == .function
/-- a, b = e, e' : the stores from the right -/
def parB (sc : Scope) (x y : Str) (px py : Pos) (a b : Expr) : Bool :=
  bkF sc && sc.names.lookup x == some .local && sc.names.lookup y == some .local && px.line == py.line && !(x == y) && noStar a && noStar b && !([a, b].all (foldedForSure 8)) && !([a, b].all (constantsAlone 8))
def parM (i j : Nat) (ms : MA) : MS := fun s G => match ms s G with
  | .ok [u, v] G1 => .nx ((s.set i (some u)).set j (some v)) G1
  | .exc x G1 => .exc x s G1
  | _ => .bad
def slotI (d : Dn) (sc : Scope) : Option Str → Option (Option Nat)
  | none => some none
  | some n => match findI n d.N, sc.names.lookup n with
    | some i, some .local => some (some i)
    | _, _ => none
def dHs (d : Dn) (sc : Scope) (fnb : Str → Bool) : List ExceptHandler → Option (List HM)
  | [] => some []
  | .ExceptHandler (some (.Name x _)) nm (s0 :: ss) _ :: r => if glb sc x && okN x then (match d.xc.lookup x with
    | some (c, o) => (match slotI d sc nm with
      | some i => (match dX d sc fnb nm i c o (s0 :: ss), dHs d sc fnb r with
        | some m, some hs => some (⟨c, i, m⟩ :: hs)
        | _, _ => none)
      | none => none)
    | none => none) else none
  | _ => none
def dS (d : Dn) : Nat → Scope → (Str → Bool) → Stmt → MS
  | 0, _, _, _ => badS
  | n + 1, sc, fnb, st => match st with
    | .Expr (.Constant (.str _) _ _) _ => nxM
    | .Expr e _ => if noComp e then stE (dE d n sc fnb false e) (fun _ => nxM) else badS
    | .Return none _ => fun _ G => .rt .non G
    | .Return (some e) _ => stE (dE d n sc fnb d.rmu e) rtM
    | .Pass _ => nxM
    | .Break _ => bkM
    | .Continue _ => ctM
    | .If c a b _ => ifM (dT d n sc fnb c) (dSs (dS d n sc fnb) a) (dSs (dS d n sc fnb) b)
    | .While c b [] _ => whileL (dT d n sc fnb c) (dSs (dS d n sc fnb) b) wF
    | .For tg it b [] _ => if noSet it then (match dG d.N sc fnb n tg with
      | some (g, _) => forM (dI d n sc fnb (isTupE tg) it) g (dSs (dS d n sc fnb) b)
      | none => badS) else badS
    | .Assign [.Name x _] e _ => (match locI d sc fnb x with
      | some i => stE (dE d n sc fnb (d.mu.contains x) e) (setM i)
      | none => badS)
    | .Assign [.Attribute o f _] e _ => (match d.att.lookup f with
      | some (kf, cs, _) => stE2 (dE d n sc fnb (d.mu.contains f) e) (dE d n sc fnb false o) (fldM (fun c => cs.contains c) kf)
      | none => badS)
    | .Assign [.Subscript o i _] e _ => if noSlice i then stE3 (dE d n sc fnb false e) (dE d n sc fnb false o) (dE d n sc fnb false i) itemM else badS
    | .Raise (some (.Call (.Name x _) es [] _)) none _ => if glb sc x && okN x then (match d.xc.lookup x, es with
      | some (c, some kf), [e] => if noStar e then stE (dE d n sc fnb false e) (raiseM c kf) else badS
      | some (c, none), [] => fun s G => .exc ⟨c, []⟩ s G
      | _, _ => badS) else badS
    | .Try b (h :: hs) [] [] _ => (match dHs d sc fnb (h :: hs) with
      | some l => tryM d.xs (dSs (dS d n sc fnb) b) l
      | none => badS)
    | .Assign [.Tuple [.Name x px, .Name y py] _ _] (.Tuple [a, b] _ _) _ => if parB sc x y px py a b then (match findI x d.N, findI y d.N with
      | some i, some j => parM i j (consA (dE d n sc fnb false a) (consA (dE d n sc fnb false b) nilA))
      | _, _ => badS) else badS
    | .Assign [.Tuple ts k p] e _ => if notTT (.Tuple ts k p) e then (match dG d.N sc fnb n (.Tuple ts k p) with
      | some (g, _) => stE (dE d n sc fnb false e) (asgM g)
      | none => badS) else badS
    | _ => badS
structure SOk (X : Cx) (T : Tb) (W : WX) (k : Nat) (d : Dn) (sc : Scope) (fnb : Str → Bool) : Prop where
  x : XOk X T W k d sc fnb
  po : PassesOwn (model X.prog X.w) X.A X.env X.xe
  st : X.stack = X.env :: X.outer
  fr : X.env.frame = some X.env.locals
section
variable {X : Cx} {T : Tb} {W : WX} {k : Nat} {d : Dn} {sc : Scope} {fnb : Str → Bool}
theorem PS.badS {e : Stmt} : PS X e (tS T W FL.badS) := PS.bad fun _ _ => rfl
theorem dSs_ok {f : Stmt → MS} (hf : ∀ s, PS X s (tS T W (f s))) : ∀ {ss : List Stmt}, PSs X ss (tS T W (dSs f ss))
  | [] => fss_nil
  | [s] => fss_one (hf s)
  | s :: t :: r => fss_cons (hf s) (dSs_ok hf)
theorem SOk.tr (h : SOk X T W k d sc fnb) {W' : WX} {pn : List (Addr × Obj)} {xe : Value → Shared → Prop} (tk : Takes (X.tr pn xe) W') (po : PassesOwn (model X.prog X.w) X.A X.env xe) : SOk (X.tr pn xe) T W' k d sc fnb :=
  ⟨⟨h.x.N, h.x.nd, h.x.sc, h.x.fn, h.x.hT, h.x.calm, tk, h.x.room, h.x.tab⟩, po, h.st, h.fr⟩
theorem swapped_par {x y : Str} {px py pt pt2 : Pos} {kt k2 : Nat} {a b : Expr} {env : Env} (h : parB env.scope x y px py a b = true) : swappedStores [.Tuple [.Name x px, .Name y py] kt pt] (.Tuple [a, b] k2 pt2) env = pure (some [x, y]) := by
  unfold parB at h
  simp only [Bool.and_eq_true, beq_iff_eq, Bool.not_eq_true'] at h
  obtain ⟨⟨⟨⟨⟨⟨⟨⟨h1, h2⟩, h3⟩, h4⟩, h5⟩, h6⟩, h7⟩, h8⟩, h9⟩ := h
  have hb : env.blockKind = .function := by
    unfold bkF at h1
    rw [beq_iff_eq] at h1
    exact h1
  have hs : ([a, b].any fun | .Starred .. => true | _ => false) = false := by
    cases a <;> cases b <;> first | rfl | (exfalso; simp [noStar] at h6; done) | (exfalso; simp [noStar] at h7; done)
  have hx : env.kindOf x = some .local := h2
  have hy : env.kindOf y = some .local := h3
  have hxy : x ≠ y := by simpa using h5
  have hn : ([Expr.Name x px, Expr.Name y py].filterMap fun
      | .Name id pos => if env.kindOf id == some .local && pos.line == px.line then some id else none
      | _ => none) = [x, y] := by
    simp [hx, hy, h4]
  have hd : [x, y].eraseDups = [x, y] := by
    have : (y == x) = false := by simpa using Ne.symm hxy
    simp [List.eraseDups_cons, hxy, this, Ne.symm hxy]
  unfold swappedStores
  simp only [List.length_cons, List.length_nil, hb]
  rw [if_neg (by decide), if_neg (fun z => by have q := hs.symm.trans z; cases q)]
  generalize hL : List.filterMap _ [Expr.Name x px, Expr.Name y py] = L
  have e : L = [x, y] := hL.symm.trans hn
  subst e
  rw [hd, if_neg (by simp), if_neg (by rw [h8]; decide), if_neg (by rw [h9]; decide)]
/-- name = e -/
theorem set_ok (h : SOk X T W k d sc fnb) (n : Nat) {x : Str} {i : Nat} {mu : Bool} {e : Expr} {p pos : Pos} (hi : locI d sc fnb x = some i) : PS X (.Assign [.Name x p] e pos) (tS T W (stE (dE d n sc fnb mu e) (setM i))) := by
  obtain ⟨h1, h2, h3⟩ := locI_ok h.x hi
  have hE := (sndE n X T W k d sc fnb h.x).1 mu e
  by_cases hc : noComp e = true
  · exact fs_set h.x.nd h1 h2 hE (swaps_no hc) h3
  · cases e with
    | ListComp elt gs scope q =>
      cases hs : swB X.env.scope x p q scope with
      | false => exact fs_set h.x.nd h1 h2 hE (by rw [swB_eq, hs]) h3
      | true =>
        have hl : X.env.scope.names.lookup x = some .local := by
          unfold swB at hs
          simp only [Bool.and_eq_true, beq_iff_eq] at hs
          exact hs.1.1.2
        cases n with
        | zero => exact PS.bad fun _ _ => by unfold dE; rfl
        | succ n =>
          unfold dE
          split
          all_goals try (rename_i z; cases z; done)
          all_goals try (rename_i z _; cases z; done)
          · rename_i elt' tg it ifs scope' pos' heq
            cases heq
            have hsw : swapsWith (.ListComp elt [⟨tg, it, ifs, 0⟩] scope q) (some (.Name x p)) pos.line X.env = pure true := by rw [swB_eq, hs]
            split
            · rename_i hb
              rw [Bool.and_eq_true] at hb
              split
              · rename_i g ws hg
                split
                · rename_i hw
                  have hw' : ∀ j ∈ ws, j ∈ (ownOf d.N scope.names).map (·.2) := fun j hj => by
                    have := List.all_eq_true.mp hw j hj
                    simpa using this
                  have ok := blkOk_by (show blkC d.N sc _ _ = true from hb.1)
                  rw [← h.x.N, ← h.x.sc] at ok
                  have hI := (sndE n X T W k d sc fnb h.x).2.2
                  split
                  · refine fs_setLc h.x.calm h.x.nd h1 hl hsw (hI _ _) ?_ hw' (fun s H C cl fp => dG_ok (h.x.blk s H _ C cl fp) n hg) (fun s H C cl fp => ft_nil) (fun s H C cl fp => (sndE n _ T WF k d _ _ (h.x.blk s H _ C cl fp)).1 _ _) hb.2
                    rw [← h.x.N]; exact ok
                  · refine fs_setLc h.x.calm h.x.nd h1 hl hsw (hI _ _) ?_ hw' (fun s H C cl fp => dG_ok (h.x.blk s H _ C cl fp) n hg) (fun s H C cl fp => ft_one ((sndE n _ T WF k d _ _ (h.x.blk s H _ C cl fp)).2.1 _)) (fun s H C cl fp => (sndE n _ T WF k d _ _ (h.x.blk s H _ C cl fp)).1 _ _) hb.2
                    rw [← h.x.N]; exact ok
                  · exact PS.bad fun _ _ => rfl
                · exact PS.bad fun _ _ => rfl
              · exact PS.bad fun _ _ => rfl
            · exact PS.bad fun _ _ => rfl
          · exact PS.bad fun _ _ => rfl
    | _ => first | exact absurd rfl hc | (refine PS.bad fun s G => ?_; cases n <;> (unfold dE; rfl))

theorem slotI_ok (h : XOk X T W k d sc fnb) {nm : Option Str} {i : Option Nat} (e : slotI d sc nm = some i) : ∀ z, nm = some z → ∃ j, i = some j ∧ X.N[j]? = some z ∧ X.env.scope.names.lookup z = some .local := fun z hz => by
  subst hz
  simp only [slotI] at e
  split at e
  · rename_i j hj hl
    cases e
    exact ⟨j, rfl, by rw [h.N]; exact findI_ok hj, by rw [h.sc]; exact hl⟩
  · cases e
theorem slotI_none {nm : Option Str} {i : Option Nat} (e : slotI d sc nm = some i) (hn : nm = none) : i = none := by
  subst hn
  cases e
  rfl
theorem dHs_ok (h : XOk X T W k d sc fnb) : ∀ {es : List ExceptHandler} {hs : List HM}, dHs d sc fnb es = some hs → ∃ l, HAll X es l ∧ HRel T hs l
  | [], hs, e => by
    cases e
    exact ⟨[], .nil, .nil⟩
  | .ExceptHandler ty nm ss p :: r, hs, e => by
    unfold dHs at e
    split at e
    · rename_i z; cases z
    · rename_i x p1 nm' s0 ss' p' r' heq
      injection heq with heq h2
      injection heq with h3 h4 h5 h6
      subst h2
      subst h3
      subst h4
      subst h5
      split at e
      · rename_i hx
        rw [Bool.and_eq_true] at hx
        split at e
        · rename_i c o el
          obtain ⟨⟨C, g1, g2⟩, M⟩ := h.tab.xc x _ el
          split at e
          case h_2 => cases e
          rename_i i e1
          split at e
          · rename_i m hs' e2 e3
            cases e
            obtain ⟨l, a1, a2⟩ := dHs_ok h e3
            have nmx : Names X x (.ref C) := ⟨glb_ok (by rw [h.sc]; exact hx.1), okN_d hx.2, .inl g2⟩
            have cl : ClOk X T i nm c o := ⟨slotI_ok h e1, fun kf ho => by
              subst ho
              obtain ⟨C', f, q1, q2, q3, q4⟩ := M.2
              exact ⟨C', f, q1, q2, h.hT ▸ q3, h.hT ▸ q4⟩⟩
            have su := dX_ok (X := X) h cl e2
            refine ⟨⟨.ref C, i, tX T i m⟩ :: l, ?_, .cons (h := ⟨c, i, m⟩) g1 a2⟩
            cases nm with
            | none =>
              have := slotI_none e1 rfl
              subst this
              exact .no nmx su a1
            | some n =>
              obtain ⟨j, q1, q2, q3⟩ := slotI_ok h e1 n rfl
              subst q1
              exact .as nmx q2 q3 su a1
          · cases e
        · cases e
      · cases e
    · cases e
theorem fs_par {x y : Str} {px py pt pt2 pos : Pos} {kt k2 i j : Nat} {a b : Expr} {ma mb : ME} (h : XOk X T W k d sc fnb) (hp : parB sc x y px py a b = true) (hi : findI x d.N = some i) (hj : findI y d.N = some j) (ha : PE X a (tE T W ma)) (hb : PE X b (tE T W mb)) :
    PS X (.Assign [.Tuple [.Name x px, .Name y py] kt pt] (.Tuple [a, b] k2 pt2) pos) (tS T W (parM i j (consA ma (consA mb nilA)))) := by
  rw [← h.sc] at hp
  have hsw := swapped_par (kt := kt) (k2 := k2) (pt := pt) (pt2 := pt2) hp
  unfold parB at hp
  simp only [Bool.and_eq_true, beq_iff_eq, Bool.not_eq_true'] at hp
  obtain ⟨⟨⟨⟨⟨⟨⟨⟨h1, h2⟩, h3⟩, h4⟩, h5⟩, h6⟩, h7⟩, h8⟩, h9⟩ := hp
  have hxy : x ≠ y := by simpa using h5
  have n1 : X.N[i]? = some x := by rw [h.N]; exact findI_ok hi
  have n2 : X.N[j]? = some y := by rw [h.N]; exact findI_ok hj
  have hij : i ≠ j := fun z => by subst z; rw [n1] at n2; exact hxy (Option.some.inj n2)
  have hA : PA X [a, b] (tA T W (consA ma (consA mb nilA))) := fa_cons ha (fa_cons hb fa_nil (star_cons h7)) (star_cons h6)
  refine PS.imp (ps_par h.calm h.nd n1 n2 hij h2 h3 hA hsw (swaps_sole rfl)) fun D σ H ⟨s, G, ρ, Z, sm, q⟩ => ?_
  refine ⟨s, G, ρ, Z, sm, ?_⟩
  unfold parM at q
  cases e : consA ma (consA mb nilA) s G with
  | bad => rw [e] at q; exact q.elim
  | exc y G1 =>
    rw [e] at q
    exact fun cls d H' ρ' Z' x1 rl a => q cls d σ H' ρ' Z' x1 (sm.ex x1 rl) a
  | ok us G1 =>
    rw [e] at q
    intro vs H1 ρ1 Z1 x1 rl1 r1
    skip
    split at q
    · rename_i u w G2 eq
      cases eq
      obtain ⟨v1, v2, rfl, q1, q2⟩ := r1.inv2
      have fm1 := sm.fm.ex sm.rl.zm x1
      exact ⟨v1, v2, rfl, q _ H1 ρ1 Z1 x1 ⟨rl1, (fm1.set q1).set q2⟩⟩
    · rename_i eq; cases eq
    · exact q.elim
def SndS (n : Nat) : Prop := ∀ (X : Cx) (T : Tb) (W : WX) (k : Nat) (d : Dn) (sc : Scope) (fnb : Str → Bool), SOk X T W k d sc fnb → ∀ st, PS X st (tS T W (dS d n sc fnb st))
theorem sndS : ∀ n, SndS n
  | 0 => fun X T W k d sc fnb h st => by unfold dS; exact PS.badS
  | n + 1 => fun X T W k d sc fnb h st => by
    have hS := sndS n X T W k d sc fnb h
    obtain ⟨hE, hT, hI⟩ := sndE n X T W k d sc fnb h.x
    unfold dS
    split
    · exact fs_doc
    · split
      · rename_i hc
        exact fs_expr (hE _ _) hc
      · exact PS.badS
    · exact fs_retN
    · exact fs_ret (hE _ _)
    · exact fs_pass
    · exact fs_break
    · exact fs_continue
    · exact fs_if (hT _) (dSs_ok hS) (dSs_ok hS)
    · exact fs_while h.po (hT _) (dSs_ok hS)
    · split
      · rename_i hs
        split
        · rename_i g vs hg
          exact fs_for h.po h.x.calm (hI _ _) (dG_ok h.x n hg) (dSs_ok hS) hs
        · exact PS.badS
      · exact PS.badS
    · split
      · rename_i i hi
        exact set_ok h n hi
      · exact PS.badS
    · split
      · rename_i kf cs ps e
        obtain ⟨g1, g2, g3⟩ := h.x.tab.att _ _ e
        exact fs_fld h.x.tab.hat g1 (fun c hc => g2 c (by simpa using hc)) (hE _ _) (hE _ _)
      · exact PS.badS
    · split
      · rename_i hs
        exact fs_item (by have := h.x.room.un; omega) hs (hE _ _) (hE _ _) (hE _ _)
      · exact PS.badS
    · -- raise
      rename_i x p es pos pos'
      split
      · rename_i hx
        rw [Bool.and_eq_true] at hx
        have hg : Gl X x := glb_ok (by rw [h.x.sc]; exact hx.1)
        split
        · rename_i c kf e el
          obtain ⟨_, M, _⟩ := h.x.tab.xc x _ el
          split
          · rename_i he
            exact fs_raiseI h.x.calm h.x.tk M h.x.room hg (hE _ _) (okN_d hx.2) he
          · exact PS.badS
        · rename_i c el
          obtain ⟨_, M⟩ := h.x.tab.xc x _ el
          exact fs_raise0 h.x.calm h.x.tk M hg (okN_d hx.2)
        · exact PS.badS
      · exact PS.badS
    · -- try
      split
      · rename_i l hl
        obtain ⟨l', a1, a2⟩ := dHs_ok h.x hl
        exact fs_try h.st h.fr h.x.nd h.x.tk (h.x.hT ▸ h.x.hT ▸ h.x.tab.xs) (fun W' pn xe tk po => dSs_ok (sndS n _ T W' k d sc fnb (h.tr tk po))) a1 a2
      · exact PS.badS
    · split
      · rename_i hp
        split
        · rename_i i j hi hj
          exact fs_par h.x hp hi hj (hE _ _) (hE _ _)
        · exact PS.badS
      · exact PS.badS
    · split
      · rename_i hn
        split
        · rename_i g vs hg
          exact fs_asg (hE _ _) (dG_ok h.x n hg) rfl hn rfl
        · exact PS.badS
      · exact PS.badS
    · exact PS.badS

/-! ### a def's body -/
def fnT : Str → Bool := fun _ => true
def startS (N : List Str) (us : List U) : Sg := us.map some ++ List.replicate (N.length - us.length) none
def runR : Rt → Rs U
  | .nx _ G => .ok .non G
  | .rt u G => .ok u G
  | .exc x _ G => .exc x G
  | _ => .bad
def runB (d : Dn) (n : Nat) (st : Stmt) : RunD := fun us G => runR (dSs (dS d n (defScope st) fnT) (defBody st) (startS d.N us) G)
theorem start_fm {N : List Str} {ρ : List Addr} {Z : Addr → Prop} {H : Hp} {vs : List V} {us : List U} (r : Reps T ρ Z H vs us) : Fm T ρ Z H (L2.start N vs) (startS N us) := by
  refine ⟨by unfold L2.start startS; simp [r.length], fun i u e => ?_⟩
  unfold startS at e
  unfold L2.start
  by_cases hi : i < us.length
  · rw [List.getElem?_append_left (by simpa using hi), List.getElem?_map] at e
    rw [List.getElem?_append_left (by simpa [r.length] using hi), List.getElem?_map]
    cases e2 : us[i]? with
    | none => rw [e2] at e; cases e
    | some u' =>
      rw [e2] at e
      cases e
      obtain ⟨v, h1, h2⟩ := r.get e2
      exact ⟨v, by rw [h1]; rfl, h2⟩
  · rw [List.getElem?_append_right (by simpa using hi), List.getElem?_replicate] at e
    split at e <;> cases e
section
variable {P : Program} {w : World} {K : PySem.W.Frag} {mg : Str → Option Value} {base : Heap}
theorem fn_body {x qual : Str} {st : Stmt} {f : Addr} {fd : FuncData} {ps : List Str} {n : Nat} (F : Fun K x qual st f fd) (S : FnScope d.N ps (defScope st)) (hT : K = T.K) (tab : TabOk P w K mg base T k d) : FnOk P w K mg base (L2.CX P w) (k + 2) f fd ps (spD T ps.length (runB d n st)) := by
  refine F.okX S (fun vs H Q E ⟨us, G, ρ, Z, rl, r, hl, _⟩ => r.length.trans hl) fun cdv A outer s H vs Q E hr hsp => ?_
  obtain ⟨us, G, ρ, Z, rl, r, hl, q⟩ := hsp
  have so : SOk (cxOf (L2.CX P w) P w K mg base d.N qual (defScope st) f cdv A outer s H E) T (fun cls d _ H => E cls d H) k d (defScope st) fnT :=
    ⟨⟨rfl, S.nd, rfl, rfl, hT, rfl, takes_of rfl rfl rfl rfl, hr, tab⟩, passes_of rfl, rfl, rfl⟩
  refine ⟨_, dSs_ok (sndS n _ T _ k d _ _ so), startS d.N us, G, ρ, Z, ⟨rl, start_fm r⟩, ?_⟩
  unfold runB at q
  cases e : dSs (dS d n (defScope st) fnT) (defBody st) (startS d.N us) G with
  | nx s' G' => rw [e] at q; exact fun σ' H' ρ' Z' x sm => q _ H' ρ' Z' x sm.rl .non
  | rt u G' => rw [e] at q; exact fun v H' ρ' Z' x rl' rv => q v H' ρ' Z' x rl' rv
  | exc y s' G' => rw [e] at q; exact fun cls d σ' H' ρ' Z' x sm a => q cls d H' ρ' Z' x sm.rl a
  | bk s' G' => rw [e] at q; exact q.elim
  | ct s' G' => rw [e] at q; exact q.elim
  | bad => rw [e] at q; exact q.elim
theorem def_body {x qual : Str} {st : Stmt} {f : Addr} {fd : FuncData} {ps : List Str} {n : Nat} (F : Fun K x qual st f fd) (S : FnScope d.N ps (defScope st)) (b : Binds K fd ps []) (hT : K = T.K) (tab : TabOk P w K mg base T k d) : DefOk P w K mg base T (k + 2) f ps.length (runB d n st) :=
  ⟨fd, ps, b, rfl, fn_body F S hT tab⟩
/-! ### promises weakened -/
/-- r' promises no more than r -/
def Le (r' r : RunD) : Prop := ∀ us G, r' us G = .bad ∨ r' us G = r us G
theorem spD_le {n : Nat} {r r' : RunD} (h : Le r' r) (vs : List V) (H : Hp) (Q : VK) (E : XK) (q : spD T n r' vs H Q E) : spD T n r vs H Q E := by
  obtain ⟨us, G, ρ, Z, rl, rp, hl, q⟩ := q
  refine ⟨us, G, ρ, Z, rl, rp, hl, ?_⟩
  rcases h us G with e | e
  · rw [e] at q; exact q.elim
  · rw [← e]; exact q
theorem DefOk.le {f : Addr} {n : Nat} {r r' : RunD} (F : DefOk P w K mg base T k f n r) (h : Le r' r) : DefOk P w K mg base T k f n r' := by
  obtain ⟨fd, ps, b, hl, F⟩ := F.ex
  exact ⟨fd, ps, b, hl, F.imp fun vs H Q E q => spD_le h vs H Q E q⟩
theorem DefOk.mono {f : Addr} {n j : Nat} {r : RunD} (F : DefOk P w K mg base T j f n r) (h : j ≤ k) : DefOk P w K mg base T k f n r := by
  obtain ⟨fd, ps, b, hl, F⟩ := F.ex
  exact ⟨fd, ps, b, hl, F.mono h⟩
end
end
end FL

/-! FL19: new cells that nobody else holds: frozen, forgotten. -/
namespace FL
open PySem L2 PyProof.Rows
mutual
/-- the references all below n -/
def bdU (n : Nat) : U → Bool
  | .ref i => decide (i < n)
  | .tup l => bdUs n l
  | .lst l => bdUs n l
  | .sc l => bdUs n l
  | .dct l => bdK n l
  | .ins _ l => bdF n l
  | .non => true
  | .bl _ => true
  | .int _ => true
  | .str _ => true
def bdUs (n : Nat) : List U → Bool
  | [] => true
  | x :: r => bdU n x && bdUs n r
def bdK (n : Nat) : List (U × U) → Bool
  | [] => true
  | (_, x) :: r => bdU n x && bdK n r
def bdF (n : Nat) : List (Nat × U) → Bool
  | [] => true
  | (_, x) :: r => bdU n x && bdF n r
end
def bdO (n : Nat) : Ob → Bool
  | .dead => true
  | .lst l => bdUs n l
  | .dct l => bdK n l
  | .ins _ l => bdF n l
mutual
/-- the references replaced -/
def mapU (f : Nat → Option U) : U → Option U
  | .ref i => f i
  | .tup l => (mapUs f l).map .tup
  | .lst l => (mapUs f l).map .lst
  | .sc l => (mapUs f l).map .sc
  | .dct l => (mapK f l).map .dct
  | .ins c l => (mapF f l).map (.ins c)
  | .non => some .non
  | .bl b => some (.bl b)
  | .int i => some (.int i)
  | .str l => some (.str l)
def mapUs (f : Nat → Option U) : List U → Option (List U)
  | [] => some []
  | x :: r => match mapU f x, mapUs f r with
    | some a, some b => some (a :: b)
    | _, _ => none
def mapK (f : Nat → Option U) : List (U × U) → Option (List (U × U))
  | [] => some []
  | (k, x) :: r => match mapU f x, mapK f r with
    | some a, some b => some ((k, a) :: b)
    | _, _ => none
def mapF (f : Nat → Option U) : List (Nat × U) → Option (List (Nat × U))
  | [] => some []
  | (k, x) :: r => match mapU f x, mapF f r with
    | some a, some b => some ((k, a) :: b)
    | _, _ => none
end
/-- a cell from n on, as it stands -/
def refF (n : Nat) (G : List Ob) : Nat → Nat → Option U
  | 0, i => if i < n then some (.ref i) else none
  | k + 1, i => if i < n then some (.ref i) else match G[i]? with
    | some (.lst l) => (mapUs (refF n G k) l).map .lst
    | some (.dct l) => (mapK (refF n G k) l).map .dct
    | some (.ins c l) => (mapF (refF n G k) l).map (.ins c)
    | _ => none
def frzU (n : Nat) (G : List Ob) (u : U) : Option U := mapU (refF n G 6) u
section
variable {T : Tb} {ρ t : List Addr} {Z Z' Z1 : Addr → Prop} {H H' : Hp}
mutual
theorem rep_bd : ∀ {v : V} {u : U}, Rep T ρ Z H v u → bdU ρ.length u = true
  | _, _, .non => rfl
  | _, _, .bl b => rfl
  | _, _, .int i => rfl
  | _, _, .str l => rfl
  | _, _, .tup h r => by unfold bdU; exact reps_bd r
  | _, _, .lst h z r => by unfold bdU; exact reps_bd r
  | _, _, .sc h r => by unfold bdU; exact reps_bd r
  | _, _, .dct h z r => by unfold bdU; exact repk_bd r
  | _, _, .ins h z c r => by unfold bdU; exact repf_bd r
  | _, _, .ref h => by unfold bdU; exact decide_eq_true (List.getElem?_eq_some_iff.mp h).1
theorem reps_bd : ∀ {v : List V} {u : List U}, Reps T ρ Z H v u → bdUs ρ.length u = true
  | _, _, .nil => rfl
  | _, _, .cons r q => by unfold bdUs; rw [rep_bd r, reps_bd q]; rfl
theorem repf_bd : ∀ {v : List (Str × V)} {u : List (Nat × U)}, RepF T ρ Z H v u → bdF ρ.length u = true
  | _, _, .nil => rfl
  | _, _, .cons e r q => by unfold bdF; rw [rep_bd r, repf_bd q]; rfl
theorem repk_bd : ∀ {v : List (Key × V)} {u : List (U × U)}, RepK T ρ Z H v u → bdK ρ.length u = true
  | _, _, .nil => rfl
  | _, _, .cons r q => by unfold bdK; rw [rep_bd r, repk_bd q]; rfl
end
mutual
theorem rep_cut (hz : ∀ a, Z1 a → Z' a) : ∀ {v : V} {u : U}, Rep T (ρ ++ t) Z' H' v u → bdU ρ.length u = true → Rep T ρ Z1 H' v u
  | _, _, .non, _ => .non
  | _, _, .bl b, _ => .bl b
  | _, _, .int i, _ => .int i
  | _, _, .str l, _ => .str l
  | _, _, .tup h r, e => .tup h (reps_cut hz r (by unfold bdU at e; exact e))
  | _, _, .lst h z r, e => .lst h (fun q => z (hz _ q)) (reps_cut hz r (by unfold bdU at e; exact e))
  | _, _, .sc h r, e => .sc (h.imp (fun q => ⟨q.1, fun z => q.2 (hz _ z)⟩) id) (reps_cut hz r (by unfold bdU at e; exact e))
  | _, _, .dct h z r, e => .dct h (fun q => z (hz _ q)) (repk_cut hz r (by unfold bdU at e; exact e))
  | _, _, .ins h z c r, e => .ins h (fun q => z (hz _ q)) c (repf_cut hz r (by unfold bdU at e; exact e))
  | _, _, .ref h, e => .ref (by unfold bdU at e; rw [List.getElem?_append_left (of_decide_eq_true e)] at h; exact h)
theorem reps_cut (hz : ∀ a, Z1 a → Z' a) : ∀ {v : List V} {u : List U}, Reps T (ρ ++ t) Z' H' v u → bdUs ρ.length u = true → Reps T ρ Z1 H' v u
  | _, _, .nil, _ => .nil
  | _, _, .cons r q, e => by
    unfold bdUs at e
    rw [Bool.and_eq_true] at e
    exact .cons (rep_cut hz r e.1) (reps_cut hz q e.2)
theorem repf_cut (hz : ∀ a, Z1 a → Z' a) : ∀ {v : List (Str × V)} {u : List (Nat × U)}, RepF T (ρ ++ t) Z' H' v u → bdF ρ.length u = true → RepF T ρ Z1 H' v u
  | _, _, .nil, _ => .nil
  | _, _, .cons h r q, e => by
    unfold bdF at e
    rw [Bool.and_eq_true] at e
    exact .cons h (rep_cut hz r e.1) (repf_cut hz q e.2)
theorem repk_cut (hz : ∀ a, Z1 a → Z' a) : ∀ {v : List (Key × V)} {u : List (U × U)}, RepK T (ρ ++ t) Z' H' v u → bdK ρ.length u = true → RepK T ρ Z1 H' v u
  | _, _, .nil, _ => .nil
  | _, _, .cons r q, e => by
    unfold bdK at e
    rw [Bool.and_eq_true] at e
    exact .cons (rep_cut hz r e.1) (repk_cut hz q e.2)
end
variable {ρ' : List Addr}
mutual
theorem rep_map {f : Nat → Option U} (hz : ∀ a, Z1 a → Z' a) (hf : ∀ i a w, ρ'[i]? = some a → f i = some w → Rep T ρ Z1 H' (.ref a) w) : ∀ {v : V} {u w : U}, Rep T ρ' Z' H' v u → mapU f u = some w → Rep T ρ Z1 H' v w
  | _, _, _, .non, e => by cases e; exact .non
  | _, _, _, .bl b, e => by cases e; exact .bl b
  | _, _, _, .int i, e => by cases e; exact .int i
  | _, _, _, .str l, e => by cases e; exact .str l
  | _, _, _, .tup (us := us) h r, e => by
    unfold mapU at e
    obtain ⟨ws, e2, e3⟩ := Option.map_eq_some_iff.mp e
    subst e3
    exact .tup h (reps_map hz hf r e2)
  | _, _, _, .lst (us := us) h z r, e => by
    unfold mapU at e
    obtain ⟨ws, e2, e3⟩ := Option.map_eq_some_iff.mp e
    subst e3
    exact .lst h (fun q => z (hz _ q)) (reps_map hz hf r e2)
  | _, _, _, .sc h r, e => by
    unfold mapU at e
    obtain ⟨ws, e2, e3⟩ := Option.map_eq_some_iff.mp e
    subst e3
    exact .sc (h.imp (fun q => ⟨q.1, fun z => q.2 (hz _ z)⟩) id) (reps_map hz hf r e2)
  | _, _, _, .dct h z r, e => by
    unfold mapU at e
    obtain ⟨ws, e2, e3⟩ := Option.map_eq_some_iff.mp e
    subst e3
    exact .dct h (fun q => z (hz _ q)) (repk_map hz hf r e2)
  | _, _, _, .ins h z c r, e => by
    unfold mapU at e
    obtain ⟨ws, e2, e3⟩ := Option.map_eq_some_iff.mp e
    subst e3
    exact .ins h (fun q => z (hz _ q)) c (repf_map hz hf r e2)
  | _, _, _, .ref h, e => hf _ _ _ h e
theorem reps_map {f : Nat → Option U} (hz : ∀ a, Z1 a → Z' a) (hf : ∀ i a w, ρ'[i]? = some a → f i = some w → Rep T ρ Z1 H' (.ref a) w) : ∀ {v : List V} {u w : List U}, Reps T ρ' Z' H' v u → mapUs f u = some w → Reps T ρ Z1 H' v w
  | _, _, _, .nil, e => by cases e; exact .nil
  | _, _, _, .cons r q, e => by
    unfold mapUs at e
    split at e
    · rename_i e1 e2
      cases e
      exact .cons (rep_map hz hf r e1) (reps_map hz hf q e2)
    · cases e
theorem repf_map {f : Nat → Option U} (hz : ∀ a, Z1 a → Z' a) (hf : ∀ i a w, ρ'[i]? = some a → f i = some w → Rep T ρ Z1 H' (.ref a) w) : ∀ {v : List (Str × V)} {u w : List (Nat × U)}, RepF T ρ' Z' H' v u → mapF f u = some w → RepF T ρ Z1 H' v w
  | _, _, _, .nil, e => by cases e; exact .nil
  | _, _, _, .cons h r q, e => by
    unfold mapF at e
    split at e
    · rename_i e1 e2
      cases e
      exact .cons h (rep_map hz hf r e1) (repf_map hz hf q e2)
    · cases e
theorem repk_map {f : Nat → Option U} (hz : ∀ a, Z1 a → Z' a) (hf : ∀ i a w, ρ'[i]? = some a → f i = some w → Rep T ρ Z1 H' (.ref a) w) : ∀ {v : List (Key × V)} {u w : List (U × U)}, RepK T ρ' Z' H' v u → mapK f u = some w → RepK T ρ Z1 H' v w
  | _, _, _, .nil, e => by cases e; exact .nil
  | _, _, _, .cons r q, e => by
    unfold mapK at e
    split at e
    · rename_i e1 e2
      cases e
      exact .cons (rep_map hz hf r e1) (repk_map hz hf q e2)
    · cases e
end
/-- the cells from ρ on are no cells any more -/
def zDrop (Z' : Addr → Prop) (t : List Addr) : Addr → Prop := fun a => Z' a ∧ a ∉ t
theorem refF_ok {G' : List Ob} (rl : Rl T (ρ ++ t) Z' G' H') : ∀ (k i : Nat) (a : Addr) (w : U), (ρ ++ t)[i]? = some a → refF ρ.length G' k i = some w → Rep T ρ (zDrop Z' t) H' (.ref a) w
  | 0, i, a, w, h, e => by
    unfold refF at e
    split at e
    · rename_i hi
      cases e
      rw [List.getElem?_append_left hi] at h
      exact .ref h
    · cases e
  | k + 1, i, a, w, h, e => by
    unfold refF at e
    split at e
    · rename_i hi
      cases e
      rw [List.getElem?_append_left hi] at h
      exact .ref h
    · rename_i hi
      have ht : a ∈ t := by
        rw [List.getElem?_append_right (Nat.le_of_not_lt hi)] at h
        exact List.mem_of_getElem? h
      split at e
      · rename_i l g
        obtain ⟨ws, e2, e3⟩ := Option.map_eq_some_iff.mp e
        subst e3
        obtain ⟨_, vs, h1, h2⟩ := rl.ob i a _ h g
        exact .lst h1 (fun z => z.2 ht) (reps_map (fun _ z => z.1) (refF_ok rl k) h2 e2)
      · rename_i l g
        obtain ⟨ws, e2, e3⟩ := Option.map_eq_some_iff.mp e
        subst e3
        obtain ⟨_, vs, h1, h2⟩ := rl.ob i a _ h g
        exact .dct h1 (fun z => z.2 ht) (repk_map (fun _ z => z.1) (refF_ok rl k) h2 e2)
      · rename_i c l g
        obtain ⟨ws, e2, e3⟩ := Option.map_eq_some_iff.mp e
        subst e3
        obtain ⟨_, C, dx, vs, h1, h2, h3⟩ := rl.ob i a _ h g
        exact .ins h1 (fun z => z.2 ht) h2 (repf_map (fun _ z => z.1) (refF_ok rl k) h3 e2)
      · cases e
/-- the old cells, and others that nobody asks for -/
def CutG (G G' G1 : List Ob) : Prop := (∃ g, G' = G1 ++ g) ∧ G1.length = G.length ∧ ∀ (i : Nat) (o : Ob), G1[i]? = some o → G[i]? = some o ∨ bdO G.length o = true
theorem cut_rl {G G' G1 : List Ob} (rl : Rl T ρ Z G H) (rl' : Rl T (ρ ++ t) Z' G' H') (c : CutG G G' G1) : Rl T ρ (zDrop Z' t) G1 H' := by
  obtain ⟨⟨g, eg⟩, hl, hc⟩ := c
  refine ⟨by rw [hl]; exact rl.len, rl.nd, fun a z => rl'.zm a z.1, fun a h => rl'.trk a (List.mem_append_left _ h), fun i a o h h1 => ?_⟩
  have hi : i < ρ.length := (List.getElem?_eq_some_iff.mp h).1
  have h' : (ρ ++ t)[i]? = some a := by rw [List.getElem?_append_left hi]; exact h
  have g' : G'[i]? = some o := by
    rw [eg, List.getElem?_append_left (List.getElem?_eq_some_iff.mp h1).1]
    exact h1
  have ho := rl'.ob i a o h' g'
  have hb : bdO ρ.length o = true := by
    rcases hc i o h1 with e | e
    · have := rl.ob i a o h e
      cases o with
      | dead => rfl
      | lst us => obtain ⟨_, vs, _, r⟩ := this; exact reps_bd r
      | dct us => obtain ⟨_, vs, _, r⟩ := this; exact repk_bd r
      | ins c us => obtain ⟨_, _, _, vs, _, _, r⟩ := this; exact repf_bd r
    · rw [rl.len]; exact e
  have nt : a ∉ t := fun ht => by
    have nd := rl'.nd
    rw [List.nodup_append] at nd
    exact nd.2.2 a (List.mem_of_getElem? h) a ht rfl
  cases o with
  | dead => trivial
  | lst us => obtain ⟨z, vs, h1, r⟩ := ho; exact ⟨⟨z, nt⟩, vs, h1, reps_cut (fun _ z => z.1) r hb⟩
  | dct us => obtain ⟨z, vs, h1, r⟩ := ho; exact ⟨⟨z, nt⟩, vs, h1, repk_cut (fun _ z => z.1) r hb⟩
  | ins c us => obtain ⟨z, C, dx, vs, h1, h2, r⟩ := ho; exact ⟨⟨z, nt⟩, C, dx, vs, h1, h2, repf_cut (fun _ z => z.1) r hb⟩
theorem cut_ex (x : Ex ρ Z H (ρ ++ t) Z' H') : Ex ρ Z H ρ (zDrop Z' t) H' :=
  ⟨⟨[], by simp⟩, fun a o h z => ⟨(x.fz a o h z).1, fun q => (x.fz a o h z).2 q.1⟩, fun a o h z n => ⟨(x.ou a o h z n).1, ⟨(x.ou a o h z n).2.1, fun q => (x.ou a o h z n).2.2 (List.mem_append_right _ q)⟩, n⟩, x.th⟩
/-- what is left of a result when the new cells are frozen -/
def Cut (G : List Ob) : Rs U → Rs U → Prop
  | .ok u1 G1, .ok u G' => frzU G.length G' u = some u1 ∧ CutG G G' G1
  | .exc x1 G1, .exc x G' => x1 = x ∧ CutG G G' G1
  | _, _ => False
theorem cut_rd {G : List Ob} {Q : VK} {E : XK} {r1 r : Rs U} (rl : Rl T ρ Z G H) (c : Cut G r1 r) (h : RD T H ρ Z Q E r1) : RD T H ρ Z Q E r := by
  cases r with
  | bad => cases r1 <;> exact c.elim
  | ok u G' =>
    cases r1 with
    | ok u1 G1 =>
      intro v H' ρ' Z' x rl' rv
      obtain ⟨t, e⟩ := x.pre
      subst e
      obtain ⟨c1, c2⟩ := c
      unfold frzU at c1
      rw [← rl.len] at c1
      exact h v H' ρ (zDrop Z' t) (cut_ex x) (cut_rl rl rl' c2) (rep_map (fun _ z => z.1) (refF_ok rl' 6) rv c1)
    | _ => exact c.elim
  | exc y G' =>
    cases r1 with
    | exc y1 G1 =>
      intro cls d H' ρ' Z' x rl' a
      obtain ⟨t, e⟩ := x.pre
      subst e
      obtain ⟨c1, c2⟩ := c
      subst c1
      exact h cls d H' ρ (zDrop Z' t) (cut_ex x) (cut_rl rl rl' c2) a
    | _ => exact c.elim
/-- r' promises no more than r, new cells frozen -/
def LeC (r' r : RunD) : Prop := ∀ us G, r' us G = .bad ∨ r' us G = r us G ∨ Cut G (r' us G) (r us G)
theorem spD_leC {n : Nat} {r r' : RunD} (h : LeC r' r) (vs : List V) (H : Hp) (Q : VK) (E : XK) (q : spD T n r' vs H Q E) : spD T n r vs H Q E := by
  obtain ⟨us, G, ρ, Z, rl, rp, hl, q⟩ := q
  refine ⟨us, G, ρ, Z, rl, rp, hl, ?_⟩
  rcases h us G with e | e | e
  · rw [e] at q; exact q.elim
  · rw [← e]; exact q
  · exact cut_rd rl e q
theorem FnOk.leC {P : Program} {w : World} {K : PySem.W.Frag} {mg : Str → Option Value} {base : Heap} {CX : CXT} {k n : Nat} {f : Addr} {fd : FuncData} {ps : List Str} {r r' : RunD} (F : FnOk P w K mg base CX k f fd ps (spD T n r)) (h : LeC r' r) : FnOk P w K mg base CX k f fd ps (spD T n r') :=
  F.imp fun vs H Q E q => spD_leC h vs H Q E q
theorem DefOk.leC {P : Program} {w : World} {K : PySem.W.Frag} {mg : Str → Option Value} {base : Heap} {k n : Nat} {f : Addr} {r r' : RunD} (F : DefOk P w K mg base T k f n r) (h : LeC r' r) : DefOk P w K mg base T k f n r' := by
  obtain ⟨fd, ps, b, hl, F⟩ := F.ex
  exact ⟨fd, ps, b, hl, FnOk.leC F h⟩
end
end FL

/-! FL20: the facts of the text, by one check; tables by their rows. -/
namespace FL
open PySem L2 PyProof.Rows
section
variable {K : PySem.W.Frag} {T : Tb}
def clsB (K : PySem.W.Frag) (C : Addr) : Bool :=
  PySem.W.plainGet K C Str.empty && PySem.W.hasDictIn K C && PySem.W.plainOver K C && decide (PySem.W.findIn K (.ref C) "__setattr__" = some (some (.builtin "object.__setattr__")))
theorem clsB_ok {C : Addr} (h : clsB K C = true) : Cls K C := by
  unfold clsB at h
  simp only [Bool.and_eq_true, decide_eq_true_eq] at h
  exact ⟨h.1.1.1, h.1.1.2, h.1.2, h.2⟩
def insB (K : PySem.W.Frag) (C : Addr) : Bool :=
  clsB K C && decide (PySem.W.findIn K (.ref C) "__class__" = some (some (.builtin "object.__class__"))) && decide (PySem.W.specialIn K (.builtin "object.__class__") "__get__" = some (some (.builtin "getset_descriptor.__get__"))) &&
    decide (PySem.W.takesIn K (.builtin "object.__class__") = some true) && decide (PySem.W.mroIn K C (.type "object") = some true)
theorem insB_ok {C : Addr} (h : insB K C = true) : InsT K C := by
  unfold insB at h
  simp only [Bool.and_eq_true, decide_eq_true_eq] at h
  exact ⟨clsB_ok h.1.1.1.1, h.1.1.1.2, h.1.1.2, h.1.2, h.2⟩
def tys : List Ty := [.non, .bl, .int, .str, .lst, .tup, .dct]
theorem tys_all (b : Ty) : b ∈ tys := by cases b <;> decide
/-- isinstance of and by own classes -/
def isiB (K : PySem.W.Frag) (Cs : List Addr) (cls : List Nat) : Bool := cls.all fun c => match Cs[c]? with
  | some C => insB K C && (tys.all fun b => decide (b = .non) || decide (PySem.W.kitOne K (.ref C) (.type b.name) = some false)) && (tys.all fun b => decide (PySem.W.kitOne K (.type b.name) (.ref C) = some false)) &&
      cls.all fun c' => match Cs[c']? with
        | some C' => decide (PySem.W.kitOne K (.ref C) (.ref C') = some (decide (c = c')))
        | none => false
  | none => false
theorem isiB_ok {cls : List Nat} (h : isiB K T.cls cls = true) : IsiOk K T cls := by
  have key : ∀ c ∈ cls, ∀ C, T.cls[c]? = some C → (insB K C && (tys.all fun b => decide (b = .non) || decide (PySem.W.kitOne K (.ref C) (.type b.name) = some false)) && (tys.all fun b => decide (PySem.W.kitOne K (.type b.name) (.ref C) = some false)) &&
      cls.all fun c' => match T.cls[c']? with
        | some C' => decide (PySem.W.kitOne K (.ref C) (.ref C') = some (decide (c = c')))
        | none => false) = true := fun c hc C hC => by
    have := List.all_eq_true.mp h c hc
    rw [hC] at this
    exact this
  simp only [Bool.and_eq_true, List.all_eq_true] at key
  refine ⟨fun c hc C hC => insB_ok (key c hc C hC).1.1.1, fun c hc C hC b hb => ?_, fun c hc C hC b => of_decide_eq_true ((key c hc C hC).1.2 b (tys_all b)), fun c hc c' hc' C C' hC hC' => ?_⟩
  · have := (key c hc C hC).1.1.2 b (tys_all b)
    rw [Bool.or_eq_true] at this
    rcases this with z | z
    · exact absurd (of_decide_eq_true z) hb
    · exact of_decide_eq_true z
  · have := (key c hc C hC).2 c' hc'
    rw [hC'] at this
    exact of_decide_eq_true this
/-- the attributes and the classes in which they are fields -/
def fldB (K : PySem.W.Frag) (Cs : List Addr) (l : List (Str × List Nat)) : Bool := l.all fun p => p.2.all fun c => match Cs[c]? with
  | some C => clsB K C && decide (PySem.W.findIn K (.ref C) p.1 = some none)
  | none => false
theorem fldB_ok {l : List (Str × List Nat)} (h : fldB K T.cls l = true) {f : Str} {cs : List Nat} (hm : (f, cs) ∈ l) : ∀ c ∈ cs, FldOk K T c f := fun c hc => by
  have := List.all_eq_true.mp (List.all_eq_true.mp h _ hm) c hc
  cases e : T.cls[c]? with
  | none => rw [e] at this; cases this
  | some C =>
    rw [e] at this
    simp only [Bool.and_eq_true, decide_eq_true_eq] at this
    exact ⟨C, e, clsB_ok this.1, this.2⟩
/-! ### tables by their rows -/
def All2 {α β : Type} (p : α → β → Prop) : List (α × β) → Prop
  | [] => True
  | (a, b) :: r => p a b ∧ All2 p r
theorem All2.at {α β : Type} [BEq α] [LawfulBEq α] {p : α → β → Prop} : ∀ {l : List (α × β)}, All2 p l → ∀ a b, l.lookup a = some b → p a b
  | [], _, _, _, e => by cases e
  | (x, y) :: r, h, a, b, e => by
    rw [List.lookup_cons] at e
    by_cases z : a = x
    · subst z
      simp at e
      subst e
      exact h.1
    · have : (a == x) = false := by simpa using z
      rw [this] at e
      exact h.2.at a b e
theorem att_of {l : List Str} (h : l.Nodup) (K : PySem.W.Frag) (Cs : List Addr) : AttOk ⟨K, Cs, l⟩ := fun i j f hi hj => by
  obtain ⟨l1, e1⟩ := List.getElem?_eq_some_iff.mp (show l[i]? = some f from hi)
  obtain ⟨l2, e2⟩ := List.getElem?_eq_some_iff.mp (show l[j]? = some f from hj)
  exact (List.getElem_inj h).mp (e1.trans e2.symm)
section
variable {P : Program} {w : World} {mg : Str → Option Value} {base : Heap} {k : Nat} {d : Dn}
theorem tab_mk (hat : AttOk T) (hgl : All2 (GvOk P w K mg base T k) d.gl) (hbl : ∀ x, x ∈ d.bl → mg x = none) (hty : All2 (fun x c => ∃ C, T.cls[c]? = some C ∧ mg x = some (.ref C)) d.ty) (hisi : IsiOk K T d.cls)
    (hatt : All2 (fun f z => T.att[z.1]? = some f ∧ (∀ c ∈ z.2.1, FldOk K T c f) ∧ All2 (fun c r => PropOk P w K mg base T k c f r) z.2.2) d.att) (hmth : All2 (fun m z => z.2 ≠ [] ∧ All2 (fun c nr => MethOk P w K mg base T k c m z.1 nr.1 nr.2) z.2) d.mth)
    (heq : All2 (fun c r => EqOk P w K mg base T k c r) d.eqt) (hxc : All2 (fun x z => XcOk P w K mg base T k x z) d.xc) (hxs : XsOk K T d.xs) (hxi : XiOk K T d.xi) (hln : All2 (fun c r => LnOk P w K mg base T k c r) d.lnt := by exact trivial) : TabOk P w K mg base T k d :=
  ⟨hat, fun x g e => hgl.at x g e, hbl, fun x c e => hty.at x c e, hisi, fun f z e => let ⟨a, b, c⟩ := hatt.at f z e; ⟨a, b, fun c' r e' => c.at c' r e'⟩, fun m z e => let ⟨a, b⟩ := hmth.at m z e; ⟨a, fun c n r e' => b.at c (n, r) e'⟩, fun c r e => heq.at c r e, fun x z e => hxc.at x z e, hxs, hxi, fun c r e => hln.at c r e⟩
end
/-- keywords told in their order -/
theorem kbn_of {x qual : Str} {st : Stmt} {f : Addr} {fd : FuncData} {ps ks : List Str} {n : Nat} (F : Fun K x qual st f fd)
    (h : ∀ (kV doc pm : Value) (an : Option Addr) (cdv ct : Value) (us ws : List Value), us.length = n → ws.length = ks.length → bindArgs (PySem.W.fnOf x qual (defArgs st) (defBody st) (defScope st) .none kV doc pm an cdv ct) ⟨us, ks.zip ws⟩ = pure (ps.zip (us ++ ws))) :
    KBn K fd ps n ks (fun us ws => us ++ ws) (fun vs zs => vs ++ zs) := by
  obtain ⟨oc, od, kV, doc, pm, an, cdv, ct, osl, rfl, lk, hcd⟩ := F.ex
  exact ⟨fun s us ws _ l1 l2 => .of_eq (h kV doc pm an cdv ct us ws l1 l2), fun r1 r2 => r1.append r2⟩
end
end FL

/-! FL21: evaluation of the combinators, for plain proofs. -/
namespace FL
open PySem L2 PyProof.Rows
abbrev tx (s : String) : List Nat := (Str.ofString s).cps.toList
@[simp] theorem SS_beq (a b : List Nat) : (SS a == SS b) = (a == b) := by
  have := PyProof.Rows.toList_beq (SS a) (SS b)
  rw [tl_SS, tl_SS] at this
  exact this.symm
/-- item by item -/
theorem compL_map {b : Itb} {g : MG} {t : MT} {e : ME} {s0 : Sg} {G : List Ob} {h : U → U} : ∀ (l : List U) (k : Nat), (∀ i, itAt b G (k + i) = some l[i]?) → (∀ u ∈ l, ∃ s1, g u s0 = some s1 ∧ t s1 G = .ok true G ∧ e s1 G = .ok (h u) G) → compL b g t e s0 l.length k G = some (l.map h, G)
  | [], k, hi, _ => by
    have := hi 0
    simp at this
    simp [compL, this]
  | x :: r, k, hi, hh => by
    obtain ⟨s1, h1, h2, h3⟩ := hh x (.head _)
    have h0 := hi 0
    simp at h0
    have ih := compL_map (b := b) (g := g) (t := t) (e := e) (s0 := s0) (G := G) (h := h) r (k + 1) (fun i => by have := hi (i + 1); simp at this; rw [show k + 1 + i = k + (i + 1) by omega]; exact this) (fun u hu => hh u (.tail _ hu))
    simp [compL, h0, h1, h2, h3, ih]
/-- .. those that pass a test -/
theorem compL_filter {b : Itb} {g : MG} {t : MT} {e : ME} {s0 : Sg} {G : List Ob} {h : U → U} {p : U → Bool} : ∀ (l : List U) (k : Nat), (∀ i, itAt b G (k + i) = some l[i]?) → (∀ u ∈ l, ∃ s1, g u s0 = some s1 ∧ t s1 G = .ok (p u) G ∧ (p u = true → e s1 G = .ok (h u) G)) → compL b g t e s0 l.length k G = some ((l.filter p).map h, G)
  | [], k, hi, _ => by
    have := hi 0
    simp at this
    simp [compL, this]
  | x :: r, k, hi, hh => by
    obtain ⟨s1, h1, h2, h3⟩ := hh x (.head _)
    have h0 := hi 0
    simp at h0
    have ih := compL_filter (b := b) (g := g) (t := t) (e := e) (s0 := s0) (G := G) (h := h) (p := p) r (k + 1) (fun i => by have := hi (i + 1); simp at this; rw [show k + 1 + i = k + (i + 1) by omega]; exact this) (fun u hu => hh u (.tail _ hu))
    cases hp : p x with
    | true => simp [compL, h0, h1, h2, hp, h3 hp, ih]
    | false => simp [compL, h0, h1, h2, hp, ih]
theorem comp_items {mu : Bool} {it : MI} {g : MG} {t : MT} {e : ME} {own : List Nat} {s : Sg} {G G1 : List Ob} {l : List U} {h : U → U} (hi : it s G = .ok (.items l, l.length) G1) (hh : ∀ u ∈ l, ∃ s1, g u (wipeS s own) = some s1 ∧ t s1 G1 = .ok true G1 ∧ e s1 G1 = .ok (h u) G1) :
    compM mu it g t e own s G = newL mu (l.map h) G1 := by
  unfold compM
  rw [hi]
  simp only
  rw [compL_map l 0 (fun i => by simp [itAt]) hh]
  rfl
theorem comp_seq {mu : Bool} {it : MI} {g : MG} {t : MT} {e : ME} {own : List Nat} {s : Sg} {G G1 : List Ob} {u : U} {l : List U} {h : U → U} (hi : it s G = .ok (.seq u, l.length) G1) (hs : seqOf G1 u = some l) (hh : ∀ u ∈ l, ∃ s1, g u (wipeS s own) = some s1 ∧ t s1 G1 = .ok true G1 ∧ e s1 G1 = .ok (h u) G1) :
    compM mu it g t e own s G = newL mu (l.map h) G1 := by
  unfold compM
  rw [hi]
  simp only
  rw [compL_map l 0 (fun i => by simp [itAt, hs]) hh]
  rfl
theorem comp_seqF {mu : Bool} {it : MI} {g : MG} {t : MT} {e : ME} {own : List Nat} {s : Sg} {G G1 : List Ob} {u : U} {l : List U} {h : U → U} {p : U → Bool} (hi : it s G = .ok (.seq u, l.length) G1) (hs : seqOf G1 u = some l) (hh : ∀ u ∈ l, ∃ s1, g u (wipeS s own) = some s1 ∧ t s1 G1 = .ok (p u) G1 ∧ (p u = true → e s1 G1 = .ok (h u) G1)) :
    compM mu it g t e own s G = newL mu ((l.filter p).map h) G1 := by
  unfold compM
  rw [hi]
  simp only
  rw [compL_filter l 0 (fun i => by simp [itAt, hs]) hh]
  rfl
@[simp] theorem blsOf_map (l : List Bool) : blsOf (l.map U.bl) = some l := by
  induction l with
  | nil => rfl
  | cons a r ih => simp [blsOf, ih]
@[simp] theorem strsOf_map (l : List (List Nat)) : strsOf (l.map U.str) = some l := by
  induction l with
  | nil => rfl
  | cons a r ih => simp [strsOf, ih]
@[simp] theorem intsOf_map (l : List Int) : intsOf (l.map U.int) = some l := by
  induction l with
  | nil => rfl
  | cons a r ih => simp [intsOf, ih]
theorem blsOf_fun {α : Type} (l : List α) (f : α → Bool) : blsOf (l.map fun a => U.bl (f a)) = some (l.map f) := by
  rw [show (l.map fun a => U.bl (f a)) = (l.map f).map U.bl by simp]
  exact blsOf_map _
/-- new lists -/
theorem newL_f {us : List U} {G : List Ob} (h : us.length ≤ szL) : newL false us G = .ok (.lst us) G := by simp [newL, h]
theorem newL_t {us : List U} {G : List Ob} (h : us.length ≤ szL) : newL true us G = .ok (.ref G.length) (G ++ [.lst us]) := by simp [newL, h]
theorem newT_ok' {us : List U} {G : List Ob} (h : us.length ≤ szL) : newT us G = .ok (.tup us) G := by simp [newT, h]
/-- a for over items, by an invariant -/
theorem forL_inv {b : Itb} {g : MG} {body : MS} (I : Nat → Sg → List Ob → Prop) {n : Nat} {l : List U} (hl : l.length = n) (hb : ∀ G i, itAt b G i = some l[i]?)
    (step : ∀ i u s G, l[i]? = some u → I i s G → ∃ s1 s2 G2, g u s = some s1 ∧ (body s1 G = .nx s2 G2 ∨ body s1 G = .ct s2 G2) ∧ I (i + 1) s2 G2) :
    ∀ (m k : Nat) (s : Sg) (G : List Ob), k + m = n → I k s G → ∃ s' G', forL b g body m k s G = .nx s' G' ∧ I n s' G'
  | 0, k, s, G, e, h => by
    refine ⟨s, G, ?_, by rw [← e]; exact h⟩
    unfold forL
    rw [hb]
    have : l[k]? = none := List.getElem?_eq_none_iff.mpr (by omega)
    rw [this]
  | m + 1, k, s, G, e, h => by
    have hk : k < l.length := by omega
    obtain ⟨s1, s2, G2, h1, h2, h3⟩ := step k l[k] s G (List.getElem?_eq_getElem hk) h
    obtain ⟨s', G', h4, h5⟩ := forL_inv I hl hb step m (k + 1) s2 G2 (by omega) h3
    refine ⟨s', G', ?_, h5⟩
    unfold forL
    rw [hb, List.getElem?_eq_getElem hk]
    simp only [h1]
    rcases h2 with h2 | h2 <;> (rw [h2]; exact h4)
/-! ### plain data: == by shape -/
mutual
def dP : U → PyData
  | .non => .none
  | .bl b => .bool b
  | .int i => .int i
  | .str l => .str (SS l)
  | .tup l => .tuple (dPs l)
  | .lst l => .list (dPs l)
  | _ => .none
def dPs : List U → List PyData
  | [] => []
  | x :: r => dP x :: dPs r
end
def okC (l : List Nat) : Bool := l.all fun c => decide (c < 1114112)
mutual
/-- plain data, at most so deep -/
def pd : Nat → U → Bool
  | _, .non => true
  | _, .bl _ => true
  | _, .int _ => true
  | _, .str l => okC l
  | k + 1, .tup l => pds k l
  | k + 1, .lst l => pds k l
  | _, _ => false
def pds : Nat → List U → Bool
  | _, [] => true
  | k, x :: r => pd k x && pds k r
end
theorem canLay_SS {l : List Nat} (h : okC l = true) : PyData.canLay0 (.str (SS l)) = true := by
  simp only [PyData.canLay0, PyData.strOk, SS]
  simpa [okC, Array.all_toList] using h
mutual
theorem pd_ok {f : Nat → Option PyData} : ∀ {k : Nat} {u : U}, pd k u = true → toD0 f u = some (dP u) ∧ PyData.canLay0 (dP u) = true ∧ PyData.depth (dP u) ≤ k
  | k, .non, _ => ⟨by simp [toD0, dP], by simp [dP, PyData.canLay0], by simp [dP, PyData.depth]⟩
  | k, .bl b, _ => ⟨by simp [toD0, dP], by simp [dP, PyData.canLay0], by simp [dP, PyData.depth]⟩
  | k, .int i, _ => ⟨by simp [toD0, dP], by simp [dP, PyData.canLay0], by simp [dP, PyData.depth]⟩
  | k, .str l, h => ⟨by simp [toD0, dP], by simp only [dP]; exact canLay_SS (by cases k <;> (unfold pd at h; exact h)), by simp [dP, PyData.depth]⟩
  | k + 1, .tup l, h => by
    unfold pd at h
    obtain ⟨h1, h2, h3⟩ := pds_ok (f := f) h
    exact ⟨by simp [toD0, dP, h1], by simp [dP, PyData.canLay0, h2], by simp [dP, PyData.depth, h3]⟩
  | k + 1, .lst l, h => by
    unfold pd at h
    obtain ⟨h1, h2, h3⟩ := pds_ok (f := f) h
    exact ⟨by simp [toD0, dP, h1], by simp [dP, PyData.canLay0, h2], by simp [dP, PyData.depth, h3]⟩
  | 0, .tup l, h => by unfold pd at h; cases h
  | 0, .lst l, h => by unfold pd at h; cases h
  | k, .sc l, h => by cases k <;> (unfold pd at h; cases h)
  | k, .dct l, h => by cases k <;> (unfold pd at h; cases h)
  | k, .ins c l, h => by cases k <;> (unfold pd at h; cases h)
  | k, .ref i, h => by cases k <;> (unfold pd at h; cases h)
theorem pds_ok {f : Nat → Option PyData} : ∀ {k : Nat} {u : List U}, pds k u = true → toD0s f u = some (dPs u) ∧ PyData.canLayAll0 (dPs u) = true ∧ PyData.depthAll (dPs u) ≤ k
  | k, [], _ => ⟨by simp [toD0s, dPs], by simp [dPs, PyData.canLayAll0], by simp [dPs, PyData.depthAll]⟩
  | k, x :: r, h => by
    unfold pds at h
    rw [Bool.and_eq_true] at h
    obtain ⟨h1, h2, h3⟩ := pd_ok (f := f) h.1
    obtain ⟨g1, g2, g3⟩ := pds_ok (f := f) h.2
    exact ⟨by simp [toD0s, dPs, h1, g1], by simp [dPs, PyData.canLayAll0, h2, g2], by simp [dPs, PyData.depthAll]; omega⟩
end
theorem pd_shaped {u : U} (h : pd 20 u = true) : SeqAt.shaped (dP u) = true := by
  obtain ⟨_, h2, h3⟩ := pd_ok (f := fun _ => none) h
  unfold SeqAt.shaped
  rw [h2, Bool.true_and]
  exact decide_eq_true (Nat.le_trans h3 (by decide))
theorem eqU_pd {neg : Bool} {x y : U} {G : List Ob} (hx : pd 20 x = true) (hy : pd 20 y = true) : eqU neg x y G = .ok (.bl (if neg then !PyData.eqv (dP x) (dP y) else PyData.eqv (dP x) (dP y))) G := by
  unfold eqU toD
  rw [(pd_ok hx).1, (pd_ok hy).1]
  simp only
  rw [if_pos ⟨pd_shaped hx, pd_shaped hy⟩]
theorem eqv_refl_pd {x : U} (hx : pd 20 x = true) : PyData.eqv (dP x) (dP x) = true := SeqAt.eqv_refl _ (pd_ok (f := fun _ => none) hx).2.1
def notIns : U → Bool
  | .ins _ _ => false
  | .ref _ => false
  | _ => true
theorem eqX_pd {neg : Bool} {et : Nat → Option RunD} {x y : U} {G : List Ob} (hx : pd 20 x = true) (hy : pd 20 y = true) : eqX neg et x y G = .ok (.bl (if neg then !PyData.eqv (dP x) (dP y) else PyData.eqv (dP x) (dP y))) G := by
  unfold eqX
  have : insOf G x = none := by cases x <;> first | rfl | (unfold pd at hx; cases hx)
  rw [this]
  exact eqU_pd hx hy
/-! ### statement by statement -/
theorem seqM_nx {m1 m2 : MS} {s s1 : Sg} {G G1 : List Ob} (h : m1 s G = .nx s1 G1) : seqM m1 m2 s G = m2 s1 G1 := by unfold seqM; rw [h]
theorem seqM_rt {m1 m2 : MS} {s : Sg} {G G1 : List Ob} {u : U} (h : m1 s G = .rt u G1) : seqM m1 m2 s G = .rt u G1 := by unfold seqM; rw [h]
theorem stE_set {m : ME} {i : Nat} {s : Sg} {G G1 : List Ob} {u : U} (h : m s G = .ok u G1) : stE m (setM i) s G = .nx (s.set i (some u)) G1 := by unfold stE; rw [h]; rfl
theorem stE_rt {m : ME} {s : Sg} {G G1 : List Ob} {u : U} (h : m s G = .ok u G1) : stE m rtM s G = .rt u G1 := by unfold stE; rw [h]; rfl
theorem ifM_t {c : MT} {a b : MS} {s : Sg} {G G1 : List Ob} (h : c s G = .ok true G1) : ifM c a b s G = a s G1 := by unfold ifM; rw [h]
theorem ifM_f {c : MT} {a b : MS} {s : Sg} {G G1 : List Ob} (h : c s G = .ok false G1) : ifM c a b s G = b s G1 := by unfold ifM; rw [h]
theorem bin2_ok {f : U → U → List Ob → Rs U} {a b : ME} {s : Sg} {G G1 G2 : List Ob} {x y : U} (ha : a s G = .ok x G1) (hb : b s G1 = .ok y G2) : bin2 f a b s G = f x y G2 := by unfold bin2; rw [ha]; simp [hb]
theorem consA_ok {p : ME} {q : MA} {s : Sg} {G G1 G2 : List Ob} {x : U} {xs : List U} (ha : p s G = .ok x G1) (hb : q s G1 = .ok xs G2) : consA p q s G = .ok (x :: xs) G2 := by unfold consA; rw [ha]; simp [hb]
@[simp] theorem get_new {G : List Ob} {o : Ob} : (G ++ [o])[G.length]? = some o := by simp
@[simp] theorem set_new {G : List Ob} {o o' : Ob} : (G ++ [o]).set G.length o' = G ++ [o'] := by simp
theorem set_self {G : List Ob} {i : Nat} {o : Ob} (h : G[i]? = some o) : G.set i o = G := by
  obtain ⟨hi, e⟩ := List.getElem?_eq_some_iff.mp h
  rw [← e]
  exact List.set_getElem_self hi
/-- a list in a new cell that grows under a test -/
theorem ext_if {c : MT} {X : ME} {s : Sg} {G : List Ob} {ws xs : List U} {b : Bool} (hs : s[1]? = some (some (.ref G.length))) (hc : c s (G ++ [.lst ws]) = .ok b (G ++ [.lst ws])) (hx : b = true → X s (G ++ [.lst ws]) = .ok (.lst xs) (G ++ [.lst ws])) (hl : ws.length + xs.length ≤ szL) :
    ifM c (stE (bmM extendU (varM 1) (consA X nilA)) (fun _ => nxM)) nxM s (G ++ [.lst ws]) = .nx s (G ++ [.lst (ws ++ if b then xs else [])]) := by
  cases b with
  | false =>
    rw [ifM_f hc]
    simp [nxM]
  | true =>
    rw [ifM_t hc]
    simp [stE, bmM, varM, hs, lstOfW, consA, hx rfl, nilA, extendU, hl, nxM]
theorem cut_new {G g : List Ob} {u u1 : U} (h : frzU G.length (G ++ g) u = some u1) : Cut G (.ok u1 G) (.ok u (G ++ g)) := ⟨h, ⟨g, rfl⟩, rfl, fun _ _ e => .inl e⟩
theorem cut_set {G g : List Ob} {u u1 : U} {i : Nat} {o : Ob} (h : frzU G.length (G.set i o ++ g) u = some u1) (hb : bdO G.length o = true) : Cut G (.ok u1 (G.set i o)) (.ok u (G.set i o ++ g)) :=
  ⟨h, ⟨g, rfl⟩, by simp, fun j p e => by
    by_cases hij : i = j
    · subst hij
      rw [List.getElem?_set] at e
      simp at e
      exact .inr (by rw [← e.2]; exact hb)
    · rw [List.getElem?_set_ne hij] at e
      exact .inl e⟩
theorem bds_strs {n : Nat} : ∀ {zs : List (List Nat)}, bdUs n (zs.map .str) = true
  | [] => by simp [bdUs]
  | z :: r => by rw [List.map_cons]; unfold bdUs; rw [bds_strs]; rfl
theorem bds_ints {n : Nat} : ∀ {zs : List Int}, bdUs n (zs.map .int) = true
  | [] => by simp [bdUs]
  | z :: r => by rw [List.map_cons]; unfold bdUs; rw [bds_ints]; rfl
theorem map_strs {f : Nat → Option U} : ∀ {zs : List (List Nat)}, mapUs f (zs.map .str) = some (zs.map .str)
  | [] => by simp [mapUs]
  | z :: r => by rw [List.map_cons]; unfold mapUs; rw [map_strs]; rfl
theorem map_ints {f : Nat → Option U} : ∀ {zs : List Int}, mapUs f (zs.map .int) = some (zs.map .int)
  | [] => by simp [mapUs]
  | z :: r => by rw [List.map_cons]; unfold mapUs; rw [map_ints]; rfl
theorem frz_str {n : Nat} {G : List Ob} {l : List Nat} : frzU n G (.str l) = some (.str l) := rfl
theorem frz_bl {n : Nat} {G : List Ob} {b : Bool} : frzU n G (.bl b) = some (.bl b) := rfl
theorem frz_int {n : Nat} {G : List Ob} {b : Int} : frzU n G (.int b) = some (.int b) := rfl
theorem frz_non {n : Nat} {G : List Ob} : frzU n G .non = some .non := rfl
theorem frz_strs {n : Nat} {G : List Ob} {zs : List (List Nat)} : frzU n G (.tup (zs.map .str)) = some (.tup (zs.map .str)) := by
  unfold frzU mapU
  rw [map_strs]
  rfl
theorem eqv_str (a b : List Nat) : PyData.eqv (dP (.str a)) (dP (.str b)) = (a == b) := by simp [dP, PyData.eqv]
theorem eqv_int (a b : Int) : PyData.eqv (dP (.int a)) (dP (.int b)) = (a == b) := by simp [dP, PyData.eqv]
/-- == of texts, ints, as it stands -/
theorem eqX_str {neg : Bool} {et : Nat → Option RunD} {a b : List Nat} {G : List Ob} (ha : okC a = true) (hb : okC b = true) : eqX neg et (.str a) (.str b) G = .ok (.bl (if neg then !(a == b) else (a == b))) G := by
  rw [eqX_pd (by unfold pd; exact ha) (by unfold pd; exact hb), eqv_str]
theorem eqX_int {neg : Bool} {et : Nat → Option RunD} {a b : Int} {G : List Ob} : eqX neg et (.int a) (.int b) G = .ok (.bl (if neg then !(a == b) else (a == b))) G := by
  rw [eqX_pd (by unfold pd; rfl) (by unfold pd; rfl), eqv_int]
theorem eqvAll_strs : ∀ (zs ys : List (List Nat)), PyData.eqvAll (dPs (zs.map .str)) (dPs (ys.map .str)) = (zs == ys)
  | [], [] => by simp [dPs, PyData.eqvAll]
  | [], _ :: _ => by simp [dPs, PyData.eqvAll]
  | _ :: _, [] => by simp [dPs, PyData.eqvAll]
  | z :: zs, y :: ys => by
    simp only [List.map_cons, dPs, PyData.eqvAll, eqvAll_strs zs ys, eqv_str]
    rfl
theorem eqX_strs {neg : Bool} {et : Nat → Option RunD} {a b : List (List Nat)} {G : List Ob} (ha : pds 19 (a.map .str) = true) (hb : pds 19 (b.map .str) = true) : eqX neg et (.tup (a.map .str)) (.tup (b.map .str)) G = .ok (.bl (if neg then !(a == b) else (a == b))) G := by
  rw [eqX_pd (by unfold pd; exact ha) (by unfold pd; exact hb)]
  simp only [dP, PyData.eqv, eqvAll_strs]
theorem tob_str {neg : Bool} {et : Nat → Option RunD} {a b : ME} {s : Sg} {G : List Ob} {x y : List Nat} (ha : a s G = .ok (.str x) G) (hb : b s G = .ok (.str y) G) (hx : okC x = true) (hy : okC y = true) : tobM (bin2 (eqX neg et) a b) s G = .ok (if neg then !(x == y) else (x == y)) G := by
  unfold tobM
  rw [bin2_ok ha hb, eqX_str hx hy]
  rfl
theorem tob_int {neg : Bool} {et : Nat → Option RunD} {a b : ME} {s : Sg} {G : List Ob} {x y : Int} (ha : a s G = .ok (.int x) G) (hb : b s G = .ok (.int y) G) : tobM (bin2 (eqX neg et) a b) s G = .ok (if neg then !(x == y) else (x == y)) G := by
  unfold tobM
  rw [bin2_ok ha hb, eqX_int]
  rfl
theorem tob_strs {neg : Bool} {et : Nat → Option RunD} {a b : ME} {s : Sg} {G : List Ob} {x y : List (List Nat)} (ha : a s G = .ok (.tup (x.map .str)) G) (hb : b s G = .ok (.tup (y.map .str)) G) (hx : pds 19 (x.map .str) = true) (hy : pds 19 (y.map .str) = true) : tobM (bin2 (eqX neg et) a b) s G = .ok (if neg then !(x == y) else (x == y)) G := by
  unfold tobM
  rw [bin2_ok ha hb, eqX_strs hx hy]
  rfl
theorem bin2_p {f : U → U → List Ob → Rs U} {a b : ME} {s : Sg} {G : List Ob} {x y : U} (ha : a s G = .ok x G) (hb : b s G = .ok y G) : bin2 f a b s G = f x y G := bin2_ok ha hb
theorem consA_p {p : ME} {q : MA} {s : Sg} {G : List Ob} {x : U} {xs : List U} (ha : p s G = .ok x G) (hb : q s G = .ok xs G) : consA p q s G = .ok (x :: xs) G := consA_ok ha hb
theorem meth_eval {mt : Nat → Option (Nat × RunD)} {km : Nat} {mo : ME} {mas : MA} {s : Sg} {G G1 G2 : List Ob} {u : U} {c n : Nat} {l : List (Nat × U)} {r : RunD} {us : List U} (hm : mo s G = .ok u G1) (hi : insOf G1 u = some (c, l)) (ht : mt c = some (n, r)) (hl : l.lookup km = none) (ha : mas s G1 = .ok us G2) :
    methM mt km mo mas s G = arM n r (u :: us) G2 := by
  unfold methM
  rw [hm]
  simp only [bind_ok, hi, ht, hl, ha]
theorem var_ok {i : Nat} {s : Sg} {G : List Ob} {u : U} (h : s[i]? = some (some u)) : varM i s G = .ok u G := by unfold varM; rw [h]
theorem ifM_fn {c : MT} {a : MS} {s : Sg} {G G1 : List Ob} (h : c s G = .ok false G1) : ifM c a nxM s G = .nx s G1 := ifM_f h
theorem seqM_if {c : MT} {a m : MS} {s : Sg} {G G1 : List Ob} (h : c s G = .ok false G1) : seqM (ifM c a nxM) m s G = m s G1 := seqM_nx (ifM_fn h)
theorem seqM_ift {c : MT} {a m : MS} {s : Sg} {G G1 G2 : List Ob} {u : U} (h : c s G = .ok true G1) (ha : a s G1 = .rt u G2) : seqM (ifM c a nxM) m s G = .rt u G2 := seqM_rt ((ifM_t h).trans ha)
theorem seqM_stE {e : ME} {f : U → MS} {m : MS} {s : Sg} {G G1 : List Ob} {u : U} (h : e s G = .ok u G1) (hf : ∀ s, f u s G1 = .nx s G1) : seqM (stE e f) m s G = m s G1 := seqM_nx (by unfold stE; rw [h]; exact hf s)
theorem seqM_set {e : ME} {i : Nat} {m : MS} {s : Sg} {G G1 : List Ob} {u : U} (h : e s G = .ok u G1) : seqM (stE e (setM i)) m s G = m (s.set i (some u)) G1 := seqM_nx (stE_set h)
end FL

/-! FL22: what the top has left: constants, names; the law's own promise. -/
namespace FL
open PySem L2 PyProof.Rows
section
variable {K : PySem.W.Frag} {T : Tb}
def mapO {α β : Type} (f : α → Option β) : List α → Option (List β)
  | [] => some []
  | x :: r => match f x, mapO f r with
    | some a, some b => some (a :: b)
    | _, _ => none
/-- a constant of the written part, as data -/
def constB (K : PySem.W.Frag) : Nat → Value → Option U
  | 0, _ => none
  | n + 1, v => match v with
    | .none => some .non
    | .bool b => some (.bl b)
    | .int i _ => some (.int i)
    | .str x _ => some (.str x.cps.toList)
    | .ref a => match K.lookup a with
      | some ⟨.type "tuple", _, .seq its _, _⟩ => if its.size ≤ szL then (mapO (constB K n) its.toList).map .tup else none
      | _ => none
    | _ => none
theorem mapO_ok {f : Value → Option U} (hf : ∀ v u, f v = some u → ∃ w, RelV w v ∧ ∀ ρ Z H, Rep T ρ Z H w u) : ∀ {vals : List Value} {us : List U}, mapO f vals = some us → ∃ vs, Vals vs vals ∧ ∀ ρ Z H, Reps T ρ Z H vs us
  | [], us, e => by
    cases e
    exact ⟨[], .nil, fun _ _ _ => .nil⟩
  | x :: r, us, e => by
    unfold mapO at e
    split at e
    · rename_i a b e1 e2
      cases e
      obtain ⟨v, q1, q2⟩ := hf x a e1
      obtain ⟨vs, q3, q4⟩ := mapO_ok hf e2
      exact ⟨v :: vs, .cons q1 q3, fun ρ Z H => .cons (q2 ρ Z H) (q4 ρ Z H)⟩
    · cases e
theorem constB_ok (hT : T.K = K) : ∀ (n : Nat) (val : Value) (u : U), constB K n val = some u → ∃ v, RelV v val ∧ ∀ ρ Z H, Rep T ρ Z H v u
  | 0, _, _, e => by cases e
  | n + 1, val, u, e => by
    unfold constB at e
    split at e
    · cases e; exact ⟨.non, rfl, fun _ _ _ => .non⟩
    · cases e; exact ⟨.bl _, rfl, fun _ _ _ => .bl _⟩
    · cases e; exact ⟨.int _, ⟨_, rfl⟩, fun _ _ _ => .int _⟩
    · cases e; exact ⟨.str _, ⟨_, rfl⟩, fun _ _ _ => .str _⟩
    · rename_i a
      split at e
      · rename_i dd its m sl hl
        split at e
        · rename_i hs
          obtain ⟨us, e1, e2⟩ := Option.map_eq_some_iff.mp e
          subst e2
          obtain ⟨vs, q1, q2⟩ := mapO_ok (T := T) (constB_ok hT n) e1
          exact ⟨.ref a, rfl, fun ρ Z H => .tup (.inr ⟨_, its, m, hT ▸ hl, rfl, rfl, by rw [szL_eq]; exact hs, q1⟩) (q2 ρ Z H)⟩
        · cases e
      · cases e
    · cases e
/-- a module constant -/
def conAt (K : PySem.W.Frag) (x : Str) : Option U := match PySem.W.nsIn K mainGlobals x with
  | some (some v) => constB K 4 v
  | _ => none
theorem con_ok {h : Heap} {mg : Str → Option Value} {x : Str} {u : U} (hT : T.K = K) (X : K.In h) (G : h.Ns mainGlobals mg) (e : conAt K x = some u) : ∃ v val, mg x = some val ∧ RelV v val ∧ ∀ ρ Z H, Rep T ρ Z H v u := by
  unfold conAt at e
  split at e
  · rename_i val hv
    obtain ⟨v, q1, q2⟩ := constB_ok hT 4 val u e
    exact ⟨v, val, PySem.W.mg_of X G hv, q1, q2⟩
  · cases e
def blB (K : PySem.W.Frag) (l : List Str) : Bool := l.all fun x => decide (PySem.W.nsIn K mainGlobals x = some none)
theorem blB_ok {h : Heap} {mg : Str → Option Value} {l : List Str} (X : K.In h) (G : h.Ns mainGlobals mg) (e : blB K l = true) : ∀ x, x ∈ l → mg x = none := fun x hx =>
  PySem.W.mg_none_of X G (of_decide_eq_true (List.all_eq_true.mp e x hx))
/-- law's own: at most 63 ints, True -/
def spLaw (K : PySem.W.Frag) : Sp := fun vs H Q _ => ∃ (a : Addr) (ns : List Int), vs = [.ref a] ∧ SqL K H a (ns.map V.int) ∧ ns.length ≤ 63 ∧ ∀ H', Q (.bl true) H'
theorem spLaw_le {r : RunD} (hT : T.K = K) (hr : ∀ ns : List Int, ns.length ≤ 63 → r [.sc (ns.map .int)] [] = .ok (.bl true) []) (vs : List V) (H : Hp) (Q : VK) (E : XK) (q : spLaw K vs H Q E) : spD T 1 r vs H Q E := by
  obtain ⟨a, ns, rfl, hS, hl, k⟩ := q
  have rl : Rl T [] (fun _ => False) [] H := ⟨rfl, List.nodup_nil, (fun _ z => z.elim), (fun a h => by simp at h), (fun i a o h => by simp at h)⟩
  have hS' : SqS T.K (fun _ => False) H a (ns.map V.int) := by
    rw [hT]
    exact hS.imp (fun z => ⟨z, fun q => q⟩) id
  refine ⟨[.sc (ns.map .int)], [], [], fun _ => False, rl, .cons (.sc hS' (Reps.of_ints ns)) .nil, rfl, ?_⟩
  rw [hr ns hl]
  intro v H' ρ' Z' _ _ rv
  rw [rv.inv_bl]
  exact k H'
theorem cx_no {P : Program} {w : World} (H : Hp) (s : Shared) (e : Value) (s' : Shared) (h : L2.CX P w [] H s (fun _ _ _ => False) e s') : False := by
  obtain ⟨_, _, _, _, _, _, _, _, _, _, _, _, z⟩ := h
  exact z
theorem Le.c {r' r : RunD} (h : Le r' r) : LeC r' r := fun us G => (h us G).imp id .inl
end
end FL

/-! FL27: the facts of the exception classes, by checks. -/
namespace FL
open PySem L2 PyProof.Rows
section
variable {P : Program} {w : World} {K : PySem.W.Frag} {mg : Str → Option Value} {base : Heap} {T : Tb} {k j : Nat}
def excB (K : PySem.W.Frag) (D : Addr) : Bool :=
  decide (PySem.W.findIn K (.ref D) "__getattribute__" = some (some (.builtin "BaseException.__getattribute__"))) && decide (PySem.W.findIn K (.ref D) "__getattr__" = some none) &&
  decide (PySem.W.subIn K (.ref D) (.type "BaseException") = some true) && PySem.W.hasDictIn K D && decide (PySem.W.findIn K (.ref D) "__class__" = some (some (.builtin "object.__class__"))) &&
  decide (PySem.W.specialIn K (.builtin "object.__class__") "__get__" = some (some (.builtin "getset_descriptor.__get__"))) && decide (PySem.W.takesIn K (.builtin "object.__class__") = some true) && decide (PySem.W.mroIn K D (.type "object") = some true)
theorem excB_ok {D : Addr} (h : excB K D = true) : ExcC K D := by
  unfold excB at h
  simp only [Bool.and_eq_true, decide_eq_true_eq] at h
  obtain ⟨⟨⟨⟨⟨⟨⟨h1, h2⟩, h3⟩, h4⟩, h5⟩, h6⟩, h7⟩, h8⟩ := h
  exact ⟨h1, h2, h3, h4, h5, h6, h7, h8⟩
def xsB (K : PySem.W.Frag) (Cs : List Addr) (xs : List ((Nat × Nat) × Bool)) : Bool := xs.all fun p => match Cs[p.1.1]?, Cs[p.1.2]? with
  | some C, some C' => decide (PySem.W.exmOne K (.ref C) (.ref C') = some p.2)
  | _, _ => true
def xiB (K : PySem.W.Frag) (Cs : List Addr) (xi : List ((Nat × Nat) × Bool)) : Bool := xi.all fun p => match Cs[p.1.1]?, Cs[p.1.2]? with
  | some C, some C' => excB K C && decide (PySem.W.kitOne K (.ref C) (.ref C') = some p.2)
  | _, _ => true
theorem lookup_mem {α β : Type} [BEq α] [LawfulBEq α] : ∀ {l : List (α × β)} {a : α} {b : β}, l.lookup a = some b → (a, b) ∈ l
  | [], _, _, e => by cases e
  | (x, y) :: r, a, b, e => by
    rw [List.lookup_cons] at e
    by_cases z : a = x
    · subst z
      simp at e
      subst e
      exact .head _
    · have : (a == x) = false := by simpa using z
      rw [this] at e
      exact .tail _ (lookup_mem e)
theorem xsB_ok {xs : List ((Nat × Nat) × Bool)} (h : xsB K T.cls xs = true) : XsOk K T xs := fun c c' b C C' e hC hC' => by
  have := List.all_eq_true.mp h _ (lookup_mem e)
  simp only [hC, hC'] at this
  exact of_decide_eq_true this
theorem xiB_ok {xi : List ((Nat × Nat) × Bool)} (h : xiB K T.cls xi = true) : XiOk K T xi := fun c c' b C C' e hC hC' => by
  have := List.all_eq_true.mp h _ (lookup_mem e)
  simp only [hC, hC', Bool.and_eq_true] at this
  exact ⟨excB_ok this.1, of_decide_eq_true this.2⟩
theorem xs_nil : XsOk K T [] := fun _ _ _ _ _ e => nomatch e
theorem xi_nil : XiOk K T [] := fun _ _ _ _ _ e => nomatch e
/-- an exception class with a field: the facts of its text -/
def xcB (K : PySem.W.Frag) (C fI : Addr) (f : Str) : Bool :=
  xfB K C && decide (PySem.W.findIn K (.ref C) "__setattr__" = some (some (.builtin "object.__setattr__"))) && decide (PySem.W.subIn K (.ref C) (.type "BaseException") = some true) && decide (PySem.W.typeIn K (.ref C) = some (.type "type")) && PySem.W.keepIn K (.ref C) &&
  decide (PySem.W.findIn K (.ref C) "__init__" = some (some (.ref fI))) && decide (PySem.W.typeIn K (.ref fI) = some (.type "function")) && decide (PySem.W.findIn K (.ref C) f = some none)
theorem XcOk.mono {x : Str} {z : Nat × Option Nat} (h : XcOk P w K mg base T j x z) (hj : j ≤ k) : XcOk P w K mg base T k x z := by
  obtain ⟨h1, h2⟩ := h
  refine ⟨h1, ?_⟩
  cases e : z.2 with
  | none => rw [e] at h2; exact h2
  | some kf =>
    rw [e] at h2
    obtain ⟨⟨C, fI, fd, ps, f, a1, a2, a3, a4, a5, a6, a7, a8⟩, b⟩ := h2
    exact ⟨⟨C, fI, fd, ps, f, a1, a2, a3, a4, a5, a6, a7, a8.mono hj⟩, b⟩
theorem xc_init {x qual : Str} {st : Stmt} {fI C N : Addr} {fd : FuncData} {c kf : Nat} {sN vN fn nm q : Str} {bs bm sub : List Value} {sn : List Str} {ab : Bool} {col : Option Bool} {dd : Option Addr} {k0 k1 k2 k3 k5 : Option Value} {p1 p2 p3 p4 : Pos} (hc : T.cls[c]? = some C) (g : mg x = some (.ref C)) (hf : T.att[kf]? = some fn)
    (hl : K.lookup C = some (excClassObj nm q C N bs bm true sn sub ab col dd k0 k1 k2 k3 k5 "ValueError.__new__")) (hr : PySem.HandSPX.refsVE bm = true) (hB : xcB K C fI fn = true)
    (F : Fun K "__init__" qual st fI fd) (S : FnScope [sN, vN] [sN, vN] (defScope st)) (hb : defBody st = [.Assign [.Attribute (.Name sN p1) fn p2] (.Name vN p3) p4]) (h1 : okN sN = true) (h2 : okN vN = true)
    (hps : Binds K fd [sN, vN] []) : XcOk P w K mg base T 1 x (c, some kf) := by
  unfold xcB at hB
  simp only [Bool.and_eq_true, decide_eq_true_eq] at hB
  obtain ⟨⟨⟨⟨⟨⟨⟨h3, h4⟩, h5⟩, h6⟩, h7⟩, h8⟩, h9⟩, h10⟩ := hB
  have O : OexC K C := ⟨⟨_, _, _, _, _, _, _, _, _, _, _, _, _, _, _, hl, hr⟩, h4, h5, h6, h7⟩
  exact ⟨⟨C, hc, g⟩, ⟨⟨C, fI, fd, _, fn, hc, g, O, h8, h9, hps, hf, xinit_ok F S hb O h10 h1 h2⟩⟩, C, fn, hc, hf, xfB_ok h3, h10⟩
def xpB (K : PySem.W.Frag) (C : Addr) : Bool := PySem.W.excIn K C [.type "ValueError", .type "Exception", .type "BaseException", .type "object"] "ValueError.__new__" && PySem.W.keepIn K (.ref C) && decide (PySem.W.subIn K (.ref C) (.type "BaseException") = some true) && decide (PySem.W.typeIn K (.ref C) = some (.type "type"))
theorem xc_plain {x : Str} {C : Addr} {c : Nat} (hc : T.cls[c]? = some C) (g : mg x = some (.ref C)) (hB : xpB K C = true) : XcOk P w K mg base T k x (c, none) := by
  unfold xpB at hB
  simp only [Bool.and_eq_true, decide_eq_true_eq] at hB
  obtain ⟨⟨⟨h1, h2⟩, h3⟩, h4⟩ := hB
  exact ⟨⟨C, hc, g⟩, ⟨C, _, _, _, hc, g, PySem.F.excBase_ValueError, h1, h2, h3, h4⟩⟩
end
end FL
namespace FL
/-! ### suites, told by name -/
def fldX (c kf : Nat) : Exn → Option U := fun x => if x.cls = c then (match x.fs.lookup kf with | some u => if flatU u then some u else none | none => none) else none
def litX (u : U) : Exn → Option U := fun _ => some u
def nilX : Exn → Option (List U) := fun _ => some []
def consX (m : Exn → Option U) (ms : Exn → Option (List U)) : Exn → Option (List U) := fun x => match m x, ms x with
  | some u, some us => some (u :: us)
  | _, _ => none
def lstX (ms : Exn → Option (List U)) : Exn → Option U := fun x => (ms x).bind fun us => if us.length ≤ szL then some (.lst us) else none
def setX (j : Nat) (m : Exn → Option U) : Exn → MS := fun ex s G => match m ex with
  | some u => .nx (s.set j (some u)) G
  | none => .bad
def setIX (c : Nat) (i : Option Nat) (j : Nat) (m : Exn → Option U) : Exn → MS := fun ex s G => match m ex with
  | some u => if ex.cls = c ∧ ex.fs ≠ [] ∧ i ≠ some j then .nx (s.set j (some u)) G else .bad
  | none => .bad
def retX (m : Exn → Option U) : Exn → MS := fun ex s G => match m ex with
  | some u => .rt u G
  | none => .bad
def raise0M (c : Nat) : MS := fun s G => .exc ⟨c, []⟩ s G
end FL

/-! FL28: the laws' own comparison, once for all of them. -/
namespace FL
open PySem L2 PyProof.Rows
def allO : List (Option Bool) → Option Bool
  | [] => some true
  | some b :: r => (allO r).map (b && ·)
  | none :: _ => none
theorem allO_some : ∀ {l : List (Option Bool)} {b : Bool}, allO l = some b → ∃ bs : List Bool, l = bs.map some ∧ (bs.all fun b => b) = b
  | [], b, h => by cases h; exact ⟨[], rfl, rfl⟩
  | some a :: r, b, h => by
    unfold allO at h
    cases e : allO r with
    | none => rw [e] at h; cases h
    | some c =>
      rw [e] at h
      cases h
      obtain ⟨bs, rfl, rfl⟩ := allO_some e
      exact ⟨a :: bs, rfl, rfl⟩
  | none :: r, b, h => by cases h
def kindU : U → Nat
  | .non => 0
  | .bl _ => 1
  | .int _ => 2
  | .str _ => 3
  | .tup _ => 4
  | .lst _ => 5
  | _ => 6
def eqQ (f : U → U → Option Bool) (xs ys : List U) : Option Bool := if xs.length ≤ szL ∧ ys.length ≤ szL then (if xs.length = ys.length then allO (List.zipWith f xs ys) else some false) else none
def eqS (f : U → U → Option Bool) (u v : U) : Option Bool := match u, v with
  | .non, .non => some true
  | .bl a, .bl b => some (a == b)
  | .int a, .int b => some (a == b)
  | .str a, .str b => if okC a && okC b then some (a == b) else none
  | .tup xs, .tup ys => eqQ f xs ys
  | .lst xs, .lst ys => eqQ f xs ys
  | u, v => if kindU u < 6 ∧ kindU v < 6 ∧ kindU u ≠ kindU v then some false else none
/-- equal, at most so deep -/
def eqN : Nat → U → U → Option Bool
  | 0 => eqS fun _ _ => none
  | n + 1 => eqS (eqN n)
abbrev eqA (et : Nat → Option RunD) : ME := andM (isiM [0] (.inl .int) (varM 0)) (andM (notM (isiM [0] (.inl .bl) (varM 0))) (bin2 (eqX false et) (varM 0) (varM 1)))
abbrev mEq (et : Nat → Option RunD) (dd : MS) (c : ME) : MS := (seqM (ifM (tobM (bin2 (isU false) (varM 1) (litM .non))) (stE (bin2 (isU false) (varM 0) (litM .non)) rtM) nxM) (seqM (ifM (tobM (isiM [0] (.inl .bl) (varM 1))) (stE (andM (isiM [0] (.inl .bl) (varM 0)) (bin2 (eqX false et) (varM 0) (varM 1))) rtM) nxM) (seqM (ifM (tobM (isiM [0] (.inl .int) (varM 1))) (stE (eqA et) rtM) nxM) (seqM (ifM (tobM (isiM [0] (.inl .str) (varM 1))) (stE (andM (isiM [0] (.inl .str) (varM 0)) (bin2 (eqX false et) (varM 0) (varM 1))) rtM) nxM) (seqM (ifM (tobM (isiM [0] (.inl .dct) (varM 1))) dd nxM) (seqM (ifM (tobM (bin2 (eqX true et) (isiM [0] (.inl .tup) (varM 1)) (isiM [0] (.inl .tup) (varM 0)))) (stE (litM (.bl false)) rtM) nxM) (seqM (ifM (tobM (bin2 (eqX true et) (isiM [0] (.inl .lst) (varM 1)) (isiM [0] (.inl .lst) (varM 0)))) (stE (litM (.bl false)) rtM) nxM) (seqM (ifM (tobM (bin2 (eqX true et) (preM lenU (consA (varM 0) nilA)) (preM lenU (consA (varM 1) nilA)))) (stE (litM (.bl false)) rtM) nxM) (stE (preM allU (consA (compM false (preI rng1U (consA (preM lenU (consA (varM 1) nilA)) nilA)) (nameG 2) yesT c [2]) nilA)) rtM)))))))))
section
variable {et : Nat → Option RunD} {G : List Ob}
theorem pre_one {f : RunD} {m : ME} {s : Sg} {G G1 : List Ob} {u : U} (hm : m s G = .ok u G1) : preM f (consA m nilA) s G = f [u] G1 := by
  unfold preM
  rw [consA_ok hm rfl]
  rfl
theorem pre_oneI {f : List U → List Ob → Rs (Itb × Nat)} {m : ME} {s : Sg} {G G1 : List Ob} {u : U} (hm : m s G = .ok u G1) : preI f (consA m nilA) s G = f [u] G1 := by
  unfold preI
  rw [consA_ok hm rfl]
  simp only [bind_ok]
theorem rng_items {n : Nat} {G : List Ob} (h : n ≤ szL) : rng1U [.int (n : Nat)] G = .ok (.items (rangeL 0 1 n), (rangeL 0 1 n).length) G := by
  have h1 : -(2 ^ 62 : Int) ≤ (n : Int) ∧ (n : Int) < 2 ^ 62 := by unfold szL at h; omega
  have hl : (rangeL 0 1 n).length = n := by simp [rangeL]
  rw [hl]
  simp only [rng1U]
  rw [if_pos h1, Int.toNat_natCast]
theorem eqX_bl {neg : Bool} {a b : Bool} : eqX neg et (.bl a) (.bl b) G = .ok (.bl (if neg then !(a == b) else (a == b))) G := by
  rw [eqX_pd (x := .bl a) (y := .bl b) rfl rfl]
  cases a <;> cases b <;> rfl
theorem eq_comp {c : ME} {f : U → U → Option Bool} {u v : U} {xs ys : List U} {bs : List Bool} (l2 : preM lenU (consA (varM 1) nilA) [some u, some v, none, none] G = .ok (.int ys.length) G)
    (hc : ∀ k x y b, xs[k]? = some x → ys[k]? = some y → f x y = some b → c [some u, some v, some (.int (k : Nat)), none] G = .ok (.bl b) G) (hz : ys.length ≤ szL) (hl : xs.length = ys.length) (eb : List.zipWith f xs ys = bs.map some) :
    compM false (preI rng1U (consA (preM lenU (consA (varM 1) nilA)) nilA)) (nameG 2) yesT c [2] [some u, some v, none, none] G = .ok (.lst (bs.map .bl)) G := by
  have hlb : bs.length = ys.length := by
    have := congrArg List.length eb
    simp [hl] at this
    exact this.symm
  have hget : ∀ k, k < ys.length → ∃ x y b, xs[k]? = some x ∧ ys[k]? = some y ∧ bs[k]? = some b ∧ f x y = some b := fun k hk => by
    have hk1 : k < xs.length := by omega
    have hk2 : k < bs.length := by omega
    refine ⟨xs[k], ys[k], bs[k], List.getElem?_eq_getElem hk1, List.getElem?_eq_getElem hk, List.getElem?_eq_getElem hk2, ?_⟩
    have := congrArg (fun l : List (Option Bool) => l[k]?) eb
    simp [List.getElem?_zipWith, List.getElem?_eq_getElem hk1, List.getElem?_eq_getElem hk, List.getElem?_eq_getElem hk2] at this
    exact this
  have hit : preI rng1U (consA (preM lenU (consA (varM 1) nilA)) nilA) [some u, some v, none, none] G = .ok (.items (rangeL 0 1 ys.length), (rangeL 0 1 ys.length).length) G := by
    have q : preI rng1U (consA (preM lenU (consA (varM 1) nilA)) nilA) [some u, some v, none, none] G = rng1U [.int ys.length] G := by
      exact pre_oneI l2
    rw [q]
    exact rng_items hz
  have hcomp := comp_items (mu := false) (g := nameG 2) (t := yesT) (e := c) (own := [2]) (s := [some u, some v, none, none]) (h := fun z => match z with | .int k => .bl (bs.getD k.toNat false) | z => z) hit fun z hz => by
    unfold rangeL at hz
    rw [List.mem_map] at hz
    obtain ⟨k, hk, rfl⟩ := hz
    rw [List.mem_range] at hk
    obtain ⟨x, y, b, g1, g2, g3, g4⟩ := hget k hk
    refine ⟨[some u, some v, some (.int (0 + (k : Nat) * 1)), none], rfl, rfl, ?_⟩
    have e : (0 + (k : Nat) * 1 : Int) = (k : Nat) := by omega
    rw [e]
    have hb := hc k x y b g1 g2 g4
    simpa [List.getD, g3] using hb
  have hmap : (rangeL 0 1 ys.length).map (fun z => match z with | .int k => U.bl (bs.getD k.toNat false) | z => z) = bs.map U.bl := by
    unfold rangeL
    rw [List.map_map]
    refine List.ext_getElem? fun k => ?_
    by_cases hk : k < ys.length
    · have hk2 : k < bs.length := by omega
      simp [hk, List.getD, List.getElem?_eq_getElem hk2]
    · simp [List.getElem?_eq_none_iff.mpr (show bs.length ≤ k by omega)]
      omega
  rw [hmap] at hcomp
  refine hcomp.trans (newL_f ?_)
  rw [List.length_map, hlb]
  exact hz
theorem eq_seq {dd : MS} {c : ME} {f : U → U → Option Bool} {u v : U} {xs ys : List U} {b : Bool} (hu : (u = .tup xs ∧ v = .tup ys) ∨ (u = .lst xs ∧ v = .lst ys))
    (hc : ∀ k x y b, xs[k]? = some x → ys[k]? = some y → f x y = some b → c [some u, some v, some (.int (k : Nat)), none] G = .ok (.bl b) G) (h : eqQ f xs ys = some b) : mEq et dd c [some u, some v, none, none] G = .rt (.bl b) G := by
  unfold eqQ at h
  by_cases hz : xs.length ≤ szL ∧ ys.length ≤ szL
  rotate_left
  · rw [if_neg hz] at h; cases h
  rw [if_pos hz] at h
  obtain ⟨hz1, hz2⟩ := hz
  have l1 : preM lenU (consA (varM 0) nilA) [some u, some v, none, none] G = .ok (.int xs.length) G := by
    rcases hu with ⟨rfl, rfl⟩ | ⟨rfl, rfl⟩ <;> simp [preM, consA, nilA, varM, lenU, seqOf, lstOf]
  have l2 : preM lenU (consA (varM 1) nilA) [some u, some v, none, none] G = .ok (.int ys.length) G := by
    rcases hu with ⟨rfl, rfl⟩ | ⟨rfl, rfl⟩ <;> simp [preM, consA, nilA, varM, lenU, seqOf, lstOf]
  have s1 : tobM (bin2 (isU false) (varM 1) (litM .non)) [some u, some v, none, none] G = .ok false G := by
    rcases hu with ⟨rfl, rfl⟩ | ⟨rfl, rfl⟩ <;> simp [tobM, bin2, varM, litM, isU, isNonU, blU]
  have s2 : tobM (isiM [0] (.inl .bl) (varM 1)) [some u, some v, none, none] G = .ok false G := by
    rcases hu with ⟨rfl, rfl⟩ | ⟨rfl, rfl⟩ <;> simp [tobM, isiM, varM, tyOf, Ty.sub, blU]
  have s3 : tobM (isiM [0] (.inl .int) (varM 1)) [some u, some v, none, none] G = .ok false G := by
    rcases hu with ⟨rfl, rfl⟩ | ⟨rfl, rfl⟩ <;> simp [tobM, isiM, varM, tyOf, Ty.sub, blU]
  have s4 : tobM (isiM [0] (.inl .str) (varM 1)) [some u, some v, none, none] G = .ok false G := by
    rcases hu with ⟨rfl, rfl⟩ | ⟨rfl, rfl⟩ <;> simp [tobM, isiM, varM, tyOf, Ty.sub, blU]
  have s5 : tobM (isiM [0] (.inl .dct) (varM 1)) [some u, some v, none, none] G = .ok false G := by
    rcases hu with ⟨rfl, rfl⟩ | ⟨rfl, rfl⟩ <;> simp [tobM, isiM, varM, tyOf, Ty.sub, blU]
  have s6 : tobM (bin2 (eqX true et) (isiM [0] (.inl .tup) (varM 1)) (isiM [0] (.inl .tup) (varM 0))) [some u, some v, none, none] G = .ok false G := by
    rcases hu with ⟨rfl, rfl⟩ | ⟨rfl, rfl⟩ <;> simp [tobM, bin2, isiM, varM, tyOf, Ty.sub, blU, eqX_bl]
  have s7 : tobM (bin2 (eqX true et) (isiM [0] (.inl .lst) (varM 1)) (isiM [0] (.inl .lst) (varM 0))) [some u, some v, none, none] G = .ok false G := by
    rcases hu with ⟨rfl, rfl⟩ | ⟨rfl, rfl⟩ <;> simp [tobM, bin2, isiM, varM, tyOf, Ty.sub, blU, eqX_bl]
  have s8 := tob_int (neg := true) (et := et) l1 l2
  refine (seqM_if s1).trans ((seqM_if s2).trans ((seqM_if s3).trans ((seqM_if s4).trans ((seqM_if s5).trans ((seqM_if s6).trans ((seqM_if s7).trans ?_))))))
  split at h
  · rename_i hl
    have e8 : (if true = true then !((xs.length : Int) == (ys.length : Int)) else ((xs.length : Int) == (ys.length : Int))) = false := by simp [hl]
    rw [e8] at s8
    refine (seqM_if s8).trans ?_
    obtain ⟨bs, eb, rfl⟩ := allO_some h
    have hcomp := eq_comp l2 hc hz2 hl eb
    refine stE_rt ((pre_one hcomp).trans ?_)
    simp [allU, lstOf]
  · rename_i hl
    cases h
    have e8 : (if true = true then !((xs.length : Int) == (ys.length : Int)) else ((xs.length : Int) == (ys.length : Int))) = true := by simp [hl]; omega
    rw [e8] at s8
    exact seqM_ift s8 rfl
theorem eq_body {dd : MS} {c : ME} {f : U → U → Option Bool} {u v : U} {b : Bool}
    (hc : ∀ xs ys k x y b, (u = .tup xs ∧ v = .tup ys) ∨ (u = .lst xs ∧ v = .lst ys) → xs[k]? = some x → ys[k]? = some y → f x y = some b → c [some u, some v, some (.int (k : Nat)), none] G = .ok (.bl b) G) (h : eqS f u v = some b) : mEq et dd c [some u, some v, none, none] G = .rt (.bl b) G := by
  unfold eqS at h
  split at h
  · cases h; simp [seqM, ifM, stE, tobM, bin2, varM, litM, isU, isNonU, blU, rtM]
  · cases h
    refine (seqM_if (by simp [tobM, bin2, varM, litM, isU, isNonU, blU]; rfl)).trans (seqM_ift (G1 := G) (by simp [tobM, isiM, varM, tyOf, Ty.sub, blU]) (stE_rt ?_))
    simp [andM, isiM, varM, tyOf, Ty.sub, bin2, eqX_bl]
  · cases h
    refine (seqM_if (by simp [tobM, bin2, varM, litM, isU, isNonU, blU]; rfl)).trans ((seqM_if (by simp [tobM, isiM, varM, tyOf, Ty.sub, blU]; rfl)).trans (seqM_ift (G1 := G) (by simp [tobM, isiM, varM, tyOf, Ty.sub, blU]) (stE_rt ?_)))
    simp [andM, notM, isiM, varM, tyOf, Ty.sub, bin2, eqX_int]
  · rename_i x y
    split at h
    · rename_i ok
      rw [Bool.and_eq_true] at ok
      cases h
      refine (seqM_if (by simp [tobM, bin2, varM, litM, isU, isNonU, blU]; rfl)).trans ((seqM_if (by simp [tobM, isiM, varM, tyOf, Ty.sub, blU]; rfl)).trans ((seqM_if (by simp [tobM, isiM, varM, tyOf, Ty.sub, blU]; rfl)).trans (seqM_ift (G1 := G) (by simp [tobM, isiM, varM, tyOf, Ty.sub, blU]) (stE_rt ?_))))
      simp [andM, isiM, varM, tyOf, Ty.sub, bin2, eqX_str ok.1 ok.2]
    · cases h
  · exact eq_seq (.inl ⟨rfl, rfl⟩) (fun k x y b => hc _ _ k x y b (.inl ⟨rfl, rfl⟩)) h
  · exact eq_seq (.inr ⟨rfl, rfl⟩) (fun k x y b => hc _ _ k x y b (.inr ⟨rfl, rfl⟩)) h
  · split at h
    · rename_i hk
      cases h
      obtain ⟨k1, k2, k3⟩ := hk
      cases v with
      | non => cases u <;> first | (simp [kindU] at k1 k3; done) | simp [seqM, ifM, stE, tobM, bin2, varM, litM, isU, isNonU, blU, rtM]
      | bl b => cases u <;> first | (simp [kindU] at k1 k3; done) | simp [seqM, ifM, stE, tobM, bin2, varM, litM, isU, isNonU, blU, rtM, isiM, tyOf, Ty.sub, andM, nxM]
      | int b => cases u <;> first | (simp [kindU] at k1 k3; done) | simp [seqM, ifM, stE, tobM, bin2, varM, litM, isU, isNonU, blU, rtM, isiM, tyOf, Ty.sub, andM, notM, nxM]
      | str b => cases u <;> first | (simp [kindU] at k1 k3; done) | simp [seqM, ifM, stE, tobM, bin2, varM, litM, isU, isNonU, blU, rtM, isiM, tyOf, Ty.sub, andM, nxM]
      | tup b => cases u <;> first | (simp [kindU] at k1 k3; done) | simp [seqM, ifM, stE, tobM, bin2, varM, litM, isU, isNonU, blU, rtM, isiM, tyOf, Ty.sub, nxM, eqX_bl]
      | lst b => cases u <;> first | (simp [kindU] at k1 k3; done) | simp [seqM, ifM, stE, tobM, bin2, varM, litM, isU, isNonU, blU, rtM, isiM, tyOf, Ty.sub, nxM, eqX_bl]
      | _ => simp [kindU] at k2
    · cases h
/-- one answers as the comparison does, to the depth n -/
def r_eq (n : Nat) : RunD := fun us G => match us with
  | [u, v] => (match eqN n u v with
    | some b => .ok (.bl b) G
    | none => .bad)
  | _ => .bad
theorem eq_zero {dd : MS} {c : ME} {u v : U} {b : Bool} (h : eqN 0 u v = some b) : mEq et dd c [some u, some v, none, none] G = .rt (.bl b) G :=
  eq_body (f := fun _ _ => none) (fun _ _ _ _ _ _ _ _ _ z => nomatch z) h
theorem eq_succ {dd : MS} {n : Nat} {u v : U} {b : Bool} (h : eqN (n + 1) u v = some b) : mEq et dd (callM 2 (r_eq n) (consA (bin2 idxU (varM 0) (varM 2)) (consA (bin2 idxU (varM 1) (varM 2)) nilA))) [some u, some v, none, none] G = .rt (.bl b) G :=
  eq_body (f := eqN n) (fun xs ys k x y b hu h1 h2 hf => by
    have i1 : bin2 idxU (varM 0) (varM 2) [some u, some v, some (.int (k : Nat)), none] G = .ok x G := by
      rw [bin2_p (var_ok rfl) (var_ok (u := .int (k : Nat)) rfl)]
      rcases hu with ⟨rfl, rfl⟩ | ⟨rfl, rfl⟩ <;> simp [idxU, seqOf, lstOf, atI_nat h1]
    have i2 : bin2 idxU (varM 1) (varM 2) [some u, some v, some (.int (k : Nat)), none] G = .ok y G := by
      rw [bin2_p (var_ok rfl) (var_ok (u := .int (k : Nat)) rfl)]
      rcases hu with ⟨rfl, rfl⟩ | ⟨rfl, rfl⟩ <;> simp [idxU, seqOf, lstOf, atI_nat h2]
    unfold callM
    rw [consA_p i1 (consA_p i2 rfl)]
    simp [arM, r_eq, hf]) h
end
end FL

/-! SC1: the scan of a text by a stepper, plain. -/
namespace FL
abbrev W1 := List Nat
/-- the drawn values; a stepper -/
structure Dr where
  w : W1
  p : W1
  k : W1
  t : W1
  zs : List W1
  n : Int
  deriving DecidableEq
abbrev It1 := Nat × Option Nat
def wRep : W1 := [114, 101, 112, 108, 97, 99, 101]
def wKeep : W1 := [107, 101, 101, 112]
def wStop : W1 := [115, 116, 111, 112]
def wOne : W1 := [111, 110, 101]
def wLast : W1 := [108, 97, 115, 116]
def wBehind : W1 := [98, 101, 104, 105, 110, 100]
/-- the first place of the word -/
def placeO (w : W1) : List It1 → Option Nat
  | [] => if w = [] then some 0 else none
  | x :: r => if w.isPrefixOf (x.1 :: r.map (·.1)) then some 0 else (placeO w r).map (· + 1)
/-- how long an end of the items is that begins the word -/
def beginO (w : W1) (l : List It1) : Nat → Nat
  | 0 => 0
  | n + 1 => if (l.drop (l.length - (n + 1))).map (·.1) = w.take (n + 1) then n + 1 else beginO w l n
abbrev Seen := List ((Nat × W1) × Nat × Nat)
structure Sc where
  pend : List It1
  cur : Nat
  stop : Bool
  wr : List It1
  many : Nat
  met : List (W1 × Nat × List It1)
  endl : Bool
  deriving DecidableEq
def writeP (l : List It1) (x : Sc) : Sc := { x with wr := x.wr ++ l, many := x.many + l.length }
def leaveP (m : Nat) (x : Sc) : Sc := { writeP (x.pend.take m) x with pend := x.pend.drop m }
def turnP (s : Dr) (m : Nat) : Nat := if s.t = wBehind then m else if s.t = wLast then m - 1 else 0
def touchP (left : Nat) (sn : Seen) : Seen := sn.filter fun e => decide (e.2.1 ≤ left)
def windP (at_ : Nat) (l : List It1) : Nat × W1 := (at_, (l.take 12).map (·.1))
def againB (at_ : Nat) (l : List It1) (sn : Seen) : Bool := sn.any fun e => e.1 == windP at_ l && decide (e.2.2 ≤ l.length)
def againS (at_ : Nat) (l : List It1) (sn : Seen) : Seen := if againB at_ l sn then sn else sn ++ [(windP at_ l, l.length - 12, l.length)]
/-- a hit is noted; the next deed -/
def noteP (s : Dr) (pl : Nat) (x : Sc) : Sc := { x with met := x.met ++ [(s.zs.getD x.cur [], x.many + pl, (x.pend.drop pl).take s.w.length)], cur := (x.cur + 1) % s.zs.length }
def keepP (s : Dr) (pl : Nat) (x : Sc) : Sc := leaveP (pl + (if s.k = wOne then 1 else s.w.length)) x
def replP (s : Dr) (pl : Nat) (x : Sc) : Sc := leaveP (pl + turnP s s.p.length) { x with pend := x.pend.take pl ++ s.p.map (fun c => (c, none)) ++ x.pend.drop (pl + s.w.length) }
def meetP (s : Dr) (pl : Nat) (x : Sc) (sn : Seen) : Sc × Seen :=
  let sn1 := touchP (x.pend.length - pl - s.w.length) sn
  if s.zs.getD x.cur [] = wStop then ({ noteP s pl x with stop := true, cur := 0 }, sn1)
  else if s.zs.getD x.cur [] = wKeep then (keepP s pl (noteP s pl x), sn1)
  else let y := replP s pl (noteP s pl x)
    ({ y with endl := againB y.cur y.pend sn1 }, againS y.cur y.pend sn1)
def loopP (s : Dr) : Nat → Sc → Seen → Option Sc
  | 0, _, _ => none
  | f + 1, x, sn => match placeO s.w x.pend with
    | none => some x
    | some pl => if x.stop || x.endl then some x else loopP s f (meetP s pl x sn).1 (meetP s pl x sn).2
def afterP (s : Dr) (x : Sc) : Sc := if x.stop then { writeP x.pend x with pend := [] } else leaveP (x.pend.length - beginO s.w x.pend (min (s.w.length - 1) x.pend.length)) x
def feedP (s : Dr) (f : Nat) (i : It1) (x : Sc) : Option Sc :=
  if x.stop then some (writeP [i] { x with wr := [] })
  else (loopP s f { x with wr := [], pend := x.pend ++ [i] } []).map (afterP s)
def restP (x : Sc) : Sc := leaveP x.pend.length { x with wr := [] }
def sc0 : Sc := ⟨[], 0, false, [], 0, [], false⟩
/-- a pass: what is found, the hits; none: endless -/
def goP (s : Dr) (f : Nat) : List It1 → Sc → List It1 → Option (Option (List It1 × Sc))
  | [], x, fd => some (some (fd ++ (restP x).wr, restP x))
  | i :: r, x, fd => match feedP s f i x with
    | none => none
    | some y => if y.endl then some none else goP s f r y (fd ++ y.wr)
def words7 : List W1 := [[97], [97, 98], [97, 97], [97, 98, 97], [97, 97, 98], [97, 98, 99], [98, 97]]
def puts12 : List W1 := [[], [97], [98], [97, 98], [98, 97], [97, 97], [97, 98, 97], [98, 97, 98], [97, 97, 98], [99], [97, 97, 97], [98, 98]]
def keepsL : List W1 := [[111, 110, 101], [97, 108, 108]]
def turnsL : List W1 := [[102, 105, 114, 115, 116], [108, 97, 115, 116], [98, 101, 104, 105, 110, 100]]
def ds1 : List (List W1) := [[wRep], [wKeep], [wStop]]
def ds2 : List (List W1) := ds1.flatMap fun a => [wRep :: a, wKeep :: a, wStop :: a]
def ds3 : List (List W1) := ds2.flatMap fun a => [wRep :: a, wKeep :: a, wStop :: a]
def allDs : List (List W1) := ds1 ++ ds2 ++ ds3
def endsB (w p k t : W1) (zs : List W1) : Bool := (List.range zs.length).all fun a => (loopP ⟨w, p, k, t, zs, 1⟩ 100 ⟨w.map (·, none), a, false, [], 0, [], false⟩ []).isSome
def endsW (w : W1) : Bool := puts12.all fun p => keepsL.all fun k => turnsL.all fun t => allDs.all fun zs => endsB w p k t zs
def sgn (l : List It1) : W1 := l.map (·.1)
theorem sgn_len {l : List It1} : (sgn l).length = l.length := by simp [sgn]
theorem sgn_take {l : List It1} {n : Nat} : sgn (l.take n) = (sgn l).take n := by simp [sgn, List.map_take]
theorem sgn_drop {l : List It1} {n : Nat} : sgn (l.drop n) = (sgn l).drop n := by simp [sgn, List.map_drop]
theorem sgn_app {l m : List It1} : sgn (l ++ m) = sgn l ++ sgn m := by simp [sgn]
/-! ### what is done hangs on the signs alone -/
structure CS (x y : Sc) : Prop where
  pend : sgn x.pend = sgn y.pend
  cur : x.cur = y.cur
  stop : x.stop = y.stop
  endl : x.endl = y.endl
/-- .. and what is told of it -/
structure FS (x y : Sc) : Prop extends CS x y where
  wr : sgn x.wr = sgn y.wr
  many : x.many = y.many
  met : x.met.map (fun m => (m.1, m.2.1)) = y.met.map fun m => (m.1, m.2.1)
theorem CS.len {x y : Sc} (h : CS x y) : x.pend.length = y.pend.length := by rw [← sgn_len, ← sgn_len, h.pend]
theorem place_sgn {w : W1} : ∀ {l m : List It1}, sgn l = sgn m → placeO w l = placeO w m
  | [], [], _ => rfl
  | [], _ :: _, h => by simp [sgn] at h
  | _ :: _, [], h => by simp [sgn] at h
  | a :: l, b :: m, h => by
    simp only [sgn, List.map_cons, List.cons.injEq] at h
    unfold placeO
    rw [h.1, h.2, place_sgn (l := l) (m := m) h.2]
theorem begin_sgn {w : W1} {l m : List It1} (h : sgn l = sgn m) : ∀ n, beginO w l n = beginO w m n
  | 0 => rfl
  | n + 1 => by
    unfold beginO
    have hl : l.length = m.length := by rw [← sgn_len, ← sgn_len, h]
    have : (l.drop (l.length - (n + 1))).map (·.1) = (m.drop (m.length - (n + 1))).map (·.1) := by
      rw [hl]
      show sgn _ = sgn _
      rw [sgn_drop, sgn_drop, h]
    rw [this, begin_sgn h n]
theorem leave_cs {x y : Sc} {m : Nat} (h : CS x y) : CS (leaveP m x) (leaveP m y) where
  pend := by simp only [leaveP]; rw [sgn_drop, sgn_drop, h.pend]
  cur := h.cur
  stop := h.stop
  endl := h.endl
theorem leave_fs {x y : Sc} {m : Nat} (h : FS x y) : FS (leaveP m x) (leaveP m y) where
  toCS := leave_cs h.toCS
  wr := by simp only [leaveP, writeP]; rw [sgn_app, sgn_app, sgn_take, sgn_take, h.pend, h.wr]
  many := by simp only [leaveP, writeP, List.length_take, h.many, h.toCS.len]
  met := h.met
theorem again_sgn {a : Nat} {l m : List It1} {sn : Seen} (h : sgn l = sgn m) : againB a l sn = againB a m sn ∧ againS a l sn = againS a m sn := by
  have hl : l.length = m.length := by rw [← sgn_len, ← sgn_len, h]
  have hw : windP a l = windP a m := by
    unfold windP
    have : (l.take 12).map (·.1) = (m.take 12).map (·.1) := by
      show sgn _ = sgn _
      rw [sgn_take, sgn_take, h]
    rw [this]
  have hb : againB a l sn = againB a m sn := by unfold againB; rw [hw, hl]
  exact ⟨hb, by unfold againS; rw [hb, hw, hl]⟩
theorem note_cs {s : Dr} {pl : Nat} {x y : Sc} (h : CS x y) : CS (noteP s pl x) (noteP s pl y) := ⟨h.pend, by simp only [noteP, h.cur], h.stop, h.endl⟩
theorem note_fs {s : Dr} {pl : Nat} {x y : Sc} (h : FS x y) : FS (noteP s pl x) (noteP s pl y) where
  toCS := note_cs h.toCS
  wr := h.wr
  many := h.many
  met := by simp only [noteP, List.map_append, h.met, List.map_cons, List.map_nil, h.cur, h.many]
theorem repl_cs {s : Dr} {pl : Nat} {x y : Sc} (h : CS x y) : CS (replP s pl x) (replP s pl y) := by
  refine leave_cs ⟨?_, h.cur, h.stop, h.endl⟩
  simp only [sgn_app, sgn_take, sgn_drop, h.pend]
theorem repl_fs {s : Dr} {pl : Nat} {x y : Sc} (h : FS x y) : FS (replP s pl x) (replP s pl y) := by
  refine leave_fs ⟨⟨?_, h.cur, h.stop, h.endl⟩, h.wr, h.many, h.met⟩
  simp only [sgn_app, sgn_take, sgn_drop, h.pend]
theorem meet_cs {s : Dr} {pl : Nat} {x y : Sc} {sn : Seen} (h : CS x y) : CS (meetP s pl x sn).1 (meetP s pl y sn).1 ∧ (meetP s pl x sn).2 = (meetP s pl y sn).2 := by
  unfold meetP
  simp only [h.cur, h.len]
  have hn := note_cs (s := s) (pl := pl) h
  split
  · exact ⟨⟨hn.pend, rfl, rfl, hn.endl⟩, rfl⟩
  · split
    · exact ⟨leave_cs hn, rfl⟩
    · have hr := repl_cs (s := s) (pl := pl) hn
      have ha := fun sn => again_sgn (a := (replP s pl (noteP s pl y)).cur) (sn := sn) hr.pend
      simp only [hr.cur]
      exact ⟨⟨hr.pend, rfl, hr.stop, (ha _).1⟩, (ha _).2⟩
theorem meet_fs {s : Dr} {pl : Nat} {x y : Sc} {sn : Seen} (h : FS x y) : FS (meetP s pl x sn).1 (meetP s pl y sn).1 := by
  refine ⟨(meet_cs h.toCS).1, ?_, ?_, ?_⟩ <;> (unfold meetP; simp only [h.cur, h.toCS.len]; have hn := note_fs (s := s) (pl := pl) h; split)
  · exact hn.wr
  · split
    · exact (leave_fs hn).wr
    · exact (repl_fs (s := s) (pl := pl) hn).wr
  · exact hn.many
  · split
    · exact (leave_fs hn).many
    · exact (repl_fs (s := s) (pl := pl) hn).many
  · exact hn.met
  · split
    · exact (leave_fs hn).met
    · exact (repl_fs (s := s) (pl := pl) hn).met
theorem loop_cs {s : Dr} : ∀ (f : Nat) {x y : Sc} {sn : Seen}, CS x y → (loopP s f x sn = none ↔ loopP s f y sn = none) ∧ ∀ x' y', loopP s f x sn = some x' → loopP s f y sn = some y' → CS x' y'
  | 0, x, y, sn, h => ⟨Iff.rfl, fun _ _ e => nomatch e⟩
  | f + 1, x, y, sn, h => by
    unfold loopP
    rw [place_sgn h.pend, h.stop, h.endl]
    cases placeO s.w y.pend with
    | none => exact ⟨by simp, fun x' y' e1 e2 => by cases e1; cases e2; exact h⟩
    | some pl =>
      by_cases z : (y.stop || y.endl) = true
      · simp only [z, if_true]
        exact ⟨by simp, fun x' y' e1 e2 => by cases e1; cases e2; exact h⟩
      · simp only [if_neg z]
        obtain ⟨h1, h2⟩ := meet_cs (s := s) (pl := pl) (sn := sn) h
        rw [h2]
        exact loop_cs f h1
theorem loop_fs {s : Dr} : ∀ (f : Nat) {x y : Sc} {sn : Seen}, FS x y → ∀ x' y', loopP s f x sn = some x' → loopP s f y sn = some y' → FS x' y'
  | 0, x, y, sn, h, _, _, e, _ => nomatch e
  | f + 1, x, y, sn, h, x', y', e1, e2 => by
    unfold loopP at e1 e2
    rw [place_sgn h.pend, h.stop, h.endl] at e1
    cases e : placeO s.w y.pend with
    | none => rw [e] at e1 e2; cases e1; cases e2; exact h
    | some pl =>
      rw [e] at e1 e2
      by_cases z : (y.stop || y.endl) = true
      · simp only [z, if_true] at e1 e2; cases e1; cases e2; exact h
      · simp only [if_neg z] at e1 e2
        have h2 := (meet_cs (s := s) (pl := pl) (sn := sn) h.toCS).2
        rw [h2] at e1
        exact loop_fs f (meet_fs h) _ _ e1 e2
theorem loop_more {s : Dr} : ∀ {f : Nat} {x y : Sc} {sn : Seen}, loopP s f x sn = some y → ∀ k, loopP s (f + k) x sn = some y
  | 0, _, _, _, e, _ => nomatch e
  | f + 1, x, y, sn, e, k => by
    rw [show f + 1 + k = f + k + 1 by omega]
    unfold loopP at e ⊢
    cases e2 : placeO s.w x.pend with
    | none => rw [e2] at e; exact e
    | some pl =>
      rw [e2] at e
      by_cases z : (x.stop || x.endl) = true
      · simp only [z, if_true] at e ⊢; exact e
      · simp only [if_neg z] at e ⊢
        exact loop_more e k
end FL

/-! SC2: a stepper's scan ends or is found endless; passes beside one another. -/
namespace FL
/-- a stepper whose inner loops end -/
def Ends (s : Dr) : Prop := ∀ a, a < s.zs.length → (loopP s 100 ⟨s.w.map (·, none), a, false, [], 0, [], false⟩ []) ≠ none
structure ScI (s : Dr) (x : Sc) : Prop where
  cur : x.cur < s.zs.length
  endl : x.endl = false
  gone : x.stop = true → x.pend = []
  pend : ∃ L, L < s.w.length ∧ sgn x.pend = s.w.take L
theorem begin_le {w : W1} {l : List It1} : ∀ n, beginO w l n ≤ n
  | 0 => Nat.le_refl _
  | n + 1 => by
    unfold beginO
    split
    · exact Nat.le_refl _
    · exact Nat.le_succ_of_le (begin_le n)
theorem begin_eq {w : W1} {l : List It1} : ∀ n, n ≤ l.length → sgn (l.drop (l.length - beginO w l n)) = w.take (beginO w l n)
  | 0, _ => by
    show sgn (l.drop (l.length - 0)) = w.take 0
    rw [Nat.sub_zero, List.drop_length]
    rfl
  | n + 1, h => by
    unfold beginO
    split
    · rename_i e; exact e
    · exact begin_eq n (by omega)
theorem meet_cur {s : Dr} (hz : 0 < s.zs.length) {pl : Nat} {x : Sc} {sn : Seen} : (meetP s pl x sn).1.cur < s.zs.length := by
  unfold meetP
  simp only
  split
  · exact hz
  · split
    · exact Nat.mod_lt _ hz
    · exact Nat.mod_lt _ hz
theorem loop_cur {s : Dr} (hz : 0 < s.zs.length) : ∀ (f : Nat) {x y : Sc} {sn : Seen}, x.cur < s.zs.length → loopP s f x sn = some y → y.cur < s.zs.length
  | 0, _, _, _, _, e => nomatch e
  | f + 1, x, y, sn, h, e => by
    unfold loopP at e
    cases e2 : placeO s.w x.pend with
    | none => rw [e2] at e; cases e; exact h
    | some pl =>
      rw [e2] at e
      by_cases z : (x.stop || x.endl) = true
      · simp only [z, if_true] at e; cases e; exact h
      · simp only [if_neg z] at e
        exact loop_cur hz f (meet_cur hz) e
theorem after_inv {s : Dr} (hw : 0 < s.w.length) {x : Sc} (hc : x.cur < s.zs.length) (he : x.endl = false) : ScI s (afterP s x) := by
  unfold afterP
  split
  · rename_i hs
    exact ⟨hc, he, fun _ => rfl, 0, hw, by simp [sgn]⟩
  · rename_i hs
    refine ⟨hc, he, fun z => absurd z hs, beginO s.w x.pend (min (s.w.length - 1) x.pend.length), ?_, ?_⟩
    · have := begin_le (w := s.w) (l := x.pend) (min (s.w.length - 1) x.pend.length)
      omega
    · exact begin_eq _ (Nat.min_le_right _ _)
theorem place_short {w : W1} : ∀ {l : List It1}, l.length ≤ w.length → 0 < w.length → sgn l ≠ w → placeO w l = none
  | [], _, h, _ => by
    unfold placeO
    rw [if_neg (fun e => by rw [e] at h; exact Nat.lt_irrefl _ h)]
  | a :: l, hl, h, hne => by
    unfold placeO
    have h1 : w.isPrefixOf (a.1 :: l.map (·.1)) = false := by
      rw [Bool.eq_false_iff]
      intro z
      rw [List.isPrefixOf_iff_prefix] at z
      have : w.length = (a.1 :: l.map (·.1)).length := by
        have := z.length_le
        simp at this hl ⊢
        omega
      exact hne (z.eq_of_length this).symm
    rw [h1]
    simp only [Bool.false_eq_true, if_false]
    have : placeO w l = none := by
      refine place_short (by simp at hl; omega) h ?_
      intro z
      rw [← z, sgn_len] at hl
      simp at hl
      omega
    rw [this]
    rfl
theorem feed_some {s : Dr} (hE : Ends s) (hw : 0 < s.w.length) (hz : 0 < s.zs.length) {x : Sc} (h : ScI s x) (i : It1) : ∃ y, feedP s 100 i x = some y ∧ (y.endl = false → ScI s y) := by
  unfold feedP
  by_cases hs : x.stop = true
  · rw [if_pos hs]
    exact ⟨_, rfl, fun _ => ⟨h.cur, h.endl, h.gone, h.pend⟩⟩
  · rw [if_neg hs]
    obtain ⟨L, hL, hp⟩ := h.pend
    have hlen : (x.pend ++ [i]).length ≤ s.w.length := by
      have := congrArg List.length hp
      rw [sgn_len, List.length_take] at this
      simp; omega
    have key : ∃ z, loopP s 100 { x with wr := [], pend := x.pend ++ [i] } [] = some z := by
      by_cases e : sgn (x.pend ++ [i]) = s.w
      · have cs : CS { x with wr := [], pend := x.pend ++ [i] } ⟨s.w.map (·, none), x.cur, false, [], 0, [], false⟩ := ⟨by rw [show sgn (x.pend ++ [i]) = s.w from e]; simp [sgn, Function.comp_def], rfl, by simpa using hs, h.endl⟩
        have := (loop_cs (s := s) 100 (sn := []) cs).1
        cases q : loopP s 100 { x with wr := [], pend := x.pend ++ [i] } [] with
        | none => exact absurd (this.mp q) (hE _ h.cur)
        | some z => exact ⟨z, rfl⟩
      · refine ⟨{ x with wr := [], pend := x.pend ++ [i] }, ?_⟩
        show loopP s (99 + 1) _ _ = _
        unfold loopP
        rw [place_short hlen hw e]
    obtain ⟨z, hz'⟩ := key
    rw [hz']
    refine ⟨_, rfl, fun he => after_inv hw (loop_cur hz 100 (x := { x with wr := [], pend := x.pend ++ [i] }) h.cur hz') ?_⟩
    revert he
    unfold afterP
    split
    · exact id
    · exact id
theorem go_some {s : Dr} (hE : Ends s) (hw : 0 < s.w.length) (hz : 0 < s.zs.length) : ∀ (l : List It1) {x : Sc} (fd : List It1), ScI s x → goP s 100 l x fd ≠ none
  | [], _, _, _ => by simp [goP]
  | i :: r, x, fd, h => by
    unfold goP
    obtain ⟨y, e, hy⟩ := feed_some hE hw hz h i
    rw [e]
    simp only
    by_cases z : y.endl = true
    · simp [z]
    · rw [if_neg z]
      exact go_some hE hw hz r _ (hy (by simpa using z))
theorem sc0_inv {s : Dr} (hw : 0 < s.w.length) (hz : 0 < s.zs.length) : ScI s sc0 := ⟨hz, rfl, fun z => (nomatch z), 0, hw, rfl⟩
/-! ### passes over the same signs -/
theorem after_fs {s : Dr} {x y : Sc} (h : FS x y) : FS (afterP s x) (afterP s y) := by
  unfold afterP
  rw [h.stop, h.toCS.len]
  split
  · refine ⟨⟨rfl, h.cur, h.stop, h.endl⟩, ?_, ?_, h.met⟩
    · simp only [writeP]; rw [sgn_app, sgn_app, h.wr, h.pend]
    · simp only [writeP, h.many, h.toCS.len]
  · rw [begin_sgn h.pend]
    exact leave_fs h
theorem feed_fs {s : Dr} {f : Nat} {x y : Sc} {i j : It1} (h : FS x y) (hi : i.1 = j.1) (hn : ∀ sn (x y : Sc), CS x y → (loopP s f x sn = none ↔ loopP s f y sn = none)) : (feedP s f i x = none ↔ feedP s f j y = none) ∧ ∀ x' y', feedP s f i x = some x' → feedP s f j y = some y' → FS x' y' := by
  unfold feedP
  have hij : sgn [i] = sgn [j] := by simp [sgn, hi]
  by_cases hs : y.stop = true
  · have hx : x.stop = true := h.stop.trans hs
    rw [if_pos hx, if_pos hs]
    refine ⟨by simp, fun x' y' e1 e2 => ?_⟩
    cases e1; cases e2
    refine ⟨⟨h.pend, h.cur, h.stop, h.endl⟩, ?_, ?_, h.met⟩
    · simp only [writeP]; rw [sgn_app, sgn_app, hij]
    · simp only [writeP, h.many, List.length_singleton]
  · have hx : ¬ x.stop = true := fun z => hs (h.stop.symm.trans z)
    rw [if_neg hx, if_neg hs]
    have cs : FS { x with wr := [], pend := x.pend ++ [i] } { y with wr := [], pend := y.pend ++ [j] } := ⟨⟨by simp only [sgn_app, h.pend, hij], h.cur, h.stop, h.endl⟩, rfl, h.many, h.met⟩
    have h1 := hn [] _ _ cs.toCS
    refine ⟨by simp only [Option.map_eq_none_iff]; exact h1, fun x' y' e1 e2 => ?_⟩
    rw [Option.map_eq_some_iff] at e1 e2
    obtain ⟨a, ea, rfl⟩ := e1
    obtain ⟨b, eb, rfl⟩ := e2
    exact after_fs (loop_fs f cs _ _ ea eb)
/-- the passes over items with the same signs end alike -/
theorem go_fs {s : Dr} {f : Nat} : ∀ {l m : List It1} {x y : Sc} {fd gd : List It1}, sgn l = sgn m → FS x y → sgn fd = sgn gd →
    (goP s f l x fd = none ↔ goP s f m y gd = none) ∧ (goP s f l x fd = some none ↔ goP s f m y gd = some none) ∧
    ∀ a x' b y', goP s f l x fd = some (some (a, x')) → goP s f m y gd = some (some (b, y')) → sgn a = sgn b ∧ FS x' y'
  | [], [], x, y, fd, gd, _, h, hf => by
    have hr : FS (restP x) (restP y) := by
      unfold restP
      rw [h.toCS.len]
      exact leave_fs ⟨⟨h.pend, h.cur, h.stop, h.endl⟩, rfl, h.many, h.met⟩
    refine ⟨by simp [goP], by simp [goP], fun a x' b y' e1 e2 => ?_⟩
    simp only [goP, Option.some.injEq, Prod.mk.injEq] at e1 e2
    obtain ⟨rfl, rfl⟩ := e1
    obtain ⟨rfl, rfl⟩ := e2
    exact ⟨by rw [sgn_app, sgn_app, hf, hr.wr], hr⟩
  | [], _ :: _, _, _, _, _, e, _, _ => by simp [sgn] at e
  | _ :: _, [], _, _, _, _, e, _, _ => by simp [sgn] at e
  | i :: l, j :: m, x, y, fd, gd, e, h, hf => by
    simp only [sgn, List.map_cons, List.cons.injEq] at e
    obtain ⟨n1, n2⟩ := feed_fs (s := s) (f := f) h e.1 fun sn x y c => (loop_cs f c).1
    unfold goP
    cases e1 : feedP s f i x with
    | none =>
      rw [n1.mp e1]
      simp
    | some x1 =>
      cases e2 : feedP s f j y with
      | none => rw [n1.mpr e2] at e1; cases e1
      | some y1 =>
        have h2 := n2 x1 y1 e1 e2
        simp only
        rw [h2.endl]
        by_cases z : y1.endl = true
        · simp [z]
        · simp only [if_neg z]
          exact go_fs e.2 h2 (by rw [sgn_app, sgn_app, hf, h2.wr])
theorem fs_refl (x : Sc) : FS x x := ⟨⟨rfl, rfl, rfl, rfl⟩, rfl, rfl, rfl⟩
end FL

namespace FL
/-- the loop behind a hit comes to its end; and, where asked, is not endless -/
def endsC (c : Bool) (w p k t : W1) (zs : List W1) : Bool := (List.range zs.length).all fun a => match loopP ⟨w, p, k, t, zs, 1⟩ 100 ⟨w.map (·, none), a, false, [], 0, [], false⟩ [] with
  | none => false
  | some x => !(c && x.endl)
def stops7 : List (List W1) := [[wRep, wStop], [wKeep, wStop], [wRep, wKeep, wStop], [wKeep, wRep, wStop], [wKeep, wKeep, wStop], [wRep, wRep, wStop]]
def goes6 : List (List W1) := [[wRep], [wRep, wKeep], [wKeep, wRep], [wKeep, wKeep, wRep], [wKeep]]
def words6' : List W1 := [[97], [97, 98], [97, 97], [97, 98, 97], [97, 97, 98], [97, 98, 99]]
def puts10' : List W1 := [[], [97], [98], [97, 98], [98, 97], [97, 97], [97, 98, 97], [98, 97, 98], [97, 97, 98], [99]]
def endsX (w : W1) : Bool := puts10'.all fun p => keepsL.all fun k => turnsL.all fun t => (goes6.all fun zs => endsC false w p k t zs) && (stops7.all fun zs => endsC true w p k t zs)
theorem ends_1 : endsX [97] = true := by decide +kernel
theorem ends_2 : endsX [97, 98] = true := by decide +kernel
theorem ends_3 : endsX [97, 97] = true := by decide +kernel
theorem ends_4 : endsX [97, 98, 97] = true := by decide +kernel
theorem ends_5 : endsX [97, 97, 98] = true := by decide +kernel
theorem ends_6 : endsX [97, 98, 99] = true := by decide +kernel
theorem ends_all : ∀ w ∈ words6', endsX w = true := by
  intro w hw
  simp only [words6', List.mem_cons, List.not_mem_nil, or_false] at hw
  rcases hw with e | e | e | e | e | e <;> subst e
  · exact ends_1
  · exact ends_2
  · exact ends_3
  · exact ends_4
  · exact ends_5
  · exact ends_6
/-- never endless -/
def Calm (s : Dr) : Prop := ∀ a, a < s.zs.length → ∃ x, loopP s 100 ⟨s.w.map (·, none), a, false, [], 0, [], false⟩ [] = some x ∧ x.endl = false
/-! ### what is done does not hang on the number of passes -/
theorem loop_n {s : Dr} {n : Int} : ∀ (f : Nat) (x : Sc) (sn : Seen), loopP { s with n := n } f x sn = loopP s f x sn
  | 0, _, _ => rfl
  | f + 1, x, sn => by
    unfold loopP
    show (match placeO s.w x.pend with | none => some x | some pl => if (x.stop || x.endl) = true then some x else loopP { s with n := n } f (meetP s pl x sn).1 (meetP s pl x sn).2) = _
    cases placeO s.w x.pend with
    | none => rfl
    | some pl =>
      simp only
      rw [loop_n f]
theorem feed_n {s : Dr} {n : Int} {f : Nat} {i : It1} {x : Sc} : feedP { s with n := n } f i x = feedP s f i x := by
  unfold feedP
  rw [loop_n]
  rfl
theorem go_n {s : Dr} {n : Int} {f : Nat} : ∀ (l : List It1) (x : Sc) (fd : List It1), goP { s with n := n } f l x fd = goP s f l x fd
  | [], _, _ => rfl
  | i :: r, x, fd => by
    unfold goP
    rw [feed_n]
    cases feedP s f i x with
    | none => rfl
    | some y =>
      simp only
      rw [go_n r]
theorem ends_of {c : Bool} {s : Dr} (h : endsC c s.w s.p s.k s.t s.zs = true) : Ends s ∧ (c = true → Calm s) := by
  have e : ∀ f x sn, loopP ⟨s.w, s.p, s.k, s.t, s.zs, 1⟩ f x sn = loopP s f x sn := fun f x sn => loop_n (s := s) (n := 1) f x sn
  unfold endsC at h
  rw [List.all_eq_true] at h
  have key : ∀ a, a < s.zs.length → ∃ x, loopP s 100 ⟨s.w.map (·, none), a, false, [], 0, [], false⟩ [] = some x ∧ (c && x.endl) = false := fun a ha => by
    have := h a (List.mem_range.mpr ha)
    rw [e] at this
    split at this
    · cases this
    · rename_i x hx
      exact ⟨x, hx, by revert this; cases c <;> cases x.endl <;> simp⟩
  refine ⟨fun a ha => ?_, fun hc a ha => ?_⟩
  · obtain ⟨x, hx, _⟩ := key a ha
    rw [hx]
    simp
  · obtain ⟨x, hx, hy⟩ := key a ha
    refine ⟨x, hx, ?_⟩
    rw [hc] at hy
    exact hy
theorem ends_go {s : Dr} (hw : s.w ∈ words6') (hp : s.p ∈ puts10') (hk : s.k ∈ keepsL) (ht : s.t ∈ turnsL) (hz : s.zs ∈ goes6) : Ends s := by
  have := List.all_eq_true.mp (List.all_eq_true.mp (List.all_eq_true.mp (ends_all _ hw) _ hp) _ hk) _ ht
  rw [Bool.and_eq_true, List.all_eq_true] at this
  exact (ends_of (this.1 _ hz)).1
theorem ends_stop {s : Dr} (hw : s.w ∈ words6') (hp : s.p ∈ puts10') (hk : s.k ∈ keepsL) (ht : s.t ∈ turnsL) (hz : s.zs ∈ stops7) : Ends s ∧ Calm s := by
  have := List.all_eq_true.mp (List.all_eq_true.mp (List.all_eq_true.mp (ends_all _ hw) _ hp) _ hk) _ ht
  rw [Bool.and_eq_true, List.all_eq_true, List.all_eq_true] at this
  have := ends_of (this.2 _ hz)
  exact ⟨this.1, this.2 rfl⟩
/-- a stepper that is never endless -/
theorem feed_calm {s : Dr} (hC : Calm s) (hw : 0 < s.w.length) (hz : 0 < s.zs.length) {x : Sc} (h : ScI s x) (i : It1) : ∃ y, feedP s 100 i x = some y ∧ y.endl = false := by
  unfold feedP
  by_cases hs : x.stop = true
  · rw [if_pos hs]
    exact ⟨_, rfl, h.endl⟩
  · rw [if_neg hs]
    obtain ⟨L, hL, hp⟩ := h.pend
    have hlen : (x.pend ++ [i]).length ≤ s.w.length := by
      have := congrArg List.length hp
      rw [sgn_len, List.length_take] at this
      simp; omega
    have key : ∃ z, loopP s 100 { x with wr := [], pend := x.pend ++ [i] } [] = some z ∧ z.endl = false := by
      by_cases e : sgn (x.pend ++ [i]) = s.w
      · have cs : CS { x with wr := [], pend := x.pend ++ [i] } ⟨s.w.map (·, none), x.cur, false, [], 0, [], false⟩ := ⟨by rw [show sgn (x.pend ++ [i]) = s.w from e]; simp [sgn, Function.comp_def], rfl, by simpa using hs, h.endl⟩
        have := loop_cs (s := s) 100 (sn := []) cs
        obtain ⟨y, hy, he⟩ := hC x.cur h.cur
        cases q : loopP s 100 { x with wr := [], pend := x.pend ++ [i] } [] with
        | none => rw [this.1.mp q] at hy; cases hy
        | some z => exact ⟨z, rfl, (this.2 z y q hy).endl.trans he⟩
      · refine ⟨{ x with wr := [], pend := x.pend ++ [i] }, ?_, h.endl⟩
        show loopP s (99 + 1) _ _ = _
        unfold loopP
        rw [place_short hlen hw e]
    obtain ⟨z, hz', he⟩ := key
    rw [hz']
    refine ⟨_, rfl, ?_⟩
    unfold afterP
    split
    · exact he
    · exact he
theorem go_calm {s : Dr} (hC : Calm s) (hw : 0 < s.w.length) (hz : 0 < s.zs.length) : ∀ (l : List It1) {x : Sc} (fd : List It1), ScI s x → ∃ gd y, goP s 100 l x fd = some (some (gd, y))
  | [], _, _, _ => ⟨_, _, rfl⟩
  | i :: r, x, fd, h => by
    obtain ⟨y, e, he⟩ := feed_calm hC hw hz h i
    have hE : Ends s := fun a ha => by
      obtain ⟨x, hx, _⟩ := hC a ha
      rw [hx]; simp
    obtain ⟨y', e', hy⟩ := feed_some hE hw hz h i
    rw [e] at e'
    cases e'
    unfold goP
    rw [e]
    simp only [he, Bool.false_eq_true, if_false]
    exact go_calm hC hw hz r _ (hy he)
end FL

/-! SC3: the walk through a whole text does what the scan does. -/
namespace FL
/-- the first place of a word in a text -/
def placeS (w : W1) : W1 → Option Nat
  | [] => if w = [] then some 0 else none
  | c :: r => if w.isPrefixOf (c :: r) then some 0 else (placeS w r).map (· + 1)
theorem placeO_S {w : W1} : ∀ l : List It1, placeO w l = placeS w (sgn l)
  | [] => rfl
  | x :: r => by
    unfold placeO
    rw [placeO_S r]
    rfl
theorem placeS_some {w : W1} : ∀ {l : W1} {p : Nat}, placeS w l = some p → p + w.length ≤ l.length ∧ w <+: l.drop p
  | [], p, h => by
    unfold placeS at h
    split at h
    · rename_i e
      cases h
      rw [e]
      exact ⟨by simp, List.nil_prefix⟩
    · cases h
  | c :: r, p, h => by
    unfold placeS at h
    split at h
    · rename_i e
      cases h
      rw [List.isPrefixOf_iff_prefix] at e
      exact ⟨by have := e.length_le; omega, e⟩
    · obtain ⟨q, hq, rfl⟩ := Option.map_eq_some_iff.mp h
      obtain ⟨a, b⟩ := placeS_some hq
      exact ⟨by simp; omega, by simpa using b⟩
theorem prefix_app {w B R : W1} (h : w.length ≤ B.length) : w <+: B ++ R ↔ w <+: B := by
  constructor
  · intro p
    have := List.prefix_of_prefix_length_le p (List.prefix_append B R) h
    exact this
  · intro p
    exact p.trans (List.prefix_append B R)
/-- a hit in what stands hangs on that alone -/
theorem placeS_app {w : W1} (hw : 0 < w.length) : ∀ {B R : W1} {pl : Nat}, placeS w (B ++ R) = some pl → pl + w.length ≤ B.length → ∀ R', placeS w (B ++ R') = some pl
  | [], R, pl, h, hl, _ => by rw [List.length_nil] at hl; omega
  | c :: B, R, pl, h, hl, R' => by
    rw [List.cons_append] at h ⊢
    unfold placeS at h ⊢
    have hp : w.isPrefixOf (c :: (B ++ R)) = w.isPrefixOf (c :: (B ++ R')) := by
      rw [Bool.eq_iff_iff, List.isPrefixOf_iff_prefix, List.isPrefixOf_iff_prefix]
      have h1 := prefix_app (w := w) (B := c :: B) (R := R) (by omega)
      have h2 := prefix_app (w := w) (B := c :: B) (R := R') (by omega)
      exact h1.trans h2.symm
    rw [← hp]
    split at h
    · rename_i e
      cases h
      rw [if_pos e]
    · rename_i e
      rw [if_neg e]
      obtain ⟨q, hq, rfl⟩ := Option.map_eq_some_iff.mp h
      simp only [List.length_cons] at hl
      rw [placeS_app hw hq (by omega) R']
      rfl
/-- the first hit of a part is the first of the whole -/
theorem placeS_ext {w : W1} (hw : 0 < w.length) {B R : W1} {pl : Nat} (h : placeS w B = some pl) : placeS w (B ++ R) = some pl :=
  placeS_app hw (B := B) (R := []) (by rw [List.append_nil]; exact h) (placeS_some h).1 R
/-- no hit begins in the first m signs -/
theorem placeS_skip {w : W1} : ∀ {L A : W1}, (∀ k, k < L.length → ¬ w <+: (L ++ A).drop k) → placeS w (L ++ A) = (placeS w A).map (· + L.length)
  | [], A, _ => by simp
  | c :: L, A, h => by
    have h0 : ¬ w.isPrefixOf (c :: (L ++ A)) = true := by
      rw [List.isPrefixOf_iff_prefix]
      have := h 0 (by simp)
      simpa using this
    have e : placeS w (c :: L ++ A) = (placeS w (L ++ A)).map (· + 1) := show (if w.isPrefixOf (c :: (L ++ A)) = true then some 0 else (placeS w (L ++ A)).map (· + 1)) = _ from if_neg h0
    rw [e, placeS_skip (L := L) (A := A) fun k hk => by
      have := h (k + 1) (by simp; omega)
      simpa using this]
    generalize placeS w A = z
    cases z with
    | none => rfl
    | some q => simp; omega
theorem placeS_none {w : W1} : ∀ {l : W1}, placeS w l = none → ∀ k, k ≤ l.length → ¬ w <+: l.drop k
  | [], h, k, hk, hp => by
    unfold placeS at h
    split at h
    · cases h
    · rename_i e
      simp at hp
      exact e hp
  | c :: r, h, k, hk, hp => by
    unfold placeS at h
    split at h
    · cases h
    · rename_i e
      rw [Option.map_eq_none_iff] at h
      cases k with
      | zero =>
        rw [List.isPrefixOf_iff_prefix] at e
        exact e (by simpa using hp)
      | succ k => exact placeS_none h k (by simp at hk; omega) (by simpa using hp)
/-! ### the walk -/
abbrev MetL := List (W1 × Nat × List It1)
/-- through the whole text; b: the law's own test for walks that never end -/
def walkP (s : Dr) (b : Bool) : Nat → List It1 → List It1 → Nat → MetL → Seen → Option (Option (List It1 × MetL))
  | 0, _, _, _, _, _ => none
  | f + 1, D, A, at_, met, sn => match placeO s.w A with
    | none => some (some (D ++ A, met))
    | some pl =>
      let deed := s.zs.getD at_ []
      let at1 := (at_ + 1) % s.zs.length
      let met1 := met ++ [(deed, D.length + pl, (A.drop pl).take s.w.length)]
      let sn1 := touchP (A.length - pl - s.w.length) sn
      if deed = wStop then some (some (D ++ A, met1))
      else if deed = wKeep then
        let k := pl + (if s.k = wOne then 1 else s.w.length)
        walkP s b f (D ++ A.take k) (A.drop k) at1 met1 sn1
      else
        let A1 := A.take pl ++ s.p.map (fun c => (c, none)) ++ A.drop (pl + s.w.length)
        let k := pl + turnP s s.p.length
        if b && againB at1 (A1.drop k) sn1 then some none
        else walkP s b f (D ++ A1.take k) (A1.drop k) at1 met1 (sn1 ++ [(windP at1 (A1.drop k), (A1.drop k).length - 12, (A1.drop k).length)])
theorem walkP_succ {s : Dr} {b : Bool} {f : Nat} {D A : List It1} {at_ : Nat} {met : MetL} {sn : Seen} : walkP s b (f + 1) D A at_ met sn = (match placeO s.w A with
    | none => some (some (D ++ A, met))
    | some pl =>
      let deed := s.zs.getD at_ []
      let at1 := (at_ + 1) % s.zs.length
      let met1 := met ++ [(deed, D.length + pl, (A.drop pl).take s.w.length)]
      let sn1 := touchP (A.length - pl - s.w.length) sn
      if deed = wStop then some (some (D ++ A, met1))
      else if deed = wKeep then
        let k := pl + (if s.k = wOne then 1 else s.w.length)
        walkP s b f (D ++ A.take k) (A.drop k) at1 met1 sn1
      else
        let A1 := A.take pl ++ s.p.map (fun c => (c, none)) ++ A.drop (pl + s.w.length)
        let k := pl + turnP s s.p.length
        if b && againB at1 (A1.drop k) sn1 then some none
        else walkP s b f (D ++ A1.take k) (A1.drop k) at1 met1 (sn1 ++ [(windP at1 (A1.drop k), (A1.drop k).length - 12, (A1.drop k).length)])) := rfl
theorem walk_more {s : Dr} {b : Bool} : ∀ {f : Nat} {D A : List It1} {a : Nat} {m : MetL} {sn : Seen} {r}, walkP s b f D A a m sn = some r → ∀ k, walkP s b (f + k) D A a m sn = some r
  | 0, _, _, _, _, _, _, e, _ => nomatch e
  | f + 1, D, A, a, m, sn, r, e, k => by
    rw [show f + 1 + k = f + k + 1 by omega]
    unfold walkP at e ⊢
    cases e2 : placeO s.w A with
    | none => rw [e2] at e; exact e
    | some pl =>
      rw [e2] at e
      simp only at e ⊢
      split
      · rename_i h; rw [if_pos h] at e; exact e
      · rename_i h
        rw [if_neg h] at e
        split
        · rename_i h2; rw [if_pos h2] at e; exact walk_more e k
        · rename_i h2
          rw [if_neg h2] at e
          split
          · rename_i h3; rw [if_pos h3] at e; exact e
          · rename_i h3; rw [if_neg h3] at e; exact walk_more e k
/-- without the test no walk is told endless -/
theorem walk_raw {s : Dr} : ∀ {f : Nat} {D A : List It1} {a : Nat} {m : MetL} {sn : Seen}, walkP s false f D A a m sn ≠ some none
  | 0, _, _, _, _, _, e => nomatch e
  | f + 1, D, A, a, m, sn, e => by
    unfold walkP at e
    cases e2 : placeO s.w A with
    | none => rw [e2] at e; cases e
    | some pl =>
      rw [e2] at e
      simp only at e
      split at e
      · cases e
      · split at e
        · exact walk_raw e
        · simp only [Bool.false_and, Bool.false_eq_true, if_false] at e
          exact walk_raw e
/-- where no hit begins the caret may go on -/
theorem walk_skip {s : Dr} {b : Bool} {f : Nat} {D L A : List It1} {a : Nat} {m : MetL} {sn : Seen} (h : placeO s.w (L ++ A) = (placeO s.w A).map (· + L.length)) : walkP s b f D (L ++ A) a m sn = walkP s b f (D ++ L) A a m sn := by
  cases f with
  | zero => rfl
  | succ f =>
    unfold walkP
    rw [h]
    cases placeO s.w A with
    | none => simp
    | some pl =>
      have hd : ∀ n, (L ++ A).drop (pl + L.length + n) = A.drop (pl + n) := fun n => by
        rw [show pl + L.length + n = L.length + (pl + n) by omega, List.drop_append]
        simp
      have ht : ∀ n, (L ++ A).take (pl + L.length + n) = L ++ A.take (pl + n) := fun n => by
        rw [show pl + L.length + n = L.length + (pl + n) by omega, List.take_append, List.take_of_length_le (by omega)]
        simp
      have hd0 := hd 0
      have ht0 := ht 0
      simp only [Nat.add_zero] at hd0 ht0
      simp only [Option.map_some]
      have e1 : D.length + (pl + L.length) = (D ++ L).length + pl := by simp; omega
      have e2 : (L ++ A).length - (pl + L.length) - s.w.length = A.length - pl - s.w.length := by simp; omega
      rw [hd0, e1, e2]
      have e3 : L ++ A.take pl ++ s.p.map (fun c => ((c, none) : It1)) ++ A.drop (pl + s.w.length) = L ++ (A.take pl ++ s.p.map (fun c => ((c, none) : It1)) ++ A.drop (pl + s.w.length)) := by simp
      have e4 : ∀ (X : List It1) n, (L ++ X).drop (pl + L.length + n) = X.drop (pl + n) := fun X n => by
        rw [show pl + L.length + n = L.length + (pl + n) by omega, List.drop_append]
        simp
      have e5 : ∀ (X : List It1) n, (L ++ X).take (pl + L.length + n) = L ++ X.take (pl + n) := fun X n => by
        rw [show pl + L.length + n = L.length + (pl + n) by omega, List.take_append, List.take_of_length_le (by omega)]
        simp
      rw [ht0, hd s.w.length, e3]
      simp only [hd, ht, e4, e5]
      simp only [List.append_assoc]
/-! ### the scan, beside the walk -/
/-- the entries of a feed stand among those of the walk, with what is not read yet behind -/
def Beside (u : List It1) (sn wsn : Seen) : Prop := ∀ e ∈ sn, ∃ c l0, e = (windP c l0, l0.length - 12, l0.length) ∧ (windP c (l0 ++ u), (l0 ++ u).length - 12, (l0 ++ u).length) ∈ wsn
theorem beside_touch {u : List It1} {sn wsn : Seen} {n : Nat} (h : Beside u sn wsn) : Beside u (touchP n sn) (touchP (n + u.length) wsn) := fun e he => by
  obtain ⟨h1, h2⟩ := List.mem_filter.mp he
  obtain ⟨c, l0, rfl, hm⟩ := h e h1
  refine ⟨c, l0, rfl, List.mem_filter.mpr ⟨hm, ?_⟩⟩
  have : l0.length - 12 ≤ n := by simpa using h2
  simp only [List.length_append, decide_eq_true_eq]
  omega
theorem wind_app {c d : Nat} {l0 l u : List It1} (h : windP c l0 = windP d l) (hl : l0.length ≤ l.length) : windP c (l0 ++ u) = windP d (l ++ u) := by
  unfold windP at h ⊢
  have h1 : c = d := congrArg Prod.fst h
  have h2 : (l0.take 12).map (·.1) = (l.take 12).map (·.1) := congrArg Prod.snd h
  have hlen := congrArg List.length h2
  simp only [List.length_map, List.length_take] at hlen
  subst h1
  refine congrArg (Prod.mk c) ?_
  rw [List.take_append, List.take_append, List.map_append, List.map_append, h2]
  rcases Nat.lt_or_ge l0.length 12 with z | z
  · have : l.length = l0.length := by omega
    rw [this]
  · rw [show 12 - l0.length = 0 by omega, show 12 - l.length = 0 by omega]
theorem beside_again {u : List It1} {sn wsn : Seen} {c : Nat} {l : List It1} (h : Beside u sn wsn) (ha : againB c l sn = true) : againB c (l ++ u) wsn = true := by
  unfold againB at ha ⊢
  rw [List.any_eq_true] at ha ⊢
  obtain ⟨e, he, hc⟩ := ha
  obtain ⟨d, l0, rfl, hm⟩ := h e he
  simp only [Bool.and_eq_true, beq_iff_eq, decide_eq_true_eq] at hc
  refine ⟨_, hm, ?_⟩
  simp only [Bool.and_eq_true, beq_iff_eq, decide_eq_true_eq, List.length_append]
  exact ⟨wind_app hc.1 hc.2, by omega⟩
theorem beside_new {u : List It1} {sn wsn : Seen} {c : Nat} {l : List It1} (h : Beside u sn wsn) : Beside u (sn ++ [(windP c l, l.length - 12, l.length)]) (wsn ++ [(windP c (l ++ u), (l ++ u).length - 12, (l ++ u).length)]) := fun e he => by
  rcases List.mem_append.mp he with he | he
  · obtain ⟨d, l0, h1, h2⟩ := h e he
    exact ⟨d, l0, h1, List.mem_append_left _ h2⟩
  · rw [List.mem_singleton] at he
    exact ⟨c, l, he, List.mem_append_right _ (List.mem_singleton.mpr rfl)⟩
section
variable {s : Dr} {b : Bool}
theorem placeO_ext (hw : 0 < s.w.length) {l u : List It1} {pl : Nat} (h : placeO s.w l = some pl) : placeO s.w (l ++ u) = some pl := by
  rw [placeO_S] at h ⊢
  rw [sgn_app]
  exact placeS_ext hw h
theorem placeO_len {w : W1} {l : List It1} {p : Nat} (h : placeO w l = some p) : p + w.length ≤ l.length := by
  rw [placeO_S] at h
  have := (placeS_some h).1
  rwa [sgn_len] at this
/-- the inner loop of a feed and the walk; D0: what was written before this feed -/
theorem loop_walk (hw : 0 < s.w.length) {D0 u : List It1} {F : Nat} : ∀ (f : Nat) {x y : Sc} {sn wsn : Seen}, x.endl = false → x.stop = false → x.many = D0.length + x.wr.length → (b = true → Beside u sn wsn) → loopP s f x sn = some y →
    y.many = D0.length + y.wr.length ∧ ((b = true ∧ walkP s b (F + f) (D0 ++ x.wr) (x.pend ++ u) x.cur x.met wsn = some none) ∨ (b = false ∧ y.endl = true) ∨ (y.endl = false ∧
      ((y.stop = true ∧ walkP s b (F + f) (D0 ++ x.wr) (x.pend ++ u) x.cur x.met wsn = some (some (D0 ++ y.wr ++ y.pend ++ u, y.met))) ∨
      (y.stop = false ∧ placeO s.w y.pend = none ∧ ∃ wsn', ∀ r, walkP s b F (D0 ++ y.wr) (y.pend ++ u) y.cur y.met wsn' = some r → walkP s b (F + f) (D0 ++ x.wr) (x.pend ++ u) x.cur x.met wsn = some r))))
  | 0, _, _, _, _, _, _, _, _, e => nomatch e
  | f + 1, x, y, sn, wsn, he, hst, hm, hB, e => by
    unfold loopP at e
    cases e2 : placeO s.w x.pend with
    | none =>
      rw [e2] at e
      cases e
      exact ⟨hm, .inr (.inr ⟨he, .inr ⟨hst, e2, wsn, fun r hr => walk_more hr (f + 1)⟩⟩)⟩
    | some pl =>
      rw [e2] at e
      simp only [hst, he, Bool.or_self, Bool.false_eq_true, if_false] at e
      have hpl := placeO_len e2
      have e3 := placeO_ext (s := s) (u := u) hw e2
      have hdr : ∀ n, n ≤ x.pend.length → (x.pend ++ u).drop n = x.pend.drop n ++ u := fun n hn => List.drop_append_of_le_length hn
      have htk : ∀ n, n ≤ x.pend.length → (x.pend ++ u).take n = x.pend.take n := fun n hn => List.take_append_of_le_length hn
      have hhit : ((x.pend ++ u).drop pl).take s.w.length = (x.pend.drop pl).take s.w.length := by
        rw [hdr pl (by omega), List.take_append_of_le_length (by rw [List.length_drop]; omega)]
      have hleft : (x.pend ++ u).length - pl - s.w.length = x.pend.length - pl - s.w.length + u.length := by simp; omega
      have hplace : (D0 ++ x.wr).length + pl = x.many + pl := by rw [hm, List.length_append]
      have hB1 : b = true → Beside u (touchP (x.pend.length - pl - s.w.length) sn) (touchP (x.pend.length - pl - s.w.length + u.length) wsn) := fun hb => beside_touch (hB hb)
      rw [show F + (f + 1) = F + f + 1 by omega, walkP_succ, e3]
      simp only [hhit, hleft, hplace]
      unfold meetP at e
      simp only at e
      by_cases hd : s.zs.getD x.cur [] = wStop
      · rw [if_pos hd] at e ⊢
        -- the scan has stopped
        have hy : y = { noteP s pl x with stop := true, cur := 0 } := by
          cases f with
          | zero => cases e
          | succ f =>
            simp only at e
            unfold loopP at e
            have : placeO s.w (noteP s pl x).pend = some pl := e2
            simp only [this, Bool.true_or, if_true] at e
            exact (Option.some.inj e).symm
        subst hy
        refine ⟨hm, .inr (.inr ⟨he, .inl ⟨rfl, ?_⟩⟩)⟩
        simp [noteP]
      · rw [if_neg hd] at e ⊢
        by_cases hk : s.zs.getD x.cur [] = wKeep
        · rw [if_pos hk] at e ⊢
          have hk1 : pl + (if s.k = wOne then 1 else s.w.length) ≤ x.pend.length := by split <;> omega
          have ih := loop_walk hw (D0 := D0) (u := u) (F := F) f (x := keepP s pl (noteP s pl x)) (wsn := touchP (x.pend.length - pl - s.w.length + u.length) wsn) (show (keepP s pl (noteP s pl x)).endl = false from he) hst (by
            show x.many + (x.pend.take _).length = D0.length + (x.wr ++ x.pend.take _).length
            rw [List.length_append, hm]; omega) hB1 e
          have e4 : D0 ++ (keepP s pl (noteP s pl x)).wr = D0 ++ x.wr ++ (x.pend ++ u).take (pl + (if s.k = wOne then 1 else s.w.length)) := by
            rw [htk _ hk1, List.append_assoc]
            rfl
          have e5 : (keepP s pl (noteP s pl x)).pend ++ u = (x.pend ++ u).drop (pl + (if s.k = wOne then 1 else s.w.length)) := by
            rw [hdr _ hk1]
            rfl
          rw [e4, e5] at ih
          exact ih
        · rw [if_neg hk] at e ⊢
          have hps : x.pend.take pl ++ s.p.map (fun c => ((c, none) : It1)) ++ x.pend.drop (pl + s.w.length) ++ u = (x.pend ++ u).take pl ++ s.p.map (fun c => ((c, none) : It1)) ++ (x.pend ++ u).drop (pl + s.w.length) := by
            rw [htk pl (by omega), hdr (pl + s.w.length) hpl]
            simp
          have hT : turnP s s.p.length ≤ s.p.length := by unfold turnP; split <;> (try split) <;> omega
          generalize hN : x.pend.take pl ++ s.p.map (fun c => ((c, none) : It1)) ++ x.pend.drop (pl + s.w.length) = N at hps
          have hNl : pl + turnP s s.p.length ≤ N.length := by
            rw [← hN]
            simp
            omega
          rw [← hps]
          have h1 : (N ++ u).drop (pl + turnP s s.p.length) = N.drop (pl + turnP s s.p.length) ++ u := List.drop_append_of_le_length hNl
          have h2 : (N ++ u).take (pl + turnP s s.p.length) = N.take (pl + turnP s s.p.length) := List.take_append_of_le_length hNl
          rw [h1, h2]
          have hrepl : replP s pl (noteP s pl x) = ({ pend := N.drop (pl + turnP s s.p.length), cur := (x.cur + 1) % s.zs.length, stop := x.stop, wr := x.wr ++ N.take (pl + turnP s s.p.length), many := x.many + (N.take (pl + turnP s s.p.length)).length, met := x.met ++ [(s.zs.getD x.cur [], x.many + pl, (x.pend.drop pl).take s.w.length)], endl := x.endl } : Sc) := by
            simp only [replP, leaveP, writeP, noteP, hN]
          rw [hrepl] at e
          simp only at e
          generalize hA : N.drop (pl + turnP s s.p.length) = A at *
          generalize hW : N.take (pl + turnP s s.p.length) = W at *
          generalize hs1 : touchP (x.pend.length - pl - s.w.length) sn = sn1 at *
          generalize hs2 : touchP (x.pend.length - pl - s.w.length + u.length) wsn = wsn1 at *
          by_cases hag : againB ((x.cur + 1) % s.zs.length) A sn1 = true
          · -- found endless
            rw [hag] at e
            have hy : y = { pend := A, cur := (x.cur + 1) % s.zs.length, stop := x.stop, wr := x.wr ++ W, many := x.many + W.length, met := x.met ++ [(s.zs.getD x.cur [], x.many + pl, (x.pend.drop pl).take s.w.length)], endl := true } := by
              cases f with
              | zero => cases e
              | succ f =>
                unfold loopP at e
                simp only [Bool.or_true, if_true] at e
                split at e
                · exact (Option.some.inj e).symm
                · exact (Option.some.inj e).symm
            subst hy
            refine ⟨by simp only [List.length_append]; omega, ?_⟩
            cases b with
            | false => exact .inr (.inl ⟨rfl, rfl⟩)
            | true =>
              have := beside_again (hB1 rfl) hag
              exact .inl ⟨rfl, by simp [this]⟩
          · have hag' : againB ((x.cur + 1) % s.zs.length) A sn1 = false := by simpa using hag
            unfold againS at e
            rw [hag'] at e
            simp only [Bool.false_eq_true, if_false] at e
            have ih := loop_walk hw (D0 := D0) (u := u) (F := F) f (x := { pend := A, cur := (x.cur + 1) % s.zs.length, stop := x.stop, wr := x.wr ++ W, many := x.many + W.length, met := x.met ++ [(s.zs.getD x.cur [], x.many + pl, (x.pend.drop pl).take s.w.length)], endl := false }) (wsn := wsn1 ++ [(windP ((x.cur + 1) % s.zs.length) (A ++ u), (A ++ u).length - 12, (A ++ u).length)]) rfl hst (by simp only [List.length_append]; omega) (fun hb => beside_new (hB1 hb)) e
            by_cases hwa : (b && againB ((x.cur + 1) % s.zs.length) (A ++ u) wsn1) = true
            · rw [if_pos hwa]
              have hb : b = true := by
                rw [Bool.and_eq_true] at hwa
                exact hwa.1
              exact ⟨ih.1, .inl ⟨hb, rfl⟩⟩
            · rw [if_neg hwa]
              simp only [← List.append_assoc] at ih
              exact ih
end
end FL

/-! SC4: a pass and the walk through its text; the walk's own test. -/
namespace FL
theorem begin_max {w : W1} {l : List It1} : ∀ {N n : Nat}, n ≤ N → 0 < n → sgn (l.drop (l.length - n)) = w.take n → n ≤ beginO w l N
  | 0, n, h, h0, _ => by omega
  | N + 1, n, h, h0, e => by
    unfold beginO
    by_cases z : n = N + 1
    · subst z
      have e' : (l.drop (l.length - (N + 1))).map (·.1) = w.take (N + 1) := e
      rw [if_pos e']
      exact Nat.le_refl _
    · have ih := begin_max (w := w) (l := l) (N := N) (n := n) (by omega) h0 e
      split
      · omega
      · exact ih
section
variable {s : Dr}
/-- behind a loop no hit begins in what is left -/
theorem after_skip {z : Sc} {u : List It1} (hp : placeO s.w z.pend = none) (hw : 0 < s.w.length) :
    placeO s.w (z.pend.take (z.pend.length - beginO s.w z.pend (min (s.w.length - 1) z.pend.length)) ++ (z.pend.drop (z.pend.length - beginO s.w z.pend (min (s.w.length - 1) z.pend.length)) ++ u)) =
      (placeO s.w (z.pend.drop (z.pend.length - beginO s.w z.pend (min (s.w.length - 1) z.pend.length)) ++ u)).map (· + (z.pend.take (z.pend.length - beginO s.w z.pend (min (s.w.length - 1) z.pend.length))).length) := by
  generalize hm : z.pend.length - beginO s.w z.pend (min (s.w.length - 1) z.pend.length) = m'
  rw [placeO_S, placeO_S, sgn_app]
  have key := placeS_skip (w := s.w) (L := sgn (z.pend.take m')) (A := sgn (z.pend.drop m' ++ u)) fun k hk hpre => by
    rw [sgn_len, List.length_take] at hk
    rw [sgn_app, ← List.append_assoc, ← sgn_app, List.take_append_drop] at hpre
    rw [placeO_S] at hp
    have hkl : k ≤ (sgn z.pend).length := by rw [sgn_len]; omega
    rw [List.drop_append_of_le_length hkl] at hpre
    by_cases hl : s.w.length ≤ ((sgn z.pend).drop k).length
    · exact placeS_none hp k hkl ((prefix_app hl).mp hpre)
    · have hl' : z.pend.length - k < s.w.length := by
        rw [List.length_drop, sgn_len] at hl
        omega
      have e : (sgn z.pend).drop k = s.w.take (z.pend.length - k) := by
        obtain ⟨t, ht⟩ := hpre
        have h1 := congrArg (List.take (z.pend.length - k)) ht
        rw [List.take_append_of_le_length (by omega), List.take_append_of_le_length (by rw [List.length_drop, sgn_len]; omega)] at h1
        rw [h1, List.take_of_length_le]
        rw [List.length_drop, sgn_len]
        omega
      have := begin_max (w := s.w) (l := z.pend) (N := min (s.w.length - 1) z.pend.length) (n := z.pend.length - k) (by omega) (by omega) (by
        rw [show z.pend.length - (z.pend.length - k) = k by omega, sgn_drop]
        exact e)
      omega
  rw [key, sgn_len]
theorem stop_go {f : Nat} : ∀ (l : List It1) {x : Sc} {fd : List It1}, x.stop = true → x.endl = false → x.pend = [] → ∃ y, goP s f l x fd = some (some (fd ++ l, y)) ∧ y.met = x.met
  | [], x, fd, hs, he, hp => by
    refine ⟨restP x, ?_, rfl⟩
    unfold goP
    have : (restP x).wr = [] := by
      show [] ++ x.pend.take x.pend.length = []
      rw [hp]
      rfl
    rw [this]
  | i :: r, x, fd, hs, he, hp => by
    unfold goP
    have ef : feedP s f i x = some (writeP [i] { x with wr := [] }) := by
      unfold feedP
      rw [if_pos hs]
    rw [ef]
    have he' : (writeP [i] { x with wr := [] }).endl = false := he
    simp only [he', Bool.false_eq_true, if_false]
    obtain ⟨y, h1, h2⟩ := stop_go (f := f) r (x := writeP [i] { x with wr := [] }) (fd := fd ++ (writeP [i] { x with wr := [] }).wr) hs he hp
    refine ⟨y, ?_, h2⟩
    rw [h1]
    show some (some (fd ++ ([] ++ [i]) ++ r, y)) = _
    simp
theorem inv_place {x : Sc} (h : ScI s x) : placeO s.w x.pend = none := by
  obtain ⟨L, hL, e⟩ := h.pend
  have hl : x.pend.length < s.w.length := by
    have := congrArg List.length e
    rw [sgn_len, List.length_take] at this
    omega
  cases q : placeO s.w x.pend with
  | none => rfl
  | some p =>
    have := placeO_len q
    omega
theorem go_walk {b : Bool} (hE : Ends s) (hw : 0 < s.w.length) (hz : 0 < s.zs.length) : ∀ (l : List It1) {x : Sc} {fd : List It1} {wsn : Seen} {res : Option (List It1 × Sc)}, ScI s x → x.stop = false → x.many = fd.length → goP s 100 l x fd = some res →
    (b = true ∧ walkP s b (100 * l.length + 1) fd (x.pend ++ l) x.cur x.met wsn = some none) ∨ (b = false ∧ res = none) ∨ (∃ gd y, res = some (gd, y) ∧ walkP s b (100 * l.length + 1) fd (x.pend ++ l) x.cur x.met wsn = some (some (gd, y.met)))
  | [], x, fd, wsn, res, hI, hst, hm, e => by
    simp only [goP, Option.some.injEq] at e
    refine .inr (.inr ⟨_, _, e.symm, ?_⟩)
    rw [List.append_nil]
    show walkP s b (0 + 1) _ _ _ _ _ = _
    rw [walkP_succ, inv_place hI]
    have : (restP x).wr = x.pend := by
      show [] ++ x.pend.take x.pend.length = _
      simp
    rw [this]
    rfl
  | i :: r, x, fd, wsn, res, hI, hst, hm, e => by
    unfold goP at e
    obtain ⟨y, ef, hy⟩ := feed_some hE hw hz hI i
    rw [ef] at e
    simp only at e
    have ef0 := ef
    unfold feedP at ef
    rw [if_neg (by simp [hst])] at ef
    obtain ⟨z, ez, rfl⟩ := Option.map_eq_some_iff.mp ef
    have lw := loop_walk (s := s) (b := b) hw (D0 := fd) (u := r) (F := 100 * r.length + 1) 100 (x := { x with wr := [], pend := x.pend ++ [i] }) (sn := []) (wsn := wsn) hI.endl hst (by simp [hm]) (fun _ e he => by cases he) ez
    obtain ⟨lm, lw⟩ := lw
    have e1 : fd ++ ({ x with wr := [], pend := x.pend ++ [i] } : Sc).wr = fd := List.append_nil fd
    have e2 : ({ x with wr := [], pend := x.pend ++ [i] } : Sc).pend ++ r = x.pend ++ i :: r := by simp
    rw [e1, e2] at lw
    rw [show 100 * (i :: r).length + 1 = 100 * r.length + 1 + 100 by simp; omega]
    rcases lw with ⟨hb, lw⟩ | ⟨hb, hze⟩ | ⟨hze, lw⟩
    · exact .inl ⟨hb, lw⟩
    · have hye : (afterP s z).endl = true := by
        unfold afterP
        split <;> exact hze
      rw [hye] at e
      simp only [if_true, Option.some.injEq] at e
      exact .inr (.inl ⟨hb, e.symm⟩)
    · have hye : (afterP s z).endl = false := by
        unfold afterP
        split <;> exact hze
      have hyI := hy hye
      rw [hye] at e
      simp only [Bool.false_eq_true, if_false] at e
      rcases lw with ⟨hzs, lw⟩ | ⟨hzs, hzp, wsn', lw⟩
      · have ha : afterP s z = { writeP z.pend z with pend := [] } := by
          unfold afterP
          rw [if_pos hzs]
        obtain ⟨y', g1, g2⟩ := stop_go (s := s) (f := 100) r (x := afterP s z) (fd := fd ++ (afterP s z).wr) (by rw [ha]; exact hzs) hye (by rw [ha])
        rw [e] at g1
        refine .inr (.inr ⟨_, _, Option.some.inj g1, ?_⟩)
        have hwr : (afterP s z).wr = z.wr ++ z.pend := by rw [ha]; rfl
        have hmt : y'.met = z.met := by rw [g2, ha]; rfl
        rw [lw, hwr, hmt]
        simp
      · have ha : afterP s z = leaveP (z.pend.length - beginO s.w z.pend (min (s.w.length - 1) z.pend.length)) z := by
          unfold afterP
          rw [if_neg (by simp [hzs])]
        have sk := after_skip (s := s) (u := r) hzp hw
        generalize z.pend.length - beginO s.w z.pend (min (s.w.length - 1) z.pend.length) = m' at ha sk
        have hst' : (afterP s z).stop = false := by rw [ha]; exact hzs
        have hm' : (afterP s z).many = (fd ++ (afterP s z).wr).length := by
          rw [ha]
          show z.many + (z.pend.take m').length = (fd ++ (z.wr ++ z.pend.take m')).length
          rw [List.length_append, List.length_append, lm]
          omega
        have lw' : ∀ q, walkP s b (100 * r.length + 1) (fd ++ (afterP s z).wr) ((afterP s z).pend ++ r) (afterP s z).cur (afterP s z).met wsn' = some q → walkP s b (100 * r.length + 1 + 100) fd (x.pend ++ i :: r) x.cur x.met wsn = some q := fun q hq => by
          refine lw q ?_
          have := walk_skip (s := s) (b := b) (f := 100 * r.length + 1) (D := fd ++ z.wr) (a := z.cur) (m := z.met) (sn := wsn') sk
          rw [← List.append_assoc, List.take_append_drop] at this
          rw [this]
          have ew : (afterP s z).wr = z.wr ++ z.pend.take m' := by rw [ha]; rfl
          have ep : (afterP s z).pend = z.pend.drop m' := by rw [ha]; rfl
          have ec : (afterP s z).cur = z.cur := by rw [ha]; rfl
          have em : (afterP s z).met = z.met := by rw [ha]; rfl
          rw [ew, ep, ec, em, ← List.append_assoc] at hq
          exact hq
        rcases go_walk (b := b) hE hw hz r (wsn := wsn') hyI hst' hm' e with ⟨hb, q⟩ | q | ⟨gd, y', q1, q2⟩
        · exact .inl ⟨hb, lw' _ q⟩
        · exact .inr (.inl q)
        · exact .inr (.inr ⟨gd, y', q1, lw' _ q2⟩)
/-! ### walks that never end -/
def nextS (s : Dr) (x : Nat × W1) : Option (Nat × W1) := match placeS s.w x.2 with
  | none => none
  | some pl => if s.zs.getD x.1 [] = wStop then none
    else if s.zs.getD x.1 [] = wKeep then some ((x.1 + 1) % s.zs.length, x.2.drop (pl + (if s.k = wOne then 1 else s.w.length)))
    else some ((x.1 + 1) % s.zs.length, (x.2.take pl ++ s.p ++ x.2.drop (pl + s.w.length)).drop (pl + turnP s s.p.length))
def itS (s : Dr) : Nat → Nat × W1 → Option (Nat × W1)
  | 0, x => some x
  | n + 1, x => (nextS s x).bind (itS s n)
theorem itS_snoc : ∀ (n : Nat) (x : Nat × W1), itS s (n + 1) x = (itS s n x).bind (nextS s)
  | 0, x => by
    show (nextS s x).bind (fun y => some y) = nextS s x
    cases nextS s x <;> rfl
  | n + 1, x => by
    show (nextS s x).bind (itS s (n + 1)) = ((nextS s x).bind (itS s n)).bind (nextS s)
    cases nextS s x with
    | none => rfl
    | some y => exact itS_snoc n y
theorem itS_add : ∀ (n k : Nat) (x : Nat × W1), itS s (n + k) x = (itS s n x).bind (itS s k)
  | 0, k, x => by rw [Nat.zero_add]; rfl
  | n + 1, k, x => by
    rw [show n + 1 + k = n + k + 1 by omega]
    show (nextS s x).bind (itS s (n + k)) = ((nextS s x).bind (itS s n)).bind (itS s k)
    cases nextS s x with
    | none => rfl
    | some y => exact itS_add n k y
def Forever (s : Dr) (x : Nat × W1) : Prop := ∀ j, itS s j x ≠ none
theorem raw_never : ∀ {f : Nat} {D A : List It1} {a : Nat} {m : MetL} {sn : Seen}, Forever s (a, sgn A) → walkP s false f D A a m sn = none
  | 0, _, _, _, _, _, _ => rfl
  | f + 1, D, A, a, m, sn, h => by
    have h1 := h 1
    have hn : nextS s (a, sgn A) ≠ none := fun e => h1 (by show (nextS s (a, sgn A)).bind _ = none; rw [e]; rfl)
    have hf : ∀ y, nextS s (a, sgn A) = some y → Forever s y := fun y e j => by
      have := h (j + 1)
      unfold itS at this
      rw [e] at this
      exact this
    rw [walkP_succ, placeO_S]
    unfold nextS at hn hf
    simp only at hn hf
    cases e : placeS s.w (sgn A) with
    | none => rw [e] at hn; exact absurd rfl hn
    | some pl =>
      rw [e] at hn hf
      simp only at hn hf ⊢
      by_cases hd : s.zs.getD a [] = wStop
      · rw [if_pos hd] at hn; exact absurd rfl hn
      · rw [if_neg hd] at hn hf ⊢
        by_cases hk : s.zs.getD a [] = wKeep
        · rw [if_pos hk] at hf ⊢
          refine raw_never ?_
          rw [sgn_drop]
          exact hf _ rfl
        · rw [if_neg hk] at hf ⊢
          simp only [Bool.false_and, Bool.false_eq_true, if_false]
          refine raw_never ?_
          have := hf _ rfl
          have es : sgn (s.p.map fun c => ((c, none) : It1)) = s.p := by simp [sgn, Function.comp_def]
          rw [sgn_drop, sgn_app, sgn_app, sgn_take, sgn_drop, es]
          exact this
theorem itS_mono {j k : Nat} {x : Nat × W1} (h : itS s (j + k) x ≠ none) : itS s j x ≠ none := fun e => h (by rw [itS_add, e]; rfl)
theorem pump {n a : Nat} {B Y : W1} (h : ∀ R, itS s (n + 1) (a, B ++ R) = some (a, B ++ (Y ++ R))) (R : W1) : Forever s (a, B ++ R) := by
  have key : ∀ k R, ∃ R', itS s (k * (n + 1)) (a, B ++ R) = some (a, B ++ R') := by
    intro k
    induction k with
    | zero => intro R; exact ⟨R, by rw [Nat.zero_mul]; rfl⟩
    | succ k ih =>
      intro R
      obtain ⟨R', e⟩ := ih (Y ++ R)
      refine ⟨R', ?_⟩
      rw [Nat.succ_mul, Nat.add_comm, itS_add, h]
      exact e
  intro j
  obtain ⟨R', e⟩ := key j R
  refine itS_mono (k := j * n) ?_
  rw [show j + j * n = j * (n + 1) by rw [Nat.mul_succ]; omega, e]
  simp
/-- a step that touches what stands ahead of R alone -/
theorem next_app (hw : 0 < s.w.length) (hT : turnP s s.p.length ≤ s.p.length) {a pl : Nat} {B R : W1} {y : Nat × W1} (hp : placeS s.w (B ++ R) = some pl) (hl : pl + s.w.length ≤ B.length) (h : nextS s (a, B ++ R) = some y) :
    ∃ B1, y = ((a + 1) % s.zs.length, B1 ++ R) ∧ ∀ R', nextS s (a, B ++ R') = some ((a + 1) % s.zs.length, B1 ++ R') := by
  have hk1 : pl + (if s.k = wOne then 1 else s.w.length) ≤ B.length := by split <;> omega
  have key : ∀ R', placeS s.w (B ++ R') = some pl := placeS_app hw hp hl
  have hr : ∀ R', ((B ++ R').take pl ++ s.p ++ (B ++ R').drop (pl + s.w.length)).drop (pl + turnP s s.p.length) = (B.take pl ++ s.p ++ B.drop (pl + s.w.length)).drop (pl + turnP s s.p.length) ++ R' := fun R' => by
    rw [List.take_append_of_le_length (by omega), List.drop_append_of_le_length hl, ← List.append_assoc, List.drop_append_of_le_length]
    simp
    omega
  have hd : ∀ R', (B ++ R').drop (pl + (if s.k = wOne then 1 else s.w.length)) = B.drop (pl + (if s.k = wOne then 1 else s.w.length)) ++ R' := fun R' => List.drop_append_of_le_length hk1
  unfold nextS at h ⊢
  simp only [key, hp] at h ⊢
  by_cases h1 : s.zs.getD a [] = wStop
  · rw [if_pos h1] at h; cases h
  · rw [if_neg h1] at h
    simp only [if_neg h1]
    by_cases h2 : s.zs.getD a [] = wKeep
    · rw [if_pos h2] at h
      simp only [if_pos h2]
      cases h
      exact ⟨_, by rw [hd], fun R' => by rw [hd]⟩
    · rw [if_neg h2] at h
      simp only [if_neg h2]
      cases h
      exact ⟨_, by rw [hr], fun R' => by rw [hr]⟩
/-- what an entry tells: from there the walk came here, and touched nothing behind its window -/
def Just (s : Dr) (e : (Nat × W1) × Nat × Nat) (a : Nat) (A : W1) : Prop :=
  ∃ B0 R0 n B, e.1.2 = B0 ∧ e.2.1 = R0.length ∧ e.2.2 = B0.length + R0.length ∧ (R0 ≠ [] → B0.length = 12) ∧ B0.length ≤ 12 ∧ A = B ++ R0 ∧ ∀ R, itS s n (e.1.1, B0 ++ R) = some (a, B ++ R)
theorem just_step (hw : 0 < s.w.length) (hT : turnP s s.p.length ≤ s.p.length) {e : (Nat × W1) × Nat × Nat} {a pl : Nat} {A : W1} {y : Nat × W1} (h : Just s e a A) (hp : placeS s.w A = some pl) (hl : e.2.1 ≤ A.length - pl - s.w.length) (hn : nextS s (a, A) = some y) :
    ∃ B0 R0 n B, e.1.2 = B0 ∧ e.2.1 = R0.length ∧ e.2.2 = B0.length + R0.length ∧ (R0 ≠ [] → B0.length = 12) ∧ B0.length ≤ 12 ∧ y.2 = B ++ R0 ∧ ∀ R, itS s (n + 1) (e.1.1, B0 ++ R) = some (y.1, B ++ R) := by
  obtain ⟨B0, R0, n, B, h1, h2, h3, h4, h5, rfl, h6⟩ := h
  have hpl := (placeS_some hp).1
  rw [List.length_append] at hl hpl
  obtain ⟨B1, rfl, hB⟩ := next_app hw hT hp (by omega) hn
  exact ⟨B0, R0, n, B1, h1, h2, h3, h4, h5, rfl, fun R => by rw [itS_snoc, h6]; exact hB R⟩
theorem fires (e : (Nat × W1) × Nat × Nat) {y : Nat × W1} (h : ∃ B0 R0 n B, e.1.2 = B0 ∧ e.2.1 = R0.length ∧ e.2.2 = B0.length + R0.length ∧ (R0 ≠ [] → B0.length = 12) ∧ B0.length ≤ 12 ∧ y.2 = B ++ R0 ∧ ∀ R, itS s (n + 1) (e.1.1, B0 ++ R) = some (y.1, B ++ R))
    (h1 : e.1.1 = y.1) (h2 : e.1.2 = y.2.take 12) (h3 : e.2.2 ≤ y.2.length) : Forever s y := by
  obtain ⟨B0, R0, n, B, g1, g2, g3, g4, g5, g6, g7⟩ := h
  obtain ⟨a, A⟩ := y
  simp only at g6 h1 h2 h3 g7
  subst g6
  rw [h1] at g7
  rw [g1] at h2
  rw [List.length_append] at h3
  have hBl : B0.length ≤ B.length := by omega
  have : B0 = B.take B0.length := by
    by_cases z : B0.length = 12
    · rw [z, h2, List.take_append_of_le_length (by omega)]
    · have hR : R0 = [] := by
        cases R0 with
        | nil => rfl
        | cons c r => exact absurd (g4 (by simp)) z
      subst hR
      rw [List.append_nil] at h2
      have hl := congrArg List.length h2
      rw [List.length_take] at hl
      have hBl' : B.length = B0.length := by omega
      rw [← hBl', List.take_length]
      rw [h2, List.take_of_length_le (by omega)]
  have hB : B = B0 ++ B.drop B0.length := by
    conv => lhs; rw [← List.take_append_drop B0.length B]
    rw [← this]
  have hpump : ∀ R, itS s (n + 1) (a, B0 ++ R) = some (a, B0 ++ (B.drop B0.length ++ R)) := fun R => by
    rw [g7 R, ← List.append_assoc, ← hB]
  have := pump hpump (B.drop B0.length ++ R0)
  rw [← List.append_assoc, ← hB] at this
  exact this
theorem forever_back {x y : Nat × W1} (h : nextS s x = some y) (hf : Forever s y) : Forever s x := fun j => by
  cases j with
  | zero => simp [itS]
  | succ j =>
    unfold itS
    rw [h]
    exact hf j
/-- what the law's test finds never ends -/
theorem test_right (hw : 0 < s.w.length) : ∀ {f : Nat} {D A : List It1} {a : Nat} {m : MetL} {sn : Seen}, (∀ e ∈ sn, Just s e a (sgn A)) → walkP s true f D A a m sn = some none → Forever s (a, sgn A)
  | 0, _, _, _, _, _, _, e => nomatch e
  | f + 1, D, A, a, m, sn, hJ, e => by
    have hT : turnP s s.p.length ≤ s.p.length := by unfold turnP; split <;> (try split) <;> omega
    rw [walkP_succ] at e
    cases ep : placeO s.w A with
    | none => rw [ep] at e; cases e
    | some pl =>
      rw [ep] at e
      simp only at e
      rw [placeO_S] at ep
      have hnx : nextS s (a, sgn A) = (if s.zs.getD a [] = wStop then none
        else if s.zs.getD a [] = wKeep then some ((a + 1) % s.zs.length, (sgn A).drop (pl + (if s.k = wOne then 1 else s.w.length)))
        else some ((a + 1) % s.zs.length, ((sgn A).take pl ++ s.p ++ (sgn A).drop (pl + s.w.length)).drop (pl + turnP s s.p.length))) := by
        unfold nextS
        simp only [ep]
      have hst : ∀ {y}, nextS s (a, sgn A) = some y → ∀ x ∈ touchP (A.length - pl - s.w.length) sn, ∃ B0 R0 n B, x.1.2 = B0 ∧ x.2.1 = R0.length ∧ x.2.2 = B0.length + R0.length ∧ (R0 ≠ [] → B0.length = 12) ∧ B0.length ≤ 12 ∧ y.2 = B ++ R0 ∧ ∀ R, itS s (n + 1) (x.1.1, B0 ++ R) = some (y.1, B ++ R) := fun {y} hn x hx => by
        obtain ⟨x1, x2⟩ := List.mem_filter.mp hx
        exact just_step hw hT (hJ x x1) ep (by rw [sgn_len]; simpa using x2) hn
      have hJ1 : ∀ {y}, nextS s (a, sgn A) = some y → ∀ x ∈ touchP (A.length - pl - s.w.length) sn, Just s x y.1 y.2 := fun {y} hn x hx => by
        obtain ⟨B0, R0, n, B, q1, q2, q3, q4, q5, q6, q7⟩ := hst hn x hx
        exact ⟨B0, R0, n + 1, B, q1, q2, q3, q4, q5, q6, q7⟩
      by_cases hd : s.zs.getD a [] = wStop
      · rw [if_pos hd] at e; cases e
      · rw [if_neg hd] at e hnx
        by_cases hk : s.zs.getD a [] = wKeep
        · rw [if_pos hk] at e hnx
          refine forever_back hnx ?_
          have ih := test_right hw (f := f) (fun x hx => by
            have := hJ1 hnx x hx
            rw [sgn_drop]
            exact this) e
          rw [sgn_drop] at ih
          exact ih
        · rw [if_neg hk] at e hnx
          refine forever_back hnx ?_
          have es : sgn (s.p.map fun c => ((c, none) : It1)) = s.p := by simp [sgn, Function.comp_def]
          have eA : ((sgn A).take pl ++ s.p ++ (sgn A).drop (pl + s.w.length)).drop (pl + turnP s s.p.length) = sgn ((A.take pl ++ s.p.map (fun c => ((c, none) : It1)) ++ A.drop (pl + s.w.length)).drop (pl + turnP s s.p.length)) := by
            rw [sgn_drop, sgn_app, sgn_app, sgn_take, sgn_drop, es]
          rw [eA] at hnx ⊢
          generalize (A.take pl ++ s.p.map (fun c => ((c, none) : It1)) ++ A.drop (pl + s.w.length)).drop (pl + turnP s s.p.length) = A1 at *
          by_cases ha : againB ((a + 1) % s.zs.length) A1 (touchP (A.length - pl - s.w.length) sn) = true
          · unfold againB at ha
            rw [List.any_eq_true] at ha
            obtain ⟨x, hx, hc⟩ := ha
            simp only [Bool.and_eq_true, beq_iff_eq, decide_eq_true_eq] at hc
            obtain ⟨hc1, hc2⟩ := hc
            refine fires x (hst hnx x hx) (by rw [hc1]; rfl) ?_ (by rw [sgn_len]; exact hc2)
            rw [hc1]
            show sgn (A1.take 12) = _
            rw [sgn_take]
          · have ha' : againB ((a + 1) % s.zs.length) A1 (touchP (A.length - pl - s.w.length) sn) = false := by simpa using ha
            rw [ha'] at e
            simp only [Bool.and_false, Bool.false_eq_true, if_false] at e
            refine test_right hw (f := f) (fun x hx => ?_) e
            rcases List.mem_append.mp hx with hx | hx
            · exact hJ1 hnx x hx
            · rw [List.mem_singleton] at hx
              subst hx
              refine ⟨sgn (A1.take 12), sgn (A1.drop 12), 0, sgn (A1.take 12), rfl, ?_, ?_, ?_, ?_, ?_, fun R => rfl⟩
              · rw [sgn_len, List.length_drop]
              · rw [sgn_len, sgn_len, List.length_take, List.length_drop]
                show A1.length = _
                omega
              · intro hne
                rw [sgn_len, List.length_take]
                have : 12 < A1.length := by
                  rcases Nat.lt_or_ge 12 A1.length with q | q
                  · exact q
                  · exact absurd (by rw [List.drop_eq_nil_of_le q]; rfl) hne
                omega
              · rw [sgn_len, List.length_take]; omega
              · rw [← sgn_app, List.take_append_drop]
/-- the law's walk ends as the pass does -/
theorem walk_go (hE : Ends s) (hw : 0 < s.w.length) (hz : 0 < s.zs.length) {l : List It1} {res : Option (List It1 × Sc)} (h : goP s 100 l sc0 [] = some res) :
    walkP s true (100 * l.length + 1) [] l 0 [] [] = some (res.map fun z => (z.1, z.2.met)) := by
  have hI := sc0_inv (s := s) hw hz
  have h1 := go_walk (b := true) hE hw hz l (wsn := []) hI rfl rfl h
  have h2 := go_walk (b := false) hE hw hz l (wsn := []) hI rfl rfl h
  have e0 : sc0.pend ++ l = l := rfl
  rw [e0] at h1 h2
  rcases h1 with ⟨_, q⟩ | ⟨z, _⟩ | ⟨gd, y, rfl, q⟩
  · have hf := test_right hw (s := s) (fun e he => by cases he) q
    rcases h2 with ⟨z, _⟩ | ⟨_, rfl⟩ | ⟨gd, y, rfl, q2⟩
    · cases z
    · exact q
    · have : walkP s false (100 * l.length + 1) [] l sc0.cur sc0.met [] = none := raw_never hf
      rw [this] at q2
      cases q2
  · cases z
  · exact q
end
end FL

namespace FL
open PySem L2 PyProof.Rows
def c_SIGNS : U := .str (tx "abc")
def c_KEEPS : U := .tup [.str (tx "one"), .str (tx "all")]
def c_TURNS : U := .tup [.str (tx "first"), .str (tx "last"), .str (tx "behind")]
def c_DEEDS : U := .tup [.str (tx "replace"), .str (tx "keep"), .str (tx "stop")]
def top (i : Nat) : Stmt := PySem.Challenge.pw_hitsteps_k15_whole_editors_led_by_steppe.main.body.getD i (.Pass ⟨0, 0, 0, 0⟩)
def bls : List Str := ["isinstance", "int", "bool", "str", "tuple", "list", "dict", "len", "all", "any", "min", "max", "abs", "range", "enumerate", "zip"]
def isT (l : W1) : Bool := l.all fun c => infB [c] [97, 98, 99]
def deedsL : List W1 := [wRep, wKeep, wStop]
def inW (zs : List W1) (a : W1) : Bool := zs.any fun z => z == a
def okDs (zs : List W1) : Bool := decide (1 ≤ zs.length) && decide (zs.length ≤ 3) && zs.all (inW deedsL)
def okS (w p k t : W1) (zs : List W1) (n : Int) : Bool :=
  isT w && decide (1 ≤ w.length) && decide (w.length ≤ 3) && isT p && decide (p.length ≤ 3) && inW keepsL k && inW turnsL t && okDs zs && decide (1 ≤ n) && decide (n ≤ 2)
def stF (w p k t : W1) (zs : List W1) (n : Int) : List (Nat × U) := [(0, .str w), (1, .str p), (2, .str k), (3, .str t), (4, .tup (zs.map .str)), (5, .int n)]
def stOf : List (Nat × U) → Option (W1 × W1 × W1 × W1 × List W1 × Int)
  | [(0, .str w), (1, .str p), (2, .str k), (3, .str t), (4, .tup ds), (5, .int n)] => match strsOf ds with
    | some zs => if okS w p k t zs n then some (w, p, k, t, zs, n) else none
    | none => none
  | _ => none
theorem stOf_ok {l : List (Nat × U)} {w p k t : W1} {zs : List W1} {n : Int} (h : stOf l = some (w, p, k, t, zs, n)) : l = stF w p k t zs n ∧ okS w p k t zs n = true := by
  unfold stOf at h
  split at h
  · rename_i e
    split at h
    · rename_i zs' e
      split at h
      · rename_i ho
        cases h
        rw [strsOf_eq e]
        exact ⟨rfl, ho⟩
      · cases h
    · cases h
  · cases h
def orgU : Option Nat → U
  | none => .non
  | some k => .int (k : Nat)
def itU (i : It1) : U := .tup [.str [i.1], orgU i.2]
def orgOf : U → Option (Option Nat)
  | .non => some none
  | .int (.ofNat k) => some (some k)
  | _ => none
def itOf : U → Option It1
  | .tup [.str [c], o] => (orgOf o).map fun o => (c, o)
  | _ => none
def itsOf : List U → Option (List It1)
  | [] => some []
  | u :: r => match itOf u, itsOf r with
    | some a, some b => some (a :: b)
    | _, _ => none
theorem orgOf_eq {u : U} {o : Option Nat} (h : orgOf u = some o) : u = orgU o := by
  unfold orgOf at h
  split at h <;> cases h <;> rfl
theorem orgOf_U (o : Option Nat) : orgOf (orgU o) = some o := by cases o <;> rfl
theorem itOf_eq {u : U} {i : It1} (h : itOf u = some i) : u = itU i := by
  unfold itOf at h
  split at h
  · rename_i c o
    cases e : orgOf o with
    | none => rw [e] at h; cases h
    | some z =>
      rw [e] at h
      cases h
      rw [orgOf_eq e]
      rfl
  · cases h
theorem itOf_U (i : It1) : itOf (itU i) = some i := by
  simp only [itOf, itU, orgOf_U, Option.map_some]
theorem itsOf_eq : ∀ {us : List U} {l : List It1}, itsOf us = some l → us = l.map itU
  | [], _, h => by cases h; rfl
  | u :: r, l, h => by
    unfold itsOf at h
    split at h
    · rename_i a b e1 e2
      cases h
      rw [itOf_eq e1, itsOf_eq e2]
      rfl
    · cases h
@[simp] theorem itsOf_map : ∀ l : List It1, itsOf (l.map itU) = some l
  | [] => rfl
  | a :: r => by
    rw [List.map_cons]
    unfold itsOf
    rw [itOf_U, itsOf_map r]
def metU (m : W1 × Nat × List It1) : U := .tup [.str m.1, .int (m.2.1 : Nat), .lst (m.2.2.map itU)]
def seenU (e : (Nat × W1) × Nat × Nat) : U := .tup [.tup [.int (e.1.1 : Nat), .str e.1.2], .int (e.2.1 : Nat), .int (e.2.2 : Nat)]
def okd (s : Dr) : Bool := okS s.w s.p s.k s.t s.zs s.n
def stU (s : Dr) : U := .ins 0 (stF s.w s.p s.k s.t s.zs s.n)
def drOfI : U → Option Dr
  | .ins 0 l => (stOf l).map fun x => ⟨x.1, x.2.1, x.2.2.1, x.2.2.2.1, x.2.2.2.2.1, x.2.2.2.2.2⟩
  | _ => none
theorem drOfI_ok {u : U} {s : Dr} (h : drOfI u = some s) : u = stU s ∧ okd s = true := by
  unfold drOfI at h
  split at h
  · rename_i l
    cases e : stOf l with
    | none => rw [e] at h; cases h
    | some x =>
      rw [e] at h
      obtain ⟨w, p, k, t, zs, n⟩ := x
      cases h
      obtain ⟨h1, h2⟩ := stOf_ok e
      subst h1
      exact ⟨rfl, h2⟩
  · cases h
theorem stOf_stF {w p k t : W1} {zs : List W1} {n : Int} (h : okS w p k t zs n = true) : stOf (stF w p k t zs n) = some (w, p, k, t, zs, n) := by
  simp only [stOf, stF, strsOf_map]
  exact if_pos h
theorem drOfI_U {s : Dr} (h : okd s = true) : drOfI (stU s) = some s := by
  simp only [drOfI, stU, stOf_stF h, Option.map_some]
def exT : Exn := ⟨6, []⟩
def brP (b : Int) (r : List Int) : Int × List Int := if b = 0 then (match r with | x :: t => (x, t) | [] => (b, r)) else (b, r)
def belowQ (a b : Int) (r : List Int) (n : Int) : Int × List Int :=
  if b > 0 then (b.fmod n, a :: b.fdiv n :: r) else (((((a * 48271 + 11).fmod 2147483647).fdiv 64).fmod n), (a * 48271 + 11).fmod 2147483647 :: b :: r)
def belowP (a b : Int) (r : List Int) (n : Int) : Int × List Int := belowQ a (brP b r).1 (brP b r).2 n
def drOf (G : List Ob) (i : Nat) : Option (Int × Int × List Int) := match G[i]? with
  | some (.lst l) => match intsOf l with
    | some (a :: b :: r) => if r.length ≤ 63 then some (a, b, r) else none
    | _ => none
  | _ => none
def drC (l : List Int) : Ob := .lst (l.map U.int)
theorem drOf_ok {G : List Ob} {i : Nat} {a b : Int} {r : List Int} (h : drOf G i = some (a, b, r)) : G[i]? = some (drC (a :: b :: r)) ∧ r.length ≤ 63 := by
  unfold drOf at h
  split at h
  · rename_i l g
    split at h
    · rename_i e
      split at h
      · rename_i hr
        cases h
        rw [intsOf_eq e] at g
        exact ⟨g, hr⟩
      · cases h
    · cases h
  · cases h
def r_is_integer : RunD := fun us G => match us with
  | [.int _] => .ok (.bl true) G
  | _ => .bad
def r_is_text : RunD := fun us G => match us with
  | [.str l] => if l.length ≤ szL then .ok (.bl (isT l)) G else .bad
  | [.non] => .ok (.bl false) G
  | _ => .bad
def r_is_one_of : RunD := fun us G => match us with
  | [.str a, .tup ws] => match strsOf ws with
    | some zs => .ok (.bl (inW zs a)) G
    | none => .bad
  | [.non, .tup _] => .ok (.bl false) G
  | [.int _, .tup _] => .ok (.bl false) G
  | _ => .bad
def r_are_deeds : RunD := fun us G => match us with
  | [.tup ds] => match strsOf ds with
    | some zs => if zs.length ≤ szL then .ok (.bl (okDs zs)) G else .bad
    | none => .bad
  | _ => .bad
def r_need_fields : RunD := fun us G => match us with
  | [.str w, .str p, .str k, .str t, .tup ds, .int n] => match strsOf ds with
    | some zs => if okS w p k t zs n then .ok .non G else .bad
    | none => .bad
  | _ => .bad
def r_Stepper_init : RunD := fun us G => match us with
  | [.ref i, .str w, .str p, .str k, .str t, .tup ds, .int n] => match G[i]?, strsOf ds with
    | some (.ins 0 []), some zs => if okS w p k t zs n then .ok .non (G.set i (.ins 0 (stF w p k t zs n))) else .bad
    | _, _ => .bad
  | _ => .bad
def r_need_text : RunD := fun us G => match us with
  | [.str l] => if l.length ≤ szL then (if isT l then .ok .non G else .exc exT G) else .bad
  | _ => .bad
def rndP (ns : List Int) (salt : Int) : Int := ns.foldl (fun s c => (s * 31 + (if c < 0 then -c else c)).fmod 2147483647) salt
def r__law_random : RunD := fun us G => match us with
  | [.sc l, .int 15] => match intsOf l with
    | some ns => if ns.length ≤ 63 then .ok (.ref G.length) (G ++ [drC (rndP ns 15 :: 0 :: ns.filter fun c => decide (10 ^ 18 ≤ c))]) else .bad
    | none => .bad
  | _ => .bad
def r__law_below : RunD := fun us G => match us with
  | [.ref i, .int n] => match drOf G i with
    | some (a, b, r) => if 0 < n ∧ n < 1000 then .ok (.int (belowP a b r n).1) (G.set i (drC (belowP a b r n).2)) else .bad
    | none => .bad
  | _ => .bad
def r__law_pick : RunD := fun us G => match us with
  | [.ref i, .lst xs] => match drOf G i with
    | some (a, b, r) => if 0 < xs.length ∧ xs.length < 1000 then (match xs[(belowP a b r xs.length).1.toNat]? with
      | some u => .ok u (G.set i (drC (belowP a b r xs.length).2))
      | none => .bad) else .bad
    | none => .bad
  | _ => .bad
def words6 : List W1 := [[97], [97, 98], [97, 97], [97, 98, 97], [97, 97, 98], [97, 98, 99]]
def puts10 : List W1 := [[], [97], [98], [97, 98], [98, 97], [97, 97], [97, 98, 97], [98, 97, 98], [97, 97, 98], [99]]
def deeds8 : List (List W1) := [[wRep], [wRep], [wRep, wKeep], [wKeep, wRep], [wKeep, wKeep, wRep], [wRep, wRep, wStop], [wKeep], [wKeep, wRep, wStop]]
def pickP {α : Type} (dflt : α) (l : Int × Int × List Int) (xs : List α) : α × (Int × Int × List Int) :=
  let z := belowP l.1 l.2.1 l.2.2 xs.length
  (xs.getD z.1.toNat dflt, (z.2.headD 0, z.2.tail.headD 0, z.2.tail.tail))
def drawnP (l : Int × Int × List Int) : Dr × (Int × Int × List Int) :=
  let a := pickP [] l words6
  let b := pickP [] a.2 puts10
  let c := pickP [] b.2 keepsL
  let d := pickP [] c.2 turnsL
  let e := pickP [] d.2 deeds8
  let f := pickP 0 e.2 [1, (2 : Int)]
  (⟨a.1, b.1, c.1, d.1, e.1, f.1⟩, f.2)
def drU (s : Dr) : U := .tup [.str s.w, .str s.p, .str s.k, .str s.t, .tup (s.zs.map .str), .int s.n]
def dl (l : Int × Int × List Int) : List Int := l.1 :: l.2.1 :: l.2.2
def r__law_drawn : RunD := fun us G => match us with
  | [.ref i] => match drOf G i with
    | some l => .ok (drU (drawnP l).1) (G.set i (drC (dl (drawnP l).2)))
    | none => .bad
  | _ => .bad
def drOfU : U → Option Dr
  | .tup [.str w, .str p, .str k, .str t, .tup ds, .int n] => match strsOf ds with
    | some zs => if okS w p k t zs n then some ⟨w, p, k, t, zs, n⟩ else none
    | none => none
  | _ => none
def r__law_make : RunD := fun us G => match us with
  | [u] => match drOfU u with
    | some s => .ok (stU s) G
    | none => .bad
  | _ => .bad
def textP (w : W1) : Nat → (Int × Int × List Int) → W1 → W1 × (Int × Int × List Int)
  | 0, l, t => (t, l)
  | n + 1, l, t => let z := pickP [] l [[97], [98], [99], w, w, w.take 1, w.drop 1]
    textP w n z.2 (t ++ z.1)
def textD (w : W1) (l : Int × Int × List Int) : W1 × (Int × Int × List Int) :=
  let z := belowP l.1 l.2.1 l.2.2 11
  let x := textP w z.1.toNat (z.2.headD 0, z.2.tail.headD 0, z.2.tail.tail) []
  (x.1.take 10, x.2)
def r__law_text : RunD := fun us G => match us with
  | [.ref i, u, .int 10] => match drOf G i, drOfU u with
    | some l, some s => .ok (.str (textD s.w l).1) (G.set i (drC (dl (textD s.w l).2)))
    | _, _ => .bad
  | _ => .bad
def wNext : W1 := [110, 101, 120, 116]
def wUndo : W1 := [117, 110, 100, 111]
def wRedo : W1 := [114, 101, 100, 111]
def wRound : W1 := [114, 111, 117, 110, 100]
def wBack : W1 := [98, 97, 99, 107]
def wRest : W1 := [114, 101, 115, 116]
def wNoth : W1 := [78, 111, 116, 104, 105, 110, 103, 67, 104, 111, 115, 101, 110]
def wordsL : List W1 := [wNext, wRound, wBack, wKeep, wRep, wRest, wUndo, wRedo]
def c_WORDS : U := .tup [.str (tx "next"), .str (tx "round"), .str (tx "back"), .str (tx "keep"), .str (tx "replace"), .str (tx "rest"), .str (tx "undo"), .str (tx "redo")]
/-! ### the walk -/
def r__law_find : RunD := fun us G => match us with
  | [.str w, .lst items, .int (.ofNat k)] => match itsOf items with
    | some l => if 0 < w.length ∧ w.length ≤ 3 ∧ isT w = true ∧ isT (sgn l) = true ∧ l.length ≤ 1000000 ∧ k ≤ l.length then .ok (.int (match placeS w ((sgn l).drop k) with | some p => ((p + k : Nat) : Int) | none => -1)) G else .bad
    | none => .bad
  | _ => .bad
def r__law_ahead : RunD := fun us G => match us with
  | [u] => match drOfU u with
    | some s => .ok (.int (turnP s s.p.length : Nat)) G
    | none => .bad
  | _ => .bad
def r__law_pass : RunD := fun us G => match us with
  | [u, .lst items] => match drOfU u, itsOf items with
    | some s, some l => if isT (sgn l) = true ∧ l.length ≤ 1000 then (match walkP s true 50000 [] l 0 [] [] with
      | none => .bad
      | some none => .ok .non G
      | some (some (its, met)) => .ok (.tup [.lst (its.map itU), .lst (met.map metU)]) G) else .bad
    | _, _ => .bad
  | _ => .bad
def r__law_signs : RunD := fun us G => match us with
  | [.lst items] => match itsOf items with
    | some l => if l.length ≤ 1000000 then .ok (.str (sgn l)) G else .bad
    | none => .bad
  | _ => .bad
abbrev r__law_equal : RunD := r_eq 0
abbrev r__law_equal_1 : RunD := r_eq 1
def hitsP (w t : W1) : List Nat := (List.range (t.length + 1 - w.length)).filter fun p => decide ((t.drop p).take w.length = w)
def r_places_in : RunD := fun us G => match us with
  | [.str w, .str t] => if 0 < w.length ∧ w.length ≤ 3 ∧ isT w = true ∧ isT t = true ∧ t.length ≤ 1000000 then .ok (.lst ((hitsP w t).map fun p => .int (p : Nat))) G else .bad
  | _ => .bad
def r_law : RunD := fun us G => match us with
  | [.sc l] => match intsOf l with
    | some ns => if ns.length ≤ 63 then .ok (.bl true) G else .bad
    | none => .bad
  | _ => .bad
end FL

namespace FL
open PySem L2 PyProof.Rows
def exs : List ((Nat × Nat) × Bool) := [((4, 4), true), ((4, 5), false), ((4, 6), false), ((4, 7), false), ((4, 8), false), ((4, 9), false), ((5, 4), true), ((5, 5), true), ((5, 6), false), ((5, 7), false), ((5, 8), false), ((5, 9), false), ((6, 4), true), ((6, 5), false), ((6, 6), true), ((6, 7), false), ((6, 8), false), ((6, 9), false), ((7, 4), true), ((7, 5), false), ((7, 6), false), ((7, 7), true), ((7, 8), false), ((7, 9), false), ((8, 4), true), ((8, 5), false), ((8, 6), false), ((8, 7), false), ((8, 8), true), ((8, 9), false), ((9, 4), true), ((9, 5), false), ((9, 6), false), ((9, 7), false), ((9, 8), false), ((9, 9), true)]
abbrev exi := exs
abbrev s_InvalidStepper_init : Stmt := inClass (top 3) 0
abbrev s_Endless_init : Stmt := inClass (top 6) 0
abbrev s_UnknownWord_init : Stmt := inClass (top 8) 0
/-! is_integer -/
abbrev s_is_integer : Stmt := top 24
def d_is_integer : Dn where
  N := ["value"]
  gl := []
  bl := bls
  ty := []
  cls := [0]
  att := []
  mth := []
  eqt := []
  mu := []
  rmu := false
def m_is_integer : MS := (stE (andM (isiM [0] (.inl .int) (varM 0)) (notM (isiM [0] (.inl .bl) (varM 0)))) rtM)
theorem den_is_integer : dSs (dS d_is_integer 40 (defScope s_is_integer) fnT) (defBody s_is_integer) = m_is_integer := by kernel_rfl
theorem run_is_integer (us : List U) (G : List Ob) : runB d_is_integer 40 s_is_integer us G = runR (m_is_integer (startS d_is_integer.N us) G) := congrArg (fun m : MS => runR (m (startS d_is_integer.N us) G)) den_is_integer

/-! is_text -/
abbrev s_is_text : Stmt := top 25
def d_is_text : Dn where
  N := ["value", "sign"]
  gl := [("SIGNS", .con c_SIGNS)]
  bl := bls
  ty := []
  cls := [0]
  att := []
  mth := []
  eqt := []
  mu := []
  rmu := false
def m_is_text : MS := (stE (andM (isiM [0] (.inl .str) (varM 0)) (preM allU (consA (compM false (seqI (varM 0)) (nameG 1) yesT (bin2 (inU false) (varM 1) (litM c_SIGNS)) [1]) nilA))) rtM)
theorem den_is_text : dSs (dS d_is_text 40 (defScope s_is_text) fnT) (defBody s_is_text) = m_is_text := by kernel_rfl
theorem run_is_text (us : List U) (G : List Ob) : runB d_is_text 40 s_is_text us G = runR (m_is_text (startS d_is_text.N us) G) := congrArg (fun m : MS => runR (m (startS d_is_text.N us) G)) den_is_text

/-! need_text -/
abbrev s_need_text : Stmt := top 26
def d_need_text : Dn where
  N := ["value"]
  gl := [("is_text", .fn 1 r_is_text)]
  bl := bls
  ty := []
  cls := [0]
  att := []
  mth := []
  eqt := []
  mu := []
  rmu := false
  xc := [("InvalidText", (6, none))]
  xs := exs
  xi := exi
def m_need_text : MS := (ifM (notT (tobM (callM 1 r_is_text (consA (varM 0) nilA)))) (raise0M 6) nxM)
theorem den_need_text : dSs (dS d_need_text 40 (defScope s_need_text) fnT) (defBody s_need_text) = m_need_text := by kernel_rfl
theorem run_need_text (us : List U) (G : List Ob) : runB d_need_text 40 s_need_text us G = runR (m_need_text (startS d_need_text.N us) G) := congrArg (fun m : MS => runR (m (startS d_need_text.N us) G)) den_need_text

/-! is_one_of -/
abbrev s_is_one_of : Stmt := top 27
def d_is_one_of : Dn where
  N := ["value", "words"]
  gl := []
  bl := bls
  ty := []
  cls := [0]
  att := []
  mth := []
  eqt := []
  mu := []
  rmu := false
def m_is_one_of : MS := (stE (andM (isiM [0] (.inl .str) (varM 0)) (bin2 (inU false) (varM 0) (varM 1))) rtM)
theorem den_is_one_of : dSs (dS d_is_one_of 40 (defScope s_is_one_of) fnT) (defBody s_is_one_of) = m_is_one_of := by kernel_rfl
theorem run_is_one_of (us : List U) (G : List Ob) : runB d_is_one_of 40 s_is_one_of us G = runR (m_is_one_of (startS d_is_one_of.N us) G) := congrArg (fun m : MS => runR (m (startS d_is_one_of.N us) G)) den_is_one_of

/-! are_deeds -/
abbrev s_are_deeds : Stmt := top 28
def d_are_deeds : Dn where
  N := ["value", "deed"]
  gl := [("is_one_of", .fn 2 r_is_one_of), ("DEEDS", .con c_DEEDS), ("MOST_DEEDS", .con (.int 3))]
  bl := bls
  ty := []
  cls := [0]
  att := []
  mth := []
  eqt := []
  mu := []
  rmu := false
def m_are_deeds : MS := (seqM (ifM (orT (notT (tobM (isiM [0] (.inl .tup) (varM 0)))) (notT (tobM (chM (cmpU fun i j => decide (i ≤ j)) (cmpU fun i j => decide (i ≤ j)) (litM (.int 1)) (preM lenU (consA (varM 0) nilA)) (litM (.int 3)))))) (stE (litM (.bl false)) rtM) nxM) (stE (preM allU (consA (compM false (seqI (varM 0)) (nameG 1) yesT (callM 2 r_is_one_of (consA (varM 1) (consA (litM c_DEEDS) nilA))) [1]) nilA)) rtM))
theorem den_are_deeds : dSs (dS d_are_deeds 40 (defScope s_are_deeds) fnT) (defBody s_are_deeds) = m_are_deeds := by kernel_rfl
theorem run_are_deeds (us : List U) (G : List Ob) : runB d_are_deeds 40 s_are_deeds us G = runR (m_are_deeds (startS d_are_deeds.N us) G) := congrArg (fun m : MS => runR (m (startS d_are_deeds.N us) G)) den_are_deeds

/-! need_fields -/
abbrev s_need_fields : Stmt := top 29
def d_need_fields : Dn where
  N := ["word", "put", "keep", "turn", "deeds", "passes"]
  gl := [("MOST_PASSES", .con (.int 2)), ("is_integer", .fn 1 r_is_integer), ("are_deeds", .fn 1 r_are_deeds), ("is_one_of", .fn 2 r_is_one_of), ("TURNS", .con c_TURNS), ("KEEPS", .con c_KEEPS), ("MOST_SIGNS", .con (.int 3)), ("is_text", .fn 1 r_is_text)]
  bl := bls
  ty := []
  cls := [0]
  att := []
  mth := []
  eqt := []
  mu := []
  rmu := false
  xc := [("InvalidStepper", (5, some 19))]
  xs := exs
  xi := exi
def m_need_fields : MS := (seqM (ifM (orT (notT (tobM (callM 1 r_is_text (consA (varM 0) nilA)))) (notT (tobM (chM (cmpU fun i j => decide (i ≤ j)) (cmpU fun i j => decide (i ≤ j)) (litM (.int 1)) (preM lenU (consA (varM 0) nilA)) (litM (.int 3)))))) (stE (litM (.str (Str.ofString "word").cps.toList)) (raiseM 5 19)) nxM) (seqM (ifM (orT (notT (tobM (callM 1 r_is_text (consA (varM 1) nilA)))) (tobM (bin2 (cmpU fun i j => decide (j < i)) (preM lenU (consA (varM 1) nilA)) (litM (.int 3))))) (stE (litM (.str (Str.ofString "put").cps.toList)) (raiseM 5 19)) nxM) (seqM (ifM (notT (tobM (callM 2 r_is_one_of (consA (varM 2) (consA (litM c_KEEPS) nilA))))) (stE (litM (.str (Str.ofString "keep").cps.toList)) (raiseM 5 19)) nxM) (seqM (ifM (notT (tobM (callM 2 r_is_one_of (consA (varM 3) (consA (litM c_TURNS) nilA))))) (stE (litM (.str (Str.ofString "turn").cps.toList)) (raiseM 5 19)) nxM) (seqM (ifM (notT (tobM (callM 1 r_are_deeds (consA (varM 4) nilA)))) (stE (litM (.str (Str.ofString "deeds").cps.toList)) (raiseM 5 19)) nxM) (ifM (orT (notT (tobM (callM 1 r_is_integer (consA (varM 5) nilA)))) (notT (tobM (chM (cmpU fun i j => decide (i ≤ j)) (cmpU fun i j => decide (i ≤ j)) (litM (.int 1)) (varM 5) (litM (.int 2)))))) (stE (litM (.str (Str.ofString "passes").cps.toList)) (raiseM 5 19)) nxM))))))
theorem den_need_fields : dSs (dS d_need_fields 40 (defScope s_need_fields) fnT) (defBody s_need_fields) = m_need_fields := by kernel_rfl
theorem run_need_fields (us : List U) (G : List Ob) : runB d_need_fields 40 s_need_fields us G = runR (m_need_fields (startS d_need_fields.N us) G) := congrArg (fun m : MS => runR (m (startS d_need_fields.N us) G)) den_need_fields

/-! Stepper_init -/
abbrev s_Stepper_init : Stmt := inClass (top 30) 0
def d_Stepper_init : Dn where
  N := ["self", "word", "put", "keep", "turn", "deeds", "passes"]
  gl := [("need_fields", .fn 6 r_need_fields)]
  bl := bls
  ty := []
  cls := [0]
  att := [("word", (0, [0], [])), ("put", (1, [0], [])), ("keep", (2, [0], [])), ("turn", (3, [0], [])), ("deeds", (4, [0], [])), ("passes", (5, [0], []))]
  mth := []
  eqt := []
  mu := []
  rmu := false
def m_Stepper_init : MS := (seqM (stE (callM 6 r_need_fields (consA (varM 1) (consA (varM 2) (consA (varM 3) (consA (varM 4) (consA (varM 5) (consA (varM 6) nilA))))))) (fun _ => nxM)) (seqM (stE2 (varM 1) (varM 0) (fldM (fun c => ([0] : List Nat).contains c) 0)) (seqM (stE2 (varM 2) (varM 0) (fldM (fun c => ([0] : List Nat).contains c) 1)) (seqM (stE2 (varM 3) (varM 0) (fldM (fun c => ([0] : List Nat).contains c) 2)) (seqM (stE2 (varM 4) (varM 0) (fldM (fun c => ([0] : List Nat).contains c) 3)) (seqM (stE2 (varM 5) (varM 0) (fldM (fun c => ([0] : List Nat).contains c) 4)) (stE2 (varM 6) (varM 0) (fldM (fun c => ([0] : List Nat).contains c) 5))))))))
theorem den_Stepper_init : dSs (dS d_Stepper_init 40 (defScope s_Stepper_init) fnT) (defBody s_Stepper_init) = m_Stepper_init := by kernel_rfl
theorem run_Stepper_init (us : List U) (G : List Ob) : runB d_Stepper_init 40 s_Stepper_init us G = runR (m_Stepper_init (startS d_Stepper_init.N us) G) := congrArg (fun m : MS => runR (m (startS d_Stepper_init.N us) G)) den_Stepper_init

/-! Scan_init -/
abbrev s_Scan_init : Stmt := inClass (top 14) 0
def d_Scan_init : Dn where
  N := ["self", "stepper", "pending", "at", "is_stopped"]
  gl := []
  bl := bls
  ty := []
  cls := [0]
  att := [("stepper", (6, [2, 3], [])), ("pending", (7, [2], [])), ("next_deed", (8, [2], [])), ("is_stopped", (9, [2], [])), ("written", (10, [2], [])), ("many", (11, [2], [])), ("met", (12, [2], [])), ("is_endless", (13, [2], []))]
  mth := []
  eqt := []
  mu := ["pending", "met"]
  rmu := false
def m_Scan_init : MS := (seqM (stE2 (varM 1) (varM 0) (fldM (fun c => ([2, 3] : List Nat).contains c) 6)) (seqM (stE2 (preM (listU true) (consA (varM 2) nilA)) (varM 0) (fldM (fun c => ([2] : List Nat).contains c) 7)) (seqM (stE2 (varM 3) (varM 0) (fldM (fun c => ([2] : List Nat).contains c) 8)) (seqM (stE2 (varM 4) (varM 0) (fldM (fun c => ([2] : List Nat).contains c) 9)) (seqM (stE2 (lstM false nilA) (varM 0) (fldM (fun c => ([2] : List Nat).contains c) 10)) (seqM (stE2 (litM (.int 0)) (varM 0) (fldM (fun c => ([2] : List Nat).contains c) 11)) (seqM (stE2 (lstM true nilA) (varM 0) (fldM (fun c => ([2] : List Nat).contains c) 12)) (stE2 (litM (.bl false)) (varM 0) (fldM (fun c => ([2] : List Nat).contains c) 13)))))))))
theorem den_Scan_init : dSs (dS d_Scan_init 40 (defScope s_Scan_init) fnT) (defBody s_Scan_init) = m_Scan_init := by kernel_rfl
theorem run_Scan_init (us : List U) (G : List Ob) : runB d_Scan_init 40 s_Scan_init us G = runR (m_Scan_init (startS d_Scan_init.N us) G) := congrArg (fun m : MS => runR (m (startS d_Scan_init.N us) G)) den_Scan_init

def r_Scan_init : RunD := fun us G => runR (m_Scan_init (startS d_Scan_init.N us) G)
theorem le_Scan_init : Le r_Scan_init (runB d_Scan_init 40 s_Scan_init) := fun us G => .inr (run_Scan_init us G).symm

/-! Scan_turned -/
abbrev s_Scan_turned : Stmt := inClass (top 14) 6
def d_Scan_turned : Dn where
  N := ["self", "many"]
  gl := []
  bl := bls
  ty := []
  cls := [0]
  att := [("turn", (3, [0], [])), ("stepper", (6, [2, 3], []))]
  mth := []
  eqt := []
  mu := []
  rmu := false
def m_Scan_turned : MS := (seqM (ifM (tobM (bin2 (eqX false (fun c => d_Scan_turned.eqt.lookup c)) (attrM (fun c => (([] : List (Nat × RunD)).lookup c).map attrP) (fun c => ([0] : List Nat).contains c) 3 (attrM (fun c => (([] : List (Nat × RunD)).lookup c).map attrP) (fun c => ([2, 3] : List Nat).contains c) 6 (varM 0))) (litM (.str (Str.ofString "behind").cps.toList)))) (stE (varM 1) rtM) nxM) (stE (iteM (tobM (bin2 (eqX false (fun c => d_Scan_turned.eqt.lookup c)) (attrM (fun c => (([] : List (Nat × RunD)).lookup c).map attrP) (fun c => ([0] : List Nat).contains c) 3 (attrM (fun c => (([] : List (Nat × RunD)).lookup c).map attrP) (fun c => ([2, 3] : List Nat).contains c) 6 (varM 0))) (litM (.str (Str.ofString "last").cps.toList)))) (preM maxU (consA (lstM false (consA (litM (.int 0)) (consA (bin2 subU (varM 1) (litM (.int 1))) nilA))) nilA)) (litM (.int 0))) rtM))
theorem den_Scan_turned : dSs (dS d_Scan_turned 40 (defScope s_Scan_turned) fnT) (defBody s_Scan_turned) = m_Scan_turned := by kernel_rfl
theorem run_Scan_turned (us : List U) (G : List Ob) : runB d_Scan_turned 40 s_Scan_turned us G = runR (m_Scan_turned (startS d_Scan_turned.N us) G) := congrArg (fun m : MS => runR (m (startS d_Scan_turned.N us) G)) den_Scan_turned

def r_Scan_turned : RunD := fun us G => runR (m_Scan_turned (startS d_Scan_turned.N us) G)
theorem le_Scan_turned : Le r_Scan_turned (runB d_Scan_turned 40 s_Scan_turned) := fun us G => .inr (run_Scan_turned us G).symm

/-! places_in -/
abbrev s_places_in : Stmt := top 34
def d_places_in : Dn where
  N := ["word", "text", "place"]
  gl := []
  bl := bls
  ty := []
  cls := [0]
  att := []
  mth := []
  eqt := []
  mu := []
  rmu := false
def m_places_in : MS := (stE (compM false (preI rng1U (consA (bin2 (addU false) (bin2 subU (preM lenU (consA (varM 1) nilA)) (preM lenU (consA (varM 0) nilA))) (litM (.int 1))) nilA)) (nameG 2) (tobM (bin2 (eqX false (fun c => d_places_in.eqt.lookup c)) (slM false (varM 1) (someO (varM 2)) (someO (bin2 (addU false) (varM 2) (preM lenU (consA (varM 0) nilA))))) (varM 0))) (varM 2) [2]) rtM)
theorem den_places_in : dSs (dS d_places_in 40 (defScope s_places_in) fnT) (defBody s_places_in) = m_places_in := by kernel_rfl
theorem run_places_in (us : List U) (G : List Ob) : runB d_places_in 40 s_places_in us G = runR (m_places_in (startS d_places_in.N us) G) := congrArg (fun m : MS => runR (m (startS d_places_in.N us) G)) den_places_in

/-! Editor_init -/
abbrev s_Editor_init : Stmt := inClass (top 35) 0
def d_Editor_init : Dn where
  N := ["self", "stepper", "text"]
  gl := [("need_text", .fn 1 r_need_text)]
  bl := bls
  ty := []
  cls := [0]
  att := [("stepper", (6, [2, 3], [])), ("now", (15, [3], [])), ("past", (16, [3], [])), ("future", (17, [3], []))]
  mth := []
  eqt := []
  mu := ["past", "future"]
  rmu := false
def m_Editor_init : MS := (seqM (stE (callM 1 r_need_text (consA (varM 2) nilA)) (fun _ => nxM)) (seqM (stE2 (varM 1) (varM 0) (fldM (fun c => ([2, 3] : List Nat).contains c) 6)) (seqM (stE2 (tupM (consA (varM 2) (consA (litM (.int 0)) (consA (litM .non) nilA)))) (varM 0) (fldM (fun c => ([3] : List Nat).contains c) 15)) (seqM (stE2 (lstM true nilA) (varM 0) (fldM (fun c => ([3] : List Nat).contains c) 16)) (stE2 (lstM true nilA) (varM 0) (fldM (fun c => ([3] : List Nat).contains c) 17))))))
theorem den_Editor_init : dSs (dS d_Editor_init 40 (defScope s_Editor_init) fnT) (defBody s_Editor_init) = m_Editor_init := by kernel_rfl
theorem run_Editor_init (us : List U) (G : List Ob) : runB d_Editor_init 40 s_Editor_init us G = runR (m_Editor_init (startS d_Editor_init.N us) G) := congrArg (fun m : MS => runR (m (startS d_Editor_init.N us) G)) den_Editor_init

def r_Editor_init : RunD := fun us G => runR (m_Editor_init (startS d_Editor_init.N us) G)
theorem le_Editor_init : Le r_Editor_init (runB d_Editor_init 40 s_Editor_init) := fun us G => .inr (run_Editor_init us G).symm

/-! Editor_text -/
abbrev s_Editor_text : Stmt := inClass (top 35) 1
def d_Editor_text : Dn where
  N := ["self"]
  gl := []
  bl := bls
  ty := []
  cls := [0]
  att := [("now", (15, [3], []))]
  mth := []
  eqt := []
  mu := []
  rmu := false
def m_Editor_text : MS := (stE (bin2 idxU (attrM (fun c => (([] : List (Nat × RunD)).lookup c).map attrP) (fun c => ([3] : List Nat).contains c) 15 (varM 0)) (litM (.int 0))) rtM)
theorem den_Editor_text : dSs (dS d_Editor_text 40 (defScope s_Editor_text) fnT) (defBody s_Editor_text) = m_Editor_text := by kernel_rfl
theorem run_Editor_text (us : List U) (G : List Ob) : runB d_Editor_text 40 s_Editor_text us G = runR (m_Editor_text (startS d_Editor_text.N us) G) := congrArg (fun m : MS => runR (m (startS d_Editor_text.N us) G)) den_Editor_text

def r_Editor_text : RunD := fun us G => runR (m_Editor_text (startS d_Editor_text.N us) G)
theorem le_Editor_text : Le r_Editor_text (runB d_Editor_text 40 s_Editor_text) := fun us G => .inr (run_Editor_text us G).symm

/-! Editor_hits -/
abbrev s_Editor_hits : Stmt := inClass (top 35) 4
def d_Editor_hits : Dn where
  N := ["self"]
  gl := [("places_in", .fn 2 r_places_in)]
  bl := bls
  ty := []
  cls := [0]
  att := [("word", (0, [0], [])), ("stepper", (6, [2, 3], [])), ("now", (15, [3], []))]
  mth := []
  eqt := []
  mu := []
  rmu := false
def m_Editor_hits : MS := (stE (callM 2 r_places_in (consA (attrM (fun c => (([] : List (Nat × RunD)).lookup c).map attrP) (fun c => ([0] : List Nat).contains c) 0 (attrM (fun c => (([] : List (Nat × RunD)).lookup c).map attrP) (fun c => ([2, 3] : List Nat).contains c) 6 (varM 0))) (consA (bin2 idxU (attrM (fun c => (([] : List (Nat × RunD)).lookup c).map attrP) (fun c => ([3] : List Nat).contains c) 15 (varM 0)) (litM (.int 0))) nilA))) rtM)
theorem den_Editor_hits : dSs (dS d_Editor_hits 40 (defScope s_Editor_hits) fnT) (defBody s_Editor_hits) = m_Editor_hits := by kernel_rfl
theorem run_Editor_hits (us : List U) (G : List Ob) : runB d_Editor_hits 40 s_Editor_hits us G = runR (m_Editor_hits (startS d_Editor_hits.N us) G) := congrArg (fun m : MS => runR (m (startS d_Editor_hits.N us) G)) den_Editor_hits

def r_Editor_hits : RunD := fun us G => runR (m_Editor_hits (startS d_Editor_hits.N us) G)
theorem le_Editor_hits : Le r_Editor_hits (runB d_Editor_hits 40 s_Editor_hits) := fun us G => .inr (run_Editor_hits us G).symm

/-! Editor_choose -/
abbrev s_Editor_choose : Stmt := inClass (top 35) 5
def d_Editor_choose : Dn where
  N := ["self", "places"]
  gl := []
  bl := bls
  ty := []
  cls := [0]
  att := [("now", (15, [3], []))]
  mth := []
  eqt := []
  mu := []
  rmu := false
def m_Editor_choose : MS := (seqM (ifM (tobM (bin2 (eqX false (fun c => d_Editor_choose.eqt.lookup c)) (preM lenU (consA (varM 1) nilA)) (litM (.int 0)))) (stE (litM .non) rtM) nxM) (seqM (stE2 (tupM (consA (bin2 idxU (attrM (fun c => (([] : List (Nat × RunD)).lookup c).map attrP) (fun c => ([3] : List Nat).contains c) 15 (varM 0)) (litM (.int 0))) (consA (bin2 idxU (attrM (fun c => (([] : List (Nat × RunD)).lookup c).map attrP) (fun c => ([3] : List Nat).contains c) 15 (varM 0)) (litM (.int 1))) (consA (bin2 idxU (varM 1) (litM (.int 0))) nilA)))) (varM 0) (fldM (fun c => ([3] : List Nat).contains c) 15)) (stE (bin2 idxU (varM 1) (litM (.int 0))) rtM)))
theorem den_Editor_choose : dSs (dS d_Editor_choose 40 (defScope s_Editor_choose) fnT) (defBody s_Editor_choose) = m_Editor_choose := by kernel_rfl
theorem run_Editor_choose (us : List U) (G : List Ob) : runB d_Editor_choose 40 s_Editor_choose us G = runR (m_Editor_choose (startS d_Editor_choose.N us) G) := congrArg (fun m : MS => runR (m (startS d_Editor_choose.N us) G)) den_Editor_choose

def r_Editor_choose : RunD := fun us G => runR (m_Editor_choose (startS d_Editor_choose.N us) G)
theorem le_Editor_choose : Le r_Editor_choose (runB d_Editor_choose 40 s_Editor_choose) := fun us G => .inr (run_Editor_choose us G).symm

/-! Editor_next -/
abbrev s_Editor_next : Stmt := inClass (top 35) 6
def d_Editor_next : Dn where
  N := ["self", "place"]
  gl := []
  bl := bls
  ty := []
  cls := [0]
  att := [("now", (15, [3], []))]
  mth := [("choose", (23, [(3, (2, r_Editor_choose))])), ("hits", (22, [(3, (1, r_Editor_hits))]))]
  eqt := []
  mu := []
  rmu := false
def m_Editor_next : MS := (stE (methM (fun c => ([(3, (2, r_Editor_choose))] : List (Nat × (Nat × RunD))).lookup c) 23 (varM 0) (consA (compM false (seqI (methM (fun c => ([(3, (1, r_Editor_hits))] : List (Nat × (Nat × RunD))).lookup c) 22 (varM 0) nilA)) (nameG 1) (tobM (bin2 (cmpU fun i j => decide (j ≤ i)) (varM 1) (bin2 idxU (attrM (fun c => (([] : List (Nat × RunD)).lookup c).map attrP) (fun c => ([3] : List Nat).contains c) 15 (varM 0)) (litM (.int 1))))) (varM 1) [1]) nilA)) rtM)
theorem den_Editor_next : dSs (dS d_Editor_next 40 (defScope s_Editor_next) fnT) (defBody s_Editor_next) = m_Editor_next := by kernel_rfl
theorem run_Editor_next (us : List U) (G : List Ob) : runB d_Editor_next 40 s_Editor_next us G = runR (m_Editor_next (startS d_Editor_next.N us) G) := congrArg (fun m : MS => runR (m (startS d_Editor_next.N us) G)) den_Editor_next

def r_Editor_next : RunD := fun us G => runR (m_Editor_next (startS d_Editor_next.N us) G)
theorem le_Editor_next : Le r_Editor_next (runB d_Editor_next 40 s_Editor_next) := fun us G => .inr (run_Editor_next us G).symm

/-! Editor_deed -/
abbrev s_Editor_deed : Stmt := inClass (top 35) 9
def d_Editor_deed : Dn where
  N := ["self", "text", "caret"]
  gl := []
  bl := bls
  ty := []
  cls := [0]
  att := [("now", (15, [3], [])), ("past", (16, [3], [])), ("future", (17, [3], []))]
  mth := []
  eqt := []
  mu := ["future"]
  rmu := false
def m_Editor_deed : MS := (seqM (stE (bmM appendU (attrM (fun c => (([] : List (Nat × RunD)).lookup c).map attrP) (fun c => ([3] : List Nat).contains c) 16 (varM 0)) (consA (attrM (fun c => (([] : List (Nat × RunD)).lookup c).map attrP) (fun c => ([3] : List Nat).contains c) 15 (varM 0)) nilA)) (fun _ => nxM)) (seqM (stE2 (lstM true nilA) (varM 0) (fldM (fun c => ([3] : List Nat).contains c) 17)) (stE2 (tupM (consA (varM 1) (consA (varM 2) (consA (litM .non) nilA)))) (varM 0) (fldM (fun c => ([3] : List Nat).contains c) 15))))
theorem den_Editor_deed : dSs (dS d_Editor_deed 40 (defScope s_Editor_deed) fnT) (defBody s_Editor_deed) = m_Editor_deed := by kernel_rfl
theorem run_Editor_deed (us : List U) (G : List Ob) : runB d_Editor_deed 40 s_Editor_deed us G = runR (m_Editor_deed (startS d_Editor_deed.N us) G) := congrArg (fun m : MS => runR (m (startS d_Editor_deed.N us) G)) den_Editor_deed

def r_Editor_deed : RunD := fun us G => runR (m_Editor_deed (startS d_Editor_deed.N us) G)
theorem le_Editor_deed : Le r_Editor_deed (runB d_Editor_deed 40 s_Editor_deed) := fun us G => .inr (run_Editor_deed us G).symm

/-! Editor_need_chosen -/
abbrev s_Editor_need_chosen : Stmt := inClass (top 35) 10
def d_Editor_need_chosen : Dn where
  N := ["self"]
  gl := []
  bl := bls
  ty := []
  cls := [0]
  att := [("now", (15, [3], []))]
  mth := []
  eqt := []
  mu := []
  rmu := false
  xc := [("NothingChosen", (7, none))]
  xs := exs
  xi := exi
def m_Editor_need_chosen : MS := (seqM (ifM (tobM (bin2 (isU false) (bin2 idxU (attrM (fun c => (([] : List (Nat × RunD)).lookup c).map attrP) (fun c => ([3] : List Nat).contains c) 15 (varM 0)) (litM (.int 2))) (litM .non))) (raise0M 7) nxM) (stE (bin2 idxU (attrM (fun c => (([] : List (Nat × RunD)).lookup c).map attrP) (fun c => ([3] : List Nat).contains c) 15 (varM 0)) (litM (.int 2))) rtM))
theorem den_Editor_need_chosen : dSs (dS d_Editor_need_chosen 40 (defScope s_Editor_need_chosen) fnT) (defBody s_Editor_need_chosen) = m_Editor_need_chosen := by kernel_rfl
theorem run_Editor_need_chosen (us : List U) (G : List Ob) : runB d_Editor_need_chosen 40 s_Editor_need_chosen us G = runR (m_Editor_need_chosen (startS d_Editor_need_chosen.N us) G) := congrArg (fun m : MS => runR (m (startS d_Editor_need_chosen.N us) G)) den_Editor_need_chosen

def r_Editor_need_chosen : RunD := fun us G => runR (m_Editor_need_chosen (startS d_Editor_need_chosen.N us) G)
theorem le_Editor_need_chosen : Le r_Editor_need_chosen (runB d_Editor_need_chosen 40 s_Editor_need_chosen) := fun us G => .inr (run_Editor_need_chosen us G).symm

/-! Editor_keep_hit -/
abbrev s_Editor_keep_hit : Stmt := inClass (top 35) 11
def d_Editor_keep_hit : Dn where
  N := ["self", "place"]
  gl := []
  bl := bls
  ty := []
  cls := [0]
  att := [("word", (0, [0], [])), ("keep", (2, [0], [])), ("stepper", (6, [2, 3], [])), ("now", (15, [3], []))]
  mth := [("deed", (25, [(3, (3, r_Editor_deed))])), ("need_chosen", (26, [(3, (1, r_Editor_need_chosen))]))]
  eqt := []
  mu := []
  rmu := false
def m_Editor_keep_hit : MS := (seqM (stE (methM (fun c => ([(3, (1, r_Editor_need_chosen))] : List (Nat × (Nat × RunD))).lookup c) 26 (varM 0) nilA) (setM 1)) (stE (methM (fun c => ([(3, (3, r_Editor_deed))] : List (Nat × (Nat × RunD))).lookup c) 25 (varM 0) (consA (bin2 idxU (attrM (fun c => (([] : List (Nat × RunD)).lookup c).map attrP) (fun c => ([3] : List Nat).contains c) 15 (varM 0)) (litM (.int 0))) (consA (bin2 (addU false) (varM 1) (iteM (tobM (bin2 (eqX false (fun c => d_Editor_keep_hit.eqt.lookup c)) (attrM (fun c => (([] : List (Nat × RunD)).lookup c).map attrP) (fun c => ([0] : List Nat).contains c) 2 (attrM (fun c => (([] : List (Nat × RunD)).lookup c).map attrP) (fun c => ([2, 3] : List Nat).contains c) 6 (varM 0))) (litM (.str (Str.ofString "one").cps.toList)))) (litM (.int 1)) (preM lenU (consA (attrM (fun c => (([] : List (Nat × RunD)).lookup c).map attrP) (fun c => ([0] : List Nat).contains c) 0 (attrM (fun c => (([] : List (Nat × RunD)).lookup c).map attrP) (fun c => ([2, 3] : List Nat).contains c) 6 (varM 0))) nilA)))) nilA))) (fun _ => nxM)))
theorem den_Editor_keep_hit : dSs (dS d_Editor_keep_hit 40 (defScope s_Editor_keep_hit) fnT) (defBody s_Editor_keep_hit) = m_Editor_keep_hit := by kernel_rfl
theorem run_Editor_keep_hit (us : List U) (G : List Ob) : runB d_Editor_keep_hit 40 s_Editor_keep_hit us G = runR (m_Editor_keep_hit (startS d_Editor_keep_hit.N us) G) := congrArg (fun m : MS => runR (m (startS d_Editor_keep_hit.N us) G)) den_Editor_keep_hit

def r_Editor_keep_hit : RunD := fun us G => runR (m_Editor_keep_hit (startS d_Editor_keep_hit.N us) G)
theorem le_Editor_keep_hit : Le r_Editor_keep_hit (runB d_Editor_keep_hit 40 s_Editor_keep_hit) := fun us G => .inr (run_Editor_keep_hit us G).symm

/-! Editor_replace_hit -/
abbrev s_Editor_replace_hit : Stmt := inClass (top 35) 12
def d_Editor_replace_hit : Dn where
  N := ["self", "place", "text", "scan", "caret"]
  gl := [("Scan", .mk 2 5 r_Scan_init)]
  bl := bls
  ty := []
  cls := [0]
  att := [("word", (0, [0], [])), ("put", (1, [0], [])), ("stepper", (6, [2, 3], [])), ("now", (15, [3], []))]
  mth := [("deed", (25, [(3, (3, r_Editor_deed))])), ("turned", (31, [(2, (2, r_Scan_turned))])), ("need_chosen", (26, [(3, (1, r_Editor_need_chosen))]))]
  eqt := []
  mu := []
  rmu := false
def m_Editor_replace_hit : MS := (seqM (stE (methM (fun c => ([(3, (1, r_Editor_need_chosen))] : List (Nat × (Nat × RunD))).lookup c) 26 (varM 0) nilA) (setM 1)) (seqM (stE (bin2 idxU (attrM (fun c => (([] : List (Nat × RunD)).lookup c).map attrP) (fun c => ([3] : List Nat).contains c) 15 (varM 0)) (litM (.int 0))) (setM 2)) (seqM (stE (makeM 2 5 r_Scan_init (consA (attrM (fun c => (([] : List (Nat × RunD)).lookup c).map attrP) (fun c => ([2, 3] : List Nat).contains c) 6 (varM 0)) (consA (lstM false nilA) (consA (litM (.int 0)) (consA (litM (.bl false)) nilA))))) (setM 3)) (seqM (stE (bin2 (addU false) (varM 1) (methM (fun c => ([(2, (2, r_Scan_turned))] : List (Nat × (Nat × RunD))).lookup c) 31 (varM 3) (consA (preM lenU (consA (attrM (fun c => (([] : List (Nat × RunD)).lookup c).map attrP) (fun c => ([0] : List Nat).contains c) 1 (attrM (fun c => (([] : List (Nat × RunD)).lookup c).map attrP) (fun c => ([2, 3] : List Nat).contains c) 6 (varM 0))) nilA)) nilA))) (setM 4)) (stE (methM (fun c => ([(3, (3, r_Editor_deed))] : List (Nat × (Nat × RunD))).lookup c) 25 (varM 0) (consA (bin2 (addU false) (bin2 (addU false) (slM false (varM 2) noneO (someO (varM 1))) (attrM (fun c => (([] : List (Nat × RunD)).lookup c).map attrP) (fun c => ([0] : List Nat).contains c) 1 (attrM (fun c => (([] : List (Nat × RunD)).lookup c).map attrP) (fun c => ([2, 3] : List Nat).contains c) 6 (varM 0)))) (slM false (varM 2) (someO (bin2 (addU false) (varM 1) (preM lenU (consA (attrM (fun c => (([] : List (Nat × RunD)).lookup c).map attrP) (fun c => ([0] : List Nat).contains c) 0 (attrM (fun c => (([] : List (Nat × RunD)).lookup c).map attrP) (fun c => ([2, 3] : List Nat).contains c) 6 (varM 0))) nilA)))) noneO)) (consA (varM 4) nilA))) (fun _ => nxM))))))
theorem den_Editor_replace_hit : dSs (dS d_Editor_replace_hit 40 (defScope s_Editor_replace_hit) fnT) (defBody s_Editor_replace_hit) = m_Editor_replace_hit := by kernel_rfl
theorem run_Editor_replace_hit (us : List U) (G : List Ob) : runB d_Editor_replace_hit 40 s_Editor_replace_hit us G = runR (m_Editor_replace_hit (startS d_Editor_replace_hit.N us) G) := congrArg (fun m : MS => runR (m (startS d_Editor_replace_hit.N us) G)) den_Editor_replace_hit

def r_Editor_replace_hit : RunD := fun us G => runR (m_Editor_replace_hit (startS d_Editor_replace_hit.N us) G)
theorem le_Editor_replace_hit : Le r_Editor_replace_hit (runB d_Editor_replace_hit 40 s_Editor_replace_hit) := fun us G => .inr (run_Editor_replace_hit us G).symm

/-! Editor_undo -/
abbrev s_Editor_undo : Stmt := inClass (top 35) 15
def d_Editor_undo : Dn where
  N := ["self"]
  gl := []
  bl := bls
  ty := []
  cls := [0]
  att := [("now", (15, [3], [])), ("past", (16, [3], [])), ("future", (17, [3], []))]
  mth := []
  eqt := []
  mu := []
  rmu := false
def m_Editor_undo : MS := (seqM (ifM (tobM (bin2 (eqX false (fun c => d_Editor_undo.eqt.lookup c)) (preM lenU (consA (attrM (fun c => (([] : List (Nat × RunD)).lookup c).map attrP) (fun c => ([3] : List Nat).contains c) 16 (varM 0)) nilA)) (litM (.int 0)))) (stE (litM (.bl false)) rtM) nxM) (seqM (stE (bmM appendU (attrM (fun c => (([] : List (Nat × RunD)).lookup c).map attrP) (fun c => ([3] : List Nat).contains c) 17 (varM 0)) (consA (bin2 (addU false) (slM false (attrM (fun c => (([] : List (Nat × RunD)).lookup c).map attrP) (fun c => ([3] : List Nat).contains c) 15 (varM 0)) noneO (someO (litM (.int 2)))) (tupM (consA (litM .non) nilA))) nilA)) (fun _ => nxM)) (seqM (stE2 (bm0M popU (attrM (fun c => (([] : List (Nat × RunD)).lookup c).map attrP) (fun c => ([3] : List Nat).contains c) 16 (varM 0))) (varM 0) (fldM (fun c => ([3] : List Nat).contains c) 15)) (stE (litM (.bl true)) rtM))))
theorem den_Editor_undo : dSs (dS d_Editor_undo 40 (defScope s_Editor_undo) fnT) (defBody s_Editor_undo) = m_Editor_undo := by kernel_rfl
theorem run_Editor_undo (us : List U) (G : List Ob) : runB d_Editor_undo 40 s_Editor_undo us G = runR (m_Editor_undo (startS d_Editor_undo.N us) G) := congrArg (fun m : MS => runR (m (startS d_Editor_undo.N us) G)) den_Editor_undo

def r_Editor_undo : RunD := fun us G => runR (m_Editor_undo (startS d_Editor_undo.N us) G)
theorem le_Editor_undo : Le r_Editor_undo (runB d_Editor_undo 40 s_Editor_undo) := fun us G => .inr (run_Editor_undo us G).symm

/-! Editor_redo -/
abbrev s_Editor_redo : Stmt := inClass (top 35) 16
def d_Editor_redo : Dn where
  N := ["self"]
  gl := []
  bl := bls
  ty := []
  cls := [0]
  att := [("now", (15, [3], [])), ("past", (16, [3], [])), ("future", (17, [3], []))]
  mth := []
  eqt := []
  mu := []
  rmu := false
def m_Editor_redo : MS := (seqM (ifM (tobM (bin2 (eqX false (fun c => d_Editor_redo.eqt.lookup c)) (preM lenU (consA (attrM (fun c => (([] : List (Nat × RunD)).lookup c).map attrP) (fun c => ([3] : List Nat).contains c) 17 (varM 0)) nilA)) (litM (.int 0)))) (stE (litM (.bl false)) rtM) nxM) (seqM (stE (bmM appendU (attrM (fun c => (([] : List (Nat × RunD)).lookup c).map attrP) (fun c => ([3] : List Nat).contains c) 16 (varM 0)) (consA (attrM (fun c => (([] : List (Nat × RunD)).lookup c).map attrP) (fun c => ([3] : List Nat).contains c) 15 (varM 0)) nilA)) (fun _ => nxM)) (seqM (stE2 (bm0M popU (attrM (fun c => (([] : List (Nat × RunD)).lookup c).map attrP) (fun c => ([3] : List Nat).contains c) 17 (varM 0))) (varM 0) (fldM (fun c => ([3] : List Nat).contains c) 15)) (stE (litM (.bl true)) rtM))))
theorem den_Editor_redo : dSs (dS d_Editor_redo 40 (defScope s_Editor_redo) fnT) (defBody s_Editor_redo) = m_Editor_redo := by kernel_rfl
theorem run_Editor_redo (us : List U) (G : List Ob) : runB d_Editor_redo 40 s_Editor_redo us G = runR (m_Editor_redo (startS d_Editor_redo.N us) G) := congrArg (fun m : MS => runR (m (startS d_Editor_redo.N us) G)) den_Editor_redo

def r_Editor_redo : RunD := fun us G => runR (m_Editor_redo (startS d_Editor_redo.N us) G)
theorem le_Editor_redo : Le r_Editor_redo (runB d_Editor_redo 40 s_Editor_redo) := fun us G => .inr (run_Editor_redo us G).symm

/-! done_word -/
abbrev s_done_word : Stmt := top 36
def d_done_word : Dn where
  N := ["editor", "word"]
  gl := []
  bl := bls
  ty := []
  cls := [0]
  att := []
  mth := [("undo", (29, [(3, (1, r_Editor_undo))])), ("redo", (30, [(3, (1, r_Editor_redo))])), ("replace_hit", (28, [(3, (1, r_Editor_replace_hit))])), ("keep_hit", (27, [(3, (1, r_Editor_keep_hit))])), ("next", (24, [(3, (1, r_Editor_next))]))]
  eqt := []
  mu := []
  rmu := false
def m_done_word : MS := (seqM (ifM (tobM (bin2 (eqX false (fun c => d_done_word.eqt.lookup c)) (varM 1) (litM (.str (Str.ofString "next").cps.toList)))) (stE (methM (fun c => ([(3, (1, r_Editor_next))] : List (Nat × (Nat × RunD))).lookup c) 24 (varM 0) nilA) rtM) nxM) (seqM (ifM (tobM (bin2 (eqX false (fun c => d_done_word.eqt.lookup c)) (varM 1) (litM (.str (Str.ofString "round").cps.toList)))) (stE badE rtM) nxM) (seqM (ifM (tobM (bin2 (eqX false (fun c => d_done_word.eqt.lookup c)) (varM 1) (litM (.str (Str.ofString "back").cps.toList)))) (stE badE rtM) nxM) (seqM (ifM (tobM (bin2 (eqX false (fun c => d_done_word.eqt.lookup c)) (varM 1) (litM (.str (Str.ofString "keep").cps.toList)))) (stE (methM (fun c => ([(3, (1, r_Editor_keep_hit))] : List (Nat × (Nat × RunD))).lookup c) 27 (varM 0) nilA) rtM) nxM) (seqM (ifM (tobM (bin2 (eqX false (fun c => d_done_word.eqt.lookup c)) (varM 1) (litM (.str (Str.ofString "replace").cps.toList)))) (stE (methM (fun c => ([(3, (1, r_Editor_replace_hit))] : List (Nat × (Nat × RunD))).lookup c) 28 (varM 0) nilA) rtM) nxM) (seqM (ifM (tobM (bin2 (eqX false (fun c => d_done_word.eqt.lookup c)) (varM 1) (litM (.str (Str.ofString "rest").cps.toList)))) (stE badE rtM) nxM) (stE (iteM (tobM (bin2 (eqX false (fun c => d_done_word.eqt.lookup c)) (varM 1) (litM (.str (Str.ofString "undo").cps.toList)))) (methM (fun c => ([(3, (1, r_Editor_undo))] : List (Nat × (Nat × RunD))).lookup c) 29 (varM 0) nilA) (methM (fun c => ([(3, (1, r_Editor_redo))] : List (Nat × (Nat × RunD))).lookup c) 30 (varM 0) nilA)) rtM)))))))
theorem den_done_word : dSs (dS d_done_word 40 (defScope s_done_word) fnT) (defBody s_done_word) = m_done_word := by kernel_rfl
theorem run_done_word (us : List U) (G : List Ob) : runB d_done_word 40 s_done_word us G = runR (m_done_word (startS d_done_word.N us) G) := congrArg (fun m : MS => runR (m (startS d_done_word.N us) G)) den_done_word

def r_done_word : RunD := fun us G => runR (m_done_word (startS d_done_word.N us) G)
theorem le_done_word : Le r_done_word (runB d_done_word 40 s_done_word) := fun us G => .inr (run_done_word us G).symm

/-! told_word -/
abbrev s_told_word : Stmt := top 37
def d_told_word : Dn where
  N := ["editor", "word"]
  gl := [("done_word", .fn 2 r_done_word)]
  bl := bls
  ty := []
  cls := [0]
  att := []
  mth := []
  eqt := []
  mu := []
  rmu := false
  xc := [("NothingChosen", (7, none)), ("Endless", (8, some 18))]
  xs := exs
  xi := exi
def m_told_word : MS := (tryM exs (stE (callM 2 r_done_word (consA (varM 0) (consA (varM 1) nilA))) rtM) [⟨7, none, (retX (litX (.str (Str.ofString "NothingChosen").cps.toList)))⟩, ⟨8, none, (retX (litX (.str (Str.ofString "Endless").cps.toList)))⟩])
theorem den_told_word : dSs (dS d_told_word 40 (defScope s_told_word) fnT) (defBody s_told_word) = m_told_word := by kernel_rfl
theorem run_told_word (us : List U) (G : List Ob) : runB d_told_word 40 s_told_word us G = runR (m_told_word (startS d_told_word.N us) G) := congrArg (fun m : MS => runR (m (startS d_told_word.N us) G)) den_told_word

def r_told_word : RunD := fun us G => runR (m_told_word (startS d_told_word.N us) G)
theorem le_told_word : Le r_told_word (runB d_told_word 40 s_told_word) := fun us G => .inr (run_told_word us G).symm

/-! played -/
abbrev s_played : Stmt := top 38
def d_played : Dn where
  N := ["editor", "words", "index", "word"]
  gl := [("told_word", .fn 2 r_told_word), ("is_one_of", .fn 2 r_is_one_of), ("WORDS", .con c_WORDS)]
  bl := bls
  ty := []
  cls := [0]
  att := []
  mth := []
  eqt := []
  mu := []
  rmu := false
  xc := [("UnknownWord", (9, some 21))]
  xs := exs
  xi := exi
def m_played : MS := (seqM (forM (enI (varM 1)) (tupG 2 (consG (nameG 2) (consG (nameG 3) nilG))) (ifM (notT (tobM (callM 2 r_is_one_of (consA (varM 3) (consA (litM c_WORDS) nilA))))) (stE (varM 2) (raiseM 9 21)) nxM)) (stE (compM false (seqI (varM 1)) (nameG 3) yesT (callM 2 r_told_word (consA (varM 0) (consA (varM 3) nilA))) [3]) rtM))
theorem den_played : dSs (dS d_played 40 (defScope s_played) fnT) (defBody s_played) = m_played := by kernel_rfl
theorem run_played (us : List U) (G : List Ob) : runB d_played 40 s_played us G = runR (m_played (startS d_played.N us) G) := congrArg (fun m : MS => runR (m (startS d_played.N us) G)) den_played

def r_played : RunD := fun us G => runR (m_played (startS d_played.N us) G)
theorem le_played : Le r_played (runB d_played 40 s_played) := fun us G => .inr (run_played us G).symm

/-! _law_random -/
abbrev s__law_random : Stmt := top 40
def d__law_random : Dn where
  N := ["_law_script", "_law_salt", "_law_seed", "_law_cell"]
  gl := []
  bl := bls
  ty := []
  cls := [0]
  att := []
  mth := []
  eqt := []
  mu := []
  rmu := true
def m__law_random : MS := (seqM (stE (varM 1) (setM 2)) (seqM (forM (seqI (varM 0)) (nameG 3) (stE (bin2 modU (preM intU1 (consA (bin2 (addU false) (bin2 (mulU false) (varM 2) (litM (.int 31))) (preM absU (consA (varM 3) nilA))) nilA)) (litM (.int 2147483647))) (setM 2))) (stE (bin2 (addU true) (lstM false (consA (varM 2) (consA (litM (.int 0)) nilA))) (compM false (seqI (varM 0)) (nameG 3) (tobM (bin2 (cmpU fun i j => decide (j ≤ i)) (varM 3) (bin2 powU (litM (.int 10)) (litM (.int 18))))) (varM 3) [3])) rtM)))
theorem den__law_random : dSs (dS d__law_random 40 (defScope s__law_random) fnT) (defBody s__law_random) = m__law_random := by kernel_rfl
theorem run__law_random (us : List U) (G : List Ob) : runB d__law_random 40 s__law_random us G = runR (m__law_random (startS d__law_random.N us) G) := congrArg (fun m : MS => runR (m (startS d__law_random.N us) G)) den__law_random

/-! _law_below -/
abbrev s__law_below : Stmt := top 41
def d__law_below : Dn where
  N := ["_law_d", "_law_size", "_law_result"]
  gl := []
  bl := bls
  ty := []
  cls := [0]
  att := []
  mth := []
  eqt := []
  mu := []
  rmu := false
def m__law_below : MS := (seqM (ifM (andT (tobM (bin2 (eqX false (fun c => d__law_below.eqt.lookup c)) (bin2 idxU (varM 0) (litM (.int 1))) (litM (.int 0)))) (tobM (bin2 (cmpU fun i j => decide (j < i)) (preM lenU (consA (varM 0) nilA)) (litM (.int 2))))) (stE3 (bmM popU (varM 0) (consA (litM (.int 2)) nilA)) (varM 0) (litM (.int 1)) itemM) nxM) (seqM (ifM (tobM (bin2 (cmpU fun i j => decide (j < i)) (bin2 idxU (varM 0) (litM (.int 1))) (litM (.int 0)))) (seqM (stE (bin2 modU (preM intU1 (consA (bin2 idxU (varM 0) (litM (.int 1))) nilA)) (varM 1)) (setM 2)) (seqM (stE3 (bin2 fdivU (bin2 idxU (varM 0) (litM (.int 1))) (varM 1)) (varM 0) (litM (.int 1)) itemM) (stE (varM 2) rtM))) nxM) (seqM (stE3 (bin2 modU (preM intU1 (consA (bin2 (addU false) (bin2 (mulU false) (bin2 idxU (varM 0) (litM (.int 0))) (litM (.int 48271))) (litM (.int 11))) nilA)) (litM (.int 2147483647))) (varM 0) (litM (.int 0)) itemM) (stE (bin2 modU (preM intU1 (consA (bin2 fdivU (bin2 idxU (varM 0) (litM (.int 0))) (litM (.int 64))) nilA)) (varM 1)) rtM))))
theorem den__law_below : dSs (dS d__law_below 40 (defScope s__law_below) fnT) (defBody s__law_below) = m__law_below := by kernel_rfl
theorem run__law_below (us : List U) (G : List Ob) : runB d__law_below 40 s__law_below us G = runR (m__law_below (startS d__law_below.N us) G) := congrArg (fun m : MS => runR (m (startS d__law_below.N us) G)) den__law_below

/-! _law_pick -/
abbrev s__law_pick : Stmt := top 42
def d__law_pick : Dn where
  N := ["_law_d", "_law_items"]
  gl := [("_law_below", .fn 2 r__law_below)]
  bl := bls
  ty := []
  cls := [0]
  att := []
  mth := []
  eqt := []
  mu := []
  rmu := false
def m__law_pick : MS := (stE (bin2 idxU (varM 1) (callM 2 r__law_below (consA (varM 0) (consA (preM lenU (consA (varM 1) nilA)) nilA)))) rtM)
theorem den__law_pick : dSs (dS d__law_pick 40 (defScope s__law_pick) fnT) (defBody s__law_pick) = m__law_pick := by kernel_rfl
theorem run__law_pick (us : List U) (G : List Ob) : runB d__law_pick 40 s__law_pick us G = runR (m__law_pick (startS d__law_pick.N us) G) := congrArg (fun m : MS => runR (m (startS d__law_pick.N us) G)) den__law_pick

/-! _law_equal -/
abbrev s__law_equal : Stmt := top 43
def d__law_equal : Dn where
  N := ["_law_actual", "_law_expected", "_law_k", "_law_key"]
  gl := []
  bl := bls
  ty := []
  cls := [0]
  att := []
  mth := []
  eqt := []
  mu := []
  rmu := false
def m__law_equal : MS := (seqM (ifM (tobM (bin2 (isU false) (varM 1) (litM .non))) (stE (bin2 (isU false) (varM 0) (litM .non)) rtM) nxM) (seqM (ifM (tobM (isiM [0] (.inl .bl) (varM 1))) (stE (andM (isiM [0] (.inl .bl) (varM 0)) (bin2 (eqX false (fun c => d__law_equal.eqt.lookup c)) (varM 0) (varM 1))) rtM) nxM) (seqM (ifM (tobM (isiM [0] (.inl .int) (varM 1))) (stE (andM (isiM [0] (.inl .int) (varM 0)) (andM (notM (isiM [0] (.inl .bl) (varM 0))) (bin2 (eqX false (fun c => d__law_equal.eqt.lookup c)) (varM 0) (varM 1)))) rtM) nxM) (seqM (ifM (tobM (isiM [0] (.inl .str) (varM 1))) (stE (andM (isiM [0] (.inl .str) (varM 0)) (bin2 (eqX false (fun c => d__law_equal.eqt.lookup c)) (varM 0) (varM 1))) rtM) nxM) (seqM (ifM (tobM (isiM [0] (.inl .dct) (varM 1))) (seqM (ifM (orT (notT (tobM (isiM [0] (.inl .dct) (varM 0)))) (tobM (bin2 (eqX true (fun c => d__law_equal.eqt.lookup c)) (preM (listU false) (consA (varM 0) nilA)) badE))) (stE (litM (.bl false)) rtM) nxM) (stE (preM allU (consA (compM false (seqI (preM (listU false) (consA (varM 0) nilA))) (nameG 3) yesT badE [3]) nilA)) rtM)) nxM) (seqM (ifM (tobM (bin2 (eqX true (fun c => d__law_equal.eqt.lookup c)) (isiM [0] (.inl .tup) (varM 1)) (isiM [0] (.inl .tup) (varM 0)))) (stE (litM (.bl false)) rtM) nxM) (seqM (ifM (tobM (bin2 (eqX true (fun c => d__law_equal.eqt.lookup c)) (isiM [0] (.inl .lst) (varM 1)) (isiM [0] (.inl .lst) (varM 0)))) (stE (litM (.bl false)) rtM) nxM) (seqM (ifM (tobM (bin2 (eqX true (fun c => d__law_equal.eqt.lookup c)) (preM lenU (consA (varM 0) nilA)) (preM lenU (consA (varM 1) nilA)))) (stE (litM (.bl false)) rtM) nxM) (stE (preM allU (consA (compM false (preI rng1U (consA (preM lenU (consA (varM 1) nilA)) nilA)) (nameG 2) yesT badE [2]) nilA)) rtM)))))))))
theorem den__law_equal : dSs (dS d__law_equal 40 (defScope s__law_equal) fnT) (defBody s__law_equal) = m__law_equal := by kernel_rfl
theorem run__law_equal (us : List U) (G : List Ob) : runB d__law_equal 40 s__law_equal us G = runR (m__law_equal (startS d__law_equal.N us) G) := congrArg (fun m : MS => runR (m (startS d__law_equal.N us) G)) den__law_equal

/-! _law_equal_1 -/

def d__law_equal_1 : Dn where
  N := ["_law_actual", "_law_expected", "_law_k", "_law_key"]
  gl := [("_law_equal", .fn 2 r__law_equal)]
  bl := bls
  ty := []
  cls := [0]
  att := []
  mth := []
  eqt := []
  mu := []
  rmu := false
def m__law_equal_1 : MS := (seqM (ifM (tobM (bin2 (isU false) (varM 1) (litM .non))) (stE (bin2 (isU false) (varM 0) (litM .non)) rtM) nxM) (seqM (ifM (tobM (isiM [0] (.inl .bl) (varM 1))) (stE (andM (isiM [0] (.inl .bl) (varM 0)) (bin2 (eqX false (fun c => d__law_equal_1.eqt.lookup c)) (varM 0) (varM 1))) rtM) nxM) (seqM (ifM (tobM (isiM [0] (.inl .int) (varM 1))) (stE (andM (isiM [0] (.inl .int) (varM 0)) (andM (notM (isiM [0] (.inl .bl) (varM 0))) (bin2 (eqX false (fun c => d__law_equal_1.eqt.lookup c)) (varM 0) (varM 1)))) rtM) nxM) (seqM (ifM (tobM (isiM [0] (.inl .str) (varM 1))) (stE (andM (isiM [0] (.inl .str) (varM 0)) (bin2 (eqX false (fun c => d__law_equal_1.eqt.lookup c)) (varM 0) (varM 1))) rtM) nxM) (seqM (ifM (tobM (isiM [0] (.inl .dct) (varM 1))) (seqM (ifM (orT (notT (tobM (isiM [0] (.inl .dct) (varM 0)))) (tobM (bin2 (eqX true (fun c => d__law_equal_1.eqt.lookup c)) (preM (listU false) (consA (varM 0) nilA)) badE))) (stE (litM (.bl false)) rtM) nxM) (stE (preM allU (consA (compM false (seqI (preM (listU false) (consA (varM 0) nilA))) (nameG 3) yesT (callM 2 r__law_equal (consA (bin2 idxU (varM 0) (varM 3)) (consA (bin2 idxU (varM 1) (varM 3)) nilA))) [3]) nilA)) rtM)) nxM) (seqM (ifM (tobM (bin2 (eqX true (fun c => d__law_equal_1.eqt.lookup c)) (isiM [0] (.inl .tup) (varM 1)) (isiM [0] (.inl .tup) (varM 0)))) (stE (litM (.bl false)) rtM) nxM) (seqM (ifM (tobM (bin2 (eqX true (fun c => d__law_equal_1.eqt.lookup c)) (isiM [0] (.inl .lst) (varM 1)) (isiM [0] (.inl .lst) (varM 0)))) (stE (litM (.bl false)) rtM) nxM) (seqM (ifM (tobM (bin2 (eqX true (fun c => d__law_equal_1.eqt.lookup c)) (preM lenU (consA (varM 0) nilA)) (preM lenU (consA (varM 1) nilA)))) (stE (litM (.bl false)) rtM) nxM) (stE (preM allU (consA (compM false (preI rng1U (consA (preM lenU (consA (varM 1) nilA)) nilA)) (nameG 2) yesT (callM 2 r__law_equal (consA (bin2 idxU (varM 0) (varM 2)) (consA (bin2 idxU (varM 1) (varM 2)) nilA))) [2]) nilA)) rtM)))))))))
theorem den__law_equal_1 : dSs (dS d__law_equal_1 40 (defScope s__law_equal) fnT) (defBody s__law_equal) = m__law_equal_1 := by kernel_rfl
theorem run__law_equal_1 (us : List U) (G : List Ob) : runB d__law_equal_1 40 s__law_equal us G = runR (m__law_equal_1 (startS d__law_equal_1.N us) G) := congrArg (fun m : MS => runR (m (startS d__law_equal_1.N us) G)) den__law_equal_1

/-! _law_drawn -/
abbrev s__law_drawn : Stmt := top 44
def d__law_drawn : Dn where
  N := ["_law_d", "_law_word", "_law_new", "_law_chances", "_law_goes"]
  gl := [("_law_pick", .fn 2 r__law_pick), ("_law_below", .fn 2 r__law_below)]
  bl := bls
  ty := []
  cls := [0]
  att := []
  mth := []
  eqt := []
  mu := []
  rmu := false
def m__law_drawn : MS := (seqM (stE (callM 2 r__law_pick (consA (varM 0) (consA (lstM false (consA (litM (.str (Str.ofString "a").cps.toList)) (consA (litM (.str (Str.ofString "ab").cps.toList)) (consA (litM (.str (Str.ofString "aa").cps.toList)) (consA (litM (.str (Str.ofString "aba").cps.toList)) (consA (litM (.str (Str.ofString "aab").cps.toList)) (consA (litM (.str (Str.ofString "abc").cps.toList)) nilA))))))) nilA))) (setM 1)) (seqM (stE (callM 2 r__law_pick (consA (varM 0) (consA (lstM false (consA (litM (.str (Str.ofString "").cps.toList)) (consA (litM (.str (Str.ofString "a").cps.toList)) (consA (litM (.str (Str.ofString "b").cps.toList)) (consA (litM (.str (Str.ofString "ab").cps.toList)) (consA (litM (.str (Str.ofString "ba").cps.toList)) (consA (litM (.str (Str.ofString "aa").cps.toList)) (consA (litM (.str (Str.ofString "aba").cps.toList)) (consA (litM (.str (Str.ofString "bab").cps.toList)) (consA (litM (.str (Str.ofString "aab").cps.toList)) (consA (litM (.str (Str.ofString "c").cps.toList)) nilA))))))))))) nilA))) (setM 2)) (seqM (stE (lstM false (consA (tupM (consA (litM (.str (Str.ofString "replace").cps.toList)) nilA)) (consA (tupM (consA (litM (.str (Str.ofString "replace").cps.toList)) nilA)) (consA (tupM (consA (litM (.str (Str.ofString "replace").cps.toList)) (consA (litM (.str (Str.ofString "keep").cps.toList)) nilA))) (consA (tupM (consA (litM (.str (Str.ofString "keep").cps.toList)) (consA (litM (.str (Str.ofString "replace").cps.toList)) nilA))) (consA (tupM (consA (litM (.str (Str.ofString "keep").cps.toList)) (consA (litM (.str (Str.ofString "keep").cps.toList)) (consA (litM (.str (Str.ofString "replace").cps.toList)) nilA)))) nilA)))))) (setM 3)) (seqM (stE (bin2 (addU false) (varM 3) (lstM false (consA (tupM (consA (litM (.str (Str.ofString "replace").cps.toList)) (consA (litM (.str (Str.ofString "replace").cps.toList)) (consA (litM (.str (Str.ofString "stop").cps.toList)) nilA)))) (consA (tupM (consA (litM (.str (Str.ofString "keep").cps.toList)) nilA)) (consA (tupM (consA (litM (.str (Str.ofString "keep").cps.toList)) (consA (litM (.str (Str.ofString "replace").cps.toList)) (consA (litM (.str (Str.ofString "stop").cps.toList)) nilA)))) nilA))))) (setM 3)) (seqM (stE (callM 2 r__law_pick (consA (varM 0) (consA (lstM false (consA (litM (.str (Str.ofString "one").cps.toList)) (consA (litM (.str (Str.ofString "all").cps.toList)) nilA))) nilA))) (setM 4)) (stE (tupM (consA (varM 1) (consA (varM 2) (consA (varM 4) (consA (callM 2 r__law_pick (consA (varM 0) (consA (lstM false (consA (litM (.str (Str.ofString "first").cps.toList)) (consA (litM (.str (Str.ofString "last").cps.toList)) (consA (litM (.str (Str.ofString "behind").cps.toList)) nilA)))) nilA))) (consA (callM 2 r__law_pick (consA (varM 0) (consA (varM 3) nilA))) (consA (bin2 (addU false) (litM (.int 1)) (callM 2 r__law_below (consA (varM 0) (consA (litM (.int 2)) nilA)))) nilA))))))) rtM))))))
theorem den__law_drawn : dSs (dS d__law_drawn 40 (defScope s__law_drawn) fnT) (defBody s__law_drawn) = m__law_drawn := by kernel_rfl
theorem run__law_drawn (us : List U) (G : List Ob) : runB d__law_drawn 40 s__law_drawn us G = runR (m__law_drawn (startS d__law_drawn.N us) G) := congrArg (fun m : MS => runR (m (startS d__law_drawn.N us) G)) den__law_drawn

/-! _law_make -/
abbrev s__law_make : Stmt := top 45
def d__law_make : Dn where
  N := ["_law_s"]
  gl := [("Stepper", .mkK 0 2 ["keep", "turn", "deeds", "passes"] r_Stepper_init)]
  bl := bls
  ty := []
  cls := [0]
  att := []
  mth := []
  eqt := []
  mu := []
  rmu := false
def m__law_make : MS := (stE (makeKM 0 2 4 r_Stepper_init (consA (bin2 idxU (varM 0) (litM (.int 0))) (consA (bin2 idxU (varM 0) (litM (.int 1))) nilA)) (consA (bin2 idxU (varM 0) (litM (.int 2))) (consA (bin2 idxU (varM 0) (litM (.int 3))) (consA (bin2 idxU (varM 0) (litM (.int 4))) (consA (bin2 idxU (varM 0) (litM (.int 5))) nilA))))) rtM)
theorem den__law_make : dSs (dS d__law_make 40 (defScope s__law_make) fnT) (defBody s__law_make) = m__law_make := by kernel_rfl
theorem run__law_make (us : List U) (G : List Ob) : runB d__law_make 40 s__law_make us G = runR (m__law_make (startS d__law_make.N us) G) := congrArg (fun m : MS => runR (m (startS d__law_make.N us) G)) den__law_make

/-! _law_text -/
abbrev s__law_text : Stmt := top 46
def d__law_text : Dn where
  N := ["_law_d", "_law_s", "_law_many", "_law_text_here", "_law_lap"]
  gl := [("_law_below", .fn 2 r__law_below), ("_law_pick", .fn 2 r__law_pick)]
  bl := bls
  ty := []
  cls := [0]
  att := []
  mth := []
  eqt := []
  mu := []
  rmu := false
def m__law_text : MS := (seqM (stE (litM (.str (Str.ofString "").cps.toList)) (setM 3)) (seqM (forM (preI rng1U (consA (callM 2 r__law_below (consA (varM 0) (consA (bin2 (addU false) (varM 2) (litM (.int 1))) nilA))) nilA)) (nameG 4) (stE (bin2 (addU false) (varM 3) (callM 2 r__law_pick (consA (varM 0) (consA (lstM false (consA (litM (.str (Str.ofString "a").cps.toList)) (consA (litM (.str (Str.ofString "b").cps.toList)) (consA (litM (.str (Str.ofString "c").cps.toList)) (consA (bin2 idxU (varM 1) (litM (.int 0))) (consA (bin2 idxU (varM 1) (litM (.int 0))) (consA (slM false (bin2 idxU (varM 1) (litM (.int 0))) noneO (someO (litM (.int 1)))) (consA (slM false (bin2 idxU (varM 1) (litM (.int 0))) (someO (litM (.int 1))) noneO) nilA)))))))) nilA)))) (setM 3))) (stE (slM false (varM 3) noneO (someO (varM 2))) rtM)))
theorem den__law_text : dSs (dS d__law_text 40 (defScope s__law_text) fnT) (defBody s__law_text) = m__law_text := by kernel_rfl
theorem run__law_text (us : List U) (G : List Ob) : runB d__law_text 40 s__law_text us G = runR (m__law_text (startS d__law_text.N us) G) := congrArg (fun m : MS => runR (m (startS d__law_text.N us) G)) den__law_text

/-! _law_find -/
abbrev s__law_find : Stmt := top 47
def d__law_find : Dn where
  N := ["_law_word", "_law_items", "_law_start", "_law_place", "_law_item"]
  gl := []
  bl := bls
  ty := []
  cls := [0]
  att := []
  mth := []
  eqt := []
  mu := []
  rmu := false
def m__law_find : MS := (seqM (forM (preI rng2U (consA (varM 2) (consA (bin2 (addU false) (bin2 subU (preM lenU (consA (varM 1) nilA)) (preM lenU (consA (varM 0) nilA))) (litM (.int 1))) nilA))) (nameG 3) (ifM (tobM (bin2 (eqX false (fun c => d__law_find.eqt.lookup c)) (joinM (litM (.str (Str.ofString "").cps.toList)) (compM false (seqI (slM false (varM 1) (someO (varM 3)) (someO (bin2 (addU false) (varM 3) (preM lenU (consA (varM 0) nilA)))))) (nameG 4) yesT (bin2 idxU (varM 4) (litM (.int 0))) [4])) (varM 0))) (stE (varM 3) rtM) nxM)) (stE (negM (litM (.int 1))) rtM))
theorem den__law_find : dSs (dS d__law_find 40 (defScope s__law_find) fnT) (defBody s__law_find) = m__law_find := by kernel_rfl
theorem run__law_find (us : List U) (G : List Ob) : runB d__law_find 40 s__law_find us G = runR (m__law_find (startS d__law_find.N us) G) := congrArg (fun m : MS => runR (m (startS d__law_find.N us) G)) den__law_find

/-! _law_ahead -/
abbrev s__law_ahead : Stmt := top 48
def d__law_ahead : Dn where
  N := ["_law_s"]
  gl := []
  bl := bls
  ty := []
  cls := [0]
  att := []
  mth := []
  eqt := []
  mu := []
  rmu := false
def m__law_ahead : MS := (seqM (ifM (tobM (bin2 (eqX false (fun c => d__law_ahead.eqt.lookup c)) (bin2 idxU (varM 0) (litM (.int 3))) (litM (.str (Str.ofString "first").cps.toList)))) (stE (litM (.int 0)) rtM) nxM) (seqM (ifM (tobM (bin2 (eqX false (fun c => d__law_ahead.eqt.lookup c)) (bin2 idxU (varM 0) (litM (.int 3))) (litM (.str (Str.ofString "behind").cps.toList)))) (stE (preM lenU (consA (bin2 idxU (varM 0) (litM (.int 1))) nilA)) rtM) nxM) (stE (preM maxU (consA (litM (.int 0)) (consA (bin2 subU (preM lenU (consA (bin2 idxU (varM 0) (litM (.int 1))) nilA)) (litM (.int 1))) nilA))) rtM)))
theorem den__law_ahead : dSs (dS d__law_ahead 40 (defScope s__law_ahead) fnT) (defBody s__law_ahead) = m__law_ahead := by kernel_rfl
theorem run__law_ahead (us : List U) (G : List Ob) : runB d__law_ahead 40 s__law_ahead us G = runR (m__law_ahead (startS d__law_ahead.N us) G) := congrArg (fun m : MS => runR (m (startS d__law_ahead.N us) G)) den__law_ahead

/-! _law_pass -/
abbrev s__law_pass : Stmt := top 49
def d__law_pass : Dn where
  N := ["_law_s", "_law_items", "_law_text_here", "_law_caret", "_law_at", "_law_met", "_law_seen", "_law_many", "_law_place", "_law_deed", "_law_untouched", "_law_fresh", "_law_ahead_here", "_law_key", "_law_elder", "_law_pair", "_law_sign", "_law_item"]
  gl := [("_law_find", .fn 3 r__law_find), ("_law_ahead", .fn 1 r__law_ahead)]
  bl := bls
  ty := []
  cls := [0]
  att := []
  mth := []
  eqt := []
  mu := ["_law_met", "_law_seen"]
  rmu := false
def m__law_pass : MS := (seqM (stE (preM (listU false) (consA (varM 1) nilA)) (setM 2)) (seqM (stE (litM (.int 0)) (setM 3)) (seqM (stE (litM (.int 0)) (setM 4)) (seqM (stE (lstM true nilA) (setM 5)) (seqM (stE (lstM true nilA) (setM 6)) (seqM (stE (preM lenU (consA (bin2 idxU (varM 0) (litM (.int 0))) nilA)) (setM 7)) (seqM (stE (callM 3 r__law_find (consA (bin2 idxU (varM 0) (litM (.int 0))) (consA (varM 2) (consA (varM 3) nilA)))) (setM 8)) (seqM (whileL (tobM (bin2 (cmpU fun i j => decide (j ≤ i)) (varM 8) (litM (.int 0)))) (seqM (stE (bin2 idxU (bin2 idxU (varM 0) (litM (.int 4))) (varM 4)) (setM 9)) (seqM (stE (bin2 modU (bin2 (addU false) (varM 4) (litM (.int 1))) (preM lenU (consA (bin2 idxU (varM 0) (litM (.int 4))) nilA))) (setM 4)) (seqM (stE (bmM appendU (varM 5) (consA (tupM (consA (varM 9) (consA (varM 8) (consA (slM false (varM 2) (someO (varM 8)) (someO (bin2 (addU false) (varM 8) (varM 7)))) nilA)))) nilA)) (fun _ => nxM)) (seqM (stE (bin2 subU (bin2 subU (preM lenU (consA (varM 2) nilA)) (varM 8)) (varM 7)) (setM 10)) (seqM (stE (compM true (seqI (varM 6)) (nameG 15) (tobM (bin2 (cmpU fun i j => decide (i ≤ j)) (bin2 idxU (varM 15) (litM (.int 1))) (varM 10))) (varM 15) [15]) (setM 6)) (seqM (ifM (tobM (bin2 (eqX false (fun c => d__law_pass.eqt.lookup c)) (varM 9) (litM (.str (Str.ofString "stop").cps.toList)))) (stE (tupM (consA (varM 2) (consA (varM 5) nilA))) rtM) nxM) (seqM (ifM (tobM (bin2 (eqX false (fun c => d__law_pass.eqt.lookup c)) (varM 9) (litM (.str (Str.ofString "replace").cps.toList)))) (seqM (stE (compM false (seqI (bin2 idxU (varM 0) (litM (.int 1)))) (nameG 16) yesT (tupM (consA (varM 16) (consA (litM .non) nilA))) [16]) (setM 11)) (seqM (stE (bin2 (addU false) (bin2 (addU false) (slM false (varM 2) noneO (someO (varM 8))) (varM 11)) (slM false (varM 2) (someO (bin2 (addU false) (varM 8) (varM 7))) noneO)) (setM 2)) (seqM (stE (bin2 (addU false) (varM 8) (callM 1 r__law_ahead (consA (varM 0) nilA))) (setM 3)) (seqM (stE (bin2 subU (preM lenU (consA (varM 2) nilA)) (varM 3)) (setM 12)) (seqM (stE (tupM (consA (varM 4) (consA (joinM (litM (.str (Str.ofString "").cps.toList)) (compM false (seqI (slM false (varM 2) (someO (varM 3)) (someO (bin2 (addU false) (varM 3) (litM (.int 12)))))) (nameG 17) yesT (bin2 idxU (varM 17) (litM (.int 0))) [17])) nilA))) (setM 13)) (seqM (stE (compM false (seqI (varM 6)) (nameG 15) (andT (tobM (bin2 (eqX false (fun c => d__law_pass.eqt.lookup c)) (bin2 idxU (varM 15) (litM (.int 0))) (varM 13))) (tobM (bin2 (cmpU fun i j => decide (i ≤ j)) (bin2 idxU (varM 15) (litM (.int 2))) (varM 12)))) (varM 15) [15]) (setM 14)) (seqM (ifM (tobM (bin2 (eqX true (fun c => d__law_pass.eqt.lookup c)) (varM 14) (lstM false nilA))) (stE (litM .non) rtM) nxM) (stE (bmM appendU (varM 6) (consA (tupM (consA (varM 13) (consA (preM maxU (consA (litM (.int 0)) (consA (bin2 subU (varM 12) (litM (.int 12))) nilA))) (consA (varM 12) nilA)))) nilA)) (fun _ => nxM))))))))) (ifM (tobM (bin2 (eqX false (fun c => d__law_pass.eqt.lookup c)) (bin2 idxU (varM 0) (litM (.int 2))) (litM (.str (Str.ofString "one").cps.toList)))) (stE (bin2 (addU false) (varM 8) (litM (.int 1))) (setM 3)) (stE (bin2 (addU false) (varM 8) (varM 7)) (setM 3)))) (stE (callM 3 r__law_find (consA (bin2 idxU (varM 0) (litM (.int 0))) (consA (varM 2) (consA (varM 3) nilA)))) (setM 8))))))))) wF) (stE (tupM (consA (varM 2) (consA (varM 5) nilA))) rtM)))))))))
theorem den__law_pass : dSs (dS d__law_pass 40 (defScope s__law_pass) fnT) (defBody s__law_pass) = m__law_pass := by kernel_rfl
theorem run__law_pass (us : List U) (G : List Ob) : runB d__law_pass 40 s__law_pass us G = runR (m__law_pass (startS d__law_pass.N us) G) := congrArg (fun m : MS => runR (m (startS d__law_pass.N us) G)) den__law_pass

/-! _law_signs -/
abbrev s__law_signs : Stmt := top 50
def d__law_signs : Dn where
  N := ["_law_items", "_law_item"]
  gl := []
  bl := bls
  ty := []
  cls := [0]
  att := []
  mth := []
  eqt := []
  mu := []
  rmu := false
def m__law_signs : MS := (stE (joinM (litM (.str (Str.ofString "").cps.toList)) (compM false (seqI (varM 0)) (nameG 1) yesT (bin2 idxU (varM 1) (litM (.int 0))) [1])) rtM)
theorem den__law_signs : dSs (dS d__law_signs 40 (defScope s__law_signs) fnT) (defBody s__law_signs) = m__law_signs := by kernel_rfl
theorem run__law_signs (us : List U) (G : List Ob) : runB d__law_signs 40 s__law_signs us G = runR (m__law_signs (startS d__law_signs.N us) G) := congrArg (fun m : MS => runR (m (startS d__law_signs.N us) G)) den__law_signs

/-! _law_refused -/
abbrev s__law_refused : Stmt := top 51
def d__law_refused : Dn where
  N := ["_law_editor", "_law_words", "_law_found", "e"]
  gl := [("played", .fn 2 r_played)]
  bl := bls
  ty := []
  cls := [0]
  att := [("index", (21, [], []))]
  mth := []
  eqt := []
  mu := []
  rmu := false
  xc := [("UnknownWord", (9, some 21))]
  xs := exs
  xi := exi
def m__law_refused : MS := (seqM (stE (litM .non) (setM 2)) (seqM (tryM exs (stE (callM 2 r_played (consA (varM 0) (consA (varM 1) nilA))) (fun _ => nxM)) [⟨9, (some 3), (setX 2 (fldX 9 21))⟩]) (stE (varM 2) rtM)))
theorem den__law_refused : dSs (dS d__law_refused 40 (defScope s__law_refused) fnT) (defBody s__law_refused) = m__law_refused := by kernel_rfl
theorem run__law_refused (us : List U) (G : List Ob) : runB d__law_refused 40 s__law_refused us G = runR (m__law_refused (startS d__law_refused.N us) G) := congrArg (fun m : MS => runR (m (startS d__law_refused.N us) G)) den__law_refused

def r__law_refused : RunD := fun us G => runR (m__law_refused (startS d__law_refused.N us) G)
theorem le__law_refused : Le r__law_refused (runB d__law_refused 40 s__law_refused) := fun us G => .inr (run__law_refused us G).symm

/-! law -/
abbrev s_law : Stmt := top 52
def d_law : Dn where
  N := ["_law_script", "_law_d", "_law_s", "_law_text_here", "_law_found", "_law_editor", "_law_wrong", "_law_words", "_law_due", "_law_many", "_law_items", "_law_met", "_law_deed", "_law_place", "_law_hit", "_law_sign"]
  gl := [("_law_signs", .fn 1 r__law_signs), ("played", .fn 2 r_played), ("_law_equal", .fn 2 r__law_equal_1), ("_law_refused", .fn 2 r__law_refused), ("_law_pick", .fn 2 r__law_pick), ("Editor", .mk 3 3 r_Editor_init), ("_law_make", .fn 1 r__law_make), ("_law_pass", .fn 2 r__law_pass), ("_law_text", .fn 3 r__law_text), ("_law_drawn", .fn 1 r__law_drawn), ("_law_random", .fn 2 r__law_random)]
  bl := bls
  ty := []
  cls := [0]
  att := [("text", (20, [], [(3, r_Editor_text)]))]
  mth := []
  eqt := []
  mu := []
  rmu := false
def m_law : MS := (seqM (stE (callM 2 r__law_random (consA (varM 0) (consA (litM (.int 15)) nilA))) (setM 1)) (seqM (stE (callM 1 r__law_drawn (consA (varM 1) nilA)) (setM 2)) (seqM (stE (bin2 (addU false) (slM false (varM 2) noneO (someO (litM (.int 5)))) (tupM (consA (litM (.int 1)) nilA))) (setM 2)) (seqM (stE (callM 3 r__law_text (consA (varM 1) (consA (varM 2) (consA (litM (.int 10)) nilA)))) (setM 3)) (seqM (stE (callM 2 r__law_pass (consA (varM 2) (consA (compM false (seqI (varM 3)) (nameG 15) yesT (tupM (consA (varM 15) (consA (litM .non) nilA))) [15]) nilA))) (setM 4)) (seqM (stE (makeM 3 3 r_Editor_init (consA (callM 1 r__law_make (consA (varM 2) nilA)) (consA (varM 3) nilA))) (setM 5)) (seqM (stE (callM 2 r__law_pick (consA (varM 1) (consA (lstM false (consA (litM (.str (Str.ofString "stop").cps.toList)) (consA (litM (.str (Str.ofString "").cps.toList)) (consA (litM .non) (consA (litM (.int 4)) nilA))))) nilA))) (setM 6)) (seqM (ifM (orT (tobM (bin2 (eqX true (fun c => d_law.eqt.lookup c)) (callM 2 r__law_refused (consA (varM 5) (consA (lstM false (consA (litM (.str (Str.ofString "next").cps.toList)) (consA (litM (.str (Str.ofString "replace").cps.toList)) (consA (varM 6) (consA (litM (.str (Str.ofString "keep").cps.toList)) nilA))))) nilA))) (litM (.int 2)))) (tobM (bin2 (eqX true (fun c => d_law.eqt.lookup c)) (attrM (fun c => (([(3, r_Editor_text)] : List (Nat × RunD)).lookup c).map attrP) (fun c => ([] : List Nat).contains c) 20 (varM 5)) (varM 3)))) (stE (litM (.bl false)) rtM) nxM) (seqM (ifM (tobM (bin2 (eqX true (fun c => d_law.eqt.lookup c)) (callM 2 r_played (consA (varM 5) (consA (lstM false (consA (litM (.str (Str.ofString "keep").cps.toList)) (consA (litM (.str (Str.ofString "undo").cps.toList)) (consA (litM (.str (Str.ofString "redo").cps.toList)) nilA)))) nilA))) (lstM false (consA (litM (.str (Str.ofString "NothingChosen").cps.toList)) (consA (litM (.bl false)) (consA (litM (.bl false)) nilA)))))) (stE (litM (.bl false)) rtM) nxM) (seqM (ifM (tobM (bin2 (isU false) (varM 4) (litM .non))) (stE (litM (.bl true)) rtM) nxM) (seqM (stE (varM 4) (asgM (tupG 2 (consG (nameG 10) (consG (nameG 11) nilG))))) (seqM (stE (lstM false nilA) (setM 7)) (seqM (stE (lstM false nilA) (setM 8)) (seqM (forM (seqI (varM 11)) (tupG 3 (consG (nameG 12) (consG (nameG 13) (consG (nameG 14) nilG)))) (ifM (tobM (bin2 (eqX true (fun c => d_law.eqt.lookup c)) (varM 12) (litM (.str (Str.ofString "stop").cps.toList)))) (seqM (stE (bin2 (addU false) (varM 7) (lstM false (consA (litM (.str (Str.ofString "next").cps.toList)) (consA (varM 12) nilA)))) (setM 7)) (stE (bin2 (addU false) (varM 8) (lstM false (consA (varM 13) (consA (litM .non) nilA)))) (setM 8))) nxM)) (seqM (ifM (orT (notT (tobM (callM 2 r__law_equal_1 (consA (callM 2 r_played (consA (varM 5) (consA (varM 7) nilA))) (consA (varM 8) nilA))))) (tobM (bin2 (eqX true (fun c => d_law.eqt.lookup c)) (attrM (fun c => (([(3, r_Editor_text)] : List (Nat × RunD)).lookup c).map attrP) (fun c => ([] : List Nat).contains c) 20 (varM 5)) (callM 1 r__law_signs (consA (varM 10) nilA))))) (stE (litM (.bl false)) rtM) nxM) (seqM (stE (bin2 fdivU (preM lenU (consA (varM 7) nilA)) (litM (.int 2))) (setM 9)) (seqM (ifM (orT (notT (tobM (callM 2 r__law_equal_1 (consA (callM 2 r_played (consA (varM 5) (consA (bin2 (mulU false) (lstM false (consA (litM (.str (Str.ofString "undo").cps.toList)) nilA)) (bin2 (addU false) (varM 9) (litM (.int 1)))) nilA))) (consA (bin2 (addU false) (bin2 (mulU false) (lstM false (consA (litM (.bl true)) nilA)) (varM 9)) (lstM false (consA (litM (.bl false)) nilA))) nilA))))) (tobM (bin2 (eqX true (fun c => d_law.eqt.lookup c)) (attrM (fun c => (([(3, r_Editor_text)] : List (Nat × RunD)).lookup c).map attrP) (fun c => ([] : List Nat).contains c) 20 (varM 5)) (varM 3)))) (stE (litM (.bl false)) rtM) nxM) (stE (andM (bin2 (eqX false (fun c => d_law.eqt.lookup c)) (callM 2 r_played (consA (varM 5) (consA (bin2 (mulU false) (lstM false (consA (litM (.str (Str.ofString "redo").cps.toList)) nilA)) (bin2 (addU false) (varM 9) (litM (.int 1)))) nilA))) (bin2 (addU false) (bin2 (mulU false) (lstM false (consA (litM (.bl true)) nilA)) (varM 9)) (lstM false (consA (litM (.bl false)) nilA)))) (bin2 (eqX false (fun c => d_law.eqt.lookup c)) (attrM (fun c => (([(3, r_Editor_text)] : List (Nat × RunD)).lookup c).map attrP) (fun c => ([] : List Nat).contains c) 20 (varM 5)) (callM 1 r__law_signs (consA (varM 10) nilA)))) rtM))))))))))))))))))
theorem den_law : dSs (dS d_law 40 (defScope s_law) fnT) (defBody s_law) = m_law := by kernel_rfl
theorem run_law (us : List U) (G : List Ob) : runB d_law 40 s_law us G = runR (m_law (startS d_law.N us) G) := congrArg (fun m : MS => runR (m (startS d_law.N us) G)) den_law

end FL

namespace FL
open PySem L2 PyProof.Rows
@[simp] theorem txt_3 : (Str.ofString "abc").cps.toList = [97, 98, 99] := by decide +kernel
@[simp] theorem txt_6 : (Str.ofString "one").cps.toList = [111, 110, 101] := by decide +kernel
@[simp] theorem txt_7 : (Str.ofString "all").cps.toList = [97, 108, 108] := by decide +kernel
@[simp] theorem txt_8 : (Str.ofString "first").cps.toList = [102, 105, 114, 115, 116] := by decide +kernel
@[simp] theorem txt_9 : (Str.ofString "last").cps.toList = [108, 97, 115, 116] := by decide +kernel
@[simp] theorem txt_10 : (Str.ofString "behind").cps.toList = [98, 101, 104, 105, 110, 100] := by decide +kernel
@[simp] theorem txt_11 : (Str.ofString "replace").cps.toList = [114, 101, 112, 108, 97, 99, 101] := by decide +kernel
@[simp] theorem txt_12 : (Str.ofString "keep").cps.toList = [107, 101, 101, 112] := by decide +kernel
@[simp] theorem txt_13 : (Str.ofString "stop").cps.toList = [115, 116, 111, 112] := by decide +kernel
@[simp] theorem txt_14 : (Str.ofString "turn").cps.toList = [116, 117, 114, 110] := by decide +kernel
@[simp] theorem txt_15 : (Str.ofString "deeds").cps.toList = [100, 101, 101, 100, 115] := by decide +kernel
@[simp] theorem txt_16 : (Str.ofString "passes").cps.toList = [112, 97, 115, 115, 101, 115] := by decide +kernel
@[simp] theorem txt_17 : (Str.ofString "next").cps.toList = [110, 101, 120, 116] := by decide +kernel
@[simp] theorem txt_18 : (Str.ofString "round").cps.toList = [114, 111, 117, 110, 100] := by decide +kernel
@[simp] theorem txt_19 : (Str.ofString "back").cps.toList = [98, 97, 99, 107] := by decide +kernel
@[simp] theorem txt_20 : (Str.ofString "rest").cps.toList = [114, 101, 115, 116] := by decide +kernel
@[simp] theorem txt_21 : (Str.ofString "undo").cps.toList = [117, 110, 100, 111] := by decide +kernel
@[simp] theorem txt_22 : (Str.ofString "redo").cps.toList = [114, 101, 100, 111] := by decide +kernel
@[simp] theorem txt_23 : (Str.ofString "").cps.toList = [] := by decide +kernel
@[simp] theorem txt_24 : (Str.ofString "word").cps.toList = [119, 111, 114, 100] := by decide +kernel
@[simp] theorem txt_25 : (Str.ofString "put").cps.toList = [112, 117, 116] := by decide +kernel
@[simp] theorem txt_26 : (Str.ofString "NothingChosen").cps.toList = [78, 111, 116, 104, 105, 110, 103, 67, 104, 111, 115, 101, 110] := by decide +kernel
@[simp] theorem txt_27 : (Str.ofString "Endless").cps.toList = [69, 110, 100, 108, 101, 115, 115] := by decide +kernel
@[simp] theorem txt_28 : (Str.ofString "a").cps.toList = [97] := by decide +kernel
@[simp] theorem txt_29 : (Str.ofString "ab").cps.toList = [97, 98] := by decide +kernel
@[simp] theorem txt_30 : (Str.ofString "aa").cps.toList = [97, 97] := by decide +kernel
@[simp] theorem txt_31 : (Str.ofString "aba").cps.toList = [97, 98, 97] := by decide +kernel
@[simp] theorem txt_32 : (Str.ofString "aab").cps.toList = [97, 97, 98] := by decide +kernel
@[simp] theorem txt_33 : (Str.ofString "b").cps.toList = [98] := by decide +kernel
@[simp] theorem txt_34 : (Str.ofString "ba").cps.toList = [98, 97] := by decide +kernel
@[simp] theorem txt_35 : (Str.ofString "bab").cps.toList = [98, 97, 98] := by decide +kernel
@[simp] theorem txt_36 : (Str.ofString "c").cps.toList = [99] := by decide +kernel
theorem le_is_integer : Le r_is_integer (runB d_is_integer 40 s_is_integer) := fun us G => by
  unfold r_is_integer
  split
  · refine .inr ?_
    rw [run_is_integer]
    simp [m_is_integer, d_is_integer, startS, runR, stE, andM, isiM, varM, tyOf, Ty.sub, notM, rtM]
  · exact .inl rfl
theorem le_is_text : Le r_is_text (runB d_is_text 40 s_is_text) := fun us G => by
  unfold r_is_text
  split
  · rename_i l
    split
    · rename_i hl
      refine .inr ?_
      rw [run_is_text]
      have hc : compM false (seqI (varM 0)) (nameG 1) yesT (bin2 (inU false) (varM 1) (litM c_SIGNS)) [1] [some (U.str l), none] G = newL false ((l.map fun c => U.str [c]).map fun u => match u with | .str a => .bl (infB a [97, 98, 99]) | u => u) G := by
        refine comp_items (by simp [seqI, varM]) fun u hu => ?_
        simp only [List.mem_map] at hu
        obtain ⟨c, _, rfl⟩ := hu
        exact ⟨_, rfl, rfl, by simp [bin2, varM, litM, inU, wipeS, c_SIGNS]⟩
      have hb : blsOf (l.map fun c => U.bl (infB [c] [97, 98, 99])) = some (l.map fun c => infB [c] [97, 98, 99]) := blsOf_fun _ _
      simp [m_is_text, d_is_text, startS, runR, stE, andM, isiM, varM, tyOf, Ty.sub, rtM, preM, consA, hc, newL_f, hl, nilA, allU, lstOf, Function.comp_def, hb, isT]
    · exact .inl rfl
  · refine .inr ?_
    rw [run_is_text]
    simp [m_is_text, d_is_text, startS, runR, stE, andM, isiM, varM, tyOf, Ty.sub, rtM]
  · exact .inl rfl
theorem flat_strs (zs : List W1) : (zs.map U.str).all flatU = true := by simp [flatU]
theorem eqF_strs (zs : List W1) (a : W1) : ((zs.map U.str).any fun z => eqF z (.str a)) = inW zs a := by simp [eqF, inW, List.any_map, Function.comp_def]
theorem inU_strs (zs : List W1) (a : W1) (G : List Ob) : inU false (.str a) (.tup (zs.map .str)) G = .ok (.bl (inW zs a)) G := by
  simp only [inU, seqOf, flat_strs, eqF_strs]
  simp [flatU]
theorem le_is_one_of : Le r_is_one_of (runB d_is_one_of 40 s_is_one_of) := fun us G => by
  unfold r_is_one_of
  split
  · rename_i a ws
    split
    · rename_i zs e
      refine .inr ?_
      rw [run_is_one_of, strsOf_eq e]
      simp [m_is_one_of, d_is_one_of, startS, runR, stE, andM, isiM, varM, tyOf, Ty.sub, rtM, bin2, inU_strs]
    · exact .inl rfl
  · refine .inr ?_
    rw [run_is_one_of]
    simp [m_is_one_of, d_is_one_of, startS, runR, stE, andM, isiM, varM, tyOf, Ty.sub, rtM]
  · refine .inr ?_
    rw [run_is_one_of]
    simp [m_is_one_of, d_is_one_of, startS, runR, stE, andM, isiM, varM, tyOf, Ty.sub, rtM]
  · exact .inl rfl
theorem deeds_eq : c_DEEDS = .tup (deedsL.map .str) := by simp [c_DEEDS, deedsL, wRep, wKeep, wStop]
theorem le_are_deeds : Le r_are_deeds (runB d_are_deeds 40 s_are_deeds) := fun us G => by
  unfold r_are_deeds
  split
  · rename_i ds
    split
    · rename_i zs e
      split
      · rename_i hl
        refine .inr ?_
        rw [run_are_deeds, strsOf_eq e]
        have hc : compM false (seqI (varM 0)) (nameG 1) yesT (callM 2 r_is_one_of (consA (varM 1) (consA (litM c_DEEDS) nilA))) [1] [some (U.tup (zs.map U.str)), none] G = newL false ((zs.map U.str).map fun u => match u with | .str a => .bl (inW deedsL a) | u => u) G := by
          refine comp_seq (u := .tup (zs.map .str)) (by simp [seqI, varM, seqOf]) (by simp [seqOf]) fun u hu => ?_
          simp only [List.mem_map] at hu
          obtain ⟨a, _, rfl⟩ := hu
          exact ⟨_, rfl, rfl, by simp [callM, consA, varM, litM, wipeS, nilA, arM, r_is_one_of, deeds_eq]⟩
        have hb : blsOf (zs.map fun c => U.bl (inW deedsL c)) = some (zs.map fun c => inW deedsL c) := blsOf_fun _ _
        by_cases h1 : 1 ≤ zs.length
        · by_cases h2 : zs.length ≤ 3
          · have h1' : 1 ≤ (zs.length : Int) := by omega
            have h2' : (zs.length : Int) ≤ 3 := by omega
            simp [m_are_deeds, d_are_deeds, startS, runR, stE, andM, isiM, varM, tyOf, Ty.sub, rtM, seqM, ifM, orT, notT, tobM, chM, preM, consA, nilA, lenU, seqOf, cmpU, litM, blU, bin2, hc, newL_f, hl, allU, lstOf, hb, nxM, Function.comp_def, h1', h2', okDs, h1, h2]
          · have h1' : 1 ≤ (zs.length : Int) := by omega
            have h2' : ¬ (zs.length : Int) ≤ 3 := by omega
            simp [m_are_deeds, d_are_deeds, startS, runR, stE, andM, isiM, varM, tyOf, Ty.sub, rtM, seqM, ifM, orT, notT, tobM, chM, preM, consA, nilA, lenU, seqOf, cmpU, litM, blU, bin2, nxM, h1', h2', okDs, h1, h2]
        · have h1' : ¬ 1 ≤ (zs.length : Int) := by omega
          simp [m_are_deeds, d_are_deeds, startS, runR, stE, andM, isiM, varM, tyOf, Ty.sub, rtM, seqM, ifM, orT, notT, tobM, chM, preM, consA, nilA, lenU, seqOf, cmpU, litM, blU, bin2, nxM, h1', okDs, h1]
      · exact .inl rfl
    · exact .inl rfl
  · exact .inl rfl
theorem okS_parts {w p k t : W1} {zs : List W1} {n : Int} (h : okS w p k t zs n = true) : isT w = true ∧ 1 ≤ w.length ∧ w.length ≤ 3 ∧ isT p = true ∧ p.length ≤ 3 ∧ inW keepsL k = true ∧ inW turnsL t = true ∧ okDs zs = true ∧ 1 ≤ n ∧ n ≤ 2 := by
  simpa [okS, and_assoc] using h
theorem keeps_eq : c_KEEPS = .tup (keepsL.map .str) := by simp [c_KEEPS, keepsL]
theorem turns_eq : c_TURNS = .tup (turnsL.map .str) := by simp [c_TURNS, turnsL]
theorem le_need_fields : Le r_need_fields (runB d_need_fields 40 s_need_fields) := fun us G => by
  unfold r_need_fields
  split
  · rename_i w p k t ds n
    split
    · rename_i zs e
      split
      · rename_i ho
        obtain ⟨h1, h2, h3, h4, h5, h6, h7, h8, h9, h10⟩ := okS_parts ho
        refine .inr ?_
        rw [run_need_fields, strsOf_eq e]
        have hz : zs.length ≤ szL := by
          have := h8
          simp [okDs] at this
          have := this.1.2
          exact Nat.le_trans this (by decide)
        have hw : w.length ≤ szL := Nat.le_trans h3 (by decide)
        have hp : p.length ≤ szL := Nat.le_trans h5 (by decide)
        have g2 : (1 : Int) ≤ w.length := by omega
        have g3 : (w.length : Int) ≤ 3 := by omega
        have g5 : ¬ (3 : Int) < p.length := by omega
        simp [m_need_fields, d_need_fields, startS, runR, seqM, ifM, orT, notT, tobM, callM, consA, nilA, varM, litM, arM, r_is_text, r_is_one_of, r_are_deeds, r_is_integer, blU, hz, hw, hp, h1, h4, keeps_eq, turns_eq, h6, h7, h8, chM, preM, lenU, cmpU, g2, g3, g5, h9, h10, nxM, bin2]
      · exact .inl rfl
    · exact .inl rfl
  · exact .inl rfl
theorem le_Stepper_init : Le r_Stepper_init (runB d_Stepper_init 40 s_Stepper_init) := fun us G => by
  unfold r_Stepper_init
  split
  · rename_i i w p k t ds n
    split
    · rename_i zs hg e
      split
      · rename_i ho
        refine .inr ?_
        rw [run_Stepper_init, strsOf_eq e]
        obtain ⟨hi, hg⟩ := List.getElem?_eq_some_iff.mp hg
        simp [m_Stepper_init, d_Stepper_init, startS, runR, seqM, stE, stE2, callM, consA, nilA, varM, arM, r_need_fields, ho, nxM, fldM, hg, putU, List.getElem?_set, hi, stF]
      · exact .inl rfl
    · exact .inl rfl
  · exact .inl rfl
theorem isT_ok {l : W1} (h : isT l = true) : okC l = true := by
  unfold isT at h
  unfold okC
  rw [List.all_eq_true] at h ⊢
  intro c hc
  have := h c hc
  simp [infB, List.isPrefixOf] at this
  simp
  omega
theorem inW_ok {zs : List W1} {a : W1} (hz : zs.all okC = true) (h : inW zs a = true) : okC a = true := by
  unfold inW at h
  rw [List.any_eq_true] at h
  obtain ⟨z, hz1, e⟩ := h
  rw [beq_iff_eq] at e
  subst e
  exact List.all_eq_true.mp hz z hz1
theorem pds_strs {k : Nat} : ∀ {zs : List W1}, zs.all okC = true → pds k (zs.map .str) = true
  | [], _ => by cases k <;> rfl
  | z :: r, h => by
    rw [List.all_cons, Bool.and_eq_true] at h
    rw [List.map_cons]
    unfold pds
    rw [pds_strs h.2, Bool.and_true]
    cases k <;> (unfold pd; exact h.1)
theorem pd_str {k : Nat} {l : W1} (h : okC l = true) : pd k (.str l) = true := by cases k <;> (unfold pd; exact h)
theorem okDs_ok {zs : List W1} (h : okDs zs = true) : zs.all okC = true ∧ zs.length ≤ 3 ∧ 1 ≤ zs.length := by
  simp only [okDs, Bool.and_eq_true, decide_eq_true_eq] at h
  refine ⟨?_, h.1.2, h.1.1⟩
  rw [List.all_eq_true]
  exact fun z hz => inW_ok (by decide) (List.all_eq_true.mp h.2 z hz)
theorem okS_pd {w p k t : W1} {zs : List W1} {n : Int} (h : okS w p k t zs n = true) : pd 20 (.tup [.str w, .str p, .str k, .str t, .tup (zs.map .str), .int n]) = true := by
  obtain ⟨h1, h2, h3, h4, h5, h6, h7, h8, h9, h10⟩ := okS_parts h
  have hk : okC k = true := inW_ok (by decide) h6
  have ht : okC t = true := inW_ok (by decide) h7
  simp [pd, pds, isT_ok h1, isT_ok h4, hk, ht, pds_strs (okDs_ok h8).1]
theorem le_need_text : Le r_need_text (runB d_need_text 40 s_need_text) := fun us G => by
  unfold r_need_text
  split
  · rename_i l
    split
    · rename_i hl
      refine .inr ?_
      rw [run_need_text]
      cases e : isT l with
      | true => simp [m_need_text, d_need_text, startS, runR, ifM, notT, tobM, callM, consA, nilA, varM, arM, r_is_text, hl, e, blU, nxM]
      | false => simp [m_need_text, d_need_text, startS, runR, ifM, notT, tobM, callM, consA, nilA, varM, arM, r_is_text, hl, e, blU, raise0M, exT]
    · exact .inl rfl
  · exact .inl rfl
end FL

namespace FL
open PySem L2 PyProof.Rows
theorem tob_bl {m : ME} {s : Sg} {G G1 : List Ob} {b : Bool} (h : m s G = .ok (.bl b) G1) : tobM m s G = .ok b G1 := by unfold tobM; rw [h]; rfl
theorem add_int {s : Sg} {G : List Ob} {m1 m2 : ME} {x y z : Int} (h1 : m1 s G = .ok (.int x) G) (h2 : m2 s G = .ok (.int y) G) (e : x + y = z) : bin2 (addU false) m1 m2 s G = .ok (.int z) G := by
  rw [bin2_p h1 h2, ← e]
  rfl
theorem itU_idx {G : List Ob} {u : U} {l : List It1} {s : Sg} {m : ME} {m0 : ME} {k : Nat} {i : It1} (h0 : m0 s G = .ok u G) (hu : lstOf G u = some (l.map itU)) (hm : m s G = .ok (.int k) G) (hi : l[k]? = some i) : bin2 idxU m0 m s G = .ok (itU i) G := by
  rw [bin2_p h0 hm]
  have hn : seqOf G u = some (l.map itU) := by
    cases u with
    | tup l' => cases hu
    | _ => exact hu
  have e : (l.map itU)[k]? = some (itU i) := by rw [List.getElem?_map, hi]; rfl
  cases u with
  | tup _ => cases hu
  | lst l' => cases hu; simp [idxU, seqOf, lstOf, atI_nat e]
  | sc l' => cases hu; simp [idxU, seqOf, lstOf, atI_nat e]
  | ref j => simp only [idxU, hn]; simp [atI_nat e]
  | _ => cases hu
theorem idx_tup0 {G : List Ob} {s : Sg} {m0 : ME} {us : List U} {u : U} {k : Nat} (h0 : m0 s G = .ok (.tup us) G) (hu : us[k]? = some u) : bin2 idxU m0 (litM (.int (k : Nat))) s G = .ok u G := by
  rw [bin2_p h0 (y := .int k) rfl]
  simp [idxU, seqOf, atI_nat hu]
theorem okC1 {c : Nat} {l : W1} (h : l.all (fun c => decide (c < 1114112)) = true) (hc : c ∈ l) : okC [c] = true := by
  have := List.all_eq_true.mp h c hc
  simpa [okC] using this
theorem en_mem {w : W1} {u : U} (h : u ∈ enL (w.map fun c => .str [c])) : ∃ k c, w[k]? = some c ∧ u = .tup [.int (k : Nat), .str [c]] := by
  obtain ⟨k, hk⟩ := List.getElem?_of_mem h
  rw [enL_get, List.getElem?_map] at hk
  cases e : w[k]? with
  | none => rw [e] at hk; cases hk
  | some c => rw [e] at hk; cases hk; exact ⟨k, c, e, rfl⟩
theorem len_lst {G : List Ob} {u : U} {l : List It1} {s : Sg} {m : ME} (hu : lstOf G u = some (l.map itU)) (hm : m s G = .ok u G) : preM lenU (consA m nilA) s G = .ok (.int l.length) G := by
  rw [pre_one hm]
  cases u with
  | lst l' => cases hu; simp [lenU, seqOf, lstOf]
  | sc l' => cases hu; simp [lenU, seqOf, lstOf]
  | ref j => simp only [lenU, seqOf, hu]; simp
  | _ => cases hu
theorem sub_int {s : Sg} {G : List Ob} {m1 m2 : ME} {x y z : Int} (h1 : m1 s G = .ok (.int x) G) (h2 : m2 s G = .ok (.int y) G) (e : x - y = z) : bin2 subU m1 m2 s G = .ok (.int z) G := by
  rw [bin2_p h1 h2, ← e]
  rfl
theorem drop_min {α : Type} (xs : List α) (a : Nat) : xs.drop (min a xs.length) = xs.drop a := by
  by_cases h : a ≤ xs.length
  · rw [Nat.min_eq_left h]
  · rw [Nat.min_eq_right (by omega), List.drop_length, List.drop_eq_nil_of_le (by omega)]
theorem cut_from {α : Type} {xs : List α} {a : Nat} : cutL xs (some (a : Int)) none = xs.drop a := by
  unfold cutL
  rw [HT.sIx_nat, HT.sIx_none, drop_min]
  refine List.take_of_length_le ?_
  rw [List.length_drop]
  omega
theorem cut_to {α : Type} {xs : List α} {a : Nat} : cutL xs none (some (a : Int)) = xs.take a := by
  unfold cutL
  rw [HT.sIx_nat, HT.sIx_none, List.drop_zero, Nat.sub_zero]
  by_cases h : a ≤ xs.length
  · rw [Nat.min_eq_left h]
  · rw [Nat.min_eq_right (by omega), List.take_length, List.take_of_length_le (by omega)]
theorem cut_mid {α : Type} {xs : List α} {a b : Nat} : cutL xs (some (a : Int)) (some ((a : Int) + b)) = (xs.drop a).take b := by
  have e : ((a : Int) + b) = ((a + b : Nat) : Int) := by omega
  unfold cutL
  rw [e, HT.sIx_nat, HT.sIx_nat, drop_min]
  by_cases h : a + b ≤ xs.length
  · rw [Nat.min_eq_left h, Nat.min_eq_left (show a ≤ xs.length by omega)]
    congr 1
    omega
  · rw [Nat.min_eq_right (show xs.length ≤ a + b by omega), List.take_of_length_le (by rw [List.length_drop]; omega), List.take_of_length_le (by rw [List.length_drop]; omega)]
theorem someO_ok {s : Sg} {G : List Ob} {m : ME} {z : Int} (h : m s G = .ok (.int z) G) : someO m s G = .ok (some z) G := by unfold someO; rw [h]; rfl
theorem sl_lst {G : List Ob} {s : Sg} {u : U} {us : List U} {m0 : ME} {lo hi : Option Int} {m1 m2 : MO} (h0 : m0 s G = .ok u G) (hu : lstOf G u = some us) (h1 : m1 s G = .ok lo G) (h2 : m2 s G = .ok hi G) (hz : (cutL us lo hi).length ≤ szL) : slM false m0 m1 m2 s G = .ok (.lst (cutL us lo hi)) G := by
  unfold slM
  rw [h0]
  simp only [bind_ok, h1, h2]
  cases u with
  | lst l' => cases hu; simp only [slU, lstOf]; exact newL_f hz
  | sc l' => cases hu; simp only [slU, lstOf]; exact newL_f hz
  | ref j => simp only [slU, hu]; exact newL_f hz
  | _ => cases hu
theorem sl_lstT {G : List Ob} {s : Sg} {u : U} {us : List U} {m0 : ME} {lo hi : Option Int} {m1 m2 : MO} (h0 : m0 s G = .ok u G) (hu : lstOf G u = some us) (h1 : m1 s G = .ok lo G) (h2 : m2 s G = .ok hi G) (hz : (cutL us lo hi).length ≤ szL) : slM true m0 m1 m2 s G = .ok (.ref G.length) (G ++ [.lst (cutL us lo hi)]) := by
  unfold slM
  rw [h0]
  simp only [bind_ok, h1, h2]
  cases u with
  | lst l' => cases hu; simp only [slU, lstOf]; exact newL_t hz
  | sc l' => cases hu; simp only [slU, lstOf]; exact newL_t hz
  | ref j => simp only [slU, hu]; exact newL_t hz
  | _ => cases hu
theorem min2 {a b : Int} {G : List Ob} : minU [.lst [.int a, .int b]] G = .ok (.int (min a b)) G := by
  have e : minL [a, b] = min a b := by
    show (if b < a then b else a) = min a b
    by_cases h : b < a
    · rw [if_pos h]; omega
    · rw [if_neg h]; omega
  show (if 0 < [a, b].length then Rs.ok (U.int (minL [a, b])) G else Rs.bad) = _
  rw [if_pos (by simp), e]
theorem max2 {a b : Int} {G : List Ob} : maxU [.lst [.int a, .int b]] G = .ok (.int (max a b)) G := by
  have e : maxL [a, b] = max a b := by
    show (if b > a then b else a) = max a b
    by_cases h : b > a
    · rw [if_pos h]; omega
    · rw [if_neg h]; omega
  show (if 0 < [a, b].length then Rs.ok (U.int (maxL [a, b])) G else Rs.bad) = _
  rw [if_pos (by simp), e]
theorem pre3I {f : List U → List Ob → Rs (Itb × Nat)} {a b c : ME} {s : Sg} {G : List Ob} {x y z : U} (h1 : a s G = .ok x G) (h2 : b s G = .ok y G) (h3 : c s G = .ok z G) : preI f (consA a (consA b (consA c nilA))) s G = f [x, y, z] G := by
  unfold preI
  rw [consA_p h1 (consA_p h2 (consA_p h3 rfl))]
  simp only [bind_ok]
structure Fr (G G' : List Ob) (S : List Nat) : Prop where
  len : G.length ≤ G'.length
  keep : ∀ k, k < G.length → k ∉ S → G'[k]? = G[k]?
theorem Fr.refl {G : List Ob} {S : List Nat} : Fr G G S := ⟨Nat.le_refl _, fun _ _ _ => rfl⟩
theorem Fr.trans {G G1 G2 : List Ob} {S S2 : List Nat} (a : Fr G G1 S) (b : Fr G1 G2 S2) (h : ∀ k ∈ S2, k ∈ S ∨ G.length ≤ k) : Fr G G2 S :=
  ⟨Nat.le_trans a.len b.len, fun k hk hS => by
    rw [b.keep k (Nat.lt_of_lt_of_le hk a.len) (fun z => (h k z).elim hS fun q => absurd hk (Nat.not_lt.mpr q)), a.keep k hk hS]⟩
theorem Fr.set {G : List Ob} {i : Nat} {o : Ob} : Fr G (G.set i o) [i] :=
  ⟨by rw [List.length_set]; exact Nat.le_refl _, fun k hk hS => List.getElem?_set_ne (fun z => hS (by simp [z]))⟩
theorem Fr.app {G g : List Ob} : Fr G (G ++ g) [] := ⟨by simp, fun k hk _ => List.getElem?_append_left hk⟩
theorem Fr.mono {G G1 : List Ob} {S S2 : List Nat} (a : Fr G G1 S) (h : ∀ k ∈ S, k ∈ S2) : Fr G G1 S2 := ⟨a.len, fun k hk hS => a.keep k hk fun z => hS (h k z)⟩
theorem Fr.get {G G1 : List Ob} {S : List Nat} (a : Fr G G1 S) {k : Nat} {o : Ob} (h : G[k]? = some o) (hS : k ∉ S) : G1[k]? = some o := by
  rw [a.keep k (List.getElem?_eq_some_iff.mp h).1 hS, h]
theorem lt_of {G : List Ob} {k : Nat} {o : Ob} (h : G[k]? = some o) : k < G.length := (List.getElem?_eq_some_iff.mp h).1
section
variable {s : Dr}
theorem okd_parts (h : okd s = true) : isT s.w = true ∧ 1 ≤ s.w.length ∧ s.w.length ≤ 3 ∧ isT s.p = true ∧ s.p.length ≤ 3 ∧ inW keepsL s.k = true ∧ inW turnsL s.t = true ∧ okDs s.zs = true ∧ 1 ≤ s.n ∧ s.n ≤ 2 := okS_parts h
end
theorem join_sing : ∀ l : W1, TL.joinL [] (l.map fun c => [c]) = l
  | [] => rfl
  | [a] => rfl
  | a :: b :: r => by
    have := join_sing (b :: r)
    simp only [List.map_cons] at this ⊢
    unfold TL.joinL
    rw [this]
    rfl
theorem cut_n {A : Rs U} {G : List Ob} {X Y : Rt} (q : X = Y) (h : Cut G A (runR Y)) : Cut G A (runR X) := by rw [q]; exact h
theorem cut_rt {G g : List Ob} {u u' : U} {X : Rt} (q : X = .rt u (G ++ g)) (hf : frzU G.length (G ++ g) u = some u') : Cut G (.ok u' G) (runR X) := by rw [q]; exact cut_new hf
theorem cut_newX {G g : List Ob} {x : Exn} : Cut G (.exc x G) (.exc x (G ++ g)) := ⟨rfl, ⟨g, rfl⟩, rfl, fun _ _ e => .inl e⟩
theorem mapU_org {f : Nat → Option U} (o : Option Nat) : mapU f (orgU o) = some (orgU o) := by cases o <;> rfl
theorem map_its {f : Nat → Option U} : ∀ l : List It1, mapUs f (l.map itU) = some (l.map itU)
  | [] => rfl
  | i :: r => by
    rw [List.map_cons]
    simp only [mapUs, itU, mapU, mapU_org, map_its r, Option.map_some]
theorem isT_app {a b : W1} : isT (a ++ b) = (isT a && isT b) := by unfold isT; rw [List.all_append]
theorem isT_take {a : W1} {n : Nat} (h : isT a = true) : isT (a.take n) = true := by
  unfold isT at *
  rw [List.all_eq_true] at *
  exact fun c hc => h c (List.mem_of_mem_take hc)
theorem isT_drop {a : W1} {n : Nat} (h : isT a = true) : isT (a.drop n) = true := by
  unfold isT at *
  rw [List.all_eq_true] at *
  exact fun c hc => h c (List.mem_of_mem_drop hc)
end FL

namespace FL
open PySem L2 PyProof.Rows
theorem rndP_snoc (ns : List Int) (c salt : Int) : rndP (ns ++ [c]) salt = (rndP ns salt * 31 + (if c < 0 then -c else c)).fmod 2147483647 := by simp [rndP, List.foldl_append]
theorem le__law_random : Le r__law_random (runB d__law_random 40 s__law_random) := fun us G => by
  unfold r__law_random
  split
  · rename_i l
    split
    · rename_i ns e
      split
      · rename_i hl
        refine .inr ?_
        rw [run__law_random, intsOf_eq e]
        have hs : startS d__law_random.N [.sc (ns.map .int), .int 15] = [some (.sc (ns.map .int)), some (.int 15), none, none] := rfl
        rw [hs]
        unfold m__law_random
        rw [seqM_set (u := .int 15) (G1 := G) rfl]
        have hit : seqI (varM 0) [some (.sc (ns.map .int)), some (.int 15), some (.int 15), none] G = .ok (.seq (.sc (ns.map .int)), ns.length) G := by
          unfold seqI
          rw [var_ok (u := .sc (ns.map .int)) rfl]
          simp [seqOf, lstOf]
        obtain ⟨s', G', h1, x, h2, h3⟩ := forL_inv (b := .seq (.sc (ns.map .int))) (g := nameG 3)
          (body := stE (bin2 modU (preM intU1 (consA (bin2 (addU false) (bin2 (mulU false) (varM 2) (litM (.int 31))) (preM absU (consA (varM 3) nilA))) nilA)) (litM (.int 2147483647))) (setM 2))
          (fun k s' G' => ∃ x, s' = [some (.sc (ns.map .int)), some (.int 15), some (.int (rndP (ns.take k) 15)), x] ∧ G' = G) (n := ns.length) (l := ns.map .int) (by simp) (fun G i => by simp [itAt, seqOf, lstOf])
          (fun k u s1 G1 hu ⟨x, e1, e2⟩ => by
            subst e1
            subst e2
            rw [List.getElem?_map] at hu
            cases hc : ns[k]? with
            | none => rw [hc] at hu; cases hu
            | some c =>
              rw [hc] at hu
              cases hu
              refine ⟨_, _, _, rfl, .inl (by
                simp [stE, bin2, preM, consA, varM, litM, nilA, mulU, addU, absU, intU1, modU, intU, setM]; rfl), some (.int c), ?_, rfl⟩
              have : ns.take (k + 1) = ns.take k ++ [c] := by rw [List.take_add_one, hc]; rfl
              rw [this, rndP_snoc]) ns.length 0 [some (.sc (ns.map .int)), some (.int 15), some (.int 15), none] G (by omega) ⟨none, rfl, rfl⟩
        have hfor : forM (seqI (varM 0)) (nameG 3) (stE (bin2 modU (preM intU1 (consA (bin2 (addU false) (bin2 (mulU false) (varM 2) (litM (.int 31))) (preM absU (consA (varM 3) nilA))) nilA)) (litM (.int 2147483647))) (setM 2)) [some (.sc (ns.map .int)), some (.int 15), some (.int 15), none] G = .nx s' G' := by
          unfold forM
          rw [hit]
          exact h1
        subst h2
        subst h3
        rw [List.take_length] at hfor
        refine Eq.symm ((congrArg runR (seqM_nx hfor)).trans ?_)
        have hc : compM false (seqI (varM 0)) (nameG 3) (tobM (bin2 (cmpU fun i j => decide (j ≤ i)) (varM 3) (bin2 powU (litM (.int 10)) (litM (.int 18))))) (varM 3) [3] [some (.sc (ns.map .int)), some (.int 15), some (.int (rndP ns 15)), x] G' = newL false (((ns.map U.int).filter fun u => match u with | .int c => decide (10 ^ 18 ≤ c) | _ => false).map id) G' := by
          refine comp_seqF (u := .sc (ns.map .int)) (by simp [seqI, varM, seqOf, lstOf]) (by simp [seqOf, lstOf]) fun u hu => ?_
          simp only [List.mem_map] at hu
          obtain ⟨c, _, rfl⟩ := hu
          exact ⟨_, rfl, by simp [tobM, bin2, varM, wipeS, litM, powU, intU, cmpU, blU], fun _ => by simp [varM, wipeS]⟩
        have hf : ((ns.map U.int).filter fun u => match u with | .int c => decide (10 ^ 18 ≤ c) | _ => false).map id = (ns.filter fun c => decide (10 ^ 18 ≤ c)).map U.int := by
          rw [List.map_id, List.filter_map]
          rfl
        have hlen : (ns.filter fun c => decide ((10 : Int) ^ 18 ≤ c)).length ≤ 63 := Nat.le_trans (List.length_filter_le _ _) hl
        rw [stE_rt (u := .ref G'.length) (G1 := G' ++ [drC (rndP ns 15 :: 0 :: ns.filter fun c => decide (10 ^ 18 ≤ c))]) (by
          rw [bin2_p (x := .lst [.int (rndP ns 15), .int 0]) (y := .lst ((ns.filter fun c => decide (10 ^ 18 ≤ c)).map .int)) (by simp [lstM, consA, varM, litM, nilA, newL, szL]) (by
            rw [hc, hf, newL_f (by simp [szL]; simp at hlen; omega)])]
          simp only [addU, lstOfW]
          rw [newL_t (by simp [szL]; simp at hlen; omega)]
          simp [drC])]
        rfl
      · exact .inl rfl
    · exact .inl rfl
  · exact .inl rfl
theorem below_rest {G : List Ob} {i : Nat} {a b n : Int} {r : List Int} {x : Option U} (hg : G[i]? = some (drC (a :: b :: r))) (hn : 0 < n ∧ n < 1000) :
    seqM (ifM (tobM (bin2 (cmpU fun i j => decide (j < i)) (bin2 idxU (varM 0) (litM (.int 1))) (litM (.int 0)))) (seqM (stE (bin2 modU (preM intU1 (consA (bin2 idxU (varM 0) (litM (.int 1))) nilA)) (varM 1)) (setM 2)) (seqM (stE3 (bin2 fdivU (bin2 idxU (varM 0) (litM (.int 1))) (varM 1)) (varM 0) (litM (.int 1)) itemM) (stE (varM 2) rtM))) nxM) (seqM (stE3 (bin2 modU (preM intU1 (consA (bin2 (addU false) (bin2 (mulU false) (bin2 idxU (varM 0) (litM (.int 0))) (litM (.int 48271))) (litM (.int 11))) nilA)) (litM (.int 2147483647))) (varM 0) (litM (.int 0)) itemM) (stE (bin2 modU (preM intU1 (consA (bin2 fdivU (bin2 idxU (varM 0) (litM (.int 0))) (litM (.int 64))) nilA)) (varM 1)) rtM))
      [some (.ref i), some (.int n), x] G = if b > 0 then .rt (.int (b.fmod n)) (G.set i (drC (a :: b.fdiv n :: r))) else .rt (.int ((((a * 48271 + 11).fmod 2147483647).fdiv 64).fmod n)) (G.set i (drC ((a * 48271 + 11).fmod 2147483647 :: b :: r))) := by
  obtain ⟨hi, hgi⟩ := List.getElem?_eq_some_iff.mp hg
  have hn0 : n ≠ 0 := by omega
  have hn1 : n.natAbs < 1073741824 := by omega
  have i1 : ∀ (s : Sg), s[0]? = some (some (.ref i)) → bin2 idxU (varM 0) (litM (.int 1)) s G = .ok (.int b) G := fun s hs => by
    rw [bin2_p (var_ok hs) (y := .int 1) rfl]
    have : atI ((a :: b :: r).map U.int) 1 = some (.int b) := atI_nat (j := 1) (by simp)
    simp only [idxU, seqOf, lstOf, hg, drC, this]
  have i0 : ∀ (s : Sg) (G : List Ob) (a b : Int) (r : List Int), G[i]? = some (drC (a :: b :: r)) → s[0]? = some (some (.ref i)) → bin2 idxU (varM 0) (litM (.int 0)) s G = .ok (.int a) G := fun s G a b r hg hs => by
    rw [bin2_p (var_ok hs) (y := .int 0) rfl]
    have : atI ((a :: b :: r).map U.int) 0 = some (.int a) := atI_nat (j := 0) (by simp)
    simp only [idxU, seqOf, lstOf, hg, drC, this]
  have x1 : ixN ((a :: b :: r).map U.int).length 1 = some 1 := by simp [ixN]; omega
  have x0 : ixN ((a :: b :: r).map U.int).length 0 = some 0 := by simp [ixN]; omega
  have ht : tobM (bin2 (cmpU fun i j => decide (j < i)) (bin2 idxU (varM 0) (litM (.int 1))) (litM (.int 0))) [some (.ref i), some (.int n), x] G = .ok (decide (0 < b)) G := by
    unfold tobM
    rw [bin2_p (i1 _ rfl) (y := .int 0) rfl]
    rfl
  by_cases hb : b > 0
  · rw [if_pos hb]
    have hb' : decide (0 < b) = true := decide_eq_true hb
    rw [hb'] at ht
    refine seqM_rt ((ifM_t ht).trans ?_)
    rw [seqM_set (u := .int (b.fmod n)) (G1 := G) (by
      rw [bin2_p (x := .int b) (by unfold preM; rw [consA_p (i1 _ rfl) rfl]; rfl) (var_ok (u := .int n) rfl)]
      simp [modU, intU, hn0])]
    rw [seqM_nx (s1 := [some (.ref i), some (.int n), some (.int (b.fmod n))]) (G1 := G.set i (drC (a :: b.fdiv n :: r))) (by
      show stE3 _ _ _ _ [some (.ref i), some (.int n), some (.int (b.fmod n))] G = _
      unfold stE3
      rw [bin2_p (i1 _ rfl) (var_ok (u := .int n) rfl)]
      simp only [fdivU, intU]
      rw [if_pos (by simp [hn0, hn1])]
      simp only [varM, litM, List.getElem?_cons_zero, itemM, hg, drC, x1]
      simp)]
    exact stE_rt rfl
  · rw [if_neg hb]
    have hb' : decide (0 < b) = false := decide_eq_false hb
    rw [hb'] at ht
    rw [seqM_if ht]
    rw [seqM_nx (s1 := [some (.ref i), some (.int n), x]) (G1 := G.set i (drC ((a * 48271 + 11).fmod 2147483647 :: b :: r))) (by
      unfold stE3
      rw [bin2_p (x := .int (a * 48271 + 11)) (y := .int 2147483647) (by
        unfold preM
        rw [consA_p (x := .int (a * 48271 + 11)) (by
          rw [bin2_p (x := .int (a * 48271)) (y := .int 11) (by
            rw [bin2_p (i0 _ _ _ _ _ hg rfl) (y := .int 48271) rfl]
            simp [mulU]) rfl]
          rfl) rfl]
        rfl) rfl]
      simp only [modU, intU]
      rw [if_pos (by decide)]
      simp only [varM, litM, List.getElem?_cons_zero, itemM, hg, drC, x0]
      simp)]
    have hg2 : (G.set i (drC ((a * 48271 + 11).fmod 2147483647 :: b :: r)))[i]? = some (drC ((a * 48271 + 11).fmod 2147483647 :: b :: r)) := List.getElem?_set_self hi
    refine stE_rt ?_
    rw [bin2_p (x := .int (((a * 48271 + 11).fmod 2147483647).fdiv 64)) (by
      unfold preM
      rw [consA_p (x := .int (((a * 48271 + 11).fmod 2147483647).fdiv 64)) (by
        rw [bin2_p (i0 _ _ _ _ _ hg2 rfl) (y := .int 64) rfl]
        simp [fdivU, intU]) rfl]
      rfl) (var_ok (u := .int n) rfl)]
    simp [modU, intU, hn0]
theorem le__law_below : Le r__law_below (runB d__law_below 40 s__law_below) := fun us G => by
  unfold r__law_below
  split
  · rename_i i n
    split
    · rename_i a b r e
      split
      · rename_i hn
        obtain ⟨hg, hr⟩ := drOf_ok e
        obtain ⟨hi, hgi⟩ := List.getElem?_eq_some_iff.mp hg
        refine .inr ?_
        rw [run__law_below]
        have hs : startS d__law_below.N [.ref i, .int n] = [some (.ref i), some (.int n), none] := rfl
        rw [hs]
        unfold m__law_below
        have i1 : bin2 idxU (varM 0) (litM (.int 1)) [some (.ref i), some (.int n), none] G = .ok (.int b) G := by
          rw [bin2_p (var_ok (u := .ref i) rfl) (y := .int 1) rfl]
          have : atI ((a :: b :: r).map U.int) 1 = some (.int b) := atI_nat (j := 1) (by simp)
          simp only [idxU, seqOf, lstOf, hg, drC, this]
        have ht : andT (tobM (bin2 (eqX false (fun c => d__law_below.eqt.lookup c)) (bin2 idxU (varM 0) (litM (.int 1))) (litM (.int 0)))) (tobM (bin2 (cmpU fun i j => decide (j < i)) (preM lenU (consA (varM 0) nilA)) (litM (.int 2)))) [some (.ref i), some (.int n), none] G = .ok (decide (b = 0 ∧ r ≠ [])) G := by
          unfold andT
          rw [tob_int (x := b) (y := 0) i1 rfl]
          by_cases hb : b = 0
          · subst hb
            have hl : tobM (bin2 (cmpU fun i j => decide (j < i)) (preM lenU (consA (varM 0) nilA)) (litM (.int 2))) [some (.ref i), some (.int n), none] G = .ok (decide ((2 : Int) < (r.length + 1 + 1 : Nat))) G := by
              unfold tobM
              rw [bin2_p (x := .int (r.length + 1 + 1 : Nat)) (y := .int 2) (by unfold preM; rw [consA_p (var_ok (u := .ref i) rfl) rfl]; simp [lenU, seqOf, lstOf, hg, drC]) rfl]
              rfl
            simp only [bind_ok, Bool.false_eq_true, if_false, beq_self_eq_true, if_true, hl]
            congr 1
            cases r with
            | nil => simp
            | cons y t => simp; omega
          · simp [hb]
        by_cases hz : b = 0 ∧ r ≠ []
        · obtain ⟨rfl, hr0⟩ := hz
          cases r with
          | nil => exact absurd rfl hr0
          | cons y t =>
            have ht' : andT _ _ [some (.ref i), some (.int n), none] G = .ok true G := ht.trans (by simp)
            have hx : ixN ((a :: 0 :: t).map U.int).length 1 = some 1 := by simp [ixN]; omega
            have hp : bmM popU (varM 0) (consA (litM (.int 2)) nilA) [some (.ref i), some (.int n), none] G = .ok (.int y) (G.set i (drC (a :: 0 :: t))) := by
              unfold bmM
              rw [var_ok (u := .ref i) rfl]
              have hsq : seqIndex? 2 ((a :: 0 :: y :: t).map U.int).length = some 2 := by simp [seqIndex?]; omega
              simp only [bind_ok, lstOfW, hg, drC, consA, litM, nilA, popU, hsq]
              rw [if_pos (by decide)]
              simp
            have q : ifM (andT (tobM (bin2 (eqX false (fun c => d__law_below.eqt.lookup c)) (bin2 idxU (varM 0) (litM (.int 1))) (litM (.int 0)))) (tobM (bin2 (cmpU fun i j => decide (j < i)) (preM lenU (consA (varM 0) nilA)) (litM (.int 2))))) (stE3 (bmM popU (varM 0) (consA (litM (.int 2)) nilA)) (varM 0) (litM (.int 1)) itemM) nxM [some (.ref i), some (.int n), none] G = .nx [some (.ref i), some (.int n), none] (G.set i (drC (a :: y :: t))) := by
              refine (ifM_t ht').trans ?_
              unfold stE3
              rw [hp]
              have hg2 : (G.set i (drC (a :: 0 :: t)))[i]? = some (drC (a :: 0 :: t)) := List.getElem?_set_self hi
              simp only [varM, litM, List.getElem?_cons_zero, itemM, hg2]
              simp only [drC, hx, List.set_set]
              simp
            have hg3 : (G.set i (drC (a :: y :: t)))[i]? = some (drC (a :: y :: t)) := List.getElem?_set_self hi
            rw [seqM_nx q, below_rest hg3 hn]
            have hb : brP 0 (y :: t) = (y, t) := rfl
            simp only [belowP, hb, belowQ, List.set_set]
            by_cases hy : y > 0 <;> simp [hy, runR]
        · have ht' : andT _ _ [some (.ref i), some (.int n), none] G = .ok false G := ht.trans (by simp [hz])
          rw [seqM_if ht', below_rest hg hn]
          have hbr : brP b r = (b, r) := by
            unfold brP
            by_cases hb : b = 0
            · rw [if_pos hb]
              cases r with
              | nil => rfl
              | cons y t => exact absurd ⟨hb, by simp⟩ hz
            · rw [if_neg hb]
          simp only [belowP, hbr, belowQ]
          by_cases hy : b > 0 <;> simp [hy, runR]
      · exact .inl rfl
    · exact .inl rfl
  · exact .inl rfl
end FL

namespace FL
open PySem L2 PyProof.Rows
theorem brP_len (b : Int) (r : List Int) : (brP b r).2.length ≤ r.length := by
  unfold brP
  split
  · cases r <;> simp
  · exact Nat.le_refl _
theorem below_form (a b : Int) (r : List Int) (n : Int) : ∃ v a' b' r', belowP a b r n = (v, a' :: b' :: r') ∧ r'.length ≤ r.length ∧ (0 < n → 0 ≤ v ∧ v < n) := by
  unfold belowP belowQ
  split
  · exact ⟨_, _, _, _, rfl, brP_len b r, fun h => ⟨Int.fmod_nonneg_of_pos _ h, Int.fmod_lt_of_pos _ h⟩⟩
  · exact ⟨_, _, _, _, rfl, brP_len b r, fun h => ⟨Int.fmod_nonneg_of_pos _ h, Int.fmod_lt_of_pos _ h⟩⟩
theorem drOf_set {G : List Ob} {i : Nat} {l l' : Int × Int × List Int} (h : drOf G i = some l) (hl : l'.2.2.length ≤ 63) : drOf (G.set i (drC (dl l'))) i = some l' := by
  obtain ⟨a, b, r⟩ := l
  obtain ⟨hg, hr⟩ := drOf_ok h
  have hi := (List.getElem?_eq_some_iff.mp hg).1
  obtain ⟨a', b', r'⟩ := l'
  unfold drOf
  rw [List.getElem?_set_self hi]
  simp only [drC, dl, intsOf_map]
  rw [if_pos hl]
theorem le__law_pick : Le r__law_pick (runB d__law_pick 40 s__law_pick) := fun us G => by
  unfold r__law_pick
  split
  · rename_i i xs
    split
    · rename_i a b r e
      split
      · rename_i hx
        split
        · rename_i u hu
          refine .inr ?_
          rw [run__law_pick]
          have hs : startS d__law_pick.N [.ref i, .lst xs] = [some (.ref i), some (.lst xs)] := rfl
          rw [hs]
          unfold m__law_pick
          obtain ⟨v, a', b', r', hb, hr', hv⟩ := below_form a b r xs.length
          have hv := hv (by omega)
          rw [hb] at hu
          have hat : atI xs v = some u := by
            have := atI_nat hu
            rw [Int.toNat_of_nonneg hv.1] at this
            exact this
          rw [stE_rt (u := u) (G1 := G.set i (drC (belowP a b r xs.length).2)) (by
            rw [bin2_ok (G1 := G) (x := .lst xs) (y := .int v) (G2 := G.set i (drC (belowP a b r xs.length).2)) (var_ok rfl) (by
              unfold callM
              rw [consA_p (var_ok (u := .ref i) rfl) (consA_p (x := .int xs.length) (by unfold preM; rw [consA_p (var_ok (u := .lst xs) rfl) rfl]; simp [lenU, seqOf, lstOf]) rfl)]
              have h1 : (0 : Int) < xs.length ∧ (xs.length : Int) < 1000 := by omega
              simp only [bind_ok, arM, r__law_below, e, if_pos h1, hb]
              rfl)]
            simp [idxU, seqOf, lstOf, hat])]
          rfl
        · exact .inl rfl
      · exact .inl rfl
    · exact .inl rfl
  · exact .inl rfl
theorem pick_ok {α : Type} (f : α → U) (ys : List α) (d : α) {G : List Ob} {i : Nat} {l : Int × Int × List Int} (h0 : 0 < ys.length) (h1 : ys.length < 1000) (h : drOf G i = some l) :
    r__law_pick [.ref i, .lst (ys.map f)] G = .ok (f (pickP d l ys).1) (G.set i (drC (dl (pickP d l ys).2))) ∧ drOf (G.set i (drC (dl (pickP d l ys).2))) i = some (pickP d l ys).2 ∧ (pickP d l ys).1 ∈ ys := by
  obtain ⟨a, b, r⟩ := l
  obtain ⟨hg, hr⟩ := drOf_ok h
  obtain ⟨v, a', b', r', hb, hr', hv⟩ := below_form a b r ys.length
  have hv := hv (by omega)
  have hlt : v.toNat < ys.length := by omega
  have hp : pickP d (a, b, r) ys = (ys[v.toNat], (a', b', r')) := by
    unfold pickP
    simp only [hb]
    simp [List.getD, hlt]
  rw [hp]
  refine ⟨?_, drOf_set h (by simp; omega), List.getElem_mem hlt⟩
  unfold r__law_pick
  simp only [h, List.length_map, if_pos (And.intro h0 h1), hb]
  rw [List.getElem?_map, List.getElem?_eq_getElem hlt]
  rfl
theorem call_pick {α : Type} (f : α → U) (ys : List α) (d : α) {G : List Ob} {i j : Nat} {l : Int × Int × List Int} {s : Sg} {m : ME} (h0 : 0 < ys.length) (h1 : ys.length < 1000) (h : drOf G i = some l) (hs : s[j]? = some (some (.ref i))) (hm : m s G = .ok (.lst (ys.map f)) G) :
    callM 2 r__law_pick (consA (varM j) (consA m nilA)) s G = .ok (f (pickP d l ys).1) (G.set i (drC (dl (pickP d l ys).2))) := by
  unfold callM
  rw [consA_p (var_ok hs) (consA_p hm rfl)]
  simp only [bind_ok, arM]
  exact (if_pos rfl).trans (pick_ok f ys d h0 h1 h).1
theorem drU_eq (s : Dr) : drU s = .tup [.str s.w, .str s.p, .str s.k, .str s.t, .tup (s.zs.map .str), .int s.n] := rfl
theorem le__law_drawn : Le r__law_drawn (runB d__law_drawn 40 s__law_drawn) := fun us G => by
  unfold r__law_drawn
  split
  · rename_i i
    split
    · rename_i l e
      refine .inr ?_
      rw [run__law_drawn]
      have hs : startS d__law_drawn.N [.ref i] = [some (.ref i), none, none, none, none] := rfl
      rw [hs]
      unfold m__law_drawn
      obtain ⟨_, e1, _⟩ := pick_ok U.str words6 [] (by decide) (by decide) e
      rw [seqM_set (call_pick U.str words6 [] (by decide) (by decide) e rfl (by simp [lstM, consA, litM, nilA, newL, szL, words6]))]
      obtain ⟨_, e2, _⟩ := pick_ok U.str puts10 [] (by decide) (by decide) e1
      rw [seqM_set (call_pick U.str puts10 [] (by decide) (by decide) e1 rfl (by simp [lstM, consA, litM, nilA, newL, szL, puts10])), List.set_set]
      rw [List.set_set] at e2
      generalize ha : pickP [] l words6 = a at *
      generalize hb : pickP [] a.2 puts10 = b at *
      generalize hGb : G.set i (drC (dl b.2)) = Gb at *
      rw [seqM_set (u := .lst ((deeds8.take 5).map fun zs => .tup (zs.map .str))) (G1 := Gb) (by simp [lstM, tupM, consA, litM, nilA, newL, newT, szL, deeds8, wRep, wKeep])]
      rw [seqM_set (u := .lst (deeds8.map fun zs => .tup (zs.map .str))) (G1 := Gb) (by
        rw [bin2_p (x := .lst ((deeds8.take 5).map fun zs => .tup (zs.map .str))) (y := .lst ((deeds8.drop 5).map fun zs => .tup (zs.map .str))) (var_ok rfl) (by simp [lstM, tupM, consA, litM, nilA, newL, newT, szL, deeds8, wRep, wKeep, wStop])]
        simp only [addU, lstOfW]
        rw [← List.map_append, List.take_append_drop, newL_f (by simp [szL, deeds8])])]
      obtain ⟨_, e3, _⟩ := pick_ok U.str keepsL [] (by decide) (by decide) e2
      rw [seqM_set (call_pick U.str keepsL [] (by decide) (by decide) e2 rfl (by simp [lstM, consA, litM, nilA, newL, szL, keepsL]))]
      generalize hc : pickP [] b.2 keepsL = c at *
      generalize hGc : Gb.set i (drC (dl c.2)) = Gc at *
      obtain ⟨_, e4, _⟩ := pick_ok U.str turnsL [] (by decide) (by decide) e3
      obtain ⟨_, e5, _⟩ := pick_ok (fun zs : List W1 => U.tup (zs.map .str)) deeds8 [] (by decide) (by decide) e4
      have q4 := call_pick U.str turnsL [] (s := [some (.ref i), some (.str a.1), some (.str b.1), some (.lst (deeds8.map fun zs => .tup (zs.map .str))), some (.str c.1)]) (j := 0) (m := lstM false (consA (litM (.str (Str.ofString "first").cps.toList)) (consA (litM (.str (Str.ofString "last").cps.toList)) (consA (litM (.str (Str.ofString "behind").cps.toList)) nilA)))) (by decide) (by decide) e3 rfl (by simp [lstM, consA, litM, nilA, newL, szL, turnsL])
      have q5 := call_pick (fun zs : List W1 => U.tup (zs.map .str)) deeds8 [] (s := [some (.ref i), some (.str a.1), some (.str b.1), some (.lst (deeds8.map fun zs => .tup (zs.map .str))), some (.str c.1)]) (j := 0) (m := varM 3) (by decide) (by decide) e4 rfl (var_ok rfl)
      generalize hd : pickP [] c.2 turnsL = d at *
      generalize hGd : Gc.set i (drC (dl d.2)) = Gd at *
      generalize he : pickP [] d.2 deeds8 = f at *
      generalize hGe : Gd.set i (drC (dl f.2)) = Ge at *
      have q6 : bin2 (addU false) (litM (.int 1)) (callM 2 r__law_below (consA (varM 0) (consA (litM (.int 2)) nilA))) [some (.ref i), some (.str a.1), some (.str b.1), some (.lst (deeds8.map fun zs => .tup (zs.map .str))), some (.str c.1)] Ge = .ok (.int (pickP 0 f.2 [1, (2 : Int)]).1) (Ge.set i (drC (dl (pickP 0 f.2 [1, (2 : Int)]).2))) := by
        obtain ⟨fv, fa, fb, fr⟩ := f
        obtain ⟨v, a', b', r', hb, hr', hv⟩ := below_form fa fb fr 2
        have hv := hv (by omega)
        have hp : pickP 0 (fa, fb, fr) [1, (2 : Int)] = (1 + v, (a', b', r')) := by
          unfold pickP
          have : (([1, (2 : Int)] : List Int).length : Int) = 2 := rfl
          simp only [this, hb]
          have hv2 : v = 0 ∨ v = 1 := by omega
          rcases hv2 with rfl | rfl <;> simp
        rw [hp]
        rw [bin2_ok (x := .int 1) (G1 := Ge) (y := .int v) (G2 := Ge.set i (drC (dl (a', b', r')))) rfl (by
          unfold callM
          rw [consA_p (var_ok (u := .ref i) rfl) (consA_p (x := .int 2) rfl rfl)]
          simp only [bind_ok, arM, r__law_below, e5, hb]
          rfl)]
        rfl
      rw [stE_rt (u := drU (drawnP l).1) (G1 := G.set i (drC (dl (drawnP l).2))) (by
        unfold tupM
        show ((consA _ _ : MA) [some (.ref i), some (.str a.1), some (.str b.1), some (.lst (deeds8.map fun zs => .tup (zs.map .str))), some (.str c.1)] Gc).bind _ = _
        rw [consA_ok (G1 := Gc) (x := .str a.1) (xs := [.str b.1, .str c.1, .str d.1, .tup (f.1.map .str), .int (pickP 0 f.2 [1, (2 : Int)]).1]) (G2 := Ge.set i (drC (dl (pickP 0 f.2 [1, (2 : Int)]).2))) (var_ok rfl)
          (consA_ok (G1 := Gc) (var_ok (u := .str b.1) rfl) (consA_ok (G1 := Gc) (var_ok (u := .str c.1) rfl) (consA_ok (G1 := Gd) q4 (consA_ok (G1 := Ge) q5 (consA_ok (G1 := Ge.set i (drC (dl (pickP 0 f.2 [1, (2 : Int)]).2))) q6 rfl)))))]
        simp only [bind_ok]
        rw [newT_ok' (by simp [szL])]
        have hG : Ge.set i (drC (dl (pickP 0 f.2 [1, (2 : Int)]).2)) = G.set i (drC (dl (pickP 0 f.2 [1, (2 : Int)]).2)) := by
          rw [← hGe, List.set_set, ← hGd, List.set_set, ← hGc, List.set_set, ← hGb, List.set_set]
        rw [hG]
        simp only [drU, drawnP, ha, hb, hc, hd, he])]
      rfl
    · exact .inl rfl
  · exact .inl rfl
theorem pick_mem {α : Type} (d : α) (l : Int × Int × List Int) (ys : List α) (h0 : 0 < ys.length) : (pickP d l ys).1 ∈ ys ∧ (pickP d l ys).2.2.2.length ≤ l.2.2.length := by
  obtain ⟨a, b, r⟩ := l
  obtain ⟨v, a', b', r', hb, hr', hv⟩ := below_form a b r ys.length
  have hv := hv (by omega)
  have hlt : v.toNat < ys.length := by omega
  have hp : pickP d (a, b, r) ys = (ys[v.toNat], (a', b', r')) := by
    unfold pickP
    simp only [hb]
    simp [List.getD, hlt]
  rw [hp]
  exact ⟨List.getElem_mem hlt, hr'⟩
theorem drawn_mem (l : Int × Int × List Int) : (drawnP l).1.w ∈ words6 ∧ (drawnP l).1.p ∈ puts10 ∧ (drawnP l).1.k ∈ keepsL ∧ (drawnP l).1.t ∈ turnsL ∧ (drawnP l).1.zs ∈ deeds8 ∧ (drawnP l).1.n ∈ [1, (2 : Int)] ∧ (drawnP l).2.2.2.length ≤ l.2.2.length := by
  have a := pick_mem [] l words6 (by decide)
  have b := pick_mem [] (pickP [] l words6).2 puts10 (by decide)
  have c := pick_mem [] (pickP [] (pickP [] l words6).2 puts10).2 keepsL (by decide)
  have d := pick_mem [] (pickP [] (pickP [] (pickP [] l words6).2 puts10).2 keepsL).2 turnsL (by decide)
  have e := pick_mem [] (pickP [] (pickP [] (pickP [] (pickP [] l words6).2 puts10).2 keepsL).2 turnsL).2 deeds8 (by decide)
  have f := pick_mem 0 (pickP [] (pickP [] (pickP [] (pickP [] (pickP [] l words6).2 puts10).2 keepsL).2 turnsL).2 deeds8).2 [1, (2 : Int)] (by decide)
  exact ⟨a.1, b.1, c.1, d.1, e.1, f.1, by unfold drawnP; simp only; omega⟩
theorem w6 : (words6.all fun w => isT w && decide (1 ≤ w.length) && decide (w.length ≤ 3)) = true := by decide +kernel
theorem p10 : (puts10.all fun p => isT p && decide (p.length ≤ 3)) = true := by decide +kernel
theorem z8 : (deeds8.all okDs) = true := by decide +kernel
theorem k2 : (keepsL.all fun k => inW keepsL k) = true := by decide +kernel
theorem t3 : (turnsL.all fun k => inW turnsL k) = true := by decide +kernel
theorem drawn_ok (l : Int × Int × List Int) : okS (drawnP l).1.w (drawnP l).1.p (drawnP l).1.k (drawnP l).1.t (drawnP l).1.zs (drawnP l).1.n = true := by
  obtain ⟨hw, hp, hk, ht, hz, hn, _⟩ := drawn_mem l
  have a := List.all_eq_true.mp w6 _ hw
  have b := List.all_eq_true.mp p10 _ hp
  have c := List.all_eq_true.mp k2 _ hk
  have d := List.all_eq_true.mp t3 _ ht
  have e := List.all_eq_true.mp z8 _ hz
  simp only [Bool.and_eq_true, decide_eq_true_eq] at a b
  have hn' : (drawnP l).1.n = 1 ∨ (drawnP l).1.n = 2 := by simpa using hn
  unfold okS
  simp only [Bool.and_eq_true, decide_eq_true_eq]
  exact ⟨⟨⟨⟨⟨⟨⟨⟨⟨a.1.1, a.1.2⟩, a.2⟩, b.1⟩, b.2⟩, c⟩, d⟩, e⟩, by omega⟩, by omega⟩
theorem drOfU_drU {d : Dr} (ho : okS d.w d.p d.k d.t d.zs d.n = true) : drOfU (drU d) = some d := by simp [drOfU, drU, ho]
end FL

namespace FL
open PySem L2 PyProof.Rows
theorem notT_p {m : MT} {s : Sg} {G G1 : List Ob} {b : Bool} (h : m s G = .ok b G1) : notT m s G = .ok (!b) G1 := by unfold notT; rw [h]; rfl
theorem orT_p {p q : MT} {s : Sg} {G : List Ob} {a b : Bool} (h1 : p s G = .ok a G) (h2 : a = false → q s G = .ok b G) : orT p q s G = .ok (a || b) G := by
  unfold orT
  rw [h1]
  cases a with
  | true => rfl
  | false => exact h2 rfl
theorem andT_p {p q : MT} {s : Sg} {G : List Ob} {a b : Bool} (h1 : p s G = .ok a G) (h2 : a = true → q s G = .ok b G) : andT p q s G = .ok (a && b) G := by
  unfold andT
  rw [h1]
  cases a with
  | false => rfl
  | true => exact h2 rfl
theorem call1 {r : RunD} {m : ME} {s : Sg} {G G1 : List Ob} {u : U} (hm : m s G = .ok u G1) : callM 1 r (consA m nilA) s G = r [u] G1 := by
  unfold callM
  rw [consA_ok hm rfl]
  rfl
theorem call2 {r : RunD} {m m' : ME} {s : Sg} {G G1 G2 : List Ob} {u u' : U} (hm : m s G = .ok u G1) (hm' : m' s G1 = .ok u' G2) : callM 2 r (consA m (consA m' nilA)) s G = r [u, u'] G2 := by
  unfold callM
  rw [consA_ok hm (consA_ok hm' rfl)]
  rfl
theorem call3 {r : RunD} {s : Sg} {G : List Ob} {m m' m'' : ME} {G1 G2 G3 : List Ob} {u u' u'' : U} (hm : m s G = .ok u G1) (hm' : m' s G1 = .ok u' G2) (hm'' : m'' s G2 = .ok u'' G3) : callM 3 r (consA m (consA m' (consA m'' nilA))) s G = r [u, u', u''] G3 := by
  unfold callM
  rw [consA_ok hm (consA_ok hm' (consA_ok hm'' rfl))]
  rfl
theorem below_call {s : Sg} {G : List Ob} {i j : Nat} {l : Int × Int × List Int} {m : ME} {n : Int} (h : drOf G i = some l) (hs : s[j]? = some (some (.ref i))) (hm : m s G = .ok (.int n) G) (hn : 0 < n ∧ n < 1000) :
    ∃ v l', belowP l.1 l.2.1 l.2.2 n = (v, dl l') ∧ callM 2 r__law_below (consA (varM j) (consA m nilA)) s G = .ok (.int v) (G.set i (drC (dl l'))) ∧ l'.2.2.length ≤ l.2.2.length ∧ 0 ≤ v ∧ v < n := by
  obtain ⟨a, b, r⟩ := l
  obtain ⟨v, a', b', r', hb, hr', hv⟩ := below_form a b r n
  refine ⟨v, (a', b', r'), hb, ?_, hr', hv hn.1⟩
  rw [call2 (var_ok hs) hm]
  simp [r__law_below, h, hn, hb, dl]
theorem drOfU_ok {u : U} {s : Dr} (h : drOfU u = some s) : u = drU s ∧ okd s = true := by
  unfold drOfU at h
  split at h
  · split at h
    · rename_i zs e
      split at h
      · rename_i ho
        cases h
        rw [strsOf_eq e]
        exact ⟨rfl, ho⟩
      · cases h
    · cases h
  · cases h
theorem map_st {f : Nat → Option U} {s : Dr} : mapF f (stF s.w s.p s.k s.t s.zs s.n) = some (stF s.w s.p s.k s.t s.zs s.n) := by
  simp only [stF, mapF, mapU, map_strs, Option.map_some]
theorem idxS {s : Dr} {j : Nat} {sg : Sg} {G : List Ob} (hs : sg[j]? = some (some (drU s))) : bin2 idxU (varM j) (litM (.int 0)) sg G = .ok (.str s.w) G ∧ bin2 idxU (varM j) (litM (.int 1)) sg G = .ok (.str s.p) G ∧ bin2 idxU (varM j) (litM (.int 2)) sg G = .ok (.str s.k) G ∧ bin2 idxU (varM j) (litM (.int 3)) sg G = .ok (.str s.t) G ∧
    bin2 idxU (varM j) (litM (.int 4)) sg G = .ok (.tup (s.zs.map .str)) G ∧ bin2 idxU (varM j) (litM (.int 5)) sg G = .ok (.int s.n) G :=
  ⟨idx_tup0 (k := 0) (var_ok hs) rfl, idx_tup0 (k := 1) (var_ok hs) rfl, idx_tup0 (k := 2) (var_ok hs) rfl, idx_tup0 (k := 3) (var_ok hs) rfl, idx_tup0 (k := 4) (var_ok hs) rfl, idx_tup0 (k := 5) (var_ok hs) rfl⟩
theorem le__law_make : LeC r__law_make (runB d__law_make 40 s__law_make) := fun us G => by
  unfold r__law_make
  split
  · rename_i u
    split
    · rename_i s e
      obtain ⟨rfl, ho⟩ := drOfU_ok e
      refine .inr (.inr ?_)
      rw [run__law_make]
      have hs : startS d__law_make.N [drU s] = [some (drU s)] := rfl
      rw [hs]
      unfold m__law_make
      have A := idxS (s := s) (sg := [some (drU s)]) (j := 0) (G := G) rfl
      have hm : makeKM 0 2 4 r_Stepper_init (consA (bin2 idxU (varM 0) (litM (.int 0))) (consA (bin2 idxU (varM 0) (litM (.int 1))) nilA)) (consA (bin2 idxU (varM 0) (litM (.int 2))) (consA (bin2 idxU (varM 0) (litM (.int 3))) (consA (bin2 idxU (varM 0) (litM (.int 4))) (consA (bin2 idxU (varM 0) (litM (.int 5))) nilA)))) [some (drU s)] G = .ok (.ref G.length) (G ++ [.ins 0 (stF s.w s.p s.k s.t s.zs s.n)]) := by
        unfold makeKM
        refine (show _ = Rs.bind _ _ from congrArg (fun z => Rs.bind z _) (consA_p A.1 (consA_p A.2.1 rfl))).trans ?_
        simp only [bind_ok]
        refine (show _ = Rs.bind _ _ from congrArg (fun z => Rs.bind z _) (consA_p A.2.2.1 (consA_p A.2.2.2.1 (consA_p A.2.2.2.2.1 (consA_p A.2.2.2.2.2 rfl))))).trans ?_
        simp only [bind_ok]
        refine (if_pos ⟨rfl, rfl⟩).trans ?_
        unfold madeU arM
        refine (show _ = Rs.bind (.ok U.non (G ++ [.ins 0 (stF s.w s.p s.k s.t s.zs s.n)])) _ from congrArg (fun z => Rs.bind z _) ((if_pos rfl).trans ?_)).trans ?_
        · simp only [List.cons_append, List.nil_append, r_Stepper_init, get_new, strsOf_map]
          refine (if_pos ho).trans ?_
          rw [set_new]
        · rfl
      refine cut_rt (g := [.ins 0 (stF s.w s.p s.k s.t s.zs s.n)]) (stE_rt hm) ?_
      show refF G.length _ 6 G.length = _
      unfold refF
      rw [if_neg (Nat.lt_irrefl _), get_new]
      simp only [map_st, Option.map_some]
      rfl
    · exact .inl rfl
  · exact .inl rfl
def pcs (w : W1) : List W1 := [[97], [98], [99], w, w, w.take 1, w.drop 1]
theorem textP_snoc {w : W1} : ∀ (k : Nat) (l : Int × Int × List Int) (t : W1), textP w (k + 1) l t = ((textP w k l t).1 ++ (pickP [] (textP w k l t).2 (pcs w)).1, (pickP [] (textP w k l t).2 (pcs w)).2)
  | 0, l, t => rfl
  | k + 1, l, t => by
    rw [textP]
    rw [textP_snoc k]
    rfl
theorem pcs_isT {w : W1} (h : isT w = true) : ∀ x ∈ pcs w, isT x = true := by
  intro x hx
  simp only [pcs, List.mem_cons, List.not_mem_nil, or_false] at hx
  rcases hx with e | e | e | e | e | e | e <;> subst e
  · decide
  · decide
  · decide
  · exact h
  · exact h
  · exact isT_take h
  · exact isT_drop h
theorem textP_ok {w : W1} (h : isT w = true) (hw : w.length ≤ 3) : ∀ (k : Nat) (l : Int × Int × List Int), isT (textP w k l []).1 = true ∧ (textP w k l []).1.length ≤ 3 * k ∧ (textP w k l []).2.2.2.length ≤ l.2.2.length
  | 0, l => ⟨rfl, Nat.zero_le _, Nat.le_refl _⟩
  | k + 1, l => by
    obtain ⟨a, b, c⟩ := textP_ok h hw k l
    obtain ⟨q1, q2⟩ := pick_mem [] (textP w k l []).2 (pcs w) (by simp [pcs])
    have q3 : (pickP [] (textP w k l []).2 (pcs w)).1.length ≤ 3 := by
      generalize (pickP [] (textP w k l []).2 (pcs w)).1 = x at q1
      simp only [pcs, List.mem_cons, List.not_mem_nil, or_false] at q1
      rcases q1 with e | e | e | e | e | e | e <;> subst e <;> first | omega | (simp; done) | (simp; omega)
    rw [textP_snoc]
    refine ⟨?_, ?_, ?_⟩
    · simp only [isT_app, a, pcs_isT h _ q1, Bool.and_self]
    · simp only [List.length_append]; omega
    · simp only; omega
theorem forM_ok {it : MI} {g : MG} {body : MS} {s : Sg} {G G1 : List Ob} {b : Itb} {n : Nat} {r : Rt} (hi : it s G = .ok (b, n) G1) (h : forL b g body n 0 s G1 = r) : forM it g body s G = r := by
  unfold forM
  rw [hi]
  exact h
theorem le__law_text : Le r__law_text (runB d__law_text 40 s__law_text) := fun us G => by
  unfold r__law_text
  split
  · rename_i i u
    split
    · rename_i l s e es
      obtain ⟨rfl, ho⟩ := drOfU_ok es
      obtain ⟨h1, h2, h3, h4, h5, h6, h7, h8, h9, h10⟩ := okd_parts ho
      have hr : l.2.2.length ≤ 63 := by
        obtain ⟨a, b, r⟩ := l
        exact (drOf_ok e).2
      refine .inr ?_
      rw [run__law_text]
      have hs : startS d__law_text.N [.ref i, drU s, .int 10] = [some (.ref i), some (drU s), some (.int 10), none, none] := rfl
      rw [hs]
      unfold m__law_text
      rw [seqM_set (u := .str []) (G1 := G) (by simp [litM])]
      obtain ⟨v, l', hb, hc, hl', hv0, hv⟩ := below_call (s := [some (.ref i), some (drU s), some (.int 10), some (.str []), none]) (j := 0) (m := bin2 (addU false) (varM 2) (litM (.int 1))) (n := 11) e rfl (add_int (x := 10) (y := 1) rfl rfl rfl) (by omega)
      have e1 := drOf_set (l' := l') e (by omega)
      have hn : preI rng1U (consA (callM 2 r__law_below (consA (varM 0) (consA (bin2 (addU false) (varM 2) (litM (.int 1))) nilA))) nilA) [some (.ref i), some (drU s), some (.int 10), some (.str []), none] G = .ok (.items (rangeL 0 1 v.toNat), v.toNat) (G.set i (drC (dl l'))) := by
        rw [pre_oneI hc]
        simp only [rng1U]
        rw [if_pos (by omega)]
      have ht : textD s.w l = ((textP s.w v.toNat l' []).1.take 10, (textP s.w v.toNat l' []).2) := by
        unfold textD
        simp only [hb, dl, List.headD_cons, List.tail_cons]
      obtain ⟨s', G', q1, x, q2, q3⟩ := forL_inv (b := .items (rangeL 0 1 v.toNat)) (g := nameG 4) (body := stE (bin2 (addU false) (varM 3) (callM 2 r__law_pick (consA (varM 0) (consA (lstM false (consA (litM (.str (Str.ofString "a").cps.toList)) (consA (litM (.str (Str.ofString "b").cps.toList)) (consA (litM (.str (Str.ofString "c").cps.toList)) (consA (bin2 idxU (varM 1) (litM (.int 0))) (consA (bin2 idxU (varM 1) (litM (.int 0))) (consA (slM false (bin2 idxU (varM 1) (litM (.int 0))) noneO (someO (litM (.int 1)))) (consA (slM false (bin2 idxU (varM 1) (litM (.int 0))) (someO (litM (.int 1))) noneO) nilA)))))))) nilA)))) (setM 3))
        (fun k s' G' => ∃ x, s' = [some (.ref i), some (drU s), some (.int 10), some (.str (textP s.w k l' []).1), x] ∧ G' = G.set i (drC (dl (textP s.w k l' []).2))) (n := v.toNat) (l := rangeL 0 1 v.toNat) (by simp [rangeL]) (fun G i => rfl)
        (fun k z s1 G1 hz ⟨x, e1', e2'⟩ => by
          subst e1'
          subst e2'
          have hk : k < v.toNat := by
            have := (List.getElem?_eq_some_iff.mp hz).1
            simpa [rangeL] using this
          obtain ⟨a, b, c⟩ := textP_ok h1 h3 k l'
          have ek := drOf_set (l' := (textP s.w k l' []).2) e (by omega)
          generalize hGk : G.set i (drC (dl (textP s.w k l' []).2)) = Gk at ek ⊢
          have A := idxS (s := s) (sg := [some (.ref i), some (drU s), some (.int 10), some (.str (textP s.w k l' []).1), some z]) (j := 1) (G := Gk) rfl
          have hl : lstM false (consA (litM (.str (Str.ofString "a").cps.toList)) (consA (litM (.str (Str.ofString "b").cps.toList)) (consA (litM (.str (Str.ofString "c").cps.toList)) (consA (bin2 idxU (varM 1) (litM (.int 0))) (consA (bin2 idxU (varM 1) (litM (.int 0))) (consA (slM false (bin2 idxU (varM 1) (litM (.int 0))) noneO (someO (litM (.int 1)))) (consA (slM false (bin2 idxU (varM 1) (litM (.int 0))) (someO (litM (.int 1))) noneO) nilA))))))) [some (.ref i), some (drU s), some (.int 10), some (.str (textP s.w k l' []).1), some z] Gk = .ok (.lst ((pcs s.w).map .str)) Gk := by
            have c1 : slM false (bin2 idxU (varM 1) (litM (.int 0))) noneO (someO (litM (.int 1))) [some (.ref i), some (drU s), some (.int 10), some (.str (textP s.w k l' []).1), some z] Gk = .ok (.str (s.w.take 1)) Gk := by
              unfold slM
              rw [A.1]
              simp only [bind_ok, noneO, someO, litM, slU]
              rw [if_pos (by unfold szL; omega)]
              exact congrArg (fun z => Rs.ok (U.str z) Gk) (cut_to (a := 1))
            have c2 : slM false (bin2 idxU (varM 1) (litM (.int 0))) (someO (litM (.int 1))) noneO [some (.ref i), some (drU s), some (.int 10), some (.str (textP s.w k l' []).1), some z] Gk = .ok (.str (s.w.drop 1)) Gk := by
              unfold slM
              rw [A.1]
              simp only [bind_ok, noneO, someO, litM, slU]
              rw [if_pos (by unfold szL; omega)]
              exact congrArg (fun z => Rs.ok (U.str z) Gk) (cut_from (a := 1))
            unfold lstM
            rw [consA_p (x := .str [97]) (by simp [litM]) (consA_p (x := .str [98]) (by simp [litM]) (consA_p (x := .str [99]) (by simp [litM]) (consA_p A.1 (consA_p A.1 (consA_p c1 (consA_p c2 rfl))))))]
            simp only [bind_ok]
            exact newL_f (by simp [szL])
          have hp := call_pick U.str (pcs s.w) [] (s := [some (.ref i), some (drU s), some (.int 10), some (.str (textP s.w k l' []).1), some z]) (j := 0) (G := Gk) (l := (textP s.w k l' []).2) (by simp [pcs]) (by simp [pcs]) ek rfl hl
          have q2 := pick_mem [] (textP s.w k l' []).2 (pcs s.w) (by simp [pcs])
          refine ⟨_, [some (.ref i), some (drU s), some (.int 10), some (.str (textP s.w (k + 1) l' []).1), some z], Gk.set i (drC (dl (textP s.w (k + 1) l' []).2)), rfl, .inl ?_, some z, rfl, by rw [← hGk, List.set_set]⟩
          refine stE_set (i := 3) (s := [some (.ref i), some (drU s), some (.int 10), some (.str (textP s.w k l' []).1), some z]) (u := .str (textP s.w (k + 1) l' []).1) ?_
          rw [bin2_ok (G1 := Gk) (x := .str (textP s.w k l' []).1) (var_ok rfl) hp, textP_snoc]
          simp only [addU]
          have hb3 : (textP s.w (k + 1) l' []).1.length ≤ 3 * (k + 1) := (textP_ok h1 h3 (k + 1) l').2.1
          rw [textP_snoc] at hb3
          simp only [List.length_append] at hb3
          exact if_pos (by unfold szL; omega)) v.toNat 0 [some (.ref i), some (drU s), some (.int 10), some (.str []), none] (G.set i (drC (dl l'))) (Nat.zero_add _) ⟨none, rfl, rfl⟩
      subst q2
      subst q3
      show _ = runR (seqM _ _ [some (.ref i), some (drU s), some (.int 10), some (.str []), none] G)
      rw [seqM_nx (forM_ok hn q1)]
      obtain ⟨a, b, c⟩ := textP_ok h1 h3 v.toNat l'
      rw [stE_rt (u := .str ((textP s.w v.toNat l' []).1.take 10)) (G1 := G.set i (drC (dl (textP s.w v.toNat l' []).2))) (by
        unfold slM
        rw [var_ok (u := .str (textP s.w v.toNat l' []).1) rfl]
        simp only [bind_ok, noneO]
        rw [someO_ok (z := 10) rfl]
        simp only [bind_ok, slU]
        rw [if_pos (by unfold szL; omega)]
        exact congrArg (fun z => Rs.ok (U.str z) _) (cut_to (a := 10)))]
      rw [ht]
      rfl
    · exact .inl rfl
  · exact .inl rfl
end FL

namespace FL
open PySem L2 PyProof.Rows
theorem okC_take {l : W1} {n : Nat} (h : okC l = true) : okC (l.take n) = true := by
  unfold okC at *
  rw [List.all_eq_true] at *
  exact fun c hc => h c (List.mem_of_mem_take hc)
theorem okC_drop {l : W1} {n : Nat} (h : okC l = true) : okC (l.drop n) = true := by
  unfold okC at *
  rw [List.all_eq_true] at *
  exact fun c hc => h c (List.mem_of_mem_drop hc)
theorem var_set {s : Sg} {G : List Ob} {j : Nat} {u : U} (hj : j < s.length) : varM j (s.set j (some u)) G = .ok u G := var_ok (List.getElem?_set_self hj)
theorem name_wipe {s : Sg} {j : Nat} {u : U} : nameG j u (wipeS s [j]) = some (s.set j (some u)) := by
  simp [nameG, wipeS, List.set_set]
theorem join_lst {G : List Ob} {sg : Sg} {mb : ME} {l : W1} (h : mb sg G = .ok (.lst (l.map fun c => .str [c])) G) (hz : l.length ≤ szL) : joinM (litM (.str (Str.ofString "").cps.toList)) mb sg G = .ok (.str l) G := by
  have e0 : litM (.str (Str.ofString "").cps.toList) sg G = .ok (.str []) G := by simp [litM]
  have e : l.map (fun c => U.str [c]) = (l.map fun c => [c]).map U.str := by rw [List.map_map]; rfl
  unfold joinM
  rw [e0]
  simp only [bind_ok, h, lstOf]
  rw [e, strsOf_map]
  simp only [List.length_nil, Nat.mul_zero, Nat.add_zero, join_sing]
  refine if_pos ?_
  have : ∀ a : W1, ((a.map fun c => [c]).map List.length).sum = a.length := fun a => by
    induction a with
    | nil => rfl
    | cons x r ih => simp only [List.map_cons, List.sum_cons, ih, List.length_cons, List.length_nil]; omega
  rw [this]
  exact hz
/-- the signs of items, read in a comprehension -/
theorem comp_signs {G : List Ob} {sg : Sg} {mm : ME} {j : Nat} {l : List It1} (hj : j < sg.length) (h : mm sg G = .ok (.lst (l.map itU)) G) (hz : l.length ≤ szL) :
    compM false (seqI mm) (nameG j) yesT (bin2 idxU (varM j) (litM (.int 0))) [j] sg G = .ok (.lst ((sgn l).map fun c => .str [c])) G := by
  have hit : seqI mm sg G = .ok (.seq (.lst (l.map itU)), (l.map itU).length) G := by
    unfold seqI
    rw [h]
    simp [seqOf, lstOf]
  have hc := comp_seq (mu := false) (g := nameG j) (t := yesT) (e := bin2 idxU (varM j) (litM (.int 0))) (own := [j]) (s := sg) (h := fun z => match z with | .tup [.str a, _] => .str a | z => z) hit rfl fun z hz' => by
    obtain ⟨e, he, rfl⟩ := List.mem_map.mp hz'
    exact ⟨sg.set j (some (itU e)), name_wipe, rfl, idx_tup0 (k := 0) (var_set hj) rfl⟩
  refine hc.trans ?_
  have e : (l.map itU).map (fun z => match z with | .tup [.str a, _] => .str a | z => z) = (sgn l).map fun c => U.str [c] := by
    unfold sgn
    rw [List.map_map, List.map_map]
    rfl
  rw [e]
  exact newL_f (by rw [List.length_map, sgn_len]; exact hz)
theorem join_signs {G : List Ob} {sg : Sg} {mm : ME} {j : Nat} {l : List It1} (hj : j < sg.length) (h : mm sg G = .ok (.lst (l.map itU)) G) (hz : l.length ≤ szL) :
    joinM (litM (.str (Str.ofString "").cps.toList)) (compM false (seqI mm) (nameG j) yesT (bin2 idxU (varM j) (litM (.int 0))) [j]) sg G = .ok (.str (sgn l)) G :=
  join_lst (comp_signs hj h hz) (by rw [sgn_len]; exact hz)
theorem len_str {G : List Ob} {sg : Sg} {m : ME} {l : W1} (h : m sg G = .ok (.str l) G) (hz : l.length ≤ szL) : preM lenU (consA m nilA) sg G = .ok (.int l.length) G := by
  rw [pre_one h]
  simp only [lenU]
  rw [if_pos hz]
theorem placeS_drop {w L : W1} {k : Nat} (hk : k < L.length) : placeS w (L.drop k) = if w.isPrefixOf (L.drop k) then some 0 else (placeS w (L.drop (k + 1))).map (· + 1) := by
  rw [List.drop_eq_getElem_cons hk]
  rfl
theorem placeS_nil {w : W1} : ∀ {L : W1}, L.length < w.length → placeS w L = none := fun {L} h => by
  cases e : placeS w L with
  | none => rfl
  | some p => have := (placeS_some e).1; omega
theorem pre_eq {w L : W1} {k : Nat} : w.isPrefixOf (L.drop k) = decide ((L.drop k).take w.length = w) := by
  rw [Bool.eq_iff_iff, List.isPrefixOf_iff_prefix, decide_eq_true_eq]
  constructor
  · rintro ⟨t, ht⟩
    rw [← ht]
    simp
  · intro h
    rw [← h]
    exact List.take_prefix _ _
theorem rng2_items {k n : Nat} {z : Int} {G : List Ob} (hk : k ≤ szL) (hz : -100 ≤ z ∧ z ≤ szL) (hn : (z - k).toNat = n) : rng2U [.int (k : Nat), .int z] G = .ok (.items (rangeL (k : Nat) 1 n), n) G := by
  have h1 : -(2 ^ 62 : Int) ≤ (k : Int) ∧ (k : Int) < 2 ^ 62 ∧ -(2 ^ 62 : Int) ≤ z ∧ z < 2 ^ 62 := by unfold szL at hk hz; omega
  simp only [rng2U]
  rw [if_pos h1, hn]
theorem pre2I {f : List U → List Ob → Rs (Itb × Nat)} {a b : ME} {s : Sg} {G : List Ob} {x y : U} (h1 : a s G = .ok x G) (h2 : b s G = .ok y G) : preI f (consA a (consA b nilA)) s G = f [x, y] G := by
  unfold preI
  rw [consA_p h1 (consA_p h2 rfl)]
  simp only [bind_ok]
theorem pre_two {f : RunD} {a b : ME} {s : Sg} {G : List Ob} {x y : U} (h1 : a s G = .ok x G) (h2 : b s G = .ok y G) : preM f (consA a (consA b nilA)) s G = f [x, y] G := by
  unfold preM
  rw [consA_p h1 (consA_p h2 rfl)]
  simp only [bind_ok]
theorem max_two {a b : Int} {G : List Ob} : maxU [.int a, .int b] G = .ok (.int (max a b)) G := by
  simp only [maxU]
  congr 2
  split <;> omega
abbrev fiT : MT := tobM (bin2 (eqX false (fun c => d__law_find.eqt.lookup c)) (joinM (litM (.str (Str.ofString "").cps.toList)) (compM false (seqI (slM false (varM 1) (someO (varM 3)) (someO (bin2 (addU false) (varM 3) (preM lenU (consA (varM 0) nilA)))))) (nameG 4) yesT (bin2 idxU (varM 4) (litM (.int 0))) [4])) (varM 0))
section
variable {G : List Ob} {w : W1} {l : List It1} {k0 : Option U}
theorem fi_test {p : Nat} {x2 x4 : Option U} (hw : isT w = true) (hw3 : w.length ≤ 3) (hl : isT (sgn l) = true) (hz : l.length ≤ 1000000) :
    fiT [some (.str w), some (.lst (l.map itU)), x2, some (.int (p : Nat)), x4] G = .ok (w.isPrefixOf ((sgn l).drop p)) G := by
  have hlen : preM lenU (consA (varM 0) nilA) [some (.str w), some (.lst (l.map itU)), x2, some (.int (p : Nat)), x4] G = .ok (.int w.length) G := len_str rfl (by unfold szL; omega)
  have hsl : slM false (varM 1) (someO (varM 3)) (someO (bin2 (addU false) (varM 3) (preM lenU (consA (varM 0) nilA)))) [some (.str w), some (.lst (l.map itU)), x2, some (.int (p : Nat)), x4] G = .ok (.lst (((l.drop p).take w.length).map itU)) G := by
    refine (sl_lst (u := .lst (l.map itU)) (us := l.map itU) rfl rfl (someO_ok (z := (p : Int)) rfl) (someO_ok (add_int (x := p) (y := w.length) (z := (p : Int) + w.length) rfl hlen rfl)) ?_).trans ?_
    · rw [cut_mid, List.length_take, List.length_drop, List.length_map]; unfold szL; omega
    · rw [cut_mid, List.map_take, List.map_drop]
  have hj := join_signs (j := 4) (sg := [some (.str w), some (.lst (l.map itU)), x2, some (.int (p : Nat)), x4]) (by simp) hsl (by rw [List.length_take]; unfold szL; omega)
  rw [sgn_take, sgn_drop] at hj
  refine (tob_str (neg := false) hj (var_ok (u := .str w) rfl) (okC_take (okC_drop (isT_ok hl))) (isT_ok hw)).trans ?_
  rw [pre_eq]
  simp only [Bool.false_eq_true, if_false]
  congr 1
  by_cases z : List.take (List.length w) (List.drop p (sgn l)) = w <;> simp [z]
theorem fi_loop {b : List U} {k N : Nat} (hb : b = rangeL (k : Nat) 1 N) (hw : isT w = true) (hw0 : 0 < w.length) (hw3 : w.length ≤ 3) (hl : isT (sgn l) = true) (hz : l.length ≤ 1000000) (hN : k + N = max k (l.length + 1 - w.length)) :
    ∀ (n j : Nat) {x3 x4 : Option U}, j + n = N → match placeS w ((sgn l).drop (k + j)) with
      | some p => forL (.items b) (nameG 3) (ifM fiT (stE (varM 3) rtM) nxM) n j [some (.str w), some (.lst (l.map itU)), k0, x3, x4] G = .rt (.int ((p + (k + j) : Nat) : Int)) G
      | none => ∃ sg', forL (.items b) (nameG 3) (ifM fiT (stE (varM 3) rtM) nxM) n j [some (.str w), some (.lst (l.map itU)), k0, x3, x4] G = .nx sg' G
  | 0, j, x3, x4, h => by
    have hn : placeS w ((sgn l).drop (k + j)) = none := placeS_nil (by rw [List.length_drop, sgn_len]; omega)
    rw [hn]
    refine ⟨[some (.str w), some (.lst (l.map itU)), k0, x3, x4], ?_⟩
    have : b[j]? = none := by rw [hb, rangeL_get, if_neg (by omega)]
    unfold forL
    simp only [itAt, this]
  | n + 1, j, x3, x4, h => by
    have hk : k + j < (sgn l).length := by rw [sgn_len]; omega
    have hbj : b[j]? = some (.int ((k + j : Nat) : Int)) := by
      rw [hb, rangeL_get, if_pos (by omega)]
      congr 2
      omega
    have ht := fi_test (G := G) (p := k + j) (x2 := k0) (x4 := x4) hw hw3 hl hz
    rw [placeS_drop hk]
    by_cases z : w.isPrefixOf ((sgn l).drop (k + j)) = true
    · rw [z] at ht
      simp only [z, if_true, Nat.zero_add]
      have hB : ifM fiT (stE (varM 3) rtM) nxM [some (.str w), some (.lst (l.map itU)), k0, some (.int ((k + j : Nat) : Int)), x4] G = .rt (.int ((k + j : Nat) : Int)) G := (ifM_t ht).trans (stE_rt rfl)
      unfold forL
      simp only [itAt, hbj, nameG, List.set, hB]
    · have z' : w.isPrefixOf ((sgn l).drop (k + j)) = false := (Bool.not_eq_true _).mp z
      rw [z'] at ht
      simp only [z', Bool.false_eq_true, if_false]
      have hB : ifM fiT (stE (varM 3) rtM) nxM [some (.str w), some (.lst (l.map itU)), k0, some (.int ((k + j : Nat) : Int)), x4] G = .nx [some (.str w), some (.lst (l.map itU)), k0, some (.int ((k + j : Nat) : Int)), x4] G := ifM_fn ht
      have ih := fi_loop hb hw hw0 hw3 hl hz hN n (j + 1) (x3 := some (.int ((k + j : Nat) : Int))) (x4 := x4) (by omega)
      have hgo : forL (.items b) (nameG 3) (ifM fiT (stE (varM 3) rtM) nxM) (n + 1) j [some (.str w), some (.lst (l.map itU)), k0, x3, x4] G = forL (.items b) (nameG 3) (ifM fiT (stE (varM 3) rtM) nxM) n (j + 1) [some (.str w), some (.lst (l.map itU)), k0, some (.int ((k + j : Nat) : Int)), x4] G := by
        rw [forL]
        simp only [itAt, hbj, nameG, List.set, hB]
      rw [hgo]
      rw [show k + (j + 1) = k + j + 1 by omega] at ih
      cases e : placeS w ((sgn l).drop (k + j + 1)) with
      | none => rw [e] at ih; exact ih
      | some p =>
        rw [e] at ih
        refine ih.trans ?_
        simp only
        congr 2
        omega
end
theorem le__law_find : Le r__law_find (runB d__law_find 40 s__law_find) := fun us G => by
  unfold r__law_find
  split
  · rename_i w items k
    cases el : itsOf items with
    | none => exact .inl rfl
    | some l =>
      have := itsOf_eq el
      subst this
      by_cases hh : 0 < w.length ∧ w.length ≤ 3 ∧ isT w = true ∧ isT (sgn l) = true ∧ l.length ≤ 1000000 ∧ k ≤ l.length
      rotate_left
      · exact .inl (if_neg hh)
      obtain ⟨hw0, hw3, hw, hl, hz, hk⟩ := id hh
      simp only [if_pos hh]
      refine .inr ?_
      rw [run__law_find]
      have hs : startS d__law_find.N [.str w, .lst (l.map itU), .int (Int.ofNat k)] = [some (.str w), some (.lst (l.map itU)), some (.int (k : Nat)), none, none] := rfl
      rw [hs]
      have hr : preI rng2U (consA (varM 2) (consA (bin2 (addU false) (bin2 subU (preM lenU (consA (varM 1) nilA)) (preM lenU (consA (varM 0) nilA))) (litM (.int 1))) nilA)) [some (.str w), some (.lst (l.map itU)), some (.int (k : Nat)), none, none] G = .ok (.items (rangeL (k : Nat) 1 (l.length + 1 - w.length - k)), l.length + 1 - w.length - k) G := by
        have hlw : preM lenU (consA (varM 0) nilA) [some (.str w), some (.lst (l.map itU)), some (.int (k : Nat)), none, none] G = .ok (.int w.length) G := len_str rfl (by unfold szL; omega)
        have hll : preM lenU (consA (varM 1) nilA) [some (.str w), some (.lst (l.map itU)), some (.int (k : Nat)), none, none] G = .ok (.int l.length) G := len_lst (u := .lst (l.map itU)) rfl rfl
        have ha := add_int (z := (l.length : Int) - w.length + 1) (sub_int hll hlw rfl) (m2 := litM (.int 1)) (y := 1) rfl rfl
        exact (pre2I (x := .int (k : Nat)) rfl ha).trans (rng2_items (by unfold szL; omega) (by unfold szL; omega) (by omega))
      have lp := fi_loop (G := G) (w := w) (l := l) (k0 := some (.int (k : Nat))) (k := k) rfl hw hw0 hw3 hl hz (N := l.length + 1 - w.length - k) (by omega) (l.length + 1 - w.length - k) 0 (x3 := none) (x4 := none) (Nat.zero_add _)
      rw [Nat.add_zero] at lp
      unfold m__law_find
      cases e : placeS w ((sgn l).drop k) with
      | some p =>
        rw [e] at lp
        rw [seqM_rt (forM_ok hr lp)]
        rfl
      | none =>
        rw [e] at lp
        obtain ⟨sg', lp⟩ := lp
        rw [seqM_nx (forM_ok hr lp)]
        rfl
  · exact .inl rfl
theorem le__law_signs : Le r__law_signs (runB d__law_signs 40 s__law_signs) := fun us G => by
  unfold r__law_signs
  split
  · rename_i items
    cases el : itsOf items with
    | none => exact .inl rfl
    | some l =>
      have := itsOf_eq el
      subst this
      by_cases hz : l.length ≤ 1000000
      rotate_left
      · exact .inl (if_neg hz)
      simp only [if_pos hz]
      refine .inr ?_
      rw [run__law_signs]
      have hs : startS d__law_signs.N [.lst (l.map itU)] = [some (.lst (l.map itU)), none] := rfl
      rw [hs]
      exact (congrArg runR (stE_rt (join_signs (j := 1) (sg := [some (.lst (l.map itU)), none]) (mm := varM 0) (by simp) rfl (by unfold szL; omega)))).symm
  · exact .inl rfl
theorem le__law_ahead : Le r__law_ahead (runB d__law_ahead 40 s__law_ahead) := fun us G => by
  unfold r__law_ahead
  split
  · rename_i u
    cases es : drOfU u with
    | none => exact .inl rfl
    | some s =>
      obtain ⟨rfl, ho⟩ := drOfU_ok es
      obtain ⟨h1, h2, h3, h4, h5, h6, h7, h8, h9, h10⟩ := okd_parts ho
      have okt : okC s.t = true := inW_ok (by decide) h7
      refine .inr ?_
      rw [run__law_ahead]
      have hs : startS d__law_ahead.N [drU s] = [some (drU s)] := rfl
      rw [hs]
      unfold m__law_ahead
      have A := idxS (s := s) (sg := [some (drU s)]) (j := 0) (G := G) rfl
      have t1 := tob_str (neg := false) (et := fun c => d__law_ahead.eqt.lookup c) (b := litM (.str (Str.ofString "first").cps.toList)) (y := [102, 105, 114, 115, 116]) A.2.2.2.1 (by simp [litM]) okt (by decide)
      have t2 := tob_str (neg := false) (et := fun c => d__law_ahead.eqt.lookup c) (b := litM (.str (Str.ofString "behind").cps.toList)) (y := wBehind) A.2.2.2.1 (by simp [litM, wBehind]) okt (by decide)
      have hlp : preM lenU (consA (bin2 idxU (varM 0) (litM (.int 1))) nilA) [some (drU s)] G = .ok (.int s.p.length) G := len_str A.2.1 (by unfold szL; omega)
      have ht : s.t = [102, 105, 114, 115, 116] ∨ s.t = wLast ∨ s.t = wBehind := by
        simp [inW, turnsL] at h7
        rcases h7 with h | h | h
        · exact .inl h.symm
        · exact .inr (.inl h.symm)
        · exact .inr (.inr h.symm)
      rcases ht with ht | ht | ht
      · have e1 : (if false = true then !(s.t == [102, 105, 114, 115, 116]) else s.t == [102, 105, 114, 115, 116]) = true := by rw [ht]; rfl
        rw [e1] at t1
        rw [seqM_ift t1 (stE_rt rfl)]
        have : turnP s s.p.length = 0 := by unfold turnP; rw [ht]; rfl
        show Rs.ok (U.int (turnP s s.p.length : Nat)) G = _
        rw [this]
        rfl
      · have e1 : (if false = true then !(s.t == [102, 105, 114, 115, 116]) else s.t == [102, 105, 114, 115, 116]) = false := by rw [ht]; rfl
        rw [e1] at t1
        have e2 : (if false = true then !(s.t == wBehind) else s.t == wBehind) = false := by rw [ht]; rfl
        rw [e2] at t2
        rw [seqM_if t1, seqM_if t2]
        have : turnP s s.p.length = s.p.length - 1 := by unfold turnP; rw [ht]; rfl
        show Rs.ok (U.int (turnP s s.p.length : Nat)) G = _
        rw [this]
        have hm : preM maxU (consA (litM (.int 0)) (consA (bin2 subU (preM lenU (consA (bin2 idxU (varM 0) (litM (.int 1))) nilA)) (litM (.int 1))) nilA)) [some (drU s)] G = .ok (.int ((s.p.length - 1 : Nat) : Int)) G := by
          rw [pre_two (x := .int 0) rfl (sub_int (x := s.p.length) (y := 1) hlp rfl rfl), max_two]
          congr 2
          omega
        rw [stE_rt hm]
        rfl
      · have e1 : (if false = true then !(s.t == [102, 105, 114, 115, 116]) else s.t == [102, 105, 114, 115, 116]) = false := by rw [ht]; rfl
        rw [e1] at t1
        have e2 : (if false = true then !(s.t == wBehind) else s.t == wBehind) = true := by rw [ht]; rfl
        rw [e2] at t2
        rw [seqM_if t1, seqM_ift t2 (stE_rt hlp)]
        have : turnP s s.p.length = s.p.length := by unfold turnP; rw [ht]; rfl
        show Rs.ok (U.int (turnP s s.p.length : Nat)) G = _
        rw [this]
        rfl
  · exact .inl rfl
end FL

namespace FL
open PySem L2 PyProof.Rows
theorem eqv_pair (a b : Nat) (x y : W1) : PyData.eqv (dP (.tup [.int (a : Nat), .str x])) (dP (.tup [.int (b : Nat), .str y])) = ((a, x) == (b, y)) := by
  have h1 := eqv_int (a : Int) (b : Int)
  have h2 := eqv_str x y
  show PyData.eqv (.tuple [dP (.int (a : Nat)), dP (.str x)]) (.tuple [dP (.int (b : Nat)), dP (.str y)]) = _
  simp only [PyData.eqv, PyData.eqvAll, h1, h2, Bool.and_true]
  rw [Bool.eq_iff_iff]
  simp only [Bool.and_eq_true, beq_iff_eq, Prod.mk.injEq]
  exact and_congr (by omega) Iff.rfl
abbrev lp0 : MS := (stE (preM (listU false) (consA (varM 1) nilA)) (setM 2))
abbrev lp1 : MS := (stE (litM (.int 0)) (setM 3))
abbrev lp2 : MS := (stE (litM (.int 0)) (setM 4))
abbrev lp3 : MS := (stE (lstM true nilA) (setM 5))
abbrev lp4 : MS := (stE (lstM true nilA) (setM 6))
abbrev lp5 : MS := (stE (preM lenU (consA (bin2 idxU (varM 0) (litM (.int 0))) nilA)) (setM 7))
abbrev lp6 : MS := (stE (callM 3 r__law_find (consA (bin2 idxU (varM 0) (litM (.int 0))) (consA (varM 2) (consA (varM 3) nilA)))) (setM 8))
abbrev lp7C : MT := (tobM (bin2 (cmpU fun i j => decide (j ≤ i)) (varM 8) (litM (.int 0))))
abbrev lp7b0 : MS := (stE (bin2 idxU (bin2 idxU (varM 0) (litM (.int 4))) (varM 4)) (setM 9))
abbrev lp7b1 : MS := (stE (bin2 modU (bin2 (addU false) (varM 4) (litM (.int 1))) (preM lenU (consA (bin2 idxU (varM 0) (litM (.int 4))) nilA))) (setM 4))
abbrev lp7b2 : MS := (stE (bmM appendU (varM 5) (consA (tupM (consA (varM 9) (consA (varM 8) (consA (slM false (varM 2) (someO (varM 8)) (someO (bin2 (addU false) (varM 8) (varM 7)))) nilA)))) nilA)) (fun _ => nxM))
abbrev lp7b3 : MS := (stE (bin2 subU (bin2 subU (preM lenU (consA (varM 2) nilA)) (varM 8)) (varM 7)) (setM 10))
abbrev lp7b4 : MS := (stE (compM true (seqI (varM 6)) (nameG 15) (tobM (bin2 (cmpU fun i j => decide (i ≤ j)) (bin2 idxU (varM 15) (litM (.int 1))) (varM 10))) (varM 15) [15]) (setM 6))
abbrev lp7b5 : MS := (ifM (tobM (bin2 (eqX false (fun c => d__law_pass.eqt.lookup c)) (varM 9) (litM (.str (Str.ofString "stop").cps.toList)))) (stE (tupM (consA (varM 2) (consA (varM 5) nilA))) rtM) nxM)
abbrev lp7b6 : MS := (ifM (tobM (bin2 (eqX false (fun c => d__law_pass.eqt.lookup c)) (varM 9) (litM (.str (Str.ofString "replace").cps.toList)))) (seqM (stE (compM false (seqI (bin2 idxU (varM 0) (litM (.int 1)))) (nameG 16) yesT (tupM (consA (varM 16) (consA (litM .non) nilA))) [16]) (setM 11)) (seqM (stE (bin2 (addU false) (bin2 (addU false) (slM false (varM 2) noneO (someO (varM 8))) (varM 11)) (slM false (varM 2) (someO (bin2 (addU false) (varM 8) (varM 7))) noneO)) (setM 2)) (seqM (stE (bin2 (addU false) (varM 8) (callM 1 r__law_ahead (consA (varM 0) nilA))) (setM 3)) (seqM (stE (bin2 subU (preM lenU (consA (varM 2) nilA)) (varM 3)) (setM 12)) (seqM (stE (tupM (consA (varM 4) (consA (joinM (litM (.str (Str.ofString "").cps.toList)) (compM false (seqI (slM false (varM 2) (someO (varM 3)) (someO (bin2 (addU false) (varM 3) (litM (.int 12)))))) (nameG 17) yesT (bin2 idxU (varM 17) (litM (.int 0))) [17])) nilA))) (setM 13)) (seqM (stE (compM false (seqI (varM 6)) (nameG 15) (andT (tobM (bin2 (eqX false (fun c => d__law_pass.eqt.lookup c)) (bin2 idxU (varM 15) (litM (.int 0))) (varM 13))) (tobM (bin2 (cmpU fun i j => decide (i ≤ j)) (bin2 idxU (varM 15) (litM (.int 2))) (varM 12)))) (varM 15) [15]) (setM 14)) (seqM (ifM (tobM (bin2 (eqX true (fun c => d__law_pass.eqt.lookup c)) (varM 14) (lstM false nilA))) (stE (litM .non) rtM) nxM) (stE (bmM appendU (varM 6) (consA (tupM (consA (varM 13) (consA (preM maxU (consA (litM (.int 0)) (consA (bin2 subU (varM 12) (litM (.int 12))) nilA))) (consA (varM 12) nilA)))) nilA)) (fun _ => nxM))))))))) (ifM (tobM (bin2 (eqX false (fun c => d__law_pass.eqt.lookup c)) (bin2 idxU (varM 0) (litM (.int 2))) (litM (.str (Str.ofString "one").cps.toList)))) (stE (bin2 (addU false) (varM 8) (litM (.int 1))) (setM 3)) (stE (bin2 (addU false) (varM 8) (varM 7)) (setM 3))))
abbrev lp7b7 : MS := (stE (callM 3 r__law_find (consA (bin2 idxU (varM 0) (litM (.int 0))) (consA (varM 2) (consA (varM 3) nilA)))) (setM 8))
abbrev lp7B : MS := seqM lp7b0 (seqM lp7b1 (seqM lp7b2 (seqM lp7b3 (seqM lp7b4 (seqM lp7b5 (seqM lp7b6 lp7b7))))))
abbrev lp7 : MS := whileL lp7C lp7B wF
abbrev lp8 : MS := (stE (tupM (consA (varM 2) (consA (varM 5) nilA))) rtM)
theorem _law_pass_m : m__law_pass = seqM lp0 (seqM lp1 (seqM lp2 (seqM lp3 (seqM lp4 (seqM lp5 (seqM lp6 (seqM lp7 lp8))))))) := rfl
theorem while_step {c : MT} {b : MS} {k : Nat} {s s2 : Sg} {G G1 G2 : List Ob} (h : c s G = .ok true G1) (hb : b s G1 = .nx s2 G2) : whileL c b (k + 1) s G = whileL c b k s2 G2 := by
  rw [whileL]
  simp only [h, hb]
theorem while_rt {c : MT} {b : MS} {k : Nat} {s : Sg} {G G1 G2 : List Ob} {u : U} (h : c s G = .ok true G1) (hb : b s G1 = .rt u G2) : whileL c b (k + 1) s G = .rt u G2 := by
  rw [whileL]
  simp only [h, hb]
theorem while_end {c : MT} {b : MS} {k : Nat} {s : Sg} {G G1 : List Ob} (h : c s G = .ok false G1) : whileL c b (k + 1) s G = .nx s G1 := by
  rw [whileL]
  simp only [h]
theorem app_ok {sg : Sg} {G : List Ob} {mo my : ME} {k : Nat} {l : List U} {y : U} (h0 : mo sg G = .ok (.ref k) G) (hk : G[k]? = some (.lst l)) (hy : my sg G = .ok y G) (hz : l.length < szL) : stE (bmM appendU mo (consA my nilA)) (fun _ => nxM) sg G = .nx sg (G.set k (.lst (l ++ [y]))) := by
  unfold stE bmM
  rw [h0]
  simp only [bind_ok, lstOfW, hk]
  rw [consA_p hy rfl]
  simp only [bind_ok, appendU, hk]
  rw [if_pos hz]
  rfl
def plD (d : Nat) : Option Nat → U
  | some p => .int ((p + d : Nat) : Int)
  | none => .int (-1)
abbrev lpL (s : Dr) (u1 : U) (T : List It1) (c a mi si : Nat) (u8 : U) (x9 x10 x11 x12 x13 x14 x15 x16 x17 : Option U) : Sg := [some (drU s), some u1, some (.lst (T.map itU)), some (.int (c : Nat)), some (.int (a : Nat)), some (.ref mi), some (.ref si), some (.int s.w.length), some u8, x9, x10, x11, x12, x13, x14, x15, x16, x17]
section
variable {G : List Ob} {s : Dr} {u1 u8 : U} {D A T : List It1} {a mi si c : Nat} {met : MetL} {sn : Seen} {x9 x10 x11 x12 x13 x14 x15 x16 x17 : Option U}
theorem find_call (ho : okd s = true) (hT : isT (sgn (D ++ A)) = true) (hz : (D ++ A).length ≤ 1000000) (hc : c = D.length) :
    callM 3 r__law_find (consA (bin2 idxU (varM 0) (litM (.int 0))) (consA (varM 2) (consA (varM 3) nilA))) (lpL s u1 (D ++ A) c a mi si u8 x9 x10 x11 x12 x13 x14 x15 x16 x17) G = .ok (plD D.length (placeO s.w A)) G := by
  obtain ⟨h1, h2, h3, h4, h5, h6, h7, h8, h9, h10⟩ := okd_parts ho
  subst hc
  rw [call3 (G1 := G) (G2 := G) (G3 := G) (idxS (s := s) (j := 0) rfl).1 (var_ok (u := .lst ((D ++ A).map itU)) rfl) (var_ok (u := .int (D.length : Nat)) rfl)]
  show r__law_find [.str s.w, .lst ((D ++ A).map itU), .int (Int.ofNat D.length)] G = _
  unfold r__law_find
  simp only [itsOf_map]
  rw [if_pos ⟨h2, h3, h1, hT, hz, by rw [List.length_append]; omega⟩]
  have e : (sgn (D ++ A)).drop D.length = sgn A := by rw [← sgn_drop, List.drop_append, List.drop_length]; simp
  rw [e, ← placeO_S]
  cases placeO s.w A <;> rfl
/-- the deed, the next, the hit noted, what was touched forgotten -/
theorem head_ok (ho : okd s = true) (ha : a < s.zs.length) (hm : G[mi]? = some (.lst (met.map metU))) (hs : G[si]? = some (.lst (sn.map seenU))) (hne : mi ≠ si) (hz : met.length + 1 ≤ 1000000) (hzs : sn.length ≤ 1000000) (hzA : (D ++ A).length ≤ 1000000) {p : Nat} (hp : p + s.w.length ≤ A.length) (mt : MS) :
    seqM lp7b0 (seqM lp7b1 (seqM lp7b2 (seqM lp7b3 (seqM lp7b4 mt)))) (lpL s u1 (D ++ A) c a mi si (.int ((p + D.length : Nat) : Int)) x9 x10 x11 x12 x13 x14 x15 x16 x17) G =
      mt (lpL s u1 (D ++ A) c ((a + 1) % s.zs.length) mi G.length (.int ((p + D.length : Nat) : Int)) (some (.str (s.zs.getD a []))) (some (.int ((A.length - p - s.w.length : Nat) : Int))) x11 x12 x13 x14 x15 x16 x17) (G.set mi (.lst ((met ++ [(s.zs.getD a [], D.length + p, (A.drop p).take s.w.length)]).map metU)) ++ [.lst ((touchP (A.length - p - s.w.length) sn).map seenU)]) := by
  obtain ⟨h1, h2, h3, h4, h5, h6, h7, h8, h9, h10⟩ := okd_parts ho
  have hlz := (okDs_ok h8).2
  have hlm : mi < G.length := (List.getElem?_eq_some_iff.mp hm).1
  have hls : si < G.length := (List.getElem?_eq_some_iff.mp hs).1
  rw [List.length_append] at hzA
  -- the deed
  have e0 : bin2 idxU (bin2 idxU (varM 0) (litM (.int 4))) (varM 4) (lpL s u1 (D ++ A) c a mi si (.int ((p + D.length : Nat) : Int)) x9 x10 x11 x12 x13 x14 x15 x16 x17) G = .ok (.str (s.zs.getD a [])) G := by
    rw [bin2_p (idxS (s := s) (j := 0) rfl).2.2.2.2.1 (var_ok (u := .int (a : Nat)) rfl)]
    have : (s.zs.map U.str)[a]? = some (.str (s.zs.getD a [])) := by
      rw [List.getElem?_map, List.getElem?_eq_getElem ha]
      simp [List.getD, List.getElem?_eq_getElem ha]
    simp [idxU, seqOf, atI_nat this]
  refine (seqM_set e0).trans ?_
  -- the next
  have e1 : bin2 modU (bin2 (addU false) (varM 4) (litM (.int 1))) (preM lenU (consA (bin2 idxU (varM 0) (litM (.int 4))) nilA)) (lpL s u1 (D ++ A) c a mi si (.int ((p + D.length : Nat) : Int)) (some (.str (s.zs.getD a []))) x10 x11 x12 x13 x14 x15 x16 x17) G = .ok (.int (((a + 1) % s.zs.length : Nat) : Int)) G := by
    have hl : preM lenU (consA (bin2 idxU (varM 0) (litM (.int 4))) nilA) (lpL s u1 (D ++ A) c a mi si (.int ((p + D.length : Nat) : Int)) (some (.str (s.zs.getD a []))) x10 x11 x12 x13 x14 x15 x16 x17) G = .ok (.int s.zs.length) G := by
      rw [pre_one (idxS (s := s) (j := 0) rfl).2.2.2.2.1]
      simp [lenU, seqOf]
    rw [bin2_p (add_int (x := a) (y := 1) (z := ((a + 1 : Nat) : Int)) rfl rfl (by omega)) hl]
    have : modU (.int ((a + 1 : Nat) : Int)) (.int (s.zs.length : Nat)) G = .ok (.int (((a + 1 : Nat) : Int).fmod s.zs.length)) G := by
      simp only [modU, intU]
      exact if_pos (decide_eq_true (show ((s.zs.length : Nat) : Int) ≠ 0 by omega))
    rw [this]
    rfl
  refine (seqM_set (s := lpL s u1 (D ++ A) c a mi si (.int ((p + D.length : Nat) : Int)) (some (.str (s.zs.getD a []))) x10 x11 x12 x13 x14 x15 x16 x17) e1).trans ?_
  -- the hit
  have e2 : stE (bmM appendU (varM 5) (consA (tupM (consA (varM 9) (consA (varM 8) (consA (slM false (varM 2) (someO (varM 8)) (someO (bin2 (addU false) (varM 8) (varM 7)))) nilA)))) nilA)) (fun _ => nxM) (lpL s u1 (D ++ A) c ((a + 1) % s.zs.length) mi si (.int ((p + D.length : Nat) : Int)) (some (.str (s.zs.getD a []))) x10 x11 x12 x13 x14 x15 x16 x17) G
      = .nx (lpL s u1 (D ++ A) c ((a + 1) % s.zs.length) mi si (.int ((p + D.length : Nat) : Int)) (some (.str (s.zs.getD a []))) x10 x11 x12 x13 x14 x15 x16 x17) (G.set mi (.lst ((met ++ [(s.zs.getD a [], D.length + p, (A.drop p).take s.w.length)]).map metU))) := by
    have sl : slM false (varM 2) (someO (varM 8)) (someO (bin2 (addU false) (varM 8) (varM 7))) (lpL s u1 (D ++ A) c ((a + 1) % s.zs.length) mi si (.int ((p + D.length : Nat) : Int)) (some (.str (s.zs.getD a []))) x10 x11 x12 x13 x14 x15 x16 x17) G = .ok (.lst (((A.drop p).take s.w.length).map itU)) G := by
      refine (sl_lst (u := .lst ((D ++ A).map itU)) (us := (D ++ A).map itU) rfl rfl (someO_ok (z := ((p + D.length : Nat) : Int)) rfl) (someO_ok (add_int (x := ((p + D.length : Nat) : Int)) (y := s.w.length) (z := ((p + D.length : Nat) : Int) + s.w.length) rfl rfl rfl)) ?_).trans ?_
      · rw [cut_mid, List.length_take, List.length_drop, List.length_map, List.length_append]; unfold szL; omega
      · rw [cut_mid, ← List.map_drop, ← List.map_take]
        have : (D ++ A).drop (p + D.length) = A.drop p := by
          rw [List.drop_append, List.drop_eq_nil_of_le (by omega), List.nil_append]
          congr 1
          omega
        rw [this]
    have tp : tupM (consA (varM 9) (consA (varM 8) (consA (slM false (varM 2) (someO (varM 8)) (someO (bin2 (addU false) (varM 8) (varM 7)))) nilA))) (lpL s u1 (D ++ A) c ((a + 1) % s.zs.length) mi si (.int ((p + D.length : Nat) : Int)) (some (.str (s.zs.getD a []))) x10 x11 x12 x13 x14 x15 x16 x17) G = .ok (metU (s.zs.getD a [], D.length + p, (A.drop p).take s.w.length)) G := by
      refine (show _ = Rs.bind _ _ from congrArg (fun z => Rs.bind z _) (consA_p (var_ok (u := .str (s.zs.getD a [])) rfl) (consA_p (var_ok (u := .int ((p + D.length : Nat) : Int)) rfl) (consA_p sl rfl)))).trans ?_
      simp only [bind_ok]
      refine (newT_ok' (by simp [szL])).trans ?_
      rw [Nat.add_comm p]
      rfl
    refine (app_ok (k := mi) (var_ok rfl) hm tp (by rw [List.length_map]; unfold szL; omega)).trans ?_
    rw [List.map_append]
    rfl
  refine (seqM_nx e2).trans ?_
  have hs1 : (G.set mi (.lst ((met ++ [(s.zs.getD a [], D.length + p, (A.drop p).take s.w.length)]).map metU)))[si]? = some (.lst (sn.map seenU)) := by
    rw [List.getElem?_set_ne hne]; exact hs
  have hl1 : (G.set mi (.lst ((met ++ [(s.zs.getD a [], D.length + p, (A.drop p).take s.w.length)]).map metU))).length = G.length := List.length_set
  generalize G.set mi (.lst ((met ++ [(s.zs.getD a [], D.length + p, (A.drop p).take s.w.length)]).map metU)) = G1 at hs1 hl1 ⊢
  -- what is left untouched
  have e3 : bin2 subU (bin2 subU (preM lenU (consA (varM 2) nilA)) (varM 8)) (varM 7) (lpL s u1 (D ++ A) c ((a + 1) % s.zs.length) mi si (.int ((p + D.length : Nat) : Int)) (some (.str (s.zs.getD a []))) x10 x11 x12 x13 x14 x15 x16 x17) G1 = .ok (.int ((A.length - p - s.w.length : Nat) : Int)) G1 := by
    have hl : preM lenU (consA (varM 2) nilA) (lpL s u1 (D ++ A) c ((a + 1) % s.zs.length) mi si (.int ((p + D.length : Nat) : Int)) (some (.str (s.zs.getD a []))) x10 x11 x12 x13 x14 x15 x16 x17) G1 = .ok (.int (D ++ A).length) G1 := len_lst (u := .lst ((D ++ A).map itU)) rfl rfl
    exact sub_int (sub_int hl (y := ((p + D.length : Nat) : Int)) rfl rfl) (y := s.w.length) rfl (by rw [List.length_append]; omega)
  refine (seqM_set (s := lpL s u1 (D ++ A) c ((a + 1) % s.zs.length) mi si (.int ((p + D.length : Nat) : Int)) (some (.str (s.zs.getD a []))) x10 x11 x12 x13 x14 x15 x16 x17) e3).trans ?_
  generalize hleft : A.length - p - s.w.length = left
  have e4 : compM true (seqI (varM 6)) (nameG 15) (tobM (bin2 (cmpU fun i j => decide (i ≤ j)) (bin2 idxU (varM 15) (litM (.int 1))) (varM 10))) (varM 15) [15] (lpL s u1 (D ++ A) c ((a + 1) % s.zs.length) mi si (.int ((p + D.length : Nat) : Int)) (some (.str (s.zs.getD a []))) (some (.int (left : Nat))) x11 x12 x13 x14 x15 x16 x17) G1 = .ok (.ref G1.length) (G1 ++ [.lst ((touchP left sn).map seenU)]) := by
    have hit : seqI (varM 6) (lpL s u1 (D ++ A) c ((a + 1) % s.zs.length) mi si (.int ((p + D.length : Nat) : Int)) (some (.str (s.zs.getD a []))) (some (.int (left : Nat))) x11 x12 x13 x14 x15 x16 x17) G1 = .ok (.seq (.ref si), (sn.map seenU).length) G1 := by
      unfold seqI
      rw [var_ok (u := .ref si) rfl]
      simp [seqOf, lstOf, hs1]
    have hc := comp_seqF (mu := true) (g := nameG 15) (t := tobM (bin2 (cmpU fun i j => decide (i ≤ j)) (bin2 idxU (varM 15) (litM (.int 1))) (varM 10))) (e := varM 15) (own := [15]) (s := lpL s u1 (D ++ A) c ((a + 1) % s.zs.length) mi si (.int ((p + D.length : Nat) : Int)) (some (.str (s.zs.getD a []))) (some (.int (left : Nat))) x11 x12 x13 x14 x15 x16 x17) (h := fun z => z)
      (p := fun z => match z with | .tup [_, .int b, _] => decide (b ≤ (left : Int)) | _ => false) hit (by simp [seqOf, lstOf, hs1]) fun z hz' => by
      obtain ⟨e, he, rfl⟩ := List.mem_map.mp hz'
      refine ⟨lpL s u1 (D ++ A) c ((a + 1) % s.zs.length) mi si (.int ((p + D.length : Nat) : Int)) (some (.str (s.zs.getD a []))) (some (.int (left : Nat))) x11 x12 x13 x14 (some (seenU e)) x16 x17, rfl, ?_, fun _ => rfl⟩
      refine tob_bl ?_
      exact bin2_p (x := .int (e.2.1 : Nat)) (y := .int (left : Nat)) (idx_tup0 (k := 1) (var_ok rfl) rfl) rfl
    have hf : ((sn.map seenU).filter fun z => match z with | .tup [_, .int b, _] => decide (b ≤ (left : Int)) | _ => false) = (touchP left sn).map seenU := by
      unfold touchP
      rw [List.filter_map]
      congr 1
      refine List.filter_congr fun e he => ?_
      simp only [Function.comp, seenU]
      exact decide_eq_decide.mpr (by omega)
    rw [hf, List.map_id', newL_t (by rw [List.length_map]; exact Nat.le_trans (List.length_filter_le _ _) (by unfold szL; omega))] at hc
    exact hc
  refine (seqM_set (s := lpL s u1 (D ++ A) c ((a + 1) % s.zs.length) mi si (.int ((p + D.length : Nat) : Int)) (some (.str (s.zs.getD a []))) (some (.int (left : Nat))) x11 x12 x13 x14 x15 x16 x17) e4).trans ?_
  rw [hl1]
  rfl
end
end FL

namespace FL
open PySem L2 PyProof.Rows
abbrev lpR1 : ME := compM false (seqI (bin2 idxU (varM 0) (litM (.int 1)))) (nameG 16) yesT (tupM (consA (varM 16) (consA (litM .non) nilA))) [16]
abbrev lpR2 : ME := bin2 (addU false) (bin2 (addU false) (slM false (varM 2) noneO (someO (varM 8))) (varM 11)) (slM false (varM 2) (someO (bin2 (addU false) (varM 8) (varM 7))) noneO)
abbrev lpR3 : ME := bin2 (addU false) (varM 8) (callM 1 r__law_ahead (consA (varM 0) nilA))
abbrev lpR4 : ME := bin2 subU (preM lenU (consA (varM 2) nilA)) (varM 3)
abbrev lpR5 : ME := tupM (consA (varM 4) (consA (joinM (litM (.str (Str.ofString "").cps.toList)) (compM false (seqI (slM false (varM 2) (someO (varM 3)) (someO (bin2 (addU false) (varM 3) (litM (.int 12)))))) (nameG 17) yesT (bin2 idxU (varM 17) (litM (.int 0))) [17])) nilA))
abbrev lpR6T : MT := andT (tobM (bin2 (eqX false (fun c => d__law_pass.eqt.lookup c)) (bin2 idxU (varM 15) (litM (.int 0))) (varM 13))) (tobM (bin2 (cmpU fun i j => decide (i ≤ j)) (bin2 idxU (varM 15) (litM (.int 2))) (varM 12)))
abbrev lpR6 : ME := compM false (seqI (varM 6)) (nameG 15) lpR6T (varM 15) [15]
abbrev lpR7 : MT := tobM (bin2 (eqX true (fun c => d__law_pass.eqt.lookup c)) (varM 14) (lstM false nilA))
abbrev lpR8 : MS := stE (bmM appendU (varM 6) (consA (tupM (consA (varM 13) (consA (preM maxU (consA (litM (.int 0)) (consA (bin2 subU (varM 12) (litM (.int 12))) nilA))) (consA (varM 12) nilA)))) nilA)) (fun _ => nxM)
abbrev lpK : MS := ifM (tobM (bin2 (eqX false (fun c => d__law_pass.eqt.lookup c)) (bin2 idxU (varM 0) (litM (.int 2))) (litM (.str (Str.ofString "one").cps.toList)))) (stE (bin2 (addU false) (varM 8) (litM (.int 1))) (setM 3)) (stE (bin2 (addU false) (varM 8) (varM 7)) (setM 3))
abbrev lpR : MS := seqM (stE lpR1 (setM 11)) (seqM (stE lpR2 (setM 2)) (seqM (stE lpR3 (setM 3)) (seqM (stE lpR4 (setM 12)) (seqM (stE lpR5 (setM 13)) (seqM (stE lpR6 (setM 14)) (seqM (ifM lpR7 (stE (litM .non) rtM) nxM) lpR8))))))
theorem lp7b6_eq : lp7b6 = ifM (tobM (bin2 (eqX false (fun c => d__law_pass.eqt.lookup c)) (varM 9) (litM (.str (Str.ofString "replace").cps.toList)))) lpR lpK := rfl
theorem bin2_lst {sg : Sg} {G : List Ob} {m1 m2 : ME} {a b : List U} (h1 : m1 sg G = .ok (.lst a) G) (h2 : m2 sg G = .ok (.lst b) G) (hz : a.length + b.length ≤ szL) : bin2 (addU false) m1 m2 sg G = .ok (.lst (a ++ b)) G := by
  rw [bin2_p h1 h2]
  exact newL_f (by rw [List.length_append]; exact hz)
theorem tup_2 {sg : Sg} {G : List Ob} {m1 m2 : ME} {a b : U} (h1 : m1 sg G = .ok a G) (h2 : m2 sg G = .ok b G) : tupM (consA m1 (consA m2 nilA)) sg G = .ok (.tup [a, b]) G := by
  unfold tupM
  rw [consA_p h1 (consA_p h2 rfl)]
  exact newT_ok' (by simp [szL])
theorem tup_3 {sg : Sg} {G : List Ob} {m1 m2 m3 : ME} {a b c : U} (h1 : m1 sg G = .ok a G) (h2 : m2 sg G = .ok b G) (h3 : m3 sg G = .ok c G) : tupM (consA m1 (consA m2 (consA m3 nilA))) sg G = .ok (.tup [a, b, c]) G := by
  unfold tupM
  rw [consA_p h1 (consA_p h2 (consA_p h3 rfl))]
  exact newT_ok' (by simp [szL])
theorem eqv_nil (es : List U) : PyData.eqv (dP (.lst es)) (dP (.lst [])) = es.isEmpty := by
  cases es <;> simp [dP, dPs, PyData.eqv, PyData.eqvAll]
section
variable {G : List Ob} {s : Dr} {u1 u8 : U} {D A T : List It1} {a mi si c : Nat} {met : MetL} {sn : Seen} {x9 x10 x11 x12 x13 x14 x15 x16 x17 : Option U}
/-- the word replaced, where the walk goes on; the test -/
theorem rep_ok (ho : okd s = true) (hs : G[si]? = some (.lst (sn.map seenU))) (hT : okC (sgn (D ++ A)) = true) (hsn : ∀ e ∈ sn, okC e.1.2 = true) (hzs : sn.length ≤ 1000000) (hzA : (D ++ A).length ≤ 1000000) {p : Nat} (hp : p + s.w.length ≤ A.length) {A1 : List It1} (hA1 : A.take p ++ s.p.map (fun c => ((c, none) : It1)) ++ A.drop (p + s.w.length) = A1) (hok1 : okC (sgn A1) = true) {k : Nat} (hk : p + turnP s s.p.length = k) :
    ∃ y11 y12 y13 y14, (againB a (A1.drop k) sn = true ∧ lpR (lpL s u1 (D ++ A) c a mi si (.int ((p + D.length : Nat) : Int)) x9 x10 x11 x12 x13 x14 x15 x16 x17) G = .rt .non G) ∨
      (againB a (A1.drop k) sn = false ∧ lpR (lpL s u1 (D ++ A) c a mi si (.int ((p + D.length : Nat) : Int)) x9 x10 x11 x12 x13 x14 x15 x16 x17) G = .nx (lpL s u1 (D ++ A1) (k + D.length) a mi si (.int ((p + D.length : Nat) : Int)) x9 x10 y11 y12 y13 y14 x15 x16 x17) (G.set si (.lst ((sn ++ [(windP a (A1.drop k), (A1.drop k).length - 12, (A1.drop k).length)]).map seenU)))) := by
  obtain ⟨h1, h2, h3, h4, h5, h6, h7, h8, h9, h10⟩ := okd_parts ho
  have hTp : turnP s s.p.length ≤ s.p.length := by unfold turnP; split <;> (try split) <;> omega
  rw [List.length_append] at hzA
  have hA1l : A1.length + s.w.length = A.length + s.p.length := by rw [← hA1]; simp; omega
  have hkl : k ≤ A1.length := by omega
  -- what is put in
  have e1 : lpR1 (lpL s u1 (D ++ A) c a mi si (.int ((p + D.length : Nat) : Int)) x9 x10 x11 x12 x13 x14 x15 x16 x17) G = .ok (.lst ((s.p.map fun c => ((c, none) : It1)).map itU)) G := by
    have hit : seqI (bin2 idxU (varM 0) (litM (.int 1))) (lpL s u1 (D ++ A) c a mi si (.int ((p + D.length : Nat) : Int)) x9 x10 x11 x12 x13 x14 x15 x16 x17) G = .ok (.items (s.p.map fun c => .str [c]), (s.p.map fun c => U.str [c]).length) G := by
      unfold seqI
      rw [(idxS (s := s) (j := 0) rfl).2.1, List.length_map]
      rfl
    refine (comp_items (mu := false) (h := fun z => .tup [z, .non]) hit fun z hz => ?_).trans ?_
    · exact ⟨lpL s u1 (D ++ A) c a mi si (.int ((p + D.length : Nat) : Int)) x9 x10 x11 x12 x13 x14 x15 (some z) x17, rfl, rfl, tup_2 (var_ok rfl) rfl⟩
    · rw [List.map_map, List.map_map]
      exact newL_f (by rw [List.length_map]; unfold szL; omega)
  -- the text
  have e2 : lpR2 (lpL s u1 (D ++ A) c a mi si (.int ((p + D.length : Nat) : Int)) x9 x10 (some (.lst ((s.p.map fun c => ((c, none) : It1)).map itU))) x12 x13 x14 x15 x16 x17) G = .ok (.lst ((D ++ A1).map itU)) G := by
    have s1 : slM false (varM 2) noneO (someO (varM 8)) (lpL s u1 (D ++ A) c a mi si (.int ((p + D.length : Nat) : Int)) x9 x10 (some (.lst ((s.p.map fun c => ((c, none) : It1)).map itU))) x12 x13 x14 x15 x16 x17) G = .ok (.lst ((D ++ A.take p).map itU)) G := by
      refine (sl_lst (u := .lst ((D ++ A).map itU)) (us := (D ++ A).map itU) rfl rfl rfl (someO_ok (z := ((p + D.length : Nat) : Int)) rfl) ?_).trans ?_
      · rw [cut_to, List.length_take, List.length_map, List.length_append]; unfold szL; omega
      · rw [cut_to, ← List.map_take, Nat.add_comm p, List.take_append, List.take_of_length_le (by omega), Nat.add_sub_cancel_left]
    have s2 : slM false (varM 2) (someO (bin2 (addU false) (varM 8) (varM 7))) noneO (lpL s u1 (D ++ A) c a mi si (.int ((p + D.length : Nat) : Int)) x9 x10 (some (.lst ((s.p.map fun c => ((c, none) : It1)).map itU))) x12 x13 x14 x15 x16 x17) G = .ok (.lst ((A.drop (p + s.w.length)).map itU)) G := by
      refine (sl_lst (u := .lst ((D ++ A).map itU)) (us := (D ++ A).map itU) rfl rfl (someO_ok (add_int (x := ((p + D.length : Nat) : Int)) (y := s.w.length) (z := ((p + D.length + s.w.length : Nat) : Int)) rfl rfl (by omega))) rfl ?_).trans ?_
      · rw [cut_from, List.length_drop, List.length_map, List.length_append]; unfold szL; omega
      · rw [cut_from, ← List.map_drop, show p + D.length + s.w.length = D.length + (p + s.w.length) by omega, List.drop_append, List.drop_eq_nil_of_le (by omega), List.nil_append, Nat.add_sub_cancel_left]
    have s3 := bin2_lst s1 (var_ok (u := .lst ((s.p.map fun c => ((c, none) : It1)).map itU)) (i := 11) rfl) (by simp; unfold szL; omega)
    have s4 := bin2_lst s3 s2 (by simp; unfold szL; omega)
    refine s4.trans ?_
    rw [← List.map_append, ← List.map_append, ← hA1]
    simp
  have e3 : ∀ {y12 y13 y14 : Option U}, lpR3 (lpL s u1 (D ++ A1) c a mi si (.int ((p + D.length : Nat) : Int)) x9 x10 (some (.lst ((s.p.map fun c => ((c, none) : It1)).map itU))) y12 y13 y14 x15 x16 x17) G = .ok (.int ((k + D.length : Nat) : Int)) G := fun {y12 y13 y14} => by
    have hc : callM 1 r__law_ahead (consA (varM 0) nilA) (lpL s u1 (D ++ A1) c a mi si (.int ((p + D.length : Nat) : Int)) x9 x10 (some (.lst ((s.p.map fun c => ((c, none) : It1)).map itU))) y12 y13 y14 x15 x16 x17) G = .ok (.int (turnP s s.p.length : Nat)) G := by
      rw [call1 (G1 := G) (var_ok (u := drU s) rfl)]
      unfold r__law_ahead
      simp only [drOfU_drU (d := s) ho]
    exact add_int (x := ((p + D.length : Nat) : Int)) (y := (turnP s s.p.length : Nat)) rfl hc (by omega)
  have e4 : ∀ {y12 y13 y14 : Option U}, lpR4 (lpL s u1 (D ++ A1) (k + D.length) a mi si (.int ((p + D.length : Nat) : Int)) x9 x10 (some (.lst ((s.p.map fun c => ((c, none) : It1)).map itU))) y12 y13 y14 x15 x16 x17) G = .ok (.int ((A1.drop k).length : Nat)) G := fun {y12 y13 y14} => by
    have hl : preM lenU (consA (varM 2) nilA) (lpL s u1 (D ++ A1) (k + D.length) a mi si (.int ((p + D.length : Nat) : Int)) x9 x10 (some (.lst ((s.p.map fun c => ((c, none) : It1)).map itU))) y12 y13 y14 x15 x16 x17) G = .ok (.int (D ++ A1).length) G := len_lst (u := .lst ((D ++ A1).map itU)) rfl rfl
    exact sub_int hl (y := ((k + D.length : Nat) : Int)) rfl (by rw [List.length_append, List.length_drop]; omega)
  have hd : (D ++ A1).drop (k + D.length) = A1.drop k := by
    rw [Nat.add_comm, List.drop_append, List.drop_eq_nil_of_le (by omega), List.nil_append, Nat.add_sub_cancel_left]
  generalize hR : A1.drop k = R at *
  have hRl : R.length ≤ 1000003 := by rw [← hR, List.length_drop]; omega
  have hokR : okC (sgn R) = true := by rw [← hR, sgn_drop]; exact okC_drop hok1
  have e5 : ∀ {y13 y14 : Option U}, lpR5 (lpL s u1 (D ++ A1) (k + D.length) a mi si (.int ((p + D.length : Nat) : Int)) x9 x10 (some (.lst ((s.p.map fun c => ((c, none) : It1)).map itU))) (some (.int (R.length : Nat))) y13 y14 x15 x16 x17) G = .ok (.tup [.int (a : Nat), .str (windP a R).2]) G := fun {y13 y14} => by
    have sl : slM false (varM 2) (someO (varM 3)) (someO (bin2 (addU false) (varM 3) (litM (.int 12)))) (lpL s u1 (D ++ A1) (k + D.length) a mi si (.int ((p + D.length : Nat) : Int)) x9 x10 (some (.lst ((s.p.map fun c => ((c, none) : It1)).map itU))) (some (.int (R.length : Nat))) y13 y14 x15 x16 x17) G = .ok (.lst ((R.take 12).map itU)) G := by
      refine (sl_lst (u := .lst ((D ++ A1).map itU)) (us := (D ++ A1).map itU) rfl rfl (someO_ok (z := ((k + D.length : Nat) : Int)) rfl) (someO_ok (add_int (x := ((k + D.length : Nat) : Int)) (y := 12) (z := ((k + D.length : Nat) : Int) + (12 : Nat)) rfl rfl rfl)) ?_).trans ?_
      · rw [cut_mid, List.length_take]; unfold szL; omega
      · rw [cut_mid, ← List.map_drop, hd, ← List.map_take]
    have hj := join_signs (j := 17) (sg := lpL s u1 (D ++ A1) (k + D.length) a mi si (.int ((p + D.length : Nat) : Int)) x9 x10 (some (.lst ((s.p.map fun c => ((c, none) : It1)).map itU))) (some (.int (R.length : Nat))) y13 y14 x15 x16 x17) (by simp) sl (by rw [List.length_take]; unfold szL; omega)
    exact tup_2 (var_ok (u := .int (a : Nat)) rfl) hj
  have hwk : okC (windP a R).2 = true := by
    show okC (sgn (R.take 12)) = true
    rw [sgn_take]
    exact okC_take hokR
  -- the elder ones
  have e6 : ∀ {y14 : Option U}, lpR6 (lpL s u1 (D ++ A1) (k + D.length) a mi si (.int ((p + D.length : Nat) : Int)) x9 x10 (some (.lst ((s.p.map fun c => ((c, none) : It1)).map itU))) (some (.int (R.length : Nat))) (some (.tup [.int (a : Nat), .str (windP a R).2])) y14 x15 x16 x17) G = .ok (.lst ((sn.filter fun e => e.1 == windP a R && decide (e.2.2 ≤ R.length)).map seenU)) G := fun {y14} => by
    have hit : seqI (varM 6) (lpL s u1 (D ++ A1) (k + D.length) a mi si (.int ((p + D.length : Nat) : Int)) x9 x10 (some (.lst ((s.p.map fun c => ((c, none) : It1)).map itU))) (some (.int (R.length : Nat))) (some (.tup [.int (a : Nat), .str (windP a R).2])) y14 x15 x16 x17) G = .ok (.seq (.ref si), (sn.map seenU).length) G := by
      unfold seqI
      rw [var_ok (u := .ref si) rfl]
      simp [seqOf, lstOf, hs]
    have hc := comp_seqF (mu := false) (g := nameG 15) (t := lpR6T) (e := varM 15) (own := [15]) (s := lpL s u1 (D ++ A1) (k + D.length) a mi si (.int ((p + D.length : Nat) : Int)) x9 x10 (some (.lst ((s.p.map fun c => ((c, none) : It1)).map itU))) (some (.int (R.length : Nat))) (some (.tup [.int (a : Nat), .str (windP a R).2])) y14 x15 x16 x17) (h := fun z => z)
      (p := fun z => match z with | .tup [.tup [.int (.ofNat b), .str y], _, .int c] => ((b, y) == windP a R) && decide (c ≤ (R.length : Int)) | _ => false) hit (by simp [seqOf, lstOf, hs]) fun z hz' => by
      obtain ⟨e, he, rfl⟩ := List.mem_map.mp hz'
      refine ⟨lpL s u1 (D ++ A1) (k + D.length) a mi si (.int ((p + D.length : Nat) : Int)) x9 x10 (some (.lst ((s.p.map fun c => ((c, none) : It1)).map itU))) (some (.int (R.length : Nat))) (some (.tup [.int (a : Nat), .str (windP a R).2])) y14 (some (seenU e)) x16 x17, rfl, ?_, fun _ => rfl⟩
      generalize hsg : lpL s u1 (D ++ A1) (k + D.length) a mi si (.int ((p + D.length : Nat) : Int)) x9 x10 (some (.lst ((s.p.map fun c => ((c, none) : It1)).map itU))) (some (.int (R.length : Nat))) (some (.tup [.int (a : Nat), .str (windP a R).2])) y14 (some (seenU e)) x16 x17 = sg
      have g15 : sg[15]? = some (some (seenU e)) := by rw [← hsg]; rfl
      have g13 : sg[13]? = some (some (.tup [.int (a : Nat), .str (windP a R).2])) := by rw [← hsg]; rfl
      have g12 : sg[12]? = some (some (.int (R.length : Nat))) := by rw [← hsg]; rfl
      have i0 : bin2 idxU (varM 15) (litM (.int 0)) sg G = .ok (.tup [.int (e.1.1 : Nat), .str e.1.2]) G := idx_tup0 (k := 0) (var_ok g15) rfl
      have i2 : bin2 idxU (varM 15) (litM (.int 2)) sg G = .ok (.int (e.2.2 : Nat)) G := idx_tup0 (k := 2) (var_ok g15) rfl
      have p1 : pd 20 (.tup [.int (e.1.1 : Nat), .str e.1.2]) = true := by simp [pd, pds, hsn e he]
      have p2 : pd 20 (.tup [.int (a : Nat), .str (windP a R).2]) = true := by simp [pd, pds, hwk]
      have c1 : tobM (bin2 (eqX false (fun c => d__law_pass.eqt.lookup c)) (bin2 idxU (varM 15) (litM (.int 0))) (varM 13)) sg G = .ok (e.1 == windP a R) G := by
        refine tob_bl ?_
        rw [bin2_p i0 (var_ok g13), eqX_pd p1 p2, eqv_pair]
        rfl
      have c2 : tobM (bin2 (cmpU fun i j => decide (i ≤ j)) (bin2 idxU (varM 15) (litM (.int 2))) (varM 12)) sg G = .ok (decide ((e.2.2 : Int) ≤ R.length)) G := by
        refine tob_bl ?_
        rw [bin2_p i2 (var_ok g12)]
        rfl
      exact andT_p c1 fun _ => c2
    have hf : ((sn.map seenU).filter fun z => match z with | .tup [.tup [.int (.ofNat b), .str y], _, .int c] => ((b, y) == windP a R) && decide (c ≤ (R.length : Int)) | _ => false) = (sn.filter fun e => e.1 == windP a R && decide (e.2.2 ≤ R.length)).map seenU := by
      rw [List.filter_map]
      congr 1
      refine List.filter_congr fun e he => ?_
      show (((e.1.1, e.1.2) == windP a R) && decide ((e.2.2 : Int) ≤ R.length)) = (e.1 == windP a R && decide (e.2.2 ≤ R.length))
      congr 1
      exact decide_eq_decide.mpr (by omega)
    rw [hf, List.map_id', newL_f (by rw [List.length_map]; exact Nat.le_trans (List.length_filter_le _ _) (by unfold szL; omega))] at hc
    exact hc
  have hag : againB a R sn = !(sn.filter fun e => e.1 == windP a R && decide (e.2.2 ≤ R.length)).isEmpty := by
    unfold againB
    induction sn with
    | nil => rfl
    | cons e r ih =>
      rw [List.any_cons, List.filter_cons]
      cases hq : (e.1 == windP a R && decide (e.2.2 ≤ R.length)) with
      | true => rfl
      | false =>
        simp only [Bool.false_or, Bool.false_eq_true, if_false]
        clear ih
        generalize hgr : r = r'
        clear hsn hs hzs hgr
        induction r' with
        | nil => rfl
        | cons e r ih =>
          rw [List.any_cons, List.filter_cons]
          cases hq : (e.1 == windP a R && decide (e.2.2 ≤ R.length)) with
          | true => rfl
          | false => simpa using ih
  generalize hes : (sn.filter fun e => e.1 == windP a R && decide (e.2.2 ≤ R.length)) = es at e6 hag
  have hpe : pd 20 (.lst (es.map seenU)) = true := by
    have : ∀ e ∈ es, okC e.1.2 = true := fun e he => hsn e (List.mem_filter.mp (hes ▸ he)).1
    clear e6 hag hes
    unfold pd
    induction es with
    | nil => rw [List.map_nil]; unfold pds; rfl
    | cons e r ih =>
      rw [List.map_cons]
      unfold pds
      rw [ih fun e he => this e (.tail _ he)]
      simp [seenU, pd, pds, this e (.head _)]
  have e7 : lpR7 (lpL s u1 (D ++ A1) (k + D.length) a mi si (.int ((p + D.length : Nat) : Int)) x9 x10 (some (.lst ((s.p.map fun c => ((c, none) : It1)).map itU))) (some (.int (R.length : Nat))) (some (.tup [.int (a : Nat), .str (windP a R).2])) (some (.lst (es.map seenU))) x15 x16 x17) G = .ok (againB a R sn) G := by
    refine tob_bl ?_
    have hn : lstM false nilA (lpL s u1 (D ++ A1) (k + D.length) a mi si (.int ((p + D.length : Nat) : Int)) x9 x10 (some (.lst ((s.p.map fun c => ((c, none) : It1)).map itU))) (some (.int (R.length : Nat))) (some (.tup [.int (a : Nat), .str (windP a R).2])) (some (.lst (es.map seenU))) x15 x16 x17) G = .ok (.lst []) G := by
      unfold lstM nilA
      exact newL_f (by simp [szL])
    rw [bin2_p (x := .lst (es.map seenU)) rfl hn, eqX_pd hpe (by unfold pd pds; rfl), eqv_nil, hag]
    simp
  have pre : ∀ mt : MS, seqM (stE lpR1 (setM 11)) (seqM (stE lpR2 (setM 2)) (seqM (stE lpR3 (setM 3)) (seqM (stE lpR4 (setM 12)) (seqM (stE lpR5 (setM 13)) (seqM (stE lpR6 (setM 14)) mt))))) (lpL s u1 (D ++ A) c a mi si (.int ((p + D.length : Nat) : Int)) x9 x10 x11 x12 x13 x14 x15 x16 x17) G
      = mt (lpL s u1 (D ++ A1) (k + D.length) a mi si (.int ((p + D.length : Nat) : Int)) x9 x10 (some (.lst ((s.p.map fun c => ((c, none) : It1)).map itU))) (some (.int (R.length : Nat))) (some (.tup [.int (a : Nat), .str (windP a R).2])) (some (.lst (es.map seenU))) x15 x16 x17) G := fun mt =>
    (seqM_set e1).trans ((seqM_set (s := lpL s u1 (D ++ A) c a mi si (.int ((p + D.length : Nat) : Int)) x9 x10 (some (.lst ((s.p.map fun c => ((c, none) : It1)).map itU))) x12 x13 x14 x15 x16 x17) e2).trans ((seqM_set (s := lpL s u1 (D ++ A1) c a mi si (.int ((p + D.length : Nat) : Int)) x9 x10 (some (.lst ((s.p.map fun c => ((c, none) : It1)).map itU))) x12 x13 x14 x15 x16 x17) e3).trans ((seqM_set (s := lpL s u1 (D ++ A1) (k + D.length) a mi si (.int ((p + D.length : Nat) : Int)) x9 x10 (some (.lst ((s.p.map fun c => ((c, none) : It1)).map itU))) x12 x13 x14 x15 x16 x17) e4).trans ((seqM_set (s := lpL s u1 (D ++ A1) (k + D.length) a mi si (.int ((p + D.length : Nat) : Int)) x9 x10 (some (.lst ((s.p.map fun c => ((c, none) : It1)).map itU))) (some (.int (R.length : Nat))) x13 x14 x15 x16 x17) e5).trans (seqM_set (s := lpL s u1 (D ++ A1) (k + D.length) a mi si (.int ((p + D.length : Nat) : Int)) x9 x10 (some (.lst ((s.p.map fun c => ((c, none) : It1)).map itU))) (some (.int (R.length : Nat))) (some (.tup [.int (a : Nat), .str (windP a R).2])) x14 x15 x16 x17) e6)))))
  refine ⟨some (.lst ((s.p.map fun c => ((c, none) : It1)).map itU)), some (.int (R.length : Nat)), some (.tup [.int (a : Nat), .str (windP a R).2]), some (.lst (es.map seenU)), ?_⟩
  cases hb : againB a R sn with
  | true =>
    rw [hb] at e7
    exact .inl ⟨rfl, (pre _).trans (seqM_ift e7 (stE_rt rfl))⟩
  | false =>
    rw [hb] at e7
    refine .inr ⟨rfl, (pre _).trans ((seqM_if e7).trans ?_)⟩
    have hmx : preM maxU (consA (litM (.int 0)) (consA (bin2 subU (varM 12) (litM (.int 12))) nilA)) (lpL s u1 (D ++ A1) (k + D.length) a mi si (.int ((p + D.length : Nat) : Int)) x9 x10 (some (.lst ((s.p.map fun c => ((c, none) : It1)).map itU))) (some (.int (R.length : Nat))) (some (.tup [.int (a : Nat), .str (windP a R).2])) (some (.lst (es.map seenU))) x15 x16 x17) G = .ok (.int ((R.length - 12 : Nat) : Int)) G := by
      rw [pre_two (x := .int 0) rfl (sub_int (x := (R.length : Nat)) (y := 12) rfl rfl rfl), max_two]
      congr 2
      omega
    refine (app_ok (k := si) (var_ok rfl) hs (tup_3 (var_ok (u := .tup [.int (a : Nat), .str (windP a R).2]) rfl) hmx (var_ok (u := .int (R.length : Nat)) rfl)) (by rw [List.length_map]; unfold szL; omega)).trans ?_
    rw [List.map_append]
    rfl
theorem keep_ok (ho : okd s = true) {p : Nat} : lpK (lpL s u1 T c a mi si (.int ((p + D.length : Nat) : Int)) x9 x10 x11 x12 x13 x14 x15 x16 x17) G = .nx (lpL s u1 T (p + (if s.k = wOne then 1 else s.w.length) + D.length) a mi si (.int ((p + D.length : Nat) : Int)) x9 x10 x11 x12 x13 x14 x15 x16 x17) G := by
  obtain ⟨h1, h2, h3, h4, h5, h6, h7, h8, h9, h10⟩ := okd_parts ho
  have okk : okC s.k = true := inW_ok (by decide) h6
  have t := tob_str (neg := false) (et := fun c => d__law_pass.eqt.lookup c) (b := litM (.str (Str.ofString "one").cps.toList)) (y := wOne) (idxS (s := s) (sg := lpL s u1 T c a mi si (.int ((p + D.length : Nat) : Int)) x9 x10 x11 x12 x13 x14 x15 x16 x17) (j := 0) (G := G) rfl).2.2.1 (by simp [litM, wOne]) okk (by decide)
  by_cases hk : s.k = wOne
  · have e : (if false = true then !(s.k == wOne) else s.k == wOne) = true := by rw [hk]; rfl
    rw [e] at t
    refine (ifM_t t).trans ?_
    rw [if_pos hk]
    exact stE_set (i := 3) (s := lpL s u1 T c a mi si (.int ((p + D.length : Nat) : Int)) x9 x10 x11 x12 x13 x14 x15 x16 x17) (add_int (x := ((p + D.length : Nat) : Int)) (y := 1) (z := ((p + 1 + D.length : Nat) : Int)) rfl rfl (by omega))
  · have e : (if false = true then !(s.k == wOne) else s.k == wOne) = false := by simp [hk]
    rw [e] at t
    refine (ifM_f t).trans ?_
    rw [if_neg hk]
    exact stE_set (i := 3) (s := lpL s u1 T c a mi si (.int ((p + D.length : Nat) : Int)) x9 x10 x11 x12 x13 x14 x15 x16 x17) (add_int (x := ((p + D.length : Nat) : Int)) (y := s.w.length) (z := ((p + s.w.length + D.length : Nat) : Int)) rfl rfl (by omega))
end
end FL

namespace FL
open PySem L2 PyProof.Rows
section
variable {G : List Ob}
theorem Fr.pre {G' : List Ob} {S : List Nat} (h : Fr G G' S) (hS : ∀ k ∈ S, G.length ≤ k) : ∃ g, G' = G ++ g := by
  refine ⟨G'.drop G.length, ?_⟩
  have : G = G'.take G.length := by
    refine List.ext_getElem? fun k => ?_
    rw [List.getElem?_take]
    by_cases hk : k < G.length
    · rw [if_pos hk, h.keep k hk fun z => absurd hk (Nat.not_lt.mpr (hS k z))]
    · rw [if_neg hk, List.getElem?_eq_none_iff.mpr (by omega)]
  exact (List.take_append_drop G.length G').symm.trans (by rw [← this])
end
theorem map_mets {f : Nat → Option U} : ∀ l : MetL, mapUs f (l.map metU) = some (l.map metU)
  | [] => rfl
  | e :: r => by
    rw [List.map_cons]
    simp only [mapUs, metU, mapU, map_its, map_mets r, Option.map_some]
theorem touch_sub {n : Nat} {sn : Seen} (h : ∀ e ∈ sn, okC e.1.2 = true) : ∀ e ∈ touchP n sn, okC e.1.2 = true := fun e he => h e (List.mem_filter.mp he).1
theorem touch_len {n : Nat} {sn : Seen} : (touchP n sn).length ≤ sn.length := List.length_filter_le _ _
theorem lpC_t {s : Dr} {u1 : U} {T : List It1} {c a mi si p : Nat} {x9 x10 x11 x12 x13 x14 x15 x16 x17 : Option U} {G : List Ob} : lp7C (lpL s u1 T c a mi si (.int (p : Nat)) x9 x10 x11 x12 x13 x14 x15 x16 x17) G = .ok true G := by
  refine tob_bl ?_
  rw [bin2_p (x := .int (p : Nat)) (y := .int 0) rfl rfl]
  simp only [cmpU]
  rw [decide_eq_true (by omega)]
theorem lpC_f {s : Dr} {u1 : U} {T : List It1} {c a mi si : Nat} {x9 x10 x11 x12 x13 x14 x15 x16 x17 : Option U} {G : List Ob} : lp7C (lpL s u1 T c a mi si (.int (-1)) x9 x10 x11 x12 x13 x14 x15 x16 x17) G = .ok false G := by
  refine tob_bl ?_
  rw [bin2_p (x := .int (-1)) (y := .int 0) rfl rfl]
  rfl
theorem end_ok {s : Dr} {u1 u8 : U} {T : List It1} {c a mi si : Nat} {x9 x10 x11 x12 x13 x14 x15 x16 x17 : Option U} {G : List Ob} : stE (tupM (consA (varM 2) (consA (varM 5) nilA))) rtM (lpL s u1 T c a mi si u8 x9 x10 x11 x12 x13 x14 x15 x16 x17) G = .rt (.tup [.lst (T.map itU), .ref mi]) G := stE_rt (tup_2 rfl rfl)
/-- the loop: as the plain walk -/
theorem pass_loop {s : Dr} {u1 : U} (ho : okd s = true) : ∀ (f k : Nat) {G : List Ob} {D A : List It1} {a mi si : Nat} {met : MetL} {sn : Seen} {x9 x10 x11 x12 x13 x14 x15 x16 x17 : Option U} {res : Option (List It1 × MetL)}, f ≤ k → a < s.zs.length →
    G[mi]? = some (.lst (met.map metU)) → G[si]? = some (.lst (sn.map seenU)) → mi ≠ si → isT (sgn (D ++ A)) = true → (∀ e ∈ sn, okC e.1.2 = true) → met.length + f ≤ 1000000 → sn.length + f ≤ 1000000 → (D ++ A).length + 3 * f ≤ 1000000 →
    walkP s true f D A a met sn = some res →
    ∃ G', Fr G G' [mi, si] ∧ match res with
      | none => seqM (whileL lp7C lp7B k) lp8 (lpL s u1 (D ++ A) D.length a mi si (plD D.length (placeO s.w A)) x9 x10 x11 x12 x13 x14 x15 x16 x17) G = .rt .non G'
      | some (its, met') => seqM (whileL lp7C lp7B k) lp8 (lpL s u1 (D ++ A) D.length a mi si (plD D.length (placeO s.w A)) x9 x10 x11 x12 x13 x14 x15 x16 x17) G = .rt (.tup [.lst (its.map itU), .ref mi]) G' ∧ G'[mi]? = some (.lst (met'.map metU))
  | 0, _, _, _, _, _, _, _, _, _, _, _, _, _, _, _, _, _, _, _, _, _, _, _, _, _, _, _, _, _, e => nomatch e
  | f + 1, k, G, D, A, a, mi, si, met, sn, x9, x10, x11, x12, x13, x14, x15, x16, x17, res, hk, ha, hm, hs, hne, hT, hsn, hzm, hzs, hzA, e => by
    obtain ⟨h1, h2, h3, h4, h5, h6, h7, h8, h9, h10⟩ := okd_parts ho
    have hlz := (okDs_ok h8).2
    obtain ⟨k, rfl⟩ : ∃ k', k = k' + 1 := ⟨k - 1, by omega⟩
    rw [walkP_succ] at e
    cases ep : placeO s.w A with
    | none =>
      rw [ep] at e
      cases e
      refine ⟨G, Fr.refl, ?_, hm⟩
      refine (seqM_nx (while_end lpC_f)).trans ?_
      exact end_ok
    | some p =>
      rw [ep] at e
      simp only at e
      have hp := placeO_len ep
      have hlm : mi < G.length := (List.getElem?_eq_some_iff.mp hm).1
      have hls : si < G.length := (List.getElem?_eq_some_iff.mp hs).1
      have hD := fun mt => head_ok (G := G) (s := s) (u1 := u1) (D := D) (A := A) (a := a) (mi := mi) (si := si) (c := D.length) (met := met) (sn := sn) (x9 := x9) (x10 := x10) (x11 := x11) (x12 := x12) (x13 := x13) (x14 := x14) (x15 := x15) (x16 := x16) (x17 := x17) ho ha hm hs hne (by omega) (by omega) (by omega) hp mt
      generalize hmet1 : met ++ [(s.zs.getD a [], D.length + p, (A.drop p).take s.w.length)] = met1 at hD e
      generalize hsn1 : touchP (A.length - p - s.w.length) sn = sn1 at hD e
      generalize hleft : A.length - p - s.w.length = left at hD
      have hsn1ok : ∀ e ∈ sn1, okC e.1.2 = true := by rw [← hsn1]; exact touch_sub hsn
      have hsn1l : sn1.length ≤ sn.length := by rw [← hsn1]; exact touch_len
      have hmet1l : met1.length = met.length + 1 := by rw [← hmet1]; simp
      generalize hG1 : G.set mi (.lst (met1.map metU)) ++ [.lst (sn1.map seenU)] = G1 at hD
      have g1m : G1[mi]? = some (.lst (met1.map metU)) := by
        rw [← hG1, List.getElem?_append_left (by rw [List.length_set]; omega)]
        exact List.getElem?_set_self hlm
      have g1s : G1[G.length]? = some (.lst (sn1.map seenU)) := by
        rw [← hG1, List.getElem?_append_right (by rw [List.length_set]; exact Nat.le_refl _)]
        simp
      have f1 : Fr G G1 [mi, si] := by
        rw [← hG1]
        exact ((Fr.set (G := G) (i := mi)).mono (S2 := [mi, si]) (by simp)).trans Fr.app (by simp)
      have okz : okC (s.zs.getD a []) = true := by
        simp only [List.getD, List.getElem?_eq_getElem ha, Option.getD_some]
        exact List.all_eq_true.mp (okDs_ok h8).1 _ (List.getElem_mem ha)
      have a1lt : (a + 1) % s.zs.length < s.zs.length := Nat.mod_lt _ (by omega)
      have C0 : lp7C (lpL s u1 (D ++ A) D.length a mi si (.int ((p + D.length : Nat) : Int)) x9 x10 x11 x12 x13 x14 x15 x16 x17) G = .ok true G := lpC_t
      have t5 : tobM (bin2 (eqX false (fun c => d__law_pass.eqt.lookup c)) (varM 9) (litM (.str (Str.ofString "stop").cps.toList))) (lpL s u1 (D ++ A) D.length ((a + 1) % s.zs.length) mi G.length (.int ((p + D.length : Nat) : Int)) (some (.str (s.zs.getD a []))) (some (.int (left : Nat))) x11 x12 x13 x14 x15 x16 x17) G1 = .ok (s.zs.getD a [] == wStop) G1 := (tob_str (neg := false) (x := s.zs.getD a []) (y := wStop) rfl (by simp [litM, wStop]) okz (by decide)).trans rfl
      have t6 : tobM (bin2 (eqX false (fun c => d__law_pass.eqt.lookup c)) (varM 9) (litM (.str (Str.ofString "replace").cps.toList))) (lpL s u1 (D ++ A) D.length ((a + 1) % s.zs.length) mi G.length (.int ((p + D.length : Nat) : Int)) (some (.str (s.zs.getD a []))) (some (.int (left : Nat))) x11 x12 x13 x14 x15 x16 x17) G1 = .ok (s.zs.getD a [] == wRep) G1 := (tob_str (neg := false) (x := s.zs.getD a []) (y := wRep) rfl (by simp [litM, wRep]) okz (by decide)).trans rfl
      by_cases hd : s.zs.getD a [] = wStop
      · rw [if_pos hd] at e
        cases e
        have t5' : (s.zs.getD a [] == wStop) = true := by rw [hd]; rfl
        rw [t5'] at t5
        refine ⟨G1, f1, ?_, g1m⟩
        refine seqM_rt (while_rt C0 ?_)
        exact (hD _).trans (seqM_ift t5 end_ok)
      · rw [if_neg hd] at e
        have t5' : (s.zs.getD a [] == wStop) = false := by simpa using hd
        rw [t5'] at t5
        by_cases hkp : s.zs.getD a [] = wKeep
        · rw [if_pos hkp] at e
          have t6' : (s.zs.getD a [] == wRep) = false := by rw [hkp]; decide
          rw [t6'] at t6
          have hk1 : p + (if s.k = wOne then 1 else s.w.length) ≤ A.length := by split <;> omega
          have eT : D ++ A = (D ++ A.take (p + (if s.k = wOne then 1 else s.w.length))) ++ A.drop (p + (if s.k = wOne then 1 else s.w.length)) := by
            rw [List.append_assoc, List.take_append_drop]
          have eL : p + (if s.k = wOne then 1 else s.w.length) + D.length = (D ++ A.take (p + (if s.k = wOne then 1 else s.w.length))).length := by
            rw [List.length_append, List.length_take, Nat.min_eq_left hk1]; omega
          have kk := keep_ok (G := G1) (s := s) (u1 := u1) (T := D ++ A) (D := D) (c := D.length) (a := (a + 1) % s.zs.length) (mi := mi) (si := G.length) (p := p) (x9 := some (.str (s.zs.getD a []))) (x10 := some (.int (left : Nat))) (x11 := x11) (x12 := x12) (x13 := x13) (x14 := x14) (x15 := x15) (x16 := x16) (x17 := x17) ho
          generalize hDn : D ++ A.take (p + (if s.k = wOne then 1 else s.w.length)) = Dn at eT eL e
          generalize hAn : A.drop (p + (if s.k = wOne then 1 else s.w.length)) = An at eT e
          rw [eT, eL] at kk
          rw [eT] at hT hzA hD C0 t5 t6
          have fc := find_call (G := G1) (s := s) (u1 := u1) (u8 := .int ((p + D.length : Nat) : Int)) (D := Dn) (A := An) (c := Dn.length) (a := (a + 1) % s.zs.length) (mi := mi) (si := G.length) (x9 := some (.str (s.zs.getD a []))) (x10 := some (.int (left : Nat))) (x11 := x11) (x12 := x12) (x13 := x13) (x14 := x14) (x15 := x15) (x16 := x16) (x17 := x17) ho hT (by omega) rfl
          have hB : lp7B (lpL s u1 (Dn ++ An) D.length a mi si (.int ((p + D.length : Nat) : Int)) x9 x10 x11 x12 x13 x14 x15 x16 x17) G = .nx (lpL s u1 (Dn ++ An) Dn.length ((a + 1) % s.zs.length) mi G.length (plD Dn.length (placeO s.w An)) (some (.str (s.zs.getD a []))) (some (.int (left : Nat))) x11 x12 x13 x14 x15 x16 x17) G1 :=
            (hD _).trans ((seqM_if t5).trans ((seqM_nx ((ifM_f t6).trans kk)).trans (stE_set (i := 8) (s := lpL s u1 (Dn ++ An) Dn.length ((a + 1) % s.zs.length) mi G.length (.int ((p + D.length : Nat) : Int)) (some (.str (s.zs.getD a []))) (some (.int (left : Nat))) x11 x12 x13 x14 x15 x16 x17) fc)))
          obtain ⟨G', q1, q2⟩ := pass_loop (u1 := u1) ho f k (x9 := some (.str (s.zs.getD a []))) (x10 := some (.int (left : Nat))) (x11 := x11) (x12 := x12) (x13 := x13) (x14 := x14) (x15 := x15) (x16 := x16) (x17 := x17) (by omega) a1lt g1m g1s (by omega) hT hsn1ok (by omega) (by omega) (by omega) e
          refine ⟨G', f1.trans q1 (by simp), ?_⟩
          have hgo : seqM (whileL lp7C lp7B (k + 1)) lp8 (lpL s u1 (Dn ++ An) D.length a mi si (.int ((p + D.length : Nat) : Int)) x9 x10 x11 x12 x13 x14 x15 x16 x17) G = seqM (whileL lp7C lp7B k) lp8 (lpL s u1 (Dn ++ An) Dn.length ((a + 1) % s.zs.length) mi G.length (plD Dn.length (placeO s.w An)) (some (.str (s.zs.getD a []))) (some (.int (left : Nat))) x11 x12 x13 x14 x15 x16 x17) G1 := by
            unfold seqM
            rw [while_step C0 hB]
          rw [eT]
          cases res with
          | none => exact hgo.trans q2
          | some w => exact ⟨hgo.trans q2.1, q2.2⟩
        · rw [if_neg hkp] at e
          have hrep : s.zs.getD a [] = wRep := by
            have hin := List.all_eq_true.mp (show s.zs.all (inW deedsL) = true by
              simp only [okDs, Bool.and_eq_true] at h8
              exact h8.2) _ (List.getElem_mem ha)
            have hg : s.zs.getD a [] = s.zs[a] := by simp [List.getD, List.getElem?_eq_getElem ha]
            rw [← hg] at hin
            simp [inW, deedsL] at hin
            rcases hin with q | q | q
            · exact q.symm
            · exact absurd q.symm hkp
            · exact absurd q.symm hd
          have t6' : (s.zs.getD a [] == wRep) = true := by rw [hrep]; rfl
          rw [t6'] at t6
          have hTp : turnP s s.p.length ≤ s.p.length := by unfold turnP; split <;> (try split) <;> omega
          have hTA : isT (sgn D) = true ∧ isT (sgn A) = true := by
            rw [sgn_app, isT_app, Bool.and_eq_true] at hT
            exact hT
          generalize hA1 : A.take p ++ s.p.map (fun c => ((c, none) : It1)) ++ A.drop (p + s.w.length) = A1 at e
          have hA1T : isT (sgn A1) = true := by
            have : sgn (s.p.map fun c => ((c, none) : It1)) = s.p := by simp [sgn, Function.comp_def]
            rw [← hA1, sgn_app, sgn_app, sgn_take, sgn_drop, this, isT_app, isT_app, isT_take hTA.2, h4, isT_drop hTA.2]
            rfl
          have hA1l : A1.length + s.w.length = A.length + s.p.length := by rw [← hA1]; simp; omega
          generalize hkk : p + turnP s s.p.length = kk at e
          have hkl : kk ≤ A1.length := by omega
          obtain ⟨y11, y12, y13, y14, rr⟩ := rep_ok (G := G1) (s := s) (u1 := u1) (D := D) (A := A) (a := (a + 1) % s.zs.length) (mi := mi) (si := G.length) (c := D.length) (sn := sn1) (p := p) (x9 := some (.str (s.zs.getD a []))) (x10 := some (.int (left : Nat))) (x11 := x11) (x12 := x12) (x13 := x13) (x14 := x14) (x15 := x15) (x16 := x16) (x17 := x17) ho g1s (isT_ok hT) hsn1ok (by omega) (by omega) hp hA1 (isT_ok hA1T) hkk
          rcases rr with ⟨r1, r2⟩ | ⟨r1, r2⟩
          · rw [r1] at e
            simp only [Bool.and_true, if_true, Option.some.injEq] at e
            subst e
            refine ⟨G1, f1, ?_⟩
            exact seqM_rt (while_rt C0 ((hD _).trans ((seqM_if t5).trans (seqM_rt ((ifM_t t6).trans r2)))))
          · rw [r1] at e
            simp only [Bool.and_false, Bool.false_eq_true, if_false] at e
            have eT : D ++ A1 = (D ++ A1.take kk) ++ A1.drop kk := by rw [List.append_assoc, List.take_append_drop]
            have eL : kk + D.length = (D ++ A1.take kk).length := by
              rw [List.length_append, List.length_take, Nat.min_eq_left hkl]; omega
            generalize hDn : D ++ A1.take kk = Dn at eT eL e
            generalize hAn : A1.drop kk = An at eT e r2
            rw [eT, eL] at r2
            have hTn : isT (sgn (Dn ++ An)) = true := by rw [← eT, sgn_app, isT_app, hTA.1, hA1T]; rfl
            have hln : (Dn ++ An).length ≤ (D ++ A).length + 3 := by rw [← eT, List.length_append, List.length_append]; omega
            generalize hsn2 : sn1 ++ [(windP ((a + 1) % s.zs.length) An, An.length - 12, An.length)] = sn2 at e r2
            have hsn2ok : ∀ e ∈ sn2, okC e.1.2 = true := by
              rw [← hsn2]
              intro x hx
              rcases List.mem_append.mp hx with hx | hx
              · exact hsn1ok x hx
              · rw [List.mem_singleton] at hx
                subst hx
                show okC (sgn (An.take 12)) = true
                rw [sgn_take]
                refine okC_take ?_
                rw [← hAn, sgn_drop]
                exact okC_drop (isT_ok hA1T)
            have hsn2l : sn2.length = sn1.length + 1 := by rw [← hsn2]; simp
            have hls1 : G.length < G1.length := (List.getElem?_eq_some_iff.mp g1s).1
            generalize hG2 : G1.set G.length (.lst (sn2.map seenU)) = G2 at r2
            have g2m : G2[mi]? = some (.lst (met1.map metU)) := by rw [← hG2, List.getElem?_set_ne (by omega)]; exact g1m
            have g2s : G2[G.length]? = some (.lst (sn2.map seenU)) := by rw [← hG2]; exact List.getElem?_set_self hls1
            have f2 : Fr G G2 [mi, si] := by rw [← hG2]; exact f1.trans Fr.set (by simp)
            have fc := find_call (G := G2) (s := s) (u1 := u1) (u8 := .int ((p + D.length : Nat) : Int)) (D := Dn) (A := An) (c := Dn.length) (a := (a + 1) % s.zs.length) (mi := mi) (si := G.length) (x9 := some (.str (s.zs.getD a []))) (x10 := some (.int (left : Nat))) (x11 := y11) (x12 := y12) (x13 := y13) (x14 := y14) (x15 := x15) (x16 := x16) (x17 := x17) ho hTn (by omega) rfl
            have hB : lp7B (lpL s u1 (D ++ A) D.length a mi si (.int ((p + D.length : Nat) : Int)) x9 x10 x11 x12 x13 x14 x15 x16 x17) G = .nx (lpL s u1 (Dn ++ An) Dn.length ((a + 1) % s.zs.length) mi G.length (plD Dn.length (placeO s.w An)) (some (.str (s.zs.getD a []))) (some (.int (left : Nat))) y11 y12 y13 y14 x15 x16 x17) G2 :=
              (hD _).trans ((seqM_if t5).trans ((seqM_nx ((ifM_t t6).trans r2)).trans (stE_set (i := 8) (s := lpL s u1 (Dn ++ An) Dn.length ((a + 1) % s.zs.length) mi G.length (.int ((p + D.length : Nat) : Int)) (some (.str (s.zs.getD a []))) (some (.int (left : Nat))) y11 y12 y13 y14 x15 x16 x17) fc)))
            obtain ⟨G', q1, q2⟩ := pass_loop (u1 := u1) ho f k (x9 := some (.str (s.zs.getD a []))) (x10 := some (.int (left : Nat))) (x11 := y11) (x12 := y12) (x13 := y13) (x14 := y14) (x15 := x15) (x16 := x16) (x17 := x17) (by omega) a1lt g2m g2s (by omega) hTn hsn2ok (by omega) (by omega) (by omega) e
            refine ⟨G', f2.trans q1 (by simp), ?_⟩
            have hgo : seqM (whileL lp7C lp7B (k + 1)) lp8 (lpL s u1 (D ++ A) D.length a mi si (.int ((p + D.length : Nat) : Int)) x9 x10 x11 x12 x13 x14 x15 x16 x17) G = seqM (whileL lp7C lp7B k) lp8 (lpL s u1 (Dn ++ An) Dn.length ((a + 1) % s.zs.length) mi G.length (plD Dn.length (placeO s.w An)) (some (.str (s.zs.getD a []))) (some (.int (left : Nat))) y11 y12 y13 y14 x15 x16 x17) G2 := by
              unfold seqM
              rw [while_step C0 hB]
            cases res with
            | none => exact hgo.trans q2
            | some w => exact ⟨hgo.trans q2.1, q2.2⟩
theorem le__law_pass : LeC r__law_pass (runB d__law_pass 40 s__law_pass) := fun us G => by
  unfold r__law_pass
  split
  · rename_i u items
    cases es : drOfU u with
    | none => exact .inl rfl
    | some s =>
    cases el : itsOf items with
    | none => exact .inl rfl
    | some l =>
    obtain ⟨rfl, ho⟩ := drOfU_ok es
    have := itsOf_eq el
    subst this
    obtain ⟨h1, h2, h3, h4, h5, h6, h7, h8, h9, h10⟩ := okd_parts ho
    have hlz := (okDs_ok h8).2
    by_cases hh : isT (sgn l) = true ∧ l.length ≤ 1000
    rotate_left
    · exact .inl (if_neg hh)
    obtain ⟨hT, hl⟩ := id hh
    simp only [if_pos hh]
    cases ew : walkP s true 50000 [] l 0 [] [] with
    | none => exact .inl rfl
    | some res =>
      refine .inr (.inr ?_)
      rw [run__law_pass, _law_pass_m]
      have hs : startS d__law_pass.N [drU s, .lst (l.map itU)] = [some (drU s), some (.lst (l.map itU)), none, none, none, none, none, none, none, none, none, none, none, none, none, none, none, none] := rfl
      rw [hs]
      refine cut_n (seqM_set (u := .lst (l.map itU)) (G1 := G) (by
        rw [pre_one (u := .lst (l.map itU)) rfl]
        simp only [listU, seqOf, lstOf]
        exact newL_f (by rw [List.length_map]; unfold szL; omega))) ?_
      refine cut_n (seqM_set (u := .int 0) (G1 := G) rfl) ?_
      refine cut_n (seqM_set (u := .int 0) (G1 := G) rfl) ?_
      refine cut_n (seqM_set (u := .ref G.length) (G1 := G ++ [.lst []]) rfl) ?_
      refine cut_n (seqM_set (s := [some (drU s), some (.lst (l.map itU)), some (.lst (l.map itU)), some (.int 0), some (.int 0), some (.ref G.length), none, none, none, none, none, none, none, none, none, none, none, none]) (u := .ref (G.length + 1)) (G1 := G ++ [.lst [], .lst []]) (by
        unfold lstM nilA
        refine (newL_t (by simp [szL])).trans ?_
        simp)) ?_
      refine cut_n (seqM_set (s := [some (drU s), some (.lst (l.map itU)), some (.lst (l.map itU)), some (.int 0), some (.int 0), some (.ref G.length), some (.ref (G.length + 1)), none, none, none, none, none, none, none, none, none, none, none]) (u := .int s.w.length) (G1 := G ++ [.lst [], .lst []]) (len_str (idxS (s := s) (j := 0) rfl).1 (by unfold szL; omega))) ?_
      have fc : ∀ G1 : List Ob, callM 3 r__law_find (consA (bin2 idxU (varM 0) (litM (.int 0))) (consA (varM 2) (consA (varM 3) nilA))) [some (drU s), some (.lst (l.map itU)), some (.lst (l.map itU)), some (.int 0), some (.int 0), some (.ref G.length), some (.ref (G.length + 1)), some (.int s.w.length), none, none, none, none, none, none, none, none, none, none] G1 = .ok (plD 0 (placeO s.w l)) G1 := fun G1 => by
        rw [call3 (G1 := G1) (G2 := G1) (G3 := G1) (idxS (s := s) (j := 0) rfl).1 (var_ok (u := .lst (l.map itU)) rfl) (var_ok (u := .int 0) rfl)]
        show r__law_find [.str s.w, .lst (l.map itU), .int (Int.ofNat 0)] _ = _
        unfold r__law_find
        simp only [itsOf_map]
        rw [if_pos ⟨h2, h3, h1, hT, by omega, by omega⟩, List.drop_zero, ← placeO_S]
        cases placeO s.w l <;> rfl
      refine cut_n (seqM_set (s := [some (drU s), some (.lst (l.map itU)), some (.lst (l.map itU)), some (.int 0), some (.int 0), some (.ref G.length), some (.ref (G.length + 1)), some (.int s.w.length), none, none, none, none, none, none, none, none, none, none]) (fc _)) ?_
      have g1 : (G ++ [Ob.lst [], .lst []])[G.length]? = some (.lst (([] : MetL).map metU)) := by simp
      have g2 : (G ++ [Ob.lst [], .lst []])[G.length + 1]? = some (.lst (([] : Seen).map seenU)) := by simp
      obtain ⟨G', q1, q2⟩ := pass_loop (u1 := .lst (l.map itU)) ho 50000 wF (G := G ++ [.lst [], .lst []]) (D := []) (A := l) (a := 0) (mi := G.length) (si := G.length + 1) (met := []) (sn := []) (x9 := none) (x10 := none) (x11 := none) (x12 := none) (x13 := none) (x14 := none) (x15 := none) (x16 := none) (x17 := none) (by decide) (by omega) g1 g2 (by omega) hT (fun e he => by cases he) (by simp) (by simp) (by simp; omega) ew
      obtain ⟨g, hg⟩ := (((Fr.app (G := G) (g := [.lst [], .lst []])).trans q1 (S := []) (by simp))).pre (by simp)
      cases res with
      | none =>
        refine cut_n q2 ?_
        rw [hg]
        exact cut_new rfl
      | some w =>
        obtain ⟨its, met'⟩ := w
        obtain ⟨q2, q3⟩ := q2
        rw [hg] at q2 q3
        refine cut_rt (g := g) q2 ?_
        simp only [frzU, mapU, mapUs, refF, Nat.lt_irrefl, if_false, q3, map_its, map_mets, Option.map_some]
  · exact .inl rfl
end FL

namespace FL
open PySem L2 PyProof.Rows
abbrev At0 (c j : Nat) (m : ME) : ME := attrM (fun c => (([] : List (Nat × RunD)).lookup c).map attrP) (fun c' => ([c] : List Nat).contains c') j m
abbrev Fl0 (c j : Nat) : U → U → MS := fldM (fun c' => ([c] : List Nat).contains c') j
def scL (s : Dr) (x : Sc) (p m : Nat) : List (Nat × U) := [(6, stU s), (7, .ref p), (8, .int (x.cur : Nat)), (9, .bl x.stop), (10, .lst (x.wr.map itU)), (11, .int (x.many : Nat)), (12, .ref m), (13, .bl x.endl)]
abbrev At2 (m : ME) : ME := attrM (fun c => (([] : List (Nat × RunD)).lookup c).map attrP) (fun c' => ([2, 3] : List Nat).contains c') 6 m
abbrev Fl2 : U → U → MS := fldM (fun c' => ([2, 3] : List Nat).contains c') 6
section
variable {G : List Ob} {i p m j q : Nat} {s : Dr} {x x' : Sc} {sn : Seen} {sg : Sg} {a : Nat}
theorem st_at {m0 : ME} (h0 : m0 sg G = .ok (stU s) G) : At0 0 0 m0 sg G = .ok (.str s.w) G ∧ At0 0 1 m0 sg G = .ok (.str s.p) G ∧ At0 0 2 m0 sg G = .ok (.str s.k) G ∧ At0 0 3 m0 sg G = .ok (.str s.t) G ∧ At0 0 4 m0 sg G = .ok (.tup (s.zs.map .str)) G ∧ At0 0 5 m0 sg G = .ok (.int s.n) G := by
  refine ⟨?_, ?_, ?_, ?_, ?_, ?_⟩ <;> (unfold At0 attrM; rw [h0]; rfl)
theorem stE2_ok {mv mo : ME} {f : U → U → MS} {y o : U} {G1 : List Ob} (h1 : mv sg G = .ok y G1) (h2 : mo sg G1 = .ok o G1) : stE2 mv mo f sg G = f y o sg G1 := by
  unfold stE2
  rw [h1]
  simp only [h2]
theorem nilL : lstM false nilA sg G = .ok (.lst []) G := by
  unfold lstM nilA
  exact newL_f (by simp [szL])
theorem fl_set {ok : Nat → Bool} {l : List (Nat × U)} {c k : Nat} {y : U} (hok : ok c = true) (h : G[i]? = some (.ins c l)) (hl : l.length < 1000) : fldM ok k y (.ref i) sg G = .nx sg (G.set i (.ins c (putU k y l))) := by
  simp [fldM, h, hl, hok]
theorem init_set {ok : Nat → Bool} {c : Nat} {r r' : List Ob} {l : List (Nat × U)} {k : Nat} {v : U} {mv : ME} (hok : ok c = true) (hs : sg[0]? = some (some (.ref G.length))) (hl : l.length < 1000) (hv : mv sg (G ++ .ins c l :: r) = .ok v (G ++ .ins c l :: r')) : stE2 mv (varM 0) (fldM ok k) sg (G ++ .ins c l :: r) = .nx sg (G ++ .ins c (putU k v l) :: r') := by
  rw [stE2_ok hv (var_ok hs), fl_set hok (c := c) (l := l) (by rw [List.getElem?_append_right (Nat.le_refl _)]; simp) hl]
  rw [List.set_append_right _ _ (Nat.le_refl _), Nat.sub_self]
  rfl
theorem scan_made {ms : ME} (h : ms sg G = .ok (stU s) G) : makeM 2 5 r_Scan_init (consA ms (consA (lstM false nilA) (consA (litM (.int 0)) (consA (litM (.bl false)) nilA)))) sg G = .ok (.ref G.length) (G ++ [.ins 2 (scL s sc0 (G.length + 1) (G.length + 2)), .lst [], .lst []]) := by
  have e : r_Scan_init [.ref G.length, stU s, .lst [], .int 0, .bl false] (G ++ [.ins 2 []]) = .ok .non (G ++ [.ins 2 (scL s sc0 (G.length + 1) (G.length + 2)), .lst [], .lst []]) := by
    unfold r_Scan_init
    have hs : startS d_Scan_init.N [.ref G.length, stU s, .lst [], .int 0, .bl false] = [some (.ref G.length), some (stU s), some (.lst []), some (.int 0), some (.bl false)] := rfl
    rw [hs]
    unfold m_Scan_init
    have q1 := init_set (ok := fun c => ([2, 3] : List Nat).contains c) (c := 2) (G := G) (sg := [some (.ref G.length), some (stU s), some (.lst []), some (.int 0), some (.bl false)]) (l := []) (r := []) (r' := []) (k := 6) (v := stU s) (mv := varM 1) rfl rfl (by simp) rfl
    have q2 := init_set (ok := fun c => ([2] : List Nat).contains c) (c := 2) (G := G) (sg := [some (.ref G.length), some (stU s), some (.lst []), some (.int 0), some (.bl false)]) (l := putU 6 (stU s) []) (r := []) (r' := [.lst []]) (k := 7) (v := .ref (G.length + 1)) (mv := preM (listU true) (consA (varM 2) nilA)) rfl rfl (by simp [putU]) (by
      rw [pre_one (var_ok (u := .lst []) rfl)]
      simp only [listU, seqOf, lstOf]
      refine (newL_t (by simp [szL])).trans ?_
      simp)
    have q3 := init_set (ok := fun c => ([2] : List Nat).contains c) (c := 2) (G := G) (sg := [some (.ref G.length), some (stU s), some (.lst []), some (.int 0), some (.bl false)]) (l := putU 7 (.ref (G.length + 1)) (putU 6 (stU s) [])) (r := [.lst []]) (r' := [.lst []]) (k := 8) (v := .int 0) (mv := varM 3) rfl rfl (by simp [putU]) rfl
    have q4 := init_set (ok := fun c => ([2] : List Nat).contains c) (c := 2) (G := G) (sg := [some (.ref G.length), some (stU s), some (.lst []), some (.int 0), some (.bl false)]) (l := putU 8 (.int 0) (putU 7 (.ref (G.length + 1)) (putU 6 (stU s) []))) (r := [.lst []]) (r' := [.lst []]) (k := 9) (v := .bl false) (mv := varM 4) rfl rfl (by simp [putU]) rfl
    have q5 := init_set (ok := fun c => ([2] : List Nat).contains c) (c := 2) (G := G) (sg := [some (.ref G.length), some (stU s), some (.lst []), some (.int 0), some (.bl false)]) (l := putU 9 (.bl false) (putU 8 (.int 0) (putU 7 (.ref (G.length + 1)) (putU 6 (stU s) [])))) (r := [.lst []]) (r' := [.lst []]) (k := 10) (v := .lst []) (mv := lstM false nilA) rfl rfl (by simp [putU]) nilL
    have q6 := init_set (ok := fun c => ([2] : List Nat).contains c) (c := 2) (G := G) (sg := [some (.ref G.length), some (stU s), some (.lst []), some (.int 0), some (.bl false)]) (l := putU 10 (.lst []) (putU 9 (.bl false) (putU 8 (.int 0) (putU 7 (.ref (G.length + 1)) (putU 6 (stU s) []))))) (r := [.lst []]) (r' := [.lst []]) (k := 11) (v := .int 0) (mv := litM (.int 0)) rfl rfl (by simp [putU]) rfl
    have q7 := init_set (ok := fun c => ([2] : List Nat).contains c) (c := 2) (G := G) (sg := [some (.ref G.length), some (stU s), some (.lst []), some (.int 0), some (.bl false)]) (l := putU 11 (.int 0) (putU 10 (.lst []) (putU 9 (.bl false) (putU 8 (.int 0) (putU 7 (.ref (G.length + 1)) (putU 6 (stU s) [])))))) (r := [.lst []]) (r' := [.lst [], .lst []]) (k := 12) (v := .ref (G.length + 2)) (mv := lstM true nilA) rfl rfl (by simp [putU]) (by
      unfold lstM nilA
      refine (newL_t (by simp [szL])).trans ?_
      simp)
    have q8 := init_set (ok := fun c => ([2] : List Nat).contains c) (c := 2) (G := G) (sg := [some (.ref G.length), some (stU s), some (.lst []), some (.int 0), some (.bl false)]) (l := putU 12 (.ref (G.length + 2)) (putU 11 (.int 0) (putU 10 (.lst []) (putU 9 (.bl false) (putU 8 (.int 0) (putU 7 (.ref (G.length + 1)) (putU 6 (stU s) []))))))) (r := [.lst [], .lst []]) (r' := [.lst [], .lst []]) (k := 13) (v := .bl false) (mv := litM (.bl false)) rfl rfl (by simp [putU]) rfl
    exact (congrArg runR ((seqM_nx q1).trans ((seqM_nx q2).trans ((seqM_nx q3).trans ((seqM_nx q4).trans ((seqM_nx q5).trans ((seqM_nx q6).trans ((seqM_nx q7).trans q8)))))))).trans rfl
  unfold makeM
  rw [consA_p h (consA_p nilL (consA_p (x := .int 0) rfl (consA_p (x := .bl false) rfl rfl)))]
  simp only [bind_ok, madeU, arM]
  rw [if_pos (show [U.ref G.length, stU s, .lst [], .int 0, .bl false].length = 5 from rfl), e]
  rfl
theorem turned_ok (h : G[i]? = some (.ins 2 (scL s x p m))) (ho : okd s = true) {n : Nat} : r_Scan_turned [.ref i, .int (n : Nat)] G = .ok (.int (turnP s n : Nat)) G := by
  obtain ⟨h1, h2, h3, h4, h5, h6, h7, h8, h9, h10⟩ := okd_parts ho
  have okt : okC s.t = true := inW_ok (by decide) h7
  unfold r_Scan_turned
  have hs : startS d_Scan_turned.N [.ref i, .int (n : Nat)] = [some (.ref i), some (.int (n : Nat))] := rfl
  rw [hs]
  unfold m_Scan_turned
  have A : At2 (varM 0) [some (.ref i), some (.int (n : Nat))] G = .ok (stU s) G := by
    unfold At2 attrM
    rw [var_ok (u := .ref i) rfl]
    simp only [bind_ok, insOf, h]
    rfl
  have B := st_at A
  have t1 := tob_str (neg := false) (et := fun c => d_Scan_turned.eqt.lookup c) (b := litM (.str (Str.ofString "behind").cps.toList)) (y := wBehind) B.2.2.2.1 (by simp [litM, wBehind]) okt (by decide)
  have t2 := tob_str (neg := false) (et := fun c => d_Scan_turned.eqt.lookup c) (b := litM (.str (Str.ofString "last").cps.toList)) (y := wLast) B.2.2.2.1 (by simp [litM, wLast]) okt (by decide)
  unfold turnP
  by_cases e1 : s.t = wBehind
  · have t1 := t1.trans (show _ = Rs.ok true G by simp [e1])
    rw [seqM_ift t1 (stE_rt rfl), if_pos e1]
    rfl
  · have t1 := t1.trans (show _ = Rs.ok false G by simp [e1])
    rw [seqM_if t1, if_neg e1]
    by_cases e2 : s.t = wLast
    · have t2 := t2.trans (show _ = Rs.ok true G by simp [e2])
      rw [if_pos e2]
      have hl : lstM false (consA (litM (.int 0)) (consA (bin2 subU (varM 1) (litM (.int 1))) nilA)) [some (.ref i), some (.int (n : Nat))] G = .ok (.lst [.int 0, .int ((n : Int) - 1)]) G := by
        unfold lstM
        rw [consA_p (x := .int 0) rfl (consA_p (sub_int (x := n) (y := 1) rfl rfl rfl) rfl)]
        exact newL_f (by simp [szL])
      have hi : iteM (tobM (bin2 (eqX false (fun c => d_Scan_turned.eqt.lookup c)) (At0 0 3 (At2 (varM 0))) (litM (.str (Str.ofString "last").cps.toList)))) (preM maxU (consA (lstM false (consA (litM (.int 0)) (consA (bin2 subU (varM 1) (litM (.int 1))) nilA))) nilA)) (litM (.int 0)) [some (.ref i), some (.int (n : Nat))] G = .ok (.int ((n - 1 : Nat) : Int)) G := by
        unfold iteM
        rw [t2]
        simp only [bind_ok, if_true]
        rw [pre_one hl, max2]
        congr 2
        omega
      rw [stE_rt hi]
      rfl
    · have t2 := t2.trans (show _ = Rs.ok false G by simp [e2])
      rw [if_neg e2]
      have hi : iteM (tobM (bin2 (eqX false (fun c => d_Scan_turned.eqt.lookup c)) (At0 0 3 (At2 (varM 0))) (litM (.str (Str.ofString "last").cps.toList)))) (preM maxU (consA (lstM false (consA (litM (.int 0)) (consA (bin2 subU (varM 1) (litM (.int 1))) nilA))) nilA)) (litM (.int 0)) [some (.ref i), some (.int (n : Nat))] G = .ok (.int 0) G := by
        unfold iteM
        rw [t2]
        rfl
      rw [stE_rt hi]
      rfl
end
end FL

namespace FL
open PySem L2 PyProof.Rows
/-! ### the editor -/
abbrev Now := W1 × Nat × Option Nat
structure Ed where
  now : Now
  past : List Now
  fut : List Now
def nowU (x : Now) : U := .tup [.str x.1, .int (x.2.1 : Nat), orgU x.2.2]
def edL (s : Dr) (e : Ed) (pj fj : Nat) : List (Nat × U) := [(6, stU s), (15, nowU e.now), (16, .ref pj), (17, .ref fj)]
structure EdAt (G : List Ob) (i pj fj : Nat) (s : Dr) (e : Ed) : Prop where
  ins : G[i]? = some (.ins 3 (edL s e pj fj))
  past : G[pj]? = some (.lst (e.past.map nowU))
  fut : G[fj]? = some (.lst (e.fut.map nowU))
  ip : i ≠ pj
  jf : i ≠ fj
  pf : pj ≠ fj
/-- what is admitted -/
structure EdI (B : Nat) (e : Ed) : Prop where
  t : isT e.now.1 = true
  tl : e.now.1.length ≤ B
  c : e.now.2.1 ≤ e.now.1.length
  p : e.past.length ≤ B
  f : e.fut.length ≤ B
theorem EdAt.fr {G G1 : List Ob} {S : List Nat} {i pj fj : Nat} {s : Dr} {e : Ed} (h : EdAt G i pj fj s e) (a : Fr G G1 S) (hi : i ∉ S) (hp : pj ∉ S) (hf : fj ∉ S) : EdAt G1 i pj fj s e :=
  ⟨a.get h.ins hi, a.get h.past hp, a.get h.fut hf, h.ip, h.jf, h.pf⟩
theorem comp_itemsF {mu : Bool} {it : MI} {g : MG} {t : MT} {e : ME} {own : List Nat} {s : Sg} {G G1 : List Ob} {l : List U} {h : U → U} {p : U → Bool} (hi : it s G = .ok (.items l, l.length) G1) (hh : ∀ u ∈ l, ∃ s1, g u (wipeS s own) = some s1 ∧ t s1 G1 = .ok (p u) G1 ∧ (p u = true → e s1 G1 = .ok (h u) G1)) :
    compM mu it g t e own s G = newL mu ((l.filter p).map h) G1 := by
  unfold compM
  rw [hi]
  simp only
  rw [compL_filter l 0 (fun i => by simp [itAt]) hh]
  rfl
section
variable {G : List Ob} {i pj fj : Nat} {s : Dr} {e : Ed} {sg : Sg} {a : Nat}
theorem ed_at (h : EdAt G i pj fj s e) (hs : sg[a]? = some (some (.ref i))) : At2 (varM a) sg G = .ok (stU s) G ∧ At0 3 15 (varM a) sg G = .ok (nowU e.now) G ∧ At0 3 16 (varM a) sg G = .ok (.ref pj) G ∧ At0 3 17 (varM a) sg G = .ok (.ref fj) G := by
  have hv := var_ok (G := G) hs
  refine ⟨?_, ?_, ?_, ?_⟩ <;> (first | unfold At2 | unfold At0) <;> (unfold attrM; rw [hv]; simp only [bind_ok, insOf, h.ins]; rfl)
theorem now_at {x : Now} {m : ME} (h : m sg G = .ok (nowU x) G) : bin2 idxU m (litM (.int 0)) sg G = .ok (.str x.1) G ∧ bin2 idxU m (litM (.int 1)) sg G = .ok (.int (x.2.1 : Nat)) G ∧ bin2 idxU m (litM (.int 2)) sg G = .ok (orgU x.2.2) G :=
  ⟨idx_tup0 (k := 0) h rfl, idx_tup0 (k := 1) h rfl, idx_tup0 (k := 2) h rfl⟩
theorem EdAt.upd (h : EdAt G i pj fj s e) {n : Now} : EdAt (G.set i (.ins 3 (edL s { e with now := n } pj fj))) i pj fj s { e with now := n } :=
  ⟨List.getElem?_set_self (List.getElem?_eq_some_iff.mp h.ins).1, by rw [List.getElem?_set_ne h.ip]; exact h.past, by rw [List.getElem?_set_ne h.jf]; exact h.fut, h.ip, h.jf, h.pf⟩
theorem now_set (h : EdAt G i pj fj s e) {n : Now} {mv : ME} {G0 : List Ob} (hs : sg[a]? = some (some (.ref i))) (hv : mv sg G0 = .ok (nowU n) G) : stE2 mv (varM a) (Fl0 3 15) sg G0 = .nx sg (G.set i (.ins 3 (edL s { e with now := n } pj fj))) := by
  exact (stE2_ok hv (var_ok hs)).trans ((fl_set (c := 3) (l := edL s e pj fj) rfl h.ins (by simp [edL])).trans rfl)
/-! hits -/
theorem le_places_in : Le r_places_in (runB d_places_in 40 s_places_in) := fun us G => by
  unfold r_places_in
  split
  · rename_i w t
    by_cases hh : 0 < w.length ∧ w.length ≤ 3 ∧ isT w = true ∧ isT t = true ∧ t.length ≤ 1000000
    rotate_left
    · exact .inl (if_neg hh)
    obtain ⟨hw0, hw3, hw, ht, hz⟩ := id hh
    rw [if_pos hh]
    refine .inr ?_
    rw [run_places_in]
    have hs : startS d_places_in.N [.str w, .str t] = [some (.str w), some (.str t), none] := rfl
    rw [hs]
    unfold m_places_in
    have hlw : ∀ {x : Option U}, preM lenU (consA (varM 0) nilA) [some (.str w), some (.str t), x] G = .ok (.int w.length) G := fun {x} => len_str rfl (by unfold szL; omega)
    have hlt : preM lenU (consA (varM 1) nilA) [some (.str w), some (.str t), none] G = .ok (.int t.length) G := len_str rfl (by unfold szL; omega)
    have hit : preI rng1U (consA (bin2 (addU false) (bin2 subU (preM lenU (consA (varM 1) nilA)) (preM lenU (consA (varM 0) nilA))) (litM (.int 1))) nilA) [some (.str w), some (.str t), none] G = .ok (.items (rangeL 0 1 (t.length + 1 - w.length)), (rangeL 0 1 (t.length + 1 - w.length)).length) G := by
      rw [pre_oneI (add_int (sub_int hlt hlw rfl) (m2 := litM (.int 1)) (y := 1) rfl rfl)]
      have hl : (rangeL 0 1 (t.length + 1 - w.length)).length = t.length + 1 - w.length := by simp [rangeL]
      have hb : -(2 ^ 62 : Int) ≤ (t.length : Int) - w.length + 1 ∧ (t.length : Int) - w.length + 1 < 2 ^ 62 := by omega
      simp only [rng1U]
      rw [if_pos hb, hl]
      have : ((t.length : Int) - w.length + 1).toNat = t.length + 1 - w.length := by omega
      rw [this]
    have hc := comp_itemsF (mu := false) (g := nameG 2) (t := tobM (bin2 (eqX false (fun c => d_places_in.eqt.lookup c)) (slM false (varM 1) (someO (varM 2)) (someO (bin2 (addU false) (varM 2) (preM lenU (consA (varM 0) nilA))))) (varM 0))) (e := varM 2) (own := [2]) (s := [some (.str w), some (.str t), none]) (h := fun z => z)
      (p := fun z => match z with | .int (.ofNat k) => decide ((t.drop k).take w.length = w) | _ => false) hit fun z hz' => by
      unfold rangeL at hz'
      obtain ⟨k, hk, rfl⟩ := List.mem_map.mp hz'
      have e0 : (0 + (k : Nat) * 1 : Int) = (k : Nat) := by omega
      rw [e0]
      refine ⟨[some (.str w), some (.str t), some (.int (k : Nat))], rfl, ?_, fun _ => rfl⟩
      have sl : slM false (varM 1) (someO (varM 2)) (someO (bin2 (addU false) (varM 2) (preM lenU (consA (varM 0) nilA)))) [some (.str w), some (.str t), some (.int (k : Nat))] G = .ok (.str ((t.drop k).take w.length)) G := by
        have hv : varM 1 [some (.str w), some (.str t), some (.int (k : Nat))] G = .ok (.str t) G := rfl
        have ho1 : someO (varM 2) [some (.str w), some (.str t), some (.int (k : Nat))] G = .ok (some (k : Int)) G := rfl
        have ho2 := someO_ok (add_int (x := k) (y := w.length) (z := (k : Int) + w.length) (m1 := varM 2) (s := [some (.str w), some (.str t), some (.int (k : Nat))]) (G := G) rfl hlw rfl)
        unfold slM
        rw [hv]
        simp only [bind_ok, ho1, ho2, slU]
        rw [if_pos (by unfold szL; omega), cut_mid]
      refine (tob_str (neg := false) sl (var_ok (u := .str w) rfl) (okC_take (okC_drop (isT_ok ht))) (isT_ok hw)).trans ?_
      simp only [Bool.false_eq_true, if_false]
      congr 1
      show _ = decide ((t.drop k).take w.length = w)
      by_cases z : (t.drop k).take w.length = w <;> simp [z]
    have e : (((rangeL 0 1 (t.length + 1 - w.length)).filter fun z => match z with | .int (.ofNat k) => decide ((t.drop k).take w.length = w) | _ => false).map fun z => z) = (hitsP w t).map fun p => .int (p : Nat) := by
      rw [List.map_id']
      unfold rangeL hitsP
      rw [List.filter_map]
      have : (List.range (t.length + 1 - w.length)).filter ((fun z => match z with | U.int (.ofNat k) => decide ((t.drop k).take w.length = w) | _ => false) ∘ fun k => U.int (0 + (k : Nat) * 1)) = (List.range (t.length + 1 - w.length)).filter fun p => decide ((t.drop p).take w.length = w) := by
        refine List.filter_congr fun k hk => ?_
        have e0 : (0 + (k : Nat) * 1 : Int) = (k : Nat) := by omega
        simp only [Function.comp, e0]
      rw [this]
      refine List.map_congr_left fun k hk => ?_
      have e0 : (0 + (k : Nat) * 1 : Int) = (k : Nat) := by omega
      rw [e0]
    rw [e, newL_f (by rw [List.length_map]; unfold hitsP; exact Nat.le_trans (List.length_filter_le _ _) (by simp; unfold szL; omega))] at hc
    rw [stE_rt hc]
    rfl
  · exact .inl rfl
theorem hits_ok (h : EdAt G i pj fj s e) (ho : okd s = true) (hT : isT e.now.1 = true) (hz : e.now.1.length ≤ 1000000) : r_Editor_hits [.ref i] G = .ok (.lst ((hitsP s.w e.now.1).map fun p => .int (p : Nat))) G := by
  obtain ⟨h1, h2, h3, h4, h5, h6, h7, h8, h9, h10⟩ := okd_parts ho
  unfold r_Editor_hits
  have hs : startS d_Editor_hits.N [.ref i] = [some (.ref i)] := rfl
  rw [hs]
  have A := ed_at h (sg := [some (.ref i)]) (a := 0) rfl
  have hc : callM 2 r_places_in (consA (At0 0 0 (At2 (varM 0))) (consA (bin2 idxU (At0 3 15 (varM 0)) (litM (.int 0))) nilA)) [some (.ref i)] G = .ok (.lst ((hitsP s.w e.now.1).map fun p => .int (p : Nat))) G := by
    rw [call2 (st_at A.1).1 (now_at A.2.1).1]
    unfold r_places_in
    exact if_pos ⟨h2, h3, h1, hT, hz⟩
  exact congrArg runR (stE_rt hc)
theorem text_ok (h : EdAt G i pj fj s e) : r_Editor_text [.ref i] G = .ok (.str e.now.1) G := by
  unfold r_Editor_text
  have hs : startS d_Editor_text.N [.ref i] = [some (.ref i)] := rfl
  rw [hs]
  exact congrArg runR (stE_rt (now_at (ed_at h (sg := [some (.ref i)]) (a := 0) rfl).2.1).1)
theorem choose_ok (h : EdAt G i pj fj s e) {ps : List Nat} : r_Editor_choose [.ref i, .lst (ps.map fun p => .int (p : Nat))] G = match ps.head? with
    | none => .ok .non G
    | some p => .ok (.int (p : Nat)) (G.set i (.ins 3 (edL s { e with now := (e.now.1, e.now.2.1, some p) } pj fj))) := by
  unfold r_Editor_choose
  have hs : startS d_Editor_choose.N [.ref i, .lst (ps.map fun p => .int (p : Nat))] = [some (.ref i), some (.lst (ps.map fun p => .int (p : Nat)))] := rfl
  rw [hs]
  unfold m_Editor_choose
  have hl : preM lenU (consA (varM 1) nilA) [some (.ref i), some (.lst (ps.map fun p => U.int (p : Nat)))] G = .ok (.int (ps.length : Nat)) G := by
    rw [pre_one (u := .lst (ps.map fun p => U.int (p : Nat))) rfl]
    simp [lenU, seqOf, lstOf]
  have ht : tobM (bin2 (eqX false (fun c => d_Editor_choose.eqt.lookup c)) (preM lenU (consA (varM 1) nilA)) (litM (.int 0))) [some (.ref i), some (.lst (ps.map fun p => U.int (p : Nat)))] G = .ok (((ps.length : Nat) : Int) == 0) G := by
    refine tob_bl ?_
    rw [bin2_p hl (y := .int 0) rfl]
    exact eqX_int
  cases ps with
  | nil =>
    have ht := ht.trans (show _ = Rs.ok true G from rfl)
    rw [seqM_ift ht (stE_rt (u := .non) rfl)]
    rfl
  | cons p r =>
    have ht := ht.trans (show _ = Rs.ok false G by congr 1)
    rw [seqM_if ht]
    have A := ed_at h (sg := [some (.ref i), some (.lst ((p :: r).map fun p => U.int (p : Nat)))]) (a := 0) rfl
    have N := now_at A.2.1
    have hi : ∀ G', bin2 idxU (varM 1) (litM (.int 0)) [some (.ref i), some (.lst ((p :: r).map fun p => U.int (p : Nat)))] G' = .ok (.int (p : Nat)) G' := fun G' => by
      rw [bin2_p (x := .lst ((p :: r).map fun p => U.int (p : Nat))) (y := .int 0) rfl rfl]
      have : ((p :: r).map fun p => U.int (p : Nat))[0]? = some (.int (p : Nat)) := rfl
      have q := atI_nat this
      simp only [idxU, seqOf, lstOf]
      rw [show (0 : Int) = ((0 : Nat) : Int) from rfl, q]
    have tp : tupM (consA (bin2 idxU (At0 3 15 (varM 0)) (litM (.int 0))) (consA (bin2 idxU (At0 3 15 (varM 0)) (litM (.int 1))) (consA (bin2 idxU (varM 1) (litM (.int 0))) nilA))) [some (.ref i), some (.lst ((p :: r).map fun p => U.int (p : Nat)))] G = .ok (nowU (e.now.1, e.now.2.1, some p)) G := tup_3 N.1 N.2.1 (hi G)
    rw [seqM_nx (now_set h (n := (e.now.1, e.now.2.1, some p)) (a := 0) (sg := [some (.ref i), some (.lst ((p :: r).map fun p => U.int (p : Nat)))]) rfl tp)]
    rw [stE_rt (hi _)]
    rfl
end
end FL

namespace FL
open PySem L2 PyProof.Rows
theorem placeS_min {w : W1} : ∀ {l : W1} {q : Nat}, placeS w l = some q → ∀ k, k < q → ¬ w <+: l.drop k
  | [], q, h, k, hk, hp => by
    unfold placeS at h
    split at h
    · cases h; omega
    · cases h
  | c :: r, q, h, k, hk, hp => by
    unfold placeS at h
    split at h
    · cases h; omega
    · rename_i e
      obtain ⟨q', hq, rfl⟩ := Option.map_eq_some_iff.mp h
      cases k with
      | zero =>
        rw [List.isPrefixOf_iff_prefix] at e
        exact e (by simpa using hp)
      | succ k => exact placeS_min hq k (by omega) (by simpa using hp)
theorem pre_take_eq {w l : W1} : w <+: l ↔ l.take w.length = w := by
  constructor
  · rintro ⟨t, rfl⟩
    simp
  · intro h
    rw [← h]
    exact List.take_prefix _ _
theorem next_head {w t : W1} {c : Nat} (hw : 0 < w.length) (hc : c ≤ t.length) : ((hitsP w t).filter fun p => decide (c ≤ p)).head? = (placeS w (t.drop c)).map (· + c) := by
  unfold hitsP
  rw [List.filter_filter, List.head?_filter]
  cases e : placeS w (t.drop c) with
  | none =>
    rw [Option.map_none, List.find?_eq_none]
    intro k hk hp
    simp only [Bool.and_eq_true, decide_eq_true_eq] at hp
    have hk' := List.mem_range.mp hk
    refine placeS_none e (k - c) (by rw [List.length_drop]; omega) ?_
    rw [List.drop_drop, show c + (k - c) = k by omega]
    exact pre_take_eq.mpr hp.2
  | some q =>
    obtain ⟨h1, h2⟩ := placeS_some e
    rw [List.length_drop] at h1
    rw [List.drop_drop] at h2
    rw [Option.map_some, List.find?_range_eq_some]
    refine ⟨?_, List.mem_range.mpr (by omega), fun j hj => ?_⟩
    · simp only [Bool.and_eq_true, decide_eq_true_eq]
      exact ⟨by omega, by rw [Nat.add_comm]; exact pre_take_eq.mp h2⟩
    · simp only [Bool.not_eq_true', Bool.and_eq_false_iff, decide_eq_false_iff_not]
      by_cases hcj : c ≤ j
      · right
        intro z
        refine placeS_min e (j - c) (by omega) ?_
        rw [List.drop_drop, show c + (j - c) = j by omega]
        exact pre_take_eq.mpr z
      · left; exact hcj
def nextE (s : Dr) (e : Ed) : Option Nat := (placeS s.w (e.now.1.drop e.now.2.1)).map (· + e.now.2.1)
section
variable {G : List Ob} {i pj fj : Nat} {s : Dr} {e : Ed} {sg : Sg} {a : Nat}
theorem next_ok (h : EdAt G i pj fj s e) (ho : okd s = true) (hI : EdI 1000000 e) : r_Editor_next [.ref i] G = match nextE s e with
    | none => .ok .non G
    | some p => .ok (.int (p : Nat)) (G.set i (.ins 3 (edL s { e with now := (e.now.1, e.now.2.1, some p) } pj fj))) := by
  obtain ⟨h1, h2, h3, h4, h5, h6, h7, h8, h9, h10⟩ := okd_parts ho
  unfold r_Editor_next
  have hs : startS d_Editor_next.N [.ref i] = [some (.ref i), none] := rfl
  rw [hs]
  have hh : methM (fun c => ([(3, (1, r_Editor_hits))] : List (Nat × (Nat × RunD))).lookup c) 22 (varM 0) nilA [some (.ref i), none] G = .ok (.lst ((hitsP s.w e.now.1).map fun p => .int (p : Nat))) G :=
    (meth_eval (c := 3) (l := edL s e pj fj) (n := 1) (r := r_Editor_hits) (us := []) (var_ok rfl) (by simp only [insOf, h.ins]) rfl rfl rfl).trans (hits_ok h ho hI.t hI.tl)
  have hit : seqI (methM (fun c => ([(3, (1, r_Editor_hits))] : List (Nat × (Nat × RunD))).lookup c) 22 (varM 0) nilA) [some (.ref i), none] G = .ok (.seq (.lst ((hitsP s.w e.now.1).map fun p => .int (p : Nat))), ((hitsP s.w e.now.1).map fun p => U.int (p : Nat)).length) G := by
    unfold seqI
    rw [hh]
    simp [seqOf, lstOf]
  have hc := comp_seqF (mu := false) (g := nameG 1) (t := tobM (bin2 (cmpU fun i j => decide (j ≤ i)) (varM 1) (bin2 idxU (At0 3 15 (varM 0)) (litM (.int 1))))) (e := varM 1) (own := [1]) (s := [some (.ref i), none]) (h := fun z => z)
    (p := fun z => match z with | .int (.ofNat k) => decide (e.now.2.1 ≤ k) | _ => false) hit rfl fun z hz => by
    obtain ⟨k, hk, rfl⟩ := List.mem_map.mp hz
    refine ⟨[some (.ref i), some (.int (k : Nat))], rfl, ?_, fun _ => rfl⟩
    have A := ed_at h (sg := [some (.ref i), some (.int (k : Nat))]) (a := 0) rfl
    refine tob_bl ?_
    rw [bin2_p (x := .int (k : Nat)) rfl (now_at A.2.1).2.1]
    simp only [cmpU]
    congr 2
    exact decide_eq_decide.mpr (by omega)
  have ef : (((hitsP s.w e.now.1).map fun p => U.int (p : Nat)).filter fun z => match z with | .int (.ofNat k) => decide (e.now.2.1 ≤ k) | _ => false) = ((hitsP s.w e.now.1).filter fun p => decide (e.now.2.1 ≤ p)).map fun p => U.int (p : Nat) := by
    rw [List.filter_map]
    rfl
  have hlen : ((hitsP s.w e.now.1).filter fun p => decide (e.now.2.1 ≤ p)).length ≤ szL := by
    refine Nat.le_trans (List.length_filter_le _ _) ?_
    unfold hitsP
    refine Nat.le_trans (List.length_filter_le _ _) ?_
    have := hI.tl
    simp
    unfold szL
    omega
  rw [List.map_id', ef, newL_f (by rw [List.length_map]; exact hlen)] at hc
  have hch := choose_ok h (ps := (hitsP s.w e.now.1).filter fun p => decide (e.now.2.1 ≤ p))
  rw [next_head h2 hI.c] at hch
  have hm := (meth_eval (mas := consA _ nilA) (mt := fun c => ([(3, (2, r_Editor_choose))] : List (Nat × (Nat × RunD))).lookup c) (km := 23) (mo := varM 0) (s := [some (.ref i), none]) (c := 3) (l := edL s e pj fj) (n := 2) (r := r_Editor_choose) (us := [.lst (((hitsP s.w e.now.1).filter fun p => decide (e.now.2.1 ≤ p)).map fun p => .int (p : Nat))]) (var_ok rfl) (by simp only [insOf, h.ins]) rfl rfl (consA_p hc (q := nilA) rfl)).trans hch
  show runR (stE _ rtM _ G) = _
  unfold nextE
  cases eq : (placeS s.w (e.now.1.drop e.now.2.1)).map (· + e.now.2.1) with
  | none =>
    rw [eq] at hm
    rw [show stE _ rtM [some (.ref i), none] G = _ from stE_rt hm]
    rfl
  | some p =>
    rw [eq] at hm
    rw [show stE _ rtM [some (.ref i), none] G = _ from stE_rt hm]
    rfl
/-- a deed noted -/
def deedE (e : Ed) (t : W1) (c : Nat) : Ed := ⟨(t, c, none), e.past ++ [e.now], []⟩
theorem deed_ok (h : EdAt G i pj fj s e) (hz : e.past.length < 1000000) {t : W1} {c : Nat} : ∃ G', r_Editor_deed [.ref i, .str t, .int (c : Nat)] G = .ok .non G' ∧ EdAt G' i pj G.length s (deedE e t c) ∧ Fr G G' [i, pj, fj] := by
  have hli := (List.getElem?_eq_some_iff.mp h.ins).1
  have hlp := (List.getElem?_eq_some_iff.mp h.past).1
  have hlf := (List.getElem?_eq_some_iff.mp h.fut).1
  have A := ed_at h (sg := [some (.ref i), some (.str t), some (.int (c : Nat))]) (a := 0) rfl
  -- the past
  have e1 : stE (bmM appendU (At0 3 16 (varM 0)) (consA (At0 3 15 (varM 0)) nilA)) (fun _ => nxM) [some (.ref i), some (.str t), some (.int (c : Nat))] G = .nx [some (.ref i), some (.str t), some (.int (c : Nat))] (G.set pj (Ob.lst ((e.past ++ [e.now]).map nowU))) := by
    refine (app_ok A.2.2.1 h.past A.2.1 (by rw [List.length_map]; unfold szL; omega)).trans ?_
    rw [List.map_append]
    rfl
  have h1 : EdAt (G.set pj (Ob.lst ((e.past ++ [e.now]).map nowU))) i pj fj s { e with past := e.past ++ [e.now] } :=
    ⟨by rw [List.getElem?_set_ne (Ne.symm h.ip)]; exact h.ins, List.getElem?_set_self hlp, by rw [List.getElem?_set_ne h.pf]; exact h.fut, h.ip, h.jf, h.pf⟩
  have f1 : Fr G (G.set pj (Ob.lst ((e.past ++ [e.now]).map nowU))) [i, pj, fj] := (Fr.set (G := G) (i := pj)).mono (by simp)
  have l1 : (G.set pj (Ob.lst ((e.past ++ [e.now]).map nowU))).length = G.length := List.length_set
  generalize G.set pj (Ob.lst ((e.past ++ [e.now]).map nowU)) = G1 at e1 h1 f1 l1
  -- the future
  have e2 : stE2 (lstM true nilA) (varM 0) (Fl0 3 17) [some (.ref i), some (.str t), some (.int (c : Nat))] G1 = .nx [some (.ref i), some (.str t), some (.int (c : Nat))] ((G1 ++ [Ob.lst []]).set i (.ins 3 (edL s { e with past := e.past ++ [e.now] } pj G.length))) := by
    have hl : lstM true nilA [some (.ref i), some (.str t), some (.int (c : Nat))] G1 = .ok (.ref G.length) (G1 ++ [Ob.lst []]) := by
      unfold lstM nilA
      rw [← l1]
      exact newL_t (by simp [szL])
    exact (stE2_ok hl (var_ok (u := .ref i) rfl)).trans ((fl_set (c := 3) (l := edL s { e with past := e.past ++ [e.now] } pj fj) rfl (by rw [List.getElem?_append_left (by omega)]; exact h1.ins) (by simp [edL])).trans rfl)
  have h2 : EdAt ((G1 ++ [Ob.lst []]).set i (.ins 3 (edL s { e with past := e.past ++ [e.now] } pj G.length))) i pj G.length s { e with past := e.past ++ [e.now], fut := [] } :=
    ⟨List.getElem?_set_self (by simp; omega), by rw [List.getElem?_set_ne h.ip, List.getElem?_append_left (by omega)]; exact h1.past, by rw [List.getElem?_set_ne (by omega), List.getElem?_append_right (by omega), l1]; simp, h.ip, by omega, by omega⟩
  have f2 : Fr G ((G1 ++ [Ob.lst []]).set i (.ins 3 (edL s { e with past := e.past ++ [e.now] } pj G.length))) [i, pj, fj] := (f1.trans (Fr.app (G := G1)) (by simp)).trans Fr.set (by simp)
  generalize (G1 ++ [Ob.lst []]).set i (.ins 3 (edL s { e with past := e.past ++ [e.now] } pj G.length)) = G2 at e2 h2 f2
  have e3 := now_set h2 (n := (t, c, none)) (a := 0) (sg := [some (.ref i), some (.str t), some (.int (c : Nat))]) (G0 := G2) (mv := tupM (consA (varM 1) (consA (varM 2) (consA (litM .non) nilA)))) rfl (tup_3 rfl rfl rfl)
  have h3 := h2.upd (n := (t, c, none))
  refine ⟨_, ?_, h3, f2.trans Fr.set (by simp)⟩
  unfold r_Editor_deed
  have hs : startS d_Editor_deed.N [.ref i, .str t, .int (c : Nat)] = [some (.ref i), some (.str t), some (.int (c : Nat))] := rfl
  rw [hs]
  exact (congrArg runR ((seqM_nx e1).trans ((seqM_nx e2).trans e3))).trans rfl
theorem need_none (h : EdAt G i pj fj s e) (hn : e.now.2.2 = none) : r_Editor_need_chosen [.ref i] G = .exc ⟨7, []⟩ G := by
  unfold r_Editor_need_chosen
  have hs : startS d_Editor_need_chosen.N [.ref i] = [some (.ref i)] := rfl
  rw [hs]
  unfold m_Editor_need_chosen
  have N := now_at (ed_at h (sg := [some (.ref i)]) (a := 0) rfl).2.1
  have ht : tobM (bin2 (isU false) (bin2 idxU (At0 3 15 (varM 0)) (litM (.int 2))) (litM .non)) [some (.ref i)] G = .ok true G := by
    refine tob_bl ?_
    rw [bin2_p N.2.2 (y := .non) rfl, hn]
    rfl
  show runR (seqM (ifM _ _ _) _ _ G) = _
  unfold seqM
  rw [ifM_t ht]
  rfl
theorem need_some (h : EdAt G i pj fj s e) {p : Nat} (hn : e.now.2.2 = some p) : r_Editor_need_chosen [.ref i] G = .ok (.int (p : Nat)) G := by
  unfold r_Editor_need_chosen
  have hs : startS d_Editor_need_chosen.N [.ref i] = [some (.ref i)] := rfl
  rw [hs]
  unfold m_Editor_need_chosen
  have N := now_at (ed_at h (sg := [some (.ref i)]) (a := 0) rfl).2.1
  rw [hn] at N
  have ht : tobM (bin2 (isU false) (bin2 idxU (At0 3 15 (varM 0)) (litM (.int 2))) (litM .non)) [some (.ref i)] G = .ok false G := by
    refine tob_bl ?_
    rw [bin2_p N.2.2 (y := .non) rfl]
    rfl
  rw [show seqM (ifM (tobM (bin2 (isU false) (bin2 idxU (At0 3 15 (varM 0)) (litM (.int 2))) (litM .non))) (raise0M 7) nxM) _ [some (.ref i)] G = _ from seqM_if ht]
  rw [show stE _ rtM [some (.ref i)] G = _ from stE_rt N.2.2]
  rfl
end
end FL

namespace FL
open PySem L2 PyProof.Rows
theorem stE_x {m : ME} {f : U → MS} {s : Sg} {G G1 : List Ob} {x : Exn} (h : m s G = .exc x G1) : stE m f s G = .exc x s G1 := by unfold stE; rw [h]
theorem seqM_x {a b : MS} {s s1 : Sg} {G G1 : List Ob} {x : Exn} (h : a s G = .exc x s1 G1) : seqM a b s G = .exc x s1 G1 := by unfold seqM; rw [h]
theorem add_tup {sg : Sg} {G : List Ob} {m1 m2 : ME} {G1 G2 : List Ob} {a b : List U} (h1 : m1 sg G = .ok (.tup a) G1) (h2 : m2 sg G1 = .ok (.tup b) G2) (hl : a.length + b.length ≤ 1000) : bin2 (addU false) m1 m2 sg G = .ok (.tup (a ++ b)) G2 := by
  rw [bin2_ok h1 h2]
  exact if_pos (Nat.le_trans hl (by decide))
def keptE (s : Dr) (e : Ed) (p : Nat) : Ed := deedE e e.now.1 (p + (if s.k = wOne then 1 else s.w.length))
def replE (s : Dr) (e : Ed) (p : Nat) : Ed := deedE e (e.now.1.take p ++ s.p ++ e.now.1.drop (p + s.w.length)) (p + turnP s s.p.length)
def undoE (e : Ed) : Bool × Ed := match e.past.getLast? with
  | none => (false, e)
  | some x => (true, ⟨x, e.past.dropLast, e.fut ++ [(e.now.1, e.now.2.1, none)]⟩)
def redoE (e : Ed) : Bool × Ed := match e.fut.getLast? with
  | none => (false, e)
  | some x => (true, ⟨x, e.past ++ [e.now], e.fut.dropLast⟩)
section
variable {G : List Ob} {i pj fj : Nat} {s : Dr} {e : Ed} {sg : Sg} {a : Nat}
theorem deedM_ok (h : EdAt G i pj fj s e) (hz : e.past.length < 1000000) {t : W1} {c : Nat} {mt mc : ME} (hs : sg[0]? = some (some (.ref i))) (ht : mt sg G = .ok (.str t) G) (hc : mc sg G = .ok (.int (c : Nat)) G) :
    ∃ G', stE (methM (fun c => ([(3, (3, r_Editor_deed))] : List (Nat × (Nat × RunD))).lookup c) 25 (varM 0) (consA mt (consA mc nilA))) (fun _ => nxM) sg G = .nx sg G' ∧ EdAt G' i pj G.length s (deedE e t c) ∧ Fr G G' [i, pj, fj] := by
  obtain ⟨G', q1, q2, q3⟩ := deed_ok h hz (t := t) (c := c)
  refine ⟨G', ?_, q2, q3⟩
  have hm := (meth_eval (mt := fun c => ([(3, (3, r_Editor_deed))] : List (Nat × (Nat × RunD))).lookup c) (km := 25) (mo := varM 0) (s := sg) (mas := consA mt (consA mc nilA)) (c := 3) (l := edL s e pj fj) (n := 3) (r := r_Editor_deed) (us := [.str t, .int (c : Nat)]) (var_ok hs) (by simp only [insOf, h.ins]) rfl rfl (consA_p ht (consA_p hc rfl))).trans q1
  unfold stE
  rw [hm]
  rfl
theorem needM (h : EdAt G i pj fj s e) (hs : sg[0]? = some (some (.ref i))) : methM (fun c => ([(3, (1, r_Editor_need_chosen))] : List (Nat × (Nat × RunD))).lookup c) 26 (varM 0) nilA sg G = match e.now.2.2 with
    | none => .exc ⟨7, []⟩ G
    | some p => .ok (.int (p : Nat)) G := by
  refine (meth_eval (c := 3) (l := edL s e pj fj) (n := 1) (r := r_Editor_need_chosen) (us := []) (var_ok hs) (by simp only [insOf, h.ins]) rfl rfl rfl).trans ?_
  cases hn : e.now.2.2 with
  | none => exact need_none h hn
  | some p => exact need_some h hn
theorem keep_none (h : EdAt G i pj fj s e) (hn : e.now.2.2 = none) : r_Editor_keep_hit [.ref i] G = .exc ⟨7, []⟩ G := by
  unfold r_Editor_keep_hit
  have hs : startS d_Editor_keep_hit.N [.ref i] = [some (.ref i), none] := rfl
  rw [hs]
  have q := needM h (sg := [some (.ref i), none]) rfl
  rw [hn] at q
  exact congrArg runR (seqM_x (stE_x q))
theorem repl_none (h : EdAt G i pj fj s e) (hn : e.now.2.2 = none) : r_Editor_replace_hit [.ref i] G = .exc ⟨7, []⟩ G := by
  unfold r_Editor_replace_hit
  have hs : startS d_Editor_replace_hit.N [.ref i] = [some (.ref i), none, none, none, none] := rfl
  rw [hs]
  have q := needM h (sg := [some (.ref i), none, none, none, none]) rfl
  rw [hn] at q
  exact congrArg runR (seqM_x (stE_x q))
theorem keep_some (h : EdAt G i pj fj s e) (ho : okd s = true) (hz : e.past.length < 1000000) {p : Nat} (hn : e.now.2.2 = some p) : ∃ G', r_Editor_keep_hit [.ref i] G = .ok .non G' ∧ EdAt G' i pj G.length s (keptE s e p) ∧ Fr G G' [i, pj, fj] := by
  obtain ⟨h1, h2, h3, h4, h5, h6, h7, h8, h9, h10⟩ := okd_parts ho
  have okk : okC s.k = true := inW_ok (by decide) h6
  unfold r_Editor_keep_hit
  have hs : startS d_Editor_keep_hit.N [.ref i] = [some (.ref i), none] := rfl
  rw [hs]
  have q := needM h (sg := [some (.ref i), none]) rfl
  rw [hn] at q
  have A := ed_at h (sg := [some (.ref i), some (.int (p : Nat))]) (a := 0) rfl
  have S := st_at A.1
  have ht := tob_str (neg := false) (et := fun c => d_Editor_keep_hit.eqt.lookup c) (b := litM (.str (Str.ofString "one").cps.toList)) (y := wOne) S.2.2.1 (by simp [litM, wOne]) okk (by decide)
  have hi : iteM (tobM (bin2 (eqX false (fun c => d_Editor_keep_hit.eqt.lookup c)) (At0 0 2 (At2 (varM 0))) (litM (.str (Str.ofString "one").cps.toList)))) (litM (.int 1)) (preM lenU (consA (At0 0 0 (At2 (varM 0))) nilA)) [some (.ref i), some (.int (p : Nat))] G = .ok (.int ((if s.k = wOne then 1 else s.w.length : Nat) : Int)) G := by
    unfold iteM
    rw [ht]
    by_cases hk : s.k = wOne
    · simp [hk, litM]
    · have : (s.k == wOne) = false := by simpa using hk
      simp only [Bool.false_eq_true, if_false, this, bind_ok, if_neg hk]
      exact len_str S.1 (by unfold szL; omega)
  obtain ⟨G', r1, r2, r3⟩ := deedM_ok h hz (sg := [some (.ref i), some (.int (p : Nat))]) (t := e.now.1) (c := p + (if s.k = wOne then 1 else s.w.length)) rfl (now_at A.2.1).1 (add_int (x := (p : Nat)) (m1 := varM 1) rfl hi (by omega))
  exact ⟨G', (congrArg runR ((seqM_set q).trans r1)).trans rfl, r2, r3⟩
theorem repl_some (h : EdAt G i pj fj s e) (ho : okd s = true) (hz : e.past.length < 1000000) (hI : e.now.1.length ≤ 1000000) {p : Nat} (hn : e.now.2.2 = some p) : ∃ G' fj', r_Editor_replace_hit [.ref i] G = .ok .non G' ∧ EdAt G' i pj fj' s (replE s e p) ∧ Fr G G' [i, pj, fj] ∧ G.length ≤ fj' := by
  obtain ⟨h1, h2, h3, h4, h5, h6, h7, h8, h9, h10⟩ := okd_parts ho
  have hli := (List.getElem?_eq_some_iff.mp h.ins).1
  have hlp := (List.getElem?_eq_some_iff.mp h.past).1
  have hlf := (List.getElem?_eq_some_iff.mp h.fut).1
  unfold r_Editor_replace_hit
  have hs : startS d_Editor_replace_hit.N [.ref i] = [some (.ref i), none, none, none, none] := rfl
  rw [hs]
  have q := needM h (sg := [some (.ref i), none, none, none, none]) rfl
  rw [hn] at q
  have A1 := ed_at h (sg := [some (.ref i), some (.int (p : Nat)), none, none, none]) (a := 0) rfl
  have A2 := ed_at h (sg := [some (.ref i), some (.int (p : Nat)), some (.str e.now.1), none, none]) (a := 0) rfl
  have sm := scan_made A2.1
  have hf := Fr.app (G := G) (g := [Ob.ins 2 (scL s sc0 (G.length + 1) (G.length + 2)), .lst [], .lst []])
  have hsc : (G ++ [Ob.ins 2 (scL s sc0 (G.length + 1) (G.length + 2)), .lst [], .lst []])[G.length]? = some (.ins 2 (scL s sc0 (G.length + 1) (G.length + 2))) := by
    rw [List.getElem?_append_right (Nat.le_refl _)]; simp
  have hlen : (G ++ [Ob.ins 2 (scL s sc0 (G.length + 1) (G.length + 2)), .lst [], .lst []]).length = G.length + 3 := by simp
  generalize G ++ [Ob.ins 2 (scL s sc0 (G.length + 1) (G.length + 2)), .lst [], .lst []] = G1 at sm hf hsc hlen
  have h1' := h.fr hf (by simp) (by simp) (by simp)
  have A3 := ed_at h1' (sg := [some (.ref i), some (.int (p : Nat)), some (.str e.now.1), some (.ref G.length), none]) (a := 0) rfl
  have S3 := st_at A3.1
  have ht : methM (fun c => ([(2, (2, r_Scan_turned))] : List (Nat × (Nat × RunD))).lookup c) 31 (varM 3) (consA (preM lenU (consA (At0 0 1 (At2 (varM 0))) nilA)) nilA) [some (.ref i), some (.int (p : Nat)), some (.str e.now.1), some (.ref G.length), none] G1 = .ok (.int (turnP s s.p.length : Nat)) G1 :=
    (meth_eval (mas := consA _ nilA) (c := 2) (l := scL s sc0 (G.length + 1) (G.length + 2)) (n := 2) (r := r_Scan_turned) (us := [.int (s.p.length : Nat)]) (var_ok rfl) (by simp only [insOf, hsc]) rfl rfl (consA_p (len_str S3.2.1 (by unfold szL; omega)) rfl)).trans (turned_ok hsc ho)
  have hc : bin2 (addU false) (varM 1) (methM (fun c => ([(2, (2, r_Scan_turned))] : List (Nat × (Nat × RunD))).lookup c) 31 (varM 3) (consA (preM lenU (consA (At0 0 1 (At2 (varM 0))) nilA)) nilA)) [some (.ref i), some (.int (p : Nat)), some (.str e.now.1), some (.ref G.length), none] G1 = .ok (.int ((p + turnP s s.p.length : Nat) : Int)) G1 := add_int (x := (p : Nat)) rfl ht (by omega)
  have A4 := ed_at h1' (sg := [some (.ref i), some (.int (p : Nat)), some (.str e.now.1), some (.ref G.length), some (.int ((p + turnP s s.p.length : Nat) : Int))]) (a := 0) rfl
  have S4 := st_at A4.1
  have hx : bin2 (addU false) (bin2 (addU false) (slM false (varM 2) noneO (someO (varM 1))) (At0 0 1 (At2 (varM 0)))) (slM false (varM 2) (someO (bin2 (addU false) (varM 1) (preM lenU (consA (At0 0 0 (At2 (varM 0))) nilA)))) noneO) [some (.ref i), some (.int (p : Nat)), some (.str e.now.1), some (.ref G.length), some (.int ((p + turnP s s.p.length : Nat) : Int))] G1 = .ok (.str (e.now.1.take p ++ s.p ++ e.now.1.drop (p + s.w.length))) G1 := by
    have s1 : slM false (varM 2) noneO (someO (varM 1)) [some (.ref i), some (.int (p : Nat)), some (.str e.now.1), some (.ref G.length), some (.int ((p + turnP s s.p.length : Nat) : Int))] G1 = .ok (.str (e.now.1.take p)) G1 := by
      unfold slM
      rw [var_ok (u := .str e.now.1) rfl]
      simp only [bind_ok, noneO]
      rw [someO_ok (z := (p : Int)) rfl]
      simp only [bind_ok, slU]
      rw [if_pos (by unfold szL; omega), cut_to]
    have s2 : slM false (varM 2) (someO (bin2 (addU false) (varM 1) (preM lenU (consA (At0 0 0 (At2 (varM 0))) nilA)))) noneO [some (.ref i), some (.int (p : Nat)), some (.str e.now.1), some (.ref G.length), some (.int ((p + turnP s s.p.length : Nat) : Int))] G1 = .ok (.str (e.now.1.drop (p + s.w.length))) G1 := by
      have o2 := someO_ok (add_int (x := (p : Nat)) (m1 := varM 1) (y := s.w.length) (z := ((p + s.w.length : Nat) : Int)) (s := [some (.ref i), some (.int (p : Nat)), some (.str e.now.1), some (.ref G.length), some (.int ((p + turnP s s.p.length : Nat) : Int))]) (G := G1) rfl (len_str S4.1 (by unfold szL; omega)) (by omega))
      unfold slM
      rw [var_ok (u := .str e.now.1) rfl]
      simp only [bind_ok, noneO, o2, slU]
      rw [if_pos (by unfold szL; omega), cut_from]
    rw [bin2_p (x := .str (e.now.1.take p ++ s.p)) (by
      rw [bin2_p s1 S4.2.1]
      simp only [addU]
      exact if_pos (by rw [List.length_take]; unfold szL; omega)) s2]
    simp only [addU]
    exact if_pos (by rw [List.length_append, List.length_take, List.length_drop]; unfold szL; omega)
  obtain ⟨G', r1, r2, r3⟩ := deedM_ok h1' hz (sg := [some (.ref i), some (.int (p : Nat)), some (.str e.now.1), some (.ref G.length), some (.int ((p + turnP s s.p.length : Nat) : Int))]) (t := e.now.1.take p ++ s.p ++ e.now.1.drop (p + s.w.length)) (c := p + turnP s s.p.length) (mc := varM 4) rfl hx rfl
  refine ⟨G', G1.length, ?_, r2, (hf.mono (S2 := [i, pj, fj]) (by simp)).trans r3 (by simp), by omega⟩
  exact (congrArg runR ((seqM_set q).trans ((seqM_set (s := [some (.ref i), some (.int (p : Nat)), none, none, none]) (now_at A1.2.1).1).trans ((seqM_set (s := [some (.ref i), some (.int (p : Nat)), some (.str e.now.1), none, none]) sm).trans ((seqM_set (s := [some (.ref i), some (.int (p : Nat)), some (.str e.now.1), some (.ref G.length), none]) hc).trans r1))))).trans rfl
theorem pop_last {l : List U} {k : Nat} {m : ME} (hm : m sg G = .ok (.ref k) G) (hk : G[k]? = some (.lst l)) {y : U} (hy : l.getLast? = some y) : bm0M popU m sg G = .ok y (G.set k (.lst l.dropLast)) := by
  unfold bm0M
  rw [hm]
  simp only [bind_ok, lstOfW, hk, popU]
  rw [List.getLast?_eq_getElem?] at hy
  rw [hy]
theorem len_ref {l : List U} {k : Nat} {m : ME} (hm : m sg G = .ok (.ref k) G) (hk : G[k]? = some (.lst l)) : preM lenU (consA m nilA) sg G = .ok (.int (l.length : Nat)) G := by
  rw [pre_one hm]
  simp only [lenU, seqOf, lstOf, hk]
theorem getLast_map {l : List Now} : (l.map nowU).getLast? = l.getLast?.map nowU := by rw [List.getLast?_map]
theorem undo_ok (h : EdAt G i pj fj s e) (hz : e.fut.length < 1000000) : ∃ G', r_Editor_undo [.ref i] G = .ok (.bl (undoE e).1) G' ∧ EdAt G' i pj fj s (undoE e).2 ∧ Fr G G' [i, pj, fj] := by
  have hli := (List.getElem?_eq_some_iff.mp h.ins).1
  have hlp := (List.getElem?_eq_some_iff.mp h.past).1
  have hlf := (List.getElem?_eq_some_iff.mp h.fut).1
  unfold r_Editor_undo
  have hs : startS d_Editor_undo.N [.ref i] = [some (.ref i)] := rfl
  rw [hs]
  have A := ed_at h (sg := [some (.ref i)]) (a := 0) rfl
  have hl := len_ref A.2.2.1 h.past
  rw [List.length_map] at hl
  have ht : tobM (bin2 (eqX false (fun c => d_Editor_undo.eqt.lookup c)) (preM lenU (consA (At0 3 16 (varM 0)) nilA)) (litM (.int 0))) [some (.ref i)] G = .ok (((e.past.length : Nat) : Int) == 0) G := by
    refine tob_bl ?_
    rw [bin2_p hl (y := .int 0) rfl]
    exact eqX_int
  unfold undoE
  cases hg : e.past.getLast? with
  | none =>
    have hp : e.past = [] := List.getLast?_eq_none_iff.mp hg
    rw [hp] at ht
    have ht := ht.trans (show _ = Rs.ok true G from rfl)
    exact ⟨G, congrArg runR (seqM_ift ht (stE_rt rfl)), h, Fr.refl⟩
  | some x =>
    have hp : 0 < e.past.length := by
      cases hq : e.past with
      | nil => rw [hq] at hg; cases hg
      | cons a r => simp
    have ht := ht.trans (show _ = Rs.ok false G by
      congr 1
      rw [beq_eq_false_iff_ne]
      omega)
    have N := now_at A.2.1
    have sl : slM false (At0 3 15 (varM 0)) noneO (someO (litM (.int 2))) [some (.ref i)] G = .ok (.tup [.str e.now.1, .int (e.now.2.1 : Nat)]) G := by
      unfold slM
      rw [A.2.1]
      simp only [bind_ok, noneO]
      rw [someO_ok (z := 2) rfl]
      simp only [bind_ok, slU, nowU]
      exact congrArg (fun z => Rs.ok (U.tup z) G) (cut_to (a := 2))
    have tn : tupM (consA (litM .non) nilA) [some (.ref i)] G = .ok (.tup [.non]) G := by
      unfold tupM
      rw [consA_p (x := .non) rfl rfl]
      exact newT_ok' (by simp [szL])
    have hb : bin2 (addU false) (slM false (At0 3 15 (varM 0)) noneO (someO (litM (.int 2)))) (tupM (consA (litM .non) nilA)) [some (.ref i)] G = .ok (nowU (e.now.1, e.now.2.1, none)) G := by
      exact add_tup sl tn (by simp)
    have e1 := app_ok A.2.2.2 h.fut hb (by rw [List.length_map]; unfold szL; omega)
    have h1 : EdAt (G.set fj (.lst ((e.fut ++ [(e.now.1, e.now.2.1, none)]).map nowU))) i pj fj s { e with fut := e.fut ++ [(e.now.1, e.now.2.1, none)] } :=
      ⟨by rw [List.getElem?_set_ne (Ne.symm h.jf)]; exact h.ins, by rw [List.getElem?_set_ne (Ne.symm h.pf)]; exact h.past, List.getElem?_set_self hlf, h.ip, h.jf, h.pf⟩
    have f1 : Fr G (G.set fj (.lst ((e.fut ++ [(e.now.1, e.now.2.1, none)]).map nowU))) [i, pj, fj] := (Fr.set (G := G) (i := fj)).mono (by simp)
    have e1' : stE (bmM appendU (At0 3 17 (varM 0)) (consA (bin2 (addU false) (slM false (At0 3 15 (varM 0)) noneO (someO (litM (.int 2)))) (tupM (consA (litM .non) nilA))) nilA)) (fun _ => nxM) [some (.ref i)] G = .nx [some (.ref i)] (G.set fj (.lst ((e.fut ++ [(e.now.1, e.now.2.1, none)]).map nowU))) := by
      rw [List.map_append]
      exact e1
    generalize G.set fj (Ob.lst ((e.fut ++ [(e.now.1, e.now.2.1, none)]).map nowU)) = G1 at e1' h1 f1
    have A1 := ed_at h1 (sg := [some (.ref i)]) (a := 0) rfl
    have pp := pop_last A1.2.2.1 h1.past (y := nowU x) (by rw [getLast_map, hg]; rfl)
    have h2 : EdAt (G1.set pj (.lst (e.past.map nowU).dropLast)) i pj fj s { e with past := e.past.dropLast, fut := e.fut ++ [(e.now.1, e.now.2.1, none)] } :=
      ⟨by rw [List.getElem?_set_ne (Ne.symm h.ip)]; exact h1.ins, by rw [List.getElem?_set_self (List.getElem?_eq_some_iff.mp h1.past).1, List.map_dropLast], by rw [List.getElem?_set_ne h.pf]; exact h1.fut, h.ip, h.jf, h.pf⟩
    have f2 : Fr G (G1.set pj (.lst (e.past.map nowU).dropLast)) [i, pj, fj] := f1.trans Fr.set (by simp)
    have e2 := now_set h2 (n := x) (a := 0) (sg := [some (.ref i)]) (G0 := G1) rfl pp
    have h3 := h2.upd (n := x)
    exact ⟨_, (congrArg runR ((seqM_if ht).trans ((seqM_nx e1').trans ((seqM_nx e2).trans (stE_rt (u := .bl true) rfl))))).trans rfl, h3, f2.trans Fr.set (by simp)⟩
theorem redo_ok (h : EdAt G i pj fj s e) (hz : e.past.length < 1000000) : ∃ G', r_Editor_redo [.ref i] G = .ok (.bl (redoE e).1) G' ∧ EdAt G' i pj fj s (redoE e).2 ∧ Fr G G' [i, pj, fj] := by
  have hli := (List.getElem?_eq_some_iff.mp h.ins).1
  have hlp := (List.getElem?_eq_some_iff.mp h.past).1
  have hlf := (List.getElem?_eq_some_iff.mp h.fut).1
  unfold r_Editor_redo
  have hs : startS d_Editor_redo.N [.ref i] = [some (.ref i)] := rfl
  rw [hs]
  have A := ed_at h (sg := [some (.ref i)]) (a := 0) rfl
  have hl := len_ref A.2.2.2 h.fut
  rw [List.length_map] at hl
  have ht : tobM (bin2 (eqX false (fun c => d_Editor_redo.eqt.lookup c)) (preM lenU (consA (At0 3 17 (varM 0)) nilA)) (litM (.int 0))) [some (.ref i)] G = .ok (((e.fut.length : Nat) : Int) == 0) G := by
    refine tob_bl ?_
    rw [bin2_p hl (y := .int 0) rfl]
    exact eqX_int
  unfold redoE
  cases hg : e.fut.getLast? with
  | none =>
    have hp : e.fut = [] := List.getLast?_eq_none_iff.mp hg
    rw [hp] at ht
    have ht := ht.trans (show _ = Rs.ok true G from rfl)
    exact ⟨G, congrArg runR (seqM_ift ht (stE_rt rfl)), h, Fr.refl⟩
  | some x =>
    have hp : 0 < e.fut.length := by
      cases hq : e.fut with
      | nil => rw [hq] at hg; cases hg
      | cons a r => simp
    have ht := ht.trans (show _ = Rs.ok false G by
      congr 1
      rw [beq_eq_false_iff_ne]
      omega)
    have e1 := app_ok A.2.2.1 h.past A.2.1 (by rw [List.length_map]; unfold szL; omega)
    have h1 : EdAt (G.set pj (.lst ((e.past ++ [e.now]).map nowU))) i pj fj s { e with past := e.past ++ [e.now] } :=
      ⟨by rw [List.getElem?_set_ne (Ne.symm h.ip)]; exact h.ins, List.getElem?_set_self hlp, by rw [List.getElem?_set_ne h.pf]; exact h.fut, h.ip, h.jf, h.pf⟩
    have f1 : Fr G (G.set pj (.lst ((e.past ++ [e.now]).map nowU))) [i, pj, fj] := (Fr.set (G := G) (i := pj)).mono (by simp)
    have e1' : stE (bmM appendU (At0 3 16 (varM 0)) (consA (At0 3 15 (varM 0)) nilA)) (fun _ => nxM) [some (.ref i)] G = .nx [some (.ref i)] (G.set pj (.lst ((e.past ++ [e.now]).map nowU))) := by
      rw [List.map_append]
      exact e1
    generalize G.set pj (Ob.lst ((e.past ++ [e.now]).map nowU)) = G1 at e1' h1 f1
    have A1 := ed_at h1 (sg := [some (.ref i)]) (a := 0) rfl
    have pp := pop_last A1.2.2.2 h1.fut (y := nowU x) (by rw [getLast_map, hg]; rfl)
    have h2 : EdAt (G1.set fj (.lst (e.fut.map nowU).dropLast)) i pj fj s { e with past := e.past ++ [e.now], fut := e.fut.dropLast } :=
      ⟨by rw [List.getElem?_set_ne (Ne.symm h.jf)]; exact h1.ins, by rw [List.getElem?_set_ne (Ne.symm h.pf)]; exact h1.past, by rw [List.getElem?_set_self (List.getElem?_eq_some_iff.mp h1.fut).1, List.map_dropLast], h.ip, h.jf, h.pf⟩
    have f2 : Fr G (G1.set fj (.lst (e.fut.map nowU).dropLast)) [i, pj, fj] := f1.trans Fr.set (by simp)
    have e2 := now_set h2 (n := x) (a := 0) (sg := [some (.ref i)]) (G0 := G1) rfl pp
    have h3 := h2.upd (n := x)
    exact ⟨_, (congrArg runR ((seqM_if ht).trans ((seqM_nx e1').trans ((seqM_nx e2).trans (stE_rt (u := .bl true) rfl))))).trans rfl, h3, f2.trans Fr.set (by simp)⟩
end
end FL

namespace FL
open PySem L2 PyProof.Rows
structure NowI (B : Nat) (s : Dr) (x : Now) : Prop where
  t : isT x.1 = true
  tl : x.1.length ≤ B
  c : x.2.1 ≤ x.1.length
  ch : ∀ p, x.2.2 = some p → p + s.w.length ≤ x.1.length
structure EdJ (B : Nat) (s : Dr) (e : Ed) : Prop where
  now : NowI B s e.now
  past : ∀ x ∈ e.past, NowI B s x
  fut : ∀ x ∈ e.fut, NowI B s x
  pl : e.past.length ≤ B
  fl : e.fut.length ≤ B
theorem NowI.more {B B' : Nat} {s : Dr} {x : Now} (h : NowI B s x) (hb : B ≤ B') : NowI B' s x := ⟨h.t, Nat.le_trans h.tl hb, h.c, h.ch⟩
theorem EdJ.i {B : Nat} {s : Dr} {e : Ed} (h : EdJ B s e) : EdI B e := ⟨h.now.t, h.now.tl, h.now.c, h.pl, h.fl⟩
theorem EdI.more {B B' : Nat} {e : Ed} (h : EdI B e) (hb : B ≤ B') : EdI B' e := ⟨h.t, Nat.le_trans h.tl hb, h.c, Nat.le_trans h.p hb, Nat.le_trans h.f hb⟩
def chosenE (s : Dr) (e : Ed) : Ed := match nextE s e with
  | none => e
  | some p => { e with now := (e.now.1, e.now.2.1, some p) }
def toldE (s : Dr) (e : Ed) (w : W1) : U × Ed :=
  if w = wNext then (orgU (nextE s e), chosenE s e)
  else if w = wKeep then (match e.now.2.2 with | none => (.str wNoth, e) | some p => (.non, keptE s e p))
  else if w = wRep then (match e.now.2.2 with | none => (.str wNoth, e) | some p => (.non, replE s e p))
  else if w = wUndo then (.bl (undoE e).1, (undoE e).2)
  else (.bl (redoE e).1, (redoE e).2)
def actL : List W1 := [wNext, wKeep, wRep, wUndo, wRedo]
def playedE (s : Dr) : Ed → List W1 → List U × Ed
  | e, [] => ([], e)
  | e, w :: r => ((toldE s e w).1 :: (playedE s (toldE s e w).2 r).1, (playedE s (toldE s e w).2 r).2)
section
variable {s : Dr} {e : Ed} {B : Nat}
theorem next_val (h : EdJ B s e) {p : Nat} (hn : nextE s e = some p) : p + s.w.length ≤ e.now.1.length ∧ e.now.2.1 ≤ p := by
  unfold nextE at hn
  obtain ⟨q, hq, rfl⟩ := Option.map_eq_some_iff.mp hn
  have := (placeS_some hq).1
  have := h.now.c
  rw [List.length_drop] at *
  exact ⟨by omega, by omega⟩
theorem chosen_J (h : EdJ B s e) : EdJ B s (chosenE s e) := by
  unfold chosenE
  cases hn : nextE s e with
  | none => exact h
  | some p => exact ⟨⟨h.now.t, h.now.tl, h.now.c, fun q hq => by cases hq; exact (next_val h hn).1⟩, h.past, h.fut, h.pl, h.fl⟩
theorem deed_J (h : EdJ B s e) {t : W1} {c : Nat} (ht : isT t = true) (htl : t.length ≤ B + 3) (hc : c ≤ t.length) : EdJ (B + 3) s (deedE e t c) := by
  refine ⟨⟨ht, htl, hc, fun p hp => by cases hp⟩, fun x hx => ?_, (fun x hx => by cases hx), ?_, Nat.zero_le _⟩
  · rcases List.mem_append.mp hx with hx | hx
    · exact (h.past x hx).more (by omega)
    · rw [List.mem_singleton] at hx
      rw [hx]
      exact h.now.more (by omega)
  · show (e.past ++ [e.now]).length ≤ _
    have := h.pl
    simp
    omega
theorem EdJ.more {B' : Nat} (h : EdJ B s e) (hb : B ≤ B') : EdJ B' s e := ⟨h.now.more hb, fun x hx => (h.past x hx).more hb, fun x hx => (h.fut x hx).more hb, Nat.le_trans h.pl hb, Nat.le_trans h.fl hb⟩
theorem told_J (ho : okd s = true) (h : EdJ B s e) (w : W1) : EdJ (B + 3) s (toldE s e w).2 := by
  obtain ⟨h1, h2, h3, h4, h5, h6, h7, h8, h9, h10⟩ := okd_parts ho
  have hTp : turnP s s.p.length ≤ s.p.length := by unfold turnP; split <;> (try split) <;> omega
  unfold toldE
  split
  · exact (chosen_J h).more (by omega)
  · split
    · cases hn : e.now.2.2 with
      | none => exact h.more (by omega)
      | some p =>
        have hp := h.now.ch p hn
        exact deed_J h h.now.t (by have := h.now.tl; omega) (by split <;> omega)
    · split
      · cases hn : e.now.2.2 with
        | none => exact h.more (by omega)
        | some p =>
          have hp := h.now.ch p hn
          have hl : (e.now.1.take p ++ s.p ++ e.now.1.drop (p + s.w.length)).length + s.w.length = e.now.1.length + s.p.length := by
            rw [List.length_append, List.length_append, List.length_take, List.length_drop]; omega
          have := h.now.tl
          exact deed_J h (by rw [isT_app, isT_app, isT_take h.now.t, h4, isT_drop h.now.t]; rfl) (by omega) (by omega)
      · split
        · unfold undoE
          cases hg : e.past.getLast? with
          | none => exact h.more (by omega)
          | some x =>
            have hx := List.mem_of_getLast? hg
            refine ⟨(h.past x hx).more (by omega), fun y hy => (h.past y (List.dropLast_subset _ hy)).more (by omega), fun y hy => ?_, ?_, ?_⟩
            · rcases List.mem_append.mp hy with hy | hy
              · exact (h.fut y hy).more (by omega)
              · rw [List.mem_singleton] at hy
                rw [hy]
                exact ⟨h.now.t, by have := h.now.tl; show e.now.1.length ≤ _; omega, h.now.c, fun p hp => by cases hp⟩
            · show e.past.dropLast.length ≤ _
              have := h.pl
              rw [List.length_dropLast]; omega
            · show (e.fut ++ _).length ≤ _
              have := h.fl
              simp; omega
        · unfold redoE
          cases hg : e.fut.getLast? with
          | none => exact h.more (by omega)
          | some x =>
            have hx := List.mem_of_getLast? hg
            refine ⟨(h.fut x hx).more (by omega), fun y hy => ?_, fun y hy => (h.fut y (List.dropLast_subset _ hy)).more (by omega), ?_, ?_⟩
            · rcases List.mem_append.mp hy with hy | hy
              · exact (h.past y hy).more (by omega)
              · rw [List.mem_singleton] at hy
                rw [hy]
                exact h.now.more (by omega)
            · show (e.past ++ _).length ≤ _
              have := h.pl
              simp; omega
            · show e.fut.dropLast.length ≤ _
              have := h.fl
              rw [List.length_dropLast]; omega
end
section
variable {G : List Ob} {i pj fj : Nat} {s : Dr} {e : Ed} {sg : Sg} {a : Nat}
theorem word_t {w : W1} {q : Str} {y : W1} {u : U} (hw : okC w = true) (hy : okC y = true) (hq : q.cps.toList = y) : tobM (bin2 (eqX false (fun c => d_done_word.eqt.lookup c)) (varM 1) (litM (.str q.cps.toList))) [some u, some (.str w)] G = .ok (w == y) G := by
  refine (tob_str (neg := false) (x := w) (y := y) rfl (by rw [hq]; rfl) hw hy).trans ?_
  simp
theorem mth1 {r : RunD} {k : Nat} (h : EdAt G i pj fj s e) (hk : (edL s e pj fj).lookup k = none) (hs : sg[0]? = some (some (.ref i))) : methM (fun c => ([(3, (1, r))] : List (Nat × (Nat × RunD))).lookup c) k (varM 0) nilA sg G = r [.ref i] G :=
  (meth_eval (c := 3) (l := edL s e pj fj) (n := 1) (r := r) (us := []) (var_ok hs) (by simp only [insOf, h.ins]) rfl hk rfl).trans rfl
/-- what a word does -/
def Does (G : List Ob) (i pj fj : Nat) (s : Dr) (e' : Ed) (u : U) (r : Rs U) : Prop := ∃ G' fj', r = .ok u G' ∧ EdAt G' i pj fj' s e' ∧ Fr G G' [i, pj, fj] ∧ (fj' = fj ∨ G.length ≤ fj')
theorem next_does (h : EdAt G i pj fj s e) (ho : okd s = true) (hI : EdI 1000000 e) : Does G i pj fj s (chosenE s e) (orgU (nextE s e)) (r_Editor_next [.ref i] G) := by
  rw [next_ok h ho hI]
  unfold chosenE
  cases hn : nextE s e with
  | none => exact ⟨G, fj, rfl, h, Fr.refl, .inl rfl⟩
  | some p => exact ⟨_, fj, rfl, h.upd, (Fr.set (G := G) (i := i)).mono (by simp), .inl rfl⟩
theorem done_rt {w : W1} {m : MS} {u : U} {G' : List Ob} (h : m [some (.ref i), some (.str w)] G = .rt u G') (hm : m = m_done_word) : r_done_word [.ref i, .str w] G = .ok u G' := by
  unfold r_done_word
  have hs : startS d_done_word.N [.ref i, .str w] = [some (.ref i), some (.str w)] := rfl
  rw [hs, ← hm, h]
  rfl
theorem done_x {w : W1} {m : MS} {x : Exn} {s1 : Sg} {G' : List Ob} (h : m [some (.ref i), some (.str w)] G = .exc x s1 G') (hm : m = m_done_word) : r_done_word [.ref i, .str w] G = .exc x G' := by
  unfold r_done_word
  have hs : startS d_done_word.N [.ref i, .str w] = [some (.ref i), some (.str w)] := rfl
  rw [hs, ← hm, h]
  rfl
abbrev dwT (q : Str) : MT := tobM (bin2 (eqX false (fun c => d_done_word.eqt.lookup c)) (varM 1) (litM (.str q.cps.toList)))
abbrev dwM (k : Nat) (r : RunD) : ME := methM (fun c => ([(3, (1, r))] : List (Nat × (Nat × RunD))).lookup c) k (varM 0) nilA
theorem done_m : m_done_word = seqM (ifM (dwT "next") (stE (dwM 24 r_Editor_next) rtM) nxM) (seqM (ifM (dwT "round") (stE badE rtM) nxM) (seqM (ifM (dwT "back") (stE badE rtM) nxM) (seqM (ifM (dwT "keep") (stE (dwM 27 r_Editor_keep_hit) rtM) nxM) (seqM (ifM (dwT "replace") (stE (dwM 28 r_Editor_replace_hit) rtM) nxM) (seqM (ifM (dwT "rest") (stE badE rtM) nxM) (stE (iteM (dwT "undo") (dwM 29 r_Editor_undo) (dwM 30 r_Editor_redo)) rtM)))))) := rfl
theorem done_ok (h : EdAt G i pj fj s e) (ho : okd s = true) {B : Nat} (hJ : EdJ B s e) (hB : B < 1000000) {w : W1} (hw : w ∈ actL) :
    Does G i pj fj s (toldE s e w).2 (toldE s e w).1 (r_done_word [.ref i, .str w] G) ∨ (r_done_word [.ref i, .str w] G = .exc ⟨7, []⟩ G ∧ toldE s e w = (.str wNoth, e)) := by
  have hI := hJ.i.more (show B ≤ 1000000 by omega)
  have hpl : e.past.length < 1000000 := by have := hJ.pl; omega
  have hfl : e.fut.length < 1000000 := by have := hJ.fl; omega
  have okw : okC w = true := by
    simp only [actL, List.mem_cons, List.not_mem_nil, or_false] at hw
    rcases hw with q | q | q | q | q <;> subst q <;> decide
  have T : ∀ (q : Str) (y : W1), okC y = true → q.cps.toList = y → dwT q [some (.ref i), some (.str w)] G = .ok (w == y) G := fun q y hy hq => word_t okw hy hq
  have t1 := T "next" wNext (by decide) (by decide +kernel)
  have t2 := T "round" wRound (by decide) (by decide +kernel)
  have t3 := T "back" wBack (by decide) (by decide +kernel)
  have t4 := T "keep" wKeep (by decide) (by decide +kernel)
  have t5 := T "replace" wRep (by decide) (by decide +kernel)
  have t6 := T "rest" wRest (by decide) (by decide +kernel)
  have t7 := T "undo" wUndo (by decide) (by decide +kernel)
  have M : ∀ (k : Nat) (r : RunD), (edL s e pj fj).lookup k = none → dwM k r [some (.ref i), some (.str w)] G = r [.ref i] G := fun k r hk => mth1 h hk rfl
  clear T
  simp only [actL, List.mem_cons, List.not_mem_nil, or_false] at hw
  rcases hw with q | q | q | q | q <;> subst q
  · left
    obtain ⟨G', fj', q1, q2, q3, q4⟩ := next_does h ho hI
    have t1 := t1.trans (show _ = Rs.ok true G by congr 1)
    exact ⟨G', fj', done_rt (seqM_ift t1 (stE_rt ((M 24 r_Editor_next rfl).trans q1))) done_m.symm, q2, q3, q4⟩
  · have t1 := t1.trans (show _ = Rs.ok false G by congr 1)
    have t2 := t2.trans (show _ = Rs.ok false G by congr 1)
    have t3 := t3.trans (show _ = Rs.ok false G by congr 1)
    have t4 := t4.trans (show _ = Rs.ok true G by congr 1)
    have et : toldE s e wKeep = (match e.now.2.2 with | none => (.str wNoth, e) | some p => (.non, keptE s e p)) := rfl
    cases hn : e.now.2.2 with
    | none =>
      right
      refine ⟨?_, by rw [et, hn]⟩
      refine done_x (s1 := [some (.ref i), some (.str wKeep)]) ?_ done_m.symm
      exact (seqM_if t1).trans ((seqM_if t2).trans ((seqM_if t3).trans (seqM_x ((ifM_t t4).trans (stE_x ((M 27 r_Editor_keep_hit rfl).trans (keep_none h hn)))))))
    | some p =>
      left
      obtain ⟨G', q1, q2, q3⟩ := keep_some h ho hpl hn
      rw [et, hn]
      exact ⟨G', G.length, done_rt ((seqM_if t1).trans ((seqM_if t2).trans ((seqM_if t3).trans (seqM_ift t4 (stE_rt ((M 27 r_Editor_keep_hit rfl).trans q1)))))) done_m.symm, q2, q3, .inr (Nat.le_refl _)⟩
  · have t1 := t1.trans (show _ = Rs.ok false G by congr 1)
    have t2 := t2.trans (show _ = Rs.ok false G by congr 1)
    have t3 := t3.trans (show _ = Rs.ok false G by congr 1)
    have t4 := t4.trans (show _ = Rs.ok false G by congr 1)
    have t5 := t5.trans (show _ = Rs.ok true G by congr 1)
    have et : toldE s e wRep = (match e.now.2.2 with | none => (.str wNoth, e) | some p => (.non, replE s e p)) := rfl
    cases hn : e.now.2.2 with
    | none =>
      right
      refine ⟨?_, by rw [et, hn]⟩
      refine done_x (s1 := [some (.ref i), some (.str wRep)]) ?_ done_m.symm
      exact (seqM_if t1).trans ((seqM_if t2).trans ((seqM_if t3).trans ((seqM_if t4).trans (seqM_x ((ifM_t t5).trans (stE_x ((M 28 r_Editor_replace_hit rfl).trans (repl_none h hn))))))))
    | some p =>
      left
      obtain ⟨G', fj', q1, q2, q3, q4⟩ := repl_some h ho hpl hI.tl hn
      rw [et, hn]
      exact ⟨G', fj', done_rt ((seqM_if t1).trans ((seqM_if t2).trans ((seqM_if t3).trans ((seqM_if t4).trans (seqM_ift t5 (stE_rt ((M 28 r_Editor_replace_hit rfl).trans q1))))))) done_m.symm, q2, q3, .inr q4⟩
  · left
    have t1 := t1.trans (show _ = Rs.ok false G by congr 1)
    have t2 := t2.trans (show _ = Rs.ok false G by congr 1)
    have t3 := t3.trans (show _ = Rs.ok false G by congr 1)
    have t4 := t4.trans (show _ = Rs.ok false G by congr 1)
    have t5 := t5.trans (show _ = Rs.ok false G by congr 1)
    have t6 := t6.trans (show _ = Rs.ok false G by congr 1)
    have t7 := t7.trans (show _ = Rs.ok true G by congr 1)
    obtain ⟨G', q1, q2, q3⟩ := undo_ok h hfl
    have hi : iteM (dwT "undo") (dwM 29 r_Editor_undo) (dwM 30 r_Editor_redo) [some (.ref i), some (.str wUndo)] G = .ok (.bl (undoE e).1) G' := by
      unfold iteM
      rw [t7]
      exact (M 29 r_Editor_undo rfl).trans q1
    exact ⟨G', fj, done_rt ((seqM_if t1).trans ((seqM_if t2).trans ((seqM_if t3).trans ((seqM_if t4).trans ((seqM_if t5).trans ((seqM_if t6).trans (stE_rt hi))))))) done_m.symm, q2, q3, .inl rfl⟩
  · left
    have t1 := t1.trans (show _ = Rs.ok false G by congr 1)
    have t2 := t2.trans (show _ = Rs.ok false G by congr 1)
    have t3 := t3.trans (show _ = Rs.ok false G by congr 1)
    have t4 := t4.trans (show _ = Rs.ok false G by congr 1)
    have t5 := t5.trans (show _ = Rs.ok false G by congr 1)
    have t6 := t6.trans (show _ = Rs.ok false G by congr 1)
    have t7 := t7.trans (show _ = Rs.ok false G by congr 1)
    obtain ⟨G', q1, q2, q3⟩ := redo_ok h hpl
    have hi : iteM (dwT "undo") (dwM 29 r_Editor_undo) (dwM 30 r_Editor_redo) [some (.ref i), some (.str wRedo)] G = .ok (.bl (redoE e).1) G' := by
      unfold iteM
      rw [t7]
      exact (M 30 r_Editor_redo rfl).trans q1
    exact ⟨G', fj, done_rt ((seqM_if t1).trans ((seqM_if t2).trans ((seqM_if t3).trans ((seqM_if t4).trans ((seqM_if t5).trans ((seqM_if t6).trans (stE_rt hi))))))) done_m.symm, q2, q3, .inl rfl⟩
theorem told_ok (h : EdAt G i pj fj s e) (ho : okd s = true) {B : Nat} (hJ : EdJ B s e) (hB : B < 1000000) {w : W1} (hw : w ∈ actL) : Does G i pj fj s (toldE s e w).2 (toldE s e w).1 (r_told_word [.ref i, .str w] G) := by
  unfold r_told_word
  have hs : startS d_told_word.N [.ref i, .str w] = [some (.ref i), some (.str w)] := rfl
  rw [hs]
  have hc : callM 2 r_done_word (consA (varM 0) (consA (varM 1) nilA)) [some (.ref i), some (.str w)] G = r_done_word [.ref i, .str w] G := call2 (G1 := G) rfl rfl
  rcases done_ok h ho hJ hB hw with ⟨G', fj', q1, q2, q3, q4⟩ | ⟨q1, q2⟩
  · refine ⟨G', fj', ?_, q2, q3, q4⟩
    unfold m_told_word tryM
    rw [show stE (callM 2 r_done_word (consA (varM 0) (consA (varM 1) nilA))) rtM [some (.ref i), some (.str w)] G = _ from stE_rt (hc.trans q1)]
    rfl
  · rw [q2]
    refine ⟨G, fj, ?_, h, Fr.refl, .inl rfl⟩
    unfold m_told_word tryM
    rw [show stE (callM 2 r_done_word (consA (varM 0) (consA (varM 1) nilA))) rtM [some (.ref i), some (.str w)] G = _ from stE_x (hc.trans q1)]
    simp only [hdM, exs, List.lookup]
    show runR (quiet (retX (litX (.str (Str.ofString "NothingChosen").cps.toList)) _ _ _)) = _
    simp [retX, litX, quiet, runR, wNoth]
end
end FL

namespace FL
open PySem L2 PyProof.Rows
def okW : U → Bool
  | .str a => inW wordsL a
  | _ => false
def flW : U → Bool
  | .str _ => true
  | .non => true
  | .int _ => true
  | _ => false
theorem words_eq : c_WORDS = .tup (wordsL.map .str) := by simp [c_WORDS, wordsL, wNext, wRound, wBack, wKeep, wRep, wRest, wUndo, wRedo]
theorem one_of (u : U) (h : flW u = true) (G : List Ob) : r_is_one_of [u, c_WORDS] G = .ok (.bl (okW u)) G := by
  rw [words_eq]
  unfold flW at h
  split at h
  · simp only [r_is_one_of, strsOf_map, okW]
  · rfl
  · rfl
  · cases h
abbrev chB : MS := ifM (notT (tobM (callM 2 r_is_one_of (consA (varM 3) (consA (litM c_WORDS) nilA))))) (stE (varM 2) (raiseM 9 21)) nxM
theorem played_m : m_played = seqM (forM (enI (varM 1)) (tupG 2 (consG (nameG 2) (consG (nameG 3) nilG))) chB) (stE (compM false (seqI (varM 1)) (nameG 3) yesT (callM 2 r_told_word (consA (varM 0) (consA (varM 3) nilA))) [3]) rtM) := rfl
section
variable {G : List Ob} {i pj fj : Nat} {s : Dr} {e : Ed} {us : List U}
theorem chk_loop (hf : ∀ u ∈ us, flW u = true) : ∀ (n k : Nat) {x2 x3 : Option U}, k + n = us.length → match (us.drop k).findIdx? fun u => !okW u with
    | none => ∃ y2 y3, forL (.items (enL us)) (tupG 2 (consG (nameG 2) (consG (nameG 3) nilG))) chB n k [some (.ref i), some (.lst us), x2, x3] G = .nx [some (.ref i), some (.lst us), y2, y3] G
    | some j => ∃ s', forL (.items (enL us)) (tupG 2 (consG (nameG 2) (consG (nameG 3) nilG))) chB n k [some (.ref i), some (.lst us), x2, x3] G = .exc ⟨9, [(21, .int ((k + j : Nat) : Int))]⟩ s' G
  | 0, k, x2, x3, h => by
    rw [List.drop_eq_nil_of_le (by omega)]
    refine ⟨x2, x3, ?_⟩
    have : (enL us)[k]? = none := by rw [enL_get, List.getElem?_eq_none_iff.mpr (by omega)]; rfl
    unfold forL
    simp only [itAt, this]
  | n + 1, k, x2, x3, h => by
    have hk : k < us.length := by omega
    have hg : (enL us)[k]? = some (.tup [.int (k : Nat), us[k]]) := by rw [enL_get, List.getElem?_eq_getElem hk]; rfl
    have hu := hf _ (List.getElem_mem hk)
    rw [List.drop_eq_getElem_cons hk, List.findIdx?_cons]
    generalize us[k] = u at hg hu ⊢
    have hn : tupG 2 (consG (nameG 2) (consG (nameG 3) nilG)) (.tup [.int (k : Nat), u]) [some (.ref i), some (.lst us), x2, x3] = some [some (.ref i), some (.lst us), some (.int (k : Nat)), some u] := rfl
    have ht : notT (tobM (callM 2 r_is_one_of (consA (varM 3) (consA (litM c_WORDS) nilA)))) [some (.ref i), some (.lst us), some (.int (k : Nat)), some u] G = .ok (!okW u) G := notT_p (tob_bl ((call2 (G1 := G) (u := u) (u' := c_WORDS) rfl rfl).trans (one_of u hu G)))
    cases ho : okW u with
    | false =>
      rw [ho] at ht
      simp only [Bool.not_false, if_true]
      refine ⟨[some (.ref i), some (.lst us), some (.int (k : Nat)), some u], ?_⟩
      have hB : chB [some (.ref i), some (.lst us), some (.int (k : Nat)), some u] G = .exc ⟨9, [(21, .int (k : Nat))]⟩ [some (.ref i), some (.lst us), some (.int (k : Nat)), some u] G := (ifM_t ht).trans rfl
      unfold forL
      simp only [itAt, hg, hn, hB]
      rfl
    | true =>
      rw [ho] at ht
      simp only [Bool.not_true, Bool.false_eq_true, if_false]
      have hB : chB [some (.ref i), some (.lst us), some (.int (k : Nat)), some u] G = .nx [some (.ref i), some (.lst us), some (.int (k : Nat)), some u] G := ifM_fn ht
      have hgo : forL (.items (enL us)) (tupG 2 (consG (nameG 2) (consG (nameG 3) nilG))) chB (n + 1) k [some (.ref i), some (.lst us), x2, x3] G = forL (.items (enL us)) (tupG 2 (consG (nameG 2) (consG (nameG 3) nilG))) chB n (k + 1) [some (.ref i), some (.lst us), some (.int (k : Nat)), some u] G := by
        rw [forL]
        simp only [itAt, hg, hn, hB]
      rw [hgo]
      have ih := chk_loop hf n (k + 1) (x2 := some (.int (k : Nat))) (x3 := some u) (by omega)
      cases hq : (us.drop (k + 1)).findIdx? fun u => !okW u with
      | none => rw [hq] at ih; exact ih
      | some j =>
        rw [hq] at ih
        simp only [Option.map_some]
        rw [show k + (j + 1) = k + 1 + j by omega]
        exact ih
theorem told_loop (ho : okd s = true) {b : Itb} {s0 : Sg} (h0 : s0[0]? = some (some (.ref i))) (h3 : 3 < s0.length) : ∀ (ws : List W1) (k : Nat) {G : List Ob} {fj : Nat} {e : Ed} {B : Nat}, (∀ G j, itAt b G (k + j) = some (ws.map U.str)[j]?) → EdAt G i pj fj s e → EdJ B s e → B + 3 * ws.length < 1000000 → (∀ w ∈ ws, w ∈ actL) →
    ∃ G' fj', compL b (nameG 3) yesT (callM 2 r_told_word (consA (varM 0) (consA (varM 3) nilA))) s0 ws.length k G = some ((playedE s e ws).1, G') ∧ EdAt G' i pj fj' s (playedE s e ws).2 ∧ Fr G G' [i, pj, fj] ∧ (fj' = fj ∨ G.length ≤ fj') ∧ EdJ (B + 3 * ws.length) s (playedE s e ws).2
  | [], k, G, fj, e, B, hb, h, hJ, hB, hw => by
    refine ⟨G, fj, ?_, h, Fr.refl, .inl rfl, hJ⟩
    have := hb G 0
    rw [Nat.add_zero] at this
    show compL b _ _ _ s0 0 k G = _
    unfold compL
    simp only [this]
    rfl
  | w :: r, k, G, fj, e, B, hb, h, hJ, hB, hw => by
    simp only [List.length_cons] at hB
    obtain ⟨G1, fj1, q1, q2, q3, q4⟩ := told_ok h ho hJ (by omega) (hw w (.head _))
    have hJ1 := told_J ho hJ w
    obtain ⟨G2, fj2, r1, r2, r3, r4, r5⟩ := told_loop ho (b := b) h0 h3 r (k + 1) (fun G j => by
      have := hb G (j + 1)
      rw [show k + 1 + j = k + (j + 1) by omega]
      exact this) q2 hJ1 (by omega) (fun w hm => hw w (.tail _ hm))
    have hli := (List.getElem?_eq_some_iff.mp h.ins).1
    have hlp := (List.getElem?_eq_some_iff.mp h.past).1
    have hlf := (List.getElem?_eq_some_iff.mp h.fut).1
    refine ⟨G2, fj2, ?_, r2, q3.trans r3 (fun k hk => ?_), ?_, ?_⟩
    · have hb0 := hb G 0
      rw [Nat.add_zero] at hb0
      have hc : callM 2 r_told_word (consA (varM 0) (consA (varM 3) nilA)) (s0.set 3 (some (.str w))) G = .ok (toldE s e w).1 G1 := (call2 (G1 := G) (G2 := G) (u := .ref i) (u' := .str w) (var_ok (by rw [List.getElem?_set_ne (by omega)]; exact h0)) (var_set h3)).trans q1
      show compL b _ _ _ s0 (r.length + 1) k G = _
      unfold compL
      simp only [hb0, List.map_cons, List.getElem?_cons_zero, nameG, yesT, hc, r1]
      rfl
    · simp at hk
      rcases hk with q | q | q
      · exact .inl (by simp [q])
      · exact .inl (by simp [q])
      · rcases q4 with z | z
        · exact .inl (by simp [q, z])
        · exact .inr (by omega)
    · rcases r4 with z | z
      · rw [z]; exact q4
      · exact .inr (Nat.le_trans q3.len z)
    · rw [List.length_cons, show B + 3 * (r.length + 1) = B + 3 + 3 * r.length by omega]
      exact r5
theorem act_ok {w : W1} (h : w ∈ actL) : inW wordsL w = true := by
  simp only [actL, List.mem_cons, List.not_mem_nil, or_false] at h
  rcases h with q | q | q | q | q <;> subst q <;> decide
theorem played_len {s : Dr} : ∀ {e : Ed} {ws : List W1}, (playedE s e ws).1.length = ws.length
  | _, [] => rfl
  | e, w :: r => by
    show ((toldE s e w).1 :: (playedE s (toldE s e w).2 r).1).length = _
    rw [List.length_cons, played_len, List.length_cons]
/-- played -/
theorem played_ok (h : EdAt G i pj fj s e) (ho : okd s = true) {B : Nat} (hJ : EdJ B s e) {ws : List W1} (hB : B + 3 * ws.length < 1000000) (hw : ∀ w ∈ ws, w ∈ actL) :
    ∃ G' fj', r_played [.ref i, .lst (ws.map .str)] G = .ok (.lst (playedE s e ws).1) G' ∧ EdAt G' i pj fj' s (playedE s e ws).2 ∧ Fr G G' [i, pj, fj] ∧ (fj' = fj ∨ G.length ≤ fj') ∧ EdJ (B + 3 * ws.length) s (playedE s e ws).2 := by
  have ck := chk_loop (G := G) (i := i) (us := ws.map .str) (fun u hu => by obtain ⟨w, hm, rfl⟩ := List.mem_map.mp hu; rfl) (ws.map U.str).length 0 (x2 := none) (x3 := none) (Nat.zero_add _)
  have hn : ((ws.map U.str).drop 0).findIdx? (fun u => !okW u) = none := by
    rw [List.drop_zero, List.findIdx?_eq_none_iff]
    intro u hu
    obtain ⟨w, hm, rfl⟩ := List.mem_map.mp hu
    show (!inW wordsL w) = false
    rw [act_ok (hw w hm)]
    rfl
  rw [hn] at ck
  obtain ⟨y2, y3, ck⟩ := ck
  obtain ⟨G', fj', q1, q2, q3, q4, q5⟩ := told_loop (i := i) (pj := pj) ho (b := .seq (.lst (ws.map .str))) (s0 := wipeS [some (.ref i), some (.lst (ws.map .str)), y2, y3] [3]) rfl (by simp [wipeS]) ws 0 (fun G j => by simp [itAt, seqOf, lstOf]) h hJ hB hw
  refine ⟨G', fj', ?_, q2, q3, q4, q5⟩
  unfold r_played
  have hs : startS d_played.N [.ref i, .lst (ws.map .str)] = [some (.ref i), some (.lst (ws.map .str)), none, none] := rfl
  rw [hs, played_m]
  have hen : enI (varM 1) [some (.ref i), some (.lst (ws.map U.str)), none, none] G = .ok (.items (enL (ws.map .str)), (ws.map U.str).length) G := rfl
  have hc : compM false (seqI (varM 1)) (nameG 3) yesT (callM 2 r_told_word (consA (varM 0) (consA (varM 3) nilA))) [3] [some (.ref i), some (.lst (ws.map .str)), y2, y3] G = .ok (.lst (playedE s e ws).1) G' := by
    have hit : seqI (varM 1) [some (.ref i), some (.lst (ws.map U.str)), y2, y3] G = .ok (.seq (.lst (ws.map .str)), ws.length) G := by
      simp [seqI, varM, seqOf, lstOf]
    unfold compM
    rw [hit]
    simp only [q1, compE]
    exact newL_f (by rw [played_len]; unfold szL; omega)
  exact (congrArg runR ((seqM_nx (forM_ok hen ck)).trans (stE_rt hc))).trans rfl
theorem played_bad {us : List U} (hf : ∀ u ∈ us, flW u = true) {j : Nat} (hj : us.findIdx? (fun u => !okW u) = some j) : r_played [.ref i, .lst us] G = .exc ⟨9, [(21, .int (j : Nat))]⟩ G := by
  have ck := chk_loop (G := G) (i := i) hf us.length 0 (x2 := none) (x3 := none) (Nat.zero_add _)
  rw [List.drop_zero, hj] at ck
  obtain ⟨s', ck⟩ := ck
  unfold r_played
  have hs : startS d_played.N [.ref i, .lst us] = [some (.ref i), some (.lst us), none, none] := rfl
  rw [hs, played_m]
  have hen : enI (varM 1) [some (.ref i), some (.lst us), none, none] G = .ok (.items (enL us), us.length) G := rfl
  rw [show seqM (forM (enI (varM 1)) (tupG 2 (consG (nameG 2) (consG (nameG 3) nilG))) chB) _ [some (.ref i), some (.lst us), none, none] G = _ from seqM_x (forM_ok hen ck), Nat.zero_add]
  rfl
theorem refused_ok {us : List U} (hf : ∀ u ∈ us, flW u = true) {j : Nat} (hj : us.findIdx? (fun u => !okW u) = some j) : r__law_refused [.ref i, .lst us] G = .ok (.int (j : Nat)) G := by
  unfold r__law_refused
  have hs : startS d__law_refused.N [.ref i, .lst us] = [some (.ref i), some (.lst us), none, none] := rfl
  rw [hs]
  unfold m__law_refused
  have hc : callM 2 r_played (consA (varM 0) (consA (varM 1) nilA)) [some (.ref i), some (.lst us), some .non, none] G = .exc ⟨9, [(21, .int (j : Nat))]⟩ G := (call2 (G1 := G) rfl rfl).trans (played_bad hf hj)
  have ht : tryM exs (stE (callM 2 r_played (consA (varM 0) (consA (varM 1) nilA))) (fun _ => nxM)) [⟨9, (some 3), (setX 2 (fldX 9 21))⟩] [some (.ref i), some (.lst us), some .non, none] G = .nx [some (.ref i), some (.lst us), some (.int (j : Nat)), none] G := by
    unfold tryM
    rw [show stE (callM 2 r_played (consA (varM 0) (consA (varM 1) nilA))) (fun _ => nxM) [some (.ref i), some (.lst us), some .non, none] G = _ from stE_x hc]
    have hx : exs.lookup (9, 9) = some true := by decide +kernel
    simp only [hdM, hx]
    simp [setX, fldX, offR, quiet, flatU]
  exact (congrArg runR ((seqM_set (u := .non) (G1 := G) rfl).trans ((seqM_nx (s := [some (.ref i), some (.lst us), some .non, none]) ht).trans (stE_rt (u := .int (j : Nat)) rfl)))).trans rfl
/-- an editor made -/
theorem ed_new {sg : Sg} {ms mt : ME} {t : W1} (hs : ms sg G = .ok (stU s) G) (ht : mt sg G = .ok (.str t) G) (hT : isT t = true) (hz : t.length ≤ 1000) : makeM 3 3 r_Editor_init (consA ms (consA mt nilA)) sg G = .ok (.ref G.length) (G ++ [.ins 3 (edL s ⟨(t, 0, none), [], []⟩ (G.length + 1) (G.length + 2)), .lst [], .lst []]) := by
  have e : r_Editor_init [.ref G.length, stU s, .str t] (G ++ [.ins 3 []]) = .ok .non (G ++ [.ins 3 (edL s ⟨(t, 0, none), [], []⟩ (G.length + 1) (G.length + 2)), .lst [], .lst []]) := by
    unfold r_Editor_init
    have hs : startS d_Editor_init.N [.ref G.length, stU s, .str t] = [some (.ref G.length), some (stU s), some (.str t)] := rfl
    rw [hs]
    unfold m_Editor_init
    have hn : stE (callM 1 r_need_text (consA (varM 2) nilA)) (fun _ => nxM) [some (.ref G.length), some (stU s), some (.str t)] (G ++ [.ins 3 []]) = .nx [some (.ref G.length), some (stU s), some (.str t)] (G ++ [.ins 3 []]) := by
      have hc : callM 1 r_need_text (consA (varM 2) nilA) [some (.ref G.length), some (stU s), some (.str t)] (G ++ [.ins 3 []]) = .ok .non (G ++ [.ins 3 []]) := by
        rw [call1 (u := .str t) (G1 := G ++ [.ins 3 []]) rfl]
        simp only [r_need_text]
        rw [if_pos (by unfold szL; omega), if_pos hT]
      unfold stE
      rw [hc]
      rfl
    have q1 := init_set (ok := fun c => ([2, 3] : List Nat).contains c) (c := 3) (G := G) (sg := [some (.ref G.length), some (stU s), some (.str t)]) (l := []) (r := []) (r' := []) (k := 6) (v := stU s) (mv := varM 1) rfl rfl (by simp) rfl
    have q2 := init_set (ok := fun c => ([3] : List Nat).contains c) (c := 3) (G := G) (sg := [some (.ref G.length), some (stU s), some (.str t)]) (l := putU 6 (stU s) []) (r := []) (r' := []) (k := 15) (v := nowU (t, 0, none)) (mv := tupM (consA (varM 2) (consA (litM (.int 0)) (consA (litM .non) nilA)))) rfl rfl (by simp [putU]) (tup_3 rfl rfl rfl)
    have q3 := init_set (ok := fun c => ([3] : List Nat).contains c) (c := 3) (G := G) (sg := [some (.ref G.length), some (stU s), some (.str t)]) (l := putU 15 (nowU (t, 0, none)) (putU 6 (stU s) [])) (r := []) (r' := [.lst []]) (k := 16) (v := .ref (G.length + 1)) (mv := lstM true nilA) rfl rfl (by simp [putU]) (by
      unfold lstM nilA
      refine (newL_t (by simp [szL])).trans ?_
      simp)
    have q4 := init_set (ok := fun c => ([3] : List Nat).contains c) (c := 3) (G := G) (sg := [some (.ref G.length), some (stU s), some (.str t)]) (l := putU 16 (.ref (G.length + 1)) (putU 15 (nowU (t, 0, none)) (putU 6 (stU s) []))) (r := [.lst []]) (r' := [.lst [], .lst []]) (k := 17) (v := .ref (G.length + 2)) (mv := lstM true nilA) rfl rfl (by simp [putU]) (by
      unfold lstM nilA
      refine (newL_t (by simp [szL])).trans ?_
      simp)
    exact (congrArg runR ((seqM_nx hn).trans ((seqM_nx q1).trans ((seqM_nx q2).trans ((seqM_nx q3).trans q4))))).trans rfl
  unfold makeM
  rw [consA_p hs (consA_p ht rfl)]
  simp only [bind_ok, madeU, arM]
  rw [if_pos (show [U.ref G.length, stU s, .str t].length = 3 from rfl), e]
  rfl
theorem ed_new_at {t : W1} : EdAt (G ++ [.ins 3 (edL s ⟨(t, 0, none), [], []⟩ (G.length + 1) (G.length + 2)), .lst [], .lst []]) G.length (G.length + 1) (G.length + 2) s ⟨(t, 0, none), [], []⟩ :=
  ⟨by rw [List.getElem?_append_right (Nat.le_refl _)]; simp, by rw [List.getElem?_append_right (by omega)]; simp, by rw [List.getElem?_append_right (by omega)]; simp, by omega, by omega, by omega⟩
end
end FL

namespace FL
/-! ### an editor led by the hits of a walk -/
def wordsM (m : MetL) : List W1 := m.flatMap fun e => if e.1 = wStop then [] else [wNext, e.1]
def dueM (m : MetL) : List U := m.flatMap fun e => if e.1 = wStop then [] else [.int (e.2.1 : Nat), .non]
theorem wordsM_app {a b : MetL} : wordsM (a ++ b) = wordsM a ++ wordsM b := by simp [wordsM]
theorem dueM_app {a b : MetL} : dueM (a ++ b) = dueM a ++ dueM b := by simp [dueM]
theorem played_cons {s : Dr} {e : Ed} {w : W1} {r : List W1} : playedE s e (w :: r) = ((toldE s e w).1 :: (playedE s (toldE s e w).2 r).1, (playedE s (toldE s e w).2 r).2) := rfl
structure Led (s : Dr) (e : Ed) (its : List It1) (new : MetL) : Prop where
  us : (playedE s e (wordsM new)).1 = dueM new
  now : (playedE s e (wordsM new)).2.now.1 = sgn its
  past : ∃ xs, (playedE s e (wordsM new)).2.past = e.past ++ xs ∧ 2 * xs.length = (wordsM new).length ∧ (∀ x r, xs = x :: r → x.1 = e.now.1)
  fut : e.fut = [] → (playedE s e (wordsM new)).2.fut = []
  acts : ∀ w ∈ wordsM new, w ∈ actL
theorem led_nil {s : Dr} {e : Ed} {its : List It1} {new : MetL} (hw : wordsM new = []) (hd : dueM new = []) (h : e.now.1 = sgn its) : Led s e its new := by
  refine ⟨?_, ?_, ?_, ?_, ?_⟩ <;> rw [hw]
  · rw [hd]; rfl
  · exact h
  · exact ⟨[], by simp [playedE], rfl, fun x r e => by cases e⟩
  · exact id
  · intro w hw; cases hw
theorem led_step {s : Dr} {e : Ed} {its : List It1} {d : W1} {pl : Nat} {hit : List It1} {new : MetL} {e2 : Ed} (hd : d = wKeep ∨ d = wRep) (h1 : nextE s e = some pl) (h2 : toldE s (chosenE s e) d = (.non, e2)) (hp : e2.past = e.past ++ [(e.now.1, e.now.2.1, some pl)]) (hf : e2.fut = [])
    (ih : Led s e2 its new) : Led s e its ((d, pl, hit) :: new) := by
  have hn : d ≠ wStop := by rcases hd with q | q <;> subst q <;> decide
  have ew : wordsM ((d, pl, hit) :: new) = wNext :: d :: wordsM new := by simp [wordsM, hn]
  have ed : dueM ((d, pl, hit) :: new) = .int (pl : Nat) :: .non :: dueM new := by simp [dueM, hn]
  have ep : playedE s e (wNext :: d :: wordsM new) = (.int (pl : Nat) :: .non :: (playedE s e2 (wordsM new)).1, (playedE s e2 (wordsM new)).2) := by
    have t1 : toldE s e wNext = (.int (pl : Nat), chosenE s e) := by
      show (orgU (nextE s e), chosenE s e) = _
      rw [h1]
      rfl
    rw [played_cons, t1, played_cons, h2]
  obtain ⟨xs, p1, p2, p3⟩ := ih.past
  refine ⟨?_, ?_, ?_, ?_, ?_⟩ <;> rw [ew]
  · rw [ep, ed, ih.us]
  · rw [ep]; exact ih.now
  · rw [ep]
    refine ⟨(e.now.1, e.now.2.1, some pl) :: xs, ?_, ?_, fun x r q => ?_⟩
    · rw [p1, hp]; simp
    · simp only [List.length_cons]; omega
    · cases q; rfl
  · intro _
    rw [ep]
    exact ih.fut hf
  · intro w hw
    rcases List.mem_cons.mp hw with q | hw
    · rw [q]; decide
    · rcases List.mem_cons.mp hw with q | hw
      · rw [q]; rcases hd with q | q <;> subst q <;> decide
      · exact ih.acts w hw
theorem led_walk {s : Dr} (hzs : okDs s.zs = true) (hw : 0 < s.w.length) : ∀ (f : Nat) {D A : List It1} {a : Nat} {met met' : MetL} {sn : Seen} {its : List It1}, a < s.zs.length → walkP s true f D A a met sn = some (some (its, met')) →
    ∃ new, met' = met ++ new ∧ ∀ e : Ed, e.now.1 = sgn (D ++ A) → e.now.2.1 = D.length → Led s e its new
  | 0, _, _, _, _, _, _, _, _, e => nomatch e
  | f + 1, D, A, a, met, met', sn, its, ha, e => by
    have hz0 : 0 < s.zs.length := by omega
    rw [walkP_succ] at e
    cases ep : placeO s.w A with
    | none =>
      rw [ep] at e
      cases e
      exact ⟨[], by simp, fun e h1 h2 => led_nil rfl rfl h1⟩
    | some p =>
      rw [ep] at e
      simp only at e
      have hp := placeO_len ep
      rw [placeO_S] at ep
      by_cases hd : s.zs.getD a [] = wStop
      · rw [if_pos hd] at e
        cases e
        exact ⟨_, rfl, fun e h1 h2 => led_nil (by show (if s.zs.getD a [] = wStop then [] else _) ++ [] = []; rw [if_pos hd]; rfl) (by show (if s.zs.getD a [] = wStop then [] else _) ++ [] = []; rw [if_pos hd]; rfl) h1⟩
      · rw [if_neg hd] at e
        have hnx : ∀ e : Ed, e.now.1 = sgn (D ++ A) → e.now.2.1 = D.length → nextE s e = some (D.length + p) := fun e h1 h2 => by
          unfold nextE
          rw [h1, h2, ← sgn_drop, List.drop_append, List.drop_length, List.nil_append, Nat.sub_self, List.drop_zero, ep]
          simp [Nat.add_comm]
        have hch : ∀ e : Ed, nextE s e = some (D.length + p) → chosenE s e = { e with now := (e.now.1, e.now.2.1, some (D.length + p)) } := fun e h => by
          unfold chosenE
          rw [h]
        by_cases hk : s.zs.getD a [] = wKeep
        · rw [if_pos hk] at e
          obtain ⟨new, e1, e2⟩ := led_walk hzs hw f (Nat.mod_lt _ hz0) e
          refine ⟨_ :: new, by rw [e1, List.append_assoc]; rfl, fun e h1 h2 => ?_⟩
          have hn := hnx e h1 h2
          have hk1 : p + (if s.k = wOne then 1 else s.w.length) ≤ A.length := by split <;> omega
          have eT : D ++ A = (D ++ A.take (p + (if s.k = wOne then 1 else s.w.length))) ++ A.drop (p + (if s.k = wOne then 1 else s.w.length)) := by rw [List.append_assoc, List.take_append_drop]
          have eL : D.length + p + (if s.k = wOne then 1 else s.w.length) = (D ++ A.take (p + (if s.k = wOne then 1 else s.w.length))).length := by
            rw [List.length_append, List.length_take, Nat.min_eq_left hk1]; omega
          rw [hk]
          refine led_step (e2 := keptE s { e with now := (e.now.1, e.now.2.1, some (D.length + p)) } (D.length + p)) (.inl rfl) hn ?_ rfl rfl ?_
          · rw [hch e hn]
            rfl
          · refine e2 _ ?_ eL
            show e.now.1 = _
            rw [← eT]
            exact h1
        · rw [if_neg hk] at e
          have hrep : s.zs.getD a [] = wRep := by
            have hin := List.all_eq_true.mp (show s.zs.all (inW deedsL) = true by
              simp only [okDs, Bool.and_eq_true] at hzs
              exact hzs.2) _ (List.getElem_mem ha)
            have hg : s.zs.getD a [] = s.zs[a] := by simp [List.getD, List.getElem?_eq_getElem ha]
            rw [← hg] at hin
            simp [inW, deedsL] at hin
            rcases hin with q | q | q
            · exact q.symm
            · exact absurd q.symm hk
            · exact absurd q.symm hd
          have hTp : turnP s s.p.length ≤ s.p.length := by unfold turnP; split <;> (try split) <;> omega
          generalize hA1 : A.take p ++ s.p.map (fun c => ((c, none) : It1)) ++ A.drop (p + s.w.length) = A1 at e
          have hA1l : A1.length + s.w.length = A.length + s.p.length := by rw [← hA1]; simp; omega
          have hkl : p + turnP s s.p.length ≤ A1.length := by omega
          split at e
          · cases e
          · obtain ⟨new, e1, e2⟩ := led_walk hzs hw f (Nat.mod_lt _ hz0) e
            refine ⟨_ :: new, by rw [e1, List.append_assoc]; rfl, fun e h1 h2 => ?_⟩
            have hn := hnx e h1 h2
            have eT : D ++ A1 = (D ++ A1.take (p + turnP s s.p.length)) ++ A1.drop (p + turnP s s.p.length) := by rw [List.append_assoc, List.take_append_drop]
            have eL : D.length + p + turnP s s.p.length = (D ++ A1.take (p + turnP s s.p.length)).length := by
              rw [List.length_append, List.length_take, Nat.min_eq_left hkl]; omega
            rw [hrep]
            refine led_step (e2 := replE s { e with now := (e.now.1, e.now.2.1, some (D.length + p)) } (D.length + p)) (.inr rfl) hn ?_ rfl rfl ?_
            · rw [hch e hn]
              rfl
            · refine e2 _ ?_ eL
              show e.now.1.take (D.length + p) ++ s.p ++ e.now.1.drop (D.length + p + s.w.length) = _
              have es : sgn (s.p.map fun c => ((c, none) : It1)) = s.p := by simp [sgn, Function.comp_def]
              rw [← eT, h1, ← hA1, sgn_app, sgn_app, sgn_app, sgn_app, es, ← sgn_app, ← sgn_take, ← sgn_drop]
              have t1 : (D ++ A).take (D.length + p) = D ++ A.take p := by
                rw [List.take_append, List.take_of_length_le (by omega), Nat.add_sub_cancel_left]
              have t2 : (D ++ A).drop (D.length + p + s.w.length) = A.drop (p + s.w.length) := by
                rw [Nat.add_assoc, List.drop_append, List.drop_eq_nil_of_le (by omega), List.nil_append, Nat.add_sub_cancel_left]
              rw [t1, t2, sgn_app]
              simp only [List.append_assoc]
/-! ### undo, redo -/
theorem told_undo {s : Dr} {e : Ed} : toldE s e wUndo = (.bl (undoE e).1, (undoE e).2) := rfl
theorem told_redo {s : Dr} {e : Ed} : toldE s e wRedo = (.bl (redoE e).1, (redoE e).2) := rfl
theorem undo_all {s : Dr} : ∀ (n : Nat) {e : Ed}, e.past.length = n → (playedE s e (List.replicate (n + 1) wUndo)).1 = List.replicate n (.bl true) ++ [.bl false] ∧ (playedE s e (List.replicate (n + 1) wUndo)).2.past = [] ∧
    (∀ x r, e.past = x :: r → (playedE s e (List.replicate (n + 1) wUndo)).2.now = x) ∧ (e.past = [] → (playedE s e (List.replicate (n + 1) wUndo)).2.now = e.now) ∧ (∃ ys, (playedE s e (List.replicate (n + 1) wUndo)).2.fut = e.fut ++ ys ∧ ys.length = n ∧ ∀ y r, ys = y :: r → y.1 = e.now.1)
  | 0, e, h => by
    have hp : e.past = [] := List.eq_nil_of_length_eq_zero h
    have hu : undoE e = (false, e) := by unfold undoE; rw [hp]; rfl
    have hq : playedE s e (List.replicate (0 + 1) wUndo) = ([.bl false], e) := by
      show ((toldE s e wUndo).1 :: (playedE s (toldE s e wUndo).2 []).1, (playedE s (toldE s e wUndo).2 []).2) = _
      rw [told_undo, hu]
      rfl
    rw [hq]
    refine ⟨rfl, hp, ?_, ?_, [], ?_, rfl, ?_⟩
    · intro x r q
      rw [hp] at q
      cases q
    · intro _; rfl
    · simp
    · intro y r q; cases q
  | n + 1, e, h => by
    cases hg : e.past.getLast? with
    | none => rw [List.getLast?_eq_none_iff] at hg; rw [hg] at h; cases h
    | some x =>
      have hu : undoE e = (true, ⟨x, e.past.dropLast, e.fut ++ [(e.now.1, e.now.2.1, none)]⟩) := by unfold undoE; rw [hg]
      have hd : e.past = e.past.dropLast ++ [x] := by
        obtain ⟨l, q⟩ := List.getLast?_eq_some_iff.mp hg
        rw [q]
        simp
      obtain ⟨i1, i2, i3, i4, ys, i5, i6, i7⟩ := undo_all (s := s) n (e := ⟨x, e.past.dropLast, e.fut ++ [(e.now.1, e.now.2.1, none)]⟩) (by show e.past.dropLast.length = n; rw [List.length_dropLast]; omega)
      have hq : playedE s e (List.replicate (n + 1 + 1) wUndo) = (.bl true :: (playedE s ⟨x, e.past.dropLast, e.fut ++ [(e.now.1, e.now.2.1, none)]⟩ (List.replicate (n + 1) wUndo)).1, (playedE s ⟨x, e.past.dropLast, e.fut ++ [(e.now.1, e.now.2.1, none)]⟩ (List.replicate (n + 1) wUndo)).2) := by
        rw [List.replicate_succ]
        show ((toldE s e wUndo).1 :: (playedE s (toldE s e wUndo).2 _).1, (playedE s (toldE s e wUndo).2 _).2) = _
        rw [told_undo, hu]
      rw [hq]
      refine ⟨?_, i2, fun y r q => ?_, fun q => ?_, (e.now.1, e.now.2.1, none) :: ys, ?_, ?_, fun y r q => ?_⟩
      · rw [i1, List.replicate_succ]; rfl
      · cases hb : e.past.dropLast with
        | nil =>
          rw [hb] at hd
          rw [q] at hd
          simp only [List.nil_append] at hd
          cases hd
          have := i4 hb
          rw [hb] at this
          exact this
        | cons z t =>
          rw [hb] at hd
          rw [q] at hd
          simp only [List.cons_append, List.cons.injEq] at hd
          rw [hd.1]
          have := i3 z t hb
          rw [hb] at this
          exact this
      · rw [q] at hg; cases hg
      · rw [i5]; simp
      · simp [i6]
      · cases q; rfl
theorem redo_all {s : Dr} : ∀ (n : Nat) {e : Ed}, e.fut.length = n → (playedE s e (List.replicate (n + 1) wRedo)).1 = List.replicate n (.bl true) ++ [.bl false] ∧
    (∀ x r, e.fut = x :: r → (playedE s e (List.replicate (n + 1) wRedo)).2.now = x) ∧ (e.fut = [] → (playedE s e (List.replicate (n + 1) wRedo)).2.now = e.now)
  | 0, e, h => by
    have hp : e.fut = [] := List.eq_nil_of_length_eq_zero h
    have hu : redoE e = (false, e) := by unfold redoE; rw [hp]; rfl
    have hq : playedE s e (List.replicate (0 + 1) wRedo) = ([.bl false], e) := by
      show ((toldE s e wRedo).1 :: (playedE s (toldE s e wRedo).2 []).1, (playedE s (toldE s e wRedo).2 []).2) = _
      rw [told_redo, hu]
      rfl
    rw [hq]
    refine ⟨rfl, ?_, ?_⟩
    · intro x r q
      rw [hp] at q
      cases q
    · intro _; rfl
  | n + 1, e, h => by
    cases hg : e.fut.getLast? with
    | none => rw [List.getLast?_eq_none_iff] at hg; rw [hg] at h; cases h
    | some x =>
      have hu : redoE e = (true, ⟨x, e.past ++ [e.now], e.fut.dropLast⟩) := by unfold redoE; rw [hg]
      have hd : e.fut = e.fut.dropLast ++ [x] := by
        obtain ⟨l, q⟩ := List.getLast?_eq_some_iff.mp hg
        rw [q]
        simp
      obtain ⟨i1, i3, i4⟩ := redo_all (s := s) n (e := ⟨x, e.past ++ [e.now], e.fut.dropLast⟩) (by show e.fut.dropLast.length = n; rw [List.length_dropLast]; omega)
      have hq : playedE s e (List.replicate (n + 1 + 1) wRedo) = (.bl true :: (playedE s ⟨x, e.past ++ [e.now], e.fut.dropLast⟩ (List.replicate (n + 1) wRedo)).1, (playedE s ⟨x, e.past ++ [e.now], e.fut.dropLast⟩ (List.replicate (n + 1) wRedo)).2) := by
        rw [List.replicate_succ]
        show ((toldE s e wRedo).1 :: (playedE s (toldE s e wRedo).2 _).1, (playedE s (toldE s e wRedo).2 _).2) = _
        rw [told_redo, hu]
      rw [hq]
      refine ⟨?_, fun y r q => ?_, fun q => ?_⟩
      · rw [i1, List.replicate_succ]; rfl
      · cases hb : e.fut.dropLast with
        | nil =>
          rw [hb] at hd
          rw [q] at hd
          simp only [List.nil_append] at hd
          cases hd
          have := i4 hb
          rw [hb] at this
          exact this
        | cons z t =>
          rw [hb] at hd
          rw [q] at hd
          simp only [List.cons_append, List.cons.injEq] at hd
          rw [hd.1]
          have := i3 z t hb
          rw [hb] at this
          exact this
      · rw [q] at hg; cases hg
end FL

namespace FL
open PySem L2 PyProof.Rows
theorem ends8 : (deeds8.all fun zs => goes6.any (fun z => z == zs) || stops7.any fun z => z == zs) = true := by decide +kernel
theorem drawn_ends {s : Dr} (hw : s.w ∈ words6) (hp : s.p ∈ puts10) (hk : s.k ∈ keepsL) (ht : s.t ∈ turnsL) (hz : s.zs ∈ deeds8) : Ends s := by
  have := List.all_eq_true.mp ends8 _ hz
  simp only [Bool.or_eq_true, List.any_eq_true, beq_iff_eq, exists_eq_right] at this
  rcases this with z | z
  · exact ends_go hw hp hk ht z
  · exact (ends_stop hw hp hk ht z).1
theorem orT_e {p q : MT} {s : Sg} {G G1 G2 : List Ob} {b : Bool} (h1 : p s G = .ok false G1) (h2 : q s G1 = .ok b G2) : orT p q s G = .ok b G2 := by
  unfold orT
  rw [h1]
  exact h2
theorem andM_e {p q : ME} {s : Sg} {G G1 G2 : List Ob} {b : Bool} (h1 : p s G = .ok (.bl true) G1) (h2 : q s G1 = .ok (.bl b) G2) : andM p q s G = .ok (.bl b) G2 := by
  unfold andM
  rw [h1]
  exact h2
theorem eqX_same {neg : Bool} {et : Nat → Option RunD} {u : U} {G : List Ob} (h : pd 20 u = true) : eqX neg et u u G = .ok (.bl (!neg)) G := by
  rw [eqX_pd h h, eqv_refl_pd h]
  cases neg <;> rfl
theorem eqN_lst {l : List U} (h : ∀ u ∈ l, eqN 0 u u = some true) (hz : l.length ≤ szL) : eqN 1 (.lst l) (.lst l) = some true := by
  show eqQ (eqN 0) l l = some true
  unfold eqQ
  rw [if_pos ⟨hz, hz⟩, if_pos rfl]
  clear hz
  induction l with
  | nil => rfl
  | cons a r ih =>
    rw [List.zipWith_cons_cons, h a (.head _)]
    show (allO _).map _ = _
    rw [ih fun u hu => h u (.tail _ hu)]
    rfl
theorem due_eq {m : MetL} : ∀ u ∈ dueM m, eqN 0 u u = some true := by
  intro u hu
  obtain ⟨e, he, hu⟩ := List.mem_flatMap.mp hu
  split at hu
  · cases hu
  · rcases List.mem_cons.mp hu with q | hu
    · rw [q]; simp [eqN, eqS]
    · rcases List.mem_cons.mp hu with q | hu
      · rw [q]; rfl
      · cases hu
theorem due_len {m : MetL} : (dueM m).length = (wordsM m).length := by
  induction m with
  | nil => rfl
  | cons e r ih =>
    have h1 : dueM (e :: r) = (if e.1 = wStop then [] else [.int (e.2.1 : Nat), .non]) ++ dueM r := rfl
    have h2 : wordsM (e :: r) = (if e.1 = wStop then [] else [wNext, e.1]) ++ wordsM r := rfl
    rw [h1, h2, List.length_append, List.length_append, ih]
    split <;> rfl
theorem words_len {m : MetL} : (wordsM m).length ≤ 2 * m.length := by
  induction m with
  | nil => exact Nat.le_refl _
  | cons e r ih =>
    have h2 : wordsM (e :: r) = (if e.1 = wStop then [] else [wNext, e.1]) ++ wordsM r := rfl
    rw [h2, List.length_append, List.length_cons]
    split
    · simp only [List.length_nil]; omega
    · simp only [List.length_cons, List.length_nil]; omega
/-- how many hits a walk has at most -/
theorem walk_met {s : Dr} {b : Bool} : ∀ {f : Nat} {D A : List It1} {a : Nat} {m m' : MetL} {sn : Seen} {its : List It1}, walkP s b f D A a m sn = some (some (its, m')) → m'.length ≤ m.length + f ∧ its.length ≤ (D ++ A).length + 3 * f * (s.p.length + 1)
  | 0, _, _, _, _, _, _, _, e => nomatch e
  | f + 1, D, A, a, m, m', sn, its, e => by
    rw [walkP_succ] at e
    have hq : 3 * f * (s.p.length + 1) + s.p.length ≤ 3 * (f + 1) * (s.p.length + 1) := by
      rw [show 3 * (f + 1) = 3 * f + 3 by omega, Nat.add_mul]
      omega
    cases e2 : placeO s.w A with
    | none => rw [e2] at e; cases e; exact ⟨by omega, by omega⟩
    | some pl =>
      rw [e2] at e
      simp only at e
      split at e
      · cases e
        exact ⟨by rw [List.length_append, List.length_singleton]; omega, by omega⟩
      · split at e
        · have ih := walk_met e
          rw [List.append_assoc, List.take_append_drop] at ih
          simp only [List.length_append, List.length_singleton] at ih ⊢
          exact ⟨by omega, by omega⟩
        · split at e
          · cases e
          · have ih := walk_met e
            rw [List.append_assoc, List.take_append_drop] at ih
            simp only [List.length_append, List.length_singleton, List.length_map, List.length_take, List.length_drop] at ih ⊢
            exact ⟨by omega, by omega⟩
section
variable {G : List Ob} {i pj fj : Nat} {s : Dr} {e : Ed} {sg : Sg}
abbrev edT (j : Nat) : ME := attrM (fun c => (([(3, r_Editor_text)] : List (Nat × RunD)).lookup c).map attrP) (fun c => ([] : List Nat).contains c) 20 (varM j)
theorem text_attr {j : Nat} (h : EdAt G i pj fj s e) (hs : sg[j]? = some (some (.ref i))) : edT j sg G = .ok (.str e.now.1) G := by
  show attrM _ _ _ _ _ _ = _
  unfold attrM
  rw [var_ok hs]
  have hi : insOf G (.ref i) = some (3, edL s e pj fj) := by simp only [insOf, h.ins]
  simp only [bind_ok, hi]
  show noExc (arM 1 r_Editor_text [.ref i] G) = _
  have : arM 1 r_Editor_text [.ref i] G = .ok (.str e.now.1) G := (if_pos rfl).trans (text_ok h)
  rw [this]
  rfl
theorem text_same {j : Nat} {neg : Bool} {m : ME} {t : W1} (h : EdAt G i pj fj s e) (hs : sg[j]? = some (some (.ref i))) (hT : isT t = true) (ht : e.now.1 = t) (hm : m sg G = .ok (.str t) G) : bin2 (eqX neg (fun c => d_law.eqt.lookup c)) (edT j) m sg G = .ok (.bl (!neg)) G := by
  have := text_attr h hs
  rw [ht] at this
  rw [bin2_p this hm]
  exact eqX_same (pd_str (isT_ok hT))
/-- the words and what is due, gathered -/
abbrev lwB : MS := ifM (tobM (bin2 (eqX true (fun c => d_law.eqt.lookup c)) (varM 12) (litM (.str (Str.ofString "stop").cps.toList)))) (seqM (stE (bin2 (addU false) (varM 7) (lstM false (consA (litM (.str (Str.ofString "next").cps.toList)) (consA (varM 12) nilA)))) (setM 7)) (stE (bin2 (addU false) (varM 8) (lstM false (consA (varM 13) (consA (litM .non) nilA)))) (setM 8))) nxM
theorem lst_2 {m1 m2 : ME} {a b : U} (h1 : m1 sg G = .ok a G) (h2 : m2 sg G = .ok b G) : lstM false (consA m1 (consA m2 nilA)) sg G = .ok (.lst [a, b]) G := by
  unfold lstM
  rw [consA_p h1 (consA_p h2 rfl)]
  exact newL_f (by simp [szL])
abbrev lL (x0 x1 x2 x3 x4 x5 x6 : Option U) (ws : List W1) (ds : List U) (x9 x10 x11 x12 x13 x14 x15 : Option U) : Sg := [x0, x1, x2, x3, x4, x5, x6, some (.lst (ws.map .str)), some (.lst ds), x9, x10, x11, x12, x13, x14, x15]
theorem words_loop {x0 x1 x2 x3 x4 x5 x6 x9 x10 x15 : Option U} {met : MetL} (hm : ∀ e ∈ met, okC e.1 = true) (hz : met.length ≤ 100000) : ∀ (n k : Nat) {x12 x13 x14 : Option U}, k + n = met.length →
    ∃ y12 y13 y14, forL (.seq (.lst (met.map metU))) (tupG 3 (consG (nameG 12) (consG (nameG 13) (consG (nameG 14) nilG)))) lwB n k (lL x0 x1 x2 x3 x4 x5 x6 (wordsM (met.take k)) (dueM (met.take k)) x9 x10 (some (.lst (met.map metU))) x12 x13 x14 x15) G
      = .nx (lL x0 x1 x2 x3 x4 x5 x6 (wordsM met) (dueM met) x9 x10 (some (.lst (met.map metU))) y12 y13 y14 x15) G
  | 0, k, x12, x13, x14, h => by
    refine ⟨x12, x13, x14, ?_⟩
    have : (met.map metU)[k]? = none := by rw [List.getElem?_eq_none_iff, List.length_map]; omega
    rw [List.take_of_length_le (by omega)]
    unfold forL
    simp only [itAt, seqOf, lstOf, Option.map_some, this]
  | n + 1, k, x12, x13, x14, h => by
    have hk : k < met.length := by omega
    have hg : (met.map metU)[k]? = some (metU met[k]) := by rw [List.getElem?_map, List.getElem?_eq_getElem hk]; rfl
    have ho := hm _ (List.getElem_mem hk)
    have et : met.take (k + 1) = met.take k ++ [met[k]] := by rw [List.take_succ, List.getElem?_eq_getElem hk]; rfl
    obtain ⟨y12, y13, y14, ih⟩ := words_loop (x0 := x0) (x1 := x1) (x2 := x2) (x3 := x3) (x4 := x4) (x5 := x5) (x6 := x6) (x9 := x9) (x10 := x10) (x15 := x15) hm hz n (k + 1) (x12 := some (.str met[k].1)) (x13 := some (.int (met[k].2.1 : Nat))) (x14 := some (.lst (met[k].2.2.map itU))) (by omega)
    refine ⟨y12, y13, y14, ?_⟩
    rw [← ih, et]
    generalize met[k] = e at *
    have hn : tupG 3 (consG (nameG 12) (consG (nameG 13) (consG (nameG 14) nilG))) (metU e) (lL x0 x1 x2 x3 x4 x5 x6 (wordsM (met.take k)) (dueM (met.take k)) x9 x10 (some (.lst (met.map metU))) x12 x13 x14 x15) = some (lL x0 x1 x2 x3 x4 x5 x6 (wordsM (met.take k)) (dueM (met.take k)) x9 x10 (some (.lst (met.map metU))) (some (.str e.1)) (some (.int (e.2.1 : Nat))) (some (.lst (e.2.2.map itU))) x15) := rfl
    have ht : tobM (bin2 (eqX true (fun c => d_law.eqt.lookup c)) (varM 12) (litM (.str (Str.ofString "stop").cps.toList))) (lL x0 x1 x2 x3 x4 x5 x6 (wordsM (met.take k)) (dueM (met.take k)) x9 x10 (some (.lst (met.map metU))) (some (.str e.1)) (some (.int (e.2.1 : Nat))) (some (.lst (e.2.2.map itU))) x15) G = .ok (!(e.1 == wStop)) G := (tob_str (neg := true) (x := e.1) (y := wStop) rfl (by simp [litM, wStop]) ho (by decide)).trans rfl
    have l1 : (wordsM (met.take k)).length ≤ 200000 := by
      have := words_len (m := met.take k)
      rw [List.length_take] at this
      omega
    have l2 : (dueM (met.take k)).length ≤ 200000 := by rw [due_len]; exact l1
    have hB : lwB (lL x0 x1 x2 x3 x4 x5 x6 (wordsM (met.take k)) (dueM (met.take k)) x9 x10 (some (.lst (met.map metU))) (some (.str e.1)) (some (.int (e.2.1 : Nat))) (some (.lst (e.2.2.map itU))) x15) G = .nx (lL x0 x1 x2 x3 x4 x5 x6 (wordsM (met.take k ++ [e])) (dueM (met.take k ++ [e])) x9 x10 (some (.lst (met.map metU))) (some (.str e.1)) (some (.int (e.2.1 : Nat))) (some (.lst (e.2.2.map itU))) x15) G := by
      rw [wordsM_app, dueM_app]
      by_cases hs : e.1 = wStop
      · have ht := ht.trans (show _ = Rs.ok false G by rw [hs]; rfl)
        have w0 : wordsM [e] = [] := by show (if e.1 = wStop then [] else _) ++ [] = []; rw [if_pos hs]; rfl
        have d0 : dueM [e] = [] := by show (if e.1 = wStop then [] else _) ++ [] = []; rw [if_pos hs]; rfl
        rw [w0, d0, List.append_nil, List.append_nil]
        exact ifM_fn ht
      · have : (e.1 == wStop) = false := by simpa using hs
        have ht := ht.trans (show _ = Rs.ok true G by rw [this]; rfl)
        have w0 : wordsM [e] = [wNext, e.1] := by show (if e.1 = wStop then [] else _) ++ [] = _; rw [if_neg hs]; rfl
        have d0 : dueM [e] = [.int (e.2.1 : Nat), .non] := by show (if e.1 = wStop then [] else _) ++ [] = _; rw [if_neg hs]; rfl
        rw [w0, d0]
        refine (ifM_t ht).trans ?_
        have a1 : bin2 (addU false) (varM 7) (lstM false (consA (litM (.str (Str.ofString "next").cps.toList)) (consA (varM 12) nilA))) (lL x0 x1 x2 x3 x4 x5 x6 (wordsM (met.take k)) (dueM (met.take k)) x9 x10 (some (.lst (met.map metU))) (some (.str e.1)) (some (.int (e.2.1 : Nat))) (some (.lst (e.2.2.map itU))) x15) G = .ok (.lst ((wordsM (met.take k)).map .str ++ [.str wNext, .str e.1])) G :=
          bin2_lst rfl (lst_2 (by simp [litM, wNext]) rfl) (by simp; unfold szL; omega)
        refine (seqM_set a1).trans ?_
        have a2 : bin2 (addU false) (varM 8) (lstM false (consA (varM 13) (consA (litM .non) nilA))) ([x0, x1, x2, x3, x4, x5, x6, some (.lst ((wordsM (met.take k)).map .str ++ [.str wNext, .str e.1])), some (.lst (dueM (met.take k))), x9, x10, some (.lst (met.map metU)), some (.str e.1), some (.int (e.2.1 : Nat)), some (.lst (e.2.2.map itU)), x15]) G = .ok (.lst (dueM (met.take k) ++ [.int (e.2.1 : Nat), .non])) G :=
          bin2_lst rfl (lst_2 rfl rfl) (by simp; unfold szL; omega)
        refine Eq.trans (stE_set (i := 8) (s := [x0, x1, x2, x3, x4, x5, x6, some (.lst ((wordsM (met.take k)).map .str ++ [.str wNext, .str e.1])), some (.lst (dueM (met.take k))), x9, x10, some (.lst (met.map metU)), some (.str e.1), some (.int (e.2.1 : Nat)), some (.lst (e.2.2.map itU)), x15]) a2) ?_
        delta lL
        rw [List.map_append]
        rfl
    rw [forL]
    simp only [itAt, seqOf, lstOf, Option.map_some, hg, hn, hB]
end
end FL

namespace FL
open PySem L2 PyProof.Rows
section
variable {s : Dr} {x : Sc}
theorem zdeed_ok (ho : okd s = true) (hc : x.cur < s.zs.length) : okC (s.zs.getD x.cur []) = true ∧ s.zs[x.cur]? = some (s.zs.getD x.cur []) := by
  obtain ⟨h1, h2, h3, h4, h5, h6, h7, h8, h9, h10⟩ := okd_parts ho
  have e : s.zs[x.cur]? = some s.zs[x.cur] := List.getElem?_eq_getElem hc
  have e2 : s.zs.getD x.cur [] = s.zs[x.cur] := by simp [List.getD, e]
  rw [e2]
  exact ⟨List.all_eq_true.mp (okDs_ok h8).1 _ (List.getElem_mem hc), e⟩
end
section
variable {s : Dr}
def DeedI (s : Dr) (x : Sc) : Prop := ∀ e ∈ x.met, okC e.1 = true
theorem meet_deedI (ho : okd s = true) {pl : Nat} {x : Sc} {sn : Seen} (h : DeedI s x) : DeedI s (meetP s pl x sn).1 := by
  obtain ⟨h1, h2, h3, h4, h5, h6, h7, h8, h9, h10⟩ := okd_parts ho
  have hn : DeedI s (noteP s pl x) := fun e he => by
    rcases List.mem_append.mp he with he | he
    · exact h e he
    · simp only [List.mem_singleton] at he
      subst he
      show okC (s.zs.getD x.cur []) = true
      by_cases hc : x.cur < s.zs.length
      · exact (zdeed_ok ho hc).1
      · have : s.zs[x.cur]? = none := List.getElem?_eq_none_iff.mpr (by omega)
        simp [List.getD, this, okC]
  unfold meetP
  simp only
  split
  · exact hn
  · split
    · exact hn
    · exact hn
theorem loop_deedI (ho : okd s = true) : ∀ (f : Nat) {x y : Sc} {sn : Seen}, DeedI s x → loopP s f x sn = some y → DeedI s y
  | 0, _, _, _, _, e => nomatch e
  | f + 1, x, y, sn, h, e => by
    unfold loopP at e
    cases e2 : placeO s.w x.pend with
    | none => rw [e2] at e; cases e; exact h
    | some pl =>
      rw [e2] at e
      by_cases z : (x.stop || x.endl) = true
      · simp only [z, if_true] at e; cases e; exact h
      · simp only [if_neg z] at e
        exact loop_deedI ho f (meet_deedI ho h) e
theorem feed_deedI (ho : okd s = true) {f : Nat} {x y : Sc} {i : It1} (h : DeedI s x) (e : feedP s f i x = some y) : DeedI s y := by
  unfold feedP at e
  by_cases hs : x.stop = true
  · rw [if_pos hs] at e
    cases e
    exact h
  · rw [if_neg hs] at e
    obtain ⟨z, ez, rfl⟩ := Option.map_eq_some_iff.mp e
    have hz : DeedI s z := loop_deedI ho f (x := { x with wr := [], pend := x.pend ++ [i] }) h ez
    unfold afterP
    split
    · exact hz
    · exact hz
theorem goP_deedI (ho : okd s = true) {f : Nat} : ∀ (l : List It1) {x : Sc} {fd : List It1} {fd' : List It1} {y : Sc}, DeedI s x → goP s f l x fd = some (some (fd', y)) → DeedI s y
  | [], x, fd, fd', y, h, e => by
    simp only [goP, Option.some.injEq, Prod.mk.injEq] at e
    obtain ⟨_, rfl⟩ := e
    exact h
  | i :: r, x, fd, fd', y, h, e => by
    unfold goP at e
    cases ef : feedP s f i x with
    | none => rw [ef] at e; cases e
    | some z =>
      rw [ef] at e
      simp only at e
      by_cases hz : z.endl = true
      · rw [if_pos hz] at e; cases e
      · rw [if_neg hz] at e
        exact goP_deedI ho r (feed_deedI ho h ef) e
end
theorem mul_lst {sg : Sg} {G : List Ob} {m1 m2 : ME} {u : U} {k : Nat} (h1 : m1 sg G = .ok (.lst [u]) G) (h2 : m2 sg G = .ok (.int (k : Nat)) G) (hk : k ≤ 1000000) : bin2 (mulU false) m1 m2 sg G = .ok (.lst (List.replicate k u)) G := by
  rw [bin2_p h1 h2]
  have hb : -(2 ^ 63 : Int) ≤ (k : Int) ∧ (k : Int) < 2 ^ 63 := by omega
  simp only [mulU, lstOfW]
  rw [if_pos hb, Int.toNat_natCast, List.flatten_replicate_singleton]
  exact newL_f (by rw [List.length_replicate]; unfold szL; omega)
theorem pds_rep {k n : Nat} {u : U} (h : pd k u = true) : pds k (List.replicate n u) = true := by
  induction n with
  | zero => rw [List.replicate_zero]; unfold pds; rfl
  | succ n ih => rw [List.replicate_succ]; unfold pds; rw [h, ih]; rfl
theorem pds_app {k : Nat} : ∀ {a b : List U}, pds k a = true → pds k b = true → pds k (a ++ b) = true
  | [], b, _, h => h
  | x :: r, b, h1, h2 => by
    unfold pds at h1
    rw [Bool.and_eq_true] at h1
    rw [List.cons_append]
    unfold pds
    rw [h1.1, pds_app h1.2 h2]
    rfl
theorem pd_bools {n : Nat} : pd 20 (.lst (List.replicate n (.bl true) ++ [.bl false])) = true := by
  unfold pd
  exact pds_app (pds_rep rfl) (by unfold pds pds; rfl)
theorem eqN_bools {n : Nat} (h : n ≤ 1000000) : eqN 1 (.lst (List.replicate n (U.bl true) ++ [.bl false])) (.lst (List.replicate n (U.bl true) ++ [.bl false])) = some true :=
  eqN_lst (fun u hu => by
    rcases List.mem_append.mp hu with q | q
    · rw [List.eq_of_mem_replicate q]; rfl
    · rw [List.mem_singleton] at q; rw [q]; rfl) (by simp; unfold szL; omega)
theorem lst_1 {sg : Sg} {G : List Ob} {m1 : ME} {a : U} (h1 : m1 sg G = .ok a G) : lstM false (consA m1 nilA) sg G = .ok (.lst [a]) G := by
  unfold lstM
  rw [consA_p h1 rfl]
  exact newL_f (by simp [szL])
theorem lst_3 {sg : Sg} {G : List Ob} {m1 m2 m3 : ME} {a b c : U} (h1 : m1 sg G = .ok a G) (h2 : m2 sg G = .ok b G) (h3 : m3 sg G = .ok c G) : lstM false (consA m1 (consA m2 (consA m3 nilA))) sg G = .ok (.lst [a, b, c]) G := by
  unfold lstM
  rw [consA_p h1 (consA_p h2 (consA_p h3 rfl))]
  exact newL_f (by simp [szL])
theorem lst_4 {sg : Sg} {G : List Ob} {m1 m2 m3 m4 : ME} {a b c d : U} (h1 : m1 sg G = .ok a G) (h2 : m2 sg G = .ok b G) (h3 : m3 sg G = .ok c G) (h4 : m4 sg G = .ok d G) : lstM false (consA m1 (consA m2 (consA m3 (consA m4 nilA)))) sg G = .ok (.lst [a, b, c, d]) G := by
  unfold lstM
  rw [consA_p h1 (consA_p h2 (consA_p h3 (consA_p h4 rfl)))]
  exact newL_f (by simp [szL])
/-- many times True, then False -/
abbrev boolsM : ME := bin2 (addU false) (bin2 (mulU false) (lstM false (consA (litM (.bl true)) nilA)) (varM 9)) (lstM false (consA (litM (.bl false)) nilA))
theorem bools_at {sg : Sg} {G : List Ob} {n : Nat} (h : sg[9]? = some (some (.int (n : Nat)))) (hn : n ≤ 1000000) : boolsM sg G = .ok (.lst (List.replicate n (.bl true) ++ [.bl false])) G :=
  bin2_lst (mul_lst (lst_1 rfl) (var_ok h) hn) (lst_1 rfl) (by simp; unfold szL; omega)
abbrev wordsX (q : Str) : ME := bin2 (mulU false) (lstM false (consA (litM (.str q.cps.toList)) nilA)) (bin2 (addU false) (varM 9) (litM (.int 1)))
theorem wordsX_at {sg : Sg} {G : List Ob} {n : Nat} {q : Str} {w : W1} (hq : q.cps.toList = w) (h : sg[9]? = some (some (.int (n : Nat)))) (hn : n < 1000000) : wordsX q sg G = .ok (.lst ((List.replicate (n + 1) w).map .str)) G := by
  have := mul_lst (m1 := lstM false (consA (litM (.str q.cps.toList)) nilA)) (m2 := bin2 (addU false) (varM 9) (litM (.int 1))) (sg := sg) (G := G) (u := .str w) (k := n + 1) (lst_1 (by rw [hq]; rfl)) (add_int (x := (n : Nat)) (y := 1) (var_ok h) rfl (by omega)) (by omega)
  rw [List.map_replicate]
  exact this
section
variable {G : List Ob} {i pj fj : Nat} {s : Dr} {e : Ed} {sg : Sg}
/-- played, called -/
theorem playedM (h : EdAt G i pj fj s e) (ho : okd s = true) {B : Nat} (hJ : EdJ B s e) {ws : List W1} (hB : B + 3 * ws.length < 1000000) (hw : ∀ w ∈ ws, w ∈ actL) {m : ME} (hs : sg[5]? = some (some (.ref i))) (hm : m sg G = .ok (.lst (ws.map .str)) G) :
    ∃ G' fj', callM 2 r_played (consA (varM 5) (consA m nilA)) sg G = .ok (.lst (playedE s e ws).1) G' ∧ EdAt G' i pj fj' s (playedE s e ws).2 ∧ Fr G G' [i, pj, fj] ∧ (fj' = fj ∨ G.length ≤ fj') ∧ EdJ (B + 3 * ws.length) s (playedE s e ws).2 := by
  obtain ⟨G', fj', q1, q2, q3, q4, q5⟩ := played_ok h ho hJ hB hw
  exact ⟨G', fj', (call2 (var_ok hs) hm).trans q1, q2, q3, q4, q5⟩
end
theorem fr_ed {G G1 G2 : List Ob} {i pj fj : Nat} (a : Fr G G1 []) (b : Fr G1 G2 [i, pj, fj]) (hi : G.length ≤ i) (hp : G.length ≤ pj) (hf : G.length ≤ fj) : Fr G G2 [] := a.trans b (fun k hk => by
  simp at hk
  rcases hk with q | q | q <;> (right; omega))
theorem wrong_ok {u : U} (h : u ∈ ([.str wStop, .str [], .non, .int 4] : List U)) : flW u = true ∧ okW u = false := by
  simp only [List.mem_cons, List.not_mem_nil, or_false] at h
  rcases h with q | q | q | q <;> subst q <;> decide
theorem le_law : LeC r_law (runB d_law 40 s_law) := fun us G => by
  unfold r_law
  split
  · rename_i sl
    split
    · rename_i ns e
      split
      · rename_i hl
        refine .inr (.inr ?_)
        rw [run_law]
        have hs : startS d_law.N [.sc sl] = [some (.sc sl), none, none, none, none, none, none, none, none, none, none, none, none, none, none, none] := rfl
        rw [hs]
        show Cut G _ (runR (m_law _ G))
        unfold m_law
        have hlen : (ns.filter fun c => decide ((10 : Int) ^ 18 ≤ c)).length ≤ 63 := Nat.le_trans (List.length_filter_le _ _) hl
        refine cut_n (seqM_set (u := .ref G.length) (G1 := G ++ [drC (rndP ns 15 :: 0 :: ns.filter fun c => decide (10 ^ 18 ≤ c))]) ((call2 (var_ok (u := .sc sl) rfl) (u' := .int 15) (G2 := G) rfl).trans (by simp [r__law_random, e, hl]))) ?_
        generalize hl0 : (rndP ns 15, (0 : Int), ns.filter fun c => decide ((10 : Int) ^ 18 ≤ c)) = l0
        have hdl : (rndP ns 15 :: 0 :: ns.filter fun c => decide ((10 : Int) ^ 18 ≤ c)) = dl l0 := by rw [← hl0]; rfl
        rw [hdl]
        have hl0' : l0.2.2.length ≤ 63 := by rw [← hl0]; exact hlen
        have D : ∀ (l : Int × Int × List Int) (g : List Ob), l.2.2.length ≤ 63 → drOf (G ++ drC (dl l) :: g) G.length = some l := fun l g hl => by
          obtain ⟨a, b, r⟩ := l
          unfold drOf
          rw [List.getElem?_append_right (Nat.le_refl _), Nat.sub_self]
          simp only [List.getElem?_cons_zero, drC, dl, intsOf_map]
          rw [if_pos hl]
        -- the stepper
        have ho0 : okd (drawnP l0).1 = true := drawn_ok l0
        obtain ⟨hw, hp, hk, ht, hz, hn, hl1⟩ := drawn_mem l0
        refine cut_n (seqM_set (s := [some (.sc sl), some (.ref G.length), none, none, none, none, none, none, none, none, none, none, none, none, none, none]) (u := drU (drawnP l0).1) (G1 := G ++ [drC (dl (drawnP l0).2)]) ((call1 (G1 := G ++ [drC (dl l0)]) (var_ok (u := .ref G.length) rfl)).trans (by simp only [r__law_drawn, D l0 [] hl0', set_new]))) ?_
        generalize (drawnP l0).1 = s0 at ho0 hw hp hk ht hz hn
        generalize (drawnP l0).2 = l1 at hl1
        have ho : okd { s0 with n := 1 } = true := by
          obtain ⟨h1, h2, h3, h4, h5, h6, h7, h8, h9, h10⟩ := okd_parts ho0
          unfold okd okS
          simp only [Bool.and_eq_true, decide_eq_true_eq]
          exact ⟨⟨⟨⟨⟨⟨⟨⟨⟨h1, h2⟩, h3⟩, h4⟩, h5⟩, h6⟩, h7⟩, h8⟩, by omega⟩, by omega⟩
        have hE : Ends { s0 with n := 1 } := drawn_ends (s := { s0 with n := 1 }) hw hp hk ht hz
        have ha : bin2 (addU false) (slM false (varM 2) noneO (someO (litM (.int 5)))) (tupM (consA (litM (.int 1)) nilA)) [some (.sc sl), some (.ref G.length), some (drU s0), none, none, none, none, none, none, none, none, none, none, none, none, none] (G ++ [drC (dl l1)]) = .ok (drU { s0 with n := 1 }) (G ++ [drC (dl l1)]) := by
          have h1 : slM false (varM 2) noneO (someO (litM (.int 5))) [some (.sc sl), some (.ref G.length), some (drU s0), none, none, none, none, none, none, none, none, none, none, none, none, none] (G ++ [drC (dl l1)]) = .ok (.tup [.str s0.w, .str s0.p, .str s0.k, .str s0.t, .tup (s0.zs.map .str)]) (G ++ [drC (dl l1)]) := by
            unfold slM
            rw [var_ok (u := drU s0) rfl]
            simp only [bind_ok, noneO]
            rw [someO_ok (z := 5) rfl]
            simp only [bind_ok, slU, drU]
            exact congrArg (fun z => Rs.ok (U.tup z) _) (cut_to (a := 5))
          have h2 : tupM (consA (litM (.int 1)) nilA) [some (.sc sl), some (.ref G.length), some (drU s0), none, none, none, none, none, none, none, none, none, none, none, none, none] (G ++ [drC (dl l1)]) = .ok (.tup [.int 1]) (G ++ [drC (dl l1)]) := by
            unfold tupM
            rw [consA_p (x := .int 1) rfl rfl]
            exact newT_ok' (by simp [szL])
          exact add_tup h1 h2 (by simp)
        refine cut_n (seqM_set (s := [some (.sc sl), some (.ref G.length), some (drU s0), none, none, none, none, none, none, none, none, none, none, none, none, none]) ha) ?_
        clear ha
        generalize ({ s0 with n := 1 } : Dr) = s at ho hE
        clear hw hp hk ht hz hn ho0
        obtain ⟨h1, h2, h3, h4, h5, h6, h7, h8, h9, h10⟩ := okd_parts ho
        have hlz := (okDs_ok h8).2
        -- the text
        refine cut_n (seqM_set (s := [some (.sc sl), some (.ref G.length), some (drU s), none, none, none, none, none, none, none, none, none, none, none, none, none]) (u := .str (textD s.w l1).1) (G1 := G ++ [drC (dl (textD s.w l1).2)]) ((call3 (G1 := G ++ [drC (dl l1)]) (var_ok (u := .ref G.length) rfl) (var_ok (u := drU s) rfl) (u'' := .int 10) rfl).trans (by simp only [r__law_text, D l1 [] (by omega), drOfU_drU (d := s) ho, set_new]))) ?_
        have htx : isT (textD s.w l1).1 = true ∧ (textD s.w l1).1.length ≤ 10 ∧ (textD s.w l1).2.2.2.length ≤ 63 := by
          obtain ⟨a, b, r⟩ := l1
          obtain ⟨v, a', b', r', hb, hr', hv⟩ := below_form a b r 11
          obtain ⟨q1, q2, q3⟩ := textP_ok h1 h3 v.toNat (a', b', r')
          unfold textD
          simp only [hb, List.headD_cons, List.tail_cons]
          exact ⟨isT_take q1, by rw [List.length_take]; exact Nat.min_le_left _ _, by simp only at q3 hl1; omega⟩
        generalize (textD s.w l1).1 = t at htx
        generalize (textD s.w l1).2 = l2 at htx
        obtain ⟨hT, htl, hl2⟩ := htx
        -- the walk
        have hsg : sgn (t.map fun c => ((c, none) : It1)) = t := by simp [sgn, Function.comp_def]
        have hitems : ∀ G', compM false (seqI (varM 3)) (nameG 15) yesT (tupM (consA (varM 15) (consA (litM .non) nilA))) [15] [some (.sc sl), some (.ref G.length), some (drU s), some (.str t), none, none, none, none, none, none, none, none, none, none, none, none] G' = .ok (.lst ((t.map fun c => ((c, none) : It1)).map itU)) G' := fun G' => by
          have hit : seqI (varM 3) [some (.sc sl), some (.ref G.length), some (drU s), some (.str t), none, none, none, none, none, none, none, none, none, none, none, none] G' = .ok (.items (t.map fun c => .str [c]), (t.map fun c => U.str [c]).length) G' := by
            rw [List.length_map]
            rfl
          refine (comp_items (mu := false) (h := fun z => .tup [z, .non]) hit fun z hz => ?_).trans ?_
          · exact ⟨[some (.sc sl), some (.ref G.length), some (drU s), some (.str t), none, none, none, none, none, none, none, none, none, none, none, some z], rfl, rfl, tup_2 rfl rfl⟩
          · rw [List.map_map, List.map_map]
            exact newL_f (by rw [List.length_map]; unfold szL; omega)
        have hI := sc0_inv (s := s) h2 hlz.2
        obtain ⟨res, eg⟩ : ∃ res, goP s 100 (t.map fun c => ((c, none) : It1)) sc0 [] = some res := by
          cases eg : goP s 100 (t.map fun c => ((c, none) : It1)) sc0 [] with
          | none => exact absurd eg (go_some hE h2 hlz.2 _ _ hI)
          | some res => exact ⟨res, rfl⟩
        have wg := walk_go hE h2 hlz.2 eg
        have wg5 := walk_more wg (50000 - (100 * (t.map fun c => ((c, none) : It1)).length + 1))
        rw [show 100 * (t.map fun c => ((c, none) : It1)).length + 1 + (50000 - (100 * (t.map fun c => ((c, none) : It1)).length + 1)) = 50000 by rw [List.length_map]; omega] at wg5
        generalize hfu : (match res.map fun z => (z.1, z.2.met) with
          | none => U.non
          | some (its, met) => .tup [.lst (its.map itU), .lst (met.map metU)]) = fu
        have hpass : callM 2 r__law_pass (consA (varM 2) (consA (compM false (seqI (varM 3)) (nameG 15) yesT (tupM (consA (varM 15) (consA (litM .non) nilA))) [15]) nilA)) [some (.sc sl), some (.ref G.length), some (drU s), some (.str t), none, none, none, none, none, none, none, none, none, none, none, none] (G ++ [drC (dl l2)]) = .ok fu (G ++ [drC (dl l2)]) := by
          rw [call2 (var_ok (u := drU s) rfl) (hitems _)]
          unfold r__law_pass
          simp only [drOfU_drU (d := s) ho, itsOf_map, hsg, hT, List.length_map, true_and]
          rw [if_pos (show t.length ≤ 1000 by omega), wg5, ← hfu]
          cases res <;> rfl
        refine cut_n (seqM_set (s := [some (.sc sl), some (.ref G.length), some (drU s), some (.str t), none, none, none, none, none, none, none, none, none, none, none, none]) hpass) ?_
        clear hpass hitems
        -- the editor
        have hmk : callM 1 r__law_make (consA (varM 2) nilA) [some (.sc sl), some (.ref G.length), some (drU s), some (.str t), some fu, none, none, none, none, none, none, none, none, none, none, none] (G ++ [drC (dl l2)]) = .ok (stU s) (G ++ [drC (dl l2)]) := by
          rw [call1 (G1 := G ++ [drC (dl l2)]) (var_ok (u := drU s) rfl)]
          unfold r__law_make
          simp only [drOfU_drU (d := s) ho]
        have hn := ed_new (G := G ++ [drC (dl l2)]) (mt := varM 3) (t := t) hmk rfl hT (by omega)
        have hed := ed_new_at (G := G ++ [drC (dl l2)]) (s := s) (t := t)
        have hlg : (G ++ [drC (dl l2)]).length = G.length + 1 := by simp
        rw [hlg] at hn hed
        refine cut_n (seqM_set (s := [some (.sc sl), some (.ref G.length), some (drU s), some (.str t), some fu, none, none, none, none, none, none, none, none, none, none, none]) hn) ?_
        have hdr := D l2 [.ins 3 (edL s ⟨(t, 0, none), [], []⟩ (G.length + 1 + 1) (G.length + 1 + 2)), .lst [], .lst []] hl2
        have hF0 : Fr G (G ++ [drC (dl l2)] ++ [.ins 3 (edL s ⟨(t, 0, none), [], []⟩ (G.length + 1 + 1) (G.length + 1 + 2)), .lst [], .lst []]) [] := Fr.app.trans Fr.app (by simp)
        rw [show G ++ drC (dl l2) :: [.ins 3 (edL s ⟨(t, 0, none), [], []⟩ (G.length + 1 + 1) (G.length + 1 + 2)), .lst [], .lst []] = G ++ [drC (dl l2)] ++ [.ins 3 (edL s ⟨(t, 0, none), [], []⟩ (G.length + 1 + 1) (G.length + 1 + 2)), .lst [], .lst []] by simp] at hdr
        generalize G ++ [drC (dl l2)] ++ [.ins 3 (edL s ⟨(t, 0, none), [], []⟩ (G.length + 1 + 1) (G.length + 1 + 2)), .lst [], .lst []] = G4 at hed hdr hF0 ⊢
        -- the wrong word
        have q6 := call_pick (fun u : U => u) [.str wStop, .str [], .non, .int 4] .non (j := 1) (s := [some (.sc sl), some (.ref G.length), some (drU s), some (.str t), some fu, some (.ref (G.length + 1)), none, none, none, none, none, none, none, none, none, none])
          (m := lstM false (consA (litM (.str (Str.ofString "stop").cps.toList)) (consA (litM (.str (Str.ofString "").cps.toList)) (consA (litM .non) (consA (litM (.int 4)) nilA))))) (by decide) (by decide) hdr rfl (by simp [lstM, consA, litM, nilA, newL, szL, wStop])
        have pm := (pick_mem .non l2 ([.str wStop, .str [], .non, .int 4] : List U) (by decide)).1
        refine cut_n (seqM_set (s := [some (.sc sl), some (.ref G.length), some (drU s), some (.str t), some fu, some (.ref (G.length + 1)), none, none, none, none, none, none, none, none, none, none]) q6) ?_
        generalize (pickP U.non l2 [.str wStop, .str [], .non, .int 4]).1 = wr at pm
        generalize (pickP U.non l2 [.str wStop, .str [], .non, .int 4]).2 = l3
        obtain ⟨w1, w2⟩ := wrong_ok pm
        have hed5 := hed.fr (Fr.set (G := G4) (i := G.length) (o := drC (dl l3))) (by simp) (by simp; omega) (by simp; omega)
        have hF5 : Fr G (G4.set G.length (drC (dl l3))) [] := ⟨by rw [List.length_set]; exact hF0.len, fun k hk _ => by rw [List.getElem?_set_ne (by omega)]; exact hF0.keep k hk (by simp)⟩
        generalize G4.set G.length (drC (dl l3)) = G5 at hed5 hF5 ⊢
        clear hed hF0 hdr q6
        generalize hi : G.length + 1 = i at hed5 ⊢
        have hJ0 : EdJ 10 s ⟨(t, 0, none), [], []⟩ := ⟨⟨hT, htl, Nat.zero_le _, fun p hp => by cases hp⟩, (fun x hx => by cases hx), (fun x hx => by cases hx), Nat.zero_le _, Nat.zero_le _⟩
        -- refused
        have c7 : callM 2 r__law_refused (consA (varM 5) (consA (lstM false (consA (litM (.str (Str.ofString "next").cps.toList)) (consA (litM (.str (Str.ofString "replace").cps.toList)) (consA (varM 6) (consA (litM (.str (Str.ofString "keep").cps.toList)) nilA))))) nilA)) [some (.sc sl), some (.ref G.length), some (drU s), some (.str t), some fu, some (.ref i), some wr, none, none, none, none, none, none, none, none, none] G5 = .ok (.int 2) G5 := by
          rw [call2 (G1 := G5) (G2 := G5) (u := .ref i) (u' := .lst [.str wNext, .str wRep, wr, .str wKeep]) rfl (lst_4 (by simp [litM, wNext]) (by simp [litM, wRep]) rfl (by simp [litM, wKeep]))]
          exact refused_ok (j := 2) (fun u hu => by
            simp only [List.mem_cons, List.not_mem_nil, or_false] at hu
            rcases hu with q | q | q | q
            · rw [q]; rfl
            · rw [q]; rfl
            · rw [q]; exact w1
            · rw [q]; rfl) (by
            have a1 : okW (.str wNext) = true := by decide
            have a2 : okW (.str wRep) = true := by decide
            simp [List.findIdx?_cons, a1, a2, w2])
        have t7 := orT_p (a := false) (b := false) (p := tobM (bin2 (eqX true (fun c => d_law.eqt.lookup c)) (callM 2 r__law_refused (consA (varM 5) (consA (lstM false (consA (litM (.str (Str.ofString "next").cps.toList)) (consA (litM (.str (Str.ofString "replace").cps.toList)) (consA (varM 6) (consA (litM (.str (Str.ofString "keep").cps.toList)) nilA))))) nilA))) (litM (.int 2)))) (q := tobM (bin2 (eqX true (fun c => d_law.eqt.lookup c)) (edT 5) (varM 3)))
          (tob_bl ((bin2_p c7 (y := .int 2) rfl).trans (eqX_same (neg := true) rfl))) fun _ => tob_bl (text_same (neg := true) (t := t) hed5 rfl hT rfl rfl)
        refine cut_n (seqM_if t7) ?_
        -- nothing chosen
        obtain ⟨G6, fj6, p1, p2, p3, p4, p5⟩ := playedM hed5 ho hJ0 (ws := [wKeep, wUndo, wRedo]) (by simp) (by decide) (sg := [some (.sc sl), some (.ref G.length), some (drU s), some (.str t), some fu, some (.ref i), some wr, none, none, none, none, none, none, none, none, none]) (m := lstM false (consA (litM (.str (Str.ofString "keep").cps.toList)) (consA (litM (.str (Str.ofString "undo").cps.toList)) (consA (litM (.str (Str.ofString "redo").cps.toList)) nilA)))) rfl (lst_3 (by simp [litM, wKeep]) (by simp [litM, wUndo]) (by simp [litM, wRedo]))
        have pe : playedE s ⟨(t, 0, none), [], []⟩ [wKeep, wUndo, wRedo] = ([.str wNoth, .bl false, .bl false], ⟨(t, 0, none), [], []⟩) := rfl
        rw [pe] at p1 p2 p5
        have hF6 := fr_ed hF5 p3 (by omega) (by omega) (by omega)
        have hj6 : G.length ≤ fj6 := by have := hF5.len; omega
        have t8 : tobM (bin2 (eqX true (fun c => d_law.eqt.lookup c)) (callM 2 r_played (consA (varM 5) (consA (lstM false (consA (litM (.str (Str.ofString "keep").cps.toList)) (consA (litM (.str (Str.ofString "undo").cps.toList)) (consA (litM (.str (Str.ofString "redo").cps.toList)) nilA)))) nilA))) (lstM false (consA (litM (.str (Str.ofString "NothingChosen").cps.toList)) (consA (litM (.bl false)) (consA (litM (.bl false)) nilA))))) [some (.sc sl), some (.ref G.length), some (drU s), some (.str t), some fu, some (.ref i), some wr, none, none, none, none, none, none, none, none, none] G5 = .ok false G6 :=
          tob_bl ((bin2_ok p1 (lst_3 (a := .str wNoth) (b := .bl false) (c := .bl false) (by simp [litM, wNoth]) rfl rfl)).trans (eqX_same (neg := true) (by simp [pd, pds, okC, wNoth])))
        refine cut_n (seqM_if t8) ?_
        cases res with
        | none =>
          subst hfu
          have t9 : tobM (bin2 (isU false) (varM 4) (litM .non)) [some (.sc sl), some (.ref G.length), some (drU s), some (.str t), some U.non, some (.ref i), some wr, none, none, none, none, none, none, none, none, none] G6 = .ok true G6 := tob_bl (bin2_p (x := .non) (y := .non) rfl rfl)
          obtain ⟨g, hg⟩ := hF6.pre (by simp)
          refine cut_n (seqM_ift (u := .bl true) t9 (stE_rt rfl)) ?_
          rw [hg]
          exact cut_new rfl
        | some w =>
          obtain ⟨its, y⟩ := w
          simp only [Option.map_some] at hfu wg
          subst hfu
          obtain ⟨wm1, wm2⟩ := walk_met wg
          simp only [List.length_nil, List.length_map, List.nil_append, Nat.zero_add] at wm1 wm2
          have t9 : tobM (bin2 (isU false) (varM 4) (litM .non)) [some (.sc sl), some (.ref G.length), some (drU s), some (.str t), some (U.tup [.lst (its.map itU), .lst (y.met.map metU)]), some (.ref i), some wr, none, none, none, none, none, none, none, none, none] G6 = .ok false G6 := tob_bl (bin2_p (x := .tup [.lst (its.map itU), .lst (y.met.map metU)]) (y := .non) rfl rfl)
          refine cut_n (seqM_if t9) ?_
          refine cut_n (seqM_nx (s1 := [some (.sc sl), some (.ref G.length), some (drU s), some (.str t), some (U.tup [.lst (its.map itU), .lst (y.met.map metU)]), some (.ref i), some wr, none, none, none, some (.lst (its.map itU)), some (.lst (y.met.map metU)), none, none, none, none]) (G1 := G6) rfl) ?_
          refine cut_n (seqM_set (u := .lst []) (G1 := G6) (by unfold lstM nilA; exact newL_f (by simp [szL]))) ?_
          refine cut_n (seqM_set (u := .lst []) (G1 := G6) (by unfold lstM nilA; exact newL_f (by simp [szL]))) ?_
          obtain ⟨new, en, hled⟩ := led_walk h8 h2 _ (show 0 < s.zs.length from hlz.2) wg
          rw [List.nil_append] at en
          subst en
          have hL := hled ⟨(t, 0, none), [], []⟩ (by rw [List.nil_append]; exact hsg.symm) rfl
          have hdeed : ∀ e ∈ y.met, okC e.1 = true := goP_deedI ho _ (fun e he => by cases he) eg
          obtain ⟨y12, y13, y14, wl⟩ := words_loop (G := G6) (x0 := some (.sc sl)) (x1 := some (.ref G.length)) (x2 := some (drU s)) (x3 := some (.str t)) (x4 := some (U.tup [.lst (its.map itU), .lst (y.met.map metU)])) (x5 := some (.ref i)) (x6 := some wr) (x9 := none) (x10 := some (.lst (its.map itU))) (x15 := none) hdeed (by omega) y.met.length 0 (x12 := none) (x13 := none) (x14 := none) (Nat.zero_add _)
          have hit : seqI (varM 11) [some (.sc sl), some (.ref G.length), some (drU s), some (.str t), some (U.tup [.lst (its.map itU), .lst (y.met.map metU)]), some (.ref i), some wr, some (.lst []), some (.lst []), none, some (.lst (its.map itU)), some (.lst (y.met.map metU)), none, none, none, none] G6 = .ok (.seq (.lst (y.met.map metU)), y.met.length) G6 := by
            simp [seqI, varM, seqOf, lstOf]
          refine cut_n (seqM_nx (s := [some (.sc sl), some (.ref G.length), some (drU s), some (.str t), some (U.tup [.lst (its.map itU), .lst (y.met.map metU)]), some (.ref i), some wr, some (.lst []), some (.lst []), none, some (.lst (its.map itU)), some (.lst (y.met.map metU)), none, none, none, none]) (forM_ok hit wl)) ?_
          generalize hx4 : some (U.tup [.lst (its.map itU), .lst (y.met.map metU)]) = x4
          have hwl := words_len (m := y.met)
          have hws : (wordsM y.met).length ≤ 3000 := by omega
          -- led by the words
          obtain ⟨G7, fj7, r1, r2, r3, r4, r5⟩ := playedM p2 ho p5 (ws := wordsM y.met) (by simp; omega) hL.acts (sg := lL (some (.sc sl)) (some (.ref G.length)) (some (drU s)) (some (.str t)) x4 (some (.ref i)) (some wr) (wordsM y.met) (dueM y.met) none (some (.lst (its.map itU))) (some (.lst (y.met.map metU))) y12 y13 y14 none) (m := varM 7) rfl rfl
          have hF7 := fr_ed hF6 r3 (by omega) (by omega) (by omega)
          have hj7 : G.length ≤ fj7 := by have := hF6.len; omega
          obtain ⟨xs, px1, px2, px3⟩ := hL.past
          have hus := hL.us
          have hnow := hL.now
          have hfut := hL.fut rfl
          rw [hus] at r1
          generalize (playedE s ⟨(t, 0, none), [], []⟩ (wordsM y.met)).2 = e7 at r2 r5 px1 hnow hfut
          simp only [List.nil_append] at px1
          have hTi : isT (sgn its) = true := by rw [← hnow]; exact r5.now.t
          have hsig : ∀ {G' : List Ob} {sg : Sg}, sg[10]? = some (some (.lst (its.map itU))) → callM 1 r__law_signs (consA (varM 10) nilA) sg G' = .ok (.str (sgn its)) G' := fun {G' sg} hs => by
            rw [call1 (var_ok hs)]
            unfold r__law_signs
            simp only [itsOf_map]
            exact if_pos (by
              have hpl := h5
              have : 3 * (100 * t.length + 1) * (s.p.length + 1) ≤ 3 * (100 * t.length + 1) * 4 := Nat.mul_le_mul_left _ (by omega)
              omega)
          have t14 : orT (notT (tobM (callM 2 r__law_equal_1 (consA (callM 2 r_played (consA (varM 5) (consA (varM 7) nilA))) (consA (varM 8) nilA))))) (tobM (bin2 (eqX true (fun c => d_law.eqt.lookup c)) (edT 5) (callM 1 r__law_signs (consA (varM 10) nilA)))) (lL (some (.sc sl)) (some (.ref G.length)) (some (drU s)) (some (.str t)) x4 (some (.ref i)) (some wr) (wordsM y.met) (dueM y.met) none (some (.lst (its.map itU))) (some (.lst (y.met.map metU))) y12 y13 y14 none) G6 = .ok false G7 := by
            refine orT_e (G1 := G7) ?_ (tob_bl (text_same (neg := true) (t := sgn its) r2 rfl hTi hnow (hsig rfl)))
            refine notT_p (b := true) (tob_bl ?_)
            rw [call2 r1 (u' := .lst (dueM y.met)) rfl]
            show r_eq 1 _ _ = _
            simp only [r_eq, eqN_lst due_eq (show (dueM y.met).length ≤ szL by rw [due_len]; unfold szL; omega)]
          -- how many
          have hm15 : bin2 fdivU (preM lenU (consA (varM 7) nilA)) (litM (.int 2)) (lL (some (.sc sl)) (some (.ref G.length)) (some (drU s)) (some (.str t)) x4 (some (.ref i)) (some wr) (wordsM y.met) (dueM y.met) none (some (.lst (its.map itU))) (some (.lst (y.met.map metU))) y12 y13 y14 none) G7 = .ok (.int (xs.length : Nat)) G7 := by
            have hl : preM lenU (consA (varM 7) nilA) (lL (some (.sc sl)) (some (.ref G.length)) (some (drU s)) (some (.str t)) x4 (some (.ref i)) (some wr) (wordsM y.met) (dueM y.met) none (some (.lst (its.map itU))) (some (.lst (y.met.map metU))) y12 y13 y14 none) G7 = .ok (.int ((wordsM y.met).length : Nat)) G7 := by
              rw [pre_one (u := .lst ((wordsM y.met).map .str)) rfl]
              simp [lenU, seqOf, lstOf]
            rw [bin2_p hl (y := .int 2) rfl, ← px2]
            have : fdivU (.int ((2 * xs.length : Nat) : Int)) (.int 2) G7 = .ok (.int (((2 * xs.length : Nat) : Int).fdiv 2)) G7 := rfl
            rw [this]
            congr 2
            rw [Int.fdiv_eq_ediv_of_nonneg _ (by omega)]
            omega
          have hxs : xs.length ≤ 1500 := by omega
          -- undone
          have hpl7 : e7.past.length = xs.length := congrArg List.length px1
          have UU := undo_all (s := s) xs.length hpl7
          have u1 := UU.1
          have u3 := UU.2.2.1
          have u4 := UU.2.2.2.1
          obtain ⟨ys, u5, u6, u7⟩ := UU.2.2.2.2
          clear UU
          obtain ⟨G8, fj8, v1, v2, v3, v4, v5⟩ := playedM r2 ho r5 (ws := List.replicate (xs.length + 1) wUndo) (by simp; omega) (fun w hw => by rw [List.eq_of_mem_replicate hw]; decide) (sg := lL (some (.sc sl)) (some (.ref G.length)) (some (drU s)) (some (.str t)) x4 (some (.ref i)) (some wr) (wordsM y.met) (dueM y.met) (some (.int (xs.length : Nat))) (some (.lst (its.map itU))) (some (.lst (y.met.map metU))) y12 y13 y14 none) (m := wordsX (Str.ofString "undo")) rfl (wordsX_at (by simp [wUndo]) rfl (by omega))
          have hF8 := fr_ed hF7 v3 (by omega) (by omega) (by omega)
          have hj8 : G.length ≤ fj8 := by have := hF7.len; omega
          rw [u1] at v1
          have hn8 : (playedE s e7 (List.replicate (xs.length + 1) wUndo)).2.now.1 = t := by
            cases hx : xs with
            | nil =>
              rw [hx] at u4 px2
              have hwn : wordsM y.met = [] := List.eq_nil_of_length_eq_zero (by simp at px2; omega)
              have := u4 (by rw [px1, hx])
              simp only [List.length_nil] at this ⊢
              rw [this, hnow]
              have hq := hL.now
              rw [hwn] at hq
              exact hq.symm
            | cons x r =>
              have := u3 x r (by rw [px1, hx])
              rw [hx] at this
              rw [this]
              exact px3 x r hx
          have hf8 : (playedE s e7 (List.replicate (xs.length + 1) wUndo)).2.fut = ys := by rw [u5, hfut, List.nil_append]
          generalize (playedE s e7 (List.replicate (xs.length + 1) wUndo)).2 = e8 at v2 v5 hn8 hf8
          have t16 : orT (notT (tobM (callM 2 r__law_equal_1 (consA (callM 2 r_played (consA (varM 5) (consA (wordsX (Str.ofString "undo")) nilA))) (consA boolsM nilA))))) (tobM (bin2 (eqX true (fun c => d_law.eqt.lookup c)) (edT 5) (varM 3))) (lL (some (.sc sl)) (some (.ref G.length)) (some (drU s)) (some (.str t)) x4 (some (.ref i)) (some wr) (wordsM y.met) (dueM y.met) (some (.int (xs.length : Nat))) (some (.lst (its.map itU))) (some (.lst (y.met.map metU))) y12 y13 y14 none) G7 = .ok false G8 := by
            refine orT_e (G1 := G8) ?_ (tob_bl (text_same (neg := true) (t := t) v2 rfl hT hn8 rfl))
            refine notT_p (b := true) (tob_bl ?_)
            rw [call2 v1 (bools_at rfl (by omega))]
            have hq := eqN_bools (n := xs.length) (by omega)
            show r_eq 1 _ _ = _
            unfold r_eq
            simp only [hq]
          -- done again
          have hfl8 : e8.fut.length = xs.length := (congrArg List.length hf8).trans u6
          have ZZ := redo_all (s := s) xs.length hfl8
          have z1 := ZZ.1
          have z2 := ZZ.2.1
          have z3 := ZZ.2.2
          clear ZZ
          obtain ⟨G9, fj9, b1, b2, b3, b4, b5⟩ := playedM v2 ho v5 (ws := List.replicate (xs.length + 1) wRedo) (by simp; omega) (fun w hw => by rw [List.eq_of_mem_replicate hw]; decide) (sg := lL (some (.sc sl)) (some (.ref G.length)) (some (drU s)) (some (.str t)) x4 (some (.ref i)) (some wr) (wordsM y.met) (dueM y.met) (some (.int (xs.length : Nat))) (some (.lst (its.map itU))) (some (.lst (y.met.map metU))) y12 y13 y14 none) (m := wordsX (Str.ofString "redo")) rfl (wordsX_at (by simp [wRedo]) rfl (by omega))
          have hF9 := fr_ed hF8 b3 (by omega) (by omega) (by omega)
          rw [z1] at b1
          have hn9 : (playedE s e8 (List.replicate (xs.length + 1) wRedo)).2.now.1 = sgn its := by
            cases hy : ys with
            | nil =>
              have := z3 (by rw [hf8, hy])
              rw [this, hn8]
              have hx : xs = [] := List.eq_nil_of_length_eq_zero (by rw [← u6, hy]; rfl)
              rw [hx] at px2
              have hwn : wordsM y.met = [] := List.eq_nil_of_length_eq_zero (by simp at px2; omega)
              have hq := hL.now
              rw [hwn] at hq
              exact hq
            | cons z r =>
              have := z2 z r (by rw [hf8, hy])
              rw [this, u7 z r hy, hnow]
          obtain ⟨g, hg⟩ := hF9.pre (by simp)
          have hfin : andM (bin2 (eqX false (fun c => d_law.eqt.lookup c)) (callM 2 r_played (consA (varM 5) (consA (wordsX (Str.ofString "redo")) nilA))) boolsM) (bin2 (eqX false (fun c => d_law.eqt.lookup c)) (edT 5) (callM 1 r__law_signs (consA (varM 10) nilA))) (lL (some (.sc sl)) (some (.ref G.length)) (some (drU s)) (some (.str t)) x4 (some (.ref i)) (some wr) (wordsM y.met) (dueM y.met) (some (.int (xs.length : Nat))) (some (.lst (its.map itU))) (some (.lst (y.met.map metU))) y12 y13 y14 none) G8 = .ok (.bl true) G9 :=
            andM_e (G1 := G9) ((bin2_ok b1 (bools_at rfl (by omega))).trans (eqX_same (neg := false) pd_bools)) (text_same (neg := false) (t := sgn its) b2 rfl hTi hn9 (hsig rfl))
          have c14 : ∀ mt : MS, seqM (ifM (orT (notT (tobM (callM 2 r__law_equal_1 (consA (callM 2 r_played (consA (varM 5) (consA (varM 7) nilA))) (consA (varM 8) nilA))))) (tobM (bin2 (eqX true (fun c => d_law.eqt.lookup c)) (edT 5) (callM 1 r__law_signs (consA (varM 10) nilA))))) (stE (litM (.bl false)) rtM) nxM) mt (lL (some (.sc sl)) (some (.ref G.length)) (some (drU s)) (some (.str t)) x4 (some (.ref i)) (some wr) (wordsM y.met) (dueM y.met) none (some (.lst (its.map itU))) (some (.lst (y.met.map metU))) y12 y13 y14 none) G6 = mt (lL (some (.sc sl)) (some (.ref G.length)) (some (drU s)) (some (.str t)) x4 (some (.ref i)) (some wr) (wordsM y.met) (dueM y.met) none (some (.lst (its.map itU))) (some (.lst (y.met.map metU))) y12 y13 y14 none) G7 := fun mt => seqM_if t14
          have c15 : ∀ mt : MS, seqM (stE (bin2 fdivU (preM lenU (consA (varM 7) nilA)) (litM (.int 2))) (setM 9)) mt (lL (some (.sc sl)) (some (.ref G.length)) (some (drU s)) (some (.str t)) x4 (some (.ref i)) (some wr) (wordsM y.met) (dueM y.met) none (some (.lst (its.map itU))) (some (.lst (y.met.map metU))) y12 y13 y14 none) G7 = mt (lL (some (.sc sl)) (some (.ref G.length)) (some (drU s)) (some (.str t)) x4 (some (.ref i)) (some wr) (wordsM y.met) (dueM y.met) (some (.int (xs.length : Nat))) (some (.lst (its.map itU))) (some (.lst (y.met.map metU))) y12 y13 y14 none) G7 := fun mt => seqM_set hm15
          have c16 : ∀ mt : MS, seqM (ifM (orT (notT (tobM (callM 2 r__law_equal_1 (consA (callM 2 r_played (consA (varM 5) (consA (wordsX (Str.ofString "undo")) nilA))) (consA boolsM nilA))))) (tobM (bin2 (eqX true (fun c => d_law.eqt.lookup c)) (edT 5) (varM 3)))) (stE (litM (.bl false)) rtM) nxM) mt (lL (some (.sc sl)) (some (.ref G.length)) (some (drU s)) (some (.str t)) x4 (some (.ref i)) (some wr) (wordsM y.met) (dueM y.met) (some (.int (xs.length : Nat))) (some (.lst (its.map itU))) (some (.lst (y.met.map metU))) y12 y13 y14 none) G7 = mt (lL (some (.sc sl)) (some (.ref G.length)) (some (drU s)) (some (.str t)) x4 (some (.ref i)) (some wr) (wordsM y.met) (dueM y.met) (some (.int (xs.length : Nat))) (some (.lst (its.map itU))) (some (.lst (y.met.map metU))) y12 y13 y14 none) G8 := fun mt => seqM_if t16
          refine cut_n ((c14 _).trans ((c15 _).trans ((c16 _).trans (stE_rt hfin)))) ?_
          rw [hg]
          exact cut_new rfl
      · exact .inl rfl
    · exact .inl rfl
  · exact .inl rfl
end FL

namespace FL
open PySem L2 PyProof.Rows
theorem le__law_equal : Le r__law_equal (runB d__law_equal 40 s__law_equal) := fun us G => by
  unfold r__law_equal r_eq
  split
  · rename_i u v
    cases e : eqN 0 u v with
    | none => exact .inl rfl
    | some b =>
      refine .inr ?_
      rw [run__law_equal]
      exact (congrArg runR (eq_zero (G := G) (et := fun c => d__law_equal.eqt.lookup c) e)).symm
  · exact .inl rfl
theorem le__law_equal_1 : Le r__law_equal_1 (runB d__law_equal_1 40 s__law_equal) := fun us G => by
  unfold r__law_equal_1 r_eq
  split
  · rename_i u v
    cases e : eqN 1 u v with
    | none => exact .inl rfl
    | some b =>
      refine .inr ?_
      rw [run__law_equal_1]
      exact (congrArg runR (eq_succ (G := G) (et := fun c => d__law_equal_1.eqt.lookup c) e)).symm
  · exact .inl rfl
end FL

namespace FL
open PySem L2 PyProof.Rows
theorem law_true (ns : List Int) (h : ns.length ≤ 63) : r_law [.sc (ns.map .int)] [] = .ok (.bl true) [] := by simp [r_law, h]
/-! the chain -/
def flds : List (Str × List Nat) := [("word", [0]), ("put", [0]), ("keep", [0]), ("turn", [0]), ("deeds", [0]), ("passes", [0]), ("stepper", [2, 3]), ("pending", [2]), ("next_deed", [2]), ("is_stopped", [2]), ("written", [2]), ("many", [2]), ("met", [2]), ("is_endless", [2]), ("seen", [1]), ("now", [3]), ("past", [3]), ("future", [3])]
def atts : List Str := ["word", "put", "keep", "turn", "deeds", "passes", "stepper", "pending", "next_deed", "is_stopped", "written", "many", "met", "is_endless", "seen", "now", "past", "future", "pass_number", "field", "text", "index", "hits", "choose", "next", "deed", "need_chosen", "keep_hit", "replace_hit", "undo", "redo", "turned"]
theorem atts_nd : atts.Nodup := by decide +kernel
abbrev tb (K : PySem.W.Frag) (C0 C1 C2 C3 C4 C5 C6 C7 C8 C9 : Addr) : Tb := ⟨K, [C0, C1, C2, C3, C4, C5, C6, C7, C8, C9], atts⟩
structure Facts (K : PySem.W.Frag) (mg : Str → Option Value) (C0 C1 C2 C3 C4 C5 C6 C7 C8 C9 : Addr) : Prop where
  isi : IsiOk K (tb K C0 C1 C2 C3 C4 C5 C6 C7 C8 C9) [0]
  fld : ∀ f cs, (f, cs) ∈ flds → ∀ c ∈ cs, FldOk K (tb K C0 C1 C2 C3 C4 C5 C6 C7 C8 C9) c f
  bl : ∀ x, x ∈ bls → mg x = none
  g0 : mg "Stepper" = some (.ref C0)
  cl0 : Cls K C0
  mk0 : PySem.W.makesIn K C0 = true
  kc0 : PySem.W.keepIn K (.ref C0) = true
  g1 : mg "Loops" = some (.ref C1)
  cl1 : Cls K C1
  g2 : mg "Scan" = some (.ref C2)
  cl2 : Cls K C2
  mk2 : PySem.W.makesIn K C2 = true
  kc2 : PySem.W.keepIn K (.ref C2) = true
  g3 : mg "Editor" = some (.ref C3)
  cl3 : Cls K C3
  mk3 : PySem.W.makesIn K C3 = true
  kc3 : PySem.W.keepIn K (.ref C3) = true
  g4 : mg "HitError" = some (.ref C4)
  g5 : mg "InvalidStepper" = some (.ref C5)
  g6 : mg "InvalidText" = some (.ref C6)
  g7 : mg "NothingChosen" = some (.ref C7)
  g8 : mg "Endless" = some (.ref C8)
  g9 : mg "UnknownWord" = some (.ref C9)
  xs : XsOk K (tb K C0 C1 C2 C3 C4 C5 C6 C7 C8 C9) exs
  xi : XiOk K (tb K C0 C1 C2 C3 C4 C5 C6 C7 C8 C9) exi
  con_SIGNS : ∃ v val, mg "SIGNS" = some val ∧ RelV v val ∧ ∀ ρ Z H, Rep (tb K C0 C1 C2 C3 C4 C5 C6 C7 C8 C9) ρ Z H v c_SIGNS
  con_MOST_SIGNS : ∃ v val, mg "MOST_SIGNS" = some val ∧ RelV v val ∧ ∀ ρ Z H, Rep (tb K C0 C1 C2 C3 C4 C5 C6 C7 C8 C9) ρ Z H v (.int 3)
  con_MOST_DEEDS : ∃ v val, mg "MOST_DEEDS" = some val ∧ RelV v val ∧ ∀ ρ Z H, Rep (tb K C0 C1 C2 C3 C4 C5 C6 C7 C8 C9) ρ Z H v (.int 3)
  con_KEEPS : ∃ v val, mg "KEEPS" = some val ∧ RelV v val ∧ ∀ ρ Z H, Rep (tb K C0 C1 C2 C3 C4 C5 C6 C7 C8 C9) ρ Z H v c_KEEPS
  con_TURNS : ∃ v val, mg "TURNS" = some val ∧ RelV v val ∧ ∀ ρ Z H, Rep (tb K C0 C1 C2 C3 C4 C5 C6 C7 C8 C9) ρ Z H v c_TURNS
  con_DEEDS : ∃ v val, mg "DEEDS" = some val ∧ RelV v val ∧ ∀ ρ Z H, Rep (tb K C0 C1 C2 C3 C4 C5 C6 C7 C8 C9) ρ Z H v c_DEEDS
  con_MOST_PASSES : ∃ v val, mg "MOST_PASSES" = some val ∧ RelV v val ∧ ∀ ρ Z H, Rep (tb K C0 C1 C2 C3 C4 C5 C6 C7 C8 C9) ρ Z H v (.int 2)
  con_WORDS : ∃ v val, mg "WORDS" = some val ∧ RelV v val ∧ ∀ ρ Z H, Rep (tb K C0 C1 C2 C3 C4 C5 C6 C7 C8 C9) ρ Z H v c_WORDS
theorem sc_is_integer : FnScope d_is_integer.N ["value"] (defScope s_is_integer) := ⟨rfl, rfl, rfl, by decide +kernel, rfl, by decide +kernel, by decide +kernel⟩
theorem sc_is_text : FnScope d_is_text.N ["value"] (defScope s_is_text) := ⟨rfl, rfl, rfl, by decide +kernel, rfl, by decide +kernel, by decide +kernel⟩
theorem sc_need_text : FnScope d_need_text.N ["value"] (defScope s_need_text) := ⟨rfl, rfl, rfl, by decide +kernel, rfl, by decide +kernel, by decide +kernel⟩
theorem sc_is_one_of : FnScope d_is_one_of.N ["value", "words"] (defScope s_is_one_of) := ⟨rfl, rfl, rfl, by decide +kernel, rfl, by decide +kernel, by decide +kernel⟩
theorem sc_are_deeds : FnScope d_are_deeds.N ["value"] (defScope s_are_deeds) := ⟨rfl, rfl, rfl, by decide +kernel, rfl, by decide +kernel, by decide +kernel⟩
theorem sc_need_fields : FnScope d_need_fields.N ["word", "put", "keep", "turn", "deeds", "passes"] (defScope s_need_fields) := ⟨rfl, rfl, rfl, by decide +kernel, rfl, by decide +kernel, by decide +kernel⟩
theorem sc_Stepper_init : FnScope d_Stepper_init.N ["self", "word", "put", "keep", "turn", "deeds", "passes"] (defScope s_Stepper_init) := ⟨rfl, rfl, rfl, by decide +kernel, rfl, by decide +kernel, by decide +kernel⟩
theorem sc_Scan_init : FnScope d_Scan_init.N ["self", "stepper", "pending", "at", "is_stopped"] (defScope s_Scan_init) := ⟨rfl, rfl, rfl, by decide +kernel, rfl, by decide +kernel, by decide +kernel⟩
theorem sc_Scan_turned : FnScope d_Scan_turned.N ["self", "many"] (defScope s_Scan_turned) := ⟨rfl, rfl, rfl, by decide +kernel, rfl, by decide +kernel, by decide +kernel⟩
theorem sc_places_in : FnScope d_places_in.N ["word", "text"] (defScope s_places_in) := ⟨rfl, rfl, rfl, by decide +kernel, rfl, by decide +kernel, by decide +kernel⟩
theorem sc_Editor_init : FnScope d_Editor_init.N ["self", "stepper", "text"] (defScope s_Editor_init) := ⟨rfl, rfl, rfl, by decide +kernel, rfl, by decide +kernel, by decide +kernel⟩
theorem sc_Editor_text : FnScope d_Editor_text.N ["self"] (defScope s_Editor_text) := ⟨rfl, rfl, rfl, by decide +kernel, rfl, by decide +kernel, by decide +kernel⟩
theorem sc_Editor_hits : FnScope d_Editor_hits.N ["self"] (defScope s_Editor_hits) := ⟨rfl, rfl, rfl, by decide +kernel, rfl, by decide +kernel, by decide +kernel⟩
theorem sc_Editor_choose : FnScope d_Editor_choose.N ["self", "places"] (defScope s_Editor_choose) := ⟨rfl, rfl, rfl, by decide +kernel, rfl, by decide +kernel, by decide +kernel⟩
theorem sc_Editor_next : FnScope d_Editor_next.N ["self"] (defScope s_Editor_next) := ⟨rfl, rfl, rfl, by decide +kernel, rfl, by decide +kernel, by decide +kernel⟩
theorem sc_Editor_deed : FnScope d_Editor_deed.N ["self", "text", "caret"] (defScope s_Editor_deed) := ⟨rfl, rfl, rfl, by decide +kernel, rfl, by decide +kernel, by decide +kernel⟩
theorem sc_Editor_need_chosen : FnScope d_Editor_need_chosen.N ["self"] (defScope s_Editor_need_chosen) := ⟨rfl, rfl, rfl, by decide +kernel, rfl, by decide +kernel, by decide +kernel⟩
theorem sc_Editor_keep_hit : FnScope d_Editor_keep_hit.N ["self"] (defScope s_Editor_keep_hit) := ⟨rfl, rfl, rfl, by decide +kernel, rfl, by decide +kernel, by decide +kernel⟩
theorem sc_Editor_replace_hit : FnScope d_Editor_replace_hit.N ["self"] (defScope s_Editor_replace_hit) := ⟨rfl, rfl, rfl, by decide +kernel, rfl, by decide +kernel, by decide +kernel⟩
theorem sc_Editor_undo : FnScope d_Editor_undo.N ["self"] (defScope s_Editor_undo) := ⟨rfl, rfl, rfl, by decide +kernel, rfl, by decide +kernel, by decide +kernel⟩
theorem sc_Editor_redo : FnScope d_Editor_redo.N ["self"] (defScope s_Editor_redo) := ⟨rfl, rfl, rfl, by decide +kernel, rfl, by decide +kernel, by decide +kernel⟩
theorem sc_done_word : FnScope d_done_word.N ["editor", "word"] (defScope s_done_word) := ⟨rfl, rfl, rfl, by decide +kernel, rfl, by decide +kernel, by decide +kernel⟩
theorem sc_told_word : FnScope d_told_word.N ["editor", "word"] (defScope s_told_word) := ⟨rfl, rfl, rfl, by decide +kernel, rfl, by decide +kernel, by decide +kernel⟩
theorem sc_played : FnScope d_played.N ["editor", "words"] (defScope s_played) := ⟨rfl, rfl, rfl, by decide +kernel, rfl, by decide +kernel, by decide +kernel⟩
theorem sc__law_random : FnScope d__law_random.N ["_law_script", "_law_salt"] (defScope s__law_random) := ⟨rfl, rfl, rfl, by decide +kernel, rfl, by decide +kernel, by decide +kernel⟩
theorem sc__law_below : FnScope d__law_below.N ["_law_d", "_law_size"] (defScope s__law_below) := ⟨rfl, rfl, rfl, by decide +kernel, rfl, by decide +kernel, by decide +kernel⟩
theorem sc__law_pick : FnScope d__law_pick.N ["_law_d", "_law_items"] (defScope s__law_pick) := ⟨rfl, rfl, rfl, by decide +kernel, rfl, by decide +kernel, by decide +kernel⟩
theorem sc__law_equal : FnScope d__law_equal.N ["_law_actual", "_law_expected"] (defScope s__law_equal) := ⟨rfl, rfl, rfl, by decide +kernel, rfl, by decide +kernel, by decide +kernel⟩
theorem sc__law_equal_1 : FnScope d__law_equal_1.N ["_law_actual", "_law_expected"] (defScope s__law_equal) := ⟨rfl, rfl, rfl, by decide +kernel, rfl, by decide +kernel, by decide +kernel⟩
theorem sc__law_drawn : FnScope d__law_drawn.N ["_law_d"] (defScope s__law_drawn) := ⟨rfl, rfl, rfl, by decide +kernel, rfl, by decide +kernel, by decide +kernel⟩
theorem sc__law_make : FnScope d__law_make.N ["_law_s"] (defScope s__law_make) := ⟨rfl, rfl, rfl, by decide +kernel, rfl, by decide +kernel, by decide +kernel⟩
theorem sc__law_text : FnScope d__law_text.N ["_law_d", "_law_s", "_law_many"] (defScope s__law_text) := ⟨rfl, rfl, rfl, by decide +kernel, rfl, by decide +kernel, by decide +kernel⟩
theorem sc__law_find : FnScope d__law_find.N ["_law_word", "_law_items", "_law_start"] (defScope s__law_find) := ⟨rfl, rfl, rfl, by decide +kernel, rfl, by decide +kernel, by decide +kernel⟩
theorem sc__law_ahead : FnScope d__law_ahead.N ["_law_s"] (defScope s__law_ahead) := ⟨rfl, rfl, rfl, by decide +kernel, rfl, by decide +kernel, by decide +kernel⟩
theorem sc__law_pass : FnScope d__law_pass.N ["_law_s", "_law_items"] (defScope s__law_pass) := ⟨rfl, rfl, rfl, by decide +kernel, rfl, by decide +kernel, by decide +kernel⟩
theorem sc__law_signs : FnScope d__law_signs.N ["_law_items"] (defScope s__law_signs) := ⟨rfl, rfl, rfl, by decide +kernel, rfl, by decide +kernel, by decide +kernel⟩
theorem sc__law_refused : FnScope d__law_refused.N ["_law_editor", "_law_words"] (defScope s__law_refused) := ⟨rfl, rfl, rfl, by decide +kernel, rfl, by decide +kernel, by decide +kernel⟩
theorem sc_law : FnScope d_law.N ["_law_script"] (defScope s_law) := ⟨rfl, rfl, rfl, by decide +kernel, rfl, by decide +kernel, by decide +kernel⟩
theorem sc_InvalidStepper_init : FnScope ["self", "field"] ["self", "field"] (defScope s_InvalidStepper_init) := ⟨rfl, rfl, rfl, by decide +kernel, rfl, by decide +kernel, by decide +kernel⟩
theorem sc_Endless_init : FnScope ["self", "pass_number"] ["self", "pass_number"] (defScope s_Endless_init) := ⟨rfl, rfl, rfl, by decide +kernel, rfl, by decide +kernel, by decide +kernel⟩
theorem sc_UnknownWord_init : FnScope ["self", "index"] ["self", "index"] (defScope s_UnknownWord_init) := ⟨rfl, rfl, rfl, by decide +kernel, rfl, by decide +kernel, by decide +kernel⟩
section
variable {P : Program} {w : World} {K : PySem.W.Frag} {mg : Str → Option Value} {base : Heap} {C0 C1 C2 C3 C4 C5 C6 C7 C8 C9 : Addr}
set_option maxHeartbeats 4000000 in
theorem chain (F : Facts K mg C0 C1 C2 C3 C4 C5 C6 C7 C8 C9)
    {f_is_integer : Addr} {fd_is_integer : FuncData} (F_is_integer : Fun K "is_integer" "is_integer" s_is_integer f_is_integer fd_is_integer)
    (g_is_integer : mg "is_integer" = some (.ref f_is_integer))
    {f_is_text : Addr} {fd_is_text : FuncData} (F_is_text : Fun K "is_text" "is_text" s_is_text f_is_text fd_is_text)
    (g_is_text : mg "is_text" = some (.ref f_is_text))
    {f_need_text : Addr} {fd_need_text : FuncData} (F_need_text : Fun K "need_text" "need_text" s_need_text f_need_text fd_need_text)
    (g_need_text : mg "need_text" = some (.ref f_need_text))
    {f_is_one_of : Addr} {fd_is_one_of : FuncData} (F_is_one_of : Fun K "is_one_of" "is_one_of" s_is_one_of f_is_one_of fd_is_one_of)
    (g_is_one_of : mg "is_one_of" = some (.ref f_is_one_of))
    {f_are_deeds : Addr} {fd_are_deeds : FuncData} (F_are_deeds : Fun K "are_deeds" "are_deeds" s_are_deeds f_are_deeds fd_are_deeds)
    (g_are_deeds : mg "are_deeds" = some (.ref f_are_deeds))
    {f_need_fields : Addr} {fd_need_fields : FuncData} (F_need_fields : Fun K "need_fields" "need_fields" s_need_fields f_need_fields fd_need_fields)
    (g_need_fields : mg "need_fields" = some (.ref f_need_fields))
    {f_Stepper_init : Addr} {fd_Stepper_init : FuncData} (F_Stepper_init : Fun K "__init__" "Stepper.__init__" s_Stepper_init f_Stepper_init fd_Stepper_init)
    (i_Stepper_init : PySem.W.findIn K (.ref C0) "__init__" = some (some (.ref f_Stepper_init))) (j_Stepper_init : PySem.W.isFn K (.ref f_Stepper_init) = true)
    {f_Scan_init : Addr} {fd_Scan_init : FuncData} (F_Scan_init : Fun K "__init__" "Scan.__init__" s_Scan_init f_Scan_init fd_Scan_init)
    (i_Scan_init : PySem.W.findIn K (.ref C2) "__init__" = some (some (.ref f_Scan_init))) (j_Scan_init : PySem.W.isFn K (.ref f_Scan_init) = true)
    {f_Scan_turned : Addr} {fd_Scan_turned : FuncData} (F_Scan_turned : Fun K "turned" "Scan.turned" s_Scan_turned f_Scan_turned fd_Scan_turned)
    (i_Scan_turned : PySem.W.findIn K (.ref C2) "turned" = some (some (.ref f_Scan_turned))) (j_Scan_turned : PySem.W.isFn K (.ref f_Scan_turned) = true)
    {f_places_in : Addr} {fd_places_in : FuncData} (F_places_in : Fun K "places_in" "places_in" s_places_in f_places_in fd_places_in)
    (g_places_in : mg "places_in" = some (.ref f_places_in))
    {f_Editor_init : Addr} {fd_Editor_init : FuncData} (F_Editor_init : Fun K "__init__" "Editor.__init__" s_Editor_init f_Editor_init fd_Editor_init)
    (i_Editor_init : PySem.W.findIn K (.ref C3) "__init__" = some (some (.ref f_Editor_init))) (j_Editor_init : PySem.W.isFn K (.ref f_Editor_init) = true)
    {f_Editor_text : Addr} {fd_Editor_text : FuncData} (F_Editor_text : Fun K "text" "Editor.text" s_Editor_text f_Editor_text fd_Editor_text)
    {p_Editor_text : Addr} (P_Editor_text : PropOf K C3 "text" p_Editor_text f_Editor_text)
    {f_Editor_hits : Addr} {fd_Editor_hits : FuncData} (F_Editor_hits : Fun K "hits" "Editor.hits" s_Editor_hits f_Editor_hits fd_Editor_hits)
    (i_Editor_hits : PySem.W.findIn K (.ref C3) "hits" = some (some (.ref f_Editor_hits))) (j_Editor_hits : PySem.W.isFn K (.ref f_Editor_hits) = true)
    {f_Editor_choose : Addr} {fd_Editor_choose : FuncData} (F_Editor_choose : Fun K "choose" "Editor.choose" s_Editor_choose f_Editor_choose fd_Editor_choose)
    (i_Editor_choose : PySem.W.findIn K (.ref C3) "choose" = some (some (.ref f_Editor_choose))) (j_Editor_choose : PySem.W.isFn K (.ref f_Editor_choose) = true)
    {f_Editor_next : Addr} {fd_Editor_next : FuncData} (F_Editor_next : Fun K "next" "Editor.next" s_Editor_next f_Editor_next fd_Editor_next)
    (i_Editor_next : PySem.W.findIn K (.ref C3) "next" = some (some (.ref f_Editor_next))) (j_Editor_next : PySem.W.isFn K (.ref f_Editor_next) = true)
    {f_Editor_deed : Addr} {fd_Editor_deed : FuncData} (F_Editor_deed : Fun K "deed" "Editor.deed" s_Editor_deed f_Editor_deed fd_Editor_deed)
    (i_Editor_deed : PySem.W.findIn K (.ref C3) "deed" = some (some (.ref f_Editor_deed))) (j_Editor_deed : PySem.W.isFn K (.ref f_Editor_deed) = true)
    {f_Editor_need_chosen : Addr} {fd_Editor_need_chosen : FuncData} (F_Editor_need_chosen : Fun K "need_chosen" "Editor.need_chosen" s_Editor_need_chosen f_Editor_need_chosen fd_Editor_need_chosen)
    (i_Editor_need_chosen : PySem.W.findIn K (.ref C3) "need_chosen" = some (some (.ref f_Editor_need_chosen))) (j_Editor_need_chosen : PySem.W.isFn K (.ref f_Editor_need_chosen) = true)
    {f_Editor_keep_hit : Addr} {fd_Editor_keep_hit : FuncData} (F_Editor_keep_hit : Fun K "keep_hit" "Editor.keep_hit" s_Editor_keep_hit f_Editor_keep_hit fd_Editor_keep_hit)
    (i_Editor_keep_hit : PySem.W.findIn K (.ref C3) "keep_hit" = some (some (.ref f_Editor_keep_hit))) (j_Editor_keep_hit : PySem.W.isFn K (.ref f_Editor_keep_hit) = true)
    {f_Editor_replace_hit : Addr} {fd_Editor_replace_hit : FuncData} (F_Editor_replace_hit : Fun K "replace_hit" "Editor.replace_hit" s_Editor_replace_hit f_Editor_replace_hit fd_Editor_replace_hit)
    (i_Editor_replace_hit : PySem.W.findIn K (.ref C3) "replace_hit" = some (some (.ref f_Editor_replace_hit))) (j_Editor_replace_hit : PySem.W.isFn K (.ref f_Editor_replace_hit) = true)
    {f_Editor_undo : Addr} {fd_Editor_undo : FuncData} (F_Editor_undo : Fun K "undo" "Editor.undo" s_Editor_undo f_Editor_undo fd_Editor_undo)
    (i_Editor_undo : PySem.W.findIn K (.ref C3) "undo" = some (some (.ref f_Editor_undo))) (j_Editor_undo : PySem.W.isFn K (.ref f_Editor_undo) = true)
    {f_Editor_redo : Addr} {fd_Editor_redo : FuncData} (F_Editor_redo : Fun K "redo" "Editor.redo" s_Editor_redo f_Editor_redo fd_Editor_redo)
    (i_Editor_redo : PySem.W.findIn K (.ref C3) "redo" = some (some (.ref f_Editor_redo))) (j_Editor_redo : PySem.W.isFn K (.ref f_Editor_redo) = true)
    {f_done_word : Addr} {fd_done_word : FuncData} (F_done_word : Fun K "done_word" "done_word" s_done_word f_done_word fd_done_word)
    (g_done_word : mg "done_word" = some (.ref f_done_word))
    {f_told_word : Addr} {fd_told_word : FuncData} (F_told_word : Fun K "told_word" "told_word" s_told_word f_told_word fd_told_word)
    (g_told_word : mg "told_word" = some (.ref f_told_word))
    {f_played : Addr} {fd_played : FuncData} (F_played : Fun K "played" "played" s_played f_played fd_played)
    (g_played : mg "played" = some (.ref f_played))
    {f__law_random : Addr} {fd__law_random : FuncData} (F__law_random : Fun K "_law_random" "_law_random" s__law_random f__law_random fd__law_random)
    (g__law_random : mg "_law_random" = some (.ref f__law_random))
    {f__law_below : Addr} {fd__law_below : FuncData} (F__law_below : Fun K "_law_below" "_law_below" s__law_below f__law_below fd__law_below)
    (g__law_below : mg "_law_below" = some (.ref f__law_below))
    {f__law_pick : Addr} {fd__law_pick : FuncData} (F__law_pick : Fun K "_law_pick" "_law_pick" s__law_pick f__law_pick fd__law_pick)
    (g__law_pick : mg "_law_pick" = some (.ref f__law_pick))
    {f__law_equal : Addr} {fd__law_equal : FuncData} (F__law_equal : Fun K "_law_equal" "_law_equal" s__law_equal f__law_equal fd__law_equal)
    (g__law_equal : mg "_law_equal" = some (.ref f__law_equal))
    {f__law_drawn : Addr} {fd__law_drawn : FuncData} (F__law_drawn : Fun K "_law_drawn" "_law_drawn" s__law_drawn f__law_drawn fd__law_drawn)
    (g__law_drawn : mg "_law_drawn" = some (.ref f__law_drawn))
    {f__law_make : Addr} {fd__law_make : FuncData} (F__law_make : Fun K "_law_make" "_law_make" s__law_make f__law_make fd__law_make)
    (g__law_make : mg "_law_make" = some (.ref f__law_make))
    {f__law_text : Addr} {fd__law_text : FuncData} (F__law_text : Fun K "_law_text" "_law_text" s__law_text f__law_text fd__law_text)
    (g__law_text : mg "_law_text" = some (.ref f__law_text))
    {f__law_find : Addr} {fd__law_find : FuncData} (F__law_find : Fun K "_law_find" "_law_find" s__law_find f__law_find fd__law_find)
    (g__law_find : mg "_law_find" = some (.ref f__law_find))
    {f__law_ahead : Addr} {fd__law_ahead : FuncData} (F__law_ahead : Fun K "_law_ahead" "_law_ahead" s__law_ahead f__law_ahead fd__law_ahead)
    (g__law_ahead : mg "_law_ahead" = some (.ref f__law_ahead))
    {f__law_pass : Addr} {fd__law_pass : FuncData} (F__law_pass : Fun K "_law_pass" "_law_pass" s__law_pass f__law_pass fd__law_pass)
    (g__law_pass : mg "_law_pass" = some (.ref f__law_pass))
    {f__law_signs : Addr} {fd__law_signs : FuncData} (F__law_signs : Fun K "_law_signs" "_law_signs" s__law_signs f__law_signs fd__law_signs)
    (g__law_signs : mg "_law_signs" = some (.ref f__law_signs))
    {f__law_refused : Addr} {fd__law_refused : FuncData} (F__law_refused : Fun K "_law_refused" "_law_refused" s__law_refused f__law_refused fd__law_refused)
    (g__law_refused : mg "_law_refused" = some (.ref f__law_refused))
    {f_law : Addr} {fd_law : FuncData} (F_law : Fun K "law" "law" s_law f_law fd_law)
    (g_law : mg "law" = some (.ref f_law))
    (X_HitError : XcOk P w K mg base (tb K C0 C1 C2 C3 C4 C5 C6 C7 C8 C9) 1 "HitError" (4, none))
    (X_InvalidStepper : XcOk P w K mg base (tb K C0 C1 C2 C3 C4 C5 C6 C7 C8 C9) 1 "InvalidStepper" (5, some 19))
    (X_InvalidText : XcOk P w K mg base (tb K C0 C1 C2 C3 C4 C5 C6 C7 C8 C9) 1 "InvalidText" (6, none))
    (X_NothingChosen : XcOk P w K mg base (tb K C0 C1 C2 C3 C4 C5 C6 C7 C8 C9) 1 "NothingChosen" (7, none))
    (X_Endless : XcOk P w K mg base (tb K C0 C1 C2 C3 C4 C5 C6 C7 C8 C9) 1 "Endless" (8, some 18))
    (X_UnknownWord : XcOk P w K mg base (tb K C0 C1 C2 C3 C4 C5 C6 C7 C8 C9) 1 "UnknownWord" (9, some 21)) :
    FnOk P w K mg base (L2.CX P w) 16 f_law fd_law ["_law_script"] (spD (tb K C0 C1 C2 C3 C4 C5 C6 C7 C8 C9) 1 r_law) := by
  have t_is_integer : TabOk P w K mg base (tb K C0 C1 C2 C3 C4 C5 C6 C7 C8 C9) 0 d_is_integer := tab_mk (att_of atts_nd K [C0, C1, C2, C3, C4, C5, C6, C7, C8, C9]) trivial F.bl trivial F.isi trivial trivial trivial trivial xs_nil xi_nil
  have O_is_integer : DefOk P w K mg base (tb K C0 C1 C2 C3 C4 C5 C6 C7 C8 C9) 2 f_is_integer 1 r_is_integer := (def_body (n := 40) F_is_integer sc_is_integer (F_is_integer.binds (ps := ["value"]) fun _ _ _ _ _ _ us hl => match us, hl with | [_], _ => rfl) rfl t_is_integer).le le_is_integer
  have t_is_text : TabOk P w K mg base (tb K C0 C1 C2 C3 C4 C5 C6 C7 C8 C9) 0 d_is_text := tab_mk (att_of atts_nd K [C0, C1, C2, C3, C4, C5, C6, C7, C8, C9]) ⟨F.con_SIGNS, trivial⟩ F.bl trivial F.isi trivial trivial trivial trivial xs_nil xi_nil
  have O_is_text : DefOk P w K mg base (tb K C0 C1 C2 C3 C4 C5 C6 C7 C8 C9) 2 f_is_text 1 r_is_text := (def_body (n := 40) F_is_text sc_is_text (F_is_text.binds (ps := ["value"]) fun _ _ _ _ _ _ us hl => match us, hl with | [_], _ => rfl) rfl t_is_text).le le_is_text
  have t_need_text : TabOk P w K mg base (tb K C0 C1 C2 C3 C4 C5 C6 C7 C8 C9) 2 d_need_text := tab_mk (att_of atts_nd K [C0, C1, C2, C3, C4, C5, C6, C7, C8, C9]) ⟨⟨f_is_text, g_is_text, F_is_text.kp, O_is_text.mono (by decide)⟩, trivial⟩ F.bl trivial F.isi trivial trivial trivial ⟨X_InvalidText.mono (by decide), trivial⟩ F.xs F.xi
  have O_need_text : DefOk P w K mg base (tb K C0 C1 C2 C3 C4 C5 C6 C7 C8 C9) 4 f_need_text 1 r_need_text := (def_body (n := 40) F_need_text sc_need_text (F_need_text.binds (ps := ["value"]) fun _ _ _ _ _ _ us hl => match us, hl with | [_], _ => rfl) rfl t_need_text).le le_need_text
  have t_is_one_of : TabOk P w K mg base (tb K C0 C1 C2 C3 C4 C5 C6 C7 C8 C9) 0 d_is_one_of := tab_mk (att_of atts_nd K [C0, C1, C2, C3, C4, C5, C6, C7, C8, C9]) trivial F.bl trivial F.isi trivial trivial trivial trivial xs_nil xi_nil
  have O_is_one_of : DefOk P w K mg base (tb K C0 C1 C2 C3 C4 C5 C6 C7 C8 C9) 2 f_is_one_of 2 r_is_one_of := (def_body (n := 40) F_is_one_of sc_is_one_of (F_is_one_of.binds (ps := ["value", "words"]) fun _ _ _ _ _ _ us hl => match us, hl with | [_, _], _ => rfl) rfl t_is_one_of).le le_is_one_of
  have t_are_deeds : TabOk P w K mg base (tb K C0 C1 C2 C3 C4 C5 C6 C7 C8 C9) 2 d_are_deeds := tab_mk (att_of atts_nd K [C0, C1, C2, C3, C4, C5, C6, C7, C8, C9]) ⟨⟨f_is_one_of, g_is_one_of, F_is_one_of.kp, O_is_one_of.mono (by decide)⟩, F.con_DEEDS, F.con_MOST_DEEDS, trivial⟩ F.bl trivial F.isi trivial trivial trivial trivial xs_nil xi_nil
  have O_are_deeds : DefOk P w K mg base (tb K C0 C1 C2 C3 C4 C5 C6 C7 C8 C9) 4 f_are_deeds 1 r_are_deeds := (def_body (n := 40) F_are_deeds sc_are_deeds (F_are_deeds.binds (ps := ["value"]) fun _ _ _ _ _ _ us hl => match us, hl with | [_], _ => rfl) rfl t_are_deeds).le le_are_deeds
  have t_need_fields : TabOk P w K mg base (tb K C0 C1 C2 C3 C4 C5 C6 C7 C8 C9) 4 d_need_fields := tab_mk (att_of atts_nd K [C0, C1, C2, C3, C4, C5, C6, C7, C8, C9]) ⟨F.con_MOST_PASSES, ⟨f_is_integer, g_is_integer, F_is_integer.kp, O_is_integer.mono (by decide)⟩, ⟨f_are_deeds, g_are_deeds, F_are_deeds.kp, O_are_deeds.mono (by decide)⟩, ⟨f_is_one_of, g_is_one_of, F_is_one_of.kp, O_is_one_of.mono (by decide)⟩, F.con_TURNS, F.con_KEEPS, F.con_MOST_SIGNS, ⟨f_is_text, g_is_text, F_is_text.kp, O_is_text.mono (by decide)⟩, trivial⟩ F.bl trivial F.isi trivial trivial trivial ⟨X_InvalidStepper.mono (by decide), trivial⟩ F.xs F.xi
  have O_need_fields : DefOk P w K mg base (tb K C0 C1 C2 C3 C4 C5 C6 C7 C8 C9) 6 f_need_fields 6 r_need_fields := (def_body (n := 40) F_need_fields sc_need_fields (F_need_fields.binds (ps := ["word", "put", "keep", "turn", "deeds", "passes"]) fun _ _ _ _ _ _ us hl => match us, hl with | [_, _, _, _, _, _], _ => rfl) rfl t_need_fields).le le_need_fields
  have t_Stepper_init : TabOk P w K mg base (tb K C0 C1 C2 C3 C4 C5 C6 C7 C8 C9) 6 d_Stepper_init := tab_mk (att_of atts_nd K [C0, C1, C2, C3, C4, C5, C6, C7, C8, C9]) ⟨⟨f_need_fields, g_need_fields, F_need_fields.kp, O_need_fields.mono (by decide)⟩, trivial⟩ F.bl trivial F.isi ⟨⟨rfl, F.fld _ _ (List.mem_of_getElem? (i := 0) rfl), trivial⟩, ⟨rfl, F.fld _ _ (List.mem_of_getElem? (i := 1) rfl), trivial⟩, ⟨rfl, F.fld _ _ (List.mem_of_getElem? (i := 2) rfl), trivial⟩, ⟨rfl, F.fld _ _ (List.mem_of_getElem? (i := 3) rfl), trivial⟩, ⟨rfl, F.fld _ _ (List.mem_of_getElem? (i := 4) rfl), trivial⟩, ⟨rfl, F.fld _ _ (List.mem_of_getElem? (i := 5) rfl), trivial⟩, trivial⟩ trivial trivial trivial xs_nil xi_nil
  have O_Stepper_init : FnOk P w K mg base (L2.CX P w) 8 f_Stepper_init fd_Stepper_init _ (spD (tb K C0 C1 C2 C3 C4 C5 C6 C7 C8 C9) 7 r_Stepper_init) := FnOk.leC (fn_body (n := 40) F_Stepper_init sc_Stepper_init rfl t_Stepper_init) (Le.c le_Stepper_init)
  have t_Scan_init : TabOk P w K mg base (tb K C0 C1 C2 C3 C4 C5 C6 C7 C8 C9) 0 d_Scan_init := tab_mk (att_of atts_nd K [C0, C1, C2, C3, C4, C5, C6, C7, C8, C9]) trivial F.bl trivial F.isi ⟨⟨rfl, F.fld _ _ (List.mem_of_getElem? (i := 6) rfl), trivial⟩, ⟨rfl, F.fld _ _ (List.mem_of_getElem? (i := 7) rfl), trivial⟩, ⟨rfl, F.fld _ _ (List.mem_of_getElem? (i := 8) rfl), trivial⟩, ⟨rfl, F.fld _ _ (List.mem_of_getElem? (i := 9) rfl), trivial⟩, ⟨rfl, F.fld _ _ (List.mem_of_getElem? (i := 10) rfl), trivial⟩, ⟨rfl, F.fld _ _ (List.mem_of_getElem? (i := 11) rfl), trivial⟩, ⟨rfl, F.fld _ _ (List.mem_of_getElem? (i := 12) rfl), trivial⟩, ⟨rfl, F.fld _ _ (List.mem_of_getElem? (i := 13) rfl), trivial⟩, trivial⟩ trivial trivial trivial xs_nil xi_nil
  have O_Scan_init : DefOk P w K mg base (tb K C0 C1 C2 C3 C4 C5 C6 C7 C8 C9) 2 f_Scan_init 5 r_Scan_init := (def_body (n := 40) F_Scan_init sc_Scan_init (F_Scan_init.binds (ps := ["self", "stepper", "pending", "at", "is_stopped"]) fun _ _ _ _ _ _ us hl => match us, hl with | [_, _, _, _, _], _ => rfl) rfl t_Scan_init).le le_Scan_init
  have t_Scan_turned : TabOk P w K mg base (tb K C0 C1 C2 C3 C4 C5 C6 C7 C8 C9) 0 d_Scan_turned := tab_mk (att_of atts_nd K [C0, C1, C2, C3, C4, C5, C6, C7, C8, C9]) trivial F.bl trivial F.isi ⟨⟨rfl, F.fld _ _ (List.mem_of_getElem? (i := 3) rfl), trivial⟩, ⟨rfl, F.fld _ _ (List.mem_of_getElem? (i := 6) rfl), trivial⟩, trivial⟩ trivial trivial trivial xs_nil xi_nil
  have O_Scan_turned : DefOk P w K mg base (tb K C0 C1 C2 C3 C4 C5 C6 C7 C8 C9) 2 f_Scan_turned 2 r_Scan_turned := (def_body (n := 40) F_Scan_turned sc_Scan_turned (F_Scan_turned.binds (ps := ["self", "many"]) fun _ _ _ _ _ _ us hl => match us, hl with | [_, _], _ => rfl) rfl t_Scan_turned).le le_Scan_turned
  have t_places_in : TabOk P w K mg base (tb K C0 C1 C2 C3 C4 C5 C6 C7 C8 C9) 0 d_places_in := tab_mk (att_of atts_nd K [C0, C1, C2, C3, C4, C5, C6, C7, C8, C9]) trivial F.bl trivial F.isi trivial trivial trivial trivial xs_nil xi_nil
  have O_places_in : DefOk P w K mg base (tb K C0 C1 C2 C3 C4 C5 C6 C7 C8 C9) 2 f_places_in 2 r_places_in := (def_body (n := 40) F_places_in sc_places_in (F_places_in.binds (ps := ["word", "text"]) fun _ _ _ _ _ _ us hl => match us, hl with | [_, _], _ => rfl) rfl t_places_in).le le_places_in
  have t_Editor_init : TabOk P w K mg base (tb K C0 C1 C2 C3 C4 C5 C6 C7 C8 C9) 4 d_Editor_init := tab_mk (att_of atts_nd K [C0, C1, C2, C3, C4, C5, C6, C7, C8, C9]) ⟨⟨f_need_text, g_need_text, F_need_text.kp, O_need_text.mono (by decide)⟩, trivial⟩ F.bl trivial F.isi ⟨⟨rfl, F.fld _ _ (List.mem_of_getElem? (i := 6) rfl), trivial⟩, ⟨rfl, F.fld _ _ (List.mem_of_getElem? (i := 15) rfl), trivial⟩, ⟨rfl, F.fld _ _ (List.mem_of_getElem? (i := 16) rfl), trivial⟩, ⟨rfl, F.fld _ _ (List.mem_of_getElem? (i := 17) rfl), trivial⟩, trivial⟩ trivial trivial trivial xs_nil xi_nil
  have O_Editor_init : DefOk P w K mg base (tb K C0 C1 C2 C3 C4 C5 C6 C7 C8 C9) 6 f_Editor_init 3 r_Editor_init := (def_body (n := 40) F_Editor_init sc_Editor_init (F_Editor_init.binds (ps := ["self", "stepper", "text"]) fun _ _ _ _ _ _ us hl => match us, hl with | [_, _, _], _ => rfl) rfl t_Editor_init).le le_Editor_init
  have t_Editor_text : TabOk P w K mg base (tb K C0 C1 C2 C3 C4 C5 C6 C7 C8 C9) 0 d_Editor_text := tab_mk (att_of atts_nd K [C0, C1, C2, C3, C4, C5, C6, C7, C8, C9]) trivial F.bl trivial F.isi ⟨⟨rfl, F.fld _ _ (List.mem_of_getElem? (i := 15) rfl), trivial⟩, trivial⟩ trivial trivial trivial xs_nil xi_nil
  have O_Editor_text : DefOk P w K mg base (tb K C0 C1 C2 C3 C4 C5 C6 C7 C8 C9) 2 f_Editor_text 1 r_Editor_text := (def_body (n := 40) F_Editor_text sc_Editor_text (F_Editor_text.binds (ps := ["self"]) fun _ _ _ _ _ _ us hl => match us, hl with | [_], _ => rfl) rfl t_Editor_text).le le_Editor_text
  have t_Editor_hits : TabOk P w K mg base (tb K C0 C1 C2 C3 C4 C5 C6 C7 C8 C9) 2 d_Editor_hits := tab_mk (att_of atts_nd K [C0, C1, C2, C3, C4, C5, C6, C7, C8, C9]) ⟨⟨f_places_in, g_places_in, F_places_in.kp, O_places_in.mono (by decide)⟩, trivial⟩ F.bl trivial F.isi ⟨⟨rfl, F.fld _ _ (List.mem_of_getElem? (i := 0) rfl), trivial⟩, ⟨rfl, F.fld _ _ (List.mem_of_getElem? (i := 6) rfl), trivial⟩, ⟨rfl, F.fld _ _ (List.mem_of_getElem? (i := 15) rfl), trivial⟩, trivial⟩ trivial trivial trivial xs_nil xi_nil
  have O_Editor_hits : DefOk P w K mg base (tb K C0 C1 C2 C3 C4 C5 C6 C7 C8 C9) 4 f_Editor_hits 1 r_Editor_hits := (def_body (n := 40) F_Editor_hits sc_Editor_hits (F_Editor_hits.binds (ps := ["self"]) fun _ _ _ _ _ _ us hl => match us, hl with | [_], _ => rfl) rfl t_Editor_hits).le le_Editor_hits
  have t_Editor_choose : TabOk P w K mg base (tb K C0 C1 C2 C3 C4 C5 C6 C7 C8 C9) 0 d_Editor_choose := tab_mk (att_of atts_nd K [C0, C1, C2, C3, C4, C5, C6, C7, C8, C9]) trivial F.bl trivial F.isi ⟨⟨rfl, F.fld _ _ (List.mem_of_getElem? (i := 15) rfl), trivial⟩, trivial⟩ trivial trivial trivial xs_nil xi_nil
  have O_Editor_choose : DefOk P w K mg base (tb K C0 C1 C2 C3 C4 C5 C6 C7 C8 C9) 2 f_Editor_choose 2 r_Editor_choose := (def_body (n := 40) F_Editor_choose sc_Editor_choose (F_Editor_choose.binds (ps := ["self", "places"]) fun _ _ _ _ _ _ us hl => match us, hl with | [_, _], _ => rfl) rfl t_Editor_choose).le le_Editor_choose
  have t_Editor_next : TabOk P w K mg base (tb K C0 C1 C2 C3 C4 C5 C6 C7 C8 C9) 4 d_Editor_next := tab_mk (att_of atts_nd K [C0, C1, C2, C3, C4, C5, C6, C7, C8, C9]) trivial F.bl trivial F.isi ⟨⟨rfl, F.fld _ _ (List.mem_of_getElem? (i := 15) rfl), trivial⟩, trivial⟩ ⟨⟨List.cons_ne_nil _ _, ⟨⟨⟨C3, f_Editor_choose, rfl, F.cl3, ⟨i_Editor_choose, j_Editor_choose, F_Editor_choose.kp⟩, rfl, O_Editor_choose.mono (by decide)⟩⟩, trivial⟩⟩, ⟨List.cons_ne_nil _ _, ⟨⟨⟨C3, f_Editor_hits, rfl, F.cl3, ⟨i_Editor_hits, j_Editor_hits, F_Editor_hits.kp⟩, rfl, O_Editor_hits.mono (by decide)⟩⟩, trivial⟩⟩, trivial⟩ trivial trivial xs_nil xi_nil
  have O_Editor_next : DefOk P w K mg base (tb K C0 C1 C2 C3 C4 C5 C6 C7 C8 C9) 6 f_Editor_next 1 r_Editor_next := (def_body (n := 40) F_Editor_next sc_Editor_next (F_Editor_next.binds (ps := ["self"]) fun _ _ _ _ _ _ us hl => match us, hl with | [_], _ => rfl) rfl t_Editor_next).le le_Editor_next
  have t_Editor_deed : TabOk P w K mg base (tb K C0 C1 C2 C3 C4 C5 C6 C7 C8 C9) 0 d_Editor_deed := tab_mk (att_of atts_nd K [C0, C1, C2, C3, C4, C5, C6, C7, C8, C9]) trivial F.bl trivial F.isi ⟨⟨rfl, F.fld _ _ (List.mem_of_getElem? (i := 15) rfl), trivial⟩, ⟨rfl, F.fld _ _ (List.mem_of_getElem? (i := 16) rfl), trivial⟩, ⟨rfl, F.fld _ _ (List.mem_of_getElem? (i := 17) rfl), trivial⟩, trivial⟩ trivial trivial trivial xs_nil xi_nil
  have O_Editor_deed : DefOk P w K mg base (tb K C0 C1 C2 C3 C4 C5 C6 C7 C8 C9) 2 f_Editor_deed 3 r_Editor_deed := (def_body (n := 40) F_Editor_deed sc_Editor_deed (F_Editor_deed.binds (ps := ["self", "text", "caret"]) fun _ _ _ _ _ _ us hl => match us, hl with | [_, _, _], _ => rfl) rfl t_Editor_deed).le le_Editor_deed
  have t_Editor_need_chosen : TabOk P w K mg base (tb K C0 C1 C2 C3 C4 C5 C6 C7 C8 C9) 1 d_Editor_need_chosen := tab_mk (att_of atts_nd K [C0, C1, C2, C3, C4, C5, C6, C7, C8, C9]) trivial F.bl trivial F.isi ⟨⟨rfl, F.fld _ _ (List.mem_of_getElem? (i := 15) rfl), trivial⟩, trivial⟩ trivial trivial ⟨X_NothingChosen.mono (by decide), trivial⟩ F.xs F.xi
  have O_Editor_need_chosen : DefOk P w K mg base (tb K C0 C1 C2 C3 C4 C5 C6 C7 C8 C9) 3 f_Editor_need_chosen 1 r_Editor_need_chosen := (def_body (n := 40) F_Editor_need_chosen sc_Editor_need_chosen (F_Editor_need_chosen.binds (ps := ["self"]) fun _ _ _ _ _ _ us hl => match us, hl with | [_], _ => rfl) rfl t_Editor_need_chosen).le le_Editor_need_chosen
  have t_Editor_keep_hit : TabOk P w K mg base (tb K C0 C1 C2 C3 C4 C5 C6 C7 C8 C9) 3 d_Editor_keep_hit := tab_mk (att_of atts_nd K [C0, C1, C2, C3, C4, C5, C6, C7, C8, C9]) trivial F.bl trivial F.isi ⟨⟨rfl, F.fld _ _ (List.mem_of_getElem? (i := 0) rfl), trivial⟩, ⟨rfl, F.fld _ _ (List.mem_of_getElem? (i := 2) rfl), trivial⟩, ⟨rfl, F.fld _ _ (List.mem_of_getElem? (i := 6) rfl), trivial⟩, ⟨rfl, F.fld _ _ (List.mem_of_getElem? (i := 15) rfl), trivial⟩, trivial⟩ ⟨⟨List.cons_ne_nil _ _, ⟨⟨⟨C3, f_Editor_deed, rfl, F.cl3, ⟨i_Editor_deed, j_Editor_deed, F_Editor_deed.kp⟩, rfl, O_Editor_deed.mono (by decide)⟩⟩, trivial⟩⟩, ⟨List.cons_ne_nil _ _, ⟨⟨⟨C3, f_Editor_need_chosen, rfl, F.cl3, ⟨i_Editor_need_chosen, j_Editor_need_chosen, F_Editor_need_chosen.kp⟩, rfl, O_Editor_need_chosen.mono (by decide)⟩⟩, trivial⟩⟩, trivial⟩ trivial trivial xs_nil xi_nil
  have O_Editor_keep_hit : DefOk P w K mg base (tb K C0 C1 C2 C3 C4 C5 C6 C7 C8 C9) 5 f_Editor_keep_hit 1 r_Editor_keep_hit := (def_body (n := 40) F_Editor_keep_hit sc_Editor_keep_hit (F_Editor_keep_hit.binds (ps := ["self"]) fun _ _ _ _ _ _ us hl => match us, hl with | [_], _ => rfl) rfl t_Editor_keep_hit).le le_Editor_keep_hit
  have t_Editor_replace_hit : TabOk P w K mg base (tb K C0 C1 C2 C3 C4 C5 C6 C7 C8 C9) 3 d_Editor_replace_hit := tab_mk (att_of atts_nd K [C0, C1, C2, C3, C4, C5, C6, C7, C8, C9]) ⟨⟨C2, f_Scan_init, rfl, F.g2, ⟨F.mk2, i_Scan_init, j_Scan_init, F.kc2⟩, O_Scan_init.mono (by decide)⟩, trivial⟩ F.bl trivial F.isi ⟨⟨rfl, F.fld _ _ (List.mem_of_getElem? (i := 0) rfl), trivial⟩, ⟨rfl, F.fld _ _ (List.mem_of_getElem? (i := 1) rfl), trivial⟩, ⟨rfl, F.fld _ _ (List.mem_of_getElem? (i := 6) rfl), trivial⟩, ⟨rfl, F.fld _ _ (List.mem_of_getElem? (i := 15) rfl), trivial⟩, trivial⟩ ⟨⟨List.cons_ne_nil _ _, ⟨⟨⟨C3, f_Editor_deed, rfl, F.cl3, ⟨i_Editor_deed, j_Editor_deed, F_Editor_deed.kp⟩, rfl, O_Editor_deed.mono (by decide)⟩⟩, trivial⟩⟩, ⟨List.cons_ne_nil _ _, ⟨⟨⟨C2, f_Scan_turned, rfl, F.cl2, ⟨i_Scan_turned, j_Scan_turned, F_Scan_turned.kp⟩, rfl, O_Scan_turned.mono (by decide)⟩⟩, trivial⟩⟩, ⟨List.cons_ne_nil _ _, ⟨⟨⟨C3, f_Editor_need_chosen, rfl, F.cl3, ⟨i_Editor_need_chosen, j_Editor_need_chosen, F_Editor_need_chosen.kp⟩, rfl, O_Editor_need_chosen.mono (by decide)⟩⟩, trivial⟩⟩, trivial⟩ trivial trivial xs_nil xi_nil
  have O_Editor_replace_hit : DefOk P w K mg base (tb K C0 C1 C2 C3 C4 C5 C6 C7 C8 C9) 5 f_Editor_replace_hit 1 r_Editor_replace_hit := (def_body (n := 40) F_Editor_replace_hit sc_Editor_replace_hit (F_Editor_replace_hit.binds (ps := ["self"]) fun _ _ _ _ _ _ us hl => match us, hl with | [_], _ => rfl) rfl t_Editor_replace_hit).le le_Editor_replace_hit
  have t_Editor_undo : TabOk P w K mg base (tb K C0 C1 C2 C3 C4 C5 C6 C7 C8 C9) 0 d_Editor_undo := tab_mk (att_of atts_nd K [C0, C1, C2, C3, C4, C5, C6, C7, C8, C9]) trivial F.bl trivial F.isi ⟨⟨rfl, F.fld _ _ (List.mem_of_getElem? (i := 15) rfl), trivial⟩, ⟨rfl, F.fld _ _ (List.mem_of_getElem? (i := 16) rfl), trivial⟩, ⟨rfl, F.fld _ _ (List.mem_of_getElem? (i := 17) rfl), trivial⟩, trivial⟩ trivial trivial trivial xs_nil xi_nil
  have O_Editor_undo : DefOk P w K mg base (tb K C0 C1 C2 C3 C4 C5 C6 C7 C8 C9) 2 f_Editor_undo 1 r_Editor_undo := (def_body (n := 40) F_Editor_undo sc_Editor_undo (F_Editor_undo.binds (ps := ["self"]) fun _ _ _ _ _ _ us hl => match us, hl with | [_], _ => rfl) rfl t_Editor_undo).le le_Editor_undo
  have t_Editor_redo : TabOk P w K mg base (tb K C0 C1 C2 C3 C4 C5 C6 C7 C8 C9) 0 d_Editor_redo := tab_mk (att_of atts_nd K [C0, C1, C2, C3, C4, C5, C6, C7, C8, C9]) trivial F.bl trivial F.isi ⟨⟨rfl, F.fld _ _ (List.mem_of_getElem? (i := 15) rfl), trivial⟩, ⟨rfl, F.fld _ _ (List.mem_of_getElem? (i := 16) rfl), trivial⟩, ⟨rfl, F.fld _ _ (List.mem_of_getElem? (i := 17) rfl), trivial⟩, trivial⟩ trivial trivial trivial xs_nil xi_nil
  have O_Editor_redo : DefOk P w K mg base (tb K C0 C1 C2 C3 C4 C5 C6 C7 C8 C9) 2 f_Editor_redo 1 r_Editor_redo := (def_body (n := 40) F_Editor_redo sc_Editor_redo (F_Editor_redo.binds (ps := ["self"]) fun _ _ _ _ _ _ us hl => match us, hl with | [_], _ => rfl) rfl t_Editor_redo).le le_Editor_redo
  have t_done_word : TabOk P w K mg base (tb K C0 C1 C2 C3 C4 C5 C6 C7 C8 C9) 6 d_done_word := tab_mk (att_of atts_nd K [C0, C1, C2, C3, C4, C5, C6, C7, C8, C9]) trivial F.bl trivial F.isi trivial ⟨⟨List.cons_ne_nil _ _, ⟨⟨⟨C3, f_Editor_undo, rfl, F.cl3, ⟨i_Editor_undo, j_Editor_undo, F_Editor_undo.kp⟩, rfl, O_Editor_undo.mono (by decide)⟩⟩, trivial⟩⟩, ⟨List.cons_ne_nil _ _, ⟨⟨⟨C3, f_Editor_redo, rfl, F.cl3, ⟨i_Editor_redo, j_Editor_redo, F_Editor_redo.kp⟩, rfl, O_Editor_redo.mono (by decide)⟩⟩, trivial⟩⟩, ⟨List.cons_ne_nil _ _, ⟨⟨⟨C3, f_Editor_replace_hit, rfl, F.cl3, ⟨i_Editor_replace_hit, j_Editor_replace_hit, F_Editor_replace_hit.kp⟩, rfl, O_Editor_replace_hit.mono (by decide)⟩⟩, trivial⟩⟩, ⟨List.cons_ne_nil _ _, ⟨⟨⟨C3, f_Editor_keep_hit, rfl, F.cl3, ⟨i_Editor_keep_hit, j_Editor_keep_hit, F_Editor_keep_hit.kp⟩, rfl, O_Editor_keep_hit.mono (by decide)⟩⟩, trivial⟩⟩, ⟨List.cons_ne_nil _ _, ⟨⟨⟨C3, f_Editor_next, rfl, F.cl3, ⟨i_Editor_next, j_Editor_next, F_Editor_next.kp⟩, rfl, O_Editor_next.mono (by decide)⟩⟩, trivial⟩⟩, trivial⟩ trivial trivial xs_nil xi_nil
  have O_done_word : DefOk P w K mg base (tb K C0 C1 C2 C3 C4 C5 C6 C7 C8 C9) 8 f_done_word 2 r_done_word := (def_body (n := 40) F_done_word sc_done_word (F_done_word.binds (ps := ["editor", "word"]) fun _ _ _ _ _ _ us hl => match us, hl with | [_, _], _ => rfl) rfl t_done_word).le le_done_word
  have t_told_word : TabOk P w K mg base (tb K C0 C1 C2 C3 C4 C5 C6 C7 C8 C9) 8 d_told_word := tab_mk (att_of atts_nd K [C0, C1, C2, C3, C4, C5, C6, C7, C8, C9]) ⟨⟨f_done_word, g_done_word, F_done_word.kp, O_done_word.mono (by decide)⟩, trivial⟩ F.bl trivial F.isi trivial trivial trivial ⟨X_NothingChosen.mono (by decide), X_Endless.mono (by decide), trivial⟩ F.xs F.xi
  have O_told_word : DefOk P w K mg base (tb K C0 C1 C2 C3 C4 C5 C6 C7 C8 C9) 10 f_told_word 2 r_told_word := (def_body (n := 40) F_told_word sc_told_word (F_told_word.binds (ps := ["editor", "word"]) fun _ _ _ _ _ _ us hl => match us, hl with | [_, _], _ => rfl) rfl t_told_word).le le_told_word
  have t_played : TabOk P w K mg base (tb K C0 C1 C2 C3 C4 C5 C6 C7 C8 C9) 10 d_played := tab_mk (att_of atts_nd K [C0, C1, C2, C3, C4, C5, C6, C7, C8, C9]) ⟨⟨f_told_word, g_told_word, F_told_word.kp, O_told_word.mono (by decide)⟩, ⟨f_is_one_of, g_is_one_of, F_is_one_of.kp, O_is_one_of.mono (by decide)⟩, F.con_WORDS, trivial⟩ F.bl trivial F.isi trivial trivial trivial ⟨X_UnknownWord.mono (by decide), trivial⟩ F.xs F.xi
  have O_played : DefOk P w K mg base (tb K C0 C1 C2 C3 C4 C5 C6 C7 C8 C9) 12 f_played 2 r_played := (def_body (n := 40) F_played sc_played (F_played.binds (ps := ["editor", "words"]) fun _ _ _ _ _ _ us hl => match us, hl with | [_, _], _ => rfl) rfl t_played).le le_played
  have t__law_random : TabOk P w K mg base (tb K C0 C1 C2 C3 C4 C5 C6 C7 C8 C9) 0 d__law_random := tab_mk (att_of atts_nd K [C0, C1, C2, C3, C4, C5, C6, C7, C8, C9]) trivial F.bl trivial F.isi trivial trivial trivial trivial xs_nil xi_nil
  have O__law_random : DefOk P w K mg base (tb K C0 C1 C2 C3 C4 C5 C6 C7 C8 C9) 2 f__law_random 2 r__law_random := (def_body (n := 40) F__law_random sc__law_random (F__law_random.binds (ps := ["_law_script", "_law_salt"]) fun _ _ _ _ _ _ us hl => match us, hl with | [_, _], _ => rfl) rfl t__law_random).le le__law_random
  have t__law_below : TabOk P w K mg base (tb K C0 C1 C2 C3 C4 C5 C6 C7 C8 C9) 0 d__law_below := tab_mk (att_of atts_nd K [C0, C1, C2, C3, C4, C5, C6, C7, C8, C9]) trivial F.bl trivial F.isi trivial trivial trivial trivial xs_nil xi_nil
  have O__law_below : DefOk P w K mg base (tb K C0 C1 C2 C3 C4 C5 C6 C7 C8 C9) 2 f__law_below 2 r__law_below := (def_body (n := 40) F__law_below sc__law_below (F__law_below.binds (ps := ["_law_d", "_law_size"]) fun _ _ _ _ _ _ us hl => match us, hl with | [_, _], _ => rfl) rfl t__law_below).le le__law_below
  have t__law_pick : TabOk P w K mg base (tb K C0 C1 C2 C3 C4 C5 C6 C7 C8 C9) 2 d__law_pick := tab_mk (att_of atts_nd K [C0, C1, C2, C3, C4, C5, C6, C7, C8, C9]) ⟨⟨f__law_below, g__law_below, F__law_below.kp, O__law_below.mono (by decide)⟩, trivial⟩ F.bl trivial F.isi trivial trivial trivial trivial xs_nil xi_nil
  have O__law_pick : DefOk P w K mg base (tb K C0 C1 C2 C3 C4 C5 C6 C7 C8 C9) 4 f__law_pick 2 r__law_pick := (def_body (n := 40) F__law_pick sc__law_pick (F__law_pick.binds (ps := ["_law_d", "_law_items"]) fun _ _ _ _ _ _ us hl => match us, hl with | [_, _], _ => rfl) rfl t__law_pick).le le__law_pick
  have t__law_equal : TabOk P w K mg base (tb K C0 C1 C2 C3 C4 C5 C6 C7 C8 C9) 0 d__law_equal := tab_mk (att_of atts_nd K [C0, C1, C2, C3, C4, C5, C6, C7, C8, C9]) trivial F.bl trivial F.isi trivial trivial trivial trivial xs_nil xi_nil
  have O__law_equal : DefOk P w K mg base (tb K C0 C1 C2 C3 C4 C5 C6 C7 C8 C9) 2 f__law_equal 2 r__law_equal := (def_body (n := 40) F__law_equal sc__law_equal (F__law_equal.binds (ps := ["_law_actual", "_law_expected"]) fun _ _ _ _ _ _ us hl => match us, hl with | [_, _], _ => rfl) rfl t__law_equal).le le__law_equal
  have t__law_equal_1 : TabOk P w K mg base (tb K C0 C1 C2 C3 C4 C5 C6 C7 C8 C9) 2 d__law_equal_1 := tab_mk (att_of atts_nd K [C0, C1, C2, C3, C4, C5, C6, C7, C8, C9]) ⟨⟨f__law_equal, g__law_equal, F__law_equal.kp, O__law_equal.mono (by decide)⟩, trivial⟩ F.bl trivial F.isi trivial trivial trivial trivial xs_nil xi_nil
  have O__law_equal_1 : DefOk P w K mg base (tb K C0 C1 C2 C3 C4 C5 C6 C7 C8 C9) 4 f__law_equal 2 r__law_equal_1 := (def_body (n := 40) F__law_equal sc__law_equal_1 (F__law_equal.binds (ps := ["_law_actual", "_law_expected"]) fun _ _ _ _ _ _ us hl => match us, hl with | [_, _], _ => rfl) rfl t__law_equal_1).le le__law_equal_1
  have t__law_drawn : TabOk P w K mg base (tb K C0 C1 C2 C3 C4 C5 C6 C7 C8 C9) 4 d__law_drawn := tab_mk (att_of atts_nd K [C0, C1, C2, C3, C4, C5, C6, C7, C8, C9]) ⟨⟨f__law_pick, g__law_pick, F__law_pick.kp, O__law_pick.mono (by decide)⟩, ⟨f__law_below, g__law_below, F__law_below.kp, O__law_below.mono (by decide)⟩, trivial⟩ F.bl trivial F.isi trivial trivial trivial trivial xs_nil xi_nil
  have O__law_drawn : DefOk P w K mg base (tb K C0 C1 C2 C3 C4 C5 C6 C7 C8 C9) 6 f__law_drawn 1 r__law_drawn := (def_body (n := 40) F__law_drawn sc__law_drawn (F__law_drawn.binds (ps := ["_law_d"]) fun _ _ _ _ _ _ us hl => match us, hl with | [_], _ => rfl) rfl t__law_drawn).le le__law_drawn
  have t__law_make : TabOk P w K mg base (tb K C0 C1 C2 C3 C4 C5 C6 C7 C8 C9) 8 d__law_make := tab_mk (att_of atts_nd K [C0, C1, C2, C3, C4, C5, C6, C7, C8, C9]) ⟨⟨C0, f_Stepper_init, fd_Stepper_init, _, rfl, F.g0, ⟨F.mk0, i_Stepper_init, j_Stepper_init, F.kc0⟩, kbn_of (n := 3) F_Stepper_init (fun _ _ _ _ _ _ us ws l1 l2 => match us, l1, ws, l2 with | [_, _, _], _, [_, _, _, _], _ => rfl), FnOk.mono O_Stepper_init (by decide)⟩, trivial⟩ F.bl trivial F.isi trivial trivial trivial trivial xs_nil xi_nil
  have O__law_make : DefOk P w K mg base (tb K C0 C1 C2 C3 C4 C5 C6 C7 C8 C9) 10 f__law_make 1 r__law_make := (def_body (n := 40) F__law_make sc__law_make (F__law_make.binds (ps := ["_law_s"]) fun _ _ _ _ _ _ us hl => match us, hl with | [_], _ => rfl) rfl t__law_make).leC le__law_make
  have t__law_text : TabOk P w K mg base (tb K C0 C1 C2 C3 C4 C5 C6 C7 C8 C9) 4 d__law_text := tab_mk (att_of atts_nd K [C0, C1, C2, C3, C4, C5, C6, C7, C8, C9]) ⟨⟨f__law_below, g__law_below, F__law_below.kp, O__law_below.mono (by decide)⟩, ⟨f__law_pick, g__law_pick, F__law_pick.kp, O__law_pick.mono (by decide)⟩, trivial⟩ F.bl trivial F.isi trivial trivial trivial trivial xs_nil xi_nil
  have O__law_text : DefOk P w K mg base (tb K C0 C1 C2 C3 C4 C5 C6 C7 C8 C9) 6 f__law_text 3 r__law_text := (def_body (n := 40) F__law_text sc__law_text (F__law_text.binds (ps := ["_law_d", "_law_s", "_law_many"]) fun _ _ _ _ _ _ us hl => match us, hl with | [_, _, _], _ => rfl) rfl t__law_text).le le__law_text
  have t__law_find : TabOk P w K mg base (tb K C0 C1 C2 C3 C4 C5 C6 C7 C8 C9) 0 d__law_find := tab_mk (att_of atts_nd K [C0, C1, C2, C3, C4, C5, C6, C7, C8, C9]) trivial F.bl trivial F.isi trivial trivial trivial trivial xs_nil xi_nil
  have O__law_find : DefOk P w K mg base (tb K C0 C1 C2 C3 C4 C5 C6 C7 C8 C9) 2 f__law_find 3 r__law_find := (def_body (n := 40) F__law_find sc__law_find (F__law_find.binds (ps := ["_law_word", "_law_items", "_law_start"]) fun _ _ _ _ _ _ us hl => match us, hl with | [_, _, _], _ => rfl) rfl t__law_find).le le__law_find
  have t__law_ahead : TabOk P w K mg base (tb K C0 C1 C2 C3 C4 C5 C6 C7 C8 C9) 0 d__law_ahead := tab_mk (att_of atts_nd K [C0, C1, C2, C3, C4, C5, C6, C7, C8, C9]) trivial F.bl trivial F.isi trivial trivial trivial trivial xs_nil xi_nil
  have O__law_ahead : DefOk P w K mg base (tb K C0 C1 C2 C3 C4 C5 C6 C7 C8 C9) 2 f__law_ahead 1 r__law_ahead := (def_body (n := 40) F__law_ahead sc__law_ahead (F__law_ahead.binds (ps := ["_law_s"]) fun _ _ _ _ _ _ us hl => match us, hl with | [_], _ => rfl) rfl t__law_ahead).le le__law_ahead
  have t__law_pass : TabOk P w K mg base (tb K C0 C1 C2 C3 C4 C5 C6 C7 C8 C9) 2 d__law_pass := tab_mk (att_of atts_nd K [C0, C1, C2, C3, C4, C5, C6, C7, C8, C9]) ⟨⟨f__law_find, g__law_find, F__law_find.kp, O__law_find.mono (by decide)⟩, ⟨f__law_ahead, g__law_ahead, F__law_ahead.kp, O__law_ahead.mono (by decide)⟩, trivial⟩ F.bl trivial F.isi trivial trivial trivial trivial xs_nil xi_nil
  have O__law_pass : DefOk P w K mg base (tb K C0 C1 C2 C3 C4 C5 C6 C7 C8 C9) 4 f__law_pass 2 r__law_pass := (def_body (n := 40) F__law_pass sc__law_pass (F__law_pass.binds (ps := ["_law_s", "_law_items"]) fun _ _ _ _ _ _ us hl => match us, hl with | [_, _], _ => rfl) rfl t__law_pass).leC le__law_pass
  have t__law_signs : TabOk P w K mg base (tb K C0 C1 C2 C3 C4 C5 C6 C7 C8 C9) 0 d__law_signs := tab_mk (att_of atts_nd K [C0, C1, C2, C3, C4, C5, C6, C7, C8, C9]) trivial F.bl trivial F.isi trivial trivial trivial trivial xs_nil xi_nil
  have O__law_signs : DefOk P w K mg base (tb K C0 C1 C2 C3 C4 C5 C6 C7 C8 C9) 2 f__law_signs 1 r__law_signs := (def_body (n := 40) F__law_signs sc__law_signs (F__law_signs.binds (ps := ["_law_items"]) fun _ _ _ _ _ _ us hl => match us, hl with | [_], _ => rfl) rfl t__law_signs).le le__law_signs
  have t__law_refused : TabOk P w K mg base (tb K C0 C1 C2 C3 C4 C5 C6 C7 C8 C9) 12 d__law_refused := tab_mk (att_of atts_nd K [C0, C1, C2, C3, C4, C5, C6, C7, C8, C9]) ⟨⟨f_played, g_played, F_played.kp, O_played.mono (by decide)⟩, trivial⟩ F.bl trivial F.isi ⟨⟨rfl, (fun c hc => nomatch hc), trivial⟩, trivial⟩ trivial trivial ⟨X_UnknownWord.mono (by decide), trivial⟩ F.xs F.xi
  have O__law_refused : DefOk P w K mg base (tb K C0 C1 C2 C3 C4 C5 C6 C7 C8 C9) 14 f__law_refused 2 r__law_refused := (def_body (n := 40) F__law_refused sc__law_refused (F__law_refused.binds (ps := ["_law_editor", "_law_words"]) fun _ _ _ _ _ _ us hl => match us, hl with | [_, _], _ => rfl) rfl t__law_refused).le le__law_refused
  have t_law : TabOk P w K mg base (tb K C0 C1 C2 C3 C4 C5 C6 C7 C8 C9) 14 d_law := tab_mk (att_of atts_nd K [C0, C1, C2, C3, C4, C5, C6, C7, C8, C9]) ⟨⟨f__law_signs, g__law_signs, F__law_signs.kp, O__law_signs.mono (by decide)⟩, ⟨f_played, g_played, F_played.kp, O_played.mono (by decide)⟩, ⟨f__law_equal, g__law_equal, F__law_equal.kp, O__law_equal_1.mono (by decide)⟩, ⟨f__law_refused, g__law_refused, F__law_refused.kp, O__law_refused.mono (by decide)⟩, ⟨f__law_pick, g__law_pick, F__law_pick.kp, O__law_pick.mono (by decide)⟩, ⟨C3, f_Editor_init, rfl, F.g3, ⟨F.mk3, i_Editor_init, j_Editor_init, F.kc3⟩, O_Editor_init.mono (by decide)⟩, ⟨f__law_make, g__law_make, F__law_make.kp, O__law_make.mono (by decide)⟩, ⟨f__law_pass, g__law_pass, F__law_pass.kp, O__law_pass.mono (by decide)⟩, ⟨f__law_text, g__law_text, F__law_text.kp, O__law_text.mono (by decide)⟩, ⟨f__law_drawn, g__law_drawn, F__law_drawn.kp, O__law_drawn.mono (by decide)⟩, ⟨f__law_random, g__law_random, F__law_random.kp, O__law_random.mono (by decide)⟩, trivial⟩ F.bl trivial F.isi ⟨⟨rfl, (fun c hc => nomatch hc), ⟨⟨⟨C3, p_Editor_text, f_Editor_text, rfl, F.cl3, P_Editor_text, O_Editor_text.mono (by decide)⟩⟩, trivial⟩⟩, trivial⟩ trivial trivial trivial xs_nil xi_nil
  have O_law : FnOk P w K mg base (L2.CX P w) 16 f_law fd_law _ (spD (tb K C0 C1 C2 C3 C4 C5 C6 C7 C8 C9) 1 r_law) := FnOk.leC (fn_body (n := 40) F_law sc_law rfl t_law) le_law
  exact O_law
end
set_option maxHeartbeats 4000000 in
theorem all_mk {l : PySem.W.OpenLaw} {w : World} {K : PySem.W.Frag} {h : Heap} {mg : Str → Option Value} (X : K.In h) (G : h.Ns mainGlobals mg) {fa : Addr} (hfa : mg "law" = some (.ref fa))
    {C0 C1 C2 C3 C4 C5 C6 C7 C8 C9 : Addr}
    (aC0 : PySem.W.nsIn K mainGlobals "Stepper" = some (some (.ref C0)))
    (aC1 : PySem.W.nsIn K mainGlobals "Loops" = some (some (.ref C1)))
    (aC2 : PySem.W.nsIn K mainGlobals "Scan" = some (some (.ref C2)))
    (aC3 : PySem.W.nsIn K mainGlobals "Editor" = some (some (.ref C3)))
    (aC4 : PySem.W.nsIn K mainGlobals "HitError" = some (some (.ref C4)))
    (aC5 : PySem.W.nsIn K mainGlobals "InvalidStepper" = some (some (.ref C5)))
    (aC6 : PySem.W.nsIn K mainGlobals "InvalidText" = some (some (.ref C6)))
    (aC7 : PySem.W.nsIn K mainGlobals "NothingChosen" = some (some (.ref C7)))
    (aC8 : PySem.W.nsIn K mainGlobals "Endless" = some (some (.ref C8)))
    (aC9 : PySem.W.nsIn K mainGlobals "UnknownWord" = some (some (.ref C9)))
    {f_is_integer : Addr} {oc_is_integer kV_is_integer dc_is_integer pm_is_integer cd_is_integer ct_is_integer : Value} {od_is_integer an_is_integer : Option Addr} {sl_is_integer : Array (Option Value)}
    (a_is_integer : PySem.W.nsIn K mainGlobals "is_integer" = some (some (.ref f_is_integer)))
    (l_is_integer : K.lookup f_is_integer = some ⟨oc_is_integer, od_is_integer, .func (PySem.W.fnOf "is_integer" "is_integer" (defArgs s_is_integer) (defBody s_is_integer) (defScope s_is_integer) .none kV_is_integer dc_is_integer pm_is_integer an_is_integer cd_is_integer ct_is_integer), sl_is_integer⟩)
    (c_is_integer : PySem.W.codeIn K cd_is_integer "is_integer" = true)
    (k_is_integer : PySem.W.keepIn K (.ref f_is_integer) = true)
    {f_is_text : Addr} {oc_is_text kV_is_text dc_is_text pm_is_text cd_is_text ct_is_text : Value} {od_is_text an_is_text : Option Addr} {sl_is_text : Array (Option Value)}
    (a_is_text : PySem.W.nsIn K mainGlobals "is_text" = some (some (.ref f_is_text)))
    (l_is_text : K.lookup f_is_text = some ⟨oc_is_text, od_is_text, .func (PySem.W.fnOf "is_text" "is_text" (defArgs s_is_text) (defBody s_is_text) (defScope s_is_text) .none kV_is_text dc_is_text pm_is_text an_is_text cd_is_text ct_is_text), sl_is_text⟩)
    (c_is_text : PySem.W.codeIn K cd_is_text "is_text" = true)
    (k_is_text : PySem.W.keepIn K (.ref f_is_text) = true)
    {f_need_text : Addr} {oc_need_text kV_need_text dc_need_text pm_need_text cd_need_text ct_need_text : Value} {od_need_text an_need_text : Option Addr} {sl_need_text : Array (Option Value)}
    (a_need_text : PySem.W.nsIn K mainGlobals "need_text" = some (some (.ref f_need_text)))
    (l_need_text : K.lookup f_need_text = some ⟨oc_need_text, od_need_text, .func (PySem.W.fnOf "need_text" "need_text" (defArgs s_need_text) (defBody s_need_text) (defScope s_need_text) .none kV_need_text dc_need_text pm_need_text an_need_text cd_need_text ct_need_text), sl_need_text⟩)
    (c_need_text : PySem.W.codeIn K cd_need_text "need_text" = true)
    (k_need_text : PySem.W.keepIn K (.ref f_need_text) = true)
    {f_is_one_of : Addr} {oc_is_one_of kV_is_one_of dc_is_one_of pm_is_one_of cd_is_one_of ct_is_one_of : Value} {od_is_one_of an_is_one_of : Option Addr} {sl_is_one_of : Array (Option Value)}
    (a_is_one_of : PySem.W.nsIn K mainGlobals "is_one_of" = some (some (.ref f_is_one_of)))
    (l_is_one_of : K.lookup f_is_one_of = some ⟨oc_is_one_of, od_is_one_of, .func (PySem.W.fnOf "is_one_of" "is_one_of" (defArgs s_is_one_of) (defBody s_is_one_of) (defScope s_is_one_of) .none kV_is_one_of dc_is_one_of pm_is_one_of an_is_one_of cd_is_one_of ct_is_one_of), sl_is_one_of⟩)
    (c_is_one_of : PySem.W.codeIn K cd_is_one_of "is_one_of" = true)
    (k_is_one_of : PySem.W.keepIn K (.ref f_is_one_of) = true)
    {f_are_deeds : Addr} {oc_are_deeds kV_are_deeds dc_are_deeds pm_are_deeds cd_are_deeds ct_are_deeds : Value} {od_are_deeds an_are_deeds : Option Addr} {sl_are_deeds : Array (Option Value)}
    (a_are_deeds : PySem.W.nsIn K mainGlobals "are_deeds" = some (some (.ref f_are_deeds)))
    (l_are_deeds : K.lookup f_are_deeds = some ⟨oc_are_deeds, od_are_deeds, .func (PySem.W.fnOf "are_deeds" "are_deeds" (defArgs s_are_deeds) (defBody s_are_deeds) (defScope s_are_deeds) .none kV_are_deeds dc_are_deeds pm_are_deeds an_are_deeds cd_are_deeds ct_are_deeds), sl_are_deeds⟩)
    (c_are_deeds : PySem.W.codeIn K cd_are_deeds "are_deeds" = true)
    (k_are_deeds : PySem.W.keepIn K (.ref f_are_deeds) = true)
    {f_need_fields : Addr} {oc_need_fields kV_need_fields dc_need_fields pm_need_fields cd_need_fields ct_need_fields : Value} {od_need_fields an_need_fields : Option Addr} {sl_need_fields : Array (Option Value)}
    (a_need_fields : PySem.W.nsIn K mainGlobals "need_fields" = some (some (.ref f_need_fields)))
    (l_need_fields : K.lookup f_need_fields = some ⟨oc_need_fields, od_need_fields, .func (PySem.W.fnOf "need_fields" "need_fields" (defArgs s_need_fields) (defBody s_need_fields) (defScope s_need_fields) .none kV_need_fields dc_need_fields pm_need_fields an_need_fields cd_need_fields ct_need_fields), sl_need_fields⟩)
    (c_need_fields : PySem.W.codeIn K cd_need_fields "need_fields" = true)
    (k_need_fields : PySem.W.keepIn K (.ref f_need_fields) = true)
    {f_Stepper_init : Addr} {oc_Stepper_init kV_Stepper_init dc_Stepper_init pm_Stepper_init cd_Stepper_init ct_Stepper_init : Value} {od_Stepper_init an_Stepper_init : Option Addr} {sl_Stepper_init : Array (Option Value)}
    (i_Stepper_init : PySem.W.findIn K (.ref C0) "__init__" = some (some (.ref f_Stepper_init)))
    (j_Stepper_init : PySem.W.isFn K (.ref f_Stepper_init) = true)
    (l_Stepper_init : K.lookup f_Stepper_init = some ⟨oc_Stepper_init, od_Stepper_init, .func (PySem.W.fnOf "__init__" "Stepper.__init__" (defArgs s_Stepper_init) (defBody s_Stepper_init) (defScope s_Stepper_init) .none kV_Stepper_init dc_Stepper_init pm_Stepper_init an_Stepper_init cd_Stepper_init ct_Stepper_init), sl_Stepper_init⟩)
    (c_Stepper_init : PySem.W.codeIn K cd_Stepper_init "Stepper.__init__" = true)
    (k_Stepper_init : PySem.W.keepIn K (.ref f_Stepper_init) = true)
    {f_Scan_init : Addr} {oc_Scan_init kV_Scan_init dc_Scan_init pm_Scan_init cd_Scan_init ct_Scan_init : Value} {od_Scan_init an_Scan_init : Option Addr} {sl_Scan_init : Array (Option Value)}
    (i_Scan_init : PySem.W.findIn K (.ref C2) "__init__" = some (some (.ref f_Scan_init)))
    (j_Scan_init : PySem.W.isFn K (.ref f_Scan_init) = true)
    (l_Scan_init : K.lookup f_Scan_init = some ⟨oc_Scan_init, od_Scan_init, .func (PySem.W.fnOf "__init__" "Scan.__init__" (defArgs s_Scan_init) (defBody s_Scan_init) (defScope s_Scan_init) .none kV_Scan_init dc_Scan_init pm_Scan_init an_Scan_init cd_Scan_init ct_Scan_init), sl_Scan_init⟩)
    (c_Scan_init : PySem.W.codeIn K cd_Scan_init "Scan.__init__" = true)
    (k_Scan_init : PySem.W.keepIn K (.ref f_Scan_init) = true)
    {f_Scan_turned : Addr} {oc_Scan_turned kV_Scan_turned dc_Scan_turned pm_Scan_turned cd_Scan_turned ct_Scan_turned : Value} {od_Scan_turned an_Scan_turned : Option Addr} {sl_Scan_turned : Array (Option Value)}
    (i_Scan_turned : PySem.W.findIn K (.ref C2) "turned" = some (some (.ref f_Scan_turned)))
    (j_Scan_turned : PySem.W.isFn K (.ref f_Scan_turned) = true)
    (l_Scan_turned : K.lookup f_Scan_turned = some ⟨oc_Scan_turned, od_Scan_turned, .func (PySem.W.fnOf "turned" "Scan.turned" (defArgs s_Scan_turned) (defBody s_Scan_turned) (defScope s_Scan_turned) .none kV_Scan_turned dc_Scan_turned pm_Scan_turned an_Scan_turned cd_Scan_turned ct_Scan_turned), sl_Scan_turned⟩)
    (c_Scan_turned : PySem.W.codeIn K cd_Scan_turned "Scan.turned" = true)
    (k_Scan_turned : PySem.W.keepIn K (.ref f_Scan_turned) = true)
    {f_places_in : Addr} {oc_places_in kV_places_in dc_places_in pm_places_in cd_places_in ct_places_in : Value} {od_places_in an_places_in : Option Addr} {sl_places_in : Array (Option Value)}
    (a_places_in : PySem.W.nsIn K mainGlobals "places_in" = some (some (.ref f_places_in)))
    (l_places_in : K.lookup f_places_in = some ⟨oc_places_in, od_places_in, .func (PySem.W.fnOf "places_in" "places_in" (defArgs s_places_in) (defBody s_places_in) (defScope s_places_in) .none kV_places_in dc_places_in pm_places_in an_places_in cd_places_in ct_places_in), sl_places_in⟩)
    (c_places_in : PySem.W.codeIn K cd_places_in "places_in" = true)
    (k_places_in : PySem.W.keepIn K (.ref f_places_in) = true)
    {f_Editor_init : Addr} {oc_Editor_init kV_Editor_init dc_Editor_init pm_Editor_init cd_Editor_init ct_Editor_init : Value} {od_Editor_init an_Editor_init : Option Addr} {sl_Editor_init : Array (Option Value)}
    (i_Editor_init : PySem.W.findIn K (.ref C3) "__init__" = some (some (.ref f_Editor_init)))
    (j_Editor_init : PySem.W.isFn K (.ref f_Editor_init) = true)
    (l_Editor_init : K.lookup f_Editor_init = some ⟨oc_Editor_init, od_Editor_init, .func (PySem.W.fnOf "__init__" "Editor.__init__" (defArgs s_Editor_init) (defBody s_Editor_init) (defScope s_Editor_init) .none kV_Editor_init dc_Editor_init pm_Editor_init an_Editor_init cd_Editor_init ct_Editor_init), sl_Editor_init⟩)
    (c_Editor_init : PySem.W.codeIn K cd_Editor_init "Editor.__init__" = true)
    (k_Editor_init : PySem.W.keepIn K (.ref f_Editor_init) = true)
    {f_Editor_text : Addr} {oc_Editor_text kV_Editor_text dc_Editor_text pm_Editor_text cd_Editor_text ct_Editor_text : Value} {od_Editor_text an_Editor_text : Option Addr} {sl_Editor_text : Array (Option Value)}
    {p_Editor_text : Addr} {rest_Editor_text : List Value}
    (pa_Editor_text : PySem.W.findIn K (.ref C3) "text" = some (some (.ref p_Editor_text)))
    (pb_Editor_text : PySem.W.specialIn K (.ref p_Editor_text) "__get__" = some (some (.builtin "property.__get__")))
    (pc_Editor_text : PySem.W.takesIn K (.ref p_Editor_text) = some true)
    (pd_Editor_text : PySem.W.recIn K p_Editor_text "property" = some (.ref f_Editor_text :: rest_Editor_text))
    (l_Editor_text : K.lookup f_Editor_text = some ⟨oc_Editor_text, od_Editor_text, .func (PySem.W.fnOf "text" "Editor.text" (defArgs s_Editor_text) (defBody s_Editor_text) (defScope s_Editor_text) .none kV_Editor_text dc_Editor_text pm_Editor_text an_Editor_text cd_Editor_text ct_Editor_text), sl_Editor_text⟩)
    (c_Editor_text : PySem.W.codeIn K cd_Editor_text "Editor.text" = true)
    (k_Editor_text : PySem.W.keepIn K (.ref f_Editor_text) = true)
    {f_Editor_hits : Addr} {oc_Editor_hits kV_Editor_hits dc_Editor_hits pm_Editor_hits cd_Editor_hits ct_Editor_hits : Value} {od_Editor_hits an_Editor_hits : Option Addr} {sl_Editor_hits : Array (Option Value)}
    (i_Editor_hits : PySem.W.findIn K (.ref C3) "hits" = some (some (.ref f_Editor_hits)))
    (j_Editor_hits : PySem.W.isFn K (.ref f_Editor_hits) = true)
    (l_Editor_hits : K.lookup f_Editor_hits = some ⟨oc_Editor_hits, od_Editor_hits, .func (PySem.W.fnOf "hits" "Editor.hits" (defArgs s_Editor_hits) (defBody s_Editor_hits) (defScope s_Editor_hits) .none kV_Editor_hits dc_Editor_hits pm_Editor_hits an_Editor_hits cd_Editor_hits ct_Editor_hits), sl_Editor_hits⟩)
    (c_Editor_hits : PySem.W.codeIn K cd_Editor_hits "Editor.hits" = true)
    (k_Editor_hits : PySem.W.keepIn K (.ref f_Editor_hits) = true)
    {f_Editor_choose : Addr} {oc_Editor_choose kV_Editor_choose dc_Editor_choose pm_Editor_choose cd_Editor_choose ct_Editor_choose : Value} {od_Editor_choose an_Editor_choose : Option Addr} {sl_Editor_choose : Array (Option Value)}
    (i_Editor_choose : PySem.W.findIn K (.ref C3) "choose" = some (some (.ref f_Editor_choose)))
    (j_Editor_choose : PySem.W.isFn K (.ref f_Editor_choose) = true)
    (l_Editor_choose : K.lookup f_Editor_choose = some ⟨oc_Editor_choose, od_Editor_choose, .func (PySem.W.fnOf "choose" "Editor.choose" (defArgs s_Editor_choose) (defBody s_Editor_choose) (defScope s_Editor_choose) .none kV_Editor_choose dc_Editor_choose pm_Editor_choose an_Editor_choose cd_Editor_choose ct_Editor_choose), sl_Editor_choose⟩)
    (c_Editor_choose : PySem.W.codeIn K cd_Editor_choose "Editor.choose" = true)
    (k_Editor_choose : PySem.W.keepIn K (.ref f_Editor_choose) = true)
    {f_Editor_next : Addr} {oc_Editor_next kV_Editor_next dc_Editor_next pm_Editor_next cd_Editor_next ct_Editor_next : Value} {od_Editor_next an_Editor_next : Option Addr} {sl_Editor_next : Array (Option Value)}
    (i_Editor_next : PySem.W.findIn K (.ref C3) "next" = some (some (.ref f_Editor_next)))
    (j_Editor_next : PySem.W.isFn K (.ref f_Editor_next) = true)
    (l_Editor_next : K.lookup f_Editor_next = some ⟨oc_Editor_next, od_Editor_next, .func (PySem.W.fnOf "next" "Editor.next" (defArgs s_Editor_next) (defBody s_Editor_next) (defScope s_Editor_next) .none kV_Editor_next dc_Editor_next pm_Editor_next an_Editor_next cd_Editor_next ct_Editor_next), sl_Editor_next⟩)
    (c_Editor_next : PySem.W.codeIn K cd_Editor_next "Editor.next" = true)
    (k_Editor_next : PySem.W.keepIn K (.ref f_Editor_next) = true)
    {f_Editor_deed : Addr} {oc_Editor_deed kV_Editor_deed dc_Editor_deed pm_Editor_deed cd_Editor_deed ct_Editor_deed : Value} {od_Editor_deed an_Editor_deed : Option Addr} {sl_Editor_deed : Array (Option Value)}
    (i_Editor_deed : PySem.W.findIn K (.ref C3) "deed" = some (some (.ref f_Editor_deed)))
    (j_Editor_deed : PySem.W.isFn K (.ref f_Editor_deed) = true)
    (l_Editor_deed : K.lookup f_Editor_deed = some ⟨oc_Editor_deed, od_Editor_deed, .func (PySem.W.fnOf "deed" "Editor.deed" (defArgs s_Editor_deed) (defBody s_Editor_deed) (defScope s_Editor_deed) .none kV_Editor_deed dc_Editor_deed pm_Editor_deed an_Editor_deed cd_Editor_deed ct_Editor_deed), sl_Editor_deed⟩)
    (c_Editor_deed : PySem.W.codeIn K cd_Editor_deed "Editor.deed" = true)
    (k_Editor_deed : PySem.W.keepIn K (.ref f_Editor_deed) = true)
    {f_Editor_need_chosen : Addr} {oc_Editor_need_chosen kV_Editor_need_chosen dc_Editor_need_chosen pm_Editor_need_chosen cd_Editor_need_chosen ct_Editor_need_chosen : Value} {od_Editor_need_chosen an_Editor_need_chosen : Option Addr} {sl_Editor_need_chosen : Array (Option Value)}
    (i_Editor_need_chosen : PySem.W.findIn K (.ref C3) "need_chosen" = some (some (.ref f_Editor_need_chosen)))
    (j_Editor_need_chosen : PySem.W.isFn K (.ref f_Editor_need_chosen) = true)
    (l_Editor_need_chosen : K.lookup f_Editor_need_chosen = some ⟨oc_Editor_need_chosen, od_Editor_need_chosen, .func (PySem.W.fnOf "need_chosen" "Editor.need_chosen" (defArgs s_Editor_need_chosen) (defBody s_Editor_need_chosen) (defScope s_Editor_need_chosen) .none kV_Editor_need_chosen dc_Editor_need_chosen pm_Editor_need_chosen an_Editor_need_chosen cd_Editor_need_chosen ct_Editor_need_chosen), sl_Editor_need_chosen⟩)
    (c_Editor_need_chosen : PySem.W.codeIn K cd_Editor_need_chosen "Editor.need_chosen" = true)
    (k_Editor_need_chosen : PySem.W.keepIn K (.ref f_Editor_need_chosen) = true)
    {f_Editor_keep_hit : Addr} {oc_Editor_keep_hit kV_Editor_keep_hit dc_Editor_keep_hit pm_Editor_keep_hit cd_Editor_keep_hit ct_Editor_keep_hit : Value} {od_Editor_keep_hit an_Editor_keep_hit : Option Addr} {sl_Editor_keep_hit : Array (Option Value)}
    (i_Editor_keep_hit : PySem.W.findIn K (.ref C3) "keep_hit" = some (some (.ref f_Editor_keep_hit)))
    (j_Editor_keep_hit : PySem.W.isFn K (.ref f_Editor_keep_hit) = true)
    (l_Editor_keep_hit : K.lookup f_Editor_keep_hit = some ⟨oc_Editor_keep_hit, od_Editor_keep_hit, .func (PySem.W.fnOf "keep_hit" "Editor.keep_hit" (defArgs s_Editor_keep_hit) (defBody s_Editor_keep_hit) (defScope s_Editor_keep_hit) .none kV_Editor_keep_hit dc_Editor_keep_hit pm_Editor_keep_hit an_Editor_keep_hit cd_Editor_keep_hit ct_Editor_keep_hit), sl_Editor_keep_hit⟩)
    (c_Editor_keep_hit : PySem.W.codeIn K cd_Editor_keep_hit "Editor.keep_hit" = true)
    (k_Editor_keep_hit : PySem.W.keepIn K (.ref f_Editor_keep_hit) = true)
    {f_Editor_replace_hit : Addr} {oc_Editor_replace_hit kV_Editor_replace_hit dc_Editor_replace_hit pm_Editor_replace_hit cd_Editor_replace_hit ct_Editor_replace_hit : Value} {od_Editor_replace_hit an_Editor_replace_hit : Option Addr} {sl_Editor_replace_hit : Array (Option Value)}
    (i_Editor_replace_hit : PySem.W.findIn K (.ref C3) "replace_hit" = some (some (.ref f_Editor_replace_hit)))
    (j_Editor_replace_hit : PySem.W.isFn K (.ref f_Editor_replace_hit) = true)
    (l_Editor_replace_hit : K.lookup f_Editor_replace_hit = some ⟨oc_Editor_replace_hit, od_Editor_replace_hit, .func (PySem.W.fnOf "replace_hit" "Editor.replace_hit" (defArgs s_Editor_replace_hit) (defBody s_Editor_replace_hit) (defScope s_Editor_replace_hit) .none kV_Editor_replace_hit dc_Editor_replace_hit pm_Editor_replace_hit an_Editor_replace_hit cd_Editor_replace_hit ct_Editor_replace_hit), sl_Editor_replace_hit⟩)
    (c_Editor_replace_hit : PySem.W.codeIn K cd_Editor_replace_hit "Editor.replace_hit" = true)
    (k_Editor_replace_hit : PySem.W.keepIn K (.ref f_Editor_replace_hit) = true)
    {f_Editor_undo : Addr} {oc_Editor_undo kV_Editor_undo dc_Editor_undo pm_Editor_undo cd_Editor_undo ct_Editor_undo : Value} {od_Editor_undo an_Editor_undo : Option Addr} {sl_Editor_undo : Array (Option Value)}
    (i_Editor_undo : PySem.W.findIn K (.ref C3) "undo" = some (some (.ref f_Editor_undo)))
    (j_Editor_undo : PySem.W.isFn K (.ref f_Editor_undo) = true)
    (l_Editor_undo : K.lookup f_Editor_undo = some ⟨oc_Editor_undo, od_Editor_undo, .func (PySem.W.fnOf "undo" "Editor.undo" (defArgs s_Editor_undo) (defBody s_Editor_undo) (defScope s_Editor_undo) .none kV_Editor_undo dc_Editor_undo pm_Editor_undo an_Editor_undo cd_Editor_undo ct_Editor_undo), sl_Editor_undo⟩)
    (c_Editor_undo : PySem.W.codeIn K cd_Editor_undo "Editor.undo" = true)
    (k_Editor_undo : PySem.W.keepIn K (.ref f_Editor_undo) = true)
    {f_Editor_redo : Addr} {oc_Editor_redo kV_Editor_redo dc_Editor_redo pm_Editor_redo cd_Editor_redo ct_Editor_redo : Value} {od_Editor_redo an_Editor_redo : Option Addr} {sl_Editor_redo : Array (Option Value)}
    (i_Editor_redo : PySem.W.findIn K (.ref C3) "redo" = some (some (.ref f_Editor_redo)))
    (j_Editor_redo : PySem.W.isFn K (.ref f_Editor_redo) = true)
    (l_Editor_redo : K.lookup f_Editor_redo = some ⟨oc_Editor_redo, od_Editor_redo, .func (PySem.W.fnOf "redo" "Editor.redo" (defArgs s_Editor_redo) (defBody s_Editor_redo) (defScope s_Editor_redo) .none kV_Editor_redo dc_Editor_redo pm_Editor_redo an_Editor_redo cd_Editor_redo ct_Editor_redo), sl_Editor_redo⟩)
    (c_Editor_redo : PySem.W.codeIn K cd_Editor_redo "Editor.redo" = true)
    (k_Editor_redo : PySem.W.keepIn K (.ref f_Editor_redo) = true)
    {f_done_word : Addr} {oc_done_word kV_done_word dc_done_word pm_done_word cd_done_word ct_done_word : Value} {od_done_word an_done_word : Option Addr} {sl_done_word : Array (Option Value)}
    (a_done_word : PySem.W.nsIn K mainGlobals "done_word" = some (some (.ref f_done_word)))
    (l_done_word : K.lookup f_done_word = some ⟨oc_done_word, od_done_word, .func (PySem.W.fnOf "done_word" "done_word" (defArgs s_done_word) (defBody s_done_word) (defScope s_done_word) .none kV_done_word dc_done_word pm_done_word an_done_word cd_done_word ct_done_word), sl_done_word⟩)
    (c_done_word : PySem.W.codeIn K cd_done_word "done_word" = true)
    (k_done_word : PySem.W.keepIn K (.ref f_done_word) = true)
    {f_told_word : Addr} {oc_told_word kV_told_word dc_told_word pm_told_word cd_told_word ct_told_word : Value} {od_told_word an_told_word : Option Addr} {sl_told_word : Array (Option Value)}
    (a_told_word : PySem.W.nsIn K mainGlobals "told_word" = some (some (.ref f_told_word)))
    (l_told_word : K.lookup f_told_word = some ⟨oc_told_word, od_told_word, .func (PySem.W.fnOf "told_word" "told_word" (defArgs s_told_word) (defBody s_told_word) (defScope s_told_word) .none kV_told_word dc_told_word pm_told_word an_told_word cd_told_word ct_told_word), sl_told_word⟩)
    (c_told_word : PySem.W.codeIn K cd_told_word "told_word" = true)
    (k_told_word : PySem.W.keepIn K (.ref f_told_word) = true)
    {f_played : Addr} {oc_played kV_played dc_played pm_played cd_played ct_played : Value} {od_played an_played : Option Addr} {sl_played : Array (Option Value)}
    (a_played : PySem.W.nsIn K mainGlobals "played" = some (some (.ref f_played)))
    (l_played : K.lookup f_played = some ⟨oc_played, od_played, .func (PySem.W.fnOf "played" "played" (defArgs s_played) (defBody s_played) (defScope s_played) .none kV_played dc_played pm_played an_played cd_played ct_played), sl_played⟩)
    (c_played : PySem.W.codeIn K cd_played "played" = true)
    (k_played : PySem.W.keepIn K (.ref f_played) = true)
    {f__law_random : Addr} {oc__law_random kV__law_random dc__law_random pm__law_random cd__law_random ct__law_random : Value} {od__law_random an__law_random : Option Addr} {sl__law_random : Array (Option Value)}
    (a__law_random : PySem.W.nsIn K mainGlobals "_law_random" = some (some (.ref f__law_random)))
    (l__law_random : K.lookup f__law_random = some ⟨oc__law_random, od__law_random, .func (PySem.W.fnOf "_law_random" "_law_random" (defArgs s__law_random) (defBody s__law_random) (defScope s__law_random) .none kV__law_random dc__law_random pm__law_random an__law_random cd__law_random ct__law_random), sl__law_random⟩)
    (c__law_random : PySem.W.codeIn K cd__law_random "_law_random" = true)
    (k__law_random : PySem.W.keepIn K (.ref f__law_random) = true)
    {f__law_below : Addr} {oc__law_below kV__law_below dc__law_below pm__law_below cd__law_below ct__law_below : Value} {od__law_below an__law_below : Option Addr} {sl__law_below : Array (Option Value)}
    (a__law_below : PySem.W.nsIn K mainGlobals "_law_below" = some (some (.ref f__law_below)))
    (l__law_below : K.lookup f__law_below = some ⟨oc__law_below, od__law_below, .func (PySem.W.fnOf "_law_below" "_law_below" (defArgs s__law_below) (defBody s__law_below) (defScope s__law_below) .none kV__law_below dc__law_below pm__law_below an__law_below cd__law_below ct__law_below), sl__law_below⟩)
    (c__law_below : PySem.W.codeIn K cd__law_below "_law_below" = true)
    (k__law_below : PySem.W.keepIn K (.ref f__law_below) = true)
    {f__law_pick : Addr} {oc__law_pick kV__law_pick dc__law_pick pm__law_pick cd__law_pick ct__law_pick : Value} {od__law_pick an__law_pick : Option Addr} {sl__law_pick : Array (Option Value)}
    (a__law_pick : PySem.W.nsIn K mainGlobals "_law_pick" = some (some (.ref f__law_pick)))
    (l__law_pick : K.lookup f__law_pick = some ⟨oc__law_pick, od__law_pick, .func (PySem.W.fnOf "_law_pick" "_law_pick" (defArgs s__law_pick) (defBody s__law_pick) (defScope s__law_pick) .none kV__law_pick dc__law_pick pm__law_pick an__law_pick cd__law_pick ct__law_pick), sl__law_pick⟩)
    (c__law_pick : PySem.W.codeIn K cd__law_pick "_law_pick" = true)
    (k__law_pick : PySem.W.keepIn K (.ref f__law_pick) = true)
    {f__law_equal : Addr} {oc__law_equal kV__law_equal dc__law_equal pm__law_equal cd__law_equal ct__law_equal : Value} {od__law_equal an__law_equal : Option Addr} {sl__law_equal : Array (Option Value)}
    (a__law_equal : PySem.W.nsIn K mainGlobals "_law_equal" = some (some (.ref f__law_equal)))
    (l__law_equal : K.lookup f__law_equal = some ⟨oc__law_equal, od__law_equal, .func (PySem.W.fnOf "_law_equal" "_law_equal" (defArgs s__law_equal) (defBody s__law_equal) (defScope s__law_equal) .none kV__law_equal dc__law_equal pm__law_equal an__law_equal cd__law_equal ct__law_equal), sl__law_equal⟩)
    (c__law_equal : PySem.W.codeIn K cd__law_equal "_law_equal" = true)
    (k__law_equal : PySem.W.keepIn K (.ref f__law_equal) = true)
    {f__law_drawn : Addr} {oc__law_drawn kV__law_drawn dc__law_drawn pm__law_drawn cd__law_drawn ct__law_drawn : Value} {od__law_drawn an__law_drawn : Option Addr} {sl__law_drawn : Array (Option Value)}
    (a__law_drawn : PySem.W.nsIn K mainGlobals "_law_drawn" = some (some (.ref f__law_drawn)))
    (l__law_drawn : K.lookup f__law_drawn = some ⟨oc__law_drawn, od__law_drawn, .func (PySem.W.fnOf "_law_drawn" "_law_drawn" (defArgs s__law_drawn) (defBody s__law_drawn) (defScope s__law_drawn) .none kV__law_drawn dc__law_drawn pm__law_drawn an__law_drawn cd__law_drawn ct__law_drawn), sl__law_drawn⟩)
    (c__law_drawn : PySem.W.codeIn K cd__law_drawn "_law_drawn" = true)
    (k__law_drawn : PySem.W.keepIn K (.ref f__law_drawn) = true)
    {f__law_make : Addr} {oc__law_make kV__law_make dc__law_make pm__law_make cd__law_make ct__law_make : Value} {od__law_make an__law_make : Option Addr} {sl__law_make : Array (Option Value)}
    (a__law_make : PySem.W.nsIn K mainGlobals "_law_make" = some (some (.ref f__law_make)))
    (l__law_make : K.lookup f__law_make = some ⟨oc__law_make, od__law_make, .func (PySem.W.fnOf "_law_make" "_law_make" (defArgs s__law_make) (defBody s__law_make) (defScope s__law_make) .none kV__law_make dc__law_make pm__law_make an__law_make cd__law_make ct__law_make), sl__law_make⟩)
    (c__law_make : PySem.W.codeIn K cd__law_make "_law_make" = true)
    (k__law_make : PySem.W.keepIn K (.ref f__law_make) = true)
    {f__law_text : Addr} {oc__law_text kV__law_text dc__law_text pm__law_text cd__law_text ct__law_text : Value} {od__law_text an__law_text : Option Addr} {sl__law_text : Array (Option Value)}
    (a__law_text : PySem.W.nsIn K mainGlobals "_law_text" = some (some (.ref f__law_text)))
    (l__law_text : K.lookup f__law_text = some ⟨oc__law_text, od__law_text, .func (PySem.W.fnOf "_law_text" "_law_text" (defArgs s__law_text) (defBody s__law_text) (defScope s__law_text) .none kV__law_text dc__law_text pm__law_text an__law_text cd__law_text ct__law_text), sl__law_text⟩)
    (c__law_text : PySem.W.codeIn K cd__law_text "_law_text" = true)
    (k__law_text : PySem.W.keepIn K (.ref f__law_text) = true)
    {f__law_find : Addr} {oc__law_find kV__law_find dc__law_find pm__law_find cd__law_find ct__law_find : Value} {od__law_find an__law_find : Option Addr} {sl__law_find : Array (Option Value)}
    (a__law_find : PySem.W.nsIn K mainGlobals "_law_find" = some (some (.ref f__law_find)))
    (l__law_find : K.lookup f__law_find = some ⟨oc__law_find, od__law_find, .func (PySem.W.fnOf "_law_find" "_law_find" (defArgs s__law_find) (defBody s__law_find) (defScope s__law_find) .none kV__law_find dc__law_find pm__law_find an__law_find cd__law_find ct__law_find), sl__law_find⟩)
    (c__law_find : PySem.W.codeIn K cd__law_find "_law_find" = true)
    (k__law_find : PySem.W.keepIn K (.ref f__law_find) = true)
    {f__law_ahead : Addr} {oc__law_ahead kV__law_ahead dc__law_ahead pm__law_ahead cd__law_ahead ct__law_ahead : Value} {od__law_ahead an__law_ahead : Option Addr} {sl__law_ahead : Array (Option Value)}
    (a__law_ahead : PySem.W.nsIn K mainGlobals "_law_ahead" = some (some (.ref f__law_ahead)))
    (l__law_ahead : K.lookup f__law_ahead = some ⟨oc__law_ahead, od__law_ahead, .func (PySem.W.fnOf "_law_ahead" "_law_ahead" (defArgs s__law_ahead) (defBody s__law_ahead) (defScope s__law_ahead) .none kV__law_ahead dc__law_ahead pm__law_ahead an__law_ahead cd__law_ahead ct__law_ahead), sl__law_ahead⟩)
    (c__law_ahead : PySem.W.codeIn K cd__law_ahead "_law_ahead" = true)
    (k__law_ahead : PySem.W.keepIn K (.ref f__law_ahead) = true)
    {f__law_pass : Addr} {oc__law_pass kV__law_pass dc__law_pass pm__law_pass cd__law_pass ct__law_pass : Value} {od__law_pass an__law_pass : Option Addr} {sl__law_pass : Array (Option Value)}
    (a__law_pass : PySem.W.nsIn K mainGlobals "_law_pass" = some (some (.ref f__law_pass)))
    (l__law_pass : K.lookup f__law_pass = some ⟨oc__law_pass, od__law_pass, .func (PySem.W.fnOf "_law_pass" "_law_pass" (defArgs s__law_pass) (defBody s__law_pass) (defScope s__law_pass) .none kV__law_pass dc__law_pass pm__law_pass an__law_pass cd__law_pass ct__law_pass), sl__law_pass⟩)
    (c__law_pass : PySem.W.codeIn K cd__law_pass "_law_pass" = true)
    (k__law_pass : PySem.W.keepIn K (.ref f__law_pass) = true)
    {f__law_signs : Addr} {oc__law_signs kV__law_signs dc__law_signs pm__law_signs cd__law_signs ct__law_signs : Value} {od__law_signs an__law_signs : Option Addr} {sl__law_signs : Array (Option Value)}
    (a__law_signs : PySem.W.nsIn K mainGlobals "_law_signs" = some (some (.ref f__law_signs)))
    (l__law_signs : K.lookup f__law_signs = some ⟨oc__law_signs, od__law_signs, .func (PySem.W.fnOf "_law_signs" "_law_signs" (defArgs s__law_signs) (defBody s__law_signs) (defScope s__law_signs) .none kV__law_signs dc__law_signs pm__law_signs an__law_signs cd__law_signs ct__law_signs), sl__law_signs⟩)
    (c__law_signs : PySem.W.codeIn K cd__law_signs "_law_signs" = true)
    (k__law_signs : PySem.W.keepIn K (.ref f__law_signs) = true)
    {f__law_refused : Addr} {oc__law_refused kV__law_refused dc__law_refused pm__law_refused cd__law_refused ct__law_refused : Value} {od__law_refused an__law_refused : Option Addr} {sl__law_refused : Array (Option Value)}
    (a__law_refused : PySem.W.nsIn K mainGlobals "_law_refused" = some (some (.ref f__law_refused)))
    (l__law_refused : K.lookup f__law_refused = some ⟨oc__law_refused, od__law_refused, .func (PySem.W.fnOf "_law_refused" "_law_refused" (defArgs s__law_refused) (defBody s__law_refused) (defScope s__law_refused) .none kV__law_refused dc__law_refused pm__law_refused an__law_refused cd__law_refused ct__law_refused), sl__law_refused⟩)
    (c__law_refused : PySem.W.codeIn K cd__law_refused "_law_refused" = true)
    (k__law_refused : PySem.W.keepIn K (.ref f__law_refused) = true)
    {f_law : Addr} {oc_law kV_law dc_law pm_law cd_law ct_law : Value} {od_law an_law : Option Addr} {sl_law : Array (Option Value)}
    (a_law : PySem.W.nsIn K mainGlobals "law" = some (some (.ref f_law)))
    (l_law : K.lookup f_law = some ⟨oc_law, od_law, .func (PySem.W.fnOf "law" "law" (defArgs s_law) (defBody s_law) (defScope s_law) .none kV_law dc_law pm_law an_law cd_law ct_law), sl_law⟩)
    (c_law : PySem.W.codeIn K cd_law "law" = true)
    (k_law : PySem.W.keepIn K (.ref f_law) = true)
    (cl0 : clsB K C0 = true)
    (mk0 : PySem.W.makesIn K C0 = true)
    (kc0 : PySem.W.keepIn K (.ref C0) = true)
    (cl1 : clsB K C1 = true)
    (cl2 : clsB K C2 = true)
    (mk2 : PySem.W.makesIn K C2 = true)
    (kc2 : PySem.W.keepIn K (.ref C2) = true)
    (cl3 : clsB K C3 = true)
    (mk3 : PySem.W.makesIn K C3 = true)
    (kc3 : PySem.W.keepIn K (.ref C3) = true)
    (xb4 : xpB K C4 = true)
    {nm5 q5 : Str} {N5 : Addr} {bs5 bm5 sub5 : List Value} {sn5 : List Str} {ab5 : Bool} {col5 : Option Bool} {dd5 : Option Addr} {e05 e15 e25 e35 e55 : Option Value}
    {f_InvalidStepper_init : Addr} {oc_InvalidStepper_init kV_InvalidStepper_init dc_InvalidStepper_init pm_InvalidStepper_init cd_InvalidStepper_init ct_InvalidStepper_init : Value} {od_InvalidStepper_init an_InvalidStepper_init : Option Addr} {sl_InvalidStepper_init : Array (Option Value)}
    (o5 : K.lookup C5 = some (excClassObj nm5 q5 C5 N5 bs5 bm5 true sn5 sub5 ab5 col5 dd5 e05 e15 e25 e35 e55 "ValueError.__new__"))
    (i_InvalidStepper_init : PySem.W.findIn K (.ref C5) "__init__" = some (some (.ref f_InvalidStepper_init)))
    (l_InvalidStepper_init : K.lookup f_InvalidStepper_init = some ⟨oc_InvalidStepper_init, od_InvalidStepper_init, .func (PySem.W.fnOf "__init__" "InvalidStepper.__init__" (defArgs s_InvalidStepper_init) (defBody s_InvalidStepper_init) (defScope s_InvalidStepper_init) .none kV_InvalidStepper_init dc_InvalidStepper_init pm_InvalidStepper_init an_InvalidStepper_init cd_InvalidStepper_init ct_InvalidStepper_init), sl_InvalidStepper_init⟩)
    (c_InvalidStepper_init : PySem.W.codeIn K cd_InvalidStepper_init "InvalidStepper.__init__" = true)
    (k_InvalidStepper_init : PySem.W.keepIn K (.ref f_InvalidStepper_init) = true)
    (rv5 : PySem.HandSPX.refsVE bm5 = true)
    (xb5 : xcB K C5 f_InvalidStepper_init "field" = true)
    (xb6 : xpB K C6 = true)
    (xb7 : xpB K C7 = true)
    {nm8 q8 : Str} {N8 : Addr} {bs8 bm8 sub8 : List Value} {sn8 : List Str} {ab8 : Bool} {col8 : Option Bool} {dd8 : Option Addr} {e08 e18 e28 e38 e58 : Option Value}
    {f_Endless_init : Addr} {oc_Endless_init kV_Endless_init dc_Endless_init pm_Endless_init cd_Endless_init ct_Endless_init : Value} {od_Endless_init an_Endless_init : Option Addr} {sl_Endless_init : Array (Option Value)}
    (o8 : K.lookup C8 = some (excClassObj nm8 q8 C8 N8 bs8 bm8 true sn8 sub8 ab8 col8 dd8 e08 e18 e28 e38 e58 "ValueError.__new__"))
    (i_Endless_init : PySem.W.findIn K (.ref C8) "__init__" = some (some (.ref f_Endless_init)))
    (l_Endless_init : K.lookup f_Endless_init = some ⟨oc_Endless_init, od_Endless_init, .func (PySem.W.fnOf "__init__" "Endless.__init__" (defArgs s_Endless_init) (defBody s_Endless_init) (defScope s_Endless_init) .none kV_Endless_init dc_Endless_init pm_Endless_init an_Endless_init cd_Endless_init ct_Endless_init), sl_Endless_init⟩)
    (c_Endless_init : PySem.W.codeIn K cd_Endless_init "Endless.__init__" = true)
    (k_Endless_init : PySem.W.keepIn K (.ref f_Endless_init) = true)
    (rv8 : PySem.HandSPX.refsVE bm8 = true)
    (xb8 : xcB K C8 f_Endless_init "pass_number" = true)
    {nm9 q9 : Str} {N9 : Addr} {bs9 bm9 sub9 : List Value} {sn9 : List Str} {ab9 : Bool} {col9 : Option Bool} {dd9 : Option Addr} {e09 e19 e29 e39 e59 : Option Value}
    {f_UnknownWord_init : Addr} {oc_UnknownWord_init kV_UnknownWord_init dc_UnknownWord_init pm_UnknownWord_init cd_UnknownWord_init ct_UnknownWord_init : Value} {od_UnknownWord_init an_UnknownWord_init : Option Addr} {sl_UnknownWord_init : Array (Option Value)}
    (o9 : K.lookup C9 = some (excClassObj nm9 q9 C9 N9 bs9 bm9 true sn9 sub9 ab9 col9 dd9 e09 e19 e29 e39 e59 "ValueError.__new__"))
    (i_UnknownWord_init : PySem.W.findIn K (.ref C9) "__init__" = some (some (.ref f_UnknownWord_init)))
    (l_UnknownWord_init : K.lookup f_UnknownWord_init = some ⟨oc_UnknownWord_init, od_UnknownWord_init, .func (PySem.W.fnOf "__init__" "UnknownWord.__init__" (defArgs s_UnknownWord_init) (defBody s_UnknownWord_init) (defScope s_UnknownWord_init) .none kV_UnknownWord_init dc_UnknownWord_init pm_UnknownWord_init an_UnknownWord_init cd_UnknownWord_init ct_UnknownWord_init), sl_UnknownWord_init⟩)
    (c_UnknownWord_init : PySem.W.codeIn K cd_UnknownWord_init "UnknownWord.__init__" = true)
    (k_UnknownWord_init : PySem.W.keepIn K (.ref f_UnknownWord_init) = true)
    (rv9 : PySem.HandSPX.refsVE bm9 = true)
    (xb9 : xcB K C9 f_UnknownWord_init "index" = true)
    (isi : isiB K [C0, C1, C2, C3, C4, C5, C6, C7, C8, C9] [0] = true)
    (fld : fldB K [C0, C1, C2, C3, C4, C5, C6, C7, C8, C9] flds = true)
    (blt : blB K bls = true)
    (xsb : xsB K [C0, C1, C2, C3, C4, C5, C6, C7, C8, C9] exs = true)
    (xib : xiB K [C0, C1, C2, C3, C4, C5, C6, C7, C8, C9] exi = true)
    (con_SIGNS : conAt K "SIGNS" = some c_SIGNS)
    (con_MOST_SIGNS : conAt K "MOST_SIGNS" = some (.int 3))
    (con_MOST_DEEDS : conAt K "MOST_DEEDS" = some (.int 3))
    (con_KEEPS : conAt K "KEEPS" = some c_KEEPS)
    (con_TURNS : conAt K "TURNS" = some c_TURNS)
    (con_DEEDS : conAt K "DEEDS" = some c_DEEDS)
    (con_MOST_PASSES : conAt K "MOST_PASSES" = some (.int 2))
    (con_WORDS : conAt K "WORDS" = some c_WORDS) :
    ∃ fd : FuncData, (∀ (s : Shared) (v : Value), BindsTo s fd ⟨[v], []⟩ [("_law_script", v)]) ∧ ∀ base : Heap, K.In base → base.Ns mainGlobals mg → FnOk l.prog w K mg base (L2.CX l.prog w) 16 fa fd ["_law_script"] (spLaw K) := by
  have e := hfa.symm.trans (PySem.W.mg_of X G a_law)
  cases e
  have F : Facts K mg C0 C1 C2 C3 C4 C5 C6 C7 C8 C9 := ⟨isiB_ok (T := (tb K C0 C1 C2 C3 C4 C5 C6 C7 C8 C9)) isi, (fun f cs hm => fldB_ok (T := (tb K C0 C1 C2 C3 C4 C5 C6 C7 C8 C9)) fld hm), blB_ok X G blt, PySem.W.mg_of X G aC0, clsB_ok cl0, mk0, kc0, PySem.W.mg_of X G aC1, clsB_ok cl1, PySem.W.mg_of X G aC2, clsB_ok cl2, mk2, kc2, PySem.W.mg_of X G aC3, clsB_ok cl3, mk3, kc3, PySem.W.mg_of X G aC4, PySem.W.mg_of X G aC5, PySem.W.mg_of X G aC6, PySem.W.mg_of X G aC7, PySem.W.mg_of X G aC8, PySem.W.mg_of X G aC9, xsB_ok (T := (tb K C0 C1 C2 C3 C4 C5 C6 C7 C8 C9)) xsb, xiB_ok (T := (tb K C0 C1 C2 C3 C4 C5 C6 C7 C8 C9)) xib, con_ok (T := (tb K C0 C1 C2 C3 C4 C5 C6 C7 C8 C9)) rfl X G con_SIGNS, con_ok (T := (tb K C0 C1 C2 C3 C4 C5 C6 C7 C8 C9)) rfl X G con_MOST_SIGNS, con_ok (T := (tb K C0 C1 C2 C3 C4 C5 C6 C7 C8 C9)) rfl X G con_MOST_DEEDS, con_ok (T := (tb K C0 C1 C2 C3 C4 C5 C6 C7 C8 C9)) rfl X G con_KEEPS, con_ok (T := (tb K C0 C1 C2 C3 C4 C5 C6 C7 C8 C9)) rfl X G con_TURNS, con_ok (T := (tb K C0 C1 C2 C3 C4 C5 C6 C7 C8 C9)) rfl X G con_DEEDS, con_ok (T := (tb K C0 C1 C2 C3 C4 C5 C6 C7 C8 C9)) rfl X G con_MOST_PASSES, con_ok (T := (tb K C0 C1 C2 C3 C4 C5 C6 C7 C8 C9)) rfl X G con_WORDS⟩
  refine ⟨PySem.W.fnOf "law" "law" (defArgs s_law) (defBody s_law) (defScope s_law) .none kV_law dc_law pm_law an_law cd_law ct_law, fun s v => .of_eq rfl, fun base _ _ => ?_⟩
  exact (chain (P := l.prog) (w := w) (base := base) F (fun_mk (st := s_is_integer) l_is_integer c_is_integer k_is_integer) (PySem.W.mg_of X G a_is_integer) (fun_mk (st := s_is_text) l_is_text c_is_text k_is_text) (PySem.W.mg_of X G a_is_text) (fun_mk (st := s_need_text) l_need_text c_need_text k_need_text) (PySem.W.mg_of X G a_need_text) (fun_mk (st := s_is_one_of) l_is_one_of c_is_one_of k_is_one_of) (PySem.W.mg_of X G a_is_one_of) (fun_mk (st := s_are_deeds) l_are_deeds c_are_deeds k_are_deeds) (PySem.W.mg_of X G a_are_deeds) (fun_mk (st := s_need_fields) l_need_fields c_need_fields k_need_fields) (PySem.W.mg_of X G a_need_fields) (fun_mk (st := s_Stepper_init) l_Stepper_init c_Stepper_init k_Stepper_init) i_Stepper_init j_Stepper_init (fun_mk (st := s_Scan_init) l_Scan_init c_Scan_init k_Scan_init) i_Scan_init j_Scan_init (fun_mk (st := s_Scan_turned) l_Scan_turned c_Scan_turned k_Scan_turned) i_Scan_turned j_Scan_turned (fun_mk (st := s_places_in) l_places_in c_places_in k_places_in) (PySem.W.mg_of X G a_places_in) (fun_mk (st := s_Editor_init) l_Editor_init c_Editor_init k_Editor_init) i_Editor_init j_Editor_init (fun_mk (st := s_Editor_text) l_Editor_text c_Editor_text k_Editor_text) ⟨pa_Editor_text, pb_Editor_text, pc_Editor_text, ⟨_, pd_Editor_text⟩⟩ (fun_mk (st := s_Editor_hits) l_Editor_hits c_Editor_hits k_Editor_hits) i_Editor_hits j_Editor_hits (fun_mk (st := s_Editor_choose) l_Editor_choose c_Editor_choose k_Editor_choose) i_Editor_choose j_Editor_choose (fun_mk (st := s_Editor_next) l_Editor_next c_Editor_next k_Editor_next) i_Editor_next j_Editor_next (fun_mk (st := s_Editor_deed) l_Editor_deed c_Editor_deed k_Editor_deed) i_Editor_deed j_Editor_deed (fun_mk (st := s_Editor_need_chosen) l_Editor_need_chosen c_Editor_need_chosen k_Editor_need_chosen) i_Editor_need_chosen j_Editor_need_chosen (fun_mk (st := s_Editor_keep_hit) l_Editor_keep_hit c_Editor_keep_hit k_Editor_keep_hit) i_Editor_keep_hit j_Editor_keep_hit (fun_mk (st := s_Editor_replace_hit) l_Editor_replace_hit c_Editor_replace_hit k_Editor_replace_hit) i_Editor_replace_hit j_Editor_replace_hit (fun_mk (st := s_Editor_undo) l_Editor_undo c_Editor_undo k_Editor_undo) i_Editor_undo j_Editor_undo (fun_mk (st := s_Editor_redo) l_Editor_redo c_Editor_redo k_Editor_redo) i_Editor_redo j_Editor_redo (fun_mk (st := s_done_word) l_done_word c_done_word k_done_word) (PySem.W.mg_of X G a_done_word) (fun_mk (st := s_told_word) l_told_word c_told_word k_told_word) (PySem.W.mg_of X G a_told_word) (fun_mk (st := s_played) l_played c_played k_played) (PySem.W.mg_of X G a_played) (fun_mk (st := s__law_random) l__law_random c__law_random k__law_random) (PySem.W.mg_of X G a__law_random) (fun_mk (st := s__law_below) l__law_below c__law_below k__law_below) (PySem.W.mg_of X G a__law_below) (fun_mk (st := s__law_pick) l__law_pick c__law_pick k__law_pick) (PySem.W.mg_of X G a__law_pick) (fun_mk (st := s__law_equal) l__law_equal c__law_equal k__law_equal) (PySem.W.mg_of X G a__law_equal) (fun_mk (st := s__law_drawn) l__law_drawn c__law_drawn k__law_drawn) (PySem.W.mg_of X G a__law_drawn) (fun_mk (st := s__law_make) l__law_make c__law_make k__law_make) (PySem.W.mg_of X G a__law_make) (fun_mk (st := s__law_text) l__law_text c__law_text k__law_text) (PySem.W.mg_of X G a__law_text) (fun_mk (st := s__law_find) l__law_find c__law_find k__law_find) (PySem.W.mg_of X G a__law_find) (fun_mk (st := s__law_ahead) l__law_ahead c__law_ahead k__law_ahead) (PySem.W.mg_of X G a__law_ahead) (fun_mk (st := s__law_pass) l__law_pass c__law_pass k__law_pass) (PySem.W.mg_of X G a__law_pass) (fun_mk (st := s__law_signs) l__law_signs c__law_signs k__law_signs) (PySem.W.mg_of X G a__law_signs) (fun_mk (st := s__law_refused) l__law_refused c__law_refused k__law_refused) (PySem.W.mg_of X G a__law_refused) (fun_mk (st := s_law) l_law c_law k_law) (PySem.W.mg_of X G a_law) (xc_plain (T := (tb K C0 C1 C2 C3 C4 C5 C6 C7 C8 C9)) rfl (PySem.W.mg_of X G aC4) xb4) (xc_init (T := (tb K C0 C1 C2 C3 C4 C5 C6 C7 C8 C9)) rfl (PySem.W.mg_of X G aC5) rfl o5 rv5 xb5 (fun_mk (st := s_InvalidStepper_init) l_InvalidStepper_init c_InvalidStepper_init k_InvalidStepper_init) sc_InvalidStepper_init rfl (by decide +kernel) (by decide +kernel) ((fun_mk (st := s_InvalidStepper_init) l_InvalidStepper_init c_InvalidStepper_init k_InvalidStepper_init).binds (ps := ["self", "field"]) fun _ _ _ _ _ _ us hl => match us, hl with | [_, _], _ => rfl)) (xc_plain (T := (tb K C0 C1 C2 C3 C4 C5 C6 C7 C8 C9)) rfl (PySem.W.mg_of X G aC6) xb6) (xc_plain (T := (tb K C0 C1 C2 C3 C4 C5 C6 C7 C8 C9)) rfl (PySem.W.mg_of X G aC7) xb7) (xc_init (T := (tb K C0 C1 C2 C3 C4 C5 C6 C7 C8 C9)) rfl (PySem.W.mg_of X G aC8) rfl o8 rv8 xb8 (fun_mk (st := s_Endless_init) l_Endless_init c_Endless_init k_Endless_init) sc_Endless_init rfl (by decide +kernel) (by decide +kernel) ((fun_mk (st := s_Endless_init) l_Endless_init c_Endless_init k_Endless_init).binds (ps := ["self", "pass_number"]) fun _ _ _ _ _ _ us hl => match us, hl with | [_, _], _ => rfl)) (xc_init (T := (tb K C0 C1 C2 C3 C4 C5 C6 C7 C8 C9)) rfl (PySem.W.mg_of X G aC9) rfl o9 rv9 xb9 (fun_mk (st := s_UnknownWord_init) l_UnknownWord_init c_UnknownWord_init k_UnknownWord_init) sc_UnknownWord_init rfl (by decide +kernel) (by decide +kernel) ((fun_mk (st := s_UnknownWord_init) l_UnknownWord_init c_UnknownWord_init k_UnknownWord_init).binds (ps := ["self", "index"]) fun _ _ _ _ _ _ us hl => match us, hl with | [_, _], _ => rfl))).imp (spLaw_le (T := (tb K C0 C1 C2 C3 C4 C5 C6 C7 C8 C9)) rfl law_true)
theorem walk {l : PySem.W.OpenLaw} {q : Program} {loose : List Str} {XP : (Str → Option Value) → Heap → Prop} {YP : World → Heap → Prop} {d : DefRec} {K : Params → PySem.W.Frag} (hn : l.most = some 63) (hdf : d.params.defaults = [])
    (hY : ∀ (w : World) (h : Heap), YP w h → (K w.params).In h)
    (F : ∀ (w : World) (mg : Str → Option Value) (fa : Addr) (h : Heap), (K w.params).In h → h.Ns mainGlobals mg → mg d.name = some (.ref fa) →
      ∃ fd : FuncData, (∀ (s : Shared) (u : Value), BindsTo s fd ⟨[u], []⟩ [("_law_script", u)]) ∧ ∀ base : Heap, (K w.params).In base → base.Ns mainGlobals mg → FnOk l.prog w (K w.params) mg base (L2.CX l.prog w) 16 fa fd ["_law_script"] (spLaw (K w.params))) :
    PySem.W.WalkO q loose XP YP l.row.toRowW d [] (fun f vs => PySem.call f vs) :=
  L2.walk_of (n := 63) (k := 16) (x := "_law_script") (CX := fun w => L2.CX l.prog w) (sp := fun w => spLaw (K w.params)) hn (by decide) hdf ⟨rfl, by decide, by decide⟩ hY F (fun _ _ a ns hl _ hS => ⟨a, ns, rfl, hS, hl, fun _ => rfl⟩) fun w H s e s' z => cx_no H s e s' z
end FL

open PySem PySem.W PyProof.Rows
set_option maxRecDepth 100000 in
set_option maxHeartbeats 0 in
theorem PySem.Challenge.cw_hitsteps_k15_whole_editors_led_by_steppe_holds : PySem.Challenge.rw_hitsteps_k15_whole_editors_led_by_steppe.Holds := by
  w_on; o_law; k_head; (case hw => w_witness2)
  k_fill
  refine FL.walk (l := PySem.Challenge.rw_hitsteps_k15_whole_editors_led_by_steppe) rfl rfl (fun w h Y => PySem.W.kIn_of Y) ?F
  case F =>
    intro w mg fa h KX G hmg
    refine' FL.all_mk KX G hmg ?aC0 ?aC1 ?aC2 ?aC3 ?aC4 ?aC5 ?aC6 ?aC7 ?aC8 ?aC9 ?a_is_integer ?l_is_integer ?c_is_integer ?k_is_integer ?a_is_text ?l_is_text ?c_is_text ?k_is_text ?a_need_text ?l_need_text ?c_need_text ?k_need_text ?a_is_one_of ?l_is_one_of ?c_is_one_of ?k_is_one_of ?a_are_deeds ?l_are_deeds ?c_are_deeds ?k_are_deeds ?a_need_fields ?l_need_fields ?c_need_fields ?k_need_fields ?i_Stepper_init ?j_Stepper_init ?l_Stepper_init ?c_Stepper_init ?k_Stepper_init ?i_Scan_init ?j_Scan_init ?l_Scan_init ?c_Scan_init ?k_Scan_init ?i_Scan_turned ?j_Scan_turned ?l_Scan_turned ?c_Scan_turned ?k_Scan_turned ?a_places_in ?l_places_in ?c_places_in ?k_places_in ?i_Editor_init ?j_Editor_init ?l_Editor_init ?c_Editor_init ?k_Editor_init ?pa_Editor_text ?pb_Editor_text ?pc_Editor_text ?pd_Editor_text ?l_Editor_text ?c_Editor_text ?k_Editor_text ?i_Editor_hits ?j_Editor_hits ?l_Editor_hits ?c_Editor_hits ?k_Editor_hits ?i_Editor_choose ?j_Editor_choose ?l_Editor_choose ?c_Editor_choose ?k_Editor_choose ?i_Editor_next ?j_Editor_next ?l_Editor_next ?c_Editor_next ?k_Editor_next ?i_Editor_deed ?j_Editor_deed ?l_Editor_deed ?c_Editor_deed ?k_Editor_deed ?i_Editor_need_chosen ?j_Editor_need_chosen ?l_Editor_need_chosen ?c_Editor_need_chosen ?k_Editor_need_chosen ?i_Editor_keep_hit ?j_Editor_keep_hit ?l_Editor_keep_hit ?c_Editor_keep_hit ?k_Editor_keep_hit ?i_Editor_replace_hit ?j_Editor_replace_hit ?l_Editor_replace_hit ?c_Editor_replace_hit ?k_Editor_replace_hit ?i_Editor_undo ?j_Editor_undo ?l_Editor_undo ?c_Editor_undo ?k_Editor_undo ?i_Editor_redo ?j_Editor_redo ?l_Editor_redo ?c_Editor_redo ?k_Editor_redo ?a_done_word ?l_done_word ?c_done_word ?k_done_word ?a_told_word ?l_told_word ?c_told_word ?k_told_word ?a_played ?l_played ?c_played ?k_played ?a__law_random ?l__law_random ?c__law_random ?k__law_random ?a__law_below ?l__law_below ?c__law_below ?k__law_below ?a__law_pick ?l__law_pick ?c__law_pick ?k__law_pick ?a__law_equal ?l__law_equal ?c__law_equal ?k__law_equal ?a__law_drawn ?l__law_drawn ?c__law_drawn ?k__law_drawn ?a__law_make ?l__law_make ?c__law_make ?k__law_make ?a__law_text ?l__law_text ?c__law_text ?k__law_text ?a__law_find ?l__law_find ?c__law_find ?k__law_find ?a__law_ahead ?l__law_ahead ?c__law_ahead ?k__law_ahead ?a__law_pass ?l__law_pass ?c__law_pass ?k__law_pass ?a__law_signs ?l__law_signs ?c__law_signs ?k__law_signs ?a__law_refused ?l__law_refused ?c__law_refused ?k__law_refused ?a_law ?l_law ?c_law ?k_law ?cl0 ?mk0 ?kc0 ?cl1 ?cl2 ?mk2 ?kc2 ?cl3 ?mk3 ?kc3 ?xb4 ?o5 ?i_InvalidStepper_init ?l_InvalidStepper_init ?c_InvalidStepper_init ?k_InvalidStepper_init ?rv5 ?xb5 ?xb6 ?xb7 ?o8 ?i_Endless_init ?l_Endless_init ?c_Endless_init ?k_Endless_init ?rv8 ?xb8 ?o9 ?i_UnknownWord_init ?l_UnknownWord_init ?c_UnknownWord_init ?k_UnknownWord_init ?rv9 ?xb9 ?isi ?fld ?blt ?xsb ?xib ?con_SIGNS ?con_MOST_SIGNS ?con_MOST_DEEDS ?con_KEEPS ?con_TURNS ?con_DEEDS ?con_MOST_PASSES ?con_WORDS
    (case aC0 => k_is)
    (case aC1 => k_is)
    (case aC2 => k_is)
    (case aC3 => k_is)
    (case aC4 => k_is)
    (case aC5 => k_is)
    (case aC6 => k_is)
    (case aC7 => k_is)
    (case aC8 => k_is)
    (case aC9 => k_is)
    (case a_is_integer => k_is)
    (case l_is_integer => k_is)
    (case c_is_integer => k_is)
    (case k_is_integer => k_is)
    (case a_is_text => k_is)
    (case l_is_text => k_is)
    (case c_is_text => k_is)
    (case k_is_text => k_is)
    (case a_need_text => k_is)
    (case l_need_text => k_is)
    (case c_need_text => k_is)
    (case k_need_text => k_is)
    (case a_is_one_of => k_is)
    (case l_is_one_of => k_is)
    (case c_is_one_of => k_is)
    (case k_is_one_of => k_is)
    (case a_are_deeds => k_is)
    (case l_are_deeds => k_is)
    (case c_are_deeds => k_is)
    (case k_are_deeds => k_is)
    (case a_need_fields => k_is)
    (case l_need_fields => k_is)
    (case c_need_fields => k_is)
    (case k_need_fields => k_is)
    (case i_Stepper_init => k_is)
    (case j_Stepper_init => k_is)
    (case l_Stepper_init => k_is)
    (case c_Stepper_init => k_is)
    (case k_Stepper_init => k_is)
    (case i_Scan_init => k_is)
    (case j_Scan_init => k_is)
    (case l_Scan_init => k_is)
    (case c_Scan_init => k_is)
    (case k_Scan_init => k_is)
    (case i_Scan_turned => k_is)
    (case j_Scan_turned => k_is)
    (case l_Scan_turned => k_is)
    (case c_Scan_turned => k_is)
    (case k_Scan_turned => k_is)
    (case a_places_in => k_is)
    (case l_places_in => k_is)
    (case c_places_in => k_is)
    (case k_places_in => k_is)
    (case i_Editor_init => k_is)
    (case j_Editor_init => k_is)
    (case l_Editor_init => k_is)
    (case c_Editor_init => k_is)
    (case k_Editor_init => k_is)
    (case pa_Editor_text => k_is)
    (case pb_Editor_text => k_is)
    (case pc_Editor_text => k_is)
    (case pd_Editor_text => k_is)
    (case l_Editor_text => k_is)
    (case c_Editor_text => k_is)
    (case k_Editor_text => k_is)
    (case i_Editor_hits => k_is)
    (case j_Editor_hits => k_is)
    (case l_Editor_hits => k_is)
    (case c_Editor_hits => k_is)
    (case k_Editor_hits => k_is)
    (case i_Editor_choose => k_is)
    (case j_Editor_choose => k_is)
    (case l_Editor_choose => k_is)
    (case c_Editor_choose => k_is)
    (case k_Editor_choose => k_is)
    (case i_Editor_next => k_is)
    (case j_Editor_next => k_is)
    (case l_Editor_next => k_is)
    (case c_Editor_next => k_is)
    (case k_Editor_next => k_is)
    (case i_Editor_deed => k_is)
    (case j_Editor_deed => k_is)
    (case l_Editor_deed => k_is)
    (case c_Editor_deed => k_is)
    (case k_Editor_deed => k_is)
    (case i_Editor_need_chosen => k_is)
    (case j_Editor_need_chosen => k_is)
    (case l_Editor_need_chosen => k_is)
    (case c_Editor_need_chosen => k_is)
    (case k_Editor_need_chosen => k_is)
    (case i_Editor_keep_hit => k_is)
    (case j_Editor_keep_hit => k_is)
    (case l_Editor_keep_hit => k_is)
    (case c_Editor_keep_hit => k_is)
    (case k_Editor_keep_hit => k_is)
    (case i_Editor_replace_hit => k_is)
    (case j_Editor_replace_hit => k_is)
    (case l_Editor_replace_hit => k_is)
    (case c_Editor_replace_hit => k_is)
    (case k_Editor_replace_hit => k_is)
    (case i_Editor_undo => k_is)
    (case j_Editor_undo => k_is)
    (case l_Editor_undo => k_is)
    (case c_Editor_undo => k_is)
    (case k_Editor_undo => k_is)
    (case i_Editor_redo => k_is)
    (case j_Editor_redo => k_is)
    (case l_Editor_redo => k_is)
    (case c_Editor_redo => k_is)
    (case k_Editor_redo => k_is)
    (case a_done_word => k_is)
    (case l_done_word => k_is)
    (case c_done_word => k_is)
    (case k_done_word => k_is)
    (case a_told_word => k_is)
    (case l_told_word => k_is)
    (case c_told_word => k_is)
    (case k_told_word => k_is)
    (case a_played => k_is)
    (case l_played => k_is)
    (case c_played => k_is)
    (case k_played => k_is)
    (case a__law_random => k_is)
    (case l__law_random => k_is)
    (case c__law_random => k_is)
    (case k__law_random => k_is)
    (case a__law_below => k_is)
    (case l__law_below => k_is)
    (case c__law_below => k_is)
    (case k__law_below => k_is)
    (case a__law_pick => k_is)
    (case l__law_pick => k_is)
    (case c__law_pick => k_is)
    (case k__law_pick => k_is)
    (case a__law_equal => k_is)
    (case l__law_equal => k_is)
    (case c__law_equal => k_is)
    (case k__law_equal => k_is)
    (case a__law_drawn => k_is)
    (case l__law_drawn => k_is)
    (case c__law_drawn => k_is)
    (case k__law_drawn => k_is)
    (case a__law_make => k_is)
    (case l__law_make => k_is)
    (case c__law_make => k_is)
    (case k__law_make => k_is)
    (case a__law_text => k_is)
    (case l__law_text => k_is)
    (case c__law_text => k_is)
    (case k__law_text => k_is)
    (case a__law_find => k_is)
    (case l__law_find => k_is)
    (case c__law_find => k_is)
    (case k__law_find => k_is)
    (case a__law_ahead => k_is)
    (case l__law_ahead => k_is)
    (case c__law_ahead => k_is)
    (case k__law_ahead => k_is)
    (case a__law_pass => k_is)
    (case l__law_pass => k_is)
    (case c__law_pass => k_is)
    (case k__law_pass => k_is)
    (case a__law_signs => k_is)
    (case l__law_signs => k_is)
    (case c__law_signs => k_is)
    (case k__law_signs => k_is)
    (case a__law_refused => k_is)
    (case l__law_refused => k_is)
    (case c__law_refused => k_is)
    (case k__law_refused => k_is)
    (case a_law => k_is)
    (case l_law => k_is)
    (case c_law => k_is)
    (case k_law => k_is)
    (case cl0 => kernel_rfl)
    (case mk0 => k_is)
    (case kc0 => k_is)
    (case cl1 => kernel_rfl)
    (case cl2 => kernel_rfl)
    (case mk2 => k_is)
    (case kc2 => k_is)
    (case cl3 => kernel_rfl)
    (case mk3 => k_is)
    (case kc3 => k_is)
    (case xb4 => kernel_rfl)
    (case o5 => k_is)
    (case i_InvalidStepper_init => k_is)
    (case l_InvalidStepper_init => k_is)
    (case c_InvalidStepper_init => k_is)
    (case k_InvalidStepper_init => k_is)
    (case rv5 => kernel_rfl)
    (case xb5 => kernel_rfl)
    (case xb6 => kernel_rfl)
    (case xb7 => kernel_rfl)
    (case o8 => k_is)
    (case i_Endless_init => k_is)
    (case l_Endless_init => k_is)
    (case c_Endless_init => k_is)
    (case k_Endless_init => k_is)
    (case rv8 => kernel_rfl)
    (case xb8 => kernel_rfl)
    (case o9 => k_is)
    (case i_UnknownWord_init => k_is)
    (case l_UnknownWord_init => k_is)
    (case c_UnknownWord_init => k_is)
    (case k_UnknownWord_init => k_is)
    (case rv9 => kernel_rfl)
    (case xb9 => kernel_rfl)
    (case isi => kernel_rfl)
    (case fld => kernel_rfl)
    (case blt => kernel_rfl)
    (case xsb => kernel_rfl)
    (case xib => kernel_rfl)
    (case con_SIGNS => kernel_rfl)
    (case con_MOST_SIGNS => kernel_rfl)
    (case con_MOST_DEEDS => kernel_rfl)
    (case con_KEEPS => kernel_rfl)
    (case con_TURNS => kernel_rfl)
    (case con_DEEDS => kernel_rfl)
    (case con_MOST_PASSES => kernel_rfl)
    (case con_WORDS => kernel_rfl)
