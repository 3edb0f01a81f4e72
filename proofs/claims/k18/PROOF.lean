import PyProof.Rows.All
import Wide.All
import OpenK.AllK
import Wide.FinOn
import HandS.ForMost
import HandS.Exc
import HandS.TupAny
import HandS.TupMul
import HandS.IsInst
import HandS.Style
import HandS.Deep
import HandS.Codes
import KE.DataEq
import HandS.CallSlots
import HandS.MakeKwOnly
import HandS.Property
import HandS.ExcOwn
import HandS.WordsExc
import HandS.Flow
import HandS.Small
import HandS.OwnEq
import HandS.Text
import PyProof.InstNe
import HandS.RaiseMore
import KE.GoesZip
import PyProof.EnumMake
import OpenK.KOps
import HandS.TryMany
import HandS.ExcInit
import HandS.ExcField
import HandS.ExcIs
import PySem.Challenge.RW_hitsteps_k18_whole_passes_one_after_anot
set_option Elab.async false
set_option linter.all false
set_option maxRecDepth 100000
/-! FL1: the values U, the mutable cells, how they are borne by an abstract heap. -/
namespace FL
open PySem L2

/-- a value as data; ref i: the i-th mutable cell -/
inductive U where
  | non | bl (b : Bool) | int (i : Int) | str (x : List Nat)
  | tup (l : List U) | lst (l : List U) | sc (l : List U) | dct (l : List (U × U)) | ins (c : Nat) (l : List (Nat × U)) | ref (i : Nat)
  deriving Inhabited
/-- a mutable cell -/
inductive Ob where
  | dead | lst (l : List U) | dct (l : List (U × U)) | ins (c : Nat) (l : List (Nat × U))
  deriving Inhabited
/-- an exception: its class, its fields -/
structure Exn where
  cls : Nat
  fs : List (Nat × U)

/-- the names of a program: the written part, its classes, its attributes -/
structure Tb where
  K : PySem.W.Frag
  cls : List Addr
  att : List Str

abbrev SS (l : List Nat) : Str := ⟨l.toArray⟩
def keyU : Key → U
  | .inl i => .int i
  | .inr x => .str x.cps.toList

/-- a list that stands still -/
def SqS (K : PySem.W.Frag) (Z : Addr → Prop) (H : Hp) (a : Addr) (xs : List V) : Prop :=
  (Rd H a (.lst xs) ∧ ¬ Z a) ∨ ∃ (o : Obj) (its : Array Value) (n : Nat), K.lookup a = some o ∧ o.cls = .type "list" ∧ o.dict = none ∧ o.data = .seq its n ∧ its.size ≤ sizeLine ∧ Vals xs its.toList
theorem SqS.sqL {K : PySem.W.Frag} {Z : Addr → Prop} {H : Hp} {a : Addr} {xs : List V} (h : SqS K Z H a xs) : SqL K H a xs := h.elim (fun z => .inl z.1) .inr

mutual
inductive Rep (T : Tb) (ρ : List Addr) (Z : Addr → Prop) (H : Hp) : V → U → Prop
  | non : Rep T ρ Z H .non .non
  | bl (b : Bool) : Rep T ρ Z H (.bl b) (.bl b)
  | int (i : Int) : Rep T ρ Z H (.int i) (.int i)
  | str (x : Str) : Rep T ρ Z H (.str x) (.str x.cps.toList)
  | tup {a : Addr} {vs : List V} {us : List U} : SqT T.K H a vs → Reps T ρ Z H vs us → Rep T ρ Z H (.ref a) (.tup us)
  | lst {a : Addr} {vs : List V} {us : List U} : H a = some (.lst vs) → ¬ Z a → Reps T ρ Z H vs us → Rep T ρ Z H (.ref a) (.lst us)
  | sc {a : Addr} {vs : List V} {us : List U} : SqS T.K Z H a vs → Reps T ρ Z H vs us → Rep T ρ Z H (.ref a) (.sc us)
  | dct {a : Addr} {kvs : List (Key × V)} {l : List (U × U)} : H a = some (.dK kvs) → ¬ Z a → RepK T ρ Z H kvs l → Rep T ρ Z H (.ref a) (.dct l)
  | ins {a C dx : Addr} {c : Nat} {fv : List (Str × V)} {fu : List (Nat × U)} : H a = some (.ins C dx fv) → ¬ Z a → T.cls[c]? = some C → RepF T ρ Z H fv fu → Rep T ρ Z H (.ref a) (.ins c fu)
  | ref {a : Addr} {i : Nat} : ρ[i]? = some a → Rep T ρ Z H (.ref a) (.ref i)
inductive Reps (T : Tb) (ρ : List Addr) (Z : Addr → Prop) (H : Hp) : List V → List U → Prop
  | nil : Reps T ρ Z H [] []
  | cons {v : V} {u : U} {vs : List V} {us : List U} : Rep T ρ Z H v u → Reps T ρ Z H vs us → Reps T ρ Z H (v :: vs) (u :: us)
inductive RepF (T : Tb) (ρ : List Addr) (Z : Addr → Prop) (H : Hp) : List (Str × V) → List (Nat × U) → Prop
  | nil : RepF T ρ Z H [] []
  | cons {f : Str} {k : Nat} {v : V} {u : U} {vs : List (Str × V)} {us : List (Nat × U)} : T.att[k]? = some f → Rep T ρ Z H v u → RepF T ρ Z H vs us → RepF T ρ Z H ((f, v) :: vs) ((k, u) :: us)
inductive RepK (T : Tb) (ρ : List Addr) (Z : Addr → Prop) (H : Hp) : List (Key × V) → List (U × U) → Prop
  | nil : RepK T ρ Z H [] []
  | cons {k : Key} {v : V} {u : U} {vs : List (Key × V)} {us : List (U × U)} : Rep T ρ Z H v u → RepK T ρ Z H vs us → RepK T ρ Z H ((k, v) :: vs) ((keyU k, u) :: us)
end

/-- from (ρ, Z, H) to a later (ρ', Z', H'): what is frozen stays, the cells of others stay -/
structure Ex (ρ : List Addr) (Z : Addr → Prop) (H : Hp) (ρ' : List Addr) (Z' : Addr → Prop) (H' : Hp) : Prop where
  pre : ∃ t, ρ' = ρ ++ t
  fz : ∀ a o, H a = some o → ¬ Z a → H' a = some o ∧ ¬ Z' a
  ou : ∀ a o, H a = some o → Z a → a ∉ ρ → H' a = some o ∧ Z' a ∧ a ∉ ρ'
  th : ∀ a, H a ≠ none → H' a ≠ none
theorem Ex.refl {ρ : List Addr} {Z : Addr → Prop} {H : Hp} : Ex ρ Z H ρ Z H := ⟨⟨[], by simp⟩, fun _ _ h z => ⟨h, z⟩, fun _ _ h z n => ⟨h, z, n⟩, fun _ h => h⟩
theorem Ex.trans {ρ ρ1 ρ2 : List Addr} {Z Z1 Z2 : Addr → Prop} {H H1 H2 : Hp} (x : Ex ρ Z H ρ1 Z1 H1) (y : Ex ρ1 Z1 H1 ρ2 Z2 H2) : Ex ρ Z H ρ2 Z2 H2 := by
  refine ⟨?_, fun a o h z => ?_, fun a o h z n => ?_, fun a h => y.th a (x.th a h)⟩
  · obtain ⟨t, e⟩ := x.pre
    obtain ⟨u, e'⟩ := y.pre
    exact ⟨t ++ u, by rw [e', e, List.append_assoc]⟩
  · obtain ⟨h1, z1⟩ := x.fz a o h z
    exact y.fz a o h1 z1
  · obtain ⟨h1, z1, n1⟩ := x.ou a o h z n
    exact y.ou a o h1 z1 n1

def ObAt (T : Tb) (ρ : List Addr) (Z : Addr → Prop) (H : Hp) (a : Addr) : Ob → Prop
  | .dead => True
  | .lst us => Z a ∧ ∃ vs, H a = some (.lst vs) ∧ Reps T ρ Z H vs us
  | .dct l => Z a ∧ ∃ kvs, H a = some (.dK kvs) ∧ RepK T ρ Z H kvs l
  | .ins c fu => Z a ∧ ∃ C dx fv, H a = some (.ins C dx fv) ∧ T.cls[c]? = some C ∧ RepF T ρ Z H fv fu

/-- the cells G are borne at ρ -/
structure Rl (T : Tb) (ρ : List Addr) (Z : Addr → Prop) (G : List Ob) (H : Hp) : Prop where
  len : ρ.length = G.length
  nd : ρ.Nodup
  zm : ∀ a, Z a → Mut (H a)
  trk : ∀ a ∈ ρ, H a ≠ none
  ob : ∀ (i : Nat) (a : Addr) (o : Ob), ρ[i]? = some a → G[i]? = some o → ObAt T ρ Z H a o

section
variable {T : Tb} {ρ ρ' : List Addr} {Z Z' : Addr → Prop} {H H' : Hp}

theorem pre_get {α : Type} {ρ ρ' t : List α} (e : ρ' = ρ ++ t) {i : Nat} {a : α} (h : ρ[i]? = some a) : ρ'[i]? = some a := by
  rw [e, List.getElem?_append_left (List.getElem?_eq_some_iff.mp h).1]
  exact h
theorem sqT_ex (zm : ∀ a, Z a → Mut (H a)) (fz : ∀ a o, H a = some o → ¬ Z a → H' a = some o ∧ ¬ Z' a) {K : PySem.W.Frag} {a : Addr} {vs : List V} (h : SqT K H a vs) : SqT K H' a vs := by
  rcases h with (h | ⟨o, h⟩) | h
  · exact .inl (.inl (fz a _ h fun z => by have m := zm a z; rw [h] at m; exact m).1)
  · exact .inl (.inr ⟨o, (fz a _ h fun z => by have m := zm a z; rw [h] at m; exact m).1⟩)
  · exact .inr h
theorem sqS_ex (fz : ∀ a o, H a = some o → ¬ Z a → H' a = some o ∧ ¬ Z' a) {K : PySem.W.Frag} {a : Addr} {vs : List V} (h : SqS K Z H a vs) : SqS K Z' H' a vs := by
  rcases h with ⟨h | ⟨o, h⟩, z⟩ | h
  · exact .inl ⟨.inl (fz a _ h z).1, (fz a _ h z).2⟩
  · exact .inl ⟨.inr ⟨o, (fz a _ h z).1⟩, (fz a _ h z).2⟩
  · exact .inr h

mutual
theorem Rep.exf (hp : ∃ t, ρ' = ρ ++ t) (fz : ∀ a o, H a = some o → ¬ Z a → H' a = some o ∧ ¬ Z' a) (zm : ∀ a, Z a → Mut (H a)) : ∀ {v : V} {u : U}, Rep T ρ Z H v u → Rep T ρ' Z' H' v u
  | _, _, .non => .non
  | _, _, .bl b => .bl b
  | _, _, .int i => .int i
  | _, _, .str l => .str l
  | _, _, .tup h r => .tup (sqT_ex zm fz h) (Reps.exf hp fz zm r)
  | _, _, .lst h z r => .lst (fz _ _ h z).1 (fz _ _ h z).2 (Reps.exf hp fz zm r)
  | _, _, .sc h r => .sc (sqS_ex fz h) (Reps.exf hp fz zm r)
  | _, _, .dct h z r => .dct (fz _ _ h z).1 (fz _ _ h z).2 (RepK.exf hp fz zm r)
  | _, _, .ins h z c r => .ins (fz _ _ h z).1 (fz _ _ h z).2 c (RepF.exf hp fz zm r)
  | _, _, .ref h => .ref (by obtain ⟨t, e⟩ := hp; exact pre_get e h)
theorem Reps.exf (hp : ∃ t, ρ' = ρ ++ t) (fz : ∀ a o, H a = some o → ¬ Z a → H' a = some o ∧ ¬ Z' a) (zm : ∀ a, Z a → Mut (H a)) : ∀ {v : List V} {u : List U}, Reps T ρ Z H v u → Reps T ρ' Z' H' v u
  | _, _, .nil => .nil
  | _, _, .cons r t => .cons (Rep.exf hp fz zm r) (Reps.exf hp fz zm t)
theorem RepF.exf (hp : ∃ t, ρ' = ρ ++ t) (fz : ∀ a o, H a = some o → ¬ Z a → H' a = some o ∧ ¬ Z' a) (zm : ∀ a, Z a → Mut (H a)) : ∀ {v : List (Str × V)} {u : List (Nat × U)}, RepF T ρ Z H v u → RepF T ρ' Z' H' v u
  | _, _, .nil => .nil
  | _, _, .cons e r t => .cons e (Rep.exf hp fz zm r) (RepF.exf hp fz zm t)
theorem RepK.exf (hp : ∃ t, ρ' = ρ ++ t) (fz : ∀ a o, H a = some o → ¬ Z a → H' a = some o ∧ ¬ Z' a) (zm : ∀ a, Z a → Mut (H a)) : ∀ {v : List (Key × V)} {u : List (U × U)}, RepK T ρ Z H v u → RepK T ρ' Z' H' v u
  | _, _, .nil => .nil
  | _, _, .cons r t => .cons (Rep.exf hp fz zm r) (RepK.exf hp fz zm t)
end
theorem Rep.ex (zm : ∀ a, Z a → Mut (H a)) (x : Ex ρ Z H ρ' Z' H') {v : V} {u : U} (r : Rep T ρ Z H v u) : Rep T ρ' Z' H' v u := r.exf x.pre x.fz zm
theorem Reps.ex (zm : ∀ a, Z a → Mut (H a)) (x : Ex ρ Z H ρ' Z' H') {v : List V} {u : List U} (r : Reps T ρ Z H v u) : Reps T ρ' Z' H' v u := r.exf x.pre x.fz zm
theorem RepF.ex (zm : ∀ a, Z a → Mut (H a)) (x : Ex ρ Z H ρ' Z' H') {v : List (Str × V)} {u : List (Nat × U)} (r : RepF T ρ Z H v u) : RepF T ρ' Z' H' v u := r.exf x.pre x.fz zm
theorem RepK.ex (zm : ∀ a, Z a → Mut (H a)) (x : Ex ρ Z H ρ' Z' H') {v : List (Key × V)} {u : List (U × U)} (r : RepK T ρ Z H v u) : RepK T ρ' Z' H' v u := r.exf x.pre x.fz zm
end
end FL

/-! FL2: the monad, the readings tE (of an expression), tS (of a statement). -/
namespace FL
open PySem L2

/-- what an evaluation gives -/
inductive Rs (α : Type) where
  | ok (a : α) (G : List Ob) | exc (x : Exn) (G : List Ob) | bad
@[reducible] def Sg := List (Option U)
abbrev ME := Sg → List Ob → Rs U
abbrev MA := Sg → List Ob → Rs (List U)
def Rs.bind {α β : Type} : Rs α → (α → List Ob → Rs β) → Rs β
  | .ok a G, f => f a G
  | .exc x G, _ => .exc x G
  | .bad, _ => .bad
/-- what a statement gives -/
inductive Rt where
  | nx (s : Sg) (G : List Ob) | rt (u : U) (G : List Ob) | bk (s : Sg) (G : List Ob) | ct (s : Sg) (G : List Ob) | exc (x : Exn) (s : Sg) (G : List Ob) | bad
abbrev MS := Sg → List Ob → Rt

/-- the frame's values -/
def Fm (T : Tb) (ρ : List Addr) (Z : Addr → Prop) (H : Hp) (σ : St) (s : Sg) : Prop :=
  σ.length = s.length ∧ ∀ (i : Nat) (u : U), s[i]? = some (some u) → ∃ v, σ[i]? = some (some v) ∧ Rep T ρ Z H v u
structure Sm (T : Tb) (σ : St) (H : Hp) (s : Sg) (G : List Ob) (ρ : List Addr) (Z : Addr → Prop) : Prop where
  rl : Rl T ρ Z G H
  fm : Fm T ρ Z H σ s
/-- how an exception stands -/
def ExAt (T : Tb) (x : Exn) (cls : Value) (d : Option Addr) (H : Hp) : Prop :=
  ∃ C, T.cls[x.cls]? = some C ∧ cls = .ref C ∧ ((x.fs = [] ∧ d = none) ∨ ∃ dd fv, d = some dd ∧ H dd = some (.xd fv) ∧ RepF T [] (fun _ => False) H fv x.fs)
section
variable (T : Tb) (W : WX)
def EEnd (σ : St) (H : Hp) (ρ : List Addr) (Z : Addr → Prop) (x : Exn) (G' : List Ob) : Prop :=
  ∀ cls d H' ρ' Z', Ex ρ Z H ρ' Z' H' → Rl T ρ' Z' G' H' → ExAt T x cls d H' → W cls d σ H'
def RE (σ : St) (H : Hp) (ρ : List Addr) (Z : Addr → Prop) (Q : VK) : Rs U → Prop
  | .ok u G' => ∀ v H' ρ' Z', Ex ρ Z H ρ' Z' H' → Rl T ρ' Z' G' H' → Rep T ρ' Z' H' v u → Q v H'
  | .exc x G' => EEnd T W σ H ρ Z x G'
  | .bad => False
def RA (σ : St) (H : Hp) (ρ : List Addr) (Z : Addr → Prop) (Q : List V → Hp → Prop) : Rs (List U) → Prop
  | .ok u G' => ∀ v H' ρ' Z', Ex ρ Z H ρ' Z' H' → Rl T ρ' Z' G' H' → Reps T ρ' Z' H' v u → Q v H'
  | .exc x G' => EEnd T W σ H ρ Z x G'
  | .bad => False
def RB (σ : St) (H : Hp) (ρ : List Addr) (Z : Addr → Prop) (Q : Bool → Hp → Prop) : Rs Bool → Prop
  | .ok u G' => ∀ H' ρ' Z', Ex ρ Z H ρ' Z' H' → Rl T ρ' Z' G' H' → Q u H'
  | .exc x G' => EEnd T W σ H ρ Z x G'
  | .bad => False
def tE (m : ME) : TE := fun σ H Q => ∃ s G ρ Z, Sm T σ H s G ρ Z ∧ RE T W σ H ρ Z Q (m s G)
def tA (m : MA) : TA := fun σ H Q => ∃ s G ρ Z, Sm T σ H s G ρ Z ∧ RA T W σ H ρ Z Q (m s G)
def tT (m : Sg → List Ob → Rs Bool) : TT := fun σ H Q => ∃ s G ρ Z, Sm T σ H s G ρ Z ∧ RB T W σ H ρ Z Q (m s G)
def RS (σ : St) (H : Hp) (ρ : List Addr) (Z : Addr → Prop) (D : Ends) : Rt → Prop
  | .nx s G => ∀ σ' H' ρ' Z', Ex ρ Z H ρ' Z' H' → Sm T σ' H' s G ρ' Z' → D.nx σ' H'
  | .rt u G => ∀ v H' ρ' Z', Ex ρ Z H ρ' Z' H' → Rl T ρ' Z' G H' → Rep T ρ' Z' H' v u → D.rt v H'
  | .bk s G => ∀ σ' H' ρ' Z', Ex ρ Z H ρ' Z' H' → Sm T σ' H' s G ρ' Z' → D.bk σ' H'
  | .ct s G => ∀ σ' H' ρ' Z', Ex ρ Z H ρ' Z' H' → Sm T σ' H' s G ρ' Z' → D.ct σ' H'
  | .exc x s G => ∀ cls d σ' H' ρ' Z', Ex ρ Z H ρ' Z' H' → Sm T σ' H' s G ρ' Z' → ExAt T x cls d H' → W cls d σ' H'
  | .bad => False
def tS (m : MS) : TS := fun D σ H => ∃ s G ρ Z, Sm T σ H s G ρ Z ∧ RS T W σ H ρ Z D (m s G)
end

section
variable {T : Tb} {W : WX} {σ σ' : St} {H H' : Hp} {ρ ρ' : List Addr} {Z Z' : Addr → Prop} {s : Sg} {G : List Ob}
theorem Fm.ex (zm : ∀ a, Z a → Mut (H a)) (x : Ex ρ Z H ρ' Z' H') (f : Fm T ρ Z H σ s) : Fm T ρ' Z' H' σ s :=
  ⟨f.1, fun i u e => let ⟨v, e1, r⟩ := f.2 i u e; ⟨v, e1, r.ex zm x⟩⟩
theorem Sm.ex {G' : List Ob} (m : Sm T σ H s G ρ Z) (x : Ex ρ Z H ρ' Z' H') (r : Rl T ρ' Z' G' H') : Sm T σ H' s G' ρ' Z' := ⟨r, m.fm.ex m.rl.zm x⟩
theorem EEnd.ex {x : Exn} (e : EEnd T W σ H ρ Z x G) (y : Ex ρ Z H ρ' Z' H') : EEnd T W σ H' ρ' Z' x G :=
  fun cls d H2 ρ2 Z2 z r a => e cls d H2 ρ2 Z2 (y.trans z) r a
theorem RE.ex {Q : VK} {r : Rs U} (e : RE T W σ H ρ Z Q r) (y : Ex ρ Z H ρ' Z' H') : RE T W σ H' ρ' Z' Q r := by
  cases r with
  | ok u G' => exact fun v H2 ρ2 Z2 z => e v H2 ρ2 Z2 (y.trans z)
  | exc x G' => exact EEnd.ex e y
  | bad => exact e
theorem RA.ex {Q : List V → Hp → Prop} {r : Rs (List U)} (e : RA T W σ H ρ Z Q r) (y : Ex ρ Z H ρ' Z' H') : RA T W σ H' ρ' Z' Q r := by
  cases r with
  | ok u G' => exact fun v H2 ρ2 Z2 z => e v H2 ρ2 Z2 (y.trans z)
  | exc x G' => exact EEnd.ex e y
  | bad => exact e
theorem RB.ex {Q : Bool → Hp → Prop} {r : Rs Bool} (e : RB T W σ H ρ Z Q r) (y : Ex ρ Z H ρ' Z' H') : RB T W σ H' ρ' Z' Q r := by
  cases r with
  | ok u G' => exact fun H2 ρ2 Z2 z => e H2 ρ2 Z2 (y.trans z)
  | exc x G' => exact EEnd.ex e y
  | bad => exact e
theorem RS.ex {D : Ends} {r : Rt} (e : RS T W σ H ρ Z D r) (y : Ex ρ Z H ρ' Z' H') : RS T W σ' H' ρ' Z' D r := by
  cases r with
  | nx s G => exact fun s2 H2 ρ2 Z2 z => e s2 H2 ρ2 Z2 (y.trans z)
  | rt u G => exact fun v H2 ρ2 Z2 z => e v H2 ρ2 Z2 (y.trans z)
  | bk s G => exact fun s2 H2 ρ2 Z2 z => e s2 H2 ρ2 Z2 (y.trans z)
  | ct s G => exact fun s2 H2 ρ2 Z2 z => e s2 H2 ρ2 Z2 (y.trans z)
  | exc x s G => exact fun cls d s2 H2 ρ2 Z2 z => e cls d s2 H2 ρ2 Z2 (y.trans z)
  | bad => exact e

/-- the central step: an expression, then what follows -/
theorem tE_step {m : ME} {r : Rs U} {k : VK} {E : EEnd T W σ H ρ Z = EEnd T W σ H ρ Z} (sm : Sm T σ H s G ρ Z) (e : m s G = r)
    (ho : ∀ u G', r = .ok u G' → ∀ v H' ρ' Z', Ex ρ Z H ρ' Z' H' → Sm T σ H' s G' ρ' Z' → Rep T ρ' Z' H' v u → k v H') (hx : ∀ x G', r = .exc x G' → EEnd T W σ H ρ Z x G') (hb : r ≠ .bad) : tE T W m σ H k := by
  refine ⟨s, G, ρ, Z, sm, ?_⟩
  rw [e]
  cases r with
  | ok u G' => exact fun v H' ρ' Z' x rl rp => ho u G' rfl v H' ρ' Z' x (sm.ex x rl) rp
  | exc x G' => exact hx x G' rfl
  | bad => exact absurd rfl hb
/-- m, then f -/
theorem tE_bind {m : ME} {f : U → List Ob → Rs U} {Q : VK} {k : VK} (sm : Sm T σ H s G ρ Z) (h : RE T W σ H ρ Z Q ((m s G).bind f))
    (hk : ∀ u G' v H' ρ' Z', Ex ρ Z H ρ' Z' H' → Sm T σ H' s G' ρ' Z' → Rep T ρ' Z' H' v u → RE T W σ H' ρ' Z' Q (f u G') → k v H') : tE T W m σ H k := by
  refine ⟨s, G, ρ, Z, sm, ?_⟩
  cases e : m s G with
  | ok u G' =>
    rw [e] at h
    exact fun v H' ρ' Z' x rl rp => hk u G' v H' ρ' Z' x (sm.ex x rl) rp (RE.ex h x)
  | exc x G' => rw [e] at h; exact h
  | bad => rw [e] at h; exact h
theorem tE_bindA {m : ME} {f : U → List Ob → Rs (List U)} {Q : List V → Hp → Prop} {k : VK} (sm : Sm T σ H s G ρ Z) (h : RA T W σ H ρ Z Q ((m s G).bind f))
    (hk : ∀ u G' v H' ρ' Z', Ex ρ Z H ρ' Z' H' → Sm T σ H' s G' ρ' Z' → Rep T ρ' Z' H' v u → RA T W σ H' ρ' Z' Q (f u G') → k v H') : tE T W m σ H k := by
  refine ⟨s, G, ρ, Z, sm, ?_⟩
  cases e : m s G with
  | ok u G' =>
    rw [e] at h
    exact fun v H' ρ' Z' x rl rp => hk u G' v H' ρ' Z' x (sm.ex x rl) rp (RA.ex h x)
  | exc x G' => rw [e] at h; exact h
  | bad => rw [e] at h; exact h
theorem tA_bind {m : MA} {f : List U → List Ob → Rs U} {Q : VK} {k : List V → Hp → Prop} (sm : Sm T σ H s G ρ Z) (h : RE T W σ H ρ Z Q ((m s G).bind f))
    (hk : ∀ u G' v H' ρ' Z', Ex ρ Z H ρ' Z' H' → Sm T σ H' s G' ρ' Z' → Reps T ρ' Z' H' v u → RE T W σ H' ρ' Z' Q (f u G') → k v H') : tA T W m σ H k := by
  refine ⟨s, G, ρ, Z, sm, ?_⟩
  cases e : m s G with
  | ok u G' =>
    rw [e] at h
    exact fun v H' ρ' Z' x rl rp => hk u G' v H' ρ' Z' x (sm.ex x rl) rp (RE.ex h x)
  | exc x G' => rw [e] at h; exact h
  | bad => rw [e] at h; exact h
theorem tE_bindB {m : ME} {f : U → List Ob → Rs Bool} {Q : Bool → Hp → Prop} {k : VK} (sm : Sm T σ H s G ρ Z) (h : RB T W σ H ρ Z Q ((m s G).bind f))
    (hk : ∀ u G' v H' ρ' Z', Ex ρ Z H ρ' Z' H' → Sm T σ H' s G' ρ' Z' → Rep T ρ' Z' H' v u → RB T W σ H' ρ' Z' Q (f u G') → k v H') : tE T W m σ H k := by
  refine ⟨s, G, ρ, Z, sm, ?_⟩
  cases e : m s G with
  | ok u G' =>
    rw [e] at h
    exact fun v H' ρ' Z' x rl rp => hk u G' v H' ρ' Z' x (sm.ex x rl) rp (RB.ex h x)
  | exc x G' => rw [e] at h; exact h
  | bad => rw [e] at h; exact h
theorem tT_bind {m : Sg → List Ob → Rs Bool} {f : Bool → List Ob → Rs U} {Q : VK} {k : Bool → Hp → Prop} (sm : Sm T σ H s G ρ Z) (h : RE T W σ H ρ Z Q ((m s G).bind f))
    (hk : ∀ u G' H' ρ' Z', Ex ρ Z H ρ' Z' H' → Sm T σ H' s G' ρ' Z' → RE T W σ H' ρ' Z' Q (f u G') → k u H') : tT T W m σ H k := by
  refine ⟨s, G, ρ, Z, sm, ?_⟩
  cases e : m s G with
  | ok u G' =>
    rw [e] at h
    exact fun H' ρ' Z' x rl => hk u G' H' ρ' Z' x (sm.ex x rl) (RE.ex h x)
  | exc x G' => rw [e] at h; exact h
  | bad => rw [e] at h; exact h
theorem tT_bindB {m : Sg → List Ob → Rs Bool} {f : Bool → List Ob → Rs Bool} {Q : Bool → Hp → Prop} {k : Bool → Hp → Prop} (sm : Sm T σ H s G ρ Z) (h : RB T W σ H ρ Z Q ((m s G).bind f))
    (hk : ∀ u G' H' ρ' Z', Ex ρ Z H ρ' Z' H' → Sm T σ H' s G' ρ' Z' → RB T W σ H' ρ' Z' Q (f u G') → k u H') : tT T W m σ H k := by
  refine ⟨s, G, ρ, Z, sm, ?_⟩
  cases e : m s G with
  | ok u G' =>
    rw [e] at h
    exact fun H' ρ' Z' x rl => hk u G' H' ρ' Z' x (sm.ex x rl) (RB.ex h x)
  | exc x G' => rw [e] at h; exact h
  | bad => rw [e] at h; exact h
end

/-! ### the judgements, weakened -/
section
variable {X : Cx}
theorem PE.imp {e : Expr} {t t' : TE} (h : PE X e t) (i : ∀ σ H Q, t' σ H Q → t σ H Q) : PE X e t' := ⟨fun pins s σ H Q I q => h.run pins s σ H Q I (i σ H Q q)⟩
theorem PT.imp {e : Expr} {t t' : TT} (h : PT X e t) (i : ∀ σ H Q, t' σ H Q → t σ H Q) : PT X e t' := ⟨fun pins s σ H Q I q => h.run pins s σ H Q I (i σ H Q q)⟩
theorem PW.imp {e : Expr} {t t' : TT} (h : PW X e t) (i : ∀ σ H Q, t' σ H Q → t σ H Q) : PW X e t' := ⟨fun wh pins s σ H Q I q => h.run wh pins s σ H Q I (i σ H Q q)⟩
theorem PA.imp {e : List Expr} {t t' : TA} (h : PA X e t) (i : ∀ σ H Q, t' σ H Q → t σ H Q) : PA X e t' := ⟨fun pos pins s σ H Q I q => h.run pos pins s σ H Q I (i σ H Q q)⟩
theorem PS.imp {e : Stmt} {t t' : TS} (h : PS X e t) (i : ∀ D σ H, t' D σ H → t D σ H) : PS X e t' := ⟨fun pins s σ H D I q => h.run pins s σ H D I (i D σ H q)⟩
theorem PSs.imp {e : List Stmt} {t t' : TS} (h : PSs X e t) (i : ∀ D σ H, t' D σ H → t D σ H) : PSs X e t' := ⟨fun pins s σ H D I q => h.run pins s σ H D I (i D σ H q)⟩
theorem PG.imp {e : Expr} {t t' : TG} (h : PG X e t) (i : ∀ v σ H Q, t' v σ H Q → t v σ H Q) : PG X e t' := ⟨fun pins s σ H v u Q I r q => h.run pins s σ H v u Q I r (i v σ H Q q)⟩
theorem PE.bad {e : Expr} {T : Tb} {W : WX} {m : ME} (h : ∀ s G, m s G = .bad) : PE X e (tE T W m) := ⟨fun _ _ _ _ _ _ ⟨s, G, _, _, _, q⟩ => by rw [h] at q; exact q.elim⟩
theorem PT.bad {e : Expr} {T : Tb} {W : WX} {m : Sg → List Ob → Rs Bool} (h : ∀ s G, m s G = .bad) : PT X e (tT T W m) := ⟨fun _ _ _ _ _ _ ⟨s, G, _, _, _, q⟩ => by rw [h] at q; exact q.elim⟩
theorem PA.bad {e : List Expr} {T : Tb} {W : WX} {m : MA} (h : ∀ s G, m s G = .bad) : PA X e (tA T W m) := ⟨fun _ _ _ _ _ _ _ ⟨s, G, _, _, _, q⟩ => by rw [h] at q; exact q.elim⟩
theorem PS.bad {e : Stmt} {T : Tb} {W : WX} {m : MS} (h : ∀ s G, m s G = .bad) : PS X e (tS T W m) := ⟨fun _ _ _ _ _ _ ⟨s, G, _, _, _, q⟩ => by rw [h] at q; exact q.elim⟩
theorem PSs.bad {e : List Stmt} {T : Tb} {W : WX} {m : MS} (h : ∀ s G, m s G = .bad) : PSs X e (tS T W m) := ⟨fun _ _ _ _ _ _ ⟨s, G, _, _, _, q⟩ => by rw [h] at q; exact q.elim⟩
end
end FL

/-! FL3: what stands behind a value; new objects; names, constants, operators. -/
namespace FL
open PySem L2
abbrev szL : Nat := 16777216
theorem szL_eq : sizeLine = szL := sizeLine_eq

section
variable {T : Tb} {W : WX} {σ σ' : St} {H H' : Hp} {ρ ρ' : List Addr} {Z Z' : Addr → Prop} {s : Sg} {G : List Ob}
theorem Rep.inv_int {v : V} {i : Int} (r : Rep T ρ Z H v (.int i)) : v = .int i := by cases r; rfl
theorem Rep.inv_bl {v : V} {i : Bool} (r : Rep T ρ Z H v (.bl i)) : v = .bl i := by cases r; rfl
theorem Rep.inv_non {v : V} (r : Rep T ρ Z H v .non) : v = .non := by cases r; rfl
theorem Rep.inv_str {v : V} {l : List Nat} (r : Rep T ρ Z H v (.str l)) : v = .str (SS l) := by
  cases r with
  | str x => simp [SS]
theorem SS_tl (x : Str) : SS x.cps.toList = x := by simp [SS]
theorem tl_SS (l : List Nat) : (SS l).cps.toList = l := by simp [SS]
theorem Rep.ss (l : List Nat) : Rep T ρ Z H (.str (SS l)) (.str l) := by
  have h : Rep T ρ Z H (.str (SS l)) (.str (SS l).cps.toList) := .str _
  rw [tl_SS] at h
  exact h
theorem Rep.inv_tup {v : V} {us : List U} (r : Rep T ρ Z H v (.tup us)) : ∃ a vs, v = .ref a ∧ SqT T.K H a vs ∧ Reps T ρ Z H vs us := by
  cases r with
  | tup h q => exact ⟨_, _, rfl, h, q⟩
theorem Rep.inv_lst {v : V} {us : List U} (r : Rep T ρ Z H v (.lst us)) : ∃ a vs, v = .ref a ∧ H a = some (.lst vs) ∧ ¬ Z a ∧ Reps T ρ Z H vs us := by
  cases r with
  | lst h z q => exact ⟨_, _, rfl, h, z, q⟩
theorem Rep.inv_sc {v : V} {us : List U} (r : Rep T ρ Z H v (.sc us)) : ∃ a vs, v = .ref a ∧ SqL T.K H a vs ∧ Reps T ρ Z H vs us := by
  cases r with
  | sc h q => exact ⟨_, _, rfl, h.sqL, q⟩
theorem Rep.inv_ref {v : V} {i : Nat} (r : Rep T ρ Z H v (.ref i)) : ∃ a, v = .ref a ∧ ρ[i]? = some a := by
  cases r with
  | ref h => exact ⟨_, rfl, h⟩

theorem Reps.length : ∀ {vs : List V} {us : List U}, Reps T ρ Z H vs us → vs.length = us.length
  | _, _, .nil => rfl
  | _, _, .cons _ t => congrArg (· + 1) (Reps.length t)
theorem Reps.get : ∀ {vs : List V} {us : List U} {i : Nat} {u : U}, Reps T ρ Z H vs us → us[i]? = some u → ∃ v, vs[i]? = some v ∧ Rep T ρ Z H v u
  | _, _, _, _, .nil, e => by simp at e
  | _, _, 0, _, .cons r _, e => by simp at e; subst e; exact ⟨_, rfl, r⟩
  | _, _, i + 1, u, .cons _ t, e => by
    obtain ⟨v, h1, h2⟩ := Reps.get (i := i) (u := u) t (by simpa using e)
    exact ⟨v, by simpa using h1, h2⟩
theorem Reps.append : ∀ {vs ws : List V} {us xs : List U}, Reps T ρ Z H vs us → Reps T ρ Z H ws xs → Reps T ρ Z H (vs ++ ws) (us ++ xs)
  | _, _, _, _, .nil, q => q
  | _, _, _, _, .cons r t, q => .cons r (Reps.append t q)
theorem Reps.take : ∀ {vs : List V} {us : List U} (n : Nat), Reps T ρ Z H vs us → Reps T ρ Z H (vs.take n) (us.take n)
  | _, _, 0, _ => by simp; exact .nil
  | _, _, _ + 1, .nil => .nil
  | _, _, n + 1, .cons r t => .cons r (Reps.take n t)
theorem Reps.drop : ∀ {vs : List V} {us : List U} (n : Nat), Reps T ρ Z H vs us → Reps T ρ Z H (vs.drop n) (us.drop n)
  | _, _, 0, r => r
  | _, _, _ + 1, .nil => .nil
  | _, _, n + 1, .cons _ t => Reps.drop n t
theorem Reps.set {v : V} {u : U} (r : Rep T ρ Z H v u) : ∀ {vs : List V} {us : List U} (n : Nat), Reps T ρ Z H vs us → Reps T ρ Z H (vs.set n v) (us.set n u)
  | _, _, _, .nil => .nil
  | _, _, 0, .cons _ t => .cons r t
  | _, _, n + 1, .cons q t => .cons q (Reps.set r n t)
theorem Reps.eraseIdx : ∀ {vs : List V} {us : List U} (n : Nat), Reps T ρ Z H vs us → Reps T ρ Z H (vs.eraseIdx n) (us.eraseIdx n)
  | _, _, _, .nil => .nil
  | _, _, 0, .cons _ t => t
  | _, _, n + 1, .cons q t => .cons q (Reps.eraseIdx n t)
theorem Reps.dropLast {vs : List V} {us : List U} (r : Reps T ρ Z H vs us) : Reps T ρ Z H vs.dropLast us.dropLast := by
  rw [List.dropLast_eq_take, List.dropLast_eq_take, r.length]
  exact r.take _
theorem Reps.reverse : ∀ {vs : List V} {us : List U}, Reps T ρ Z H vs us → Reps T ρ Z H vs.reverse us.reverse
  | _, _, .nil => .nil
  | _, _, .cons r t => by
    rw [List.reverse_cons, List.reverse_cons]
    exact (Reps.reverse t).append (.cons r .nil)
theorem Reps.rep {vs : List V} {us : List U} (r : Reps T ρ Z H vs us) : ∀ k : Nat, Reps T ρ Z H (List.replicate k vs).flatten (List.replicate k us).flatten
  | 0 => .nil
  | k + 1 => by
    rw [List.replicate_succ, List.replicate_succ, List.flatten_cons, List.flatten_cons]
    exact r.append (Reps.rep r k)
theorem Reps.ints : ∀ {ns : List Int} {vs : List V}, Reps T ρ Z H vs (ns.map U.int) → vs = ns.map V.int
  | [], _, r => by cases r; rfl
  | n :: ns, _, r => by
    cases r with
    | cons a b => rw [a.inv_int, Reps.ints b]; rfl
theorem Reps.of_ints : ∀ (ns : List Int), Reps T ρ Z H (ns.map V.int) (ns.map U.int)
  | [] => .nil
  | n :: ns => .cons (.int n) (Reps.of_ints ns)

/-- the list that a value is (a cell, a frozen one, a locked one) -/
def lstOf (G : List Ob) : U → Option (List U)
  | .lst l => some l
  | .sc l => some l
  | .ref i => match G[i]? with
    | some (.lst l) => some l
    | _ => none
  | _ => none
/-- .. that is no locked one -/
def lstOfW (G : List Ob) : U → Option (List U)
  | .lst l => some l
  | .ref i => match G[i]? with
    | some (.lst l) => some l
    | _ => none
  | _ => none
theorem lstOfW_at {u : U} {l : List U} {v : V} (rl : Rl T ρ Z G H) (r : Rep T ρ Z H v u) (e : lstOfW G u = some l) : ∃ a vs, v = .ref a ∧ H a = some (.lst vs) ∧ Reps T ρ Z H vs l := by
  cases u with
  | lst l' =>
    cases e
    obtain ⟨a, vs, h1, h2, _, h3⟩ := r.inv_lst
    exact ⟨a, vs, h1, h2, h3⟩
  | ref i =>
    obtain ⟨a, ev, h⟩ := r.inv_ref
    simp only [lstOfW] at e
    cases g : G[i]? with
    | none => rw [g] at e; cases e
    | some o =>
      rw [g] at e
      cases o with
      | lst l' =>
        cases e
        have ob := rl.ob i a _ h g
        obtain ⟨_, vs, h2, h3⟩ := ob
        exact ⟨a, vs, ev, h2, h3⟩
      | _ => cases e
  | _ => cases e
theorem lstOf_at {u : U} {l : List U} {v : V} (rl : Rl T ρ Z G H) (r : Rep T ρ Z H v u) (e : lstOf G u = some l) : ∃ a vs, v = .ref a ∧ SqL T.K H a vs ∧ Reps T ρ Z H vs l := by
  cases u with
  | sc l' =>
    cases e
    exact r.inv_sc
  | lst l' =>
    obtain ⟨a, vs, h1, h2, h3⟩ := lstOfW_at rl r (show lstOfW G (.lst l') = some l from e)
    exact ⟨a, vs, h1, SqL.of h2, h3⟩
  | ref l' =>
    obtain ⟨a, vs, h1, h2, h3⟩ := lstOfW_at rl r (show lstOfW G (.ref l') = some l from e)
    exact ⟨a, vs, h1, SqL.of h2, h3⟩
  | _ => cases e

/-! ### new objects -/
theorem Rl.nz (rl : Rl T ρ Z G H) {p : Addr} (h : H p = none) : ¬ Z p := fun z => by have m := rl.zm p z; rw [h] at m; exact m
theorem Rl.nin (rl : Rl T ρ Z G H) {p : Addr} (h : H p = none) : p ∉ ρ := fun z => rl.trk p z h
theorem ex_new {o : HO} {p : Addr} (hp : H p = none) : Ex ρ Z H ρ Z (upd H p o) :=
  ⟨⟨[], by simp⟩, fun a o h z => ⟨by rw [upd_ne (ne_of_none h hp)]; exact h, z⟩, fun a o h z n => ⟨by rw [upd_ne (ne_of_none h hp)]; exact h, z, n⟩, fun a h => by
    by_cases e : a = p
    · subst e; exact absurd hp h
    · rw [upd_ne e]; exact h⟩
theorem ObAt.ex {a : Addr} {o : Ob} (zm : ∀ a, Z a → Mut (H a)) (x : Ex ρ Z H ρ' Z' H') (h : ObAt T ρ Z H a o) (he : ∀ u, H a = some u → H' a = some u) (hz : Z a → Z' a) : ObAt T ρ' Z' H' a o := by
  cases o with
  | dead => trivial
  | lst us =>
    obtain ⟨z, vs, h1, h2⟩ := h
    exact ⟨hz z, vs, he _ h1, h2.ex zm x⟩
  | dct l =>
    obtain ⟨z, vs, h1, h2⟩ := h
    exact ⟨hz z, vs, he _ h1, h2.ex zm x⟩
  | ins c l =>
    obtain ⟨z, C, dx, vs, h1, h2, h3⟩ := h
    exact ⟨hz z, C, dx, vs, he _ h1, h2, h3.ex zm x⟩
theorem Rl.new {o : HO} {p : Addr} (rl : Rl T ρ Z G H) (hp : H p = none) : Rl T ρ Z G (upd H p o) where
  len := rl.len
  nd := rl.nd
  zm := fun a z => by
    rw [upd_ne (fun e : a = p => rl.nz hp (e ▸ z))]
    exact rl.zm a z
  trk := fun a h => (ex_new (ρ := ρ) (Z := Z) hp).th a (rl.trk a h)
  ob := fun i a o' h g => ObAt.ex rl.zm (ex_new hp) (rl.ob i a o' h g) (fun u e => by rw [upd_ne (ne_of_none e hp)]; exact e) fun z => z
/-- .. that becomes a cell -/
def zOr (Z : Addr → Prop) (p : Addr) : Addr → Prop := fun a => Z a ∨ a = p
theorem ex_cell {o : HO} {p : Addr} (rl : Rl T ρ Z G H) (hp : H p = none) : Ex ρ Z H (ρ ++ [p]) (zOr Z p) (upd H p o) :=
  ⟨⟨[p], rfl⟩, fun a o h z => ⟨by rw [upd_ne (ne_of_none h hp)]; exact h, fun q => q.elim z (ne_of_none h hp)⟩,
    fun a o h z n => ⟨by rw [upd_ne (ne_of_none h hp)]; exact h, .inl z, fun q => by
      rcases List.mem_append.mp q with q | q
      · exact n q
      · exact ne_of_none h hp (by simpa using q)⟩, (ex_new (ρ := ρ) (Z := Z) hp).th⟩
theorem Rl.cell {o : HO} {p : Addr} {ob : Ob} (rl : Rl T ρ Z G H) (hp : H p = none) (mu : Mut (some o)) (h : ObAt T (ρ ++ [p]) (zOr Z p) (upd H p o) p ob) : Rl T (ρ ++ [p]) (zOr Z p) (G ++ [ob]) (upd H p o) where
  len := by rw [List.length_append, List.length_append, rl.len]; rfl
  nd := by
    rw [List.nodup_append]
    refine ⟨rl.nd, by simp, fun a ha b hb => ?_⟩
    have e : b = p := by simpa using hb
    subst e
    exact fun q => rl.nin hp (q ▸ ha)
  zm := fun a z => by
    rcases z with z | z
    · rw [upd_ne (fun e : a = p => rl.nz hp (e ▸ z))]
      exact rl.zm a z
    · subst z
      rw [upd_same]
      exact mu
  trk := fun a h => by
    rcases List.mem_append.mp h with q | q
    · exact (ex_new (ρ := ρ) (Z := Z) hp).th a (rl.trk a q)
    · have e : a = p := by simpa using q
      subst e
      rw [upd_same]
      exact fun z => by cases z
  ob := fun i a o' h1 g => by
    by_cases hi : i < ρ.length
    · rw [List.getElem?_append_left hi] at h1
      rw [List.getElem?_append_left (by rw [← rl.len]; exact hi)] at g
      exact ObAt.ex rl.zm (ex_cell rl hp) (rl.ob i a o' h1 g) (fun u e => by rw [upd_ne (ne_of_none e hp)]; exact e) .inl
    · have hi2 : i = ρ.length := by
        have := (List.getElem?_eq_some_iff.mp h1).1
        simp at this
        omega
      subst hi2
      rw [List.getElem?_append_right (Nat.le_refl _)] at h1
      rw [List.getElem?_append_right (by rw [rl.len]; exact Nat.le_refl _)] at g
      simp [rl.len] at h1 g
      subst h1
      subst g
      exact h

/-- a new list: frozen, or a cell -/
def newL (mu : Bool) (us : List U) (G : List Ob) : Rs U := if us.length ≤ szL then (if mu then .ok (.ref G.length) (G ++ [.lst us]) else .ok (.lst us) G) else .bad
def newT (us : List U) (G : List Ob) : Rs U := if us.length ≤ szL then .ok (.tup us) G else .bad
theorem newL_ok {mu : Bool} {us : List U} {vs : List V} {Q : VK} (rl : Rl T ρ Z G H) (r : Reps T ρ Z H vs us) (h : RE T W σ H ρ Z Q (newL mu us G)) :
    vs.length ≤ sizeLine ∧ ∀ p, H p = none → Q (.ref p) (upd H p (.lst vs)) := by
  unfold newL at h
  by_cases hz : us.length ≤ szL
  · rw [if_pos hz] at h
    refine ⟨by rw [r.length, szL_eq]; exact hz, fun p hp => ?_⟩
    cases mu with
    | false => exact h _ _ ρ Z (ex_new hp) (rl.new hp) (.lst upd_same (rl.nz hp) (r.ex rl.zm (ex_new hp)))
    | true =>
      refine h _ _ _ _ (ex_cell rl hp) (rl.cell hp trivial ⟨.inr rfl, vs, upd_same, r.ex rl.zm (ex_cell rl hp)⟩) (.ref ?_)
      rw [List.getElem?_append_right (by rw [rl.len]; exact Nat.le_refl _)]
      simp [rl.len]
  · rw [if_neg hz] at h
    exact h.elim
theorem newT_ok {us : List U} {vs : List V} {Q : VK} (rl : Rl T ρ Z G H) (r : Reps T ρ Z H vs us) (h : RE T W σ H ρ Z Q (newT us G)) :
    vs.length ≤ sizeLine ∧ ∀ p, H p = none → Q (.ref p) (upd H p (.tup vs)) := by
  unfold newT at h
  by_cases hz : us.length ≤ szL
  · rw [if_pos hz] at h
    refine ⟨by rw [r.length, szL_eq]; exact hz, fun p hp => ?_⟩
    exact h _ _ ρ Z (ex_new hp) (rl.new hp) (.tup (SqT.of upd_same) (r.ex rl.zm (ex_new hp)))
  · rw [if_neg hz] at h
    exact h.elim
end
end FL

/-! FL4: names, constants, operators, comparisons. -/
namespace FL
open PySem L2
section
variable {X : Cx} {T : Tb} {W : WX}

/-! ### names, constants -/
def varM (i : Nat) : ME := fun s G => match s[i]? with
  | some (some u) => .ok u G
  | _ => .bad
def litM (u : U) : ME := fun _ G => .ok u G
theorem fe_var {i : Nat} {x : Str} {pos : Pos} (hN : X.N[i]? = some x) (hv : Vis X.env.scope x) (hd : (x == ("__debug__" : Str)) = false) (hcd : (x == ("__classdict__" : Str)) = false) : PE X (.Name x pos) (tE T W (varM i)) :=
  PE.imp (pe_var hN hv hd hcd) fun σ H Q ⟨s, G, ρ, Z, sm, h⟩ => by
    unfold varM at h
    cases e : s[i]? with
    | none => rw [e] at h; exact h.elim
    | some o =>
      cases o with
      | none => rw [e] at h; exact h.elim
      | some u =>
        rw [e] at h
        obtain ⟨v, e1, r⟩ := sm.fm.2 i u e
        exact ⟨v, e1, h v H ρ Z Ex.refl sm.rl r⟩
theorem fe_lit {e : Expr} {v : V} {u : U} (he : PE X e (tC v)) (hr : ∀ ρ Z H, Rep T ρ Z H v u) : PE X e (tE T W (litM u)) :=
  PE.imp he fun σ H Q ⟨s, G, ρ, Z, sm, h⟩ => h v H ρ Z Ex.refl sm.rl (hr ρ Z H)

/-! ### two operands -/
def bin2 (f : U → U → List Ob → Rs U) (a b : ME) : ME := fun s G => (a s G).bind fun x G1 => (b s G1).bind fun y G2 => f x y G2
def O2 (T : Tb) (W : WX) (f : U → U → List Ob → Rs U) (r : R2) : Prop :=
  ∀ (σ : St) (H : Hp) (s : Sg) (G : List Ob) (ρ : List Addr) (Z : Addr → Prop) (x y : V) (u w : U) (Q : VK), Sm T σ H s G ρ Z → Rep T ρ Z H x u → Rep T ρ Z H y w → RE T W σ H ρ Z Q (f u w G) → r x y H Q
theorem O2.top {f : U → U → List Ob → Rs U} {r : R2} (h : O2 T W f r) {ma mb : ME} {σ : St} {H : Hp} {Q : VK} (q : tE T W (bin2 f ma mb) σ H Q) : tOp r (tE T W ma) (tE T W mb) σ H Q := by
  obtain ⟨s, G, ρ, Z, sm, q⟩ := q
  refine tE_bind sm q fun u G1 x H1 ρ1 Z1 x1 sm1 r1 q1 => ?_
  refine tE_bind sm1 q1 fun w G2 y H2 ρ2 Z2 x2 sm2 r2 q2 => ?_
  exact h _ _ _ _ _ _ _ _ _ _ _ sm2 (r1.ex sm1.rl.zm x2) r2 q2
theorem fe_bin {op : Operator} {f : U → U → List Ob → Rs U} {r : R2} {a b : Expr} {pos : Pos} {ma mb : ME} (ho : OpR X (binaryOp op) r) (h : O2 T W f r) (ha : PE X a (tE T W ma)) (hb : PE X b (tE T W mb)) : PE X (.BinOp a op b pos) (tE T W (bin2 f ma mb)) :=
  PE.imp (pe_op ho ha hb) fun _ _ _ q => h.top q
theorem fe_cmp {op : CmpOp} {f : U → U → List Ob → Rs U} {r : R2} {a b : Expr} {pos : Pos} {ma mb : ME} (ho : OpR X (compareOp op) r) (h : O2 T W f r) (ha : PE X a (tE T W ma)) (hb : PE X b (tE T W mb)) (hm : behindInMarks op b = false) :
    PE X (.Compare a [op] [b] pos) (tE T W (bin2 f ma mb)) := PE.imp (pe_cmpR ho ha hb hm) fun _ _ _ q => h.top q
theorem OpR.or2 {f : Value → Value → Sem Value} {r r' : R2} (h : OpR X f r) (h' : OpR X f r') : OpR X f (fun x y H Q => r x y H Q ∨ r' x y H Q) := OpR.or h h'

def addU (mu : Bool) : U → U → List Ob → Rs U := fun x y G => match x, y with
  | .int i, .int j => .ok (.int (i + j)) G
  | .str a, .str b => if a.length + b.length ≤ szL then .ok (.str (a ++ b)) G else .bad
  | .tup a, .tup b => if a.length + b.length ≤ szL then .ok (.tup (a ++ b)) G else .bad
  | x, y => match lstOfW G x, lstOfW G y with
    | some a, some b => newL mu (a ++ b) G
    | _, _ => .bad
abbrev rCatS : R2 := fun x y H Q => ∃ i j, x = .str i ∧ y = .str j ∧ i.length + j.length ≤ sizeLine ∧ Q (.str (i ++ j)) H
abbrev rAddA (K : PySem.W.Frag) : R2 := fun x y H Q => rI0 (fun i j => .int (i + j)) x y H Q ∨ rCatS x y H Q ∨ rCatA K x y H Q ∨ rCat x y H Q
theorem op_addA : OpR X (binaryOp .Add) (rAddA X.K) := OpR.or op_add (OpR.or op_add_str (OpR.or op_catA op_cat))
theorem strLen (a : List Nat) : (SS a).length = a.length := SX.S_len a
theorem o2_add {mu : Bool} (hT : X.K = T.K) : O2 T W (addU mu) (rAddA X.K) := by
  intro σ H s G ρ Z x y u w Q sm r1 r2 h
  have lists : ∀ {a b : List U}, lstOfW G u = some a → lstOfW G w = some b → RE T W σ H ρ Z Q (newL mu (a ++ b) G) → rCat x y H Q := fun {a b} e1 e2 h => by
    obtain ⟨p, vs, rfl, h1, q1⟩ := lstOfW_at sm.rl r1 e1
    obtain ⟨p', ws, rfl, h2, q2⟩ := lstOfW_at sm.rl r2 e2
    obtain ⟨hz, hq⟩ := newL_ok sm.rl (q1.append q2) h
    exact ⟨p, p', vs, ws, rfl, rfl, h1, h2, by rw [List.length_append] at hz; exact hz, hq⟩
  have gen : RE T W σ H ρ Z Q (match lstOfW G u, lstOfW G w with | some a, some b => newL mu (a ++ b) G | _, _ => .bad) → rAddA X.K x y H Q := fun h => by
    cases e1 : lstOfW G u with
    | none => rw [e1] at h; exact h.elim
    | some a =>
      cases e2 : lstOfW G w with
      | none => rw [e1, e2] at h; exact h.elim
      | some b => rw [e1, e2] at h; exact .inr (.inr (.inr (lists e1 e2 h)))
  unfold addU at h
  split at h
  · rename_i i j
    exact .inl ⟨i, j, r1.inv_int, r2.inv_int, h _ H ρ Z Ex.refl sm.rl (.int _)⟩
  · rename_i a b
    by_cases hz : a.length + b.length ≤ szL
    · rw [if_pos hz] at h
      refine .inr (.inl ⟨SS a, SS b, r1.inv_str, r2.inv_str, by rw [strLen, strLen, szL_eq]; exact hz, ?_⟩)
      rw [show SS a ++ SS b = SS (a ++ b) from SX.S_cat a b]
      exact h _ H ρ Z Ex.refl sm.rl (Rep.ss _)
    · rw [if_neg hz] at h
      exact h.elim
  · rename_i a b
    by_cases hz : a.length + b.length ≤ szL
    · rw [if_pos hz] at h
      obtain ⟨p, vs, rfl, h1, q1⟩ := r1.inv_tup
      obtain ⟨p', ws, rfl, h2, q2⟩ := r2.inv_tup
      refine .inr (.inr (.inl ⟨p, p', vs, ws, rfl, rfl, hT ▸ h1, hT ▸ h2, by rw [q1.length, q2.length, szL_eq]; exact hz, fun e => ?_, fun e1 e => ?_, fun e1 e2 p hp => ?_⟩))
      · subst e
        cases q1
        exact h _ H ρ Z Ex.refl sm.rl (.tup h2 q2)
      · subst e
        cases q2
        rw [List.append_nil] at h
        exact h _ H ρ Z Ex.refl sm.rl (.tup h1 q1)
      · exact h _ _ ρ Z (ex_new hp) (sm.rl.new hp) (.tup (SqT.of upd_same) ((q1.append q2).ex sm.rl.zm (ex_new hp)))
    · rw [if_neg hz] at h
      exact h.elim
  · exact gen h

def subU : U → U → List Ob → Rs U := fun x y G => match x, y with
  | .int i, .int j => .ok (.int (i - j)) G
  | _, _ => .bad
theorem o2_sub : O2 T W subU (rI0 fun i j => .int (i - j)) := by
  intro σ H s G ρ Z x y u w Q sm r1 r2 h
  unfold subU at h
  split at h
  · exact ⟨_, _, r1.inv_int, r2.inv_int, h _ H ρ Z Ex.refl sm.rl (.int _)⟩
  · exact h.elim
/-- ints in, under a test, an int out -/
def intU (c : Int → Int → Bool) (g : Int → Int → Int) : U → U → List Ob → Rs U := fun x y G => match x, y with
  | .int i, .int j => if c i j then .ok (.int (g i j)) G else .bad
  | _, _ => .bad
theorem o2_int {c : Int → Int → Bool} {C : Int → Int → Prop} {g : Int → Int → Int} (hc : ∀ i j, c i j = true → C i j) : O2 T W (intU c g) (rI C fun i j => .int (g i j)) := by
  intro σ H s G ρ Z x y u w Q sm r1 r2 h
  unfold intU at h
  split at h
  · rename_i i j
    by_cases e : c i j = true
    · rw [if_pos e] at h
      exact ⟨_, _, r1.inv_int, r2.inv_int, hc _ _ e, h _ H ρ Z Ex.refl sm.rl (.int _)⟩
    · rw [if_neg e] at h
      exact h.elim
  · exact h.elim
def modU := intU (fun _ j => decide (j ≠ 0)) Int.fmod
def fdivU := intU (fun _ j => decide (j ≠ 0 ∧ j.natAbs < 1073741824)) Int.fdiv
def powU := intU (fun i j => decide (0 ≤ j ∧ j ≤ 1000000 ∧ i.natAbs < 2 ^ 64)) (fun i j => i ^ j.toNat)
theorem o2_mod : O2 T W modU (rI (fun _ j => j ≠ 0) fun i j => .int (i.fmod j)) := o2_int fun _ _ e => of_decide_eq_true e
theorem o2_fdiv : O2 T W fdivU (rI CDivN fun i j => .int (i.fdiv j)) := o2_int fun i j e => (show j ≠ 0 ∧ j.natAbs < 1073741824 from of_decide_eq_true e)
theorem o2_pow : O2 T W powU (rI CPow fun i j => .int (i ^ j.toNat)) := o2_int fun i j e => (show 0 ≤ j ∧ j ≤ 1000000 ∧ i.natAbs < 2 ^ 64 from of_decide_eq_true e)

def mulU (mu : Bool) : U → U → List Ob → Rs U := fun x y G => match x, y with
  | .int i, .int j => if (-(2 ^ 64) < i ∧ i < 2 ^ 64) ∨ (-(2 ^ 64) < j ∧ j < 2 ^ 64) then .ok (.int (i * j)) G else .bad
  | .tup a, .int k => if 1 ≤ a.length ∧ 2 ≤ k ∧ k ≤ 1000 ∧ a.length ≤ 1000 then .ok (.tup (List.replicate k.toNat a).flatten) G else .bad
  | x, .int k => match lstOfW G x with
    | some a => if -(2 ^ 63) ≤ k ∧ k < 2 ^ 63 then newL mu (List.replicate k.toNat a).flatten G else .bad
    | none => .bad
  | _, _ => .bad
abbrev rMulA (K : PySem.W.Frag) : R2 := fun x y H Q => rI CMul (fun i j => .int (i * j)) x y H Q ∨ rRepT K x y H Q ∨ rRep x y H Q
theorem op_mulA : OpR X (binaryOp .Mult) (rMulA X.K) := OpR.or op_mul (OpR.or op_repT op_rep)
theorem rep_length {α : Type} (l : List α) : ∀ k, (List.replicate k l).flatten.length = k * l.length
  | 0 => by simp
  | k + 1 => by rw [List.replicate_succ, List.flatten_cons, List.length_append, rep_length l k, Nat.succ_mul, Nat.add_comm]
theorem o2_mul {mu : Bool} (hT : X.K = T.K) : O2 T W (mulU mu) (rMulA X.K) := by
  intro σ H s G ρ Z x y u w Q sm r1 r2 h
  unfold mulU at h
  split at h
  · rename_i i j
    by_cases e : (-(2 ^ 64) < i ∧ i < 2 ^ 64) ∨ (-(2 ^ 64) < j ∧ j < 2 ^ 64)
    · rw [if_pos e] at h
      exact .inl ⟨i, j, r1.inv_int, r2.inv_int, e, h _ H ρ Z Ex.refl sm.rl (.int _)⟩
    · rw [if_neg e] at h
      exact h.elim
  · rename_i a k
    by_cases e : 1 ≤ a.length ∧ 2 ≤ k ∧ k ≤ 1000 ∧ a.length ≤ 1000
    · rw [if_pos e] at h
      obtain ⟨p, vs, rfl, h1, q1⟩ := r1.inv_tup
      refine .inr (.inl ⟨p, k, vs, rfl, r2.inv_int, hT ▸ h1, fun z => ?_, e.2.1, e.2.2.1, by rw [q1.length]; exact e.2.2.2, fun p hp => ?_⟩)
      · subst z
        have z1 := q1.length
        have z2 := e.1
        rw [← z1] at z2
        exact absurd z2 (by decide)
      · exact h _ _ ρ Z (ex_new hp) (sm.rl.new hp) (.tup (SqT.of upd_same) ((q1.rep _).ex sm.rl.zm (ex_new hp)))
    · rw [if_neg e] at h
      exact h.elim
  · rename_i k _ _
    cases e1 : lstOfW G u with
    | none => rw [e1] at h; exact h.elim
    | some a =>
      rw [e1] at h
      by_cases e : -(2 ^ 63) ≤ k ∧ k < 2 ^ 63
      · replace h := (by simpa only [if_pos e] using h : RE T W σ H ρ Z Q (newL mu (List.replicate k.toNat a).flatten G))
        obtain ⟨p, vs, rfl, h1, q1⟩ := lstOfW_at sm.rl r1 e1
        obtain ⟨hz, hq⟩ := newL_ok sm.rl (q1.rep k.toNat) h
        rw [rep_length, Nat.mul_comm] at hz
        exact .inr (.inr ⟨p, k, vs, rfl, r2.inv_int, h1, e.1, e.2, hz, hq⟩)
      · replace h := (by simpa only [if_neg e] using h : RE T W σ H ρ Z Q .bad)
        exact h.elim
  · exact h.elim

/-! ### comparisons -/
def cmpU (p : Int → Int → Bool) : U → U → List Ob → Rs U := fun x y G => match x, y with
  | .int i, .int j => .ok (.bl (p i j)) G
  | _, _ => .bad
theorem o2_cmp {p : Int → Int → Bool} : O2 T W (cmpU p) (rI0 fun i j => .bl (p i j)) := by
  intro σ H s G ρ Z x y u w Q sm r1 r2 h
  unfold cmpU at h
  split at h
  · exact ⟨_, _, r1.inv_int, r2.inv_int, h _ H ρ Z Ex.refl sm.rl (.bl _)⟩
  · exact h.elim
mutual
def toD0 (f : Nat → Option PyData) : U → Option PyData
  | .non => some .none
  | .bl b => some (.bool b)
  | .int i => some (.int i)
  | .str l => some (.str (SS l))
  | .tup l => (toD0s f l).map .tuple
  | .lst l => (toD0s f l).map .list
  | .ref i => f i
  | .sc _ => none
  | .dct _ => none
  | .ins _ _ => none
def toD0s (f : Nat → Option PyData) : List U → Option (List PyData)
  | [] => some []
  | x :: r => match toD0 f x, toD0s f r with
    | some a, some b => some (a :: b)
    | _, _ => none
end
def refD : Nat → List Ob → Nat → Option PyData
  | 0, _, _ => none
  | k + 1, G, i => match G[i]? with
    | some (.lst l) => (toD0s (refD k G) l).map .list
    | _ => none
def toD (G : List Ob) (u : U) : Option PyData := toD0 (refD 3 G) u
section
variable {σ : St} {H : Hp} {ρ : List Addr} {Z : Addr → Prop} {s : Sg} {G : List Ob}
mutual
theorem toD0_ok {f : Nat → Option PyData} (hf : ∀ i d a, f i = some d → ρ[i]? = some a → Dp T.K H (.ref a) d) : ∀ {v : V} {u : U} {d : PyData}, Rep T ρ Z H v u → toD0 f u = some d → Dp T.K H v d
  | _, _, _, .non, e => by simp [toD0] at e; subst e; exact .non
  | _, _, _, .bl b, e => by simp [toD0] at e; subst e; exact .bl b
  | _, _, _, .int b, e => by simp [toD0] at e; subst e; exact .int b
  | _, _, _, .str x, e => by
    simp only [toD0, SS_tl, Option.some.injEq] at e
    subst e
    exact .str x
  | _, _, _, .tup (us := us) h r, e => by
    simp only [toD0] at e
    cases e2 : toD0s f us with
    | none => rw [e2] at e; cases e
    | some ds =>
      rw [e2] at e
      cases e
      exact .tup h (toD0s_ok hf r e2)
  | _, _, _, .lst (us := us) h z r, e => by
    simp only [toD0] at e
    cases e2 : toD0s f us with
    | none => rw [e2] at e; cases e
    | some ds =>
      rw [e2] at e
      cases e
      exact .lst (SqL.of h) (toD0s_ok hf r e2)
  | _, _, _, .ref h, e => hf _ _ _ (by simpa only [toD0] using e) h
  | _, _, _, .sc h r, e => by simp [toD0] at e
  | _, _, _, .dct h z r, e => by simp [toD0] at e
  | _, _, _, .ins h z c r, e => by simp [toD0] at e
theorem toD0s_ok {f : Nat → Option PyData} (hf : ∀ i d a, f i = some d → ρ[i]? = some a → Dp T.K H (.ref a) d) : ∀ {v : List V} {u : List U} {d : List PyData}, Reps T ρ Z H v u → toD0s f u = some d → DpAll T.K H v d
  | _, _, _, .nil, e => by simp [toD0s] at e; subst e; exact .nil
  | _, _, _, .cons (u := u) (us := us) r t, e => by
    simp only [toD0s] at e
    cases e1 : toD0 f u with
    | none => rw [e1] at e; cases e
    | some a =>
      cases e2 : toD0s f us with
      | none => rw [e1, e2] at e; cases e
      | some b =>
        rw [e1, e2] at e
        cases e
        exact .cons (toD0_ok hf r e1) (toD0s_ok hf t e2)
end
theorem refD_ok (rl : Rl T ρ Z G H) : ∀ (k i : Nat) (d : PyData) (a : Addr), refD k G i = some d → ρ[i]? = some a → Dp T.K H (.ref a) d
  | 0, _, _, _, e, _ => by cases e
  | k + 1, i, d, a, e, h => by
    simp only [refD] at e
    cases g : G[i]? with
    | none => rw [g] at e; cases e
    | some o =>
      rw [g] at e
      cases o with
      | lst l =>
        simp only at e
        cases e2 : toD0s (refD k G) l with
        | none => rw [e2] at e; cases e
        | some ds =>
          rw [e2] at e
          cases e
          obtain ⟨_, vs, h2, h3⟩ := rl.ob i a _ h g
          exact .lst (SqL.of h2) (toD0s_ok (refD_ok rl k) h3 e2)
      | _ => cases e
theorem toD_ok (rl : Rl T ρ Z G H) {v : V} {u : U} {d : PyData} (r : Rep T ρ Z H v u) (e : toD G u = some d) : Dp T.K H v d := toD0_ok (refD_ok rl 3) r e
end
def eqU (neg : Bool) : U → U → List Ob → Rs U := fun x y G => match toD G x, toD G y with
  | some d, some e => if SeqAt.shaped d = true ∧ SeqAt.shaped e = true then .ok (.bl (if neg then !PyData.eqv d e else PyData.eqv d e)) G else .bad
  | _, _ => .bad
theorem o2_eq (hT : X.K = T.K) : O2 T W (eqU false) (rEqD X.K) := by
  intro σ H s G ρ Z x y u w Q sm r1 r2 h
  unfold eqU at h
  split at h
  · rename_i d e h1 h2
    by_cases z : SeqAt.shaped d = true ∧ SeqAt.shaped e = true
    · rw [if_pos z] at h
      exact ⟨d, e, hT ▸ toD_ok sm.rl r1 h1, hT ▸ toD_ok sm.rl r2 h2, z.1, z.2, h _ H ρ Z Ex.refl sm.rl (.bl _)⟩
    · rw [if_neg z] at h
      exact h.elim
  · exact h.elim
theorem o2_ne (hT : X.K = T.K) : O2 T W (eqU true) (rNeD X.K) := by
  intro σ H s G ρ Z x y u w Q sm r1 r2 h
  unfold eqU at h
  split at h
  · rename_i d e h1 h2
    by_cases z : SeqAt.shaped d = true ∧ SeqAt.shaped e = true
    · rw [if_pos z] at h
      exact ⟨d, e, hT ▸ toD_ok sm.rl r1 h1, hT ▸ toD_ok sm.rl r2 h2, z.1, z.2, h _ H ρ Z Ex.refl sm.rl (.bl _)⟩
    · rw [if_neg z] at h
      exact h.elim
  · exact h.elim

/-- is None, is True .. -/
def isNonU : U → Bool
  | .non => true
  | _ => false
def isU (neg : Bool) : U → U → List Ob → Rs U := fun x y G => match y with
  | .non => .ok (.bl (if neg then !isNonU x else isNonU x)) G
  | .bl b => match x with
    | .bl a => .ok (.bl (if neg then !decide (a = b) else decide (a = b))) G
    | _ => .ok (.bl neg) G
  | _ => .bad
/-- what is no bool is none of the two -/
def noBl : V → Bool
  | .non => true
  | .int _ => true
  | .str _ => true
  | .ref _ => true
  | _ => false
def rIsO (neg : Bool) : R2 := fun x y H Q => noBl x = true ∧ ∃ b : Bool, y = .bl b ∧ Q (.bl neg) H
theorem op_isO : OpR X (compareOp .Is) (rIsO false) := by
  intro pins s σ H x y v u Q I rx ry ⟨hx, b, ey, q⟩
  subst ey
  cases (show u = Value.bool b from ry)
  have hp : plainIs v (.bool b) = true ∧ v ≠ .bool b := by
    cases x with
    | non => cases (show v = Value.none from rx); exact ⟨rfl, by simp⟩
    | int i => obtain ⟨t, e⟩ := (show ∃ t, v = Value.int i t from rx); subst e; exact ⟨rfl, by simp⟩
    | str i => obtain ⟨t, e⟩ := (show ∃ t, v = Value.str i t from rx); subst e; exact ⟨rfl, by simp⟩
    | ref a => cases (show v = Value.ref a from rx); exact ⟨rfl, by simp⟩
    | _ => cases hx
  exact wpAny_is_other hp.1 hp.2 ⟨.bl false, H, I, rfl, q⟩
theorem op_notO : OpR X (compareOp .IsNot) (rIsO true) := by
  intro pins s σ H x y v u Q I rx ry ⟨hx, b, ey, q⟩
  subst ey
  cases (show u = Value.bool b from ry)
  have hp : plainIs v (.bool b) = true ∧ v ≠ .bool b := by
    cases x with
    | non => cases (show v = Value.none from rx); exact ⟨rfl, by simp⟩
    | int i => obtain ⟨t, e⟩ := (show ∃ t, v = Value.int i t from rx); subst e; exact ⟨rfl, by simp⟩
    | str i => obtain ⟨t, e⟩ := (show ∃ t, v = Value.str i t from rx); subst e; exact ⟨rfl, by simp⟩
    | ref a => cases (show v = Value.ref a from rx); exact ⟨rfl, by simp⟩
    | _ => cases hx
  exact wpAny_isNot_other hp.1 hp.2 ⟨.bl true, H, I, rfl, q⟩
theorem rep_noBl {ρ : List Addr} {Z : Addr → Prop} {H : Hp} {v : V} {u : U} (r : Rep T ρ Z H v u) (h : ∀ a, u ≠ .bl a) : noBl v = true := by
  cases r with
  | bl b => exact absurd rfl (h b)
  | _ => rfl
theorem rep_non {ρ : List Addr} {Z : Addr → Prop} {H : Hp} {v : V} {u : U} (r : Rep T ρ Z H v u) : decide (v = .non) = isNonU u := by
  cases r <;> simp [isNonU]
theorem o2_is : O2 T W (isU false) (fun x y H Q => (y = .non ∧ Q (.bl (decide (x = .non))) H) ∨ rIsB x y H Q ∨ rIsO false x y H Q) := by
  intro σ H s G ρ Z x y u w Q sm r1 r2 h
  unfold isU at h
  split at h
  · refine .inl ⟨r2.inv_non, ?_⟩
    rw [rep_non r1]
    exact h _ H ρ Z Ex.refl sm.rl (.bl _)
  · split at h
    · exact .inr (.inl ⟨_, _, r1.inv_bl, r2.inv_bl, h _ H ρ Z Ex.refl sm.rl (.bl _)⟩)
    · rename_i hn
      exact .inr (.inr ⟨rep_noBl r1 hn, _, r2.inv_bl, h _ H ρ Z Ex.refl sm.rl (.bl _)⟩)
  · exact h.elim
theorem o2_isnot : O2 T W (isU true) (fun x y H Q => (y = .non ∧ Q (.bl (!decide (x = .non))) H) ∨ rNotB x y H Q ∨ rIsO true x y H Q) := by
  intro σ H s G ρ Z x y u w Q sm r1 r2 h
  unfold isU at h
  split at h
  · refine .inl ⟨r2.inv_non, ?_⟩
    rw [rep_non r1]
    exact h _ H ρ Z Ex.refl sm.rl (.bl _)
  · split at h
    · exact .inr (.inl ⟨_, _, r1.inv_bl, r2.inv_bl, h _ H ρ Z Ex.refl sm.rl (.bl _)⟩)
    · rename_i hn
      exact .inr (.inr ⟨rep_noBl r1 hn, _, r2.inv_bl, h _ H ρ Z Ex.refl sm.rl (.bl _)⟩)
  · exact h.elim

/-! ### in, not in -/
def flatU : U → Bool
  | .non => true
  | .bl _ => true
  | .int _ => true
  | .str _ => true
  | _ => false
def eqF : U → U → Bool
  | .non, .non => true
  | .bl a, .bl b => a == b
  | .bl a, .int b => (if a then 1 else 0) == b
  | .int a, .bl b => a == (if b then 1 else 0)
  | .int a, .int b => a == b
  | .str a, .str b => a == b
  | _, _ => false
def infB (y : List Nat) : List Nat → Bool
  | [] => y.isEmpty
  | c :: t => y.isPrefixOf (c :: t) || infB y t
theorem eqV_eqF {ρ : List Addr} {Z : Addr → Prop} {H : Hp} {v w : V} {u x : U} (r : Rep T ρ Z H v u) (q : Rep T ρ Z H w x) (f : flatU u = true) (g : flatU x = true) : eqV v w = eqF u x := by
  have hstr : ∀ a b : Str, (a == b) = (a.cps.toList == b.cps.toList) := fun a b => (PyProof.Rows.toList_beq a b).symm
  cases r <;> cases q <;> first | rfl | exact hstr _ _ | (simp [flatU] at f) | (simp [flatU] at g)
theorem flatV_of {ρ : List Addr} {Z : Addr → Prop} {H : Hp} {v : V} {u : U} (r : Rep T ρ Z H v u) (f : flatU u = true) : flatV v = true := by
  cases r <;> first | rfl | (simp [flatU] at f)
theorem flats_of {ρ : List Addr} {Z : Addr → Prop} {H : Hp} : ∀ {vs : List V} {us : List U}, Reps T ρ Z H vs us → us.all flatU = true → vs.all flatV = true
  | _, _, .nil, _ => rfl
  | _, _, .cons r t, f => by
    rw [List.all_cons, Bool.and_eq_true] at f
    rw [List.all_cons, Bool.and_eq_true]
    exact ⟨flatV_of r f.1, flats_of t f.2⟩
theorem inV_of {ρ : List Addr} {Z : Addr → Prop} {H : Hp} {x : V} {u : U} (r : Rep T ρ Z H x u) (fu : flatU u = true) : ∀ {vs : List V} {us : List U}, Reps T ρ Z H vs us → us.all flatU = true → inV x vs = us.any fun y => eqF y u
  | _, _, .nil, _ => rfl
  | _, _, .cons q t, f => by
    rw [List.all_cons, Bool.and_eq_true] at f
    have ih := inV_of r fu t f.2
    unfold inV at ih ⊢
    rw [List.any_cons, List.any_cons, eqV_eqF q r f.1 fu, ih]
/-- the items of a list or tuple -/
def seqOf (G : List Ob) : U → Option (List U)
  | .tup l => some l
  | u => lstOf G u
theorem seqOf_at {σ : St} {ρ : List Addr} {Z : Addr → Prop} {H : Hp} {G : List Ob} {u : U} {l : List U} {v : V} (rl : Rl T ρ Z G H) (r : Rep T ρ Z H v u) (e : seqOf G u = some l) : ∃ a vs, v = .ref a ∧ (SqL T.K H a vs ∨ SqT T.K H a vs) ∧ Reps T ρ Z H vs l := by
  unfold seqOf at e
  split at e
  · cases e
    obtain ⟨a, vs, h1, h2, h3⟩ := r.inv_tup
    exact ⟨a, vs, h1, .inr h2, h3⟩
  · obtain ⟨a, vs, h1, h2, h3⟩ := lstOf_at rl r e
    exact ⟨a, vs, h1, .inl h2, h3⟩
theorem infB_iff (y : List Nat) : ∀ x : List Nat, infB y x = true ↔ ∃ i, i + y.length ≤ x.length ∧ (x.drop i).take y.length = y
  | [] => by
    constructor
    · intro h
      have e : y = [] := List.isEmpty_iff.mp h
      subst e
      exact ⟨0, Nat.le_refl _, rfl⟩
    · rintro ⟨i, h, _⟩
      have e : y.length = 0 := by
        have h' : i + y.length ≤ 0 := h
        omega
      have e : y = [] := List.length_eq_zero_iff.mp e
      subst e
      rfl
  | c :: t => by
    have ih := infB_iff y t
    unfold infB
    rw [Bool.or_eq_true, ih, List.isPrefixOf_iff_prefix]
    constructor
    · rintro (h | ⟨i, h, e⟩)
      · exact ⟨0, by rw [Nat.zero_add]; exact h.length_le, by rw [List.drop_zero]; exact (List.prefix_iff_eq_take.mp h).symm⟩
      · exact ⟨i + 1, by simp; omega, by simpa using e⟩
    · rintro ⟨i, h, e⟩
      cases i with
      | zero => exact .inl (List.prefix_iff_eq_take.mpr (by simpa using e.symm))
      | succ i => exact .inr ⟨i, by simp at h; omega, by simpa using e⟩
def inU (neg : Bool) : U → U → List Ob → Rs U := fun x y G => match x, y with
  | .str a, .str b => .ok (.bl (if neg then !infB a b else infB a b)) G
  | x, y => match seqOf G y with
    | some l => if flatU x = true ∧ l.all flatU = true then .ok (.bl (if neg then !(l.any fun z => eqF z x) else (l.any fun z => eqF z x))) G
      else match toD G x, toD G y with
        | some d, some (.list ds) => if SeqAt.shaped d = true ∧ SeqAt.shaped (.list ds) = true then .ok (.bl (if neg then !(ds.any fun z => PyData.eqv z d) else (ds.any fun z => PyData.eqv z d))) G else .bad
        | some d, some (.tuple ds) => if SeqAt.shaped d = true ∧ SeqAt.shaped (.list ds) = true then .ok (.bl (if neg then !(ds.any fun z => PyData.eqv z d) else (ds.any fun z => PyData.eqv z d))) G else .bad
        | _, _ => .bad
    | none => .bad
/-- among the items of a tuple, whatever they are -/
abbrev rInT (K : PySem.W.Frag) (neg : Bool) : R2 := fun x y H Q => ∃ d ds, Dp K H x d ∧ Dp K H y (.tuple ds) ∧ SeqAt.shaped d = true ∧ SeqAt.shaped (.list ds) = true ∧ Q (.bl (if neg then !(ds.any fun z => PyData.eqv z d) else (ds.any fun z => PyData.eqv z d))) H
theorem op_inT (hu : X.A.units + 65 < cLine) : OpR X (compareOp .In) (rInT X.K false) := by
  intro pins s σ H x y v u Q I rx ry ⟨d, ds, hd, he, sd, se, q⟩
  obtain ⟨as, r1⟩ := Dp.reads I d x v hd rx
  obtain ⟨bs, r2⟩ := Dp.reads I (.tuple ds) y u he ry
  have pl : PyData.plain (.list ds) = true := PyData.plain_of_canLay0 _ (SeqAt.canLay_of_shaped se)
  refine SeqAt.in_tuple_data r2 r1 (by simpa [PyData.plain] using pl) (PyData.plain_of_canLay0 _ (SeqAt.canLay_of_shaped sd)) (PyProof.Rows.room_in_shaped sd hu) ⟨.bl _, H, I, rfl, q⟩
theorem op_notInT (hu : X.A.units + 65 < cLine) : OpR X (compareOp .NotIn) (rInT X.K true) := by
  intro pins s σ H x y v u Q I rx ry ⟨d, ds, hd, he, sd, se, q⟩
  obtain ⟨as, r1⟩ := Dp.reads I d x v hd rx
  obtain ⟨bs, r2⟩ := Dp.reads I (.tuple ds) y u he ry
  have pl : PyData.plain (.list ds) = true := PyData.plain_of_canLay0 _ (SeqAt.canLay_of_shaped se)
  refine SeqAt.notIn_tuple_data r2 r1 (by simpa [PyData.plain] using pl) (PyData.plain_of_canLay0 _ (SeqAt.canLay_of_shaped sd)) (PyProof.Rows.room_in_shaped sd hu) ⟨.bl _, H, I, rfl, q⟩
abbrev rInA (K : PySem.W.Frag) (neg : Bool) : R2 := fun x y H Q =>
  (∃ i j, x = .str i ∧ y = .str j ∧ Q (.bl (if neg then !(!(Builtin.Str.occurrences j i 0 j.length 1).isEmpty) else (!(Builtin.Str.occurrences j i 0 j.length 1).isEmpty))) H) ∨ rIn K neg x y H Q ∨
  (∃ d ds, Dp K H x d ∧ Dp K H y (.list ds) ∧ SeqAt.shaped d = true ∧ SeqAt.shaped (.list ds) = true ∧ Q (.bl (if neg then !(ds.any fun z => PyData.eqv z d) else (ds.any fun z => PyData.eqv z d))) H) ∨ rInT K neg x y H Q
theorem op_inA (hu : X.A.units + 65 < cLine) : OpR X (compareOp .In) (rInA X.K false) := OpR.or op_in_str (OpR.or op_in_seq (OpR.or (op_inD hu) (op_inT hu)))
theorem op_notinA (hu : X.A.units + 65 < cLine) : OpR X (compareOp .NotIn) (rInA X.K true) := OpR.or op_notin_str (OpR.or op_notIn_seq (OpR.or (op_notInD hu) (op_notInT hu)))
theorem occ_inf (a b : List Nat) : (!(Builtin.Str.occurrences (SS b) (SS a) 0 (SS b).length 1).isEmpty) = infB a b := by
  rw [Bool.eq_iff_iff, StrLaws.found_iff, infB_iff]
  constructor
  · rintro ⟨i, h, e⟩
    rw [StrLaws.subAt_eq, beq_iff_eq, tl_SS, tl_SS, strLen] at e
    rw [strLen, strLen] at h
    exact ⟨i, h, e⟩
  · rintro ⟨i, h, e⟩
    refine ⟨i, by rw [strLen, strLen]; exact h, ?_⟩
    rw [StrLaws.subAt_eq, beq_iff_eq, tl_SS, tl_SS, strLen]
    exact e
theorem o2_in {neg : Bool} (hT : X.K = T.K) : O2 T W (inU neg) (rInA X.K neg) := by
  intro σ H s G ρ Z x y u w Q sm r1 r2 h
  unfold inU at h
  split at h
  · rename_i a b
    refine .inl ⟨_, _, r1.inv_str, r2.inv_str, ?_⟩
    rw [occ_inf]
    exact h _ H ρ Z Ex.refl sm.rl (.bl _)
  · split at h
    · rename_i l e
      obtain ⟨p, vs, rfl, h1, q1⟩ := seqOf_at (σ := σ) sm.rl r2 e
      by_cases z : flatU u = true ∧ l.all flatU = true
      · rw [if_pos z] at h
        refine .inr (.inl ⟨p, vs, rfl, hT ▸ h1, flatV_of r1 z.1, flats_of q1 z.2, ?_⟩)
        rw [inV_of r1 z.1 q1 z.2]
        exact h _ H ρ Z Ex.refl sm.rl (.bl _)
      · rw [if_neg z] at h
        split at h
        · rename_i d ds e1 e2
          by_cases z : SeqAt.shaped d = true ∧ SeqAt.shaped (.list ds) = true
          · rw [if_pos z] at h
            exact .inr (.inr (.inl ⟨d, ds, hT ▸ toD_ok sm.rl r1 e1, hT ▸ toD_ok sm.rl r2 e2, z.1, z.2, h _ H ρ Z Ex.refl sm.rl (.bl _)⟩))
          · rw [if_neg z] at h
            exact h.elim
        · rename_i d ds e1 e2
          by_cases z : SeqAt.shaped d = true ∧ SeqAt.shaped (.list ds) = true
          · rw [if_pos z] at h
            exact .inr (.inr (.inr ⟨d, ds, hT ▸ toD_ok sm.rl r1 e1, hT ▸ toD_ok sm.rl r2 e2, z.1, z.2, h _ H ρ Z Ex.refl sm.rl (.bl _)⟩))
          · rw [if_neg z] at h
            exact h.elim
        · exact h.elim
    · exact h.elim

/-! ### an item -/
def idxU : U → U → List Ob → Rs U := fun x y G => match x, y with
  | .str l, .int i => if l.length ≤ szL then (match atI l i with | some c => .ok (.str [c]) G | none => .bad) else .bad
  | x, .int i => match seqOf G x with
    | some l => (match atI l i with | some u => .ok u G | none => .bad)
    | none => .bad
  | _, _ => .bad
theorem atI_rep {ρ : List Addr} {Z : Addr → Prop} {H : Hp} {vs : List V} {us : List U} {i : Int} {u : U} (r : Reps T ρ Z H vs us) (e : atI us i = some u) : ∃ v, atI vs i = some v ∧ Rep T ρ Z H v u := by
  unfold atI at e ⊢
  rw [r.length]
  cases e1 : ixN us.length i with
  | none => rw [e1] at e; cases e
  | some j =>
    rw [e1] at e
    exact r.get e
theorem o2_idx (hT : X.K = T.K) : O2 T W idxU (rIx X.K) := by
  intro σ H s G ρ Z x y u w Q sm r1 r2 h
  unfold idxU at h
  split at h
  · rename_i l i
    by_cases z : l.length ≤ szL
    · rw [if_pos z] at h
      split at h
      · rename_i c e
        refine .inr (.inr ⟨SS l, i, c, r1.inv_str, r2.inv_int, by rw [strLen, szL_eq]; exact z, by rw [tl_SS]; exact e, ?_⟩)
        exact h _ H ρ Z Ex.refl sm.rl (Rep.ss [c])
      · exact h.elim
    · rw [if_neg z] at h
      exact h.elim
  · split at h
    · rename_i l e
      split at h
      · rename_i u' e2
        obtain ⟨p, vs, rfl, h1, q1⟩ := seqOf_at (σ := σ) sm.rl r1 e
        obtain ⟨v, e3, rv⟩ := atI_rep q1 e2
        rcases h1 with h1 | h1
        · exact .inl ⟨p, vs, _, v, rfl, r2.inv_int, hT ▸ h1, e3, h _ H ρ Z Ex.refl sm.rl rv⟩
        · exact .inr (.inl ⟨p, vs, _, v, rfl, r2.inv_int, hT ▸ h1, e3, h _ H ρ Z Ex.refl sm.rl rv⟩)
      · exact h.elim
    · exact h.elim
  · exact h.elim
theorem fe_ix {a b : Expr} {pos : Pos} {ma mb : ME} (hT : X.K = T.K) (ha : PE X a (tE T W ma)) (hb : PE X b (tE T W mb)) (hs : PlainIx b) : PE X (.Subscript a b pos) (tE T W (bin2 idxU ma mb)) :=
  PE.imp (pe_ix ix_seq ha hb hs) fun _ _ _ q => (o2_idx hT).top q
end
end FL

/-! FL5: tests, and, or, not, displays, slices, built-ins by name. -/
namespace FL
open PySem L2
abbrev MT := Sg → List Ob → Rs Bool
section
variable {X : Cx} {T : Tb} {W : WX} {a b c : Expr} {pos : Pos} {ma mb mc : ME}

/-! ### tests -/
def blU : U → List Ob → Rs Bool := fun u G => match u with
  | .bl k => .ok k G
  | _ => .bad
def tobM (m : ME) : MT := fun s G => (m s G).bind blU
theorem tB_of {σ : St} {H : Hp} {Q : Bool → Hp → Prop} {m : ME} (q : tT T W (tobM m) σ H Q) : tE T W m σ H fun x H1 => ∃ k, x = .bl k ∧ Q k H1 := by
  obtain ⟨s, G, ρ, Z, sm, q⟩ := q
  refine tE_bindB sm q fun u G1 x H1 ρ1 Z1 x1 sm1 r1 q1 => ?_
  unfold blU at q1
  split at q1
  · exact ⟨_, r1.inv_bl, q1 H1 ρ1 Z1 Ex.refl sm1.rl⟩
  · exact q1.elim
theorem ft_val (h : PE X a (tE T W ma)) (he : ∀ whole, isTrue a X.env whole = (do let v ← whole; standAt a.pos; holding [v] (truthy v))) : PT X a (tT T W (tobM ma)) :=
  PT.imp (pt_val h he) fun _ _ _ q => tB_of q
theorem ft_cmp {op : CmpOp} {f : U → U → List Ob → Rs U} {r : R2} (ho : OpR X (compareOp op) r) (h : O2 T W f r) (ha : PE X a (tE T W ma)) (hb : PE X b (tE T W mb)) (hm : behindInMarks op b = false) :
    PT X (.Compare a [op] [b] pos) (tT T W (tobM (bin2 f ma mb))) := PT.imp (pt_cmpR ho ha hb hm) fun _ _ _ q => by
  obtain ⟨s, G, ρ, Z, sm, q⟩ := tB_of q
  exact h.top ⟨s, G, ρ, Z, sm, q⟩
/-- a < b < c -/
def chM (f g : U → U → List Ob → Rs U) (a b c : ME) : ME := fun s G => (a s G).bind fun x G1 => (b s G1).bind fun y G2 => (f x y G2).bind fun z G3 => match z with
  | .bl true => (c s G3).bind fun w G4 => g y w G4
  | .bl false => .ok (.bl false) G3
  | _ => .bad
theorem chM_top {f g : U → U → List Ob → Rs U} {r r' : R2} (h : O2 T W f r) (h' : O2 T W g r') {σ : St} {H : Hp} {Q : VK} (q : tE T W (chM f g ma mb mc) σ H Q) :
    tE T W ma σ H fun x H1 => tE T W mb σ H1 fun y H2 => r x y H2 fun z H3 => ∃ k, z = .bl k ∧ if k = true then tE T W mc σ H3 fun w H4 => r' y w H4 Q else Q (.bl false) H3 := by
  obtain ⟨s, G, ρ, Z, sm, q⟩ := q
  refine tE_bind sm q fun u G1 x H1 ρ1 Z1 x1 sm1 r1 q1 => ?_
  refine tE_bind sm1 q1 fun w G2 y H2 ρ2 Z2 x2 sm2 r2 q2 => ?_
  refine h _ _ _ _ _ _ _ _ _ _ _ sm2 (r1.ex sm1.rl.zm x2) r2 ?_
  cases e : f u w G2 with
  | bad => rw [e] at q2; exact q2
  | exc x G3 => rw [e] at q2; exact q2
  | ok z G3 =>
    rw [e] at q2
    intro v3 H3 ρ3 Z3 x3 rl3 r3
    have q3 := RE.ex q2 x3
    simp only [Rs.bind] at q3
    split at q3
    · refine ⟨true, r3.inv_bl, ?_⟩
      rw [if_pos rfl]
      refine tE_bind (sm2.ex x3 rl3) q3 fun u4 G4 x4 H4 ρ4 Z4 y4 sm4 r4 q4 => ?_
      exact h' _ _ _ _ _ _ _ _ _ _ _ sm4 (((r2.ex sm2.rl.zm x3)).ex rl3.zm y4) r4 q4
    · refine ⟨false, r3.inv_bl, ?_⟩
      rw [if_neg Bool.false_ne_true]
      exact q3 _ H3 ρ3 Z3 Ex.refl rl3 (.bl _)
    · exact q3.elim

/-! ### and, or, not -/
def andT (p q : MT) : MT := fun s G => (p s G).bind fun k G1 => if k then q s G1 else .ok false G1
def orT (p q : MT) : MT := fun s G => (p s G).bind fun k G1 => if k then .ok true G1 else q s G1
def notT (p : MT) : MT := fun s G => (p s G).bind fun k G1 => .ok (!k) G1
variable {pa pb pc : MT} {rest : List Expr}
theorem fw_and1 (h : PT X a (tT T W pa)) : PW X (.BoolOp .And [a] pos) (tT T W pa) := pw_and1 h
theorem fw_or1 (h : PT X a (tT T W pa)) : PW X (.BoolOp .Or [a] pos) (tT T W pa) := pw_or1 h
theorem fw_and (ha : PT X a (tT T W pa)) (hb : PW X (.BoolOp .And (b :: rest) pos) (tT T W pb)) : PW X (.BoolOp .And (a :: b :: rest) pos) (tT T W (andT pa pb)) :=
  PW.imp (pw_and ha hb) fun σ H Q ⟨s, G, ρ, Z, sm, q⟩ => by
    refine tT_bindB sm q fun k G1 H1 ρ1 Z1 x1 sm1 q1 => ?_
    cases k with
    | true => rw [if_pos rfl]; exact ⟨s, G1, ρ1, Z1, sm1, by simpa using q1⟩
    | false => rw [if_neg Bool.false_ne_true]; exact (by simpa using q1 : RB T W σ H1 ρ1 Z1 Q (.ok false G1)) H1 ρ1 Z1 Ex.refl sm1.rl
theorem fw_or (ha : PT X a (tT T W pa)) (hb : PW X (.BoolOp .Or (b :: rest) pos) (tT T W pb)) : PW X (.BoolOp .Or (a :: b :: rest) pos) (tT T W (orT pa pb)) :=
  PW.imp (pw_or ha hb) fun σ H Q ⟨s, G, ρ, Z, sm, q⟩ => by
    refine tT_bindB sm q fun k G1 H1 ρ1 Z1 x1 sm1 q1 => ?_
    cases k with
    | true => rw [if_pos rfl]; exact (by simpa using q1 : RB T W σ H1 ρ1 Z1 Q (.ok true G1)) H1 ρ1 Z1 Ex.refl sm1.rl
    | false => rw [if_neg Bool.false_ne_true]; exact ⟨s, G1, ρ1, Z1, sm1, by simpa using q1⟩
theorem ft_not (h : PT X a (tT T W pa)) : PT X (.UnaryOp .Not a pos) (tT T W (notT pa)) :=
  PT.imp (pt_not h) fun σ H Q ⟨s, G, ρ, Z, sm, q⟩ => tT_bindB sm q fun k G1 H1 ρ1 Z1 x1 sm1 q1 => q1 H1 ρ1 Z1 Ex.refl sm1.rl
/-- as values -/
def andM (p q : ME) : ME := fun s G => (p s G).bind fun u G1 => match u with
  | .bl true => q s G1
  | .bl false => .ok (.bl false) G1
  | _ => .bad
def orM (p q : ME) : ME := fun s G => (p s G).bind fun u G1 => match u with
  | .bl false => q s G1
  | .bl true => .ok (.bl true) G1
  | _ => .bad
def notM (p : ME) : ME := fun s G => (p s G).bind fun u G1 => match u with
  | .bl k => .ok (.bl (!k)) G1
  | _ => .bad
theorem fe_and (ha : PE X a (tE T W ma)) (hb : PE X (.BoolOp .And (b :: rest) pos) (tE T W mb)) : PE X (.BoolOp .And (a :: b :: rest) pos) (tE T W (andM ma mb)) :=
  PE.imp (pe_and ha hb) fun σ H Q ⟨s, G, ρ, Z, sm, q⟩ => by
    refine tE_bind sm q fun u G1 x H1 ρ1 Z1 x1 sm1 r1 q1 => ?_
    split at q1
    · refine ⟨true, r1.inv_bl, ?_⟩
      rw [if_pos rfl]
      exact ⟨s, G1, ρ1, Z1, sm1, q1⟩
    · refine ⟨false, r1.inv_bl, ?_⟩
      rw [if_neg Bool.false_ne_true]
      exact q1 _ H1 ρ1 Z1 Ex.refl sm1.rl (.bl _)
    · exact q1.elim
theorem fe_or (ha : PE X a (tE T W ma)) (hb : PE X (.BoolOp .Or (b :: rest) pos) (tE T W mb)) : PE X (.BoolOp .Or (a :: b :: rest) pos) (tE T W (orM ma mb)) :=
  PE.imp (pe_or ha hb) fun σ H Q ⟨s, G, ρ, Z, sm, q⟩ => by
    refine tE_bind sm q fun u G1 x H1 ρ1 Z1 x1 sm1 r1 q1 => ?_
    split at q1
    · refine ⟨false, r1.inv_bl, ?_⟩
      rw [if_neg Bool.false_ne_true]
      exact ⟨s, G1, ρ1, Z1, sm1, q1⟩
    · refine ⟨true, r1.inv_bl, ?_⟩
      rw [if_pos rfl]
      exact q1 _ H1 ρ1 Z1 Ex.refl sm1.rl (.bl _)
    · exact q1.elim
theorem fe_not (ha : PE X a (tE T W ma)) : PE X (.UnaryOp .Not a pos) (tE T W (notM ma)) :=
  PE.imp (pe_not ha) fun σ H Q ⟨s, G, ρ, Z, sm, q⟩ => by
    refine tE_bind sm q fun u G1 x H1 ρ1 Z1 x1 sm1 r1 q1 => ?_
    split at q1
    · exact ⟨_, r1.inv_bl, q1 _ H1 ρ1 Z1 Ex.refl sm1.rl (.bl _)⟩
    · exact q1.elim
def negM (p : ME) : ME := fun s G => (p s G).bind fun u G1 => match u with
  | .int k => .ok (.int (-k)) G1
  | _ => .bad
theorem fe_neg (ha : PE X a (tE T W ma)) : PE X (.UnaryOp .USub a pos) (tE T W (negM ma)) :=
  PE.imp (pe_un un_neg ha) fun σ H Q ⟨s, G, ρ, Z, sm, q⟩ => by
    refine tE_bind sm q fun u G1 x H1 ρ1 Z1 x1 sm1 r1 q1 => ?_
    split at q1
    · exact ⟨_, r1.inv_int, q1 _ H1 ρ1 Z1 Ex.refl sm1.rl (.int _)⟩
    · exact q1.elim
def iteM (t : MT) (p q : ME) : ME := fun s G => (t s G).bind fun k G1 => if k then p s G1 else q s G1
theorem fe_ite (hc : PT X c (tT T W pc)) (ha : PE X a (tE T W ma)) (hb : PE X b (tE T W mb)) : PE X (.IfExp c a b pos) (tE T W (iteM pc ma mb)) :=
  PE.imp (pe_ifExp hc ha hb) fun σ H Q ⟨s, G, ρ, Z, sm, q⟩ => by
    refine tT_bind sm q fun k G1 H1 ρ1 Z1 x1 sm1 q1 => ?_
    cases k with
    | true => rw [if_pos rfl]; exact ⟨s, G1, ρ1, Z1, sm1, by simpa using q1⟩
    | false => rw [if_neg Bool.false_ne_true]; exact ⟨s, G1, ρ1, Z1, sm1, by simpa using q1⟩

/-! ### argument lists, displays -/
def nilA : MA := fun _ G => .ok [] G
def consA (p : ME) (q : MA) : MA := fun s G => (p s G).bind fun u G1 => (q s G1).bind fun us G2 => .ok (u :: us) G2
variable {es : List Expr} {mas : MA}
theorem fa_nil : PA X [] (tA T W nilA) := PA.imp pa_nil fun σ H Q ⟨s, G, ρ, Z, sm, q⟩ => q [] H ρ Z Ex.refl sm.rl .nil
theorem tA_bindA {m : MA} {f : List U → List Ob → Rs (List U)} {Q : List V → Hp → Prop} {k : List V → Hp → Prop} {σ : St} {H : Hp} {s : Sg} {G : List Ob} {ρ : List Addr} {Z : Addr → Prop} (sm : Sm T σ H s G ρ Z) (h : RA T W σ H ρ Z Q ((m s G).bind f))
    (hk : ∀ u G' v H' ρ' Z', Ex ρ Z H ρ' Z' H' → Sm T σ H' s G' ρ' Z' → Reps T ρ' Z' H' v u → RA T W σ H' ρ' Z' Q (f u G') → k v H') : tA T W m σ H k := by
  refine ⟨s, G, ρ, Z, sm, ?_⟩
  cases e : m s G with
  | ok u G' =>
    rw [e] at h
    exact fun v H' ρ' Z' x rl rp => hk u G' v H' ρ' Z' x (sm.ex x rl) rp (RA.ex h x)
  | exc x G' => rw [e] at h; exact h
  | bad => rw [e] at h; exact h
theorem fa_cons (ha : PE X a (tE T W ma)) (hr : PA X es (tA T W mas)) (hs : starEach (a :: es) X.env = (false, eval a X.env) :: starEach es X.env) : PA X (a :: es) (tA T W (consA ma mas)) :=
  PA.imp (pa_cons ha hr hs) fun σ H Q ⟨s, G, ρ, Z, sm, q⟩ => by
    refine tE_bindA sm q fun u G1 x H1 ρ1 Z1 x1 sm1 r1 q1 => ?_
    refine tA_bindA sm1 q1 fun us G2 vs H2 ρ2 Z2 x2 sm2 r2 q2 => ?_
    exact q2 _ H2 ρ2 Z2 Ex.refl sm2.rl (.cons (r1.ex sm1.rl.zm x2) r2)
def lstM (mu : Bool) (p : MA) : ME := fun s G => (p s G).bind fun us G1 => newL mu us G1
def tupM (p : MA) : ME := fun s G => (p s G).bind fun us G1 => newT us G1
theorem fe_lst {mu : Bool} (h : PA X es (tA T W mas)) : PE X (.List es pos) (tE T W (lstM mu mas)) :=
  PE.imp (pe_lst h) fun σ H Q ⟨s, G, ρ, Z, sm, q⟩ => tA_bind sm q fun us G1 vs H1 ρ1 Z1 x1 sm1 r1 q1 => newL_ok sm1.rl r1 q1
theorem fe_tup {k : Nat} (h : PA X es (tA T W mas)) : PE X (.Tuple es k pos) (tE T W (tupM mas)) :=
  PE.imp (pe_tup h) fun σ H Q ⟨s, G, ρ, Z, sm, q⟩ => tA_bind sm q fun us G1 vs H1 ρ1 Z1 x1 sm1 r1 q1 => newT_ok sm1.rl r1 q1

/-! ### slices -/
def cutL {α : Type} (xs : List α) (lo hi : Option Int) : List α := (xs.drop (HT.sIx xs.length 0 lo)).take (HT.sIx xs.length xs.length hi - HT.sIx xs.length 0 lo)
theorem cutV_rep {ρ : List Addr} {Z : Addr → Prop} {H : Hp} {vs : List V} {us : List U} (r : Reps T ρ Z H vs us) (lo hi : Option Int) : Reps T ρ Z H (cutV vs lo hi) (cutL us lo hi) := by
  unfold cutV cutL
  rw [r.length]
  exact (r.drop _).take _
def slU (mu : Bool) (lo hi : Option Int) : U → List Ob → Rs U := fun u G => match u with
  | .str l => if l.length ≤ szL then .ok (.str (cutL l lo hi)) G else .bad
  | .tup l => .ok (.tup (cutL l lo hi)) G
  | u => match lstOf G u with
    | some l => newL mu (cutL l lo hi) G
    | none => .bad
/-- a part of a slice -/
abbrev MO := Sg → List Ob → Rs (Option Int)
def noneO : MO := fun _ G => .ok none G
def someO (m : ME) : MO := fun s G => (m s G).bind fun u G1 => match u with
  | .int i => .ok (some i) G1
  | _ => .bad
def RO (T : Tb) (W : WX) (σ : St) (H : Hp) (ρ : List Addr) (Z : Addr → Prop) (Q : Option Int → Hp → Prop) : Rs (Option Int) → Prop
  | .ok u G' => ∀ H' ρ' Z', Ex ρ Z H ρ' Z' H' → Rl T ρ' Z' G' H' → Q u H'
  | .exc x G' => EEnd T W σ H ρ Z x G'
  | .bad => False
def tO (T : Tb) (W : WX) (m : MO) : TO := fun σ H Q => ∃ s G ρ Z, Sm T σ H s G ρ Z ∧ RO T W σ H ρ Z Q (m s G)
theorem fo_none : PO X none (tO T W noneO) := by
  refine ⟨?_⟩
  have h := (po_none (X := X)).run
  intro pins s σ H Q I
  intro q
  obtain ⟨s', G, ρ, Z, sm, q⟩ := q
  exact h pins s σ H Q I (q H ρ Z Ex.refl sm.rl)
theorem fo_some {e : Expr} {m : ME} (he : PE X e (tE T W m)) : PO X (some e) (tO T W (someO m)) := by
  refine ⟨?_⟩
  have h := (po_some he).run
  intro pins s σ H Q I q
  refine h pins s σ H Q I ?_
  obtain ⟨s', G, ρ, Z, sm, q⟩ := q
  refine ⟨s', G, ρ, Z, sm, ?_⟩
  unfold someO at q
  cases e1 : m s' G with
  | bad => rw [e1] at q; exact q
  | exc x G' => rw [e1] at q; exact q
  | ok u G' =>
    rw [e1] at q
    intro v H' ρ' Z' x rl r
    simp only [Rs.bind] at q
    split at q
    · exact ⟨_, r.inv_int, q H' ρ' Z' x rl⟩
    · exact q.elim
def slM (mu : Bool) (a : ME) (lo hi : MO) : ME := fun s G => (a s G).bind fun u G1 => (lo s G1).bind fun i G2 => (hi s G2).bind fun j G3 => slU mu i j u G3
theorem tO_bind {m : MO} {f : Option Int → List Ob → Rs U} {Q : VK} {k : Option Int → Hp → Prop} {σ : St} {H : Hp} {s : Sg} {G : List Ob} {ρ : List Addr} {Z : Addr → Prop} (sm : Sm T σ H s G ρ Z) (h : RE T W σ H ρ Z Q ((m s G).bind f))
    (hk : ∀ u G' H' ρ' Z', Ex ρ Z H ρ' Z' H' → Sm T σ H' s G' ρ' Z' → RE T W σ H' ρ' Z' Q (f u G') → k u H') : tO T W m σ H k := by
  refine ⟨s, G, ρ, Z, sm, ?_⟩
  cases e : m s G with
  | ok u G' =>
    rw [e] at h
    exact fun H' ρ' Z' x rl => hk u G' H' ρ' Z' x (sm.ex x rl) (RE.ex h x)
  | exc x G' => rw [e] at h; exact h
  | bad => rw [e] at h; exact h
abbrev rSlAll (K : PySem.W.Frag) : V → Option Int → Option Int → Hp → VK → Prop := fun x lo hi H Q => rSlS x lo hi H Q ∨ rSlA K x lo hi H Q ∨ rSlL K x lo hi H Q
theorem sl_all : SlR X (rSlAll X.K) := SlR.or sl_str (SlR.or sl_tupA sl_list)
theorem cutS_eq (l : List Nat) (lo hi : Option Int) : cutS (SS l) lo hi = SS (cutL l lo hi) := by
  unfold cutS cutL
  rw [tl_SS, strLen]
theorem fe_slice {mu : Bool} {lo hi : Option Expr} {ml mh : MO} {p2 : Pos} (hT : X.K = T.K) (ha : PE X a (tE T W ma)) (hl : PO X lo (tO T W ml)) (hh : PO X hi (tO T W mh)) : PE X (.Subscript a (.Slice lo hi none p2) pos) (tE T W (slM mu ma ml mh)) :=
  PE.imp (pe_slice sl_all ha hl hh) fun σ H Q ⟨s, G, ρ, Z, sm, q⟩ => by
    refine tE_bind sm q fun u G1 x H1 ρ1 Z1 x1 sm1 r1 q1 => ?_
    refine tO_bind sm1 q1 fun i G2 H2 ρ2 Z2 x2 sm2 q2 => ?_
    refine tO_bind sm2 q2 fun j G3 H3 ρ3 Z3 x3 sm3 q3 => ?_
    have r3 := (r1.ex sm1.rl.zm x2).ex sm2.rl.zm x3
    unfold slU at q3
    split at q3
    · rename_i l
      by_cases z : l.length ≤ szL
      · rw [if_pos z] at q3
        refine .inl ⟨SS l, r3.inv_str, by rw [strLen, szL_eq]; exact z, ?_⟩
        rw [cutS_eq]
        exact q3 _ H3 ρ3 Z3 Ex.refl sm3.rl (Rep.ss _)
      · rw [if_neg z] at q3
        exact q3.elim
    · rename_i l
      obtain ⟨p, vs, rfl, h1, q4⟩ := r3.inv_tup
      refine .inr (.inl ⟨p, vs, rfl, hT ▸ h1, fun hw => ?_, fun hw p' hp => ?_⟩)
      · refine q3 _ H3 ρ3 Z3 Ex.refl sm3.rl (.tup h1 ?_)
        have e : cutL l i j = l := by
          unfold cutL
          rw [← q4.length, hw.1, hw.2, List.drop_zero, Nat.sub_zero, q4.length, List.take_length]
        rw [e]
        exact q4
      · exact q3 _ _ ρ3 Z3 (ex_new hp) (sm3.rl.new hp) (.tup (SqT.of upd_same) ((cutV_rep q4 i j).ex sm3.rl.zm (ex_new hp)))
    · split at q3
      · rename_i l e
        obtain ⟨p, vs, rfl, h1, q4⟩ := lstOf_at sm3.rl r3 e
        exact .inr (.inr ⟨p, vs, rfl, hT ▸ h1, (newL_ok sm3.rl (cutV_rep q4 i j) q3).2⟩)
      · exact q3.elim
end
end FL

/-! FL6: side conditions by the syntax's head. -/
namespace FL
open PySem L2
def noStar : Expr → Bool
  | .Starred .. => false
  | _ => true
theorem star_cons {a : Expr} {es : List Expr} {env : Env} (h : noStar a = true) : starEach (a :: es) env = (false, eval a env) :: starEach es env := by
  cases a <;> first | rfl | (simp [noStar] at h)
theorem star_any {es : List Expr} {env : Env} {pos : Pos} (h : es.all noStar = true) : (backTo pos (starEach es env)).any (·.1) = false := by
  induction es with
  | nil => rfl
  | cons a r ih =>
    rw [List.all_cons, Bool.and_eq_true] at h
    rw [star_cons h.1]
    show (false || (backTo pos (starEach r env)).any (·.1)) = false
    rw [ih h.2]
    rfl
theorem star_all {es : List Expr} {env : Env} {pos : Pos} (h : es.all noStar = true) : (backTo pos (starEach es env)).all (fun x => !x.1) = true := by
  induction es with
  | nil => rfl
  | cons a r ih =>
    rw [List.all_cons, Bool.and_eq_true] at h
    rw [star_cons h.1]
    show (true && (backTo pos (starEach r env)).all (fun x => !x.1)) = true
    rw [ih h.2]
    rfl
/-- a receiver that is no call of a name without arguments -/
def plainRecv : Expr → Bool
  | .Call _ [] _ _ => false
  | _ => true
theorem attrBase {o : Expr} {f : Str} {env : Env} {w : Sem Value} (h : plainRecv o = true) : attributeBase o f env w = w := by
  cases o with
  | Call g as ks p =>
    cases as with
    | nil => simp [plainRecv] at h
    | cons a r => cases g <;> rfl
  | _ => rfl
/-- a test whose truth is asked of its value -/
def plainTest : Expr → Bool
  | .UnaryOp .Not _ _ => false
  | .BoolOp .. => false
  | .IfExp .. => false
  | .Compare .. => false
  | _ => true
theorem plain_test {a : Expr} {env : Env} (h : plainTest a = true) : ∀ whole, isTrue a env whole = (do let v ← whole; standAt a.pos; holding [v] (truthy v)) := by
  intro whole
  cases a with
  | UnaryOp op x p => cases op <;> first | rfl | (simp [plainTest] at h)
  | BoolOp _ _ _ => simp [plainTest] at h
  | IfExp _ _ _ _ => simp [plainTest] at h
  | Compare _ _ _ _ => simp [plainTest] at h
  | _ => rfl
/-- no comprehension -/
def noComp : Expr → Bool
  | .ListComp .. => false
  | .SetComp .. => false
  | .DictComp .. => false
  | _ => true
theorem swaps_no {e : Expr} {t : Option Expr} {l : Nat} {env : Env} (h : noComp e = true) : swapsWith e t l env = pure false := by
  cases e <;> first | rfl | (simp [noComp] at h)
def notName : Expr → Bool
  | .Name .. => false
  | _ => true
theorem swaps_other {e t : Expr} {l : Nat} {env : Env} (h : notName t = true) : swapsWith e (some t) l env = pure false := by
  cases e <;> first | rfl | (cases t <;> first | rfl | (simp [notName] at h))
theorem swaps_sole {e t : Expr} {l : Nat} {env : Env} (h : notName t = true) : swapsWithSole [t] e l env = pure false := swaps_other h
/-- no set display -/
def noSet : Expr → Bool
  | .Set .. => false
  | _ => true
theorem folded_no {e : Expr} {env : Env} (h : noSet e = true) : ∀ x, foldedSetIterable e env x = pure x := by
  intro x
  cases e <;> first | rfl | (simp [noSet] at h)
theorem marks_no {e : Expr} {op : CmpOp} (h : noSet e = true) : behindInMarks op e = false := by
  cases e <;> first | rfl | (simp [noSet] at h)
/-- an index that is no slice -/
def noSlice : Expr → Bool
  | .Slice .. => false
  | _ => true
theorem plainIx {e : Expr} (h : noSlice e = true) : PlainIx e := by
  intro o i
  cases e <;> first | rfl | (simp [noSlice] at h)
def notTT : Expr → Expr → Bool
  | .Tuple .., .Tuple .. => false
  | .List .., .Tuple .. => false
  | _, _ => true
theorem swapped_no {t v : Expr} {env : Env} (h : notTT t v = true) : swappedStores [t] v env = pure none := by
  cases t <;> cases v <;> first | rfl | (simp [notTT] at h)
/-- a target that is no starred one -/
theorem assign_one {t : Expr} {env : Env} (h : noStar t = true) : (assignEach [t] env).map (·.2) = [assign t env] := by
  cases t <;> first | rfl | (simp [noStar] at h)
theorem assign_cons {t : Expr} {ts : List Expr} {env : Env} (h : noStar t = true) : assignEach (t :: ts) env = (false, assign t env) :: assignEach ts env := by
  cases t <;> first | rfl | (simp [noStar] at h)
theorem assign_len {env : Env} : ∀ {ts : List Expr}, ts.all noStar = true → (assignEach ts env).length = ts.length
  | [], _ => rfl
  | t :: ts, h => by
    rw [List.all_cons, Bool.and_eq_true] at h
    rw [assign_cons h.1, List.length_cons, List.length_cons, assign_len h.2]
theorem assign_idx {env : Env} : ∀ {ts : List Expr}, ts.all noStar = true → (assignEach ts env).findIdx? (·.1) = none
  | [], _ => rfl
  | t :: ts, h => by
    rw [List.all_cons, Bool.and_eq_true] at h
    rw [assign_cons h.1, List.findIdx?_cons]
    simp [assign_idx h.2]
theorem call_eval {o : Expr} {m : Str} {apos pos : Pos} {es : List Expr} {env : Env} (h1 : plainRecv o = true) (h2 : es.all noStar = true) (h3 : es.length < 30) (h4 : (apos.endLine == pos.line) = true) :
    eval (.Call (.Attribute o m apos) es [] pos) env = (do
      let ov ← eval o env
      standAt apos.atName
      let (f, first) ← holding [ov] (getMethod ov m (do return (← importBound o env).getD true))
      callWith pos f first (backTo pos (starEach es env)) (backToKw pos (keywordEach [] env))) := by
  have e1 : eval (.Call (.Attribute o m apos) es [] pos) env = (do
      let ov ← attributeBase o m env (eval o env)
      standAt apos.atName
      methodCall o m apos pos env ov (es.length + ([] : List Keyword).length) (backTo pos (starEach es env)) (backToKw pos (keywordEach [] env))) := rfl
  have hform : methodCallForm (es.length + ([] : List Keyword).length) (backTo pos (starEach es env)) (backToKw pos (keywordEach [] env)) = true := by
    unfold methodCallForm
    rw [star_all h2]
    have : es.length + 0 + 0 < 30 := by omega
    simp [backToKw, keywordEach]
    omega
  have hpos : methodCallPos true o env apos pos = pure pos := by unfold methodCallPos; simp [h4]
  rw [e1, attrBase h1]
  unfold methodCall
  rw [hform, hpos]
  rfl
end FL

/-! FL7: calls of defs, methods, classes; attributes. -/
namespace FL
open PySem L2 PyProof.Rows
abbrev RunD := List U → List Ob → Rs U
/-- what a def's result promises -/
def RD (T : Tb) (H : Hp) (ρ : List Addr) (Z : Addr → Prop) (Q : VK) (E : XK) : Rs U → Prop
  | .ok u G' => ∀ v H' ρ' Z', Ex ρ Z H ρ' Z' H' → Rl T ρ' Z' G' H' → Rep T ρ' Z' H' v u → Q v H'
  | .exc x G' => ∀ cls d H' ρ' Z', Ex ρ Z H ρ' Z' H' → Rl T ρ' Z' G' H' → ExAt T x cls d H' → E cls d H'
  | .bad => False
/-- a def's promise: it does what the function r does -/
def spD (T : Tb) (n : Nat) (r : RunD) : Sp := fun vs H Q E => ∃ us G ρ Z, Rl T ρ Z G H ∧ Reps T ρ Z H vs us ∧ us.length = n ∧ RD T H ρ Z Q E (r us G)
def arM (n : Nat) (r : RunD) : RunD := fun us G => if us.length = n then r us G else .bad
section
variable {T : Tb} {W : WX} {σ : L2.St} {H : Hp} {ρ : List Addr} {Z : Addr → Prop} {G : List Ob} {s : Sg}
theorem RE.rd {Q : VK} {r : Rs U} (h : RE T W σ H ρ Z Q r) : RD T H ρ Z Q (WE W σ) r := by
  cases r with
  | ok u G' => exact h
  | exc x G' => exact h
  | bad => exact h
theorem RE.sp {Q : VK} {r : RunD} {n : Nat} {us : List U} {vs : List V} (sm : Sm T σ H s G ρ Z) (q : Reps T ρ Z H vs us) (h : RE T W σ H ρ Z Q (arM n r us G)) : spD T n r vs H Q (WE W σ) := by
  unfold arM at h
  by_cases e : us.length = n
  · rw [if_pos e] at h
    exact ⟨us, G, ρ, Z, sm.rl, q, e, h.rd⟩
  · rw [if_neg e] at h
    exact h.elim
/-- the promise weakened: what follows of the ends -/
theorem RD.imp {Q Q' : VK} {E E' : XK} {r : Rs U} (h : RD T H ρ Z Q E r) (hq : ∀ v H', Q v H' → Q' v H') (he : ∀ c d H', E c d H' → E' c d H') : RD T H ρ Z Q' E' r := by
  cases r with
  | ok u G' => exact fun v H' ρ' Z' x rl r => hq _ _ (h v H' ρ' Z' x rl r)
  | exc x G' => exact fun c d H' ρ' Z' y rl r => he _ _ _ (h c d H' ρ' Z' y rl r)
  | bad => exact h
end

/-! ### a def that is called -/
section
variable {X : Cx} {T : Tb} {W : WX} {k n : Nat} {f C : Addr} {fd : FuncData} {ps : List Str} {r : RunD} {x m : Str} {p pos apos : Pos} {e o : Expr} {es : List Expr} {mas : MA} {mo : ME}
/-- the def at f as the program has it: it keeps r -/
structure DefOk (P : Program) (w : World) (K : PySem.W.Frag) (mg : Str → Option Value) (base : Heap) (T : Tb) (k : Nat) (f : Addr) (n : Nat) (r : RunD) : Prop where
  ex : ∃ fd ps, Binds K fd ps [] ∧ ps.length = n ∧ FnOk P w K mg base (L2.CX P w) k f fd ps (spD T n r)
def callM (n : Nat) (r : RunD) (mas : MA) : ME := fun s G => (mas s G).bind fun us G1 => arM n r us G1
theorem fe_call (F : DefOk X.prog X.w X.K X.mg X.base T k f n r) (hr : Room k X.A) (hg : Gl X x) (hm : X.mg x = some (.ref f)) (hk : PySem.W.keepIn X.K (.ref f) = true) (tk : Takes X W)
    (ha : PA X (e :: es) (tA T W mas)) (hdb : (x == ("__debug__" : Str)) = false) (hst : (e :: es).all noStar = true) : PE X (.Call (.Name x p) (e :: es) [] pos) (tE T W (callM n r mas)) := by
  obtain ⟨fd, ps, hb, hl, F⟩ := F.ex
  rw [List.all_cons, Bool.and_eq_true] at hst
  refine PE.imp (pe_callSD F hr hg hm hk hb .nil (fun σ => passAt tk σ) ha hdb (star_cons hst.1) (star_any hst.2)) fun σ H Q ⟨s, G, ρ, Z, sm, q⟩ => ?_
  refine tA_bind sm q fun us G1 vs H1 ρ1 Z1 x1 sm1 r1 q1 => ?_
  rw [List.append_nil]
  exact RE.sp sm1 r1 q1

/-- o.m(e, ..), what is raised wished for at the caller's slots -/
def tMethS (C : Addr) (m : Str) (sp : Sp) (E : L2.St → XK) (ta : TE) (t : TA) : TE := fun σ H Q => ta σ H fun x H1 => ∃ a dx fs, x = .ref a ∧ H1 a = some (.ins C dx fs) ∧ fs.lookup m = none ∧ t σ H1 fun vs H2 => sp (x :: vs) H2 Q (E σ)
theorem pe_methS {CX : CXT} {sp : Sp} {E : L2.St → XK} {ta : TE} {t : TA} {pl : Sem Bool} (he : PE X o ta) (c : Cls X.K C) (hm : Meth X.K C m f) (F : FnOk X.prog X.w X.K X.mg X.base CX k f fd ps sp) (hr : Room k X.A) (hb : Binds X.K fd ps []) (hx : ∀ σ, PassesAt CX X σ (E σ)) (ha : PA X (e :: es) t)
    (hst : starEach (e :: es) X.env = (false, eval e X.env) :: starEach es X.env) (hpl : (backTo pos (starEach es X.env)).any (·.1) = false)
    (ht : eval (.Call (.Attribute o m apos) (e :: es) [] pos) X.env = (do
      let ov ← eval o X.env
      standAt apos.atName
      let (f, first) ← holding [ov] (getMethod ov m pl)
      callWith pos f first (backTo pos (starEach (e :: es) X.env)) (backToKw pos (keywordEach [] X.env)))) :
    PE X (.Call (.Attribute o m apos) (e :: es) [] pos) (tMethS C m sp E ta t) := by
  refine ⟨fun pins s σ H Q I h => ?_⟩
  refine PySem.W.methodCall_KW (pl := pl) (thn (he.run pins s σ H _ I h) fun u s1 ⟨x, H1, I1, rx, a, dx, fs, ex, ea, l, q⟩ => ?_) ht
  subst ex
  obtain rfl : u = Value.ref a := rx
  refine getmeth_ok I1 ea c hm l ?_
  refine PySem.W.callWith_K (first := [.ref a]) (h₀ := X.base) I.ok.mod.kin hm.kp (thn (ha.run pos pins s1 σ H1 _ I1 q) fun us s2 ⟨vs, H2, I2, r, q2⟩ => ⟨I2.kIn, ?_⟩) hst hpl
  exact run_fnSD (us := .ref a :: us) (vs := .ref a :: vs) (ds := []) (dvs := []) F hr hb .nil (hx σ) I2 (.cons rfl r) (by rw [List.append_nil]; exact q2)
theorem pe_meth0S {CX : CXT} {sp : Sp} {E : L2.St → XK} {ta : TE} {pl : Sem Bool} (he : PE X o ta) (c : Cls X.K C) (hm : Meth X.K C m f) (F : FnOk X.prog X.w X.K X.mg X.base CX k f fd ps sp) (hr : Room k X.A) (hb : Binds X.K fd ps []) (hx : ∀ σ, PassesAt CX X σ (E σ))
    (ht : eval (.Call (.Attribute o m apos) [] [] pos) X.env = (do
      let ov ← eval o X.env
      standAt apos.atName
      let (f, first) ← holding [ov] (getMethod ov m pl)
      callWith pos f first (backTo pos (starEach [] X.env)) (backToKw pos (keywordEach [] X.env)))) :
    PE X (.Call (.Attribute o m apos) [] [] pos) (tMethS C m sp E ta tNil) := by
  refine ⟨fun pins s σ H Q I h => ?_⟩
  refine PySem.W.methodCall_KW (pl := pl) (thn (he.run pins s σ H _ I h) fun u s1 ⟨x, H1, I1, rx, a, dx, fs, ex, ea, l, q⟩ => ?_) ht
  subst ex
  obtain rfl : u = Value.ref a := rx
  refine getmeth_ok I1 ea c hm l ?_
  exact PySem.W.callWith_K0 (first := [.ref a]) I1.kIn hm.kp (run_fnSD (us := [.ref a]) (vs := [.ref a]) (ds := []) (dvs := []) F hr hb .nil (hx σ) I1 (.cons rfl .nil) (by rw [List.append_nil]; exact q))

/-- the class and the fields of an instance -/
def insOf (G : List Ob) : U → Option (Nat × List (Nat × U))
  | .ins c l => some (c, l)
  | .ref i => match G[i]? with
    | some (.ins c l) => some (c, l)
    | _ => none
  | _ => none
theorem insOf_at {H : Hp} {ρ : List Addr} {Z : Addr → Prop} {G : List Ob} {u : U} {c : Nat} {l : List (Nat × U)} {v : V} (rl : Rl T ρ Z G H) (q : Rep T ρ Z H v u) (e : insOf G u = some (c, l)) :
    ∃ a C dx fv, v = .ref a ∧ H a = some (.ins C dx fv) ∧ T.cls[c]? = some C ∧ RepF T ρ Z H fv l := by
  cases u with
  | ins c' l' =>
    cases e
    cases q with
    | ins h z hc r => exact ⟨_, _, _, _, rfl, h, hc, r⟩
  | ref i =>
    obtain ⟨a, ev, h⟩ := q.inv_ref
    simp only [insOf] at e
    cases g : G[i]? with
    | none => rw [g] at e; cases e
    | some ob =>
      rw [g] at e
      cases ob with
      | ins c' l' =>
        cases e
        obtain ⟨_, C, dx, fv, h2, h3, h4⟩ := rl.ob i a _ h g
        exact ⟨a, C, dx, fv, ev, h2, h3, h4⟩
      | _ => cases e
  | _ => cases e
theorem repF_none {H : Hp} {ρ : List Addr} {Z : Addr → Prop} {k : Nat} {f : Str} (hf : ∀ j, T.att[j]? = some f → j = k) : ∀ {fv : List (Str × V)} {l : List (Nat × U)}, RepF T ρ Z H fv l → l.lookup k = none → fv.lookup f = none
  | _, _, .nil, _ => rfl
  | _, _, .cons (f := g) (k := j) e r t, h => by
    rw [List.lookup_cons] at h ⊢
    by_cases hg : f = g
    · subst hg
      rw [hf j e] at h
      simp at h
    · have : (f == g) = false := by simpa using hg
      rw [this]
      by_cases hk : k = j
      · subst hk; simp at h
      · have : (k == j) = false := by simpa using hk
        rw [this] at h
        exact repF_none hf t h
theorem repF_some {H : Hp} {ρ : List Addr} {Z : Addr → Prop} {k : Nat} {f : Str} {u : U} (hk : T.att[k]? = some f) (hf : ∀ j, T.att[j]? = some f → j = k) : ∀ {fv : List (Str × V)} {l : List (Nat × U)}, RepF T ρ Z H fv l → l.lookup k = some u → ∃ v, fv.lookup f = some v ∧ Rep T ρ Z H v u
  | _, _, .nil, h => by cases h
  | _, _, .cons (f := g) (k := j) (v := v) (u := u') e r t, h => by
    rw [List.lookup_cons] at h ⊢
    by_cases hj : k = j
    · subst hj
      rw [hk] at e
      cases e
      simp at h ⊢
      subst h
      exact r
    · have h1 : (k == j) = false := by simpa using hj
      rw [h1] at h
      have h2 : (f == g) = false := by
        simp only [beq_eq_false_iff_ne, ne_eq]
        intro z
        subst z
        exact hj (hf j e).symm
      rw [h2]
      exact repF_some hk hf t h

/-- the names of attributes are all different -/
def AttOk (T : Tb) : Prop := ∀ (i j : Nat) (f : Str), T.att[i]? = some f → T.att[j]? = some f → i = j
/-- one class's method: its def -/
structure MethOk (P : Program) (w : World) (K : PySem.W.Frag) (mg : Str → Option Value) (base : Heap) (T : Tb) (k : Nat) (c : Nat) (m : Str) (km : Nat) (n : Nat) (r : RunD) : Prop where
  cl : ∃ C f, T.cls[c]? = some C ∧ Cls K C ∧ Meth K C m f ∧ T.att[km]? = some m ∧ DefOk P w K mg base T k f n r
/-- o.m(e, ..): mt c is the method's def in the class c -/
def methM (mt : Nat → Option (Nat × RunD)) (km : Nat) (mo : ME) (mas : MA) : ME := fun s G => (mo s G).bind fun u G1 => match insOf G1 u with
  | some (c, l) => match mt c with
    | some (n, r) => match l.lookup km with
      | none => (mas s G1).bind fun us G2 => arM n r (u :: us) G2
      | some _ => .bad
    | none => .bad
  | none => .bad
theorem PE.ex {ι : Sort _} {e : Expr} {t : ι → TE} (h : ∀ i, PE X e (t i)) : PE X e (fun σ H Q => ∃ i, t i σ H Q) := ⟨fun pins s σ H Q I ⟨i, q⟩ => (h i).run pins s σ H Q I q⟩
/-- the class that a receiver has, for the choice of the rule -/
theorem meth_imp {mt : Nat → Option (Nat × RunD)} {km : Nat} {σ : L2.St} {H : Hp} {Q : VK} (hat : AttOk T) (h0 : ∃ c n r, mt c = some (n, r)) (hmt : ∀ c n r, mt c = some (n, r) → ∃ C, T.cls[c]? = some C ∧ T.att[km]? = some m)
    (q : tE T W (methM mt km mo mas) σ H Q) : ∃ c n r C, mt c = some (n, r) ∧ T.cls[c]? = some C ∧ tMethS C m (spD T n r) (WE W) (tE T W mo) (tA T W mas) σ H Q := by
  obtain ⟨s, G, ρ, Z, sm, q⟩ := q
  unfold methM at q
  cases e : mo s G with
  | bad => rw [e] at q; exact q.elim
  | exc x G1 =>
    obtain ⟨c, n, r, hc⟩ := h0
    obtain ⟨C, g1, g2⟩ := hmt c n r hc
    refine ⟨c, n, r, C, hc, g1, s, G, ρ, Z, sm, ?_⟩
    rw [e] at q ⊢
    exact q
  | ok u G1 =>
    rw [e] at q
    simp only [Rs.bind] at q
    split at q
    · rename_i c l hi
      split at q
      · rename_i n r hc
        obtain ⟨C, g1, g2⟩ := hmt c n r hc
        split at q
        · rename_i hl
          refine ⟨c, n, r, C, hc, g1, s, G, ρ, Z, sm, ?_⟩
          rw [e]
          intro v H1 ρ1 Z1 x1 rl1 r1
          obtain ⟨a, C', dx, fv, ev, h1, h2, h3⟩ := insOf_at rl1 r1 hi
          have eC : C' = C := by rw [g1] at h2; exact (Option.some.inj h2).symm
          subst eC
          refine ⟨a, dx, fv, ev, h1, repF_none (fun j hj => hat j km m hj g2) h3 hl, ?_⟩
          have sm1 := sm.ex x1 rl1
          refine tA_bind sm1 (RE.ex q x1) fun us G2 vs H2 ρ2 Z2 x2 sm2 r2 q2 => ?_
          exact RE.sp sm2 (.cons (r1.ex rl1.zm x2) r2) q2
        · exact q.elim
      · exact q.elim
    · exact q.elim
theorem fe_meth {mt : Nat → Option (Nat × RunD)} {km : Nat} (ho : PE X o (tE T W mo)) (ha : PA X (e :: es) (tA T W mas)) (hat : AttOk T) (h0 : ∃ c n r, mt c = some (n, r)) (hmt : ∀ c n r, mt c = some (n, r) → MethOk X.prog X.w X.K X.mg X.base T k c m km n r) (hr : Room k X.A) (tk : Takes X W)
    (h1 : plainRecv o = true) (h2 : (e :: es).all noStar = true) (h3 : (e :: es).length < 30) (h4 : (apos.endLine == pos.line) = true) : PE X (.Call (.Attribute o m apos) (e :: es) [] pos) (tE T W (methM mt km mo mas)) := by
  have key : ∀ (i : { z : Nat × Nat × RunD × Addr // mt z.1 = some (z.2.1, z.2.2.1) ∧ T.cls[z.1]? = some z.2.2.2 }), PE X (.Call (.Attribute o m apos) (e :: es) [] pos) (tMethS i.1.2.2.2 m (spD T i.1.2.1 i.1.2.2.1) (WE W) (tE T W mo) (tA T W mas)) := fun ⟨⟨c, n, r, C⟩, hc, hC⟩ => by
    obtain ⟨C', f, g1, g2, g3, g4, g5⟩ := (hmt c n r hc).cl
    have eC : C' = C := by rw [hC] at g1; exact (Option.some.inj g1).symm
    subst eC
    obtain ⟨fd, ps, hb, hl, F⟩ := g5.ex
    have h2' := h2
    rw [List.all_cons, Bool.and_eq_true] at h2'
    exact pe_methS ho g2 g3 F hr hb (fun σ => passAt tk σ) ha (star_cons h2'.1) (star_any h2'.2) (call_eval h1 h2 h3 h4)
  refine PE.imp (PE.ex key) fun σ H Q q => ?_
  obtain ⟨c, n, r, C, hc, hC, q⟩ := meth_imp hat h0 (fun c n r hc => let ⟨C, f, g1, g2, g3, g4, g5⟩ := (hmt c n r hc).cl; ⟨C, g1, g4⟩) q
  exact ⟨⟨⟨c, n, r, C⟩, hc, hC⟩, q⟩
theorem tNil_of {σ : L2.St} {H : Hp} {Q : List V → Hp → Prop} (q : tA T W nilA σ H Q) : tNil σ H Q := by
  obtain ⟨s, G, ρ, Z, sm, q⟩ := q
  exact q [] H ρ Z Ex.refl sm.rl .nil
theorem fe_meth0 {mt : Nat → Option (Nat × RunD)} {km : Nat} (ho : PE X o (tE T W mo)) (hat : AttOk T) (h0 : ∃ c n r, mt c = some (n, r)) (hmt : ∀ c n r, mt c = some (n, r) → MethOk X.prog X.w X.K X.mg X.base T k c m km n r) (hr : Room k X.A) (tk : Takes X W)
    (h1 : plainRecv o = true) (h4 : (apos.endLine == pos.line) = true) : PE X (.Call (.Attribute o m apos) [] [] pos) (tE T W (methM mt km mo nilA)) := by
  have key : ∀ (i : { z : Nat × Nat × RunD × Addr // mt z.1 = some (z.2.1, z.2.2.1) ∧ T.cls[z.1]? = some z.2.2.2 }), PE X (.Call (.Attribute o m apos) [] [] pos) (tMethS i.1.2.2.2 m (spD T i.1.2.1 i.1.2.2.1) (WE W) (tE T W mo) tNil) := fun ⟨⟨c, n, r, C⟩, hc, hC⟩ => by
    obtain ⟨C', f, g1, g2, g3, g4, g5⟩ := (hmt c n r hc).cl
    have eC : C' = C := by rw [hC] at g1; exact (Option.some.inj g1).symm
    subst eC
    obtain ⟨fd, ps, hb, hl, F⟩ := g5.ex
    exact pe_meth0S ho g2 g3 F hr hb (fun σ => passAt tk σ) (call_eval h1 rfl (by decide) h4)
  refine PE.imp (PE.ex key) fun σ H Q q => ?_
  obtain ⟨c, n, r, C, hc, hC, q⟩ := meth_imp hat h0 (fun c n r hc => let ⟨C, f, g1, g2, g3, g4, g5⟩ := (hmt c n r hc).cl; ⟨C, g1, g4⟩) q
  refine ⟨⟨⟨c, n, r, C⟩, hc, hC⟩, ?_⟩
  obtain ⟨s, G, ρ, Z, sm, q⟩ := q
  refine ⟨s, G, ρ, Z, sm, ?_⟩
  cases e : mo s G with
  | bad => rw [e] at q; exact q
  | exc x G1 => rw [e] at q; exact q
  | ok u G1 =>
    rw [e] at q
    intro v H1 ρ1 Z1 x1 rl1 r1
    obtain ⟨a, dx, fs, ex, ea, l, q2⟩ := q v H1 ρ1 Z1 x1 rl1 r1
    exact ⟨a, dx, fs, ex, ea, l, tNil_of q2⟩

/-! ### attributes -/
/-- o.f: a field, or the property's def in its class -/
def attrM (pt : Nat → Option RunD) (ok : Nat → Bool) (kf : Nat) (mo : ME) : ME := fun s G => (mo s G).bind fun u G1 => match insOf G1 u with
  | some (c, l) => match pt c with
    | some r => r [u] G1
    | none => if ok c then (match l.lookup kf with
      | some w => .ok w G1
      | none => .bad) else .bad
  | none => .bad
structure PropOk (P : Program) (w : World) (K : PySem.W.Frag) (mg : Str → Option Value) (base : Heap) (T : Tb) (k : Nat) (c : Nat) (fn : Str) (r : RunD) : Prop where
  cl : ∃ C p g, T.cls[c]? = some C ∧ Cls K C ∧ PropOf K C fn p g ∧ DefOk P w K mg base T k g 1 r
structure FldOk (K : PySem.W.Frag) (T : Tb) (c : Nat) (fn : Str) : Prop where
  cl : ∃ C, T.cls[c]? = some C ∧ Cls K C ∧ NoAttr K C fn
theorem PE.or {e : Expr} {t t' : TE} (h : PE X e t) (h' : PE X e t') : PE X e (fun σ H Q => t σ H Q ∨ t' σ H Q) := ⟨fun pins s σ H Q I q => q.elim (h.run pins s σ H Q I) (h'.run pins s σ H Q I)⟩
def noExc : Rs U → Rs U
  | .ok u G => .ok u G
  | _ => .bad
def attrP (r : RunD) : RunD := fun us G => noExc (arM 1 r us G)
theorem attrP_sp {r : RunD} {σ : L2.St} {H : Hp} {ρ : List Addr} {Z : Addr → Prop} {G : List Ob} {s : Sg} {Q : VK} {us : List U} {vs : List V} (sm : Sm T σ H s G ρ Z) (q : Reps T ρ Z H vs us) (h : RE T W σ H ρ Z Q (attrP r us G)) : spD T 1 r vs H Q E0 := by
  unfold attrP arM at h
  by_cases e : us.length = 1
  · rw [if_pos e] at h
    refine ⟨us, G, ρ, Z, sm.rl, q, e, ?_⟩
    cases e2 : r us G with
    | ok u G' => rw [e2] at h; exact h
    | exc x G' => rw [e2] at h; exact h.elim
    | bad => rw [e2] at h; exact h.elim
  · rw [if_neg e] at h
    exact h.elim
theorem fe_attr {fn : Str} {pt : Nat → Option RunD} {ok : Nat → Bool} {kf : Nat} (ho : PE X o (tE T W mo)) (hT : X.K = T.K) (hat : AttOk T) (hf : T.att[kf]? = some fn) (hpt : ∀ c r, pt c = some r → PropOk X.prog X.w X.K X.mg X.base T k c fn r)
    (hfld : ∀ c, ok c = true → FldOk X.K T c fn) (hr : Room (k + 1) X.A) (h1 : plainRecv o = true) : PE X (.Attribute o fn pos) (tE T W (attrM (fun c => (pt c).map attrP) ok kf mo)) := by
  have key : ∀ (i : { z : Nat × RunD × Addr // pt z.1 = some z.2.1 ∧ T.cls[z.1]? = some z.2.2 }), PE X (.Attribute o fn pos) (tProp i.1.2.2 (spD T 1 i.1.2.1) [] E0 (tE T W mo)) := fun ⟨⟨c, r, C⟩, hc, hC⟩ => by
    obtain ⟨C', p, g, g1, g2, g3, g5⟩ := (hpt c r hc).cl
    have eC : C' = C := by rw [hC] at g1; exact (Option.some.inj g1).symm
    subst eC
    obtain ⟨fd, ps, hb, hl, F⟩ := g5.ex
    exact pe_prop ho g2 g3 F hr hb .nil passL (attrBase h1)
  refine PE.imp (PE.or (pe_fld ho (attrBase h1)) (PE.ex key)) fun σ H Q ⟨s, G, ρ, Z, sm, q⟩ => ?_
  unfold attrM at q
  cases e : mo s G with
  | bad => rw [e] at q; exact q.elim
  | exc x G1 =>
    rw [e] at q
    refine .inl ⟨s, G, ρ, Z, sm, ?_⟩
    rw [e]
    exact q
  | ok u G1 =>
    rw [e] at q
    simp only [Rs.bind] at q
    split at q
    · rename_i c l hi
      split at q
      · rename_i r hr'
        cases hp : pt c with
        | none => rw [hp] at hr'; cases hr'
        | some r0 =>
          rw [hp] at hr'
          cases hr'
          obtain ⟨C, p, g, g1, g2, g3, g5⟩ := (hpt c r0 hp).cl
          refine .inr ⟨⟨⟨c, r0, C⟩, hp, g1⟩, s, G, ρ, Z, sm, ?_⟩
          rw [e]
          intro v H1 ρ1 Z1 x1 rl1 r1
          obtain ⟨a, C', dx, fv, ev, h1, h2, h3⟩ := insOf_at rl1 r1 hi
          have eC : C' = C := by rw [g1] at h2; exact (Option.some.inj h2).symm
          subst eC
          subst ev
          exact ⟨a, dx, fv, rfl, h1, attrP_sp (sm.ex x1 rl1) (.cons r1 .nil) (RE.ex q x1)⟩
      · rename_i hr'
        have hp : pt c = none := by
          cases hp : pt c with
          | none => rfl
          | some r0 => rw [hp] at hr'; cases hr'
        by_cases hok : ok c = true
        case neg => rw [if_neg hok] at q; exact q.elim
        rw [if_pos hok] at q
        split at q
        · rename_i w hl
          refine .inl ⟨s, G, ρ, Z, sm, ?_⟩
          rw [e]
          intro v H1 ρ1 Z1 x1 rl1 r1
          obtain ⟨a, C', dx, fv, ev, h1, h2, h3⟩ := insOf_at rl1 r1 hi
          obtain ⟨C, g1, g2, g3⟩ := (hfld c hok).cl
          have eC : C' = C := by rw [g1] at h2; exact (Option.some.inj h2).symm
          subst eC
          obtain ⟨v', hv, rv⟩ := repF_some hf (fun j hj => hat j kf fn hj hf) h3 hl
          exact ⟨a, C', dx, fv, v', ev, h1, g2, g3, hv, q v' H1 ρ1 Z1 x1 rl1 rv⟩
        · exact q.elim
    · exact q.elim

/-! ### a class that is made -/
structure MakeOk (P : Program) (w : World) (K : PySem.W.Frag) (mg : Str → Option Value) (base : Heap) (T : Tb) (k : Nat) (c : Nat) (x : Str) (n : Nat) (r : RunD) : Prop where
  cl : ∃ C f, T.cls[c]? = some C ∧ mg x = some (.ref C) ∧ Mk K C f ∧ DefOk P w K mg base T k f n r
def madeU (c : Nat) (n : Nat) (r : RunD) : RunD := fun us G => (arM n r (.ref G.length :: us) (G ++ [.ins c []])).bind fun u G2 => match u with
  | .non => .ok (.ref G.length) G2
  | _ => .bad
def makeM (c n : Nat) (r : RunD) (mas : MA) : ME := fun s G => (mas s G).bind fun us G1 => madeU c n r us G1
theorem made_ok {σ : L2.St} {H : Hp} {ρ : List Addr} {Z : Addr → Prop} {G : List Ob} {s : Sg} {Q : VK} {us : List U} {vs : List V} {c : Nat} (sm : Sm T σ H s G ρ Z) (q : Reps T ρ Z H vs us) (hC : T.cls[c]? = some C) (h : RE T W σ H ρ Z Q (madeU c n r us G)) :
    ∀ x dx, H x = none → H dx = none → dx ≠ x → spD T n r (.ref x :: vs) (upd (upd H dx (.own x)) x (.ins C dx [])) (fun v H2 => v = .non ∧ Q (.ref x) H2) (WE W σ) := by
  intro x dx hx hdx hne
  have x1 : Ex ρ Z H ρ Z (upd H dx (.own x)) := ex_new hdx
  have rl1 := sm.rl.new (o := .own x) hdx
  have hx1 : upd H dx (.own x) x = none := by rw [upd_ne (Ne.symm hne)]; exact hx
  have x2 : Ex ρ Z (upd H dx (.own x)) (ρ ++ [x]) (zOr Z x) (upd (upd H dx (.own x)) x (.ins C dx [])) := ex_cell rl1 hx1
  have rl2 : Rl T (ρ ++ [x]) (zOr Z x) (G ++ [.ins c []]) (upd (upd H dx (.own x)) x (.ins C dx [])) := rl1.cell hx1 trivial ⟨.inr rfl, C, dx, [], upd_same, hC, .nil⟩
  have hget : (ρ ++ [x])[G.length]? = some x := by
    rw [List.getElem?_append_right (by rw [sm.rl.len]; exact Nat.le_refl _)]
    simp [sm.rl.len]
  unfold madeU at h
  have h2 := RE.ex h (x1.trans x2)
  unfold arM at h2
  by_cases e : (U.ref G.length :: us).length = n
  · rw [if_pos e] at h2
    refine ⟨.ref G.length :: us, G ++ [.ins c []], ρ ++ [x], zOr Z x, rl2, .cons (.ref hget) ((q.ex sm.rl.zm x1).ex rl1.zm x2), e, ?_⟩
    cases e2 : r (.ref G.length :: us) (G ++ [.ins c []]) with
    | bad => rw [e2] at h2; exact h2.elim
    | exc y G' => rw [e2] at h2; exact h2
    | ok u G' =>
      rw [e2] at h2
      simp only [Rs.bind] at h2
      intro v H' ρ' Z' x3 rl3 r3
      split at h2
      · refine ⟨r3.inv_non, h2 _ H' ρ' Z' x3 rl3 (.ref ?_)⟩
        obtain ⟨t, et⟩ := x3.pre
        exact pre_get et hget
      · exact h2.elim
  · rw [if_neg e] at h2
    exact h2.elim
theorem run_makeS {CX : CXT} {sp : Sp} {E : XK} {pins : List (Addr × Obj)} {σ : L2.St} {H : Hp} {s : Shared} {Q : VK} {us : List Value} {vs : List V} (M : Mk X.K C f) (F : FnOk X.prog X.w X.K X.mg X.base CX k f fd ps sp) (hr : Room (k + 1) X.A) (hb : Binds X.K fd ps [])
    (hx : PassesAt CX X σ E) (I : Inv X pins σ H s) (r : Vals vs us)
    (h : ∀ x dx, H x = none → H dx = none → dx ≠ x → sp (.ref x :: vs) (upd (upd H dx (.own x)) x (.ins C dx [])) (fun v H2 => v = .non ∧ Q (.ref x) H2) E) :
    wpAny (model X.prog X.w) X.A (call (.ref C) us) (EP X pins σ Q) X.xe s := by
  have hq := h (s.heap.objs.size + 1) s.heap.objs.size (I.hok.fresh (Nat.le_succ _)) (I.hok.fresh (Nat.le_refl _)) (Nat.ne_of_lt (Nat.lt_succ_self _))
  have I2 := Inv.made (C := C) I
  have r2 : Vals (V.ref (s.heap.objs.size + 1) :: vs) (Value.ref (s.heap.objs.size + 1) :: us) := .cons rfl r
  have hl : (Value.ref (s.heap.objs.size + 1) :: us ++ []).length = ps.length := by
    have e := r2.length
    rw [F.len _ _ _ _ hq] at e
    simpa using e.symm
  have hb' := hb _ (Value.ref (s.heap.objs.size + 1) :: us) I2.kIn hl
  rw [List.append_nil] at hb'
  refine wpAny_call (make_map (f := f) I.kIn M.makes M.init (beq_iff_eq.mp M.fn) (codeAny_mono (F.run _ X.stack _ _ ⟨Value.ref (s.heap.objs.size + 1) :: us, []⟩ (Value.ref (s.heap.objs.size + 1) :: us) _ _ E (hr.make C us [])
    (I2.env0.make C us []) hb' r2 hq) fun r s' hq' => ?_))
  cases r with
  | error e => exact hx pins _ _ e s' I2 hq'
  | ok fl =>
    cases fl with
    | ret u =>
      obtain ⟨v, H', I3, rv, ev, q3⟩ := I2.after hq'
      subst ev
      exact ⟨rv, ⟨V.ref (s.heap.objs.size + 1), H', I3, rfl, q3⟩⟩
    | next => exact False.elim hq'
    | brk => exact False.elim hq'
    | cont => exact False.elim hq'
theorem fe_make {c : Nat} (M : MakeOk X.prog X.w X.K X.mg X.base T k c x n r) (hr : Room (k + 1) X.A) (hg : Gl X x) (tk : Takes X W) (ha : PA X (e :: es) (tA T W mas)) (hdb : (x == ("__debug__" : Str)) = false) (hst : (e :: es).all noStar = true) :
    PE X (.Call (.Name x p) (e :: es) [] pos) (tE T W (makeM c n r mas)) := by
  obtain ⟨C, f, g1, g2, g3, g4⟩ := M.cl
  obtain ⟨fd, ps, hb, hl, F⟩ := g4.ex
  rw [List.all_cons, Bool.and_eq_true] at hst
  refine ⟨fun pins s σ H Q I h => ?_⟩
  refine wpAny_Call_Name_kw (ld_glob I hg g2 ?_ hdb)
  obtain ⟨s', G, ρ, Z, sm, q⟩ := h
  have q' : tA T W mas σ H fun vs H1 => ∀ x dx, H1 x = none → H1 dx = none → dx ≠ x → spD T n r (.ref x :: vs) (upd (upd H1 dx (.own x)) x (.ins C dx [])) (fun v H2 => v = .non ∧ Q (.ref x) H2) (WE W σ) :=
    tA_bind sm q fun us G1 vs H1 ρ1 Z1 x1 sm1 r1 q1 => made_ok sm1 r1 g1 (RE.ex q1 Ex.refl)
  exact PySem.W.callWith_K (h₀ := X.base) I.ok.mod.kin g3.kp (thn (ha.run pos pins s σ H _ I q') fun us s1 ⟨vs, H1, I1, r, q⟩ => ⟨I1.kIn, run_makeS g3 F hr hb (passAt tk σ) I1 r q⟩) (star_cons hst.1) (star_any hst.2)
theorem fe_make0 {c : Nat} (M : MakeOk X.prog X.w X.K X.mg X.base T k c x n r) (hr : Room (k + 1) X.A) (hg : Gl X x) (tk : Takes X W) (hdb : (x == ("__debug__" : Str)) = false) :
    PE X (.Call (.Name x p) [] [] pos) (tE T W (makeM c n r nilA)) := by
  obtain ⟨C, f, g1, g2, g3, g4⟩ := M.cl
  obtain ⟨fd, ps, hb, hl, F⟩ := g4.ex
  refine ⟨fun pins s σ H Q I h => ?_⟩
  refine wpAny_Call_Name_kw (ld_glob I hg g2 ?_ hdb)
  obtain ⟨s', G, ρ, Z, sm, q⟩ := h
  exact PySem.W.callWith_K0 I.kIn g3.kp (run_makeS (us := []) (vs := []) g3 F hr hb (passAt tk σ) I .nil (made_ok sm .nil g1 q))
end
end FL

/-! FL8: built-in functions, types, methods of built-in types. -/
namespace FL
open PySem L2 PyProof.Rows
section
variable {X : Cx} {T : Tb} {W : WX} {id : String} {x : Str} {p pos apos : Pos} {e o : Expr} {es : List Expr} {mas : MA} {mo : ME} {r : List V → Hp → VK → Prop} {f : RunD}
def OC (T : Tb) (W : WX) (f : RunD) (r : List V → Hp → VK → Prop) : Prop :=
  ∀ (σ : L2.St) (H : Hp) (s : Sg) (G : List Ob) (ρ : List Addr) (Z : Addr → Prop) (vs : List V) (us : List U) (Q : VK), Sm T σ H s G ρ Z → Reps T ρ Z H vs us → RE T W σ H ρ Z Q (f us G) → r vs H Q
def preM (f : RunD) (mas : MA) : ME := fun s G => (mas s G).bind f
theorem OC.top (h : OC T W f r) {σ : L2.St} {H : Hp} {Q : VK} (q : tE T W (preM f mas) σ H Q) : tCB r (tA T W mas) σ H Q := by
  obtain ⟨s, G, ρ, Z, sm, q⟩ := q
  exact tA_bind sm q fun us G1 vs H1 ρ1 Z1 x1 sm1 r1 q1 => h _ _ _ _ _ _ _ _ _ sm1 r1 q1
theorem fe_callB (hc : CallR X (.builtin id) r) (h : OC T W f r) (hg : Gl X x) (hm : X.mg x = none) (hv : bootBuiltins x = some (.builtin id)) (ha : PA X (e :: es) (tA T W mas)) (hn : x ≠ "__name__") (hdb : (x == ("__debug__" : Str)) = false) (hst : (e :: es).all noStar = true) :
    PE X (.Call (.Name x p) (e :: es) [] pos) (tE T W (preM f mas)) := by
  rw [List.all_cons, Bool.and_eq_true] at hst
  exact PE.imp (pe_callB hc hg hm hv ha hn hdb (star_cons hst.1) (star_any hst.2)) fun _ _ _ q => h.top q
theorem fe_callTy {n : String} (hc : CallR X (.type n) r) (h : OC T W f r) (hg : Gl X x) (hm : X.mg x = none) (hv : bootBuiltins x = some (.type n)) (ha : PA X (e :: es) (tA T W mas)) (hn : x ≠ "__name__") (hdb : (x == ("__debug__" : Str)) = false) (hst : (e :: es).all noStar = true) :
    PE X (.Call (.Name x p) (e :: es) [] pos) (tE T W (preM f mas)) := by
  rw [List.all_cons, Bool.and_eq_true] at hst
  exact PE.imp (pe_callTy hc hg hm hv ha hn hdb (star_cons hst.1) (star_any hst.2)) fun _ _ _ q => h.top q

theorem Reps.inv1 {ρ : List Addr} {Z : Addr → Prop} {H : Hp} {vs : List V} {u : U} (h : Reps T ρ Z H vs [u]) : ∃ v, vs = [v] ∧ Rep T ρ Z H v u := by
  cases h with
  | cons a b => cases b; exact ⟨_, rfl, a⟩
theorem Reps.inv2 {ρ : List Addr} {Z : Addr → Prop} {H : Hp} {vs : List V} {u w : U} (h : Reps T ρ Z H vs [u, w]) : ∃ v v', vs = [v, v'] ∧ Rep T ρ Z H v u ∧ Rep T ρ Z H v' w := by
  cases h with
  | cons a b =>
    cases b with
    | cons c d => cases d; exact ⟨_, _, rfl, a, c⟩

/-! ### len -/
def lenU : RunD := fun us G => match us with
  | [.str l] => if l.length ≤ szL then .ok (.int l.length) G else .bad
  | [u] => match seqOf G u with
    | some l => .ok (.int l.length) G
    | none => .bad
  | _ => .bad
abbrev rLen (K : PySem.W.Frag) : List V → Hp → VK → Prop := fun xs H Q => ∃ x n, xs = [x] ∧ LenV K x H n ∧ Q (.int n) H
theorem oc_len (hT : X.K = T.K) : OC T W lenU (rLen X.K) := by
  intro σ H s G ρ Z vs us Q sm r1 h
  unfold lenU at h
  split at h
  · rename_i l
    by_cases z : l.length ≤ szL
    · rw [if_pos z] at h
      obtain ⟨v, rfl, rv⟩ := r1.inv1
      refine ⟨v, l.length, rfl, ?_, h _ H ρ Z Ex.refl sm.rl (.int _)⟩
      rw [rv.inv_str]
      show (SS l).length ≤ sizeLine ∧ l.length = (SS l).length
      rw [strLen, szL_eq]
      exact ⟨z, rfl⟩
    · rw [if_neg z] at h
      exact h.elim
  · split at h
    · rename_i l e
      obtain ⟨v, rfl, rv⟩ := r1.inv1
      obtain ⟨a, ws, rfl, h1, q1⟩ := seqOf_at (σ := σ) sm.rl rv e
      refine ⟨.ref a, l.length, rfl, ?_, h _ H ρ Z Ex.refl sm.rl (.int _)⟩
      rcases h1 with h1 | h1
      · exact .inl ⟨ws, hT ▸ h1, q1.length.symm⟩
      · exact .inr ⟨ws, hT ▸ h1, q1.length.symm⟩
    · exact h.elim
  · exact h.elim

/-! ### ints -/
def absU : RunD := fun us G => match us with
  | [.int i] => .ok (.int (if i < 0 then -i else i)) G
  | _ => .bad
theorem oc_abs : OC T W absU (fun xs H Q => ∃ i, xs = [.int i] ∧ Q (.int (if i < 0 then -i else i)) H) := by
  intro σ H s G ρ Z vs us Q sm r1 h
  unfold absU at h
  split at h
  · obtain ⟨v, rfl, rv⟩ := r1.inv1
    exact ⟨_, by rw [rv.inv_int], h _ H ρ Z Ex.refl sm.rl (.int _)⟩
  · exact h.elim
def intU1 : RunD := fun us G => match us with
  | [.int i] => .ok (.int i) G
  | [.bl k] => .ok (.int (if k then 1 else 0)) G
  | [.str l] => match PySem.intText? (SS l) with
    | some n => if l.length ≤ 640 then .ok (.int n) G else .bad
    | none => .bad
  | _ => .bad
abbrev rInt : List V → Hp → VK → Prop := fun xs H Q => ((∃ i, xs = [.int i] ∧ Q (.int i) H) ∨ ∃ k, xs = [.bl k] ∧ Q (.int (if k then 1 else 0)) H) ∨ ∃ a n, xs = [.str a] ∧ PySem.intText? a = some n ∧ a.length ≤ 640 ∧ Q (.int n) H
theorem cr_int : CallR X (.type "int") rInt := CallR.or call_int1 call_int_str
theorem oc_int : OC T W intU1 rInt := by
  intro σ H s G ρ Z vs us Q sm r1 h
  unfold intU1 at h
  split at h
  · obtain ⟨v, rfl, rv⟩ := r1.inv1
    exact .inl (.inl ⟨_, by rw [rv.inv_int], h _ H ρ Z Ex.refl sm.rl (.int _)⟩)
  · obtain ⟨v, rfl, rv⟩ := r1.inv1
    exact .inl (.inr ⟨_, by rw [rv.inv_bl], h _ H ρ Z Ex.refl sm.rl (.int _)⟩)
  · rename_i l
    split at h
    · rename_i n e
      by_cases z : l.length ≤ 640
      · rw [if_pos z] at h
        obtain ⟨v, rfl, rv⟩ := r1.inv1
        exact .inr ⟨SS l, n, by rw [rv.inv_str], e, by rw [strLen]; exact z, h _ H ρ Z Ex.refl sm.rl (.int _)⟩
      · rw [if_neg z] at h
        exact h.elim
    · exact h.elim
  · exact h.elim
def strU1 : RunD := fun us G => match us with
  | [.int i] => if i.natAbs.log2 < 1920 then .ok (.str (Str.ofString (toString i)).cps.toList) G else .bad
  | _ => .bad
theorem oc_str : OC T W strU1 (fun xs H Q => ∃ i, xs = [.int i] ∧ i.natAbs.log2 < 1920 ∧ Q (.str (toString i)) H) := by
  intro σ H s G ρ Z vs us Q sm r1 h
  unfold strU1 at h
  split at h
  · rename_i i
    by_cases z : i.natAbs.log2 < 1920
    · rw [if_pos z] at h
      obtain ⟨v, rfl, rv⟩ := r1.inv1
      exact ⟨i, by rw [rv.inv_int], z, h _ H ρ Z Ex.refl sm.rl (.str _)⟩
    · rw [if_neg z] at h
      exact h.elim
  · exact h.elim
/-- the ints, bools, texts of a list -/
def intsOf : List U → Option (List Int)
  | [] => some []
  | .int i :: r => (intsOf r).map (i :: ·)
  | _ :: _ => none
def blsOf : List U → Option (List Bool)
  | [] => some []
  | .bl i :: r => (blsOf r).map (i :: ·)
  | _ :: _ => none
def strsOf : List U → Option (List (List Nat))
  | [] => some []
  | .str i :: r => (strsOf r).map (i :: ·)
  | _ :: _ => none
theorem intsOf_eq : ∀ {l : List U} {ns : List Int}, intsOf l = some ns → l = ns.map U.int
  | [], ns, e => by cases e; rfl
  | u :: r, ns, e => by
    cases u with
    | int i =>
      simp only [intsOf] at e
      cases e2 : intsOf r with
      | none => rw [e2] at e; cases e
      | some ms =>
        rw [e2] at e
        cases e
        rw [intsOf_eq e2]
        rfl
    | _ => cases e
theorem blsOf_eq : ∀ {l : List U} {ns : List Bool}, blsOf l = some ns → l = ns.map U.bl
  | [], ns, e => by cases e; rfl
  | u :: r, ns, e => by
    cases u with
    | bl i =>
      simp only [blsOf] at e
      cases e2 : blsOf r with
      | none => rw [e2] at e; cases e
      | some ms =>
        rw [e2] at e
        cases e
        rw [blsOf_eq e2]
        rfl
    | _ => cases e
theorem strsOf_eq : ∀ {l : List U} {ns : List (List Nat)}, strsOf l = some ns → l = ns.map U.str
  | [], ns, e => by cases e; rfl
  | u :: r, ns, e => by
    cases u with
    | str i =>
      simp only [strsOf] at e
      cases e2 : strsOf r with
      | none => rw [e2] at e; cases e
      | some ms =>
        rw [e2] at e
        cases e
        rw [strsOf_eq e2]
        rfl
    | _ => cases e
theorem Reps.bls {ρ : List Addr} {Z : Addr → Prop} {H : Hp} : ∀ {ns : List Bool} {vs : List V}, Reps T ρ Z H vs (ns.map U.bl) → vs = ns.map V.bl
  | [], _, r => by cases r; rfl
  | n :: ns, _, r => by
    cases r with
    | cons a b => rw [a.inv_bl, Reps.bls b]; rfl
theorem Reps.strs {ρ : List Addr} {Z : Addr → Prop} {H : Hp} : ∀ {ns : List (List Nat)} {vs : List V}, Reps T ρ Z H vs (ns.map U.str) → vs = (ns.map SS).map V.str
  | [], _, r => by cases r; rfl
  | n :: ns, _, r => by
    cases r with
    | cons a b => rw [a.inv_str, Reps.strs b]; rfl
theorem Reps.of_strs {ρ : List Addr} {Z : Addr → Prop} {H : Hp} : ∀ (ns : List (List Nat)), Reps T ρ Z H ((ns.map SS).map V.str) (ns.map U.str)
  | [] => .nil
  | n :: ns => .cons (Rep.ss n) (Reps.of_strs ns)
/-! ### all, any, max, min, sum -/
def allU : RunD := fun us G => match us with
  | [u] => match lstOf G u with
    | some l => match blsOf l with
      | some bs => .ok (.bl (bs.all fun b => b)) G
      | none => .bad
    | none => .bad
  | _ => .bad
def anyU : RunD := fun us G => match us with
  | [u] => match lstOf G u with
    | some l => match blsOf l with
      | some bs => .ok (.bl (bs.any fun b => b)) G
      | none => .bad
    | none => .bad
  | _ => .bad
theorem oc_all (hT : X.K = T.K) : OC T W allU (rAll X.K) := by
  intro σ H s G ρ Z vs us Q sm r1 h
  unfold allU at h
  split at h
  · split at h
    · rename_i l e
      split at h
      · rename_i bs eb
        obtain ⟨v, rfl, rv⟩ := r1.inv1
        obtain ⟨a, ws, rfl, h1, q1⟩ := lstOf_at sm.rl rv e
        rw [blsOf_eq eb] at q1
        have e2 := q1.bls
        subst e2
        exact ⟨a, bs, rfl, hT ▸ h1, h _ H ρ Z Ex.refl sm.rl (.bl _)⟩
      · exact h.elim
    · exact h.elim
  · exact h.elim
theorem oc_any (hT : X.K = T.K) : OC T W anyU (rAny X.K) := by
  intro σ H s G ρ Z vs us Q sm r1 h
  unfold anyU at h
  split at h
  · split at h
    · rename_i l e
      split at h
      · rename_i bs eb
        obtain ⟨v, rfl, rv⟩ := r1.inv1
        obtain ⟨a, ws, rfl, h1, q1⟩ := lstOf_at sm.rl rv e
        rw [blsOf_eq eb] at q1
        have e2 := q1.bls
        subst e2
        exact ⟨a, bs, rfl, hT ▸ h1, h _ H ρ Z Ex.refl sm.rl (.bl _)⟩
      · exact h.elim
    · exact h.elim
  · exact h.elim
def maxL : List Int → Int
  | [] => 0
  | [a] => a
  | a :: r => if maxL r > a then maxL r else a
def minL : List Int → Int
  | [] => 0
  | [a] => a
  | a :: r => if minL r < a then minL r else a
theorem maxL_mem : ∀ {l : List Int}, 0 < l.length → maxL l ∈ l
  | [a], _ => by simp [maxL]
  | a :: b :: r, _ => by
    have ih := maxL_mem (l := b :: r) (by simp)
    simp only [maxL]
    split
    · exact List.mem_cons_of_mem _ ih
    · exact List.mem_cons_self
theorem maxL_le : ∀ {l : List Int}, ∀ y ∈ l, y ≤ maxL l
  | [a], y, h => by simp at h; subst h; simp [maxL]
  | a :: b :: r, y, h => by
    have ih := maxL_le (l := b :: r)
    simp only [maxL]
    rcases List.mem_cons.mp h with rfl | h
    · split <;> omega
    · have := ih y h
      split <;> omega
theorem minL_mem : ∀ {l : List Int}, 0 < l.length → minL l ∈ l
  | [a], _ => by simp [minL]
  | a :: b :: r, _ => by
    have ih := minL_mem (l := b :: r) (by simp)
    simp only [minL]
    split
    · exact List.mem_cons_of_mem _ ih
    · exact List.mem_cons_self
theorem minL_le : ∀ {l : List Int}, ∀ y ∈ l, minL l ≤ y
  | [a], y, h => by simp at h; subst h; simp [minL]
  | a :: b :: r, y, h => by
    have ih := minL_le (l := b :: r)
    simp only [minL]
    rcases List.mem_cons.mp h with rfl | h
    · split <;> omega
    · have := ih y h
      split <;> omega
def maxU : RunD := fun us G => match us with
  | [.int i, .int j] => .ok (.int (if j > i then j else i)) G
  | [u] => match lstOf G u with
    | some l => match intsOf l with
      | some ns => if 0 < ns.length then .ok (.int (maxL ns)) G else .bad
      | none => .bad
    | none => .bad
  | _ => .bad
def minU : RunD := fun us G => match us with
  | [.int i, .int j] => .ok (.int (if j < i then j else i)) G
  | [u] => match lstOf G u with
    | some l => match intsOf l with
      | some ns => if 0 < ns.length then .ok (.int (minL ns)) G else .bad
      | none => .bad
    | none => .bad
  | _ => .bad
abbrev rMaxA (K : PySem.W.Frag) : List V → Hp → VK → Prop := fun xs H Q => (∃ i j, xs = [.int i, .int j] ∧ Q (.int (if j > i then j else i)) H) ∨ rMax K xs H Q
abbrev rMinA (K : PySem.W.Frag) : List V → Hp → VK → Prop := fun xs H Q => (∃ i j, xs = [.int i, .int j] ∧ Q (.int (if j < i then j else i)) H) ∨ rMin K xs H Q
theorem cr_maxA (hc : X.calm = true) : CallR X (.builtin "max") (rMaxA X.K) := CallR.or (call_max2 hc) (cr_max hc)
theorem cr_minA (hc : X.calm = true) : CallR X (.builtin "min") (rMinA X.K) := CallR.or (call_min2 hc) (cr_min hc)
theorem oc_max (hT : X.K = T.K) : OC T W maxU (rMaxA X.K) := by
  intro σ H s G ρ Z vs us Q sm r1 h
  unfold maxU at h
  split at h
  · obtain ⟨v, v', rfl, rv, rv'⟩ := r1.inv2
    exact .inl ⟨_, _, by rw [rv.inv_int, rv'.inv_int], h _ H ρ Z Ex.refl sm.rl (.int _)⟩
  · split at h
    · rename_i l e
      split at h
      · rename_i bs eb
        by_cases z : 0 < bs.length
        · rw [if_pos z] at h
          obtain ⟨v, rfl, rv⟩ := r1.inv1
          obtain ⟨a, ws, rfl, h1, q1⟩ := lstOf_at sm.rl rv e
          rw [intsOf_eq eb] at q1
          have e2 := q1.ints
          subst e2
          refine .inr ⟨a, bs, rfl, hT ▸ h1, z, fun m hm hle => ?_⟩
          have em : m = maxL bs := Int.le_antisymm (maxL_le m hm) (hle _ (maxL_mem z))
          rw [em]
          exact h _ H ρ Z Ex.refl sm.rl (.int _)
        · rw [if_neg z] at h
          exact h.elim
      · exact h.elim
    · exact h.elim
  · exact h.elim
theorem oc_min (hT : X.K = T.K) : OC T W minU (rMinA X.K) := by
  intro σ H s G ρ Z vs us Q sm r1 h
  unfold minU at h
  split at h
  · obtain ⟨v, v', rfl, rv, rv'⟩ := r1.inv2
    exact .inl ⟨_, _, by rw [rv.inv_int, rv'.inv_int], h _ H ρ Z Ex.refl sm.rl (.int _)⟩
  · split at h
    · rename_i l e
      split at h
      · rename_i bs eb
        by_cases z : 0 < bs.length
        · rw [if_pos z] at h
          obtain ⟨v, rfl, rv⟩ := r1.inv1
          obtain ⟨a, ws, rfl, h1, q1⟩ := lstOf_at sm.rl rv e
          rw [intsOf_eq eb] at q1
          have e2 := q1.ints
          subst e2
          refine .inr ⟨a, bs, rfl, hT ▸ h1, z, fun m hm hle => ?_⟩
          have em : m = minL bs := Int.le_antisymm (hle _ (minL_mem z)) (minL_le m hm)
          rw [em]
          exact h _ H ρ Z Ex.refl sm.rl (.int _)
        · rw [if_neg z] at h
          exact h.elim
      · exact h.elim
    · exact h.elim
  · exact h.elim
def sumU : RunD := fun us G => match us with
  | [u] => match lstOf G u with
    | some l => match intsOf l with
      | some ns => .ok (.int ns.sum) G
      | none => .bad
    | none => .bad
  | _ => .bad
theorem oc_sum (hT : X.K = T.K) : OC T W sumU (rSum X.K) := by
  intro σ H s G ρ Z vs us Q sm r1 h
  unfold sumU at h
  split at h
  · split at h
    · rename_i l e
      split at h
      · rename_i bs eb
        obtain ⟨v, rfl, rv⟩ := r1.inv1
        obtain ⟨a, ws, rfl, h1, q1⟩ := lstOf_at sm.rl rv e
        rw [intsOf_eq eb] at q1
        have e2 := q1.ints
        subst e2
        exact ⟨a, bs, rfl, hT ▸ h1, h _ H ρ Z Ex.refl sm.rl (.int _)⟩
      · exact h.elim
    · exact h.elim
  · exact h.elim

/-! ### list(x), tuple(x) -/
def listU (mu : Bool) : RunD := fun us G => match us with
  | [u] => match seqOf G u with
    | some l => newL mu l G
    | none => .bad
  | _ => .bad
theorem oc_list {mu : Bool} (hT : X.K = T.K) : OC T W (listU mu) (fun xs H Q => ∃ p ys, xs = [.ref p] ∧ (SqL X.K H p ys ∨ SqT X.K H p ys) ∧ ∀ l, H l = none → Q (.ref l) (upd H l (.lst ys))) := by
  intro σ H s G ρ Z vs us Q sm r1 h
  unfold listU at h
  split at h
  · split at h
    · rename_i l e
      obtain ⟨v, rfl, rv⟩ := r1.inv1
      obtain ⟨a, ws, rfl, h1, q1⟩ := seqOf_at (σ := σ) sm.rl rv e
      exact ⟨a, ws, rfl, hT ▸ h1, (newL_ok sm.rl q1 h).2⟩
    · exact h.elim
  · exact h.elim
def tupleU : RunD := fun us G => match us with
  | [.tup l] => .ok (.tup l) G
  | [u] => match lstOf G u with
    | some l => newT l G
    | none => .bad
  | _ => .bad
theorem oc_tuple (hT : X.K = T.K) : OC T W tupleU (fun xs H Q => ∃ p ys, xs = [.ref p] ∧ ((SqL X.K H p ys ∧ ∀ l, H l = none → Q (.ref l) (upd H l (.tup ys))) ∨ (SqT X.K H p ys ∧ Q (.ref p) H))) := by
  intro σ H s G ρ Z vs us Q sm r1 h
  unfold tupleU at h
  split at h
  · obtain ⟨v, rfl, rv⟩ := r1.inv1
    obtain ⟨a, ws, rfl, h1, q1⟩ := rv.inv_tup
    exact ⟨a, ws, rfl, .inr ⟨hT ▸ h1, h _ H ρ Z Ex.refl sm.rl (.tup h1 q1)⟩⟩
  · split at h
    · rename_i l e
      obtain ⟨v, rfl, rv⟩ := r1.inv1
      obtain ⟨a, ws, rfl, h1, q1⟩ := lstOf_at sm.rl rv e
      exact ⟨a, ws, rfl, .inl ⟨hT ▸ h1, (newT_ok sm.rl q1 h).2⟩⟩
    · exact h.elim
  · exact h.elim

/-! ### sorted: ints, texts, fewer than 64 -/
def insI (a : Int) : List Int → List Int
  | [] => [a]
  | b :: r => if a ≤ b then a :: b :: r else b :: insI a r
def sortI : List Int → List Int
  | [] => []
  | a :: r => insI a (sortI r)
theorem insI_perm (a : Int) : ∀ l, (insI a l).Perm (a :: l)
  | [] => .refl _
  | b :: r => by
    unfold insI
    split
    · exact .refl _
    · exact ((insI_perm a r).cons b).trans (.swap a b r)
theorem sortI_perm : ∀ l, (sortI l).Perm l
  | [] => .refl _
  | a :: r => (insI_perm a _).trans ((sortI_perm r).cons a)
theorem insI_sorted (a : Int) : ∀ {l : List Int}, l.Pairwise (· ≤ ·) → (insI a l).Pairwise (· ≤ ·)
  | [], _ => by simp [insI]
  | b :: r, h => by
    unfold insI
    rw [List.pairwise_cons] at h
    split
    · rename_i hab
      rw [List.pairwise_cons]
      refine ⟨fun y hy => ?_, List.pairwise_cons.mpr h⟩
      rcases List.mem_cons.mp hy with rfl | hy
      · exact hab
      · have := h.1 y hy
        omega
    · rename_i hab
      rw [List.pairwise_cons]
      refine ⟨fun y hy => ?_, insI_sorted a h.2⟩
      rcases List.mem_cons.mp ((insI_perm a r).mem_iff.mp hy) with rfl | hy
      · omega
      · exact h.1 y hy
theorem sortI_sorted : ∀ l, (sortI l).Pairwise (· ≤ ·)
  | [] => .nil
  | a :: r => insI_sorted a (sortI_sorted r)
def sortedU (mu : Bool) : RunD := fun us G => match us with
  | [u] => match lstOf G u with
    | some l => match intsOf l with
      | some ns => if ns.length < 64 then newL mu ((sortI ns).map U.int) G else .bad
      | none => .bad
    | none => .bad
  | _ => .bad
theorem oc_sorted {mu : Bool} (hT : X.K = T.K) : OC T W (sortedU mu) (rSorted X.K) := by
  intro σ H s G ρ Z vs us Q sm r1 h
  unfold sortedU at h
  split at h
  · split at h
    · rename_i l e
      split at h
      · rename_i ns eb
        by_cases z : ns.length < 64
        · rw [if_pos z] at h
          obtain ⟨v, rfl, rv⟩ := r1.inv1
          obtain ⟨a, ws, rfl, h1, q1⟩ := lstOf_at sm.rl rv e
          rw [intsOf_eq eb] at q1
          have e2 := q1.ints
          subst e2
          refine ⟨a, ns, rfl, hT ▸ h1, z, fun ns' p hp hs hn => ?_⟩
          have en : ns' = sortI ns := (fun (a b : List Int) (hp : a.Perm b) (ha : a.Pairwise (· ≤ ·)) (hb : b.Pairwise (· ≤ ·)) => hp.eq_of_pairwise (fun x y _ _ h1 h2 => Int.le_antisymm h1 h2) ha hb) _ _ (hp.trans (sortI_perm ns).symm) hs (sortI_sorted ns)
          rw [en]
          exact (newL_ok sm.rl (Reps.of_ints _) h).2 p hn
        · rw [if_neg z] at h
          exact h.elim
      · exact h.elim
    · exact h.elim
  · exact h.elim
end
end FL

/-! FL9: cells that are written; methods of lists and texts; isinstance. -/
namespace FL
open PySem L2 PyProof.Rows
section
variable {X : Cx} {T : Tb} {W : WX} {id : String} {x : Str} {p pos apos : Pos} {e o : Expr} {es : List Expr} {mas : MA} {mo : ME}
section
variable {H : Hp} {ρ : List Addr} {Z : Addr → Prop} {G : List Ob}
theorem ex_set {a : Addr} {o : HO} (ha : a ∈ ρ) (za : Z a) : Ex ρ Z H ρ Z (upd H a o) :=
  ⟨⟨[], by simp⟩, fun b u h z => ⟨by rw [upd_ne (fun e : b = a => z (e ▸ za))]; exact h, z⟩, fun b u h z n => ⟨by rw [upd_ne (fun e : b = a => n (e ▸ ha))]; exact h, z, n⟩, fun b h => by
    by_cases e : b = a
    · rw [e, upd_same]; exact fun z => by cases z
    · rw [upd_ne e]; exact h⟩
theorem Rl.set {i : Nat} {a : Addr} {o : HO} {ob : Ob} (rl : Rl T ρ Z G H) (hi : ρ[i]? = some a) (za : Z a) (mu : Mut (some o)) (h : ObAt T ρ Z (upd H a o) a ob) : Rl T ρ Z (G.set i ob) (upd H a o) where
  len := by rw [List.length_set]; exact rl.len
  nd := rl.nd
  zm := fun b z => by
    by_cases e : b = a
    · rw [e, upd_same]; exact mu
    · rw [upd_ne e]; exact rl.zm b z
  trk := fun b hb => (ex_set (ρ := ρ) (Z := Z) (List.mem_of_getElem? hi) za).th b (rl.trk b hb)
  ob := fun j b o' h1 g => by
    have ha : a ∈ ρ := List.mem_of_getElem? hi
    by_cases e : i = j
    · subst e
      rw [hi] at h1
      cases h1
      have hl : i < G.length := by
        have := (List.getElem?_eq_some_iff.mp hi).1
        rw [rl.len] at this
        exact this
      rw [List.getElem?_set_self hl] at g
      cases g
      exact h
    · rw [List.getElem?_set_ne e] at g
      have hne : b ≠ a := fun z => by
        subst z
        obtain ⟨l1, e1⟩ := List.getElem?_eq_some_iff.mp hi
        obtain ⟨l2, e2⟩ := List.getElem?_eq_some_iff.mp h1
        exact e ((List.getElem_inj rl.nd).mp (e1.trans e2.symm))
      exact ObAt.ex rl.zm (ex_set ha za) (rl.ob j b o' h1 g) (fun u q => by rw [upd_ne hne]; exact q) fun z => z
/-- a cell that holds a list -/
theorem cell_lst {u : U} {v : V} {i : Nat} {l : List U} (rl : Rl T ρ Z G H) (r : Rep T ρ Z H v (.ref i)) (g : G[i]? = some (.lst l)) : ∃ a vs, v = .ref a ∧ ρ[i]? = some a ∧ Z a ∧ H a = some (.lst vs) ∧ Reps T ρ Z H vs l := by
  obtain ⟨a, ev, h⟩ := r.inv_ref
  obtain ⟨z, vs, h2, h3⟩ := rl.ob i a _ h g
  exact ⟨a, vs, ev, h, z, h2, h3⟩
theorem set_lst {i : Nat} {a : Addr} {vs : List V} {l l' : List U} (rl : Rl T ρ Z G H) (hi : ρ[i]? = some a) (za : Z a) (r : Reps T ρ Z H vs l') : Rl T ρ Z (G.set i (.lst l')) (upd H a (.lst vs)) :=
  rl.set hi za trivial ⟨za, vs, upd_same, r.ex rl.zm (ex_set (List.mem_of_getElem? hi) za)⟩
end

/-! ### methods of a list -/
def OM (T : Tb) (W : WX) (f : U → RunD) (r : V → List V → Hp → VK → Prop) : Prop :=
  ∀ (σ : L2.St) (H : Hp) (s : Sg) (G : List Ob) (ρ : List Addr) (Z : Addr → Prop) (x : V) (u : U) (vs : List V) (us : List U) (Q : VK), Sm T σ H s G ρ Z → Rep T ρ Z H x u → Reps T ρ Z H vs us → RE T W σ H ρ Z Q (f u us G) → r x vs H Q
def bmM (f : U → RunD) (mo : ME) (mas : MA) : ME := fun s G => (mo s G).bind fun u G1 => match lstOfW G1 u with
  | some _ => (mas s G1).bind fun us G2 => f u us G2
  | none => .bad
def bm0M (f : U → RunD) (mo : ME) : ME := fun s G => (mo s G).bind fun u G1 => match lstOfW G1 u with
  | some _ => f u [] G1
  | none => .bad
theorem fe_lm {name : Str} {f : U → RunD} {r : V → List V → Hp → VK → Prop} (pa : PlainAttrs "list") (slot : Slot "list" name id) (hty : typeOf (.builtin id) = pure (.type "method_descriptor")) (hm : MtR X id r) (h : OM T W f r) (ho : PE X o (tE T W mo)) (ha : PA X (e :: es) (tA T W mas))
    (h1 : plainRecv o = true) (h2 : (e :: es).all noStar = true) (h3 : (e :: es).length < 30) (h4 : (apos.endLine == pos.line) = true) : PE X (.Call (.Attribute o name apos) (e :: es) [] pos) (tE T W (bmM f mo mas)) := by
  have h2' := h2
  rw [List.all_cons, Bool.and_eq_true] at h2'
  refine PE.imp (pe_bm pa slot hty hm ho ha (attrBase h1) ?_ h4 (star_cons h2'.1) (star_any h2'.2)) fun σ H Q ⟨s, G, ρ, Z, sm, q⟩ => ?_
  · rw [star_all h2, Bool.true_and]
    simp [backToKw, keywordEach]
    simpa using h3
  · refine tE_bind sm q fun u G1 x H1 ρ1 Z1 x1 sm1 r1 q1 => ?_
    split at q1
    · rename_i l el
      obtain ⟨a, vs, rfl, hl, _⟩ := lstOfW_at sm1.rl r1 el
      refine ⟨.inl ⟨rfl, _, SqL.of hl⟩, ?_⟩
      refine tA_bind sm1 q1 fun us G2 vs2 H2 ρ2 Z2 x2 sm2 r2 q2 => ?_
      exact h _ _ _ _ _ _ _ _ _ _ _ sm2 (r1.ex sm1.rl.zm x2) r2 q2
    · exact q1.elim
theorem fe_lm0 {name : Str} {f : U → RunD} {r : V → List V → Hp → VK → Prop} (pa : PlainAttrs "list") (slot : Slot "list" name id) (hty : typeOf (.builtin id) = pure (.type "method_descriptor")) (hm : MtR X id r) (h : OM T W f r) (ho : PE X o (tE T W mo))
    (h1 : plainRecv o = true) (h4 : (apos.endLine == pos.line) = true) : PE X (.Call (.Attribute o name apos) [] [] pos) (tE T W (bm0M f mo)) := by
  refine PE.imp (pe_bm0 pa slot hty hm ho (attrBase h1) h4) fun σ H Q ⟨s, G, ρ, Z, sm, q⟩ => ?_
  refine tE_bind sm q fun u G1 x H1 ρ1 Z1 x1 sm1 r1 q1 => ?_
  split at q1
  · rename_i l el
    obtain ⟨a, vs, rfl, hl, _⟩ := lstOfW_at sm1.rl r1 el
    exact ⟨.inl ⟨rfl, _, SqL.of hl⟩, h _ _ _ _ _ _ _ _ _ _ _ sm1 r1 .nil q1⟩
  · exact q1.elim
def appendU : U → RunD := fun u us G => match u, us with
  | .ref i, [y] => match G[i]? with
    | some (.lst l) => if l.length < szL then .ok .non (G.set i (.lst (l ++ [y]))) else .bad
    | _ => .bad
  | _, _ => .bad
theorem om_append : OM T W appendU rAppend := by
  intro σ H s G ρ Z x u vs us Q sm r1 r2 h
  unfold appendU at h
  split at h
  · rename_i i y
    split at h
    · rename_i l g
      by_cases z : l.length < szL
      · rw [if_pos z] at h
        obtain ⟨a, ws, rfl, hi, za, ha, q⟩ := cell_lst (u := .ref i) sm.rl r1 g
        obtain ⟨v, rfl, rv⟩ := r2.inv1
        refine ⟨a, ws, v, rfl, rfl, ha, by rw [q.length, szL_eq]; exact z, ?_⟩
        exact h _ _ ρ Z (ex_set (List.mem_of_getElem? hi) za) (set_lst (l := l) sm.rl hi za (q.append (.cons rv .nil))) .non
      · rw [if_neg z] at h
        exact h.elim
    · exact h.elim
  · exact h.elim
def extendU : U → RunD := fun u us G => match u, us with
  | .ref i, [y] => match G[i]?, lstOfW G y with
    | some (.lst l), some l' => if l.length + l'.length ≤ szL then .ok .non (G.set i (.lst (l ++ l'))) else .bad
    | _, _ => .bad
  | _, _ => .bad
theorem om_extend : OM T W extendU rExtend := by
  intro σ H s G ρ Z x u vs us Q sm r1 r2 h
  unfold extendU at h
  split at h
  · rename_i i y
    split at h
    · rename_i l l' g g'
      by_cases z : l.length + l'.length ≤ szL
      · rw [if_pos z] at h
        obtain ⟨a, ws, rfl, hi, za, ha, q⟩ := cell_lst (u := .ref i) sm.rl r1 g
        obtain ⟨v, rfl, rv⟩ := r2.inv1
        obtain ⟨b, zs, rfl, hb, q'⟩ := lstOfW_at sm.rl rv g'
        refine ⟨a, b, ws, zs, rfl, rfl, ha, hb, by rw [q.length, q'.length, szL_eq]; exact z, ?_⟩
        exact h _ _ ρ Z (ex_set (List.mem_of_getElem? hi) za) (set_lst (l := l) sm.rl hi za (q.append q')) .non
      · rw [if_neg z] at h
        exact h.elim
    · exact h.elim
  · exact h.elim
def popU : U → RunD := fun u us G => match u, us with
  | .ref i, [] => match G[i]? with
    | some (.lst l) => match l[l.length - 1]? with
      | some y => .ok y (G.set i (.lst l.dropLast))
      | none => .bad
    | _ => .bad
  | .ref i, [.int j] => match G[i]? with
    | some (.lst l) => if -(2 ^ 63) ≤ j ∧ j < 2 ^ 63 then (match seqIndex? j l.length with
      | some k => match l[k]? with
        | some y => .ok y (G.set i (.lst (l.eraseIdx k)))
        | none => .bad
      | none => .bad) else .bad
    | _ => .bad
  | _, _ => .bad
abbrev rPopA : V → List V → Hp → VK → Prop := fun x vs H Q => rPop x vs H Q ∨ rPopAt x vs H Q
theorem mt_popA : MtM X "list.pop" rPopA := MtR.or mt_pop mt_popAt
theorem om_pop : OM T W popU rPopA := by
  intro σ H s G ρ Z x u vs us Q sm r1 r2 h
  unfold popU at h
  split at h
  · rename_i i
    split at h
    · rename_i l g
      split at h
      · rename_i y ey
        obtain ⟨a, ws, rfl, hi, za, ha, q⟩ := cell_lst (u := .ref i) sm.rl r1 g
        cases r2
        obtain ⟨v, hv, rv⟩ := q.get ey
        rw [← q.length] at hv
        refine .inl ⟨a, ws, v, rfl, rfl, ha, hv, ?_⟩
        exact h _ _ ρ Z (ex_set (List.mem_of_getElem? hi) za) (set_lst (l := l) sm.rl hi za q.dropLast) (rv.ex sm.rl.zm (ex_set (List.mem_of_getElem? hi) za))
      · exact h.elim
    · exact h.elim
  · rename_i i j
    split at h
    · rename_i l g
      by_cases z : -(2 ^ 63) ≤ j ∧ j < 2 ^ 63
      · rw [if_pos z] at h
        split at h
        · rename_i k ek
          split at h
          · rename_i y ey
            obtain ⟨a, ws, rfl, hi, za, ha, q⟩ := cell_lst (u := .ref i) sm.rl r1 g
            obtain ⟨v0, rfl, rv0⟩ := r2.inv1
            obtain ⟨v, hv, rv⟩ := q.get ey
            refine .inr ⟨a, ws, j, k, v, rfl, by rw [rv0.inv_int], ha, z.1, z.2, by rw [q.length]; exact ek, hv, ?_⟩
            exact h _ _ ρ Z (ex_set (List.mem_of_getElem? hi) za) (set_lst (l := l) sm.rl hi za (q.eraseIdx k)) (rv.ex sm.rl.zm (ex_set (List.mem_of_getElem? hi) za))
          · exact h.elim
        · exact h.elim
      · rw [if_neg z] at h
        exact h.elim
    · exact h.elim
  · exact h.elim

/-! ### texts -/
def joinM (a b : ME) : ME := fun s G => (a s G).bind fun u G1 => match u with
  | .str l => (b s G1).bind fun w G2 => match lstOf G2 w with
    | some ys => match strsOf ys with
      | some zs => if (zs.map List.length).sum + zs.length * l.length ≤ szL then .ok (.str (TL.joinL l zs)) G2 else .bad
      | none => .bad
    | none => .bad
  | _ => .bad
theorem fe_join {ma mb : ME} (hT : X.K = T.K) (ho : PE X o (tE T W ma)) (he : PE X e (tE T W mb)) (h1 : plainRecv o = true) (h2 : noStar e = true) (h4 : (apos.endLine == pos.line) = true) : PE X (.Call (.Attribute o "join" apos) [e] [] pos) (tE T W (joinM ma mb)) :=
  PE.imp (pe_join ho he (star_cons h2) (attrBase h1) h4) fun σ H Q ⟨s, G, ρ, Z, sm, q⟩ => by
    refine tE_bind sm q fun u G1 x H1 ρ1 Z1 x1 sm1 r1 q1 => ?_
    split at q1
    · rename_i l
      refine ⟨⟨_, r1.inv_str⟩, ?_⟩
      refine tE_bind sm1 q1 fun w G2 y H2 ρ2 Z2 x2 sm2 r2 q2 => ?_
      split at q2
      · rename_i ys ey
        split at q2
        · rename_i zs ez
          by_cases z : (zs.map List.length).sum + zs.length * l.length ≤ szL
          · rw [if_pos z] at q2
            obtain ⟨a, vs, rfl, hv, qv⟩ := lstOf_at sm2.rl r2 ey
            rw [strsOf_eq ez] at qv
            have e2 := qv.strs
            subst e2
            have el : ((zs.map SS).map (·.length)) = zs.map List.length := SX.lens zs
            refine ⟨SS l, a, zs.map SS, r1.inv_str, rfl, .inl (hT ▸ hv), by rw [el, List.length_map, strLen]; exact z, ?_⟩
            rw [show Txt.join (SS l) (zs.map SS) = SS (TL.joinL l zs) from SX.join_S l zs]
            exact q2 _ H2 ρ2 Z2 Ex.refl sm2.rl (Rep.ss _)
          · rw [if_neg z] at q2
            exact q2.elim
        · exact q2.elim
      · exact q2.elim
    · exact q1.elim
def splitM (mu : Bool) (a b : ME) : ME := fun s G => (a s G).bind fun u G1 => match u with
  | .str l => (b s G1).bind fun w G2 => match w with
    | .str z => if z ≠ [] ∧ z.all (fun c => decide (c < 256)) = true ∧ l.length + 2 ≤ szL then newL mu ((TL.spl z 0 [] l).map U.str) G2 else .bad
    | _ => .bad
  | _ => .bad
theorem fe_split {mu : Bool} {ma mb : ME} (ho : PE X o (tE T W ma)) (he : PE X e (tE T W mb)) (h1 : plainRecv o = true) (h2 : noStar e = true) (h4 : (apos.endLine == pos.line) = true) : PE X (.Call (.Attribute o "split" apos) [e] [] pos) (tE T W (splitM mu ma mb)) :=
  PE.imp (pe_split ho he (star_cons h2) (attrBase h1) h4) fun σ H Q ⟨s, G, ρ, Z, sm, q⟩ => by
    refine tE_bind sm q fun u G1 x H1 ρ1 Z1 x1 sm1 r1 q1 => ?_
    split at q1
    · rename_i l
      refine ⟨⟨_, r1.inv_str⟩, ?_⟩
      refine tE_bind sm1 q1 fun w G2 y H2 ρ2 Z2 x2 sm2 r2 q2 => ?_
      split at q2
      · rename_i z
        by_cases c : z ≠ [] ∧ z.all (fun c => decide (c < 256)) = true ∧ l.length + 2 ≤ szL
        · rw [if_pos c] at q2
          have hne : ((SS z).length == 0) = false := by
            rw [strLen]
            cases z with
            | nil => exact absurd rfl c.1
            | cons a b => rfl
          refine ⟨SS l, SS z, r1.inv_str, by rw [r2.inv_str], hne, by rw [strLen, szL_eq]; exact c.2.2, ?_⟩
          rw [show Txt.split (SS l) (SS z) = (TL.spl z 0 [] l).map SS from SX.split_S c.1 c.2.1]
          exact (newL_ok sm2.rl (Reps.of_strs _) q2).2
        · rw [if_neg c] at q2
          exact q2.elim
      · exact q2.elim
    · exact q1.elim
end
end FL

/-! FL10: what is walked; for, while, comprehensions; statements. -/
namespace FL
open PySem L2 PyProof.Rows
/-- what is walked: a list or tuple as it stands, or items known -/
inductive Itb where
  | seq (u : U) | items (l : List U)
def itAt : Itb → List Ob → Nat → Option (Option U)
  | .seq u, G, k => match seqOf G u with
    | some l => some l[k]?
    | none => none
  | .items l, _, k => some l[k]?
abbrev MI := Sg → List Ob → Rs (Itb × Nat)
/-- the walk J does what b says, from (ρ0, Z0, H0) on -/
def ItOk (T : Tb) (b : Itb) (J : It) (ρ0 : List Addr) (Z0 : Addr → Prop) (H0 : Hp) : Prop :=
  ∀ ρ Z G H, (∃ t, ρ = ρ0 ++ t) → (∀ a o, H0 a = some o → ¬ Z0 a → H a = some o ∧ ¬ Z a) → Rl T ρ Z G H → ∀ k, (∀ u, itAt b G k = some (some u) → J.go k H ∧ ∀ x H', J.yld k H x H' → Ex ρ Z H ρ Z H' ∧ Rl T ρ Z G H' ∧ Rep T ρ Z H' x u) ∧ (itAt b G k = some none → J.stop k H)
def RI (T : Tb) (W : WX) (σ : L2.St) (H : Hp) (ρ : List Addr) (Z : Addr → Prop) (R : It → Hp → Prop) : Rs (Itb × Nat) → Prop
  | .ok b G' => ∀ J H' ρ' Z', Ex ρ Z H ρ' Z' H' → Rl T ρ' Z' G' H' → ItOk T b.1 J ρ' Z' H' → R J H'
  | .exc x G' => EEnd T W σ H ρ Z x G'
  | .bad => False
def tI (T : Tb) (W : WX) (m : MI) : TI := fun σ H R => ∃ s G ρ Z, Sm T σ H s G ρ Z ∧ RI T W σ H ρ Z R (m s G)
section
variable {X : Cx} {T : Tb} {W : WX} {tg : Expr} {p pos : Pos} {a e : Expr} {es : List Expr} {ma : ME} {mas : MA}
theorem PI.imp {t t' : TI} (h : PI X tg e t) (i : ∀ σ H Q, t' σ H Q → t σ H Q) : PI X tg e t' := ⟨fun pins s σ H R I q => h.run pins s σ H R I (i σ H R q)⟩
theorem PI.or {t t' : TI} (h : PI X tg e t) (h' : PI X tg e t') : PI X tg e (fun σ H R => t σ H R ∨ t' σ H R) := ⟨fun pins s σ H R I q => q.elim (h.run pins s σ H R I) (h'.run pins s σ H R I)⟩
theorem tE_bindI {m : ME} {f : U → List Ob → Rs (Itb × Nat)} {Q : It → Hp → Prop} {k : VK} {σ : L2.St} {H : Hp} {s : Sg} {G : List Ob} {ρ : List Addr} {Z : Addr → Prop} (sm : Sm T σ H s G ρ Z) (h : RI T W σ H ρ Z Q ((m s G).bind f))
    (hk : ∀ u G' v H' ρ' Z', m s G = .ok u G' → Ex ρ Z H ρ' Z' H' → Sm T σ H' s G' ρ' Z' → Rep T ρ' Z' H' v u → RI T W σ H' ρ' Z' Q (f u G') → k v H') : tE T W m σ H k := by
  refine ⟨s, G, ρ, Z, sm, ?_⟩
  cases e : m s G with
  | ok u G' =>
    rw [e] at h
    refine fun v H' ρ' Z' x rl rp => hk u G' v H' ρ' Z' e x (sm.ex x rl) rp ?_
    have h : RI T W σ H ρ Z Q (f u G') := h
    cases e2 : f u G' with
    | ok b G2 => rw [e2] at h; exact fun J H2 ρ2 Z2 y => h J H2 ρ2 Z2 (x.trans y)
    | exc y G2 => rw [e2] at h; exact EEnd.ex h x
    | bad => rw [e2] at h; exact h
  | exc x G' => rw [e] at h; exact h
  | bad => rw [e] at h; exact h
theorem tA_bindI {m : MA} {f : List U → List Ob → Rs (Itb × Nat)} {Q : It → Hp → Prop} {k : List V → Hp → Prop} {σ : L2.St} {H : Hp} {s : Sg} {G : List Ob} {ρ : List Addr} {Z : Addr → Prop} (sm : Sm T σ H s G ρ Z) (h : RI T W σ H ρ Z Q ((m s G).bind f))
    (hk : ∀ u G' v H' ρ' Z', Ex ρ Z H ρ' Z' H' → Sm T σ H' s G' ρ' Z' → Reps T ρ' Z' H' v u → RI T W σ H' ρ' Z' Q (f u G') → k v H') : tA T W m σ H k := by
  refine ⟨s, G, ρ, Z, sm, ?_⟩
  cases e : m s G with
  | ok u G' =>
    rw [e] at h
    refine fun v H' ρ' Z' x rl rp => hk u G' v H' ρ' Z' x (sm.ex x rl) rp ?_
    have h : RI T W σ H ρ Z Q (f u G') := h
    cases e2 : f u G' with
    | ok b G2 => rw [e2] at h; exact fun J H2 ρ2 Z2 y => h J H2 ρ2 Z2 (x.trans y)
    | exc y G2 => rw [e2] at h; exact EEnd.ex h x
    | bad => rw [e2] at h; exact h
  | exc x G' => rw [e] at h; exact h
  | bad => rw [e] at h; exact h
/-- a list, a tuple, a text -/
def seqI (m : ME) : MI := fun s G => (m s G).bind fun u G1 => match u with
  | .str l => .ok (.items (l.map fun c => .str [c]), l.length) G1
  | u => match seqOf G1 u with
    | some l => .ok (.seq u, l.length) G1
    | none => .bad
theorem seqOf_mono {ρ0 ρ : List Addr} {Z0 Z : Addr → Prop} {H0 H : Hp} {v : V} {u : U} {G0 : List Ob} (rl0 : Rl T ρ0 Z0 G0 H0) (r : Rep T ρ0 Z0 H0 v u) (hp : ∃ t, ρ = ρ0 ++ t) (fz : ∀ a o, H0 a = some o → ¬ Z0 a → H a = some o ∧ ¬ Z a) : Rep T ρ Z H v u := r.exf hp fz rl0.zm
theorem itl_ok {σ : L2.St} {ρ0 : List Addr} {Z0 : Addr → Prop} {H0 : Hp} {a : Addr} {u : U} {G0 : List Ob} (rl0 : Rl T ρ0 Z0 G0 H0) (r : Rep T ρ0 Z0 H0 (.ref a) u) (hn : ∀ l, u ≠ .tup l) : ItOk T (.seq u) (Itl T.K a) ρ0 Z0 H0 := by
  intro ρ Z G H hp fz rl k
  have rv := seqOf_mono rl0 r hp fz
  have key : ∀ l, seqOf G u = some l → ∃ vs, SqL T.K H a vs ∧ Reps T ρ Z H vs l := fun l e => by
    have e' : lstOf G u = some l := by
      cases u with
      | tup l' => exact absurd rfl (hn l')
      | _ => exact e
    obtain ⟨a', vs, ea, h1, h2⟩ := lstOf_at rl rv e'
    cases ea
    exact ⟨vs, h1, h2⟩
  constructor
  · intro y e
    simp only [itAt] at e
    split at e
    · rename_i l el
      obtain ⟨vs, h1, h2⟩ := key l el
      have e := Option.some.inj e
      obtain ⟨v, hv, rv⟩ := h2.get e
      refine ⟨⟨vs, v, h1, hv⟩, ?_⟩
      rintro x H' ⟨rfl, hy⟩
      have : x = v := by have := hy vs h1; rw [hv] at this; exact (Option.some.inj this).symm
      subst this
      exact ⟨Ex.refl, rl, rv⟩
    · cases e
  · intro e
    simp only [itAt] at e
    split at e
    · rename_i l el
      obtain ⟨vs, h1, h2⟩ := key l el
      have e := Option.some.inj e
      exact ⟨vs, h1, by rw [h2.length]; exact List.getElem?_eq_none_iff.mp e⟩
    · cases e
theorem itt_ok {ρ0 : List Addr} {Z0 : Addr → Prop} {H0 : Hp} {a : Addr} {l : List U} {G0 : List Ob} (rl0 : Rl T ρ0 Z0 G0 H0) (r : Rep T ρ0 Z0 H0 (.ref a) (.tup l)) : ItOk T (.seq (.tup l)) (Itt T.K a) ρ0 Z0 H0 := by
  intro ρ Z G H hp fz rl k
  have rv := seqOf_mono rl0 r hp fz
  obtain ⟨a', vs, ea, h1, h2⟩ := rv.inv_tup
  cases ea
  constructor
  · intro y e
    simp only [itAt, seqOf] at e
    have e := Option.some.inj e
    obtain ⟨v, hv, rv⟩ := h2.get e
    refine ⟨⟨vs, v, h1, hv⟩, ?_⟩
    rintro x H' ⟨rfl, hy⟩
    have : x = v := by have := hy vs h1; rw [hv] at this; exact (Option.some.inj this).symm
    subst this
    exact ⟨Ex.refl, rl, rv⟩
  · intro e
    simp only [itAt, seqOf] at e
    have e := Option.some.inj e
    exact ⟨vs, h1, by rw [h2.length]; exact List.getElem?_eq_none_iff.mp e⟩
theorem its_ok {ρ0 : List Addr} {Z0 : Addr → Prop} {H0 : Hp} {l : List Nat} : ItOk T (.items (l.map fun c => .str [c])) (Its (SS l)) ρ0 Z0 H0 := by
  intro ρ Z G H hp fz rl k
  have hs : (SS l).cps.size = l.length := by simp [SS]
  constructor
  · intro y e
    simp only [itAt] at e
    have e := Option.some.inj e
    rw [List.getElem?_map] at e
    cases e2 : l[k]? with
    | none => rw [e2] at e; cases e
    | some c =>
      rw [e2] at e
      cases e
      refine ⟨by show k < (SS l).cps.size; rw [hs]; exact (List.getElem?_eq_some_iff.mp e2).1, ?_⟩
      rintro x H' ⟨rfl, c', hc, rfl⟩
      have : c' = c := by
        simp [SS] at hc
        rw [e2] at hc
        exact (Option.some.inj hc).symm
      subst this
      exact ⟨Ex.refl, rl, Rep.ss [c']⟩
  · intro e
    simp only [itAt] at e
    have e := Option.some.inj e
    rw [List.getElem?_map] at e
    show (SS l).cps.size ≤ k
    rw [hs]
    cases e2 : l[k]? with
    | none => exact List.getElem?_eq_none_iff.mp e2
    | some c => rw [e2] at e; cases e
theorem fi_seq (hT : X.K = T.K) (h : PE X a (tE T W ma)) : PI X tg a (tI T W (seqI ma)) :=
  PI.imp (PI.or (pi_str h) (PI.or (pi_tup h) (pi_list h))) fun σ H R ⟨s, G, ρ, Z, sm, q⟩ => by
    cases e : ma s G with
    | bad => unfold seqI at q; rw [e] at q; exact q.elim
    | exc x G1 =>
      unfold seqI at q
      rw [e] at q
      refine .inl ⟨s, G, ρ, Z, sm, ?_⟩
      rw [e]
      exact q
    | ok u G1 =>
      have hu : (∃ l, u = .str l) ∨ (∃ l, u = .tup l) ∨ ((∀ l, u ≠ .str l) ∧ ∀ l, u ≠ .tup l) := by
        cases u <;> first | exact .inl ⟨_, rfl⟩ | exact .inr (.inl ⟨_, rfl⟩) | exact .inr (.inr ⟨(fun l z => by cases z), fun l z => by cases z⟩)
      rcases hu with ⟨l, rfl⟩ | ⟨l, rfl⟩ | ⟨hs, ht⟩
      · refine .inl (tE_bindI sm q fun u' G2 x H1 ρ1 Z1 e2 x1 sm1 r1 q1 => ?_)
        rw [e] at e2
        cases e2
        exact ⟨SS l, r1.inv_str, q1 _ H1 ρ1 Z1 Ex.refl sm1.rl its_ok⟩
      · refine .inr (.inl (tE_bindI sm q fun u' G2 x H1 ρ1 Z1 e2 x1 sm1 r1 q1 => ?_))
        rw [e] at e2
        cases e2
        obtain ⟨p, vs, rfl, h1, h2⟩ := r1.inv_tup
        exact ⟨p, rfl, ⟨vs, hT ▸ h1⟩, hT ▸ q1 _ H1 ρ1 Z1 Ex.refl sm1.rl (itt_ok sm1.rl r1)⟩
      · refine .inr (.inr (tE_bindI sm q fun u' G2 x H1 ρ1 Z1 e2 x1 sm1 r1 q1 => ?_))
        rw [e] at e2
        cases e2
        split at q1
        · exact absurd rfl (hs _)
        · split at q1
          · rename_i l el
            have el' : lstOf G1 u = some l := by
              cases u with
              | tup l' => exact absurd rfl (ht l')
              | _ => exact el
            obtain ⟨p, vs, rfl, h1, h2⟩ := lstOf_at sm1.rl r1 el'
            exact ⟨p, rfl, ⟨vs, hT ▸ h1⟩, hT ▸ q1 _ H1 ρ1 Z1 Ex.refl sm1.rl (itl_ok (σ := σ) sm1.rl r1 ht)⟩
          · exact q1.elim

/-! ### ranges -/
def rangeL (lo c : Int) (n : Nat) : List U := (List.range n).map fun k => .int (lo + (k : Nat) * c)
theorem rangeL_get {lo c : Int} {n k : Nat} : (rangeL lo c n)[k]? = if k < n then some (.int (lo + (k : Nat) * c)) else none := by
  unfold rangeL
  rw [List.getElem?_map]
  by_cases h : k < n
  · rw [if_pos h, List.getElem?_range h]; rfl
  · rw [if_neg h, List.getElem?_eq_none_iff.mpr (by simpa using h)]; rfl
theorem itc_ok {ρ0 : List Addr} {Z0 : Addr → Prop} {H0 : Hp} {lo c : Int} {n : Nat} : ItOk T (.items (rangeL lo c n)) (Itc lo c n) ρ0 Z0 H0 := by
  intro ρ Z G H hp fz rl k
  constructor
  · intro y e
    simp only [itAt] at e
    have e := Option.some.inj e
    rw [rangeL_get] at e
    by_cases h : k < n
    · rw [if_pos h] at e
      cases e
      refine ⟨h, ?_⟩
      rintro x H' ⟨rfl, rfl⟩
      exact ⟨Ex.refl, rl, .int _⟩
    · rw [if_neg h] at e; cases e
  · intro e
    simp only [itAt] at e
    have e := Option.some.inj e
    rw [rangeL_get] at e
    by_cases h : k < n
    · rw [if_pos h] at e; cases e
    · show n ≤ k; omega
theorem itr_ok {ρ0 : List Addr} {Z0 : Addr → Prop} {H0 : Hp} {lo : Int} {n : Nat} : ItOk T (.items (rangeL lo 1 n)) (Itr lo n) ρ0 Z0 H0 := by
  intro ρ Z G H hp fz rl k
  obtain ⟨h1, h2⟩ := itc_ok (T := T) (ρ0 := ρ0) (Z0 := Z0) (H0 := H0) (lo := lo) (c := 1) (n := n) ρ Z G H hp fz rl k
  refine ⟨fun y e => ?_, fun e => h2 e⟩
  obtain ⟨g, w⟩ := h1 y e
  refine ⟨g, ?_⟩
  rintro x H' ⟨rfl, rfl⟩
  exact w _ _ ⟨rfl, by rw [Int.mul_one]⟩
def rng1U (us : List U) (G : List Ob) : Rs (Itb × Nat) := match us with
  | [.int j] => if -(2 ^ 62) ≤ j ∧ j < 2 ^ 62 then .ok (.items (rangeL 0 1 j.toNat), j.toNat) G else .bad
  | _ => .bad
def rng2U (us : List U) (G : List Ob) : Rs (Itb × Nat) := match us with
  | [.int i, .int j] => if -(2 ^ 62) ≤ i ∧ i < 2 ^ 62 ∧ -(2 ^ 62) ≤ j ∧ j < 2 ^ 62 then .ok (.items (rangeL i 1 (j - i).toNat), (j - i).toNat) G else .bad
  | _ => .bad
def rng3U (us : List U) (G : List Ob) : Rs (Itb × Nat) := match us with
  | [.int i, .int j, .int c] => if c = -1 ∧ -(2 ^ 62) ≤ i ∧ i < 2 ^ 62 ∧ -(2 ^ 62) ≤ j ∧ j < 2 ^ 62 then .ok (.items (rangeL i (-1) (i - j).toNat), (i - j).toNat) G else .bad
  | _ => .bad
def preI (f : List U → List Ob → Rs (Itb × Nat)) (mas : MA) : MI := fun s G => (mas s G).bind f
theorem fi_rng1 (hg : Gl X "range") (hm : X.mg "range" = none) (ha : PA X [a] (tA T W mas)) (h1 : noStar a = true) : PI X tg (.Call (.Name "range" p) [a] [] pos) (tI T W (preI rng1U mas)) :=
  PI.imp (pi_range1 hg hm ha (star_cons h1)) fun σ H R ⟨s, G, ρ, Z, sm, q⟩ => by
    refine tA_bindI sm q fun us G1 vs H1 ρ1 Z1 x1 sm1 r1 q1 => ?_
    unfold rng1U at q1
    split at q1
    · rename_i j
      by_cases z : -(2 ^ 62) ≤ j ∧ j < 2 ^ 62
      · rw [if_pos z] at q1
        obtain ⟨v, rfl, rv⟩ := r1.inv1
        exact ⟨j, by rw [rv.inv_int], z.1, z.2, q1 _ H1 ρ1 Z1 Ex.refl sm1.rl itr_ok⟩
      · rw [if_neg z] at q1
        exact q1.elim
    · exact q1.elim
theorem fi_rng2 {b : Expr} (hg : Gl X "range") (hm : X.mg "range" = none) (ha : PA X [a, b] (tA T W mas)) (h1 : noStar a = true) (h2 : noStar b = true) : PI X tg (.Call (.Name "range" p) [a, b] [] pos) (tI T W (preI rng2U mas)) :=
  PI.imp (pi_range2 hg hm ha (by rw [star_cons h1, star_cons h2] <;> rfl) (by rw [star_cons h2] <;> rfl)) fun σ H R ⟨s, G, ρ, Z, sm, q⟩ => by
    refine tA_bindI sm q fun us G1 vs H1 ρ1 Z1 x1 sm1 r1 q1 => ?_
    unfold rng2U at q1
    split at q1
    · rename_i i j
      by_cases z : -(2 ^ 62) ≤ i ∧ i < 2 ^ 62 ∧ -(2 ^ 62) ≤ j ∧ j < 2 ^ 62
      · rw [if_pos z] at q1
        obtain ⟨v, v', rfl, rv, rv'⟩ := r1.inv2
        exact ⟨i, j, by rw [rv.inv_int, rv'.inv_int], z, q1 _ H1 ρ1 Z1 Ex.refl sm1.rl itr_ok⟩
      · rw [if_neg z] at q1
        exact q1.elim
    · exact q1.elim
theorem Reps.inv3 {ρ : List Addr} {Z : Addr → Prop} {H : Hp} {vs : List V} {u w z : U} (h : Reps T ρ Z H vs [u, w, z]) : ∃ v v' v'', vs = [v, v', v''] ∧ Rep T ρ Z H v u ∧ Rep T ρ Z H v' w ∧ Rep T ρ Z H v'' z := by
  cases h with
  | cons a b =>
    obtain ⟨v', v'', rfl, h1, h2⟩ := b.inv2
    exact ⟨_, _, _, rfl, a, h1, h2⟩
theorem fi_rng3 {b c : Expr} (hg : Gl X "range") (hm : X.mg "range" = none) (ha : PA X [a, b, c] (tA T W mas)) (h1 : noStar a = true) (h2 : noStar b = true) (h3 : noStar c = true) : PI X tg (.Call (.Name "range" p) [a, b, c] [] pos) (tI T W (preI rng3U mas)) :=
  PI.imp (pi_range3 hg hm ha (star_cons h1) (star_any (by simp [h2, h3]))) fun σ H R ⟨s, G, ρ, Z, sm, q⟩ => by
    refine tA_bindI sm q fun us G1 vs H1 ρ1 Z1 x1 sm1 r1 q1 => ?_
    unfold rng3U at q1
    split at q1
    · rename_i i j c
      by_cases z : c = -1 ∧ -(2 ^ 62) ≤ i ∧ i < 2 ^ 62 ∧ -(2 ^ 62) ≤ j ∧ j < 2 ^ 62
      · rw [if_pos z] at q1
        obtain ⟨v, v', v'', rfl, rv, rv', rv''⟩ := r1.inv3
        obtain ⟨ec, z⟩ := z
        subst ec
        exact ⟨i, j, -1, _, by rw [rv.inv_int, rv'.inv_int, rv''.inv_int], RgC.neg z.1 z.2.1 z.2.2.1 z.2.2.2, q1 _ H1 ρ1 Z1 Ex.refl sm1.rl itc_ok⟩
      · rw [if_neg z] at q1
        exact q1.elim
    · exact q1.elim

/-! ### targets -/
abbrev MG := U → Sg → Option Sg
/-- the slots vs may be stored -/
def Stay (vs : List Nat) (σ σ' : L2.St) : Prop := σ'.length = σ.length ∧ ∀ j, j ∉ vs → σ'[j]? = σ[j]?
def tG (T : Tb) (vs : List Nat) (m : MG) : TG := fun v σ H Q => ∃ s G ρ Z u, Sm T σ H s G ρ Z ∧ Rep T ρ Z H v u ∧ ∃ s', m u s = some s' ∧ ∀ σ', Fm T ρ Z H σ' s' → Stay vs σ σ' → Q σ' H
def nameG (i : Nat) : MG := fun u s => some (s.set i (some u))
theorem Fm.set {σ : L2.St} {H : Hp} {ρ : List Addr} {Z : Addr → Prop} {s : Sg} {v : V} {u : U} {i : Nat} (f : Fm T ρ Z H σ s) (r : Rep T ρ Z H v u) : Fm T ρ Z H (σ.set i (some v)) (s.set i (some u)) := by
  refine ⟨by rw [List.length_set, List.length_set, f.1], fun j w e => ?_⟩
  by_cases h : i = j
  · subst h
    have hl : i < s.length := by
      have := (List.getElem?_eq_some_iff.mp e).1
      simpa using this
    rw [List.getElem?_set_self hl] at e
    have e := Option.some.inj (Option.some.inj e)
    subst e
    exact ⟨v, List.getElem?_set_self (by rw [f.1]; exact hl), r⟩
  · rw [List.getElem?_set_ne h] at e
    obtain ⟨v', e1, r1⟩ := f.2 j w e
    exact ⟨v', by rw [List.getElem?_set_ne h]; exact e1, r1⟩
theorem fg_name {i : Nat} {x : Str} (hN : X.N.Nodup) (hi : X.N[i]? = some x) (hx : Loc X.env.scope x) (hf : X.fn x = true ∨ X.env.scope.names.lookup x = some .local) : PG X (.Name x pos) (tG T [i] (nameG i)) :=
  PG.imp (pg_name hN hi hx hf) fun v σ H Q ⟨s, G, ρ, Z, u, sm, r, s', e, q⟩ => by
    cases e
    exact q _ (sm.fm.set r) ⟨by rw [List.length_set], fun j hj => by rw [List.getElem?_set_ne (by simpa [eq_comm] using hj)]⟩
/-- several targets from the left -/
abbrev MGs := List U → Sg → Option Sg
def tGs (T : Tb) (vs : List Nat) (m : MGs) : TGs := fun ws σ H Q => ∃ s G ρ Z us, Sm T σ H s G ρ Z ∧ Reps T ρ Z H ws us ∧ ∃ s', m us s = some s' ∧ ∀ σ', Fm T ρ Z H σ' s' → Stay vs σ σ' → Q σ' H
def nilG : MGs := fun us s => match us with
  | [] => some s
  | _ => none
def consG (m : MG) (ms : MGs) : MGs := fun us s => match us with
  | u :: r => match m u s with
    | some s' => ms r s'
    | none => none
  | [] => none
theorem PGs.imp {es : List Expr} {t t' : TGs} (h : PGs X es t) (i : ∀ v σ H Q, t' v σ H Q → t v σ H Q) : PGs X es t' := ⟨fun pins s σ H v u Q I r q => h.run pins s σ H v u Q I r (i v σ H Q q)⟩
theorem fg_nil : PGs X [] (tGs T [] nilG) := PGs.imp pgs_nil fun vs σ H Q ⟨s, G, ρ, Z, us, sm, r, s', e, q⟩ => by
  unfold nilG at e
  split at e
  · cases e
    cases r
    exact ⟨rfl, q σ sm.fm ⟨rfl, fun _ _ => rfl⟩⟩
  · cases e
theorem fg_cons {vs ws : List Nat} {m : MG} {ms : MGs} (h1 : PG X e (tG T vs m)) (h2 : PGs X es (tGs T ws ms)) (hs : noStar e = true) : PGs X (e :: es) (tGs T (vs ++ ws) (consG m ms)) :=
  PGs.imp (pgs_cons h1 h2 (by rw [assign_cons hs] <;> rfl)) fun vs' σ H Q ⟨s, G, ρ, Z, us, sm, r, s', e1, q⟩ => by
    unfold consG at e1
    split at e1
    · rename_i u ur
      cases r with
      | cons r1 r2 =>
        split at e1
        · rename_i s2 e2
          refine ⟨_, _, rfl, s, G, ρ, Z, u, sm, r1, s2, e2, fun σ2 f2 st2 => ?_⟩
          exact ⟨s2, G, ρ, Z, ur, ⟨sm.rl, f2⟩, r2, s', e1, fun σ3 f3 st3 => q σ3 f3 ⟨st3.1.trans st2.1, fun j hj => by
            have h1 : j ∉ vs := fun z => hj (List.mem_append_left _ z)
            have h2 : j ∉ ws := fun z => hj (List.mem_append_right _ z)
            rw [st3.2 j h2, st2.2 j h1]⟩⟩
        · cases e1
    · cases e1
def tupG (n : Nat) (ms : MGs) : MG := fun u s => match u with
  | .tup us => if us.length = n then ms us s else none
  | _ => none
theorem fg_tup {vs : List Nat} {ms : MGs} {k : Nat} (hT : X.K = T.K) (hc : X.calm = true) (h : PGs X es (tGs T vs ms)) (hs : es.all noStar = true) : PG X (.Tuple es k pos) (tG T vs (tupG es.length ms)) :=
  PG.imp (pg_tup hc h (assign_len hs) (assign_idx hs)) fun v σ H Q ⟨s, G, ρ, Z, u, sm, r, s', e, q⟩ => by
    unfold tupG at e
    split at e
    · rename_i us
      split at e
      · rename_i hl
        obtain ⟨a, vs, rfl, h1, h2⟩ := r.inv_tup
        exact ⟨a, vs, rfl, hT ▸ h1, by rw [h2.length]; exact hl, s, G, ρ, Z, us, sm, h2, s', e, q⟩
      · cases e
    · cases e
end
end FL

/-! FL11: statements; for, while, comprehensions. -/
namespace FL
open PySem L2 PyProof.Rows
/-- the part of Ex that what is frozen needs -/
structure Fz (ρ : List Addr) (Z : Addr → Prop) (H : Hp) (ρ' : List Addr) (Z' : Addr → Prop) (H' : Hp) : Prop where
  pre : ∃ t, ρ' = ρ ++ t
  fz : ∀ a o, H a = some o → ¬ Z a → H' a = some o ∧ ¬ Z' a
section
variable {ρ ρ1 ρ2 : List Addr} {Z Z1 Z2 : Addr → Prop} {H H1 H2 : Hp}
theorem Ex.toFz (x : Ex ρ Z H ρ1 Z1 H1) : Fz ρ Z H ρ1 Z1 H1 := ⟨x.pre, x.fz⟩
theorem Fz.refl : Fz ρ Z H ρ Z H := Ex.refl.toFz
theorem Fz.trans (x : Fz ρ Z H ρ1 Z1 H1) (y : Fz ρ1 Z1 H1 ρ2 Z2 H2) : Fz ρ Z H ρ2 Z2 H2 := by
  refine ⟨?_, fun a o h z => ?_⟩
  · obtain ⟨t, e⟩ := x.pre
    obtain ⟨u, e'⟩ := y.pre
    exact ⟨t ++ u, by rw [e', e, List.append_assoc]⟩
  · obtain ⟨h1, z1⟩ := x.fz a o h z
    exact y.fz a o h1 z1
end
section
variable {X : Cx} {T : Tb} {W : WX} {tg : Expr} {p pos : Pos} {a e : Expr} {es : List Expr} {ma : ME} {mas : MA} {st : Stmt} {rest body orelse : List Stmt} {m m1 m2 : MS} {c : Expr} {mc : MT}
/-! ### blocks -/
def nxM : MS := fun s G => .nx s G
def seqM (m1 m2 : MS) : MS := fun s G => match m1 s G with
  | .nx s1 G1 => m2 s1 G1
  | r => r
theorem fss_nil : PSs X [] (tS T W nxM) := PSs.imp pss_nil fun D σ H ⟨s, G, ρ, Z, sm, q⟩ => q σ H ρ Z Ex.refl sm
theorem fss_cons (h1 : PS X st (tS T W m1)) (h2 : PSs X rest (tS T W m2)) : PSs X (st :: rest) (tS T W (seqM m1 m2)) :=
  PSs.imp (pss_cons h1 h2) fun D σ H ⟨s, G, ρ, Z, sm, q⟩ => by
    refine ⟨s, G, ρ, Z, sm, ?_⟩
    unfold seqM at q
    cases e : m1 s G with
    | nx s1 G1 =>
      rw [e] at q
      exact fun σ' H' ρ' Z' x sm' => ⟨s1, G1, ρ', Z', sm', RS.ex q x⟩
    | rt u G1 => rw [e] at q; exact q
    | bk s1 G1 => rw [e] at q; exact q
    | ct s1 G1 => rw [e] at q; exact q
    | exc x s1 G1 => rw [e] at q; exact q
    | bad => rw [e] at q; exact q
theorem fss_one (h1 : PS X st (tS T W m1)) : PSs X [st] (tS T W m1) := pss_one h1
def bkM : MS := fun s G => .bk s G
def ctM : MS := fun s G => .ct s G
theorem fs_pass : PS X (.Pass pos) (tS T W nxM) := PS.imp ps_pass fun D σ H ⟨s, G, ρ, Z, sm, q⟩ => q σ H ρ Z Ex.refl sm
theorem fs_break : PS X (.Break pos) (tS T W bkM) := PS.imp ps_break fun D σ H ⟨s, G, ρ, Z, sm, q⟩ => q σ H ρ Z Ex.refl sm
theorem fs_continue : PS X (.Continue pos) (tS T W ctM) := PS.imp ps_continue fun D σ H ⟨s, G, ρ, Z, sm, q⟩ => q σ H ρ Z Ex.refl sm
/-- an expression, then what is done with its value -/
def stE (m : ME) (f : U → MS) : MS := fun s G => match m s G with
  | .ok u G1 => f u s G1
  | .exc x G1 => .exc x s G1
  | .bad => .bad
theorem stE_imp {f : U → MS} {σ : L2.St} {H : Hp} {D : Ends} {k : VK} (q : tS T W (stE ma f) D σ H)
    (hk : ∀ u s G v H' ρ' Z', Sm T σ H' s G ρ' Z' → Rep T ρ' Z' H' v u → RS T W σ H' ρ' Z' D (f u s G) → k v H') : tE T W ma σ H k := by
  obtain ⟨s, G, ρ, Z, sm, q⟩ := q
  refine ⟨s, G, ρ, Z, sm, ?_⟩
  unfold stE at q
  cases e : ma s G with
  | ok u G1 =>
    rw [e] at q
    exact fun v H' ρ' Z' x rl r => hk u s G1 v H' ρ' Z' (sm.ex x rl) r (RS.ex q x)
  | exc x G1 =>
    rw [e] at q
    exact fun cls d H' ρ' Z' y rl a => q cls d σ H' ρ' Z' y (sm.ex y rl) a
  | bad => rw [e] at q; exact q
theorem fs_expr (he : PE X e (tE T W ma)) (h : noComp e = true) : PS X (.Expr e pos) (tS T W (stE ma fun _ => nxM)) :=
  PS.imp (ps_expr he (swaps_no h)) fun D σ H q => stE_imp q fun u s G v H' ρ' Z' sm r q => q σ H' ρ' Z' Ex.refl sm
theorem fs_doc {x : Str} {j : Nat} {pos' : Pos} : PS X (.Expr (.Constant (.str x) j pos) pos') (tS T W nxM) := PS.imp ps_doc fun D σ H ⟨s, G, ρ, Z, sm, q⟩ => q σ H ρ Z Ex.refl sm
def rtM : U → MS := fun u _ G => .rt u G
theorem fs_ret (he : PE X e (tE T W ma)) : PS X (.Return (some e) pos) (tS T W (stE ma rtM)) :=
  PS.imp (ps_ret he) fun D σ H q => stE_imp q fun u s G v H' ρ' Z' sm r q => q v H' ρ' Z' Ex.refl sm.rl r
theorem fs_retN : PS X (.Return none pos) (tS T W (fun _ G => .rt .non G)) := PS.imp ps_retN fun D σ H ⟨s, G, ρ, Z, sm, q⟩ => q _ H ρ Z Ex.refl sm.rl .non
def ifM (c : MT) (a b : MS) : MS := fun s G => match c s G with
  | .ok true G1 => a s G1
  | .ok false G1 => b s G1
  | .exc x G1 => .exc x s G1
  | .bad => .bad
theorem fs_if (hc : PT X c (tT T W mc)) (ha : PSs X body (tS T W m1)) (hb : PSs X orelse (tS T W m2)) : PS X (.If c body orelse pos) (tS T W (ifM mc m1 m2)) :=
  PS.imp (ps_if hc ha hb) fun D σ H ⟨s, G, ρ, Z, sm, q⟩ => by
    refine ⟨s, G, ρ, Z, sm, ?_⟩
    unfold ifM at q
    cases e : mc s G with
    | ok k G1 =>
      rw [e] at q
      intro H' ρ' Z' x rl
      cases k with
      | true => rw [if_pos rfl]; exact ⟨s, G1, ρ', Z', sm.ex x rl, RS.ex q x⟩
      | false => rw [if_neg Bool.false_ne_true]; exact ⟨s, G1, ρ', Z', sm.ex x rl, RS.ex q x⟩
    | exc x G1 =>
      rw [e] at q
      exact fun cls d H' ρ' Z' y rl a => q cls d σ H' ρ' Z' y (sm.ex y rl) a
    | bad => rw [e] at q; exact q
/-- name = e -/
def setM (i : Nat) : U → MS := fun u s G => .nx (s.set i (some u)) G
theorem fs_set {i : Nat} {x : Str} {pos' : Pos} (hN : X.N.Nodup) (hi : X.N[i]? = some x) (hx : Loc X.env.scope x) (he : PE X e (tE T W ma)) (hs : swapsWith e (some (.Name x pos')) pos.line X.env = pure false) (hf : X.fn x = true ∨ X.env.scope.names.lookup x = some .local) :
    PS X (.Assign [.Name x pos'] e pos) (tS T W (stE ma (setM i))) :=
  PS.imp (ps_set hN hi hx he hs hf) fun D σ H q => stE_imp q fun u s G v H' ρ' Z' sm r q => q _ H' ρ' Z' Ex.refl ⟨sm.rl, sm.fm.set r⟩
/-- target = e, the target some names -/
def asgM (g : MG) : U → MS := fun u s G => match g u s with
  | some s' => .nx s' G
  | none => .bad
theorem fs_asg {g : MG} {vs : List Nat} (he : PE X e (tE T W ma)) (hg : PG X tg (tG T vs g)) (h1 : notName tg = true) (h2 : notTT tg e = true) (h3 : noStar tg = true) :
    PS X (.Assign [tg] e pos) (tS T W (stE ma (asgM g))) :=
  PS.imp (ps_asg he hg (swaps_sole h1) (swapped_no h2) (assign_one h3)) fun D σ H q => stE_imp q fun u s G v H' ρ' Z' sm r q => by
    unfold asgM at q
    cases e1 : g u s with
    | none => rw [e1] at q; exact q.elim
    | some s' =>
      rw [e1] at q
      exact ⟨s, G, ρ', Z', u, sm, r, s', e1, fun σ' f _ => q σ' H' ρ' Z' Ex.refl ⟨sm.rl, f⟩⟩

/-! ### for -/
def forL (b : Itb) (g : MG) (body : MS) : Nat → Nat → MS
  | 0, k => fun s G => match itAt b G k with
    | some none => .nx s G
    | _ => .bad
  | m + 1, k => fun s G => match itAt b G k with
    | some (some u) => match g u s with
      | some s1 => match body s1 G with
        | .nx s2 G2 => forL b g body m (k + 1) s2 G2
        | .ct s2 G2 => forL b g body m (k + 1) s2 G2
        | .bk s2 G2 => .nx s2 G2
        | r => r
      | none => .bad
    | _ => .bad
def forM (it : MI) (g : MG) (body : MS) : MS := fun s G => match it s G with
  | .ok b G1 => forL b.1 g body b.2 0 s G1
  | .exc x G1 => .exc x s G1
  | .bad => .bad
theorem fs_for {it : MI} {g : MG} {vs : List Nat} (hp : PassesOwn (model X.prog X.w) X.A X.env X.xe) (hc : X.calm = true) (hi : PI X tg a (tI T W it)) (hg : PG X tg (tG T vs g)) (hb : PSs X body (tS T W m)) (hs : noSet a = true) : PS X (.For tg a body [] pos) (tS T W (forM it g m)) :=
  PS.imp (ps_for hp hc hi hg hb (folded_no hs)) fun D σ H ⟨s, G, ρ, Z, sm, q⟩ => by
    refine ⟨s, G, ρ, Z, sm, ?_⟩
    unfold forM at q
    cases e : it s G with
    | bad => rw [e] at q; exact q
    | exc x G1 =>
      rw [e] at q
      exact fun cls d H' ρ' Z' y rl a => q cls d σ H' ρ' Z' y (sm.ex y rl) a
    | ok b G1 =>
      rw [e] at q
      intro J H1 ρ1 Z1 x1 rl1 io
      refine ⟨fun i k σ' H' => ∃ s' G' ρ' Z', Fz ρ1 Z1 H1 ρ' Z' H' ∧ Sm T σ' H' s' G' ρ' Z' ∧ RS T W σ' H' ρ' Z' D (forL b.1 g m k i s' G'), ⟨b.2, s, G1, ρ1, Z1, Fz.refl, sm.ex x1 rl1, RS.ex q x1⟩, ?_⟩
      rintro i k σ' H' ⟨s', G', ρ', Z', f', sm', q'⟩
      obtain ⟨io1, io2⟩ := io ρ' Z' G' H' f'.pre f'.fz sm'.rl i
      cases k with
      | zero =>
        unfold forL at q'
        split at q'
        · rename_i hst
          exact .inl ⟨io2 hst, q' σ' H' ρ' Z' Ex.refl sm'⟩
        · exact q'.elim
      | succ k =>
        unfold forL at q'
        split at q'
        · rename_i u hst
          obtain ⟨go, yl⟩ := io1 u hst
          refine .inr ⟨go, fun σ2 H2 => ∃ s2 G2 ρ2 Z2, Fz ρ1 Z1 H1 ρ2 Z2 H2 ∧ Sm T σ2 H2 s2 G2 ρ2 Z2 ∧ RS T W σ2 H2 ρ2 Z2 D (forL b.1 g m k (i + 1) s2 G2), fun σ2 H2 w => ⟨k, Nat.lt_succ_self k, w⟩, fun y H2 hy => ?_⟩
          obtain ⟨x2, rl2, r2⟩ := yl y H2 hy
          have sm2 := sm'.ex x2 rl2
          have q2 := RS.ex (σ' := σ') q' x2
          split at q2
          · rename_i s1 hg1
            refine ⟨s', G', ρ', Z', u, sm2, r2, s1, hg1, fun σ3 f3 _ => ⟨s1, G', ρ', Z', ⟨rl2, f3⟩, ?_⟩⟩
            cases e3 : m s1 G' with
            | nx s3 G3 =>
              rw [e3] at q2
              exact fun σ4 H4 ρ4 Z4 x4 sm4 => ⟨s3, G3, ρ4, Z4, (f'.trans x2.toFz).trans x4.toFz, sm4, RS.ex q2 x4⟩
            | ct s3 G3 =>
              rw [e3] at q2
              exact fun σ4 H4 ρ4 Z4 x4 sm4 => ⟨s3, G3, ρ4, Z4, (f'.trans x2.toFz).trans x4.toFz, sm4, RS.ex q2 x4⟩
            | bk s3 G3 => rw [e3] at q2; exact q2
            | rt u3 G3 => rw [e3] at q2; exact q2
            | exc x3 s3 G3 => rw [e3] at q2; exact q2
            | bad => rw [e3] at q2; exact q2
          · exact q2.elim
        · exact q'.elim

/-! ### while -/
def whileL (c : MT) (body : MS) : Nat → MS
  | 0 => fun _ _ => .bad
  | k + 1 => fun s G => match c s G with
    | .ok true G1 => match body s G1 with
      | .nx s2 G2 => whileL c body k s2 G2
      | .ct s2 G2 => whileL c body k s2 G2
      | .bk s2 G2 => .nx s2 G2
      | r => r
    | .ok false G1 => .nx s G1
    | .exc x G1 => .exc x s G1
    | .bad => .bad
theorem fs_while {n : Nat} (hp : PassesOwn (model X.prog X.w) X.A X.env X.xe) (hc : PT X c (tT T W mc)) (hb : PSs X body (tS T W m)) : PS X (.While c body [] pos) (tS T W (whileL mc m n)) :=
  PS.imp (ps_while hp hc hb) fun D σ H ⟨s, G, ρ, Z, sm, q⟩ => by
    refine ⟨fun k σ' H' => ∃ s' G' ρ' Z', Sm T σ' H' s' G' ρ' Z' ∧ RS T W σ' H' ρ' Z' D (whileL mc m k s' G'), ⟨n, s, G, ρ, Z, sm, q⟩, ?_⟩
    rintro k σ' H' ⟨s', G', ρ', Z', sm', q'⟩
    refine ⟨s', G', ρ', Z', sm', ?_⟩
    cases k with
    | zero => exact q'.elim
    | succ k =>
      unfold whileL at q'
      cases e : mc s' G' with
      | bad => rw [e] at q'; exact q'
      | exc x G1 =>
        rw [e] at q'
        exact fun cls d H' ρ' Z' y rl a => q' cls d σ' H' ρ' Z' y (sm'.ex y rl) a
      | ok t G1 =>
        rw [e] at q'
        intro H1 ρ1 Z1 x1 rl1
        have q1 := RS.ex (σ' := σ') q' x1
        cases t with
        | false =>
          rw [if_neg Bool.false_ne_true]
          exact q1 σ' H1 ρ1 Z1 Ex.refl (sm'.ex x1 rl1)
        | true =>
          rw [if_pos rfl]
          refine ⟨fun σ2 H2 => ∃ s2 G2 ρ2 Z2, Sm T σ2 H2 s2 G2 ρ2 Z2 ∧ RS T W σ2 H2 ρ2 Z2 D (whileL mc m k s2 G2), fun σ2 H2 w => ⟨k, Nat.lt_succ_self k, w⟩, s', G1, ρ1, Z1, sm'.ex x1 rl1, ?_⟩
          simp only at q1
          cases e3 : m s' G1 with
          | nx s3 G3 =>
            rw [e3] at q1
            exact fun σ4 H4 ρ4 Z4 x4 sm4 => ⟨s3, G3, ρ4, Z4, sm4, RS.ex q1 x4⟩
          | ct s3 G3 =>
            rw [e3] at q1
            exact fun σ4 H4 ρ4 Z4 x4 sm4 => ⟨s3, G3, ρ4, Z4, sm4, RS.ex q1 x4⟩
          | bk s3 G3 => rw [e3] at q1; exact q1
          | rt u3 G3 => rw [e3] at q1; exact q1
          | exc x3 s3 G3 => rw [e3] at q1; exact q1
          | bad => rw [e3] at q1; exact q1
end
end FL

/-! FL12: list comprehensions. -/
namespace FL
open PySem L2 PyProof.Rows
def wipeS (s : Sg) : List Nat → Sg
  | [] => s
  | v :: vs => (wipeS s vs).set v none
def compL (b : Itb) (g : MG) (t : MT) (e : ME) (s0 : Sg) : Nat → Nat → List Ob → Option (List U × List Ob)
  | 0, k => fun G => match itAt b G k with
    | some none => some ([], G)
    | _ => none
  | m + 1, k => fun G => match itAt b G k with
    | some (some u) => match g u s0 with
      | some s1 => match t s1 G with
        | .ok true G1 => match e s1 G1 with
          | .ok y G2 => match compL b g t e s0 m (k + 1) G2 with
            | some (r, G3) => some (y :: r, G3)
            | none => none
          | _ => none
        | .ok false G1 => compL b g t e s0 m (k + 1) G1
        | _ => none
      | none => none
    | _ => none
def compE (mu : Bool) : Option (List U × List Ob) → Rs U
  | some (us, G) => newL mu us G
  | none => .bad
def compM (mu : Bool) (it : MI) (g : MG) (t : MT) (e : ME) (own : List Nat) : ME := fun s G => match it s G with
  | .ok b G1 => compE mu (compL b.1 g t e (wipeS s own) b.2 0 G1)
  | .exc x G1 => .exc x G1
  | .bad => .bad
abbrev WF : WX := fun _ _ _ _ => False

theorem set_none_get (σ : L2.St) (v j : Nat) : (σ.set v none)[j]? = if v = j then (σ[j]?).map (fun _ => none) else σ[j]? := by
  by_cases h : v = j
  · subst h
    rw [if_pos rfl, List.getElem?_set]
    by_cases hl : v < σ.length
    · simp [hl]
    · simp [hl]
  · rw [if_neg h, List.getElem?_set_ne h]
theorem wipe_get (σ : L2.St) : ∀ (vs : List Nat) (j : Nat), (wipe σ vs)[j]? = if j ∈ vs then (σ[j]?).map (fun _ => none) else σ[j]?
  | [], j => by simp [wipe]
  | v :: vs, j => by
    show ((wipe σ vs).set v none)[j]? = _
    rw [set_none_get, wipe_get σ vs j]
    by_cases h : v = j
    · subst h
      by_cases h2 : v ∈ vs
      · rw [if_pos rfl, if_pos h2, if_pos List.mem_cons_self]
        cases σ[v]? <;> rfl
      · rw [if_pos rfl, if_neg h2, if_pos List.mem_cons_self]
    · by_cases h2 : j ∈ vs
      · rw [if_neg h, if_pos h2, if_pos (List.mem_cons_of_mem _ h2)]
      · rw [if_neg h, if_neg h2, if_neg (fun z => (List.mem_cons.mp z).elim (fun e => h e.symm) h2)]
theorem wipe_eq {σ σ' : L2.St} {vs ws : List Nat} (hs : ∀ j ∈ ws, j ∈ vs) (st : Stay ws (wipe σ vs) σ') : wipe σ' vs = wipe σ vs := by
  apply List.ext_getElem?
  intro j
  rw [wipe_get, wipe_get]
  by_cases h : j ∈ vs
  · simp only [h, if_true]
    have hl := st.1
    rw [wipe_length] at hl
    by_cases hj : j < σ.length
    · rw [List.getElem?_eq_getElem hj, List.getElem?_eq_getElem (by rw [hl]; exact hj)]; rfl
    · rw [List.getElem?_eq_none_iff.mpr (by omega), List.getElem?_eq_none_iff.mpr (by omega)]
  · simp only [h, if_false]
    rw [st.2 j (fun z => h (hs j z)), wipe_get, if_neg h]
theorem wipeS_get (s : Sg) : ∀ (vs : List Nat) (j : Nat) (u : U), (wipeS s vs)[j]? = some (some u) → s[j]? = some (some u) ∧ j ∉ vs
  | [], j, u, e => ⟨e, by simp⟩
  | v :: vs, j, u, e => by
    have e : ((wipeS s vs).set v none)[j]? = some (some u) := e
    by_cases h : v = j
    · subst h
      rw [List.getElem?_set] at e
      simp at e
    · rw [List.getElem?_set_ne h] at e
      obtain ⟨h1, h2⟩ := wipeS_get s vs j u e
      exact ⟨h1, by simp [Ne.symm h, h2]⟩
theorem wipeS_length (s : Sg) : ∀ vs : List Nat, (wipeS s vs).length = s.length
  | [] => rfl
  | v :: vs => by unfold wipeS; rw [List.length_set, wipeS_length s vs]
section
variable {T : Tb} {ρ ρ1 : List Addr} {Z Z1 : Addr → Prop} {H H1 : Hp} {G : List Ob} {D : Addr}
theorem Fm.wipe {σ : L2.St} {s : Sg} (f : Fm T ρ Z H σ s) (vs : List Nat) : Fm T ρ Z H (L2.wipe σ vs) (wipeS s vs) :=
  ⟨by rw [wipe_length, wipeS_length, f.1], fun i u e => by
    obtain ⟨h1, h2⟩ := wipeS_get s vs i u e
    obtain ⟨v, e1, r⟩ := f.2 i u h1
    exact ⟨v, by rw [wipe_get, if_neg h2]; exact e1, r⟩⟩
/-- the growing list at D is another's cell -/
structure Gr (T : Tb) (ρ : List Addr) (Z : Addr → Prop) (G : List Ob) (H : Hp) (D : Addr) (vs : List V) (acc : List U) : Prop where
  rl : Rl T ρ Z G H
  z : Z D
  n : D ∉ ρ
  at_ : H D = some (.lst vs)
  r : Reps T ρ Z H vs acc
theorem Gr.start (rl : Rl T ρ Z G H) (hD : H D = none) : Gr T ρ (zOr Z D) G (upd H D (.lst [])) D [] [] ∧ Ex ρ Z H ρ (zOr Z D) (upd H D (.lst [])) := by
  have x : Ex ρ Z H ρ (zOr Z D) (upd H D (.lst [])) := ⟨⟨[], by simp⟩, fun a o h z => ⟨by rw [upd_ne (ne_of_none h hD)]; exact h, fun q => q.elim z (ne_of_none h hD)⟩,
    fun a o h z n => ⟨by rw [upd_ne (ne_of_none h hD)]; exact h, .inl z, n⟩, (ex_new (ρ := ρ) (Z := Z) hD).th⟩
  refine ⟨⟨⟨rl.len, rl.nd, fun a z => ?_, fun a h => x.th a (rl.trk a h), fun i a o h g => ObAt.ex rl.zm x (rl.ob i a o h g) (fun u e => by rw [upd_ne (ne_of_none e hD)]; exact e) .inl⟩, .inr rfl, rl.nin hD, upd_same, .nil⟩, x⟩
  rcases z with z | z
  · rw [upd_ne (fun e : a = D => rl.nz hD (e ▸ z))]
    exact rl.zm a z
  · subst z
    rw [upd_same]
    trivial
theorem Gr.ex {ρ' : List Addr} {Z' : Addr → Prop} {H' : Hp} {G' : List Ob} {vs : List V} {acc : List U} (g : Gr T ρ Z G H D vs acc) (x : Ex ρ Z H ρ' Z' H') (rl : Rl T ρ' Z' G' H') : Gr T ρ' Z' G' H' D vs acc := by
  obtain ⟨h1, h2, h3⟩ := x.ou D _ g.at_ g.z g.n
  exact ⟨rl, h2, h3, h1, g.r.ex g.rl.zm x⟩
theorem Gr.more {vs : List V} {acc : List U} {v : V} {u : U} (g : Gr T ρ Z G H D vs acc) (r : Rep T ρ Z H v u) : Gr T ρ Z G (upd H D (.lst (vs ++ [v]))) D (vs ++ [v]) (acc ++ [u]) := by
  have fz : ∀ a o, H a = some o → ¬ Z a → upd H D (.lst (vs ++ [v])) a = some o ∧ ¬ Z a := fun a o h z => ⟨by rw [upd_ne (fun e : a = D => z (e ▸ g.z))]; exact h, z⟩
  refine ⟨⟨g.rl.len, g.rl.nd, fun a z => ?_, fun a h => ?_, fun i a o h gg => ?_⟩, g.z, g.n, upd_same, (g.r.append (.cons r .nil)).exf ⟨[], by simp⟩ fz g.rl.zm⟩
  · by_cases e : a = D
    · subst e; rw [upd_same]; trivial
    · rw [upd_ne e]; exact g.rl.zm a z
  · rw [upd_ne (fun e : a = D => g.n (e ▸ h))]
    exact g.rl.trk a h
  · have hne : a ≠ D := fun e => g.n (e ▸ List.mem_of_getElem? h)
    have ho := g.rl.ob i a o h gg
    cases o with
    | dead => trivial
    | lst us =>
      obtain ⟨z, ws, h1, h2⟩ := ho
      exact ⟨z, ws, by rw [upd_ne hne]; exact h1, h2.exf ⟨[], by simp⟩ fz g.rl.zm⟩
    | dct l =>
      obtain ⟨z, ws, h1, h2⟩ := ho
      exact ⟨z, ws, by rw [upd_ne hne]; exact h1, h2.exf ⟨[], by simp⟩ fz g.rl.zm⟩
    | ins c l =>
      obtain ⟨z, C, dx, ws, h1, h2, h3⟩ := ho
      exact ⟨z, C, dx, ws, by rw [upd_ne hne]; exact h1, h2, h3.exf ⟨[], by simp⟩ fz g.rl.zm⟩
theorem ex_grow {o : HO} (x : Ex ρ1 Z1 H1 ρ Z H) (hD : H1 D = none) : Ex ρ1 Z1 H1 ρ Z (upd H D o) :=
  ⟨x.pre, fun a u h z => ⟨by rw [upd_ne (ne_of_none h hD)]; exact (x.fz a u h z).1, (x.fz a u h z).2⟩, fun a u h z n => ⟨by rw [upd_ne (ne_of_none h hD)]; exact (x.ou a u h z n).1, (x.ou a u h z n).2⟩, fun a h => by
    by_cases e : a = D
    · subst e; rw [upd_same]; exact fun z => by cases z
    · rw [upd_ne e]; exact x.th a h⟩
/-- the list is done: frozen, or a cell -/
theorem Gr.done {W : WX} {σ : L2.St} {mu : Bool} {vs : List V} {acc : List U} {Q : VK} (g : Gr T ρ Z G H D vs acc) (x : Ex ρ1 Z1 H1 ρ Z H) (hD : H1 D = none) (q : RE T W σ H1 ρ1 Z1 Q (newL mu acc G)) : Q (.ref D) H := by
  unfold newL at q
  by_cases hz : acc.length ≤ szL
  · rw [if_pos hz] at q
    cases mu with
    | false =>
      have fz : ∀ a o, H a = some o → ¬ Z a → H a = some o ∧ ¬ (Z a ∧ a ≠ D) := fun a o h z => ⟨h, fun w => z w.1⟩
      refine q _ H ρ (fun a => Z a ∧ a ≠ D) ⟨x.pre, fun a o h z => ⟨(x.fz a o h z).1, fun w => (x.fz a o h z).2 w.1⟩, fun a o h z n => ⟨(x.ou a o h z n).1, ⟨(x.ou a o h z n).2.1, ne_of_none h hD⟩, (x.ou a o h z n).2.2⟩, x.th⟩ ?_ (.lst g.at_ (fun w => w.2 rfl) (g.r.exf ⟨[], by simp⟩ fz g.rl.zm))
      refine ⟨g.rl.len, g.rl.nd, fun a z => g.rl.zm a z.1, g.rl.trk, fun i a o h gg => ?_⟩
      have hne : a ≠ D := fun e => g.n (e ▸ List.mem_of_getElem? h)
      have ho := g.rl.ob i a o h gg
      cases o with
      | dead => trivial
      | lst us =>
        obtain ⟨z, ws, h1, h2⟩ := ho
        exact ⟨⟨z, hne⟩, ws, h1, h2.exf ⟨[], by simp⟩ fz g.rl.zm⟩
      | dct l =>
        obtain ⟨z, ws, h1, h2⟩ := ho
        exact ⟨⟨z, hne⟩, ws, h1, h2.exf ⟨[], by simp⟩ fz g.rl.zm⟩
      | ins c l =>
        obtain ⟨z, C, dx, ws, h1, h2, h3⟩ := ho
        exact ⟨⟨z, hne⟩, C, dx, ws, h1, h2, h3.exf ⟨[], by simp⟩ fz g.rl.zm⟩
    | true =>
      have fz : ∀ a o, H a = some o → ¬ Z a → H a = some o ∧ ¬ Z a := fun a o h z => ⟨h, z⟩
      refine q _ H (ρ ++ [D]) Z ⟨by obtain ⟨t, e⟩ := x.pre; exact ⟨t ++ [D], by rw [e, List.append_assoc]⟩, x.fz, fun a o h z n => ⟨(x.ou a o h z n).1, (x.ou a o h z n).2.1, fun w => by
        rcases List.mem_append.mp w with w | w
        · exact (x.ou a o h z n).2.2 w
        · exact ne_of_none h hD (by simpa using w)⟩, x.th⟩ ?_ (.ref (by rw [List.getElem?_append_right (by rw [g.rl.len]; exact Nat.le_refl _)]; simp [g.rl.len]))
      refine ⟨by rw [List.length_append, List.length_append, g.rl.len]; rfl, ?_, g.rl.zm, fun a h => ?_, fun i a o h gg => ?_⟩
      · rw [List.nodup_append]
        refine ⟨g.rl.nd, by simp, fun a ha b hb => ?_⟩
        have e : b = D := by simpa using hb
        subst e
        exact fun e => g.n (e ▸ ha)
      · rcases List.mem_append.mp h with h | h
        · exact g.rl.trk a h
        · have e : a = D := by simpa using h
          subst e
          rw [g.at_]
          exact fun z => by cases z
      · have up : ∀ {o : Ob}, ObAt T ρ Z H a o → ObAt T (ρ ++ [D]) Z H a o := fun {o} ho => by
          cases o with
          | dead => trivial
          | lst us =>
            obtain ⟨z, ws, h1, h2⟩ := ho
            exact ⟨z, ws, h1, h2.exf ⟨[D], rfl⟩ fz g.rl.zm⟩
          | dct l =>
            obtain ⟨z, ws, h1, h2⟩ := ho
            exact ⟨z, ws, h1, h2.exf ⟨[D], rfl⟩ fz g.rl.zm⟩
          | ins c l =>
            obtain ⟨z, C, dx, ws, h1, h2, h3⟩ := ho
            exact ⟨z, C, dx, ws, h1, h2, h3.exf ⟨[D], rfl⟩ fz g.rl.zm⟩
        by_cases hi : i < ρ.length
        · rw [List.getElem?_append_left hi] at h
          rw [List.getElem?_append_left (by rw [← g.rl.len]; exact hi)] at gg
          exact up (g.rl.ob i a o h gg)
        · have hi2 : i = ρ.length := by
            have := (List.getElem?_eq_some_iff.mp h).1
            simp at this
            omega
          subst hi2
          rw [List.getElem?_append_right (Nat.le_refl _)] at h
          rw [List.getElem?_append_right (by rw [g.rl.len]; exact Nat.le_refl _)] at gg
          simp [g.rl.len] at h gg
          subst h
          subst gg
          exact ⟨g.z, vs, g.at_, g.r.exf ⟨[D], rfl⟩ fz g.rl.zm⟩
  · rw [if_neg hz] at q
    exact q.elim
end
section
variable {X : Cx} {T : Tb} {W : WX} {tg : Expr} {p pos : Pos} {a elt : Expr}
theorem lc_top {it : MI} {g : MG} {ws : List Nat} {t : MT} {e : ME} {mu : Bool} {vs : List Nat} (hs : ∀ j ∈ ws, j ∈ vs) {σ : L2.St} {H : Hp} {Q : VK} (q : tE T W (compM mu it g t e vs) σ H Q) :
    tLc (tI T W it) (tG T ws g) (tT T WF t) (tE T WF e) vs σ H Q := by
  obtain ⟨s, G, ρ, Z, sm, q⟩ := q
  refine ⟨s, G, ρ, Z, sm, ?_⟩
  unfold compM at q
  cases e1 : it s G with
  | bad => rw [e1] at q; exact q
  | exc x G1 => rw [e1] at q; exact q
  | ok b G1 =>
    rw [e1] at q
    intro J H1 ρ1 Z1 x1 rl1 io D hD
    have q1 : RE T W σ H1 ρ1 Z1 Q (compE mu (compL b.1 g t e (wipeS s vs) b.2 0 G1)) := RE.ex q x1
    have f1 := (sm.fm.ex sm.rl.zm x1).wipe vs
    obtain ⟨g0, xs⟩ := Gr.start rl1 hD
    refine ⟨fun i k H' => ∃ ac vac G' ρ' Z', Ex ρ1 Z1 H1 ρ' Z' H' ∧ Gr T ρ' Z' G' H' D vac ac ∧ RE T W σ H1 ρ1 Z1 Q (compE mu ((compL b.1 g t e (wipeS s vs) k i G').map fun z => (ac ++ z.1, z.2))), ⟨b.2, [], [], G1, ρ1, zOr Z1 D, xs, g0, ?_⟩, ?_⟩
    · cases e2 : compL b.1 g t e (wipeS s vs) b.2 0 G1 with
      | none => rw [e2] at q1; exact q1
      | some z => rw [e2] at q1; exact q1
    rintro i k H' ⟨ac, vac, G', ρ', Z', x', g', q'⟩
    obtain ⟨io1, io2⟩ := io ρ' Z' G' H' x'.pre x'.fz g'.rl i
    cases k with
    | zero =>
      unfold compL at q'
      split at q'
      · rename_i hst
        have q2 : RE T W σ H1 ρ1 Z1 Q (newL mu (ac ++ []) G') := q'
        rw [List.append_nil] at q2
        exact .inl ⟨io2 hst, g'.done x' hD q2⟩
      · exact q'.elim
    | succ k =>
      unfold compL at q'
      split at q'
      · rename_i u hst
        obtain ⟨go, yl⟩ := io1 u hst
        refine .inr ⟨go, fun H2 => ∃ ac vac G' ρ' Z', Ex ρ1 Z1 H1 ρ' Z' H2 ∧ Gr T ρ' Z' G' H2 D vac ac ∧ RE T W σ H1 ρ1 Z1 Q (compE mu ((compL b.1 g t e (wipeS s vs) k (i + 1) G').map fun z => (ac ++ z.1, z.2))), fun H2 w => ⟨k, Nat.lt_succ_self k, w⟩, fun y H2 hy => ?_⟩
        obtain ⟨x2, rl2, r2⟩ := yl y H2 hy
        have g2 := g'.ex x2 rl2
        have f2 : Fm T ρ' Z' H2 (wipe σ vs) (wipeS s vs) := ⟨f1.1, fun j w ew => let ⟨v, ev, rv⟩ := f1.2 j w ew; ⟨v, ev, rv.exf (x'.trans x2).pre (x'.trans x2).fz rl1.zm⟩⟩
        split at q'
        · rename_i s1 hg1
          refine ⟨wipeS s vs, G', ρ', Z', u, ⟨rl2, f2⟩, r2, s1, hg1, fun σ3 f3 st3 => ⟨wipe_eq hs st3, s1, G', ρ', Z', ⟨rl2, f3⟩, ?_⟩⟩
          split at q'
          · rename_i G3 et
            rw [et]
            intro H3 ρ3 Z3 x3 rl3
            have g3 := g2.ex x3 rl3
            rw [if_pos rfl]
            have sm3 : Sm T σ3 H3 s1 G3 ρ3 Z3 := ⟨rl3, f3.ex rl2.zm x3⟩
            refine ⟨s1, G3, ρ3, Z3, sm3, ?_⟩
            split at q'
            · rename_i y4 G4 ee
              rw [ee]
              intro v H4 ρ4 Z4 x4 rl4 r4
              have g4 := g3.ex x4 rl4
              cases e5 : compL b.1 g t e (wipeS s vs) k (i + 1) G4 with
              | none => rw [e5] at q'; exact q'.elim
              | some z =>
                rw [e5] at q'
                have q5 : RE T W σ H1 ρ1 Z1 Q (newL mu (ac ++ (y4 :: z.1)) z.2) := q'
                have hlen : ac.length < szL := by
                  by_cases hz : (ac ++ (y4 :: z.1)).length ≤ szL
                  · simp at hz; omega
                  · unfold newL at q5; rw [if_neg hz] at q5; exact q5.elim
                refine ⟨vac, g4.at_, by rw [g4.r.length, szL_eq]; exact hlen, ac ++ [y4], vac ++ [v], G4, ρ4, Z4, ex_grow (((x'.trans x2).trans x3).trans x4) hD, g4.more r4, ?_⟩
                rw [e5]
                show RE T W σ H1 ρ1 Z1 Q (newL mu ((ac ++ [y4]) ++ z.1) z.2)
                rw [List.append_assoc]
                exact q5
            · exact q'.elim
          · rename_i G3 et
            rw [et]
            intro H3 ρ3 Z3 x3 rl3
            rw [if_neg Bool.false_ne_true]
            exact ⟨ac, vac, G3, ρ3, Z3, (x'.trans x2).trans x3, g2.ex x3 rl3, q'⟩
          · exact q'.elim
        · exact q'.elim
      · exact q'.elim
theorem fe_lc {ifs : List Expr} {scope : Scope} {own : List (Str × Nat)} {it : MI} {g : MG} {ws : List Nat} {t : MT} {e : ME} {mu : Bool} (hc : X.calm = true) (hN : X.N.Nodup) (hi : PI X tg a (tI T W it)) (ok : BlkOk X.N X.env.scope scope own) (hs : ∀ j ∈ ws, j ∈ own.map (·.2))
    (hg : ∀ (s : Shared) (H : Hp) (C : Addr) (cl : List (Str × Addr)) (fp : List Addr), PG (X.blk s H scope (compEnvC scope cl C X.env) fp) tg (tG T ws g)) (ht : ∀ (s : Shared) (H : Hp) (C : Addr) (cl : List (Str × Addr)) (fp : List Addr), PTs (X.blk s H scope (compEnvC scope cl C X.env) fp) ifs (tT T WF t))
    (he : ∀ (s : Shared) (H : Hp) (C : Addr) (cl : List (Str × Addr)) (fp : List Addr), PE (X.blk s H scope (compEnvC scope cl C X.env) fp) elt (tE T WF e)) (hf : noSet a = true) :
    PE X (.ListComp elt [⟨tg, a, ifs, 0⟩] scope pos) (tE T W (compM mu it g t e (own.map (·.2)))) :=
  PE.imp (pe_lc hc hN hi ok hg ht he (folded_no hf)) fun _ _ _ q => lc_top hs q
theorem fs_setLc {i : Nat} {y : Str} {py spos : Pos} {ifs : List Expr} {scope : Scope} {own : List (Str × Nat)} {it : MI} {g : MG} {ws : List Nat} {t : MT} {e : ME} {mu : Bool} (hc : X.calm = true) (hN : X.N.Nodup) (hy : X.N[i]? = some y) (hyl : X.env.scope.names.lookup y = some .local)
    (hsw : swapsWith (.ListComp elt [⟨tg, a, ifs, 0⟩] scope pos) (some (.Name y py)) spos.line X.env = pure true) (hi : PI X tg a (tI T W it)) (ok : BlkOk X.N X.env.scope scope own) (hs : ∀ j ∈ ws, j ∈ own.map (·.2))
    (hg : ∀ (s : Shared) (H : Hp) (C : Addr) (cl : List (Str × Addr)) (fp : List Addr), PG (X.blk s H scope (compEnvC scope cl C X.env) fp) tg (tG T ws g)) (ht : ∀ (s : Shared) (H : Hp) (C : Addr) (cl : List (Str × Addr)) (fp : List Addr), PTs (X.blk s H scope (compEnvC scope cl C X.env) fp) ifs (tT T WF t))
    (he : ∀ (s : Shared) (H : Hp) (C : Addr) (cl : List (Str × Addr)) (fp : List Addr), PE (X.blk s H scope (compEnvC scope cl C X.env) fp) elt (tE T WF e)) (hf : noSet a = true) :
    PS X (.Assign [.Name y py] (.ListComp elt [⟨tg, a, ifs, 0⟩] scope pos) spos) (tS T W (stE (compM mu it g t e (own.map (·.2))) (setM i))) :=
  PS.imp (ps_setLc hc hN hy hyl hsw hi ok hg ht he (folded_no hf)) fun D σ H q => lc_top hs (stE_imp q fun u s G v H' ρ' Z' sm r q => q _ H' ρ' Z' Ex.refl ⟨sm.rl, sm.fm.set r⟩)
def yesT : MT := fun _ G => .ok true G
theorem ft_nil : PTs X [] (tT T WF yesT) := ⟨fun pins s σ H Q I ⟨s', G, ρ, Z, sm, q⟩ => pts_nil.run pins s σ H Q I (q H ρ Z Ex.refl sm.rl)⟩
theorem ft_one {c : Expr} {t : MT} (h : PT X c (tT T WF t)) : PTs X [c] (tT T WF t) := pts_one h
end
end FL

/-! FL13: stores; isinstance; own ==; classes made with keywords. -/
namespace FL
open PySem L2 PyProof.Rows
section
variable {X : Cx} {T : Tb} {W : WX} {p pos apos : Pos} {a e o i : Expr} {es : List Expr} {ma mo mi : ME} {mas mks : MA} {k : Nat}
/-! ### o.f = e -/
def putU (f : Nat) (v : U) : List (Nat × U) → List (Nat × U)
  | [] => [(f, v)]
  | (g, x) :: r => if g = f then (g, v) :: r else (g, x) :: putU f v r
theorem repF_put {ρ : List Addr} {Z : Addr → Prop} {H : Hp} {kf : Nat} {f : Str} {v : V} {u : U} (hat : AttOk T) (hf : T.att[kf]? = some f) (r : Rep T ρ Z H v u) : ∀ {fv : List (Str × V)} {l : List (Nat × U)}, RepF T ρ Z H fv l → RepF T ρ Z H (putF f v fv) (putU kf u l)
  | _, _, .nil => .cons hf r .nil
  | _, _, .cons (f := g) (k := j) e q t => by
    by_cases h : j = kf
    · subst h
      rw [hf] at e
      cases e
      show RepF T ρ Z H (if f = f then (f, v) :: _ else _) (if j = j then (j, u) :: _ else _)
      rw [if_pos rfl, if_pos rfl]
      exact .cons hf r t
    · have hg : g ≠ f := fun z => by subst z; exact h (hat _ _ _ e hf)
      show RepF T ρ Z H (if g = f then _ else (g, _) :: putF f v _) (if j = kf then _ else (j, _) :: putU kf u _)
      rw [if_neg hg, if_neg h]
      exact .cons e q (repF_put hat hf r t)
theorem RepF.length {ρ : List Addr} {Z : Addr → Prop} {H : Hp} : ∀ {fv : List (Str × V)} {l : List (Nat × U)}, RepF T ρ Z H fv l → fv.length = l.length
  | _, _, .nil => rfl
  | _, _, .cons _ _ t => congrArg (· + 1) (RepF.length t)
/-- the value, then the receiver, then the store -/
def stE2 (mv mo : ME) (f : U → U → MS) : MS := fun s G => match mv s G with
  | .ok y G1 => match mo s G1 with
    | .ok o G2 => f y o s G2
    | .exc x G2 => .exc x s G2
    | .bad => .bad
  | .exc x G1 => .exc x s G1
  | .bad => .bad
def fldM (ok : Nat → Bool) (kf : Nat) : U → U → MS := fun y o s G => match o with
  | .ref i => match G[i]? with
    | some (.ins c l) => if ok c = true ∧ l.length < 1000 then .nx s (G.set i (.ins c (putU kf y l))) else .bad
    | _ => .bad
  | _ => .bad
theorem stE2_imp {mv mo : ME} {f : U → U → MS} {σ : L2.St} {H : Hp} {D : Ends} {k : V → V → Hp → Prop} (q : tS T W (stE2 mv mo f) D σ H)
    (hk : ∀ y o s G v w H' ρ' Z', Sm T σ H' s G ρ' Z' → Rep T ρ' Z' H' v y → Rep T ρ' Z' H' w o → RS T W σ H' ρ' Z' D (f y o s G) → k v w H') : tE T W mv σ H fun v H1 => tE T W mo σ H1 fun w H2 => k v w H2 := by
  obtain ⟨s, G, ρ, Z, sm, q⟩ := q
  refine ⟨s, G, ρ, Z, sm, ?_⟩
  unfold stE2 at q
  cases e : mv s G with
  | bad => rw [e] at q; exact q
  | exc x G1 =>
    rw [e] at q
    exact fun cls d H' ρ' Z' y rl a => q cls d σ H' ρ' Z' y (sm.ex y rl) a
  | ok y G1 =>
    rw [e] at q
    intro v H1 ρ1 Z1 x1 rl1 r1
    have sm1 := sm.ex x1 rl1
    have q1 := RS.ex (σ' := σ) q x1
    refine ⟨s, G1, ρ1, Z1, sm1, ?_⟩
    cases e2 : mo s G1 with
    | bad => simp only [e2] at q1; exact q1
    | exc x G2 =>
      simp only [e2] at q1
      exact fun cls d H' ρ' Z' y rl a => q1 cls d σ H' ρ' Z' y (sm1.ex y rl) a
    | ok o G2 =>
      simp only [e2] at q1
      exact fun w H2 ρ2 Z2 x2 rl2 r2 => hk y o s G2 v w H2 ρ2 Z2 (sm1.ex x2 rl2) (r1.ex rl1.zm x2) r2 (RS.ex q1 x2)
theorem fs_fld {f : Str} {kf : Nat} {ok : Nat → Bool} {pos' : Pos} (hat : AttOk T) (hf : T.att[kf]? = some f) (hok : ∀ c, ok c = true → FldOk X.K T c f) (ho : PE X o (tE T W mo)) (hv : PE X e (tE T W ma)) : PS X (.Assign [.Attribute o f pos'] e pos) (tS T W (stE2 ma mo (fldM ok kf))) :=
  PS.imp (ps_fld ho hv (swaps_other rfl)) fun D σ H q => stE2_imp q fun y o s G v w H' ρ' Z' sm r1 r2 q => by
    unfold fldM at q
    split at q
    · rename_i i
      split at q
      · rename_i c l g
        by_cases z : ok c = true ∧ l.length < 1000
        · rw [if_pos z] at q
          obtain ⟨b, ew, hb⟩ := r2.inv_ref
          obtain ⟨zb, C, dx, fv, h2, h3, h4⟩ := sm.rl.ob i b _ hb g
          obtain ⟨C', g1, g2, g3⟩ := (hok c z.1).cl
          have eC : C = C' := by rw [h3] at g1; exact Option.some.inj g1
          subst eC
          refine ⟨b, C, dx, fv, ew, h2, g2, g3, by rw [h4.length]; exact z.2, ?_⟩
          have hm : b ∈ ρ' := List.mem_of_getElem? hb
          refine q σ _ ρ' Z' (ex_set hm zb) ⟨sm.rl.set hb zb trivial ⟨zb, C, dx, _, upd_same, h3, (repF_put hat hf r1 h4).ex sm.rl.zm (ex_set hm zb)⟩, sm.fm.ex sm.rl.zm (ex_set hm zb)⟩
        · rw [if_neg z] at q
          exact q.elim
      · exact q.elim
    · exact q.elim

/-! ### xs[i] = e -/
def stE3 (mv mo mi : ME) (f : U → U → U → MS) : MS := fun s G => match mv s G with
  | .ok y G1 => match mo s G1 with
    | .ok o G2 => match mi s G2 with
      | .ok i G3 => f y o i s G3
      | .exc x G3 => .exc x s G3
      | .bad => .bad
    | .exc x G2 => .exc x s G2
    | .bad => .bad
  | .exc x G1 => .exc x s G1
  | .bad => .bad
theorem stE3_imp {mv mo mi : ME} {f : U → U → U → MS} {σ : L2.St} {H : Hp} {D : Ends} {k : V → V → V → Hp → Prop} (q : tS T W (stE3 mv mo mi f) D σ H)
    (hk : ∀ y o i s G v w j H' ρ' Z', Sm T σ H' s G ρ' Z' → Rep T ρ' Z' H' v y → Rep T ρ' Z' H' w o → Rep T ρ' Z' H' j i → RS T W σ H' ρ' Z' D (f y o i s G) → k v w j H') : tE T W mv σ H fun v H1 => tE T W mo σ H1 fun w H2 => tE T W mi σ H2 fun j H3 => k v w j H3 := by
  obtain ⟨s, G, ρ, Z, sm, q⟩ := q
  refine ⟨s, G, ρ, Z, sm, ?_⟩
  unfold stE3 at q
  cases e : mv s G with
  | bad => rw [e] at q; exact q
  | exc x G1 =>
    rw [e] at q
    exact fun cls d H' ρ' Z' y rl a => q cls d σ H' ρ' Z' y (sm.ex y rl) a
  | ok y G1 =>
    rw [e] at q
    intro v H1 ρ1 Z1 x1 rl1 r1
    have sm1 := sm.ex x1 rl1
    have q1 := RS.ex (σ' := σ) q x1
    refine ⟨s, G1, ρ1, Z1, sm1, ?_⟩
    cases e2 : mo s G1 with
    | bad => simp only [e2] at q1; exact q1
    | exc x G2 =>
      simp only [e2] at q1
      exact fun cls d H' ρ' Z' y rl a => q1 cls d σ H' ρ' Z' y (sm1.ex y rl) a
    | ok o G2 =>
      simp only [e2] at q1
      intro w H2 ρ2 Z2 x2 rl2 r2
      have sm2 := sm1.ex x2 rl2
      have q2 := RS.ex (σ' := σ) q1 x2
      refine ⟨s, G2, ρ2, Z2, sm2, ?_⟩
      cases e3 : mi s G2 with
      | bad => simp only [e3] at q2; exact q2
      | exc x G3 =>
        simp only [e3] at q2
        exact fun cls d H' ρ' Z' y rl a => q2 cls d σ H' ρ' Z' y (sm2.ex y rl) a
      | ok i G3 =>
        simp only [e3] at q2
        exact fun j H3 ρ3 Z3 x3 rl3 r3 => hk y o i s G3 v w j H3 ρ3 Z3 (sm2.ex x3 rl3) ((r1.ex rl1.zm x2).ex rl2.zm x3) (r2.ex rl2.zm x3) r3 (RS.ex q2 x3)
/-! keys of a dict -/
def keyEq : U → U → Bool
  | .int a, .int b => a == b
  | .str a, .str b => a == b
  | _, _ => false
def keyB : U → Bool
  | .int _ => true
  | .str _ => true
  | _ => false
def putD (l : List (U × U)) (k v : U) : List (U × U) := if (l.any fun p => keyEq p.1 k) = true then l.map (fun p => if keyEq p.1 k = true then (p.1, v) else p) else l ++ [(k, v)]
theorem keyEq_U : ∀ k k' : Key, keyEq (keyU k) (keyU k') = decide (k = k')
  | .inl i, .inl j => by by_cases e : i = j <;> simp [keyEq, keyU, e]
  | .inl i, .inr y => by simp [keyEq, keyU]
  | .inr x, .inl j => by simp [keyEq, keyU]
  | .inr x, .inr y => by
    simp only [keyEq, keyU]
    rw [PyProof.Rows.toList_beq]
    by_cases e : x = y
    · subst e; simp
    · have h1 : (x == y) = false := by simpa using e
      simp [h1, e]
section
variable {ρ : List Addr} {Z : Addr → Prop} {H : Hp} {G : List Ob}
theorem key_of {v : V} {u : U} (r : Rep T ρ Z H v u) (h : keyB u = true) : ∃ k, v = kV k ∧ u = keyU k := by
  cases r with
  | int i => exact ⟨.inl i, rfl, rfl⟩
  | str x => exact ⟨.inr x, rfl, rfl⟩
  | _ => cases h
theorem repk_any {k : Key} : ∀ {kvs : List (Key × V)} {l : List (U × U)}, RepK T ρ Z H kvs l → (l.any fun p => keyEq p.1 (keyU k)) = kvs.any fun kv => decide (kv.1 = k)
  | _, _, .nil => rfl
  | _, _, .cons (k := k') r t => by rw [List.any_cons, List.any_cons, repk_any t, keyEq_U]
theorem repk_mp {k : Key} {v : V} {u : U} (rv : Rep T ρ Z H v u) : ∀ {kvs : List (Key × V)} {l : List (U × U)}, RepK T ρ Z H kvs l → RepK T ρ Z H (kvs.map fun kv => if kv.1 = k then (kv.1, v) else kv) (l.map fun p => if keyEq p.1 (keyU k) = true then (p.1, u) else p)
  | _, _, .nil => .nil
  | _, _, .cons (k := k') r t => by
    rw [List.map_cons, List.map_cons]
    simp only [keyEq_U]
    by_cases e : k' = k
    · rw [if_pos e, if_pos (by simpa using e)]
      exact .cons rv (repk_mp rv t)
    · rw [if_neg e, if_neg (by simpa using e)]
      exact .cons r (repk_mp rv t)
theorem repk_app {kvs' : List (Key × V)} {l' : List (U × U)} (q : RepK T ρ Z H kvs' l') : ∀ {kvs : List (Key × V)} {l : List (U × U)}, RepK T ρ Z H kvs l → RepK T ρ Z H (kvs ++ kvs') (l ++ l')
  | _, _, .nil => q
  | _, _, .cons r t => .cons r (repk_app q t)
theorem repk_len : ∀ {kvs : List (Key × V)} {l : List (U × U)}, RepK T ρ Z H kvs l → kvs.length = l.length
  | _, _, .nil => rfl
  | _, _, .cons r t => congrArg (· + 1) (repk_len t)
theorem repk_put {k : Key} {v : V} {u : U} {kvs : List (Key × V)} {l : List (U × U)} (q : RepK T ρ Z H kvs l) (rv : Rep T ρ Z H v u) : RepK T ρ Z H (putK kvs k v) (putD l (keyU k) u) := by
  unfold putK putD
  rw [repk_any q]
  by_cases h : (kvs.any fun kv => decide (kv.1 = k)) = true
  · rw [if_pos h, if_pos h]; exact repk_mp rv q
  · rw [if_neg h, if_neg h]; exact repk_app (.cons rv .nil) q
theorem cell_dct {u : U} {v : V} {i : Nat} {l : List (U × U)} (rl : Rl T ρ Z G H) (r : Rep T ρ Z H v (.ref i)) (g : G[i]? = some (.dct l)) : ∃ a kvs, v = .ref a ∧ ρ[i]? = some a ∧ Z a ∧ H a = some (.dK kvs) ∧ RepK T ρ Z H kvs l := by
  obtain ⟨a, ev, h⟩ := r.inv_ref
  obtain ⟨z, kvs, h2, h3⟩ := rl.ob i a _ h g
  exact ⟨a, kvs, ev, h, z, h2, h3⟩
end
theorem PSet.or {t t' : TSet} (h : PSet X t) (h' : PSet X t') : PSet X (fun o i v H Q => t o i v H Q ∨ t' o i v H Q) := fun pins s σ H o i v ov iv u Q I r1 r2 r3 q => q.elim (h pins s σ H o i v ov iv u Q I r1 r2 r3) (h' pins s σ H o i v ov iv u Q I r1 r2 r3)
def itemM : U → U → U → MS := fun y o i s G => match o, i with
  | .ref j, i => match G[j]? with
    | some (.lst l) => (match i with
      | .int n => (match ixN l.length n with
        | some m => .nx s (G.set j (.lst (l.set m y)))
        | none => .bad)
      | _ => .bad)
    | some (.dct l) => if keyB i = true ∧ l.length < szL then .nx s (G.set j (.dct (putD l i y))) else .bad
    | _ => .bad
  | _, _ => .bad
theorem sub_eval {o i : Expr} {pos : Pos} {env : Env} (h : noSlice i = true) (v : Value) : assign (.Subscript o i pos) env v = (do
      let ov ← holding [v] (eval o env)
      let iv ← holding [v, ov] (eval i env)
      standAt pos
      holding [v, ov, iv] (setItem ov iv v)
      release [v, ov, iv] []) := by
  cases i <;> first | rfl | (simp [noSlice] at h)
theorem fs_item {pos' : Pos} (hu : X.A.units + 1 < cLine) (hns : noSlice i = true) (ho : PE X o (tE T W mo)) (hi : PE X i (tE T W mi)) (hv : PE X e (tE T W ma)) : PS X (.Assign [.Subscript o i pos'] e pos) (tS T W (stE3 ma mo mi itemM)) :=
  PS.imp (ps_asg hv (pg_sub ho hi (PSet.or set_list (set_dict hu)) (sub_eval hns)) (swaps_sole rfl) (swapped_no rfl) (assign_one rfl)) fun D σ H q => stE3_imp q fun y o ii s G v w j H' ρ' Z' sm r1 r2 r3 q => by
    unfold itemM at q
    split at q
    · rename_i jj
      split at q
      · rename_i l g
        split at q
        · rename_i n
          split at q
          · rename_i m hm
            obtain ⟨b, ws, rfl, hb, zb, hl, rw'⟩ := cell_lst (u := .ref jj) sm.rl r2 g
            have hmem : b ∈ ρ' := List.mem_of_getElem? hb
            refine .inl ⟨b, ws, n, m, rfl, r3.inv_int, hl, by rw [rw'.length]; exact hm, ?_⟩
            exact q σ _ ρ' Z' (ex_set hmem zb) ⟨set_lst (l := l) sm.rl hb zb (rw'.set r1 m), sm.fm.ex sm.rl.zm (ex_set hmem zb)⟩
          · exact q.elim
        · exact q.elim
      · rename_i l g
        by_cases hz : keyB ii = true ∧ l.length < szL
        · rw [if_pos hz] at q
          obtain ⟨b, kvs, rfl, hb, zb, hl, rw'⟩ := cell_dct (u := .ref jj) sm.rl r2 g
          obtain ⟨k, rfl, rfl⟩ := key_of r3 hz.1
          have hmem : b ∈ ρ' := List.mem_of_getElem? hb
          refine .inr ⟨b, _, rfl, DPut.k hl (by rw [repk_len rw', szL_eq]; exact hz.2), ?_⟩
          exact q σ _ ρ' Z' (ex_set hmem zb) ⟨sm.rl.set hb zb trivial ⟨zb, _, upd_same, (repk_put rw' r1).ex sm.rl.zm (ex_set hmem zb)⟩, sm.fm.ex sm.rl.zm (ex_set hmem zb)⟩
        · rw [if_neg hz] at q
          exact q.elim
      · exact q.elim
    · exact q.elim

/-! ### isinstance -/
inductive Ty where
  | non | bl | int | str | lst | tup | dct
  deriving DecidableEq
def Ty.name : Ty → String
  | .non => "NoneType" | .bl => "bool" | .int => "int" | .str => "str" | .lst => "list" | .tup => "tuple" | .dct => "dict"
def Ty.sub (a b : Ty) : Bool := decide (a = b) || (decide (a = .bl) && decide (b = .int))
theorem kit_sub (a b : Ty) (h : b ≠ .non) : kitB a.name b.name = some (a.sub b) := by
  cases b <;> first | exact absurd rfl h | (cases a <;> decide +kernel)
/-- a value's type: built in, or the class of an instance -/
def tyOf (G : List Ob) : U → Option (Ty ⊕ Nat)
  | .non => some (.inl .non)
  | .bl _ => some (.inl .bl)
  | .int _ => some (.inl .int)
  | .str _ => some (.inl .str)
  | .lst _ => some (.inl .lst)
  | .tup _ => some (.inl .tup)
  | .dct _ => some (.inl .dct)
  | .sc _ => none
  | .ins c _ => some (.inr c)
  | .ref i => match G[i]? with
    | some (.lst _) => some (.inl .lst)
    | some (.dct _) => some (.inl .dct)
    | some (.ins c _) => some (.inr c)
    | _ => none
/-- the facts of a class for isinstance -/
structure InsT (K : PySem.W.Frag) (C : Addr) : Prop where
  cl : Cls K C
  ha : PySem.W.findIn K (.ref C) "__class__" = some (some (.builtin "object.__class__"))
  hn : PySem.W.specialIn K (.builtin "object.__class__") "__get__" = some (some (.builtin "getset_descriptor.__get__"))
  htk : PySem.W.takesIn K (.builtin "object.__class__") = some true
  hm : PySem.W.mroIn K C (.type "object") = some true
theorem ty_at {H : Hp} {ρ : List Addr} {Z : Addr → Prop} {G : List Ob} {v : V} {u : U} (rl : Rl T ρ Z G H) (r : Rep T ρ Z H v u) : (∀ t, tyOf G u = some (.inl t) → TyX T.K H v (.type t.name)) ∧ ∀ c, tyOf G u = some (.inr c) → ∃ C, T.cls[c]? = some C ∧ (InsT T.K C → TyX T.K H v (.ref C)) := by
  constructor
  · intro t e
    cases u with
    | non => cases e; rw [r.inv_non]; exact .base .non
    | bl b => cases e; rw [r.inv_bl]; exact .base (.bl b)
    | int b => cases e; rw [r.inv_int]; exact .base (.int b)
    | str b => cases e; rw [r.inv_str]; exact .base (.str _)
    | lst l =>
      cases e
      obtain ⟨a, vs, rfl, h, _, _⟩ := r.inv_lst
      exact .base (.lst h)
    | tup l =>
      cases e
      obtain ⟨a, vs, rfl, h, _⟩ := r.inv_tup
      rcases h with (h | ⟨o, h⟩) | ⟨o, its, n, hk, hc, _⟩
      · exact .base (.tup h)
      · exact .fTuple h
      · exact .kTuple hk hc
    | dct l =>
      cases e
      cases r with
      | dct h z q => exact .base (.dK h)
    | sc l => cases e
    | ins c l => cases e
    | ref i =>
      obtain ⟨a, rfl, h⟩ := r.inv_ref
      simp only [tyOf] at e
      cases g : G[i]? with
      | none => rw [g] at e; cases e
      | some ob =>
        rw [g] at e
        cases ob with
        | dead => cases e
        | lst l =>
          cases e
          obtain ⟨_, vs, h2, _⟩ := rl.ob i a _ h g
          exact .base (.lst h2)
        | dct l =>
          cases e
          obtain ⟨_, vs, h2, _⟩ := rl.ob i a _ h g
          exact .base (.dK h2)
        | ins c l => cases e
  · intro c e
    cases u with
    | ins c' l =>
      cases e
      cases r with
      | ins h z hc q => exact ⟨_, hc, fun it => .base (.ins h it.cl it.ha it.hn it.htk it.hm)⟩
    | ref i =>
      obtain ⟨a, rfl, h⟩ := r.inv_ref
      simp only [tyOf] at e
      cases g : G[i]? with
      | none => rw [g] at e; cases e
      | some ob =>
        rw [g] at e
        cases ob with
        | ins c' l =>
          cases e
          obtain ⟨_, C, dx, fv, h2, h3, _⟩ := rl.ob i a _ h g
          exact ⟨C, h3, fun it => .base (.ins h2 it.cl it.ha it.hn it.htk it.hm)⟩
        | _ => cases e
    | _ => cases e
def isiM (cls : List Nat) (t : Ty ⊕ Nat) (m : ME) : ME := fun s G => (m s G).bind fun u G1 => match tyOf G1 u, t with
  | some (.inl a), .inl b => if b ≠ .non then .ok (.bl (a.sub b)) G1 else .bad
  | some (.inl _), .inr c => if c ∈ cls then .ok (.bl false) G1 else .bad
  | some (.inr c), .inl b => if c ∈ cls ∧ b ≠ .non then .ok (.bl false) G1 else .bad
  | some (.inr c), .inr c' => if c ∈ cls ∧ c' ∈ cls then .ok (.bl (decide (c = c'))) G1 else .bad
  | none, _ => .bad
structure IsiOk (K : PySem.W.Frag) (T : Tb) (cls : List Nat) : Prop where
  ins : ∀ c ∈ cls, ∀ C, T.cls[c]? = some C → InsT K C
  cb : ∀ c ∈ cls, ∀ C, T.cls[c]? = some C → ∀ b : Ty, b ≠ .non → PySem.W.kitOne K (.ref C) (.type b.name) = some false
  bc : ∀ c ∈ cls, ∀ C, T.cls[c]? = some C → ∀ b : Ty, PySem.W.kitOne K (.type b.name) (.ref C) = some false
  cc : ∀ c ∈ cls, ∀ c' ∈ cls, ∀ C C', T.cls[c]? = some C → T.cls[c']? = some C' → PySem.W.kitOne K (.ref C) (.ref C') = some (decide (c = c'))
/-- what the second argument names -/
def NamesTy (X : Cx) (T : Tb) (n : Str) : Ty ⊕ Nat → Prop
  | .inl b => X.mg n = none ∧ bootBuiltins n = some (.type b.name) ∧ n ≠ "__name__"
  | .inr c => ∃ C, T.cls[c]? = some C ∧ X.mg n = some (.ref C)
theorem fe_isi {cls : List Nat} {t : Ty ⊕ Nat} {n x : Str} {np : Pos} (hT : X.K = T.K) (I : IsiOk T.K T cls) (hx : x = ("isinstance" : Str)) (hg : Gl X x) (hm : X.mg x = none) (hgn : Gl X n) (hn : NamesTy X T n t) (hdb : (n == ("__debug__" : Str)) = false) (ha : PE X a (tE T W ma)) (h1 : noStar a = true) :
    PE X (.Call (.Name x p) [a, .Name n np] [] pos) (tE T W (isiM cls t ma)) := by
  subst hx
  have hv : bootBuiltins ("isinstance" : Str) = some (.builtin "isinstance") := by decide +kernel
  -- the class as a value
  have hc : ∃ (c : V) (u : Value), PE X (.Name n np) (tC c) ∧ ClsV c u ∧ (match t with | .inl b => u = .type b.name | .inr c' => ∃ C, T.cls[c']? = some C ∧ u = .ref C) := by
    cases t with
    | inl b =>
      obtain ⟨q1, q2, q3⟩ := hn
      exact ⟨.ty b.name, .type b.name, pe_bltn hgn q1 q2 rfl q3 hdb, .ty _, rfl⟩
    | inr c =>
      obtain ⟨C, q1, q2⟩ := hn
      exact ⟨.ref C, .ref C, pe_glob hgn q2 rfl hdb, .own C, C, q1, rfl⟩
  obtain ⟨c, cu, pc, ck, ct⟩ := hc
  refine PE.imp (pe_callB call_isi hg hm hv (pa_cons ha (pa_cons pc pa_nil rfl) (star_cons h1)) (by decide) (by decide) (star_cons h1) rfl) fun σ H Q ⟨s, G, ρ, Z, sm, q⟩ => ?_
  refine tE_bind sm q fun u G1 v H1 ρ1 Z1 x1 sm1 r1 q1 => ?_
  show ∃ (x c' : V) (t' u' : Value) (b : Bool), [v, c] = [x, c'] ∧ ClsV c' u' ∧ TyX X.K H1 x t' ∧ PySem.W.kitOne X.K t' u' = some b ∧ Q (.bl b) H1
  obtain ⟨t1, t2⟩ := ty_at sm1.rl r1
  rw [hT]
  split at q1
  · rename_i a' b e1 _
    by_cases z : b ≠ .non
    · rw [if_pos z] at q1
      subst ct
      exact ⟨v, c, _, _, _, rfl, ck, t1 _ e1, kit_ty (kit_sub a' b z), q1 _ H1 ρ1 Z1 Ex.refl sm1.rl (.bl _)⟩
    · rw [if_neg z] at q1
      exact q1.elim
  · rename_i a' c' e1 _
    by_cases z : c' ∈ cls
    · rw [if_pos z] at q1
      obtain ⟨C, h1, rfl⟩ := ct
      exact ⟨v, c, _, _, _, rfl, ck, t1 _ e1, I.bc c' z C h1 a', q1 _ H1 ρ1 Z1 Ex.refl sm1.rl (.bl _)⟩
    · rw [if_neg z] at q1
      exact q1.elim
  · rename_i c' b e1 _
    by_cases z : c' ∈ cls ∧ b ≠ .non
    · rw [if_pos z] at q1
      subst ct
      obtain ⟨C, h1, h2⟩ := t2 _ e1
      exact ⟨v, c, _, _, _, rfl, ck, h2 (I.ins c' z.1 C h1), I.cb c' z.1 C h1 b z.2, q1 _ H1 ρ1 Z1 Ex.refl sm1.rl (.bl _)⟩
    · rw [if_neg z] at q1
      exact q1.elim
  · rename_i c1 c2 e1 _
    by_cases z : c1 ∈ cls ∧ c2 ∈ cls
    · rw [if_pos z] at q1
      obtain ⟨C2, g1, rfl⟩ := ct
      obtain ⟨C, h1, h2⟩ := t2 _ e1
      exact ⟨v, c, _, _, _, rfl, ck, h2 (I.ins c1 z.1 C h1), I.cc c1 z.1 c2 z.2 C C2 h1 g1, q1 _ H1 ρ1 Z1 Ex.refl sm1.rl (.bl _)⟩
    · rw [if_neg z] at q1
      exact q1.elim
  · exact q1.elim
end
end FL

/-! FL14: classes made with keywords; own == and !=; int of a text. -/
namespace FL
open PySem L2 PyProof.Rows
section
variable {X : Cx} {T : Tb} {W : WX} {p pos apos : Pos} {a e o i : Expr} {es : List Expr} {ma mo mi : ME} {mas mks : MA} {k n : Nat} {C f : Addr} {x : Str} {r : RunD}
/-! ### C(e, .., k = v, ..) -/
def kwName (k : Keyword) : Option Str := match k with
  | ⟨nm, _, _⟩ => nm
def kwVal (k : Keyword) : Expr := match k with
  | ⟨_, e, _⟩ => e
theorem kw_cons {nm : Option Str} {e : Expr} {kp : Pos} {kws : List Keyword} {env : Env} : backToKw pos (keywordEach (⟨nm, e, kp⟩ :: kws) env) = (nm, do let v ← eval e env; standAt pos; pure v) :: backToKw pos (keywordEach kws env) := rfl
theorem kw_all {env : Env} : ∀ {kws : List Keyword}, kws.all (fun k => (kwName k).isSome) = true → (backToKw pos (keywordEach kws env)).all (·.1.isSome) = true
  | [], _ => rfl
  | ⟨nm, e, kp⟩ :: r, h => by
    rw [List.all_cons, Bool.and_eq_true] at h
    rw [kw_cons, List.all_cons, Bool.and_eq_true]
    exact ⟨h.1, kw_all h.2⟩
theorem kw_any {env : Env} : ∀ {kws : List Keyword}, kws.all (fun k => (kwName k).isSome) = true → (backToKw pos (keywordEach kws env)).any (·.1.isNone) = false
  | [], _ => rfl
  | ⟨nm, e, kp⟩ :: r, h => by
    rw [List.all_cons, Bool.and_eq_true] at h
    rw [kw_cons, List.any_cons, kw_any h.2, Bool.or_false]
    have h1 : nm.isSome = true := h.1
    cases nm with
    | none => cases h1
    | some _ => rfl
theorem kw_map {env : Env} : ∀ {kws : List Keyword}, (backToKw pos (keywordEach kws env)).filterMap (·.1) = kws.filterMap kwName
  | [] => rfl
  | ⟨nm, e, kp⟩ :: r => by
    rw [kw_cons]
    cases nm with
    | none => exact kw_map
    | some y => exact congrArg (y :: ·) kw_map
theorem PK.imp {kws : List Keyword} {t t' : L2.TA} (h : PK X kws t) (i : ∀ σ H Q, t' σ H Q → t σ H Q) : PK X kws t' := ⟨fun pos pins s σ H Q I q => h.run pos pins s σ H Q I (i σ H Q q)⟩
theorem fk_nil : PK X [] (tA T W nilA) := PK.imp pk_nil fun σ H Q ⟨s, G, ρ, Z, sm, q⟩ => q [] H ρ Z Ex.refl sm.rl .nil
theorem fk_cons {nm : Option Str} {kp : Pos} {kws : List Keyword} (ha : PE X a (tE T W ma)) (hr : PK X kws (tA T W mas)) : PK X (⟨nm, a, kp⟩ :: kws) (tA T W (consA ma mas)) :=
  PK.imp (pk_cons ha hr) fun σ H Q ⟨s, G, ρ, Z, sm, q⟩ => by
    refine tE_bindA sm q fun u G1 x H1 ρ1 Z1 x1 sm1 r1 q1 => ?_
    refine tA_bindA sm1 q1 fun us G2 vs H2 ρ2 Z2 x2 sm2 r2 q2 => ?_
    exact q2 _ H2 ρ2 Z2 Ex.refl sm2.rl (.cons (r1.ex sm1.rl.zm x2) r2)
/-- a class made with n values by place and the keywords ks -/
structure MakeKOk (P : Program) (w : World) (K : PySem.W.Frag) (mg : Str → Option Value) (base : Heap) (T : Tb) (k : Nat) (c : Nat) (x : Str) (n : Nat) (ks : List Str) (r : RunD) : Prop where
  cl : ∃ C f fd ps, T.cls[c]? = some C ∧ mg x = some (.ref C) ∧ Mk K C f ∧ KBn K fd ps (n + 1) ks (fun us ws => us ++ ws) (fun vs zs => vs ++ zs) ∧ FnOk P w K mg base (L2.CX P w) k f fd ps (spD T (n + 1 + ks.length) r)
def makeKM (c n m : Nat) (r : RunD) (mas mks : MA) : ME := fun s G => (mas s G).bind fun us G1 => (mks s G1).bind fun zs G2 => if us.length = n ∧ zs.length = m then madeU c (n + 1 + m) r (us ++ zs) G2 else .bad
theorem run_makeKS {CX : CXT} {sp : Sp} {E : XK} {fd : FuncData} {ps ks : List Str} {g : List Value → List Value → List Value} {gV : List V → List V → List V} {pins : List (Addr × Obj)} {σ : L2.St} {H : Hp} {s : Shared} {Q : VK} {us ws : List Value} {vs zs : List V}
    (M : Mk X.K C f) (F : FnOk X.prog X.w X.K X.mg X.base CX k f fd ps sp) (hr : Room (k + 1) X.A) (hb : KBn X.K fd ps (n + 1) ks g gV) (hx : PassesAt CX X σ E)
    (I : Inv X pins σ H s) (r : Vals vs us) (rz : Vals zs ws) (l1 : vs.length = n) (l2 : zs.length = ks.length)
    (h : ∀ x dx, H x = none → H dx = none → dx ≠ x → sp (gV (.ref x :: vs) zs) (upd (upd H dx (.own x)) x (.ins C dx [])) (fun v H2 => v = .non ∧ Q (.ref x) H2) E) :
    wpAny (model X.prog X.w) X.A (call (.ref C) us (ks.zip ws)) (EP X pins σ Q) X.xe s := by
  have hq := h (s.heap.objs.size + 1) s.heap.objs.size (I.hok.fresh (Nat.le_succ _)) (I.hok.fresh (Nat.le_refl _)) (Nat.ne_of_lt (Nat.lt_succ_self _))
  have I2 := Inv.made (C := C) I
  have r1 : Vals (V.ref (s.heap.objs.size + 1) :: vs) (Value.ref (s.heap.objs.size + 1) :: us) := .cons rfl r
  have r2 := hb.rel r1 rz
  have n1 : (Value.ref (s.heap.objs.size + 1) :: us).length = n + 1 := by
    rw [List.length_cons, ← r.length, l1]
  refine wpAny_call (make_map (f := f) I.kIn M.makes M.init (beq_iff_eq.mp M.fn) (codeAny_mono (F.run _ X.stack _ _ ⟨Value.ref (s.heap.objs.size + 1) :: us, ks.zip ws⟩ (g (Value.ref (s.heap.objs.size + 1) :: us) ws) _ _ E (hr.make C us (ks.zip ws))
    (I2.env0.make C us (ks.zip ws)) (hb.to _ (Value.ref (s.heap.objs.size + 1) :: us) ws I2.kIn n1 (rz.length.symm.trans l2)) r2 hq) fun r s' hq' => ?_))
  cases r with
  | error e => exact hx pins _ _ e s' I2 hq'
  | ok fl =>
    cases fl with
    | ret u =>
      obtain ⟨v, H', I3, rv, ev, q3⟩ := I2.after hq'
      subst ev
      exact ⟨rv, ⟨V.ref (s.heap.objs.size + 1), H', I3, rfl, q3⟩⟩
    | next => exact False.elim hq'
    | brk => exact False.elim hq'
    | cont => exact False.elim hq'
theorem Reps.of_append {ρ : List Addr} {Z : Addr → Prop} {H : Hp} {vs : List V} {us : List U} (r : Reps T ρ Z H vs us) : vs.length = us.length := r.length
theorem fe_makeK {c : Nat} {ks : List Str} {kws : List Keyword} (M : MakeKOk X.prog X.w X.K X.mg X.base T k c x n ks r) (hr : Room (k + 1) X.A) (hg : Gl X x) (tk : Takes X W) (ha : PA X (e :: es) (tA T W mas)) (hk : PK X kws (tA T W mks)) (hdb : (x == ("__debug__" : Str)) = false) (hst : (e :: es).all noStar = true)
    (hkw : kws.all (fun k => (kwName k).isSome) = true) (hks : kws.filterMap kwName = ks) :
    PE X (.Call (.Name x p) (e :: es) kws pos) (tE T W (makeKM c n ks.length r mas mks)) := by
  obtain ⟨C, f, fd, ps, g1, g2, g3, hb, F⟩ := M.cl
  rw [List.all_cons, Bool.and_eq_true] at hst
  refine ⟨fun pins s σ H Q I h => ?_⟩
  refine wpAny_Call_Name_kw (ld_glob I hg g2 ?_ hdb)
  obtain ⟨s', G, ρ, Z, sm, q⟩ := h
  have q' : tA T W mas σ H fun vs H1 => tA T W mks σ H1 fun zs H2 => vs.length = n ∧ zs.length = ks.length ∧ ∀ x dx, H2 x = none → H2 dx = none → dx ≠ x → spD T (n + 1 + ks.length) r ((.ref x :: vs) ++ zs) (upd (upd H2 dx (.own x)) x (.ins C dx [])) (fun v H3 => v = .non ∧ Q (.ref x) H3) (WE W σ) :=
    tA_bind sm q fun us G1 vs H1 ρ1 Z1 x1 sm1 r1 q1 => tA_bind sm1 q1 fun zs G2 ws H2 ρ2 Z2 x2 sm2 r2 q2 => by
      by_cases z : us.length = n ∧ zs.length = ks.length
      · rw [if_pos z] at q2
        exact ⟨r1.length.trans z.1, r2.length.trans z.2, made_ok sm2 ((r1.ex sm1.rl.zm x2).append r2) g1 q2⟩
      · rw [if_neg z] at q2
        exact q2.elim
  refine PySem.W.callWith_KW (h₀ := X.base) I.ok.mod.kin g3.kp (kw_all hkw) (thn (ha.run pos pins s σ H _ I q') fun us s1 ⟨vs, H1, I1, r, q⟩ => ?_) (by rw [star_any (by rw [List.all_cons, hst.1, hst.2]; rfl), kw_any hkw]; rfl) (star_cons hst.1)
  refine thn (hk.run pos pins s1 σ H1 _ I1 q) fun ws s2 ⟨zs, H2, I2, rz, l1, l2, q2⟩ => ⟨I2.kIn, ?_⟩
  rw [kw_map, hks]
  exact run_makeKS g3 F hr hb (passAt tk σ) I2 r rz l1 l2 q2

/-! ### own == and != -/
theorem objEq_look : ∃ y, typeLookup (.type "object") ("__eq__" : Str) = pure y := ⟨some (.builtin "object.__eq__"), by rw [typeLookup_type, builtinLookup_eq_fast]; kernel_rfl⟩
/-- what the class at C has for its own == -/
structure EqC (K : PySem.W.Frag) (C f : Addr) : Prop where
  at_ : PySem.W.findIn K (.ref C) "__eq__" = some (some (.ref f))
  fn : PySem.W.isFn K (.ref f) = true
  nt : PySem.W.notFirst K C (.type "tuple") = true
/-- .. and for != by it -/
structure NeC (K : PySem.W.Frag) (C f : Addr) : Prop where
  ob : ∃ (nm q : Str) (N : Addr) (bs : List Value) (hdct : Bool) (sn : List Str) (sub : List Value) (ab : Bool) (col : Option Bool) (dd : Option Addr) (k0 k1 k2 k3 k5 : Option Value) (newId : String),
    K.lookup C = some (excClassObj nm q C N bs [.type "object"] hdct sn sub ab col dd k0 k1 k2 k3 k5 newId) ∧ PySem.W.nsOkIn K N = true ∧ PySem.W.nsIn K N "__eq__" = some (some (.ref f)) ∧ PySem.W.nsIn K N "__ne__" = some none
theorem ns_some_of {K : PySem.W.Frag} {h : Heap} {N : Addr} {mg : Str → Option Value} {n : Str} {v : Value} (X : K.In h) (G : h.Ns N mg) (e : PySem.W.nsIn K N n = some (some v)) : mg n = some v := by
  obtain ⟨o, es, ep, ho, hd, _, hf⟩ := G
  unfold PySem.W.nsIn at e
  split at e
  · rename_i c d es' n' sl q
    have := X _ _ q
    rw [ho] at this
    cases this
    cases hd
    split at e
    · rename_i en he
      cases e
      rw [← hf]
      unfold nsFind findBy
      rw [← Array.find?_toList, he]
      rfl
    · split at e <;> cases e
  · cases e
def rOwnEq (T : Tb) (r : RunD) (C : Addr) : R2 := fun x y H Q => ∃ a dx fs, x = .ref a ∧ H a = some (.ins C dx fs) ∧ (∃ b, y = .ref b ∧ ((∃ dy gs, H b = some (.ins C dy gs)) ∨ ∃ ys, SqT T.K H b ys)) ∧ spD T 2 r [x, y] H (fun v H' => ∃ t, v = .bl t ∧ Q (.bl t) H') E0
def rOwnNe (T : Tb) (r : RunD) (C : Addr) : R2 := fun x y H Q => ∃ a dx fs, x = .ref a ∧ H a = some (.ins C dx fs) ∧ (∃ b, y = .ref b ∧ (∃ dy gs, H b = some (.ins C dy gs))) ∧ spD T 2 r [x, y] H (fun v H' => ∃ t, v = .bl t ∧ Q (.bl (!t)) H') E0
theorem op_ownEq (hT : X.K = T.K) (F : DefOk X.prog X.w X.K X.mg X.base T k f 2 r) (ec : EqC X.K C f) (hr : Room k X.A) : OpR X (compareOp .Eq) (rOwnEq T r C) := by
  intro pins s σ H x y v u Q I rx ry ⟨a, dx, fs, ex, ha, ⟨b, ey, hb'⟩, hsp⟩
  subst ex
  subst ey
  obtain ⟨fd, ps, hbi, hl, F⟩ := F.ex
  cases rx
  cases ry
  show wpAny (model X.prog X.w) X.A (richCompare .Eq (.ref a) (.ref b)) (EP X pins σ Q) X.xe s
  obtain ⟨mA, J, _⟩ := ins_get I.hok ha
  obtain ⟨od, J, _⟩ := J.look
  obtain ⟨m, hF⟩ := I.fr
  have key : ∃ tb, PySem.W.Looks (model X.prog X.w) s.heap (typeOf (.ref b)) tb ∧ PySem.W.notFirst X.K C tb = true := by
    rcases hb' with ⟨dy, gs, hb⟩ | ⟨ys, hb⟩
    · obtain ⟨mB, J', _⟩ := ins_get I.hok hb
      obtain ⟨od', J', _⟩ := J'.look
      exact ⟨_, J'.type, by simp [PySem.W.notFirst]⟩
    · rw [← hT] at hb
      obtain ⟨its, r, ⟨o, ho, hc, _⟩, z⟩ := I.tuple hb
      exact ⟨.type "tuple", fun A Q E s k q => wpAny_typeOf_ref (k _ _ ho) (by rw [hc]; exact q), ec.nt⟩
  obtain ⟨tb, L, nf⟩ := key
  refine PySem.W.cmp_K (op := .Eq) (tb := tb) (hu_of hr |> Nat.lt_of_succ_lt) hF I.ok.mod.kin J L nf ec.at_ ec.fn ?_
  have r2 : Vals [V.ref a, V.ref b] [Value.ref a, Value.ref b] := .cons rfl (.cons rfl .nil)
  refine wpAny_call (codeAny_mono (F.run X.A X.stack s H ⟨[.ref a, .ref b], []⟩ [.ref a, .ref b] [.ref a, .ref b] _ E0 hr I.env0 (by
    have := hbi s [.ref a, .ref b] I.kIn (by simpa using hl.symm)
    simpa using this) r2 hsp) fun r s' hq => ?_)
  cases r with
  | error e => exact passL pins σ H s e s' I hq
  | ok fl =>
    cases fl with
    | ret w =>
      obtain ⟨z, H', I', rz, t, ez, ex⟩ := I.after hq
      subst ez
      cases rz
      exact ⟨.bl t, H', I', rfl, ex⟩
    | next => exact False.elim hq
    | brk => exact False.elim hq
    | cont => exact False.elim hq
theorem op_ownNe (F : DefOk X.prog X.w X.K X.mg X.base T k f 2 r) (ec : EqC X.K C f) (nc : NeC X.K C f) (hr : Room (k + 1) X.A) : OpR X (compareOp .NotEq) (rOwnNe T r C) := by
  intro pins s σ H x y v u Q I rx ry ⟨a, dx, fs, ex, ha, ⟨b, ey, dy, gs, hb'⟩, hsp⟩
  subst ex
  subst ey
  obtain ⟨fd, ps, hbi, hl, F⟩ := F.ex
  cases rx
  cases ry
  obtain ⟨mA, J, _⟩ := ins_get I.hok ha
  obtain ⟨mB, J', _⟩ := ins_get I.hok hb'
  obtain ⟨od, J, _⟩ := J.look
  obtain ⟨od', J', _⟩ := J'.look
  obtain ⟨nm, q, N, bs, hdct, sn, sub, ab, col, dd, k0, k1, k2, k3, k5, newId, hC, hN, he, hne⟩ := nc.ob
  have KI := I.kIn
  obtain ⟨of, hof, hofc⟩ : ∃ of, s.heap.get? f = some of ∧ of.cls = .type "function" := by
    have := beq_iff_eq.mp ec.fn
    unfold PySem.W.typeIn at this
    cases hl' : X.K.lookup f with
    | none => simp [hl'] at this
    | some of => exact ⟨of, KI _ _ hl', by simpa [hl'] using this⟩
  obtain ⟨y, hy⟩ := objEq_look
  have Y : s.heap.OwnEqNoNe a C f "object" [.type "object"] := ⟨_, of, nm, q, N, bs, hdct, sn, sub, ab, col, dd, k0, k1, k2, k3, k5, newId, _, y, J.at_, J.cls, KI _ _ hC, .of_isNs (PySem.W.isNs_of_in KI hN), ns_some_of KI (.of_isNs (PySem.W.isNs_of_in KI hN)) he, hof, hofc, PySem.F.mro_object, hy, PySem.W.ns_none_of KI (.of_isNs (PySem.W.isNs_of_in KI hN)) hne⟩
  have e0 : Env0 X.prog X.w X.K X.mg X.base X.A.in1 X.stack s H := by
    have e := I.env0
    exact ⟨e.frames, e.mod, e.bs, e.bsz, e.funs, e.frf, e.hok, e.bare⟩
  have r2 : Vals [V.ref a, V.ref b] [Value.ref a, Value.ref b] := .cons rfl (.cons rfl .nil)
  have hu : X.A.units + 1 < cLine := hu_of hr
  have call : wpAny (model X.prog X.w) X.A.in1 (call (.ref f) [.ref a, .ref b]) (fun v s' => ∃ t, v = .bool t ∧ EP X pins σ Q (.bool (!t)) s') X.xe s := by
    refine wpAny_call (codeAny_mono (F.run X.A.in1 X.stack s H ⟨[.ref a, .ref b], []⟩ [.ref a, .ref b] [.ref a, .ref b] _ E0 hr.in1 e0 (by
      have := hbi s [.ref a, .ref b] I.kIn (by simpa using hl.symm)
      simpa using this) r2 hsp) fun r s' hq => ?_)
    cases r with
    | error e => exact passL pins σ H s e s' I hq
    | ok fl =>
      cases fl with
      | ret w =>
        obtain ⟨z, H', I', rz, t, ez, ex⟩ := I.after hq
        subst ez
        cases rz
        exact ⟨t, rfl, .bl (!t), H', I', rfl, ex⟩
      | next => exact False.elim hq
      | brk => exact False.elim hq
      | cont => exact False.elim hq
  have hB := J'.at_
  have hBc := J'.cls
  clear J' J
  obtain ⟨hh, g, d, t, os⟩ := s
  exact compareOp_ne_ownEq PySem.F.cmp_object Y hB hBc hu call
end
end FL

/-! FL15: chains, == with own classes, built-ins by name; the table of a body. -/
namespace FL
open PySem L2 PyProof.Rows
section
variable {X : Cx} {T : Tb} {W : WX} {p pos apos : Pos} {a b c e o i : Expr} {es : List Expr} {ma mb mc mo mi : ME} {mas mks : MA} {k n : Nat} {C f : Addr} {x : Str} {r : RunD}
/-! ### a < b < c -/
theorem last_marks {op op' : CmpOp} (h : noSet c = true) : lastMarks [op, op'] [b, c] = false := by
  show behindInMarks op' c = false
  exact marks_no h
theorem fe_chain {op op' : CmpOp} {f g : U → U → List Ob → Rs U} {r r' : R2} (ho : OpR X (compareOp op) r) (ho' : OpR X (compareOp op') r') (h : O2 T W f r) (h' : O2 T W g r') (ha : PE X a (tE T W ma)) (hb : PE X b (tE T W mb)) (hc : PE X c (tE T W mc)) (hs : noSet c = true) :
    PE X (.Compare a [op, op'] [b, c] pos) (tE T W (chM f g ma mb mc)) := PE.imp (pe_chain ho ho' ha hb hc (last_marks hs)) fun _ _ _ q => chM_top h h' q
theorem ft_chain {op op' : CmpOp} {f g : U → U → List Ob → Rs U} {r r' : R2} (ho : OpR X (compareOp op) r) (ho' : OpR X (compareOp op') r') (h : O2 T W f r) (h' : O2 T W g r') (ha : PE X a (tE T W ma)) (hb : PE X b (tE T W mb)) (hc : PE X c (tE T W mc)) (hs : noSet c = true) :
    PT X (.Compare a [op, op'] [b, c] pos) (tT T W (tobM (chM f g ma mb mc))) := PT.imp (pt_chain ho ho' ha hb hc (last_marks hs)) fun _ _ _ q => chM_top h h' (tB_of q)

/-! ### == and != where own classes stand -/
theorem OpR.ex {ι : Sort _} {f : Value → Value → Sem Value} {r : ι → R2} (h : ∀ i, OpR X f (r i)) : OpR X f (fun x y H Q => ∃ i, r i x y H Q) := fun pins s σ H x y v u Q I rx ry ⟨i, q⟩ => h i pins s σ H x y v u Q I rx ry q
structure EqOk (P : Program) (w : World) (K : PySem.W.Frag) (mg : Str → Option Value) (base : Heap) (T : Tb) (k : Nat) (c : Nat) (r : RunD) : Prop where
  cl : ∃ C f, T.cls[c]? = some C ∧ EqC K C f ∧ NeC K C f ∧ DefOk P w K mg base T k f 2 r
def isTupU : U → Bool
  | .tup _ => true
  | _ => false
def boolB (neg : Bool) : Rs U → Rs U
  | .ok (.bl t) G => .ok (.bl (if neg then !t else t)) G
  | _ => .bad
def eqX (neg : Bool) (et : Nat → Option RunD) : U → U → List Ob → Rs U := fun x y G => match insOf G x with
  | some (c, _) => match et c with
    | some r => if (match insOf G y with | some (c', _) => decide (c' = c) | none => isTupU y && !neg) then boolB neg (arM 2 r [x, y] G) else .bad
    | none => .bad
  | none => eqU neg x y G
def rEqX (X : Cx) (T : Tb) (et : Nat → Option RunD) : R2 := fun x y H Q => (∃ i : { z : RunD × Addr // ∃ c, et c = some z.1 ∧ T.cls[c]? = some z.2 }, rOwnEq T i.1.1 i.1.2 x y H Q) ∨ rEqD X.K x y H Q
def rNeX (X : Cx) (T : Tb) (et : Nat → Option RunD) : R2 := fun x y H Q => (∃ i : { z : RunD × Addr // ∃ c, et c = some z.1 ∧ T.cls[c]? = some z.2 }, rOwnNe T i.1.1 i.1.2 x y H Q) ∨ rNeD X.K x y H Q
theorem op_eqX {et : Nat → Option RunD} (hT : X.K = T.K) (he : ∀ c r, et c = some r → EqOk X.prog X.w X.K X.mg X.base T k c r) (hr : Room (k + 1) X.A) : OpR X (compareOp .Eq) (rEqX X T et) := by
  refine OpR.or (OpR.ex fun ⟨⟨r, C⟩, c, h1, h2⟩ => ?_) (op_eqD hr.units)
  obtain ⟨C', f, g1, g2, g3, g4⟩ := (he c r h1).cl
  have eC : C' = C := by rw [h2] at g1; exact (Option.some.inj g1).symm
  subst eC
  exact op_ownEq hT g4 g2 (hr.mono (Nat.le_succ _))
theorem op_neX {et : Nat → Option RunD} (he : ∀ c r, et c = some r → EqOk X.prog X.w X.K X.mg X.base T k c r) (hr : Room (k + 1) X.A) : OpR X (compareOp .NotEq) (rNeX X T et) := by
  refine OpR.or (OpR.ex fun ⟨⟨r, C⟩, c, h1, h2⟩ => ?_) (op_neD hr.units)
  obtain ⟨C', f, g1, g2, g3, g4⟩ := (he c r h1).cl
  have eC : C' = C := by rw [h2] at g1; exact (Option.some.inj g1).symm
  subst eC
  exact op_ownNe g4 g2 g3 hr
theorem boolB_sp {neg : Bool} {σ : L2.St} {H : Hp} {ρ : List Addr} {Z : Addr → Prop} {G : List Ob} {s : Sg} {Q : VK} {us : List U} {vs : List V} (sm : Sm T σ H s G ρ Z) (q : Reps T ρ Z H vs us) (h : RE T W σ H ρ Z Q (boolB neg (arM n r us G))) :
    spD T n r vs H (fun v H' => ∃ t, v = .bl t ∧ Q (.bl (if neg then !t else t)) H') E0 := by
  unfold arM at h
  by_cases e : us.length = n
  · rw [if_pos e] at h
    refine ⟨us, G, ρ, Z, sm.rl, q, e, ?_⟩
    cases e2 : r us G with
    | ok u G' =>
      rw [e2] at h
      cases u with
      | bl t => exact fun v H' ρ' Z' x rl rv => ⟨t, rv.inv_bl, h _ H' ρ' Z' x rl (.bl _)⟩
      | _ => exact h.elim
    | exc x G' => rw [e2] at h; exact h.elim
    | bad => rw [e2] at h; exact h.elim
  · rw [if_neg e] at h
    exact h.elim
theorem own_top {neg : Bool} {et : Nat → Option RunD} {σ : L2.St} {H : Hp} {s : Sg} {G : List Ob} {ρ : List Addr} {Z : Addr → Prop} {x y : V} {u w : U} {Q : VK} (sm : Sm T σ H s G ρ Z) (r1 : Rep T ρ Z H x u) (r2 : Rep T ρ Z H y w) {c : Nat} {l : List (Nat × U)} (e : insOf G u = some (c, l)) {r : RunD}
    (z : (match insOf G w with | some (c', _) => decide (c' = c) | none => isTupU w && !neg) = true) (h : RE T W σ H ρ Z Q (boolB neg (arM 2 r [u, w] G))) :
    ∃ C, T.cls[c]? = some C ∧ ∃ a dx fs, x = .ref a ∧ H a = some (.ins C dx fs) ∧ (∃ b, y = .ref b ∧ ((∃ dy gs, H b = some (.ins C dy gs)) ∨ (neg = false ∧ ∃ ys, SqT T.K H b ys))) ∧ spD T 2 r [x, y] H (fun v H' => ∃ t, v = .bl t ∧ Q (.bl (if neg then !t else t)) H') E0 := by
  obtain ⟨a, C, dx, fv, rfl, h1, h2, h3⟩ := insOf_at sm.rl r1 e
  refine ⟨C, h2, a, dx, fv, rfl, h1, ?_, boolB_sp sm (.cons r1 (.cons r2 .nil)) h⟩
  cases e2 : insOf G w with
  | some cl =>
    obtain ⟨c', l'⟩ := cl
    rw [e2] at z
    obtain ⟨b, C', dy, gv, ey, g1, g2, g3⟩ := insOf_at sm.rl r2 e2
    have ec : c' = c := of_decide_eq_true z
    subst ec
    have eC : C' = C := by rw [h2] at g2; exact (Option.some.inj g2).symm
    subst eC
    exact ⟨b, ey, .inl ⟨dy, gv, g1⟩⟩
  | none =>
    rw [e2] at z
    cases w with
    | tup l' =>
      obtain ⟨b, vs, ey, g1, g2⟩ := r2.inv_tup
      cases neg with
      | true => cases z
      | false => exact ⟨b, ey, .inr ⟨rfl, vs, g1⟩⟩
    | _ => cases z
theorem o2_eqX {et : Nat → Option RunD} (hT : X.K = T.K) : O2 T W (eqX false et) (rEqX X T et) := by
  intro σ H s G ρ Z x y u w Q sm r1 r2 h
  unfold eqX at h
  split at h
  · rename_i c l e
    split at h
    · rename_i r hr
      by_cases z : (match insOf G w with | some (c', _) => decide (c' = c) | none => isTupU w && !false) = true
      · rw [if_pos z] at h
        obtain ⟨C, h1, a, dx, fs, ex, ha, ⟨b, ey, hb⟩, hs⟩ := own_top (neg := false) (et := et) sm r1 r2 e z h
        exact .inl ⟨⟨⟨r, C⟩, c, hr, h1⟩, a, dx, fs, ex, ha, ⟨b, ey, hb.imp id fun z => z.2⟩, hs⟩
      · rw [if_neg z] at h
        exact h.elim
    · exact h.elim
  · exact .inr (o2_eq hT σ H s G ρ Z x y u w Q sm r1 r2 h)
theorem o2_neX {et : Nat → Option RunD} (hT : X.K = T.K) : O2 T W (eqX true et) (rNeX X T et) := by
  intro σ H s G ρ Z x y u w Q sm r1 r2 h
  unfold eqX at h
  split at h
  · rename_i c l e
    split at h
    · rename_i r hr
      by_cases z : (match insOf G w with | some (c', _) => decide (c' = c) | none => isTupU w && !true) = true
      · rw [if_pos z] at h
        obtain ⟨C, h1, a, dx, fs, ex, ha, ⟨b, ey, hb⟩, hs⟩ := own_top (neg := true) (et := et) sm r1 r2 e z h
        refine .inl ⟨⟨⟨r, C⟩, c, hr, h1⟩, a, dx, fs, ex, ha, ⟨b, ey, hb.elim id fun z => ?_⟩, hs⟩
        cases z.1
      · rw [if_neg z] at h
        exact h.elim
    · exact h.elim
  · exact .inr (o2_ne hT σ H s G ρ Z x y u w Q sm r1 r2 h)

/-! ### built-ins by name -/
def strU2 : RunD := fun us G => match us with
  | [.str l] => .ok (.str l) G
  | us => strU1 us G
theorem oc_str2 : OC T W strU2 (fun xs H Q => (∃ a, xs = [.str a] ∧ Q (.str a) H) ∨ ∃ i, xs = [.int i] ∧ i.natAbs.log2 < 1920 ∧ Q (.str (toString i)) H) := by
  intro σ H s G ρ Z vs us Q sm r1 h
  unfold strU2 at h
  split at h
  · obtain ⟨v, rfl, rv⟩ := r1.inv1
    exact .inl ⟨_, by rw [rv.inv_str], h _ H ρ Z Ex.refl sm.rl (Rep.ss _)⟩
  · exact .inr (oc_str σ H s G ρ Z vs us Q sm r1 h)
/-- the functions -/
def bltF (x : Str) : Option RunD :=
  if x == ("len" : Str) then some lenU else if x == ("abs" : Str) then some absU else if x == ("all" : Str) then some allU else if x == ("any" : Str) then some anyU else if x == ("max" : Str) then some maxU else if x == ("min" : Str) then some minU
  else if x == ("sum" : Str) then some sumU else none
/-- the types, and sorted -/
def bltT (mu : Bool) (x : Str) : Option RunD :=
  if x == ("int" : Str) then some intU1 else if x == ("str" : Str) then some strU2 else if x == ("list" : Str) then some (listU mu) else if x == ("tuple" : Str) then some tupleU else if x == ("sorted" : Str) then some (sortedU mu) else none
theorem fe_bltF {g : RunD} (h : bltF x = some g) (hT : X.K = T.K) (hc : X.calm = true) (hg : Gl X x) (hm : X.mg x = none) (ha : PA X (e :: es) (tA T W mas)) (hst : (e :: es).all noStar = true) : PE X (.Call (.Name x p) (e :: es) [] pos) (tE T W (preM g mas)) := by
  unfold bltF at h
  split at h
  · rename_i hx; cases h; rw [beq_iff_eq] at hx; subst hx
    exact fe_callB call_len (oc_len hT) hg hm (by decide +kernel) ha (by decide) (by decide) hst
  · split at h
    · rename_i hx; cases h; rw [beq_iff_eq] at hx; subst hx
      exact fe_callB call_abs oc_abs hg hm (by decide +kernel) ha (by decide) (by decide) hst
    · split at h
      · rename_i hx; cases h; rw [beq_iff_eq] at hx; subst hx
        exact fe_callB (cr_all hc) (oc_all hT) hg hm (by decide +kernel) ha (by decide) (by decide) hst
      · split at h
        · rename_i hx; cases h; rw [beq_iff_eq] at hx; subst hx
          exact fe_callB (cr_any hc) (oc_any hT) hg hm (by decide +kernel) ha (by decide) (by decide) hst
        · split at h
          · rename_i hx; cases h; rw [beq_iff_eq] at hx; subst hx
            exact fe_callB (cr_maxA hc) (oc_max hT) hg hm (by decide +kernel) ha (by decide) (by decide) hst
          · split at h
            · rename_i hx; cases h; rw [beq_iff_eq] at hx; subst hx
              exact fe_callB (cr_minA hc) (oc_min hT) hg hm (by decide +kernel) ha (by decide) (by decide) hst
            · split at h
              · rename_i hx; cases h; rw [beq_iff_eq] at hx; subst hx
                exact fe_callB (cr_sum hc) (oc_sum hT) hg hm (by decide +kernel) ha (by decide) (by decide) hst
              · cases h
theorem fe_bltT {mu : Bool} {g : RunD} (h : bltT mu x = some g) (hT : X.K = T.K) (hc : X.calm = true) (hg : Gl X x) (hm : X.mg x = none) (ha : PA X (e :: es) (tA T W mas)) (hst : (e :: es).all noStar = true) : PE X (.Call (.Name x p) (e :: es) [] pos) (tE T W (preM g mas)) := by
  unfold bltT at h
  split at h
  · rename_i hx; cases h; rw [beq_iff_eq] at hx; subst hx
    exact fe_callTy cr_int oc_int hg hm (by decide +kernel) ha (by decide) (by decide) hst
  · split at h
    · rename_i hx; cases h; rw [beq_iff_eq] at hx; subst hx
      exact fe_callTy (CallR.or SkE.call_str_str call_str_int) oc_str2 hg hm (by decide +kernel) ha (by decide) (by decide) hst
    · split at h
      · rename_i hx; cases h; rw [beq_iff_eq] at hx; subst hx
        exact fe_callTy call_list_of (oc_list hT) hg hm (by decide +kernel) ha (by decide) (by decide) hst
      · split at h
        · rename_i hx; cases h; rw [beq_iff_eq] at hx; subst hx
          exact fe_callTy call_tuple_of (oc_tuple hT) hg hm (by decide +kernel) ha (by decide) (by decide) hst
        · split at h
          · rename_i hx; cases h; rw [beq_iff_eq] at hx; subst hx
            exact fe_callB cr_sorted (oc_sorted hT) hg hm (by decide +kernel) ha (by decide) (by decide) hst
          · cases h
end
def okN (x : Str) : Bool := !(x == ("__debug__" : Str)) && !(x == ("__classdict__" : Str))
theorem okN_d {x : Str} (h : okN x = true) : (x == ("__debug__" : Str)) = false := by
  unfold okN at h
  rw [Bool.and_eq_true] at h
  simpa using h.1
theorem okN_c {x : Str} (h : okN x = true) : (x == ("__classdict__" : Str)) = false := by
  unfold okN at h
  rw [Bool.and_eq_true] at h
  simpa using h.2
@[simp] theorem bind_ok {α β : Type} (a : α) (G : List Ob) (f : α → List Ob → Rs β) : (Rs.ok a G).bind f = f a G := rfl
@[simp] theorem bind_bad {α β : Type} (f : α → List Ob → Rs β) : (Rs.bad : Rs α).bind f = .bad := rfl
@[simp] theorem bind_exc {α β : Type} (x : Exn) (G : List Ob) (f : α → List Ob → Rs β) : (Rs.exc x G : Rs α).bind f = .exc x G := rfl
end FL

/-! FL29: enumerate(text), zip(list, text), as they are walked. -/
namespace FL
open PySem L2 PyProof.Rows
/-! ### iterators that are at their end, whatever the place -/
theorem draws_listEnd {prog : Program} {w : World} {A : Around} (hh : A.handled = none) (it l : Addr) (items : Array Value) (n : Nat) (hx : items[n]? = none) :
    Draws prog w A it [it, l] n (fun _ _ => False) (fun j h => j = n ∧ h.IsListIter it l j ∧ h.IsList l items) where
  live := fun _ _ st => let ⟨o, ho, _⟩ := st.2.1; ⟨o, ho⟩
  frame := fun _ _ _ st hk => ⟨st.1, st.2.1.at fun o e => hk it (by simp) o e, st.2.2.at fun o e => hk l (by simp) o e⟩
  item := fun i s Q E hi st hQ => absurd st.1 (Nat.ne_of_lt hi)
  done := fun s Q E st hE => wpAny_nextOf_list_end hh st.2.1 st.2.2 hx hE
theorem draws_strEnd {prog : Program} {w : World} {A : Around} (hh : A.handled = none) (it : Addr) (x : Str) (t : Tok) (ty : String) (hty : ty = "str_ascii_iterator" ∨ ty = "str_iterator") (n : Nat) (hx : x.cps[n]? = none) :
    Draws prog w A it [it] n (fun _ _ => False) (fun j h => j = n ∧ h.IsStrIter it ty x t j) where
  live := fun _ _ st => let ⟨o, ho, _⟩ := st.2; ⟨o, ho⟩
  frame := fun _ _ _ st hk => ⟨st.1, let ⟨o, ho, r⟩ := st.2; ⟨o, hk it (by simp) o ho, r⟩⟩
  item := fun i s Q E hi st hQ => absurd st.1 (Nat.ne_of_lt hi)
  done := fun s Q E st hE => by
    have st := st.2
    rcases hty with e | e
    · rw [e] at st; exact wpAny_nextOf_ascii_end hh st hx hE
    · rw [e] at st; exact wpAny_nextOf_wide_end hh st hx hE
theorem draws_str {prog : Program} {w : World} {A : Around} (hh : A.handled = none) (it : Addr) (x : Str) (t : Tok) (ty : String) (hty : ty = "str_ascii_iterator" ∨ ty = "str_iterator") :
    Draws prog w A it [it] x.cps.size (fun i v => ∃ c u, x.cps[i]? = some c ∧ v = .str ⟨#[c]⟩ u) (fun i h => h.IsStrIter it ty x t i) := by
  rcases hty with e | e
  · rw [e]; exact Draws.strAscii hh it x t
  · rw [e]; exact Draws.strWide hh it x t
theorem strType (x : Str) : strIterType x = "str_ascii_iterator" ∨ strIterType x = "str_iterator" := by
  unfold strIterType
  split
  · exact .inl rfl
  · exact .inr rfl
theorem strIter_at {h h' : Heap} {it : Addr} {ty : String} {x : Str} {t : Tok} {i : Nat} (st : h.IsStrIter it ty x t i) (k : ∀ o, h.get? it = some o → h'.get? it = some o) : h'.IsStrIter it ty x t i := let ⟨o, ho, r⟩ := st; ⟨o, k o ho, r⟩
/-! ### enumerate(text) -/
def Ites (x : Str) : It :=
  ⟨fun i H => i < x.cps.size, fun i H v H' => ∃ T c, v = .ref T ∧ H T = none ∧ H' = upd H T (.tup [.int (i : Nat), .str ⟨#[c]⟩]) ∧ x.cps[i]? = some c, fun i H => x.cps.size ≤ i⟩
theorem turn_enumS {P : Program} {w : World} {K : PySem.W.Frag} {elts : List Expr} {kk : Nat} {tpos : Pos} (x : Str) (t : Tok) (ty : String) (hty : ty = "str_ascii_iterator" ∨ ty = "str_iterator") (e it : Addr) :
    Turn P w K (.Tuple elts kk tpos) (Ites x) [e, it] e (fun i h => (∃ old, IsEnum h e it ((i : Nat) : Int) old) ∧ h.IsStrIter it ty x t i ∧ e ≠ it) where
  mem := by simp
  obj := fun i h st b hb => by
    obtain ⟨⟨old, he⟩, ⟨o, ho, hc, hd⟩, _⟩ := st
    have e' : b = e ∨ b = it := by simpa using hb
    rcases e' with z | z
    · rw [z]; exact ⟨_, he, fun v q => nomatch q⟩
    · rw [z]; exact ⟨o, ho, fun v q => by rw [hd] at q; cases q⟩
  keep := fun i h h' st k => let ⟨⟨old, he⟩, hi, hne⟩ := st; ⟨⟨old, k e (by simp) _ he⟩, strIter_at hi fun o q => k it (by simp) o q, hne⟩
  item := by
    intro X hP hw hK hc i pins s σ H E I hf st hg
    subst hP hw hK
    obtain ⟨⟨old, he⟩, hit, hne⟩ := st
    have hel : e < s.heap.objs.size := Heap.lt_size he
    have hil : it < s.heap.objs.size := by obtain ⟨_, q, _⟩ := hit; exact Heap.lt_size q
    refine wpAny_pyNext_enum_itemD (draws_str (show X.A.in1.handled = none from I.ok.hd hc) it x t ty hty) he hit hg hne (by simpa using hne) fun v h' tk hv ho hit' hT hsz hk => ?_
    obtain ⟨c, u, hcx, rfl⟩ := hv
    refine ⟨_, rfl, wpAny_letOwnedTupleGo_enum (s := { s with heap := h', toks := tk + 1 }) ho fun h'' he' sb => ?_⟩
    have hT2 : h''.get? s.heap.objs.size = some { cls := .type "tuple", data := .seq #[.int i tk, .str ⟨#[c]⟩ u] } := (sb.2 _ (Nat.ne_of_gt hel)).trans hT
    have new : ObjOk X.prog X.w (upd H s.heap.objs.size (.tup [.int (i : Nat), .str ⟨#[c]⟩])) h'' s.heap.objs.size (.tup [.int (i : Nat), .str ⟨#[c]⟩]) :=
      ⟨by show 2 ≤ sizeLine; decide, [.int i tk, .str ⟨#[c]⟩ u], .cons ⟨_, rfl⟩ (.cons ⟨u, rfl⟩ .nil), ⟨_, hT2, rfl, _, rfl⟩⟩
    have I1 : Inv X pins σ (upd H s.heap.objs.size (.tup [.int (i : Nat), .str ⟨#[c]⟩])) { s with heap := h'', toks := tk + 1 } :=
      I.turnedNew (ch := [e, it]) (fun b ob hb q => (sb.2 b (fun z => hb (by simp [z]))).trans (hk b ob (fun z => hb (by simp [z])) (fun z => hb (by simp [z])) q)) hf (Nat.le_refl _) new
    refine ⟨.ref s.heap.objs.size, _, I1, rfl, ⟨_, c, rfl, I.hok.fresh (Nat.le_refl _), rfl, hcx⟩, ⟨⟨.str ⟨#[c]⟩ u, ?_⟩, strIter_at hit' fun o q => (sb.2 it (Ne.symm hne)).trans q, hne⟩, fun b hb => ?_⟩
    · have e1 : ((i + 1 : Nat) : Int) = (i : Int) + 1 := by omega
      rw [e1]; exact he'
    · have hb' : b < s.heap.objs.size := by
        have e' : b = e ∨ b = it := by simpa using hb
        rcases e' with z | z
        · rw [z]; exact hel
        · rw [z]; exact hil
      rw [upd_ne (Nat.ne_of_lt hb')]
      exact (hf b hb).1
  done := by
    intro X hP hw hK hc i pins s σ H E I hf st hg
    subst hP hw hK
    obtain ⟨⟨old, he⟩, hit, hne⟩ := st
    obtain ⟨f0, f1, f2, f3, f4, f5⟩ := hf it (by simp)
    have hx : x.cps[i]? = none := Array.getElem?_eq_none hg
    exact wpAny_pyNext_enum_endD (draws_strEnd (show X.A.in1.handled = none from I.ok.hd hc) it x t ty hty i hx) he ⟨rfl, hit⟩ fun h' eb => ⟨rfl, I.turned (t' := s.toks) (fun b o hb q => eb b o hb q) f0 f1 f3 f4 f5⟩
  self := fun A i s Q E st h => let ⟨⟨_, he⟩, _⟩ := st; wpAny_pyIter_enum he h
def iEnumS (ta : TA) : TI := fun σ H R => ta σ H fun vs H1 => ∃ x, vs = [.str x] ∧ R (Ites x) H1
theorem pi_enumS {X : Cx} {e : Expr} {ta : TA} {p pos tpos : Pos} {elts : List Expr} {kk : Nat} (hg : Gl X "enumerate") (hm : X.mg "enumerate" = none) (ha : PA X [e] ta) (hs : starEach [e] X.env = [(false, eval e X.env)] := by rfl) :
    PI X (.Tuple elts kk tpos) (.Call (.Name "enumerate" p) [e] [] pos) (iEnumS ta) := by
  refine ⟨fun pins s σ H R I h => ?_⟩
  refine Call_ (ld_blt I hg hm boot_enumerate (PyProof.Rows.callWith_type1 (thn (ha.run pos pins s σ H _ I h) fun us s1 ⟨vs, H1, I1, r1, q1⟩ => ?_) hs rfl))
  obtain ⟨x, ex, q⟩ := q1
  subst ex
  cases r1 with
  | cons r rr =>
    cases rr
    obtain ⟨t, rfl⟩ := r
    refine call_enumerate_str fun h' he hit hsz hk => wpAny_pyIter_enum he ?_
    have I2 : Inv X pins σ H1 { s1 with heap := h' } := I1.kept (t' := s1.toks) hk
    refine ⟨s1.heap.objs.size + 1, [s1.heap.objs.size + 1, s1.heap.objs.size], _, _, H1, rfl, I2, turn_enumS x t _ (strType x) (s1.heap.objs.size + 1) s1.heap.objs.size, ⟨⟨.none, he⟩, hit, Nat.succ_ne_self _⟩, fun b hb => ?_, q⟩
    have e' : b = s1.heap.objs.size + 1 ∨ b = s1.heap.objs.size := by simpa using hb
    have hle : s1.heap.objs.size ≤ b := by
      rcases e' with z | z
      · rw [z]; exact Nat.le_add_right _ _
      · rw [z]; exact Nat.le_refl _
    exact I1.fpOk hle (I1.hok.fresh hle)
/-! ### zip(list, text) -/
abbrev zsH1 (h : Heap) (l1 : Addr) : Heap := h.push { cls := .type "list_iterator", data := .fields #[.ref l1, .int 0 0] }
abbrev zsH2 (h : Heap) (l1 : Addr) (x : Str) (t : Tok) : Heap := (zsH1 h l1).push { cls := .type (strIterType x), data := .fields #[.str x t, .int 0 0] }
abbrev zsH3 (h : Heap) (l1 : Addr) (x : Str) (t : Tok) : Heap := (zsH2 h l1 x t).push { cls := .type "tuple", data := .seq #[.ref h.objs.size, .ref (zsH1 h l1).objs.size] }
abbrev zsH4 (h : Heap) (l1 : Addr) (x : Str) (t : Tok) : Heap := (zsH3 h l1 x t).push { cls := .type "tuple", data := .seq #[.none, .none] }
abbrev zsH5 (h : Heap) (l1 : Addr) (x : Str) (t : Tok) : Heap := (zsH4 h l1 x t).push { cls := .type "zip", data := .fields #[.none, .bool false, .bool false, .ref (zsH2 h l1 x t).objs.size, .ref (zsH3 h l1 x t).objs.size] }
set_option maxHeartbeats 1000000 in
theorem meets_zs_new (l1 : Addr) (x : Str) (t : Tok) (xs : Array Value) :
    Meets (Builtin.«zip.__new__» ⟨[.type "zip", .ref l1, .str x t], []⟩) (fun _ R s => s.heap.IsList l1 xs ∧
      R (.ok (.ret (.ref (zsH4 s.heap l1 x t).objs.size))) { s with heap := zsH5 s.heap l1 x t }) :=
  .of_wp fun prog w A R s h => by
    obtain ⟨hp, g, d, tk, os⟩ := s; obtain ⟨hl1, h⟩ := h
    have hsub := sub_zip
    have hL1 : Heap.IsList (Shared.heap ⟨hp, g, d, tk, os⟩) l1 xs := hl1
    wp_walk using wpAny_pyIter_list hL1, wpAny_pyIter_strU
    exact ⟨_, rfl, h⟩
section
variable {prog : Program} {w : World} {A : Around} {E : Value → Shared → Prop} {s : Shared}
theorem call_zs {l1 : Addr} {x : Str} {t : Tok} {xs : Array Value} {Q : Value → Shared → Prop} (hl1 : s.heap.IsList l1 xs)
    (h : ∀ h', IsZip h' (s.heap.objs.size + 4) (s.heap.objs.size + 2) (s.heap.objs.size + 3) .none → IsTupOf2 h' (s.heap.objs.size + 2) (.ref s.heap.objs.size) (.ref (s.heap.objs.size + 1)) →
      IsTupOf2 h' (s.heap.objs.size + 3) .none .none → h'.IsListIter s.heap.objs.size l1 0 → h'.IsStrIter (s.heap.objs.size + 1) (strIterType x) x t 0 → h'.objs.size = s.heap.objs.size + 5 →
      (∀ c o, s.heap.get? c = some o → h'.get? c = some o) → Q (.ref (s.heap.objs.size + 4)) { s with heap := h' }) :
    wpAny (model prog w) A (call (.type "zip") [.ref l1, .str x t]) Q E s := by
  refine callType_new F.called_zip (by decide) (F.typeCall_zip_2 _ _) (F.newCall_zip_2 _ _) (fun obj => F.args_object_init_3 obj _ _) F.entry_zip_new
    (meets_zs_new l1 x t xs) ⟨hl1, ?_⟩
  have z1 : (zsH1 s.heap l1).objs.size = s.heap.objs.size + 1 := Heap.size_push ..
  have z2 : (zsH2 s.heap l1 x t).objs.size = s.heap.objs.size + 2 := by rw [Heap.size_push, z1]
  have z3 : (zsH3 s.heap l1 x t).objs.size = s.heap.objs.size + 3 := by rw [Heap.size_push, z2]
  have z4 : (zsH4 s.heap l1 x t).objs.size = s.heap.objs.size + 4 := by rw [Heap.size_push, z3]
  have z5 : (zsH5 s.heap l1 x t).objs.size = s.heap.objs.size + 5 := by rw [Heap.size_push, z4]
  have g5 : (zsH5 s.heap l1 x t).get? (zsH4 s.heap l1 x t).objs.size = some _ := Heap.get?_push_size _ rfl
  have g4 : (zsH5 s.heap l1 x t).get? (zsH3 s.heap l1 x t).objs.size = some _ := Heap.get?_push_of_some _ (Heap.get?_push_size _ rfl)
  have g3 : (zsH5 s.heap l1 x t).get? (zsH2 s.heap l1 x t).objs.size = some _ := Heap.get?_push_of_some _ (Heap.get?_push_of_some _ (Heap.get?_push_size _ rfl))
  have g2 : (zsH5 s.heap l1 x t).get? (zsH1 s.heap l1).objs.size = some _ := Heap.get?_push_of_some _ (Heap.get?_push_of_some _ (Heap.get?_push_of_some _ (Heap.get?_push_size _ rfl)))
  have g1 : (zsH5 s.heap l1 x t).get? s.heap.objs.size = some _ := Heap.get?_push_of_some _ (Heap.get?_push_of_some _ (Heap.get?_push_of_some _ (Heap.get?_push_of_some _ (Heap.get?_push_size _ rfl))))
  show _ ∧ _
  rw [z2, z3, z4] at g5
  rw [z1, z2] at g3
  rw [z3] at g4
  rw [z1] at g2
  rw [z4]
  exact ⟨⟨_, g5, rfl⟩, h _ g5 g3 g4 ⟨_, g1, rfl, rfl⟩ ⟨_, g2, rfl, rfl⟩ z5 fun c o x =>
    Heap.get?_push_of_some _ (Heap.get?_push_of_some _ (Heap.get?_push_of_some _ (Heap.get?_push_of_some _ (Heap.get?_push_of_some _ x))))⟩
end
def Itzs (K : PySem.W.Frag) (a : Addr) (x : Str) : It :=
  ⟨fun i H => ∃ (xs : List V) (y : V), SqL K H a xs ∧ xs[i]? = some y ∧ i < x.cps.size,
    fun i H v H' => ∃ T y c, v = .ref T ∧ H T = none ∧ H' = upd H T (.tup [y, .str ⟨#[c]⟩]) ∧ (∀ xs, SqL K H a xs → xs[i]? = some y) ∧ x.cps[i]? = some c,
    fun i H => ∃ xs : List V, SqL K H a xs ∧ (xs.length ≤ i ∨ x.cps.size ≤ i)⟩
/-- the cells lie apart -/
structure ZsA (z TI TO i1 i2 a : Addr) : Prop where
  TIz : TI ≠ z
  TOz : TO ≠ z
  TITO : TI ≠ TO
  TIi1 : TI ≠ i1
  TIi2 : TI ≠ i2
  TOi1 : TO ≠ i1
  TOi2 : TO ≠ i2
  i1z : i1 ≠ z
  i2z : i2 ≠ z
  i12 : i1 ≠ i2
  az : a ≠ z
  aTO : a ≠ TO
  ai1 : a ≠ i1
  ai2 : a ≠ i2
theorem ZsA.sep {z TI TO i1 i2 a : Addr} (D : ZsA z TI TO i1 i2 a) : ZipSep2 z TI TO i1 i2 [i1, a] [i2] where
  TIz := D.TIz
  TOz := D.TOz
  TITO := D.TITO
  TIi1 := D.TIi1
  mem1 := by simp
  zf1 := by simp; exact ⟨Ne.symm D.i1z, Ne.symm D.az⟩
  Tf1 := by simp; exact ⟨D.TOi1, Ne.symm D.aTO⟩
  TIi2 := D.TIi2
  mem2 := by simp
  zf2 := by simp; exact Ne.symm D.i2z
  Tf2 := by simp; exact D.TOi2
  sep1_2 := by simp; exact D.i12
  sep2_1 := by simp; exact ⟨Ne.symm D.i12, Ne.symm D.ai2⟩
theorem zs_apart (I a : Nat) (h : a < I) : ZsA (I + 4) (I + 2) (I + 3) I (I + 1) a := by
  constructor <;> (refine PySem.W.neN ?_; omega)
theorem turn_zs {P : Program} {w : World} {K : PySem.W.Frag} {elts : List Expr} {kk : Nat} {tpos : Pos} {a z TI TO i1 i2 : Addr} (x : Str) (t : Tok) (ty : String) (hty : ty = "str_ascii_iterator" ∨ ty = "str_iterator") (D : ZsA z TI TO i1 i2 a) :
    Turn P w K (.Tuple elts kk tpos) (Itzs K a x) [z, TI, TO, i1, i2] z (fun i h => IsZip h z TI TO .none ∧ IsTupOf2 h TI (.ref i1) (.ref i2) ∧ (∃ x y, IsTupOf2 h TO x y) ∧ h.IsListIter i1 a i ∧ h.IsStrIter i2 ty x t i) where
  mem := by simp
  obj := fun i h st c hc => by
    obtain ⟨hz, hTI, ⟨x, y, hTO⟩, ⟨o1, e1, _, d1⟩, ⟨o2, e2, _, d2⟩⟩ := st
    have e' : c = z ∨ c = TI ∨ c = TO ∨ c = i1 ∨ c = i2 := by simpa using hc
    rcases e' with q | q | q | q | q
    · rw [q]; exact ⟨_, hz, fun v q => nomatch q⟩
    · rw [q]; exact ⟨_, hTI, fun v q => nomatch q⟩
    · rw [q]; exact ⟨_, hTO, fun v q => nomatch q⟩
    · rw [q]; exact ⟨o1, e1, fun v q => by rw [d1] at q; cases q⟩
    · rw [q]; exact ⟨o2, e2, fun v q => by rw [d2] at q; cases q⟩
  keep := fun i h h' st k => by
    obtain ⟨hz, hTI, ⟨x, y, hTO⟩, h1, h2⟩ := st
    exact ⟨k z (by simp) _ hz, k TI (by simp) _ hTI, ⟨x, y, k TO (by simp) _ hTO⟩, h1.at fun o q => k i1 (by simp) o q, strIter_at h2 fun o q => k i2 (by simp) o q⟩
  item := by
    intro X hP hw hK hc i pins s σ H E I hf st hg
    subst hP hw hK
    obtain ⟨hz, hTI, ⟨x0, y0, hTO⟩, h1, h2⟩ := st
    obtain ⟨xs, y, hqx, hx, hlt⟩ := hg
    obtain ⟨its, rv, p, _⟩ := I.list hqx
    obtain ⟨u, hu, ru⟩ := rv.get hx
    have hzl : z < s.heap.objs.size := Heap.lt_size hz
    have hu' : its.toArray[i]? = some u := by simpa using hu
    have hls : i < its.toArray.size := (Array.getElem?_eq_some_iff.mp hu').1
    have hhd : X.A.in1.handled = none := I.ok.hd hc
    refine wpAny_pyNext_zipD2_item D.sep (Draws.list hhd i1 a D.ai1 its.toArray) (draws_str hhd i2 x t ty hty) hz hTI hTO ⟨h1, p.isList⟩ h2 hls hlt fun v1 v2 h' tk hv1 hv2 z' TO' st1 st2 hT hsz hk => ?_
    have e1 : v1 = u := Option.some.inj (hv1.symm.trans hu')
    subst e1
    obtain ⟨c, tc, hcx, rfl⟩ := hv2
    refine ⟨_, rfl, wpAny_letOwnedTupleGo_zip (s := { s with heap := h', toks := tk }) z' fun h'' z'' sb => ?_⟩
    have hT2 : h''.get? s.heap.objs.size = some { cls := .type "tuple", data := .seq #[v1, .str ⟨#[c]⟩ tc] } := (sb.2 _ (Nat.ne_of_gt hzl)).trans hT
    have new : ObjOk X.prog X.w (upd H s.heap.objs.size (.tup [y, .str ⟨#[c]⟩])) h'' s.heap.objs.size (.tup [y, .str ⟨#[c]⟩]) :=
      ⟨by show 2 ≤ sizeLine; decide, [v1, .str ⟨#[c]⟩ tc], .cons ru (.cons ⟨tc, rfl⟩ .nil), ⟨_, hT2, rfl, _, rfl⟩⟩
    have I1 : Inv X pins σ (upd H s.heap.objs.size (.tup [y, .str ⟨#[c]⟩])) { s with heap := h'', toks := tk } :=
      I.turnedNew (ch := [z, TI, TO, i1, i2]) (fun c o hb q => (sb.2 c (fun q' => hb (by simp [q']))).trans (hk c o (fun q' => hb (by simp [q'])) (fun q' => hb (by simp [q'])) (fun q' => hb (by simp [q'])) (fun q' => hb (by simp [q'])) q)) hf (Nat.le_refl _) new
    refine ⟨.ref s.heap.objs.size, _, I1, rfl, ⟨_, y, c, rfl, I.hok.fresh (Nat.le_refl _), rfl, fun l hl => by rw [I.list_inj hl hqx]; exact hx, hcx⟩, ⟨z'', ?_, ⟨v1, .str ⟨#[c]⟩ tc, ?_⟩, ?_, ?_⟩, fun c hcm => ?_⟩
    · exact (sb.2 _ D.TIz).trans (hk _ _ D.TIz D.TITO D.TIi1 D.TIi2 hTI)
    · exact (sb.2 _ D.TOz).trans TO'
    · exact st1.1.at fun o q => (sb.2 _ D.i1z).trans q
    · exact strIter_at st2 fun o q => (sb.2 _ D.i2z).trans q
    · have hlt : c < s.heap.objs.size := by
        have e' : c = z ∨ c = TI ∨ c = TO ∨ c = i1 ∨ c = i2 := by simpa using hcm
        rcases e' with q | q | q | q | q
        · rw [q]; exact hzl
        · rw [q]; exact Heap.lt_size hTI
        · rw [q]; exact Heap.lt_size hTO
        · rw [q]; obtain ⟨_, e1, _⟩ := h1; exact Heap.lt_size e1
        · rw [q]; obtain ⟨_, e2, _⟩ := h2; exact Heap.lt_size e2
      rw [upd_ne (Nat.ne_of_lt hlt)]
      exact (hf c hcm).1
  done := by
    intro X hP hw hK hc i pins s σ H E I hf st hg
    subst hP hw hK
    obtain ⟨hz, hTI, ⟨x0, y0, hTO⟩, h1, h2⟩ := st
    obtain ⟨xs, hqx, hend⟩ := hg
    obtain ⟨its, rv, p, _⟩ := I.list hqx
    have l1 := rv.length
    have hhd : X.A.in1.handled = none := I.ok.hd hc
    have fin : ∀ (h' : Heap) (tk : Nat), (∀ c o, c ≠ z → c ≠ TO → c ≠ i1 → c ≠ i2 → s.heap.get? c = some o → h'.get? c = some o) → (none : Option Value) = none ∧ Inv X pins σ H { s with heap := h', toks := tk } := fun h' tk hk =>
      ⟨rfl, I.turnedL (ch := [z, TI, TO, i1, i2]) (fun c o hb q => hk c o (fun q' => hb (by simp [q'])) (fun q' => hb (by simp [q'])) (fun q' => hb (by simp [q'])) (fun q' => hb (by simp [q'])) q) hf⟩
    by_cases c1 : its.toArray.size ≤ i
    · have e1 : its.toArray[i]? = none := Array.getElem?_eq_none c1
      by_cases c2 : x.cps.size ≤ i
      · exact wpAny_pyNext_zipD2_end D.sep (draws_listEnd hhd i1 a its.toArray i e1) (draws_strEnd hhd i2 x t ty hty i (Array.getElem?_eq_none c2)) hz hTI hTO ⟨rfl, h1, p.isList⟩ ⟨rfl, h2⟩ (Nat.le_refl _) (Nat.le_refl _) (.inl rfl) fin
      · exact wpAny_pyNext_zipD2_end D.sep (draws_listEnd hhd i1 a its.toArray i e1) (draws_str hhd i2 x t ty hty) hz hTI hTO ⟨rfl, h1, p.isList⟩ h2 (Nat.le_refl _) (by omega) (.inl rfl) fin
    · have c2 : x.cps.size ≤ i := by
        rcases hend with q | q
        · exfalso; apply c1; simp; omega
        · exact q
      exact wpAny_pyNext_zipD2_end D.sep (Draws.list hhd i1 a D.ai1 its.toArray) (draws_strEnd hhd i2 x t ty hty i (Array.getElem?_eq_none c2)) hz hTI hTO ⟨h1, p.isList⟩ ⟨rfl, h2⟩ (by omega) (Nat.le_refl _) (.inr rfl) fin
  self := fun A i s Q E st h => wpAny_pyIter_zip st.1 h
def iZipS (K : PySem.W.Frag) (ta : TA) : TI := fun σ H R => ta σ H fun vs H1 => ∃ a xs x, vs = [.ref a, .str x] ∧ SqL K H1 a xs ∧ R (Itzs K a x) H1
theorem pi_zs {X : Cx} {e e2 : Expr} {ta : TA} {p pos tpos : Pos} {elts : List Expr} {kk : Nat} (hg : Gl X "zip") (hm : X.mg "zip" = none) (ha : PA X [e, e2] ta)
    (hs : starEach [e, e2] X.env = (false, eval e X.env) :: starEach [e2] X.env := by rfl) (hpl : (backTo pos (starEach [e2] X.env)).any (·.1) = false := by rfl) :
    PI X (.Tuple elts kk tpos) (.Call (.Name "zip" p) [e, e2] [] pos) (iZipS X.K ta) := by
  refine ⟨fun pins s σ H R I h => ?_⟩
  refine Call_ (ld_blt I hg hm PyProof.Rows.boot_zip (PyProof.Rows.callWith_type1 (thn (ha.run pos pins s σ H _ I h) fun us s1 ⟨vs, H1, I1, r1, q1⟩ => ?_) hs hpl))
  obtain ⟨a, xs, x, ex, hqx, q⟩ := q1
  subst ex
  cases r1 with
  | cons r rr =>
    cases rr with
    | cons r' rr =>
      cases rr
      cases r
      obtain ⟨t, rfl⟩ := r'
      obtain ⟨its, rv, p1, _⟩ := I1.list hqx
      have la : a < s1.heap.objs.size := p1.lt
      refine call_zs p1.isList fun h' hz hTI hTO h1 h2 hsz hk => wpAny_pyIter_zip hz ?_
      have I2 : Inv X pins σ H1 { s1 with heap := h' } := I1.kept (t' := s1.toks) hk
      refine ⟨s1.heap.objs.size + 4, [s1.heap.objs.size + 4, s1.heap.objs.size + 2, s1.heap.objs.size + 3, s1.heap.objs.size, s1.heap.objs.size + 1], _, _, H1, rfl, I2, turn_zs x t _ (strType x) (zs_apart s1.heap.objs.size a la), ⟨hz, hTI, ⟨_, _, hTO⟩, h1, h2⟩, fun c hcm => ?_, q⟩
      have e' : c = s1.heap.objs.size + 4 ∨ c = s1.heap.objs.size + 2 ∨ c = s1.heap.objs.size + 3 ∨ c = s1.heap.objs.size ∨ c = s1.heap.objs.size + 1 := by simpa using hcm
      have hle : s1.heap.objs.size ≤ c := by
        rcases e' with z | z | z | z | z
        · rw [z]; exact Nat.le_add_right _ _
        · rw [z]; exact Nat.le_add_right _ _
        · rw [z]; exact Nat.le_add_right _ _
        · rw [z]; exact Nat.le_refl _
        · rw [z]; exact Nat.le_add_right _ _
      exact I1.fpOk hle (I1.hok.fresh hle)
end FL

/-! FL30: enumerate and zip, over the values U. -/
namespace FL
open PySem L2 PyProof.Rows
def enL (us : List U) : List U := us.mapIdx fun i u => .tup [.int (i : Nat), u]
def zpL (us : List U) (l : List Nat) : List U := List.zipWith (fun u c => .tup [u, .str [c]]) us l
theorem enL_get {us : List U} {k : Nat} : (enL us)[k]? = (us[k]?).map fun u => .tup [.int (k : Nat), u] := by unfold enL; rw [List.getElem?_mapIdx]
theorem enL_len {us : List U} : (enL us).length = us.length := by simp [enL]
theorem zpL_get {us : List U} {l : List Nat} {k : Nat} : (zpL us l)[k]? = (match us[k]?, l[k]? with | some u, some c => some (.tup [u, .str [c]]) | _, _ => none) := by
  unfold zpL
  rw [List.getElem?_zipWith]
  cases us[k]? <;> cases l[k]? <;> rfl
/-- enumerate(e) -/
def enU : U → List Ob → Rs (Itb × Nat) := fun u G1 => match u with
  | .str l => .ok (.items (enL (l.map fun c => .str [c])), l.length) G1
  | .lst us => .ok (.items (enL us), us.length) G1
  | _ => .bad
def enI (m : ME) : MI := fun s G => (m s G).bind enU
/-- zip(e, text) -/
def zpU (us : List U) (G : List Ob) : Rs (Itb × Nat) := match us with
  | [.lst us, .str l] => .ok (.items (zpL us l), min us.length l.length) G
  | _ => .bad
section
variable {T : Tb} {ρ0 : List Addr} {Z0 : Addr → Prop} {H0 : Hp}
theorem tup_new {ρ : List Addr} {Z : Addr → Prop} {H : Hp} {G : List Ob} (rl : Rl T ρ Z G H) {B : Addr} {vs : List V} {us : List U} (h : H B = none) (r : Reps T ρ Z H vs us) : Ex ρ Z H ρ Z (upd H B (.tup vs)) ∧ Rl T ρ Z G (upd H B (.tup vs)) ∧ Rep T ρ Z (upd H B (.tup vs)) (.ref B) (.tup us) := by
  have x : Ex ρ Z H ρ Z (upd H B (.tup vs)) := ex_new h
  exact ⟨x, rl.new h, .tup (.inl (.inl upd_same)) (r.ex rl.zm x)⟩
theorem ites_ok {l : List Nat} : ItOk T (.items (enL (l.map fun c => .str [c]))) (Ites (SS l)) ρ0 Z0 H0 := by
  intro ρ Z G H hp fz rl k
  have hs : (SS l).cps.size = l.length := by simp [SS]
  constructor
  · intro y e
    simp only [itAt] at e
    have e := Option.some.inj e
    rw [enL_get, List.getElem?_map] at e
    cases e2 : l[k]? with
    | none => rw [e2] at e; cases e
    | some c =>
      rw [e2] at e
      cases e
      refine ⟨by show k < (SS l).cps.size; rw [hs]; exact (List.getElem?_eq_some_iff.mp e2).1, ?_⟩
      rintro x H' ⟨B, c', rfl, hB, rfl, hc⟩
      have : c' = c := by
        simp [SS] at hc
        rw [e2] at hc
        exact (Option.some.inj hc).symm
      subst this
      exact tup_new rl hB (.cons (.int _) (.cons (Rep.ss [c']) .nil))
  · intro e
    simp only [itAt] at e
    have e := Option.some.inj e
    rw [enL_get, List.getElem?_map] at e
    show (SS l).cps.size ≤ k
    rw [hs]
    cases e2 : l[k]? with
    | none => exact List.getElem?_eq_none_iff.mp e2
    | some c => rw [e2] at e; cases e
theorem itel_ok {a : Addr} {us : List U} {G0 : List Ob} (rl0 : Rl T ρ0 Z0 G0 H0) (r : Rep T ρ0 Z0 H0 (.ref a) (.lst us)) : ItOk T (.items (enL us)) (Ite T.K a) ρ0 Z0 H0 := by
  intro ρ Z G H hp fz rl k
  have rv := seqOf_mono rl0 r hp fz
  obtain ⟨a', vs, ea, h1, h2⟩ := lstOf_at rl rv (show lstOf G (.lst us) = some us from rfl)
  cases ea
  constructor
  · intro y e
    simp only [itAt] at e
    have e := Option.some.inj e
    rw [enL_get] at e
    cases e2 : us[k]? with
    | none => rw [e2] at e; cases e
    | some u =>
      rw [e2] at e
      cases e
      obtain ⟨v, hv, rv'⟩ := h2.get e2
      refine ⟨⟨vs, v, h1, hv⟩, ?_⟩
      rintro x H' ⟨B, v', rfl, hB, rfl, hy⟩
      have : v' = v := by have := hy vs h1; rw [hv] at this; exact (Option.some.inj this).symm
      subst this
      exact tup_new rl hB (.cons (.int _) (.cons rv' .nil))
  · intro e
    simp only [itAt] at e
    have e := Option.some.inj e
    rw [enL_get] at e
    refine ⟨vs, h1, ?_⟩
    rw [h2.length]
    cases e2 : us[k]? with
    | none => exact List.getElem?_eq_none_iff.mp e2
    | some c => rw [e2] at e; cases e
theorem itzs_ok {a : Addr} {us : List U} {l : List Nat} {G0 : List Ob} (rl0 : Rl T ρ0 Z0 G0 H0) (r : Rep T ρ0 Z0 H0 (.ref a) (.lst us)) : ItOk T (.items (zpL us l)) (Itzs T.K a (SS l)) ρ0 Z0 H0 := by
  intro ρ Z G H hp fz rl k
  have rv := seqOf_mono rl0 r hp fz
  have hs : (SS l).cps.size = l.length := by simp [SS]
  obtain ⟨a', vs, ea, h1, h2⟩ := lstOf_at rl rv (show lstOf G (.lst us) = some us from rfl)
  cases ea
  constructor
  · intro y e
    simp only [itAt] at e
    have e := Option.some.inj e
    rw [zpL_get] at e
    cases e2 : us[k]? with
    | none => rw [e2] at e; cases e
    | some u =>
      cases e3 : l[k]? with
      | none => rw [e2, e3] at e; cases e
      | some c =>
        rw [e2, e3] at e
        cases e
        obtain ⟨v, hv, rv'⟩ := h2.get e2
        refine ⟨⟨vs, v, h1, hv, by rw [hs]; exact (List.getElem?_eq_some_iff.mp e3).1⟩, ?_⟩
        rintro x H' ⟨B, v', c', rfl, hB, rfl, hy, hc⟩
        have : v' = v := by have := hy vs h1; rw [hv] at this; exact (Option.some.inj this).symm
        subst this
        have : c' = c := by
          simp [SS] at hc
          rw [e3] at hc
          exact (Option.some.inj hc).symm
        subst this
        exact tup_new rl hB (.cons rv' (.cons (Rep.ss [c']) .nil))
  · intro e
    simp only [itAt] at e
    have e := Option.some.inj e
    rw [zpL_get] at e
    refine ⟨vs, h1, ?_⟩
    rw [h2.length, hs]
    cases e2 : us[k]? with
    | none => exact .inl (List.getElem?_eq_none_iff.mp e2)
    | some c =>
      cases e3 : l[k]? with
      | none => exact .inr (List.getElem?_eq_none_iff.mp e3)
      | some c => rw [e2, e3] at e; cases e
end
section
variable {X : Cx} {T : Tb} {W : WX} {p pos tpos : Pos} {a b : Expr} {ma : ME} {mas : MA} {elts : List Expr} {kk : Nat}
theorem fi_enum (hT : X.K = T.K) (hg : Gl X "enumerate") (hm : X.mg "enumerate" = none) (h : PE X a (tE T W ma)) (h1 : noStar a = true) : PI X (.Tuple elts kk tpos) (.Call (.Name "enumerate" p) [a] [] pos) (tI T W (enI ma)) := by
  have ha : PA X [a] (tA T W (consA ma nilA)) := fa_cons h fa_nil (star_cons h1)
  have hst : starEach [a] X.env = [(false, eval a X.env)] := star_cons h1
  refine PI.imp (PI.or (pi_enumS hg hm ha hst) (pi_enum hg hm ha hst)) fun σ H R ⟨s, G, ρ, Z, sm, q⟩ => ?_
  have key : ∀ k : List V → Hp → Prop, (∀ u G1 v H1 ρ1 Z1, ma s G = .ok u G1 → Ex ρ Z H ρ1 Z1 H1 → Sm T σ H1 s G1 ρ1 Z1 → Rep T ρ1 Z1 H1 v u → RI T W σ H1 ρ1 Z1 R (enU u G1) → k [v] H1) → tA T W (consA ma nilA) σ H k := fun k hk => by
    refine ⟨s, G, ρ, Z, sm, ?_⟩
    unfold enI at q
    cases e : ma s G with
    | bad => rw [e] at q; exact q.elim
    | exc x G1 =>
      rw [e] at q
      unfold consA
      rw [e]
      exact q
    | ok u G1 =>
      rw [e] at q
      have q : RI T W σ H ρ Z R (enU u G1) := q
      rw [show consA ma nilA s G = .ok [u] G1 by unfold consA nilA; rw [e]; rfl]
      intro vs H1 ρ1 Z1 x1 rl1 rv
      cases rv with
      | cons rv rr =>
        cases rr
        refine hk u G1 _ H1 ρ1 Z1 e x1 (sm.ex x1 rl1) rv ?_
        revert q
        cases u with
        | str l => exact fun q J H2 ρ2 Z2 y => q J H2 ρ2 Z2 (x1.trans y)
        | lst l => exact fun q J H2 ρ2 Z2 y => q J H2 ρ2 Z2 (x1.trans y)
        | _ => exact fun q => q.elim
  cases e : ma s G with
  | ok u G1 =>
    cases u with
    | str l =>
      refine .inl (key _ fun u' G2 v H1 ρ1 Z1 e2 x1 sm1 r1 q1 => ?_)
      rw [e] at e2
      cases e2
      exact ⟨SS l, by rw [r1.inv_str], q1 _ H1 ρ1 Z1 Ex.refl sm1.rl ites_ok⟩
    | lst us =>
      refine .inr (key _ fun u' G2 v H1 ρ1 Z1 e2 x1 sm1 r1 q1 => ?_)
      rw [e] at e2
      cases e2
      obtain ⟨p, vs, rfl, h1, h2⟩ := lstOf_at sm1.rl r1 (show lstOf G1 (.lst us) = some us from rfl)
      exact ⟨p, vs, rfl, hT ▸ h1, hT ▸ q1 _ H1 ρ1 Z1 Ex.refl sm1.rl (itel_ok sm1.rl r1)⟩
    | _ => unfold enI at q; rw [e] at q; exact q.elim
  | exc x G1 => exact .inl (key _ fun u' G2 v H1 ρ1 Z1 e2 => by rw [e] at e2; cases e2)
  | bad => unfold enI at q; rw [e] at q; exact q.elim
theorem fi_zip (hT : X.K = T.K) (hg : Gl X "zip") (hm : X.mg "zip" = none) (ha : PA X [a, b] (tA T W mas)) (h1 : noStar a = true) (h2 : noStar b = true) : PI X (.Tuple elts kk tpos) (.Call (.Name "zip" p) [a, b] [] pos) (tI T W (preI zpU mas)) := by
  have hst : starEach [a, b] X.env = (false, eval a X.env) :: starEach [b] X.env := star_cons h1
  have hpl : (backTo pos (starEach [b] X.env)).any (·.1) = false := by
    rw [show starEach [b] X.env = [(false, eval b X.env)] from star_cons h2]
    rfl
  refine PI.imp (pi_zs hg hm ha hst hpl) fun σ H R ⟨s, G, ρ, Z, sm, q⟩ => ?_
  refine tA_bindI sm q fun us G1 vs H1 ρ1 Z1 x1 sm1 r1 q1 => ?_
  unfold zpU at q1
  split at q1
  · rename_i us l
    cases r1 with
    | cons r1 rr =>
      cases rr with
      | cons r2 rr =>
        cases rr
        obtain ⟨p, vs, rfl, h1, h2⟩ := lstOf_at sm1.rl r1 (show lstOf G1 (.lst us) = some us from rfl)
        exact ⟨p, vs, SS l, by rw [r2.inv_str], hT ▸ h1, hT ▸ q1 _ H1 ρ1 Z1 Ex.refl sm1.rl (itzs_ok sm1.rl r1)⟩
  · exact q1.elim
end
end FL

/-! FL31: {}; len of an instance with its own __len__. -/
namespace FL
open PySem L2 PyProof.Rows
def dctM (mu : Bool) : ME := fun _ G => if mu then .ok (.ref G.length) (G ++ [.dct []]) else .ok (.dct []) G
section
variable {X : Cx} {T : Tb} {W : WX} {p pos : Pos} {e : Expr} {ma : ME} {k : Nat}
theorem fe_dct {mu : Bool} : PE X (.Dict [] [] pos) (tE T W (dctM mu)) :=
  PE.imp pe_dnewK fun σ H Q ⟨s, G, ρ, Z, sm, q⟩ => by
    intro a ha
    unfold dctM at q
    cases mu with
    | false => exact q _ _ ρ Z (ex_new ha) (sm.rl.new ha) (.dct upd_same (sm.rl.nz ha) .nil)
    | true =>
      refine q _ _ _ _ (ex_cell sm.rl ha) (sm.rl.cell ha trivial ⟨.inr rfl, [], upd_same, .nil⟩) (.ref ?_)
      rw [List.getElem?_append_right (by rw [sm.rl.len]; exact Nat.le_refl _)]
      simp [sm.rl.len]
/-- the facts of a class with its own __len__ -/
structure LnOk (P : Program) (w : World) (K : PySem.W.Frag) (mg : Str → Option Value) (base : Heap) (T : Tb) (k : Nat) (c : Nat) (r : RunD) : Prop where
  cl : ∃ C f, T.cls[c]? = some C ∧ PySem.W.findIn K (.ref C) "__len__" = some (some (.ref f)) ∧ PySem.W.isFn K (.ref f) = true ∧ DefOk P w K mg base T k f 1 r
def lenX (lt : Nat → Option RunD) : RunD := fun us G => match us with
  | [u] => match insOf G u with
    | some (c, _) => (match lt c with
      | some r => (match arM 1 r [u] G with
        | .ok (.int n) G1 => if 0 ≤ n ∧ n < 2 ^ 63 then .ok (.int n) G1 else .bad
        | _ => .bad)
      | none => .bad)
    | none => lenU us G
  | _ => .bad
def rOwnLen (T : Tb) (r : RunD) (C : Addr) : List V → Hp → VK → Prop := fun xs H Q => ∃ a dx fs, xs = [.ref a] ∧ H a = some (.ins C dx fs) ∧ spD T 1 r [.ref a] H (fun v H' => ∃ n : Int, v = .int n ∧ 0 ≤ n ∧ n < 2 ^ 63 ∧ Q (.int n) H') E0
theorem call_ownLen {C f : Addr} {r : RunD} (hl : PySem.W.findIn X.K (.ref C) "__len__" = some (some (.ref f))) (hf : PySem.W.isFn X.K (.ref f) = true) (F : DefOk X.prog X.w X.K X.mg X.base T k f 1 r) (hr : Room (k + 1) X.A) : CallR X (.builtin "len") (rOwnLen T r C) := by
  intro pins s σ H xs us Q I r1 ⟨a, dx, fs, ex, ha, hsp⟩
  subst ex
  obtain rfl := Vals.ref1 r1
  obtain ⟨fd, ps, hbi, hlp, F⟩ := F.ex
  obtain ⟨mA, J, _⟩ := ins_get I.hok ha
  obtain ⟨od, J, _⟩ := J.look
  obtain ⟨m, hF⟩ := I.fr
  have e0 : Env0 X.prog X.w X.K X.mg X.base X.A.in1 X.stack s H := by
    have e := I.env0
    exact ⟨e.frames, e.mod, e.bs, e.bsz, e.funs, e.frf, e.hok, e.bare⟩
  refine PySem.W.len_K hF I.ok.mod.kin J hl hf ?_
  refine wpAny_call (codeAny_mono (F.run X.A.in1 X.stack s H ⟨[.ref a], []⟩ [.ref a] [.ref a] _ E0 hr.in1 e0 (by
    have := hbi s [.ref a] I.kIn (by simpa using hlp.symm)
    simpa using this) (.cons rfl .nil) hsp) fun r s' hq => ?_)
  cases r with
  | error e => exact passL pins σ H s e s' I hq
  | ok fl =>
    cases fl with
    | ret w =>
      obtain ⟨z, H', I', rz, n, ez, h0, h1, ex⟩ := I.after hq
      subst ez
      obtain ⟨t, rfl⟩ := rz
      exact ⟨⟨h0, h1⟩, .int n, H', I'.tok _, ⟨_, rfl⟩, ex⟩
    | next => exact False.elim hq
    | brk => exact False.elim hq
    | cont => exact False.elim hq
theorem CallR.ex {ι : Sort _} {f : Value} {r : ι → List V → Hp → VK → Prop} (h : ∀ i, CallR X f (r i)) : CallR X f (fun xs H Q => ∃ i, r i xs H Q) := fun pins s σ H xs us Q I r1 ⟨i, q⟩ => h i pins s σ H xs us Q I r1 q
def rLenX (X : Cx) (T : Tb) (lt : Nat → Option RunD) : List V → Hp → VK → Prop := fun xs H Q => (∃ i : { z : RunD × Addr // ∃ c, lt c = some z.1 ∧ T.cls[c]? = some z.2 }, rOwnLen T i.1.1 i.1.2 xs H Q) ∨ rLen X.K xs H Q
theorem cr_lenX {lt : Nat → Option RunD} (h : ∀ c r, lt c = some r → LnOk X.prog X.w X.K X.mg X.base T k c r) (hr : Room (k + 1) X.A) : CallR X (.builtin "len") (rLenX X T lt) := by
  refine CallR.or (CallR.ex fun ⟨⟨r, C⟩, c, h1, h2⟩ => ?_) call_len
  obtain ⟨C', f, g1, g2, g3, g4⟩ := (h c r h1).cl
  have eC : C' = C := by rw [h2] at g1; exact (Option.some.inj g1).symm
  subst eC
  exact call_ownLen g2 g3 g4 hr
theorem oc_lenX {lt : Nat → Option RunD} (hT : X.K = T.K) : OC T W (lenX lt) (rLenX X T lt) := by
  intro σ H s G ρ Z vs us Q sm r1 h
  unfold lenX at h
  split at h
  · rename_i u
    split at h
    · rename_i c l e
      split at h
      · rename_i r hr
        obtain ⟨v, rfl, rv⟩ := r1.inv1
        obtain ⟨a, C, dx, fv, rfl, h1, h2, h3⟩ := insOf_at sm.rl rv e
        refine .inl ⟨⟨⟨r, C⟩, c, hr, h2⟩, a, dx, fv, rfl, h1, ?_⟩
        unfold arM at h
        rw [if_pos (show [u].length = 1 from rfl)] at h
        refine ⟨[u], G, ρ, Z, sm.rl, r1, rfl, ?_⟩
        show RD T H ρ Z _ E0 (r [u] G)
        cases e2 : r [u] G with
        | ok w G' =>
          rw [e2] at h
          cases w with
          | int n =>
            simp only at h
            by_cases hn : 0 ≤ n ∧ n < 2 ^ 63
            · rw [if_pos hn] at h
              exact fun v H' ρ' Z' x rl rv => ⟨n, rv.inv_int, hn.1, hn.2, h _ H' ρ' Z' x rl (.int n)⟩
            · rw [if_neg hn] at h
              exact h.elim
          | _ => exact h.elim
        | exc x G' => rw [e2] at h; exact h.elim
        | bad => rw [e2] at h; exact h.elim
      · exact h.elim
    · exact .inr (oc_len hT σ H s G ρ Z vs _ Q sm r1 h)
  · exact h.elim
theorem fe_len {lt : Nat → Option RunD} {x : Str} {es : List Expr} {mas : MA} (hx : x = ("len" : Str)) (h : ∀ c r, lt c = some r → LnOk X.prog X.w X.K X.mg X.base T k c r) (hr : Room (k + 1) X.A) (hT : X.K = T.K) (hg : Gl X x) (hm : X.mg x = none) (ha : PA X (e :: es) (tA T W mas)) (hst : (e :: es).all noStar = true) :
    PE X (.Call (.Name x p) (e :: es) [] pos) (tE T W (preM (lenX lt) mas)) := by
  subst hx
  exact fe_callB (cr_lenX h hr) (oc_lenX hT) hg hm (by decide +kernel) ha (by decide) (by decide) hst
end
end FL

/-! FL23: try with several clauses, each with a name or without. -/
namespace FL
open PySem L2 PyProof.Rows
/-- a clause: its class, its name's slot, its suite -/
structure Hd where
  c : Value
  i : Option Nat
  ts : Addr → Value → Option Addr → TS
def offD (i : Nat) (D : Ends) : Ends := { nx := fun τ G => D.nx (τ.set i none) G, rt := D.rt, bk := fun τ G => D.bk (τ.set i none) G, ct := fun τ G => D.ct (τ.set i none) G }
def runHd (h : Hd) (a : Addr) (cls : Value) (d : Option Addr) (D : Ends) (σ : L2.St) (H : Hp) : Prop := match h.i with
  | none => h.ts a cls d D σ H
  | some i => h.ts a cls d (offD i D) (σ.set i (some (.ref a))) H
def wAll (K : PySem.W.Frag) (Wo : WX) (D : Ends) : List Hd → WX
  | [] => Wo
  | h :: r => fun cls d σ H => ∃ b, PySem.W.exmOne K cls h.c = some b ∧ (b = true → ∀ a, H a = none → runHd h a cls d D σ H) ∧ (b = false → wAll K Wo D r cls d σ H)
abbrev SuiteOk (X : Cx) (ss : List Stmt) (ts : Addr → Value → Option Addr → TS) : Prop :=
  ∀ (a : Addr) (oe : Obj) (cls : Value) (d : Option Addr) (pn : List (Addr × Obj)), Zc cls d oe → (∃ vs, oe.data = .fields vs) → PSs (X.suite a ((a, oe) :: pn)) ss (ts a cls d)
inductive HAll (X : Cx) : List ExceptHandler → List Hd → Prop
  | nil : HAll X [] []
  | no {x : Str} {c : Value} {ts : Addr → Value → Option Addr → TS} {s0 : Stmt} {ss : List Stmt} {p q : Pos} {es : List ExceptHandler} {l : List Hd} : Names X x c → SuiteOk X (s0 :: ss) ts → HAll X es l →
      HAll X (.ExceptHandler (some (.Name x p)) none (s0 :: ss) q :: es) (⟨c, none, ts⟩ :: l)
  | as {x n : Str} {i : Nat} {c : Value} {ts : Addr → Value → Option Addr → TS} {s0 : Stmt} {ss : List Stmt} {p q : Pos} {es : List ExceptHandler} {l : List Hd} : Names X x c → X.N[i]? = some n → X.env.kindOf n = some .local → SuiteOk X (s0 :: ss) ts → HAll X es l →
      HAll X (.ExceptHandler (some (.Name x p)) (some n) (s0 :: ss) q :: es) (⟨c, some i, ts⟩ :: l)
section
variable {X : Cx} {pins : List (Addr × Obj)} {σ τ : L2.St} {H : Hp} {D : Ends}
/-- the suite is done, its name (if any) has gone -/
theorem suite_end {f : Flow} {a : Addr} {q : Addr × Obj} {s : Shared} (ok : X.Ok) (h : SP (X.suite a (q :: (X.pn ++ pins))) [] D f s) : SP X pins D f s := by
  cases f with
  | next => exact h.imp fun _ ⟨G, J, r⟩ => ⟨G, J.unsuite ok, r⟩
  | brk => exact h.imp fun _ ⟨G, J, r⟩ => ⟨G, J.unsuite ok, r⟩
  | cont => exact h.imp fun _ ⟨G, J, r⟩ => ⟨G, J.unsuite ok, r⟩
  | ret u => exact h.imp fun _ ⟨σ', G, J, r⟩ => ⟨σ', G, J.unsuite ok, r⟩
theorem suite_gone {f : Flow} {a : Addr} {q : Addr × Obj} {s : Shared} {M : Model} {A : Around} {E : Value → Shared → Prop} {i : Nat} {n : Str} {pos : Pos} (ok : X.Ok) (hN : X.N.Nodup) (hi : X.N[i]? = some n) (hl : X.env.kindOf n = some .local)
    (h : SP (X.suite a (q :: (X.pn ++ pins))) [] (offD i D) f s) : wpAny M A (do bindName X.env n .none; unbindBehindTheSuite X.env n pos) (fun _ s2 => SP X pins D f s2) E s := by
  cases f with
  | next =>
    obtain ⟨σ', G, J, r⟩ := h
    exact gone_ok (J.unsuite ok) hN hi hl fun _ J2 => ⟨_, _, J2, r⟩
  | brk =>
    obtain ⟨σ', G, J, r⟩ := h
    exact gone_ok (J.unsuite ok) hN hi hl fun _ J2 => ⟨_, _, J2, r⟩
  | cont =>
    obtain ⟨σ', G, J, r⟩ := h
    exact gone_ok (J.unsuite ok) hN hi hl fun _ J2 => ⟨_, _, J2, r⟩
  | ret u =>
    obtain ⟨v, σ', G, J, r1, r⟩ := h
    exact gone_ok (J.unsuite ok) hN hi hl fun _ J2 => ⟨_, _, _, J2, r1, r⟩
theorem try_end {f : Flow} {s : Shared} {xe : Value → Shared → Prop} (ok : X.Ok) (h : SP (X.tr (X.pn ++ pins) xe) [] D f s) : SP X pins D f s := by
  cases f with
  | next => exact h.imp fun _ ⟨G, J, r⟩ => ⟨G, J.ofTry ok, r⟩
  | brk => exact h.imp fun _ ⟨G, J, r⟩ => ⟨G, J.ofTry ok, r⟩
  | cont => exact h.imp fun _ ⟨G, J, r⟩ => ⟨G, J.ofTry ok, r⟩
  | ret u => exact h.imp fun _ ⟨σ', G, J, r⟩ => ⟨σ', G, J.ofTry ok, r⟩
variable {body : List Stmt} {e0 : ExceptHandler} {es : List ExceptHandler} {l : List Hd} {pos : Pos} {tb : WX → TS} {Wo : WX}
theorem ps_try_all (hs : X.stack = X.env :: X.outer) (hf : X.env.frame = some X.env.locals) (hN : X.N.Nodup) (tk : Takes X Wo)
    (hb : ∀ (W : WX) (pn : List (Addr × Obj)) (xe : Value → Shared → Prop), Takes (X.tr pn xe) W → PassesOwn (model X.prog X.w) X.A X.env xe → PSs (X.tr pn xe) body (tb W)) (hh : HAll X (e0 :: es) l) :
    PS X (.Try body (e0 :: es) [] [] pos) (fun D σ H => tb (wAll X.K Wo D l) D σ H) := by
  refine ⟨fun pins s σ H D I h => wpAny_Try_except ?_⟩
  have ok := I.ok
  have fr : X.A.frames = some (X.env :: X.outer) := hs ▸ ok.frames
  have run := (hb (wAll X.K Wo D l) (X.pn ++ pins) (fun e s1 => wpAny (model X.prog X.w) X.A (noteFrame e X.env) (fun _ s2 => wpAny (model X.prog X.w) X.A (setFlight e none) (fun _ s3 => wpAny (model X.prog X.w) X.A (handleBy e X.env (e0 :: es)) (SP X pins D) X.xe s3) X.xe s2) X.xe s1)
    (fun u s1 xx => ?_) PassesOwn.looking).run [] s σ H D (I.toTry _) h
  · refine wpAny_mono run (fun f s1 q => ?_) fun _ _ z => z
    have q2 := try_end ok q
    cases f with
    | next => exact wpAny_execs_nil q2
    | brk => exact q2
    | cont => exact q2
    | ret u => exact q2
  · -- caught
    obtain ⟨a, B, sI, pins1, σ1, H1, cls, d, rfl, J0, nb, up, sky, na, os, ag, w⟩ := xx
    have J := J0.ofTry (pins := pins) ok
    refine Sky.land Zc.steady fr hf (hs ▸ sky) fun g3 fl3 up3 => ?_
    have up' := up.trans up3
    have J3 : Inv X pins σ1 H1 { s1 with heap := g3 } := J.landed nb fl3.1 up' os ag
    have K3 := J3.kIn
    have apart : ∀ {g : Heap} {o : Obj} {vs : Array Value}, g.FunFrames B (X.env :: X.outer) → g.get? a = some o → o.data = .fields vs → a ≠ X.env.locals ∧ a ∉ X.fs := fun {g o vs} ff e dd => by
      have no : a ∉ frs (X.env :: X.outer) := fun hm => by
        obtain ⟨_, o2, e2, bad⟩ := ff.mem hm
        cases e.symm.trans e2
        exact bad _ dd
      refine ⟨fun z => no (List.mem_filterMap.mpr ⟨X.env, .head _, by rw [hf, z]⟩), fun hm => ?_⟩
      obtain ⟨v, hv, q⟩ := List.mem_filterMap.mp hm
      exact no (List.mem_filterMap.mpr ⟨v, .tail _ hv, q⟩)
    have go : ∀ {es1 : List ExceptHandler} {l1 : List Hd}, HAll X es1 l1 → wAll X.K Wo D l1 cls d σ1 H1 → wpAny (model X.prog X.w) X.A (handleBy (.ref a) X.env es1) (SP X pins D) X.xe { s1 with heap := g3 } := by
      intro es1 l1 hk
      induction hk with
      | nil =>
        intro w
        obtain ⟨k1, k2, k3, oe, vs, T, oT, ts', he, hz, hd, h1, hr⟩ := id fl3
        refine wpAny_handleBy_nil ?_
        unfold PySem.passOn
        refine wpAny_bind (wpAny_field he hd h1 ?_)
        rw [if_neg (show ¬ (Value.ref T == Value.none) = true by simp)]
        have out : wpAny (model X.prog X.w) X.A (setFlight (.ref a) X.env.frame) (fun _ s4 => wpAny (model X.prog X.w) X.A (throw (.ref a) : Sem Flow) (SP X pins D) X.xe s4) X.xe { s1 with heap := g3 } := by
          rw [hf]
          exact HandSPX.setFlight_upZ fl3 fun g4 hh4 up4 => wpAny_throw (tk _ _ ⟨a, B, sI, pins, σ1, H1, cls, d, rfl, J, nb, up'.trans up4, .inr (.inr (hs ▸ hh4)), na, os, ag, w⟩)
        first
          | exact wpAny_bind (wpAny_pure (wpAny_bind out))
          | exact wpAny_bind out
      | @no x c ts s0 ss p q es2 l2 hc hsu r ih =>
        rintro ⟨b, e1, yes, no⟩
        obtain ⟨oe3, vs3, he3, hz3, hd3⟩ := fl3.there
        obtain ⟨nL, nF⟩ := apart fl3.2.2.1 he3 hd3
        have S3 := J3.suite he3 hd3 na nL nF
        refine wpAny_handleBy_cons (codeAny_handlers_test ?_) (by intro z; cases z)
        have LM := PySem.W.exm_one (M := model X.prog X.w) K3 (fun A Q E s k y => wpAny_typeOf_ref (k _ _ he3) (by rw [hz3.1]; exact y)) e1
        have test : ∀ {Q E : Value → Shared → Prop}, Q c { s1 with heap := g3 } → wpAny (model X.prog X.w) (X.A.mark (some (.ref a))) (eval (.Name x p) X.env) Q E { s1 with heap := g3 } := fun {Q E} y => by
          obtain ⟨hg, hdb, hm | ⟨hm, hv, hnn⟩⟩ := hc
          · exact ld_glob (X := X.suite a ((a, oe3) :: (X.pn ++ pins))) S3 hg hm y hdb
          · exact ld_blt (X := X.suite a ((a, oe3) :: (X.pn ++ pins))) S3 hg hm hv y hnn hdb
        refine test (LM.here ?_)
        cases b with
        | false => exact ih (no rfl)
        | true =>
          refine codeAny_handlers_suite (HandSPX.lands_againZ fl3 fun g4 fl4 up4 => ?_)
          obtain ⟨oe4, vs4, he4, hz4, hd4⟩ := fl4.there
          have J4 : Inv X pins σ1 H1 { s1 with heap := g4 } := J.landed nb fl4.1 (up'.trans up4) os ag
          have S4 := J4.suite he4 hd4 na nL nF
          exact wpAny_mono ((hsu a oe4 cls d (X.pn ++ pins) hz4 ⟨_, hd4⟩).run [] _ _ H1 _ S4 (yes rfl a na)) (fun f s6 y => suite_end ok y) fun _ _ z => z.elim
      | @as x n i c ts s0 ss p q es2 l2 hc hi hln hsu r ih =>
        rintro ⟨b, e1, yes, no⟩
        obtain ⟨oe3, vs3, he3, hz3, hd3⟩ := fl3.there
        obtain ⟨nL, nF⟩ := apart fl3.2.2.1 he3 hd3
        have S3 := J3.suite he3 hd3 na nL nF
        refine wpAny_handleBy_cons (codeAny_handlers_test ?_) (by intro z; cases z)
        have LM := PySem.W.exm_one (M := model X.prog X.w) K3 (fun A Q E s k y => wpAny_typeOf_ref (k _ _ he3) (by rw [hz3.1]; exact y)) e1
        have test : ∀ {Q E : Value → Shared → Prop}, Q c { s1 with heap := g3 } → wpAny (model X.prog X.w) (X.A.mark (some (.ref a))) (eval (.Name x p) X.env) Q E { s1 with heap := g3 } := fun {Q E} y => by
          obtain ⟨hg, hdb, hm | ⟨hm, hv, hnn⟩⟩ := hc
          · exact ld_glob (X := X.suite a ((a, oe3) :: (X.pn ++ pins))) S3 hg hm y hdb
          · exact ld_blt (X := X.suite a ((a, oe3) :: (X.pn ++ pins))) S3 hg hm hv y hnn hdb
        refine test (LM.here ?_)
        cases b with
        | false => exact ih (no rfl)
        | true =>
          refine codeAny_handlers_suite_as (HandSPX.lands_againZ fl3 fun g4 fl4 up4 => ?_)
          obtain ⟨oe4, vs4, he4, hz4, hd4⟩ := fl4.there
          have J4 : Inv X pins σ1 H1 { s1 with heap := g4 } := J.landed nb fl4.1 (up'.trans up4) os ag
          have S4 := J4.suite he4 hd4 na nL nF
          refine store_ok (X := X.suite a ((a, oe4) :: (X.pn ++ pins))) (v := .ref a) S4 hN hi (.inl hln) rfl (fun s5 S5 => ?_) (.inr hln)
          refine wpAny_mono ((hsu a oe4 cls d (X.pn ++ pins) hz4 ⟨_, hd4⟩).run [] s5 _ H1 _ S5 (yes rfl a na)) (fun f s6 y => ?_) fun _ _ z => z.elim
          exact suite_gone ok hN hi hln y
    exact go hh w
end
end FL

/-! FL24: raise; try, at the level of plain functions. -/
namespace FL
open PySem L2 PyProof.Rows
/-- an exception class's own __init__: it stores one field -/
def spXI (C : Addr) (f : Str) : Sp := fun vs H Q _ => ∃ (a : Addr) (y : V), vs = [.ref a, y] ∧ H a = some (exo a C none) ∧ ∀ dx, H dx = none → dx ≠ a → Q .non (upd (upd H dx (exd dx [(f, y)])) a (exo a C (some dx)))
structure XInit (P : Program) (w : World) (K : PySem.W.Frag) (mg : Str → Option Value) (base : Heap) (T : Tb) (k : Nat) (c : Nat) (x : Str) (kf : Nat) : Prop where
  cl : ∃ C fI fd ps f, T.cls[c]? = some C ∧ mg x = some (.ref C) ∧ OexC K C ∧ PySem.W.findIn K (.ref C) "__init__" = some (some (.ref fI)) ∧ PySem.W.typeIn K (.ref fI) = some (.type "function") ∧ Binds K fd ps [] ∧ T.att[kf]? = some f ∧ FnOk P w K mg base (L2.CX P w) k fI fd ps (spXI C f)
structure XPlain (K : PySem.W.Frag) (mg : Str → Option Value) (T : Tb) (c : Nat) (x : Str) : Prop where
  cl : ∃ C bmB newId initId, T.cls[c]? = some C ∧ mg x = some (.ref C) ∧ ExcBaseFacts "ValueError" newId initId bmB ∧ PySem.W.excIn K C bmB newId = true ∧ PySem.W.keepIn K (.ref C) = true ∧ PySem.W.subIn K (.ref C) (.type "BaseException") = some true ∧ PySem.W.typeIn K (.ref C) = some (.type "type")
section
variable {P : Program} {w : World} {K : PySem.W.Frag} {mg : Str → Option Value} {base : Heap}
theorem xinit_ok {x qual : Str} {st : Stmt} {f C : Addr} {fd : FuncData} {sN vN fn : Str} {p1 p2 p3 p4 : Pos} (F : Fun K x qual st f fd) (S : FnScope [sN, vN] [sN, vN] (defScope st)) (hb : defBody st = [.Assign [.Attribute (.Name sN p1) fn p2] (.Name vN p3) p4])
    (T : OexC K C) (hn : PySem.W.findIn K (.ref C) fn = some none) (h1 : okN sN = true) (h2 : okN vN = true) : FnOk P w K mg base (L2.CX P w) 1 f fd [sN, vN] (spXI C fn) := by
  refine F.okX S (fun vs H Q E ⟨a, y, e, _⟩ => by rw [e]; rfl) fun cdv A outer s H vs Q E hr ⟨a, y, e, ha, q⟩ => ?_
  subst e
  rw [hb]
  have par : ∀ z ∈ [sN, vN], Vis (defScope st) z := fun z hz => (S.par z hz).imp id .inl
  refine ⟨_, pss_one (ps_ost (pe_var (i := 0) rfl (par sN (.head _)) (okN_d h1) (okN_c h1)) (pe_var (i := 1) rfl (par vN (.tail _ (.head _))) (okN_d h2) (okN_c h2)) (swaps_other rfl)), ?_⟩
  refine ⟨y, rfl, .ref a, rfl, a, C, rfl, T, hn, .inl ⟨ha, fun dx h3 h4 => q dx h3 h4⟩⟩
end
section
variable {X : Cx} {T : Tb} {W : WX} {k c kf : Nat} {x : Str} {p pos pos' : Pos} {e : Expr} {me : ME}
/-- a flat value needs no heap -/
theorem rep_flat {ρ ρ' : List Addr} {Z Z' : Addr → Prop} {H H' : Hp} {v : V} {u : U} (r : Rep T ρ Z H v u) (f : flatU u = true) : Rep T ρ' Z' H' v u := by
  cases r with
  | non => exact .non
  | bl b => exact .bl b
  | int i => exact .int i
  | str y => exact .str y
  | _ => simp [flatU] at f
def raiseM (c kf : Nat) : U → MS := fun u s G => if flatU u then .exc ⟨c, [(kf, u)]⟩ s G else .bad
theorem ost_heap {H : Hp} {a C dx : Addr} {fs : List (Str × V)} (ha : H a = none) (hd : dx ≠ a) : upd (del (upd (upd (upd H a (exo a C none)) dx (exd dx fs)) a (exo a C (some dx))) a) dx (.xd fs) = upd H dx (.xd fs) := by
  funext b
  by_cases h1 : b = dx
  · subst h1; rw [upd_same, upd_same]
  · rw [upd_ne h1, upd_ne h1]
    by_cases h2 : b = a
    · subst h2; rw [del_same, ha]
    · rw [del_ne h2, upd_ne h2, upd_ne h1, upd_ne h2]
theorem fs_raiseI (hc : X.calm = true) (tk : Takes X W) (M : XInit X.prog X.w X.K X.mg X.base T k c x kf) (hr : Room (k + 1) X.A) (hg : Gl X x) (he : PE X e (tE T W me)) (hdb : (x == ("__debug__" : Str)) = false) (h1 : noStar e = true) :
    PS X (.Raise (some (.Call (.Name x p) [e] [] pos)) none pos') (tS T W (stE me (raiseM c kf))) := by
  obtain ⟨C, fI, fd, ps, f, g1, g2, g3, g4, g5, g6, g7, g8⟩ := M.cl
  have ha : PA X [e] (tA T W (consA me nilA)) := fa_cons he fa_nil (star_cons h1)
  refine PS.imp (ps_raise hc tk (pmk_oex (sp := spXI C f) g3 g4 g5 g8 hr g6 .nil passL hg g2 ha hdb (star_cons h1) rfl)) fun D σ H ⟨s, G, ρ, Z, sm, q⟩ => ?_
  unfold stE at q
  show tA T W (consA me nilA) σ H fun vs H1 => vs.length ≤ 1000 ∧ ∀ a, H1 a = none → spXI C f (.ref a :: (vs ++ [])) (upd H1 a (exo a C none)) _ _
  refine ⟨s, G, ρ, Z, sm, ?_⟩
  unfold consA nilA
  cases e1 : me s G with
  | bad => rw [e1] at q; exact q.elim
  | exc y G1 =>
    rw [e1] at q
    exact fun cls d H' ρ' Z' x1 rl a => q cls d σ H' ρ' Z' x1 (sm.ex x1 rl) a
  | ok u G1 =>
    rw [e1] at q
    simp only [bind_ok]
    intro vs H1 ρ1 Z1 x1 rl1 r1
    obtain ⟨y, rfl, ry⟩ := r1.inv1
    have q1 := RS.ex (σ' := σ) q x1
    unfold raiseM at q1
    simp only at q1
    by_cases hf : flatU u = true
    · rw [if_pos hf] at q1
      refine ⟨by show 1 ≤ 1000; decide, fun a na => ⟨a, y, rfl, upd_same, fun dx h3 h4 => ⟨rfl, dx, [(f, y)], upd_same, ?_, ?_, ?_⟩⟩⟩
      · rw [upd_ne h4, upd_same]
      · rw [upd_ne h4] at h3; exact h3
      · have hd : H1 dx = none := by rw [upd_ne h4] at h3; exact h3
        rw [ost_heap na h4]
        refine q1 _ _ σ _ ρ1 Z1 (ex_new hd) ⟨rl1.new hd, (sm.fm.ex sm.rl.zm x1).ex rl1.zm (ex_new hd)⟩ ⟨C, g1, rfl, .inr ⟨dx, [(f, y)], rfl, upd_same, .cons g7 (rep_flat ry hf) .nil⟩⟩
    · rw [if_neg hf] at q1
      exact q1.elim
theorem pmk_zero {C : Addr} {bmB : List Value} {newId initId : String} (F : ExcBaseFacts "ValueError" newId initId bmB) (q : PySem.W.excIn X.K C bmB newId = true) (gC : X.mg x = some (.ref C)) (kC : PySem.W.keepIn X.K (.ref C) = true) (r : Raises X (.ref C)) (hg : Gl X x) (hdb : (x == ("__debug__" : Str)) = false) :
    PMk X (.Call (.Name x p) [] [] pos) (fun _ H Q => Q (.ref C) none H) := by
  intro pins s σ H Q I h
  refine wpAny_Call_Name_kw (ld_glob I hg gC ?_ hdb)
  refine PySem.W.callWith_K0 I.kIn kC ?_
  obtain ⟨bm, N, nm, qn, bs, hdct, sn, sub, ab, col, dd, k0, k1, k2, k3, k5, mN, hC, hN, hni, T⟩ := exc_obj I.kIn q
  exact wpAny_call_exc_subT F T hC hN hni (fun h' e hm => mk_of I hm r h (I.hok.gone hm.new)) (Nat.zero_le _)
theorem fs_raise0 (hc : X.calm = true) (tk : Takes X W) (M : XPlain X.K X.mg T c x) (hg : Gl X x) (hdb : (x == ("__debug__" : Str)) = false) :
    PS X (.Raise (some (.Call (.Name x p) [] [] pos)) none pos') (tS T W fun s G => .exc ⟨c, []⟩ s G) := by
  obtain ⟨C, bmB, newId, initId, g1, g2, g3, g4, g5, g6, g7⟩ := M.cl
  exact PS.imp (ps_raise hc tk (pmk_zero g3 g4 g2 g5 (raises_own g6 g7) hg hdb)) fun D σ H ⟨s, G, ρ, Z, sm, q⟩ => q _ _ σ H ρ Z Ex.refl sm ⟨C, g1, rfl, .inl ⟨rfl, rfl⟩⟩

/-! ### try -/
/-- a clause: the class, the name's slot, the suite -/
structure HM where
  c : Nat
  i : Option Nat
  m : Exn → MS
def offR (i : Nat) : Rt → Rt
  | .nx s G => .nx (s.set i none) G
  | .bk s G => .bk (s.set i none) G
  | .ct s G => .ct (s.set i none) G
  | r => r
def quiet : Rt → Rt
  | .exc _ _ _ => .bad
  | r => r
def hdM (xs : List ((Nat × Nat) × Bool)) : List HM → Exn → MS
  | [] => fun x s G => .exc x s G
  | h :: r => fun x s G => match xs.lookup (x.cls, h.c) with
    | some true => (match h.i with
      | none => quiet (h.m x s G)
      | some i => if i < s.length then offR i (quiet (h.m x (s.set i none) G)) else .bad)
    | some false => hdM xs r x s G
    | none => .bad
def tryM (xs : List ((Nat × Nat) × Bool)) (mb : MS) (hs : List HM) : MS := fun s G => match mb s G with
  | .exc x s1 G1 => hdM xs hs x s1 G1
  | r => r
/-- a suite does what m says of the exception held -/
def tX (T : Tb) (i : Option Nat) (m : Exn → MS) (a : Addr) (cls : Value) (d : Option Addr) : TS := fun D σ H => ∃ s G ρ Z x, Sm T σ H s G ρ Z ∧ ExAt T x cls d H ∧ H a = none ∧ (∀ j, i = some j → σ[j]? = some (some (.ref a))) ∧ RS T WF σ H ρ Z D (quiet (m x s G))
/-- the clauses, at both levels -/
inductive HRel (T : Tb) : List HM → List Hd → Prop
  | nil : HRel T [] []
  | cons {h : HM} {C : Addr} {hs : List HM} {l : List Hd} : T.cls[h.c]? = some C → HRel T hs l → HRel T (h :: hs) (⟨.ref C, h.i, tX T h.i h.m⟩ :: l)
def XsOk (K : PySem.W.Frag) (T : Tb) (xs : List ((Nat × Nat) × Bool)) : Prop := ∀ c c' b C C', xs.lookup (c, c') = some b → T.cls[c]? = some C → T.cls[c']? = some C' → PySem.W.exmOne K (.ref C) (.ref C') = some b
theorem Fm.off {ρ : List Addr} {Z : Addr → Prop} {H : Hp} {σ : L2.St} {s : Sg} {o : Option V} (f : Fm T ρ Z H σ s) (i : Nat) : Fm T ρ Z H (σ.set i o) (s.set i none) :=
  ⟨by rw [List.length_set, List.length_set, f.1], fun j u e => by
    by_cases h : i = j
    · subst h
      rw [List.getElem?_set] at e
      simp at e
    · rw [List.getElem?_set_ne h] at e
      obtain ⟨v, e1, r⟩ := f.2 j u e
      exact ⟨v, by rw [List.getElem?_set_ne h]; exact e1, r⟩⟩
theorem RS_off {σ σ0 : L2.St} {H : Hp} {ρ : List Addr} {Z : Addr → Prop} {D : Ends} {i : Nat} {r : Rt} (h : RS T W σ H ρ Z D (offR i (quiet r))) : RS T WF σ0 H ρ Z (offD i D) (quiet r) := by
  cases r with
  | nx s G => exact fun σ' H' ρ' Z' x sm => h _ H' ρ' Z' x ⟨sm.rl, sm.fm.off i⟩
  | bk s G => exact fun σ' H' ρ' Z' x sm => h _ H' ρ' Z' x ⟨sm.rl, sm.fm.off i⟩
  | ct s G => exact fun σ' H' ρ' Z' x sm => h _ H' ρ' Z' x ⟨sm.rl, sm.fm.off i⟩
  | rt u G => exact h
  | exc x s G => exact h.elim
  | bad => exact h.elim
theorem RS_quiet {σ : L2.St} {H : Hp} {ρ : List Addr} {Z : Addr → Prop} {D : Ends} {r : Rt} (h : RS T W σ H ρ Z D (quiet r)) : RS T WF σ H ρ Z D (quiet r) := by
  cases r with
  | exc x s G => exact h.elim
  | _ => exact h
theorem hd_ok {K : PySem.W.Frag} {xs : List ((Nat × Nat) × Bool)} (hx : XsOk K T xs) {σ : L2.St} {H : Hp} {D : Ends} {x : Exn} {cls : Value} {d : Option Addr} {ρ : List Addr} {Z : Addr → Prop} {s : Sg} {G : List Ob} (sm : Sm T σ H s G ρ Z) (ax : ExAt T x cls d H) :
    ∀ {hs : List HM} {l : List Hd}, HRel T hs l → RS T W σ H ρ Z D (hdM xs hs x s G) → wAll K W D l cls d σ H := by
  intro hs l hr
  induction hr with
  | nil => exact fun q => q cls d σ H ρ Z Ex.refl sm ax
  | @cons h C hs l hC r ih =>
    intro q
    unfold hdM at q
    obtain ⟨C0, c1, c2, c3⟩ := id ax
    split at q
    · rename_i e
      refine ⟨true, by rw [c2]; exact hx _ _ _ _ _ e c1 hC, fun _ a na => ?_, fun z => by cases z⟩
      unfold runHd
      simp only
      cases hi : h.i with
      | none =>
        rw [hi] at q
        exact ⟨s, G, ρ, Z, x, sm, ax, na, (fun j z => nomatch z), RS_quiet q⟩
      | some i =>
        rw [hi] at q
        simp only at q
        by_cases hl : i < s.length
        · rw [if_pos hl] at q
          refine ⟨s.set i none, G, ρ, Z, x, ⟨sm.rl, sm.fm.off i⟩, ax, na, (fun j z => ?_), RS_off q⟩
          cases z
          rw [List.getElem?_set_self (by rw [sm.fm.1]; exact hl)]
        · rw [if_neg hl] at q
          exact q.elim
    · rename_i e
      exact ⟨false, by rw [c2]; exact hx _ _ _ _ _ e c1 hC, (fun z => by cases z), fun _ => ih q⟩
    · exact q.elim
theorem fs_try {xs : List ((Nat × Nat) × Bool)} {body : List Stmt} {e0 : ExceptHandler} {es : List ExceptHandler} {mb : MS} {hs : List HM} {l : List Hd} (hst : X.stack = X.env :: X.outer) (hf : X.env.frame = some X.env.locals) (hN : X.N.Nodup) (tk : Takes X W) (hx : XsOk X.K T xs)
    (hb : ∀ (W : WX) (pn : List (Addr × Obj)) (xe : Value → Shared → Prop), Takes (X.tr pn xe) W → PassesOwn (model X.prog X.w) X.A X.env xe → PSs (X.tr pn xe) body (tS T W mb)) (hh : HAll X (e0 :: es) l) (hr : HRel T hs l) :
    PS X (.Try body (e0 :: es) [] [] pos) (tS T W (tryM xs mb hs)) :=
  PS.imp (ps_try_all hst hf hN tk hb hh) fun D σ H ⟨s, G, ρ, Z, sm, q⟩ => by
    refine ⟨s, G, ρ, Z, sm, ?_⟩
    unfold tryM at q
    cases e : mb s G with
    | nx s1 G1 => rw [e] at q; exact q
    | rt u G1 => rw [e] at q; exact q
    | bk s1 G1 => rw [e] at q; exact q
    | ct s1 G1 => rw [e] at q; exact q
    | bad => rw [e] at q; exact q
    | exc x s1 G1 =>
      rw [e] at q
      exact fun cls d σ' H' ρ' Z' y sm' a => hd_ok hx sm' a hr (RS.ex q y)
end
end FL

/-! FL26: isinstance(e, C), e the exception that a suite holds, with its fields. -/
namespace PySem.W
section
variable {prog : Program} {w : World} {A : Around} {E : Value → Shared → Prop} {s : Shared} {K : Frag} {x D : Addr} {ox : Obj} {od : Option Obj}
theorem findObj_dataX {C : Addr} {name : Str} {a g : Value} (hc : (clsIn K C).isSome = true) (ha : findIn K (.ref C) name = some (some a)) (hg : specialIn K a "__get__" = some (some g)) (ht : takesIn K a = some true) : findObj K C od name = some (.bind g a) := by
  cases e : clsIn K C with
  | none => rw [e] at hc; cases hc
  | some cd =>
    unfold findObj
    rw [e, Option.bind_some, ha, Option.bind_some]
    simp [hg, ht]
/-- how a class that is an exception's, with instances' dicts, hands out __class__ -/
theorem classX {Q : Option Value → Shared → Prop} (c : L2.ExcC K D) (X : K.In s.heap) (I : InstAt s.heap x ox D od) (h : Q (some (.ref D)) { s with toks := s.toks + 1 }) : wpAny (model prog w) A (getAttr? (.ref x) "__class__") Q E s := by
  have isC : (clsIn K D).isSome = true := by
    obtain ⟨cd, e, _⟩ := any_some c.hd
    rw [e] <;> rfl
  have fo : findObj K D od "__class__" = some (.bind (.builtin "getset_descriptor.__get__") (.builtin "object.__class__")) := findObj_dataX isC c.ha c.hn c.ht
  obtain ⟨g0, gs, dr, tk, os⟩ := s
  have ty := I.type (M := model prog w)
  have ga := looks_findIn (M := model prog w) X c.hg
  have gt := looks_findIn (M := model prog w) X c.hk
  have fd := looks_find (M := model prog w) X I fo
  have be : Looks (model prog w) g0 (isInstance (.ref x) (.type "BaseException")) true := ty.andThen (looks_subIn X c.hs)
  have ne : (onTheHeap (Value.ref D) && Value.builtin "BaseException.__getattribute__" == Value.builtin "object.__getattribute__") = false := by
    have e : (Value.builtin "BaseException.__getattribute__" == Value.builtin "object.__getattribute__") = false := by decide +kernel
    rw [e, Bool.and_false]
  unfold getAttr? getAttrBy? getAttrBy
  refine wpAny_bind (wpAny_mkText (wpAny_bind (wpAny_attempt (wpAny_holding (wpAny_bind (ty.at (wpAny_bind (ga.at ?_))))))))
  change wpAny _ _ (if (onTheHeap (Value.ref D) && Value.builtin "BaseException.__getattribute__" == Value.builtin "object.__getattribute__") = true then _ else _) _ _ _
  rw [ne]
  rw [if_neg Bool.false_ne_true]
  unfold getAttrByItsOwn hookBefore
  refine wpAny_bind ?_
  rw [if_pos (show onTheHeap (Value.ref D) = true from rfl)]
  refine gt.at (wpAny_bind (wpAny_attempt (wpAny_holding ?_)))
  unfold callGetattribute
  rw [show (false && onTheHeap (Value.builtin "BaseException.__getattribute__")) = false from rfl]
  rw [if_neg Bool.false_ne_true]
  unfold boundAndCalled
  rw [PySem.F.excAttr_ValueError.ga.bind (.ref x)]
  refine wpAny_bind (wpAny_pure ?_)
  change wpAny _ _ (call (.builtin "BaseException.__getattribute__") [.ref x, .str "__class__" tk]) _ _ _
  refine wpAny_call (codeAny_call_builtin PySem.F.excAttr_ValueError.ga.plain PySem.F.entry_bexc_ga ?_)
  refine @check_slot _ _ _ ⟨g0, gs, dr, tk + 1, os⟩ "BaseException.__getattribute__" "BaseException" "__getattribute__" (.ref x) [.str "__class__" tk] [] _ (by decide +kernel) (by decide +kernel) be (PySem.F.args_bexc_ga (.ref x) (.str "__class__" tk)) ?_
  unfold Builtin.«object.__getattribute__»
  refine wpAny_bind (wpAny_of_eq (a := ((Value.ref x : Value), [Value.str "__class__" tk])) (by first | rfl | (simp only [slotArgs]; rfl)) (wpAny_bind (wpAny_pure (wpAny_bind (ty.at (wpAny_bind (fd.at ?_)))))))
  change wpAny _ _ (holding [Value.builtin "object.__class__"] (call (.builtin "getset_descriptor.__get__") [.builtin "object.__class__", .ref x, .ref D]) >>= ret) _ _ _
  refine wpAny_bind (wpAny_holding (wpAny_call (class_get (s := ⟨g0, gs, dr, tk + 1, os⟩) (ox := ox) (od := od) X I c.hm (wpAny_pure ?_))))
  change wpAny _ _ (handedOut (.ref D)) _ _ _
  rw [handedOut_of (v := .ref D) rfl]
  first
    | exact wpAny_pure (wpAny_pure h)
    | exact wpAny_pure h
    | exact wpAny_pure (wpAny_bind (wpAny_pure (wpAny_pure h)))
theorem kitxX (c : L2.ExcC K D) : KitX K (.ref x) (.ref D) (fun h => InstAt h x ox D od) where
  ty := fun _ _ _ I => I.type
  it := fun _ _ X _ => by
    obtain ⟨cd, e, _⟩ := any_some c.hd
    unfold clsIn at e
    split at e
    · rename_i ho
      exact fun A Q E s k q => by
        unfold isType loadHead
        exact wpAny_bind (wpAny_loadPart (k _ _ (X _ _ ho)) (wpAny_pure q))
    · cases e
  ne := fun h tp dd its n sl X htp => by
    obtain ⟨cd, e, _⟩ := any_some c.hd
    refine Bool.eq_false_iff.mpr fun q => ?_
    cases (Value.ref.inj (beq_iff_eq.mp q) : D = tp)
    unfold clsIn at e
    split at e
    · rename_i ho
      cases (X _ _ ho).symm.trans htp
    · cases e
  ca := fun X I k => classX c X I k
end
end PySem.W
namespace FL
open PySem L2 PyProof.Rows
/-- isinstance(e, c), e the exception held, its class D, its fields at d -/
def rIsX (K : PySem.W.Frag) (D a d : Addr) : List V → Hp → VK → Prop := fun xs H Q => ∃ (C : Addr) (b : Bool) (fv : List (Str × V)), xs = [.ref a, .ref C] ∧ H d = some (.xd fv) ∧ PySem.W.kitOne K (.ref D) (.ref C) = some b ∧ Q (.bl b) H
theorem call_isX {X : Cx} {a D d : Addr} {oe : Obj} {pn : List (Addr × Obj)} (c : ExcC X.K D) (hz : Zc (.ref D) (some d) oe) (hf : ∃ vs, oe.data = .fields vs) : CallR (X.suite a ((a, oe) :: pn)) (.builtin "isinstance") (rIsX X.K D a d) := by
  intro pins s σ H xs us Q I r ⟨C, b, fv, ex, hd, e, q⟩
  subst ex
  cases r with
  | cons r1 r2 =>
    cases r2 with
    | cons r2 r3 =>
      cases r3
      cases r1
      cases r2
      obtain ⟨hget, _⟩ := I.pin (a, oe) (List.mem_append.mpr (.inl List.mem_cons_self))
      obtain ⟨vs, hv⟩ := hf
      have ok : ObjOk X.prog X.w H s.heap d (.xd fv) := I.hok d _ hd
      obtain ⟨mA, hns, _⟩ := ok
      obtain ⟨od, ho, _⟩ := lookIn_ns hns
      have J : PySem.W.InstAt s.heap a oe D (some od) := ⟨hget, hz.1, by unfold PySem.W.notCls; rw [hv] <;> rfl, by rw [hz.2]; exact ho⟩
      exact PySem.W.kia_one (PySem.W.kitxX c) I.kIn J e (fun z => nomatch z) fun tk => ⟨.bl b, H, I.tok tk, rfl, q⟩
end FL

/-! FL16: the translation of expressions, by the syntax; it is sound. -/
namespace FL
open PySem L2 PyProof.Rows
/-- what a name of the module is -/
inductive GV where
  | fn (n : Nat) (r : RunD)
  | con (u : U)
  | mk (c n : Nat) (r : RunD)
  | mkK (c n : Nat) (ks : List Str) (r : RunD)
/-- the table of a body -/
structure Dn where
  N : List Str
  gl : List (Str × GV) := []
  bl : List Str := []
  ty : List (Str × Nat) := []
  cls : List Nat := []
  att : List (Str × (Nat × List Nat × List (Nat × RunD))) := []
  mth : List (Str × (Nat × List (Nat × (Nat × RunD)))) := []
  eqt : List (Nat × RunD) := []
  mu : List Str := []
  rmu : Bool := false
  /-- exception classes: the class, the field of an own __init__ -/
  xc : List (Str × (Nat × Option Nat)) := []
  /-- whether one exception class is below another -/
  xs : List ((Nat × Nat) × Bool) := []
  /-- .. asked by isinstance -/
  xi : List ((Nat × Nat) × Bool) := []
  /-- classes with their own __len__ -/
  lnt : List (Nat × RunD) := []
def GvOk (P : Program) (w : World) (K : PySem.W.Frag) (mg : Str → Option Value) (base : Heap) (T : Tb) (k : Nat) (x : Str) : GV → Prop
  | .fn n r => ∃ f, mg x = some (.ref f) ∧ PySem.W.keepIn K (.ref f) = true ∧ DefOk P w K mg base T k f n r
  | .con u => ∃ v val, mg x = some val ∧ RelV v val ∧ ∀ ρ Z H, Rep T ρ Z H v u
  | .mk c n r => MakeOk P w K mg base T k c x n r
  | .mkK c n ks r => MakeKOk P w K mg base T k c x n ks r
/-- an exception class: it is named, it is raised, its field is read -/
def XcOk (P : Program) (w : World) (K : PySem.W.Frag) (mg : Str → Option Value) (base : Heap) (T : Tb) (k : Nat) (x : Str) (z : Nat × Option Nat) : Prop :=
  (∃ C, T.cls[z.1]? = some C ∧ mg x = some (.ref C)) ∧ match z.2 with
    | none => XPlain K mg T z.1 x
    | some kf => XInit P w K mg base T k z.1 x kf ∧ ∃ C f, T.cls[z.1]? = some C ∧ T.att[kf]? = some f ∧ XfC K C ∧ PySem.W.findIn K (.ref C) f = some none
def XiOk (K : PySem.W.Frag) (T : Tb) (xi : List ((Nat × Nat) × Bool)) : Prop := ∀ c c' b C C', xi.lookup (c, c') = some b → T.cls[c]? = some C → T.cls[c']? = some C' → ExcC K C ∧ PySem.W.kitOne K (.ref C) (.ref C') = some b
structure TabOk (P : Program) (w : World) (K : PySem.W.Frag) (mg : Str → Option Value) (base : Heap) (T : Tb) (k : Nat) (d : Dn) : Prop where
  hat : AttOk T
  gl : ∀ x g, d.gl.lookup x = some g → GvOk P w K mg base T k x g
  bl : ∀ x, x ∈ d.bl → mg x = none
  ty : ∀ x c, d.ty.lookup x = some c → ∃ C, T.cls[c]? = some C ∧ mg x = some (.ref C)
  isi : IsiOk K T d.cls
  att : ∀ f z, d.att.lookup f = some z → T.att[z.1]? = some f ∧ (∀ c ∈ z.2.1, FldOk K T c f) ∧ ∀ c r, z.2.2.lookup c = some r → PropOk P w K mg base T k c f r
  mth : ∀ m z, d.mth.lookup m = some z → z.2 ≠ [] ∧ ∀ c n r, z.2.lookup c = some (n, r) → MethOk P w K mg base T k c m z.1 n r
  eqt : ∀ c r, d.eqt.lookup c = some r → EqOk P w K mg base T k c r
  xc : ∀ x z, d.xc.lookup x = some z → XcOk P w K mg base T k x z
  xs : XsOk K T d.xs
  xi : XiOk K T d.xi
  lnt : ∀ c r, d.lnt.lookup c = some r → LnOk P w K mg base T k c r

/-! ### names -/
def vis (sc : Scope) (x : Str) : Bool := match sc.names.lookup x with
  | some .local => true
  | some .cell => true
  | some .free => true
  | _ => false
def glb (sc : Scope) (x : Str) : Bool := match sc.names.lookup x with
  | some .globalImplicit => true
  | _ => false
theorem vis_ok {sc : Scope} {x : Str} (h : vis sc x = true) : Vis sc x := by
  unfold vis at h
  unfold Vis
  split at h <;> simp_all
theorem glb_ok {X : Cx} {x : Str} (h : glb X.env.scope x = true) : Gl X x := by
  unfold glb at h
  split at h
  · rename_i e; exact e
  · cases h
def findI (x : Str) : List Str → Option Nat
  | [] => none
  | y :: r => if y == x then some 0 else (findI x r).map (· + 1)
theorem findI_ok {x : Str} : ∀ {N : List Str} {i : Nat}, findI x N = some i → N[i]? = some x
  | [], _, h => by cases h
  | y :: r, i, h => by
    unfold findI at h
    split at h
    · rename_i e
      cases h
      rw [beq_iff_eq] at e
      subst e
      rfl
    · cases e : findI x r with
      | none => rw [e] at h; cases h
      | some j =>
        rw [e] at h
        cases h
        rw [List.getElem?_cons_succ]
        exact findI_ok e
def badE : ME := fun _ _ => .bad
def badT : MT := fun _ _ => .bad
def badI : MI := fun _ _ => .bad
def badA : MA := fun _ _ => .bad
def badS : MS := fun _ _ => .bad
/-- a name's kind in a block -/
def relS (sc scope : Scope) : Scope := { scope with names := scope.names.map fun (n, k) => if (k == .free && sc.kind == .function && sc.names.lookup n == some .cell) then (n, .cell) else (n, k) }
/-- the block's own names, their slots -/
def ownOf (N : List Str) : List (Str × NameKind) → List (Str × Nat)
  | [] => []
  | (x, k) :: r => if (k == .local || k == .cell) then (match findI x N with | some i => (x, i) :: ownOf N r | none => ownOf N r) else ownOf N r

/-! ### operators -/
def binF (mu : Bool) : Operator → Option (U → U → List Ob → Rs U)
  | .Add => some (addU mu)
  | .Sub => some subU
  | .Mult => some (mulU mu)
  | .Mod => some modU
  | .FloorDiv => some fdivU
  | .Pow => some powU
  | _ => none
def cmpF (et : Nat → Option RunD) : CmpOp → Option (U → U → List Ob → Rs U)
  | .Lt => some (cmpU fun i j => decide (i < j))
  | .LtE => some (cmpU fun i j => decide (i ≤ j))
  | .Gt => some (cmpU fun i j => decide (j < i))
  | .GtE => some (cmpU fun i j => decide (j ≤ i))
  | .Eq => some (eqX false et)
  | .NotEq => some (eqX true et)
  | .Is => some (isU false)
  | .IsNot => some (isU true)
  | .In => some (inU false)
  | .NotIn => some (inU true)
section
variable {X : Cx} {T : Tb} {W : WX} {k : Nat}
theorem binF_ok {mu : Bool} {op : Operator} {f : U → U → List Ob → Rs U} (hT : X.K = T.K) (h : binF mu op = some f) : ∃ r, OpR X (binaryOp op) r ∧ O2 T W f r := by
  cases op with
  | Add => cases h; exact ⟨_, op_addA, o2_add hT⟩
  | Sub => cases h; exact ⟨_, op_sub, o2_sub⟩
  | Mult => cases h; exact ⟨_, op_mulA, o2_mul hT⟩
  | Mod => cases h; exact ⟨_, op_modN, o2_mod⟩
  | FloorDiv => cases h; exact ⟨_, op_fdivN, o2_fdiv⟩
  | Pow => cases h; exact ⟨_, op_pow, o2_pow⟩
  | _ => cases h
theorem cmpF_ok {et : Nat → Option RunD} {op : CmpOp} {f : U → U → List Ob → Rs U} (hT : X.K = T.K) (he : ∀ c r, et c = some r → EqOk X.prog X.w X.K X.mg X.base T k c r) (hr : Room (k + 1) X.A) (h : cmpF et op = some f) : ∃ r, OpR X (compareOp op) r ∧ O2 T W f r := by
  have hu : X.A.units + 65 < cLine := by have := hr.un; omega
  cases op with
  | Lt => cases h; exact ⟨_, op_lt, o2_cmp⟩
  | LtE => cases h; exact ⟨_, op_le, o2_cmp⟩
  | Gt => cases h; exact ⟨_, op_gt, o2_cmp⟩
  | GtE => cases h; exact ⟨_, op_ge, o2_cmp⟩
  | Eq => cases h; exact ⟨_, op_eqX hT he hr, o2_eqX hT⟩
  | NotEq => cases h; exact ⟨_, op_neX he hr, o2_neX hT⟩
  | Is => cases h; exact ⟨_, OpR.or op_isN (OpR.or op_isBl op_isO), o2_is⟩
  | IsNot => cases h; exact ⟨_, OpR.or op_notN (OpR.or op_notBl op_notO), o2_isnot⟩
  | In => cases h; exact ⟨_, op_inA hu, o2_in hT⟩
  | NotIn => cases h; exact ⟨_, op_notinA hu, o2_in hT⟩
end

/-! ### the parts -/
def dAs (f : Expr → ME) : List Expr → MA
  | [] => nilA
  | e :: r => consA (f e) (dAs f r)
def dKs (f : Expr → ME) : List Keyword → MA
  | [] => nilA
  | k :: r => consA (f (kwVal k)) (dKs f r)
def dAnd (f : Expr → ME) : List Expr → ME
  | [] => badE
  | [a] => f a
  | a :: r => andM (f a) (dAnd f r)
def dOr (f : Expr → ME) : List Expr → ME
  | [] => badE
  | [a] => f a
  | a :: r => orM (f a) (dOr f r)
def dAndT (f : Expr → MT) : List Expr → MT
  | [] => badT
  | [a] => f a
  | a :: r => andT (f a) (dAndT f r)
def dOrT (f : Expr → MT) : List Expr → MT
  | [] => badT
  | [a] => f a
  | a :: r => orT (f a) (dOrT f r)
def dO (f : Expr → ME) : Option Expr → MO
  | none => noneO
  | some e => someO (f e)
/-- a for's target: the slots that it stores, the store -/
def dGn (N : List Str) (sc : Scope) (fnb : Str → Bool) (x : Str) : Option (MG × List Nat) := match findI x N with
  | some i => (match sc.names.lookup x with
    | some .local => some (nameG i, [i])
    | some .cell => if fnb x then some (nameG i, [i]) else none
    | _ => none)
  | none => none
def dGs (g : Expr → Option (MG × List Nat)) : List Expr → Option (MGs × List Nat)
  | [] => some (nilG, [])
  | e :: r => match g e, dGs g r with
    | some (m, vs), some (ms, ws) => some (consG m ms, vs ++ ws)
    | _, _ => none
def dG (N : List Str) (sc : Scope) (fnb : Str → Bool) : Nat → Expr → Option (MG × List Nat)
  | 0, _ => none
  | n + 1, e => match e with
    | .Name x _ => dGn N sc fnb x
    | .Tuple es _ _ => if es.all noStar then (match dGs (dG N sc fnb n) es with
      | some (ms, vs) => some (tupG es.length ms, vs)
      | none => none) else none
    | _ => none
def litOf : Const → Option U
  | .none => some .non
  | .bool b => some (.bl b)
  | .int i => some (.int i)
  | .str x => some (.str x.cps.toList)
  | _ => none
def blk (d : Dn) (sc scope : Scope) : Bool := blkC d.N sc scope (ownOf d.N scope.names)
/-- the type that a name means -/
def tyNm (d : Dn) (x : Str) : Option (Ty ⊕ Nat) := match d.ty.lookup x with
  | some c => some (.inr c)
  | none => if d.bl.contains x then (if x == ("int" : Str) then some (.inl .int) else if x == ("str" : Str) then some (.inl .str) else if x == ("bool" : Str) then some (.inl .bl) else if x == ("list" : Str) then some (.inl .lst) else if x == ("tuple" : Str) then some (.inl .tup)
    else if x == ("dict" : Str) then some (.inl .dct) else none) else none
def lmF (m : Str) : Option (U → RunD) := if m == ("append" : Str) then some appendU else if m == ("extend" : Str) then some extendU else if m == ("pop" : Str) then some popU else none
/-- name(e, ..) -/
def dCallN (d : Dn) (sc : Scope) (mu : Bool) (f : Expr → ME) (x : Str) (es : List Expr) (kws : List Keyword) : ME :=
  if glb sc x && okN x && es.all noStar then (match d.gl.lookup x with
    | some (.fn n r) => (match kws, es with
      | [], _ :: _ => callM n r (dAs f es)
      | _, _ => badE)
    | some (.mk c n r) => (match kws with
      | [] => makeM c n r (dAs f es)
      | _ => badE)
    | some (.mkK c n ks r) => (match es with
      | _ :: _ => if kws.all (fun k => (kwName k).isSome) && (kws.filterMap kwName == ks) then makeKM c n ks.length r (dAs f es) (dKs f kws) else badE
      | _ => badE)
    | some (.con _) => badE
    | none => if d.bl.contains x then (match kws, es with
      | [], e :: r => if x == ("isinstance" : Str) then (match r with
          | [.Name y _] => if glb sc y && okN y then (match tyNm d y with
            | some t => isiM d.cls t (f e)
            | none => badE) else badE
          | _ => badE)
        else if x == ("len" : Str) && !d.lnt.isEmpty then preM (lenX fun c => d.lnt.lookup c) (dAs f es)
        else (match bltF x with
          | some g => preM g (dAs f es)
          | none => match bltT mu x with
            | some g => preM g (dAs f es)
            | none => badE)
      | _, _ => badE) else badE) else badE
/-- o.m(e, ..) -/
def dCallM (d : Dn) (mu : Bool) (f : Expr → ME) (o : Expr) (m : Str) (es : List Expr) (kws : List Keyword) (same : Bool) : ME :=
  if plainRecv o && es.all noStar && decide (es.length < 30) && same then (match kws with
    | [] => (match d.mth.lookup m with
      | some (km, tb) => (match es with
        | [] => methM (fun c => tb.lookup c) km (f o) nilA
        | _ => methM (fun c => tb.lookup c) km (f o) (dAs f es))
      | none => if m == ("join" : Str) then (match es with | [e] => joinM (f o) (f e) | _ => badE)
        else if m == ("split" : Str) then (match es with | [e] => splitM mu (f o) (f e) | _ => badE)
        else (match lmF m with
          | some g => (match es with
            | [] => bm0M g (f o)
            | _ => bmM g (f o) (dAs f es))
          | none => badE))
    | _ => badE) else badE
def isTupE : Expr → Bool
  | .Tuple _ _ _ => true
  | _ => false
mutual
/-- an expression -/
def dE (d : Dn) : Nat → Scope → (Str → Bool) → Bool → Expr → ME
  | 0, _, _, _, _ => badE
  | n + 1, sc, fnb, mu, e => match e with
    | .Name x _ => if okN x then (if vis sc x then (match findI x d.N with | some i => varM i | none => badE)
      else if glb sc x then (match d.gl.lookup x with | some (.con u) => litM u | _ => badE) else badE) else badE
    | .Constant c _ _ => (match litOf c with | some u => litM u | none => badE)
    | .BinOp a op b _ => (match binF mu op with | some f => bin2 f (dE d n sc fnb false a) (dE d n sc fnb false b) | none => badE)
    | .UnaryOp .Not a _ => notM (dE d n sc fnb false a)
    | .UnaryOp .USub a _ => negM (dE d n sc fnb false a)
    | .BoolOp .And es _ => dAnd (dE d n sc fnb false) es
    | .BoolOp .Or es _ => dOr (dE d n sc fnb false) es
    | .IfExp c a b _ => iteM (dT d n sc fnb c) (dE d n sc fnb mu a) (dE d n sc fnb mu b)
    | .Compare a [op] [b] _ => if noSet b then (match cmpF (fun c => d.eqt.lookup c) op with | some f => bin2 f (dE d n sc fnb false a) (dE d n sc fnb false b) | none => badE) else badE
    | .Compare a [op, op'] [b, c] _ => if noSet c then (match cmpF (fun c => d.eqt.lookup c) op, cmpF (fun c => d.eqt.lookup c) op' with | some f, some g => chM f g (dE d n sc fnb false a) (dE d n sc fnb false b) (dE d n sc fnb false c) | _, _ => badE) else badE
    | .Dict [] [] _ => dctM mu
    | .List es _ => if es.all noStar then lstM mu (dAs (dE d n sc fnb false) es) else badE
    | .Tuple es _ _ => if es.all noStar then tupM (dAs (dE d n sc fnb false) es) else badE
    | .Subscript a (.Slice lo hi none _) _ => slM mu (dE d n sc fnb false a) (dO (dE d n sc fnb false) lo) (dO (dE d n sc fnb false) hi)
    | .Subscript a i _ => if noSlice i then bin2 idxU (dE d n sc fnb false a) (dE d n sc fnb false i) else badE
    | .Attribute o f _ => (match d.att.lookup f with
      | some (kf, cs, ps) => if plainRecv o then attrM (fun c => (ps.lookup c).map attrP) (fun c => cs.contains c) kf (dE d n sc fnb false o) else badE
      | none => badE)
    | .Call (.Name x _) es kws _ => dCallN d sc mu (dE d n sc fnb false) x es kws
    | .Call (.Attribute o m apos) es kws pos => dCallM d mu (dE d n sc fnb false) o m es kws (apos.endLine == pos.line)
    | .ListComp elt [⟨tg, it, ifs, 0⟩] scope _ => if blk d sc scope && noSet it then
      (match dG d.N (relS sc scope) (fun x => scope.names.lookup x == some .cell) n tg with
        | some (g, ws) => if ws.all (fun j => ((ownOf d.N scope.names).map (·.2)).contains j) then (match ifs with
          | [] => compM mu (dI d n sc fnb (isTupE tg) it) g yesT (dE d n (relS sc scope) (fun x => scope.names.lookup x == some .cell) false elt) ((ownOf d.N scope.names).map (·.2))
          | [c] => compM mu (dI d n sc fnb (isTupE tg) it) g (dT d n (relS sc scope) (fun x => scope.names.lookup x == some .cell) c) (dE d n (relS sc scope) (fun x => scope.names.lookup x == some .cell) false elt) ((ownOf d.N scope.names).map (·.2))
          | _ => badE) else badE
        | none => badE) else badE
    | _ => badE
/-- a test -/
def dT (d : Dn) : Nat → Scope → (Str → Bool) → Expr → MT
  | 0, _, _, _ => badT
  | n + 1, sc, fnb, e => match e with
    | .BoolOp .And es _ => dAndT (dT d n sc fnb) es
    | .BoolOp .Or es _ => dOrT (dT d n sc fnb) es
    | .UnaryOp .Not a _ => notT (dT d n sc fnb a)
    | .Compare a [op] [b] _ => if noSet b then (match cmpF (fun c => d.eqt.lookup c) op with | some f => tobM (bin2 f (dE d n sc fnb false a) (dE d n sc fnb false b)) | none => badT) else badT
    | .Compare a [op, op'] [b, c] _ => if noSet c then (match cmpF (fun c => d.eqt.lookup c) op, cmpF (fun c => d.eqt.lookup c) op' with | some f, some g => tobM (chM f g (dE d n sc fnb false a) (dE d n sc fnb false b) (dE d n sc fnb false c)) | _, _ => badT) else badT
    | e => if plainTest e then tobM (dE d n sc fnb false e) else badT
/-- what is walked; tp: the target is a tuple -/
def dI (d : Dn) : Nat → Scope → (Str → Bool) → Bool → Expr → MI
  | 0, _, _, _, _ => badI
  | n + 1, sc, fnb, tp, e => match e with
    | .Call (.Name x p) es [] _ => if x == ("range" : Str) then (if glb sc x && d.bl.contains x && es.all noStar then (match es with
        | [_] => preI rng1U (dAs (dE d n sc fnb false) es)
        | [_, _] => preI rng2U (dAs (dE d n sc fnb false) es)
        | [_, _, _] => preI rng3U (dAs (dE d n sc fnb false) es)
        | _ => badI) else badI)
      else if x == ("enumerate" : Str) then (if tp && glb sc x && d.bl.contains x && es.all noStar then (match es with
        | [a] => enI (dE d n sc fnb false a)
        | _ => badI) else badI)
      else if x == ("zip" : Str) then (if tp && glb sc x && d.bl.contains x && es.all noStar then (match es with
        | [_, _] => preI zpU (dAs (dE d n sc fnb false) es)
        | _ => badI) else badI)
      else seqI (dE d n sc fnb false e)
    | e => seqI (dE d n sc fnb false e)
end
end FL

/-! FL17: the translation of expressions is sound. -/
namespace FL
open PySem L2 PyProof.Rows
structure XOk (X : Cx) (T : Tb) (W : WX) (k : Nat) (d : Dn) (sc : Scope) (fnb : Str → Bool) : Prop where
  N : X.N = d.N
  nd : X.N.Nodup
  sc : X.env.scope = sc
  fn : X.fn = fnb
  hT : X.K = T.K
  calm : X.calm = true
  tk : Takes X W
  room : Room (k + 1) X.A
  tab : TabOk X.prog X.w X.K X.mg X.base T k d
section
variable {X : Cx} {T : Tb} {W : WX} {k : Nat} {d : Dn} {sc : Scope} {fnb : Str → Bool}
theorem relS_eq {X : Cx} {sc scope : Scope} (h : X.env.scope = sc) (cl : List (Str × Addr)) (C : Addr) : (compEnvC scope cl C X.env).scope = relS sc scope := by subst h; rfl
theorem XOk.blk (h : XOk X T W k d sc fnb) (s : Shared) (H : Hp) (scope : Scope) (C : Addr) (cl : List (Str × Addr)) (fp : List Addr) :
    XOk (X.blk s H scope (compEnvC scope cl C X.env) fp) T WF k d (relS sc scope) (fun x => scope.names.lookup x == some .cell) :=
  ⟨h.N, h.nd, relS_eq h.sc cl C, rfl, h.hT, h.calm, takes0, h.room, h.tab⟩
theorem PE.badE {e : Expr} : PE X e (tE T W FL.badE) := PE.bad fun _ _ => rfl
theorem PT.badT {e : Expr} : PT X e (tT T W FL.badT) := PT.bad fun _ _ => rfl
theorem PI.badI {tg e : Expr} : PI X tg e (tI T W FL.badI) := ⟨fun _ _ _ _ _ _ ⟨s, G, _, _, _, q⟩ => q.elim⟩

/-! ### the parts -/
theorem dAs_ok {f : Expr → ME} (hf : ∀ e, PE X e (tE T W (f e))) : ∀ {es : List Expr}, es.all noStar = true → PA X es (tA T W (dAs f es))
  | [], _ => fa_nil
  | e :: r, h => by
    rw [List.all_cons, Bool.and_eq_true] at h
    exact fa_cons (hf e) (dAs_ok hf h.2) (star_cons h.1)
theorem dKs_ok {f : Expr → ME} (hf : ∀ e, PE X e (tE T W (f e))) : ∀ {kws : List Keyword}, PK X kws (tA T W (dKs f kws))
  | [] => fk_nil
  | ⟨nm, e, kp⟩ :: r => fk_cons (hf e) (dKs_ok hf)
theorem fe_and1 {a : Expr} {pos : Pos} {ma : ME} (h : PE X a (tE T W ma)) : PE X (.BoolOp .And [a] pos) (tE T W ma) := pe_one h
theorem fe_or1 {a : Expr} {pos : Pos} {ma : ME} (h : PE X a (tE T W ma)) : PE X (.BoolOp .Or [a] pos) (tE T W ma) := pe_one h
theorem dAnd_ok {f : Expr → ME} {pos : Pos} (hf : ∀ e, PE X e (tE T W (f e))) : ∀ {es : List Expr}, PE X (.BoolOp .And es pos) (tE T W (dAnd f es))
  | [] => PE.badE
  | [a] => fe_and1 (hf a)
  | a :: b :: r => fe_and (hf a) (dAnd_ok hf)
theorem dOr_ok {f : Expr → ME} {pos : Pos} (hf : ∀ e, PE X e (tE T W (f e))) : ∀ {es : List Expr}, PE X (.BoolOp .Or es pos) (tE T W (dOr f es))
  | [] => PE.badE
  | [a] => fe_or1 (hf a)
  | a :: b :: r => fe_or (hf a) (dOr_ok hf)
theorem PW.badT {e : Expr} : PW X e (tT T W FL.badT) := ⟨fun _ _ _ _ _ _ _ ⟨s, G, _, _, _, q⟩ => q.elim⟩
theorem dAndT_ok {f : Expr → MT} {pos : Pos} (hf : ∀ e, PT X e (tT T W (f e))) : ∀ {es : List Expr}, PW X (.BoolOp .And es pos) (tT T W (dAndT f es))
  | [] => PW.badT
  | [a] => fw_and1 (hf a)
  | a :: b :: r => fw_and (hf a) (dAndT_ok hf)
theorem dOrT_ok {f : Expr → MT} {pos : Pos} (hf : ∀ e, PT X e (tT T W (f e))) : ∀ {es : List Expr}, PW X (.BoolOp .Or es pos) (tT T W (dOrT f es))
  | [] => PW.badT
  | [a] => fw_or1 (hf a)
  | a :: b :: r => fw_or (hf a) (dOrT_ok hf)
theorem dO_ok {f : Expr → ME} (hf : ∀ e, PE X e (tE T W (f e))) : ∀ {o : Option Expr}, PO X o (tO T W (dO f o))
  | none => fo_none
  | some e => fo_some (hf e)
theorem litOf_ok {c : Const} {u : U} {j : Nat} {pos : Pos} (h : litOf c = some u) : PE X (.Constant c j pos) (tE T W (litM u)) := by
  unfold litOf at h
  split at h <;> cases h
  · exact fe_lit pe_non fun _ _ _ => .non
  · exact fe_lit pe_bl fun _ _ _ => .bl _
  · exact fe_lit pe_int fun _ _ _ => .int _
  · exact fe_lit pe_str fun _ _ _ => .str _
theorem dGn_ok (h : XOk X T W k d sc fnb) {x : Str} {pos : Pos} {m : MG} {vs : List Nat} (e : dGn d.N sc fnb x = some (m, vs)) : PG X (.Name x pos) (tG T vs m) := by
  unfold dGn at e
  split at e
  · rename_i i hi
    have hN : X.N[i]? = some x := by rw [h.N]; exact findI_ok hi
    split at e
    · rename_i hl
      cases e
      rw [← h.sc] at hl
      exact fg_name h.nd hN (.inl hl) (.inr hl)
    · rename_i hl
      split at e
      · rename_i hf
        cases e
        rw [← h.sc] at hl
        exact fg_name h.nd hN (.inr hl) (.inl (by rw [h.fn]; exact hf))
      · cases e
    · cases e
  · cases e
theorem dGs_ok {g : Expr → Option (MG × List Nat)} (hg : ∀ e m vs, g e = some (m, vs) → PG X e (tG T vs m)) : ∀ {es : List Expr} {ms : MGs} {vs : List Nat}, es.all noStar = true → dGs g es = some (ms, vs) → PGs X es (tGs T vs ms)
  | [], _, _, _, e => by cases e; exact fg_nil
  | a :: r, ms, vs, h, e => by
    rw [List.all_cons, Bool.and_eq_true] at h
    unfold dGs at e
    split at e
    · rename_i m vs1 ms1 ws1 e1 e2
      cases e
      exact fg_cons (hg _ _ _ e1) (dGs_ok hg h.2 e2) h.1
    · cases e
theorem dG_ok (h : XOk X T W k d sc fnb) : ∀ (n : Nat) {e : Expr} {m : MG} {vs : List Nat}, dG d.N sc fnb n e = some (m, vs) → PG X e (tG T vs m)
  | 0, _, _, _, z => by cases z
  | n + 1, e, m, vs, z => by
    unfold dG at z
    split at z
    · exact dGn_ok h z
    · split at z
      · rename_i hs
        split at z
        · rename_i ms vs1 e1
          cases z
          exact fg_tup h.hT h.calm (dGs_ok (fun _ _ _ q => dG_ok h n q) hs e1) hs
        · cases z
      · cases z
    · cases z

theorem contains_mem {x : Str} {l : List Str} (h : l.contains x = true) : x ∈ l := by simpa using h
theorem tyNm_ok (h : XOk X T W k d sc fnb) {x : Str} {t : Ty ⊕ Nat} (e : tyNm d x = some t) : NamesTy X T x t := by
  unfold tyNm at e
  split at e
  · rename_i c hc
    cases e
    exact h.tab.ty x c hc
  · split at e
    · rename_i hb
      have hm := h.tab.bl x (contains_mem hb)
      split at e
      · rename_i hx; cases e; rw [beq_iff_eq] at hx; subst hx
        exact ⟨hm, by decide +kernel, by decide⟩
      · split at e
        · rename_i hx; cases e; rw [beq_iff_eq] at hx; subst hx
          exact ⟨hm, by decide +kernel, by decide⟩
        · split at e
          · rename_i hx; cases e; rw [beq_iff_eq] at hx; subst hx
            exact ⟨hm, by decide +kernel, by decide⟩
          · split at e
            · rename_i hx; cases e; rw [beq_iff_eq] at hx; subst hx
              exact ⟨hm, by decide +kernel, by decide⟩
            · split at e
              · rename_i hx; cases e; rw [beq_iff_eq] at hx; subst hx
                exact ⟨hm, by decide +kernel, by decide⟩
              · split at e
                · rename_i hx; cases e; rw [beq_iff_eq] at hx; subst hx
                  exact ⟨hm, by decide +kernel, by decide⟩
                · cases e
    · cases e
theorem dCallN_ok (h : XOk X T W k d sc fnb) {f : Expr → ME} (hf : ∀ e, PE X e (tE T W (f e))) {mu : Bool} {x : Str} {es : List Expr} {kws : List Keyword} {p pos : Pos} : PE X (.Call (.Name x p) es kws pos) (tE T W (dCallN d sc mu f x es kws)) := by
  have hrk : Room k X.A := h.room.mono (Nat.le_succ _)
  unfold dCallN
  split
  · rename_i hc
    rw [Bool.and_eq_true, Bool.and_eq_true] at hc
    obtain ⟨⟨h1, h2⟩, h3⟩ := hc
    have hg : Gl X x := glb_ok (by rw [h.sc]; exact h1)
    split
    · rename_i n r e
      obtain ⟨fa, g1, g2, g3⟩ := h.tab.gl x _ e
      split
      · exact fe_call g3 hrk hg g1 g2 h.tk (dAs_ok hf h3) (okN_d h2) h3
      · exact PE.badE
    · rename_i c n r e
      have M : MakeOk X.prog X.w X.K X.mg X.base T k c x n r := h.tab.gl x _ e
      split
      · cases es with
        | nil => exact fe_make0 M h.room hg h.tk (okN_d h2)
        | cons a r => exact fe_make M h.room hg h.tk (dAs_ok hf h3) (okN_d h2) h3
      · exact PE.badE
    · rename_i c n ks r e
      have M : MakeKOk X.prog X.w X.K X.mg X.base T k c x n ks r := h.tab.gl x _ e
      split
      · split
        · rename_i hk
          rw [Bool.and_eq_true] at hk
          exact fe_makeK M h.room hg h.tk (dAs_ok hf h3) (dKs_ok hf) (okN_d h2) h3 hk.1 (beq_iff_eq.mp hk.2)
        · exact PE.badE
      · exact PE.badE
    · exact PE.badE
    · split
      · rename_i hb
        have hm := h.tab.bl x (contains_mem hb)
        split
        · rename_i e r
          split
          · rename_i hx
            rw [beq_iff_eq] at hx
            split
            · rename_i y yp
              split
              · rename_i hy
                rw [Bool.and_eq_true] at hy
                split
                · rename_i t ht
                  exact fe_isi h.hT (h.hT ▸ h.tab.isi) hx hg hm (glb_ok (by rw [h.sc]; exact hy.1)) (tyNm_ok h ht) (okN_d hy.2) (hf e) (by rw [List.all_cons, Bool.and_eq_true] at h3; exact h3.1)
                · exact PE.badE
              · exact PE.badE
            · exact PE.badE
          · split
            · rename_i hx
              rw [Bool.and_eq_true, beq_iff_eq] at hx
              exact fe_len hx.1 h.tab.lnt h.room h.hT hg hm (dAs_ok hf h3) h3
            · split
              · rename_i g e1
                exact fe_bltF e1 h.hT h.calm hg hm (dAs_ok hf h3) h3
              · split
                · rename_i g e1
                  exact fe_bltT e1 h.hT h.calm hg hm (dAs_ok hf h3) h3
                · exact PE.badE
        · exact PE.badE
      · exact PE.badE
  · exact PE.badE
theorem lmF_ok {m : Str} {g : U → RunD} (e : lmF m = some g) : ∃ id r, Slot "list" m id ∧ typeOf (.builtin id) = pure (.type "method_descriptor") ∧ MtR X id r ∧ OM T W g r := by
  unfold lmF at e
  split at e
  · rename_i hx; cases e; rw [beq_iff_eq] at hx; subst hx
    exact ⟨_, _, PySem.F.slot_list_append, PySem.F.type_list_append, mt_append, om_append⟩
  · split at e
    · rename_i hx; cases e; rw [beq_iff_eq] at hx; subst hx
      exact ⟨_, _, PySem.F.slot_list_extend, PySem.F.type_list_extend, mt_extend, om_extend⟩
    · split at e
      · rename_i hx; cases e; rw [beq_iff_eq] at hx; subst hx
        exact ⟨_, _, PySem.F.slot_list_pop, PySem.F.type_list_pop, mt_popA, om_pop⟩
      · cases e
theorem lookup_ne {α β : Type} [BEq α] [LawfulBEq α] : ∀ {l : List (α × β)}, l ≠ [] → ∃ a b, l.lookup a = some b
  | [], h => absurd rfl h
  | (a, b) :: r, _ => ⟨a, b, by simp⟩
theorem dCallM_ok (h : XOk X T W k d sc fnb) {f : Expr → ME} (hf : ∀ e, PE X e (tE T W (f e))) {mu : Bool} {o : Expr} {m : Str} {es : List Expr} {kws : List Keyword} {apos pos : Pos} : PE X (.Call (.Attribute o m apos) es kws pos) (tE T W (dCallM d mu f o m es kws (apos.endLine == pos.line))) := by
  have hrk : Room k X.A := h.room.mono (Nat.le_succ _)
  unfold dCallM
  split
  · rename_i hc
    rw [Bool.and_eq_true, Bool.and_eq_true, Bool.and_eq_true] at hc
    obtain ⟨⟨⟨h1, h2⟩, h3⟩, h4⟩ := hc
    replace h3 := of_decide_eq_true h3
    split
    · split
      · rename_i km tb e
        obtain ⟨g1, g2⟩ := h.tab.mth m _ e
        obtain ⟨c, ⟨n, r⟩, hc⟩ := lookup_ne g1
        split
        · exact fe_meth0 (hf o) h.tab.hat ⟨c, n, r, hc⟩ g2 hrk h.tk h1 h4
        · rename_i hne
          cases es with
          | nil => exact absurd rfl hne
          | cons a r' => exact fe_meth (hf o) (dAs_ok hf h2) h.tab.hat ⟨c, n, r, hc⟩ g2 hrk h.tk h1 h2 h3 h4
      · split
        · rename_i hx
          rw [beq_iff_eq] at hx
          subst hx
          split
          · rename_i e
            exact fe_join h.hT (hf o) (hf e) h1 (by simpa using h2) h4
          · exact PE.badE
        · split
          · rename_i hx
            rw [beq_iff_eq] at hx
            subst hx
            split
            · rename_i e
              exact fe_split (hf o) (hf e) h1 (by simpa using h2) h4
            · exact PE.badE
          · split
            · rename_i g e
              obtain ⟨id, r, q1, q2, q3, q4⟩ := lmF_ok (X := X) (T := T) (W := W) e
              split
              · exact fe_lm0 PySem.F.plainAttrs_list q1 q2 q3 q4 (hf o) h1 h4
              · rename_i hne
                cases es with
                | nil => exact absurd rfl hne
                | cons a r' => exact fe_lm PySem.F.plainAttrs_list q1 q2 q3 q4 (hf o) (dAs_ok hf h2) h1 h2 h3 h4
            · exact PE.badE
    · exact PE.badE
  · exact PE.badE
end
def SndE (n : Nat) : Prop := ∀ (X : Cx) (T : Tb) (W : WX) (k : Nat) (d : Dn) (sc : Scope) (fnb : Str → Bool), XOk X T W k d sc fnb →
  (∀ mu e, PE X e (tE T W (dE d n sc fnb mu e))) ∧ (∀ e, PT X e (tT T W (dT d n sc fnb e))) ∧ ∀ tg e, PI X tg e (tI T W (dI d n sc fnb (isTupE tg) e))
theorem sndE : ∀ n, SndE n
  | 0 => fun X T W k d sc fnb h => ⟨fun mu e => by unfold dE; exact PE.badE, fun e => by unfold dT; exact PT.badT, fun tg e => by unfold dI; exact PI.badI⟩
  | n + 1 => fun X T W k d sc fnb h => by
    obtain ⟨hE, hT, hI⟩ := sndE n X T W k d sc fnb h
    have hQ : ∀ op f, cmpF (fun c => d.eqt.lookup c) op = some f → ∃ r, OpR X (compareOp op) r ∧ O2 T W f r := fun op f e => cmpF_ok h.hT (fun c r q => h.tab.eqt c r q) h.room e
    refine ⟨fun mu e => ?_, fun e => ?_, fun tg e => ?_⟩
    · unfold dE
      split
      · -- a name
        rename_i x pos
        split
        · rename_i hx
          split
          · rename_i hv
            split
            · rename_i i hi
              exact fe_var (by rw [h.N]; exact findI_ok hi) (by rw [h.sc]; exact vis_ok hv) (okN_d hx) (okN_c hx)
            · exact PE.badE
          · split
            · rename_i hg
              split
              · rename_i u hu
                obtain ⟨v, val, q1, q2, q3⟩ := h.tab.gl x _ hu
                exact fe_lit (pe_glob (glb_ok (by rw [h.sc]; exact hg)) q1 q2 (okN_d hx)) q3
              · exact PE.badE
            · exact PE.badE
        · exact PE.badE
      · split
        · rename_i u hu
          exact litOf_ok hu
        · exact PE.badE
      · split
        · rename_i f hf
          obtain ⟨r, q1, q2⟩ := binF_ok (W := W) h.hT hf
          exact fe_bin q1 q2 (hE _ _) (hE _ _)
        · exact PE.badE
      · exact fe_not (hE _ _)
      · exact fe_neg (hE _ _)
      · exact dAnd_ok (hE false)
      · exact dOr_ok (hE false)
      · exact fe_ite (hT _) (hE _ _) (hE _ _)
      · split
        · rename_i hs
          split
          · rename_i f hf
            obtain ⟨r, q1, q2⟩ := hQ _ _ hf
            exact fe_cmp q1 q2 (hE _ _) (hE _ _) (marks_no hs)
          · exact PE.badE
        · exact PE.badE
      · split
        · rename_i hs
          split
          · rename_i f g hf hg
            obtain ⟨r, q1, q2⟩ := hQ _ _ hf
            obtain ⟨r', q3, q4⟩ := hQ _ _ hg
            exact fe_chain q1 q3 q2 q4 (hE _ _) (hE _ _) (hE _ _) hs
          · exact PE.badE
        · exact PE.badE
      · exact fe_dct
      · split
        · rename_i hs
          exact fe_lst (dAs_ok (hE false) hs)
        · exact PE.badE
      · split
        · rename_i hs
          exact fe_tup (dAs_ok (hE false) hs)
        · exact PE.badE
      · exact fe_slice h.hT (hE _ _) (dO_ok (hE false)) (dO_ok (hE false))
      · split
        · rename_i hs
          exact fe_ix h.hT (hE _ _) (hE _ _) (plainIx hs)
        · exact PE.badE
      · split
        · rename_i kf cs ps e
          obtain ⟨g1, g2, g3⟩ := h.tab.att _ _ e
          split
          · rename_i hp
            exact fe_attr (hE _ _) h.hT h.tab.hat g1 g3 (fun c hc => g2 c (by simpa using hc)) h.room hp
          · exact PE.badE
        · exact PE.badE
      · exact dCallN_ok h (hE false)
      · exact dCallM_ok h (hE false)
      · -- a comprehension
        split
        · rename_i hb
          rw [Bool.and_eq_true] at hb
          split
          · rename_i g ws hg
            split
            · rename_i hw
              have hw' : ∀ j ∈ ws, j ∈ (ownOf d.N _).map (·.2) := fun j hj => by
                have := List.all_eq_true.mp hw j hj
                simpa using this
              have ok := blkOk_by (show blkC d.N sc _ _ = true from hb.1)
              rw [← h.N, ← h.sc] at ok
              split
              · refine fe_lc h.calm h.nd (hI _ _) ?_ hw' (fun s H C cl fp => dG_ok (h.blk s H _ C cl fp) n hg) (fun s H C cl fp => ft_nil) (fun s H C cl fp => (sndE n _ T WF k d _ _ (h.blk s H _ C cl fp)).1 _ _) hb.2
                rw [← h.N]; exact ok
              · refine fe_lc h.calm h.nd (hI _ _) ?_ hw' (fun s H C cl fp => dG_ok (h.blk s H _ C cl fp) n hg) (fun s H C cl fp => ft_one ((sndE n _ T WF k d _ _ (h.blk s H _ C cl fp)).2.1 _)) (fun s H C cl fp => (sndE n _ T WF k d _ _ (h.blk s H _ C cl fp)).1 _ _) hb.2
                rw [← h.N]; exact ok
              · exact PE.badE
            · exact PE.badE
          · exact PE.badE
        · exact PE.badE
      · exact PE.badE
    · unfold dT
      split
      · exact (dAndT_ok hT).pt
      · exact (dOrT_ok hT).pt
      · exact ft_not (hT _)
      · split
        · rename_i hs
          split
          · rename_i f hf
            obtain ⟨r, q1, q2⟩ := hQ _ _ hf
            exact ft_cmp q1 q2 (hE _ _) (hE _ _) (marks_no hs)
          · exact PT.badT
        · exact PT.badT
      · split
        · rename_i hs
          split
          · rename_i f g hf hg
            obtain ⟨r, q1, q2⟩ := hQ _ _ hf
            obtain ⟨r', q3, q4⟩ := hQ _ _ hg
            exact ft_chain q1 q3 q2 q4 (hE _ _) (hE _ _) (hE _ _) hs
          · exact PT.badT
        · exact PT.badT
      · split
        · rename_i hs
          exact ft_val (hE _ _) (plain_test hs)
        · exact PT.badT
    · unfold dI
      split
      · rename_i x p es pos
        split
        · rename_i hx
          rw [beq_iff_eq] at hx
          subst hx
          split
          · rename_i hc
            rw [Bool.and_eq_true, Bool.and_eq_true] at hc
            obtain ⟨⟨h1, h2⟩, h3⟩ := hc
            have hg : Gl X "range" := glb_ok (by rw [h.sc]; exact h1)
            have hm := h.tab.bl _ (contains_mem h2)
            have ha := dAs_ok (hE false) h3
            split
            · exact fi_rng1 hg hm ha (by simpa using h3)
            · exact fi_rng2 hg hm ha (by simp at h3; exact h3.1) (by simp at h3; exact h3.2)
            · exact fi_rng3 hg hm ha (by simp at h3; exact h3.1) (by simp at h3; exact h3.2.1) (by simp at h3; exact h3.2.2)
            · exact PI.badI
          · exact PI.badI
        · split
          · rename_i hx
            rw [beq_iff_eq] at hx
            subst hx
            split
            · rename_i hc
              rw [Bool.and_eq_true, Bool.and_eq_true, Bool.and_eq_true] at hc
              obtain ⟨⟨⟨ht, h1⟩, h2⟩, h3⟩ := hc
              have hg : Gl X "enumerate" := glb_ok (by rw [h.sc]; exact h1)
              have hm := h.tab.bl _ (contains_mem h2)
              cases tg with
              | Tuple elts kk tpos =>
                split
                · exact fi_enum h.hT hg hm (hE _ _) (by simpa using h3)
                · exact PI.badI
              | _ => cases ht
            · exact PI.badI
          · split
            · rename_i hx
              rw [beq_iff_eq] at hx
              subst hx
              split
              · rename_i hc
                rw [Bool.and_eq_true, Bool.and_eq_true, Bool.and_eq_true] at hc
                obtain ⟨⟨⟨ht, h1⟩, h2⟩, h3⟩ := hc
                have hg : Gl X "zip" := glb_ok (by rw [h.sc]; exact h1)
                have hm := h.tab.bl _ (contains_mem h2)
                cases tg with
                | Tuple elts kk tpos =>
                  split
                  · have ha := dAs_ok (hE false) h3
                    simp only [List.all_cons, List.all_nil, Bool.and_true, Bool.and_eq_true] at h3
                    exact fi_zip h.hT hg hm ha h3.1 h3.2
                  · exact PI.badI
                | _ => cases ht
              · exact PI.badI
            · exact fi_seq h.hT (hE _ _)
      · exact fi_seq h.hT (hE _ _)
end FL

/-! FL25: the suites of except clauses. -/
namespace FL
open PySem L2 PyProof.Rows
/-- an expression of a suite: c the class caught, y its name -/
def dXe (d : Dn) (y : Option Str) (c : Nat) (o : Option Nat) : Expr → Option (Exn → Option U)
  | .Constant k _ _ => (litOf k).map fun u _ => some u
  | .Attribute (.Name z _) f _ => if y = some z ∧ okN z = true then (match d.att.lookup f, o with
    | some (kf, _, _), some kf' => if kf = kf' then some (fun x => if x.cls = c then (match x.fs.lookup kf with | some u => if flatU u then some u else none | none => none) else none) else none
    | _, _ => none) else none
  | _ => none
def dXs (f : Expr → Option (Exn → Option U)) : List Expr → Option (Exn → Option (List U))
  | [] => some fun _ => some []
  | e :: r => match f e, dXs f r with
    | some m, some ms => some fun x => match m x, ms x with
      | some u, some us => some (u :: us)
      | _, _ => none
    | _, _ => none
def dXv (d : Dn) (y : Option Str) (c : Nat) (o : Option Nat) : Expr → Option (Exn → Option U)
  | .List es _ => if es.all noStar then (dXs (dXe d y c o) es).map fun ms x => (ms x).bind fun us => if us.length ≤ szL then some (.lst us) else none else none
  | e => dXe d y c o e
def locI (d : Dn) (sc : Scope) (fnb : Str → Bool) (x : Str) : Option Nat := match findI x d.N with
  | some i => (match sc.names.lookup x with
    | some .local => some i
    | some .cell => if fnb x then some i else none
    | _ => none)
  | none => none
/-- a test of a suite whose answer is known: isinstance(y, C), not, or -/
def tstB (d : Dn) (sc : Scope) (y : Option Str) (c : Nat) : Nat → Expr → Option Bool
  | 0, _ => none
  | n + 1, e => match e with
    | .UnaryOp .Not t _ => (tstB d sc y c n t).map not
    | .BoolOp .Or [t, u] _ => match tstB d sc y c n t, tstB d sc y c n u with
      | some a, some b => some (a || b)
      | _, _ => none
    | .Call (.Name f _) [.Name z _, .Name x _] [] _ => if f == ("isinstance" : Str) && glb sc f && d.bl.contains f && decide (y = some z) && okN z && glb sc x && okN x then (match d.xc.lookup x with
      | some (c', _) => d.xi.lookup (c, c')
      | none => none) else none
    | _ => none
def dX (d : Dn) (sc : Scope) (fnb : Str → Bool) (y : Option Str) (i : Option Nat) (c : Nat) (o : Option Nat) : List Stmt → Option (Exn → MS)
  | [.Assign [.Name x _] e _] => if noComp e then (match locI d sc fnb x, dXv d y c o e with
    | some j, some m => some fun ex s G => (match m ex with
      | some u => .nx (s.set j (some u)) G
      | none => .bad)
    | _, _ => none) else none
  | [.Assign [.Name x _] e _, .If t _ [] _] => if noComp e then (match locI d sc fnb x, dXe d y c o e, tstB d sc y c 8 t with
    | some j, some m, some false => some fun ex s G => (match m ex with
      | some u => if ex.cls = c ∧ ex.fs ≠ [] ∧ i ≠ some j then .nx (s.set j (some u)) G else .bad
      | none => .bad)
    | _, _, _ => none) else none
  | [.Return (some e) _] => (match dXv d y c o e with
    | some m => some fun ex s G => (match m ex with
      | some u => .rt u G
      | none => .bad)
    | none => none)
  | _ => none
section
variable {X : Cx} {T : Tb} {W : WX} {k : Nat} {d : Dn} {sc : Scope} {fnb : Str → Bool}
theorem locI_ok (h : XOk X T W k d sc fnb) {x : Str} {i : Nat} (e : locI d sc fnb x = some i) : X.N[i]? = some x ∧ Loc X.env.scope x ∧ (X.fn x = true ∨ X.env.scope.names.lookup x = some .local) := by
  unfold locI at e
  split at e
  · rename_i j hj
    have hN : X.N[j]? = some x := by rw [h.N]; exact findI_ok hj
    split at e
    · rename_i hl
      cases e
      rw [← h.sc] at hl
      exact ⟨hN, .inl hl, .inr hl⟩
    · rename_i hl
      split at e
      · rename_i hf
        cases e
        rw [← h.sc] at hl
        exact ⟨hN, .inr hl, .inl (by rw [h.fn]; exact hf)⟩
      · cases e
    · cases e
  · cases e
/-- what is known in a suite -/
structure InX (T : Tb) (i : Option Nat) (a : Addr) (cls : Value) (dd : Option Addr) (σ : L2.St) (H : Hp) (s : Sg) (G : List Ob) (ρ : List Addr) (Z : Addr → Prop) (x : Exn) : Prop where
  sm : Sm T σ H s G ρ Z
  ax : ExAt T x cls dd H
  na : H a = none
  sl : ∀ j, i = some j → σ[j]? = some (some (.ref a))
def tXa (T : Tb) (i : Option Nat) (m : Exn → Option U) (a : Addr) (cls : Value) (dd : Option Addr) : TE := fun σ H Q => ∃ s G ρ Z x u, InX T i a cls dd σ H s G ρ Z x ∧ m x = some u ∧ ∀ v, Rep T ρ Z H v u → Q v H
def tXas (T : Tb) (i : Option Nat) (m : Exn → Option (List U)) (a : Addr) (cls : Value) (dd : Option Addr) : L2.TA := fun σ H Q => ∃ s G ρ Z x us, InX T i a cls dd σ H s G ρ Z x ∧ m x = some us ∧ ∀ vs, Reps T ρ Z H vs us → Q vs H
variable {a : Addr} {oe : Obj} {cls : Value} {dd : Option Addr} {pn : List (Addr × Obj)} {i : Option Nat} {y : Option Str} {c : Nat} {o : Option Nat}
theorem litOf_v {c : Const} {u : U} {j : Nat} {pos : Pos} (h : litOf c = some u) : ∃ v, PE X (.Constant c j pos) (tC v) ∧ ∀ ρ Z H, Rep T ρ Z H v u := by
  unfold litOf at h
  split at h <;> cases h
  · exact ⟨_, pe_non, fun _ _ _ => .non⟩
  · exact ⟨_, pe_bl, fun _ _ _ => .bl _⟩
  · exact ⟨_, pe_int, fun _ _ _ => .int _⟩
  · exact ⟨_, pe_str, fun _ _ _ => .str _⟩
/-- the clause's name and slot, its class's field -/
structure ClOk (X : Cx) (T : Tb) (i : Option Nat) (y : Option Str) (c : Nat) (o : Option Nat) : Prop where
  nm : ∀ z, y = some z → ∃ j, i = some j ∧ X.N[j]? = some z ∧ X.env.scope.names.lookup z = some .local
  fl : ∀ kf, o = some kf → ∃ C f, T.cls[c]? = some C ∧ T.att[kf]? = some f ∧ XfC X.K C ∧ PySem.W.findIn X.K (.ref C) f = some none
theorem dXe_ok (h : XOk X T W k d sc fnb) (hc : ClOk X T i y c o) (hz : Zc cls dd oe) (hv : ∃ vs, oe.data = .fields vs) {e : Expr} {m : Exn → Option U} (q : dXe d y c o e = some m) : PE (X.suite a ((a, oe) :: pn)) e (tXa T i m a cls dd) := by
  unfold dXe at q
  split at q
  · rename_i k' p1 p2
    obtain ⟨u, e1, e2⟩ := Option.map_eq_some_iff.mp q
    subst e2
    obtain ⟨v, pe, rv⟩ := litOf_v (X := X.suite a ((a, oe) :: pn)) (T := T) (j := p1) (pos := p2) e1
    exact PE.imp pe fun σ H Q ⟨s, G, ρ, Z, x, u', ix, e3, r⟩ => by
      cases e3
      exact r v (rv ρ Z H)
  · rename_i z p1 f p2
    split at q
    · rename_i hy
      split at q
      · rename_i kf cs ps kf' ea
        split at q
        · rename_i hk
          subst hk
          obtain ⟨j, hj, hN, hl⟩ := hc.nm z hy.1
          obtain ⟨C, f', g1, g2, g3, g4⟩ := hc.fl _ rfl
          obtain ⟨t1, _, _⟩ := h.tab.att f _ ea
          have ef : f' = f := by rw [t1] at g2; exact (Option.some.inj g2).symm
          subst ef
          have pv : PE (X.suite a ((a, oe) :: pn)) (.Name z p1) (tVar j) := pe_var hN (.inl hl) (okN_d hy.2) (okN_c hy.2)
          refine PE.imp (pe_xf g3 g4 hz hv pv (attrBase rfl)) fun σ H Q ⟨s, G, ρ, Z, x, u, ix, em, r⟩ => ?_
          cases q
          simp only at em
          split at em
          · rename_i hx
            split at em
            · rename_i u' eu
              split at em
              · rename_i hf
                cases em
                obtain ⟨C', c1, c2, c3⟩ := ix.ax
                have eC : C' = C := by rw [hx, g1] at c1; exact (Option.some.inj c1).symm
                subst eC
                refine ⟨_, ix.sl j hj, rfl, c2, ?_⟩
                rcases c3 with ⟨c3, _⟩ | ⟨d', fv, c4, c5, c6⟩
                · rw [c3] at eu; cases eu
                · obtain ⟨v, l1, l2⟩ := repF_some t1 (fun j' hj' => h.tab.hat j' kf f' hj' t1) c6 eu
                  exact ⟨d', fv, v, c4, c5, l1, r v (rep_flat l2 hf)⟩
              · cases em
            · cases em
          · cases em
        · cases q
      · cases q
    · cases q
  · cases q
theorem dXs_ok {f : Expr → Option (Exn → Option U)} (hf : ∀ e m, f e = some m → PE (X.suite a ((a, oe) :: pn)) e (tXa T i m a cls dd)) : ∀ {es : List Expr} {ms : Exn → Option (List U)}, es.all noStar = true → dXs f es = some ms → PA (X.suite a ((a, oe) :: pn)) es (tXas T i ms a cls dd)
  | [], ms, _, q => by
    cases q
    exact PA.imp pa_nil fun σ H Q ⟨s, G, ρ, Z, x, us, ix, e, r⟩ => by
      cases e
      exact r [] .nil
  | e :: es, ms, hs, q => by
    rw [List.all_cons, Bool.and_eq_true] at hs
    unfold dXs at q
    split at q
    · rename_i m ms' e1 e2
      cases q
      refine PA.imp (pa_cons (hf e m e1) (dXs_ok hf hs.2 e2) (star_cons hs.1)) fun σ H Q ⟨s, G, ρ, Z, x, us, ix, em, r⟩ => ?_
      simp only at em
      split at em
      · rename_i u us' q1 q2
        cases em
        exact ⟨s, G, ρ, Z, x, u, ix, q1, fun v rv => ⟨s, G, ρ, Z, x, us', ix, q2, fun vs rvs => r (v :: vs) (.cons rv rvs)⟩⟩
      · cases em
    · cases q
/-- .. the value may be new -/
def tXn (T : Tb) (i : Option Nat) (m : Exn → Option U) (a : Addr) (cls : Value) (dd : Option Addr) : TE := fun σ H Q => ∃ s G ρ Z x u, InX T i a cls dd σ H s G ρ Z x ∧ m x = some u ∧ ∀ v H', Ex ρ Z H ρ Z H' → Rl T ρ Z G H' → Rep T ρ Z H' v u → Q v H'
theorem dXv_ok (h : XOk X T W k d sc fnb) (hc : ClOk X T i y c o) (hz : Zc cls dd oe) (hv : ∃ vs, oe.data = .fields vs) {e : Expr} {m : Exn → Option U} (q : dXv d y c o e = some m) : PE (X.suite a ((a, oe) :: pn)) e (tXn T i m a cls dd) := by
  unfold dXv at q
  split at q
  · rename_i es p
    split at q
    · rename_i hs
      obtain ⟨ms, e1, e2⟩ := Option.map_eq_some_iff.mp q
      subst e2
      refine PE.imp (pe_lst (dXs_ok (fun e m q => dXe_ok h hc hz hv q) hs e1)) fun σ H Q ⟨s, G, ρ, Z, x, u, ix, em, r⟩ => ?_
      simp only at em
      cases e3 : ms x with
      | none => rw [e3] at em; cases em
      | some us =>
        rw [e3] at em
        simp only [Option.bind_some] at em
        split at em
        · rename_i hl
          cases em
          refine ⟨s, G, ρ, Z, x, us, ix, e3, fun vs rvs => ⟨by rw [rvs.length, szL_eq]; exact hl, fun p hp => ?_⟩⟩
          exact r _ _ (ex_new hp) (ix.sm.rl.new hp) (.lst upd_same (ix.sm.rl.nz hp) (rvs.ex ix.sm.rl.zm (ex_new hp)))
        · cases em
    · cases q
  · exact PE.imp (dXe_ok h hc hz hv q) fun σ H Q ⟨s, G, ρ, Z, x, u, ix, em, r⟩ => ⟨s, G, ρ, Z, x, u, ix, em, fun v rv => r v H Ex.refl ix.sm.rl rv⟩
/-- a suite's test -/
def tXt (T : Tb) (i : Option Nat) (c : Nat) (b : Bool) (a : Addr) (cls : Value) (dd : Option Addr) : TT := fun σ H Q => (∃ s G ρ Z x d fv, InX T i a cls dd σ H s G ρ Z x ∧ x.cls = c ∧ dd = some d ∧ H d = some (.xd fv)) ∧ Q b H
theorem tstB_ok (h : XOk X T W k d sc fnb) (hc : ClOk X T i y c o) (hz : Zc cls dd oe) (hv : ∃ vs, oe.data = .fields vs) : ∀ (n : Nat) {t : Expr} {b : Bool}, tstB d sc y c n t = some b → PT (X.suite a ((a, oe) :: pn)) t (tXt T i c b a cls dd)
  | 0, _, _, q => by cases q
  | n + 1, t, b, q => by
    unfold tstB at q
    split at q
    · obtain ⟨b', e1, e2⟩ := Option.map_eq_some_iff.mp q
      subst e2
      exact PT.imp (pt_not (tstB_ok h hc hz hv n e1)) fun σ H Q ⟨w, r⟩ => ⟨w, r⟩
    · split at q
      · rename_i b1 b2 e1 e2
        cases q
        refine PT.imp (pw_or (tstB_ok h hc hz hv n e1) (pw_or1 (tstB_ok h hc hz hv n e2))).pt fun σ H Q ⟨w, r⟩ => ⟨w, ?_⟩
        cases b1 with
        | true => exact r
        | false => exact ⟨w, r⟩
      · cases q
    · rename_i f p1 z p2 x p3 p4
      split at q
      · rename_i hq
        simp only [Bool.and_eq_true, decide_eq_true_eq, beq_iff_eq] at hq
        obtain ⟨⟨⟨⟨⟨⟨q1, q2⟩, q3⟩, q4⟩, q5⟩, q6⟩, q7⟩ := hq
        split at q
        · rename_i c' o' el
          subst q1
          obtain ⟨⟨C', g1, g2⟩, _⟩ := h.tab.xc x _ el
          obtain ⟨j, hj, hN, hl⟩ := hc.nm z q4
          have hm := h.tab.bl _ (contains_mem q3)
          -- the class of what is caught must be known: by cases on it
          refine ⟨fun pins s σ H Q I ⟨⟨s0, G, ρ, Z, xn, d0, fv, ix, ex, ed, eh⟩, r⟩ => ?_⟩
          obtain ⟨C, c1, c2, c3⟩ := ix.ax
          rw [ex] at c1
          obtain ⟨K1, K2⟩ := h.tab.xi c c' b C C' q c1 g1
          subst c2
          subst ed
          have call := pe_callB (X := X.suite a ((a, oe) :: pn)) (p := p1) (pos := p4) (call_isX (h.hT ▸ K1 : ExcC X.K C) hz hv) (glb_ok (by rw [h.sc]; exact q2)) hm (by decide +kernel)
            (pa_cons (pe_var (X := X.suite a ((a, oe) :: pn)) (pos := p2) hN (.inl hl) (okN_d q5) (okN_c q5)) (pa_cons (pe_glob (v := .ref C') (X := X.suite a ((a, oe) :: pn)) (pos := p3) (glb_ok (by rw [h.sc]; exact q6)) g2 rfl (okN_d q7)) pa_nil rfl) rfl) (by decide) (by decide) rfl rfl
          refine (pt_val call (plain_test rfl)).run pins s σ H Q I ?_
          exact ⟨.ref a, ix.sl j hj, C', b, fv, rfl, eh, h.hT ▸ K2, b, rfl, r⟩
        · cases q
      · cases q
    · cases q
theorem PSs.any {Y : Cx} {ss : List Stmt} : PSs Y ss (fun _ _ _ => False) := ⟨fun _ _ _ _ _ _ z => z.elim⟩
theorem dX_ok (h : XOk X T W k d sc fnb) (hc : ClOk X T i y c o) {ss : List Stmt} {m : Exn → MS} (q : dX d sc fnb y i c o ss = some m) : SuiteOk X ss (tX T i m) := by
  intro a oe cls dd pn hz hv
  unfold dX at q
  split at q
  · rename_i x p e pos
    split at q
    · rename_i hn
      split at q
      · rename_i j mv e1 e2
        cases q
        obtain ⟨n1, n2, n3⟩ := locI_ok h e1
        refine pss_one (PS.imp (ps_set (X := X.suite a ((a, oe) :: pn)) h.nd n1 n2 (dXv_ok h hc hz hv e2) (swaps_no hn) n3) fun D σ H ⟨s, G, ρ, Z, xn, sm, ax, na, sl, r⟩ => ?_)
        cases em : mv xn with
        | none => simp only [em] at r; exact r.elim
        | some u =>
          simp only [em] at r
          exact ⟨s, G, ρ, Z, xn, u, ⟨sm, ax, na, sl⟩, em, fun v H' x' rl rv => r _ H' ρ Z x' ⟨rl, (sm.fm.ex sm.rl.zm x').set rv⟩⟩
      · cases q
    · cases q
  · rename_i x p e pos t body pos2
    split at q
    · rename_i hn
      split at q
      · rename_i j mv e1 e2 e3
        cases q
        obtain ⟨n1, n2, n3⟩ := locI_ok h e1
        have pt := tstB_ok (a := a) (oe := oe) (cls := cls) (dd := dd) (pn := pn) h hc hz hv 8 e3
        refine PSs.imp (pss_cons (ps_set (X := X.suite a ((a, oe) :: pn)) h.nd n1 n2 (dXe_ok h hc hz hv e2) (swaps_no hn) n3) (pss_one (ps_if pt PSs.any pss_nil))) fun D σ H ⟨s, G, ρ, Z, xn, sm, ax, na, sl, r⟩ => ?_
        cases em : mv xn with
        | none => simp only [em] at r; exact r.elim
        | some u =>
          simp only [em] at r
          by_cases hh : xn.cls = c ∧ xn.fs ≠ [] ∧ i ≠ some j
          · rw [if_pos hh] at r
            refine ⟨s, G, ρ, Z, xn, u, ⟨sm, ax, na, sl⟩, em, fun v rv => ?_⟩
            obtain ⟨C, c1, c2, c3⟩ := id ax
            rcases c3 with ⟨c3, _⟩ | ⟨d', fv, c4, c5, c6⟩
            · exact absurd c3 hh.2.1
            · have fm2 : Fm T ρ Z H (σ.set j (some v)) (s.set j (some u)) := sm.fm.set rv
              refine ⟨⟨s.set j (some u), G, ρ, Z, xn, d', fv, ⟨⟨sm.rl, fm2⟩, ax, na, fun l hl => ?_⟩, hh.1, c4, c5⟩, ?_⟩
              · have : j ≠ l := fun z => hh.2.2 (by rw [z]; exact hl)
                rw [List.getElem?_set_ne this]
                exact sl l hl
              · show if false = true then _ else _
                rw [if_neg Bool.false_ne_true]
                exact r _ H ρ Z Ex.refl ⟨sm.rl, fm2⟩
          · rw [if_neg hh] at r
            exact r.elim
      · cases q
    · cases q
  · rename_i e pos
    split at q
    · rename_i mv e2
      cases q
      refine pss_one (PS.imp (ps_ret (dXv_ok h hc hz hv e2)) fun D σ H ⟨s, G, ρ, Z, xn, sm, ax, na, sl, r⟩ => ?_)
      cases em : mv xn with
      | none => simp only [em] at r; exact r.elim
      | some u =>
        simp only [em] at r
        exact ⟨s, G, ρ, Z, xn, u, ⟨sm, ax, na, sl⟩, em, fun v H' x' rl rv => r v H' ρ Z x' rl rv⟩
    · cases q
  · cases q
end
end FL

/-! FL18: statements, a def's body. -/
namespace FL
open PySem L2 PyProof.Rows
/-- how many turns a while may take -/
def wF : Nat := 100000
def dSs (f : Stmt → MS) : List Stmt → MS
  | [] => nxM
  | [s] => f s
  | s :: r => seqM (f s) (dSs f r)
/-- name = a comprehension: whether its name is kept over it -/
def swB (sc : Scope) (x : Str) (p q : Pos) (scope : Scope) : Bool :=
  (if sc.kind.isAnnotationScope then ScopeKind.function else sc.kind) == .function && sc.names.lookup x == some .local && p.line == q.line && !(scope.names.any fun (n, k) => n == x && (k == .local || k == .cell))
theorem swB_eq {env : Env} {elt : Expr} {gs : List Comprehension} {scope : Scope} {pos py : Pos} {x : Str} {l : Nat} : swapsWith (.ListComp elt gs scope pos) (some (.Name x py)) l env = pure (swB env.scope x py pos scope) := rfl
def bkF (sc : Scope) : Bool := (if sc.kind.isAnnotationScope then ScopeKind.function else sc.kind) == .function
/-- a, b = e, e' : the stores from the right -/
def parB (sc : Scope) (x y : Str) (px py : Pos) (a b : Expr) : Bool :=
  bkF sc && sc.names.lookup x == some .local && sc.names.lookup y == some .local && px.line == py.line && !(x == y) && noStar a && noStar b && !([a, b].all (foldedForSure 8)) && !([a, b].all (constantsAlone 8))
def parM (i j : Nat) (ms : MA) : MS := fun s G => match ms s G with
  | .ok [u, v] G1 => .nx ((s.set i (some u)).set j (some v)) G1
  | .exc x G1 => .exc x s G1
  | _ => .bad
def slotI (d : Dn) (sc : Scope) : Option Str → Option (Option Nat)
  | none => some none
  | some n => match findI n d.N, sc.names.lookup n with
    | some i, some .local => some (some i)
    | _, _ => none
def dHs (d : Dn) (sc : Scope) (fnb : Str → Bool) : List ExceptHandler → Option (List HM)
  | [] => some []
  | .ExceptHandler (some (.Name x _)) nm (s0 :: ss) _ :: r => if glb sc x && okN x then (match d.xc.lookup x with
    | some (c, o) => (match slotI d sc nm with
      | some i => (match dX d sc fnb nm i c o (s0 :: ss), dHs d sc fnb r with
        | some m, some hs => some (⟨c, i, m⟩ :: hs)
        | _, _ => none)
      | none => none)
    | none => none) else none
  | _ => none
def dS (d : Dn) : Nat → Scope → (Str → Bool) → Stmt → MS
  | 0, _, _, _ => badS
  | n + 1, sc, fnb, st => match st with
    | .Expr (.Constant (.str _) _ _) _ => nxM
    | .Expr e _ => if noComp e then stE (dE d n sc fnb false e) (fun _ => nxM) else badS
    | .Return none _ => fun _ G => .rt .non G
    | .Return (some e) _ => stE (dE d n sc fnb d.rmu e) rtM
    | .Pass _ => nxM
    | .Break _ => bkM
    | .Continue _ => ctM
    | .If c a b _ => ifM (dT d n sc fnb c) (dSs (dS d n sc fnb) a) (dSs (dS d n sc fnb) b)
    | .While c b [] _ => whileL (dT d n sc fnb c) (dSs (dS d n sc fnb) b) wF
    | .For tg it b [] _ => if noSet it then (match dG d.N sc fnb n tg with
      | some (g, _) => forM (dI d n sc fnb (isTupE tg) it) g (dSs (dS d n sc fnb) b)
      | none => badS) else badS
    | .Assign [.Name x _] e _ => (match locI d sc fnb x with
      | some i => stE (dE d n sc fnb (d.mu.contains x) e) (setM i)
      | none => badS)
    | .Assign [.Attribute o f _] e _ => (match d.att.lookup f with
      | some (kf, cs, _) => stE2 (dE d n sc fnb (d.mu.contains f) e) (dE d n sc fnb false o) (fldM (fun c => cs.contains c) kf)
      | none => badS)
    | .Assign [.Subscript o i _] e _ => if noSlice i then stE3 (dE d n sc fnb false e) (dE d n sc fnb false o) (dE d n sc fnb false i) itemM else badS
    | .Raise (some (.Call (.Name x _) es [] _)) none _ => if glb sc x && okN x then (match d.xc.lookup x, es with
      | some (c, some kf), [e] => if noStar e then stE (dE d n sc fnb false e) (raiseM c kf) else badS
      | some (c, none), [] => fun s G => .exc ⟨c, []⟩ s G
      | _, _ => badS) else badS
    | .Try b (h :: hs) [] [] _ => (match dHs d sc fnb (h :: hs) with
      | some l => tryM d.xs (dSs (dS d n sc fnb) b) l
      | none => badS)
    | .Assign [.Tuple [.Name x px, .Name y py] _ _] (.Tuple [a, b] _ _) _ => if parB sc x y px py a b then (match findI x d.N, findI y d.N with
      | some i, some j => parM i j (consA (dE d n sc fnb false a) (consA (dE d n sc fnb false b) nilA))
      | _, _ => badS) else badS
    | .Assign [.Tuple ts k p] e _ => if notTT (.Tuple ts k p) e then (match dG d.N sc fnb n (.Tuple ts k p) with
      | some (g, _) => stE (dE d n sc fnb false e) (asgM g)
      | none => badS) else badS
    | _ => badS
structure SOk (X : Cx) (T : Tb) (W : WX) (k : Nat) (d : Dn) (sc : Scope) (fnb : Str → Bool) : Prop where
  x : XOk X T W k d sc fnb
  po : PassesOwn (model X.prog X.w) X.A X.env X.xe
  st : X.stack = X.env :: X.outer
  fr : X.env.frame = some X.env.locals
section
variable {X : Cx} {T : Tb} {W : WX} {k : Nat} {d : Dn} {sc : Scope} {fnb : Str → Bool}
theorem PS.badS {e : Stmt} : PS X e (tS T W FL.badS) := PS.bad fun _ _ => rfl
theorem dSs_ok {f : Stmt → MS} (hf : ∀ s, PS X s (tS T W (f s))) : ∀ {ss : List Stmt}, PSs X ss (tS T W (dSs f ss))
  | [] => fss_nil
  | [s] => fss_one (hf s)
  | s :: t :: r => fss_cons (hf s) (dSs_ok hf)
theorem SOk.tr (h : SOk X T W k d sc fnb) {W' : WX} {pn : List (Addr × Obj)} {xe : Value → Shared → Prop} (tk : Takes (X.tr pn xe) W') (po : PassesOwn (model X.prog X.w) X.A X.env xe) : SOk (X.tr pn xe) T W' k d sc fnb :=
  ⟨⟨h.x.N, h.x.nd, h.x.sc, h.x.fn, h.x.hT, h.x.calm, tk, h.x.room, h.x.tab⟩, po, h.st, h.fr⟩
theorem swapped_par {x y : Str} {px py pt pt2 : Pos} {kt k2 : Nat} {a b : Expr} {env : Env} (h : parB env.scope x y px py a b = true) : swappedStores [.Tuple [.Name x px, .Name y py] kt pt] (.Tuple [a, b] k2 pt2) env = pure (some [x, y]) := by
  unfold parB at h
  simp only [Bool.and_eq_true, beq_iff_eq, Bool.not_eq_true'] at h
  obtain ⟨⟨⟨⟨⟨⟨⟨⟨h1, h2⟩, h3⟩, h4⟩, h5⟩, h6⟩, h7⟩, h8⟩, h9⟩ := h
  have hb : env.blockKind = .function := by
    unfold bkF at h1
    rw [beq_iff_eq] at h1
    exact h1
  have hs : ([a, b].any fun | .Starred .. => true | _ => false) = false := by
    cases a <;> cases b <;> first | rfl | (exfalso; simp [noStar] at h6; done) | (exfalso; simp [noStar] at h7; done)
  have hx : env.kindOf x = some .local := h2
  have hy : env.kindOf y = some .local := h3
  have hxy : x ≠ y := by simpa using h5
  have hn : ([Expr.Name x px, Expr.Name y py].filterMap fun
      | .Name id pos => if env.kindOf id == some .local && pos.line == px.line then some id else none
      | _ => none) = [x, y] := by
    simp [hx, hy, h4]
  have hd : [x, y].eraseDups = [x, y] := by
    have : (y == x) = false := by simpa using Ne.symm hxy
    simp [List.eraseDups_cons, hxy, this, Ne.symm hxy]
  unfold swappedStores
  simp only [List.length_cons, List.length_nil, hb]
  rw [if_neg (by decide), if_neg (fun z => by have q := hs.symm.trans z; cases q)]
  generalize hL : List.filterMap _ [Expr.Name x px, Expr.Name y py] = L
  have e : L = [x, y] := hL.symm.trans hn
  subst e
  rw [hd, if_neg (by simp), if_neg (by rw [h8]; decide), if_neg (by rw [h9]; decide)]
/-- name = e -/
theorem set_ok (h : SOk X T W k d sc fnb) (n : Nat) {x : Str} {i : Nat} {mu : Bool} {e : Expr} {p pos : Pos} (hi : locI d sc fnb x = some i) : PS X (.Assign [.Name x p] e pos) (tS T W (stE (dE d n sc fnb mu e) (setM i))) := by
  obtain ⟨h1, h2, h3⟩ := locI_ok h.x hi
  have hE := (sndE n X T W k d sc fnb h.x).1 mu e
  by_cases hc : noComp e = true
  · exact fs_set h.x.nd h1 h2 hE (swaps_no hc) h3
  · cases e with
    | ListComp elt gs scope q =>
      cases hs : swB X.env.scope x p q scope with
      | false => exact fs_set h.x.nd h1 h2 hE (by rw [swB_eq, hs]) h3
      | true =>
        have hl : X.env.scope.names.lookup x = some .local := by
          unfold swB at hs
          simp only [Bool.and_eq_true, beq_iff_eq] at hs
          exact hs.1.1.2
        cases n with
        | zero => exact PS.bad fun _ _ => by unfold dE; rfl
        | succ n =>
          unfold dE
          split
          all_goals try (rename_i z; cases z; done)
          all_goals try (rename_i z _; cases z; done)
          · rename_i elt' tg it ifs scope' pos' heq
            cases heq
            have hsw : swapsWith (.ListComp elt [⟨tg, it, ifs, 0⟩] scope q) (some (.Name x p)) pos.line X.env = pure true := by rw [swB_eq, hs]
            split
            · rename_i hb
              rw [Bool.and_eq_true] at hb
              split
              · rename_i g ws hg
                split
                · rename_i hw
                  have hw' : ∀ j ∈ ws, j ∈ (ownOf d.N scope.names).map (·.2) := fun j hj => by
                    have := List.all_eq_true.mp hw j hj
                    simpa using this
                  have ok := blkOk_by (show blkC d.N sc _ _ = true from hb.1)
                  rw [← h.x.N, ← h.x.sc] at ok
                  have hI := (sndE n X T W k d sc fnb h.x).2.2
                  split
                  · refine fs_setLc h.x.calm h.x.nd h1 hl hsw (hI _ _) ?_ hw' (fun s H C cl fp => dG_ok (h.x.blk s H _ C cl fp) n hg) (fun s H C cl fp => ft_nil) (fun s H C cl fp => (sndE n _ T WF k d _ _ (h.x.blk s H _ C cl fp)).1 _ _) hb.2
                    rw [← h.x.N]; exact ok
                  · refine fs_setLc h.x.calm h.x.nd h1 hl hsw (hI _ _) ?_ hw' (fun s H C cl fp => dG_ok (h.x.blk s H _ C cl fp) n hg) (fun s H C cl fp => ft_one ((sndE n _ T WF k d _ _ (h.x.blk s H _ C cl fp)).2.1 _)) (fun s H C cl fp => (sndE n _ T WF k d _ _ (h.x.blk s H _ C cl fp)).1 _ _) hb.2
                    rw [← h.x.N]; exact ok
                  · exact PS.bad fun _ _ => rfl
                · exact PS.bad fun _ _ => rfl
              · exact PS.bad fun _ _ => rfl
            · exact PS.bad fun _ _ => rfl
          · exact PS.bad fun _ _ => rfl
    | _ => first | exact absurd rfl hc | (refine PS.bad fun s G => ?_; cases n <;> (unfold dE; rfl))

theorem slotI_ok (h : XOk X T W k d sc fnb) {nm : Option Str} {i : Option Nat} (e : slotI d sc nm = some i) : ∀ z, nm = some z → ∃ j, i = some j ∧ X.N[j]? = some z ∧ X.env.scope.names.lookup z = some .local := fun z hz => by
  subst hz
  simp only [slotI] at e
  split at e
  · rename_i j hj hl
    cases e
    exact ⟨j, rfl, by rw [h.N]; exact findI_ok hj, by rw [h.sc]; exact hl⟩
  · cases e
theorem slotI_none {nm : Option Str} {i : Option Nat} (e : slotI d sc nm = some i) (hn : nm = none) : i = none := by
  subst hn
  cases e
  rfl
theorem dHs_ok (h : XOk X T W k d sc fnb) : ∀ {es : List ExceptHandler} {hs : List HM}, dHs d sc fnb es = some hs → ∃ l, HAll X es l ∧ HRel T hs l
  | [], hs, e => by
    cases e
    exact ⟨[], .nil, .nil⟩
  | .ExceptHandler ty nm ss p :: r, hs, e => by
    unfold dHs at e
    split at e
    · rename_i z; cases z
    · rename_i x p1 nm' s0 ss' p' r' heq
      injection heq with heq h2
      injection heq with h3 h4 h5 h6
      subst h2
      subst h3
      subst h4
      subst h5
      split at e
      · rename_i hx
        rw [Bool.and_eq_true] at hx
        split at e
        · rename_i c o el
          obtain ⟨⟨C, g1, g2⟩, M⟩ := h.tab.xc x _ el
          split at e
          case h_2 => cases e
          rename_i i e1
          split at e
          · rename_i m hs' e2 e3
            cases e
            obtain ⟨l, a1, a2⟩ := dHs_ok h e3
            have nmx : Names X x (.ref C) := ⟨glb_ok (by rw [h.sc]; exact hx.1), okN_d hx.2, .inl g2⟩
            have cl : ClOk X T i nm c o := ⟨slotI_ok h e1, fun kf ho => by
              subst ho
              obtain ⟨C', f, q1, q2, q3, q4⟩ := M.2
              exact ⟨C', f, q1, q2, h.hT ▸ q3, h.hT ▸ q4⟩⟩
            have su := dX_ok (X := X) h cl e2
            refine ⟨⟨.ref C, i, tX T i m⟩ :: l, ?_, .cons (h := ⟨c, i, m⟩) g1 a2⟩
            cases nm with
            | none =>
              have := slotI_none e1 rfl
              subst this
              exact .no nmx su a1
            | some n =>
              obtain ⟨j, q1, q2, q3⟩ := slotI_ok h e1 n rfl
              subst q1
              exact .as nmx q2 q3 su a1
          · cases e
        · cases e
      · cases e
    · cases e
theorem fs_par {x y : Str} {px py pt pt2 pos : Pos} {kt k2 i j : Nat} {a b : Expr} {ma mb : ME} (h : XOk X T W k d sc fnb) (hp : parB sc x y px py a b = true) (hi : findI x d.N = some i) (hj : findI y d.N = some j) (ha : PE X a (tE T W ma)) (hb : PE X b (tE T W mb)) :
    PS X (.Assign [.Tuple [.Name x px, .Name y py] kt pt] (.Tuple [a, b] k2 pt2) pos) (tS T W (parM i j (consA ma (consA mb nilA)))) := by
  rw [← h.sc] at hp
  have hsw := swapped_par (kt := kt) (k2 := k2) (pt := pt) (pt2 := pt2) hp
  unfold parB at hp
  simp only [Bool.and_eq_true, beq_iff_eq, Bool.not_eq_true'] at hp
  obtain ⟨⟨⟨⟨⟨⟨⟨⟨h1, h2⟩, h3⟩, h4⟩, h5⟩, h6⟩, h7⟩, h8⟩, h9⟩ := hp
  have hxy : x ≠ y := by simpa using h5
  have n1 : X.N[i]? = some x := by rw [h.N]; exact findI_ok hi
  have n2 : X.N[j]? = some y := by rw [h.N]; exact findI_ok hj
  have hij : i ≠ j := fun z => by subst z; rw [n1] at n2; exact hxy (Option.some.inj n2)
  have hA : PA X [a, b] (tA T W (consA ma (consA mb nilA))) := fa_cons ha (fa_cons hb fa_nil (star_cons h7)) (star_cons h6)
  refine PS.imp (ps_par h.calm h.nd n1 n2 hij h2 h3 hA hsw (swaps_sole rfl)) fun D σ H ⟨s, G, ρ, Z, sm, q⟩ => ?_
  refine ⟨s, G, ρ, Z, sm, ?_⟩
  unfold parM at q
  cases e : consA ma (consA mb nilA) s G with
  | bad => rw [e] at q; exact q.elim
  | exc y G1 =>
    rw [e] at q
    exact fun cls d H' ρ' Z' x1 rl a => q cls d σ H' ρ' Z' x1 (sm.ex x1 rl) a
  | ok us G1 =>
    rw [e] at q
    intro vs H1 ρ1 Z1 x1 rl1 r1
    skip
    split at q
    · rename_i u w G2 eq
      cases eq
      obtain ⟨v1, v2, rfl, q1, q2⟩ := r1.inv2
      have fm1 := sm.fm.ex sm.rl.zm x1
      exact ⟨v1, v2, rfl, q _ H1 ρ1 Z1 x1 ⟨rl1, (fm1.set q1).set q2⟩⟩
    · rename_i eq; cases eq
    · exact q.elim
def SndS (n : Nat) : Prop := ∀ (X : Cx) (T : Tb) (W : WX) (k : Nat) (d : Dn) (sc : Scope) (fnb : Str → Bool), SOk X T W k d sc fnb → ∀ st, PS X st (tS T W (dS d n sc fnb st))
theorem sndS : ∀ n, SndS n
  | 0 => fun X T W k d sc fnb h st => by unfold dS; exact PS.badS
  | n + 1 => fun X T W k d sc fnb h st => by
    have hS := sndS n X T W k d sc fnb h
    obtain ⟨hE, hT, hI⟩ := sndE n X T W k d sc fnb h.x
    unfold dS
    split
    · exact fs_doc
    · split
      · rename_i hc
        exact fs_expr (hE _ _) hc
      · exact PS.badS
    · exact fs_retN
    · exact fs_ret (hE _ _)
    · exact fs_pass
    · exact fs_break
    · exact fs_continue
    · exact fs_if (hT _) (dSs_ok hS) (dSs_ok hS)
    · exact fs_while h.po (hT _) (dSs_ok hS)
    · split
      · rename_i hs
        split
        · rename_i g vs hg
          exact fs_for h.po h.x.calm (hI _ _) (dG_ok h.x n hg) (dSs_ok hS) hs
        · exact PS.badS
      · exact PS.badS
    · split
      · rename_i i hi
        exact set_ok h n hi
      · exact PS.badS
    · split
      · rename_i kf cs ps e
        obtain ⟨g1, g2, g3⟩ := h.x.tab.att _ _ e
        exact fs_fld h.x.tab.hat g1 (fun c hc => g2 c (by simpa using hc)) (hE _ _) (hE _ _)
      · exact PS.badS
    · split
      · rename_i hs
        exact fs_item (by have := h.x.room.un; omega) hs (hE _ _) (hE _ _) (hE _ _)
      · exact PS.badS
    · -- raise
      rename_i x p es pos pos'
      split
      · rename_i hx
        rw [Bool.and_eq_true] at hx
        have hg : Gl X x := glb_ok (by rw [h.x.sc]; exact hx.1)
        split
        · rename_i c kf e el
          obtain ⟨_, M, _⟩ := h.x.tab.xc x _ el
          split
          · rename_i he
            exact fs_raiseI h.x.calm h.x.tk M h.x.room hg (hE _ _) (okN_d hx.2) he
          · exact PS.badS
        · rename_i c el
          obtain ⟨_, M⟩ := h.x.tab.xc x _ el
          exact fs_raise0 h.x.calm h.x.tk M hg (okN_d hx.2)
        · exact PS.badS
      · exact PS.badS
    · -- try
      split
      · rename_i l hl
        obtain ⟨l', a1, a2⟩ := dHs_ok h.x hl
        exact fs_try h.st h.fr h.x.nd h.x.tk (h.x.hT ▸ h.x.hT ▸ h.x.tab.xs) (fun W' pn xe tk po => dSs_ok (sndS n _ T W' k d sc fnb (h.tr tk po))) a1 a2
      · exact PS.badS
    · split
      · rename_i hp
        split
        · rename_i i j hi hj
          exact fs_par h.x hp hi hj (hE _ _) (hE _ _)
        · exact PS.badS
      · exact PS.badS
    · split
      · rename_i hn
        split
        · rename_i g vs hg
          exact fs_asg (hE _ _) (dG_ok h.x n hg) rfl hn rfl
        · exact PS.badS
      · exact PS.badS
    · exact PS.badS

/-! ### a def's body -/
def fnT : Str → Bool := fun _ => true
def startS (N : List Str) (us : List U) : Sg := us.map some ++ List.replicate (N.length - us.length) none
def runR : Rt → Rs U
  | .nx _ G => .ok .non G
  | .rt u G => .ok u G
  | .exc x _ G => .exc x G
  | _ => .bad
def runB (d : Dn) (n : Nat) (st : Stmt) : RunD := fun us G => runR (dSs (dS d n (defScope st) fnT) (defBody st) (startS d.N us) G)
theorem start_fm {N : List Str} {ρ : List Addr} {Z : Addr → Prop} {H : Hp} {vs : List V} {us : List U} (r : Reps T ρ Z H vs us) : Fm T ρ Z H (L2.start N vs) (startS N us) := by
  refine ⟨by unfold L2.start startS; simp [r.length], fun i u e => ?_⟩
  unfold startS at e
  unfold L2.start
  by_cases hi : i < us.length
  · rw [List.getElem?_append_left (by simpa using hi), List.getElem?_map] at e
    rw [List.getElem?_append_left (by simpa [r.length] using hi), List.getElem?_map]
    cases e2 : us[i]? with
    | none => rw [e2] at e; cases e
    | some u' =>
      rw [e2] at e
      cases e
      obtain ⟨v, h1, h2⟩ := r.get e2
      exact ⟨v, by rw [h1]; rfl, h2⟩
  · rw [List.getElem?_append_right (by simpa using hi), List.getElem?_replicate] at e
    split at e <;> cases e
section
variable {P : Program} {w : World} {K : PySem.W.Frag} {mg : Str → Option Value} {base : Heap}
theorem fn_body {x qual : Str} {st : Stmt} {f : Addr} {fd : FuncData} {ps : List Str} {n : Nat} (F : Fun K x qual st f fd) (S : FnScope d.N ps (defScope st)) (hT : K = T.K) (tab : TabOk P w K mg base T k d) : FnOk P w K mg base (L2.CX P w) (k + 2) f fd ps (spD T ps.length (runB d n st)) := by
  refine F.okX S (fun vs H Q E ⟨us, G, ρ, Z, rl, r, hl, _⟩ => r.length.trans hl) fun cdv A outer s H vs Q E hr hsp => ?_
  obtain ⟨us, G, ρ, Z, rl, r, hl, q⟩ := hsp
  have so : SOk (cxOf (L2.CX P w) P w K mg base d.N qual (defScope st) f cdv A outer s H E) T (fun cls d _ H => E cls d H) k d (defScope st) fnT :=
    ⟨⟨rfl, S.nd, rfl, rfl, hT, rfl, takes_of rfl rfl rfl rfl, hr, tab⟩, passes_of rfl, rfl, rfl⟩
  refine ⟨_, dSs_ok (sndS n _ T _ k d _ _ so), startS d.N us, G, ρ, Z, ⟨rl, start_fm r⟩, ?_⟩
  unfold runB at q
  cases e : dSs (dS d n (defScope st) fnT) (defBody st) (startS d.N us) G with
  | nx s' G' => rw [e] at q; exact fun σ' H' ρ' Z' x sm => q _ H' ρ' Z' x sm.rl .non
  | rt u G' => rw [e] at q; exact fun v H' ρ' Z' x rl' rv => q v H' ρ' Z' x rl' rv
  | exc y s' G' => rw [e] at q; exact fun cls d σ' H' ρ' Z' x sm a => q cls d H' ρ' Z' x sm.rl a
  | bk s' G' => rw [e] at q; exact q.elim
  | ct s' G' => rw [e] at q; exact q.elim
  | bad => rw [e] at q; exact q.elim
theorem def_body {x qual : Str} {st : Stmt} {f : Addr} {fd : FuncData} {ps : List Str} {n : Nat} (F : Fun K x qual st f fd) (S : FnScope d.N ps (defScope st)) (b : Binds K fd ps []) (hT : K = T.K) (tab : TabOk P w K mg base T k d) : DefOk P w K mg base T (k + 2) f ps.length (runB d n st) :=
  ⟨fd, ps, b, rfl, fn_body F S hT tab⟩
/-! ### promises weakened -/
/-- r' promises no more than r -/
def Le (r' r : RunD) : Prop := ∀ us G, r' us G = .bad ∨ r' us G = r us G
theorem spD_le {n : Nat} {r r' : RunD} (h : Le r' r) (vs : List V) (H : Hp) (Q : VK) (E : XK) (q : spD T n r' vs H Q E) : spD T n r vs H Q E := by
  obtain ⟨us, G, ρ, Z, rl, rp, hl, q⟩ := q
  refine ⟨us, G, ρ, Z, rl, rp, hl, ?_⟩
  rcases h us G with e | e
  · rw [e] at q; exact q.elim
  · rw [← e]; exact q
theorem DefOk.le {f : Addr} {n : Nat} {r r' : RunD} (F : DefOk P w K mg base T k f n r) (h : Le r' r) : DefOk P w K mg base T k f n r' := by
  obtain ⟨fd, ps, b, hl, F⟩ := F.ex
  exact ⟨fd, ps, b, hl, F.imp fun vs H Q E q => spD_le h vs H Q E q⟩
theorem DefOk.mono {f : Addr} {n j : Nat} {r : RunD} (F : DefOk P w K mg base T j f n r) (h : j ≤ k) : DefOk P w K mg base T k f n r := by
  obtain ⟨fd, ps, b, hl, F⟩ := F.ex
  exact ⟨fd, ps, b, hl, F.mono h⟩
end
end
end FL

/-! FL19: new cells that nobody else holds: frozen, forgotten. -/
namespace FL
open PySem L2 PyProof.Rows
mutual
/-- the references all below n -/
def bdU (n : Nat) : U → Bool
  | .ref i => decide (i < n)
  | .tup l => bdUs n l
  | .lst l => bdUs n l
  | .sc l => bdUs n l
  | .dct l => bdK n l
  | .ins _ l => bdF n l
  | .non => true
  | .bl _ => true
  | .int _ => true
  | .str _ => true
def bdUs (n : Nat) : List U → Bool
  | [] => true
  | x :: r => bdU n x && bdUs n r
def bdK (n : Nat) : List (U × U) → Bool
  | [] => true
  | (_, x) :: r => bdU n x && bdK n r
def bdF (n : Nat) : List (Nat × U) → Bool
  | [] => true
  | (_, x) :: r => bdU n x && bdF n r
end
def bdO (n : Nat) : Ob → Bool
  | .dead => true
  | .lst l => bdUs n l
  | .dct l => bdK n l
  | .ins _ l => bdF n l
mutual
/-- the references replaced -/
def mapU (f : Nat → Option U) : U → Option U
  | .ref i => f i
  | .tup l => (mapUs f l).map .tup
  | .lst l => (mapUs f l).map .lst
  | .sc l => (mapUs f l).map .sc
  | .dct l => (mapK f l).map .dct
  | .ins c l => (mapF f l).map (.ins c)
  | .non => some .non
  | .bl b => some (.bl b)
  | .int i => some (.int i)
  | .str l => some (.str l)
def mapUs (f : Nat → Option U) : List U → Option (List U)
  | [] => some []
  | x :: r => match mapU f x, mapUs f r with
    | some a, some b => some (a :: b)
    | _, _ => none
def mapK (f : Nat → Option U) : List (U × U) → Option (List (U × U))
  | [] => some []
  | (k, x) :: r => match mapU f x, mapK f r with
    | some a, some b => some ((k, a) :: b)
    | _, _ => none
def mapF (f : Nat → Option U) : List (Nat × U) → Option (List (Nat × U))
  | [] => some []
  | (k, x) :: r => match mapU f x, mapF f r with
    | some a, some b => some ((k, a) :: b)
    | _, _ => none
end
/-- a cell from n on, as it stands -/
def refF (n : Nat) (G : List Ob) : Nat → Nat → Option U
  | 0, i => if i < n then some (.ref i) else none
  | k + 1, i => if i < n then some (.ref i) else match G[i]? with
    | some (.lst l) => (mapUs (refF n G k) l).map .lst
    | some (.dct l) => (mapK (refF n G k) l).map .dct
    | some (.ins c l) => (mapF (refF n G k) l).map (.ins c)
    | _ => none
def frzU (n : Nat) (G : List Ob) (u : U) : Option U := mapU (refF n G 6) u
section
variable {T : Tb} {ρ t : List Addr} {Z Z' Z1 : Addr → Prop} {H H' : Hp}
mutual
theorem rep_bd : ∀ {v : V} {u : U}, Rep T ρ Z H v u → bdU ρ.length u = true
  | _, _, .non => rfl
  | _, _, .bl b => rfl
  | _, _, .int i => rfl
  | _, _, .str l => rfl
  | _, _, .tup h r => by unfold bdU; exact reps_bd r
  | _, _, .lst h z r => by unfold bdU; exact reps_bd r
  | _, _, .sc h r => by unfold bdU; exact reps_bd r
  | _, _, .dct h z r => by unfold bdU; exact repk_bd r
  | _, _, .ins h z c r => by unfold bdU; exact repf_bd r
  | _, _, .ref h => by unfold bdU; exact decide_eq_true (List.getElem?_eq_some_iff.mp h).1
theorem reps_bd : ∀ {v : List V} {u : List U}, Reps T ρ Z H v u → bdUs ρ.length u = true
  | _, _, .nil => rfl
  | _, _, .cons r q => by unfold bdUs; rw [rep_bd r, reps_bd q]; rfl
theorem repf_bd : ∀ {v : List (Str × V)} {u : List (Nat × U)}, RepF T ρ Z H v u → bdF ρ.length u = true
  | _, _, .nil => rfl
  | _, _, .cons e r q => by unfold bdF; rw [rep_bd r, repf_bd q]; rfl
theorem repk_bd : ∀ {v : List (Key × V)} {u : List (U × U)}, RepK T ρ Z H v u → bdK ρ.length u = true
  | _, _, .nil => rfl
  | _, _, .cons r q => by unfold bdK; rw [rep_bd r, repk_bd q]; rfl
end
mutual
theorem rep_cut (hz : ∀ a, Z1 a → Z' a) : ∀ {v : V} {u : U}, Rep T (ρ ++ t) Z' H' v u → bdU ρ.length u = true → Rep T ρ Z1 H' v u
  | _, _, .non, _ => .non
  | _, _, .bl b, _ => .bl b
  | _, _, .int i, _ => .int i
  | _, _, .str l, _ => .str l
  | _, _, .tup h r, e => .tup h (reps_cut hz r (by unfold bdU at e; exact e))
  | _, _, .lst h z r, e => .lst h (fun q => z (hz _ q)) (reps_cut hz r (by unfold bdU at e; exact e))
  | _, _, .sc h r, e => .sc (h.imp (fun q => ⟨q.1, fun z => q.2 (hz _ z)⟩) id) (reps_cut hz r (by unfold bdU at e; exact e))
  | _, _, .dct h z r, e => .dct h (fun q => z (hz _ q)) (repk_cut hz r (by unfold bdU at e; exact e))
  | _, _, .ins h z c r, e => .ins h (fun q => z (hz _ q)) c (repf_cut hz r (by unfold bdU at e; exact e))
  | _, _, .ref h, e => .ref (by unfold bdU at e; rw [List.getElem?_append_left (of_decide_eq_true e)] at h; exact h)
theorem reps_cut (hz : ∀ a, Z1 a → Z' a) : ∀ {v : List V} {u : List U}, Reps T (ρ ++ t) Z' H' v u → bdUs ρ.length u = true → Reps T ρ Z1 H' v u
  | _, _, .nil, _ => .nil
  | _, _, .cons r q, e => by
    unfold bdUs at e
    rw [Bool.and_eq_true] at e
    exact .cons (rep_cut hz r e.1) (reps_cut hz q e.2)
theorem repf_cut (hz : ∀ a, Z1 a → Z' a) : ∀ {v : List (Str × V)} {u : List (Nat × U)}, RepF T (ρ ++ t) Z' H' v u → bdF ρ.length u = true → RepF T ρ Z1 H' v u
  | _, _, .nil, _ => .nil
  | _, _, .cons h r q, e => by
    unfold bdF at e
    rw [Bool.and_eq_true] at e
    exact .cons h (rep_cut hz r e.1) (repf_cut hz q e.2)
theorem repk_cut (hz : ∀ a, Z1 a → Z' a) : ∀ {v : List (Key × V)} {u : List (U × U)}, RepK T (ρ ++ t) Z' H' v u → bdK ρ.length u = true → RepK T ρ Z1 H' v u
  | _, _, .nil, _ => .nil
  | _, _, .cons r q, e => by
    unfold bdK at e
    rw [Bool.and_eq_true] at e
    exact .cons (rep_cut hz r e.1) (repk_cut hz q e.2)
end
variable {ρ' : List Addr}
mutual
theorem rep_map {f : Nat → Option U} (hz : ∀ a, Z1 a → Z' a) (hf : ∀ i a w, ρ'[i]? = some a → f i = some w → Rep T ρ Z1 H' (.ref a) w) : ∀ {v : V} {u w : U}, Rep T ρ' Z' H' v u → mapU f u = some w → Rep T ρ Z1 H' v w
  | _, _, _, .non, e => by cases e; exact .non
  | _, _, _, .bl b, e => by cases e; exact .bl b
  | _, _, _, .int i, e => by cases e; exact .int i
  | _, _, _, .str l, e => by cases e; exact .str l
  | _, _, _, .tup (us := us) h r, e => by
    unfold mapU at e
    obtain ⟨ws, e2, e3⟩ := Option.map_eq_some_iff.mp e
    subst e3
    exact .tup h (reps_map hz hf r e2)
  | _, _, _, .lst (us := us) h z r, e => by
    unfold mapU at e
    obtain ⟨ws, e2, e3⟩ := Option.map_eq_some_iff.mp e
    subst e3
    exact .lst h (fun q => z (hz _ q)) (reps_map hz hf r e2)
  | _, _, _, .sc h r, e => by
    unfold mapU at e
    obtain ⟨ws, e2, e3⟩ := Option.map_eq_some_iff.mp e
    subst e3
    exact .sc (h.imp (fun q => ⟨q.1, fun z => q.2 (hz _ z)⟩) id) (reps_map hz hf r e2)
  | _, _, _, .dct h z r, e => by
    unfold mapU at e
    obtain ⟨ws, e2, e3⟩ := Option.map_eq_some_iff.mp e
    subst e3
    exact .dct h (fun q => z (hz _ q)) (repk_map hz hf r e2)
  | _, _, _, .ins h z c r, e => by
    unfold mapU at e
    obtain ⟨ws, e2, e3⟩ := Option.map_eq_some_iff.mp e
    subst e3
    exact .ins h (fun q => z (hz _ q)) c (repf_map hz hf r e2)
  | _, _, _, .ref h, e => hf _ _ _ h e
theorem reps_map {f : Nat → Option U} (hz : ∀ a, Z1 a → Z' a) (hf : ∀ i a w, ρ'[i]? = some a → f i = some w → Rep T ρ Z1 H' (.ref a) w) : ∀ {v : List V} {u w : List U}, Reps T ρ' Z' H' v u → mapUs f u = some w → Reps T ρ Z1 H' v w
  | _, _, _, .nil, e => by cases e; exact .nil
  | _, _, _, .cons r q, e => by
    unfold mapUs at e
    split at e
    · rename_i e1 e2
      cases e
      exact .cons (rep_map hz hf r e1) (reps_map hz hf q e2)
    · cases e
theorem repf_map {f : Nat → Option U} (hz : ∀ a, Z1 a → Z' a) (hf : ∀ i a w, ρ'[i]? = some a → f i = some w → Rep T ρ Z1 H' (.ref a) w) : ∀ {v : List (Str × V)} {u w : List (Nat × U)}, RepF T ρ' Z' H' v u → mapF f u = some w → RepF T ρ Z1 H' v w
  | _, _, _, .nil, e => by cases e; exact .nil
  | _, _, _, .cons h r q, e => by
    unfold mapF at e
    split at e
    · rename_i e1 e2
      cases e
      exact .cons h (rep_map hz hf r e1) (repf_map hz hf q e2)
    · cases e
theorem repk_map {f : Nat → Option U} (hz : ∀ a, Z1 a → Z' a) (hf : ∀ i a w, ρ'[i]? = some a → f i = some w → Rep T ρ Z1 H' (.ref a) w) : ∀ {v : List (Key × V)} {u w : List (U × U)}, RepK T ρ' Z' H' v u → mapK f u = some w → RepK T ρ Z1 H' v w
  | _, _, _, .nil, e => by cases e; exact .nil
  | _, _, _, .cons r q, e => by
    unfold mapK at e
    split at e
    · rename_i e1 e2
      cases e
      exact .cons (rep_map hz hf r e1) (repk_map hz hf q e2)
    · cases e
end
/-- the cells from ρ on are no cells any more -/
def zDrop (Z' : Addr → Prop) (t : List Addr) : Addr → Prop := fun a => Z' a ∧ a ∉ t
theorem refF_ok {G' : List Ob} (rl : Rl T (ρ ++ t) Z' G' H') : ∀ (k i : Nat) (a : Addr) (w : U), (ρ ++ t)[i]? = some a → refF ρ.length G' k i = some w → Rep T ρ (zDrop Z' t) H' (.ref a) w
  | 0, i, a, w, h, e => by
    unfold refF at e
    split at e
    · rename_i hi
      cases e
      rw [List.getElem?_append_left hi] at h
      exact .ref h
    · cases e
  | k + 1, i, a, w, h, e => by
    unfold refF at e
    split at e
    · rename_i hi
      cases e
      rw [List.getElem?_append_left hi] at h
      exact .ref h
    · rename_i hi
      have ht : a ∈ t := by
        rw [List.getElem?_append_right (Nat.le_of_not_lt hi)] at h
        exact List.mem_of_getElem? h
      split at e
      · rename_i l g
        obtain ⟨ws, e2, e3⟩ := Option.map_eq_some_iff.mp e
        subst e3
        obtain ⟨_, vs, h1, h2⟩ := rl.ob i a _ h g
        exact .lst h1 (fun z => z.2 ht) (reps_map (fun _ z => z.1) (refF_ok rl k) h2 e2)
      · rename_i l g
        obtain ⟨ws, e2, e3⟩ := Option.map_eq_some_iff.mp e
        subst e3
        obtain ⟨_, vs, h1, h2⟩ := rl.ob i a _ h g
        exact .dct h1 (fun z => z.2 ht) (repk_map (fun _ z => z.1) (refF_ok rl k) h2 e2)
      · rename_i c l g
        obtain ⟨ws, e2, e3⟩ := Option.map_eq_some_iff.mp e
        subst e3
        obtain ⟨_, C, dx, vs, h1, h2, h3⟩ := rl.ob i a _ h g
        exact .ins h1 (fun z => z.2 ht) h2 (repf_map (fun _ z => z.1) (refF_ok rl k) h3 e2)
      · cases e
/-- the old cells, and others that nobody asks for -/
def CutG (G G' G1 : List Ob) : Prop := (∃ g, G' = G1 ++ g) ∧ G1.length = G.length ∧ ∀ (i : Nat) (o : Ob), G1[i]? = some o → G[i]? = some o ∨ bdO G.length o = true
theorem cut_rl {G G' G1 : List Ob} (rl : Rl T ρ Z G H) (rl' : Rl T (ρ ++ t) Z' G' H') (c : CutG G G' G1) : Rl T ρ (zDrop Z' t) G1 H' := by
  obtain ⟨⟨g, eg⟩, hl, hc⟩ := c
  refine ⟨by rw [hl]; exact rl.len, rl.nd, fun a z => rl'.zm a z.1, fun a h => rl'.trk a (List.mem_append_left _ h), fun i a o h h1 => ?_⟩
  have hi : i < ρ.length := (List.getElem?_eq_some_iff.mp h).1
  have h' : (ρ ++ t)[i]? = some a := by rw [List.getElem?_append_left hi]; exact h
  have g' : G'[i]? = some o := by
    rw [eg, List.getElem?_append_left (List.getElem?_eq_some_iff.mp h1).1]
    exact h1
  have ho := rl'.ob i a o h' g'
  have hb : bdO ρ.length o = true := by
    rcases hc i o h1 with e | e
    · have := rl.ob i a o h e
      cases o with
      | dead => rfl
      | lst us => obtain ⟨_, vs, _, r⟩ := this; exact reps_bd r
      | dct us => obtain ⟨_, vs, _, r⟩ := this; exact repk_bd r
      | ins c us => obtain ⟨_, _, _, vs, _, _, r⟩ := this; exact repf_bd r
    · rw [rl.len]; exact e
  have nt : a ∉ t := fun ht => by
    have nd := rl'.nd
    rw [List.nodup_append] at nd
    exact nd.2.2 a (List.mem_of_getElem? h) a ht rfl
  cases o with
  | dead => trivial
  | lst us => obtain ⟨z, vs, h1, r⟩ := ho; exact ⟨⟨z, nt⟩, vs, h1, reps_cut (fun _ z => z.1) r hb⟩
  | dct us => obtain ⟨z, vs, h1, r⟩ := ho; exact ⟨⟨z, nt⟩, vs, h1, repk_cut (fun _ z => z.1) r hb⟩
  | ins c us => obtain ⟨z, C, dx, vs, h1, h2, r⟩ := ho; exact ⟨⟨z, nt⟩, C, dx, vs, h1, h2, repf_cut (fun _ z => z.1) r hb⟩
theorem cut_ex (x : Ex ρ Z H (ρ ++ t) Z' H') : Ex ρ Z H ρ (zDrop Z' t) H' :=
  ⟨⟨[], by simp⟩, fun a o h z => ⟨(x.fz a o h z).1, fun q => (x.fz a o h z).2 q.1⟩, fun a o h z n => ⟨(x.ou a o h z n).1, ⟨(x.ou a o h z n).2.1, fun q => (x.ou a o h z n).2.2 (List.mem_append_right _ q)⟩, n⟩, x.th⟩
/-- what is left of a result when the new cells are frozen -/
def Cut (G : List Ob) : Rs U → Rs U → Prop
  | .ok u1 G1, .ok u G' => frzU G.length G' u = some u1 ∧ CutG G G' G1
  | .exc x1 G1, .exc x G' => x1 = x ∧ CutG G G' G1
  | _, _ => False
theorem cut_rd {G : List Ob} {Q : VK} {E : XK} {r1 r : Rs U} (rl : Rl T ρ Z G H) (c : Cut G r1 r) (h : RD T H ρ Z Q E r1) : RD T H ρ Z Q E r := by
  cases r with
  | bad => cases r1 <;> exact c.elim
  | ok u G' =>
    cases r1 with
    | ok u1 G1 =>
      intro v H' ρ' Z' x rl' rv
      obtain ⟨t, e⟩ := x.pre
      subst e
      obtain ⟨c1, c2⟩ := c
      unfold frzU at c1
      rw [← rl.len] at c1
      exact h v H' ρ (zDrop Z' t) (cut_ex x) (cut_rl rl rl' c2) (rep_map (fun _ z => z.1) (refF_ok rl' 6) rv c1)
    | _ => exact c.elim
  | exc y G' =>
    cases r1 with
    | exc y1 G1 =>
      intro cls d H' ρ' Z' x rl' a
      obtain ⟨t, e⟩ := x.pre
      subst e
      obtain ⟨c1, c2⟩ := c
      subst c1
      exact h cls d H' ρ (zDrop Z' t) (cut_ex x) (cut_rl rl rl' c2) a
    | _ => exact c.elim
/-- r' promises no more than r, new cells frozen -/
def LeC (r' r : RunD) : Prop := ∀ us G, r' us G = .bad ∨ r' us G = r us G ∨ Cut G (r' us G) (r us G)
theorem spD_leC {n : Nat} {r r' : RunD} (h : LeC r' r) (vs : List V) (H : Hp) (Q : VK) (E : XK) (q : spD T n r' vs H Q E) : spD T n r vs H Q E := by
  obtain ⟨us, G, ρ, Z, rl, rp, hl, q⟩ := q
  refine ⟨us, G, ρ, Z, rl, rp, hl, ?_⟩
  rcases h us G with e | e | e
  · rw [e] at q; exact q.elim
  · rw [← e]; exact q
  · exact cut_rd rl e q
theorem FnOk.leC {P : Program} {w : World} {K : PySem.W.Frag} {mg : Str → Option Value} {base : Heap} {CX : CXT} {k n : Nat} {f : Addr} {fd : FuncData} {ps : List Str} {r r' : RunD} (F : FnOk P w K mg base CX k f fd ps (spD T n r)) (h : LeC r' r) : FnOk P w K mg base CX k f fd ps (spD T n r') :=
  F.imp fun vs H Q E q => spD_leC h vs H Q E q
theorem DefOk.leC {P : Program} {w : World} {K : PySem.W.Frag} {mg : Str → Option Value} {base : Heap} {k n : Nat} {f : Addr} {r r' : RunD} (F : DefOk P w K mg base T k f n r) (h : LeC r' r) : DefOk P w K mg base T k f n r' := by
  obtain ⟨fd, ps, b, hl, F⟩ := F.ex
  exact ⟨fd, ps, b, hl, FnOk.leC F h⟩
end
end FL

/-! FL20: the facts of the text, by one check; tables by their rows. -/
namespace FL
open PySem L2 PyProof.Rows
section
variable {K : PySem.W.Frag} {T : Tb}
def clsB (K : PySem.W.Frag) (C : Addr) : Bool :=
  PySem.W.plainGet K C Str.empty && PySem.W.hasDictIn K C && PySem.W.plainOver K C && decide (PySem.W.findIn K (.ref C) "__setattr__" = some (some (.builtin "object.__setattr__")))
theorem clsB_ok {C : Addr} (h : clsB K C = true) : Cls K C := by
  unfold clsB at h
  simp only [Bool.and_eq_true, decide_eq_true_eq] at h
  exact ⟨h.1.1.1, h.1.1.2, h.1.2, h.2⟩
def insB (K : PySem.W.Frag) (C : Addr) : Bool :=
  clsB K C && decide (PySem.W.findIn K (.ref C) "__class__" = some (some (.builtin "object.__class__"))) && decide (PySem.W.specialIn K (.builtin "object.__class__") "__get__" = some (some (.builtin "getset_descriptor.__get__"))) &&
    decide (PySem.W.takesIn K (.builtin "object.__class__") = some true) && decide (PySem.W.mroIn K C (.type "object") = some true)
theorem insB_ok {C : Addr} (h : insB K C = true) : InsT K C := by
  unfold insB at h
  simp only [Bool.and_eq_true, decide_eq_true_eq] at h
  exact ⟨clsB_ok h.1.1.1.1, h.1.1.1.2, h.1.1.2, h.1.2, h.2⟩
def tys : List Ty := [.non, .bl, .int, .str, .lst, .tup, .dct]
theorem tys_all (b : Ty) : b ∈ tys := by cases b <;> decide
/-- isinstance of and by own classes -/
def isiB (K : PySem.W.Frag) (Cs : List Addr) (cls : List Nat) : Bool := cls.all fun c => match Cs[c]? with
  | some C => insB K C && (tys.all fun b => decide (b = .non) || decide (PySem.W.kitOne K (.ref C) (.type b.name) = some false)) && (tys.all fun b => decide (PySem.W.kitOne K (.type b.name) (.ref C) = some false)) &&
      cls.all fun c' => match Cs[c']? with
        | some C' => decide (PySem.W.kitOne K (.ref C) (.ref C') = some (decide (c = c')))
        | none => false
  | none => false
theorem isiB_ok {cls : List Nat} (h : isiB K T.cls cls = true) : IsiOk K T cls := by
  have key : ∀ c ∈ cls, ∀ C, T.cls[c]? = some C → (insB K C && (tys.all fun b => decide (b = .non) || decide (PySem.W.kitOne K (.ref C) (.type b.name) = some false)) && (tys.all fun b => decide (PySem.W.kitOne K (.type b.name) (.ref C) = some false)) &&
      cls.all fun c' => match T.cls[c']? with
        | some C' => decide (PySem.W.kitOne K (.ref C) (.ref C') = some (decide (c = c')))
        | none => false) = true := fun c hc C hC => by
    have := List.all_eq_true.mp h c hc
    rw [hC] at this
    exact this
  simp only [Bool.and_eq_true, List.all_eq_true] at key
  refine ⟨fun c hc C hC => insB_ok (key c hc C hC).1.1.1, fun c hc C hC b hb => ?_, fun c hc C hC b => of_decide_eq_true ((key c hc C hC).1.2 b (tys_all b)), fun c hc c' hc' C C' hC hC' => ?_⟩
  · have := (key c hc C hC).1.1.2 b (tys_all b)
    rw [Bool.or_eq_true] at this
    rcases this with z | z
    · exact absurd (of_decide_eq_true z) hb
    · exact of_decide_eq_true z
  · have := (key c hc C hC).2 c' hc'
    rw [hC'] at this
    exact of_decide_eq_true this
/-- the attributes and the classes in which they are fields -/
def fldB (K : PySem.W.Frag) (Cs : List Addr) (l : List (Str × List Nat)) : Bool := l.all fun p => p.2.all fun c => match Cs[c]? with
  | some C => clsB K C && decide (PySem.W.findIn K (.ref C) p.1 = some none)
  | none => false
theorem fldB_ok {l : List (Str × List Nat)} (h : fldB K T.cls l = true) {f : Str} {cs : List Nat} (hm : (f, cs) ∈ l) : ∀ c ∈ cs, FldOk K T c f := fun c hc => by
  have := List.all_eq_true.mp (List.all_eq_true.mp h _ hm) c hc
  cases e : T.cls[c]? with
  | none => rw [e] at this; cases this
  | some C =>
    rw [e] at this
    simp only [Bool.and_eq_true, decide_eq_true_eq] at this
    exact ⟨C, e, clsB_ok this.1, this.2⟩
/-! ### tables by their rows -/
def All2 {α β : Type} (p : α → β → Prop) : List (α × β) → Prop
  | [] => True
  | (a, b) :: r => p a b ∧ All2 p r
theorem All2.at {α β : Type} [BEq α] [LawfulBEq α] {p : α → β → Prop} : ∀ {l : List (α × β)}, All2 p l → ∀ a b, l.lookup a = some b → p a b
  | [], _, _, _, e => by cases e
  | (x, y) :: r, h, a, b, e => by
    rw [List.lookup_cons] at e
    by_cases z : a = x
    · subst z
      simp at e
      subst e
      exact h.1
    · have : (a == x) = false := by simpa using z
      rw [this] at e
      exact h.2.at a b e
theorem att_of {l : List Str} (h : l.Nodup) (K : PySem.W.Frag) (Cs : List Addr) : AttOk ⟨K, Cs, l⟩ := fun i j f hi hj => by
  obtain ⟨l1, e1⟩ := List.getElem?_eq_some_iff.mp (show l[i]? = some f from hi)
  obtain ⟨l2, e2⟩ := List.getElem?_eq_some_iff.mp (show l[j]? = some f from hj)
  exact (List.getElem_inj h).mp (e1.trans e2.symm)
section
variable {P : Program} {w : World} {mg : Str → Option Value} {base : Heap} {k : Nat} {d : Dn}
theorem tab_mk (hat : AttOk T) (hgl : All2 (GvOk P w K mg base T k) d.gl) (hbl : ∀ x, x ∈ d.bl → mg x = none) (hty : All2 (fun x c => ∃ C, T.cls[c]? = some C ∧ mg x = some (.ref C)) d.ty) (hisi : IsiOk K T d.cls)
    (hatt : All2 (fun f z => T.att[z.1]? = some f ∧ (∀ c ∈ z.2.1, FldOk K T c f) ∧ All2 (fun c r => PropOk P w K mg base T k c f r) z.2.2) d.att) (hmth : All2 (fun m z => z.2 ≠ [] ∧ All2 (fun c nr => MethOk P w K mg base T k c m z.1 nr.1 nr.2) z.2) d.mth)
    (heq : All2 (fun c r => EqOk P w K mg base T k c r) d.eqt) (hxc : All2 (fun x z => XcOk P w K mg base T k x z) d.xc) (hxs : XsOk K T d.xs) (hxi : XiOk K T d.xi) (hln : All2 (fun c r => LnOk P w K mg base T k c r) d.lnt := by exact trivial) : TabOk P w K mg base T k d :=
  ⟨hat, fun x g e => hgl.at x g e, hbl, fun x c e => hty.at x c e, hisi, fun f z e => let ⟨a, b, c⟩ := hatt.at f z e; ⟨a, b, fun c' r e' => c.at c' r e'⟩, fun m z e => let ⟨a, b⟩ := hmth.at m z e; ⟨a, fun c n r e' => b.at c (n, r) e'⟩, fun c r e => heq.at c r e, fun x z e => hxc.at x z e, hxs, hxi, fun c r e => hln.at c r e⟩
end
/-- keywords told in their order -/
theorem kbn_of {x qual : Str} {st : Stmt} {f : Addr} {fd : FuncData} {ps ks : List Str} {n : Nat} (F : Fun K x qual st f fd)
    (h : ∀ (kV doc pm : Value) (an : Option Addr) (cdv ct : Value) (us ws : List Value), us.length = n → ws.length = ks.length → bindArgs (PySem.W.fnOf x qual (defArgs st) (defBody st) (defScope st) .none kV doc pm an cdv ct) ⟨us, ks.zip ws⟩ = pure (ps.zip (us ++ ws))) :
    KBn K fd ps n ks (fun us ws => us ++ ws) (fun vs zs => vs ++ zs) := by
  obtain ⟨oc, od, kV, doc, pm, an, cdv, ct, osl, rfl, lk, hcd⟩ := F.ex
  exact ⟨fun s us ws _ l1 l2 => .of_eq (h kV doc pm an cdv ct us ws l1 l2), fun r1 r2 => r1.append r2⟩
end
end FL

/-! FL21: evaluation of the combinators, for plain proofs. -/
namespace FL
open PySem L2 PyProof.Rows
abbrev tx (s : String) : List Nat := (Str.ofString s).cps.toList
@[simp] theorem SS_beq (a b : List Nat) : (SS a == SS b) = (a == b) := by
  have := PyProof.Rows.toList_beq (SS a) (SS b)
  rw [tl_SS, tl_SS] at this
  exact this.symm
/-- item by item -/
theorem compL_map {b : Itb} {g : MG} {t : MT} {e : ME} {s0 : Sg} {G : List Ob} {h : U → U} : ∀ (l : List U) (k : Nat), (∀ i, itAt b G (k + i) = some l[i]?) → (∀ u ∈ l, ∃ s1, g u s0 = some s1 ∧ t s1 G = .ok true G ∧ e s1 G = .ok (h u) G) → compL b g t e s0 l.length k G = some (l.map h, G)
  | [], k, hi, _ => by
    have := hi 0
    simp at this
    simp [compL, this]
  | x :: r, k, hi, hh => by
    obtain ⟨s1, h1, h2, h3⟩ := hh x (.head _)
    have h0 := hi 0
    simp at h0
    have ih := compL_map (b := b) (g := g) (t := t) (e := e) (s0 := s0) (G := G) (h := h) r (k + 1) (fun i => by have := hi (i + 1); simp at this; rw [show k + 1 + i = k + (i + 1) by omega]; exact this) (fun u hu => hh u (.tail _ hu))
    simp [compL, h0, h1, h2, h3, ih]
/-- .. those that pass a test -/
theorem compL_filter {b : Itb} {g : MG} {t : MT} {e : ME} {s0 : Sg} {G : List Ob} {h : U → U} {p : U → Bool} : ∀ (l : List U) (k : Nat), (∀ i, itAt b G (k + i) = some l[i]?) → (∀ u ∈ l, ∃ s1, g u s0 = some s1 ∧ t s1 G = .ok (p u) G ∧ (p u = true → e s1 G = .ok (h u) G)) → compL b g t e s0 l.length k G = some ((l.filter p).map h, G)
  | [], k, hi, _ => by
    have := hi 0
    simp at this
    simp [compL, this]
  | x :: r, k, hi, hh => by
    obtain ⟨s1, h1, h2, h3⟩ := hh x (.head _)
    have h0 := hi 0
    simp at h0
    have ih := compL_filter (b := b) (g := g) (t := t) (e := e) (s0 := s0) (G := G) (h := h) (p := p) r (k + 1) (fun i => by have := hi (i + 1); simp at this; rw [show k + 1 + i = k + (i + 1) by omega]; exact this) (fun u hu => hh u (.tail _ hu))
    cases hp : p x with
    | true => simp [compL, h0, h1, h2, hp, h3 hp, ih]
    | false => simp [compL, h0, h1, h2, hp, ih]
theorem comp_items {mu : Bool} {it : MI} {g : MG} {t : MT} {e : ME} {own : List Nat} {s : Sg} {G G1 : List Ob} {l : List U} {h : U → U} (hi : it s G = .ok (.items l, l.length) G1) (hh : ∀ u ∈ l, ∃ s1, g u (wipeS s own) = some s1 ∧ t s1 G1 = .ok true G1 ∧ e s1 G1 = .ok (h u) G1) :
    compM mu it g t e own s G = newL mu (l.map h) G1 := by
  unfold compM
  rw [hi]
  simp only
  rw [compL_map l 0 (fun i => by simp [itAt]) hh]
  rfl
theorem comp_seq {mu : Bool} {it : MI} {g : MG} {t : MT} {e : ME} {own : List Nat} {s : Sg} {G G1 : List Ob} {u : U} {l : List U} {h : U → U} (hi : it s G = .ok (.seq u, l.length) G1) (hs : seqOf G1 u = some l) (hh : ∀ u ∈ l, ∃ s1, g u (wipeS s own) = some s1 ∧ t s1 G1 = .ok true G1 ∧ e s1 G1 = .ok (h u) G1) :
    compM mu it g t e own s G = newL mu (l.map h) G1 := by
  unfold compM
  rw [hi]
  simp only
  rw [compL_map l 0 (fun i => by simp [itAt, hs]) hh]
  rfl
theorem comp_seqF {mu : Bool} {it : MI} {g : MG} {t : MT} {e : ME} {own : List Nat} {s : Sg} {G G1 : List Ob} {u : U} {l : List U} {h : U → U} {p : U → Bool} (hi : it s G = .ok (.seq u, l.length) G1) (hs : seqOf G1 u = some l) (hh : ∀ u ∈ l, ∃ s1, g u (wipeS s own) = some s1 ∧ t s1 G1 = .ok (p u) G1 ∧ (p u = true → e s1 G1 = .ok (h u) G1)) :
    compM mu it g t e own s G = newL mu ((l.filter p).map h) G1 := by
  unfold compM
  rw [hi]
  simp only
  rw [compL_filter l 0 (fun i => by simp [itAt, hs]) hh]
  rfl
@[simp] theorem blsOf_map (l : List Bool) : blsOf (l.map U.bl) = some l := by
  induction l with
  | nil => rfl
  | cons a r ih => simp [blsOf, ih]
@[simp] theorem strsOf_map (l : List (List Nat)) : strsOf (l.map U.str) = some l := by
  induction l with
  | nil => rfl
  | cons a r ih => simp [strsOf, ih]
@[simp] theorem intsOf_map (l : List Int) : intsOf (l.map U.int) = some l := by
  induction l with
  | nil => rfl
  | cons a r ih => simp [intsOf, ih]
theorem blsOf_fun {α : Type} (l : List α) (f : α → Bool) : blsOf (l.map fun a => U.bl (f a)) = some (l.map f) := by
  rw [show (l.map fun a => U.bl (f a)) = (l.map f).map U.bl by simp]
  exact blsOf_map _
/-- new lists -/
theorem newL_f {us : List U} {G : List Ob} (h : us.length ≤ szL) : newL false us G = .ok (.lst us) G := by simp [newL, h]
theorem newL_t {us : List U} {G : List Ob} (h : us.length ≤ szL) : newL true us G = .ok (.ref G.length) (G ++ [.lst us]) := by simp [newL, h]
theorem newT_ok' {us : List U} {G : List Ob} (h : us.length ≤ szL) : newT us G = .ok (.tup us) G := by simp [newT, h]
/-- a for over items, by an invariant -/
theorem forL_inv {b : Itb} {g : MG} {body : MS} (I : Nat → Sg → List Ob → Prop) {n : Nat} {l : List U} (hl : l.length = n) (hb : ∀ G i, itAt b G i = some l[i]?)
    (step : ∀ i u s G, l[i]? = some u → I i s G → ∃ s1 s2 G2, g u s = some s1 ∧ (body s1 G = .nx s2 G2 ∨ body s1 G = .ct s2 G2) ∧ I (i + 1) s2 G2) :
    ∀ (m k : Nat) (s : Sg) (G : List Ob), k + m = n → I k s G → ∃ s' G', forL b g body m k s G = .nx s' G' ∧ I n s' G'
  | 0, k, s, G, e, h => by
    refine ⟨s, G, ?_, by rw [← e]; exact h⟩
    unfold forL
    rw [hb]
    have : l[k]? = none := List.getElem?_eq_none_iff.mpr (by omega)
    rw [this]
  | m + 1, k, s, G, e, h => by
    have hk : k < l.length := by omega
    obtain ⟨s1, s2, G2, h1, h2, h3⟩ := step k l[k] s G (List.getElem?_eq_getElem hk) h
    obtain ⟨s', G', h4, h5⟩ := forL_inv I hl hb step m (k + 1) s2 G2 (by omega) h3
    refine ⟨s', G', ?_, h5⟩
    unfold forL
    rw [hb, List.getElem?_eq_getElem hk]
    simp only [h1]
    rcases h2 with h2 | h2 <;> (rw [h2]; exact h4)
/-! ### plain data: == by shape -/
mutual
def dP : U → PyData
  | .non => .none
  | .bl b => .bool b
  | .int i => .int i
  | .str l => .str (SS l)
  | .tup l => .tuple (dPs l)
  | .lst l => .list (dPs l)
  | _ => .none
def dPs : List U → List PyData
  | [] => []
  | x :: r => dP x :: dPs r
end
def okC (l : List Nat) : Bool := l.all fun c => decide (c < 1114112)
mutual
/-- plain data, at most so deep -/
def pd : Nat → U → Bool
  | _, .non => true
  | _, .bl _ => true
  | _, .int _ => true
  | _, .str l => okC l
  | k + 1, .tup l => pds k l
  | k + 1, .lst l => pds k l
  | _, _ => false
def pds : Nat → List U → Bool
  | _, [] => true
  | k, x :: r => pd k x && pds k r
end
theorem canLay_SS {l : List Nat} (h : okC l = true) : PyData.canLay0 (.str (SS l)) = true := by
  simp only [PyData.canLay0, PyData.strOk, SS]
  simpa [okC, Array.all_toList] using h
mutual
theorem pd_ok {f : Nat → Option PyData} : ∀ {k : Nat} {u : U}, pd k u = true → toD0 f u = some (dP u) ∧ PyData.canLay0 (dP u) = true ∧ PyData.depth (dP u) ≤ k
  | k, .non, _ => ⟨by simp [toD0, dP], by simp [dP, PyData.canLay0], by simp [dP, PyData.depth]⟩
  | k, .bl b, _ => ⟨by simp [toD0, dP], by simp [dP, PyData.canLay0], by simp [dP, PyData.depth]⟩
  | k, .int i, _ => ⟨by simp [toD0, dP], by simp [dP, PyData.canLay0], by simp [dP, PyData.depth]⟩
  | k, .str l, h => ⟨by simp [toD0, dP], by simp only [dP]; exact canLay_SS (by cases k <;> (unfold pd at h; exact h)), by simp [dP, PyData.depth]⟩
  | k + 1, .tup l, h => by
    unfold pd at h
    obtain ⟨h1, h2, h3⟩ := pds_ok (f := f) h
    exact ⟨by simp [toD0, dP, h1], by simp [dP, PyData.canLay0, h2], by simp [dP, PyData.depth, h3]⟩
  | k + 1, .lst l, h => by
    unfold pd at h
    obtain ⟨h1, h2, h3⟩ := pds_ok (f := f) h
    exact ⟨by simp [toD0, dP, h1], by simp [dP, PyData.canLay0, h2], by simp [dP, PyData.depth, h3]⟩
  | 0, .tup l, h => by unfold pd at h; cases h
  | 0, .lst l, h => by unfold pd at h; cases h
  | k, .sc l, h => by cases k <;> (unfold pd at h; cases h)
  | k, .dct l, h => by cases k <;> (unfold pd at h; cases h)
  | k, .ins c l, h => by cases k <;> (unfold pd at h; cases h)
  | k, .ref i, h => by cases k <;> (unfold pd at h; cases h)
theorem pds_ok {f : Nat → Option PyData} : ∀ {k : Nat} {u : List U}, pds k u = true → toD0s f u = some (dPs u) ∧ PyData.canLayAll0 (dPs u) = true ∧ PyData.depthAll (dPs u) ≤ k
  | k, [], _ => ⟨by simp [toD0s, dPs], by simp [dPs, PyData.canLayAll0], by simp [dPs, PyData.depthAll]⟩
  | k, x :: r, h => by
    unfold pds at h
    rw [Bool.and_eq_true] at h
    obtain ⟨h1, h2, h3⟩ := pd_ok (f := f) h.1
    obtain ⟨g1, g2, g3⟩ := pds_ok (f := f) h.2
    exact ⟨by simp [toD0s, dPs, h1, g1], by simp [dPs, PyData.canLayAll0, h2, g2], by simp [dPs, PyData.depthAll]; omega⟩
end
theorem pd_shaped {u : U} (h : pd 20 u = true) : SeqAt.shaped (dP u) = true := by
  obtain ⟨_, h2, h3⟩ := pd_ok (f := fun _ => none) h
  unfold SeqAt.shaped
  rw [h2, Bool.true_and]
  exact decide_eq_true (Nat.le_trans h3 (by decide))
theorem eqU_pd {neg : Bool} {x y : U} {G : List Ob} (hx : pd 20 x = true) (hy : pd 20 y = true) : eqU neg x y G = .ok (.bl (if neg then !PyData.eqv (dP x) (dP y) else PyData.eqv (dP x) (dP y))) G := by
  unfold eqU toD
  rw [(pd_ok hx).1, (pd_ok hy).1]
  simp only
  rw [if_pos ⟨pd_shaped hx, pd_shaped hy⟩]
theorem eqv_refl_pd {x : U} (hx : pd 20 x = true) : PyData.eqv (dP x) (dP x) = true := SeqAt.eqv_refl _ (pd_ok (f := fun _ => none) hx).2.1
def notIns : U → Bool
  | .ins _ _ => false
  | .ref _ => false
  | _ => true
theorem eqX_pd {neg : Bool} {et : Nat → Option RunD} {x y : U} {G : List Ob} (hx : pd 20 x = true) (hy : pd 20 y = true) : eqX neg et x y G = .ok (.bl (if neg then !PyData.eqv (dP x) (dP y) else PyData.eqv (dP x) (dP y))) G := by
  unfold eqX
  have : insOf G x = none := by cases x <;> first | rfl | (unfold pd at hx; cases hx)
  rw [this]
  exact eqU_pd hx hy
/-! ### statement by statement -/
theorem seqM_nx {m1 m2 : MS} {s s1 : Sg} {G G1 : List Ob} (h : m1 s G = .nx s1 G1) : seqM m1 m2 s G = m2 s1 G1 := by unfold seqM; rw [h]
theorem seqM_rt {m1 m2 : MS} {s : Sg} {G G1 : List Ob} {u : U} (h : m1 s G = .rt u G1) : seqM m1 m2 s G = .rt u G1 := by unfold seqM; rw [h]
theorem stE_set {m : ME} {i : Nat} {s : Sg} {G G1 : List Ob} {u : U} (h : m s G = .ok u G1) : stE m (setM i) s G = .nx (s.set i (some u)) G1 := by unfold stE; rw [h]; rfl
theorem stE_rt {m : ME} {s : Sg} {G G1 : List Ob} {u : U} (h : m s G = .ok u G1) : stE m rtM s G = .rt u G1 := by unfold stE; rw [h]; rfl
theorem ifM_t {c : MT} {a b : MS} {s : Sg} {G G1 : List Ob} (h : c s G = .ok true G1) : ifM c a b s G = a s G1 := by unfold ifM; rw [h]
theorem ifM_f {c : MT} {a b : MS} {s : Sg} {G G1 : List Ob} (h : c s G = .ok false G1) : ifM c a b s G = b s G1 := by unfold ifM; rw [h]
theorem bin2_ok {f : U → U → List Ob → Rs U} {a b : ME} {s : Sg} {G G1 G2 : List Ob} {x y : U} (ha : a s G = .ok x G1) (hb : b s G1 = .ok y G2) : bin2 f a b s G = f x y G2 := by unfold bin2; rw [ha]; simp [hb]
theorem consA_ok {p : ME} {q : MA} {s : Sg} {G G1 G2 : List Ob} {x : U} {xs : List U} (ha : p s G = .ok x G1) (hb : q s G1 = .ok xs G2) : consA p q s G = .ok (x :: xs) G2 := by unfold consA; rw [ha]; simp [hb]
@[simp] theorem get_new {G : List Ob} {o : Ob} : (G ++ [o])[G.length]? = some o := by simp
@[simp] theorem set_new {G : List Ob} {o o' : Ob} : (G ++ [o]).set G.length o' = G ++ [o'] := by simp
theorem set_self {G : List Ob} {i : Nat} {o : Ob} (h : G[i]? = some o) : G.set i o = G := by
  obtain ⟨hi, e⟩ := List.getElem?_eq_some_iff.mp h
  rw [← e]
  exact List.set_getElem_self hi
/-- a list in a new cell that grows under a test -/
theorem ext_if {c : MT} {X : ME} {s : Sg} {G : List Ob} {ws xs : List U} {b : Bool} (hs : s[1]? = some (some (.ref G.length))) (hc : c s (G ++ [.lst ws]) = .ok b (G ++ [.lst ws])) (hx : b = true → X s (G ++ [.lst ws]) = .ok (.lst xs) (G ++ [.lst ws])) (hl : ws.length + xs.length ≤ szL) :
    ifM c (stE (bmM extendU (varM 1) (consA X nilA)) (fun _ => nxM)) nxM s (G ++ [.lst ws]) = .nx s (G ++ [.lst (ws ++ if b then xs else [])]) := by
  cases b with
  | false =>
    rw [ifM_f hc]
    simp [nxM]
  | true =>
    rw [ifM_t hc]
    simp [stE, bmM, varM, hs, lstOfW, consA, hx rfl, nilA, extendU, hl, nxM]
theorem cut_new {G g : List Ob} {u u1 : U} (h : frzU G.length (G ++ g) u = some u1) : Cut G (.ok u1 G) (.ok u (G ++ g)) := ⟨h, ⟨g, rfl⟩, rfl, fun _ _ e => .inl e⟩
theorem cut_set {G g : List Ob} {u u1 : U} {i : Nat} {o : Ob} (h : frzU G.length (G.set i o ++ g) u = some u1) (hb : bdO G.length o = true) : Cut G (.ok u1 (G.set i o)) (.ok u (G.set i o ++ g)) :=
  ⟨h, ⟨g, rfl⟩, by simp, fun j p e => by
    by_cases hij : i = j
    · subst hij
      rw [List.getElem?_set] at e
      simp at e
      exact .inr (by rw [← e.2]; exact hb)
    · rw [List.getElem?_set_ne hij] at e
      exact .inl e⟩
theorem bds_strs {n : Nat} : ∀ {zs : List (List Nat)}, bdUs n (zs.map .str) = true
  | [] => by simp [bdUs]
  | z :: r => by rw [List.map_cons]; unfold bdUs; rw [bds_strs]; rfl
theorem bds_ints {n : Nat} : ∀ {zs : List Int}, bdUs n (zs.map .int) = true
  | [] => by simp [bdUs]
  | z :: r => by rw [List.map_cons]; unfold bdUs; rw [bds_ints]; rfl
theorem map_strs {f : Nat → Option U} : ∀ {zs : List (List Nat)}, mapUs f (zs.map .str) = some (zs.map .str)
  | [] => by simp [mapUs]
  | z :: r => by rw [List.map_cons]; unfold mapUs; rw [map_strs]; rfl
theorem map_ints {f : Nat → Option U} : ∀ {zs : List Int}, mapUs f (zs.map .int) = some (zs.map .int)
  | [] => by simp [mapUs]
  | z :: r => by rw [List.map_cons]; unfold mapUs; rw [map_ints]; rfl
theorem frz_str {n : Nat} {G : List Ob} {l : List Nat} : frzU n G (.str l) = some (.str l) := rfl
theorem frz_bl {n : Nat} {G : List Ob} {b : Bool} : frzU n G (.bl b) = some (.bl b) := rfl
theorem frz_int {n : Nat} {G : List Ob} {b : Int} : frzU n G (.int b) = some (.int b) := rfl
theorem frz_non {n : Nat} {G : List Ob} : frzU n G .non = some .non := rfl
theorem frz_strs {n : Nat} {G : List Ob} {zs : List (List Nat)} : frzU n G (.tup (zs.map .str)) = some (.tup (zs.map .str)) := by
  unfold frzU mapU
  rw [map_strs]
  rfl
theorem eqv_str (a b : List Nat) : PyData.eqv (dP (.str a)) (dP (.str b)) = (a == b) := by simp [dP, PyData.eqv]
theorem eqv_int (a b : Int) : PyData.eqv (dP (.int a)) (dP (.int b)) = (a == b) := by simp [dP, PyData.eqv]
/-- == of texts, ints, as it stands -/
theorem eqX_str {neg : Bool} {et : Nat → Option RunD} {a b : List Nat} {G : List Ob} (ha : okC a = true) (hb : okC b = true) : eqX neg et (.str a) (.str b) G = .ok (.bl (if neg then !(a == b) else (a == b))) G := by
  rw [eqX_pd (by unfold pd; exact ha) (by unfold pd; exact hb), eqv_str]
theorem eqX_int {neg : Bool} {et : Nat → Option RunD} {a b : Int} {G : List Ob} : eqX neg et (.int a) (.int b) G = .ok (.bl (if neg then !(a == b) else (a == b))) G := by
  rw [eqX_pd (by unfold pd; rfl) (by unfold pd; rfl), eqv_int]
theorem eqvAll_strs : ∀ (zs ys : List (List Nat)), PyData.eqvAll (dPs (zs.map .str)) (dPs (ys.map .str)) = (zs == ys)
  | [], [] => by simp [dPs, PyData.eqvAll]
  | [], _ :: _ => by simp [dPs, PyData.eqvAll]
  | _ :: _, [] => by simp [dPs, PyData.eqvAll]
  | z :: zs, y :: ys => by
    simp only [List.map_cons, dPs, PyData.eqvAll, eqvAll_strs zs ys, eqv_str]
    rfl
theorem eqX_strs {neg : Bool} {et : Nat → Option RunD} {a b : List (List Nat)} {G : List Ob} (ha : pds 19 (a.map .str) = true) (hb : pds 19 (b.map .str) = true) : eqX neg et (.tup (a.map .str)) (.tup (b.map .str)) G = .ok (.bl (if neg then !(a == b) else (a == b))) G := by
  rw [eqX_pd (by unfold pd; exact ha) (by unfold pd; exact hb)]
  simp only [dP, PyData.eqv, eqvAll_strs]
theorem tob_str {neg : Bool} {et : Nat → Option RunD} {a b : ME} {s : Sg} {G : List Ob} {x y : List Nat} (ha : a s G = .ok (.str x) G) (hb : b s G = .ok (.str y) G) (hx : okC x = true) (hy : okC y = true) : tobM (bin2 (eqX neg et) a b) s G = .ok (if neg then !(x == y) else (x == y)) G := by
  unfold tobM
  rw [bin2_ok ha hb, eqX_str hx hy]
  rfl
theorem tob_int {neg : Bool} {et : Nat → Option RunD} {a b : ME} {s : Sg} {G : List Ob} {x y : Int} (ha : a s G = .ok (.int x) G) (hb : b s G = .ok (.int y) G) : tobM (bin2 (eqX neg et) a b) s G = .ok (if neg then !(x == y) else (x == y)) G := by
  unfold tobM
  rw [bin2_ok ha hb, eqX_int]
  rfl
theorem tob_strs {neg : Bool} {et : Nat → Option RunD} {a b : ME} {s : Sg} {G : List Ob} {x y : List (List Nat)} (ha : a s G = .ok (.tup (x.map .str)) G) (hb : b s G = .ok (.tup (y.map .str)) G) (hx : pds 19 (x.map .str) = true) (hy : pds 19 (y.map .str) = true) : tobM (bin2 (eqX neg et) a b) s G = .ok (if neg then !(x == y) else (x == y)) G := by
  unfold tobM
  rw [bin2_ok ha hb, eqX_strs hx hy]
  rfl
theorem bin2_p {f : U → U → List Ob → Rs U} {a b : ME} {s : Sg} {G : List Ob} {x y : U} (ha : a s G = .ok x G) (hb : b s G = .ok y G) : bin2 f a b s G = f x y G := bin2_ok ha hb
theorem consA_p {p : ME} {q : MA} {s : Sg} {G : List Ob} {x : U} {xs : List U} (ha : p s G = .ok x G) (hb : q s G = .ok xs G) : consA p q s G = .ok (x :: xs) G := consA_ok ha hb
theorem meth_eval {mt : Nat → Option (Nat × RunD)} {km : Nat} {mo : ME} {mas : MA} {s : Sg} {G G1 G2 : List Ob} {u : U} {c n : Nat} {l : List (Nat × U)} {r : RunD} {us : List U} (hm : mo s G = .ok u G1) (hi : insOf G1 u = some (c, l)) (ht : mt c = some (n, r)) (hl : l.lookup km = none) (ha : mas s G1 = .ok us G2) :
    methM mt km mo mas s G = arM n r (u :: us) G2 := by
  unfold methM
  rw [hm]
  simp only [bind_ok, hi, ht, hl, ha]
theorem var_ok {i : Nat} {s : Sg} {G : List Ob} {u : U} (h : s[i]? = some (some u)) : varM i s G = .ok u G := by unfold varM; rw [h]
theorem ifM_fn {c : MT} {a : MS} {s : Sg} {G G1 : List Ob} (h : c s G = .ok false G1) : ifM c a nxM s G = .nx s G1 := ifM_f h
theorem seqM_if {c : MT} {a m : MS} {s : Sg} {G G1 : List Ob} (h : c s G = .ok false G1) : seqM (ifM c a nxM) m s G = m s G1 := seqM_nx (ifM_fn h)
theorem seqM_ift {c : MT} {a m : MS} {s : Sg} {G G1 G2 : List Ob} {u : U} (h : c s G = .ok true G1) (ha : a s G1 = .rt u G2) : seqM (ifM c a nxM) m s G = .rt u G2 := seqM_rt ((ifM_t h).trans ha)
theorem seqM_stE {e : ME} {f : U → MS} {m : MS} {s : Sg} {G G1 : List Ob} {u : U} (h : e s G = .ok u G1) (hf : ∀ s, f u s G1 = .nx s G1) : seqM (stE e f) m s G = m s G1 := seqM_nx (by unfold stE; rw [h]; exact hf s)
theorem seqM_set {e : ME} {i : Nat} {m : MS} {s : Sg} {G G1 : List Ob} {u : U} (h : e s G = .ok u G1) : seqM (stE e (setM i)) m s G = m (s.set i (some u)) G1 := seqM_nx (stE_set h)
end FL

/-! FL22: what the top has left: constants, names; the law's own promise. -/
namespace FL
open PySem L2 PyProof.Rows
section
variable {K : PySem.W.Frag} {T : Tb}
def mapO {α β : Type} (f : α → Option β) : List α → Option (List β)
  | [] => some []
  | x :: r => match f x, mapO f r with
    | some a, some b => some (a :: b)
    | _, _ => none
/-- a constant of the written part, as data -/
def constB (K : PySem.W.Frag) : Nat → Value → Option U
  | 0, _ => none
  | n + 1, v => match v with
    | .none => some .non
    | .bool b => some (.bl b)
    | .int i _ => some (.int i)
    | .str x _ => some (.str x.cps.toList)
    | .ref a => match K.lookup a with
      | some ⟨.type "tuple", _, .seq its _, _⟩ => if its.size ≤ szL then (mapO (constB K n) its.toList).map .tup else none
      | _ => none
    | _ => none
theorem mapO_ok {f : Value → Option U} (hf : ∀ v u, f v = some u → ∃ w, RelV w v ∧ ∀ ρ Z H, Rep T ρ Z H w u) : ∀ {vals : List Value} {us : List U}, mapO f vals = some us → ∃ vs, Vals vs vals ∧ ∀ ρ Z H, Reps T ρ Z H vs us
  | [], us, e => by
    cases e
    exact ⟨[], .nil, fun _ _ _ => .nil⟩
  | x :: r, us, e => by
    unfold mapO at e
    split at e
    · rename_i a b e1 e2
      cases e
      obtain ⟨v, q1, q2⟩ := hf x a e1
      obtain ⟨vs, q3, q4⟩ := mapO_ok hf e2
      exact ⟨v :: vs, .cons q1 q3, fun ρ Z H => .cons (q2 ρ Z H) (q4 ρ Z H)⟩
    · cases e
theorem constB_ok (hT : T.K = K) : ∀ (n : Nat) (val : Value) (u : U), constB K n val = some u → ∃ v, RelV v val ∧ ∀ ρ Z H, Rep T ρ Z H v u
  | 0, _, _, e => by cases e
  | n + 1, val, u, e => by
    unfold constB at e
    split at e
    · cases e; exact ⟨.non, rfl, fun _ _ _ => .non⟩
    · cases e; exact ⟨.bl _, rfl, fun _ _ _ => .bl _⟩
    · cases e; exact ⟨.int _, ⟨_, rfl⟩, fun _ _ _ => .int _⟩
    · cases e; exact ⟨.str _, ⟨_, rfl⟩, fun _ _ _ => .str _⟩
    · rename_i a
      split at e
      · rename_i dd its m sl hl
        split at e
        · rename_i hs
          obtain ⟨us, e1, e2⟩ := Option.map_eq_some_iff.mp e
          subst e2
          obtain ⟨vs, q1, q2⟩ := mapO_ok (T := T) (constB_ok hT n) e1
          exact ⟨.ref a, rfl, fun ρ Z H => .tup (.inr ⟨_, its, m, hT ▸ hl, rfl, rfl, by rw [szL_eq]; exact hs, q1⟩) (q2 ρ Z H)⟩
        · cases e
      · cases e
    · cases e
/-- a module constant -/
def conAt (K : PySem.W.Frag) (x : Str) : Option U := match PySem.W.nsIn K mainGlobals x with
  | some (some v) => constB K 4 v
  | _ => none
theorem con_ok {h : Heap} {mg : Str → Option Value} {x : Str} {u : U} (hT : T.K = K) (X : K.In h) (G : h.Ns mainGlobals mg) (e : conAt K x = some u) : ∃ v val, mg x = some val ∧ RelV v val ∧ ∀ ρ Z H, Rep T ρ Z H v u := by
  unfold conAt at e
  split at e
  · rename_i val hv
    obtain ⟨v, q1, q2⟩ := constB_ok hT 4 val u e
    exact ⟨v, val, PySem.W.mg_of X G hv, q1, q2⟩
  · cases e
def blB (K : PySem.W.Frag) (l : List Str) : Bool := l.all fun x => decide (PySem.W.nsIn K mainGlobals x = some none)
theorem blB_ok {h : Heap} {mg : Str → Option Value} {l : List Str} (X : K.In h) (G : h.Ns mainGlobals mg) (e : blB K l = true) : ∀ x, x ∈ l → mg x = none := fun x hx =>
  PySem.W.mg_none_of X G (of_decide_eq_true (List.all_eq_true.mp e x hx))
/-- law's own: at most 63 ints, True -/
def spLaw (K : PySem.W.Frag) : Sp := fun vs H Q _ => ∃ (a : Addr) (ns : List Int), vs = [.ref a] ∧ SqL K H a (ns.map V.int) ∧ ns.length ≤ 63 ∧ ∀ H', Q (.bl true) H'
theorem spLaw_le {r : RunD} (hT : T.K = K) (hr : ∀ ns : List Int, ns.length ≤ 63 → r [.sc (ns.map .int)] [] = .ok (.bl true) []) (vs : List V) (H : Hp) (Q : VK) (E : XK) (q : spLaw K vs H Q E) : spD T 1 r vs H Q E := by
  obtain ⟨a, ns, rfl, hS, hl, k⟩ := q
  have rl : Rl T [] (fun _ => False) [] H := ⟨rfl, List.nodup_nil, (fun _ z => z.elim), (fun a h => by simp at h), (fun i a o h => by simp at h)⟩
  have hS' : SqS T.K (fun _ => False) H a (ns.map V.int) := by
    rw [hT]
    exact hS.imp (fun z => ⟨z, fun q => q⟩) id
  refine ⟨[.sc (ns.map .int)], [], [], fun _ => False, rl, .cons (.sc hS' (Reps.of_ints ns)) .nil, rfl, ?_⟩
  rw [hr ns hl]
  intro v H' ρ' Z' _ _ rv
  rw [rv.inv_bl]
  exact k H'
theorem cx_no {P : Program} {w : World} (H : Hp) (s : Shared) (e : Value) (s' : Shared) (h : L2.CX P w [] H s (fun _ _ _ => False) e s') : False := by
  obtain ⟨_, _, _, _, _, _, _, _, _, _, _, _, z⟩ := h
  exact z
theorem Le.c {r' r : RunD} (h : Le r' r) : LeC r' r := fun us G => (h us G).imp id .inl
end
end FL

/-! FL27: the facts of the exception classes, by checks. -/
namespace FL
open PySem L2 PyProof.Rows
section
variable {P : Program} {w : World} {K : PySem.W.Frag} {mg : Str → Option Value} {base : Heap} {T : Tb} {k j : Nat}
def excB (K : PySem.W.Frag) (D : Addr) : Bool :=
  decide (PySem.W.findIn K (.ref D) "__getattribute__" = some (some (.builtin "BaseException.__getattribute__"))) && decide (PySem.W.findIn K (.ref D) "__getattr__" = some none) &&
  decide (PySem.W.subIn K (.ref D) (.type "BaseException") = some true) && PySem.W.hasDictIn K D && decide (PySem.W.findIn K (.ref D) "__class__" = some (some (.builtin "object.__class__"))) &&
  decide (PySem.W.specialIn K (.builtin "object.__class__") "__get__" = some (some (.builtin "getset_descriptor.__get__"))) && decide (PySem.W.takesIn K (.builtin "object.__class__") = some true) && decide (PySem.W.mroIn K D (.type "object") = some true)
theorem excB_ok {D : Addr} (h : excB K D = true) : ExcC K D := by
  unfold excB at h
  simp only [Bool.and_eq_true, decide_eq_true_eq] at h
  obtain ⟨⟨⟨⟨⟨⟨⟨h1, h2⟩, h3⟩, h4⟩, h5⟩, h6⟩, h7⟩, h8⟩ := h
  exact ⟨h1, h2, h3, h4, h5, h6, h7, h8⟩
def xsB (K : PySem.W.Frag) (Cs : List Addr) (xs : List ((Nat × Nat) × Bool)) : Bool := xs.all fun p => match Cs[p.1.1]?, Cs[p.1.2]? with
  | some C, some C' => decide (PySem.W.exmOne K (.ref C) (.ref C') = some p.2)
  | _, _ => true
def xiB (K : PySem.W.Frag) (Cs : List Addr) (xi : List ((Nat × Nat) × Bool)) : Bool := xi.all fun p => match Cs[p.1.1]?, Cs[p.1.2]? with
  | some C, some C' => excB K C && decide (PySem.W.kitOne K (.ref C) (.ref C') = some p.2)
  | _, _ => true
theorem lookup_mem {α β : Type} [BEq α] [LawfulBEq α] : ∀ {l : List (α × β)} {a : α} {b : β}, l.lookup a = some b → (a, b) ∈ l
  | [], _, _, e => by cases e
  | (x, y) :: r, a, b, e => by
    rw [List.lookup_cons] at e
    by_cases z : a = x
    · subst z
      simp at e
      subst e
      exact .head _
    · have : (a == x) = false := by simpa using z
      rw [this] at e
      exact .tail _ (lookup_mem e)
theorem xsB_ok {xs : List ((Nat × Nat) × Bool)} (h : xsB K T.cls xs = true) : XsOk K T xs := fun c c' b C C' e hC hC' => by
  have := List.all_eq_true.mp h _ (lookup_mem e)
  simp only [hC, hC'] at this
  exact of_decide_eq_true this
theorem xiB_ok {xi : List ((Nat × Nat) × Bool)} (h : xiB K T.cls xi = true) : XiOk K T xi := fun c c' b C C' e hC hC' => by
  have := List.all_eq_true.mp h _ (lookup_mem e)
  simp only [hC, hC', Bool.and_eq_true] at this
  exact ⟨excB_ok this.1, of_decide_eq_true this.2⟩
theorem xs_nil : XsOk K T [] := fun _ _ _ _ _ e => nomatch e
theorem xi_nil : XiOk K T [] := fun _ _ _ _ _ e => nomatch e
/-- an exception class with a field: the facts of its text -/
def xcB (K : PySem.W.Frag) (C fI : Addr) (f : Str) : Bool :=
  xfB K C && decide (PySem.W.findIn K (.ref C) "__setattr__" = some (some (.builtin "object.__setattr__"))) && decide (PySem.W.subIn K (.ref C) (.type "BaseException") = some true) && decide (PySem.W.typeIn K (.ref C) = some (.type "type")) && PySem.W.keepIn K (.ref C) &&
  decide (PySem.W.findIn K (.ref C) "__init__" = some (some (.ref fI))) && decide (PySem.W.typeIn K (.ref fI) = some (.type "function")) && decide (PySem.W.findIn K (.ref C) f = some none)
theorem XcOk.mono {x : Str} {z : Nat × Option Nat} (h : XcOk P w K mg base T j x z) (hj : j ≤ k) : XcOk P w K mg base T k x z := by
  obtain ⟨h1, h2⟩ := h
  refine ⟨h1, ?_⟩
  cases e : z.2 with
  | none => rw [e] at h2; exact h2
  | some kf =>
    rw [e] at h2
    obtain ⟨⟨C, fI, fd, ps, f, a1, a2, a3, a4, a5, a6, a7, a8⟩, b⟩ := h2
    exact ⟨⟨C, fI, fd, ps, f, a1, a2, a3, a4, a5, a6, a7, a8.mono hj⟩, b⟩
theorem xc_init {x qual : Str} {st : Stmt} {fI C N : Addr} {fd : FuncData} {c kf : Nat} {sN vN fn nm q : Str} {bs bm sub : List Value} {sn : List Str} {ab : Bool} {col : Option Bool} {dd : Option Addr} {k0 k1 k2 k3 k5 : Option Value} {p1 p2 p3 p4 : Pos} (hc : T.cls[c]? = some C) (g : mg x = some (.ref C)) (hf : T.att[kf]? = some fn)
    (hl : K.lookup C = some (excClassObj nm q C N bs bm true sn sub ab col dd k0 k1 k2 k3 k5 "ValueError.__new__")) (hr : PySem.HandSPX.refsVE bm = true) (hB : xcB K C fI fn = true)
    (F : Fun K "__init__" qual st fI fd) (S : FnScope [sN, vN] [sN, vN] (defScope st)) (hb : defBody st = [.Assign [.Attribute (.Name sN p1) fn p2] (.Name vN p3) p4]) (h1 : okN sN = true) (h2 : okN vN = true)
    (hps : Binds K fd [sN, vN] []) : XcOk P w K mg base T 1 x (c, some kf) := by
  unfold xcB at hB
  simp only [Bool.and_eq_true, decide_eq_true_eq] at hB
  obtain ⟨⟨⟨⟨⟨⟨⟨h3, h4⟩, h5⟩, h6⟩, h7⟩, h8⟩, h9⟩, h10⟩ := hB
  have O : OexC K C := ⟨⟨_, _, _, _, _, _, _, _, _, _, _, _, _, _, _, hl, hr⟩, h4, h5, h6, h7⟩
  exact ⟨⟨C, hc, g⟩, ⟨⟨C, fI, fd, _, fn, hc, g, O, h8, h9, hps, hf, xinit_ok F S hb O h10 h1 h2⟩⟩, C, fn, hc, hf, xfB_ok h3, h10⟩
def xpB (K : PySem.W.Frag) (C : Addr) : Bool := PySem.W.excIn K C [.type "ValueError", .type "Exception", .type "BaseException", .type "object"] "ValueError.__new__" && PySem.W.keepIn K (.ref C) && decide (PySem.W.subIn K (.ref C) (.type "BaseException") = some true) && decide (PySem.W.typeIn K (.ref C) = some (.type "type"))
theorem xc_plain {x : Str} {C : Addr} {c : Nat} (hc : T.cls[c]? = some C) (g : mg x = some (.ref C)) (hB : xpB K C = true) : XcOk P w K mg base T k x (c, none) := by
  unfold xpB at hB
  simp only [Bool.and_eq_true, decide_eq_true_eq] at hB
  obtain ⟨⟨⟨h1, h2⟩, h3⟩, h4⟩ := hB
  exact ⟨⟨C, hc, g⟩, ⟨C, _, _, _, hc, g, PySem.F.excBase_ValueError, h1, h2, h3, h4⟩⟩
end
end FL
namespace FL
/-! ### suites, told by name -/
def fldX (c kf : Nat) : Exn → Option U := fun x => if x.cls = c then (match x.fs.lookup kf with | some u => if flatU u then some u else none | none => none) else none
def litX (u : U) : Exn → Option U := fun _ => some u
def nilX : Exn → Option (List U) := fun _ => some []
def consX (m : Exn → Option U) (ms : Exn → Option (List U)) : Exn → Option (List U) := fun x => match m x, ms x with
  | some u, some us => some (u :: us)
  | _, _ => none
def lstX (ms : Exn → Option (List U)) : Exn → Option U := fun x => (ms x).bind fun us => if us.length ≤ szL then some (.lst us) else none
def setX (j : Nat) (m : Exn → Option U) : Exn → MS := fun ex s G => match m ex with
  | some u => .nx (s.set j (some u)) G
  | none => .bad
def setIX (c : Nat) (i : Option Nat) (j : Nat) (m : Exn → Option U) : Exn → MS := fun ex s G => match m ex with
  | some u => if ex.cls = c ∧ ex.fs ≠ [] ∧ i ≠ some j then .nx (s.set j (some u)) G else .bad
  | none => .bad
def retX (m : Exn → Option U) : Exn → MS := fun ex s G => match m ex with
  | some u => .rt u G
  | none => .bad
def raise0M (c : Nat) : MS := fun s G => .exc ⟨c, []⟩ s G
end FL

/-! FL28: the laws' own comparison, once for all of them. -/
namespace FL
open PySem L2 PyProof.Rows
def allO : List (Option Bool) → Option Bool
  | [] => some true
  | some b :: r => (allO r).map (b && ·)
  | none :: _ => none
theorem allO_some : ∀ {l : List (Option Bool)} {b : Bool}, allO l = some b → ∃ bs : List Bool, l = bs.map some ∧ (bs.all fun b => b) = b
  | [], b, h => by cases h; exact ⟨[], rfl, rfl⟩
  | some a :: r, b, h => by
    unfold allO at h
    cases e : allO r with
    | none => rw [e] at h; cases h
    | some c =>
      rw [e] at h
      cases h
      obtain ⟨bs, rfl, rfl⟩ := allO_some e
      exact ⟨a :: bs, rfl, rfl⟩
  | none :: r, b, h => by cases h
def kindU : U → Nat
  | .non => 0
  | .bl _ => 1
  | .int _ => 2
  | .str _ => 3
  | .tup _ => 4
  | .lst _ => 5
  | _ => 6
def eqQ (f : U → U → Option Bool) (xs ys : List U) : Option Bool := if xs.length ≤ szL ∧ ys.length ≤ szL then (if xs.length = ys.length then allO (List.zipWith f xs ys) else some false) else none
def eqS (f : U → U → Option Bool) (u v : U) : Option Bool := match u, v with
  | .non, .non => some true
  | .bl a, .bl b => some (a == b)
  | .int a, .int b => some (a == b)
  | .str a, .str b => if okC a && okC b then some (a == b) else none
  | .tup xs, .tup ys => eqQ f xs ys
  | .lst xs, .lst ys => eqQ f xs ys
  | u, v => if kindU u < 6 ∧ kindU v < 6 ∧ kindU u ≠ kindU v then some false else none
/-- equal, at most so deep -/
def eqN : Nat → U → U → Option Bool
  | 0 => eqS fun _ _ => none
  | n + 1 => eqS (eqN n)
abbrev eqA (et : Nat → Option RunD) : ME := andM (isiM [0] (.inl .int) (varM 0)) (andM (notM (isiM [0] (.inl .bl) (varM 0))) (bin2 (eqX false et) (varM 0) (varM 1)))
abbrev mEq (et : Nat → Option RunD) (dd : MS) (c : ME) : MS := (seqM (ifM (tobM (bin2 (isU false) (varM 1) (litM .non))) (stE (bin2 (isU false) (varM 0) (litM .non)) rtM) nxM) (seqM (ifM (tobM (isiM [0] (.inl .bl) (varM 1))) (stE (andM (isiM [0] (.inl .bl) (varM 0)) (bin2 (eqX false et) (varM 0) (varM 1))) rtM) nxM) (seqM (ifM (tobM (isiM [0] (.inl .int) (varM 1))) (stE (eqA et) rtM) nxM) (seqM (ifM (tobM (isiM [0] (.inl .str) (varM 1))) (stE (andM (isiM [0] (.inl .str) (varM 0)) (bin2 (eqX false et) (varM 0) (varM 1))) rtM) nxM) (seqM (ifM (tobM (isiM [0] (.inl .dct) (varM 1))) dd nxM) (seqM (ifM (tobM (bin2 (eqX true et) (isiM [0] (.inl .tup) (varM 1)) (isiM [0] (.inl .tup) (varM 0)))) (stE (litM (.bl false)) rtM) nxM) (seqM (ifM (tobM (bin2 (eqX true et) (isiM [0] (.inl .lst) (varM 1)) (isiM [0] (.inl .lst) (varM 0)))) (stE (litM (.bl false)) rtM) nxM) (seqM (ifM (tobM (bin2 (eqX true et) (preM lenU (consA (varM 0) nilA)) (preM lenU (consA (varM 1) nilA)))) (stE (litM (.bl false)) rtM) nxM) (stE (preM allU (consA (compM false (preI rng1U (consA (preM lenU (consA (varM 1) nilA)) nilA)) (nameG 2) yesT c [2]) nilA)) rtM)))))))))
section
variable {et : Nat → Option RunD} {G : List Ob}
theorem pre_one {f : RunD} {m : ME} {s : Sg} {G G1 : List Ob} {u : U} (hm : m s G = .ok u G1) : preM f (consA m nilA) s G = f [u] G1 := by
  unfold preM
  rw [consA_ok hm rfl]
  rfl
theorem pre_oneI {f : List U → List Ob → Rs (Itb × Nat)} {m : ME} {s : Sg} {G G1 : List Ob} {u : U} (hm : m s G = .ok u G1) : preI f (consA m nilA) s G = f [u] G1 := by
  unfold preI
  rw [consA_ok hm rfl]
  simp only [bind_ok]
theorem rng_items {n : Nat} {G : List Ob} (h : n ≤ szL) : rng1U [.int (n : Nat)] G = .ok (.items (rangeL 0 1 n), (rangeL 0 1 n).length) G := by
  have h1 : -(2 ^ 62 : Int) ≤ (n : Int) ∧ (n : Int) < 2 ^ 62 := by unfold szL at h; omega
  have hl : (rangeL 0 1 n).length = n := by simp [rangeL]
  rw [hl]
  simp only [rng1U]
  rw [if_pos h1, Int.toNat_natCast]
theorem eqX_bl {neg : Bool} {a b : Bool} : eqX neg et (.bl a) (.bl b) G = .ok (.bl (if neg then !(a == b) else (a == b))) G := by
  rw [eqX_pd (x := .bl a) (y := .bl b) rfl rfl]
  cases a <;> cases b <;> rfl
theorem eq_comp {c : ME} {f : U → U → Option Bool} {u v : U} {xs ys : List U} {bs : List Bool} (l2 : preM lenU (consA (varM 1) nilA) [some u, some v, none, none] G = .ok (.int ys.length) G)
    (hc : ∀ k x y b, xs[k]? = some x → ys[k]? = some y → f x y = some b → c [some u, some v, some (.int (k : Nat)), none] G = .ok (.bl b) G) (hz : ys.length ≤ szL) (hl : xs.length = ys.length) (eb : List.zipWith f xs ys = bs.map some) :
    compM false (preI rng1U (consA (preM lenU (consA (varM 1) nilA)) nilA)) (nameG 2) yesT c [2] [some u, some v, none, none] G = .ok (.lst (bs.map .bl)) G := by
  have hlb : bs.length = ys.length := by
    have := congrArg List.length eb
    simp [hl] at this
    exact this.symm
  have hget : ∀ k, k < ys.length → ∃ x y b, xs[k]? = some x ∧ ys[k]? = some y ∧ bs[k]? = some b ∧ f x y = some b := fun k hk => by
    have hk1 : k < xs.length := by omega
    have hk2 : k < bs.length := by omega
    refine ⟨xs[k], ys[k], bs[k], List.getElem?_eq_getElem hk1, List.getElem?_eq_getElem hk, List.getElem?_eq_getElem hk2, ?_⟩
    have := congrArg (fun l : List (Option Bool) => l[k]?) eb
    simp [List.getElem?_zipWith, List.getElem?_eq_getElem hk1, List.getElem?_eq_getElem hk, List.getElem?_eq_getElem hk2] at this
    exact this
  have hit : preI rng1U (consA (preM lenU (consA (varM 1) nilA)) nilA) [some u, some v, none, none] G = .ok (.items (rangeL 0 1 ys.length), (rangeL 0 1 ys.length).length) G := by
    have q : preI rng1U (consA (preM lenU (consA (varM 1) nilA)) nilA) [some u, some v, none, none] G = rng1U [.int ys.length] G := by
      exact pre_oneI l2
    rw [q]
    exact rng_items hz
  have hcomp := comp_items (mu := false) (g := nameG 2) (t := yesT) (e := c) (own := [2]) (s := [some u, some v, none, none]) (h := fun z => match z with | .int k => .bl (bs.getD k.toNat false) | z => z) hit fun z hz => by
    unfold rangeL at hz
    rw [List.mem_map] at hz
    obtain ⟨k, hk, rfl⟩ := hz
    rw [List.mem_range] at hk
    obtain ⟨x, y, b, g1, g2, g3, g4⟩ := hget k hk
    refine ⟨[some u, some v, some (.int (0 + (k : Nat) * 1)), none], rfl, rfl, ?_⟩
    have e : (0 + (k : Nat) * 1 : Int) = (k : Nat) := by omega
    rw [e]
    have hb := hc k x y b g1 g2 g4
    simpa [List.getD, g3] using hb
  have hmap : (rangeL 0 1 ys.length).map (fun z => match z with | .int k => U.bl (bs.getD k.toNat false) | z => z) = bs.map U.bl := by
    unfold rangeL
    rw [List.map_map]
    refine List.ext_getElem? fun k => ?_
    by_cases hk : k < ys.length
    · have hk2 : k < bs.length := by omega
      simp [hk, List.getD, List.getElem?_eq_getElem hk2]
    · simp [List.getElem?_eq_none_iff.mpr (show bs.length ≤ k by omega)]
      omega
  rw [hmap] at hcomp
  refine hcomp.trans (newL_f ?_)
  rw [List.length_map, hlb]
  exact hz
theorem eq_seq {dd : MS} {c : ME} {f : U → U → Option Bool} {u v : U} {xs ys : List U} {b : Bool} (hu : (u = .tup xs ∧ v = .tup ys) ∨ (u = .lst xs ∧ v = .lst ys))
    (hc : ∀ k x y b, xs[k]? = some x → ys[k]? = some y → f x y = some b → c [some u, some v, some (.int (k : Nat)), none] G = .ok (.bl b) G) (h : eqQ f xs ys = some b) : mEq et dd c [some u, some v, none, none] G = .rt (.bl b) G := by
  unfold eqQ at h
  by_cases hz : xs.length ≤ szL ∧ ys.length ≤ szL
  rotate_left
  · rw [if_neg hz] at h; cases h
  rw [if_pos hz] at h
  obtain ⟨hz1, hz2⟩ := hz
  have l1 : preM lenU (consA (varM 0) nilA) [some u, some v, none, none] G = .ok (.int xs.length) G := by
    rcases hu with ⟨rfl, rfl⟩ | ⟨rfl, rfl⟩ <;> simp [preM, consA, nilA, varM, lenU, seqOf, lstOf]
  have l2 : preM lenU (consA (varM 1) nilA) [some u, some v, none, none] G = .ok (.int ys.length) G := by
    rcases hu with ⟨rfl, rfl⟩ | ⟨rfl, rfl⟩ <;> simp [preM, consA, nilA, varM, lenU, seqOf, lstOf]
  have s1 : tobM (bin2 (isU false) (varM 1) (litM .non)) [some u, some v, none, none] G = .ok false G := by
    rcases hu with ⟨rfl, rfl⟩ | ⟨rfl, rfl⟩ <;> simp [tobM, bin2, varM, litM, isU, isNonU, blU]
  have s2 : tobM (isiM [0] (.inl .bl) (varM 1)) [some u, some v, none, none] G = .ok false G := by
    rcases hu with ⟨rfl, rfl⟩ | ⟨rfl, rfl⟩ <;> simp [tobM, isiM, varM, tyOf, Ty.sub, blU]
  have s3 : tobM (isiM [0] (.inl .int) (varM 1)) [some u, some v, none, none] G = .ok false G := by
    rcases hu with ⟨rfl, rfl⟩ | ⟨rfl, rfl⟩ <;> simp [tobM, isiM, varM, tyOf, Ty.sub, blU]
  have s4 : tobM (isiM [0] (.inl .str) (varM 1)) [some u, some v, none, none] G = .ok false G := by
    rcases hu with ⟨rfl, rfl⟩ | ⟨rfl, rfl⟩ <;> simp [tobM, isiM, varM, tyOf, Ty.sub, blU]
  have s5 : tobM (isiM [0] (.inl .dct) (varM 1)) [some u, some v, none, none] G = .ok false G := by
    rcases hu with ⟨rfl, rfl⟩ | ⟨rfl, rfl⟩ <;> simp [tobM, isiM, varM, tyOf, Ty.sub, blU]
  have s6 : tobM (bin2 (eqX true et) (isiM [0] (.inl .tup) (varM 1)) (isiM [0] (.inl .tup) (varM 0))) [some u, some v, none, none] G = .ok false G := by
    rcases hu with ⟨rfl, rfl⟩ | ⟨rfl, rfl⟩ <;> simp [tobM, bin2, isiM, varM, tyOf, Ty.sub, blU, eqX_bl]
  have s7 : tobM (bin2 (eqX true et) (isiM [0] (.inl .lst) (varM 1)) (isiM [0] (.inl .lst) (varM 0))) [some u, some v, none, none] G = .ok false G := by
    rcases hu with ⟨rfl, rfl⟩ | ⟨rfl, rfl⟩ <;> simp [tobM, bin2, isiM, varM, tyOf, Ty.sub, blU, eqX_bl]
  have s8 := tob_int (neg := true) (et := et) l1 l2
  refine (seqM_if s1).trans ((seqM_if s2).trans ((seqM_if s3).trans ((seqM_if s4).trans ((seqM_if s5).trans ((seqM_if s6).trans ((seqM_if s7).trans ?_))))))
  split at h
  · rename_i hl
    have e8 : (if true = true then !((xs.length : Int) == (ys.length : Int)) else ((xs.length : Int) == (ys.length : Int))) = false := by simp [hl]
    rw [e8] at s8
    refine (seqM_if s8).trans ?_
    obtain ⟨bs, eb, rfl⟩ := allO_some h
    have hcomp := eq_comp l2 hc hz2 hl eb
    refine stE_rt ((pre_one hcomp).trans ?_)
    simp [allU, lstOf]
  · rename_i hl
    cases h
    have e8 : (if true = true then !((xs.length : Int) == (ys.length : Int)) else ((xs.length : Int) == (ys.length : Int))) = true := by simp [hl]; omega
    rw [e8] at s8
    exact seqM_ift s8 rfl
theorem eq_body {dd : MS} {c : ME} {f : U → U → Option Bool} {u v : U} {b : Bool}
    (hc : ∀ xs ys k x y b, (u = .tup xs ∧ v = .tup ys) ∨ (u = .lst xs ∧ v = .lst ys) → xs[k]? = some x → ys[k]? = some y → f x y = some b → c [some u, some v, some (.int (k : Nat)), none] G = .ok (.bl b) G) (h : eqS f u v = some b) : mEq et dd c [some u, some v, none, none] G = .rt (.bl b) G := by
  unfold eqS at h
  split at h
  · cases h; simp [seqM, ifM, stE, tobM, bin2, varM, litM, isU, isNonU, blU, rtM]
  · cases h
    refine (seqM_if (by simp [tobM, bin2, varM, litM, isU, isNonU, blU]; rfl)).trans (seqM_ift (G1 := G) (by simp [tobM, isiM, varM, tyOf, Ty.sub, blU]) (stE_rt ?_))
    simp [andM, isiM, varM, tyOf, Ty.sub, bin2, eqX_bl]
  · cases h
    refine (seqM_if (by simp [tobM, bin2, varM, litM, isU, isNonU, blU]; rfl)).trans ((seqM_if (by simp [tobM, isiM, varM, tyOf, Ty.sub, blU]; rfl)).trans (seqM_ift (G1 := G) (by simp [tobM, isiM, varM, tyOf, Ty.sub, blU]) (stE_rt ?_)))
    simp [andM, notM, isiM, varM, tyOf, Ty.sub, bin2, eqX_int]
  · rename_i x y
    split at h
    · rename_i ok
      rw [Bool.and_eq_true] at ok
      cases h
      refine (seqM_if (by simp [tobM, bin2, varM, litM, isU, isNonU, blU]; rfl)).trans ((seqM_if (by simp [tobM, isiM, varM, tyOf, Ty.sub, blU]; rfl)).trans ((seqM_if (by simp [tobM, isiM, varM, tyOf, Ty.sub, blU]; rfl)).trans (seqM_ift (G1 := G) (by simp [tobM, isiM, varM, tyOf, Ty.sub, blU]) (stE_rt ?_))))
      simp [andM, isiM, varM, tyOf, Ty.sub, bin2, eqX_str ok.1 ok.2]
    · cases h
  · exact eq_seq (.inl ⟨rfl, rfl⟩) (fun k x y b => hc _ _ k x y b (.inl ⟨rfl, rfl⟩)) h
  · exact eq_seq (.inr ⟨rfl, rfl⟩) (fun k x y b => hc _ _ k x y b (.inr ⟨rfl, rfl⟩)) h
  · split at h
    · rename_i hk
      cases h
      obtain ⟨k1, k2, k3⟩ := hk
      cases v with
      | non => cases u <;> first | (simp [kindU] at k1 k3; done) | simp [seqM, ifM, stE, tobM, bin2, varM, litM, isU, isNonU, blU, rtM]
      | bl b => cases u <;> first | (simp [kindU] at k1 k3; done) | simp [seqM, ifM, stE, tobM, bin2, varM, litM, isU, isNonU, blU, rtM, isiM, tyOf, Ty.sub, andM, nxM]
      | int b => cases u <;> first | (simp [kindU] at k1 k3; done) | simp [seqM, ifM, stE, tobM, bin2, varM, litM, isU, isNonU, blU, rtM, isiM, tyOf, Ty.sub, andM, notM, nxM]
      | str b => cases u <;> first | (simp [kindU] at k1 k3; done) | simp [seqM, ifM, stE, tobM, bin2, varM, litM, isU, isNonU, blU, rtM, isiM, tyOf, Ty.sub, andM, nxM]
      | tup b => cases u <;> first | (simp [kindU] at k1 k3; done) | simp [seqM, ifM, stE, tobM, bin2, varM, litM, isU, isNonU, blU, rtM, isiM, tyOf, Ty.sub, nxM, eqX_bl]
      | lst b => cases u <;> first | (simp [kindU] at k1 k3; done) | simp [seqM, ifM, stE, tobM, bin2, varM, litM, isU, isNonU, blU, rtM, isiM, tyOf, Ty.sub, nxM, eqX_bl]
      | _ => simp [kindU] at k2
    · cases h
/-- one answers as the comparison does, to the depth n -/
def r_eq (n : Nat) : RunD := fun us G => match us with
  | [u, v] => (match eqN n u v with
    | some b => .ok (.bl b) G
    | none => .bad)
  | _ => .bad
theorem eq_zero {dd : MS} {c : ME} {u v : U} {b : Bool} (h : eqN 0 u v = some b) : mEq et dd c [some u, some v, none, none] G = .rt (.bl b) G :=
  eq_body (f := fun _ _ => none) (fun _ _ _ _ _ _ _ _ _ z => nomatch z) h
theorem eq_succ {dd : MS} {n : Nat} {u v : U} {b : Bool} (h : eqN (n + 1) u v = some b) : mEq et dd (callM 2 (r_eq n) (consA (bin2 idxU (varM 0) (varM 2)) (consA (bin2 idxU (varM 1) (varM 2)) nilA))) [some u, some v, none, none] G = .rt (.bl b) G :=
  eq_body (f := eqN n) (fun xs ys k x y b hu h1 h2 hf => by
    have i1 : bin2 idxU (varM 0) (varM 2) [some u, some v, some (.int (k : Nat)), none] G = .ok x G := by
      rw [bin2_p (var_ok rfl) (var_ok (u := .int (k : Nat)) rfl)]
      rcases hu with ⟨rfl, rfl⟩ | ⟨rfl, rfl⟩ <;> simp [idxU, seqOf, lstOf, atI_nat h1]
    have i2 : bin2 idxU (varM 1) (varM 2) [some u, some v, some (.int (k : Nat)), none] G = .ok y G := by
      rw [bin2_p (var_ok rfl) (var_ok (u := .int (k : Nat)) rfl)]
      rcases hu with ⟨rfl, rfl⟩ | ⟨rfl, rfl⟩ <;> simp [idxU, seqOf, lstOf, atI_nat h2]
    unfold callM
    rw [consA_p i1 (consA_p i2 rfl)]
    simp [arM, r_eq, hf]) h
end
end FL

/-! SC1: the scan of a text by a stepper, plain. -/
namespace FL
abbrev W1 := List Nat
/-- the drawn values; a stepper -/
structure Dr where
  w : W1
  p : W1
  k : W1
  t : W1
  zs : List W1
  n : Int
  deriving DecidableEq
abbrev It1 := Nat × Option Nat
def wRep : W1 := [114, 101, 112, 108, 97, 99, 101]
def wKeep : W1 := [107, 101, 101, 112]
def wStop : W1 := [115, 116, 111, 112]
def wOne : W1 := [111, 110, 101]
def wLast : W1 := [108, 97, 115, 116]
def wBehind : W1 := [98, 101, 104, 105, 110, 100]
/-- the first place of the word -/
def placeO (w : W1) : List It1 → Option Nat
  | [] => if w = [] then some 0 else none
  | x :: r => if w.isPrefixOf (x.1 :: r.map (·.1)) then some 0 else (placeO w r).map (· + 1)
/-- how long an end of the items is that begins the word -/
def beginO (w : W1) (l : List It1) : Nat → Nat
  | 0 => 0
  | n + 1 => if (l.drop (l.length - (n + 1))).map (·.1) = w.take (n + 1) then n + 1 else beginO w l n
abbrev Seen := List ((Nat × W1) × Nat × Nat)
structure Sc where
  pend : List It1
  cur : Nat
  stop : Bool
  wr : List It1
  many : Nat
  met : List (W1 × Nat × List It1)
  endl : Bool
  deriving DecidableEq
def writeP (l : List It1) (x : Sc) : Sc := { x with wr := x.wr ++ l, many := x.many + l.length }
def leaveP (m : Nat) (x : Sc) : Sc := { writeP (x.pend.take m) x with pend := x.pend.drop m }
def turnP (s : Dr) (m : Nat) : Nat := if s.t = wBehind then m else if s.t = wLast then m - 1 else 0
def touchP (left : Nat) (sn : Seen) : Seen := sn.filter fun e => decide (e.2.1 ≤ left)
def windP (at_ : Nat) (l : List It1) : Nat × W1 := (at_, (l.take 12).map (·.1))
def againB (at_ : Nat) (l : List It1) (sn : Seen) : Bool := sn.any fun e => e.1 == windP at_ l && decide (e.2.2 ≤ l.length)
def againS (at_ : Nat) (l : List It1) (sn : Seen) : Seen := if againB at_ l sn then sn else sn ++ [(windP at_ l, l.length - 12, l.length)]
/-- a hit is noted; the next deed -/
def noteP (s : Dr) (pl : Nat) (x : Sc) : Sc := { x with met := x.met ++ [(s.zs.getD x.cur [], x.many + pl, (x.pend.drop pl).take s.w.length)], cur := (x.cur + 1) % s.zs.length }
def keepP (s : Dr) (pl : Nat) (x : Sc) : Sc := leaveP (pl + (if s.k = wOne then 1 else s.w.length)) x
def replP (s : Dr) (pl : Nat) (x : Sc) : Sc := leaveP (pl + turnP s s.p.length) { x with pend := x.pend.take pl ++ s.p.map (fun c => (c, none)) ++ x.pend.drop (pl + s.w.length) }
def meetP (s : Dr) (pl : Nat) (x : Sc) (sn : Seen) : Sc × Seen :=
  let sn1 := touchP (x.pend.length - pl - s.w.length) sn
  if s.zs.getD x.cur [] = wStop then ({ noteP s pl x with stop := true, cur := 0 }, sn1)
  else if s.zs.getD x.cur [] = wKeep then (keepP s pl (noteP s pl x), sn1)
  else let y := replP s pl (noteP s pl x)
    ({ y with endl := againB y.cur y.pend sn1 }, againS y.cur y.pend sn1)
def loopP (s : Dr) : Nat → Sc → Seen → Option Sc
  | 0, _, _ => none
  | f + 1, x, sn => match placeO s.w x.pend with
    | none => some x
    | some pl => if x.stop || x.endl then some x else loopP s f (meetP s pl x sn).1 (meetP s pl x sn).2
def afterP (s : Dr) (x : Sc) : Sc := if x.stop then { writeP x.pend x with pend := [] } else leaveP (x.pend.length - beginO s.w x.pend (min (s.w.length - 1) x.pend.length)) x
def feedP (s : Dr) (f : Nat) (i : It1) (x : Sc) : Option Sc :=
  if x.stop then some (writeP [i] { x with wr := [] })
  else (loopP s f { x with wr := [], pend := x.pend ++ [i] } []).map (afterP s)
def restP (x : Sc) : Sc := leaveP x.pend.length { x with wr := [] }
def sc0 : Sc := ⟨[], 0, false, [], 0, [], false⟩
/-- a pass: what is found, the hits; none: endless -/
def goP (s : Dr) (f : Nat) : List It1 → Sc → List It1 → Option (Option (List It1 × Sc))
  | [], x, fd => some (some (fd ++ (restP x).wr, restP x))
  | i :: r, x, fd => match feedP s f i x with
    | none => none
    | some y => if y.endl then some none else goP s f r y (fd ++ y.wr)
def words7 : List W1 := [[97], [97, 98], [97, 97], [97, 98, 97], [97, 97, 98], [97, 98, 99], [98, 97]]
def puts12 : List W1 := [[], [97], [98], [97, 98], [98, 97], [97, 97], [97, 98, 97], [98, 97, 98], [97, 97, 98], [99], [97, 97, 97], [98, 98]]
def keepsL : List W1 := [[111, 110, 101], [97, 108, 108]]
def turnsL : List W1 := [[102, 105, 114, 115, 116], [108, 97, 115, 116], [98, 101, 104, 105, 110, 100]]
def ds1 : List (List W1) := [[wRep], [wKeep], [wStop]]
def ds2 : List (List W1) := ds1.flatMap fun a => [wRep :: a, wKeep :: a, wStop :: a]
def ds3 : List (List W1) := ds2.flatMap fun a => [wRep :: a, wKeep :: a, wStop :: a]
def allDs : List (List W1) := ds1 ++ ds2 ++ ds3
def endsB (w p k t : W1) (zs : List W1) : Bool := (List.range zs.length).all fun a => (loopP ⟨w, p, k, t, zs, 1⟩ 100 ⟨w.map (·, none), a, false, [], 0, [], false⟩ []).isSome
def endsW (w : W1) : Bool := puts12.all fun p => keepsL.all fun k => turnsL.all fun t => allDs.all fun zs => endsB w p k t zs
def sgn (l : List It1) : W1 := l.map (·.1)
theorem sgn_len {l : List It1} : (sgn l).length = l.length := by simp [sgn]
theorem sgn_take {l : List It1} {n : Nat} : sgn (l.take n) = (sgn l).take n := by simp [sgn, List.map_take]
theorem sgn_drop {l : List It1} {n : Nat} : sgn (l.drop n) = (sgn l).drop n := by simp [sgn, List.map_drop]
theorem sgn_app {l m : List It1} : sgn (l ++ m) = sgn l ++ sgn m := by simp [sgn]
/-! ### what is done hangs on the signs alone -/
structure CS (x y : Sc) : Prop where
  pend : sgn x.pend = sgn y.pend
  cur : x.cur = y.cur
  stop : x.stop = y.stop
  endl : x.endl = y.endl
/-- .. and what is told of it -/
structure FS (x y : Sc) : Prop extends CS x y where
  wr : sgn x.wr = sgn y.wr
  many : x.many = y.many
  met : x.met.map (fun m => (m.1, m.2.1)) = y.met.map fun m => (m.1, m.2.1)
theorem CS.len {x y : Sc} (h : CS x y) : x.pend.length = y.pend.length := by rw [← sgn_len, ← sgn_len, h.pend]
theorem place_sgn {w : W1} : ∀ {l m : List It1}, sgn l = sgn m → placeO w l = placeO w m
  | [], [], _ => rfl
  | [], _ :: _, h => by simp [sgn] at h
  | _ :: _, [], h => by simp [sgn] at h
  | a :: l, b :: m, h => by
    simp only [sgn, List.map_cons, List.cons.injEq] at h
    unfold placeO
    rw [h.1, h.2, place_sgn (l := l) (m := m) h.2]
theorem begin_sgn {w : W1} {l m : List It1} (h : sgn l = sgn m) : ∀ n, beginO w l n = beginO w m n
  | 0 => rfl
  | n + 1 => by
    unfold beginO
    have hl : l.length = m.length := by rw [← sgn_len, ← sgn_len, h]
    have : (l.drop (l.length - (n + 1))).map (·.1) = (m.drop (m.length - (n + 1))).map (·.1) := by
      rw [hl]
      show sgn _ = sgn _
      rw [sgn_drop, sgn_drop, h]
    rw [this, begin_sgn h n]
theorem leave_cs {x y : Sc} {m : Nat} (h : CS x y) : CS (leaveP m x) (leaveP m y) where
  pend := by simp only [leaveP]; rw [sgn_drop, sgn_drop, h.pend]
  cur := h.cur
  stop := h.stop
  endl := h.endl
theorem leave_fs {x y : Sc} {m : Nat} (h : FS x y) : FS (leaveP m x) (leaveP m y) where
  toCS := leave_cs h.toCS
  wr := by simp only [leaveP, writeP]; rw [sgn_app, sgn_app, sgn_take, sgn_take, h.pend, h.wr]
  many := by simp only [leaveP, writeP, List.length_take, h.many, h.toCS.len]
  met := h.met
theorem again_sgn {a : Nat} {l m : List It1} {sn : Seen} (h : sgn l = sgn m) : againB a l sn = againB a m sn ∧ againS a l sn = againS a m sn := by
  have hl : l.length = m.length := by rw [← sgn_len, ← sgn_len, h]
  have hw : windP a l = windP a m := by
    unfold windP
    have : (l.take 12).map (·.1) = (m.take 12).map (·.1) := by
      show sgn _ = sgn _
      rw [sgn_take, sgn_take, h]
    rw [this]
  have hb : againB a l sn = againB a m sn := by unfold againB; rw [hw, hl]
  exact ⟨hb, by unfold againS; rw [hb, hw, hl]⟩
theorem note_cs {s : Dr} {pl : Nat} {x y : Sc} (h : CS x y) : CS (noteP s pl x) (noteP s pl y) := ⟨h.pend, by simp only [noteP, h.cur], h.stop, h.endl⟩
theorem note_fs {s : Dr} {pl : Nat} {x y : Sc} (h : FS x y) : FS (noteP s pl x) (noteP s pl y) where
  toCS := note_cs h.toCS
  wr := h.wr
  many := h.many
  met := by simp only [noteP, List.map_append, h.met, List.map_cons, List.map_nil, h.cur, h.many]
theorem repl_cs {s : Dr} {pl : Nat} {x y : Sc} (h : CS x y) : CS (replP s pl x) (replP s pl y) := by
  refine leave_cs ⟨?_, h.cur, h.stop, h.endl⟩
  simp only [sgn_app, sgn_take, sgn_drop, h.pend]
theorem repl_fs {s : Dr} {pl : Nat} {x y : Sc} (h : FS x y) : FS (replP s pl x) (replP s pl y) := by
  refine leave_fs ⟨⟨?_, h.cur, h.stop, h.endl⟩, h.wr, h.many, h.met⟩
  simp only [sgn_app, sgn_take, sgn_drop, h.pend]
theorem meet_cs {s : Dr} {pl : Nat} {x y : Sc} {sn : Seen} (h : CS x y) : CS (meetP s pl x sn).1 (meetP s pl y sn).1 ∧ (meetP s pl x sn).2 = (meetP s pl y sn).2 := by
  unfold meetP
  simp only [h.cur, h.len]
  have hn := note_cs (s := s) (pl := pl) h
  split
  · exact ⟨⟨hn.pend, rfl, rfl, hn.endl⟩, rfl⟩
  · split
    · exact ⟨leave_cs hn, rfl⟩
    · have hr := repl_cs (s := s) (pl := pl) hn
      have ha := fun sn => again_sgn (a := (replP s pl (noteP s pl y)).cur) (sn := sn) hr.pend
      simp only [hr.cur]
      exact ⟨⟨hr.pend, rfl, hr.stop, (ha _).1⟩, (ha _).2⟩
theorem meet_fs {s : Dr} {pl : Nat} {x y : Sc} {sn : Seen} (h : FS x y) : FS (meetP s pl x sn).1 (meetP s pl y sn).1 := by
  refine ⟨(meet_cs h.toCS).1, ?_, ?_, ?_⟩ <;> (unfold meetP; simp only [h.cur, h.toCS.len]; have hn := note_fs (s := s) (pl := pl) h; split)
  · exact hn.wr
  · split
    · exact (leave_fs hn).wr
    · exact (repl_fs (s := s) (pl := pl) hn).wr
  · exact hn.many
  · split
    · exact (leave_fs hn).many
    · exact (repl_fs (s := s) (pl := pl) hn).many
  · exact hn.met
  · split
    · exact (leave_fs hn).met
    · exact (repl_fs (s := s) (pl := pl) hn).met
theorem loop_cs {s : Dr} : ∀ (f : Nat) {x y : Sc} {sn : Seen}, CS x y → (loopP s f x sn = none ↔ loopP s f y sn = none) ∧ ∀ x' y', loopP s f x sn = some x' → loopP s f y sn = some y' → CS x' y'
  | 0, x, y, sn, h => ⟨Iff.rfl, fun _ _ e => nomatch e⟩
  | f + 1, x, y, sn, h => by
    unfold loopP
    rw [place_sgn h.pend, h.stop, h.endl]
    cases placeO s.w y.pend with
    | none => exact ⟨by simp, fun x' y' e1 e2 => by cases e1; cases e2; exact h⟩
    | some pl =>
      by_cases z : (y.stop || y.endl) = true
      · simp only [z, if_true]
        exact ⟨by simp, fun x' y' e1 e2 => by cases e1; cases e2; exact h⟩
      · simp only [if_neg z]
        obtain ⟨h1, h2⟩ := meet_cs (s := s) (pl := pl) (sn := sn) h
        rw [h2]
        exact loop_cs f h1
theorem loop_fs {s : Dr} : ∀ (f : Nat) {x y : Sc} {sn : Seen}, FS x y → ∀ x' y', loopP s f x sn = some x' → loopP s f y sn = some y' → FS x' y'
  | 0, x, y, sn, h, _, _, e, _ => nomatch e
  | f + 1, x, y, sn, h, x', y', e1, e2 => by
    unfold loopP at e1 e2
    rw [place_sgn h.pend, h.stop, h.endl] at e1
    cases e : placeO s.w y.pend with
    | none => rw [e] at e1 e2; cases e1; cases e2; exact h
    | some pl =>
      rw [e] at e1 e2
      by_cases z : (y.stop || y.endl) = true
      · simp only [z, if_true] at e1 e2; cases e1; cases e2; exact h
      · simp only [if_neg z] at e1 e2
        have h2 := (meet_cs (s := s) (pl := pl) (sn := sn) h.toCS).2
        rw [h2] at e1
        exact loop_fs f (meet_fs h) _ _ e1 e2
theorem loop_more {s : Dr} : ∀ {f : Nat} {x y : Sc} {sn : Seen}, loopP s f x sn = some y → ∀ k, loopP s (f + k) x sn = some y
  | 0, _, _, _, e, _ => nomatch e
  | f + 1, x, y, sn, e, k => by
    rw [show f + 1 + k = f + k + 1 by omega]
    unfold loopP at e ⊢
    cases e2 : placeO s.w x.pend with
    | none => rw [e2] at e; exact e
    | some pl =>
      rw [e2] at e
      by_cases z : (x.stop || x.endl) = true
      · simp only [z, if_true] at e ⊢; exact e
      · simp only [if_neg z] at e ⊢
        exact loop_more e k
end FL

/-! SC2: a stepper's scan ends or is found endless; passes beside one another. -/
namespace FL
/-- a stepper whose inner loops end -/
def Ends (s : Dr) : Prop := ∀ a, a < s.zs.length → (loopP s 100 ⟨s.w.map (·, none), a, false, [], 0, [], false⟩ []) ≠ none
structure ScI (s : Dr) (x : Sc) : Prop where
  cur : x.cur < s.zs.length
  endl : x.endl = false
  gone : x.stop = true → x.pend = []
  pend : ∃ L, L < s.w.length ∧ sgn x.pend = s.w.take L
theorem begin_le {w : W1} {l : List It1} : ∀ n, beginO w l n ≤ n
  | 0 => Nat.le_refl _
  | n + 1 => by
    unfold beginO
    split
    · exact Nat.le_refl _
    · exact Nat.le_succ_of_le (begin_le n)
theorem begin_eq {w : W1} {l : List It1} : ∀ n, n ≤ l.length → sgn (l.drop (l.length - beginO w l n)) = w.take (beginO w l n)
  | 0, _ => by
    show sgn (l.drop (l.length - 0)) = w.take 0
    rw [Nat.sub_zero, List.drop_length]
    rfl
  | n + 1, h => by
    unfold beginO
    split
    · rename_i e; exact e
    · exact begin_eq n (by omega)
theorem meet_cur {s : Dr} (hz : 0 < s.zs.length) {pl : Nat} {x : Sc} {sn : Seen} : (meetP s pl x sn).1.cur < s.zs.length := by
  unfold meetP
  simp only
  split
  · exact hz
  · split
    · exact Nat.mod_lt _ hz
    · exact Nat.mod_lt _ hz
theorem loop_cur {s : Dr} (hz : 0 < s.zs.length) : ∀ (f : Nat) {x y : Sc} {sn : Seen}, x.cur < s.zs.length → loopP s f x sn = some y → y.cur < s.zs.length
  | 0, _, _, _, _, e => nomatch e
  | f + 1, x, y, sn, h, e => by
    unfold loopP at e
    cases e2 : placeO s.w x.pend with
    | none => rw [e2] at e; cases e; exact h
    | some pl =>
      rw [e2] at e
      by_cases z : (x.stop || x.endl) = true
      · simp only [z, if_true] at e; cases e; exact h
      · simp only [if_neg z] at e
        exact loop_cur hz f (meet_cur hz) e
theorem after_inv {s : Dr} (hw : 0 < s.w.length) {x : Sc} (hc : x.cur < s.zs.length) (he : x.endl = false) : ScI s (afterP s x) := by
  unfold afterP
  split
  · rename_i hs
    exact ⟨hc, he, fun _ => rfl, 0, hw, by simp [sgn]⟩
  · rename_i hs
    refine ⟨hc, he, fun z => absurd z hs, beginO s.w x.pend (min (s.w.length - 1) x.pend.length), ?_, ?_⟩
    · have := begin_le (w := s.w) (l := x.pend) (min (s.w.length - 1) x.pend.length)
      omega
    · exact begin_eq _ (Nat.min_le_right _ _)
theorem place_short {w : W1} : ∀ {l : List It1}, l.length ≤ w.length → 0 < w.length → sgn l ≠ w → placeO w l = none
  | [], _, h, _ => by
    unfold placeO
    rw [if_neg (fun e => by rw [e] at h; exact Nat.lt_irrefl _ h)]
  | a :: l, hl, h, hne => by
    unfold placeO
    have h1 : w.isPrefixOf (a.1 :: l.map (·.1)) = false := by
      rw [Bool.eq_false_iff]
      intro z
      rw [List.isPrefixOf_iff_prefix] at z
      have : w.length = (a.1 :: l.map (·.1)).length := by
        have := z.length_le
        simp at this hl ⊢
        omega
      exact hne (z.eq_of_length this).symm
    rw [h1]
    simp only [Bool.false_eq_true, if_false]
    have : placeO w l = none := by
      refine place_short (by simp at hl; omega) h ?_
      intro z
      rw [← z, sgn_len] at hl
      simp at hl
      omega
    rw [this]
    rfl
theorem feed_some {s : Dr} (hE : Ends s) (hw : 0 < s.w.length) (hz : 0 < s.zs.length) {x : Sc} (h : ScI s x) (i : It1) : ∃ y, feedP s 100 i x = some y ∧ (y.endl = false → ScI s y) := by
  unfold feedP
  by_cases hs : x.stop = true
  · rw [if_pos hs]
    exact ⟨_, rfl, fun _ => ⟨h.cur, h.endl, h.gone, h.pend⟩⟩
  · rw [if_neg hs]
    obtain ⟨L, hL, hp⟩ := h.pend
    have hlen : (x.pend ++ [i]).length ≤ s.w.length := by
      have := congrArg List.length hp
      rw [sgn_len, List.length_take] at this
      simp; omega
    have key : ∃ z, loopP s 100 { x with wr := [], pend := x.pend ++ [i] } [] = some z := by
      by_cases e : sgn (x.pend ++ [i]) = s.w
      · have cs : CS { x with wr := [], pend := x.pend ++ [i] } ⟨s.w.map (·, none), x.cur, false, [], 0, [], false⟩ := ⟨by rw [show sgn (x.pend ++ [i]) = s.w from e]; simp [sgn, Function.comp_def], rfl, by simpa using hs, h.endl⟩
        have := (loop_cs (s := s) 100 (sn := []) cs).1
        cases q : loopP s 100 { x with wr := [], pend := x.pend ++ [i] } [] with
        | none => exact absurd (this.mp q) (hE _ h.cur)
        | some z => exact ⟨z, rfl⟩
      · refine ⟨{ x with wr := [], pend := x.pend ++ [i] }, ?_⟩
        show loopP s (99 + 1) _ _ = _
        unfold loopP
        rw [place_short hlen hw e]
    obtain ⟨z, hz'⟩ := key
    rw [hz']
    refine ⟨_, rfl, fun he => after_inv hw (loop_cur hz 100 (x := { x with wr := [], pend := x.pend ++ [i] }) h.cur hz') ?_⟩
    revert he
    unfold afterP
    split
    · exact id
    · exact id
theorem go_some {s : Dr} (hE : Ends s) (hw : 0 < s.w.length) (hz : 0 < s.zs.length) : ∀ (l : List It1) {x : Sc} (fd : List It1), ScI s x → goP s 100 l x fd ≠ none
  | [], _, _, _ => by simp [goP]
  | i :: r, x, fd, h => by
    unfold goP
    obtain ⟨y, e, hy⟩ := feed_some hE hw hz h i
    rw [e]
    simp only
    by_cases z : y.endl = true
    · simp [z]
    · rw [if_neg z]
      exact go_some hE hw hz r _ (hy (by simpa using z))
theorem sc0_inv {s : Dr} (hw : 0 < s.w.length) (hz : 0 < s.zs.length) : ScI s sc0 := ⟨hz, rfl, fun z => (nomatch z), 0, hw, rfl⟩
/-! ### passes over the same signs -/
theorem after_fs {s : Dr} {x y : Sc} (h : FS x y) : FS (afterP s x) (afterP s y) := by
  unfold afterP
  rw [h.stop, h.toCS.len]
  split
  · refine ⟨⟨rfl, h.cur, h.stop, h.endl⟩, ?_, ?_, h.met⟩
    · simp only [writeP]; rw [sgn_app, sgn_app, h.wr, h.pend]
    · simp only [writeP, h.many, h.toCS.len]
  · rw [begin_sgn h.pend]
    exact leave_fs h
theorem feed_fs {s : Dr} {f : Nat} {x y : Sc} {i j : It1} (h : FS x y) (hi : i.1 = j.1) (hn : ∀ sn (x y : Sc), CS x y → (loopP s f x sn = none ↔ loopP s f y sn = none)) : (feedP s f i x = none ↔ feedP s f j y = none) ∧ ∀ x' y', feedP s f i x = some x' → feedP s f j y = some y' → FS x' y' := by
  unfold feedP
  have hij : sgn [i] = sgn [j] := by simp [sgn, hi]
  by_cases hs : y.stop = true
  · have hx : x.stop = true := h.stop.trans hs
    rw [if_pos hx, if_pos hs]
    refine ⟨by simp, fun x' y' e1 e2 => ?_⟩
    cases e1; cases e2
    refine ⟨⟨h.pend, h.cur, h.stop, h.endl⟩, ?_, ?_, h.met⟩
    · simp only [writeP]; rw [sgn_app, sgn_app, hij]
    · simp only [writeP, h.many, List.length_singleton]
  · have hx : ¬ x.stop = true := fun z => hs (h.stop.symm.trans z)
    rw [if_neg hx, if_neg hs]
    have cs : FS { x with wr := [], pend := x.pend ++ [i] } { y with wr := [], pend := y.pend ++ [j] } := ⟨⟨by simp only [sgn_app, h.pend, hij], h.cur, h.stop, h.endl⟩, rfl, h.many, h.met⟩
    have h1 := hn [] _ _ cs.toCS
    refine ⟨by simp only [Option.map_eq_none_iff]; exact h1, fun x' y' e1 e2 => ?_⟩
    rw [Option.map_eq_some_iff] at e1 e2
    obtain ⟨a, ea, rfl⟩ := e1
    obtain ⟨b, eb, rfl⟩ := e2
    exact after_fs (loop_fs f cs _ _ ea eb)
/-- the passes over items with the same signs end alike -/
theorem go_fs {s : Dr} {f : Nat} : ∀ {l m : List It1} {x y : Sc} {fd gd : List It1}, sgn l = sgn m → FS x y → sgn fd = sgn gd →
    (goP s f l x fd = none ↔ goP s f m y gd = none) ∧ (goP s f l x fd = some none ↔ goP s f m y gd = some none) ∧
    ∀ a x' b y', goP s f l x fd = some (some (a, x')) → goP s f m y gd = some (some (b, y')) → sgn a = sgn b ∧ FS x' y'
  | [], [], x, y, fd, gd, _, h, hf => by
    have hr : FS (restP x) (restP y) := by
      unfold restP
      rw [h.toCS.len]
      exact leave_fs ⟨⟨h.pend, h.cur, h.stop, h.endl⟩, rfl, h.many, h.met⟩
    refine ⟨by simp [goP], by simp [goP], fun a x' b y' e1 e2 => ?_⟩
    simp only [goP, Option.some.injEq, Prod.mk.injEq] at e1 e2
    obtain ⟨rfl, rfl⟩ := e1
    obtain ⟨rfl, rfl⟩ := e2
    exact ⟨by rw [sgn_app, sgn_app, hf, hr.wr], hr⟩
  | [], _ :: _, _, _, _, _, e, _, _ => by simp [sgn] at e
  | _ :: _, [], _, _, _, _, e, _, _ => by simp [sgn] at e
  | i :: l, j :: m, x, y, fd, gd, e, h, hf => by
    simp only [sgn, List.map_cons, List.cons.injEq] at e
    obtain ⟨n1, n2⟩ := feed_fs (s := s) (f := f) h e.1 fun sn x y c => (loop_cs f c).1
    unfold goP
    cases e1 : feedP s f i x with
    | none =>
      rw [n1.mp e1]
      simp
    | some x1 =>
      cases e2 : feedP s f j y with
      | none => rw [n1.mpr e2] at e1; cases e1
      | some y1 =>
        have h2 := n2 x1 y1 e1 e2
        simp only
        rw [h2.endl]
        by_cases z : y1.endl = true
        · simp [z]
        · simp only [if_neg z]
          exact go_fs e.2 h2 (by rw [sgn_app, sgn_app, hf, h2.wr])
theorem fs_refl (x : Sc) : FS x x := ⟨⟨rfl, rfl, rfl, rfl⟩, rfl, rfl, rfl⟩
end FL

namespace FL
open PySem L2 PyProof.Rows
def c_SIGNS : U := .str (tx "abc")
def c_KEEPS : U := .tup [.str (tx "one"), .str (tx "all")]
def c_TURNS : U := .tup [.str (tx "first"), .str (tx "last"), .str (tx "behind")]
def c_DEEDS : U := .tup [.str (tx "replace"), .str (tx "keep"), .str (tx "stop")]
def top (i : Nat) : Stmt := PySem.Challenge.pw_hitsteps_k18_whole_passes_one_after_anot.main.body.getD i (.Pass ⟨0, 0, 0, 0⟩)
def bls : List Str := ["isinstance", "int", "bool", "str", "tuple", "list", "dict", "len", "all", "any", "min", "max", "abs", "range", "enumerate", "zip"]
def isT (l : W1) : Bool := l.all fun c => infB [c] [97, 98, 99]
def deedsL : List W1 := [wRep, wKeep, wStop]
def inW (zs : List W1) (a : W1) : Bool := zs.any fun z => z == a
def okDs (zs : List W1) : Bool := decide (1 ≤ zs.length) && decide (zs.length ≤ 3) && zs.all (inW deedsL)
def okS (w p k t : W1) (zs : List W1) (n : Int) : Bool :=
  isT w && decide (1 ≤ w.length) && decide (w.length ≤ 3) && isT p && decide (p.length ≤ 3) && inW keepsL k && inW turnsL t && okDs zs && decide (1 ≤ n) && decide (n ≤ 2)
def stF (w p k t : W1) (zs : List W1) (n : Int) : List (Nat × U) := [(0, .str w), (1, .str p), (2, .str k), (3, .str t), (4, .tup (zs.map .str)), (5, .int n)]
def stOf : List (Nat × U) → Option (W1 × W1 × W1 × W1 × List W1 × Int)
  | [(0, .str w), (1, .str p), (2, .str k), (3, .str t), (4, .tup ds), (5, .int n)] => match strsOf ds with
    | some zs => if okS w p k t zs n then some (w, p, k, t, zs, n) else none
    | none => none
  | _ => none
theorem stOf_ok {l : List (Nat × U)} {w p k t : W1} {zs : List W1} {n : Int} (h : stOf l = some (w, p, k, t, zs, n)) : l = stF w p k t zs n ∧ okS w p k t zs n = true := by
  unfold stOf at h
  split at h
  · rename_i e
    split at h
    · rename_i zs' e
      split at h
      · rename_i ho
        cases h
        rw [strsOf_eq e]
        exact ⟨rfl, ho⟩
      · cases h
    · cases h
  · cases h
/-! ### items, events -/
def orgU : Option Nat → U
  | none => .non
  | some k => .int (k : Nat)
def itU (i : It1) : U := .tup [.str [i.1], orgU i.2]
def orgOf : U → Option (Option Nat)
  | .non => some none
  | .int (.ofNat k) => some (some k)
  | _ => none
def itOf : U → Option It1
  | .tup [.str [c], o] => (orgOf o).map fun o => (c, o)
  | _ => none
def itsOf : List U → Option (List It1)
  | [] => some []
  | u :: r => match itOf u, itsOf r with
    | some a, some b => some (a :: b)
    | _, _ => none
theorem orgOf_eq {u : U} {o : Option Nat} (h : orgOf u = some o) : u = orgU o := by
  unfold orgOf at h
  split at h <;> cases h <;> rfl
theorem orgOf_U (o : Option Nat) : orgOf (orgU o) = some o := by cases o <;> rfl
theorem itOf_eq {u : U} {i : It1} (h : itOf u = some i) : u = itU i := by
  unfold itOf at h
  split at h
  · rename_i c o
    cases e : orgOf o with
    | none => rw [e] at h; cases h
    | some z =>
      rw [e] at h
      cases h
      rw [orgOf_eq e]
      rfl
  · cases h
theorem itOf_U (i : It1) : itOf (itU i) = some i := by
  simp only [itOf, itU, orgOf_U, Option.map_some]
theorem itsOf_eq : ∀ {us : List U} {l : List It1}, itsOf us = some l → us = l.map itU
  | [], _, h => by cases h; rfl
  | u :: r, l, h => by
    unfold itsOf at h
    split at h
    · rename_i a b e1 e2
      cases h
      rw [itOf_eq e1, itsOf_eq e2]
      rfl
    · cases h
@[simp] theorem itsOf_map : ∀ l : List It1, itsOf (l.map itU) = some l
  | [] => rfl
  | a :: r => by
    rw [List.map_cons]
    unfold itsOf
    rw [itOf_U, itsOf_map r]
def oldP : List It1 → Option Nat
  | [] => none
  | (_, none) :: _ => none
  | (c, some f) :: r => if ((c, some f) :: r).zipIdx.all (fun x => decide (x.1.2 = some (f + x.2))) then some f else none
/-- a hit as an event of the pass n -/
def evU (n : Int) (m : W1 × Nat × List It1) : U := .tup [.int n, .str m.1, .int (m.2.1 : Nat), orgU (oldP m.2.2)]
/-- .. noted -/
def metU (m : W1 × Nat × List It1) : U := .tup [.str m.1, .int (m.2.1 : Nat), .lst (m.2.2.map itU)]
def seenU (e : (Nat × W1) × Nat × Nat) : U := .tup [.tup [.int (e.1.1 : Nat), .str e.1.2], .int (e.2.1 : Nat), .int (e.2.2 : Nat)]
def okd (s : Dr) : Bool := okS s.w s.p s.k s.t s.zs s.n
def stU (s : Dr) : U := .ins 0 (stF s.w s.p s.k s.t s.zs s.n)
def drOfI : U → Option Dr
  | .ins 0 l => (stOf l).map fun x => ⟨x.1, x.2.1, x.2.2.1, x.2.2.2.1, x.2.2.2.2.1, x.2.2.2.2.2⟩
  | _ => none
theorem drOfI_ok {u : U} {s : Dr} (h : drOfI u = some s) : u = stU s ∧ okd s = true := by
  unfold drOfI at h
  split at h
  · rename_i l
    cases e : stOf l with
    | none => rw [e] at h; cases h
    | some x =>
      rw [e] at h
      obtain ⟨w, p, k, t, zs, n⟩ := x
      cases h
      obtain ⟨h1, h2⟩ := stOf_ok e
      subst h1
      exact ⟨rfl, h2⟩
  · cases h
theorem stOf_stF {w p k t : W1} {zs : List W1} {n : Int} (h : okS w p k t zs n = true) : stOf (stF w p k t zs n) = some (w, p, k, t, zs, n) := by
  simp only [stOf, stF, strsOf_map]
  exact if_pos h
theorem drOfI_U {s : Dr} (h : okd s = true) : drOfI (stU s) = some s := by
  simp only [drOfI, stU, stOf_stF h, Option.map_some]
/-- the passes, one after another: what is left; none: endless -/
def exN (n : Int) : Exn := ⟨7, [(18, .int n)]⟩
def exT : Exn := ⟨6, []⟩
def passesP (s : Dr) : Nat → Int → List It1 → List U → Option (Except Int (List It1 × List U))
  | 0, _, l, ev => some (.ok (l, ev))
  | k + 1, n, l, ev => match goP s 100 l sc0 [] with
    | none => none
    | some none => some (.error n)
    | some (some (fd, x)) => passesP s k (n + 1) fd (ev ++ x.met.map (evU n))
def startP (text : W1) : List It1 := text.mapIdx fun i c => (c, some i)
def ofEv : U → Option (W1 × Option Nat)
  | .tup [.int _, .str d, .int _, o] => if okC d then (orgOf o).map fun o => (d, o) else none
  | _ => none
def ofEvs : List U → Option (List (W1 × Option Nat))
  | [] => some []
  | u :: r => match ofEv u, ofEvs r with
    | some a, some b => some (a :: b)
    | _, _ => none
def wStands : W1 := [115, 116, 97, 110, 100, 115]
def wLost : W1 := [108, 111, 115, 116]
def wReplaced : W1 := [114, 101, 112, 108, 97, 99, 101, 100]
def fateP (w : W1) (its : List It1) (evs : List (W1 × Option Nat)) (pl : Nat) : U :=
  let own := evs.filter fun e => decide (e.2 = some pl)
  .tup [.int own.length, .str (if own.any (fun e => e.1 == wRep) then wReplaced else if (List.range w.length).all (fun a => its.any fun i => decide (i.2 = some (pl + a))) then wStands else wLost)]
def fatesP (w text : W1) (its : List It1) (evs : List (W1 × Option Nat)) : List (U × U) :=
  ((List.range (text.length + 1 - w.length)).filter fun pl => decide ((text.drop pl).take w.length = w)).map fun pl => (.int (pl : Nat), fateP w its evs pl)
def outU (text : W1) (ev : List U) (ft : List (U × U)) : U := .ins 3 [(15, .str text), (16, .tup ev), (17, .dct ft)]
def runR' (G : List Ob) (s : Dr) (text : W1) : Option (Except Int (List It1 × List U)) → Rs U
  | none => .bad
  | some (.error n) => .exc (exN n) G
  | some (.ok (l, ev)) => match ofEvs ev with
    | some evs => .ok (outU (sgn l) ev (fatesP s.w text l evs)) G
    | none => .bad
/-! ### draws -/
def brP (b : Int) (r : List Int) : Int × List Int := if b = 0 then (match r with | x :: t => (x, t) | [] => (b, r)) else (b, r)
def belowQ (a b : Int) (r : List Int) (n : Int) : Int × List Int :=
  if b > 0 then (b.fmod n, a :: b.fdiv n :: r) else (((((a * 48271 + 11).fmod 2147483647).fdiv 64).fmod n), (a * 48271 + 11).fmod 2147483647 :: b :: r)
def belowP (a b : Int) (r : List Int) (n : Int) : Int × List Int := belowQ a (brP b r).1 (brP b r).2 n
/-- a drawer's list -/
def drOf (G : List Ob) (i : Nat) : Option (Int × Int × List Int) := match G[i]? with
  | some (.lst l) => match intsOf l with
    | some (a :: b :: r) => if r.length ≤ 63 then some (a, b, r) else none
    | _ => none
  | _ => none
def drC (l : List Int) : Ob := .lst (l.map U.int)
theorem drOf_ok {G : List Ob} {i : Nat} {a b : Int} {r : List Int} (h : drOf G i = some (a, b, r)) : G[i]? = some (drC (a :: b :: r)) ∧ r.length ≤ 63 := by
  unfold drOf at h
  split at h
  · rename_i l g
    split at h
    · rename_i e
      split at h
      · rename_i hr
        cases h
        rw [intsOf_eq e] at g
        exact ⟨g, hr⟩
      · cases h
    · cases h
  · cases h
def r_is_integer : RunD := fun us G => match us with
  | [.int _] => .ok (.bl true) G
  | _ => .bad
def r_is_text : RunD := fun us G => match us with
  | [.str l] => if l.length ≤ szL then .ok (.bl (isT l)) G else .bad
  | [.non] => .ok (.bl false) G
  | _ => .bad
def r_is_one_of : RunD := fun us G => match us with
  | [.str a, .tup ws] => match strsOf ws with
    | some zs => .ok (.bl (inW zs a)) G
    | none => .bad
  | _ => .bad
def r_are_deeds : RunD := fun us G => match us with
  | [.tup ds] => match strsOf ds with
    | some zs => if zs.length ≤ szL then .ok (.bl (okDs zs)) G else .bad
    | none => .bad
  | _ => .bad
def r_need_fields : RunD := fun us G => match us with
  | [.str w, .str p, .str k, .str t, .tup ds, .int n] => match strsOf ds with
    | some zs => if okS w p k t zs n then .ok .non G else .bad
    | none => .bad
  | _ => .bad
def r_Stepper_init : RunD := fun us G => match us with
  | [.ref i, .str w, .str p, .str k, .str t, .tup ds, .int n] => match G[i]?, strsOf ds with
    | some (.ins 0 []), some zs => if okS w p k t zs n then .ok .non (G.set i (.ins 0 (stF w p k t zs n))) else .bad
    | _, _ => .bad
  | _ => .bad
def r_need_text : RunD := fun us G => match us with
  | [.str l] => if l.length ≤ szL then (if isT l then .ok .non G else .exc exT G) else .bad
  | _ => .bad
def r_place_of : RunD := fun us G => match us with
  | [.str w, u] => match (lstOf G u).bind itsOf with
    | some l => if 0 < w.length ∧ w.length ≤ 3 ∧ w.all (fun c => decide (c < 1114112)) = true ∧ (sgn l).all (fun c => decide (c < 1114112)) = true ∧ l.length < szL then .ok (.int (match placeO w l with | some p => (p : Int) | none => -1)) G else .bad
    | none => .bad
  | _ => .bad
def r_beginning_of : RunD := fun us G => match us with
  | [.str w, u] => match (lstOf G u).bind itsOf with
    | some l => if 0 < w.length ∧ w.length ≤ 3 ∧ w.all (fun c => decide (c < 1114112)) = true ∧ (sgn l).all (fun c => decide (c < 1114112)) = true ∧ l.length < szL then .ok (.int (beginO w l (min (w.length - 1) l.length))) G else .bad
    | none => .bad
  | _ => .bad
def r_Outcome_init : RunD := fun us G => match us with
  | [.ref i, a, b, c] => match G[i]? with
    | some (.ins 3 []) => .ok .non (G.set i (.ins 3 [(15, a), (16, b), (17, c)]))
    | _ => .bad
  | _ => .bad
def r_Outcome_text : RunD := fun us G => match us with
  | [.ins 3 [(15, a), (16, b), (17, c)]] => .ok a G
  | _ => .bad
def r_Outcome_events : RunD := fun us G => match us with
  | [.ins 3 [(15, a), (16, b), (17, c)]] => .ok b G
  | _ => .bad
def r_Outcome_len : RunD := fun us G => match us with
  | [.ins 3 [(15, a), (16, .tup l), (17, c)]] => if l.length < 2 ^ 62 then .ok (.int l.length) G else .bad
  | _ => .bad
def r_old_place : RunD := fun us G => match us with
  | [.lst hit] => match itsOf hit with
    | some l => if 0 < l.length ∧ l.length ≤ 1000 then .ok (orgU (oldP l)) G else .bad
    | none => .bad
  | _ => .bad
def r_gone_through : RunD := fun us G => match us with
  | [st, .lst items, .int n] => match drOfI st, itsOf items with
    | some s, some l => if l.length ≤ 5000 ∧ isT (sgn l) = true then (match goP s 100 l sc0 [] with
      | none => .bad
      | some none => .exc (exN n) G
      | some (some (fd, x)) => .ok (.tup [.lst (fd.map itU), .lst (x.met.map (evU n))]) G) else .bad
    | _, _ => .bad
  | _ => .bad
def r_fates_of : RunD := fun us G => match us with
  | [st, .str text, .lst items, u] => match drOfI st, itsOf items, (lstOf G u).bind ofEvs with
    | some s, some l, some evs => if text.length ≤ 5000 ∧ isT text = true ∧ l.length < szL ∧ evs.length < szL then .ok (.dct (fatesP s.w text l evs)) G else .bad
    | _, _, _ => .bad
  | _ => .bad
def r_run : RunD := fun us G => match us with
  | [st, .str text] => match drOfI st with
    | some s => if isT text = true ∧ text.length ≤ 5000 ∧ (s.n = 1 ∨ text.length ≤ 16) then runR' G s text (passesP s s.n.toNat 0 (startP text) []) else .bad
    | none => .bad
  | _ => .bad
def rndP (ns : List Int) (salt : Int) : Int := ns.foldl (fun s c => (s * 31 + (if c < 0 then -c else c)).fmod 2147483647) salt
def r__law_random : RunD := fun us G => match us with
  | [.sc l, .int 18] => match intsOf l with
    | some ns => if ns.length ≤ 63 then .ok (.ref G.length) (G ++ [drC (rndP ns 18 :: 0 :: ns.filter fun c => decide (10 ^ 18 ≤ c))]) else .bad
    | none => .bad
  | _ => .bad
def r__law_below : RunD := fun us G => match us with
  | [.ref i, .int n] => match drOf G i with
    | some (a, b, r) => if 0 < n ∧ n < 1000 then .ok (.int (belowP a b r n).1) (G.set i (drC (belowP a b r n).2)) else .bad
    | none => .bad
  | _ => .bad
def r__law_pick : RunD := fun us G => match us with
  | [.ref i, .lst xs] => match drOf G i with
    | some (a, b, r) => if 0 < xs.length ∧ xs.length < 1000 then (match xs[(belowP a b r xs.length).1.toNat]? with
      | some u => .ok u (G.set i (drC (belowP a b r xs.length).2))
      | none => .bad) else .bad
    | none => .bad
  | _ => .bad
def words6 : List W1 := [[97], [97, 98], [97, 97], [97, 98, 97], [97, 97, 98], [97, 98, 99]]
def puts10 : List W1 := [[], [97], [98], [97, 98], [98, 97], [97, 97], [97, 98, 97], [98, 97, 98], [97, 97, 98], [99]]
def deeds8 : List (List W1) := [[wRep], [wRep], [wRep, wKeep], [wKeep, wRep], [wKeep, wKeep, wRep], [wRep, wRep, wStop], [wKeep], [wKeep, wRep, wStop]]
/-- one pick: from a drawer's list -/
def pickP {α : Type} (dflt : α) (l : Int × Int × List Int) (xs : List α) : α × (Int × Int × List Int) :=
  let z := belowP l.1 l.2.1 l.2.2 xs.length
  (xs.getD z.1.toNat dflt, (z.2.headD 0, z.2.tail.headD 0, z.2.tail.tail))
def drawnP (l : Int × Int × List Int) : Dr × (Int × Int × List Int) :=
  let a := pickP [] l words6
  let b := pickP [] a.2 puts10
  let c := pickP [] b.2 keepsL
  let d := pickP [] c.2 turnsL
  let e := pickP [] d.2 deeds8
  let f := pickP 0 e.2 [1, (2 : Int)]
  (⟨a.1, b.1, c.1, d.1, e.1, f.1⟩, f.2)
def drU (s : Dr) : U := .tup [.str s.w, .str s.p, .str s.k, .str s.t, .tup (s.zs.map .str), .int s.n]
def dl (l : Int × Int × List Int) : List Int := l.1 :: l.2.1 :: l.2.2
def r__law_drawn : RunD := fun us G => match us with
  | [.ref i] => match drOf G i with
    | some l => .ok (drU (drawnP l).1) (G.set i (drC (dl (drawnP l).2)))
    | none => .bad
  | _ => .bad
def drOfU : U → Option Dr
  | .tup [.str w, .str p, .str k, .str t, .tup ds, .int n] => match strsOf ds with
    | some zs => if okS w p k t zs n then some ⟨w, p, k, t, zs, n⟩ else none
    | none => none
  | _ => none
def r__law_make : RunD := fun us G => match us with
  | [u] => match drOfU u with
    | some s => .ok (stU s) G
    | none => .bad
  | _ => .bad
/-- a text drawn -/
def textP (w : W1) : Nat → (Int × Int × List Int) → W1 → W1 × (Int × Int × List Int)
  | 0, l, t => (t, l)
  | n + 1, l, t => let z := pickP [] l [[97], [98], [99], w, w, w.take 1, w.drop 1]
    textP w n z.2 (t ++ z.1)
def textD (w : W1) (l : Int × Int × List Int) : W1 × (Int × Int × List Int) :=
  let z := belowP l.1 l.2.1 l.2.2 13
  let x := textP w z.1.toNat (z.2.headD 0, z.2.tail.headD 0, z.2.tail.tail) []
  (x.1.take 12, x.2)
def r__law_text : RunD := fun us G => match us with
  | [.ref i, u, .int 12] => match drOf G i, drOfU u with
    | some l, some s => .ok (.str (textD s.w l).1) (G.set i (drC (dl (textD s.w l).2)))
    | _, _ => .bad
  | _ => .bad
def ranR (G : List Ob) : Rs U → Rs U
  | .ok u _ => .ok u G
  | .exc ⟨7, _⟩ _ => .ok .non G
  | _ => .bad
def r__law_ran : RunD := fun us G => match us with
  | [u, .str text] => match drOfU u with
    | some s => ranR G (r_run [stU s, .str text] G)
    | none => .bad
  | _ => .bad
def bareE (n : Int) : U → Option (List U)
  | .tup [.int m, d, p, _] => some (if m = n then [.tup [d, p]] else [])
  | _ => none
def bareP (n : Int) : List U → Option (List U)
  | [] => some []
  | u :: r => match bareE n u, bareP n r with
    | some a, some b => some (a ++ b)
    | _, _ => none
def r__law_bare : RunD := fun us G => match us with
  | [.ins 3 [(15, a), (16, .tup ev), (17, c)], .int n] => match bareP n ev with
    | some l => if ev.length ≤ szL then .ok (.lst l) G else .bad
    | none => .bad
  | _ => .bad
def r_law : RunD := fun us G => match us with
  | [.sc l] => match intsOf l with
    | some ns => if ns.length ≤ 63 then .ok (.bl true) G else .bad
    | none => .bad
  | _ => .bad
end FL

namespace FL
open PySem L2 PyProof.Rows
def exs : List ((Nat × Nat) × Bool) := [((4, 4), true), ((4, 5), false), ((4, 6), false), ((4, 7), false), ((5, 4), true), ((5, 5), true), ((5, 6), false), ((5, 7), false), ((6, 4), true), ((6, 5), false), ((6, 6), true), ((6, 7), false), ((7, 4), true), ((7, 5), false), ((7, 6), false), ((7, 7), true)]
abbrev exi := exs
abbrev s_InvalidStepper_init : Stmt := inClass (top 3) 0
abbrev s_Endless_init : Stmt := inClass (top 5) 0
/-! is_integer -/
abbrev s_is_integer : Stmt := top 20
def d_is_integer : Dn where
  N := ["value"]
  gl := []
  bl := bls
  ty := []
  cls := [0]
  att := []
  mth := []
  eqt := []
  mu := []
  rmu := false
def m_is_integer : MS := (stE (andM (isiM [0] (.inl .int) (varM 0)) (notM (isiM [0] (.inl .bl) (varM 0)))) rtM)
theorem den_is_integer : dSs (dS d_is_integer 40 (defScope s_is_integer) fnT) (defBody s_is_integer) = m_is_integer := by kernel_rfl
theorem run_is_integer (us : List U) (G : List Ob) : runB d_is_integer 40 s_is_integer us G = runR (m_is_integer (startS d_is_integer.N us) G) := congrArg (fun m : MS => runR (m (startS d_is_integer.N us) G)) den_is_integer

/-! is_text -/
abbrev s_is_text : Stmt := top 21
def d_is_text : Dn where
  N := ["value", "sign"]
  gl := [("SIGNS", .con c_SIGNS)]
  bl := bls
  ty := []
  cls := [0]
  att := []
  mth := []
  eqt := []
  mu := []
  rmu := false
def m_is_text : MS := (stE (andM (isiM [0] (.inl .str) (varM 0)) (preM allU (consA (compM false (seqI (varM 0)) (nameG 1) yesT (bin2 (inU false) (varM 1) (litM c_SIGNS)) [1]) nilA))) rtM)
theorem den_is_text : dSs (dS d_is_text 40 (defScope s_is_text) fnT) (defBody s_is_text) = m_is_text := by kernel_rfl
theorem run_is_text (us : List U) (G : List Ob) : runB d_is_text 40 s_is_text us G = runR (m_is_text (startS d_is_text.N us) G) := congrArg (fun m : MS => runR (m (startS d_is_text.N us) G)) den_is_text

/-! need_text -/
abbrev s_need_text : Stmt := top 22
def d_need_text : Dn where
  N := ["value"]
  gl := [("is_text", .fn 1 r_is_text)]
  bl := bls
  ty := []
  cls := [0]
  att := []
  mth := []
  eqt := []
  mu := []
  rmu := false
  xc := [("InvalidText", (6, none))]
  xs := exs
  xi := exi
def m_need_text : MS := (ifM (notT (tobM (callM 1 r_is_text (consA (varM 0) nilA)))) (raise0M 6) nxM)
theorem den_need_text : dSs (dS d_need_text 40 (defScope s_need_text) fnT) (defBody s_need_text) = m_need_text := by kernel_rfl
theorem run_need_text (us : List U) (G : List Ob) : runB d_need_text 40 s_need_text us G = runR (m_need_text (startS d_need_text.N us) G) := congrArg (fun m : MS => runR (m (startS d_need_text.N us) G)) den_need_text

/-! is_one_of -/
abbrev s_is_one_of : Stmt := top 23
def d_is_one_of : Dn where
  N := ["value", "words"]
  gl := []
  bl := bls
  ty := []
  cls := [0]
  att := []
  mth := []
  eqt := []
  mu := []
  rmu := false
def m_is_one_of : MS := (stE (andM (isiM [0] (.inl .str) (varM 0)) (bin2 (inU false) (varM 0) (varM 1))) rtM)
theorem den_is_one_of : dSs (dS d_is_one_of 40 (defScope s_is_one_of) fnT) (defBody s_is_one_of) = m_is_one_of := by kernel_rfl
theorem run_is_one_of (us : List U) (G : List Ob) : runB d_is_one_of 40 s_is_one_of us G = runR (m_is_one_of (startS d_is_one_of.N us) G) := congrArg (fun m : MS => runR (m (startS d_is_one_of.N us) G)) den_is_one_of

/-! are_deeds -/
abbrev s_are_deeds : Stmt := top 24
def d_are_deeds : Dn where
  N := ["value", "deed"]
  gl := [("is_one_of", .fn 2 r_is_one_of), ("DEEDS", .con c_DEEDS), ("MOST_DEEDS", .con (.int 3))]
  bl := bls
  ty := []
  cls := [0]
  att := []
  mth := []
  eqt := []
  mu := []
  rmu := false
def m_are_deeds : MS := (seqM (ifM (orT (notT (tobM (isiM [0] (.inl .tup) (varM 0)))) (notT (tobM (chM (cmpU fun i j => decide (i ≤ j)) (cmpU fun i j => decide (i ≤ j)) (litM (.int 1)) (preM lenU (consA (varM 0) nilA)) (litM (.int 3)))))) (stE (litM (.bl false)) rtM) nxM) (stE (preM allU (consA (compM false (seqI (varM 0)) (nameG 1) yesT (callM 2 r_is_one_of (consA (varM 1) (consA (litM c_DEEDS) nilA))) [1]) nilA)) rtM))
theorem den_are_deeds : dSs (dS d_are_deeds 40 (defScope s_are_deeds) fnT) (defBody s_are_deeds) = m_are_deeds := by kernel_rfl
theorem run_are_deeds (us : List U) (G : List Ob) : runB d_are_deeds 40 s_are_deeds us G = runR (m_are_deeds (startS d_are_deeds.N us) G) := congrArg (fun m : MS => runR (m (startS d_are_deeds.N us) G)) den_are_deeds

/-! need_fields -/
abbrev s_need_fields : Stmt := top 25
def d_need_fields : Dn where
  N := ["word", "put", "keep", "turn", "deeds", "passes"]
  gl := [("MOST_PASSES", .con (.int 2)), ("is_integer", .fn 1 r_is_integer), ("are_deeds", .fn 1 r_are_deeds), ("is_one_of", .fn 2 r_is_one_of), ("TURNS", .con c_TURNS), ("KEEPS", .con c_KEEPS), ("MOST_SIGNS", .con (.int 3)), ("is_text", .fn 1 r_is_text)]
  bl := bls
  ty := []
  cls := [0]
  att := []
  mth := []
  eqt := []
  mu := []
  rmu := false
  xc := [("InvalidStepper", (5, some 19))]
  xs := exs
  xi := exi
def m_need_fields : MS := (seqM (ifM (orT (notT (tobM (callM 1 r_is_text (consA (varM 0) nilA)))) (notT (tobM (chM (cmpU fun i j => decide (i ≤ j)) (cmpU fun i j => decide (i ≤ j)) (litM (.int 1)) (preM lenU (consA (varM 0) nilA)) (litM (.int 3)))))) (stE (litM (.str (Str.ofString "word").cps.toList)) (raiseM 5 19)) nxM) (seqM (ifM (orT (notT (tobM (callM 1 r_is_text (consA (varM 1) nilA)))) (tobM (bin2 (cmpU fun i j => decide (j < i)) (preM lenU (consA (varM 1) nilA)) (litM (.int 3))))) (stE (litM (.str (Str.ofString "put").cps.toList)) (raiseM 5 19)) nxM) (seqM (ifM (notT (tobM (callM 2 r_is_one_of (consA (varM 2) (consA (litM c_KEEPS) nilA))))) (stE (litM (.str (Str.ofString "keep").cps.toList)) (raiseM 5 19)) nxM) (seqM (ifM (notT (tobM (callM 2 r_is_one_of (consA (varM 3) (consA (litM c_TURNS) nilA))))) (stE (litM (.str (Str.ofString "turn").cps.toList)) (raiseM 5 19)) nxM) (seqM (ifM (notT (tobM (callM 1 r_are_deeds (consA (varM 4) nilA)))) (stE (litM (.str (Str.ofString "deeds").cps.toList)) (raiseM 5 19)) nxM) (ifM (orT (notT (tobM (callM 1 r_is_integer (consA (varM 5) nilA)))) (notT (tobM (chM (cmpU fun i j => decide (i ≤ j)) (cmpU fun i j => decide (i ≤ j)) (litM (.int 1)) (varM 5) (litM (.int 2)))))) (stE (litM (.str (Str.ofString "passes").cps.toList)) (raiseM 5 19)) nxM))))))
theorem den_need_fields : dSs (dS d_need_fields 40 (defScope s_need_fields) fnT) (defBody s_need_fields) = m_need_fields := by kernel_rfl
theorem run_need_fields (us : List U) (G : List Ob) : runB d_need_fields 40 s_need_fields us G = runR (m_need_fields (startS d_need_fields.N us) G) := congrArg (fun m : MS => runR (m (startS d_need_fields.N us) G)) den_need_fields

/-! Stepper_init -/
abbrev s_Stepper_init : Stmt := inClass (top 26) 0
def d_Stepper_init : Dn where
  N := ["self", "word", "put", "keep", "turn", "deeds", "passes"]
  gl := [("need_fields", .fn 6 r_need_fields)]
  bl := bls
  ty := []
  cls := [0]
  att := [("word", (0, [0], [])), ("put", (1, [0], [])), ("keep", (2, [0], [])), ("turn", (3, [0], [])), ("deeds", (4, [0], [])), ("passes", (5, [0], []))]
  mth := []
  eqt := []
  mu := []
  rmu := false
def m_Stepper_init : MS := (seqM (stE (callM 6 r_need_fields (consA (varM 1) (consA (varM 2) (consA (varM 3) (consA (varM 4) (consA (varM 5) (consA (varM 6) nilA))))))) (fun _ => nxM)) (seqM (stE2 (varM 1) (varM 0) (fldM (fun c => ([0] : List Nat).contains c) 0)) (seqM (stE2 (varM 2) (varM 0) (fldM (fun c => ([0] : List Nat).contains c) 1)) (seqM (stE2 (varM 3) (varM 0) (fldM (fun c => ([0] : List Nat).contains c) 2)) (seqM (stE2 (varM 4) (varM 0) (fldM (fun c => ([0] : List Nat).contains c) 3)) (seqM (stE2 (varM 5) (varM 0) (fldM (fun c => ([0] : List Nat).contains c) 4)) (stE2 (varM 6) (varM 0) (fldM (fun c => ([0] : List Nat).contains c) 5))))))))
theorem den_Stepper_init : dSs (dS d_Stepper_init 40 (defScope s_Stepper_init) fnT) (defBody s_Stepper_init) = m_Stepper_init := by kernel_rfl
theorem run_Stepper_init (us : List U) (G : List Ob) : runB d_Stepper_init 40 s_Stepper_init us G = runR (m_Stepper_init (startS d_Stepper_init.N us) G) := congrArg (fun m : MS => runR (m (startS d_Stepper_init.N us) G)) den_Stepper_init

/-! place_of -/
abbrev s_place_of : Stmt := top 8
def d_place_of : Dn where
  N := ["word", "items", "place", "at", "sign"]
  gl := []
  bl := bls
  ty := []
  cls := [0]
  att := []
  mth := []
  eqt := []
  mu := []
  rmu := false
def m_place_of : MS := (seqM (forM (preI rng1U (consA (bin2 (addU false) (bin2 subU (preM lenU (consA (varM 1) nilA)) (preM lenU (consA (varM 0) nilA))) (litM (.int 1))) nilA)) (nameG 2) (ifM (tobM (preM allU (consA (compM false (enI (varM 0)) (tupG 2 (consG (nameG 3) (consG (nameG 4) nilG))) yesT (bin2 (eqX false (fun c => d_place_of.eqt.lookup c)) (bin2 idxU (bin2 idxU (varM 1) (bin2 (addU false) (varM 2) (varM 3))) (litM (.int 0))) (varM 4)) [3, 4]) nilA))) (stE (varM 2) rtM) nxM)) (stE (negM (litM (.int 1))) rtM))
theorem den_place_of : dSs (dS d_place_of 40 (defScope s_place_of) fnT) (defBody s_place_of) = m_place_of := by kernel_rfl
theorem run_place_of (us : List U) (G : List Ob) : runB d_place_of 40 s_place_of us G = runR (m_place_of (startS d_place_of.N us) G) := congrArg (fun m : MS => runR (m (startS d_place_of.N us) G)) den_place_of

/-! beginning_of -/
abbrev s_beginning_of : Stmt := top 9
def d_beginning_of : Dn where
  N := ["word", "items", "length", "end", "item", "sign"]
  gl := []
  bl := bls
  ty := []
  cls := [0]
  att := []
  mth := []
  eqt := []
  mu := []
  rmu := false
def m_beginning_of : MS := (seqM (forM (preI rng3U (consA (preM minU (consA (lstM false (consA (bin2 subU (preM lenU (consA (varM 0) nilA)) (litM (.int 1))) (consA (preM lenU (consA (varM 1) nilA)) nilA))) nilA)) (consA (litM (.int 0)) (consA (negM (litM (.int 1))) nilA)))) (nameG 2) (seqM (stE (slM false (varM 1) (someO (bin2 subU (preM lenU (consA (varM 1) nilA)) (varM 2))) noneO) (setM 3)) (ifM (tobM (preM allU (consA (compM false (preI zpU (consA (varM 3) (consA (varM 0) nilA))) (tupG 2 (consG (nameG 4) (consG (nameG 5) nilG))) yesT (bin2 (eqX false (fun c => d_beginning_of.eqt.lookup c)) (bin2 idxU (varM 4) (litM (.int 0))) (varM 5)) [4, 5]) nilA))) (stE (varM 2) rtM) nxM))) (stE (litM (.int 0)) rtM))
theorem den_beginning_of : dSs (dS d_beginning_of 40 (defScope s_beginning_of) fnT) (defBody s_beginning_of) = m_beginning_of := by kernel_rfl
theorem run_beginning_of (us : List U) (G : List Ob) : runB d_beginning_of 40 s_beginning_of us G = runR (m_beginning_of (startS d_beginning_of.N us) G) := congrArg (fun m : MS => runR (m (startS d_beginning_of.N us) G)) den_beginning_of

/-! Loops_init -/
abbrev s_Loops_init : Stmt := inClass (top 10) 0
def d_Loops_init : Dn where
  N := ["self"]
  gl := []
  bl := bls
  ty := []
  cls := [0]
  att := [("seen", (14, [1], []))]
  mth := []
  eqt := []
  mu := ["seen"]
  rmu := false
def m_Loops_init : MS := (stE2 (lstM true nilA) (varM 0) (fldM (fun c => ([1] : List Nat).contains c) 14))
theorem den_Loops_init : dSs (dS d_Loops_init 40 (defScope s_Loops_init) fnT) (defBody s_Loops_init) = m_Loops_init := by kernel_rfl
theorem run_Loops_init (us : List U) (G : List Ob) : runB d_Loops_init 40 s_Loops_init us G = runR (m_Loops_init (startS d_Loops_init.N us) G) := congrArg (fun m : MS => runR (m (startS d_Loops_init.N us) G)) den_Loops_init

def r_Loops_init : RunD := fun us G => runR (m_Loops_init (startS d_Loops_init.N us) G)
theorem le_Loops_init : Le r_Loops_init (runB d_Loops_init 40 s_Loops_init) := fun us G => .inr (run_Loops_init us G).symm

/-! Loops_touch -/
abbrev s_Loops_touch : Stmt := inClass (top 10) 1
def d_Loops_touch : Dn where
  N := ["self", "left", "pair"]
  gl := []
  bl := bls
  ty := []
  cls := [0]
  att := [("seen", (14, [1], []))]
  mth := []
  eqt := []
  mu := ["seen"]
  rmu := false
def m_Loops_touch : MS := (stE2 (compM true (seqI (attrM (fun c => (([] : List (Nat × RunD)).lookup c).map attrP) (fun c => ([1] : List Nat).contains c) 14 (varM 0))) (nameG 2) (tobM (bin2 (cmpU fun i j => decide (i ≤ j)) (bin2 idxU (varM 2) (litM (.int 1))) (varM 1))) (varM 2) [2]) (varM 0) (fldM (fun c => ([1] : List Nat).contains c) 14))
theorem den_Loops_touch : dSs (dS d_Loops_touch 40 (defScope s_Loops_touch) fnT) (defBody s_Loops_touch) = m_Loops_touch := by kernel_rfl
theorem run_Loops_touch (us : List U) (G : List Ob) : runB d_Loops_touch 40 s_Loops_touch us G = runR (m_Loops_touch (startS d_Loops_touch.N us) G) := congrArg (fun m : MS => runR (m (startS d_Loops_touch.N us) G)) den_Loops_touch

def r_Loops_touch : RunD := fun us G => runR (m_Loops_touch (startS d_Loops_touch.N us) G)
theorem le_Loops_touch : Le r_Loops_touch (runB d_Loops_touch 40 s_Loops_touch) := fun us G => .inr (run_Loops_touch us G).symm

/-! Loops_is_again -/
abbrev s_Loops_is_again : Stmt := inClass (top 10) 2
def d_Loops_is_again : Dn where
  N := ["self", "at", "items", "window", "many", "behind", "pair", "item"]
  gl := [("WINDOW", .con (.int 12))]
  bl := bls
  ty := []
  cls := [0]
  att := [("seen", (14, [1], []))]
  mth := []
  eqt := []
  mu := []
  rmu := false
def m_Loops_is_again : MS := (seqM (stE (tupM (consA (varM 1) (consA (joinM (litM (.str (Str.ofString "").cps.toList)) (compM false (seqI (slM false (varM 2) noneO (someO (litM (.int 12))))) (nameG 7) yesT (bin2 idxU (varM 7) (litM (.int 0))) [7])) nilA))) (setM 3)) (seqM (stE (preM lenU (consA (varM 2) nilA)) (setM 4)) (seqM (stE (preM maxU (consA (lstM false (consA (litM (.int 0)) (consA (bin2 subU (varM 4) (litM (.int 12))) nilA))) nilA)) (setM 5)) (seqM (ifM (tobM (preM anyU (consA (compM false (seqI (attrM (fun c => (([] : List (Nat × RunD)).lookup c).map attrP) (fun c => ([1] : List Nat).contains c) 14 (varM 0))) (nameG 6) yesT (andM (bin2 (eqX false (fun c => d_Loops_is_again.eqt.lookup c)) (bin2 idxU (varM 6) (litM (.int 0))) (varM 3)) (bin2 (cmpU fun i j => decide (i ≤ j)) (bin2 idxU (varM 6) (litM (.int 2))) (varM 4))) [6]) nilA))) (stE (litM (.bl true)) rtM) nxM) (seqM (stE (bmM appendU (attrM (fun c => (([] : List (Nat × RunD)).lookup c).map attrP) (fun c => ([1] : List Nat).contains c) 14 (varM 0)) (consA (tupM (consA (varM 3) (consA (varM 5) (consA (varM 4) nilA)))) nilA)) (fun _ => nxM)) (stE (litM (.bl false)) rtM))))))
theorem den_Loops_is_again : dSs (dS d_Loops_is_again 40 (defScope s_Loops_is_again) fnT) (defBody s_Loops_is_again) = m_Loops_is_again := by kernel_rfl
theorem run_Loops_is_again (us : List U) (G : List Ob) : runB d_Loops_is_again 40 s_Loops_is_again us G = runR (m_Loops_is_again (startS d_Loops_is_again.N us) G) := congrArg (fun m : MS => runR (m (startS d_Loops_is_again.N us) G)) den_Loops_is_again

def r_Loops_is_again : RunD := fun us G => runR (m_Loops_is_again (startS d_Loops_is_again.N us) G)
theorem le_Loops_is_again : Le r_Loops_is_again (runB d_Loops_is_again 40 s_Loops_is_again) := fun us G => .inr (run_Loops_is_again us G).symm

/-! Scan_init -/
abbrev s_Scan_init : Stmt := inClass (top 11) 0
def d_Scan_init : Dn where
  N := ["self", "stepper", "pending", "at", "is_stopped"]
  gl := []
  bl := bls
  ty := []
  cls := [0]
  att := [("stepper", (6, [2], [])), ("pending", (7, [2], [])), ("next_deed", (8, [2], [])), ("is_stopped", (9, [2], [])), ("written", (10, [2], [])), ("many", (11, [2], [])), ("met", (12, [2], [])), ("is_endless", (13, [2], []))]
  mth := []
  eqt := []
  mu := ["pending", "met"]
  rmu := false
def m_Scan_init : MS := (seqM (stE2 (varM 1) (varM 0) (fldM (fun c => ([2] : List Nat).contains c) 6)) (seqM (stE2 (preM (listU true) (consA (varM 2) nilA)) (varM 0) (fldM (fun c => ([2] : List Nat).contains c) 7)) (seqM (stE2 (varM 3) (varM 0) (fldM (fun c => ([2] : List Nat).contains c) 8)) (seqM (stE2 (varM 4) (varM 0) (fldM (fun c => ([2] : List Nat).contains c) 9)) (seqM (stE2 (lstM false nilA) (varM 0) (fldM (fun c => ([2] : List Nat).contains c) 10)) (seqM (stE2 (litM (.int 0)) (varM 0) (fldM (fun c => ([2] : List Nat).contains c) 11)) (seqM (stE2 (lstM true nilA) (varM 0) (fldM (fun c => ([2] : List Nat).contains c) 12)) (stE2 (litM (.bl false)) (varM 0) (fldM (fun c => ([2] : List Nat).contains c) 13)))))))))
theorem den_Scan_init : dSs (dS d_Scan_init 40 (defScope s_Scan_init) fnT) (defBody s_Scan_init) = m_Scan_init := by kernel_rfl
theorem run_Scan_init (us : List U) (G : List Ob) : runB d_Scan_init 40 s_Scan_init us G = runR (m_Scan_init (startS d_Scan_init.N us) G) := congrArg (fun m : MS => runR (m (startS d_Scan_init.N us) G)) den_Scan_init

def r_Scan_init : RunD := fun us G => runR (m_Scan_init (startS d_Scan_init.N us) G)
theorem le_Scan_init : Le r_Scan_init (runB d_Scan_init 40 s_Scan_init) := fun us G => .inr (run_Scan_init us G).symm

/-! Scan_write -/
abbrev s_Scan_write : Stmt := inClass (top 11) 3
def d_Scan_write : Dn where
  N := ["self", "items"]
  gl := []
  bl := bls
  ty := []
  cls := [0]
  att := [("written", (10, [2], [])), ("many", (11, [2], []))]
  mth := []
  eqt := []
  mu := []
  rmu := false
def m_Scan_write : MS := (seqM (stE2 (bin2 (addU false) (attrM (fun c => (([] : List (Nat × RunD)).lookup c).map attrP) (fun c => ([2] : List Nat).contains c) 10 (varM 0)) (preM (listU false) (consA (varM 1) nilA))) (varM 0) (fldM (fun c => ([2] : List Nat).contains c) 10)) (stE2 (bin2 (addU false) (attrM (fun c => (([] : List (Nat × RunD)).lookup c).map attrP) (fun c => ([2] : List Nat).contains c) 11 (varM 0)) (preM lenU (consA (varM 1) nilA))) (varM 0) (fldM (fun c => ([2] : List Nat).contains c) 11)))
theorem den_Scan_write : dSs (dS d_Scan_write 40 (defScope s_Scan_write) fnT) (defBody s_Scan_write) = m_Scan_write := by kernel_rfl
theorem run_Scan_write (us : List U) (G : List Ob) : runB d_Scan_write 40 s_Scan_write us G = runR (m_Scan_write (startS d_Scan_write.N us) G) := congrArg (fun m : MS => runR (m (startS d_Scan_write.N us) G)) den_Scan_write

def r_Scan_write : RunD := fun us G => runR (m_Scan_write (startS d_Scan_write.N us) G)
theorem le_Scan_write : Le r_Scan_write (runB d_Scan_write 40 s_Scan_write) := fun us G => .inr (run_Scan_write us G).symm

/-! Scan_leave -/
abbrev s_Scan_leave : Stmt := inClass (top 11) 4
def d_Scan_leave : Dn where
  N := ["self", "many"]
  gl := []
  bl := bls
  ty := []
  cls := [0]
  att := [("pending", (7, [2], []))]
  mth := [("write", (28, [(2, (2, r_Scan_write))]))]
  eqt := []
  mu := ["pending"]
  rmu := false
def m_Scan_leave : MS := (seqM (stE (methM (fun c => ([(2, (2, r_Scan_write))] : List (Nat × (Nat × RunD))).lookup c) 28 (varM 0) (consA (slM false (attrM (fun c => (([] : List (Nat × RunD)).lookup c).map attrP) (fun c => ([2] : List Nat).contains c) 7 (varM 0)) noneO (someO (varM 1))) nilA)) (fun _ => nxM)) (stE2 (slM true (attrM (fun c => (([] : List (Nat × RunD)).lookup c).map attrP) (fun c => ([2] : List Nat).contains c) 7 (varM 0)) (someO (varM 1)) noneO) (varM 0) (fldM (fun c => ([2] : List Nat).contains c) 7)))
theorem den_Scan_leave : dSs (dS d_Scan_leave 40 (defScope s_Scan_leave) fnT) (defBody s_Scan_leave) = m_Scan_leave := by kernel_rfl
theorem run_Scan_leave (us : List U) (G : List Ob) : runB d_Scan_leave 40 s_Scan_leave us G = runR (m_Scan_leave (startS d_Scan_leave.N us) G) := congrArg (fun m : MS => runR (m (startS d_Scan_leave.N us) G)) den_Scan_leave

def r_Scan_leave : RunD := fun us G => runR (m_Scan_leave (startS d_Scan_leave.N us) G)
theorem le_Scan_leave : Le r_Scan_leave (runB d_Scan_leave 40 s_Scan_leave) := fun us G => .inr (run_Scan_leave us G).symm

/-! Scan_turned -/
abbrev s_Scan_turned : Stmt := inClass (top 11) 6
def d_Scan_turned : Dn where
  N := ["self", "many"]
  gl := []
  bl := bls
  ty := []
  cls := [0]
  att := [("turn", (3, [0], [])), ("stepper", (6, [2], []))]
  mth := []
  eqt := []
  mu := []
  rmu := false
def m_Scan_turned : MS := (seqM (ifM (tobM (bin2 (eqX false (fun c => d_Scan_turned.eqt.lookup c)) (attrM (fun c => (([] : List (Nat × RunD)).lookup c).map attrP) (fun c => ([0] : List Nat).contains c) 3 (attrM (fun c => (([] : List (Nat × RunD)).lookup c).map attrP) (fun c => ([2] : List Nat).contains c) 6 (varM 0))) (litM (.str (Str.ofString "behind").cps.toList)))) (stE (varM 1) rtM) nxM) (stE (iteM (tobM (bin2 (eqX false (fun c => d_Scan_turned.eqt.lookup c)) (attrM (fun c => (([] : List (Nat × RunD)).lookup c).map attrP) (fun c => ([0] : List Nat).contains c) 3 (attrM (fun c => (([] : List (Nat × RunD)).lookup c).map attrP) (fun c => ([2] : List Nat).contains c) 6 (varM 0))) (litM (.str (Str.ofString "last").cps.toList)))) (preM maxU (consA (lstM false (consA (litM (.int 0)) (consA (bin2 subU (varM 1) (litM (.int 1))) nilA))) nilA)) (litM (.int 0))) rtM))
theorem den_Scan_turned : dSs (dS d_Scan_turned 40 (defScope s_Scan_turned) fnT) (defBody s_Scan_turned) = m_Scan_turned := by kernel_rfl
theorem run_Scan_turned (us : List U) (G : List Ob) : runB d_Scan_turned 40 s_Scan_turned us G = runR (m_Scan_turned (startS d_Scan_turned.N us) G) := congrArg (fun m : MS => runR (m (startS d_Scan_turned.N us) G)) den_Scan_turned

def r_Scan_turned : RunD := fun us G => runR (m_Scan_turned (startS d_Scan_turned.N us) G)
theorem le_Scan_turned : Le r_Scan_turned (runB d_Scan_turned 40 s_Scan_turned) := fun us G => .inr (run_Scan_turned us G).symm

/-! Scan_meet -/
abbrev s_Scan_meet : Stmt := inClass (top 11) 5
def d_Scan_meet : Dn where
  N := ["self", "place", "loops", "deed", "hit", "word", "put", "behind", "sign"]
  gl := []
  bl := bls
  ty := []
  cls := [0]
  att := [("word", (0, [0], [])), ("put", (1, [0], [])), ("keep", (2, [0], [])), ("deeds", (4, [0], [])), ("stepper", (6, [2], [])), ("pending", (7, [2], [])), ("next_deed", (8, [2], [])), ("is_stopped", (9, [2], [])), ("many", (11, [2], [])), ("met", (12, [2], [])), ("is_endless", (13, [2], []))]
  mth := [("leave", (29, [(2, (2, r_Scan_leave))])), ("is_again", (25, [(1, (3, r_Loops_is_again))])), ("turned", (31, [(2, (2, r_Scan_turned))])), ("touch", (24, [(1, (2, r_Loops_touch))]))]
  eqt := []
  mu := ["pending"]
  rmu := false
def m_Scan_meet : MS := (seqM (parM 5 6 (consA (attrM (fun c => (([] : List (Nat × RunD)).lookup c).map attrP) (fun c => ([0] : List Nat).contains c) 0 (attrM (fun c => (([] : List (Nat × RunD)).lookup c).map attrP) (fun c => ([2] : List Nat).contains c) 6 (varM 0))) (consA (attrM (fun c => (([] : List (Nat × RunD)).lookup c).map attrP) (fun c => ([0] : List Nat).contains c) 1 (attrM (fun c => (([] : List (Nat × RunD)).lookup c).map attrP) (fun c => ([2] : List Nat).contains c) 6 (varM 0))) nilA))) (seqM (stE (bin2 idxU (attrM (fun c => (([] : List (Nat × RunD)).lookup c).map attrP) (fun c => ([0] : List Nat).contains c) 4 (attrM (fun c => (([] : List (Nat × RunD)).lookup c).map attrP) (fun c => ([2] : List Nat).contains c) 6 (varM 0))) (attrM (fun c => (([] : List (Nat × RunD)).lookup c).map attrP) (fun c => ([2] : List Nat).contains c) 8 (varM 0))) (setM 3)) (seqM (stE (slM false (attrM (fun c => (([] : List (Nat × RunD)).lookup c).map attrP) (fun c => ([2] : List Nat).contains c) 7 (varM 0)) (someO (varM 1)) (someO (bin2 (addU false) (varM 1) (preM lenU (consA (varM 5) nilA))))) (setM 4)) (seqM (stE (bmM appendU (attrM (fun c => (([] : List (Nat × RunD)).lookup c).map attrP) (fun c => ([2] : List Nat).contains c) 12 (varM 0)) (consA (tupM (consA (varM 3) (consA (bin2 (addU false) (attrM (fun c => (([] : List (Nat × RunD)).lookup c).map attrP) (fun c => ([2] : List Nat).contains c) 11 (varM 0)) (varM 1)) (consA (varM 4) nilA)))) nilA)) (fun _ => nxM)) (seqM (stE (methM (fun c => ([(1, (2, r_Loops_touch))] : List (Nat × (Nat × RunD))).lookup c) 24 (varM 2) (consA (bin2 subU (bin2 subU (preM lenU (consA (attrM (fun c => (([] : List (Nat × RunD)).lookup c).map attrP) (fun c => ([2] : List Nat).contains c) 7 (varM 0)) nilA)) (varM 1)) (preM lenU (consA (varM 5) nilA))) nilA)) (fun _ => nxM)) (seqM (stE2 (bin2 modU (bin2 (addU false) (attrM (fun c => (([] : List (Nat × RunD)).lookup c).map attrP) (fun c => ([2] : List Nat).contains c) 8 (varM 0)) (litM (.int 1))) (preM lenU (consA (attrM (fun c => (([] : List (Nat × RunD)).lookup c).map attrP) (fun c => ([0] : List Nat).contains c) 4 (attrM (fun c => (([] : List (Nat × RunD)).lookup c).map attrP) (fun c => ([2] : List Nat).contains c) 6 (varM 0))) nilA))) (varM 0) (fldM (fun c => ([2] : List Nat).contains c) 8)) (ifM (tobM (bin2 (eqX false (fun c => d_Scan_meet.eqt.lookup c)) (varM 3) (litM (.str (Str.ofString "stop").cps.toList)))) (seqM (stE2 (litM (.bl true)) (varM 0) (fldM (fun c => ([2] : List Nat).contains c) 9)) (stE2 (litM (.int 0)) (varM 0) (fldM (fun c => ([2] : List Nat).contains c) 8))) (ifM (tobM (bin2 (eqX false (fun c => d_Scan_meet.eqt.lookup c)) (varM 3) (litM (.str (Str.ofString "keep").cps.toList)))) (stE (methM (fun c => ([(2, (2, r_Scan_leave))] : List (Nat × (Nat × RunD))).lookup c) 29 (varM 0) (consA (bin2 (addU false) (varM 1) (iteM (tobM (bin2 (eqX false (fun c => d_Scan_meet.eqt.lookup c)) (attrM (fun c => (([] : List (Nat × RunD)).lookup c).map attrP) (fun c => ([0] : List Nat).contains c) 2 (attrM (fun c => (([] : List (Nat × RunD)).lookup c).map attrP) (fun c => ([2] : List Nat).contains c) 6 (varM 0))) (litM (.str (Str.ofString "one").cps.toList)))) (litM (.int 1)) (preM lenU (consA (varM 5) nilA)))) nilA)) (fun _ => nxM)) (seqM (stE (slM false (attrM (fun c => (([] : List (Nat × RunD)).lookup c).map attrP) (fun c => ([2] : List Nat).contains c) 7 (varM 0)) (someO (bin2 (addU false) (varM 1) (preM lenU (consA (varM 5) nilA)))) noneO) (setM 7)) (seqM (stE2 (bin2 (addU true) (bin2 (addU false) (slM false (attrM (fun c => (([] : List (Nat × RunD)).lookup c).map attrP) (fun c => ([2] : List Nat).contains c) 7 (varM 0)) noneO (someO (varM 1))) (compM false (seqI (varM 6)) (nameG 8) yesT (tupM (consA (varM 8) (consA (litM .non) nilA))) [8])) (varM 7)) (varM 0) (fldM (fun c => ([2] : List Nat).contains c) 7)) (seqM (stE (methM (fun c => ([(2, (2, r_Scan_leave))] : List (Nat × (Nat × RunD))).lookup c) 29 (varM 0) (consA (bin2 (addU false) (varM 1) (methM (fun c => ([(2, (2, r_Scan_turned))] : List (Nat × (Nat × RunD))).lookup c) 31 (varM 0) (consA (preM lenU (consA (varM 6) nilA)) nilA))) nilA)) (fun _ => nxM)) (stE2 (methM (fun c => ([(1, (3, r_Loops_is_again))] : List (Nat × (Nat × RunD))).lookup c) 25 (varM 2) (consA (attrM (fun c => (([] : List (Nat × RunD)).lookup c).map attrP) (fun c => ([2] : List Nat).contains c) 8 (varM 0)) (consA (attrM (fun c => (([] : List (Nat × RunD)).lookup c).map attrP) (fun c => ([2] : List Nat).contains c) 7 (varM 0)) nilA))) (varM 0) (fldM (fun c => ([2] : List Nat).contains c) 13)))))))))))))
theorem den_Scan_meet : dSs (dS d_Scan_meet 40 (defScope s_Scan_meet) fnT) (defBody s_Scan_meet) = m_Scan_meet := by kernel_rfl
theorem run_Scan_meet (us : List U) (G : List Ob) : runB d_Scan_meet 40 s_Scan_meet us G = runR (m_Scan_meet (startS d_Scan_meet.N us) G) := congrArg (fun m : MS => runR (m (startS d_Scan_meet.N us) G)) den_Scan_meet

def r_Scan_meet : RunD := fun us G => runR (m_Scan_meet (startS d_Scan_meet.N us) G)
theorem le_Scan_meet : Le r_Scan_meet (runB d_Scan_meet 40 s_Scan_meet) := fun us G => .inr (run_Scan_meet us G).symm

/-! Scan_feed -/
abbrev s_Scan_feed : Stmt := inClass (top 11) 1
def d_Scan_feed : Dn where
  N := ["self", "item", "loops", "place", "length"]
  gl := [("beginning_of", .fn 2 r_beginning_of), ("place_of", .fn 2 r_place_of), ("Loops", .mk 1 1 r_Loops_init)]
  bl := bls
  ty := []
  cls := [0]
  att := [("word", (0, [0], [])), ("stepper", (6, [2], [])), ("pending", (7, [2], [])), ("is_stopped", (9, [2], [])), ("written", (10, [2], [])), ("is_endless", (13, [2], []))]
  mth := [("write", (28, [(2, (2, r_Scan_write))])), ("leave", (29, [(2, (2, r_Scan_leave))])), ("meet", (30, [(2, (3, r_Scan_meet))]))]
  eqt := []
  mu := ["pending"]
  rmu := false
def m_Scan_feed : MS := (seqM (stE2 (lstM false nilA) (varM 0) (fldM (fun c => ([2] : List Nat).contains c) 10)) (seqM (ifM (tobM (attrM (fun c => (([] : List (Nat × RunD)).lookup c).map attrP) (fun c => ([2] : List Nat).contains c) 9 (varM 0))) (seqM (stE (methM (fun c => ([(2, (2, r_Scan_write))] : List (Nat × (Nat × RunD))).lookup c) 28 (varM 0) (consA (lstM false (consA (varM 1) nilA)) nilA)) (fun _ => nxM)) (stE (attrM (fun c => (([] : List (Nat × RunD)).lookup c).map attrP) (fun c => ([2] : List Nat).contains c) 10 (varM 0)) rtM)) nxM) (seqM (stE (bmM appendU (attrM (fun c => (([] : List (Nat × RunD)).lookup c).map attrP) (fun c => ([2] : List Nat).contains c) 7 (varM 0)) (consA (varM 1) nilA)) (fun _ => nxM)) (seqM (stE (makeM 1 1 r_Loops_init nilA) (setM 2)) (seqM (stE (callM 2 r_place_of (consA (attrM (fun c => (([] : List (Nat × RunD)).lookup c).map attrP) (fun c => ([0] : List Nat).contains c) 0 (attrM (fun c => (([] : List (Nat × RunD)).lookup c).map attrP) (fun c => ([2] : List Nat).contains c) 6 (varM 0))) (consA (attrM (fun c => (([] : List (Nat × RunD)).lookup c).map attrP) (fun c => ([2] : List Nat).contains c) 7 (varM 0)) nilA))) (setM 3)) (seqM (whileL (andT (tobM (bin2 (cmpU fun i j => decide (j ≤ i)) (varM 3) (litM (.int 0)))) (andT (notT (tobM (attrM (fun c => (([] : List (Nat × RunD)).lookup c).map attrP) (fun c => ([2] : List Nat).contains c) 9 (varM 0)))) (notT (tobM (attrM (fun c => (([] : List (Nat × RunD)).lookup c).map attrP) (fun c => ([2] : List Nat).contains c) 13 (varM 0)))))) (seqM (stE (methM (fun c => ([(2, (3, r_Scan_meet))] : List (Nat × (Nat × RunD))).lookup c) 30 (varM 0) (consA (varM 3) (consA (varM 2) nilA))) (fun _ => nxM)) (stE (callM 2 r_place_of (consA (attrM (fun c => (([] : List (Nat × RunD)).lookup c).map attrP) (fun c => ([0] : List Nat).contains c) 0 (attrM (fun c => (([] : List (Nat × RunD)).lookup c).map attrP) (fun c => ([2] : List Nat).contains c) 6 (varM 0))) (consA (attrM (fun c => (([] : List (Nat × RunD)).lookup c).map attrP) (fun c => ([2] : List Nat).contains c) 7 (varM 0)) nilA))) (setM 3))) wF) (seqM (ifM (tobM (attrM (fun c => (([] : List (Nat × RunD)).lookup c).map attrP) (fun c => ([2] : List Nat).contains c) 9 (varM 0))) (seqM (stE (methM (fun c => ([(2, (2, r_Scan_write))] : List (Nat × (Nat × RunD))).lookup c) 28 (varM 0) (consA (attrM (fun c => (([] : List (Nat × RunD)).lookup c).map attrP) (fun c => ([2] : List Nat).contains c) 7 (varM 0)) nilA)) (fun _ => nxM)) (stE2 (lstM true nilA) (varM 0) (fldM (fun c => ([2] : List Nat).contains c) 7))) (seqM (stE (callM 2 r_beginning_of (consA (attrM (fun c => (([] : List (Nat × RunD)).lookup c).map attrP) (fun c => ([0] : List Nat).contains c) 0 (attrM (fun c => (([] : List (Nat × RunD)).lookup c).map attrP) (fun c => ([2] : List Nat).contains c) 6 (varM 0))) (consA (attrM (fun c => (([] : List (Nat × RunD)).lookup c).map attrP) (fun c => ([2] : List Nat).contains c) 7 (varM 0)) nilA))) (setM 4)) (stE (methM (fun c => ([(2, (2, r_Scan_leave))] : List (Nat × (Nat × RunD))).lookup c) 29 (varM 0) (consA (bin2 subU (preM lenU (consA (attrM (fun c => (([] : List (Nat × RunD)).lookup c).map attrP) (fun c => ([2] : List Nat).contains c) 7 (varM 0)) nilA)) (varM 4)) nilA)) (fun _ => nxM)))) (stE (attrM (fun c => (([] : List (Nat × RunD)).lookup c).map attrP) (fun c => ([2] : List Nat).contains c) 10 (varM 0)) rtM))))))))
theorem den_Scan_feed : dSs (dS d_Scan_feed 40 (defScope s_Scan_feed) fnT) (defBody s_Scan_feed) = m_Scan_feed := by kernel_rfl
theorem run_Scan_feed (us : List U) (G : List Ob) : runB d_Scan_feed 40 s_Scan_feed us G = runR (m_Scan_feed (startS d_Scan_feed.N us) G) := congrArg (fun m : MS => runR (m (startS d_Scan_feed.N us) G)) den_Scan_feed

def r_Scan_feed : RunD := fun us G => runR (m_Scan_feed (startS d_Scan_feed.N us) G)
theorem le_Scan_feed : Le r_Scan_feed (runB d_Scan_feed 40 s_Scan_feed) := fun us G => .inr (run_Scan_feed us G).symm

/-! Scan_rest -/
abbrev s_Scan_rest : Stmt := inClass (top 11) 2
def d_Scan_rest : Dn where
  N := ["self"]
  gl := []
  bl := bls
  ty := []
  cls := [0]
  att := [("pending", (7, [2], [])), ("written", (10, [2], []))]
  mth := [("leave", (29, [(2, (2, r_Scan_leave))]))]
  eqt := []
  mu := []
  rmu := false
def m_Scan_rest : MS := (seqM (stE2 (lstM false nilA) (varM 0) (fldM (fun c => ([2] : List Nat).contains c) 10)) (seqM (stE (methM (fun c => ([(2, (2, r_Scan_leave))] : List (Nat × (Nat × RunD))).lookup c) 29 (varM 0) (consA (preM lenU (consA (attrM (fun c => (([] : List (Nat × RunD)).lookup c).map attrP) (fun c => ([2] : List Nat).contains c) 7 (varM 0)) nilA)) nilA)) (fun _ => nxM)) (stE (attrM (fun c => (([] : List (Nat × RunD)).lookup c).map attrP) (fun c => ([2] : List Nat).contains c) 10 (varM 0)) rtM)))
theorem den_Scan_rest : dSs (dS d_Scan_rest 40 (defScope s_Scan_rest) fnT) (defBody s_Scan_rest) = m_Scan_rest := by kernel_rfl
theorem run_Scan_rest (us : List U) (G : List Ob) : runB d_Scan_rest 40 s_Scan_rest us G = runR (m_Scan_rest (startS d_Scan_rest.N us) G) := congrArg (fun m : MS => runR (m (startS d_Scan_rest.N us) G)) den_Scan_rest

def r_Scan_rest : RunD := fun us G => runR (m_Scan_rest (startS d_Scan_rest.N us) G)
theorem le_Scan_rest : Le r_Scan_rest (runB d_Scan_rest 40 s_Scan_rest) := fun us G => .inr (run_Scan_rest us G).symm

/-! Outcome_init -/
abbrev s_Outcome_init : Stmt := inClass (top 28) 0
def d_Outcome_init : Dn where
  N := ["self", "text", "events", "fates"]
  gl := []
  bl := bls
  ty := []
  cls := [0]
  att := [("own_text", (15, [3], [])), ("own_events", (16, [3], [])), ("own_fates", (17, [3], []))]
  mth := []
  eqt := []
  mu := []
  rmu := false
def m_Outcome_init : MS := (seqM (stE2 (varM 1) (varM 0) (fldM (fun c => ([3] : List Nat).contains c) 15)) (seqM (stE2 (varM 2) (varM 0) (fldM (fun c => ([3] : List Nat).contains c) 16)) (stE2 (varM 3) (varM 0) (fldM (fun c => ([3] : List Nat).contains c) 17))))
theorem den_Outcome_init : dSs (dS d_Outcome_init 40 (defScope s_Outcome_init) fnT) (defBody s_Outcome_init) = m_Outcome_init := by kernel_rfl
theorem run_Outcome_init (us : List U) (G : List Ob) : runB d_Outcome_init 40 s_Outcome_init us G = runR (m_Outcome_init (startS d_Outcome_init.N us) G) := congrArg (fun m : MS => runR (m (startS d_Outcome_init.N us) G)) den_Outcome_init

/-! Outcome_text -/
abbrev s_Outcome_text : Stmt := inClass (top 28) 1
def d_Outcome_text : Dn where
  N := ["self"]
  gl := []
  bl := bls
  ty := []
  cls := [0]
  att := [("own_text", (15, [3], []))]
  mth := []
  eqt := []
  mu := []
  rmu := false
def m_Outcome_text : MS := (stE (attrM (fun c => (([] : List (Nat × RunD)).lookup c).map attrP) (fun c => ([3] : List Nat).contains c) 15 (varM 0)) rtM)
theorem den_Outcome_text : dSs (dS d_Outcome_text 40 (defScope s_Outcome_text) fnT) (defBody s_Outcome_text) = m_Outcome_text := by kernel_rfl
theorem run_Outcome_text (us : List U) (G : List Ob) : runB d_Outcome_text 40 s_Outcome_text us G = runR (m_Outcome_text (startS d_Outcome_text.N us) G) := congrArg (fun m : MS => runR (m (startS d_Outcome_text.N us) G)) den_Outcome_text

/-! Outcome_events -/
abbrev s_Outcome_events : Stmt := inClass (top 28) 2
def d_Outcome_events : Dn where
  N := ["self"]
  gl := []
  bl := bls
  ty := []
  cls := [0]
  att := [("own_events", (16, [3], []))]
  mth := []
  eqt := []
  mu := []
  rmu := false
def m_Outcome_events : MS := (stE (attrM (fun c => (([] : List (Nat × RunD)).lookup c).map attrP) (fun c => ([3] : List Nat).contains c) 16 (varM 0)) rtM)
theorem den_Outcome_events : dSs (dS d_Outcome_events 40 (defScope s_Outcome_events) fnT) (defBody s_Outcome_events) = m_Outcome_events := by kernel_rfl
theorem run_Outcome_events (us : List U) (G : List Ob) : runB d_Outcome_events 40 s_Outcome_events us G = runR (m_Outcome_events (startS d_Outcome_events.N us) G) := congrArg (fun m : MS => runR (m (startS d_Outcome_events.N us) G)) den_Outcome_events

/-! Outcome_len -/
abbrev s_Outcome_len : Stmt := inClass (top 28) 5
def d_Outcome_len : Dn where
  N := ["self"]
  gl := []
  bl := bls
  ty := []
  cls := [0]
  att := [("own_events", (16, [3], []))]
  mth := []
  eqt := []
  mu := []
  rmu := false
def m_Outcome_len : MS := (stE (preM lenU (consA (attrM (fun c => (([] : List (Nat × RunD)).lookup c).map attrP) (fun c => ([3] : List Nat).contains c) 16 (varM 0)) nilA)) rtM)
theorem den_Outcome_len : dSs (dS d_Outcome_len 40 (defScope s_Outcome_len) fnT) (defBody s_Outcome_len) = m_Outcome_len := by kernel_rfl
theorem run_Outcome_len (us : List U) (G : List Ob) : runB d_Outcome_len 40 s_Outcome_len us G = runR (m_Outcome_len (startS d_Outcome_len.N us) G) := congrArg (fun m : MS => runR (m (startS d_Outcome_len.N us) G)) den_Outcome_len

/-! old_place -/
abbrev s_old_place : Stmt := top 29
def d_old_place : Dn where
  N := ["hit", "first", "at", "item"]
  gl := []
  bl := bls
  ty := []
  cls := [0]
  att := []
  mth := []
  eqt := []
  mu := []
  rmu := false
def m_old_place : MS := (seqM (stE (bin2 idxU (bin2 idxU (varM 0) (litM (.int 0))) (litM (.int 1))) (setM 1)) (seqM (ifM (tobM (bin2 (isU false) (varM 1) (litM .non))) (stE (litM .non) rtM) nxM) (stE (iteM (tobM (preM allU (consA (compM false (enI (varM 0)) (tupG 2 (consG (nameG 2) (consG (nameG 3) nilG))) yesT (bin2 (eqX false (fun c => d_old_place.eqt.lookup c)) (bin2 idxU (varM 3) (litM (.int 1))) (bin2 (addU false) (varM 1) (varM 2))) [2, 3]) nilA))) (varM 1) (litM .non)) rtM)))
theorem den_old_place : dSs (dS d_old_place 40 (defScope s_old_place) fnT) (defBody s_old_place) = m_old_place := by kernel_rfl
theorem run_old_place (us : List U) (G : List Ob) : runB d_old_place 40 s_old_place us G = runR (m_old_place (startS d_old_place.N us) G) := congrArg (fun m : MS => runR (m (startS d_old_place.N us) G)) den_old_place

/-! gone_through -/
abbrev s_gone_through : Stmt := top 30
def d_gone_through : Dn where
  N := ["stepper", "items", "number", "scan", "found", "item", "events", "deed", "place", "hit"]
  gl := [("old_place", .fn 1 r_old_place), ("Scan", .mk 2 5 r_Scan_init)]
  bl := bls
  ty := []
  cls := [0]
  att := [("met", (12, [2], [])), ("is_endless", (13, [2], []))]
  mth := [("rest", (27, [(2, (1, r_Scan_rest))])), ("feed", (26, [(2, (2, r_Scan_feed))]))]
  eqt := []
  mu := ["found"]
  rmu := false
  xc := [("Endless", (7, some 18))]
  xs := exs
  xi := exi
def m_gone_through : MS := (seqM (stE (makeM 2 5 r_Scan_init (consA (varM 0) (consA (lstM false nilA) (consA (litM (.int 0)) (consA (litM (.bl false)) nilA))))) (setM 3)) (seqM (stE (lstM true nilA) (setM 4)) (seqM (forM (seqI (varM 1)) (nameG 5) (seqM (stE (bmM extendU (varM 4) (consA (methM (fun c => ([(2, (2, r_Scan_feed))] : List (Nat × (Nat × RunD))).lookup c) 26 (varM 3) (consA (varM 5) nilA)) nilA)) (fun _ => nxM)) (ifM (tobM (attrM (fun c => (([] : List (Nat × RunD)).lookup c).map attrP) (fun c => ([2] : List Nat).contains c) 13 (varM 3))) (stE (varM 2) (raiseM 7 18)) nxM))) (seqM (stE (bmM extendU (varM 4) (consA (methM (fun c => ([(2, (1, r_Scan_rest))] : List (Nat × (Nat × RunD))).lookup c) 27 (varM 3) nilA) nilA)) (fun _ => nxM)) (seqM (stE (compM false (seqI (attrM (fun c => (([] : List (Nat × RunD)).lookup c).map attrP) (fun c => ([2] : List Nat).contains c) 12 (varM 3))) (tupG 3 (consG (nameG 7) (consG (nameG 8) (consG (nameG 9) nilG)))) yesT (tupM (consA (varM 2) (consA (varM 7) (consA (varM 8) (consA (callM 1 r_old_place (consA (varM 9) nilA)) nilA))))) [7, 8, 9]) (setM 6)) (stE (tupM (consA (varM 4) (consA (varM 6) nilA))) rtM))))))
theorem den_gone_through : dSs (dS d_gone_through 40 (defScope s_gone_through) fnT) (defBody s_gone_through) = m_gone_through := by kernel_rfl
theorem run_gone_through (us : List U) (G : List Ob) : runB d_gone_through 40 s_gone_through us G = runR (m_gone_through (startS d_gone_through.N us) G) := congrArg (fun m : MS => runR (m (startS d_gone_through.N us) G)) den_gone_through

/-! fates_of -/
abbrev s_fates_of : Stmt := top 31
def d_fates_of : Dn where
  N := ["stepper", "text", "items", "events", "left", "found", "place", "item", "own", "is_whole", "end", "event", "at"]
  gl := []
  bl := bls
  ty := []
  cls := [0]
  att := [("word", (0, [0], []))]
  mth := []
  eqt := []
  mu := ["found"]
  rmu := false
def m_fates_of : MS := (seqM (stE (compM false (seqI (varM 2)) (nameG 7) yesT (bin2 idxU (varM 7) (litM (.int 1))) [7]) (setM 4)) (seqM (stE (dctM true) (setM 5)) (seqM (forM (preI rng1U (consA (bin2 (addU false) (bin2 subU (preM lenU (consA (varM 1) nilA)) (preM lenU (consA (attrM (fun c => (([] : List (Nat × RunD)).lookup c).map attrP) (fun c => ([0] : List Nat).contains c) 0 (varM 0)) nilA))) (litM (.int 1))) nilA)) (nameG 6) (ifM (tobM (bin2 (eqX false (fun c => d_fates_of.eqt.lookup c)) (slM false (varM 1) (someO (varM 6)) (someO (bin2 (addU false) (varM 6) (preM lenU (consA (attrM (fun c => (([] : List (Nat × RunD)).lookup c).map attrP) (fun c => ([0] : List Nat).contains c) 0 (varM 0)) nilA))))) (attrM (fun c => (([] : List (Nat × RunD)).lookup c).map attrP) (fun c => ([0] : List Nat).contains c) 0 (varM 0)))) (seqM (stE (compM false (seqI (varM 3)) (nameG 11) (tobM (bin2 (eqX false (fun c => d_fates_of.eqt.lookup c)) (bin2 idxU (varM 11) (litM (.int 3))) (varM 6))) (varM 11) [11]) (setM 8)) (seqM (stE (preM allU (consA (compM false (preI rng1U (consA (preM lenU (consA (attrM (fun c => (([] : List (Nat × RunD)).lookup c).map attrP) (fun c => ([0] : List Nat).contains c) 0 (varM 0)) nilA)) nilA)) (nameG 12) yesT (bin2 (inU false) (bin2 (addU false) (varM 6) (varM 12)) (varM 4)) [12]) nilA)) (setM 9)) (seqM (stE (iteM (tobM (varM 9)) (litM (.str (Str.ofString "stands").cps.toList)) (litM (.str (Str.ofString "lost").cps.toList))) (setM 10)) (seqM (ifM (tobM (preM anyU (consA (compM false (seqI (varM 8)) (nameG 11) yesT (bin2 (eqX false (fun c => d_fates_of.eqt.lookup c)) (bin2 idxU (varM 11) (litM (.int 1))) (litM (.str (Str.ofString "replace").cps.toList))) [11]) nilA))) (stE (litM (.str (Str.ofString "replaced").cps.toList)) (setM 10)) nxM) (stE3 (tupM (consA (preM lenU (consA (varM 8) nilA)) (consA (varM 10) nilA))) (varM 5) (varM 6) itemM))))) nxM)) (stE (varM 5) rtM))))
theorem den_fates_of : dSs (dS d_fates_of 40 (defScope s_fates_of) fnT) (defBody s_fates_of) = m_fates_of := by kernel_rfl
theorem run_fates_of (us : List U) (G : List Ob) : runB d_fates_of 40 s_fates_of us G = runR (m_fates_of (startS d_fates_of.N us) G) := congrArg (fun m : MS => runR (m (startS d_fates_of.N us) G)) den_fates_of

/-! run -/
abbrev s_run : Stmt := top 32
def d_run : Dn where
  N := ["stepper", "text", "items", "events", "number", "fates", "more", "place", "sign", "item"]
  gl := [("Outcome", .mk 3 4 r_Outcome_init), ("fates_of", .fn 4 r_fates_of), ("gone_through", .fn 3 r_gone_through), ("need_text", .fn 1 r_need_text)]
  bl := bls
  ty := []
  cls := [0]
  att := [("passes", (5, [0], []))]
  mth := []
  eqt := []
  mu := ["events"]
  rmu := false
def m_run : MS := (seqM (stE (callM 1 r_need_text (consA (varM 1) nilA)) (fun _ => nxM)) (seqM (stE (compM false (enI (varM 1)) (tupG 2 (consG (nameG 7) (consG (nameG 8) nilG))) yesT (tupM (consA (varM 8) (consA (varM 7) nilA))) [7, 8]) (setM 2)) (seqM (stE (lstM true nilA) (setM 3)) (seqM (forM (preI rng1U (consA (attrM (fun c => (([] : List (Nat × RunD)).lookup c).map attrP) (fun c => ([0] : List Nat).contains c) 5 (varM 0)) nilA)) (nameG 4) (seqM (stE (callM 3 r_gone_through (consA (varM 0) (consA (varM 2) (consA (varM 4) nilA)))) (asgM (tupG 2 (consG (nameG 2) (consG (nameG 6) nilG))))) (stE (bmM extendU (varM 3) (consA (varM 6) nilA)) (fun _ => nxM)))) (seqM (stE (callM 4 r_fates_of (consA (varM 0) (consA (varM 1) (consA (varM 2) (consA (varM 3) nilA))))) (setM 5)) (stE (makeM 3 4 r_Outcome_init (consA (joinM (litM (.str (Str.ofString "").cps.toList)) (compM false (seqI (varM 2)) (nameG 9) yesT (bin2 idxU (varM 9) (litM (.int 0))) [9])) (consA (preM tupleU (consA (varM 3) nilA)) (consA (varM 5) nilA)))) rtM))))))
theorem den_run : dSs (dS d_run 40 (defScope s_run) fnT) (defBody s_run) = m_run := by kernel_rfl
theorem run_run (us : List U) (G : List Ob) : runB d_run 40 s_run us G = runR (m_run (startS d_run.N us) G) := congrArg (fun m : MS => runR (m (startS d_run.N us) G)) den_run

/-! _law_random -/
abbrev s__law_random : Stmt := top 34
def d__law_random : Dn where
  N := ["_law_script", "_law_salt", "_law_seed", "_law_cell"]
  gl := []
  bl := bls
  ty := []
  cls := [0]
  att := []
  mth := []
  eqt := []
  mu := []
  rmu := true
def m__law_random : MS := (seqM (stE (varM 1) (setM 2)) (seqM (forM (seqI (varM 0)) (nameG 3) (stE (bin2 modU (preM intU1 (consA (bin2 (addU false) (bin2 (mulU false) (varM 2) (litM (.int 31))) (preM absU (consA (varM 3) nilA))) nilA)) (litM (.int 2147483647))) (setM 2))) (stE (bin2 (addU true) (lstM false (consA (varM 2) (consA (litM (.int 0)) nilA))) (compM false (seqI (varM 0)) (nameG 3) (tobM (bin2 (cmpU fun i j => decide (j ≤ i)) (varM 3) (bin2 powU (litM (.int 10)) (litM (.int 18))))) (varM 3) [3])) rtM)))
theorem den__law_random : dSs (dS d__law_random 40 (defScope s__law_random) fnT) (defBody s__law_random) = m__law_random := by kernel_rfl
theorem run__law_random (us : List U) (G : List Ob) : runB d__law_random 40 s__law_random us G = runR (m__law_random (startS d__law_random.N us) G) := congrArg (fun m : MS => runR (m (startS d__law_random.N us) G)) den__law_random

/-! _law_below -/
abbrev s__law_below : Stmt := top 35
def d__law_below : Dn where
  N := ["_law_d", "_law_size", "_law_result"]
  gl := []
  bl := bls
  ty := []
  cls := [0]
  att := []
  mth := []
  eqt := []
  mu := []
  rmu := false
def m__law_below : MS := (seqM (ifM (andT (tobM (bin2 (eqX false (fun c => d__law_below.eqt.lookup c)) (bin2 idxU (varM 0) (litM (.int 1))) (litM (.int 0)))) (tobM (bin2 (cmpU fun i j => decide (j < i)) (preM lenU (consA (varM 0) nilA)) (litM (.int 2))))) (stE3 (bmM popU (varM 0) (consA (litM (.int 2)) nilA)) (varM 0) (litM (.int 1)) itemM) nxM) (seqM (ifM (tobM (bin2 (cmpU fun i j => decide (j < i)) (bin2 idxU (varM 0) (litM (.int 1))) (litM (.int 0)))) (seqM (stE (bin2 modU (preM intU1 (consA (bin2 idxU (varM 0) (litM (.int 1))) nilA)) (varM 1)) (setM 2)) (seqM (stE3 (bin2 fdivU (bin2 idxU (varM 0) (litM (.int 1))) (varM 1)) (varM 0) (litM (.int 1)) itemM) (stE (varM 2) rtM))) nxM) (seqM (stE3 (bin2 modU (preM intU1 (consA (bin2 (addU false) (bin2 (mulU false) (bin2 idxU (varM 0) (litM (.int 0))) (litM (.int 48271))) (litM (.int 11))) nilA)) (litM (.int 2147483647))) (varM 0) (litM (.int 0)) itemM) (stE (bin2 modU (preM intU1 (consA (bin2 fdivU (bin2 idxU (varM 0) (litM (.int 0))) (litM (.int 64))) nilA)) (varM 1)) rtM))))
theorem den__law_below : dSs (dS d__law_below 40 (defScope s__law_below) fnT) (defBody s__law_below) = m__law_below := by kernel_rfl
theorem run__law_below (us : List U) (G : List Ob) : runB d__law_below 40 s__law_below us G = runR (m__law_below (startS d__law_below.N us) G) := congrArg (fun m : MS => runR (m (startS d__law_below.N us) G)) den__law_below

/-! _law_pick -/
abbrev s__law_pick : Stmt := top 36
def d__law_pick : Dn where
  N := ["_law_d", "_law_items"]
  gl := [("_law_below", .fn 2 r__law_below)]
  bl := bls
  ty := []
  cls := [0]
  att := []
  mth := []
  eqt := []
  mu := []
  rmu := false
def m__law_pick : MS := (stE (bin2 idxU (varM 1) (callM 2 r__law_below (consA (varM 0) (consA (preM lenU (consA (varM 1) nilA)) nilA)))) rtM)
theorem den__law_pick : dSs (dS d__law_pick 40 (defScope s__law_pick) fnT) (defBody s__law_pick) = m__law_pick := by kernel_rfl
theorem run__law_pick (us : List U) (G : List Ob) : runB d__law_pick 40 s__law_pick us G = runR (m__law_pick (startS d__law_pick.N us) G) := congrArg (fun m : MS => runR (m (startS d__law_pick.N us) G)) den__law_pick

/-! _law_drawn -/
abbrev s__law_drawn : Stmt := top 37
def d__law_drawn : Dn where
  N := ["_law_d", "_law_word", "_law_new", "_law_chances", "_law_goes"]
  gl := [("_law_pick", .fn 2 r__law_pick), ("_law_below", .fn 2 r__law_below)]
  bl := bls
  ty := []
  cls := [0]
  att := []
  mth := []
  eqt := []
  mu := []
  rmu := false
def m__law_drawn : MS := (seqM (stE (callM 2 r__law_pick (consA (varM 0) (consA (lstM false (consA (litM (.str (Str.ofString "a").cps.toList)) (consA (litM (.str (Str.ofString "ab").cps.toList)) (consA (litM (.str (Str.ofString "aa").cps.toList)) (consA (litM (.str (Str.ofString "aba").cps.toList)) (consA (litM (.str (Str.ofString "aab").cps.toList)) (consA (litM (.str (Str.ofString "abc").cps.toList)) nilA))))))) nilA))) (setM 1)) (seqM (stE (callM 2 r__law_pick (consA (varM 0) (consA (lstM false (consA (litM (.str (Str.ofString "").cps.toList)) (consA (litM (.str (Str.ofString "a").cps.toList)) (consA (litM (.str (Str.ofString "b").cps.toList)) (consA (litM (.str (Str.ofString "ab").cps.toList)) (consA (litM (.str (Str.ofString "ba").cps.toList)) (consA (litM (.str (Str.ofString "aa").cps.toList)) (consA (litM (.str (Str.ofString "aba").cps.toList)) (consA (litM (.str (Str.ofString "bab").cps.toList)) (consA (litM (.str (Str.ofString "aab").cps.toList)) (consA (litM (.str (Str.ofString "c").cps.toList)) nilA))))))))))) nilA))) (setM 2)) (seqM (stE (lstM false (consA (tupM (consA (litM (.str (Str.ofString "replace").cps.toList)) nilA)) (consA (tupM (consA (litM (.str (Str.ofString "replace").cps.toList)) nilA)) (consA (tupM (consA (litM (.str (Str.ofString "replace").cps.toList)) (consA (litM (.str (Str.ofString "keep").cps.toList)) nilA))) (consA (tupM (consA (litM (.str (Str.ofString "keep").cps.toList)) (consA (litM (.str (Str.ofString "replace").cps.toList)) nilA))) (consA (tupM (consA (litM (.str (Str.ofString "keep").cps.toList)) (consA (litM (.str (Str.ofString "keep").cps.toList)) (consA (litM (.str (Str.ofString "replace").cps.toList)) nilA)))) nilA)))))) (setM 3)) (seqM (stE (bin2 (addU false) (varM 3) (lstM false (consA (tupM (consA (litM (.str (Str.ofString "replace").cps.toList)) (consA (litM (.str (Str.ofString "replace").cps.toList)) (consA (litM (.str (Str.ofString "stop").cps.toList)) nilA)))) (consA (tupM (consA (litM (.str (Str.ofString "keep").cps.toList)) nilA)) (consA (tupM (consA (litM (.str (Str.ofString "keep").cps.toList)) (consA (litM (.str (Str.ofString "replace").cps.toList)) (consA (litM (.str (Str.ofString "stop").cps.toList)) nilA)))) nilA))))) (setM 3)) (seqM (stE (callM 2 r__law_pick (consA (varM 0) (consA (lstM false (consA (litM (.str (Str.ofString "one").cps.toList)) (consA (litM (.str (Str.ofString "all").cps.toList)) nilA))) nilA))) (setM 4)) (stE (tupM (consA (varM 1) (consA (varM 2) (consA (varM 4) (consA (callM 2 r__law_pick (consA (varM 0) (consA (lstM false (consA (litM (.str (Str.ofString "first").cps.toList)) (consA (litM (.str (Str.ofString "last").cps.toList)) (consA (litM (.str (Str.ofString "behind").cps.toList)) nilA)))) nilA))) (consA (callM 2 r__law_pick (consA (varM 0) (consA (varM 3) nilA))) (consA (bin2 (addU false) (litM (.int 1)) (callM 2 r__law_below (consA (varM 0) (consA (litM (.int 2)) nilA)))) nilA))))))) rtM))))))
theorem den__law_drawn : dSs (dS d__law_drawn 40 (defScope s__law_drawn) fnT) (defBody s__law_drawn) = m__law_drawn := by kernel_rfl
theorem run__law_drawn (us : List U) (G : List Ob) : runB d__law_drawn 40 s__law_drawn us G = runR (m__law_drawn (startS d__law_drawn.N us) G) := congrArg (fun m : MS => runR (m (startS d__law_drawn.N us) G)) den__law_drawn

/-! _law_make -/
abbrev s__law_make : Stmt := top 38
def d__law_make : Dn where
  N := ["_law_s"]
  gl := [("Stepper", .mkK 0 2 ["keep", "turn", "deeds", "passes"] r_Stepper_init)]
  bl := bls
  ty := []
  cls := [0]
  att := []
  mth := []
  eqt := []
  mu := []
  rmu := false
def m__law_make : MS := (stE (makeKM 0 2 4 r_Stepper_init (consA (bin2 idxU (varM 0) (litM (.int 0))) (consA (bin2 idxU (varM 0) (litM (.int 1))) nilA)) (consA (bin2 idxU (varM 0) (litM (.int 2))) (consA (bin2 idxU (varM 0) (litM (.int 3))) (consA (bin2 idxU (varM 0) (litM (.int 4))) (consA (bin2 idxU (varM 0) (litM (.int 5))) nilA))))) rtM)
theorem den__law_make : dSs (dS d__law_make 40 (defScope s__law_make) fnT) (defBody s__law_make) = m__law_make := by kernel_rfl
theorem run__law_make (us : List U) (G : List Ob) : runB d__law_make 40 s__law_make us G = runR (m__law_make (startS d__law_make.N us) G) := congrArg (fun m : MS => runR (m (startS d__law_make.N us) G)) den__law_make

/-! _law_text -/
abbrev s__law_text : Stmt := top 39
def d__law_text : Dn where
  N := ["_law_d", "_law_s", "_law_many", "_law_text_here", "_law_lap"]
  gl := [("_law_below", .fn 2 r__law_below), ("_law_pick", .fn 2 r__law_pick)]
  bl := bls
  ty := []
  cls := [0]
  att := []
  mth := []
  eqt := []
  mu := []
  rmu := false
def m__law_text : MS := (seqM (stE (litM (.str (Str.ofString "").cps.toList)) (setM 3)) (seqM (forM (preI rng1U (consA (callM 2 r__law_below (consA (varM 0) (consA (bin2 (addU false) (varM 2) (litM (.int 1))) nilA))) nilA)) (nameG 4) (stE (bin2 (addU false) (varM 3) (callM 2 r__law_pick (consA (varM 0) (consA (lstM false (consA (litM (.str (Str.ofString "a").cps.toList)) (consA (litM (.str (Str.ofString "b").cps.toList)) (consA (litM (.str (Str.ofString "c").cps.toList)) (consA (bin2 idxU (varM 1) (litM (.int 0))) (consA (bin2 idxU (varM 1) (litM (.int 0))) (consA (slM false (bin2 idxU (varM 1) (litM (.int 0))) noneO (someO (litM (.int 1)))) (consA (slM false (bin2 idxU (varM 1) (litM (.int 0))) (someO (litM (.int 1))) noneO) nilA)))))))) nilA)))) (setM 3))) (stE (slM false (varM 3) noneO (someO (varM 2))) rtM)))
theorem den__law_text : dSs (dS d__law_text 40 (defScope s__law_text) fnT) (defBody s__law_text) = m__law_text := by kernel_rfl
theorem run__law_text (us : List U) (G : List Ob) : runB d__law_text 40 s__law_text us G = runR (m__law_text (startS d__law_text.N us) G) := congrArg (fun m : MS => runR (m (startS d__law_text.N us) G)) den__law_text

/-! _law_ran -/
abbrev s__law_ran : Stmt := top 40
def d__law_ran : Dn where
  N := ["_law_s", "_law_text_here", "_law_found"]
  gl := [("run", .fn 2 r_run), ("_law_make", .fn 1 r__law_make)]
  bl := bls
  ty := []
  cls := [0]
  att := []
  mth := []
  eqt := []
  mu := []
  rmu := false
  xc := [("Endless", (7, some 18))]
  xs := exs
  xi := exi
def m__law_ran : MS := (seqM (stE (litM .non) (setM 2)) (seqM (tryM exs (stE (callM 2 r_run (consA (callM 1 r__law_make (consA (varM 0) nilA)) (consA (varM 1) nilA))) (setM 2)) [⟨7, none, (setX 2 (litX .non))⟩]) (stE (varM 2) rtM)))
theorem den__law_ran : dSs (dS d__law_ran 40 (defScope s__law_ran) fnT) (defBody s__law_ran) = m__law_ran := by kernel_rfl
theorem run__law_ran (us : List U) (G : List Ob) : runB d__law_ran 40 s__law_ran us G = runR (m__law_ran (startS d__law_ran.N us) G) := congrArg (fun m : MS => runR (m (startS d__law_ran.N us) G)) den__law_ran

/-! _law_bare -/
abbrev s__law_bare : Stmt := top 41
def d__law_bare : Dn where
  N := ["_law_outcome", "_law_number", "_law_event"]
  gl := []
  bl := bls
  ty := []
  cls := [0]
  att := [("events", (21, [], [(3, r_Outcome_events)]))]
  mth := []
  eqt := []
  mu := []
  rmu := false
def m__law_bare : MS := (stE (compM false (seqI (attrM (fun c => (([(3, r_Outcome_events)] : List (Nat × RunD)).lookup c).map attrP) (fun c => ([] : List Nat).contains c) 21 (varM 0))) (nameG 2) (tobM (bin2 (eqX false (fun c => d__law_bare.eqt.lookup c)) (bin2 idxU (varM 2) (litM (.int 0))) (varM 1))) (tupM (consA (bin2 idxU (varM 2) (litM (.int 1))) (consA (bin2 idxU (varM 2) (litM (.int 2))) nilA))) [2]) rtM)
theorem den__law_bare : dSs (dS d__law_bare 40 (defScope s__law_bare) fnT) (defBody s__law_bare) = m__law_bare := by kernel_rfl
theorem run__law_bare (us : List U) (G : List Ob) : runB d__law_bare 40 s__law_bare us G = runR (m__law_bare (startS d__law_bare.N us) G) := congrArg (fun m : MS => runR (m (startS d__law_bare.N us) G)) den__law_bare

/-! law -/
abbrev s_law : Stmt := top 42
def d_law : Dn where
  N := ["_law_script", "_law_d", "_law_lap", "_law_s", "_law_text_here", "_law_first", "_law_both", "_law_some", "_law_cut", "_law_many", "_law_second", "_law_deed"]
  gl := [("_law_bare", .fn 2 r__law_bare), ("_law_ran", .fn 2 r__law_ran), ("_law_text", .fn 3 r__law_text), ("_law_drawn", .fn 1 r__law_drawn), ("_law_random", .fn 2 r__law_random)]
  bl := bls
  ty := []
  cls := [0]
  att := [("text", (20, [], [(3, r_Outcome_text)]))]
  mth := []
  eqt := []
  mu := []
  rmu := false
  lnt := [(3, r_Outcome_len)]
def m_law : MS := (seqM (stE (callM 2 r__law_random (consA (varM 0) (consA (litM (.int 18)) nilA))) (setM 1)) (seqM (forM (preI rng1U (consA (litM (.int 3)) nilA)) (nameG 2) (seqM (stE (callM 1 r__law_drawn (consA (varM 1) nilA)) (setM 3)) (seqM (stE (callM 3 r__law_text (consA (varM 1) (consA (varM 3) (consA (litM (.int 12)) nilA)))) (setM 4)) (seqM (stE (callM 2 r__law_ran (consA (bin2 (addU false) (slM false (varM 3) noneO (someO (litM (.int 5)))) (tupM (consA (litM (.int 1)) nilA))) (consA (varM 4) nilA))) (setM 5)) (seqM (stE (callM 2 r__law_ran (consA (bin2 (addU false) (slM false (varM 3) noneO (someO (litM (.int 5)))) (tupM (consA (litM (.int 2)) nilA))) (consA (varM 4) nilA))) (setM 6)) (seqM (ifM (andT (tobM (bin2 (isU false) (varM 5) (litM .non))) (tobM (bin2 (isU true) (varM 6) (litM .non)))) (stE (litM (.bl false)) rtM) nxM) (seqM (ifM (tobM (bin2 (isU true) (varM 5) (litM .non))) (seqM (stE (callM 2 r__law_ran (consA (bin2 (addU false) (slM false (varM 3) noneO (someO (litM (.int 5)))) (tupM (consA (litM (.int 1)) nilA))) (consA (attrM (fun c => (([(3, r_Outcome_text)] : List (Nat × RunD)).lookup c).map attrP) (fun c => ([] : List Nat).contains c) 20 (varM 5)) nilA))) (setM 10)) (seqM (ifM (tobM (bin2 (eqX true (fun c => d_law.eqt.lookup c)) (bin2 (isU false) (varM 10) (litM .non)) (bin2 (isU false) (varM 6) (litM .non)))) (stE (litM (.bl false)) rtM) nxM) (ifM (tobM (bin2 (isU true) (varM 6) (litM .non))) (seqM (ifM (orT (tobM (bin2 (eqX true (fun c => d_law.eqt.lookup c)) (attrM (fun c => (([(3, r_Outcome_text)] : List (Nat × RunD)).lookup c).map attrP) (fun c => ([] : List Nat).contains c) 20 (varM 6)) (attrM (fun c => (([(3, r_Outcome_text)] : List (Nat × RunD)).lookup c).map attrP) (fun c => ([] : List Nat).contains c) 20 (varM 10)))) (tobM (bin2 (eqX true (fun c => d_law.eqt.lookup c)) (callM 2 r__law_bare (consA (varM 6) (consA (litM (.int 0)) nilA))) (callM 2 r__law_bare (consA (varM 5) (consA (litM (.int 0)) nilA)))))) (stE (litM (.bl false)) rtM) nxM) (ifM (tobM (bin2 (eqX true (fun c => d_law.eqt.lookup c)) (callM 2 r__law_bare (consA (varM 6) (consA (litM (.int 1)) nilA))) (callM 2 r__law_bare (consA (varM 10) (consA (litM (.int 0)) nilA))))) (stE (litM (.bl false)) rtM) nxM)) nxM))) nxM) (seqM (stE (slM false (preM tupleU (consA (compM false (seqI (bin2 idxU (varM 3) (litM (.int 4)))) (nameG 11) (tobM (bin2 (eqX true (fun c => d_law.eqt.lookup c)) (varM 11) (litM (.str (Str.ofString "stop").cps.toList)))) (varM 11) [11]) nilA)) noneO (someO (litM (.int 2)))) (setM 7)) (seqM (stE (callM 2 r__law_ran (consA (bin2 (addU false) (slM false (varM 3) noneO (someO (litM (.int 4)))) (tupM (consA (bin2 (addU false) (varM 7) (tupM (consA (litM (.str (Str.ofString "stop").cps.toList)) nilA))) (consA (litM (.int 1)) nilA)))) (consA (varM 4) nilA))) (setM 8)) (seqM (stE (litM (.int 0)) (setM 9)) (seqM (ifM (andT (tobM (bin2 (isU true) (varM 5) (litM .non))) (andT (tobM (bin2 (inU true) (litM (.str (Str.ofString "stop").cps.toList)) (bin2 idxU (varM 3) (litM (.int 4))))) (tobM (bin2 (eqX false (fun c => d_law.eqt.lookup c)) (preM (lenX (fun c => d_law.lnt.lookup c)) (consA (varM 7) nilA)) (preM (lenX (fun c => d_law.lnt.lookup c)) (consA (bin2 idxU (varM 3) (litM (.int 4))) nilA)))))) (seqM (stE (preM (lenX (fun c => d_law.lnt.lookup c)) (consA (varM 7) nilA)) (setM 9)) (ifM (tobM (bin2 (eqX true (fun c => d_law.eqt.lookup c)) (slM false (callM 2 r__law_bare (consA (varM 8) (consA (litM (.int 0)) nilA))) noneO (someO (varM 9))) (slM false (callM 2 r__law_bare (consA (varM 5) (consA (litM (.int 0)) nilA))) noneO (someO (varM 9))))) (stE (litM (.bl false)) rtM) nxM)) nxM) (ifM (orT (tobM (bin2 (isU false) (varM 8) (litM .non))) (orT (tobM (bin2 (cmpU fun i j => decide (j < i)) (preM (lenX (fun c => d_law.lnt.lookup c)) (consA (varM 8) nilA)) (bin2 (addU false) (preM (lenX (fun c => d_law.lnt.lookup c)) (consA (varM 7) nilA)) (litM (.int 1))))) (andT (tobM (bin2 (eqX true (fun c => d_law.eqt.lookup c)) (attrM (fun c => (([(3, r_Outcome_text)] : List (Nat × RunD)).lookup c).map attrP) (fun c => ([] : List Nat).contains c) 20 (varM 8)) (varM 4))) (tobM (bin2 (eqX false (fun c => d_law.eqt.lookup c)) (varM 7) (tupM nilA)))))) (stE (litM (.bl false)) rtM) nxM)))))))))))) (stE (litM (.bl true)) rtM)))
theorem den_law : dSs (dS d_law 40 (defScope s_law) fnT) (defBody s_law) = m_law := by kernel_rfl
theorem run_law (us : List U) (G : List Ob) : runB d_law 40 s_law us G = runR (m_law (startS d_law.N us) G) := congrArg (fun m : MS => runR (m (startS d_law.N us) G)) den_law

end FL

namespace FL
open PySem L2 PyProof.Rows
@[simp] theorem txt_3 : (Str.ofString "abc").cps.toList = [97, 98, 99] := by decide +kernel
@[simp] theorem txt_6 : (Str.ofString "one").cps.toList = [111, 110, 101] := by decide +kernel
@[simp] theorem txt_7 : (Str.ofString "all").cps.toList = [97, 108, 108] := by decide +kernel
@[simp] theorem txt_8 : (Str.ofString "first").cps.toList = [102, 105, 114, 115, 116] := by decide +kernel
@[simp] theorem txt_9 : (Str.ofString "last").cps.toList = [108, 97, 115, 116] := by decide +kernel
@[simp] theorem txt_10 : (Str.ofString "behind").cps.toList = [98, 101, 104, 105, 110, 100] := by decide +kernel
@[simp] theorem txt_11 : (Str.ofString "replace").cps.toList = [114, 101, 112, 108, 97, 99, 101] := by decide +kernel
@[simp] theorem txt_12 : (Str.ofString "keep").cps.toList = [107, 101, 101, 112] := by decide +kernel
@[simp] theorem txt_13 : (Str.ofString "stop").cps.toList = [115, 116, 111, 112] := by decide +kernel
@[simp] theorem txt_14 : (Str.ofString "").cps.toList = [] := by decide +kernel
@[simp] theorem txt_15 : (Str.ofString "word").cps.toList = [119, 111, 114, 100] := by decide +kernel
@[simp] theorem txt_16 : (Str.ofString "put").cps.toList = [112, 117, 116] := by decide +kernel
@[simp] theorem txt_17 : (Str.ofString "turn").cps.toList = [116, 117, 114, 110] := by decide +kernel
@[simp] theorem txt_18 : (Str.ofString "deeds").cps.toList = [100, 101, 101, 100, 115] := by decide +kernel
@[simp] theorem txt_19 : (Str.ofString "passes").cps.toList = [112, 97, 115, 115, 101, 115] := by decide +kernel
@[simp] theorem txt_20 : (Str.ofString "a").cps.toList = [97] := by decide +kernel
@[simp] theorem txt_21 : (Str.ofString "ab").cps.toList = [97, 98] := by decide +kernel
@[simp] theorem txt_22 : (Str.ofString "aa").cps.toList = [97, 97] := by decide +kernel
@[simp] theorem txt_23 : (Str.ofString "aba").cps.toList = [97, 98, 97] := by decide +kernel
@[simp] theorem txt_24 : (Str.ofString "aab").cps.toList = [97, 97, 98] := by decide +kernel
@[simp] theorem txt_25 : (Str.ofString "b").cps.toList = [98] := by decide +kernel
@[simp] theorem txt_26 : (Str.ofString "ba").cps.toList = [98, 97] := by decide +kernel
@[simp] theorem txt_27 : (Str.ofString "bab").cps.toList = [98, 97, 98] := by decide +kernel
@[simp] theorem txt_28 : (Str.ofString "c").cps.toList = [99] := by decide +kernel
@[simp] theorem txt_29 : (Str.ofString "stands").cps.toList = [115, 116, 97, 110, 100, 115] := by decide +kernel
@[simp] theorem txt_30 : (Str.ofString "lost").cps.toList = [108, 111, 115, 116] := by decide +kernel
@[simp] theorem txt_31 : (Str.ofString "replaced").cps.toList = [114, 101, 112, 108, 97, 99, 101, 100] := by decide +kernel
theorem le_is_integer : Le r_is_integer (runB d_is_integer 40 s_is_integer) := fun us G => by
  unfold r_is_integer
  split
  · refine .inr ?_
    rw [run_is_integer]
    simp [m_is_integer, d_is_integer, startS, runR, stE, andM, isiM, varM, tyOf, Ty.sub, notM, rtM]
  · exact .inl rfl
theorem le_is_text : Le r_is_text (runB d_is_text 40 s_is_text) := fun us G => by
  unfold r_is_text
  split
  · rename_i l
    split
    · rename_i hl
      refine .inr ?_
      rw [run_is_text]
      have hc : compM false (seqI (varM 0)) (nameG 1) yesT (bin2 (inU false) (varM 1) (litM c_SIGNS)) [1] [some (U.str l), none] G = newL false ((l.map fun c => U.str [c]).map fun u => match u with | .str a => .bl (infB a [97, 98, 99]) | u => u) G := by
        refine comp_items (by simp [seqI, varM]) fun u hu => ?_
        simp only [List.mem_map] at hu
        obtain ⟨c, _, rfl⟩ := hu
        exact ⟨_, rfl, rfl, by simp [bin2, varM, litM, inU, wipeS, c_SIGNS]⟩
      have hb : blsOf (l.map fun c => U.bl (infB [c] [97, 98, 99])) = some (l.map fun c => infB [c] [97, 98, 99]) := blsOf_fun _ _
      simp [m_is_text, d_is_text, startS, runR, stE, andM, isiM, varM, tyOf, Ty.sub, rtM, preM, consA, hc, newL_f, hl, nilA, allU, lstOf, Function.comp_def, hb, isT]
    · exact .inl rfl
  · refine .inr ?_
    rw [run_is_text]
    simp [m_is_text, d_is_text, startS, runR, stE, andM, isiM, varM, tyOf, Ty.sub, rtM]
  · exact .inl rfl
theorem flat_strs (zs : List W1) : (zs.map U.str).all flatU = true := by simp [flatU]
theorem eqF_strs (zs : List W1) (a : W1) : ((zs.map U.str).any fun z => eqF z (.str a)) = inW zs a := by simp [eqF, inW, List.any_map, Function.comp_def]
/-- a text among texts -/
theorem inU_strs (zs : List W1) (a : W1) (G : List Ob) : inU false (.str a) (.tup (zs.map .str)) G = .ok (.bl (inW zs a)) G := by
  simp only [inU, seqOf, flat_strs, eqF_strs]
  simp [flatU]
theorem le_is_one_of : Le r_is_one_of (runB d_is_one_of 40 s_is_one_of) := fun us G => by
  unfold r_is_one_of
  split
  · rename_i a ws
    split
    · rename_i zs e
      refine .inr ?_
      rw [run_is_one_of, strsOf_eq e]
      simp [m_is_one_of, d_is_one_of, startS, runR, stE, andM, isiM, varM, tyOf, Ty.sub, rtM, bin2, inU_strs]
    · exact .inl rfl
  · exact .inl rfl
theorem deeds_eq : c_DEEDS = .tup (deedsL.map .str) := by simp [c_DEEDS, deedsL, wRep, wKeep, wStop]
theorem le_are_deeds : Le r_are_deeds (runB d_are_deeds 40 s_are_deeds) := fun us G => by
  unfold r_are_deeds
  split
  · rename_i ds
    split
    · rename_i zs e
      split
      · rename_i hl
        refine .inr ?_
        rw [run_are_deeds, strsOf_eq e]
        have hc : compM false (seqI (varM 0)) (nameG 1) yesT (callM 2 r_is_one_of (consA (varM 1) (consA (litM c_DEEDS) nilA))) [1] [some (U.tup (zs.map U.str)), none] G = newL false ((zs.map U.str).map fun u => match u with | .str a => .bl (inW deedsL a) | u => u) G := by
          refine comp_seq (u := .tup (zs.map .str)) (by simp [seqI, varM, seqOf]) (by simp [seqOf]) fun u hu => ?_
          simp only [List.mem_map] at hu
          obtain ⟨a, _, rfl⟩ := hu
          exact ⟨_, rfl, rfl, by simp [callM, consA, varM, litM, wipeS, nilA, arM, r_is_one_of, deeds_eq]⟩
        have hb : blsOf (zs.map fun c => U.bl (inW deedsL c)) = some (zs.map fun c => inW deedsL c) := blsOf_fun _ _
        by_cases h1 : 1 ≤ zs.length
        · by_cases h2 : zs.length ≤ 3
          · have h1' : 1 ≤ (zs.length : Int) := by omega
            have h2' : (zs.length : Int) ≤ 3 := by omega
            simp [m_are_deeds, d_are_deeds, startS, runR, stE, andM, isiM, varM, tyOf, Ty.sub, rtM, seqM, ifM, orT, notT, tobM, chM, preM, consA, nilA, lenU, seqOf, cmpU, litM, blU, bin2, hc, newL_f, hl, allU, lstOf, hb, nxM, Function.comp_def, h1', h2', okDs, h1, h2]
          · have h1' : 1 ≤ (zs.length : Int) := by omega
            have h2' : ¬ (zs.length : Int) ≤ 3 := by omega
            simp [m_are_deeds, d_are_deeds, startS, runR, stE, andM, isiM, varM, tyOf, Ty.sub, rtM, seqM, ifM, orT, notT, tobM, chM, preM, consA, nilA, lenU, seqOf, cmpU, litM, blU, bin2, nxM, h1', h2', okDs, h1, h2]
        · have h1' : ¬ 1 ≤ (zs.length : Int) := by omega
          simp [m_are_deeds, d_are_deeds, startS, runR, stE, andM, isiM, varM, tyOf, Ty.sub, rtM, seqM, ifM, orT, notT, tobM, chM, preM, consA, nilA, lenU, seqOf, cmpU, litM, blU, bin2, nxM, h1', okDs, h1]
      · exact .inl rfl
    · exact .inl rfl
  · exact .inl rfl
theorem okS_parts {w p k t : W1} {zs : List W1} {n : Int} (h : okS w p k t zs n = true) : isT w = true ∧ 1 ≤ w.length ∧ w.length ≤ 3 ∧ isT p = true ∧ p.length ≤ 3 ∧ inW keepsL k = true ∧ inW turnsL t = true ∧ okDs zs = true ∧ 1 ≤ n ∧ n ≤ 2 := by
  simpa [okS, and_assoc] using h
theorem keeps_eq : c_KEEPS = .tup (keepsL.map .str) := by simp [c_KEEPS, keepsL]
theorem turns_eq : c_TURNS = .tup (turnsL.map .str) := by simp [c_TURNS, turnsL]
theorem le_need_fields : Le r_need_fields (runB d_need_fields 40 s_need_fields) := fun us G => by
  unfold r_need_fields
  split
  · rename_i w p k t ds n
    split
    · rename_i zs e
      split
      · rename_i ho
        obtain ⟨h1, h2, h3, h4, h5, h6, h7, h8, h9, h10⟩ := okS_parts ho
        refine .inr ?_
        rw [run_need_fields, strsOf_eq e]
        have hz : zs.length ≤ szL := by
          have := h8
          simp [okDs] at this
          have := this.1.2
          exact Nat.le_trans this (by decide)
        have hw : w.length ≤ szL := Nat.le_trans h3 (by decide)
        have hp : p.length ≤ szL := Nat.le_trans h5 (by decide)
        have g2 : (1 : Int) ≤ w.length := by omega
        have g3 : (w.length : Int) ≤ 3 := by omega
        have g5 : ¬ (3 : Int) < p.length := by omega
        simp [m_need_fields, d_need_fields, startS, runR, seqM, ifM, orT, notT, tobM, callM, consA, nilA, varM, litM, arM, r_is_text, r_is_one_of, r_are_deeds, r_is_integer, blU, hz, hw, hp, h1, h4, keeps_eq, turns_eq, h6, h7, h8, chM, preM, lenU, cmpU, g2, g3, g5, h9, h10, nxM, bin2]
      · exact .inl rfl
    · exact .inl rfl
  · exact .inl rfl
theorem le_Stepper_init : Le r_Stepper_init (runB d_Stepper_init 40 s_Stepper_init) := fun us G => by
  unfold r_Stepper_init
  split
  · rename_i i w p k t ds n
    split
    · rename_i zs hg e
      split
      · rename_i ho
        refine .inr ?_
        rw [run_Stepper_init, strsOf_eq e]
        obtain ⟨hi, hg⟩ := List.getElem?_eq_some_iff.mp hg
        simp [m_Stepper_init, d_Stepper_init, startS, runR, seqM, stE, stE2, callM, consA, nilA, varM, arM, r_need_fields, ho, nxM, fldM, hg, putU, List.getElem?_set, hi, stF]
      · exact .inl rfl
    · exact .inl rfl
  · exact .inl rfl
theorem isT_ok {l : W1} (h : isT l = true) : okC l = true := by
  unfold isT at h
  unfold okC
  rw [List.all_eq_true] at h ⊢
  intro c hc
  have := h c hc
  simp [infB, List.isPrefixOf] at this
  simp
  omega
theorem inW_ok {zs : List W1} {a : W1} (hz : zs.all okC = true) (h : inW zs a = true) : okC a = true := by
  unfold inW at h
  rw [List.any_eq_true] at h
  obtain ⟨z, hz1, e⟩ := h
  rw [beq_iff_eq] at e
  subst e
  exact List.all_eq_true.mp hz z hz1
theorem pds_strs {k : Nat} : ∀ {zs : List W1}, zs.all okC = true → pds k (zs.map .str) = true
  | [], _ => by cases k <;> rfl
  | z :: r, h => by
    rw [List.all_cons, Bool.and_eq_true] at h
    rw [List.map_cons]
    unfold pds
    rw [pds_strs h.2, Bool.and_true]
    cases k <;> (unfold pd; exact h.1)
theorem pd_str {k : Nat} {l : W1} (h : okC l = true) : pd k (.str l) = true := by cases k <;> (unfold pd; exact h)
theorem okDs_ok {zs : List W1} (h : okDs zs = true) : zs.all okC = true ∧ zs.length ≤ 3 ∧ 1 ≤ zs.length := by
  simp only [okDs, Bool.and_eq_true, decide_eq_true_eq] at h
  refine ⟨?_, h.1.2, h.1.1⟩
  rw [List.all_eq_true]
  exact fun z hz => inW_ok (by decide) (List.all_eq_true.mp h.2 z hz)
theorem okS_pd {w p k t : W1} {zs : List W1} {n : Int} (h : okS w p k t zs n = true) : pd 20 (.tup [.str w, .str p, .str k, .str t, .tup (zs.map .str), .int n]) = true := by
  obtain ⟨h1, h2, h3, h4, h5, h6, h7, h8, h9, h10⟩ := okS_parts h
  have hk : okC k = true := inW_ok (by decide) h6
  have ht : okC t = true := inW_ok (by decide) h7
  simp [pd, pds, isT_ok h1, isT_ok h4, hk, ht, pds_strs (okDs_ok h8).1]
theorem le_need_text : Le r_need_text (runB d_need_text 40 s_need_text) := fun us G => by
  unfold r_need_text
  split
  · rename_i l
    split
    · rename_i hl
      refine .inr ?_
      rw [run_need_text]
      cases e : isT l with
      | true => simp [m_need_text, d_need_text, startS, runR, ifM, notT, tobM, callM, consA, nilA, varM, arM, r_is_text, hl, e, blU, nxM]
      | false => simp [m_need_text, d_need_text, startS, runR, ifM, notT, tobM, callM, consA, nilA, varM, arM, r_is_text, hl, e, blU, raise0M, exT]
    · exact .inl rfl
  · exact .inl rfl
end FL

namespace FL
open PySem L2 PyProof.Rows
theorem tob_bl {m : ME} {s : Sg} {G G1 : List Ob} {b : Bool} (h : m s G = .ok (.bl b) G1) : tobM m s G = .ok b G1 := by unfold tobM; rw [h]; rfl
theorem add_int {s : Sg} {G : List Ob} {m1 m2 : ME} {x y z : Int} (h1 : m1 s G = .ok (.int x) G) (h2 : m2 s G = .ok (.int y) G) (e : x + y = z) : bin2 (addU false) m1 m2 s G = .ok (.int z) G := by
  rw [bin2_p h1 h2, ← e]
  rfl
theorem pre_all : ∀ (w m : W1), (w.mapIdx fun k c => decide (m[k]? = some c)).all (fun b => b) = w.isPrefixOf m
  | [], m => by simp
  | c :: w, [] => by simp
  | c :: w, d :: m => by
    rw [List.mapIdx_cons, List.all_cons]
    simp only [List.getElem?_cons_zero, List.getElem?_cons_succ]
    rw [pre_all w m]
    simp only [List.isPrefixOf, Option.some.injEq]
    congr 1
    rw [Bool.eq_iff_iff, decide_eq_true_eq, beq_iff_eq]
    exact eq_comm
theorem place_drop {w : W1} {l : List It1} {k : Nat} (hk : k < l.length) : placeO w (l.drop k) = if w.isPrefixOf ((sgn l).drop k) then some 0 else (placeO w (l.drop (k + 1))).map (· + 1) := by
  rw [List.drop_eq_getElem_cons hk]
  have : (sgn l).drop k = l[k].1 :: (l.drop (k + 1)).map (·.1) := by
    rw [← sgn_drop, List.drop_eq_getElem_cons hk]
    rfl
  rw [this]
  rfl
theorem place_none {w : W1} : ∀ {l : List It1}, l.length < w.length → placeO w l = none
  | [], h => by
    unfold placeO
    rw [if_neg (fun e => by rw [e] at h; exact Nat.lt_irrefl _ h)]
  | a :: l, h => by
    unfold placeO
    have h1 : w.isPrefixOf (a.1 :: l.map (·.1)) = false := by
      rw [Bool.eq_false_iff]
      intro z
      rw [List.isPrefixOf_iff_prefix] at z
      have := z.length_le
      simp at this h
      omega
    rw [h1, place_none (w := w) (l := l) (by simp at h; omega)]
    rfl
theorem itU_idx {G : List Ob} {u : U} {l : List It1} {s : Sg} {m : ME} {m0 : ME} {k : Nat} {i : It1} (h0 : m0 s G = .ok u G) (hu : lstOf G u = some (l.map itU)) (hm : m s G = .ok (.int k) G) (hi : l[k]? = some i) : bin2 idxU m0 m s G = .ok (itU i) G := by
  rw [bin2_p h0 hm]
  have hn : seqOf G u = some (l.map itU) := by
    cases u with
    | tup l' => cases hu
    | _ => exact hu
  have e : (l.map itU)[k]? = some (itU i) := by rw [List.getElem?_map, hi]; rfl
  cases u with
  | tup _ => cases hu
  | lst l' => cases hu; simp [idxU, seqOf, lstOf, atI_nat e]
  | sc l' => cases hu; simp [idxU, seqOf, lstOf, atI_nat e]
  | ref j => simp only [idxU, hn]; simp [atI_nat e]
  | _ => cases hu
theorem idx_tup0 {G : List Ob} {s : Sg} {m0 : ME} {us : List U} {u : U} {k : Nat} (h0 : m0 s G = .ok (.tup us) G) (hu : us[k]? = some u) : bin2 idxU m0 (litM (.int (k : Nat))) s G = .ok u G := by
  rw [bin2_p h0 (y := .int k) rfl]
  simp [idxU, seqOf, atI_nat hu]
theorem okC1 {c : Nat} {l : W1} (h : l.all (fun c => decide (c < 1114112)) = true) (hc : c ∈ l) : okC [c] = true := by
  have := List.all_eq_true.mp h c hc
  simpa [okC] using this
abbrev plT : MT := tobM (preM allU (consA (compM false (enI (varM 0)) (tupG 2 (consG (nameG 3) (consG (nameG 4) nilG))) yesT (bin2 (eqX false (fun c => d_place_of.eqt.lookup c)) (bin2 idxU (bin2 idxU (varM 1) (bin2 (addU false) (varM 2) (varM 3))) (litM (.int 0))) (varM 4)) [3, 4]) nilA))
theorem en_mem {w : W1} {u : U} (h : u ∈ enL (w.map fun c => .str [c])) : ∃ k c, w[k]? = some c ∧ u = .tup [.int (k : Nat), .str [c]] := by
  obtain ⟨k, hk⟩ := List.getElem?_of_mem h
  rw [enL_get, List.getElem?_map] at hk
  cases e : w[k]? with
  | none => rw [e] at hk; cases hk
  | some c => rw [e] at hk; cases hk; exact ⟨k, c, e, rfl⟩
section
variable {G : List Ob} {u : U} {w : W1} {l : List It1}
theorem place_test {k : Nat} {x3 x4 : Option U} (hu : lstOf G u = some (l.map itU)) (hw3 : w.length ≤ 3) (hk : k + w.length ≤ l.length) (h1 : w.all (fun c => decide (c < 1114112)) = true) (h2 : (sgn l).all (fun c => decide (c < 1114112)) = true) :
    plT [some (.str w), some u, some (.int (k : Nat)), x3, x4] G = .ok (w.isPrefixOf ((sgn l).drop k)) G := by
  have hit : enI (varM 0) [some (.str w), some u, some (.int (k : Nat)), x3, x4] G = .ok (.items (enL (w.map fun c => .str [c])), (enL (w.map fun c => U.str [c])).length) G := by
    rw [enL_len, List.length_map]
    rfl
  have hc := comp_items (mu := false) (g := tupG 2 (consG (nameG 3) (consG (nameG 4) nilG))) (t := yesT) (e := bin2 (eqX false (fun c => d_place_of.eqt.lookup c)) (bin2 idxU (bin2 idxU (varM 1) (bin2 (addU false) (varM 2) (varM 3))) (litM (.int 0))) (varM 4)) (own := [3, 4]) (s := [some (.str w), some u, some (.int (k : Nat)), x3, x4])
    (h := fun z => match z with | .tup [.int j, .str [c]] => .bl (decide ((sgn l)[k + j.toNat]? = some c)) | z => z) hit fun z hz => by
    obtain ⟨j, c, hj, rfl⟩ := en_mem hz
    have hjl : j < w.length := (List.getElem?_eq_some_iff.mp hj).1
    have hlt : k + j < l.length := by omega
    refine ⟨[some (.str w), some u, some (.int (k : Nat)), some (.int (j : Nat)), some (.str [c])], rfl, rfl, ?_⟩
    have i1 := itU_idx (s := [some (.str w), some u, some (.int (k : Nat)), some (.int (j : Nat)), some (.str [c])]) (m0 := varM 1) (m := bin2 (addU false) (varM 2) (varM 3)) (k := k + j) (i := l[k + j]) (G := G) rfl hu (add_int (x := k) (y := j) rfl rfl (by omega)) (List.getElem?_eq_getElem hlt)
    have i2 : bin2 idxU (bin2 idxU (varM 1) (bin2 (addU false) (varM 2) (varM 3))) (litM (.int 0)) [some (.str w), some u, some (.int (k : Nat)), some (.int (j : Nat)), some (.str [c])] G = .ok (.str [l[k + j].1]) G := idx_tup0 (k := 0) i1 rfl
    have hs : (sgn l)[k + j]? = some l[k + j].1 := by simp [sgn, hlt]
    have ok1 : okC [l[k + j].1] = true := okC1 h2 (List.mem_of_getElem? hs)
    have ok2 : okC [c] = true := okC1 h1 (List.mem_of_getElem? hj)
    rw [bin2_p (x := .str [l[k + j].1]) (y := .str [c]) i2 rfl, eqX_str ok1 ok2]
    simp only [Int.toNat_natCast, hs]
    congr 2
    simp only [Bool.false_eq_true, if_false]
    rw [Bool.eq_iff_iff, beq_iff_eq, decide_eq_true_eq]
    simp
  have hmap : (enL (w.map fun c => U.str [c])).map (fun z => match z with | .tup [.int j, .str [c]] => U.bl (decide ((sgn l)[k + j.toNat]? = some c)) | z => z) = (w.mapIdx fun j c => decide (((sgn l).drop k)[j]? = some c)).map U.bl := by
    refine List.ext_getElem? fun j => ?_
    rw [List.getElem?_map, enL_get, List.getElem?_map, List.getElem?_map, List.getElem?_mapIdx]
    cases w[j]? with
    | none => rfl
    | some c => simp [List.getElem?_drop]
  rw [hmap, newL_f (by simp; unfold szL; omega)] at hc
  refine tob_bl ((pre_one hc).trans ?_)
  simp only [allU, lstOf, blsOf_map]
  rw [pre_all]
theorem place_loop (hu : lstOf G u = some (l.map itU)) (hw0 : 0 < w.length) (hw3 : w.length ≤ 3) (h1 : w.all (fun c => decide (c < 1114112)) = true) (h2 : (sgn l).all (fun c => decide (c < 1114112)) = true) :
    ∀ (m k : Nat) (x2 x3 x4 : Option U), m + k = l.length + 1 - w.length →
      ∃ y2 y3 y4, forL (.items (rangeL 0 1 (l.length + 1 - w.length))) (nameG 2) (ifM plT (stE (varM 2) rtM) nxM) m k [some (.str w), some u, x2, x3, x4] G = (match placeO w (l.drop k) with | some p => .rt (.int ((k + p : Nat) : Int)) G | none => .nx [some (.str w), some u, y2, y3, y4] G)
  | 0, k, x2, x3, x4, e => by
    have hn : placeO w (l.drop k) = none := place_none (by rw [List.length_drop]; omega)
    rw [hn]
    refine ⟨x2, x3, x4, ?_⟩
    unfold forL
    have : (rangeL 0 1 (l.length + 1 - w.length))[k]? = none := List.getElem?_eq_none_iff.mpr (by simp [rangeL]; omega)
    simp only [itAt, this]
  | m + 1, k, x2, x3, x4, e => by
    have hk : k < l.length + 1 - w.length := by omega
    have hg : (rangeL 0 1 (l.length + 1 - w.length))[k]? = some (.int (k : Nat)) := by rw [rangeL_get, if_pos hk]; simp
    have ht := place_test (k := k) (x3 := x3) (x4 := x4) hu hw3 (by omega) h1 h2
    rw [place_drop (by omega)]
    unfold forL
    simp only [itAt, hg]
    have hs : nameG 2 (.int (k : Nat)) [some (.str w), some u, x2, x3, x4] = some [some (.str w), some u, some (.int (k : Nat)), x3, x4] := rfl
    simp only [hs]
    cases hb : w.isPrefixOf ((sgn l).drop k) with
    | true =>
      rw [hb] at ht
      rw [ifM_t ht, stE_rt rfl]
      exact ⟨none, none, none, rfl⟩
    | false =>
      rw [hb] at ht
      rw [ifM_f ht]
      obtain ⟨y2, y3, y4, q⟩ := place_loop hu hw0 hw3 h1 h2 m (k + 1) (some (.int (k : Nat))) x3 x4 (by omega)
      refine ⟨y2, y3, y4, ?_⟩
      show forL _ _ _ m (k + 1) _ G = _
      rw [q]
      cases placeO w (l.drop (k + 1)) with
      | none => rfl
      | some p => simp only [Bool.false_eq_true, if_false, Option.map_some]; congr 3; omega
end
theorem len_lst {G : List Ob} {u : U} {l : List It1} {s : Sg} {m : ME} (hu : lstOf G u = some (l.map itU)) (hm : m s G = .ok u G) : preM lenU (consA m nilA) s G = .ok (.int l.length) G := by
  rw [pre_one hm]
  cases u with
  | lst l' => cases hu; simp [lenU, seqOf, lstOf]
  | sc l' => cases hu; simp [lenU, seqOf, lstOf]
  | ref j => simp only [lenU, seqOf, hu]; simp
  | _ => cases hu
theorem sub_int {s : Sg} {G : List Ob} {m1 m2 : ME} {x y z : Int} (h1 : m1 s G = .ok (.int x) G) (h2 : m2 s G = .ok (.int y) G) (e : x - y = z) : bin2 subU m1 m2 s G = .ok (.int z) G := by
  rw [bin2_p h1 h2, ← e]
  rfl
theorem le_place_of : Le r_place_of (runB d_place_of 40 s_place_of) := fun us G => by
  unfold r_place_of
  split
  · rename_i w u
    cases eu : (lstOf G u).bind itsOf with
    | none => exact .inl rfl
    | some l =>
      by_cases hh : 0 < w.length ∧ w.length ≤ 3 ∧ w.all (fun c => decide (c < 1114112)) = true ∧ (sgn l).all (fun c => decide (c < 1114112)) = true ∧ l.length < szL
      rotate_left
      · exact .inl (if_neg hh)
      obtain ⟨h0, h3, h1, h2, hz⟩ := id hh
      simp only [if_pos hh]
      refine .inr ?_
      obtain ⟨us', e1, e2⟩ := Option.bind_eq_some_iff.mp eu
      have hu : lstOf G u = some (l.map itU) := by rw [e1, itsOf_eq e2]
      rw [run_place_of]
      have hs : startS d_place_of.N [.str w, u] = [some (.str w), some u, none, none, none] := rfl
      rw [hs]
      have hit : preI rng1U (consA (bin2 (addU false) (bin2 subU (preM lenU (consA (varM 1) nilA)) (preM lenU (consA (varM 0) nilA))) (litM (.int 1))) nilA) [some (.str w), some u, none, none, none] G = .ok (.items (rangeL 0 1 (l.length + 1 - w.length)), l.length + 1 - w.length) G := by
        have hl0 : preM lenU (consA (varM 0) nilA) [some (.str w), some u, none, none, none] G = .ok (.int w.length) G := by
          have : w.length ≤ szL := Nat.le_trans h3 (by decide)
          rw [pre_one (var_ok (u := .str w) rfl)]
          simp [lenU, this]
        rw [pre_oneI (add_int (sub_int (len_lst hu rfl) hl0 rfl) (y := 1) rfl rfl)]
        have hb : -(2 ^ 62 : Int) ≤ (l.length : Int) - w.length + 1 ∧ (l.length : Int) - w.length + 1 < 2 ^ 62 := by unfold szL at hz; omega
        simp only [rng1U]
        rw [if_pos hb]
        have : ((l.length : Int) - w.length + 1).toNat = l.length + 1 - w.length := by omega
        rw [this]
      obtain ⟨y2, y3, y4, q⟩ := place_loop hu h0 h3 h1 h2 (l.length + 1 - w.length) 0 none none none rfl
      rw [List.drop_zero] at q
      unfold m_place_of
      unfold seqM
      have hf : forM (preI rng1U (consA (bin2 (addU false) (bin2 subU (preM lenU (consA (varM 1) nilA)) (preM lenU (consA (varM 0) nilA))) (litM (.int 1))) nilA)) (nameG 2) (ifM plT (stE (varM 2) rtM) nxM) [some (.str w), some u, none, none, none] G = (match placeO w l with | some p => .rt (.int ((0 + p : Nat) : Int)) G | none => .nx [some (.str w), some u, y2, y3, y4] G) := by
        unfold forM
        rw [hit]
        exact q
      rw [hf]
      cases placeO w l with
      | none => simp [runR, stE, negM, litM, rtM]
      | some p => simp [runR]
  · exact .inl rfl
end FL

namespace FL
open PySem L2 PyProof.Rows
theorem drop_min {α : Type} (xs : List α) (a : Nat) : xs.drop (min a xs.length) = xs.drop a := by
  by_cases h : a ≤ xs.length
  · rw [Nat.min_eq_left h]
  · rw [Nat.min_eq_right (by omega), List.drop_length, List.drop_eq_nil_of_le (by omega)]
theorem cut_from {α : Type} {xs : List α} {a : Nat} : cutL xs (some (a : Int)) none = xs.drop a := by
  unfold cutL
  rw [HT.sIx_nat, HT.sIx_none, drop_min]
  refine List.take_of_length_le ?_
  rw [List.length_drop]
  omega
theorem cut_to {α : Type} {xs : List α} {a : Nat} : cutL xs none (some (a : Int)) = xs.take a := by
  unfold cutL
  rw [HT.sIx_nat, HT.sIx_none, List.drop_zero, Nat.sub_zero]
  by_cases h : a ≤ xs.length
  · rw [Nat.min_eq_left h]
  · rw [Nat.min_eq_right (by omega), List.take_length, List.take_of_length_le (by omega)]
theorem cut_mid {α : Type} {xs : List α} {a b : Nat} : cutL xs (some (a : Int)) (some ((a : Int) + b)) = (xs.drop a).take b := by
  have e : ((a : Int) + b) = ((a + b : Nat) : Int) := by omega
  unfold cutL
  rw [e, HT.sIx_nat, HT.sIx_nat, drop_min]
  by_cases h : a + b ≤ xs.length
  · rw [Nat.min_eq_left h, Nat.min_eq_left (show a ≤ xs.length by omega)]
    congr 1
    omega
  · rw [Nat.min_eq_right (show xs.length ≤ a + b by omega), List.take_of_length_le (by rw [List.length_drop]; omega), List.take_of_length_le (by rw [List.length_drop]; omega)]
theorem zip_all : ∀ (m w : W1), m.length ≤ w.length → (List.zipWith (fun a b => decide (a = b)) m w).all (fun b => b) = decide (m = w.take m.length)
  | [], w, _ => by simp
  | a :: m, [], h => by simp at h
  | a :: m, c :: w, h => by
    rw [List.zipWith_cons_cons, List.all_cons, zip_all m w (by simpa using h)]
    simp only [List.length_cons, List.take_succ_cons, List.cons.injEq, Bool.decide_and]
theorem someO_ok {s : Sg} {G : List Ob} {m : ME} {z : Int} (h : m s G = .ok (.int z) G) : someO m s G = .ok (some z) G := by unfold someO; rw [h]; rfl
theorem sl_lst {G : List Ob} {s : Sg} {u : U} {us : List U} {m0 : ME} {lo hi : Option Int} {m1 m2 : MO} (h0 : m0 s G = .ok u G) (hu : lstOf G u = some us) (h1 : m1 s G = .ok lo G) (h2 : m2 s G = .ok hi G) (hz : (cutL us lo hi).length ≤ szL) : slM false m0 m1 m2 s G = .ok (.lst (cutL us lo hi)) G := by
  unfold slM
  rw [h0]
  simp only [bind_ok, h1, h2]
  cases u with
  | lst l' => cases hu; simp only [slU, lstOf]; exact newL_f hz
  | sc l' => cases hu; simp only [slU, lstOf]; exact newL_f hz
  | ref j => simp only [slU, hu]; exact newL_f hz
  | _ => cases hu
theorem sl_lstT {G : List Ob} {s : Sg} {u : U} {us : List U} {m0 : ME} {lo hi : Option Int} {m1 m2 : MO} (h0 : m0 s G = .ok u G) (hu : lstOf G u = some us) (h1 : m1 s G = .ok lo G) (h2 : m2 s G = .ok hi G) (hz : (cutL us lo hi).length ≤ szL) : slM true m0 m1 m2 s G = .ok (.ref G.length) (G ++ [.lst (cutL us lo hi)]) := by
  unfold slM
  rw [h0]
  simp only [bind_ok, h1, h2]
  cases u with
  | lst l' => cases hu; simp only [slU, lstOf]; exact newL_t hz
  | sc l' => cases hu; simp only [slU, lstOf]; exact newL_t hz
  | ref j => simp only [slU, hu]; exact newL_t hz
  | _ => cases hu
theorem min2 {a b : Int} {G : List Ob} : minU [.lst [.int a, .int b]] G = .ok (.int (min a b)) G := by
  have e : minL [a, b] = min a b := by
    show (if b < a then b else a) = min a b
    by_cases h : b < a
    · rw [if_pos h]; omega
    · rw [if_neg h]; omega
  show (if 0 < [a, b].length then Rs.ok (U.int (minL [a, b])) G else Rs.bad) = _
  rw [if_pos (by simp), e]
theorem max2 {a b : Int} {G : List Ob} : maxU [.lst [.int a, .int b]] G = .ok (.int (max a b)) G := by
  have e : maxL [a, b] = max a b := by
    show (if b > a then b else a) = max a b
    by_cases h : b > a
    · rw [if_pos h]; omega
    · rw [if_neg h]; omega
  show (if 0 < [a, b].length then Rs.ok (U.int (maxL [a, b])) G else Rs.bad) = _
  rw [if_pos (by simp), e]
theorem pre3I {f : List U → List Ob → Rs (Itb × Nat)} {a b c : ME} {s : Sg} {G : List Ob} {x y z : U} (h1 : a s G = .ok x G) (h2 : b s G = .ok y G) (h3 : c s G = .ok z G) : preI f (consA a (consA b (consA c nilA))) s G = f [x, y, z] G := by
  unfold preI
  rw [consA_p h1 (consA_p h2 (consA_p h3 rfl))]
  simp only [bind_ok]
theorem rng_down {N : Nat} {G : List Ob} (h : N ≤ 1000) : rng3U [.int (N : Nat), .int 0, .int (-1)] G = .ok (.items (rangeL (N : Int) (-1) N), N) G := by
  have hb : True ∧ -(2 ^ 62 : Int) ≤ (N : Nat) ∧ ((N : Nat) : Int) < 2 ^ 62 ∧ -(2 ^ 62 : Int) ≤ 0 ∧ (0 : Int) < 2 ^ 62 := ⟨trivial, by omega, by omega, by omega, by omega⟩
  have hn : ((N : Nat) - 0 : Int).toNat = N := by omega
  simp only [rng3U, hn]
  rw [if_pos hb]
abbrev bgT : MT := tobM (preM allU (consA (compM false (preI zpU (consA (varM 3) (consA (varM 0) nilA))) (tupG 2 (consG (nameG 4) (consG (nameG 5) nilG))) yesT (bin2 (eqX false (fun c => d_beginning_of.eqt.lookup c)) (bin2 idxU (varM 4) (litM (.int 0))) (varM 5)) [4, 5]) nilA))
abbrev bgS : MS := stE (slM false (varM 1) (someO (bin2 subU (preM lenU (consA (varM 1) nilA)) (varM 2))) noneO) (setM 3)
section
variable {G : List Ob} {u : U} {w : W1} {l : List It1}
theorem zp_mem {m : List It1} {w : W1} {z : U} (h : z ∈ zpL (m.map itU) w) : ∃ i c, i ∈ m ∧ c ∈ w ∧ z = .tup [itU i, .str [c]] := by
  unfold zpL at h
  obtain ⟨k, hk⟩ := List.getElem?_of_mem h
  rw [List.getElem?_zipWith, List.getElem?_map] at hk
  cases e1 : m[k]? with
  | none => rw [e1] at hk; cases hk
  | some i =>
    cases e2 : w[k]? with
    | none => rw [e1, e2] at hk; cases hk
    | some c => rw [e1, e2] at hk; cases hk; exact ⟨i, c, List.mem_of_getElem? e1, List.mem_of_getElem? e2, rfl⟩
theorem begin_test {m : List It1} {x2 x4 x5 : Option U} (hm : m.length ≤ w.length) (hw3 : w.length ≤ 3) (h1 : w.all (fun c => decide (c < 1114112)) = true) (h2 : (sgn m).all (fun c => decide (c < 1114112)) = true) :
    bgT [some (.str w), some u, x2, some (.lst (m.map itU)), x4, x5] G = .ok (decide (sgn m = w.take m.length)) G := by
  have hlen : (zpL (m.map itU) w).length = min m.length w.length := by simp [zpL]
  have hit : preI zpU (consA (varM 3) (consA (varM 0) nilA)) [some (.str w), some u, x2, some (.lst (m.map itU)), x4, x5] G = .ok (.items (zpL (m.map itU) w), (zpL (m.map itU) w).length) G := by
    rw [hlen]
    unfold preI
    rw [consA_p (var_ok (u := .lst (m.map itU)) rfl) (consA_p (var_ok (u := .str w) rfl) rfl)]
    simp only [bind_ok, zpU, List.length_map]
  have hc := comp_items (mu := false) (g := tupG 2 (consG (nameG 4) (consG (nameG 5) nilG))) (t := yesT) (e := bin2 (eqX false (fun c => d_beginning_of.eqt.lookup c)) (bin2 idxU (varM 4) (litM (.int 0))) (varM 5)) (own := [4, 5]) (s := [some (.str w), some u, x2, some (.lst (m.map itU)), x4, x5])
    (h := fun z => match z with | .tup [.tup [.str [a], _], .str [c]] => .bl (decide (a = c)) | z => z) hit fun z hz => by
    obtain ⟨i, c, hi, hc, rfl⟩ := zp_mem hz
    refine ⟨[some (.str w), some u, x2, some (.lst (m.map itU)), some (itU i), some (.str [c])], rfl, rfl, ?_⟩
    have i2 : bin2 idxU (varM 4) (litM (.int 0)) [some (.str w), some u, x2, some (.lst (m.map itU)), some (itU i), some (.str [c])] G = .ok (.str [i.1]) G := idx_tup0 (k := 0) (var_ok rfl) rfl
    have ok1 : okC [i.1] = true := okC1 h2 (List.mem_map_of_mem (f := Prod.fst) hi)
    have ok2 : okC [c] = true := okC1 h1 hc
    rw [bin2_p (x := .str [i.1]) (y := .str [c]) i2 rfl, eqX_str ok1 ok2]
    simp only [Bool.false_eq_true, if_false, itU]
    congr 2
    rw [Bool.eq_iff_iff, beq_iff_eq, decide_eq_true_eq]
    simp
  have hmap : (zpL (m.map itU) w).map (fun z => match z with | .tup [.tup [.str [a], _], .str [c]] => U.bl (decide (a = c)) | z => z) = (List.zipWith (fun a b => decide (a = b)) (sgn m) w).map U.bl := by
    unfold zpL sgn
    refine List.ext_getElem? fun j => ?_
    simp only [List.getElem?_map, List.getElem?_zipWith]
    cases m[j]? with
    | none => rfl
    | some c => cases w[j]? <;> rfl
  rw [hmap, newL_f (by simp; unfold szL; omega)] at hc
  refine tob_bl ((pre_one hc).trans ?_)
  simp only [allU, lstOf, blsOf_map]
  rw [zip_all _ _ (by rw [sgn_len]; exact hm), sgn_len]
theorem begin_loop (hu : lstOf G u = some (l.map itU)) (hw0 : 0 < w.length) (hw3 : w.length ≤ 3) (h1 : w.all (fun c => decide (c < 1114112)) = true) (h2 : (sgn l).all (fun c => decide (c < 1114112)) = true) (N : Nat) (hN1 : N < w.length) (hN2 : N ≤ l.length) :
    ∀ (m k : Nat) (x2 x3 x4 x5 : Option U), m + k = N →
      ∃ y2 y3 y4 y5, forL (.items (rangeL (N : Int) (-1) N)) (nameG 2) (seqM bgS (ifM bgT (stE (varM 2) rtM) nxM)) m k [some (.str w), some u, x2, x3, x4, x5] G = (if beginO w l m = 0 then .nx [some (.str w), some u, y2, y3, y4, y5] G else .rt (.int (beginO w l m : Nat)) G)
  | 0, k, x2, x3, x4, x5, e => by
    refine ⟨x2, x3, x4, x5, ?_⟩
    unfold forL
    have : (rangeL (N : Int) (-1) N)[k]? = none := List.getElem?_eq_none_iff.mpr (by simp [rangeL]; omega)
    simp only [itAt, this]
    rfl
  | m + 1, k, x2, x3, x4, x5, e => by
    have hg : (rangeL (N : Int) (-1) N)[k]? = some (.int ((m + 1 : Nat) : Int)) := by
      rw [rangeL_get, if_pos (by omega)]
      congr 2
      omega
    unfold forL
    simp only [itAt, hg]
    have hs : nameG 2 (.int ((m + 1 : Nat) : Int)) [some (.str w), some u, x2, x3, x4, x5] = some [some (.str w), some u, some (.int ((m + 1 : Nat) : Int)), x3, x4, x5] := rfl
    simp only [hs]
    have hsl : slM false (varM 1) (someO (bin2 subU (preM lenU (consA (varM 1) nilA)) (varM 2))) noneO [some (.str w), some u, some (.int ((m + 1 : Nat) : Int)), x3, x4, x5] G = .ok (.lst ((l.drop (l.length - (m + 1))).map itU)) G := by
      refine (sl_lst (u := u) rfl hu (someO_ok (sub_int (z := ((l.length - (m + 1) : Nat) : Int)) (len_lst hu rfl) rfl (by omega))) rfl ?_).trans ?_
      · rw [cut_from, List.length_drop, List.length_map]; unfold szL; omega
      · rw [cut_from, List.map_drop]
    have hml : (l.drop (l.length - (m + 1))).length = m + 1 := by rw [List.length_drop]; omega
    have ht := begin_test (G := G) (u := u) (w := w) (m := l.drop (l.length - (m + 1))) (x2 := some (.int ((m + 1 : Nat) : Int))) (x4 := x4) (x5 := x5) (by omega) hw3 h1 (by
      rw [sgn_drop, List.all_eq_true]
      exact fun c hc => List.all_eq_true.mp h2 c (List.mem_of_mem_drop hc))
    rw [hml] at ht
    unfold beginO
    have hS : bgS [some (.str w), some u, some (.int ((m + 1 : Nat) : Int)), x3, x4, x5] G = .nx [some (.str w), some u, some (.int ((m + 1 : Nat) : Int)), some (.lst ((l.drop (l.length - (m + 1))).map itU)), x4, x5] G := stE_set hsl
    by_cases hb : (l.drop (l.length - (m + 1))).map (·.1) = w.take (m + 1)
    · have hb' : sgn (l.drop (l.length - (m + 1))) = w.take (m + 1) := hb
      have ht := ht.trans (show _ = Rs.ok true G by rw [hb']; simp)
      rw [seqM_nx hS, ifM_t ht, stE_rt rfl, if_pos hb]
      refine ⟨none, none, none, none, ?_⟩
      rw [if_neg (Nat.succ_ne_zero m)]
    · have hb' : ¬ sgn (l.drop (l.length - (m + 1))) = w.take (m + 1) := hb
      have ht := ht.trans (show _ = Rs.ok false G by simp [hb'])
      rw [seqM_nx hS, ifM_f ht, if_neg hb]
      exact begin_loop hu hw0 hw3 h1 h2 N hN1 hN2 m (k + 1) _ _ x4 x5 (by omega)
end
theorem le_beginning_of : Le r_beginning_of (runB d_beginning_of 40 s_beginning_of) := fun us G => by
  unfold r_beginning_of
  split
  · rename_i w u
    cases eu : (lstOf G u).bind itsOf with
    | none => exact .inl rfl
    | some l =>
      by_cases hh : 0 < w.length ∧ w.length ≤ 3 ∧ w.all (fun c => decide (c < 1114112)) = true ∧ (sgn l).all (fun c => decide (c < 1114112)) = true ∧ l.length < szL
      rotate_left
      · exact .inl (if_neg hh)
      obtain ⟨h0, h3, h1, h2, hz⟩ := id hh
      simp only [if_pos hh]
      refine .inr ?_
      obtain ⟨us', e1, e2⟩ := Option.bind_eq_some_iff.mp eu
      have hu : lstOf G u = some (l.map itU) := by rw [e1, itsOf_eq e2]
      rw [run_beginning_of]
      have hs : startS d_beginning_of.N [.str w, u] = [some (.str w), some u, none, none, none, none] := rfl
      rw [hs]
      generalize hN : min (w.length - 1) l.length = N
      have hmin : preM minU (consA (lstM false (consA (bin2 subU (preM lenU (consA (varM 0) nilA)) (litM (.int 1))) (consA (preM lenU (consA (varM 1) nilA)) nilA))) nilA) [some (.str w), some u, none, none, none, none] G = .ok (.int (N : Nat)) G := by
        have hl0 : preM lenU (consA (varM 0) nilA) [some (.str w), some u, none, none, none, none] G = .ok (.int w.length) G := by
          have : w.length ≤ szL := Nat.le_trans h3 (by decide)
          rw [pre_one (var_ok (u := .str w) rfl)]
          simp [lenU, this]
        have hl : lstM false (consA (bin2 subU (preM lenU (consA (varM 0) nilA)) (litM (.int 1))) (consA (preM lenU (consA (varM 1) nilA)) nilA)) [some (.str w), some u, none, none, none, none] G = .ok (.lst [.int ((w.length : Int) - 1), .int l.length]) G := by
          unfold lstM
          rw [consA_p (sub_int hl0 (y := 1) rfl rfl) (consA_p (len_lst hu rfl) rfl)]
          exact newL_f (by simp [szL])
        rw [pre_one hl, min2]
        congr 2
        omega
      have hit : preI rng3U (consA (preM minU (consA (lstM false (consA (bin2 subU (preM lenU (consA (varM 0) nilA)) (litM (.int 1))) (consA (preM lenU (consA (varM 1) nilA)) nilA))) nilA)) (consA (litM (.int 0)) (consA (negM (litM (.int 1))) nilA))) [some (.str w), some u, none, none, none, none] G = .ok (.items (rangeL (N : Int) (-1) N), N) G := by
        have hN2 : N < w.length := by omega
        rw [pre3I hmin (y := .int 0) rfl (z := .int (-1)) rfl]
        exact rng_down (by omega)
      obtain ⟨y2, y3, y4, y5, q⟩ := begin_loop hu h0 h3 h1 h2 N (by omega) (by omega) N 0 none none none none rfl
      unfold m_beginning_of
      unfold seqM
      have hf : forM (preI rng3U (consA (preM minU (consA (lstM false (consA (bin2 subU (preM lenU (consA (varM 0) nilA)) (litM (.int 1))) (consA (preM lenU (consA (varM 1) nilA)) nilA))) nilA)) (consA (litM (.int 0)) (consA (negM (litM (.int 1))) nilA)))) (nameG 2) (seqM bgS (ifM bgT (stE (varM 2) rtM) nxM)) [some (.str w), some u, none, none, none, none] G = (if beginO w l N = 0 then .nx [some (.str w), some u, y2, y3, y4, y5] G else .rt (.int (beginO w l N : Nat)) G) := by
        unfold forM
        rw [hit]
        exact q
      unfold seqM at hf
      rw [hf]
      by_cases z : beginO w l N = 0
      · rw [if_pos z, z]; simp [runR, stE, litM, rtM]
      · rw [if_neg z]; simp [runR]
  · exact .inl rfl
end FL

namespace FL
open PySem L2 PyProof.Rows
abbrev At0 (c j : Nat) (m : ME) : ME := attrM (fun c => (([] : List (Nat × RunD)).lookup c).map attrP) (fun c' => ([c] : List Nat).contains c') j m
abbrev Fl0 (c j : Nat) : U → U → MS := fldM (fun c' => ([c] : List Nat).contains c') j
def scL (s : Dr) (x : Sc) (p m : Nat) : List (Nat × U) := [(6, stU s), (7, .ref p), (8, .int (x.cur : Nat)), (9, .bl x.stop), (10, .lst (x.wr.map itU)), (11, .int (x.many : Nat)), (12, .ref m), (13, .bl x.endl)]
/-- a scan stands at i, what is pending at p, what was met at m -/
structure ScAt (G : List Ob) (i p m : Nat) (s : Dr) (x : Sc) : Prop where
  ins : G[i]? = some (.ins 2 (scL s x p m))
  pen : G[p]? = some (.lst (x.pend.map itU))
  met : G[m]? = some (.lst (x.met.map metU))
  ip : i ≠ p
  im : i ≠ m
  pm : p ≠ m
structure LpAt (G : List Ob) (j q : Nat) (sn : Seen) : Prop where
  ins : G[j]? = some (.ins 1 [(14, .ref q)])
  seen : G[q]? = some (.lst (sn.map seenU))
  jq : j ≠ q
structure Fr (G G' : List Ob) (S : List Nat) : Prop where
  len : G.length ≤ G'.length
  keep : ∀ k, k < G.length → k ∉ S → G'[k]? = G[k]?
theorem Fr.refl {G : List Ob} {S : List Nat} : Fr G G S := ⟨Nat.le_refl _, fun _ _ _ => rfl⟩
theorem Fr.trans {G G1 G2 : List Ob} {S S2 : List Nat} (a : Fr G G1 S) (b : Fr G1 G2 S2) (h : ∀ k ∈ S2, k ∈ S ∨ G.length ≤ k) : Fr G G2 S :=
  ⟨Nat.le_trans a.len b.len, fun k hk hS => by
    rw [b.keep k (Nat.lt_of_lt_of_le hk a.len) (fun z => (h k z).elim hS fun q => absurd hk (Nat.not_lt.mpr q)), a.keep k hk hS]⟩
theorem Fr.set {G : List Ob} {i : Nat} {o : Ob} : Fr G (G.set i o) [i] :=
  ⟨by rw [List.length_set]; exact Nat.le_refl _, fun k hk hS => List.getElem?_set_ne (fun z => hS (by simp [z]))⟩
theorem Fr.app {G g : List Ob} : Fr G (G ++ g) [] := ⟨by simp, fun k hk _ => List.getElem?_append_left hk⟩
theorem Fr.mono {G G1 : List Ob} {S S2 : List Nat} (a : Fr G G1 S) (h : ∀ k ∈ S, k ∈ S2) : Fr G G1 S2 := ⟨a.len, fun k hk hS => a.keep k hk fun z => hS (h k z)⟩
theorem Fr.get {G G1 : List Ob} {S : List Nat} (a : Fr G G1 S) {k : Nat} {o : Ob} (h : G[k]? = some o) (hS : k ∉ S) : G1[k]? = some o := by
  rw [a.keep k (List.getElem?_eq_some_iff.mp h).1 hS, h]
theorem ScAt.fr {G G1 : List Ob} {S : List Nat} {i p m : Nat} {s : Dr} {x : Sc} (h : ScAt G i p m s x) (a : Fr G G1 S) (hi : i ∉ S) (hp : p ∉ S) (hm : m ∉ S) : ScAt G1 i p m s x :=
  ⟨a.get h.ins hi, a.get h.pen hp, a.get h.met hm, h.ip, h.im, h.pm⟩
theorem LpAt.fr {G G1 : List Ob} {S : List Nat} {j q : Nat} {sn : Seen} (h : LpAt G j q sn) (a : Fr G G1 S) (hj : j ∉ S) (hq : q ∉ S) : LpAt G1 j q sn :=
  ⟨a.get h.ins hj, a.get h.seen hq, h.jq⟩
section
variable {G : List Ob} {i p m j q : Nat} {s : Dr} {x x' : Sc} {sn : Seen} {sg : Sg} {a : Nat}
theorem lt_of {G : List Ob} {k : Nat} {o : Ob} (h : G[k]? = some o) : k < G.length := (List.getElem?_eq_some_iff.mp h).1
theorem ScAt.upd (h : ScAt G i p m s x) (hp : x'.pend = x.pend) (hm : x'.met = x.met) : ScAt (G.set i (.ins 2 (scL s x' p m))) i p m s x' :=
  ⟨List.getElem?_set_self (lt_of h.ins), by rw [List.getElem?_set_ne h.ip, hp]; exact h.pen, by rw [List.getElem?_set_ne h.im, hm]; exact h.met, h.ip, h.im, h.pm⟩
theorem sc_at (h : ScAt G i p m s x) (hs : sg[a]? = some (some (.ref i))) : At0 2 6 (varM a) sg G = .ok (stU s) G ∧ At0 2 7 (varM a) sg G = .ok (.ref p) G ∧ At0 2 8 (varM a) sg G = .ok (.int (x.cur : Nat)) G ∧ At0 2 9 (varM a) sg G = .ok (.bl x.stop) G ∧
    At0 2 10 (varM a) sg G = .ok (.lst (x.wr.map itU)) G ∧ At0 2 11 (varM a) sg G = .ok (.int (x.many : Nat)) G ∧ At0 2 12 (varM a) sg G = .ok (.ref m) G ∧ At0 2 13 (varM a) sg G = .ok (.bl x.endl) G := by
  have hv := var_ok (G := G) hs
  refine ⟨?_, ?_, ?_, ?_, ?_, ?_, ?_, ?_⟩ <;> (unfold At0 attrM; rw [hv]; simp only [bind_ok, insOf, h.ins]; rfl)
theorem st_at {m0 : ME} (h0 : m0 sg G = .ok (stU s) G) : At0 0 0 m0 sg G = .ok (.str s.w) G ∧ At0 0 1 m0 sg G = .ok (.str s.p) G ∧ At0 0 2 m0 sg G = .ok (.str s.k) G ∧ At0 0 3 m0 sg G = .ok (.str s.t) G ∧ At0 0 4 m0 sg G = .ok (.tup (s.zs.map .str)) G ∧ At0 0 5 m0 sg G = .ok (.int s.n) G := by
  refine ⟨?_, ?_, ?_, ?_, ?_, ?_⟩ <;> (unfold At0 attrM; rw [h0]; rfl)
theorem fl_set {l : List (Nat × U)} {c k : Nat} {y : U} (h : G[i]? = some (.ins c l)) (hl : l.length < 1000) : Fl0 c k y (.ref i) sg G = .nx sg (G.set i (.ins c (putU k y l))) := by
  simp [fldM, h, hl]
theorem stE2_ok {mv mo : ME} {f : U → U → MS} {y o : U} {G1 : List Ob} (h1 : mv sg G = .ok y G1) (h2 : mo sg G1 = .ok o G1) : stE2 mv mo f sg G = f y o sg G1 := by
  unfold stE2
  rw [h1]
  simp only [h2]
theorem scL_len : (scL s x p m).length < 1000 := by simp [scL]
/-- a field of the scan is set -/
theorem sc_set {mv : ME} {k : Nat} {y : U} {G1 : List Ob} {p' : Nat} (h : G1[i]? = some (.ins 2 (scL s x p m))) (hs : sg[a]? = some (some (.ref i))) (hv : mv sg G = .ok y G1) (hy : putU k y (scL s x p m) = scL s x' p' m) : stE2 mv (varM a) (Fl0 2 k) sg G = .nx sg (G1.set i (.ins 2 (scL s x' p' m))) := by
  rw [stE2_ok hv (var_ok hs), fl_set h scL_len, hy]
theorem lst_copy {u : U} {us : List U} {mo : ME} (hm : mo sg G = .ok u G) (hu : lstOf G u = some us) (hz : us.length ≤ szL) : preM (listU false) (consA mo nilA) sg G = .ok (.lst us) G := by
  rw [pre_one hm]
  cases u with
  | lst l' => cases hu; simp only [listU, seqOf, lstOf]; exact newL_f hz
  | sc l' => cases hu; simp only [listU, seqOf, lstOf]; exact newL_f hz
  | ref j => simp only [listU, seqOf, hu]; exact newL_f hz
  | _ => cases hu
theorem add_lsts {m1 m2 : ME} {u1 u2 : List U} {mu : Bool} (h1 : m1 sg G = .ok (.lst u1) G) (h2 : m2 sg G = .ok (.lst u2) G) : bin2 (addU mu) m1 m2 sg G = newL mu (u1 ++ u2) G := by
  rw [bin2_p h1 h2]
  rfl
theorem write_ok (h : ScAt G i p m s x) {u : U} {l : List It1} (hu : ∀ o, lstOf (G.set i o) u = some (l.map itU)) (hu0 : lstOf G u = some (l.map itU)) (hz : x.wr.length + l.length ≤ szL) :
    r_Scan_write [.ref i, u] G = .ok .non (G.set i (.ins 2 (scL s (writeP l x) p m))) := by
  unfold r_Scan_write
  have hs : startS d_Scan_write.N [.ref i, u] = [some (.ref i), some u] := rfl
  rw [hs]
  unfold m_Scan_write
  have A := sc_at h (sg := [some (.ref i), some u]) (a := 0) rfl
  have e1 := sc_set (sg := [some (.ref i), some u]) (a := 0) (G := G) (G1 := G) (k := 10) (y := .lst ((x.wr ++ l).map itU)) (mv := bin2 (addU false) (At0 2 10 (varM 0)) (preM (listU false) (consA (varM 1) nilA))) (x' := { x with wr := x.wr ++ l }) (p' := p) h.ins rfl (by
    rw [add_lsts A.2.2.2.2.1 (lst_copy (var_ok rfl) hu0 (by rw [List.length_map]; omega)), newL_f (by simp; omega), List.map_append]) rfl
  rw [seqM_nx e1]
  have h2 := h.upd (x' := { x with wr := x.wr ++ l }) rfl rfl
  have A2 := sc_at h2 (sg := [some (.ref i), some u]) (a := 0) rfl
  have e2 := sc_set (sg := [some (.ref i), some u]) (a := 0) (G := G.set i (.ins 2 (scL s { x with wr := x.wr ++ l } p m))) (k := 11) (y := .int ((x.many + l.length : Nat) : Int)) (mv := bin2 (addU false) (At0 2 11 (varM 0)) (preM lenU (consA (varM 1) nilA))) (x' := writeP l x) (p' := p) h2.ins rfl (by
    exact add_int A2.2.2.2.2.2.1 (len_lst (hu _) (var_ok rfl)) (by simp)) rfl
  rw [e2, List.set_set]
  rfl
end
end FL

namespace FL
open PySem L2 PyProof.Rows
section
variable {G : List Ob} {i p m j q : Nat} {s : Dr} {x x' : Sc} {sn : Seen} {sg : Sg} {a : Nat}
theorem leave_ok (h : ScAt G i p m s x) {n : Nat} (hz : x.wr.length + x.pend.length ≤ szL) :
    ∃ G', r_Scan_leave [.ref i, .int (n : Nat)] G = .ok .non G' ∧ ScAt G' i G.length m s (leaveP n x) ∧ Fr G G' [i] := by
  have hlt := lt_of h.ins
  have hlp := lt_of h.pen
  have hlm := lt_of h.met
  have hw := write_ok h (u := .lst ((x.pend.take n).map itU)) (l := x.pend.take n) (fun _ => rfl) rfl (by rw [List.length_take]; omega)
  generalize hG1 : G.set i (.ins 2 (scL s (writeP (x.pend.take n) x) p m)) = G1 at hw
  have h1 : ScAt G1 i p m s (writeP (x.pend.take n) x) := by rw [← hG1]; exact h.upd rfl rfl
  have hl1 : G1.length = G.length := by rw [← hG1, List.length_set]
  have f1 : Fr G G1 [i] := by rw [← hG1]; exact Fr.set
  refine ⟨(G1 ++ [Ob.lst ((x.pend.drop n).map itU)]).set i (.ins 2 (scL s (leaveP n x) G.length m)), ?_, ?_, ?_⟩
  · unfold r_Scan_leave
    have hs : startS d_Scan_leave.N [.ref i, .int (n : Nat)] = [some (.ref i), some (.int (n : Nat))] := rfl
    rw [hs]
    unfold m_Scan_leave
    have A := sc_at h (sg := [some (.ref i), some (.int (n : Nat))]) (a := 0) rfl
    have sl : slM false (At0 2 7 (varM 0)) noneO (someO (varM 1)) [some (.ref i), some (.int (n : Nat))] G = .ok (.lst ((x.pend.take n).map itU)) G := by
      refine (sl_lst (u := .ref p) (us := x.pend.map itU) A.2.1 (by simp [lstOf, h.pen]) rfl (someO_ok rfl) (by rw [cut_to, List.length_take, List.length_map]; omega)).trans ?_
      rw [cut_to, List.map_take]
    have e1 : methM (fun c => ([(2, (2, r_Scan_write))] : List (Nat × (Nat × RunD))).lookup c) 28 (varM 0) (consA (slM false (At0 2 7 (varM 0)) noneO (someO (varM 1))) nilA) [some (.ref i), some (.int (n : Nat))] G = .ok .non G1 :=
      (meth_eval (c := 2) (l := scL s x p m) (n := 2) (r := r_Scan_write) (us := [.lst ((x.pend.take n).map itU)]) (var_ok rfl) (by simp [insOf, h.ins]) rfl rfl (consA_p sl rfl)).trans hw
    rw [seqM_stE e1 (fun _ => rfl)]
    have A1 := sc_at h1 (sg := [some (.ref i), some (.int (n : Nat))]) (a := 0) rfl
    have hz2 : (x.pend.drop n).length ≤ szL := by rw [List.length_drop]; omega
    have sl2 : slM true (At0 2 7 (varM 0)) (someO (varM 1)) noneO [some (.ref i), some (.int (n : Nat))] G1 = .ok (.ref G1.length) (G1 ++ [.lst ((x.pend.drop n).map itU)]) := by
      refine (sl_lstT (u := .ref p) (us := x.pend.map itU) A1.2.1 (by simp only [lstOf, h1.pen]; rfl) (someO_ok rfl) rfl (by rw [cut_from, List.length_drop, List.length_map]; rw [List.length_drop] at hz2; exact hz2)).trans ?_
      rw [cut_from, List.map_drop]
    rw [hl1] at sl2
    have g1 : (G1 ++ [Ob.lst ((x.pend.drop n).map itU)])[i]? = some (.ins 2 (scL s (writeP (x.pend.take n) x) p m)) := by
      rw [List.getElem?_append_left (by omega)]; exact h1.ins
    rw [sc_set (sg := [some (.ref i), some (.int (n : Nat))]) (a := 0) (G := G1) (G1 := G1 ++ [.lst ((x.pend.drop n).map itU)]) (k := 7) (y := .ref G.length) (x' := leaveP n x) (p' := G.length) g1 rfl sl2 rfl]
    rfl
  · refine ⟨List.getElem?_set_self (by simp; omega), ?_, ?_, by omega, h.im, by omega⟩
    · rw [List.getElem?_set_ne (by omega), ← hl1]
      simp [leaveP]
    · rw [List.getElem?_set_ne h.im, List.getElem?_append_left (by omega)]
      exact h1.met
  · exact (f1.trans (S := [i]) (Fr.app (G := G1)) (by simp)).trans Fr.set (by simp)
theorem leaveM_ok (h : ScAt G i p m s x) {n : Nat} {mm : ME} (hz : x.wr.length + x.pend.length ≤ szL) (hs : sg[0]? = some (some (.ref i))) (hm : mm sg G = .ok (.int (n : Nat)) G) :
    ∃ G', methM (fun c => ([(2, (2, r_Scan_leave))] : List (Nat × (Nat × RunD))).lookup c) 29 (varM 0) (consA mm nilA) sg G = .ok .non G' ∧ ScAt G' i G.length m s (leaveP n x) ∧ Fr G G' [i] := by
  obtain ⟨G', e, h1, h2⟩ := leave_ok h (n := n) hz
  exact ⟨G', (meth_eval (c := 2) (l := scL s x p m) (n := 2) (r := r_Scan_leave) (us := [.int (n : Nat)]) (var_ok hs) (by simp [insOf, h.ins]) rfl rfl (consA_p hm rfl)).trans e, h1, h2⟩
theorem okd_parts (h : okd s = true) : isT s.w = true ∧ 1 ≤ s.w.length ∧ s.w.length ≤ 3 ∧ isT s.p = true ∧ s.p.length ≤ 3 ∧ inW keepsL s.k = true ∧ inW turnsL s.t = true ∧ okDs s.zs = true ∧ 1 ≤ s.n ∧ s.n ≤ 2 := okS_parts h
theorem turned_ok (h : ScAt G i p m s x) (ho : okd s = true) {n : Nat} : r_Scan_turned [.ref i, .int (n : Nat)] G = .ok (.int (turnP s n : Nat)) G := by
  obtain ⟨h1, h2, h3, h4, h5, h6, h7, h8, h9, h10⟩ := okd_parts ho
  have okt : okC s.t = true := inW_ok (by decide) h7
  unfold r_Scan_turned
  have hs : startS d_Scan_turned.N [.ref i, .int (n : Nat)] = [some (.ref i), some (.int (n : Nat))] := rfl
  rw [hs]
  unfold m_Scan_turned
  have A := sc_at h (sg := [some (.ref i), some (.int (n : Nat))]) (a := 0) rfl
  have B := st_at A.1
  have t1 := tob_str (neg := false) (et := fun c => d_Scan_turned.eqt.lookup c) (b := litM (.str (Str.ofString "behind").cps.toList)) (y := wBehind) B.2.2.2.1 (by simp [litM, wBehind]) okt (by decide)
  have t2 := tob_str (neg := false) (et := fun c => d_Scan_turned.eqt.lookup c) (b := litM (.str (Str.ofString "last").cps.toList)) (y := wLast) B.2.2.2.1 (by simp [litM, wLast]) okt (by decide)
  unfold turnP
  by_cases e1 : s.t = wBehind
  · have t1 := t1.trans (show _ = Rs.ok true G by simp [e1])
    rw [seqM_ift t1 (stE_rt rfl), if_pos e1]
    rfl
  · have t1 := t1.trans (show _ = Rs.ok false G by simp [e1])
    rw [seqM_if t1, if_neg e1]
    by_cases e2 : s.t = wLast
    · have t2 := t2.trans (show _ = Rs.ok true G by simp [e2])
      rw [if_pos e2]
      have hl : lstM false (consA (litM (.int 0)) (consA (bin2 subU (varM 1) (litM (.int 1))) nilA)) [some (.ref i), some (.int (n : Nat))] G = .ok (.lst [.int 0, .int ((n : Int) - 1)]) G := by
        unfold lstM
        rw [consA_p (x := .int 0) rfl (consA_p (sub_int (x := n) (y := 1) rfl rfl rfl) rfl)]
        exact newL_f (by simp [szL])
      have hi : iteM (tobM (bin2 (eqX false (fun c => d_Scan_turned.eqt.lookup c)) (At0 0 3 (At0 2 6 (varM 0))) (litM (.str (Str.ofString "last").cps.toList)))) (preM maxU (consA (lstM false (consA (litM (.int 0)) (consA (bin2 subU (varM 1) (litM (.int 1))) nilA))) nilA)) (litM (.int 0)) [some (.ref i), some (.int (n : Nat))] G = .ok (.int ((n - 1 : Nat) : Int)) G := by
        unfold iteM
        rw [t2]
        simp only [bind_ok, if_true]
        rw [pre_one hl, max2]
        congr 2
        omega
      rw [stE_rt hi]
      rfl
    · have t2 := t2.trans (show _ = Rs.ok false G by simp [e2])
      rw [if_neg e2]
      have hi : iteM (tobM (bin2 (eqX false (fun c => d_Scan_turned.eqt.lookup c)) (At0 0 3 (At0 2 6 (varM 0))) (litM (.str (Str.ofString "last").cps.toList)))) (preM maxU (consA (lstM false (consA (litM (.int 0)) (consA (bin2 subU (varM 1) (litM (.int 1))) nilA))) nilA)) (litM (.int 0)) [some (.ref i), some (.int (n : Nat))] G = .ok (.int 0) G := by
        unfold iteM
        rw [t2]
        rfl
      rw [stE_rt hi]
      rfl
theorem lp_at (h : LpAt G j q sn) (hs : sg[a]? = some (some (.ref j))) : At0 1 14 (varM a) sg G = .ok (.ref q) G := by
  have hv := var_ok (G := G) hs
  unfold At0 attrM
  rw [hv]
  simp only [bind_ok, insOf, h.ins]
  rfl
theorem touch_ok (h : LpAt G j q sn) {left : Nat} (hz : sn.length ≤ szL) : ∃ G', r_Loops_touch [.ref j, .int (left : Nat)] G = .ok .non G' ∧ LpAt G' j G.length (touchP left sn) ∧ Fr G G' [j] := by
  have hlj := lt_of h.ins
  refine ⟨(G ++ [Ob.lst ((touchP left sn).map seenU)]).set j (.ins 1 [(14, .ref G.length)]), ?_, ⟨List.getElem?_set_self (by simp; omega), ?_, by omega⟩, ((Fr.app (G := G)).mono (S2 := [j]) (by simp)).trans Fr.set (by simp)⟩
  · unfold r_Loops_touch
    have hs : startS d_Loops_touch.N [.ref j, .int (left : Nat)] = [some (.ref j), some (.int (left : Nat)), none] := rfl
    rw [hs]
    unfold m_Loops_touch
    have hq := lp_at h (sg := [some (.ref j), some (.int (left : Nat)), none]) (a := 0) rfl
    have hit : seqI (At0 1 14 (varM 0)) [some (.ref j), some (.int (left : Nat)), none] G = .ok (.seq (.ref q), (sn.map seenU).length) G := by
      unfold seqI
      rw [hq]
      simp [seqOf, lstOf, h.seen]
    have hc := comp_seqF (mu := true) (g := nameG 2) (t := tobM (bin2 (cmpU fun i j => decide (i ≤ j)) (bin2 idxU (varM 2) (litM (.int 1))) (varM 1))) (e := varM 2) (own := [2]) (s := [some (.ref j), some (.int (left : Nat)), none]) (h := fun z => z)
      (p := fun z => match z with | .tup [_, .int b, _] => decide (b ≤ (left : Int)) | _ => false) hit (by simp [seqOf, lstOf, h.seen]) fun z hz' => by
      obtain ⟨e, he, rfl⟩ := List.mem_map.mp hz'
      refine ⟨[some (.ref j), some (.int (left : Nat)), some (seenU e)], rfl, ?_, fun _ => rfl⟩
      have i1 : bin2 idxU (varM 2) (litM (.int 1)) [some (.ref j), some (.int (left : Nat)), some (seenU e)] G = .ok (.int (e.2.1 : Nat)) G := idx_tup0 (k := 1) (var_ok rfl) rfl
      unfold tobM
      rw [bin2_p i1 (var_ok (u := .int (left : Nat)) rfl)]
      rfl
    have hf : ((sn.map seenU).filter fun z => match z with | .tup [_, .int b, _] => decide (b ≤ (left : Int)) | _ => false) = (touchP left sn).map seenU := by
      unfold touchP
      rw [List.filter_map]
      congr 1
      refine List.filter_congr fun e he => ?_
      simp only [Function.comp, seenU]
      exact decide_eq_decide.mpr (by omega)
    rw [hf, List.map_id', newL_t (by rw [List.length_map]; exact Nat.le_trans (List.length_filter_le _ _) hz)] at hc
    rw [stE2_ok hc (var_ok (u := .ref j) rfl)]
    have e := fl_set (G := G ++ [Ob.lst ((touchP left sn).map seenU)]) (i := j) (c := 1) (k := 14) (y := .ref G.length) (sg := [some (.ref j), some (.int (left : Nat)), none]) (l := [(14, .ref q)]) (by rw [List.getElem?_append_left hlj]; exact h.ins) (by simp)
    exact congrArg runR e
  · rw [List.getElem?_set_ne (by omega)]
    simp
end
end FL

namespace FL
open PySem L2 PyProof.Rows
theorem join_sing : ∀ l : W1, TL.joinL [] (l.map fun c => [c]) = l
  | [] => rfl
  | [a] => rfl
  | a :: b :: r => by
    have := join_sing (b :: r)
    simp only [List.map_cons] at this ⊢
    unfold TL.joinL
    rw [this]
    rfl
theorem eqv_pair (a b : Nat) (x y : W1) : PyData.eqv (dP (.tup [.int (a : Nat), .str x])) (dP (.tup [.int (b : Nat), .str y])) = ((a, x) == (b, y)) := by
  have h1 := eqv_int (a : Int) (b : Int)
  have h2 := eqv_str x y
  show PyData.eqv (.tuple [dP (.int (a : Nat)), dP (.str x)]) (.tuple [dP (.int (b : Nat)), dP (.str y)]) = _
  simp only [PyData.eqv, PyData.eqvAll, h1, h2, Bool.and_true]
  rw [Bool.eq_iff_iff]
  simp only [Bool.and_eq_true, beq_iff_eq, Prod.mk.injEq]
  exact and_congr (by omega) Iff.rfl
theorem anyB_run {G : List Ob} {s : Sg} {m : ME} {bs : List Bool} (h : m s G = .ok (.lst (bs.map .bl)) G) : preM anyU (consA m nilA) s G = .ok (.bl (bs.any fun b => b)) G := by
  rw [pre_one h]
  simp only [anyU, lstOf, blsOf_map]
section
variable {G : List Ob} {i p m j q : Nat} {s : Dr} {x x' : Sc} {sn : Seen} {sg : Sg} {a : Nat}
abbrev agE : ME := andM (bin2 (eqX false (fun c => d_Loops_is_again.eqt.lookup c)) (bin2 idxU (varM 6) (litM (.int 0))) (varM 3)) (bin2 (cmpU fun i j => decide (i ≤ j)) (bin2 idxU (varM 6) (litM (.int 2))) (varM 4))
theorem okC_take {l : W1} {n : Nat} (h : okC l = true) : okC (l.take n) = true := by
  unfold okC at *
  rw [List.all_eq_true] at *
  exact fun c hc => h c (List.mem_of_mem_take hc)
theorem okC_drop {l : W1} {n : Nat} (h : okC l = true) : okC (l.drop n) = true := by
  unfold okC at *
  rw [List.all_eq_true] at *
  exact fun c hc => h c (List.mem_of_mem_drop hc)
theorem again_ok (h : LpAt G j q sn) {u : U} {l : List It1} {at_ : Nat} (hu : lstOf G u = some (l.map itU)) (hl : okC (sgn l) = true) (hs : ∀ e ∈ sn, okC e.1.2 = true) (hz : sn.length < szL) (hlz : l.length < szL) :
    ∃ G', r_Loops_is_again [.ref j, .int (at_ : Nat), u] G = .ok (.bl (againB at_ l sn)) G' ∧ LpAt G' j q (againS at_ l sn) ∧ Fr G G' [q] := by
  have hlq := lt_of h.seen
  have H : ∀ G', (againB at_ l sn = true → G' = G) → (againB at_ l sn = false → G' = G.set q (.lst ((sn ++ [(windP at_ l, l.length - 12, l.length)]).map seenU))) → LpAt G' j q (againS at_ l sn) ∧ Fr G G' [q] := fun G' h1 h2 => by
    cases e : againB at_ l sn with
    | true =>
      rw [h1 e]
      unfold againS
      rw [e]
      exact ⟨h, Fr.refl⟩
    | false =>
      rw [h2 e]
      unfold againS
      rw [e]
      exact ⟨⟨by rw [List.getElem?_set_ne (Ne.symm h.jq)]; exact h.ins, List.getElem?_set_self hlq, h.jq⟩, Fr.set⟩
  unfold r_Loops_is_again
  have hs0 : startS d_Loops_is_again.N [.ref j, .int (at_ : Nat), u] = [some (.ref j), some (.int (at_ : Nat)), some u, none, none, none, none, none] := rfl
  rw [hs0]
  unfold m_Loops_is_again
  -- the window
  have sl : slM false (varM 2) noneO (someO (litM (.int 12))) [some (.ref j), some (.int (at_ : Nat)), some u, none, none, none, none, none] G = .ok (.lst ((l.take 12).map itU)) G := by
    refine (sl_lst (u := u) (us := l.map itU) rfl hu rfl (someO_ok (z := ((12 : Nat) : Int)) rfl) (by rw [cut_to, List.length_take, List.length_map]; omega)).trans ?_
    rw [cut_to, List.map_take]
  have cm : compM false (seqI (slM false (varM 2) noneO (someO (litM (.int 12))))) (nameG 7) yesT (bin2 idxU (varM 7) (litM (.int 0))) [7] [some (.ref j), some (.int (at_ : Nat)), some u, none, none, none, none, none] G = .ok (.lst (((sgn l).take 12).map fun c => .str [c])) G := by
    have hit : seqI (slM false (varM 2) noneO (someO (litM (.int 12)))) [some (.ref j), some (.int (at_ : Nat)), some u, none, none, none, none, none] G = .ok (.seq (.lst ((l.take 12).map itU)), ((l.take 12).map itU).length) G := by
      unfold seqI
      rw [sl]
      simp [seqOf, lstOf]
    have hc := comp_seq (mu := false) (g := nameG 7) (t := yesT) (e := bin2 idxU (varM 7) (litM (.int 0))) (own := [7]) (s := [some (.ref j), some (.int (at_ : Nat)), some u, none, none, none, none, none]) (h := fun z => match z with | .tup [.str a, _] => .str a | z => z) hit rfl fun z hz' => by
      obtain ⟨e, he, rfl⟩ := List.mem_map.mp hz'
      exact ⟨[some (.ref j), some (.int (at_ : Nat)), some u, none, none, none, none, some (itU e)], rfl, rfl, idx_tup0 (k := 0) (var_ok rfl) rfl⟩
    refine hc.trans ?_
    have e : ((l.take 12).map itU).map (fun z => match z with | .tup [.str a, _] => .str a | z => z) = ((sgn l).take 12).map fun c => U.str [c] := by
      rw [← sgn_take]
      unfold sgn
      rw [List.map_map, List.map_map]
      rfl
    rw [e]
    exact newL_f (by rw [List.length_map, List.length_take]; unfold szL; omega)
  have hw : tupM (consA (varM 1) (consA (joinM (litM (.str (Str.ofString "").cps.toList)) (compM false (seqI (slM false (varM 2) noneO (someO (litM (.int 12))))) (nameG 7) yesT (bin2 idxU (varM 7) (litM (.int 0))) [7])) nilA)) [some (.ref j), some (.int (at_ : Nat)), some u, none, none, none, none, none] G = .ok (.tup [.int (at_ : Nat), .str (windP at_ l).2]) G := by
    have jn : joinM (litM (.str (Str.ofString "").cps.toList)) (compM false (seqI (slM false (varM 2) noneO (someO (litM (.int 12))))) (nameG 7) yesT (bin2 idxU (varM 7) (litM (.int 0))) [7]) [some (.ref j), some (.int (at_ : Nat)), some u, none, none, none, none, none] G = .ok (.str (windP at_ l).2) G := by
      unfold joinM
      have hl0 : litM (.str (Str.ofString "").cps.toList) [some (.ref j), some (.int (at_ : Nat)), some u, none, none, none, none, none] G = .ok (.str []) G := by simp [litM]
      rw [hl0]
      simp only [bind_ok]
      rw [cm]
      have e : ((sgn l).take 12).map (fun c => U.str [c]) = (((sgn l).take 12).map fun c => [c]).map U.str := by rw [List.map_map]; rfl
      simp only [bind_ok, lstOf]
      rw [e, strsOf_map]
      simp only [List.length_nil, Nat.mul_zero, Nat.add_zero, join_sing]
      have hs : ((((sgn l).take 12).map fun c => [c]).map List.length).sum ≤ szL := by
        rw [List.map_map]
        have : ∀ r : W1, (r.map (List.length ∘ fun c => [c])).sum = r.length := fun r => by
          induction r with
          | nil => rfl
          | cons a r ih => simp [ih]; omega
        rw [this, List.length_take]
        unfold szL; omega
      rw [if_pos hs, ← sgn_take]
      rfl
    unfold tupM
    rw [consA_p (var_ok (u := .int (at_ : Nat)) rfl) (consA_p jn rfl)]
    exact newT_ok' (by simp [szL])
  have hmx : preM maxU (consA (lstM false (consA (litM (.int 0)) (consA (bin2 subU (varM 4) (litM (.int 12))) nilA))) nilA) [some (.ref j), some (.int (at_ : Nat)), some u, some (.tup [.int (at_ : Nat), .str (windP at_ l).2]), some (.int l.length), none, none, none] G = .ok (.int ((l.length - 12 : Nat) : Int)) G := by
    have hl : lstM false (consA (litM (.int 0)) (consA (bin2 subU (varM 4) (litM (.int 12))) nilA)) [some (.ref j), some (.int (at_ : Nat)), some u, some (.tup [.int (at_ : Nat), .str (windP at_ l).2]), some (.int l.length), none, none, none] G = .ok (.lst [.int 0, .int ((l.length : Int) - 12)]) G := by
      unfold lstM
      rw [consA_p (x := .int 0) rfl (consA_p (sub_int (x := l.length) (y := 12) rfl rfl rfl) rfl)]
      exact newL_f (by simp [szL])
    rw [pre_one hl, max2]
    congr 2
    omega
  have pre : ∀ mt : MS, seqM (stE (tupM (consA (varM 1) (consA (joinM (litM (.str (Str.ofString "").cps.toList)) (compM false (seqI (slM false (varM 2) noneO (someO (litM (.int 12))))) (nameG 7) yesT (bin2 idxU (varM 7) (litM (.int 0))) [7])) nilA))) (setM 3)) (seqM (stE (preM lenU (consA (varM 2) nilA)) (setM 4)) (seqM (stE (preM maxU (consA (lstM false (consA (litM (.int 0)) (consA (bin2 subU (varM 4) (litM (.int 12))) nilA))) nilA)) (setM 5)) mt)) [some (.ref j), some (.int (at_ : Nat)), some u, none, none, none, none, none] G
      = mt [some (.ref j), some (.int (at_ : Nat)), some u, some (.tup [.int (at_ : Nat), .str (windP at_ l).2]), some (.int l.length), some (.int ((l.length - 12 : Nat) : Int)), none, none] G := fun mt =>
    (seqM_set hw).trans ((seqM_set (s := [some (.ref j), some (.int (at_ : Nat)), some u, some (.tup [.int (at_ : Nat), .str (windP at_ l).2]), none, none, none, none]) (len_lst hu (var_ok rfl))).trans (seqM_set (s := [some (.ref j), some (.int (at_ : Nat)), some u, some (.tup [.int (at_ : Nat), .str (windP at_ l).2]), some (.int l.length), none, none, none]) hmx))
  rw [pre]
  have hq := lp_at h (sg := [some (.ref j), some (.int (at_ : Nat)), some u, some (.tup [.int (at_ : Nat), .str (windP at_ l).2]), some (.int l.length), some (.int ((l.length - 12 : Nat) : Int)), none, none]) (a := 0) rfl
  have hany : tobM (preM anyU (consA (compM false (seqI (At0 1 14 (varM 0))) (nameG 6) yesT agE [6]) nilA)) [some (.ref j), some (.int (at_ : Nat)), some u, some (.tup [.int (at_ : Nat), .str (windP at_ l).2]), some (.int l.length), some (.int ((l.length - 12 : Nat) : Int)), none, none] G = .ok (againB at_ l sn) G := by
    have hit : seqI (At0 1 14 (varM 0)) [some (.ref j), some (.int (at_ : Nat)), some u, some (.tup [.int (at_ : Nat), .str (windP at_ l).2]), some (.int l.length), some (.int ((l.length - 12 : Nat) : Int)), none, none] G = .ok (.seq (.ref q), (sn.map seenU).length) G := by
      unfold seqI
      rw [hq]
      simp [seqOf, lstOf, h.seen]
    have hc := comp_seq (mu := false) (g := nameG 6) (t := yesT) (e := agE) (own := [6]) (s := [some (.ref j), some (.int (at_ : Nat)), some u, some (.tup [.int (at_ : Nat), .str (windP at_ l).2]), some (.int l.length), some (.int ((l.length - 12 : Nat) : Int)), none, none])
      (h := fun z => match z with | .tup [.tup [.int (.ofNat b), .str y], _, .int c] => .bl (((b, y) == windP at_ l) && decide (c ≤ (l.length : Int))) | z => z) hit (by simp [seqOf, lstOf, h.seen]) fun z hz' => by
      obtain ⟨e, he, rfl⟩ := List.mem_map.mp hz'
      refine ⟨[some (.ref j), some (.int (at_ : Nat)), some u, some (.tup [.int (at_ : Nat), .str (windP at_ l).2]), some (.int l.length), some (.int ((l.length - 12 : Nat) : Int)), some (seenU e), none], rfl, rfl, ?_⟩
      have i0 : bin2 idxU (varM 6) (litM (.int 0)) [some (.ref j), some (.int (at_ : Nat)), some u, some (.tup [.int (at_ : Nat), .str (windP at_ l).2]), some (.int l.length), some (.int ((l.length - 12 : Nat) : Int)), some (seenU e), none] G = .ok (.tup [.int (e.1.1 : Nat), .str e.1.2]) G := idx_tup0 (k := 0) (var_ok rfl) rfl
      have i2 : bin2 idxU (varM 6) (litM (.int 2)) [some (.ref j), some (.int (at_ : Nat)), some u, some (.tup [.int (at_ : Nat), .str (windP at_ l).2]), some (.int l.length), some (.int ((l.length - 12 : Nat) : Int)), some (seenU e), none] G = .ok (.int (e.2.2 : Nat)) G := idx_tup0 (k := 2) (var_ok rfl) rfl
      have p1 : pd 20 (.tup [.int (e.1.1 : Nat), .str e.1.2]) = true := by simp [pd, pds, hs e he]
      have p2 : pd 20 (.tup [.int (at_ : Nat), .str (windP at_ l).2]) = true := by
        have : okC (windP at_ l).2 = true := by
          show okC (sgn (l.take 12)) = true
          rw [sgn_take]
          exact okC_take hl
        simp [pd, pds, this]
      have c1 : bin2 (eqX false (fun c => d_Loops_is_again.eqt.lookup c)) (bin2 idxU (varM 6) (litM (.int 0))) (varM 3) [some (.ref j), some (.int (at_ : Nat)), some u, some (.tup [.int (at_ : Nat), .str (windP at_ l).2]), some (.int l.length), some (.int ((l.length - 12 : Nat) : Int)), some (seenU e), none] G = .ok (.bl (e.1 == windP at_ l)) G := by
        rw [bin2_p i0 (var_ok (u := .tup [.int (at_ : Nat), .str (windP at_ l).2]) rfl), eqX_pd p1 p2, eqv_pair]
        rfl
      have c2 : bin2 (cmpU fun i j => decide (i ≤ j)) (bin2 idxU (varM 6) (litM (.int 2))) (varM 4) [some (.ref j), some (.int (at_ : Nat)), some u, some (.tup [.int (at_ : Nat), .str (windP at_ l).2]), some (.int l.length), some (.int ((l.length - 12 : Nat) : Int)), some (seenU e), none] G = .ok (.bl (decide ((e.2.2 : Int) ≤ l.length))) G := by
        rw [bin2_p i2 (var_ok (u := .int l.length) rfl)]
        rfl
      show andM _ _ _ _ = _
      unfold andM
      rw [c1]
      cases hb : (e.1 == windP at_ l) with
      | true =>
        simp only [bind_ok]
        rw [c2]
        have : ((e.1.1, e.1.2) == windP at_ l) = true := hb
        simp only [seenU, Int.ofNat_eq_natCast]
        show _ = Rs.ok (U.bl (((e.1.1, e.1.2) == windP at_ l) && _)) G
        rw [this, Bool.true_and]
      | false =>
        have : ((e.1.1, e.1.2) == windP at_ l) = false := hb
        show _ = Rs.ok (U.bl (((e.1.1, e.1.2) == windP at_ l) && _)) G
        rw [this, Bool.false_and]
        rfl
    have e : (sn.map seenU).map (fun z => match z with | .tup [.tup [.int (.ofNat b), .str y], _, .int c] => U.bl (((b, y) == windP at_ l) && decide (c ≤ (l.length : Int))) | z => z) = (sn.map fun e => e.1 == windP at_ l && decide (e.2.2 ≤ l.length)).map U.bl := by
      rw [List.map_map, List.map_map]
      refine List.map_congr_left fun e he => ?_
      show U.bl (((e.1.1, e.1.2) == windP at_ l) && decide ((e.2.2 : Int) ≤ l.length)) = U.bl (e.1 == windP at_ l && decide (e.2.2 ≤ l.length))
      congr 2
      exact decide_eq_decide.mpr (by omega)
    rw [e, newL_f (by rw [List.length_map, List.length_map]; omega)] at hc
    refine (tob_bl (anyB_run hc)).trans ?_
    rw [List.any_map]
    rfl
  cases hb : againB at_ l sn with
  | true =>
    rw [hb] at hany
    refine ⟨G, ?_, H G (fun _ => rfl) (fun z => by rw [hb] at z; cases z)⟩
    rw [seqM_ift hany (stE_rt rfl)]
    rfl
  | false =>
    rw [hb] at hany
    refine ⟨G.set q (.lst ((sn ++ [(windP at_ l, l.length - 12, l.length)]).map seenU)), ?_, H _ (fun z => by rw [hb] at z; cases z) (fun _ => rfl)⟩
    rw [seqM_if hany]
    have ht : tupM (consA (varM 3) (consA (varM 5) (consA (varM 4) nilA))) [some (.ref j), some (.int (at_ : Nat)), some u, some (.tup [.int (at_ : Nat), .str (windP at_ l).2]), some (.int l.length), some (.int ((l.length - 12 : Nat) : Int)), none, none] G = .ok (seenU (windP at_ l, l.length - 12, l.length)) G := by
      unfold tupM
      rw [consA_p (var_ok (u := .tup [.int (at_ : Nat), .str (windP at_ l).2]) rfl) (consA_p (var_ok (u := .int ((l.length - 12 : Nat) : Int)) rfl) (consA_p (var_ok (u := .int l.length) rfl) rfl))]
      exact newT_ok' (by simp [szL])
    have hap : stE (bmM appendU (At0 1 14 (varM 0)) (consA (tupM (consA (varM 3) (consA (varM 5) (consA (varM 4) nilA)))) nilA)) (fun _ => nxM) [some (.ref j), some (.int (at_ : Nat)), some u, some (.tup [.int (at_ : Nat), .str (windP at_ l).2]), some (.int l.length), some (.int ((l.length - 12 : Nat) : Int)), none, none] G = .nx [some (.ref j), some (.int (at_ : Nat)), some u, some (.tup [.int (at_ : Nat), .str (windP at_ l).2]), some (.int l.length), some (.int ((l.length - 12 : Nat) : Int)), none, none] (G.set q (.lst ((sn ++ [(windP at_ l, l.length - 12, l.length)]).map seenU))) := by
      unfold stE bmM
      rw [hq]
      simp only [bind_ok, lstOfW, h.seen]
      rw [consA_p ht rfl]
      simp only [bind_ok, appendU, h.seen]
      rw [if_pos (by rw [List.length_map]; exact hz)]
      rw [List.map_append]
      rfl
    rw [seqM_nx hap]
    rfl
end
end FL

namespace FL
open PySem L2 PyProof.Rows
structure Dis (i p m j q : Nat) : Prop where
  ji : j ≠ i
  jp : j ≠ p
  jm : j ≠ m
  qi : q ≠ i
  qp : q ≠ p
  qm : q ≠ m
section
variable {G : List Ob} {i p m j q : Nat} {s : Dr} {x x' : Sc} {sn : Seen} {sg : Sg} {a : Nat}
theorem ScAt.setMet (h : ScAt G i p m s x) {l : List (W1 × Nat × List It1)} : ScAt (G.set m (.lst (l.map metU))) i p m s { x with met := l } :=
  ⟨by rw [List.getElem?_set_ne (Ne.symm h.im)]; exact h.ins, by rw [List.getElem?_set_ne (Ne.symm h.pm)]; exact h.pen, List.getElem?_set_self (lt_of h.met), h.ip, h.im, h.pm⟩
abbrev mtS : MS → MS := ifM (tobM (bin2 (eqX false (fun c => d_Scan_meet.eqt.lookup c)) (varM 3) (litM (.str (Str.ofString "stop").cps.toList)))) (seqM (stE2 (litM (.bl true)) (varM 0) (Fl0 2 9)) (stE2 (litM (.int 0)) (varM 0) (Fl0 2 8)))
abbrev mtK : ME := methM (fun c => ([(2, (2, r_Scan_leave))] : List (Nat × (Nat × RunD))).lookup c) 29 (varM 0) (consA (bin2 (addU false) (varM 1) (iteM (tobM (bin2 (eqX false (fun c => d_Scan_meet.eqt.lookup c)) (At0 0 2 (At0 2 6 (varM 0))) (litM (.str (Str.ofString "one").cps.toList)))) (litM (.int 1)) (preM lenU (consA (varM 5) nilA)))) nilA)
abbrev mtR : MS := seqM (stE (slM false (At0 2 7 (varM 0)) (someO (bin2 (addU false) (varM 1) (preM lenU (consA (varM 5) nilA)))) noneO) (setM 7)) (seqM (stE2 (bin2 (addU true) (bin2 (addU false) (slM false (At0 2 7 (varM 0)) noneO (someO (varM 1))) (compM false (seqI (varM 6)) (nameG 8) yesT (tupM (consA (varM 8) (consA (litM .non) nilA))) [8])) (varM 7)) (varM 0) (Fl0 2 7)) (seqM (stE (methM (fun c => ([(2, (2, r_Scan_leave))] : List (Nat × (Nat × RunD))).lookup c) 29 (varM 0) (consA (bin2 (addU false) (varM 1) (methM (fun c => ([(2, (2, r_Scan_turned))] : List (Nat × (Nat × RunD))).lookup c) 31 (varM 0) (consA (preM lenU (consA (varM 6) nilA)) nilA))) nilA)) (fun _ => nxM)) (stE2 (methM (fun c => ([(1, (3, r_Loops_is_again))] : List (Nat × (Nat × RunD))).lookup c) 25 (varM 2) (consA (At0 2 8 (varM 0)) (consA (At0 2 7 (varM 0)) nilA))) (varM 0) (Fl0 2 13))))
abbrev mt0 : MS := parM 5 6 (consA (At0 0 0 (At0 2 6 (varM 0))) (consA (At0 0 1 (At0 2 6 (varM 0))) nilA))
abbrev mt1 : MS := stE (bin2 idxU (At0 0 4 (At0 2 6 (varM 0))) (At0 2 8 (varM 0))) (setM 3)
abbrev mt2 : MS := stE (slM false (At0 2 7 (varM 0)) (someO (varM 1)) (someO (bin2 (addU false) (varM 1) (preM lenU (consA (varM 5) nilA))))) (setM 4)
abbrev mt3 : MS := stE (bmM appendU (At0 2 12 (varM 0)) (consA (tupM (consA (varM 3) (consA (bin2 (addU false) (At0 2 11 (varM 0)) (varM 1)) (consA (varM 4) nilA)))) nilA)) (fun _ => nxM)
abbrev mt4 : MS := stE (methM (fun c => ([(1, (2, r_Loops_touch))] : List (Nat × (Nat × RunD))).lookup c) 24 (varM 2) (consA (bin2 subU (bin2 subU (preM lenU (consA (At0 2 7 (varM 0)) nilA)) (varM 1)) (preM lenU (consA (varM 5) nilA))) nilA)) (fun _ => nxM)
abbrev mt5 : MS := stE2 (bin2 modU (bin2 (addU false) (At0 2 8 (varM 0)) (litM (.int 1))) (preM lenU (consA (At0 0 4 (At0 2 6 (varM 0))) nilA))) (varM 0) (Fl0 2 8)
theorem meet_m : m_Scan_meet = seqM mt0 (seqM mt1 (seqM mt2 (seqM mt3 (seqM mt4 (seqM mt5 (mtS (ifM (tobM (bin2 (eqX false (fun c => d_Scan_meet.eqt.lookup c)) (varM 3) (litM (.str (Str.ofString "keep").cps.toList)))) (stE mtK (fun _ => nxM)) mtR))))))) := rfl
theorem len_str {l : W1} {mm : ME} (h : mm sg G = .ok (.str l) G) (hz : l.length ≤ szL) : preM lenU (consA mm nilA) sg G = .ok (.int l.length) G := by
  rw [pre_one h]
  simp [lenU, hz]
theorem len_tup {l : List U} {mm : ME} (h : mm sg G = .ok (.tup l) G) : preM lenU (consA mm nilA) sg G = .ok (.int l.length) G := by
  rw [pre_one h]
  simp [lenU, seqOf]
theorem append_ok {mo my : ME} {k : Nat} {l : List U} {y : U} (h0 : mo sg G = .ok (.ref k) G) (hk : G[k]? = some (.lst l)) (hy : my sg G = .ok y G) (hz : l.length < szL) : stE (bmM appendU mo (consA my nilA)) (fun _ => nxM) sg G = .nx sg (G.set k (.lst (l ++ [y]))) := by
  unfold stE bmM
  rw [h0]
  simp only [bind_ok, lstOfW, hk]
  rw [consA_p hy rfl]
  simp only [bind_ok, appendU, hk]
  rw [if_pos hz]
  rfl
theorem deed_ok (ho : okd s = true) (hc : x.cur < s.zs.length) : okC (s.zs.getD x.cur []) = true ∧ s.zs[x.cur]? = some (s.zs.getD x.cur []) := by
  obtain ⟨h1, h2, h3, h4, h5, h6, h7, h8, h9, h10⟩ := okd_parts ho
  have e : s.zs[x.cur]? = some s.zs[x.cur] := List.getElem?_eq_getElem hc
  have e2 : s.zs.getD x.cur [] = s.zs[x.cur] := by simp [List.getD, e]
  rw [e2]
  exact ⟨List.all_eq_true.mp (okDs_ok h8).1 _ (List.getElem_mem hc), e⟩
/-- behind the notes: the scan's deed -/
theorem meet_head (h : ScAt G i p m s x) (hl : LpAt G j q sn) (d : Dis i p m j q) (ho : okd s = true) {pl : Nat} (hpl : pl + s.w.length ≤ x.pend.length) (hc : x.cur < s.zs.length) (hz : x.pend.length < szL) (hzm : x.met.length < szL) (hzs : sn.length < szL) (mt : MS) :
    ∃ G', seqM mt0 (seqM mt1 (seqM mt2 (seqM mt3 (seqM mt4 (seqM mt5 mt))))) [some (.ref i), some (.int (pl : Nat)), some (.ref j), none, none, none, none, none, none] G = mt [some (.ref i), some (.int (pl : Nat)), some (.ref j), some (.str (s.zs.getD x.cur [])), some (.lst (((x.pend.drop pl).take s.w.length).map itU)), some (.str s.w), some (.str s.p), none, none] G' ∧
      ScAt G' i p m s (noteP s pl x) ∧ LpAt G' j G.length (touchP (x.pend.length - pl - s.w.length) sn) ∧ Fr G G' [i, m, j] ∧ G.length < G'.length := by
  obtain ⟨h1, h2, h3, h4, h5, h6, h7, h8, h9, h10⟩ := okd_parts ho
  obtain ⟨dk, dg⟩ := deed_ok ho hc
  have A := sc_at h (sg := [some (.ref i), some (.int (pl : Nat)), some (.ref j), none, none, none, none, none, none]) (a := 0) rfl
  have B := st_at A.1
  have e0 : mt0 [some (.ref i), some (.int (pl : Nat)), some (.ref j), none, none, none, none, none, none] G = .nx [some (.ref i), some (.int (pl : Nat)), some (.ref j), none, none, some (.str s.w), some (.str s.p), none, none] G := by
    show parM _ _ _ _ _ = _
    unfold parM
    rw [consA_p B.1 (consA_p B.2.1 rfl)]
    rfl
  have A1 := sc_at h (sg := [some (.ref i), some (.int (pl : Nat)), some (.ref j), none, none, some (.str s.w), some (.str s.p), none, none]) (a := 0) rfl
  have B1 := st_at A1.1
  have e1 : mt1 [some (.ref i), some (.int (pl : Nat)), some (.ref j), none, none, some (.str s.w), some (.str s.p), none, none] G = .nx [some (.ref i), some (.int (pl : Nat)), some (.ref j), some (.str (s.zs.getD x.cur [])), none, some (.str s.w), some (.str s.p), none, none] G := by
    refine stE_set ?_
    rw [bin2_p B1.2.2.2.2.1 A1.2.2.1]
    have : (s.zs.map U.str)[x.cur]? = some (.str (s.zs.getD x.cur [])) := by rw [List.getElem?_map, dg]; rfl
    simp [idxU, seqOf, atI_nat this]
  have A2 := sc_at h (sg := [some (.ref i), some (.int (pl : Nat)), some (.ref j), some (.str (s.zs.getD x.cur [])), none, some (.str s.w), some (.str s.p), none, none]) (a := 0) rfl
  have lw : ∀ {G : List Ob} {x4 : Option U}, preM lenU (consA (varM 5) nilA) [some (.ref i), some (.int (pl : Nat)), some (.ref j), some (.str (s.zs.getD x.cur [])), x4, some (.str s.w), some (.str s.p), none, none] G = .ok (.int s.w.length) G := fun {G x4} => len_str (var_ok rfl) (Nat.le_trans h3 (by decide))
  have hlst : lstOf G (.ref p) = some (x.pend.map itU) := by simp [lstOf, h.pen]
  have e2 : mt2 [some (.ref i), some (.int (pl : Nat)), some (.ref j), some (.str (s.zs.getD x.cur [])), none, some (.str s.w), some (.str s.p), none, none] G = .nx [some (.ref i), some (.int (pl : Nat)), some (.ref j), some (.str (s.zs.getD x.cur [])), some (.lst (((x.pend.drop pl).take s.w.length).map itU)), some (.str s.w), some (.str s.p), none, none] G := by
    refine stE_set ?_
    refine (sl_lst (u := .ref p) (us := x.pend.map itU) A2.2.1 hlst (someO_ok rfl) (someO_ok (add_int (x := pl) (y := s.w.length) rfl lw rfl)) ?_).trans ?_
    · rw [cut_mid, List.length_take, List.length_drop, List.length_map]; omega
    · rw [cut_mid, ← List.map_drop, ← List.map_take]
  generalize hhit : (x.pend.drop pl).take s.w.length = hit at e2 ⊢
  generalize hsg : ([some (.ref i), some (.int (pl : Nat)), some (.ref j), some (.str (s.zs.getD x.cur [])), some (.lst (hit.map itU)), some (.str s.w), some (.str s.p), none, none] : Sg) = sg at e2 ⊢
  have A3 := sc_at h (sg := sg) (a := 0) (by rw [← hsg]; rfl)
  have e3 : mt3 sg G = .nx sg (G.set m (.lst ((noteP s pl x).met.map metU))) := by
    have := append_ok (sg := sg) (G := G) (mo := At0 2 12 (varM 0)) (my := tupM (consA (varM 3) (consA (bin2 (addU false) (At0 2 11 (varM 0)) (varM 1)) (consA (varM 4) nilA)))) (k := m) (l := x.met.map metU) (y := metU (s.zs.getD x.cur [], x.many + pl, hit)) A3.2.2.2.2.2.2.1 h.met (by
      unfold tupM
      rw [consA_p (x := .str (s.zs.getD x.cur [])) (by rw [← hsg]; rfl) (consA_p (add_int (x := x.many) (y := pl) (z := ((x.many + pl : Nat) : Int)) A3.2.2.2.2.2.1 (by rw [← hsg]; rfl) (by omega)) (consA_p (x := .lst (hit.map itU)) (by rw [← hsg]; rfl) rfl))]
      exact newT_ok' (by simp [szL])) (by rw [List.length_map]; exact hzm)
    refine this.trans ?_
    rw [← hhit]
    simp [noteP]
  have h3' := h.setMet (l := (noteP s pl x).met)
  have l3 : LpAt (G.set m (.lst ((noteP s pl x).met.map metU))) j q sn := hl.fr Fr.set (by simp; exact d.jm) (by simp; exact d.qm)
  generalize hG3 : G.set m (.lst ((noteP s pl x).met.map metU)) = G3 at h3' l3 e3
  have f3 : Fr G G3 [i, m, j] := by rw [← hG3]; exact Fr.set.mono (by simp)
  have len3 : G3.length = G.length := by rw [← hG3, List.length_set]
  obtain ⟨G4, t1, t2, t3⟩ := touch_ok l3 (left := x.pend.length - pl - s.w.length) (Nat.le_of_lt hzs)
  rw [len3] at t2
  have A4 := sc_at h3' (sg := sg) (a := 0) (by rw [← hsg]; rfl)
  have e4 : mt4 sg G3 = .nx sg G4 := by
    have hm : bin2 subU (bin2 subU (preM lenU (consA (At0 2 7 (varM 0)) nilA)) (varM 1)) (preM lenU (consA (varM 5) nilA)) sg G3 = .ok (.int ((x.pend.length - pl - s.w.length : Nat) : Int)) G3 := by
      have hp : preM lenU (consA (At0 2 7 (varM 0)) nilA) sg G3 = .ok (.int x.pend.length) G3 := len_lst (u := .ref p) (l := x.pend) (by simp only [lstOf, h3'.pen]) A4.2.1
      exact sub_int (sub_int (y := pl) hp (by rw [← hsg]; rfl) rfl) (y := s.w.length) (by rw [← hsg]; exact lw) (by omega)
    have : methM (fun c => ([(1, (2, r_Loops_touch))] : List (Nat × (Nat × RunD))).lookup c) 24 (varM 2) (consA (bin2 subU (bin2 subU (preM lenU (consA (At0 2 7 (varM 0)) nilA)) (varM 1)) (preM lenU (consA (varM 5) nilA))) nilA) sg G3 = .ok .non G4 :=
      (meth_eval (c := 1) (l := [(14, .ref q)]) (n := 2) (r := r_Loops_touch) (us := [.int ((x.pend.length - pl - s.w.length : Nat) : Int)]) (var_ok (u := .ref j) (by rw [← hsg]; rfl)) (by simp [insOf, l3.ins]) rfl rfl (consA_p hm rfl)).trans t1
    show stE _ _ _ _ = _
    unfold stE
    rw [this]
    rfl
  have h4' := h3'.fr t3 (by simp; exact Ne.symm d.ji) (by simp; exact Ne.symm d.jp) (by simp; exact Ne.symm d.jm)
  have A5 := sc_at h4' (sg := sg) (a := 0) (by rw [← hsg]; rfl)
  have B5 := st_at A5.1
  have e5 : mt5 sg G4 = .nx sg (G4.set i (.ins 2 (scL s (noteP s pl x) p m))) := by
    have hzl := (okDs_ok h8).2.2
    refine sc_set (sg := sg) (a := 0) (G := G4) (G1 := G4) (k := 8) (y := .int (((x.cur + 1) % s.zs.length : Nat) : Int)) (x' := noteP s pl x) (p' := p) h4'.ins (by rw [← hsg]; rfl) ?_ rfl
    have hl2 := len_tup (sg := sg) (G := G4) B5.2.2.2.2.1
    rw [List.length_map] at hl2
    rw [bin2_p (add_int (x := x.cur) (y := 1) A5.2.2.1 rfl rfl) hl2]
    have hn : (s.zs.length : Int) ≠ 0 := by omega
    have e : (((x.cur : Int) + 1).fmod (s.zs.length : Int)) = (((x.cur + 1) % s.zs.length : Nat) : Int) := by
      rw [Int.fmod_eq_emod_of_nonneg _ (by omega)]
      rfl
    simp only [modU, intU, decide_eq_true hn, if_true, e]
  have h5' : ScAt (G4.set i (.ins 2 (scL s (noteP s pl x) p m))) i p m s (noteP s pl x) := h4'.upd rfl rfl
  have l5 : LpAt (G4.set i (.ins 2 (scL s (noteP s pl x) p m))) j G.length (touchP (x.pend.length - pl - s.w.length) sn) := t2.fr Fr.set (by simp; exact d.ji) (by
    have := lt_of h.ins
    simp; omega)
  have l4 : G.length < G4.length := lt_of t2.seen
  refine ⟨_, ?_, h5', l5, (f3.trans (t3.mono (S2 := [i, m, j]) (by simp)) (by simp)).trans Fr.set (by simp), by rw [List.length_set]; exact l4⟩
  rw [seqM_nx e0, seqM_nx e1, seqM_nx e2, seqM_nx e3, seqM_nx e4, seqM_nx e5]
end
end FL

namespace FL
open PySem L2 PyProof.Rows
section
variable {G : List Ob} {i p m j q : Nat} {s : Dr} {x x' : Sc} {sn : Seen} {sg : Sg} {a : Nat}
/-- how much the scan holds -/
def big (x : Sc) : Nat := x.wr.length + x.pend.length
theorem put_items {l : W1} {mu : Bool} {x0 x1 x2 x3 x4 x5 x7 x8 : Option U} (hz : l.length ≤ szL) : compM false (seqI (varM 6)) (nameG 8) yesT (tupM (consA (varM 8) (consA (litM .non) nilA))) [8] [x0, x1, x2, x3, x4, x5, some (.str l), x7, x8] G = .ok (.lst ((l.map fun c => ((c, none) : It1)).map itU)) G := by
  have hc := comp_items (mu := false) (it := seqI (varM 6)) (g := nameG 8) (t := yesT) (e := tupM (consA (varM 8) (consA (litM .non) nilA))) (own := [8]) (s := [x0, x1, x2, x3, x4, x5, some (.str l), x7, x8]) (G := G) (G1 := G) (l := l.map fun c => .str [c]) (h := fun z => .tup [z, .non]) (by
    simp [seqI, varM]) fun z hz' => by
    refine ⟨[x0, x1, x2, x3, x4, x5, some (.str l), x7, some z], rfl, rfl, ?_⟩
    unfold tupM
    rw [consA_p (var_ok (u := z) rfl) (consA_p (x := .non) rfl rfl)]
    exact newT_ok' (by simp [szL])
  refine hc.trans ?_
  rw [newL_f (by simpa using hz), List.map_map, List.map_map]
  rfl
theorem kind_test {dd w : W1} {x0 x1 x2 x4 x5 x6 x7 x8 : Option U} {mm : ME} (hd : okC dd = true) (hw : okC w = true) (hm : mm [x0, x1, x2, some (.str dd), x4, x5, x6, x7, x8] G = .ok (.str w) G) : tobM (bin2 (eqX false (fun c => d_Scan_meet.eqt.lookup c)) (varM 3) mm) [x0, x1, x2, some (.str dd), x4, x5, x6, x7, x8] G = .ok (decide (dd = w)) G := by
  refine (tob_str (neg := false) (x := dd) (y := w) (var_ok rfl) hm hd hw).trans ?_
  simp only [Bool.false_eq_true, if_false]
  congr 1
  by_cases z : dd = w <;> simp [z]
theorem meet_ok (h : ScAt G i p m s x) (hl : LpAt G j q sn) (d : Dis i p m j q) (ho : okd s = true) {pl : Nat} (hpl : pl + s.w.length ≤ x.pend.length) (hc : x.cur < s.zs.length) (hok : okC (sgn x.pend) = true) (hsn : ∀ e ∈ sn, okC e.1.2 = true) (hz : big x + 3 < szL) (hzm : x.met.length < szL) (hzs : sn.length < szL) :
    ∃ G' p' q', r_Scan_meet [.ref i, .int (pl : Nat), .ref j] G = .ok .non G' ∧ ScAt G' i p' m s (meetP s pl x sn).1 ∧ LpAt G' j q' (meetP s pl x sn).2 ∧ Dis i p' m j q' ∧ Fr G G' [i, m, j] ∧ (p' = p ∨ G.length ≤ p') := by
  obtain ⟨h1, h2, h3, h4, h5, h6, h7, h8, h9, h10⟩ := okd_parts ho
  obtain ⟨dk, dg⟩ := deed_ok ho hc
  have okk : okC s.k = true := inW_ok (by decide) h6
  unfold big at hz
  unfold r_Scan_meet
  have hs : startS d_Scan_meet.N [.ref i, .int (pl : Nat), .ref j] = [some (.ref i), some (.int (pl : Nat)), some (.ref j), none, none, none, none, none, none] := rfl
  rw [hs, meet_m]
  obtain ⟨G1, e1, s1, l1, f1, n1⟩ := meet_head h hl d ho hpl hc (by omega) hzm hzs (mtS (ifM (tobM (bin2 (eqX false (fun c => d_Scan_meet.eqt.lookup c)) (varM 3) (litM (.str (Str.ofString "keep").cps.toList)))) (stE mtK (fun _ => nxM)) mtR))
  have hli := lt_of h.ins
  have hlp := lt_of h.pen
  have hlm := lt_of h.met
  have hlj := lt_of hl.ins
  have d1 : Dis i p m j G.length := ⟨d.ji, d.jp, d.jm, by omega, by omega, by omega⟩
  rw [e1]
  clear e1
  generalize hhit : (((x.pend.drop pl).take s.w.length).map itU) = hit
  generalize hdd : s.zs.getD x.cur [] = dd at dk dg
  have t1 := kind_test (G := G1) (w := wStop) (x0 := some (.ref i)) (x1 := some (.int (pl : Nat))) (x2 := some (.ref j)) (x4 := some (.lst hit)) (x5 := some (.str s.w)) (x6 := some (.str s.p)) (x7 := none) (x8 := none) (mm := litM (.str (Str.ofString "stop").cps.toList)) dk (by decide) (by simp [litM, wStop])
  have t2 := kind_test (G := G1) (w := wKeep) (x0 := some (.ref i)) (x1 := some (.int (pl : Nat))) (x2 := some (.ref j)) (x4 := some (.lst hit)) (x5 := some (.str s.w)) (x6 := some (.str s.p)) (x7 := none) (x8 := none) (mm := litM (.str (Str.ofString "keep").cps.toList)) dk (by decide) (by simp [litM, wKeep])
  unfold meetP
  rw [hdd]
  by_cases z1 : dd = wStop
  · -- stop
    have t1 := t1.trans (show _ = Rs.ok true G1 by simp [z1])
    simp only [if_pos z1]
    have q1 := sc_set (sg := [some (.ref i), some (.int (pl : Nat)), some (.ref j), some (.str dd), some (.lst hit), some (.str s.w), some (.str s.p), none, none]) (a := 0) (G := G1) (G1 := G1) (k := 9) (y := .bl true) (mv := litM (.bl true)) (x' := { noteP s pl x with stop := true }) (p' := p) s1.ins rfl rfl rfl
    have s2 := s1.upd (x' := { noteP s pl x with stop := true }) rfl rfl
    have q2 := sc_set (sg := [some (.ref i), some (.int (pl : Nat)), some (.ref j), some (.str dd), some (.lst hit), some (.str s.w), some (.str s.p), none, none]) (a := 0) (G := G1.set i (.ins 2 (scL s { noteP s pl x with stop := true } p m))) (G1 := G1.set i (.ins 2 (scL s { noteP s pl x with stop := true } p m))) (k := 8) (y := .int 0) (mv := litM (.int 0)) (x' := { noteP s pl x with stop := true, cur := 0 }) (p' := p) s2.ins rfl rfl rfl
    have s3 := s2.upd (x' := { noteP s pl x with stop := true, cur := 0 }) rfl rfl
    refine ⟨_, p, G.length, ?_, s3, (l1.fr Fr.set (by simp; exact d.ji) (by simp; omega)).fr Fr.set (by simp; exact d.ji) (by simp; omega), d1, (f1.trans Fr.set (by simp)).trans Fr.set (by simp), .inl rfl⟩
    have e : mtS (ifM (tobM (bin2 (eqX false (fun c => d_Scan_meet.eqt.lookup c)) (varM 3) (litM (.str (Str.ofString "keep").cps.toList)))) (stE mtK (fun _ => nxM)) mtR) [some (.ref i), some (.int (pl : Nat)), some (.ref j), some (.str dd), some (.lst hit), some (.str s.w), some (.str s.p), none, none] G1 = _ := (ifM_t t1).trans ((seqM_nx q1).trans q2)
    rw [e]
    rfl
  · have t1 := t1.trans (show _ = Rs.ok false G1 by simp [z1])
    simp only [if_neg z1]
    have e0 : ∀ mt, mtS mt [some (.ref i), some (.int (pl : Nat)), some (.ref j), some (.str dd), some (.lst hit), some (.str s.w), some (.str s.p), none, none] G1 = mt [some (.ref i), some (.int (pl : Nat)), some (.ref j), some (.str dd), some (.lst hit), some (.str s.w), some (.str s.p), none, none] G1 := fun mt => ifM_f t1
    rw [e0]
    have A := sc_at s1 (sg := [some (.ref i), some (.int (pl : Nat)), some (.ref j), some (.str dd), some (.lst hit), some (.str s.w), some (.str s.p), none, none]) (a := 0) rfl
    have B := st_at A.1
    have lw : ∀ {G : List Ob} {x7 x8 : Option U}, preM lenU (consA (varM 5) nilA) [some (.ref i), some (.int (pl : Nat)), some (.ref j), some (.str dd), some (.lst hit), some (.str s.w), some (.str s.p), x7, x8] G = .ok (.int s.w.length) G := fun {G x7 x8} => len_str (var_ok rfl) (Nat.le_trans h3 (by decide))
    by_cases z2 : dd = wKeep
    · -- keep
      have t2 := t2.trans (show _ = Rs.ok true G1 by simp [z2])
      simp only [if_pos z2]
      have hk := tob_str (neg := false) (et := fun c => d_Scan_meet.eqt.lookup c) (b := litM (.str (Str.ofString "one").cps.toList)) (y := wOne) B.2.2.1 (by simp [litM, wOne]) okk (by decide)
      have hi : iteM (tobM (bin2 (eqX false (fun c => d_Scan_meet.eqt.lookup c)) (At0 0 2 (At0 2 6 (varM 0))) (litM (.str (Str.ofString "one").cps.toList)))) (litM (.int 1)) (preM lenU (consA (varM 5) nilA)) [some (.ref i), some (.int (pl : Nat)), some (.ref j), some (.str dd), some (.lst hit), some (.str s.w), some (.str s.p), none, none] G1 = .ok (.int ((if s.k = wOne then 1 else s.w.length : Nat) : Int)) G1 := by
        unfold iteM
        rw [hk]
        by_cases z : s.k = wOne
        · simp [z, litM]
        · simp only [bind_ok, z, if_false, beq_iff_eq, Bool.false_eq_true]
          exact lw
      obtain ⟨G2, g1, g2, g3⟩ := leaveM_ok s1 (mm := bin2 (addU false) (varM 1) (iteM (tobM (bin2 (eqX false (fun c => d_Scan_meet.eqt.lookup c)) (At0 0 2 (At0 2 6 (varM 0))) (litM (.str (Str.ofString "one").cps.toList)))) (litM (.int 1)) (preM lenU (consA (varM 5) nilA)))) (n := pl + (if s.k = wOne then 1 else s.w.length)) (sg := [some (.ref i), some (.int (pl : Nat)), some (.ref j), some (.str dd), some (.lst hit), some (.str s.w), some (.str s.p), none, none]) (by show x.wr.length + x.pend.length ≤ szL; omega) rfl (add_int (x := pl) (y := ((if s.k = wOne then 1 else s.w.length : Nat) : Int)) rfl hi (by omega))
      refine ⟨G2, G1.length, G.length, ?_, g2, l1.fr g3 (by simp; exact d.ji) (by simp; omega), ⟨d.ji, by omega, d.jm, by omega, by omega, by omega⟩, f1.trans (g3.mono (S2 := [i, m, j]) (by simp)) (by simp), .inr (by omega)⟩
      rw [ifM_t t2]
      have g1' : mtK [some (.ref i), some (.int (pl : Nat)), some (.ref j), some (.str dd), some (.lst hit), some (.str s.w), some (.str s.p), none, none] G1 = .ok .non G2 := g1
      have e : stE mtK (fun _ => nxM) [some (.ref i), some (.int (pl : Nat)), some (.ref j), some (.str dd), some (.lst hit), some (.str s.w), some (.str s.p), none, none] G1 = .nx [some (.ref i), some (.int (pl : Nat)), some (.ref j), some (.str dd), some (.lst hit), some (.str s.w), some (.str s.p), none, none] G2 := by
        unfold stE
        rw [g1']
        rfl
      rw [e]
      rfl
    · -- replace
      have t2 := t2.trans (show _ = Rs.ok false G1 by simp [z2])
      simp only [if_neg z2]
      rw [ifM_f t2]
      have hlst : lstOf G1 (.ref p) = some (x.pend.map itU) := by simp only [lstOf, s1.pen]; rfl
      have e1 : stE (slM false (At0 2 7 (varM 0)) (someO (bin2 (addU false) (varM 1) (preM lenU (consA (varM 5) nilA)))) noneO) (setM 7) [some (.ref i), some (.int (pl : Nat)), some (.ref j), some (.str dd), some (.lst hit), some (.str s.w), some (.str s.p), none, none] G1 = .nx [some (.ref i), some (.int (pl : Nat)), some (.ref j), some (.str dd), some (.lst hit), some (.str s.w), some (.str s.p), some (.lst ((x.pend.drop (pl + s.w.length)).map itU)), none] G1 := by
        refine stE_set ?_
        refine (sl_lst (u := .ref p) (us := x.pend.map itU) A.2.1 hlst (someO_ok (add_int (x := pl) (y := s.w.length) (z := ((pl + s.w.length : Nat) : Int)) rfl lw (by omega))) rfl ?_).trans ?_
        · rw [cut_from, List.length_drop, List.length_map]; omega
        · rw [cut_from, List.map_drop]
      generalize hsg : ([some (.ref i), some (.int (pl : Nat)), some (.ref j), some (.str dd), some (.lst hit), some (.str s.w), some (.str s.p), some (.lst ((x.pend.drop (pl + s.w.length)).map itU)), none] : Sg) = sg at e1
      have g0 : sg[0]? = some (some (.ref i)) := by rw [← hsg]; rfl
      have A2 := sc_at s1 (sg := sg) (a := 0) g0
      generalize hnew : x.pend.take pl ++ s.p.map (fun c => ((c, none) : It1)) ++ x.pend.drop (pl + s.w.length) = new
      have hnl : new.length ≤ x.pend.length + 3 := by rw [← hnew]; simp; omega
      have hv : bin2 (addU true) (bin2 (addU false) (slM false (At0 2 7 (varM 0)) noneO (someO (varM 1))) (compM false (seqI (varM 6)) (nameG 8) yesT (tupM (consA (varM 8) (consA (litM .non) nilA))) [8])) (varM 7) sg G1 = .ok (.ref G1.length) (G1 ++ [.lst (new.map itU)]) := by
        have sl : slM false (At0 2 7 (varM 0)) noneO (someO (varM 1)) sg G1 = .ok (.lst ((x.pend.take pl).map itU)) G1 := by
          refine (sl_lst (u := .ref p) (us := x.pend.map itU) A2.2.1 hlst rfl (someO_ok (z := (pl : Nat)) (by rw [← hsg]; rfl)) ?_).trans ?_
          · rw [cut_to, List.length_take, List.length_map]; omega
          · rw [cut_to, List.map_take]
        have cm : compM false (seqI (varM 6)) (nameG 8) yesT (tupM (consA (varM 8) (consA (litM .non) nilA))) [8] sg G1 = .ok (.lst ((s.p.map fun c => ((c, none) : It1)).map itU)) G1 := by
          rw [← hsg]
          exact put_items (mu := false) (Nat.le_trans h5 (by decide))
        have a1 := add_lsts (mu := false) sl cm
        rw [newL_f (by simp; omega)] at a1
        have a2 := add_lsts (mu := true) (m2 := varM 7) (u2 := (x.pend.drop (pl + s.w.length)).map itU) a1 (by rw [← hsg]; rfl)
        rw [← List.map_append, ← List.map_append, hnew] at a2
        rw [a2]
        exact newL_t (by rw [List.length_map]; omega)
      have gi : (G1 ++ [Ob.lst (new.map itU)])[i]? = some (.ins 2 (scL s (noteP s pl x) p m)) := by
        rw [List.getElem?_append_left (lt_of s1.ins)]; exact s1.ins
      have e2 := sc_set (sg := sg) (a := 0) (G := G1) (G1 := G1 ++ [.lst (new.map itU)]) (k := 7) (y := .ref G1.length) (x' := { noteP s pl x with pend := new }) (p' := G1.length) gi g0 hv rfl
      have hl1 : G.length ≤ G1.length := f1.len
      have hi1 := lt_of s1.ins
      have hm1 := lt_of s1.met
      generalize hG2 : (G1 ++ [Ob.lst (new.map itU)]).set i (.ins 2 (scL s { noteP s pl x with pend := new } G1.length m)) = G2 at e2
      have f2 : Fr G1 G2 [i] := by rw [← hG2]; exact (Fr.app.mono (S2 := [i]) (by simp)).trans Fr.set (by simp)
      have len2 : G2.length = G1.length + 1 := by rw [← hG2]; simp
      have s2 : ScAt G2 i G1.length m s { noteP s pl x with pend := new } := by
        rw [← hG2]
        refine ⟨List.getElem?_set_self (by simp; omega), ?_, ?_, by omega, h.im, by omega⟩
        · rw [List.getElem?_set_ne (by omega)]; simp
        · rw [List.getElem?_set_ne h.im, List.getElem?_append_left hm1]; exact s1.met
      have l2 := l1.fr f2 (by simp; exact d.ji) (by simp; omega)
      -- leave
      have tu := turned_ok s2 ho (n := s.p.length)
      have hm : bin2 (addU false) (varM 1) (methM (fun c => ([(2, (2, r_Scan_turned))] : List (Nat × (Nat × RunD))).lookup c) 31 (varM 0) (consA (preM lenU (consA (varM 6) nilA)) nilA)) sg G2 = .ok (.int ((pl + turnP s s.p.length : Nat) : Int)) G2 := by
        refine add_int (x := pl) (y := (turnP s s.p.length : Nat)) (by rw [← hsg]; rfl) ?_ (by omega)
        exact (meth_eval (c := 2) (l := scL s { noteP s pl x with pend := new } G1.length m) (n := 2) (r := r_Scan_turned) (us := [.int (s.p.length : Nat)]) (var_ok g0) (by simp only [insOf, s2.ins]) rfl rfl (consA_p (len_str (l := s.p) (by rw [← hsg]; rfl) (Nat.le_trans h5 (by decide))) rfl)).trans tu
      obtain ⟨G3, g1, g2, g3⟩ := leaveM_ok s2 (sg := sg) (n := pl + turnP s s.p.length) (by show x.wr.length + new.length ≤ szL; omega) g0 hm
      have hy : leaveP (pl + turnP s s.p.length) { noteP s pl x with pend := new } = replP s pl (noteP s pl x) := by rw [← hnew]; rfl
      rw [hy, len2] at g2
      generalize hY : replP s pl (noteP s pl x) = y at g2
      have l3 := l2.fr g3 (by simp; exact d.ji) (by simp; omega)
      have hl3 : G1.length + 1 < G3.length := lt_of g2.pen
      -- is_again
      have hyp : okC (sgn y.pend) = true := by
        rw [← hY]
        show okC (sgn ((x.pend.take pl ++ s.p.map (fun c => ((c, none) : It1)) ++ x.pend.drop (pl + s.w.length)).drop (pl + turnP s s.p.length))) = true
        rw [sgn_drop]
        refine okC_drop ?_
        rw [sgn_app, sgn_app, sgn_take, sgn_drop]
        have hp : okC (sgn (s.p.map fun c => ((c, none) : It1))) = true := by
          have : sgn (s.p.map fun c => ((c, none) : It1)) = s.p := by simp [sgn, Function.comp_def]
          rw [this]
          exact isT_ok h4
        unfold okC at *
        rw [List.all_append, List.all_append, hp]
        have a1 := okC_take (n := pl) (show okC (sgn x.pend) = true from hok)
        have a2 := okC_drop (n := pl + s.w.length) (show okC (sgn x.pend) = true from hok)
        unfold okC at a1 a2
        rw [a1, a2]
        rfl
      have hyz : y.pend.length < szL := by
        rw [← hY]
        show ((x.pend.take pl ++ s.p.map (fun c => ((c, none) : It1)) ++ x.pend.drop (pl + s.w.length)).drop (pl + turnP s s.p.length)).length < szL
        rw [hnew, List.length_drop]
        omega
      have hts : (touchP (x.pend.length - pl - s.w.length) sn).length < szL := Nat.lt_of_le_of_lt (List.length_filter_le _ _) hzs
      obtain ⟨G4, k1, k2, k3⟩ := again_ok l3 (u := .ref (G1.length + 1)) (l := y.pend) (at_ := y.cur) (by simp only [lstOf, g2.pen]) hyp (fun e he => hsn e (List.mem_filter.mp he).1) hts hyz
      have A4 := sc_at g2 (sg := sg) (a := 0) g0
      have hag : methM (fun c => ([(1, (3, r_Loops_is_again))] : List (Nat × (Nat × RunD))).lookup c) 25 (varM 2) (consA (At0 2 8 (varM 0)) (consA (At0 2 7 (varM 0)) nilA)) sg G3 = .ok (.bl (againB y.cur y.pend (touchP (x.pend.length - pl - s.w.length) sn))) G4 :=
        (meth_eval (c := 1) (l := [(14, .ref G.length)]) (n := 3) (r := r_Loops_is_again) (us := [.int (y.cur : Nat), .ref (G1.length + 1)]) (var_ok (u := .ref j) (by rw [← hsg]; rfl)) (by simp only [insOf, l3.ins]) rfl rfl (consA_p A4.2.2.1 (consA_p A4.2.1 rfl))).trans k1
      have s4 := g2.fr k3 (by simp; omega) (by simp; omega) (by simp; omega)
      have e4 := sc_set (sg := sg) (a := 0) (G := G3) (G1 := G4) (k := 13) (y := .bl (againB y.cur y.pend (touchP (x.pend.length - pl - s.w.length) sn))) (x' := { y with endl := againB y.cur y.pend (touchP (x.pend.length - pl - s.w.length) sn) }) (p' := G1.length + 1) s4.ins g0 hag rfl
      have s5 := s4.upd (x' := { y with endl := againB y.cur y.pend (touchP (x.pend.length - pl - s.w.length) sn) }) rfl rfl
      refine ⟨G4.set i (.ins 2 (scL s { y with endl := againB y.cur y.pend (touchP (x.pend.length - pl - s.w.length) sn) } (G1.length + 1) m)), G1.length + 1, G.length, ?_, ?_, k2.fr Fr.set (by simp; exact d.ji) (by simp; omega), ⟨d.ji, by omega, d.jm, by omega, by omega, by omega⟩, ((((f1.trans (f2.mono (S2 := [i, m, j]) (by simp)) (by simp)).trans (g3.mono (S2 := [i, m, j]) (by simp)) (by simp)).trans k3 (by simp)).trans Fr.set (by simp)), .inr (by omega)⟩
      rotate_left
      · exact s5
      · have : mtR [some (.ref i), some (.int (pl : Nat)), some (.ref j), some (.str dd), some (.lst hit), some (.str s.w), some (.str s.p), none, none] G1 = .nx sg (G4.set i (.ins 2 (scL s { y with endl := againB y.cur y.pend (touchP (x.pend.length - pl - s.w.length) sn) } (G1.length + 1) m))) := by
          show seqM _ _ _ _ = _
          rw [seqM_nx e1, seqM_nx e2, seqM_stE g1 (fun _ => rfl)]
          exact e4
        rw [this]
        rfl
end
end FL

namespace FL
open PySem L2 PyProof.Rows
/-! ### what a meeting leaves -/
theorem place_some {w : W1} : ∀ {l : List It1} {p : Nat}, placeO w l = some p → p + w.length ≤ l.length
  | [], p, h => by
    unfold placeO at h
    split at h
    · rename_i e; cases h; simp [e]
    · cases h
  | a :: l, p, h => by
    unfold placeO at h
    split at h
    · rename_i e
      cases h
      rw [List.isPrefixOf_iff_prefix] at e
      have := e.length_le
      simp at this ⊢
      exact this
    · cases e : placeO w l with
      | none => rw [e] at h; cases h
      | some q =>
        rw [e] at h
        cases h
        have := place_some e
        simp; omega
theorem okC_app {a b : W1} (ha : okC a = true) (hb : okC b = true) : okC (a ++ b) = true := by
  unfold okC at *
  rw [List.all_append, ha, hb]; rfl
section
variable {s : Dr} {x : Sc} {sn : Seen} {pl : Nat}
theorem repl_ok (ho : okd s = true) (hok : okC (sgn x.pend) = true) : okC (sgn (replP s pl x).pend) = true := by
  obtain ⟨h1, h2, h3, h4, h5, h6, h7, h8, h9, h10⟩ := okd_parts ho
  show okC (sgn ((x.pend.take pl ++ s.p.map (fun c => ((c, none) : It1)) ++ x.pend.drop (pl + s.w.length)).drop (pl + turnP s s.p.length))) = true
  rw [sgn_drop]
  refine okC_drop ?_
  rw [sgn_app, sgn_app, sgn_take, sgn_drop]
  have : sgn (s.p.map fun c => ((c, none) : It1)) = s.p := by simp [sgn, Function.comp_def]
  rw [this]
  exact okC_app (okC_app (okC_take hok) (isT_ok h4)) (okC_drop hok)
theorem leave_big {n : Nat} : big (leaveP n x) = big x := by
  show (x.wr ++ x.pend.take n).length + (x.pend.drop n).length = x.wr.length + x.pend.length
  simp; omega
theorem meet_keeps (ho : okd s = true) (hpl : pl + s.w.length ≤ x.pend.length) (hok : okC (sgn x.pend) = true) (hsn : ∀ e ∈ sn, okC e.1.2 = true) :
    okC (sgn (meetP s pl x sn).1.pend) = true ∧ (∀ e ∈ (meetP s pl x sn).2, okC e.1.2 = true) ∧ big (meetP s pl x sn).1 ≤ big x + 3 ∧ (meetP s pl x sn).1.met.length = x.met.length + 1 ∧ (meetP s pl x sn).2.length ≤ sn.length + 1 := by
  obtain ⟨h1, h2, h3, h4, h5, h6, h7, h8, h9, h10⟩ := okd_parts ho
  have ht : ∀ l, ∀ e ∈ touchP l sn, okC e.1.2 = true := fun l e he => hsn e (List.mem_filter.mp he).1
  have htl : ∀ l, (touchP l sn).length ≤ sn.length := fun l => List.length_filter_le _ _
  have hm : (noteP s pl x).met.length = x.met.length + 1 := by simp [noteP]
  unfold meetP
  simp only
  split
  · exact ⟨hok, ht _, Nat.le_add_right _ _, hm, Nat.le_trans (htl _) (Nat.le_succ _)⟩
  · split
    · refine ⟨?_, ht _, ?_, hm, Nat.le_trans (htl _) (Nat.le_succ _)⟩
      · show okC (sgn (x.pend.drop _)) = true
        rw [sgn_drop]
        exact okC_drop hok
      · unfold keepP
        rw [leave_big]
        exact Nat.le_add_right _ _
    · have hr := repl_ok (s := s) (x := noteP s pl x) (pl := pl) ho hok
      refine ⟨hr, ?_, ?_, hm, ?_⟩
      · intro e he
        unfold againS at he
        split at he
        · exact ht _ e he
        · rcases List.mem_append.mp he with he | he
          · exact ht _ e he
          · simp only [List.mem_singleton] at he
            subst he
            show okC (sgn ((replP s pl (noteP s pl x)).pend.take 12)) = true
            rw [sgn_take]
            exact okC_take hr
      · show big (replP s pl (noteP s pl x)) ≤ _
        unfold replP
        rw [leave_big]
        unfold big
        simp [noteP]
        omega
      · unfold againS
        split
        · exact Nat.le_trans (htl _) (Nat.le_succ _)
        · rw [List.length_append]
          have := htl (x.pend.length - pl - s.w.length)
          simp
          exact this
end
/-! ### feed -/
abbrev feC : MT := andT (tobM (bin2 (cmpU fun i j => decide (j ≤ i)) (varM 3) (litM (.int 0)))) (andT (notT (tobM (At0 2 9 (varM 0)))) (notT (tobM (At0 2 13 (varM 0)))))
abbrev feP : MS := stE (callM 2 r_place_of (consA (At0 0 0 (At0 2 6 (varM 0))) (consA (At0 2 7 (varM 0)) nilA))) (setM 3)
abbrev feB : MS := seqM (stE (methM (fun c => ([(2, (3, r_Scan_meet))] : List (Nat × (Nat × RunD))).lookup c) 30 (varM 0) (consA (varM 3) (consA (varM 2) nilA))) (fun _ => nxM)) feP
def plU : Option Nat → U
  | some p => .int (p : Nat)
  | none => .int (-1)
section
variable {G : List Ob} {i p m j q : Nat} {s : Dr} {x y : Sc} {sn : Seen} {sg : Sg} {a : Nat}
theorem sc_place (h : ScAt G i p m s x) (ho : okd s = true) (hok : okC (sgn x.pend) = true) (hz : x.pend.length < szL) (hs : sg[0]? = some (some (.ref i))) : feP sg G = .nx (sg.set 3 (some (plU (placeO s.w x.pend)))) G := by
  obtain ⟨h1, h2, h3, h4, h5, h6, h7, h8, h9, h10⟩ := okd_parts ho
  have A := sc_at h (sg := sg) (a := 0) hs
  have B := st_at A.1
  refine stE_set ?_
  unfold callM
  rw [consA_p B.1 (consA_p A.2.1 rfl)]
  have hw := isT_ok h1
  unfold okC at hw
  have hp := hok
  unfold okC at hp
  have e : (lstOf G (.ref p)).bind itsOf = some x.pend := by simp only [lstOf, h.pen, Option.bind_some, itsOf_map]
  simp only [bind_ok, arM, r_place_of, e]
  refine (if_pos rfl).trans ((if_pos ⟨by omega, h3, hw, hp, hz⟩).trans ?_)
  cases placeO s.w x.pend <;> rfl
theorem feed_loop (ho : okd s = true) (hz : 0 < s.zs.length) : ∀ (f : Nat) {G : List Ob} {p j q : Nat} {x y : Sc} {sn : Seen} {u x4 : Option U}, ScAt G i p m s x → LpAt G j q sn → Dis i p m j q → x.cur < s.zs.length → okC (sgn x.pend) = true → (∀ e ∈ sn, okC e.1.2 = true) →
    big x + 3 * f + 3 < szL → x.met.length + f < szL → sn.length + f < szL → loopP s f x sn = some y → ∀ k,
    ∃ G' p' pu, whileL feC feB (f + k) [some (.ref i), u, some (.ref j), some (plU (placeO s.w x.pend)), x4] G = .nx [some (.ref i), u, some (.ref j), pu, x4] G' ∧ ScAt G' i p' m s y ∧ Fr G G' [i, m, j] ∧ okC (sgn y.pend) = true ∧ big y ≤ big x + 3 * f ∧ y.met.length ≤ x.met.length + f ∧ (p' = p ∨ G.length ≤ p')
  | 0, _, _, _, _, _, _, _, _, _, _, _, _, _, _, _, _, _, _, e, _ => nomatch e
  | f + 1, G, p, j, q, x, y, sn, u, x4, h, hl, d, hc, hok, hsn, b1, b2, b3, e, k => by
    have A := sc_at h (sg := [some (.ref i), u, some (.ref j), some (plU (placeO s.w x.pend)), x4]) (a := 0) rfl
    unfold loopP at e
    rw [show f + 1 + k = (f + k) + 1 by omega]
    unfold whileL
    cases ep : placeO s.w x.pend with
    | none =>
      rw [ep] at e A
      cases e
      have hC : feC [some (.ref i), u, some (.ref j), some (plU none), x4] G = .ok false G := by
        show andT _ _ _ _ = _
        unfold andT tobM
        rw [bin2_p (var_ok (u := .int (-1)) rfl) (y := .int 0) rfl]
        rfl
      rw [hC]
      exact ⟨G, p, _, rfl, h, Fr.refl, hok, by omega, by omega, .inl rfl⟩
    | some pl =>
      rw [ep] at e A
      have hC : feC [some (.ref i), u, some (.ref j), some (plU (some pl)), x4] G = .ok (!(x.stop || x.endl)) G := by
        have c1 : tobM (bin2 (cmpU fun i j => decide (j ≤ i)) (varM 3) (litM (.int 0))) [some (.ref i), u, some (.ref j), some (plU (some pl)), x4] G = .ok true G := by
          unfold tobM
          rw [bin2_p (var_ok (u := .int (pl : Nat)) rfl) (y := .int 0) rfl]
          have : (0 : Int) ≤ (pl : Nat) := by omega
          simp [cmpU, blU, this]
        show andT _ (andT _ _) _ _ = _
        unfold andT
        rw [c1]
        simp only [bind_ok, if_true]
        unfold notT
        rw [tob_bl A.2.2.2.1]
        cases x.stop with
        | true => rfl
        | false =>
          simp only [bind_ok]
          rw [tob_bl A.2.2.2.2.2.2.2]
          rfl
      by_cases z : (x.stop || x.endl) = true
      · simp only [z, if_true] at e
        cases e
        rw [hC, z]
        exact ⟨G, p, _, rfl, h, Fr.refl, hok, by omega, by omega, .inl rfl⟩
      · have z' : (x.stop || x.endl) = false := by simpa using z
        simp only [if_neg z] at e
        rw [hC, z']
        have hpl := place_some ep
        obtain ⟨G1, p1, q1, g1, g2, g3, g4, g5, g6⟩ := meet_ok h hl d ho hpl hc hok hsn (by omega) (by omega) (by omega)
        obtain ⟨k1, k2, k3, k4, k5⟩ := meet_keeps (sn := sn) ho hpl hok hsn
        have hzp : (meetP s pl x sn).1.pend.length < szL := by unfold big at k3 b1; omega
        have hP := sc_place (sg := [some (.ref i), u, some (.ref j), some (plU (some pl)), x4]) g2 ho k1 hzp rfl
        have hB : feB [some (.ref i), u, some (.ref j), some (plU (some pl)), x4] G = .nx [some (.ref i), u, some (.ref j), some (plU (placeO s.w (meetP s pl x sn).1.pend)), x4] G1 := by
          have em : methM (fun c => ([(2, (3, r_Scan_meet))] : List (Nat × (Nat × RunD))).lookup c) 30 (varM 0) (consA (varM 3) (consA (varM 2) nilA)) [some (.ref i), u, some (.ref j), some (plU (some pl)), x4] G = .ok .non G1 :=
            (meth_eval (c := 2) (l := scL s x p m) (n := 3) (r := r_Scan_meet) (us := [.int (pl : Nat), .ref j]) (var_ok rfl) (by simp only [insOf, h.ins]) rfl rfl (consA_p (var_ok rfl) (consA_p (var_ok rfl) rfl))).trans g1
          show seqM _ _ _ _ = _
          rw [seqM_stE em (fun _ => rfl)]
          exact hP
        obtain ⟨G', p', pu, r1, r2, r3, r4, r5, r6, r7⟩ := feed_loop ho hz f (u := u) (x4 := x4) g2 g3 g4 (meet_cur hz) k1 k2 (by omega) (by omega) (by omega) e k
        refine ⟨G', p', pu, ?_, r2, g5.trans r3 (by simp), r4, by omega, by omega, by have := g5.len; omega⟩
        simp only [Bool.not_false, hB]
        exact r1
end
end FL

namespace FL
open PySem L2 PyProof.Rows
abbrev fe0 : MS := stE2 (lstM false nilA) (varM 0) (Fl0 2 10)
abbrev feW (mm : ME) : MS := stE (methM (fun c => ([(2, (2, r_Scan_write))] : List (Nat × (Nat × RunD))).lookup c) 28 (varM 0) (consA mm nilA)) (fun _ => nxM)
abbrev feR : MS := stE (At0 2 10 (varM 0)) rtM
abbrev fe1 : MS := ifM (tobM (At0 2 9 (varM 0))) (seqM (feW (lstM false (consA (varM 1) nilA))) feR) nxM
abbrev fe2 : MS := stE (bmM appendU (At0 2 7 (varM 0)) (consA (varM 1) nilA)) (fun _ => nxM)
abbrev fe3 : MS := stE (makeM 1 1 r_Loops_init nilA) (setM 2)
abbrev fe5 : MS := ifM (tobM (At0 2 9 (varM 0))) (seqM (feW (At0 2 7 (varM 0))) (stE2 (lstM true nilA) (varM 0) (Fl0 2 7))) (seqM (stE (callM 2 r_beginning_of (consA (At0 0 0 (At0 2 6 (varM 0))) (consA (At0 2 7 (varM 0)) nilA))) (setM 4)) (stE (methM (fun c => ([(2, (2, r_Scan_leave))] : List (Nat × (Nat × RunD))).lookup c) 29 (varM 0) (consA (bin2 subU (preM lenU (consA (At0 2 7 (varM 0)) nilA)) (varM 4)) nilA)) (fun _ => nxM)))
theorem feed_m : m_Scan_feed = seqM fe0 (seqM fe1 (seqM fe2 (seqM fe3 (seqM feP (seqM (whileL feC feB wF) (seqM fe5 feR)))))) := rfl
section
variable {G : List Ob} {i p m j q : Nat} {s : Dr} {x y : Sc} {sn : Seen} {sg : Sg} {a : Nat}
theorem nilL : lstM false nilA sg G = .ok (.lst []) G := by
  unfold lstM nilA
  exact newL_f (by simp [szL])
theorem writeM_ok (h : ScAt G i p m s x) {u : U} {l : List It1} {mm : ME} (hs : sg[0]? = some (some (.ref i))) (hm : mm sg G = .ok u G) (hu : ∀ o, lstOf (G.set i o) u = some (l.map itU)) (hu0 : lstOf G u = some (l.map itU)) (hz : x.wr.length + l.length ≤ szL) :
    feW mm sg G = .nx sg (G.set i (.ins 2 (scL s (writeP l x) p m))) ∧ ScAt (G.set i (.ins 2 (scL s (writeP l x) p m))) i p m s (writeP l x) := by
  refine ⟨?_, h.upd rfl rfl⟩
  have e : methM (fun c => ([(2, (2, r_Scan_write))] : List (Nat × (Nat × RunD))).lookup c) 28 (varM 0) (consA mm nilA) sg G = .ok .non (G.set i (.ins 2 (scL s (writeP l x) p m))) :=
    (meth_eval (c := 2) (l := scL s x p m) (n := 2) (r := r_Scan_write) (us := [u]) (var_ok hs) (by simp only [insOf, h.ins]) rfl rfl (consA_p hm rfl)).trans (write_ok h hu hu0 hz)
  show stE _ _ _ _ = _
  unfold stE
  rw [e]
  rfl
theorem loops_new {x0 x1 x3 x4 : Option U} : fe3 [x0, x1, none, x3, x4] G = .nx [x0, x1, some (.ref G.length), x3, x4] (G ++ [.ins 1 [(14, .ref (G.length + 1))], .lst []]) := by
  have e : r_Loops_init [.ref G.length] (G ++ [.ins 1 []]) = .ok .non (G ++ [.ins 1 [(14, .ref (G.length + 1))], .lst []]) := by
    unfold r_Loops_init
    have hs : startS d_Loops_init.N [.ref G.length] = [some (.ref G.length)] := rfl
    rw [hs]
    unfold m_Loops_init
    have hv : lstM true nilA [some (.ref G.length)] (G ++ [.ins 1 []]) = .ok (.ref (G.length + 1)) (G ++ [.ins 1 []] ++ [.lst []]) := by
      unfold lstM nilA
      refine (newL_t (by simp [szL])).trans ?_
      simp
    have e := fl_set (G := G ++ [Ob.ins 1 []] ++ [Ob.lst []]) (i := G.length) (c := 1) (k := 14) (y := .ref (G.length + 1)) (sg := [some (.ref G.length)]) (l := []) (by rw [List.getElem?_append_left (by simp)]; simp) (by simp)
    rw [stE2_ok hv (var_ok (u := .ref G.length) rfl)]
    refine (congrArg runR e).trans ?_
    have : (G ++ [Ob.ins 1 []] ++ [Ob.lst []]).set G.length (.ins 1 (putU 14 (.ref (G.length + 1)) [])) = G ++ [.ins 1 [(14, .ref (G.length + 1))], .lst []] := by
      rw [List.append_assoc, List.set_append_right _ _ (Nat.le_refl _), Nat.sub_self]
      rfl
    rw [this]
    rfl
  have e2 : makeM 1 1 r_Loops_init nilA [x0, x1, none, x3, x4] G = .ok (.ref G.length) (G ++ [.ins 1 [(14, .ref (G.length + 1))], .lst []]) := by
    unfold makeM nilA
    simp only [bind_ok, madeU, arM]
    rw [if_pos (show [U.ref G.length].length = 1 from rfl), e]
    rfl
  exact stE_set e2
theorem ret_wr (h : ScAt G i p m s x) (hs : sg[0]? = some (some (.ref i))) : feR sg G = .rt (.lst (x.wr.map itU)) G := stE_rt (sc_at h (a := 0) hs).2.2.2.2.1
theorem feed_ok (h : ScAt G i p m s x) (ho : okd s = true) (hc : x.cur < s.zs.length) (hok : okC (sgn x.pend) = true) {it : It1} (hit : okC [it.1] = true) (hz : x.pend.length + 1000 < szL) (hzm : x.met.length + 1000 < szL) (e : feedP s 100 it x = some y) :
    ∃ G' p', r_Scan_feed [.ref i, itU it] G = .ok (.lst (y.wr.map itU)) G' ∧ ScAt G' i p' m s y ∧ Fr G G' [i, p, m] ∧ okC (sgn y.pend) = true ∧ big y ≤ x.pend.length + 304 ∧ y.met.length ≤ x.met.length + 100 ∧ (p' = p ∨ G.length ≤ p') := by
  obtain ⟨h1, h2, h3, h4, h5, h6, h7, h8, h9, h10⟩ := okd_parts ho
  have hlz := (okDs_ok h8).2.2
  unfold r_Scan_feed
  have hs : startS d_Scan_feed.N [.ref i, itU it] = [some (.ref i), some (itU it), none, none, none] := rfl
  rw [hs, feed_m]
  have e0 := sc_set (sg := [some (.ref i), some (itU it), none, none, none]) (a := 0) (G := G) (G1 := G) (k := 10) (y := .lst []) (mv := lstM false nilA) (x' := { x with wr := [] }) (p' := p) h.ins rfl nilL rfl
  have s0 := h.upd (x' := { x with wr := [] }) rfl rfl
  have f0 : Fr G (G.set i (.ins 2 (scL s { x with wr := [] } p m))) [i, p, m] := Fr.set.mono (by simp)
  generalize hG0 : G.set i (.ins 2 (scL s { x with wr := [] } p m)) = G0 at e0 s0 f0
  have len0 : G0.length = G.length := by rw [← hG0, List.length_set]
  have A0 := sc_at s0 (sg := [some (.ref i), some (itU it), none, none, none]) (a := 0) rfl
  rw [show seqM fe0 (seqM fe1 (seqM fe2 (seqM fe3 (seqM feP (seqM (whileL feC feB wF) (seqM fe5 feR)))))) [some (.ref i), some (itU it), none, none, none] G = seqM fe1 (seqM fe2 (seqM fe3 (seqM feP (seqM (whileL feC feB wF) (seqM fe5 feR))))) [some (.ref i), some (itU it), none, none, none] G0 from seqM_nx e0]
  unfold feedP at e
  by_cases hst : x.stop = true
  · -- stopped
    rw [if_pos hst] at e
    cases e
    have ht : tobM (At0 2 9 (varM 0)) [some (.ref i), some (itU it), none, none, none] G0 = .ok true G0 := (tob_bl A0.2.2.2.1).trans (by rw [show ({ x with wr := [] } : Sc).stop = true from hst])
    obtain ⟨w1, w2⟩ := writeM_ok s0 (u := .lst ([it].map itU)) (l := [it]) (mm := lstM false (consA (varM 1) nilA)) (sg := [some (.ref i), some (itU it), none, none, none]) rfl (by
      unfold lstM
      rw [consA_p (var_ok (u := itU it) rfl) rfl]
      exact newL_f (by simp [szL])) (fun _ => rfl) rfl (by simp; unfold szL; omega)
    refine ⟨_, p, ?_, w2, f0.trans Fr.set (by simp), hok, ?_, ?_, .inl rfl⟩
    · have : fe1 [some (.ref i), some (itU it), none, none, none] G0 = .rt (.lst ((writeP [it] { x with wr := [] }).wr.map itU)) (G0.set i (.ins 2 (scL s (writeP [it] { x with wr := [] }) p m))) := (ifM_t ht).trans ((seqM_nx w1).trans (ret_wr w2 rfl))
      rw [seqM_rt this]
      rfl
    · show ([] ++ [it]).length + x.pend.length ≤ _
      simp; omega
    · exact Nat.le_add_right _ _
  · rw [if_neg hst] at e
    obtain ⟨z, ez, rfl⟩ := Option.map_eq_some_iff.mp e
    have ht : tobM (At0 2 9 (varM 0)) [some (.ref i), some (itU it), none, none, none] G0 = .ok false G0 := (tob_bl A0.2.2.2.1).trans (by rw [show ({ x with wr := [] } : Sc).stop = false from by simpa using hst])
    have e1 : fe1 [some (.ref i), some (itU it), none, none, none] G0 = .nx [some (.ref i), some (itU it), none, none, none] G0 := ifM_fn ht
    have e2 := append_ok (sg := [some (.ref i), some (itU it), none, none, none]) (G := G0) (mo := At0 2 7 (varM 0)) (my := varM 1) (k := p) (l := x.pend.map itU) (y := itU it) A0.2.1 s0.pen (var_ok rfl) (by rw [List.length_map]; omega)
    have s1 : ScAt (G0.set p (.lst (x.pend.map itU ++ [itU it]))) i p m s { x with wr := [], pend := x.pend ++ [it] } :=
      ⟨by rw [List.getElem?_set_ne (Ne.symm h.ip)]; exact s0.ins, by rw [List.getElem?_set_self (lt_of s0.pen), List.map_append]; rfl, by rw [List.getElem?_set_ne h.pm]; exact s0.met, h.ip, h.im, h.pm⟩
    have f1 : Fr G (G0.set p (.lst (x.pend.map itU ++ [itU it]))) [i, p, m] := f0.trans Fr.set (by simp)
    generalize hG1 : G0.set p (.lst (x.pend.map itU ++ [itU it])) = G1 at e2 s1 f1
    have len1 : G1.length = G.length := by rw [← hG1, List.length_set, len0]
    have e3 := loops_new (G := G1) (x0 := some (.ref i)) (x1 := some (itU it)) (x3 := none) (x4 := none)
    have f2 : Fr G1 (G1 ++ [.ins 1 [(14, .ref (G1.length + 1))], .lst []]) [] := Fr.app
    have s2 := s1.fr f2 (by simp) (by simp) (by simp)
    have l2 : LpAt (G1 ++ [Ob.ins 1 [(14, .ref (G1.length + 1))], Ob.lst []]) G1.length (G1.length + 1) [] :=
      ⟨by rw [List.getElem?_append_right (Nat.le_refl _)]; simp, by rw [List.getElem?_append_right (by omega)]; simp, by omega⟩
    have hli := lt_of s1.ins
    have hlp := lt_of s1.pen
    have hlm := lt_of s1.met
    have d2 : Dis i p m G1.length (G1.length + 1) := ⟨by omega, by omega, by omega, by omega, by omega, by omega⟩
    have hok1 : okC (sgn (x.pend ++ [it])) = true := by rw [sgn_app]; exact okC_app hok hit
    generalize hG2 : G1 ++ [Ob.ins 1 [(14, .ref (G1.length + 1))], Ob.lst []] = G2 at e3 f2 s2 l2
    have e4 := sc_place (sg := [some (.ref i), some (itU it), some (.ref G1.length), none, none]) s2 ho hok1 (by simp; omega) rfl
    have hbig : big { x with wr := [], pend := x.pend ++ [it] } = x.pend.length + 1 := by simp [big]
    obtain ⟨G3, p3, pu, r1, r2, r3, r4, r5, r6, r7⟩ := feed_loop (m := m) ho (by omega) 100 (u := some (itU it)) (x4 := none) s2 l2 d2 hc hok1 (fun e he => nomatch he) (by rw [hbig]; omega) (by show x.met.length + 100 < szL; omega) (by simp; unfold szL; omega) ez (wF - 100)
    rw [hbig] at r5
    rw [show 100 + (wF - 100) = wF from rfl] at r1
    have f3 : Fr G G3 [i, p, m] := (f1.trans (f2.mono (S2 := []) (by simp)) (by simp)).trans r3 (fun k hk => by
      simp at hk
      rcases hk with rfl | rfl | rfl
      · exact .inl (by simp)
      · exact .inl (by simp)
      · exact .inr (by omega))
    have A3 := sc_at r2 (sg := [some (.ref i), some (itU it), some (.ref G1.length), pu, none]) (a := 0) rfl
    have B3 := st_at A3.1
    have hbz : z.wr.length + z.pend.length ≤ x.pend.length + 301 := by unfold big at r5; omega
    have head : ∀ mt : MS, seqM fe1 (seqM fe2 (seqM fe3 (seqM feP (seqM (whileL feC feB wF) mt)))) [some (.ref i), some (itU it), none, none, none] G0 = mt [some (.ref i), some (itU it), some (.ref G1.length), pu, none] G3 := fun mt =>
      (seqM_nx e1).trans ((seqM_nx e2).trans ((seqM_nx e3).trans ((seqM_nx e4).trans (seqM_nx r1))))
    rw [head]
    unfold afterP
    by_cases hz3 : z.stop = true
    · simp only [if_pos hz3]
      have ht : tobM (At0 2 9 (varM 0)) [some (.ref i), some (itU it), some (.ref G1.length), pu, none] G3 = .ok true G3 := (tob_bl A3.2.2.2.1).trans (by rw [hz3])
      obtain ⟨w1, w2⟩ := writeM_ok r2 (u := .ref p3) (l := z.pend) (mm := At0 2 7 (varM 0)) (sg := [some (.ref i), some (itU it), some (.ref G1.length), pu, none]) rfl A3.2.1 (fun o => by
        simp only [lstOf]
        rw [List.getElem?_set_ne r2.ip, r2.pen]) (by simp only [lstOf, r2.pen]) (by omega)
      have f4 : Fr G (G3.set i (.ins 2 (scL s (writeP z.pend z) p3 m))) [i, p, m] := f3.trans Fr.set (by simp)
      generalize hG4 : G3.set i (.ins 2 (scL s (writeP z.pend z) p3 m)) = G4 at w1 w2 f4
      have hv : lstM true nilA [some (.ref i), some (itU it), some (.ref G1.length), pu, none] G4 = .ok (.ref G4.length) (G4 ++ [.lst []]) := by
        unfold lstM nilA
        exact newL_t (by simp [szL])
      have e5 := sc_set (sg := [some (.ref i), some (itU it), some (.ref G1.length), pu, none]) (a := 0) (G := G4) (G1 := G4 ++ [.lst []]) (k := 7) (y := .ref G4.length) (mv := lstM true nilA) (x' := { writeP z.pend z with pend := [] }) (p' := G4.length) (by rw [List.getElem?_append_left (lt_of w2.ins)]; exact w2.ins) rfl hv rfl
      have hi4 := lt_of w2.ins
      have hm4 := lt_of w2.met
      have s5 : ScAt ((G4 ++ [Ob.lst []]).set i (.ins 2 (scL s { writeP z.pend z with pend := [] } G4.length m))) i G4.length m s { writeP z.pend z with pend := [] } :=
        ⟨List.getElem?_set_self (by simp; omega), by rw [List.getElem?_set_ne (by omega)]; simp, by rw [List.getElem?_set_ne h.im, List.getElem?_append_left hm4]; exact w2.met, by omega, h.im, by omega⟩
      refine ⟨_, G4.length, ?_, s5, (f4.trans (Fr.app.mono (S2 := []) (by simp)) (by simp)).trans Fr.set (by simp), by simp [sgn]; rfl, ?_, by show z.met.length ≤ _; exact r6, .inr (by have := f4.len; omega)⟩
      · have q5 : fe5 [some (.ref i), some (itU it), some (.ref G1.length), pu, none] G3 = .nx [some (.ref i), some (itU it), some (.ref G1.length), pu, none] ((G4 ++ [Ob.lst []]).set i (.ins 2 (scL s { writeP z.pend z with pend := [] } G4.length m))) := (ifM_t ht).trans ((seqM_nx w1).trans e5)
        rw [seqM_nx q5, ret_wr s5 rfl]
        rfl
      · show (z.wr ++ z.pend).length + 0 ≤ _
        rw [List.length_append]; omega
    · simp only [if_neg hz3]
      have ht : tobM (At0 2 9 (varM 0)) [some (.ref i), some (itU it), some (.ref G1.length), pu, none] G3 = .ok false G3 := (tob_bl A3.2.2.2.1).trans (by simp [hz3])
      generalize hL : beginO s.w z.pend (min (s.w.length - 1) z.pend.length) = L
      have hLle : L ≤ z.pend.length := by
        have := begin_le (w := s.w) (l := z.pend) (min (s.w.length - 1) z.pend.length)
        omega
      have hb : callM 2 r_beginning_of (consA (At0 0 0 (At0 2 6 (varM 0))) (consA (At0 2 7 (varM 0)) nilA)) [some (.ref i), some (itU it), some (.ref G1.length), pu, none] G3 = .ok (.int (L : Nat)) G3 := by
        unfold callM
        rw [consA_p B3.1 (consA_p A3.2.1 rfl)]
        have hw := isT_ok h1
        unfold okC at hw
        have hp := r4
        unfold okC at hp
        have e : (lstOf G3 (.ref p3)).bind itsOf = some z.pend := by simp only [lstOf, r2.pen, Option.bind_some, itsOf_map]
        simp only [bind_ok, arM, r_beginning_of, e]
        refine (if_pos rfl).trans ((if_pos ⟨by omega, h3, hw, hp, by omega⟩).trans ?_)
        rw [hL]
      have hm : bin2 subU (preM lenU (consA (At0 2 7 (varM 0)) nilA)) (varM 4) [some (.ref i), some (itU it), some (.ref G1.length), pu, some (.int (L : Nat))] G3 = .ok (.int ((z.pend.length - L : Nat) : Int)) G3 := by
        have A4 := sc_at r2 (sg := [some (.ref i), some (itU it), some (.ref G1.length), pu, some (.int (L : Nat))]) (a := 0) rfl
        exact sub_int (len_lst (u := .ref p3) (l := z.pend) (by simp only [lstOf, r2.pen]) A4.2.1) (y := L) rfl (by omega)
      obtain ⟨G4, g1, g2, g3⟩ := leaveM_ok r2 (sg := [some (.ref i), some (itU it), some (.ref G1.length), pu, some (.int (L : Nat))]) (n := z.pend.length - L) (by omega) rfl hm
      refine ⟨G4, G3.length, ?_, g2, f3.trans (g3.mono (S2 := [i, p, m]) (by simp)) (by simp), ?_, ?_, by show z.met.length ≤ _; exact r6, .inr (by have := f3.len; omega)⟩
      · have q5 : fe5 [some (.ref i), some (itU it), some (.ref G1.length), pu, none] G3 = .nx [some (.ref i), some (itU it), some (.ref G1.length), pu, some (.int (L : Nat))] G4 := by
          refine (ifM_f ht).trans ((seqM_set hb).trans ?_)
          show stE _ _ [some (.ref i), some (itU it), some (.ref G1.length), pu, some (.int (L : Nat))] G3 = _
          unfold stE
          rw [g1]
          rfl
        rw [seqM_nx q5, ret_wr g2 rfl]
        rfl
      · show okC (sgn (z.pend.drop _)) = true
        rw [sgn_drop]
        exact okC_drop r4
      · rw [leave_big]
        unfold big
        omega
theorem rest_ok (h : ScAt G i p m s x) (hz : x.pend.length < szL) : ∃ G' p', r_Scan_rest [.ref i] G = .ok (.lst ((restP x).wr.map itU)) G' ∧ ScAt G' i p' m s (restP x) ∧ Fr G G' [i, p, m] ∧ G.length ≤ p' := by
  unfold r_Scan_rest
  have hs : startS d_Scan_rest.N [.ref i] = [some (.ref i)] := rfl
  rw [hs]
  unfold m_Scan_rest
  have e0 := sc_set (sg := [some (.ref i)]) (a := 0) (G := G) (G1 := G) (k := 10) (y := .lst []) (mv := lstM false nilA) (x' := { x with wr := [] }) (p' := p) h.ins rfl nilL rfl
  have s0 := h.upd (x' := { x with wr := [] }) rfl rfl
  have f0 : Fr G (G.set i (.ins 2 (scL s { x with wr := [] } p m))) [i, p, m] := Fr.set.mono (by simp)
  generalize hG0 : G.set i (.ins 2 (scL s { x with wr := [] } p m)) = G0 at e0 s0 f0
  have A0 := sc_at s0 (sg := [some (.ref i)]) (a := 0) rfl
  obtain ⟨G4, g1, g2, g3⟩ := leaveM_ok s0 (sg := [some (.ref i)]) (n := x.pend.length) (by simp; omega) rfl (len_lst (u := .ref p) (l := x.pend) (by simp only [lstOf, s0.pen]) A0.2.1)
  refine ⟨G4, G0.length, ?_, g2, f0.trans (g3.mono (S2 := [i, p, m]) (by simp)) (by simp), f0.len⟩
  exact (congrArg runR ((seqM_nx e0).trans ((seqM_stE g1 (fun _ => rfl)).trans (ret_wr g2 rfl)))).trans rfl
end
end FL

namespace FL
open PySem L2 PyProof.Rows
/-! ### a scan made -/
section
variable {G : List Ob} {i p m j q : Nat} {s : Dr} {x y : Sc} {sn : Seen} {sg : Sg} {a : Nat}
theorem init_set {r r' : List Ob} {l : List (Nat × U)} {k : Nat} {v : U} {mv : ME} (hs : sg[0]? = some (some (.ref G.length))) (hl : l.length < 1000) (hv : mv sg (G ++ .ins 2 l :: r) = .ok v (G ++ .ins 2 l :: r')) : stE2 mv (varM 0) (Fl0 2 k) sg (G ++ .ins 2 l :: r) = .nx sg (G ++ .ins 2 (putU k v l) :: r') := by
  rw [stE2_ok hv (var_ok hs), fl_set (c := 2) (l := l) (by rw [List.getElem?_append_right (Nat.le_refl _)]; simp) hl]
  rw [List.set_append_right _ _ (Nat.le_refl _), Nat.sub_self]
  rfl
theorem scan_new {x3 x4 x5 x6 x7 x8 x9 u1 n : Option U} : makeM 2 5 r_Scan_init (consA (varM 0) (consA (lstM false nilA) (consA (litM (.int 0)) (consA (litM (.bl false)) nilA)))) [some (stU s), u1, n, x3, x4, x5, x6, x7, x8, x9] G
    = .ok (.ref G.length) (G ++ [.ins 2 (scL s sc0 (G.length + 1) (G.length + 2)), .lst [], .lst []]) := by
  have e : r_Scan_init [.ref G.length, stU s, .lst [], .int 0, .bl false] (G ++ [.ins 2 []]) = .ok .non (G ++ [.ins 2 (scL s sc0 (G.length + 1) (G.length + 2)), .lst [], .lst []]) := by
    unfold r_Scan_init
    have hs : startS d_Scan_init.N [.ref G.length, stU s, .lst [], .int 0, .bl false] = [some (.ref G.length), some (stU s), some (.lst []), some (.int 0), some (.bl false)] := rfl
    rw [hs]
    unfold m_Scan_init
    have q1 := init_set (G := G) (sg := [some (.ref G.length), some (stU s), some (.lst []), some (.int 0), some (.bl false)]) (l := []) (r := []) (r' := []) (k := 6) (v := stU s) (mv := varM 1) rfl (by simp) rfl
    have q2 := init_set (G := G) (sg := [some (.ref G.length), some (stU s), some (.lst []), some (.int 0), some (.bl false)]) (l := putU 6 (stU s) []) (r := []) (r' := [.lst []]) (k := 7) (v := .ref (G.length + 1)) (mv := preM (listU true) (consA (varM 2) nilA)) rfl (by simp [putU]) (by
      rw [pre_one (var_ok (u := .lst []) rfl)]
      simp only [listU, seqOf, lstOf]
      refine (newL_t (by simp [szL])).trans ?_
      simp)
    have q3 := init_set (G := G) (sg := [some (.ref G.length), some (stU s), some (.lst []), some (.int 0), some (.bl false)]) (l := putU 7 (.ref (G.length + 1)) (putU 6 (stU s) [])) (r := [.lst []]) (r' := [.lst []]) (k := 8) (v := .int 0) (mv := varM 3) rfl (by simp [putU]) rfl
    have q4 := init_set (G := G) (sg := [some (.ref G.length), some (stU s), some (.lst []), some (.int 0), some (.bl false)]) (l := putU 8 (.int 0) (putU 7 (.ref (G.length + 1)) (putU 6 (stU s) []))) (r := [.lst []]) (r' := [.lst []]) (k := 9) (v := .bl false) (mv := varM 4) rfl (by simp [putU]) rfl
    have q5 := init_set (G := G) (sg := [some (.ref G.length), some (stU s), some (.lst []), some (.int 0), some (.bl false)]) (l := putU 9 (.bl false) (putU 8 (.int 0) (putU 7 (.ref (G.length + 1)) (putU 6 (stU s) [])))) (r := [.lst []]) (r' := [.lst []]) (k := 10) (v := .lst []) (mv := lstM false nilA) rfl (by simp [putU]) nilL
    have q6 := init_set (G := G) (sg := [some (.ref G.length), some (stU s), some (.lst []), some (.int 0), some (.bl false)]) (l := putU 10 (.lst []) (putU 9 (.bl false) (putU 8 (.int 0) (putU 7 (.ref (G.length + 1)) (putU 6 (stU s) []))))) (r := [.lst []]) (r' := [.lst []]) (k := 11) (v := .int 0) (mv := litM (.int 0)) rfl (by simp [putU]) rfl
    have q7 := init_set (G := G) (sg := [some (.ref G.length), some (stU s), some (.lst []), some (.int 0), some (.bl false)]) (l := putU 11 (.int 0) (putU 10 (.lst []) (putU 9 (.bl false) (putU 8 (.int 0) (putU 7 (.ref (G.length + 1)) (putU 6 (stU s) [])))))) (r := [.lst []]) (r' := [.lst [], .lst []]) (k := 12) (v := .ref (G.length + 2)) (mv := lstM true nilA) rfl (by simp [putU]) (by
      unfold lstM nilA
      refine (newL_t (by simp [szL])).trans ?_
      simp)
    have q8 := init_set (G := G) (sg := [some (.ref G.length), some (stU s), some (.lst []), some (.int 0), some (.bl false)]) (l := putU 12 (.ref (G.length + 2)) (putU 11 (.int 0) (putU 10 (.lst []) (putU 9 (.bl false) (putU 8 (.int 0) (putU 7 (.ref (G.length + 1)) (putU 6 (stU s) []))))))) (r := [.lst [], .lst []]) (r' := [.lst [], .lst []]) (k := 13) (v := .bl false) (mv := litM (.bl false)) rfl (by simp [putU]) rfl
    exact (congrArg runR ((seqM_nx q1).trans ((seqM_nx q2).trans ((seqM_nx q3).trans ((seqM_nx q4).trans ((seqM_nx q5).trans ((seqM_nx q6).trans ((seqM_nx q7).trans q8)))))))).trans rfl
  unfold makeM
  rw [consA_p (var_ok (u := stU s) rfl) (consA_p nilL (consA_p (x := .int 0) rfl (consA_p (x := .bl false) rfl rfl)))]
  simp only [bind_ok, madeU, arM]
  rw [if_pos (show [U.ref G.length, stU s, .lst [], .int 0, .bl false].length = 5 from rfl), e]
  rfl
theorem scan_at : ScAt (G ++ [.ins 2 (scL s sc0 (G.length + 1) (G.length + 2)), .lst [], .lst []]) G.length (G.length + 1) (G.length + 2) s sc0 :=
  ⟨by rw [List.getElem?_append_right (Nat.le_refl _)]; simp, by rw [List.getElem?_append_right (by omega)]; simp; rfl, by rw [List.getElem?_append_right (by omega)]; simp; rfl, by omega, by omega, by omega⟩
theorem Fr.pre {G' : List Ob} {S : List Nat} (h : Fr G G' S) (hS : ∀ k ∈ S, G.length ≤ k) : ∃ g, G' = G ++ g := by
  refine ⟨G'.drop G.length, ?_⟩
  have : G = G'.take G.length := by
    refine List.ext_getElem? fun k => ?_
    rw [List.getElem?_take]
    by_cases hk : k < G.length
    · rw [if_pos hk, h.keep k hk fun z => absurd hk (Nat.not_lt.mpr (hS k z))]
    · rw [if_neg hk, List.getElem?_eq_none_iff.mpr (by omega)]
  exact (List.take_append_drop G.length G').symm.trans (by rw [← this])
end
/-! ### the place a hit had -/
theorem le_old_place : Le r_old_place (runB d_old_place 40 s_old_place) := fun us G => by
  unfold r_old_place
  split
  · rename_i hit
    split
    · rename_i l e
      split
      · rename_i hl
        refine .inr ?_
        rw [run_old_place, itsOf_eq e]
        have hs : startS d_old_place.N [.lst (l.map itU)] = [some (.lst (l.map itU)), none, none, none] := rfl
        rw [hs]
        unfold m_old_place
        obtain ⟨i0, r, rfl⟩ : ∃ i0 r, l = i0 :: r := by
          cases l with
          | nil => simp at hl
          | cons a r => exact ⟨a, r, rfl⟩
        obtain ⟨c, o⟩ := i0
        have h1 : bin2 idxU (bin2 idxU (varM 0) (litM (.int 0))) (litM (.int 1)) [some (.lst (((c, o) :: r).map itU)), none, none, none] G = .ok (orgU o) G :=
          idx_tup0 (k := 1) (us := [.str [c], orgU o]) (itU_idx (k := 0) (i := (c, o)) (l := (c, o) :: r) (var_ok rfl) rfl rfl rfl) rfl
        rw [seqM_set h1]
        cases o with
        | none =>
          rw [seqM_ift (u := .non) (G1 := G) (G2 := G) (by simp [tobM, bin2, varM, litM, isU, isNonU, orgU, blU]) (stE_rt rfl)]
          rfl
        | some f =>
          have hn : tobM (bin2 (isU false) (varM 1) (litM .non)) ([some (.lst (((c, some f) :: r).map itU)), none, none, none].set 1 (some (orgU (some f)))) G = .ok false G := by
            simp [tobM, bin2, varM, litM, isU, isNonU, orgU, blU]
          rw [seqM_if hn]
          generalize hl' : (c, some f) :: r = l
          have hc : compM false (enI (varM 0)) (tupG 2 (consG (nameG 2) (consG (nameG 3) nilG))) yesT (bin2 (eqX false (fun c => d_old_place.eqt.lookup c)) (bin2 idxU (varM 3) (litM (.int 1))) (bin2 (addU false) (varM 1) (varM 2))) [2, 3] [some (.lst (l.map itU)), some (.int (f : Nat)), none, none] G = .ok (.lst ((l.zipIdx.map fun x => decide (x.1.2 = some (f + x.2))).map .bl)) G := by
            have hit : enI (varM 0) [some (.lst (l.map itU)), some (.int (f : Nat)), none, none] G = .ok (.items (enL (l.map itU)), (enL (l.map itU)).length) G := by
              rw [enL_len]; rfl
            have hc := comp_items (mu := false) (g := tupG 2 (consG (nameG 2) (consG (nameG 3) nilG))) (t := yesT) (e := bin2 (eqX false (fun c => d_old_place.eqt.lookup c)) (bin2 idxU (varM 3) (litM (.int 1))) (bin2 (addU false) (varM 1) (varM 2))) (own := [2, 3]) (s := [some (.lst (l.map itU)), some (.int (f : Nat)), none, none])
              (h := fun z => match z with | .tup [.int k, .tup [_, .int b]] => .bl (decide (b = (f : Int) + k)) | _ => .bl false) hit fun z hz => by
              obtain ⟨k, hk⟩ := List.getElem?_of_mem hz
              rw [enL_get, List.getElem?_map] at hk
              cases e : l[k]? with
              | none => rw [e] at hk; cases hk
              | some it =>
                rw [e] at hk
                cases hk
                refine ⟨[some (.lst (l.map itU)), some (.int (f : Nat)), some (.int (k : Nat)), some (itU it)], rfl, rfl, ?_⟩
                have i1 : bin2 idxU (varM 3) (litM (.int 1)) [some (.lst (l.map itU)), some (.int (f : Nat)), some (.int (k : Nat)), some (itU it)] G = .ok (orgU it.2) G := idx_tup0 (k := 1) (var_ok rfl) rfl
                rw [bin2_p i1 (add_int (x := f) (y := k) rfl rfl rfl)]
                obtain ⟨c', o'⟩ := it
                cases o' with
                | none => exact (eqX_pd rfl rfl).trans rfl
                | some b =>
                  have e0 : (((b : Nat) : Int) == (f : Int) + k) = decide (((b : Nat) : Int) = (f : Int) + k) := by by_cases z : ((b : Nat) : Int) = (f : Int) + k <;> simp [z]
                  refine (eqX_int (a := (b : Nat)) (b := (f : Int) + k)).trans ?_
                  simp only [Bool.false_eq_true, if_false, itU, orgU, e0]
            refine hc.trans ?_
            have e : (enL (l.map itU)).map (fun z => match z with | .tup [.int k, .tup [_, .int b]] => U.bl (decide (b = (f : Int) + k)) | _ => .bl false) = (l.zipIdx.map fun x => decide (x.1.2 = some (f + x.2))).map U.bl := by
              refine List.ext_getElem? fun k => ?_
              rw [List.getElem?_map, enL_get, List.getElem?_map, List.getElem?_map, List.getElem?_map, List.getElem?_zipIdx]
              cases l[k]? with
              | none => rfl
              | some it =>
                obtain ⟨c', o'⟩ := it
                cases o' with
                | none => simp [itU, orgU]
                | some b =>
                  simp only [Option.map_some, itU, orgU]
                  congr 2
                  exact decide_eq_decide.mpr (by simp; omega)
            rw [e]
            exact newL_f (by have := hl.2; rw [← hl']; simp at this ⊢; unfold szL; omega)
          have ht : tobM (preM allU (consA (compM false (enI (varM 0)) (tupG 2 (consG (nameG 2) (consG (nameG 3) nilG))) yesT (bin2 (eqX false (fun c => d_old_place.eqt.lookup c)) (bin2 idxU (varM 3) (litM (.int 1))) (bin2 (addU false) (varM 1) (varM 2))) [2, 3]) nilA)) [some (.lst (l.map itU)), some (.int (f : Nat)), none, none] G = .ok (l.zipIdx.all fun x => decide (x.1.2 = some (f + x.2))) G := by
            refine tob_bl ((pre_one hc).trans ?_)
            simp only [allU, lstOf, blsOf_map, List.all_map]
            rfl
          have hi : iteM (tobM (preM allU (consA (compM false (enI (varM 0)) (tupG 2 (consG (nameG 2) (consG (nameG 3) nilG))) yesT (bin2 (eqX false (fun c => d_old_place.eqt.lookup c)) (bin2 idxU (varM 3) (litM (.int 1))) (bin2 (addU false) (varM 1) (varM 2))) [2, 3]) nilA))) (varM 1) (litM .non) [some (.lst (l.map itU)), some (.int (f : Nat)), none, none] G = .ok (orgU (oldP l)) G := by
            unfold iteM
            rw [ht, ← hl']
            simp only [bind_ok, oldP]
            by_cases z : (((c, some f) :: r).zipIdx.all fun x => decide (x.1.2 = some (f + x.2))) = true
            · rw [if_pos z, if_pos z]; rfl
            · rw [if_neg z, if_neg z]; rfl
          refine Eq.symm ((congrArg runR (stE_rt (s := [some (.lst (l.map itU)), some (.int (f : Nat)), none, none]) hi)).trans rfl)
      · exact .inl rfl
    · exact .inl rfl
  · exact .inl rfl
end FL

namespace FL
open PySem L2 PyProof.Rows
/-- the pass, without the rest -/
def goQ (s : Dr) (f : Nat) : List It1 → Sc → List It1 → Option (Option (List It1 × Sc))
  | [], x, fd => some (some (fd, x))
  | i :: r, x, fd => match feedP s f i x with
    | none => none
    | some y => if y.endl then some none else goQ s f r y (fd ++ y.wr)
theorem goP_Q {s : Dr} {f : Nat} : ∀ (l : List It1) (x : Sc) (fd : List It1), goP s f l x fd = (goQ s f l x fd).map (Option.map fun z => (z.1 ++ (restP z.2).wr, restP z.2))
  | [], _, _ => rfl
  | i :: r, x, fd => by
    unfold goP goQ
    cases feedP s f i x with
    | none => rfl
    | some y =>
      simp only
      by_cases z : y.endl = true
      · simp [z]
      · simp only [if_neg z]
        exact goP_Q r y _
theorem feed_inv {s : Dr} (hw : 0 < s.w.length) (hz : 0 < s.zs.length) {x y : Sc} (h : ScI s x) {i : It1} {f : Nat} (e : feedP s f i x = some y) (he : y.endl = false) : ScI s y := by
  unfold feedP at e
  by_cases hs : x.stop = true
  · rw [if_pos hs] at e
    cases e
    exact ⟨h.cur, h.endl, h.gone, h.pend⟩
  · rw [if_neg hs] at e
    obtain ⟨z, ez, rfl⟩ := Option.map_eq_some_iff.mp e
    refine after_inv hw (loop_cur hz f (x := { x with wr := [], pend := x.pend ++ [i] }) h.cur ez) ?_
    revert he
    unfold afterP
    split
    · exact id
    · exact id
theorem inv_len {s : Dr} {x : Sc} (h : ScI s x) (h3 : s.w.length ≤ 3) : x.pend.length ≤ 2 := by
  obtain ⟨L, hL, e⟩ := h.pend
  have := congrArg List.length e
  rw [sgn_len, List.length_take] at this
  omega
abbrev goB : MS := seqM (stE (bmM extendU (varM 4) (consA (methM (fun c => ([(2, (2, r_Scan_feed))] : List (Nat × (Nat × RunD))).lookup c) 26 (varM 3) (consA (varM 5) nilA)) nilA)) (fun _ => nxM)) (ifM (tobM (At0 2 13 (varM 3))) (stE (varM 2) (raiseM 7 18)) nxM)
section
variable {G : List Ob} {i p m j q f : Nat} {s : Dr} {x y : Sc} {sn : Seen} {sg : Sg} {a : Nat}
theorem extend_ok {mo my : ME} {k : Nat} {l l' : List U} {G1 : List Ob} (h0 : mo sg G = .ok (.ref k) G) (hk0 : ∃ l0, G[k]? = some (.lst l0)) (hy : my sg G = .ok (.lst l') G1) (hk : G1[k]? = some (.lst l)) (hz : l.length + l'.length ≤ szL) : stE (bmM extendU mo (consA my nilA)) (fun _ => nxM) sg G = .nx sg (G1.set k (.lst (l ++ l'))) := by
  obtain ⟨l0, hk0⟩ := hk0
  unfold stE bmM
  rw [h0]
  simp only [bind_ok, lstOfW, hk0]
  rw [consA_ok hy rfl]
  simp only [bind_ok, extendU, hk, lstOfW]
  rw [if_pos hz]
  rfl
/-- the items, one after another -/
theorem go_loop (ho : okd s = true) {items : List It1} (hit : isT (sgn items) = true) {n : Int} {b : Itb} (hb : ∀ (G : List Ob) k, itAt b G k = some (items.map itU)[k]?) {u1 x6 x7 x8 x9 : Option U} : ∀ (r : List It1) (k : Nat) {G : List Ob} {p : Nat} {x : Sc} {fd : List It1} {x5 : Option U}, items.drop k = r →
    ScAt G i p m s x → G[f]? = some (.lst (fd.map itU)) → f ≠ i → f ≠ p → f ≠ m → ScI s x → okC (sgn x.pend) = true → fd.length ≤ 310 * k → x.met.length ≤ 100 * k → k + r.length ≤ 5000 →
    ∀ res, goQ s 100 r x fd = some res →
    match res with
    | none => ∃ sg' G', forL b (nameG 5) goB r.length k [some (stU s), u1, some (.int n), some (.ref i), some (.ref f), x5, x6, x7, x8, x9] G = .exc (exN n) sg' G' ∧ Fr G G' [i, p, m, f]
    | some (fd', y) => ∃ G' p' y5, forL b (nameG 5) goB r.length k [some (stU s), u1, some (.int n), some (.ref i), some (.ref f), x5, x6, x7, x8, x9] G = .nx [some (stU s), u1, some (.int n), some (.ref i), some (.ref f), y5, x6, x7, x8, x9] G' ∧ ScAt G' i p' m s y ∧ G'[f]? = some (.lst (fd'.map itU)) ∧ f ≠ p' ∧ Fr G G' [i, p, m, f] ∧ y.pend.length ≤ 2 ∧ fd'.length ≤ 310 * (k + r.length) ∧ y.met.length ≤ 100 * (k + r.length) ∧ (p' = p ∨ G.length ≤ p')
  | [], k, G, p, x, fd, x5, hd, h, hf, hfi, hfp, hfm, hI, hok, hl1, hl2, hk, res, e => by
    obtain ⟨h1, h2, h3, h4, h5, h6, h7, h8, h9, h10⟩ := okd_parts ho
    cases e
    refine ⟨G, p, x5, ?_, h, hf, hfp, Fr.refl, inv_len hI h3, hl1, hl2, .inl rfl⟩
    have : (items.map itU)[k]? = none := by
      rw [List.getElem?_eq_none_iff, List.length_map]
      exact List.drop_eq_nil_iff.mp hd
    show forL b (nameG 5) goB 0 k _ G = _
    unfold forL
    rw [hb, this]
  | it :: r, k, G, p, x, fd, x5, hd, h, hf, hfi, hfp, hfm, hI, hok, hl1, hl2, hk, res, e => by
    obtain ⟨h1, h2, h3, h4, h5, h6, h7, h8, h9, h10⟩ := okd_parts ho
    have hlz := (okDs_ok h8).2.2
    have hg : items[k]? = some it := by
      have := congrArg (fun l => l[0]?) hd
      simpa using this
    have hd' : items.drop (k + 1) = r := by
      rw [← List.drop_drop, hd]
      rfl
    have hgU : (items.map itU)[k]? = some (itU it) := by rw [List.getElem?_map, hg]; rfl
    have hitc : okC [it.1] = true := by
      have := isT_ok hit
      unfold okC at this ⊢
      have := List.all_eq_true.mp this it.1 (List.mem_map_of_mem (f := Prod.fst) (List.mem_of_getElem? hg))
      simpa using this
    have hp2 := inv_len hI h3
    simp only [List.length_cons] at hk ⊢
    unfold goQ at e
    cases ef : feedP s 100 it x with
    | none => rw [ef] at e; cases e
    | some y =>
      rw [ef] at e
      simp only at e
      obtain ⟨G1, p1, g1, g2, g3, g4, g5, g6, g7⟩ := feed_ok h ho hI.cur hok hitc (by unfold szL; omega) (by unfold szL; omega) ef
      have hwr : y.wr.length ≤ 306 := by unfold big at g5; omega
      have hli := lt_of h.ins
      have hlp := lt_of h.pen
      have hlm := lt_of h.met
      have hlf := lt_of hf
      have hf1 : G1[f]? = some (.lst (fd.map itU)) := g3.get hf (by simp; exact ⟨hfi, hfp, hfm⟩)
      have hfp1 : f ≠ p1 := by
        rcases g7 with z | z
        · rw [z]; exact hfp
        · omega
      have em : methM (fun c => ([(2, (2, r_Scan_feed))] : List (Nat × (Nat × RunD))).lookup c) 26 (varM 3) (consA (varM 5) nilA) [some (stU s), u1, some (.int n), some (.ref i), some (.ref f), some (itU it), x6, x7, x8, x9] G = .ok (.lst (y.wr.map itU)) G1 :=
        (meth_eval (c := 2) (l := scL s x p m) (n := 2) (r := r_Scan_feed) (us := [itU it]) (var_ok rfl) (by simp only [insOf, h.ins]) rfl rfl (consA_p (var_ok rfl) rfl)).trans g1
      have e1 := extend_ok (sg := [some (stU s), u1, some (.int n), some (.ref i), some (.ref f), some (itU it), x6, x7, x8, x9]) (G := G) (mo := varM 4) (k := f) (l := fd.map itU) (l' := y.wr.map itU) rfl ⟨_, hf⟩ em hf1 (by simp; unfold szL; omega)
      rw [← List.map_append] at e1
      have s2 : ScAt (G1.set f (.lst ((fd ++ y.wr).map itU))) i p1 m s y := g2.fr Fr.set (by simp; exact Ne.symm hfi) (by simp; exact Ne.symm hfp1) (by simp; exact Ne.symm hfm)
      have f2 : (G1.set f (.lst ((fd ++ y.wr).map itU)))[f]? = some (.lst ((fd ++ y.wr).map itU)) := List.getElem?_set_self (Nat.lt_of_lt_of_le hlf g3.len)
      have r2 : Fr G (G1.set f (.lst ((fd ++ y.wr).map itU))) [i, p, m, f] := (g3.mono (S2 := [i, p, m, f]) (by simp)).trans Fr.set (by simp)
      generalize G1.set f (.lst ((fd ++ y.wr).map itU)) = G2 at e1 s2 f2 r2
      have A := sc_at s2 (sg := [some (stU s), u1, some (.int n), some (.ref i), some (.ref f), some (itU it), x6, x7, x8, x9]) (a := 3) rfl
      have hnm : nameG 5 (itU it) [some (stU s), u1, some (.int n), some (.ref i), some (.ref f), x5, x6, x7, x8, x9] = some [some (stU s), u1, some (.int n), some (.ref i), some (.ref f), some (itU it), x6, x7, x8, x9] := rfl
      by_cases z : y.endl = true
      · rw [if_pos z] at e
        cases e
        have ht : tobM (At0 2 13 (varM 3)) [some (stU s), u1, some (.int n), some (.ref i), some (.ref f), some (itU it), x6, x7, x8, x9] G2 = .ok true G2 := (tob_bl A.2.2.2.2.2.2.2).trans (by rw [z])
        refine ⟨[some (stU s), u1, some (.int n), some (.ref i), some (.ref f), some (itU it), x6, x7, x8, x9], G2, ?_, r2⟩
        have hB : goB [some (stU s), u1, some (.int n), some (.ref i), some (.ref f), some (itU it), x6, x7, x8, x9] G = .exc (exN n) [some (stU s), u1, some (.int n), some (.ref i), some (.ref f), some (itU it), x6, x7, x8, x9] G2 := by
          show seqM _ _ _ _ = _
          rw [seqM_nx e1, ifM_t ht]
          rfl
        unfold forL
        rw [hb, hgU]
        simp only [hnm, hB]
      · have z' : y.endl = false := by simpa using z
        rw [if_neg z] at e
        have ht : tobM (At0 2 13 (varM 3)) [some (stU s), u1, some (.int n), some (.ref i), some (.ref f), some (itU it), x6, x7, x8, x9] G2 = .ok false G2 := (tob_bl A.2.2.2.2.2.2.2).trans (by rw [z'])
        have hB : goB [some (stU s), u1, some (.int n), some (.ref i), some (.ref f), some (itU it), x6, x7, x8, x9] G = .nx [some (stU s), u1, some (.int n), some (.ref i), some (.ref f), some (itU it), x6, x7, x8, x9] G2 := by
          show seqM _ _ _ _ = _
          rw [seqM_nx e1, ifM_f ht]
          rfl
        have ih := go_loop ho hit hb (n := n) (u1 := u1) (x6 := x6) (x7 := x7) (x8 := x8) (x9 := x9) r (k + 1) (x5 := some (itU it)) hd' s2 f2 hfi hfp1 hfm (feed_inv (by omega) (by omega) hI ef z') g4 (by simp; omega) (by omega) (by omega) res e
        unfold forL
        rw [hb, hgU]
        simp only [hnm, hB]
        cases res with
        | none =>
          obtain ⟨sg', G', q1, q2⟩ := ih
          refine ⟨sg', G', q1, r2.trans q2 (fun k hk => ?_)⟩
          simp at hk
          rcases hk with rfl | rfl | rfl | rfl
          · exact .inl (by simp)
          · rcases g7 with z | z
            · exact .inl (by simp [z])
            · exact .inr z
          · exact .inl (by simp)
          · exact .inl (by simp)
        | some w =>
          obtain ⟨fd', y'⟩ := w
          obtain ⟨G', p', y5, q1, q2, q3, q4, q5, q6, q7, q8, q9⟩ := ih
          refine ⟨G', p', y5, q1, q2, q3, q4, r2.trans q5 (fun k hk => ?_), q6, by omega, by omega, by have := r2.len; omega⟩
          simp at hk
          rcases hk with rfl | rfl | rfl | rfl
          · exact .inl (by simp)
          · rcases g7 with z | z
            · exact .inl (by simp [z])
            · exact .inr z
          · exact .inl (by simp)
          · exact .inl (by simp)
end
theorem cut_n {A : Rs U} {G : List Ob} {X Y : Rt} (q : X = Y) (h : Cut G A (runR Y)) : Cut G A (runR X) := by rw [q]; exact h
theorem cut_rt {G g : List Ob} {u u' : U} {X : Rt} (q : X = .rt u (G ++ g)) (hf : frzU G.length (G ++ g) u = some u') : Cut G (.ok u' G) (runR X) := by rw [q]; exact cut_new hf
theorem cut_newX {G g : List Ob} {x : Exn} : Cut G (.exc x G) (.exc x (G ++ g)) := ⟨rfl, ⟨g, rfl⟩, rfl, fun _ _ e => .inl e⟩
theorem mapU_org {f : Nat → Option U} (o : Option Nat) : mapU f (orgU o) = some (orgU o) := by cases o <;> rfl
theorem map_its {f : Nat → Option U} : ∀ l : List It1, mapUs f (l.map itU) = some (l.map itU)
  | [] => rfl
  | i :: r => by
    rw [List.map_cons]
    simp only [mapUs, itU, mapU, mapU_org, map_its r, Option.map_some]
theorem map_evs {f : Nat → Option U} {n : Int} : ∀ l : List (W1 × Nat × List It1), mapUs f (l.map (evU n)) = some (l.map (evU n))
  | [] => rfl
  | i :: r => by
    rw [List.map_cons]
    simp only [mapUs, evU, mapU, mapU_org, map_evs r, Option.map_some]
abbrev goE : ME := compM false (seqI (At0 2 12 (varM 3))) (tupG 3 (consG (nameG 7) (consG (nameG 8) (consG (nameG 9) nilG)))) yesT (tupM (consA (varM 2) (consA (varM 7) (consA (varM 8) (consA (callM 1 r_old_place (consA (varM 9) nilA)) nilA))))) [7, 8, 9]
theorem gone_m : m_gone_through = seqM (stE (makeM 2 5 r_Scan_init (consA (varM 0) (consA (lstM false nilA) (consA (litM (.int 0)) (consA (litM (.bl false)) nilA))))) (setM 3)) (seqM (stE (lstM true nilA) (setM 4)) (seqM (forM (seqI (varM 1)) (nameG 5) goB) (seqM (stE (bmM extendU (varM 4) (consA (methM (fun c => ([(2, (1, r_Scan_rest))] : List (Nat × (Nat × RunD))).lookup c) 27 (varM 3) nilA) nilA)) (fun _ => nxM)) (seqM (stE goE (setM 6)) (stE (tupM (consA (varM 4) (consA (varM 6) nilA))) rtM))))) := rfl
/-- every hit noted has as many items as the word -/
def MetI (s : Dr) (x : Sc) : Prop := ∀ e ∈ x.met, e.2.2.length = s.w.length
theorem meet_metI {s : Dr} {pl : Nat} {x : Sc} {sn : Seen} (hpl : pl + s.w.length ≤ x.pend.length) (h : MetI s x) : MetI s (meetP s pl x sn).1 := by
  have hn : MetI s (noteP s pl x) := fun e he => by
    rcases List.mem_append.mp he with he | he
    · exact h e he
    · simp only [List.mem_singleton] at he
      subst he
      show ((x.pend.drop pl).take s.w.length).length = _
      rw [List.length_take, List.length_drop]
      omega
  unfold meetP
  simp only
  split
  · exact hn
  · split
    · exact hn
    · exact hn
theorem loop_metI {s : Dr} : ∀ (f : Nat) {x y : Sc} {sn : Seen}, MetI s x → loopP s f x sn = some y → MetI s y
  | 0, _, _, _, _, e => nomatch e
  | f + 1, x, y, sn, h, e => by
    unfold loopP at e
    cases e2 : placeO s.w x.pend with
    | none => rw [e2] at e; cases e; exact h
    | some pl =>
      rw [e2] at e
      by_cases z : (x.stop || x.endl) = true
      · simp only [z, if_true] at e; cases e; exact h
      · simp only [if_neg z] at e
        exact loop_metI f (meet_metI (place_some e2) h) e
theorem feed_metI {s : Dr} {f : Nat} {x y : Sc} {i : It1} (h : MetI s x) (e : feedP s f i x = some y) : MetI s y := by
  unfold feedP at e
  by_cases hs : x.stop = true
  · rw [if_pos hs] at e
    cases e
    exact h
  · rw [if_neg hs] at e
    obtain ⟨z, ez, rfl⟩ := Option.map_eq_some_iff.mp e
    have hz : MetI s z := loop_metI f (x := { x with wr := [], pend := x.pend ++ [i] }) h ez
    unfold afterP
    split
    · exact hz
    · exact hz
theorem go_metI {s : Dr} {f : Nat} : ∀ (l : List It1) {x : Sc} {fd : List It1} {fd' : List It1} {y : Sc}, MetI s x → goQ s f l x fd = some (some (fd', y)) → MetI s y
  | [], _, _, _, _, h, e => by cases e; exact h
  | i :: r, x, fd, fd', y, h, e => by
    unfold goQ at e
    cases ef : feedP s f i x with
    | none => rw [ef] at e; cases e
    | some z =>
      rw [ef] at e
      simp only at e
      by_cases hz : z.endl = true
      · rw [if_pos hz] at e; cases e
      · rw [if_neg hz] at e
        exact go_metI r (feed_metI h ef) e
theorem le_gone_through : LeC r_gone_through (runB d_gone_through 40 s_gone_through) := fun us G => by
  unfold r_gone_through
  split
  · rename_i st items n
    split
    · rename_i s l es el
      obtain ⟨rfl, ho⟩ := drOfI_ok es
      have := itsOf_eq el
      subst this
      obtain ⟨h1, h2, h3, h4, h5, h6, h7, h8, h9, h10⟩ := okd_parts ho
      have hlz := (okDs_ok h8).2.2
      split
      · rename_i hh
        obtain ⟨hl5, hT⟩ := hh
        rw [goP_Q]
        cases eq : goQ s 100 l sc0 [] with
        | none => exact .inl rfl
        | some res =>
          refine .inr (.inr ?_)
          rw [run_gone_through, gone_m]
          have hs : startS d_gone_through.N [stU s, .lst (l.map itU), .int n] = [some (stU s), some (.lst (l.map itU)), some (.int n), none, none, none, none, none, none, none] := rfl
          rw [hs]
          have e0 := scan_new (G := G) (s := s) (u1 := some (.lst (l.map itU))) (n := some (.int n)) (x3 := none) (x4 := none) (x5 := none) (x6 := none) (x7 := none) (x8 := none) (x9 := none)
          refine cut_n (seqM_set e0) ?_
          have sa := scan_at (G := G) (s := s)
          generalize hG1 : G ++ [Ob.ins 2 (scL s sc0 (G.length + 1) (G.length + 2)), .lst [], .lst []] = G1 at sa ⊢
          have len1 : G1.length = G.length + 3 := by rw [← hG1]; simp
          have f1 : Fr G G1 [] := by rw [← hG1]; exact Fr.app
          have e1 : lstM true nilA [some (stU s), some (.lst (l.map itU)), some (.int n), some (.ref G.length), none, none, none, none, none, none] G1 = .ok (.ref G1.length) (G1 ++ [.lst []]) := by
            unfold lstM nilA
            exact newL_t (by simp [szL])
          refine cut_n (seqM_set (s := [some (stU s), some (.lst (l.map itU)), some (.int n), some (.ref G.length), none, none, none, none, none, none]) e1) ?_
          have s2 := sa.fr (Fr.app (G := G1) (g := [.lst []])) (by simp) (by simp) (by simp)
          have g2 : (G1 ++ [Ob.lst []])[G1.length]? = some (.lst (([] : List It1).map itU)) := by simp
          have f2 : Fr G (G1 ++ [.lst []]) [] := f1.trans Fr.app (by simp)
          generalize hG2 : G1 ++ [Ob.lst []] = G2 at s2 g2 f2 ⊢
          have it : seqI (varM 1) [some (stU s), some (.lst (l.map itU)), some (.int n), some (.ref G.length), some (.ref G1.length), none, none, none, none, none] G2 = .ok (.seq (.lst (l.map itU)), l.length) G2 := by
            simp [seqI, varM, seqOf, lstOf]
          have lp := go_loop (n := n) (b := .seq (.lst (l.map itU))) ho hT (fun G k => by simp [itAt, seqOf, lstOf]) (u1 := some (.lst (l.map itU))) (x6 := none) (x7 := none) (x8 := none) (x9 := none) l 0 (x5 := none) rfl s2 g2 (by omega) (by omega) (by omega) (sc0_inv (by omega) (by omega)) rfl (by simp) (by simp [sc0]) (by omega) res eq
          have hfor : ∀ r, forL (.seq (.lst (l.map itU))) (nameG 5) goB l.length 0 [some (stU s), some (.lst (l.map itU)), some (.int n), some (.ref G.length), some (.ref G1.length), none, none, none, none, none] G2 = r → forM (seqI (varM 1)) (nameG 5) goB [some (stU s), some (.lst (l.map itU)), some (.int n), some (.ref G.length), some (.ref G1.length), none, none, none, none, none] G2 = r := fun r h => by
            unfold forM
            rw [it]
            exact h
          cases res with
          | none =>
            obtain ⟨sg', G', q1, q2⟩ := lp
            obtain ⟨g, hg⟩ := (f2.trans q2 (S := []) (by simp; omega)).pre (by simp)
            have : seqM (forM (seqI (varM 1)) (nameG 5) goB) (seqM (stE (bmM extendU (varM 4) (consA (methM (fun c => ([(2, (1, r_Scan_rest))] : List (Nat × (Nat × RunD))).lookup c) 27 (varM 3) nilA) nilA)) (fun _ => nxM)) (seqM (stE goE (setM 6)) (stE (tupM (consA (varM 4) (consA (varM 6) nilA))) rtM))) [some (stU s), some (.lst (l.map itU)), some (.int n), some (.ref G.length), some (.ref G1.length), none, none, none, none, none] G2 = .exc (exN n) sg' G' := by
              unfold seqM
              rw [hfor _ q1]
            refine cut_n this ?_
            rw [hg]
            exact cut_newX
          | some w =>
            obtain ⟨fd, y⟩ := w
            obtain ⟨G', p', y5, q1, q2, q3, q4, q5, q6, q7, q8, q9⟩ := lp
            have hp' : G.length ≤ p' := by have := f2.len; omega
            refine cut_n (seqM_nx (hfor _ q1)) ?_
            obtain ⟨G3, p3, r1, r2, r3, r4⟩ := rest_ok q2 (by unfold szL; omega)
            have hl1 : G.length ≤ G'.length := Nat.le_trans f2.len q5.len
            have g3 : G3[G1.length]? = some (.lst (fd.map itU)) := r3.get q3 (by simp; exact ⟨by omega, q4, by omega⟩)
            have em : methM (fun c => ([(2, (1, r_Scan_rest))] : List (Nat × (Nat × RunD))).lookup c) 27 (varM 3) nilA [some (stU s), some (.lst (l.map itU)), some (.int n), some (.ref G.length), some (.ref G1.length), y5, none, none, none, none] G' = .ok (.lst ((restP y).wr.map itU)) G3 :=
              (meth_eval (c := 2) (l := scL s y p' (G.length + 2)) (n := 1) (r := r_Scan_rest) (us := []) (var_ok rfl) (by simp only [insOf, q2.ins]) rfl rfl rfl).trans r1
            have hrw : (restP y).wr.length ≤ 2 := by
              show ([] ++ y.pend.take y.pend.length).length ≤ 2
              simp; exact q6
            have hfl : fd.length ≤ 1550000 := by omega
            have e2 := extend_ok (sg := [some (stU s), some (.lst (l.map itU)), some (.int n), some (.ref G.length), some (.ref G1.length), y5, none, none, none, none]) (G := G') (mo := varM 4) (k := G1.length) (l := fd.map itU) (l' := (restP y).wr.map itU) rfl ⟨_, q3⟩ em g3 (by simp; unfold szL; omega)
            rw [← List.map_append] at e2
            refine cut_n (seqM_nx e2) ?_
            have hlf := lt_of q3
            have s4 : ScAt (G3.set G1.length (.lst ((fd ++ (restP y).wr).map itU))) G.length p3 (G.length + 2) s (restP y) := r2.fr Fr.set (by simp; omega) (by simp; omega) (by simp; omega)
            have f4 : Fr G (G3.set G1.length (.lst ((fd ++ (restP y).wr).map itU))) [] := ((f2.trans q5 (S := []) (by simp; omega)).trans r3 (by simp; omega)).trans Fr.set (by simp; omega)
            have g4 : (G3.set G1.length (.lst ((fd ++ (restP y).wr).map itU)))[G1.length]? = some (.lst ((fd ++ (restP y).wr).map itU)) := List.getElem?_set_self (Nat.lt_of_lt_of_le hlf r3.len)
            generalize G3.set G1.length (.lst ((fd ++ (restP y).wr).map itU)) = G4 at s4 f4 g4 ⊢
            have hM : MetI s y := go_metI l (fun e he => by cases he) eq
            have A := sc_at s4 (sg := [some (stU s), some (.lst (l.map itU)), some (.int n), some (.ref G.length), some (.ref G1.length), y5, none, none, none, none]) (a := 3) rfl
            have hmet : (restP y).met = y.met := rfl
            have e3 : goE [some (stU s), some (.lst (l.map itU)), some (.int n), some (.ref G.length), some (.ref G1.length), y5, none, none, none, none] G4 = .ok (.lst (y.met.map (evU n))) G4 := by
              have hit : seqI (At0 2 12 (varM 3)) [some (stU s), some (.lst (l.map itU)), some (.int n), some (.ref G.length), some (.ref G1.length), y5, none, none, none, none] G4 = .ok (.seq (.ref (G.length + 2)), (y.met.map metU).length) G4 := by
                unfold seqI
                rw [A.2.2.2.2.2.2.1]
                simp only [bind_ok, seqOf, lstOf, s4.met]
                rfl
              have hc := comp_seq (mu := false) (g := tupG 3 (consG (nameG 7) (consG (nameG 8) (consG (nameG 9) nilG)))) (t := yesT) (e := tupM (consA (varM 2) (consA (varM 7) (consA (varM 8) (consA (callM 1 r_old_place (consA (varM 9) nilA)) nilA))))) (own := [7, 8, 9]) (s := [some (stU s), some (.lst (l.map itU)), some (.int n), some (.ref G.length), some (.ref G1.length), y5, none, none, none, none])
                (h := fun z => match z with | .tup [.str d, .int pl, .lst hit] => (match itsOf hit with | some l => .tup [.int n, .str d, .int pl, orgU (oldP l)] | none => z) | z => z) hit (by simp only [seqOf, lstOf, s4.met]; rfl) fun z hz => by
                obtain ⟨e, he, rfl⟩ := List.mem_map.mp hz
                refine ⟨[some (stU s), some (.lst (l.map itU)), some (.int n), some (.ref G.length), some (.ref G1.length), y5, none, some (.str e.1), some (.int (e.2.1 : Nat)), some (.lst (e.2.2.map itU))], rfl, rfl, ?_⟩
                have ho : callM 1 r_old_place (consA (varM 9) nilA) [some (stU s), some (.lst (l.map itU)), some (.int n), some (.ref G.length), some (.ref G1.length), y5, none, some (.str e.1), some (.int (e.2.1 : Nat)), some (.lst (e.2.2.map itU))] G4 = .ok (orgU (oldP e.2.2)) G4 := by
                  unfold callM
                  rw [consA_p (var_ok rfl) rfl]
                  simp only [bind_ok, arM, r_old_place, itsOf_map]
                  have := hM e he
                  exact (if_pos rfl).trans (if_pos ⟨by omega, by omega⟩)
                unfold tupM
                rw [consA_p (var_ok (u := .int n) rfl) (consA_p (var_ok (u := .str e.1) rfl) (consA_p (var_ok (u := .int (e.2.1 : Nat)) rfl) (consA_p ho rfl)))]
                simp only [bind_ok, metU, itsOf_map]
                exact newT_ok' (by simp [szL])
              refine hc.trans ?_
              have e : (y.met.map metU).map (fun z => match z with | .tup [.str d, .int pl, .lst hit] => (match itsOf hit with | some l => .tup [.int n, .str d, .int pl, orgU (oldP l)] | none => z) | z => z) = y.met.map (evU n) := by
                rw [List.map_map]
                refine List.map_congr_left fun e he => ?_
                simp only [Function.comp, metU, itsOf_map]
                rfl
              rw [e]
              exact newL_f (by rw [List.length_map]; unfold szL; omega)
            refine cut_n (seqM_set e3) ?_
            obtain ⟨g, hg⟩ := f4.pre (by simp)
            have e4 : tupM (consA (varM 4) (consA (varM 6) nilA)) [some (stU s), some (.lst (l.map itU)), some (.int n), some (.ref G.length), some (.ref G1.length), y5, some (.lst (y.met.map (evU n))), none, none, none] G4 = .ok (.tup [.ref G1.length, .lst (y.met.map (evU n))]) G4 := by
              unfold tupM
              rw [consA_p (var_ok rfl) (consA_p (var_ok rfl) rfl)]
              exact newT_ok' (by simp [szL])
            have e5 := stE_rt e4
            rw [hg] at e5 g4
            refine cut_rt (g := g) (u := .tup [.ref G1.length, .lst (y.met.map (evU n))]) (by rw [hg]; exact e5) ?_
            have hnlt : ¬ G1.length < G.length := by omega
            simp only [frzU, mapU, mapUs, refF, hnlt, if_false, g4, map_its, map_evs, Option.map_some]
            rfl
      · exact .inl rfl
    · exact .inl rfl
  · exact .inl rfl
end FL

namespace FL
open PySem L2 PyProof.Rows
theorem le_Outcome_init : Le r_Outcome_init (runB d_Outcome_init 40 s_Outcome_init) := fun us G => by
  unfold r_Outcome_init
  split
  · rename_i i a b c
    split
    · rename_i hg
      refine .inr ?_
      rw [run_Outcome_init]
      obtain ⟨hi, hg⟩ := List.getElem?_eq_some_iff.mp hg
      simp [m_Outcome_init, d_Outcome_init, startS, runR, seqM, stE2, varM, fldM, hg, putU, List.getElem?_set, hi]
    · exact .inl rfl
  · exact .inl rfl
theorem le_Outcome_text : Le r_Outcome_text (runB d_Outcome_text 40 s_Outcome_text) := fun us G => by
  unfold r_Outcome_text
  split
  · refine .inr ?_
    rw [run_Outcome_text]
    simp [m_Outcome_text, d_Outcome_text, startS, runR, stE, attrM, varM, insOf, List.lookup, rtM]
  · exact .inl rfl
theorem le_Outcome_events : Le r_Outcome_events (runB d_Outcome_events 40 s_Outcome_events) := fun us G => by
  unfold r_Outcome_events
  split
  · refine .inr ?_
    rw [run_Outcome_events]
    simp [m_Outcome_events, d_Outcome_events, startS, runR, stE, attrM, varM, insOf, List.lookup, rtM]
  · exact .inl rfl
theorem le_Outcome_len : Le r_Outcome_len (runB d_Outcome_len 40 s_Outcome_len) := fun us G => by
  unfold r_Outcome_len
  split
  · split
    · refine .inr ?_
      rw [run_Outcome_len]
      simp [m_Outcome_len, d_Outcome_len, startS, runR, stE, preM, consA, nilA, lenU, seqOf, attrM, varM, insOf, List.lookup, rtM]
    · exact .inl rfl
  · exact .inl rfl
/-! ### the fates -/
theorem ofEv_eq {u : U} {d : W1} {o : Option Nat} (h : ofEv u = some (d, o)) : ∃ a b, u = .tup [.int a, .str d, .int b, orgU o] ∧ okC d = true := by
  unfold ofEv at h
  split at h
  · rename_i a d' b o'
    split at h
    · rename_i hd
      cases e : orgOf o' with
      | none => rw [e] at h; cases h
      | some z =>
        rw [e] at h
        cases h
        exact ⟨a, b, by rw [orgOf_eq e], hd⟩
    · cases h
  · cases h
/-- the events as they stand, beside what is read of them -/
inductive Evs : List U → List (W1 × Option Nat) → Prop
  | nil : Evs [] []
  | cons {u : U} {e : W1 × Option Nat} {us : List U} {es : List (W1 × Option Nat)} (a b : Int) : u = .tup [.int a, .str e.1, .int b, orgU e.2] → okC e.1 = true → Evs us es → Evs (u :: us) (e :: es)
theorem ofEvs_ok : ∀ {us : List U} {es : List (W1 × Option Nat)}, ofEvs us = some es → Evs us es
  | [], es, h => by cases h; exact .nil
  | u :: r, es, h => by
    unfold ofEvs at h
    split at h
    · rename_i a b e1 e2
      cases h
      obtain ⟨d, o⟩ := a
      obtain ⟨x, y, h1, h2⟩ := ofEv_eq e1
      exact .cons x y h1 h2 (ofEvs_ok e2)
    · cases h
theorem Evs.len {us : List U} {es : List (W1 × Option Nat)} (h : Evs us es) : us.length = es.length := by
  induction h with
  | nil => rfl
  | cons a b h1 h2 h3 ih => simp [ih]
theorem Evs.mem {us : List U} {es : List (W1 × Option Nat)} (h : Evs us es) : ∀ u ∈ us, ∃ a b d o, u = .tup [.int a, .str d, .int b, orgU o] ∧ okC d = true := by
  induction h with
  | nil => intro u hu; cases hu
  | cons a b h1 h2 h3 ih =>
    intro u hu
    rcases List.mem_cons.mp hu with rfl | hu
    · exact ⟨a, b, _, _, h1, h2⟩
    · exact ih u hu
def evAt (pl : Nat) : U → Bool
  | .tup [_, _, _, .int b] => decide (b = (pl : Int))
  | _ => false
theorem evAt_org {pl : Nat} {a b : Int} {d : W1} {o : Option Nat} : evAt pl (.tup [.int a, .str d, .int b, orgU o]) = decide (o = some pl) := by
  cases o with
  | none => rfl
  | some k =>
    show decide (((k : Nat) : Int) = (pl : Int)) = _
    exact decide_eq_decide.mpr (by simp; omega)
theorem Evs.filter {pl : Nat} {us : List U} {es : List (W1 × Option Nat)} (h : Evs us es) : Evs (us.filter (evAt pl)) (es.filter fun e => decide (e.2 = some pl)) := by
  induction h with
  | nil => exact .nil
  | cons a b h1 h2 h3 ih =>
    rename_i u e us' es'
    rw [List.filter_cons, List.filter_cons, h1, evAt_org]
    by_cases z : decide (e.2 = some pl) = true
    · rw [if_pos z, if_pos z]; exact .cons a b rfl h2 ih
    · rw [if_neg z, if_neg z]; exact ih
def isRepU : U → Bool
  | .tup [_, .str d, _, _] => d == wRep
  | _ => false
theorem Evs.any {us : List U} {es : List (W1 × Option Nat)} (h : Evs us es) : us.any isRepU = es.any fun e => e.1 == wRep := by
  induction h with
  | nil => rfl
  | cons a b h1 h2 h3 ih => rw [List.any_cons, List.any_cons, ih, h1]; rfl
def fatesK (w text : W1) (its : List It1) (evs : List (W1 × Option Nat)) (n : Nat) : List (U × U) := ((List.range n).filter fun pl => decide ((text.drop pl).take w.length = w)).map fun pl => (.int (pl : Nat), fateP w its evs pl)
theorem fatesK_succ {w text : W1} {its : List It1} {evs : List (W1 × Option Nat)} {n : Nat} : fatesK w text its evs (n + 1) = fatesK w text its evs n ++ (if (text.drop n).take w.length = w then [(.int (n : Nat), fateP w its evs n)] else []) := by
  unfold fatesK
  rw [List.range_succ, List.filter_append, List.map_append]
  congr 1
  by_cases z : (text.drop n).take w.length = w
  · simp [z]
  · simp [z]
theorem fatesK_key {w text : W1} {its : List It1} {evs : List (W1 × Option Nat)} {n : Nat} : ((fatesK w text its evs n).any fun p => keyEq p.1 (.int (n : Nat))) = false := by
  rw [List.any_eq_false]
  intro p hp
  obtain ⟨k, hk, rfl⟩ := List.mem_map.mp hp
  have := List.mem_range.mp (List.mem_filter.mp hk).1
  simp [keyEq]
  omega
theorem fatesK_len {w text : W1} {its : List It1} {evs : List (W1 × Option Nat)} {n : Nat} : (fatesK w text its evs n).length ≤ n := by
  unfold fatesK
  rw [List.length_map]
  exact Nat.le_trans (List.length_filter_le _ _) (by simp)
theorem map_fates {f : Nat → Option U} {w : W1} {its : List It1} {evs : List (W1 × Option Nat)} : ∀ l : List Nat, mapK f (l.map fun pl => (U.int (pl : Nat), fateP w its evs pl)) = some (l.map fun pl => (U.int (pl : Nat), fateP w its evs pl))
  | [] => rfl
  | i :: r => by
    rw [List.map_cons]
    have hm : mapU f (fateP w its evs i) = some (fateP w its evs i) := rfl
    unfold mapK
    rw [hm, map_fates r]
abbrev faO : ME := compM false (seqI (varM 3)) (nameG 11) (tobM (bin2 (eqX false (fun c => d_fates_of.eqt.lookup c)) (bin2 idxU (varM 11) (litM (.int 3))) (varM 6))) (varM 11) [11]
abbrev faW : ME := preM allU (consA (compM false (preI rng1U (consA (preM lenU (consA (At0 0 0 (varM 0)) nilA)) nilA)) (nameG 12) yesT (bin2 (inU false) (bin2 (addU false) (varM 6) (varM 12)) (varM 4)) [12]) nilA)
abbrev faN : ME := preM anyU (consA (compM false (seqI (varM 8)) (nameG 11) yesT (bin2 (eqX false (fun c => d_fates_of.eqt.lookup c)) (bin2 idxU (varM 11) (litM (.int 1))) (litM (.str (Str.ofString "replace").cps.toList))) [11]) nilA)
abbrev faT : MT := tobM (bin2 (eqX false (fun c => d_fates_of.eqt.lookup c)) (slM false (varM 1) (someO (varM 6)) (someO (bin2 (addU false) (varM 6) (preM lenU (consA (At0 0 0 (varM 0)) nilA))))) (At0 0 0 (varM 0)))
abbrev faS : MS := seqM (stE faO (setM 8)) (seqM (stE faW (setM 9)) (seqM (stE (iteM (tobM (varM 9)) (litM (.str (Str.ofString "stands").cps.toList)) (litM (.str (Str.ofString "lost").cps.toList))) (setM 10)) (seqM (ifM (tobM faN) (stE (litM (.str (Str.ofString "replaced").cps.toList)) (setM 10)) nxM) (stE3 (tupM (consA (preM lenU (consA (varM 8) nilA)) (consA (varM 10) nilA))) (varM 5) (varM 6) itemM))))
theorem fates_m : m_fates_of = seqM (stE (compM false (seqI (varM 2)) (nameG 7) yesT (bin2 idxU (varM 7) (litM (.int 1))) [7]) (setM 4)) (seqM (stE (dctM true) (setM 5)) (seqM (forM (preI rng1U (consA (bin2 (addU false) (bin2 subU (preM lenU (consA (varM 1) nilA)) (preM lenU (consA (At0 0 0 (varM 0)) nilA))) (litM (.int 1))) nilA)) (nameG 6) (ifM faT faS nxM)) (stE (varM 5) rtM))) := rfl
section
variable {G G0 : List Ob} {s : Dr} {text : W1} {its : List It1} {us : List U} {evs : List (W1 × Option Nat)}
abbrev faL (s : Dr) (text : W1) (its : List It1) (ue : U) (d : Nat) (x6 x7 x8 x9 x10 x11 x12 : Option U) : Sg := [some (stU s), some (.str text), some (.lst (its.map itU)), some ue, some (.lst (its.map fun i => orgU i.2)), some (.ref d), x6, x7, x8, x9, x10, x11, x12]
theorem fate_run {pl : Nat} {ue : U} {l : List (U × U)} (ho : okd s = true) (hue : lstOf (G0 ++ [.dct l]) ue = some us) (hE : Evs us evs) (hz : evs.length < szL) (hzi : its.length < szL) (hzl : l.length < szL) (hk : (l.any fun p => keyEq p.1 (.int (pl : Nat))) = false) {x7 x8 x9 x10 x11 x12 : Option U} :
    ∃ y8 y9 y10 y11 y12, faS (faL s text its ue G0.length (some (.int (pl : Nat))) x7 x8 x9 x10 x11 x12) (G0 ++ [.dct l]) = .nx (faL s text its ue G0.length (some (.int (pl : Nat))) x7 y8 y9 y10 y11 y12) (G0 ++ [.dct (l ++ [(.int (pl : Nat), fateP s.w its evs pl)])]) := by
  obtain ⟨h1, h2, h3, h4, h5, h6, h7, h8, h9, h10⟩ := okd_parts ho
  generalize hG : G0 ++ [Ob.dct l] = G at hue ⊢
  have hgd : G[G0.length]? = some (.dct l) := by rw [← hG]; simp
  have hF := hE.filter (pl := pl)
  -- own
  have e1 : faO (faL s text its ue G0.length (some (.int (pl : Nat))) x7 x8 x9 x10 x11 x12) G = .ok (.lst (us.filter (evAt pl))) G := by
    have hit : seqI (varM 3) (faL s text its ue G0.length (some (.int (pl : Nat))) x7 x8 x9 x10 x11 x12) G = .ok (.seq ue, us.length) G := by
      have hv : varM 3 (faL s text its ue G0.length (some (.int (pl : Nat))) x7 x8 x9 x10 x11 x12) G = .ok ue G := rfl
      unfold seqI
      rw [hv]
      cases ue with
      | lst l' => cases hue; simp [seqOf, lstOf]
      | sc l' => cases hue; simp [seqOf, lstOf]
      | ref j => simp only [bind_ok, seqOf, hue]
      | _ => cases hue
    have hsq : seqOf G ue = some us := by
      cases ue with
      | tup _ => cases hue
      | _ => exact hue
    refine (comp_seqF (mu := false) (p := evAt pl) (h := fun z => z) hit hsq fun z hz' => ?_).trans ?_
    · obtain ⟨a, b, d, o, rfl, hd⟩ := hE.mem z hz'
      refine ⟨faL s text its ue G0.length (some (.int (pl : Nat))) x7 x8 x9 x10 (some (.tup [.int a, .str d, .int b, orgU o])) x12, rfl, ?_, fun _ => rfl⟩
      have i3 : bin2 idxU (varM 11) (litM (.int 3)) (faL s text its ue G0.length (some (.int (pl : Nat))) x7 x8 x9 x10 (some (.tup [.int a, .str d, .int b, orgU o])) x12) G = .ok (orgU o) G := idx_tup0 (k := 3) (var_ok rfl) rfl
      rw [evAt_org]
      refine tob_bl ?_
      rw [bin2_p i3 (y := .int (pl : Nat)) rfl]
      cases o with
      | none => exact (eqX_pd rfl rfl).trans rfl
      | some k =>
        have e0 : (((k : Nat) : Int) == (pl : Int)) = decide (some k = some pl) := by
          rw [Bool.eq_iff_iff, beq_iff_eq, decide_eq_true_eq]
          simp
          omega
        refine (eqX_int (a := (k : Nat)) (b := (pl : Nat))).trans ?_
        simp only [Bool.false_eq_true, if_false, e0]
    · rw [List.map_id']
      exact newL_f (Nat.le_trans (List.length_filter_le _ _) (by rw [hE.len]; omega))
  -- whole
  have e2 : ∀ {y8 : Option U}, faW (faL s text its ue G0.length (some (.int (pl : Nat))) x7 y8 x9 x10 x11 x12) G = .ok (.bl ((List.range s.w.length).all fun a => its.any fun i => decide (i.2 = some (pl + a)))) G := fun {y8} => by
    have hlw : preM lenU (consA (At0 0 0 (varM 0)) nilA) (faL s text its ue G0.length (some (.int (pl : Nat))) x7 y8 x9 x10 x11 x12) G = .ok (.int s.w.length) G := len_str (st_at (m0 := varM 0) rfl).1 (Nat.le_trans h3 (by decide))
    have hit : preI rng1U (consA (preM lenU (consA (At0 0 0 (varM 0)) nilA)) nilA) (faL s text its ue G0.length (some (.int (pl : Nat))) x7 y8 x9 x10 x11 x12) G = .ok (.items (rangeL 0 1 s.w.length), (rangeL 0 1 s.w.length).length) G := by
      rw [pre_oneI hlw]
      exact rng_items (Nat.le_trans h3 (by decide))
    have hc := comp_items (mu := false) (g := nameG 12) (t := yesT) (e := bin2 (inU false) (bin2 (addU false) (varM 6) (varM 12)) (varM 4)) (own := [12]) (s := faL s text its ue G0.length (some (.int (pl : Nat))) x7 y8 x9 x10 x11 x12)
      (h := fun z => match z with | .int a => .bl (its.any fun i => decide (i.2 = some (pl + a.toNat))) | z => z) hit fun z hz' => by
      unfold rangeL at hz'
      obtain ⟨a, ha, rfl⟩ := List.mem_map.mp hz'
      refine ⟨faL s text its ue G0.length (some (.int (pl : Nat))) x7 y8 x9 x10 x11 (some (.int (0 + (a : Nat) * 1))), rfl, rfl, ?_⟩
      have ea : (0 + (a : Nat) * 1 : Int) = (a : Nat) := by omega
      rw [ea]
      rw [bin2_p (add_int (x := pl) (y := a) (z := ((pl + a : Nat) : Int)) rfl rfl (by omega)) (y := .lst (its.map fun i => orgU i.2)) rfl]
      have hfl : (its.map fun i => orgU i.2).all flatU = true := by
        rw [List.all_map, List.all_eq_true]
        intro i hi
        show flatU (orgU i.2) = true
        cases i.2 <;> rfl
      have han : ((its.map fun i => orgU i.2).any fun z => eqF z (.int ((pl + a : Nat) : Int))) = its.any fun i => decide (i.2 = some (pl + a)) := by
        rw [List.any_map]
        congr 1
        funext i
        show eqF (orgU i.2) (.int ((pl + a : Nat) : Int)) = _
        cases i.2 with
        | none => rfl
        | some k =>
          show (((k : Nat) : Int) == ((pl + a : Nat) : Int)) = _
          rw [Bool.eq_iff_iff, beq_iff_eq, decide_eq_true_eq]
          simp
          omega
      simp only [inU, seqOf, lstOf, hfl, flatU, and_self, if_true, han, Bool.false_eq_true, if_false, Int.toNat_natCast]
    have hmap : (rangeL 0 1 s.w.length).map (fun z => match z with | .int a => U.bl (its.any fun i => decide (i.2 = some (pl + a.toNat))) | z => z) = ((List.range s.w.length).map fun a => its.any fun i => decide (i.2 = some (pl + a))).map U.bl := by
      unfold rangeL
      rw [List.map_map, List.map_map]
      refine List.map_congr_left fun a ha => ?_
      have ea : (0 + (a : Nat) * 1 : Int) = (a : Nat) := by omega
      simp only [Function.comp, ea, Int.toNat_natCast]
    rw [hmap, newL_f (by simp; unfold szL; omega)] at hc
    refine (pre_one hc).trans ?_
    simp only [allU, lstOf, blsOf_map, List.all_map]
    rfl
  generalize hown : us.filter (evAt pl) = own at hF e1
  have hol : own.length = (evs.filter fun e => decide (e.2 = some pl)).length := hF.len
  have holz : own.length ≤ szL := by rw [hol]; exact Nat.le_trans (List.length_filter_le _ _) (Nat.le_of_lt hz)
  generalize hwh : ((List.range s.w.length).all fun a => its.any fun i => decide (i.2 = some (pl + a))) = wh at e2
  -- any
  have e4 : ∀ {y9 y10 : Option U}, tobM faN (faL s text its ue G0.length (some (.int (pl : Nat))) x7 (some (.lst own)) y9 y10 x11 x12) G = .ok (own.any isRepU) G := fun {y9 y10} => by
    have hit : seqI (varM 8) (faL s text its ue G0.length (some (.int (pl : Nat))) x7 (some (.lst own)) y9 y10 x11 x12) G = .ok (.seq (.lst own), own.length) G := by simp [seqI, varM, seqOf, lstOf]
    have hc := comp_seq (mu := false) (g := nameG 11) (t := yesT) (e := bin2 (eqX false (fun c => d_fates_of.eqt.lookup c)) (bin2 idxU (varM 11) (litM (.int 1))) (litM (.str (Str.ofString "replace").cps.toList))) (own := [11]) (s := faL s text its ue G0.length (some (.int (pl : Nat))) x7 (some (.lst own)) y9 y10 x11 x12)
      (h := fun z => .bl (isRepU z)) hit rfl fun z hz' => by
      obtain ⟨a, b, d, o, rfl, hd⟩ := hF.mem z hz'
      refine ⟨faL s text its ue G0.length (some (.int (pl : Nat))) x7 (some (.lst own)) y9 y10 (some (.tup [.int a, .str d, .int b, orgU o])) x12, rfl, rfl, ?_⟩
      have i1 : bin2 idxU (varM 11) (litM (.int 1)) (faL s text its ue G0.length (some (.int (pl : Nat))) x7 (some (.lst own)) y9 y10 (some (.tup [.int a, .str d, .int b, orgU o])) x12) G = .ok (.str d) G := idx_tup0 (k := 1) (var_ok rfl) rfl
      rw [bin2_p i1 (y := .str wRep) (by simp [litM, wRep]), eqX_str hd (by decide)]
      rfl
    have e : own.map (fun z => U.bl (isRepU z)) = (own.map isRepU).map U.bl := by rw [List.map_map]; rfl
    rw [e, newL_f (by rw [List.length_map, List.length_map]; exact holz)] at hc
    refine (tob_bl (anyB_run hc)).trans ?_
    rw [List.any_map]
    rfl
  generalize hfin : (if own.any isRepU then wReplaced else if wh = true then wStands else wLost) = fin
  have e3 : ∀ {x10 : Option U}, stE (iteM (tobM (varM 9)) (litM (.str (Str.ofString "stands").cps.toList)) (litM (.str (Str.ofString "lost").cps.toList))) (setM 10) (faL s text its ue G0.length (some (.int (pl : Nat))) x7 (some (.lst own)) (some (.bl wh)) x10 x11 x12) G = .nx (faL s text its ue G0.length (some (.int (pl : Nat))) x7 (some (.lst own)) (some (.bl wh)) (some (.str (if wh = true then wStands else wLost))) x11 x12) G := fun {x10} => by
    refine stE_set ?_
    unfold iteM
    rw [tob_bl (var_ok (u := .bl wh) rfl)]
    cases wh <;> simp [litM, wStands, wLost]
  have e5 : ifM (tobM faN) (stE (litM (.str (Str.ofString "replaced").cps.toList)) (setM 10)) nxM (faL s text its ue G0.length (some (.int (pl : Nat))) x7 (some (.lst own)) (some (.bl wh)) (some (.str (if wh = true then wStands else wLost))) x11 x12) G = .nx (faL s text its ue G0.length (some (.int (pl : Nat))) x7 (some (.lst own)) (some (.bl wh)) (some (.str fin)) x11 x12) G := by
    have ha := e4 (y9 := some (.bl wh)) (y10 := some (.str (if wh = true then wStands else wLost)))
    rw [← hfin]
    cases hb : own.any isRepU with
    | true =>
      rw [hb] at ha
      refine (ifM_t ha).trans (stE_set (u := .str wReplaced) ?_)
      simp [litM, wReplaced]
    | false =>
      rw [hb] at ha
      exact (ifM_fn ha).trans (by simp)
  have e6 : stE3 (tupM (consA (preM lenU (consA (varM 8) nilA)) (consA (varM 10) nilA))) (varM 5) (varM 6) itemM (faL s text its ue G0.length (some (.int (pl : Nat))) x7 (some (.lst own)) (some (.bl wh)) (some (.str fin)) x11 x12) G = .nx (faL s text its ue G0.length (some (.int (pl : Nat))) x7 (some (.lst own)) (some (.bl wh)) (some (.str fin)) x11 x12) (G0 ++ [.dct (l ++ [(.int (pl : Nat), fateP s.w its evs pl)])]) := by
    have ht : tupM (consA (preM lenU (consA (varM 8) nilA)) (consA (varM 10) nilA)) (faL s text its ue G0.length (some (.int (pl : Nat))) x7 (some (.lst own)) (some (.bl wh)) (some (.str fin)) x11 x12) G = .ok (.tup [.int own.length, .str fin]) G := by
      unfold tupM
      rw [consA_p (x := .int own.length) (by rw [pre_one (var_ok (u := .lst own) rfl)]; simp [lenU, seqOf, lstOf]) (consA_p (var_ok (u := .str fin) rfl) rfl)]
      exact newT_ok' (by simp [szL])
    unfold stE3
    rw [ht]
    have hv5 : varM 5 (faL s text its ue G0.length (some (.int (pl : Nat))) x7 (some (.lst own)) (some (.bl wh)) (some (.str fin)) x11 x12) G = .ok (.ref G0.length) G := rfl
    have hv6 : varM 6 (faL s text its ue G0.length (some (.int (pl : Nat))) x7 (some (.lst own)) (some (.bl wh)) (some (.str fin)) x11 x12) G = .ok (.int (pl : Nat)) G := rfl
    simp only [hv5, hv6, itemM, hgd]
    rw [if_pos ⟨rfl, hzl⟩]
    have hp : putD l (.int (pl : Nat)) (.tup [.int own.length, .str fin]) = l ++ [(.int (pl : Nat), fateP s.w its evs pl)] := by
      unfold putD
      rw [hk, if_neg Bool.false_ne_true]
      congr 3
      unfold fateP
      simp only
      rw [hol, ← hfin, hF.any, hwh]
    rw [hp, ← hG, set_new]
  refine ⟨some (.lst own), some (.bl wh), some (.str fin), x11, x12, ?_⟩
  show seqM _ _ _ _ = _
  refine (seqM_set e1).trans ?_
  refine (seqM_set (s := faL s text its ue G0.length (some (.int (pl : Nat))) x7 (some (.lst own)) x9 x10 x11 x12) e2).trans ?_
  refine (seqM_nx (s := faL s text its ue G0.length (some (.int (pl : Nat))) x7 (some (.lst own)) (some (.bl wh)) x10 x11 x12) e3).trans ?_
  refine (seqM_nx e5).trans ?_
  exact e6
end
end FL

namespace FL
open PySem L2 PyProof.Rows
theorem fates_test {G : List Ob} {s : Dr} {text : W1} {its : List It1} {ue : U} {d pl : Nat} (ho : okd s = true) (ht : okC text = true) (hz : text.length ≤ szL) {x7 x8 x9 x10 x11 x12 : Option U} : faT (faL s text its ue d (some (.int (pl : Nat))) x7 x8 x9 x10 x11 x12) G = .ok (decide ((text.drop pl).take s.w.length = s.w)) G := by
  obtain ⟨h1, h2, h3, h4, h5, h6, h7, h8, h9, h10⟩ := okd_parts ho
  have hw : At0 0 0 (varM 0) (faL s text its ue d (some (.int (pl : Nat))) x7 x8 x9 x10 x11 x12) G = .ok (.str s.w) G := (st_at (m0 := varM 0) rfl).1
  have hlw := len_str hw (Nat.le_trans h3 (by decide))
  have sl : slM false (varM 1) (someO (varM 6)) (someO (bin2 (addU false) (varM 6) (preM lenU (consA (At0 0 0 (varM 0)) nilA)))) (faL s text its ue d (some (.int (pl : Nat))) x7 x8 x9 x10 x11 x12) G = .ok (.str ((text.drop pl).take s.w.length)) G := by
    have hv : varM 1 (faL s text its ue d (some (.int (pl : Nat))) x7 x8 x9 x10 x11 x12) G = .ok (.str text) G := rfl
    have ho1 : someO (varM 6) (faL s text its ue d (some (.int (pl : Nat))) x7 x8 x9 x10 x11 x12) G = .ok (some (pl : Int)) G := rfl
    have ho2 := someO_ok (add_int (x := pl) (y := s.w.length) (z := (pl : Int) + s.w.length) (m1 := varM 6) (s := faL s text its ue d (some (.int (pl : Nat))) x7 x8 x9 x10 x11 x12) (G := G) rfl hlw rfl)
    unfold slM
    rw [hv]
    simp only [bind_ok, ho1, ho2, slU]
    rw [if_pos hz, cut_mid]
  refine (tob_str (neg := false) sl hw (okC_take (okC_drop ht)) (isT_ok h1)).trans ?_
  simp only [Bool.false_eq_true, if_false]
  by_cases z : (text.drop pl).take s.w.length = s.w <;> simp [z]
theorem le_fates_of : LeC r_fates_of (runB d_fates_of 40 s_fates_of) := fun us G => by
  unfold r_fates_of
  split
  · rename_i st text items u
    cases es : drOfI st with
    | none => exact .inl rfl
    | some s =>
    cases el : itsOf items with
    | none => exact .inl rfl
    | some its =>
    cases eu : (lstOf G u).bind ofEvs with
    | none => exact .inl rfl
    | some evs =>
    obtain ⟨rfl, ho⟩ := drOfI_ok es
    have := itsOf_eq el
    subst this
    obtain ⟨ul, e1, e2⟩ := Option.bind_eq_some_iff.mp eu
    have hE := ofEvs_ok e2
    obtain ⟨h1, h2, h3, h4, h5, h6, h7, h8, h9, h10⟩ := okd_parts ho
    by_cases hh : text.length ≤ 5000 ∧ isT text = true ∧ its.length < szL ∧ evs.length < szL
    rotate_left
    · exact .inl (if_neg hh)
    obtain ⟨ht5, hT, hzi, hz⟩ := id hh
    simp only [if_pos hh]
    refine .inr (.inr ?_)
    rw [run_fates_of, fates_m]
    have hs : startS d_fates_of.N [stU s, .str text, .lst (its.map itU), u] = [some (stU s), some (.str text), some (.lst (its.map itU)), some u, none, none, none, none, none, none, none, none, none] := rfl
    rw [hs]
    have el : compM false (seqI (varM 2)) (nameG 7) yesT (bin2 idxU (varM 7) (litM (.int 1))) [7] [some (stU s), some (.str text), some (.lst (its.map itU)), some u, none, none, none, none, none, none, none, none, none] G = .ok (.lst (its.map fun i => orgU i.2)) G := by
      have hit : seqI (varM 2) [some (stU s), some (.str text), some (.lst (its.map itU)), some u, none, none, none, none, none, none, none, none, none] G = .ok (.seq (.lst (its.map itU)), (its.map itU).length) G := by simp [seqI, varM, seqOf, lstOf]
      refine (comp_seq (mu := false) (h := fun z => match z with | .tup [_, o] => o | z => z) hit rfl fun z hz' => ?_).trans ?_
      · obtain ⟨e, he, rfl⟩ := List.mem_map.mp hz'
        exact ⟨[some (stU s), some (.str text), some (.lst (its.map itU)), some u, none, none, none, some (itU e), none, none, none, none, none], rfl, rfl, idx_tup0 (k := 1) (var_ok rfl) rfl⟩
      · rw [List.map_map]
        exact newL_f (by rw [List.length_map]; omega)
    refine cut_n (seqM_set el) ?_
    refine cut_n (seqM_set (s := [some (stU s), some (.str text), some (.lst (its.map itU)), some u, some (.lst (its.map fun i => orgU i.2)), none, none, none, none, none, none, none, none]) (u := .ref G.length) (G1 := G ++ [.dct []]) rfl) ?_
    have hue : ∀ l, lstOf (G ++ [.dct l]) u = some ul := fun l => by
      cases u with
      | lst l' => exact e1
      | sc l' => exact e1
      | ref j =>
        simp only [lstOf] at e1 ⊢
        cases eg : G[j]? with
        | none => rw [eg] at e1; cases e1
        | some ob =>
          rw [List.getElem?_append_left (lt_of eg)]
          exact e1
      | _ => cases e1
    have hn : preI rng1U (consA (bin2 (addU false) (bin2 subU (preM lenU (consA (varM 1) nilA)) (preM lenU (consA (At0 0 0 (varM 0)) nilA))) (litM (.int 1))) nilA) (faL s text its u G.length none none none none none none none) (G ++ [.dct []]) = .ok (.items (rangeL 0 1 (text.length + 1 - s.w.length)), text.length + 1 - s.w.length) (G ++ [.dct []]) := by
      have hw : At0 0 0 (varM 0) (faL s text its u G.length none none none none none none none) (G ++ [.dct []]) = .ok (.str s.w) (G ++ [.dct []]) := (st_at (m0 := varM 0) rfl).1
      have hlw := len_str hw (Nat.le_trans h3 (by decide))
      have hlt := len_str (l := text) (mm := varM 1) (sg := faL s text its u G.length none none none none none none none) (G := G ++ [.dct []]) rfl (Nat.le_trans ht5 (by decide))
      rw [pre_oneI (add_int (sub_int hlt hlw rfl) (y := 1) rfl rfl)]
      have hb : -(2 ^ 62 : Int) ≤ (text.length : Int) - s.w.length + 1 ∧ (text.length : Int) - s.w.length + 1 < 2 ^ 62 := by omega
      simp only [rng1U]
      rw [if_pos hb]
      have : ((text.length : Int) - s.w.length + 1).toNat = text.length + 1 - s.w.length := by omega
      rw [this]
    generalize hN : text.length + 1 - s.w.length = N at hn
    obtain ⟨s', G', q1, x6, x7, x8, x9, x10, x11, x12, q2, q3⟩ := forL_inv (b := .items (rangeL 0 1 N)) (g := nameG 6) (body := ifM faT faS nxM)
      (fun k s' G' => ∃ x6 x7 x8 x9 x10 x11 x12, s' = faL s text its u G.length x6 x7 x8 x9 x10 x11 x12 ∧ G' = G ++ [.dct (fatesK s.w text its evs k)]) (n := N) (l := rangeL 0 1 N) (by simp [rangeL]) (fun G i => rfl)
      (fun k v s1 G1 hv ⟨x6, x7, x8, x9, x10, x11, x12, e1, e2⟩ => by
        subst e1
        subst e2
        have hk : k < N := by
          have := (List.getElem?_eq_some_iff.mp hv).1
          simpa [rangeL] using this
        have hv' : v = .int (k : Nat) := by
          rw [rangeL_get, if_pos hk] at hv
          have := Option.some.inj hv
          rw [← this]
          congr 1
          omega
        subst hv'
        have ht := fates_test (G := G ++ [.dct (fatesK s.w text its evs k)]) (its := its) (ue := u) (d := G.length) (pl := k) (x7 := x7) (x8 := x8) (x9 := x9) (x10 := x10) (x11 := x11) (x12 := x12) ho (isT_ok hT) (Nat.le_trans ht5 (by decide))
        have hl := fatesK_len (w := s.w) (text := text) (its := its) (evs := evs) (n := k)
        obtain ⟨y8, y9, y10, y11, y12, r1⟩ := fate_run (G0 := G) (text := text) (pl := k) (its := its) (x7 := x7) (x8 := x8) (x9 := x9) (x10 := x10) (x11 := x11) (x12 := x12) ho (hue (fatesK s.w text its evs k)) hE hz hzi (by unfold szL; omega) fatesK_key
        by_cases hc : (text.drop k).take s.w.length = s.w
        · have ht := ht.trans (show _ = Rs.ok true (G ++ [.dct (fatesK s.w text its evs k)]) by rw [decide_eq_true hc])
          exact ⟨_, _, _, rfl, .inl ((ifM_t ht).trans r1), _, _, _, _, _, _, _, rfl, by rw [fatesK_succ, if_pos hc]⟩
        · have ht := ht.trans (show _ = Rs.ok false (G ++ [.dct (fatesK s.w text its evs k)]) by rw [decide_eq_false hc])
          exact ⟨_, _, _, rfl, .inl (ifM_fn ht), _, _, _, _, _, _, _, rfl, by rw [fatesK_succ, if_neg hc, List.append_nil]⟩) N 0 (faL s text its u G.length none none none none none none none) (G ++ [.dct []]) (Nat.zero_add _) ⟨_, _, _, _, _, _, _, rfl, rfl⟩
    subst q2
    subst q3
    have hf : forM (preI rng1U (consA (bin2 (addU false) (bin2 subU (preM lenU (consA (varM 1) nilA)) (preM lenU (consA (At0 0 0 (varM 0)) nilA))) (litM (.int 1))) nilA)) (nameG 6) (ifM faT faS nxM) (faL s text its u G.length none none none none none none none) (G ++ [.dct []]) = .nx (faL s text its u G.length x6 x7 x8 x9 x10 x11 x12) (G ++ [.dct (fatesK s.w text its evs N)]) := by
      unfold forM
      rw [hn]
      exact q1
    refine cut_n (seqM_nx (s := faL s text its u G.length none none none none none none none) hf) ?_
    refine cut_rt (g := [.dct (fatesK s.w text its evs N)]) (u := .ref G.length) (stE_rt rfl) ?_
    have hm : mapK (refF G.length (G ++ [.dct (fatesK s.w text its evs N)]) 5) (fatesK s.w text its evs N) = some (fatesK s.w text its evs N) := map_fates _
    have hg : (G ++ [Ob.dct (fatesK s.w text its evs N)])[G.length]? = some (.dct (fatesK s.w text its evs N)) := by simp
    show refF G.length (G ++ [.dct (fatesK s.w text its evs N)]) 6 G.length = _
    unfold refF
    rw [if_neg (Nat.lt_irrefl _), hg]
    simp only [hm, Option.map_some]
    unfold fatesP
    rw [hN]
    rfl
  · exact .inl rfl
end FL

namespace FL
open PySem L2 PyProof.Rows
/-! ### bounds, signs -/
theorem isT_app {a b : W1} : isT (a ++ b) = (isT a && isT b) := by unfold isT; rw [List.all_append]
theorem isT_take {a : W1} {n : Nat} (h : isT a = true) : isT (a.take n) = true := by
  unfold isT at *
  rw [List.all_eq_true] at *
  exact fun c hc => h c (List.mem_of_mem_take hc)
theorem isT_drop {a : W1} {n : Nat} (h : isT a = true) : isT (a.drop n) = true := by
  unfold isT at *
  rw [List.all_eq_true] at *
  exact fun c hc => h c (List.mem_of_mem_drop hc)
structure TB (x : Sc) : Prop where
  p : isT (sgn x.pend) = true
  w : isT (sgn x.wr) = true
section
variable {s : Dr}
theorem leave_TB {x : Sc} {n : Nat} (h : TB x) : TB (leaveP n x) := by
  refine ⟨?_, ?_⟩
  · show isT (sgn (x.pend.drop n)) = true
    rw [sgn_drop]; exact isT_drop h.p
  · show isT (sgn (x.wr ++ x.pend.take n)) = true
    rw [sgn_app, isT_app, h.w, sgn_take, isT_take h.p]; rfl
theorem meet_TB (ho : okd s = true) {pl : Nat} {x : Sc} {sn : Seen} (h : TB x) : TB (meetP s pl x sn).1 := by
  obtain ⟨h1, h2, h3, h4, h5, h6, h7, h8, h9, h10⟩ := okd_parts ho
  have hn : TB (noteP s pl x) := ⟨h.p, h.w⟩
  unfold meetP
  simp only
  split
  · exact ⟨h.p, h.w⟩
  · split
    · exact leave_TB hn
    · have hr : TB (replP s pl (noteP s pl x)) := by
        refine leave_TB ⟨?_, hn.w⟩
        show isT (sgn (x.pend.take pl ++ s.p.map (fun c => ((c, none) : It1)) ++ x.pend.drop (pl + s.w.length))) = true
        have : sgn (s.p.map fun c => ((c, none) : It1)) = s.p := by simp [sgn, Function.comp_def]
        rw [sgn_app, sgn_app, sgn_take, sgn_drop, this, isT_app, isT_app, isT_take h.p, h4, isT_drop h.p]
        rfl
      exact ⟨hr.p, hr.w⟩
theorem meet_big (ho : okd s = true) {pl : Nat} {x : Sc} {sn : Seen} : big (meetP s pl x sn).1 ≤ big x + 3 ∧ (meetP s pl x sn).1.met.length = x.met.length + 1 := by
  obtain ⟨h1, h2, h3, h4, h5, h6, h7, h8, h9, h10⟩ := okd_parts ho
  have hm : (noteP s pl x).met.length = x.met.length + 1 := by simp [noteP]
  unfold meetP
  simp only
  split
  · exact ⟨Nat.le_add_right _ _, hm⟩
  · split
    · refine ⟨?_, hm⟩
      unfold keepP
      rw [leave_big]
      exact Nat.le_add_right _ _
    · refine ⟨?_, hm⟩
      show big (replP s pl (noteP s pl x)) ≤ _
      unfold replP
      rw [leave_big]
      unfold big
      simp [noteP]
      omega
theorem loop_TB (ho : okd s = true) : ∀ (f : Nat) {x y : Sc} {sn : Seen}, TB x → loopP s f x sn = some y → TB y ∧ big y ≤ big x + 3 * f ∧ y.met.length ≤ x.met.length + f
  | 0, _, _, _, _, e => nomatch e
  | f + 1, x, y, sn, h, e => by
    unfold loopP at e
    cases e2 : placeO s.w x.pend with
    | none => rw [e2] at e; cases e; exact ⟨h, by omega, by omega⟩
    | some pl =>
      rw [e2] at e
      by_cases z : (x.stop || x.endl) = true
      · simp only [z, if_true] at e; cases e; exact ⟨h, by omega, by omega⟩
      · simp only [if_neg z] at e
        obtain ⟨a, b, c⟩ := loop_TB ho f (meet_TB ho h) e
        obtain ⟨d1, d2⟩ := meet_big (pl := pl) (x := x) (sn := sn) ho
        exact ⟨a, by omega, by omega⟩
theorem feed_TB (ho : okd s = true) {x y : Sc} {i : It1} (h : TB x) (hi : isT [i.1] = true) (e : feedP s 100 i x = some y) : TB y ∧ y.wr.length ≤ x.pend.length + 301 ∧ y.met.length ≤ x.met.length + 100 := by
  unfold feedP at e
  by_cases hs : x.stop = true
  · rw [if_pos hs] at e
    cases e
    refine ⟨⟨h.p, ?_⟩, ?_, Nat.le_add_right _ _⟩
    · show isT (sgn ([] ++ [i])) = true
      exact hi
    · show ([] ++ [i]).length ≤ _
      simp
  · rw [if_neg hs] at e
    obtain ⟨z, ez, rfl⟩ := Option.map_eq_some_iff.mp e
    have h0 : TB { x with wr := [], pend := x.pend ++ [i] } := ⟨by show isT (sgn (x.pend ++ [i])) = true; rw [sgn_app, isT_app, h.p]; exact hi, rfl⟩
    obtain ⟨a, b, c⟩ := loop_TB ho 100 h0 ez
    have hb : big { x with wr := [], pend := x.pend ++ [i] } = x.pend.length + 1 := by simp [big]
    rw [hb] at b
    unfold big at b
    unfold afterP
    split
    · refine ⟨⟨rfl, ?_⟩, ?_, c⟩
      · show isT (sgn (z.wr ++ z.pend)) = true
        rw [sgn_app, isT_app, a.w, a.p]; rfl
      · show (z.wr ++ z.pend).length ≤ _
        rw [List.length_append]; omega
    · refine ⟨leave_TB a, ?_, c⟩
      show (z.wr ++ z.pend.take _).length ≤ _
      rw [List.length_append, List.length_take]; omega
theorem goQ_TB (ho : okd s = true) : ∀ (l : List It1) {x : Sc} {fd fd' : List It1} {y : Sc}, ScI s x → TB x → isT (sgn fd) = true → isT (sgn l) = true → goQ s 100 l x fd = some (some (fd', y)) → TB y ∧ isT (sgn fd') = true ∧ fd'.length ≤ fd.length + 303 * l.length ∧ y.pend.length ≤ 2 ∧ y.met.length ≤ x.met.length + 100 * l.length
  | [], x, fd, fd', y, hI, h, hf, _, e => by
    cases e
    obtain ⟨h1, h2, h3, h4, h5, h6, h7, h8, h9, h10⟩ := okd_parts ho
    exact ⟨h, hf, by omega, inv_len hI h3, by omega⟩
  | i :: r, x, fd, fd', y, hI, h, hf, hl, e => by
    obtain ⟨h1, h2, h3, h4, h5, h6, h7, h8, h9, h10⟩ := okd_parts ho
    have hlz := (okDs_ok h8).2.2
    unfold goQ at e
    cases ef : feedP s 100 i x with
    | none => rw [ef] at e; cases e
    | some z =>
      rw [ef] at e
      simp only at e
      by_cases hz : z.endl = true
      · rw [if_pos hz] at e; cases e
      · rw [if_neg hz] at e
        have hl' : isT ([i.1] ++ sgn r) = true := hl
        rw [isT_app, Bool.and_eq_true] at hl'
        obtain ⟨a, b, c⟩ := feed_TB ho h hl'.1 ef
        have hp := inv_len hI h3
        obtain ⟨q1, q2, q3, q4, q5⟩ := goQ_TB ho r (feed_inv (by omega) (by omega) hI ef (by simpa using hz)) a (by rw [sgn_app, isT_app, hf, a.w]; rfl) hl'.2 e
        rw [List.length_append] at q3
        simp only [List.length_cons]
        exact ⟨q1, q2, by omega, q4, by omega⟩
theorem goP_TB (ho : okd s = true) {l fd : List It1} {y : Sc} (hl : isT (sgn l) = true) (e : goP s 100 l sc0 [] = some (some (fd, y))) : isT (sgn fd) = true ∧ fd.length ≤ 303 * l.length + 2 ∧ y.met.length ≤ 100 * l.length ∧ MetI s y := by
  obtain ⟨h1, h2, h3, h4, h5, h6, h7, h8, h9, h10⟩ := okd_parts ho
  have hlz := (okDs_ok h8).2.2
  rw [goP_Q] at e
  cases eq : goQ s 100 l sc0 [] with
  | none => rw [eq] at e; cases e
  | some res =>
    cases res with
    | none => rw [eq] at e; cases e
    | some w =>
      obtain ⟨fd0, y0⟩ := w
      rw [eq] at e
      cases e
      obtain ⟨q1, q2, q3, q4, q5⟩ := goQ_TB ho l (sc0_inv (by omega) (by omega)) ⟨rfl, rfl⟩ rfl hl eq
      have hM : MetI s y0 := go_metI l (fun e he => by cases he) eq
      refine ⟨?_, ?_, ?_, hM⟩
      · show isT (sgn (fd0 ++ ([] ++ y0.pend.take y0.pend.length))) = true
        rw [sgn_app, isT_app, q2, List.nil_append, sgn_take, isT_take q1.p]; rfl
      · show (fd0 ++ ([] ++ y0.pend.take y0.pend.length)).length ≤ _
        simp at q3 ⊢
        omega
      · show y0.met.length ≤ _
        simp [sc0] at q5
        exact q5
/-- what is noted can be read as events -/
def DeedI (s : Dr) (x : Sc) : Prop := ∀ e ∈ x.met, okC e.1 = true
theorem meet_deedI (ho : okd s = true) {pl : Nat} {x : Sc} {sn : Seen} (h : DeedI s x) : DeedI s (meetP s pl x sn).1 := by
  obtain ⟨h1, h2, h3, h4, h5, h6, h7, h8, h9, h10⟩ := okd_parts ho
  have hn : DeedI s (noteP s pl x) := fun e he => by
    rcases List.mem_append.mp he with he | he
    · exact h e he
    · simp only [List.mem_singleton] at he
      subst he
      show okC (s.zs.getD x.cur []) = true
      by_cases hc : x.cur < s.zs.length
      · exact (deed_ok ho hc).1
      · have : s.zs[x.cur]? = none := List.getElem?_eq_none_iff.mpr (by omega)
        simp [List.getD, this, okC]
  unfold meetP
  simp only
  split
  · exact hn
  · split
    · exact hn
    · exact hn
theorem loop_deedI (ho : okd s = true) : ∀ (f : Nat) {x y : Sc} {sn : Seen}, DeedI s x → loopP s f x sn = some y → DeedI s y
  | 0, _, _, _, _, e => nomatch e
  | f + 1, x, y, sn, h, e => by
    unfold loopP at e
    cases e2 : placeO s.w x.pend with
    | none => rw [e2] at e; cases e; exact h
    | some pl =>
      rw [e2] at e
      by_cases z : (x.stop || x.endl) = true
      · simp only [z, if_true] at e; cases e; exact h
      · simp only [if_neg z] at e
        exact loop_deedI ho f (meet_deedI ho h) e
theorem feed_deedI (ho : okd s = true) {f : Nat} {x y : Sc} {i : It1} (h : DeedI s x) (e : feedP s f i x = some y) : DeedI s y := by
  unfold feedP at e
  by_cases hs : x.stop = true
  · rw [if_pos hs] at e
    cases e
    exact h
  · rw [if_neg hs] at e
    obtain ⟨z, ez, rfl⟩ := Option.map_eq_some_iff.mp e
    have hz : DeedI s z := loop_deedI ho f (x := { x with wr := [], pend := x.pend ++ [i] }) h ez
    unfold afterP
    split
    · exact hz
    · exact hz
theorem goP_deedI (ho : okd s = true) {f : Nat} : ∀ (l : List It1) {x : Sc} {fd : List It1} {fd' : List It1} {y : Sc}, DeedI s x → goP s f l x fd = some (some (fd', y)) → DeedI s y
  | [], x, fd, fd', y, h, e => by
    simp only [goP, Option.some.injEq, Prod.mk.injEq] at e
    obtain ⟨_, rfl⟩ := e
    exact h
  | i :: r, x, fd, fd', y, h, e => by
    unfold goP at e
    cases ef : feedP s f i x with
    | none => rw [ef] at e; cases e
    | some z =>
      rw [ef] at e
      simp only at e
      by_cases hz : z.endl = true
      · rw [if_pos hz] at e; cases e
      · rw [if_neg hz] at e
        exact goP_deedI ho r (feed_deedI ho h ef) e
theorem ofEvs_app : ∀ {a b : List U} {x y : List (W1 × Option Nat)}, ofEvs a = some x → ofEvs b = some y → ofEvs (a ++ b) = some (x ++ y)
  | [], b, x, y, h1, h2 => by cases h1; exact h2
  | u :: r, b, x, y, h1, h2 => by
    unfold ofEvs at h1
    split at h1
    · rename_i c d e1 e2
      cases h1
      rw [List.cons_append, List.cons_append]
      unfold ofEvs
      rw [e1, ofEvs_app e2 h2]
    · cases h1
theorem ofEvs_map {n : Int} : ∀ {l : List (W1 × Nat × List It1)}, (∀ e ∈ l, okC e.1 = true) → ofEvs (l.map (evU n)) = some (l.map fun m => (m.1, oldP m.2.2))
  | [], _ => rfl
  | e :: r, h => by
    rw [List.map_cons, List.map_cons]
    unfold ofEvs
    have h1 : ofEv (evU n e) = some (e.1, oldP e.2.2) := by
      simp only [ofEv, evU, h e (.head _), if_true, orgOf_U, Option.map_some]
    rw [h1, ofEvs_map fun e he => h e (.tail _ he)]
end
end FL

namespace FL
open PySem L2 PyProof.Rows
abbrev ruI : ME := compM false (enI (varM 1)) (tupG 2 (consG (nameG 7) (consG (nameG 8) nilG))) yesT (tupM (consA (varM 8) (consA (varM 7) nilA))) [7, 8]
abbrev ruB : MS := seqM (stE (callM 3 r_gone_through (consA (varM 0) (consA (varM 2) (consA (varM 4) nilA)))) (asgM (tupG 2 (consG (nameG 2) (consG (nameG 6) nilG))))) (stE (bmM extendU (varM 3) (consA (varM 6) nilA)) (fun _ => nxM))
abbrev ruO : ME := makeM 3 4 r_Outcome_init (consA (joinM (litM (.str (Str.ofString "").cps.toList)) (compM false (seqI (varM 2)) (nameG 9) yesT (bin2 idxU (varM 9) (litM (.int 0))) [9])) (consA (preM tupleU (consA (varM 3) nilA)) (consA (varM 5) nilA)))
theorem run_m : m_run = seqM (stE (callM 1 r_need_text (consA (varM 1) nilA)) (fun _ => nxM)) (seqM (stE ruI (setM 2)) (seqM (stE (lstM true nilA) (setM 3)) (seqM (forM (preI rng1U (consA (attrM (fun c => (([] : List (Nat × RunD)).lookup c).map attrP) (fun c => ([0] : List Nat).contains c) 5 (varM 0)) nilA)) (nameG 4) ruB) (seqM (stE (callM 4 r_fates_of (consA (varM 0) (consA (varM 1) (consA (varM 2) (consA (varM 3) nilA))))) (setM 5)) (stE ruO rtM))))) := rfl
abbrev ruL (s : Dr) (text : W1) (l : List It1) (e : Nat) (x4 x5 x6 x7 x8 x9 : Option U) : Sg := [some (stU s), some (.str text), some (.lst (l.map itU)), some (.ref e), x4, x5, x6, x7, x8, x9]
def lB : Nat → Nat | 0 => 1600000 | 1 => 5000 | _ => 16
def eB : Nat → Nat | 0 => 600000 | 1 => 2000 | _ => 0
theorem startP_len {t : W1} : (startP t).length = t.length := by simp [startP]
theorem startP_sgn {t : W1} : sgn (startP t) = t := by
  unfold sgn startP
  refine List.ext_getElem? fun k => ?_
  rw [List.getElem?_map, List.getElem?_mapIdx]
  cases t[k]? <;> rfl
theorem items_new {G : List Ob} {s : Dr} {text : W1} {x2 x3 x4 x5 x6 x7 x8 x9 : Option U} (hz : text.length ≤ 5000) : ruI [some (stU s), some (.str text), x2, x3, x4, x5, x6, x7, x8, x9] G = .ok (.lst ((startP text).map itU)) G := by
  have hit : enI (varM 1) [some (stU s), some (.str text), x2, x3, x4, x5, x6, x7, x8, x9] G = .ok (.items (enL (text.map fun c => .str [c])), (enL (text.map fun c => U.str [c])).length) G := by
    rw [enL_len, List.length_map]
    rfl
  have hc := comp_items (mu := false) (g := tupG 2 (consG (nameG 7) (consG (nameG 8) nilG))) (t := yesT) (e := tupM (consA (varM 8) (consA (varM 7) nilA))) (own := [7, 8]) (s := [some (stU s), some (.str text), x2, x3, x4, x5, x6, x7, x8, x9])
    (h := fun z => match z with | .tup [k, c] => .tup [c, k] | z => z) hit fun z hz => by
    obtain ⟨j, c, hj, rfl⟩ := en_mem hz
    refine ⟨[some (stU s), some (.str text), x2, x3, x4, x5, x6, some (.int (j : Nat)), some (.str [c]), x9], rfl, rfl, ?_⟩
    unfold tupM
    rw [consA_p (var_ok (u := .str [c]) rfl) (consA_p (var_ok (u := .int (j : Nat)) rfl) rfl)]
    simp only [bind_ok]
    exact newT_ok' (by simp [szL])
  refine hc.trans ?_
  have e : (enL (text.map fun c => U.str [c])).map (fun z => match z with | .tup [k, c] => .tup [c, k] | z => z) = (startP text).map itU := by
    refine List.ext_getElem? fun j => ?_
    unfold startP
    rw [List.getElem?_map, enL_get, List.getElem?_map, List.getElem?_map, List.getElem?_mapIdx]
    cases text[j]? with
    | none => rfl
    | some c => rfl
  rw [e]
  exact newL_f (by rw [List.length_map, startP_len]; unfold szL; omega)
section
variable {G0 : List Ob} {s : Dr} {text : W1} {x5 x7 x8 x9 : Option U}
theorem pass_loop (ho : okd s = true) {b : List U} {N : Nat} (hb : b = rangeL 0 1 N) : ∀ (m k : Nat) {l : List It1} {ev : List U} {evs : List (W1 × Option Nat)} {x4 x6 : Option U}, m ≤ 2 → k + m = N → isT (sgn l) = true → l.length ≤ lB m → ev.length ≤ eB m → ofEvs ev = some evs →
    match passesP s m (k : Nat) l ev with
    | none => True
    | some (.error q) => ∃ sg' g, forL (.items b) (nameG 4) ruB m k (ruL s text l G0.length x4 x5 x6 x7 x8 x9) (G0 ++ [.lst ev]) = .exc (exN q) sg' (G0 ++ g)
    | some (.ok (l', ev')) => ∃ y4 y6, forL (.items b) (nameG 4) ruB m k (ruL s text l G0.length x4 x5 x6 x7 x8 x9) (G0 ++ [.lst ev]) = .nx (ruL s text l' G0.length y4 x5 y6 x7 x8 x9) (G0 ++ [.lst ev']) ∧ isT (sgn l') = true ∧ l'.length ≤ 1600000 ∧ ev'.length ≤ 600000 ∧ ∃ evs', ofEvs ev' = some evs'
  | 0, k, l, ev, evs, x4, x6, hm, hk, hT, hl, he, hE => by
    refine ⟨x4, x6, ?_, hT, hl, he, evs, hE⟩
    have : b[k]? = none := by rw [hb, rangeL_get, if_neg (by omega)]
    unfold forL
    simp only [itAt, this]
  | m + 1, k, l, ev, evs, x4, x6, hm, hk, hT, hl, he, hE => by
    have hl5 : l.length ≤ 5000 := by
      rcases m with _ | _ | m
      · exact hl
      · exact Nat.le_trans hl (by decide)
      · omega
    have hg : (G0 ++ [Ob.lst ev])[G0.length]? = some (.lst ev) := get_new
    have hbk : b[k]? = some (.int (k : Nat)) := by
      rw [hb, rangeL_get, if_pos (by omega)]
      congr 2
      omega
    have hgn : nameG 4 (.int (k : Nat)) (ruL s text l G0.length x4 x5 x6 x7 x8 x9) = some (ruL s text l G0.length (some (.int (k : Nat))) x5 x6 x7 x8 x9) := rfl
    have hcall : callM 3 r_gone_through (consA (varM 0) (consA (varM 2) (consA (varM 4) nilA))) (ruL s text l G0.length (some (.int (k : Nat))) x5 x6 x7 x8 x9) (G0 ++ [.lst ev]) = (match goP s 100 l sc0 [] with
      | none => .bad
      | some none => .exc (exN (k : Nat)) (G0 ++ [.lst ev])
      | some (some (fd, x)) => .ok (.tup [.lst (fd.map itU), .lst (x.met.map (evU (k : Nat)))]) (G0 ++ [.lst ev])) := by
      unfold callM
      rw [consA_p (var_ok (u := stU s) rfl) (consA_p (var_ok (u := .lst (l.map itU)) rfl) (consA_p (var_ok (u := .int (k : Nat)) rfl) rfl))]
      simp only [bind_ok, arM, r_gone_through, drOfI_U ho, itsOf_map]
      exact (if_pos rfl).trans (if_pos ⟨hl5, hT⟩)
    unfold passesP
    cases eg : goP s 100 l sc0 [] with
    | none => trivial
    | some res =>
      rw [eg] at hcall
      cases res with
      | none =>
        refine ⟨ruL s text l G0.length (some (.int (k : Nat))) x5 x6 x7 x8 x9, [.lst ev], ?_⟩
        have hB : ruB (ruL s text l G0.length (some (.int (k : Nat))) x5 x6 x7 x8 x9) (G0 ++ [.lst ev]) = .exc (exN (k : Nat)) (ruL s text l G0.length (some (.int (k : Nat))) x5 x6 x7 x8 x9) (G0 ++ [.lst ev]) := by
          show seqM _ _ _ _ = _
          unfold seqM stE
          rw [hcall]
        unfold forL
        simp only [itAt, hbk, hgn, hB]
      | some w =>
        obtain ⟨fd, x⟩ := w
        obtain ⟨q1, q2, q3, q4⟩ := goP_TB ho hT eg
        have hD : DeedI s x := goP_deedI ho l (fun e he => by cases he) eg
        have hE' := ofEvs_app hE (ofEvs_map (n := (k : Nat)) hD)
        have hel : ev.length + x.met.length ≤ eB m := by
          rcases m with _ | _ | m
          · have : ev.length ≤ 2000 := he
            show _ ≤ 600000
            omega
          · have : ev.length ≤ 0 := he
            have : l.length ≤ 16 := hl
            show _ ≤ 2000
            omega
          · omega
        have hfl : fd.length ≤ lB m := by
          rcases m with _ | _ | m
          · show _ ≤ 1600000
            omega
          · have : l.length ≤ 16 := hl
            show _ ≤ 5000
            omega
          · omega
        have hel6 : ev.length + x.met.length ≤ 600000 := by
          rcases m with _ | _ | m
          · exact hel
          · exact Nat.le_trans hel (by decide)
          · omega
        have hB : ruB (ruL s text l G0.length (some (.int (k : Nat))) x5 x6 x7 x8 x9) (G0 ++ [.lst ev]) = .nx (ruL s text fd G0.length (some (.int (k : Nat))) x5 (some (.lst (x.met.map (evU (k : Nat))))) x7 x8 x9) (G0 ++ [.lst (ev ++ x.met.map (evU (k : Nat)))]) := by
          have e1 : stE (callM 3 r_gone_through (consA (varM 0) (consA (varM 2) (consA (varM 4) nilA)))) (asgM (tupG 2 (consG (nameG 2) (consG (nameG 6) nilG)))) (ruL s text l G0.length (some (.int (k : Nat))) x5 x6 x7 x8 x9) (G0 ++ [.lst ev]) = .nx (ruL s text fd G0.length (some (.int (k : Nat))) x5 (some (.lst (x.met.map (evU (k : Nat))))) x7 x8 x9) (G0 ++ [.lst ev]) := by
            unfold stE
            rw [hcall]
            rfl
          show seqM _ _ _ _ = _
          rw [seqM_nx e1]
          have e2 := extend_ok (sg := ruL s text fd G0.length (some (.int (k : Nat))) x5 (some (.lst (x.met.map (evU (k : Nat))))) x7 x8 x9) (G := G0 ++ [.lst ev]) (mo := varM 3) (my := varM 6) (k := G0.length) (l := ev) (l' := x.met.map (evU (k : Nat))) rfl ⟨_, hg⟩ rfl hg (by rw [List.length_map]; unfold szL; omega)
          rw [set_new] at e2
          exact e2
        have ih := pass_loop ho hb m (k + 1) (l := fd) (ev := ev ++ x.met.map (evU (k : Nat))) (x4 := some (.int (k : Nat))) (x6 := some (.lst (x.met.map (evU (k : Nat))))) (by omega) (by omega) q1 hfl (by rw [List.length_append, List.length_map]; exact hel) hE'
        have hgo : forL (.items b) (nameG 4) ruB (m + 1) k (ruL s text l G0.length x4 x5 x6 x7 x8 x9) (G0 ++ [.lst ev]) = forL (.items b) (nameG 4) ruB m (k + 1) (ruL s text fd G0.length (some (.int (k : Nat))) x5 (some (.lst (x.met.map (evU (k : Nat))))) x7 x8 x9) (G0 ++ [.lst (ev ++ x.met.map (evU (k : Nat)))]) := by
          rw [forL]
          simp only [itAt, hbk, hgn, hB]
        rw [hgo]
        exact ih
theorem map_ofEvs {f : Nat → Option U} : ∀ {us : List U} {es : List (W1 × Option Nat)}, Evs us es → mapUs f us = some us := fun h => by
  induction h with
  | nil => rfl
  | cons a b h1 h2 h3 ih =>
    subst h1
    simp only [mapUs, mapU, mapU_org, ih, Option.map_some]
theorem out_new {l : List It1} {ev : List U} {ft : List (U × U)} {x4 x6 : Option U} (hl : l.length ≤ 1600000) (he : ev.length ≤ 600000) :
    ruO (ruL s text l G0.length x4 (some (.dct ft)) x6 x7 x8 x9) (G0 ++ [.lst ev]) = .ok (.ref (G0.length + 1)) (G0 ++ [.lst ev, .ins 3 [(15, .str (sgn l)), (16, .tup ev), (17, .dct ft)]]) := by
  have hit : seqI (varM 2) (ruL s text l G0.length x4 (some (.dct ft)) x6 x7 x8 x9) (G0 ++ [.lst ev]) = .ok (.seq (.lst (l.map itU)), (l.map itU).length) (G0 ++ [.lst ev]) := by simp [seqI, varM, seqOf, lstOf]
  have ec : compM false (seqI (varM 2)) (nameG 9) yesT (bin2 idxU (varM 9) (litM (.int 0))) [9] (ruL s text l G0.length x4 (some (.dct ft)) x6 x7 x8 x9) (G0 ++ [.lst ev]) = .ok (.lst (((sgn l).map fun c => [c]).map U.str)) (G0 ++ [.lst ev]) := by
    refine (comp_seq (mu := false) (h := fun z => match z with | .tup [c, o] => c | z => z) hit rfl fun z hz' => ?_).trans ?_
    · obtain ⟨e, he, rfl⟩ := List.mem_map.mp hz'
      exact ⟨ruL s text l G0.length x4 (some (.dct ft)) x6 x7 x8 (some (itU e)), rfl, rfl, idx_tup0 (k := 0) (var_ok rfl) rfl⟩
    · have e : (l.map itU).map (fun z => match z with | .tup [c, o] => c | z => z) = ((sgn l).map fun c => [c]).map U.str := by
        unfold sgn
        rw [List.map_map, List.map_map, List.map_map]
        rfl
      rw [e]
      exact newL_f (by rw [List.length_map, List.length_map, sgn_len]; unfold szL; omega)
  have ej : joinM (litM (.str (Str.ofString "").cps.toList)) (compM false (seqI (varM 2)) (nameG 9) yesT (bin2 idxU (varM 9) (litM (.int 0))) [9]) (ruL s text l G0.length x4 (some (.dct ft)) x6 x7 x8 x9) (G0 ++ [.lst ev]) = .ok (.str (sgn l)) (G0 ++ [.lst ev]) := by
    have e0 : litM (.str (Str.ofString "").cps.toList) (ruL s text l G0.length x4 (some (.dct ft)) x6 x7 x8 x9) (G0 ++ [.lst ev]) = .ok (.str []) (G0 ++ [.lst ev]) := by simp [litM]
    unfold joinM
    rw [e0]
    simp only [bind_ok, ec, lstOf, strsOf_map, List.length_nil, Nat.mul_zero, Nat.add_zero, join_sing]
    refine if_pos ?_
    have : ∀ a : W1, ((a.map fun c => [c]).map List.length).sum = a.length := fun a => by
      induction a with
      | nil => rfl
      | cons x r ih => simp only [List.map_cons, List.sum_cons, ih, List.length_cons, List.length_nil]; omega
    rw [this, sgn_len]
    unfold szL
    omega
  have et : preM tupleU (consA (varM 3) nilA) (ruL s text l G0.length x4 (some (.dct ft)) x6 x7 x8 x9) (G0 ++ [.lst ev]) = .ok (.tup ev) (G0 ++ [.lst ev]) := by
    rw [pre_one (u := .ref G0.length) (var_ok rfl)]
    simp only [tupleU, lstOf, get_new]
    exact newT_ok' (by unfold szL; omega)
  show Rs.bind _ _ = _
  rw [consA_p ej (consA_p et (consA_p (var_ok (u := .dct ft) rfl) rfl))]
  have h1 : (G0 ++ [Ob.lst ev] ++ [Ob.ins 3 []])[G0.length + 1]? = some (.ins 3 []) := by simp
  have h2 : (G0 ++ [Ob.lst ev]).length = G0.length + 1 := by simp
  simp only [bind_ok, madeU, arM, r_Outcome_init, h2, h1]
  refine (show _ = Rs.bind (.ok U.non _) _ from congrArg (fun z => Rs.bind z _) (if_pos rfl)).trans ?_
  simp only [bind_ok]
  congr 1
  rw [← h2, set_new, List.append_assoc]
  rfl
theorem le_run : LeC r_run (runB d_run 40 s_run) := fun us G => by
  unfold r_run
  split
  · rename_i st text
    cases es : drOfI st with
    | none => exact .inl rfl
    | some s =>
    obtain ⟨rfl, ho⟩ := drOfI_ok es
    obtain ⟨h1, h2, h3, h4, h5, h6, h7, h8, h9, h10⟩ := okd_parts ho
    by_cases hh : isT text = true ∧ text.length ≤ 5000 ∧ (s.n = 1 ∨ text.length ≤ 16)
    rotate_left
    · exact .inl (if_neg hh)
    obtain ⟨hT, ht5, ht16⟩ := id hh
    simp only [if_pos hh]
    have hn : s.n.toNat ≤ 2 ∧ 1 ≤ s.n.toNat ∧ ((s.n.toNat : Nat) : Int) = s.n := by omega
    have hlB : (startP text).length ≤ lB s.n.toNat := by
      rw [startP_len]
      rcases ht16 with z | z
      · rw [z]; exact ht5
      · rcases (show s.n.toNat = 1 ∨ s.n.toNat = 2 by omega) with q | q
        · rw [q]; exact ht5
        · rw [q]; exact z
    have lp := pass_loop (G0 := G) (s := s) (text := text) (x5 := none) (x7 := none) (x8 := none) (x9 := none) ho (N := s.n.toNat) rfl s.n.toNat 0 (l := startP text) (ev := []) (evs := []) (x4 := none) (x6 := none) hn.1 (Nat.zero_add _) (by rw [startP_sgn]; exact hT) hlB (Nat.zero_le _) rfl
    unfold runR'
    cases ep : passesP s s.n.toNat 0 (startP text) [] with
    | none => exact .inl rfl
    | some res =>
      have e0 : callM 1 r_need_text (consA (varM 1) nilA) [some (stU s), some (.str text), none, none, none, none, none, none, none, none] G = .ok .non G := by
        unfold callM
        rw [consA_p (var_ok (u := .str text) rfl) rfl]
        simp only [bind_ok, arM, r_need_text]
        exact (if_pos rfl).trans ((if_pos (Nat.le_trans ht5 (by decide))).trans (if_pos hT))
      have e0' : stE (callM 1 r_need_text (consA (varM 1) nilA)) (fun _ => nxM) [some (stU s), some (.str text), none, none, none, none, none, none, none, none] G = .nx [some (stU s), some (.str text), none, none, none, none, none, none, none, none] G := by
        unfold stE
        rw [e0]
        rfl
      have e2 : lstM true nilA [some (stU s), some (.str text), some (.lst ((startP text).map itU)), none, none, none, none, none, none, none] G = .ok (.ref G.length) (G ++ [.lst []]) := by
        unfold lstM nilA
        exact newL_t (by simp [szL])
      have hpas : preI rng1U (consA (attrM (fun c => (([] : List (Nat × RunD)).lookup c).map attrP) (fun c => ([0] : List Nat).contains c) 5 (varM 0)) nilA) (ruL s text (startP text) G.length none none none none none none) (G ++ [.lst []]) = .ok (.items (rangeL 0 1 s.n.toNat), s.n.toNat) (G ++ [.lst []]) := by
        rw [pre_oneI (show _ = Rs.ok (U.int s.n) _ from (st_at (m0 := varM 0) rfl).2.2.2.2.2)]
        simp only [rng1U]
        rw [if_pos (by omega)]
      have hfor : ∀ r, forL (.items (rangeL 0 1 s.n.toNat)) (nameG 4) ruB s.n.toNat 0 (ruL s text (startP text) G.length none none none none none none) (G ++ [.lst []]) = r → forM (preI rng1U (consA (attrM (fun c => (([] : List (Nat × RunD)).lookup c).map attrP) (fun c => ([0] : List Nat).contains c) 5 (varM 0)) nilA)) (nameG 4) ruB (ruL s text (startP text) G.length none none none none none none) (G ++ [.lst []]) = r := fun r h => by
        unfold forM
        rw [hpas]
        exact h
      have ep' : passesP s s.n.toNat ((0 : Nat) : Int) (startP text) [] = some res := ep
      rw [ep'] at lp
      have hs : startS d_run.N [stU s, .str text] = [some (stU s), some (.str text), none, none, none, none, none, none, none, none] := rfl
      cases res with
      | error q =>
        refine .inr (.inr ?_)
        obtain ⟨sg', g, lp⟩ := lp
        rw [run_run, run_m, hs]
        refine cut_n (seqM_nx e0') ?_
        refine cut_n (seqM_set (items_new ht5)) ?_
        refine cut_n (seqM_set (s := [some (stU s), some (.str text), some (.lst ((startP text).map itU)), none, none, none, none, none, none, none]) e2) ?_
        have e3 : seqM (forM (preI rng1U (consA (attrM (fun c => (([] : List (Nat × RunD)).lookup c).map attrP) (fun c => ([0] : List Nat).contains c) 5 (varM 0)) nilA)) (nameG 4) ruB) (seqM (stE (callM 4 r_fates_of (consA (varM 0) (consA (varM 1) (consA (varM 2) (consA (varM 3) nilA))))) (setM 5)) (stE ruO rtM)) (ruL s text (startP text) G.length none none none none none none) (G ++ [.lst []]) = .exc (exN q) sg' (G ++ g) := by
          unfold seqM
          rw [hfor _ lp]
        refine cut_n e3 ?_
        exact cut_newX
      | ok w =>
        obtain ⟨l', ev'⟩ := w
        obtain ⟨y4, y6, lp, hT', hl', he', evs', hE'⟩ := lp
        simp only [hE']
        refine .inr (.inr ?_)
        rw [run_run, run_m, hs]
        refine cut_n (seqM_nx e0') ?_
        refine cut_n (seqM_set (items_new ht5)) ?_
        refine cut_n (seqM_set (s := [some (stU s), some (.str text), some (.lst ((startP text).map itU)), none, none, none, none, none, none, none]) e2) ?_
        refine cut_n (seqM_nx (s := ruL s text (startP text) G.length none none none none none none) (hfor _ lp)) ?_
        have hEv := ofEvs_ok hE'
        have ef : callM 4 r_fates_of (consA (varM 0) (consA (varM 1) (consA (varM 2) (consA (varM 3) nilA)))) (ruL s text l' G.length y4 none y6 none none none) (G ++ [.lst ev']) = .ok (.dct (fatesP s.w text l' evs')) (G ++ [.lst ev']) := by
          unfold callM
          rw [consA_p (var_ok (u := stU s) rfl) (consA_p (var_ok (u := .str text) rfl) (consA_p (var_ok (u := .lst (l'.map itU)) rfl) (consA_p (var_ok (u := .ref G.length) rfl) rfl)))]
          simp only [bind_ok, arM, r_fates_of, drOfI_U ho, itsOf_map, lstOf, get_new, Option.bind_some, hE']
          refine (if_pos rfl).trans (if_pos ⟨ht5, hT, ?_, ?_⟩)
          · unfold szL; omega
          · have := hEv.len
            unfold szL; omega
        refine cut_n (seqM_set (s := ruL s text l' G.length y4 none y6 none none none) ef) ?_
        refine cut_rt (g := [.lst ev', .ins 3 [(15, .str (sgn l')), (16, .tup ev'), (17, .dct (fatesP s.w text l' evs'))]]) (u := .ref (G.length + 1)) (stE_rt (out_new (s := s) hl' he')) ?_
        have hm : mapK (refF G.length (G ++ [.lst ev', .ins 3 [(15, .str (sgn l')), (16, .tup ev'), (17, .dct (fatesP s.w text l' evs'))]]) 5) (fatesP s.w text l' evs') = some (fatesP s.w text l' evs') := map_fates _
        have hm2 : mapUs (refF G.length (G ++ [.lst ev', .ins 3 [(15, .str (sgn l')), (16, .tup ev'), (17, .dct (fatesP s.w text l' evs'))]]) 5) ev' = some ev' := map_ofEvs hEv
        have hg : (G ++ [.lst ev', .ins 3 [(15, .str (sgn l')), (16, .tup ev'), (17, .dct (fatesP s.w text l' evs'))]])[G.length + 1]? = some (.ins 3 [(15, .str (sgn l')), (16, .tup ev'), (17, .dct (fatesP s.w text l' evs'))]) := by simp
        show refF G.length _ 6 (G.length + 1) = _
        unfold refF
        rw [if_neg (by omega), hg]
        simp only [mapF, mapU, hm, hm2, Option.map_some]
        rfl
  · exact .inl rfl
end
end FL

namespace FL
open PySem L2 PyProof.Rows
theorem rndP_snoc (ns : List Int) (c salt : Int) : rndP (ns ++ [c]) salt = (rndP ns salt * 31 + (if c < 0 then -c else c)).fmod 2147483647 := by simp [rndP, List.foldl_append]
theorem le__law_random : Le r__law_random (runB d__law_random 40 s__law_random) := fun us G => by
  unfold r__law_random
  split
  · rename_i l
    split
    · rename_i ns e
      split
      · rename_i hl
        refine .inr ?_
        rw [run__law_random, intsOf_eq e]
        have hs : startS d__law_random.N [.sc (ns.map .int), .int 18] = [some (.sc (ns.map .int)), some (.int 18), none, none] := rfl
        rw [hs]
        unfold m__law_random
        rw [seqM_set (u := .int 18) (G1 := G) rfl]
        have hit : seqI (varM 0) [some (.sc (ns.map .int)), some (.int 18), some (.int 18), none] G = .ok (.seq (.sc (ns.map .int)), ns.length) G := by
          unfold seqI
          rw [var_ok (u := .sc (ns.map .int)) rfl]
          simp [seqOf, lstOf]
        obtain ⟨s', G', h1, x, h2, h3⟩ := forL_inv (b := .seq (.sc (ns.map .int))) (g := nameG 3)
          (body := stE (bin2 modU (preM intU1 (consA (bin2 (addU false) (bin2 (mulU false) (varM 2) (litM (.int 31))) (preM absU (consA (varM 3) nilA))) nilA)) (litM (.int 2147483647))) (setM 2))
          (fun k s' G' => ∃ x, s' = [some (.sc (ns.map .int)), some (.int 18), some (.int (rndP (ns.take k) 18)), x] ∧ G' = G) (n := ns.length) (l := ns.map .int) (by simp) (fun G i => by simp [itAt, seqOf, lstOf])
          (fun k u s1 G1 hu ⟨x, e1, e2⟩ => by
            subst e1
            subst e2
            rw [List.getElem?_map] at hu
            cases hc : ns[k]? with
            | none => rw [hc] at hu; cases hu
            | some c =>
              rw [hc] at hu
              cases hu
              refine ⟨_, _, _, rfl, .inl (by
                simp [stE, bin2, preM, consA, varM, litM, nilA, mulU, addU, absU, intU1, modU, intU, setM]; rfl), some (.int c), ?_, rfl⟩
              have : ns.take (k + 1) = ns.take k ++ [c] := by rw [List.take_add_one, hc]; rfl
              rw [this, rndP_snoc]) ns.length 0 [some (.sc (ns.map .int)), some (.int 18), some (.int 18), none] G (by omega) ⟨none, rfl, rfl⟩
        have hfor : forM (seqI (varM 0)) (nameG 3) (stE (bin2 modU (preM intU1 (consA (bin2 (addU false) (bin2 (mulU false) (varM 2) (litM (.int 31))) (preM absU (consA (varM 3) nilA))) nilA)) (litM (.int 2147483647))) (setM 2)) [some (.sc (ns.map .int)), some (.int 18), some (.int 18), none] G = .nx s' G' := by
          unfold forM
          rw [hit]
          exact h1
        subst h2
        subst h3
        rw [List.take_length] at hfor
        refine Eq.symm ((congrArg runR (seqM_nx hfor)).trans ?_)
        have hc : compM false (seqI (varM 0)) (nameG 3) (tobM (bin2 (cmpU fun i j => decide (j ≤ i)) (varM 3) (bin2 powU (litM (.int 10)) (litM (.int 18))))) (varM 3) [3] [some (.sc (ns.map .int)), some (.int 18), some (.int (rndP ns 18)), x] G' = newL false (((ns.map U.int).filter fun u => match u with | .int c => decide (10 ^ 18 ≤ c) | _ => false).map id) G' := by
          refine comp_seqF (u := .sc (ns.map .int)) (by simp [seqI, varM, seqOf, lstOf]) (by simp [seqOf, lstOf]) fun u hu => ?_
          simp only [List.mem_map] at hu
          obtain ⟨c, _, rfl⟩ := hu
          exact ⟨_, rfl, by simp [tobM, bin2, varM, wipeS, litM, powU, intU, cmpU, blU], fun _ => by simp [varM, wipeS]⟩
        have hf : ((ns.map U.int).filter fun u => match u with | .int c => decide (10 ^ 18 ≤ c) | _ => false).map id = (ns.filter fun c => decide (10 ^ 18 ≤ c)).map U.int := by
          rw [List.map_id, List.filter_map]
          rfl
        have hlen : (ns.filter fun c => decide ((10 : Int) ^ 18 ≤ c)).length ≤ 63 := Nat.le_trans (List.length_filter_le _ _) hl
        rw [stE_rt (u := .ref G'.length) (G1 := G' ++ [drC (rndP ns 18 :: 0 :: ns.filter fun c => decide (10 ^ 18 ≤ c))]) (by
          rw [bin2_p (x := .lst [.int (rndP ns 18), .int 0]) (y := .lst ((ns.filter fun c => decide (10 ^ 18 ≤ c)).map .int)) (by simp [lstM, consA, varM, litM, nilA, newL, szL]) (by
            rw [hc, hf, newL_f (by simp [szL]; simp at hlen; omega)])]
          simp only [addU, lstOfW]
          rw [newL_t (by simp [szL]; simp at hlen; omega)]
          simp [drC])]
        rfl
      · exact .inl rfl
    · exact .inl rfl
  · exact .inl rfl
theorem below_rest {G : List Ob} {i : Nat} {a b n : Int} {r : List Int} {x : Option U} (hg : G[i]? = some (drC (a :: b :: r))) (hn : 0 < n ∧ n < 1000) :
    seqM (ifM (tobM (bin2 (cmpU fun i j => decide (j < i)) (bin2 idxU (varM 0) (litM (.int 1))) (litM (.int 0)))) (seqM (stE (bin2 modU (preM intU1 (consA (bin2 idxU (varM 0) (litM (.int 1))) nilA)) (varM 1)) (setM 2)) (seqM (stE3 (bin2 fdivU (bin2 idxU (varM 0) (litM (.int 1))) (varM 1)) (varM 0) (litM (.int 1)) itemM) (stE (varM 2) rtM))) nxM) (seqM (stE3 (bin2 modU (preM intU1 (consA (bin2 (addU false) (bin2 (mulU false) (bin2 idxU (varM 0) (litM (.int 0))) (litM (.int 48271))) (litM (.int 11))) nilA)) (litM (.int 2147483647))) (varM 0) (litM (.int 0)) itemM) (stE (bin2 modU (preM intU1 (consA (bin2 fdivU (bin2 idxU (varM 0) (litM (.int 0))) (litM (.int 64))) nilA)) (varM 1)) rtM))
      [some (.ref i), some (.int n), x] G = if b > 0 then .rt (.int (b.fmod n)) (G.set i (drC (a :: b.fdiv n :: r))) else .rt (.int ((((a * 48271 + 11).fmod 2147483647).fdiv 64).fmod n)) (G.set i (drC ((a * 48271 + 11).fmod 2147483647 :: b :: r))) := by
  obtain ⟨hi, hgi⟩ := List.getElem?_eq_some_iff.mp hg
  have hn0 : n ≠ 0 := by omega
  have hn1 : n.natAbs < 1073741824 := by omega
  have i1 : ∀ (s : Sg), s[0]? = some (some (.ref i)) → bin2 idxU (varM 0) (litM (.int 1)) s G = .ok (.int b) G := fun s hs => by
    rw [bin2_p (var_ok hs) (y := .int 1) rfl]
    have : atI ((a :: b :: r).map U.int) 1 = some (.int b) := atI_nat (j := 1) (by simp)
    simp only [idxU, seqOf, lstOf, hg, drC, this]
  have i0 : ∀ (s : Sg) (G : List Ob) (a b : Int) (r : List Int), G[i]? = some (drC (a :: b :: r)) → s[0]? = some (some (.ref i)) → bin2 idxU (varM 0) (litM (.int 0)) s G = .ok (.int a) G := fun s G a b r hg hs => by
    rw [bin2_p (var_ok hs) (y := .int 0) rfl]
    have : atI ((a :: b :: r).map U.int) 0 = some (.int a) := atI_nat (j := 0) (by simp)
    simp only [idxU, seqOf, lstOf, hg, drC, this]
  have x1 : ixN ((a :: b :: r).map U.int).length 1 = some 1 := by simp [ixN]; omega
  have x0 : ixN ((a :: b :: r).map U.int).length 0 = some 0 := by simp [ixN]; omega
  have ht : tobM (bin2 (cmpU fun i j => decide (j < i)) (bin2 idxU (varM 0) (litM (.int 1))) (litM (.int 0))) [some (.ref i), some (.int n), x] G = .ok (decide (0 < b)) G := by
    unfold tobM
    rw [bin2_p (i1 _ rfl) (y := .int 0) rfl]
    rfl
  by_cases hb : b > 0
  · rw [if_pos hb]
    have hb' : decide (0 < b) = true := decide_eq_true hb
    rw [hb'] at ht
    refine seqM_rt ((ifM_t ht).trans ?_)
    rw [seqM_set (u := .int (b.fmod n)) (G1 := G) (by
      rw [bin2_p (x := .int b) (by unfold preM; rw [consA_p (i1 _ rfl) rfl]; rfl) (var_ok (u := .int n) rfl)]
      simp [modU, intU, hn0])]
    rw [seqM_nx (s1 := [some (.ref i), some (.int n), some (.int (b.fmod n))]) (G1 := G.set i (drC (a :: b.fdiv n :: r))) (by
      show stE3 _ _ _ _ [some (.ref i), some (.int n), some (.int (b.fmod n))] G = _
      unfold stE3
      rw [bin2_p (i1 _ rfl) (var_ok (u := .int n) rfl)]
      simp only [fdivU, intU]
      rw [if_pos (by simp [hn0, hn1])]
      simp only [varM, litM, List.getElem?_cons_zero, itemM, hg, drC, x1]
      simp)]
    exact stE_rt rfl
  · rw [if_neg hb]
    have hb' : decide (0 < b) = false := decide_eq_false hb
    rw [hb'] at ht
    rw [seqM_if ht]
    rw [seqM_nx (s1 := [some (.ref i), some (.int n), x]) (G1 := G.set i (drC ((a * 48271 + 11).fmod 2147483647 :: b :: r))) (by
      unfold stE3
      rw [bin2_p (x := .int (a * 48271 + 11)) (y := .int 2147483647) (by
        unfold preM
        rw [consA_p (x := .int (a * 48271 + 11)) (by
          rw [bin2_p (x := .int (a * 48271)) (y := .int 11) (by
            rw [bin2_p (i0 _ _ _ _ _ hg rfl) (y := .int 48271) rfl]
            simp [mulU]) rfl]
          rfl) rfl]
        rfl) rfl]
      simp only [modU, intU]
      rw [if_pos (by decide)]
      simp only [varM, litM, List.getElem?_cons_zero, itemM, hg, drC, x0]
      simp)]
    have hg2 : (G.set i (drC ((a * 48271 + 11).fmod 2147483647 :: b :: r)))[i]? = some (drC ((a * 48271 + 11).fmod 2147483647 :: b :: r)) := List.getElem?_set_self hi
    refine stE_rt ?_
    rw [bin2_p (x := .int (((a * 48271 + 11).fmod 2147483647).fdiv 64)) (by
      unfold preM
      rw [consA_p (x := .int (((a * 48271 + 11).fmod 2147483647).fdiv 64)) (by
        rw [bin2_p (i0 _ _ _ _ _ hg2 rfl) (y := .int 64) rfl]
        simp [fdivU, intU]) rfl]
      rfl) (var_ok (u := .int n) rfl)]
    simp [modU, intU, hn0]
theorem le__law_below : Le r__law_below (runB d__law_below 40 s__law_below) := fun us G => by
  unfold r__law_below
  split
  · rename_i i n
    split
    · rename_i a b r e
      split
      · rename_i hn
        obtain ⟨hg, hr⟩ := drOf_ok e
        obtain ⟨hi, hgi⟩ := List.getElem?_eq_some_iff.mp hg
        refine .inr ?_
        rw [run__law_below]
        have hs : startS d__law_below.N [.ref i, .int n] = [some (.ref i), some (.int n), none] := rfl
        rw [hs]
        unfold m__law_below
        have i1 : bin2 idxU (varM 0) (litM (.int 1)) [some (.ref i), some (.int n), none] G = .ok (.int b) G := by
          rw [bin2_p (var_ok (u := .ref i) rfl) (y := .int 1) rfl]
          have : atI ((a :: b :: r).map U.int) 1 = some (.int b) := atI_nat (j := 1) (by simp)
          simp only [idxU, seqOf, lstOf, hg, drC, this]
        have ht : andT (tobM (bin2 (eqX false (fun c => d__law_below.eqt.lookup c)) (bin2 idxU (varM 0) (litM (.int 1))) (litM (.int 0)))) (tobM (bin2 (cmpU fun i j => decide (j < i)) (preM lenU (consA (varM 0) nilA)) (litM (.int 2)))) [some (.ref i), some (.int n), none] G = .ok (decide (b = 0 ∧ r ≠ [])) G := by
          unfold andT
          rw [tob_int (x := b) (y := 0) i1 rfl]
          by_cases hb : b = 0
          · subst hb
            have hl : tobM (bin2 (cmpU fun i j => decide (j < i)) (preM lenU (consA (varM 0) nilA)) (litM (.int 2))) [some (.ref i), some (.int n), none] G = .ok (decide ((2 : Int) < (r.length + 1 + 1 : Nat))) G := by
              unfold tobM
              rw [bin2_p (x := .int (r.length + 1 + 1 : Nat)) (y := .int 2) (by unfold preM; rw [consA_p (var_ok (u := .ref i) rfl) rfl]; simp [lenU, seqOf, lstOf, hg, drC]) rfl]
              rfl
            simp only [bind_ok, Bool.false_eq_true, if_false, beq_self_eq_true, if_true, hl]
            congr 1
            cases r with
            | nil => simp
            | cons y t => simp; omega
          · simp [hb]
        by_cases hz : b = 0 ∧ r ≠ []
        · obtain ⟨rfl, hr0⟩ := hz
          cases r with
          | nil => exact absurd rfl hr0
          | cons y t =>
            have ht' : andT _ _ [some (.ref i), some (.int n), none] G = .ok true G := ht.trans (by simp)
            have hx : ixN ((a :: 0 :: t).map U.int).length 1 = some 1 := by simp [ixN]; omega
            have hp : bmM popU (varM 0) (consA (litM (.int 2)) nilA) [some (.ref i), some (.int n), none] G = .ok (.int y) (G.set i (drC (a :: 0 :: t))) := by
              unfold bmM
              rw [var_ok (u := .ref i) rfl]
              have hsq : seqIndex? 2 ((a :: 0 :: y :: t).map U.int).length = some 2 := by simp [seqIndex?]; omega
              simp only [bind_ok, lstOfW, hg, drC, consA, litM, nilA, popU, hsq]
              rw [if_pos (by decide)]
              simp
            have q : ifM (andT (tobM (bin2 (eqX false (fun c => d__law_below.eqt.lookup c)) (bin2 idxU (varM 0) (litM (.int 1))) (litM (.int 0)))) (tobM (bin2 (cmpU fun i j => decide (j < i)) (preM lenU (consA (varM 0) nilA)) (litM (.int 2))))) (stE3 (bmM popU (varM 0) (consA (litM (.int 2)) nilA)) (varM 0) (litM (.int 1)) itemM) nxM [some (.ref i), some (.int n), none] G = .nx [some (.ref i), some (.int n), none] (G.set i (drC (a :: y :: t))) := by
              refine (ifM_t ht').trans ?_
              unfold stE3
              rw [hp]
              have hg2 : (G.set i (drC (a :: 0 :: t)))[i]? = some (drC (a :: 0 :: t)) := List.getElem?_set_self hi
              simp only [varM, litM, List.getElem?_cons_zero, itemM, hg2]
              simp only [drC, hx, List.set_set]
              simp
            have hg3 : (G.set i (drC (a :: y :: t)))[i]? = some (drC (a :: y :: t)) := List.getElem?_set_self hi
            rw [seqM_nx q, below_rest hg3 hn]
            have hb : brP 0 (y :: t) = (y, t) := rfl
            simp only [belowP, hb, belowQ, List.set_set]
            by_cases hy : y > 0 <;> simp [hy, runR]
        · have ht' : andT _ _ [some (.ref i), some (.int n), none] G = .ok false G := ht.trans (by simp [hz])
          rw [seqM_if ht', below_rest hg hn]
          have hbr : brP b r = (b, r) := by
            unfold brP
            by_cases hb : b = 0
            · rw [if_pos hb]
              cases r with
              | nil => rfl
              | cons y t => exact absurd ⟨hb, by simp⟩ hz
            · rw [if_neg hb]
          simp only [belowP, hbr, belowQ]
          by_cases hy : b > 0 <;> simp [hy, runR]
      · exact .inl rfl
    · exact .inl rfl
  · exact .inl rfl
end FL

namespace FL
open PySem L2 PyProof.Rows
theorem brP_len (b : Int) (r : List Int) : (brP b r).2.length ≤ r.length := by
  unfold brP
  split
  · cases r <;> simp
  · exact Nat.le_refl _
theorem below_form (a b : Int) (r : List Int) (n : Int) : ∃ v a' b' r', belowP a b r n = (v, a' :: b' :: r') ∧ r'.length ≤ r.length ∧ (0 < n → 0 ≤ v ∧ v < n) := by
  unfold belowP belowQ
  split
  · exact ⟨_, _, _, _, rfl, brP_len b r, fun h => ⟨Int.fmod_nonneg_of_pos _ h, Int.fmod_lt_of_pos _ h⟩⟩
  · exact ⟨_, _, _, _, rfl, brP_len b r, fun h => ⟨Int.fmod_nonneg_of_pos _ h, Int.fmod_lt_of_pos _ h⟩⟩
theorem drOf_set {G : List Ob} {i : Nat} {l l' : Int × Int × List Int} (h : drOf G i = some l) (hl : l'.2.2.length ≤ 63) : drOf (G.set i (drC (dl l'))) i = some l' := by
  obtain ⟨a, b, r⟩ := l
  obtain ⟨hg, hr⟩ := drOf_ok h
  have hi := (List.getElem?_eq_some_iff.mp hg).1
  obtain ⟨a', b', r'⟩ := l'
  unfold drOf
  rw [List.getElem?_set_self hi]
  simp only [drC, dl, intsOf_map]
  rw [if_pos hl]
theorem le__law_pick : Le r__law_pick (runB d__law_pick 40 s__law_pick) := fun us G => by
  unfold r__law_pick
  split
  · rename_i i xs
    split
    · rename_i a b r e
      split
      · rename_i hx
        split
        · rename_i u hu
          refine .inr ?_
          rw [run__law_pick]
          have hs : startS d__law_pick.N [.ref i, .lst xs] = [some (.ref i), some (.lst xs)] := rfl
          rw [hs]
          unfold m__law_pick
          obtain ⟨v, a', b', r', hb, hr', hv⟩ := below_form a b r xs.length
          have hv := hv (by omega)
          rw [hb] at hu
          have hat : atI xs v = some u := by
            have := atI_nat hu
            rw [Int.toNat_of_nonneg hv.1] at this
            exact this
          rw [stE_rt (u := u) (G1 := G.set i (drC (belowP a b r xs.length).2)) (by
            rw [bin2_ok (G1 := G) (x := .lst xs) (y := .int v) (G2 := G.set i (drC (belowP a b r xs.length).2)) (var_ok rfl) (by
              unfold callM
              rw [consA_p (var_ok (u := .ref i) rfl) (consA_p (x := .int xs.length) (by unfold preM; rw [consA_p (var_ok (u := .lst xs) rfl) rfl]; simp [lenU, seqOf, lstOf]) rfl)]
              have h1 : (0 : Int) < xs.length ∧ (xs.length : Int) < 1000 := by omega
              simp only [bind_ok, arM, r__law_below, e, if_pos h1, hb]
              rfl)]
            simp [idxU, seqOf, lstOf, hat])]
          rfl
        · exact .inl rfl
      · exact .inl rfl
    · exact .inl rfl
  · exact .inl rfl
theorem pick_ok {α : Type} (f : α → U) (ys : List α) (d : α) {G : List Ob} {i : Nat} {l : Int × Int × List Int} (h0 : 0 < ys.length) (h1 : ys.length < 1000) (h : drOf G i = some l) :
    r__law_pick [.ref i, .lst (ys.map f)] G = .ok (f (pickP d l ys).1) (G.set i (drC (dl (pickP d l ys).2))) ∧ drOf (G.set i (drC (dl (pickP d l ys).2))) i = some (pickP d l ys).2 ∧ (pickP d l ys).1 ∈ ys := by
  obtain ⟨a, b, r⟩ := l
  obtain ⟨hg, hr⟩ := drOf_ok h
  obtain ⟨v, a', b', r', hb, hr', hv⟩ := below_form a b r ys.length
  have hv := hv (by omega)
  have hlt : v.toNat < ys.length := by omega
  have hp : pickP d (a, b, r) ys = (ys[v.toNat], (a', b', r')) := by
    unfold pickP
    simp only [hb]
    simp [List.getD, hlt]
  rw [hp]
  refine ⟨?_, drOf_set h (by simp; omega), List.getElem_mem hlt⟩
  unfold r__law_pick
  simp only [h, List.length_map, if_pos (And.intro h0 h1), hb]
  rw [List.getElem?_map, List.getElem?_eq_getElem hlt]
  rfl
theorem call_pick {α : Type} (f : α → U) (ys : List α) (d : α) {G : List Ob} {i j : Nat} {l : Int × Int × List Int} {s : Sg} {m : ME} (h0 : 0 < ys.length) (h1 : ys.length < 1000) (h : drOf G i = some l) (hs : s[j]? = some (some (.ref i))) (hm : m s G = .ok (.lst (ys.map f)) G) :
    callM 2 r__law_pick (consA (varM j) (consA m nilA)) s G = .ok (f (pickP d l ys).1) (G.set i (drC (dl (pickP d l ys).2))) := by
  unfold callM
  rw [consA_p (var_ok hs) (consA_p hm rfl)]
  simp only [bind_ok, arM]
  exact (if_pos rfl).trans (pick_ok f ys d h0 h1 h).1
theorem drU_eq (s : Dr) : drU s = .tup [.str s.w, .str s.p, .str s.k, .str s.t, .tup (s.zs.map .str), .int s.n] := rfl
theorem le__law_drawn : Le r__law_drawn (runB d__law_drawn 40 s__law_drawn) := fun us G => by
  unfold r__law_drawn
  split
  · rename_i i
    split
    · rename_i l e
      refine .inr ?_
      rw [run__law_drawn]
      have hs : startS d__law_drawn.N [.ref i] = [some (.ref i), none, none, none, none] := rfl
      rw [hs]
      unfold m__law_drawn
      obtain ⟨_, e1, _⟩ := pick_ok U.str words6 [] (by decide) (by decide) e
      rw [seqM_set (call_pick U.str words6 [] (by decide) (by decide) e rfl (by simp [lstM, consA, litM, nilA, newL, szL, words6]))]
      obtain ⟨_, e2, _⟩ := pick_ok U.str puts10 [] (by decide) (by decide) e1
      rw [seqM_set (call_pick U.str puts10 [] (by decide) (by decide) e1 rfl (by simp [lstM, consA, litM, nilA, newL, szL, puts10])), List.set_set]
      rw [List.set_set] at e2
      generalize ha : pickP [] l words6 = a at *
      generalize hb : pickP [] a.2 puts10 = b at *
      generalize hGb : G.set i (drC (dl b.2)) = Gb at *
      rw [seqM_set (u := .lst ((deeds8.take 5).map fun zs => .tup (zs.map .str))) (G1 := Gb) (by simp [lstM, tupM, consA, litM, nilA, newL, newT, szL, deeds8, wRep, wKeep])]
      rw [seqM_set (u := .lst (deeds8.map fun zs => .tup (zs.map .str))) (G1 := Gb) (by
        rw [bin2_p (x := .lst ((deeds8.take 5).map fun zs => .tup (zs.map .str))) (y := .lst ((deeds8.drop 5).map fun zs => .tup (zs.map .str))) (var_ok rfl) (by simp [lstM, tupM, consA, litM, nilA, newL, newT, szL, deeds8, wRep, wKeep, wStop])]
        simp only [addU, lstOfW]
        rw [← List.map_append, List.take_append_drop, newL_f (by simp [szL, deeds8])])]
      obtain ⟨_, e3, _⟩ := pick_ok U.str keepsL [] (by decide) (by decide) e2
      rw [seqM_set (call_pick U.str keepsL [] (by decide) (by decide) e2 rfl (by simp [lstM, consA, litM, nilA, newL, szL, keepsL]))]
      generalize hc : pickP [] b.2 keepsL = c at *
      generalize hGc : Gb.set i (drC (dl c.2)) = Gc at *
      obtain ⟨_, e4, _⟩ := pick_ok U.str turnsL [] (by decide) (by decide) e3
      obtain ⟨_, e5, _⟩ := pick_ok (fun zs : List W1 => U.tup (zs.map .str)) deeds8 [] (by decide) (by decide) e4
      have q4 := call_pick U.str turnsL [] (s := [some (.ref i), some (.str a.1), some (.str b.1), some (.lst (deeds8.map fun zs => .tup (zs.map .str))), some (.str c.1)]) (j := 0) (m := lstM false (consA (litM (.str (Str.ofString "first").cps.toList)) (consA (litM (.str (Str.ofString "last").cps.toList)) (consA (litM (.str (Str.ofString "behind").cps.toList)) nilA)))) (by decide) (by decide) e3 rfl (by simp [lstM, consA, litM, nilA, newL, szL, turnsL])
      have q5 := call_pick (fun zs : List W1 => U.tup (zs.map .str)) deeds8 [] (s := [some (.ref i), some (.str a.1), some (.str b.1), some (.lst (deeds8.map fun zs => .tup (zs.map .str))), some (.str c.1)]) (j := 0) (m := varM 3) (by decide) (by decide) e4 rfl (var_ok rfl)
      generalize hd : pickP [] c.2 turnsL = d at *
      generalize hGd : Gc.set i (drC (dl d.2)) = Gd at *
      generalize he : pickP [] d.2 deeds8 = f at *
      generalize hGe : Gd.set i (drC (dl f.2)) = Ge at *
      have q6 : bin2 (addU false) (litM (.int 1)) (callM 2 r__law_below (consA (varM 0) (consA (litM (.int 2)) nilA))) [some (.ref i), some (.str a.1), some (.str b.1), some (.lst (deeds8.map fun zs => .tup (zs.map .str))), some (.str c.1)] Ge = .ok (.int (pickP 0 f.2 [1, (2 : Int)]).1) (Ge.set i (drC (dl (pickP 0 f.2 [1, (2 : Int)]).2))) := by
        obtain ⟨fv, fa, fb, fr⟩ := f
        obtain ⟨v, a', b', r', hb, hr', hv⟩ := below_form fa fb fr 2
        have hv := hv (by omega)
        have hp : pickP 0 (fa, fb, fr) [1, (2 : Int)] = (1 + v, (a', b', r')) := by
          unfold pickP
          have : (([1, (2 : Int)] : List Int).length : Int) = 2 := rfl
          simp only [this, hb]
          have hv2 : v = 0 ∨ v = 1 := by omega
          rcases hv2 with rfl | rfl <;> simp
        rw [hp]
        rw [bin2_ok (x := .int 1) (G1 := Ge) (y := .int v) (G2 := Ge.set i (drC (dl (a', b', r')))) rfl (by
          unfold callM
          rw [consA_p (var_ok (u := .ref i) rfl) (consA_p (x := .int 2) rfl rfl)]
          simp only [bind_ok, arM, r__law_below, e5, hb]
          rfl)]
        rfl
      rw [stE_rt (u := drU (drawnP l).1) (G1 := G.set i (drC (dl (drawnP l).2))) (by
        unfold tupM
        show ((consA _ _ : MA) [some (.ref i), some (.str a.1), some (.str b.1), some (.lst (deeds8.map fun zs => .tup (zs.map .str))), some (.str c.1)] Gc).bind _ = _
        rw [consA_ok (G1 := Gc) (x := .str a.1) (xs := [.str b.1, .str c.1, .str d.1, .tup (f.1.map .str), .int (pickP 0 f.2 [1, (2 : Int)]).1]) (G2 := Ge.set i (drC (dl (pickP 0 f.2 [1, (2 : Int)]).2))) (var_ok rfl)
          (consA_ok (G1 := Gc) (var_ok (u := .str b.1) rfl) (consA_ok (G1 := Gc) (var_ok (u := .str c.1) rfl) (consA_ok (G1 := Gd) q4 (consA_ok (G1 := Ge) q5 (consA_ok (G1 := Ge.set i (drC (dl (pickP 0 f.2 [1, (2 : Int)]).2))) q6 rfl)))))]
        simp only [bind_ok]
        rw [newT_ok' (by simp [szL])]
        have hG : Ge.set i (drC (dl (pickP 0 f.2 [1, (2 : Int)]).2)) = G.set i (drC (dl (pickP 0 f.2 [1, (2 : Int)]).2)) := by
          rw [← hGe, List.set_set, ← hGd, List.set_set, ← hGc, List.set_set, ← hGb, List.set_set]
        rw [hG]
        simp only [drU, drawnP, ha, hb, hc, hd, he])]
      rfl
    · exact .inl rfl
  · exact .inl rfl
theorem pick_mem {α : Type} (d : α) (l : Int × Int × List Int) (ys : List α) (h0 : 0 < ys.length) : (pickP d l ys).1 ∈ ys ∧ (pickP d l ys).2.2.2.length ≤ l.2.2.length := by
  obtain ⟨a, b, r⟩ := l
  obtain ⟨v, a', b', r', hb, hr', hv⟩ := below_form a b r ys.length
  have hv := hv (by omega)
  have hlt : v.toNat < ys.length := by omega
  have hp : pickP d (a, b, r) ys = (ys[v.toNat], (a', b', r')) := by
    unfold pickP
    simp only [hb]
    simp [List.getD, hlt]
  rw [hp]
  exact ⟨List.getElem_mem hlt, hr'⟩
theorem drawn_mem (l : Int × Int × List Int) : (drawnP l).1.w ∈ words6 ∧ (drawnP l).1.p ∈ puts10 ∧ (drawnP l).1.k ∈ keepsL ∧ (drawnP l).1.t ∈ turnsL ∧ (drawnP l).1.zs ∈ deeds8 ∧ (drawnP l).1.n ∈ [1, (2 : Int)] ∧ (drawnP l).2.2.2.length ≤ l.2.2.length := by
  have a := pick_mem [] l words6 (by decide)
  have b := pick_mem [] (pickP [] l words6).2 puts10 (by decide)
  have c := pick_mem [] (pickP [] (pickP [] l words6).2 puts10).2 keepsL (by decide)
  have d := pick_mem [] (pickP [] (pickP [] (pickP [] l words6).2 puts10).2 keepsL).2 turnsL (by decide)
  have e := pick_mem [] (pickP [] (pickP [] (pickP [] (pickP [] l words6).2 puts10).2 keepsL).2 turnsL).2 deeds8 (by decide)
  have f := pick_mem 0 (pickP [] (pickP [] (pickP [] (pickP [] (pickP [] l words6).2 puts10).2 keepsL).2 turnsL).2 deeds8).2 [1, (2 : Int)] (by decide)
  exact ⟨a.1, b.1, c.1, d.1, e.1, f.1, by unfold drawnP; simp only; omega⟩
theorem w6 : (words6.all fun w => isT w && decide (1 ≤ w.length) && decide (w.length ≤ 3)) = true := by decide +kernel
theorem p10 : (puts10.all fun p => isT p && decide (p.length ≤ 3)) = true := by decide +kernel
theorem z8 : (deeds8.all okDs) = true := by decide +kernel
theorem k2 : (keepsL.all fun k => inW keepsL k) = true := by decide +kernel
theorem t3 : (turnsL.all fun k => inW turnsL k) = true := by decide +kernel
theorem drawn_ok (l : Int × Int × List Int) : okS (drawnP l).1.w (drawnP l).1.p (drawnP l).1.k (drawnP l).1.t (drawnP l).1.zs (drawnP l).1.n = true := by
  obtain ⟨hw, hp, hk, ht, hz, hn, _⟩ := drawn_mem l
  have a := List.all_eq_true.mp w6 _ hw
  have b := List.all_eq_true.mp p10 _ hp
  have c := List.all_eq_true.mp k2 _ hk
  have d := List.all_eq_true.mp t3 _ ht
  have e := List.all_eq_true.mp z8 _ hz
  simp only [Bool.and_eq_true, decide_eq_true_eq] at a b
  have hn' : (drawnP l).1.n = 1 ∨ (drawnP l).1.n = 2 := by simpa using hn
  unfold okS
  simp only [Bool.and_eq_true, decide_eq_true_eq]
  exact ⟨⟨⟨⟨⟨⟨⟨⟨⟨a.1.1, a.1.2⟩, a.2⟩, b.1⟩, b.2⟩, c⟩, d⟩, e⟩, by omega⟩, by omega⟩
theorem drOfU_drU {d : Dr} (ho : okS d.w d.p d.k d.t d.zs d.n = true) : drOfU (drU d) = some d := by simp [drOfU, drU, ho]
end FL

namespace FL
open PySem L2 PyProof.Rows
theorem notT_p {m : MT} {s : Sg} {G G1 : List Ob} {b : Bool} (h : m s G = .ok b G1) : notT m s G = .ok (!b) G1 := by unfold notT; rw [h]; rfl
theorem orT_p {p q : MT} {s : Sg} {G : List Ob} {a b : Bool} (h1 : p s G = .ok a G) (h2 : a = false → q s G = .ok b G) : orT p q s G = .ok (a || b) G := by
  unfold orT
  rw [h1]
  cases a with
  | true => rfl
  | false => exact h2 rfl
theorem andT_p {p q : MT} {s : Sg} {G : List Ob} {a b : Bool} (h1 : p s G = .ok a G) (h2 : a = true → q s G = .ok b G) : andT p q s G = .ok (a && b) G := by
  unfold andT
  rw [h1]
  cases a with
  | false => rfl
  | true => exact h2 rfl
theorem call1 {r : RunD} {m : ME} {s : Sg} {G G1 : List Ob} {u : U} (hm : m s G = .ok u G1) : callM 1 r (consA m nilA) s G = r [u] G1 := by
  unfold callM
  rw [consA_ok hm rfl]
  rfl
theorem call2 {r : RunD} {m m' : ME} {s : Sg} {G G1 G2 : List Ob} {u u' : U} (hm : m s G = .ok u G1) (hm' : m' s G1 = .ok u' G2) : callM 2 r (consA m (consA m' nilA)) s G = r [u, u'] G2 := by
  unfold callM
  rw [consA_ok hm (consA_ok hm' rfl)]
  rfl
theorem call3 {r : RunD} {s : Sg} {G : List Ob} {m m' m'' : ME} {G1 G2 G3 : List Ob} {u u' u'' : U} (hm : m s G = .ok u G1) (hm' : m' s G1 = .ok u' G2) (hm'' : m'' s G2 = .ok u'' G3) : callM 3 r (consA m (consA m' (consA m'' nilA))) s G = r [u, u', u''] G3 := by
  unfold callM
  rw [consA_ok hm (consA_ok hm' (consA_ok hm'' rfl))]
  rfl
theorem below_call {s : Sg} {G : List Ob} {i j : Nat} {l : Int × Int × List Int} {m : ME} {n : Int} (h : drOf G i = some l) (hs : s[j]? = some (some (.ref i))) (hm : m s G = .ok (.int n) G) (hn : 0 < n ∧ n < 1000) :
    ∃ v l', belowP l.1 l.2.1 l.2.2 n = (v, dl l') ∧ callM 2 r__law_below (consA (varM j) (consA m nilA)) s G = .ok (.int v) (G.set i (drC (dl l'))) ∧ l'.2.2.length ≤ l.2.2.length ∧ 0 ≤ v ∧ v < n := by
  obtain ⟨a, b, r⟩ := l
  obtain ⟨v, a', b', r', hb, hr', hv⟩ := below_form a b r n
  refine ⟨v, (a', b', r'), hb, ?_, hr', hv hn.1⟩
  rw [call2 (var_ok hs) hm]
  simp [r__law_below, h, hn, hb, dl]
theorem drOfU_ok {u : U} {s : Dr} (h : drOfU u = some s) : u = drU s ∧ okd s = true := by
  unfold drOfU at h
  split at h
  · split at h
    · rename_i zs e
      split at h
      · rename_i ho
        cases h
        rw [strsOf_eq e]
        exact ⟨rfl, ho⟩
      · cases h
    · cases h
  · cases h
theorem map_st {f : Nat → Option U} {s : Dr} : mapF f (stF s.w s.p s.k s.t s.zs s.n) = some (stF s.w s.p s.k s.t s.zs s.n) := by
  simp only [stF, mapF, mapU, map_strs, Option.map_some]
theorem idxS {s : Dr} {j : Nat} {sg : Sg} {G : List Ob} (hs : sg[j]? = some (some (drU s))) : bin2 idxU (varM j) (litM (.int 0)) sg G = .ok (.str s.w) G ∧ bin2 idxU (varM j) (litM (.int 1)) sg G = .ok (.str s.p) G ∧ bin2 idxU (varM j) (litM (.int 2)) sg G = .ok (.str s.k) G ∧ bin2 idxU (varM j) (litM (.int 3)) sg G = .ok (.str s.t) G ∧
    bin2 idxU (varM j) (litM (.int 4)) sg G = .ok (.tup (s.zs.map .str)) G ∧ bin2 idxU (varM j) (litM (.int 5)) sg G = .ok (.int s.n) G :=
  ⟨idx_tup0 (k := 0) (var_ok hs) rfl, idx_tup0 (k := 1) (var_ok hs) rfl, idx_tup0 (k := 2) (var_ok hs) rfl, idx_tup0 (k := 3) (var_ok hs) rfl, idx_tup0 (k := 4) (var_ok hs) rfl, idx_tup0 (k := 5) (var_ok hs) rfl⟩
def isNo (n : Int) : U → Bool
  | .tup [.int m, _, _, _] => m == n
  | _ => false
def bareU : U → U
  | .tup [_, d, p, _] => .tup [d, p]
  | u => u
theorem bare_ok {n : Int} : ∀ {ev l : List U}, bareP n ev = some l → l = (ev.filter (isNo n)).map bareU ∧ ∀ u ∈ ev, ∃ m d p o, u = .tup [.int m, d, p, o]
  | [], l, h => by cases h; exact ⟨rfl, fun u hu => by cases hu⟩
  | u :: r, l, h => by
    unfold bareP at h
    split at h
    · rename_i a b e1 e2
      cases h
      obtain ⟨h1, h2⟩ := bare_ok e2
      unfold bareE at e1
      split at e1
      · rename_i m d p o
        cases e1
        refine ⟨?_, fun u hu => ?_⟩
        · rw [List.filter_cons]
          simp only [isNo, h1]
          by_cases z : m = n
          · simp [z, bareU]
          · have : (m == n) = false := by simpa using z
            simp [z, this]
        · rcases List.mem_cons.mp hu with e | hu
          · exact ⟨m, d, p, o, e⟩
          · exact h2 u hu
      · cases e1
    · cases h
theorem le__law_bare : Le r__law_bare (runB d__law_bare 40 s__law_bare) := fun us G => by
  unfold r__law_bare
  split
  · rename_i a ev c n
    split
    · rename_i l e
      split
      · rename_i hz
        obtain ⟨rfl, hm⟩ := bare_ok e
        refine .inr ?_
        rw [run__law_bare]
        have hs : startS d__law_bare.N [.ins 3 [(15, a), (16, .tup ev), (17, c)], .int n] = [some (.ins 3 [(15, a), (16, .tup ev), (17, c)]), some (.int n), none] := rfl
        rw [hs]
        unfold m__law_bare
        have ha : attrM (fun c => (([(3, r_Outcome_events)] : List (Nat × RunD)).lookup c).map attrP) (fun c => ([] : List Nat).contains c) 21 (varM 0) [some (.ins 3 [(15, a), (16, .tup ev), (17, c)]), some (.int n), none] G = .ok (.tup ev) G := by
          simp [attrM, varM, insOf, List.lookup, attrP, arM, noExc, r_Outcome_events]
        have hit : seqI (attrM (fun c => (([(3, r_Outcome_events)] : List (Nat × RunD)).lookup c).map attrP) (fun c => ([] : List Nat).contains c) 21 (varM 0)) [some (.ins 3 [(15, a), (16, .tup ev), (17, c)]), some (.int n), none] G = .ok (.seq (.tup ev), ev.length) G := by
          unfold seqI
          rw [ha]
          rfl
        have hc := comp_seqF (mu := false) (g := nameG 2) (t := tobM (bin2 (eqX false (fun c => d__law_bare.eqt.lookup c)) (bin2 idxU (varM 2) (litM (.int 0))) (varM 1))) (e := tupM (consA (bin2 idxU (varM 2) (litM (.int 1))) (consA (bin2 idxU (varM 2) (litM (.int 2))) nilA))) (own := [2]) (s := [some (.ins 3 [(15, a), (16, .tup ev), (17, c)]), some (.int n), none])
          (p := isNo n) (h := bareU) hit rfl fun z hz' => by
          obtain ⟨m, d, p, o, rfl⟩ := hm z hz'
          refine ⟨[some (.ins 3 [(15, a), (16, .tup ev), (17, c)]), some (.int n), some (.tup [.int m, d, p, o])], rfl, ?_, fun _ => ?_⟩
          · refine tob_bl ?_
            exact (bin2_p (x := .int m) (y := .int n) (idx_tup0 (k := 0) (var_ok rfl) rfl) rfl).trans (eqX_int.trans rfl)
          · unfold tupM
            refine (show _ = Rs.bind _ _ from congrArg (fun z => Rs.bind z _) (consA_p (idx_tup0 (k := 1) (var_ok (u := .tup [.int m, d, p, o]) rfl) (u := d) rfl) (consA_p (idx_tup0 (k := 2) (var_ok (u := .tup [.int m, d, p, o]) rfl) (u := p) rfl) rfl))).trans ?_
            simp only [bind_ok]
            exact newT_ok' (by simp [szL])
        rw [newL_f (by rw [List.length_map]; exact Nat.le_trans (List.length_filter_le _ _) hz)] at hc
        rw [stE_rt hc]
        rfl
      · exact .inl rfl
    · exact .inl rfl
  · exact .inl rfl
end FL

namespace FL
open PySem L2 PyProof.Rows
theorem le__law_make : LeC r__law_make (runB d__law_make 40 s__law_make) := fun us G => by
  unfold r__law_make
  split
  · rename_i u
    split
    · rename_i s e
      obtain ⟨rfl, ho⟩ := drOfU_ok e
      refine .inr (.inr ?_)
      rw [run__law_make]
      have hs : startS d__law_make.N [drU s] = [some (drU s)] := rfl
      rw [hs]
      unfold m__law_make
      have A := idxS (s := s) (sg := [some (drU s)]) (j := 0) (G := G) rfl
      have hm : makeKM 0 2 4 r_Stepper_init (consA (bin2 idxU (varM 0) (litM (.int 0))) (consA (bin2 idxU (varM 0) (litM (.int 1))) nilA)) (consA (bin2 idxU (varM 0) (litM (.int 2))) (consA (bin2 idxU (varM 0) (litM (.int 3))) (consA (bin2 idxU (varM 0) (litM (.int 4))) (consA (bin2 idxU (varM 0) (litM (.int 5))) nilA)))) [some (drU s)] G = .ok (.ref G.length) (G ++ [.ins 0 (stF s.w s.p s.k s.t s.zs s.n)]) := by
        unfold makeKM
        refine (show _ = Rs.bind _ _ from congrArg (fun z => Rs.bind z _) (consA_p A.1 (consA_p A.2.1 rfl))).trans ?_
        simp only [bind_ok]
        refine (show _ = Rs.bind _ _ from congrArg (fun z => Rs.bind z _) (consA_p A.2.2.1 (consA_p A.2.2.2.1 (consA_p A.2.2.2.2.1 (consA_p A.2.2.2.2.2 rfl))))).trans ?_
        simp only [bind_ok]
        refine (if_pos ⟨rfl, rfl⟩).trans ?_
        unfold madeU arM
        refine (show _ = Rs.bind (.ok U.non (G ++ [.ins 0 (stF s.w s.p s.k s.t s.zs s.n)])) _ from congrArg (fun z => Rs.bind z _) ((if_pos rfl).trans ?_)).trans ?_
        · simp only [List.cons_append, List.nil_append, r_Stepper_init, get_new, strsOf_map]
          refine (if_pos ho).trans ?_
          rw [set_new]
        · rfl
      refine cut_rt (g := [.ins 0 (stF s.w s.p s.k s.t s.zs s.n)]) (stE_rt hm) ?_
      show refF G.length _ 6 G.length = _
      unfold refF
      rw [if_neg (Nat.lt_irrefl _), get_new]
      simp only [map_st, Option.map_some]
      rfl
    · exact .inl rfl
  · exact .inl rfl
end FL

namespace FL
open PySem L2 PyProof.Rows
/-! ### texts -/
def pcs (w : W1) : List W1 := [[97], [98], [99], w, w, w.take 1, w.drop 1]
theorem textP_snoc {w : W1} : ∀ (k : Nat) (l : Int × Int × List Int) (t : W1), textP w (k + 1) l t = ((textP w k l t).1 ++ (pickP [] (textP w k l t).2 (pcs w)).1, (pickP [] (textP w k l t).2 (pcs w)).2)
  | 0, l, t => rfl
  | k + 1, l, t => by
    rw [textP]
    rw [textP_snoc k]
    rfl
theorem pcs_isT {w : W1} (h : isT w = true) : ∀ x ∈ pcs w, isT x = true := by
  intro x hx
  simp only [pcs, List.mem_cons, List.not_mem_nil, or_false] at hx
  rcases hx with e | e | e | e | e | e | e <;> subst e
  · decide
  · decide
  · decide
  · exact h
  · exact h
  · exact isT_take h
  · exact isT_drop h
theorem textP_ok {w : W1} (h : isT w = true) (hw : w.length ≤ 3) : ∀ (k : Nat) (l : Int × Int × List Int), isT (textP w k l []).1 = true ∧ (textP w k l []).1.length ≤ 3 * k ∧ (textP w k l []).2.2.2.length ≤ l.2.2.length
  | 0, l => ⟨rfl, Nat.zero_le _, Nat.le_refl _⟩
  | k + 1, l => by
    obtain ⟨a, b, c⟩ := textP_ok h hw k l
    obtain ⟨q1, q2⟩ := pick_mem [] (textP w k l []).2 (pcs w) (by simp [pcs])
    have q3 : (pickP [] (textP w k l []).2 (pcs w)).1.length ≤ 3 := by
      generalize (pickP [] (textP w k l []).2 (pcs w)).1 = x at q1
      simp only [pcs, List.mem_cons, List.not_mem_nil, or_false] at q1
      rcases q1 with e | e | e | e | e | e | e <;> subst e <;> first | omega | (simp; done) | (simp; omega)
    rw [textP_snoc]
    refine ⟨?_, ?_, ?_⟩
    · simp only [isT_app, a, pcs_isT h _ q1, Bool.and_self]
    · simp only [List.length_append]; omega
    · simp only; omega
end FL

namespace FL
open PySem L2 PyProof.Rows
theorem forM_ok {it : MI} {g : MG} {body : MS} {s : Sg} {G G1 : List Ob} {b : Itb} {n : Nat} {r : Rt} (hi : it s G = .ok (b, n) G1) (h : forL b g body n 0 s G1 = r) : forM it g body s G = r := by
  unfold forM
  rw [hi]
  exact h
theorem le__law_text : Le r__law_text (runB d__law_text 40 s__law_text) := fun us G => by
  unfold r__law_text
  split
  · rename_i i u
    split
    · rename_i l s e es
      obtain ⟨rfl, ho⟩ := drOfU_ok es
      obtain ⟨h1, h2, h3, h4, h5, h6, h7, h8, h9, h10⟩ := okd_parts ho
      have hr : l.2.2.length ≤ 63 := by
        obtain ⟨a, b, r⟩ := l
        exact (drOf_ok e).2
      refine .inr ?_
      rw [run__law_text]
      have hs : startS d__law_text.N [.ref i, drU s, .int 12] = [some (.ref i), some (drU s), some (.int 12), none, none] := rfl
      rw [hs]
      unfold m__law_text
      rw [seqM_set (u := .str []) (G1 := G) (by simp [litM])]
      obtain ⟨v, l', hb, hc, hl', hv0, hv⟩ := below_call (s := [some (.ref i), some (drU s), some (.int 12), some (.str []), none]) (j := 0) (m := bin2 (addU false) (varM 2) (litM (.int 1))) (n := 13) e rfl (add_int (x := 12) (y := 1) rfl rfl rfl) (by omega)
      have e1 := drOf_set (l' := l') e (by omega)
      have hn : preI rng1U (consA (callM 2 r__law_below (consA (varM 0) (consA (bin2 (addU false) (varM 2) (litM (.int 1))) nilA))) nilA) [some (.ref i), some (drU s), some (.int 12), some (.str []), none] G = .ok (.items (rangeL 0 1 v.toNat), v.toNat) (G.set i (drC (dl l'))) := by
        rw [pre_oneI hc]
        simp only [rng1U]
        rw [if_pos (by omega)]
      have ht : textD s.w l = ((textP s.w v.toNat l' []).1.take 12, (textP s.w v.toNat l' []).2) := by
        unfold textD
        simp only [hb, dl, List.headD_cons, List.tail_cons]
      obtain ⟨s', G', q1, x, q2, q3⟩ := forL_inv (b := .items (rangeL 0 1 v.toNat)) (g := nameG 4) (body := stE (bin2 (addU false) (varM 3) (callM 2 r__law_pick (consA (varM 0) (consA (lstM false (consA (litM (.str (Str.ofString "a").cps.toList)) (consA (litM (.str (Str.ofString "b").cps.toList)) (consA (litM (.str (Str.ofString "c").cps.toList)) (consA (bin2 idxU (varM 1) (litM (.int 0))) (consA (bin2 idxU (varM 1) (litM (.int 0))) (consA (slM false (bin2 idxU (varM 1) (litM (.int 0))) noneO (someO (litM (.int 1)))) (consA (slM false (bin2 idxU (varM 1) (litM (.int 0))) (someO (litM (.int 1))) noneO) nilA)))))))) nilA)))) (setM 3))
        (fun k s' G' => ∃ x, s' = [some (.ref i), some (drU s), some (.int 12), some (.str (textP s.w k l' []).1), x] ∧ G' = G.set i (drC (dl (textP s.w k l' []).2))) (n := v.toNat) (l := rangeL 0 1 v.toNat) (by simp [rangeL]) (fun G i => rfl)
        (fun k z s1 G1 hz ⟨x, e1', e2'⟩ => by
          subst e1'
          subst e2'
          have hk : k < v.toNat := by
            have := (List.getElem?_eq_some_iff.mp hz).1
            simpa [rangeL] using this
          obtain ⟨a, b, c⟩ := textP_ok h1 h3 k l'
          have ek := drOf_set (l' := (textP s.w k l' []).2) e (by omega)
          generalize hGk : G.set i (drC (dl (textP s.w k l' []).2)) = Gk at ek ⊢
          have A := idxS (s := s) (sg := [some (.ref i), some (drU s), some (.int 12), some (.str (textP s.w k l' []).1), some z]) (j := 1) (G := Gk) rfl
          have hl : lstM false (consA (litM (.str (Str.ofString "a").cps.toList)) (consA (litM (.str (Str.ofString "b").cps.toList)) (consA (litM (.str (Str.ofString "c").cps.toList)) (consA (bin2 idxU (varM 1) (litM (.int 0))) (consA (bin2 idxU (varM 1) (litM (.int 0))) (consA (slM false (bin2 idxU (varM 1) (litM (.int 0))) noneO (someO (litM (.int 1)))) (consA (slM false (bin2 idxU (varM 1) (litM (.int 0))) (someO (litM (.int 1))) noneO) nilA))))))) [some (.ref i), some (drU s), some (.int 12), some (.str (textP s.w k l' []).1), some z] Gk = .ok (.lst ((pcs s.w).map .str)) Gk := by
            have c1 : slM false (bin2 idxU (varM 1) (litM (.int 0))) noneO (someO (litM (.int 1))) [some (.ref i), some (drU s), some (.int 12), some (.str (textP s.w k l' []).1), some z] Gk = .ok (.str (s.w.take 1)) Gk := by
              unfold slM
              rw [A.1]
              simp only [bind_ok, noneO, someO, litM, slU]
              rw [if_pos (by unfold szL; omega)]
              exact congrArg (fun z => Rs.ok (U.str z) Gk) (cut_to (a := 1))
            have c2 : slM false (bin2 idxU (varM 1) (litM (.int 0))) (someO (litM (.int 1))) noneO [some (.ref i), some (drU s), some (.int 12), some (.str (textP s.w k l' []).1), some z] Gk = .ok (.str (s.w.drop 1)) Gk := by
              unfold slM
              rw [A.1]
              simp only [bind_ok, noneO, someO, litM, slU]
              rw [if_pos (by unfold szL; omega)]
              exact congrArg (fun z => Rs.ok (U.str z) Gk) (cut_from (a := 1))
            unfold lstM
            rw [consA_p (x := .str [97]) (by simp [litM]) (consA_p (x := .str [98]) (by simp [litM]) (consA_p (x := .str [99]) (by simp [litM]) (consA_p A.1 (consA_p A.1 (consA_p c1 (consA_p c2 rfl))))))]
            simp only [bind_ok]
            exact newL_f (by simp [szL])
          have hp := call_pick U.str (pcs s.w) [] (s := [some (.ref i), some (drU s), some (.int 12), some (.str (textP s.w k l' []).1), some z]) (j := 0) (G := Gk) (l := (textP s.w k l' []).2) (by simp [pcs]) (by simp [pcs]) ek rfl hl
          have q2 := pick_mem [] (textP s.w k l' []).2 (pcs s.w) (by simp [pcs])
          refine ⟨_, [some (.ref i), some (drU s), some (.int 12), some (.str (textP s.w (k + 1) l' []).1), some z], Gk.set i (drC (dl (textP s.w (k + 1) l' []).2)), rfl, .inl ?_, some z, rfl, by rw [← hGk, List.set_set]⟩
          refine stE_set (i := 3) (s := [some (.ref i), some (drU s), some (.int 12), some (.str (textP s.w k l' []).1), some z]) (u := .str (textP s.w (k + 1) l' []).1) ?_
          rw [bin2_ok (G1 := Gk) (x := .str (textP s.w k l' []).1) (var_ok rfl) hp, textP_snoc]
          simp only [addU]
          have hb3 : (textP s.w (k + 1) l' []).1.length ≤ 3 * (k + 1) := (textP_ok h1 h3 (k + 1) l').2.1
          rw [textP_snoc] at hb3
          simp only [List.length_append] at hb3
          exact if_pos (by unfold szL; omega)) v.toNat 0 [some (.ref i), some (drU s), some (.int 12), some (.str []), none] (G.set i (drC (dl l'))) (Nat.zero_add _) ⟨none, rfl, rfl⟩
      subst q2
      subst q3
      show _ = runR (seqM _ _ [some (.ref i), some (drU s), some (.int 12), some (.str []), none] G)
      rw [seqM_nx (forM_ok hn q1)]
      obtain ⟨a, b, c⟩ := textP_ok h1 h3 v.toNat l'
      rw [stE_rt (u := .str ((textP s.w v.toNat l' []).1.take 12)) (G1 := G.set i (drC (dl (textP s.w v.toNat l' []).2))) (by
        unfold slM
        rw [var_ok (u := .str (textP s.w v.toNat l' []).1) rfl]
        simp only [bind_ok, noneO]
        rw [someO_ok (z := 12) rfl]
        simp only [bind_ok, slU]
        rw [if_pos (by unfold szL; omega)]
        exact congrArg (fun z => Rs.ok (U.str z) _) (cut_to (a := 12)))]
      rw [ht]
      rfl
    · exact .inl rfl
  · exact .inl rfl
end FL

namespace FL
open PySem L2 PyProof.Rows
theorem le__law_ran : Le r__law_ran (runB d__law_ran 40 s__law_ran) := fun us G => by
  unfold r__law_ran
  split
  · rename_i u text
    split
    · rename_i s e
      obtain ⟨rfl, ho⟩ := drOfU_ok e
      have hc : callM 2 r_run (consA (callM 1 r__law_make (consA (varM 0) nilA)) (consA (varM 1) nilA)) [some (drU s), some (.str text), some .non] G = r_run [stU s, .str text] G := by
        refine call2 (G1 := G) (G2 := G) ?_ rfl
        rw [call1 (G1 := G) (u := drU s) rfl]
        unfold r__law_make
        simp only [e]
      have hr : ∀ x, r_run [stU s, .str text] G = x → x = .bad ∨ (∃ u, x = .ok u G) ∨ ∃ n, x = .exc (exN n) G := by
        intro x hx
        subst hx
        unfold r_run
        simp only [drOfI_U ho]
        split
        · unfold runR'
          split
          · exact .inl rfl
          · exact .inr (.inr ⟨_, rfl⟩)
          · split
            · exact .inr (.inl ⟨_, rfl⟩)
            · exact .inl rfl
        · exact .inl rfl
      rcases hr _ rfl with h | ⟨u, h⟩ | ⟨n, h⟩
      · rw [h]; exact .inl rfl
      · refine .inr ?_
        rw [run__law_ran]
        have hs : startS d__law_ran.N [drU s, .str text] = [some (drU s), some (.str text), none] := rfl
        rw [hs]
        unfold m__law_ran
        rw [seqM_set (u := .non) (G1 := G) rfl]
        show _ = runR (seqM _ _ [some (drU s), some (.str text), some .non] G)
        rw [seqM_nx (s1 := [some (drU s), some (.str text), some u]) (G1 := G) (by
          unfold tryM stE
          rw [show callM 2 r_run (consA (callM 1 r__law_make (consA (varM 0) nilA)) (consA (varM 1) nilA)) _ G = _ from hc, h]
          rfl)]
        rw [h]
        rfl
      · refine .inr ?_
        rw [run__law_ran]
        have hs : startS d__law_ran.N [drU s, .str text] = [some (drU s), some (.str text), none] := rfl
        rw [hs]
        unfold m__law_ran
        rw [seqM_set (u := .non) (G1 := G) rfl]
        show _ = runR (seqM _ _ [some (drU s), some (.str text), some .non] G)
        rw [seqM_nx (s1 := [some (drU s), some (.str text), some .non]) (G1 := G) (by
          unfold tryM stE
          rw [show callM 2 r_run (consA (callM 1 r__law_make (consA (varM 0) nilA)) (consA (varM 1) nilA)) _ G = _ from hc, h]
          rfl)]
        rw [h]
        rfl
    · exact .inl rfl
  · exact .inl rfl
end FL

namespace FL
/-- the loop behind a hit comes to its end; and, where asked, is not endless -/
def endsC (c : Bool) (w p k t : W1) (zs : List W1) : Bool := (List.range zs.length).all fun a => match loopP ⟨w, p, k, t, zs, 1⟩ 100 ⟨w.map (·, none), a, false, [], 0, [], false⟩ [] with
  | none => false
  | some x => !(c && x.endl)
def stops7 : List (List W1) := [[wRep, wStop], [wKeep, wStop], [wRep, wKeep, wStop], [wKeep, wRep, wStop], [wKeep, wKeep, wStop], [wRep, wRep, wStop]]
def goes6 : List (List W1) := [[wRep], [wRep, wKeep], [wKeep, wRep], [wKeep, wKeep, wRep], [wKeep]]
def words6' : List W1 := [[97], [97, 98], [97, 97], [97, 98, 97], [97, 97, 98], [97, 98, 99]]
def puts10' : List W1 := [[], [97], [98], [97, 98], [98, 97], [97, 97], [97, 98, 97], [98, 97, 98], [97, 97, 98], [99]]
def endsX (w : W1) : Bool := puts10'.all fun p => keepsL.all fun k => turnsL.all fun t => (goes6.all fun zs => endsC false w p k t zs) && (stops7.all fun zs => endsC true w p k t zs)
theorem ends_1 : endsX [97] = true := by decide +kernel
theorem ends_2 : endsX [97, 98] = true := by decide +kernel
theorem ends_3 : endsX [97, 97] = true := by decide +kernel
theorem ends_4 : endsX [97, 98, 97] = true := by decide +kernel
theorem ends_5 : endsX [97, 97, 98] = true := by decide +kernel
theorem ends_6 : endsX [97, 98, 99] = true := by decide +kernel
theorem ends_all : ∀ w ∈ words6', endsX w = true := by
  intro w hw
  simp only [words6', List.mem_cons, List.not_mem_nil, or_false] at hw
  rcases hw with e | e | e | e | e | e <;> subst e
  · exact ends_1
  · exact ends_2
  · exact ends_3
  · exact ends_4
  · exact ends_5
  · exact ends_6
/-- never endless -/
def Calm (s : Dr) : Prop := ∀ a, a < s.zs.length → ∃ x, loopP s 100 ⟨s.w.map (·, none), a, false, [], 0, [], false⟩ [] = some x ∧ x.endl = false
/-! ### what is done does not hang on the number of passes -/
theorem loop_n {s : Dr} {n : Int} : ∀ (f : Nat) (x : Sc) (sn : Seen), loopP { s with n := n } f x sn = loopP s f x sn
  | 0, _, _ => rfl
  | f + 1, x, sn => by
    unfold loopP
    show (match placeO s.w x.pend with | none => some x | some pl => if (x.stop || x.endl) = true then some x else loopP { s with n := n } f (meetP s pl x sn).1 (meetP s pl x sn).2) = _
    cases placeO s.w x.pend with
    | none => rfl
    | some pl =>
      simp only
      rw [loop_n f]
theorem feed_n {s : Dr} {n : Int} {f : Nat} {i : It1} {x : Sc} : feedP { s with n := n } f i x = feedP s f i x := by
  unfold feedP
  rw [loop_n]
  rfl
theorem go_n {s : Dr} {n : Int} {f : Nat} : ∀ (l : List It1) (x : Sc) (fd : List It1), goP { s with n := n } f l x fd = goP s f l x fd
  | [], _, _ => rfl
  | i :: r, x, fd => by
    unfold goP
    rw [feed_n]
    cases feedP s f i x with
    | none => rfl
    | some y =>
      simp only
      rw [go_n r]
theorem ends_of {c : Bool} {s : Dr} (h : endsC c s.w s.p s.k s.t s.zs = true) : Ends s ∧ (c = true → Calm s) := by
  have e : ∀ f x sn, loopP ⟨s.w, s.p, s.k, s.t, s.zs, 1⟩ f x sn = loopP s f x sn := fun f x sn => loop_n (s := s) (n := 1) f x sn
  unfold endsC at h
  rw [List.all_eq_true] at h
  have key : ∀ a, a < s.zs.length → ∃ x, loopP s 100 ⟨s.w.map (·, none), a, false, [], 0, [], false⟩ [] = some x ∧ (c && x.endl) = false := fun a ha => by
    have := h a (List.mem_range.mpr ha)
    rw [e] at this
    split at this
    · cases this
    · rename_i x hx
      exact ⟨x, hx, by revert this; cases c <;> cases x.endl <;> simp⟩
  refine ⟨fun a ha => ?_, fun hc a ha => ?_⟩
  · obtain ⟨x, hx, _⟩ := key a ha
    rw [hx]
    simp
  · obtain ⟨x, hx, hy⟩ := key a ha
    refine ⟨x, hx, ?_⟩
    rw [hc] at hy
    exact hy
theorem ends_go {s : Dr} (hw : s.w ∈ words6') (hp : s.p ∈ puts10') (hk : s.k ∈ keepsL) (ht : s.t ∈ turnsL) (hz : s.zs ∈ goes6) : Ends s := by
  have := List.all_eq_true.mp (List.all_eq_true.mp (List.all_eq_true.mp (ends_all _ hw) _ hp) _ hk) _ ht
  rw [Bool.and_eq_true, List.all_eq_true] at this
  exact (ends_of (this.1 _ hz)).1
theorem ends_stop {s : Dr} (hw : s.w ∈ words6') (hp : s.p ∈ puts10') (hk : s.k ∈ keepsL) (ht : s.t ∈ turnsL) (hz : s.zs ∈ stops7) : Ends s ∧ Calm s := by
  have := List.all_eq_true.mp (List.all_eq_true.mp (List.all_eq_true.mp (ends_all _ hw) _ hp) _ hk) _ ht
  rw [Bool.and_eq_true, List.all_eq_true, List.all_eq_true] at this
  have := ends_of (this.2 _ hz)
  exact ⟨this.1, this.2 rfl⟩
/-- a stepper that is never endless -/
theorem feed_calm {s : Dr} (hC : Calm s) (hw : 0 < s.w.length) (hz : 0 < s.zs.length) {x : Sc} (h : ScI s x) (i : It1) : ∃ y, feedP s 100 i x = some y ∧ y.endl = false := by
  unfold feedP
  by_cases hs : x.stop = true
  · rw [if_pos hs]
    exact ⟨_, rfl, h.endl⟩
  · rw [if_neg hs]
    obtain ⟨L, hL, hp⟩ := h.pend
    have hlen : (x.pend ++ [i]).length ≤ s.w.length := by
      have := congrArg List.length hp
      rw [sgn_len, List.length_take] at this
      simp; omega
    have key : ∃ z, loopP s 100 { x with wr := [], pend := x.pend ++ [i] } [] = some z ∧ z.endl = false := by
      by_cases e : sgn (x.pend ++ [i]) = s.w
      · have cs : CS { x with wr := [], pend := x.pend ++ [i] } ⟨s.w.map (·, none), x.cur, false, [], 0, [], false⟩ := ⟨by rw [show sgn (x.pend ++ [i]) = s.w from e]; simp [sgn, Function.comp_def], rfl, by simpa using hs, h.endl⟩
        have := loop_cs (s := s) 100 (sn := []) cs
        obtain ⟨y, hy, he⟩ := hC x.cur h.cur
        cases q : loopP s 100 { x with wr := [], pend := x.pend ++ [i] } [] with
        | none => rw [this.1.mp q] at hy; cases hy
        | some z => exact ⟨z, rfl, (this.2 z y q hy).endl.trans he⟩
      · refine ⟨{ x with wr := [], pend := x.pend ++ [i] }, ?_, h.endl⟩
        show loopP s (99 + 1) _ _ = _
        unfold loopP
        rw [place_short hlen hw e]
    obtain ⟨z, hz', he⟩ := key
    rw [hz']
    refine ⟨_, rfl, ?_⟩
    unfold afterP
    split
    · exact he
    · exact he
theorem go_calm {s : Dr} (hC : Calm s) (hw : 0 < s.w.length) (hz : 0 < s.zs.length) : ∀ (l : List It1) {x : Sc} (fd : List It1), ScI s x → ∃ gd y, goP s 100 l x fd = some (some (gd, y))
  | [], _, _, _ => ⟨_, _, rfl⟩
  | i :: r, x, fd, h => by
    obtain ⟨y, e, he⟩ := feed_calm hC hw hz h i
    have hE : Ends s := fun a ha => by
      obtain ⟨x, hx, _⟩ := hC a ha
      rw [hx]; simp
    obtain ⟨y', e', hy⟩ := feed_some hE hw hz h i
    rw [e] at e'
    cases e'
    unfold goP
    rw [e]
    simp only [he, Bool.false_eq_true, if_false]
    exact go_calm hC hw hz r _ (hy he)
end FL

namespace FL
/-! ### a stepper beside itself with a stop behind its deeds -/
def tl (m : List (W1 × Nat × List It1)) : List (W1 × Nat) := m.map fun m => (m.1, m.2.1)
theorem meet_met {s : Dr} {pl : Nat} {x : Sc} {sn : Seen} : (meetP s pl x sn).1.met = (noteP s pl x).met := by
  unfold meetP
  simp only
  split
  · rfl
  · split <;> rfl
theorem loop_pre {s : Dr} : ∀ (f : Nat) {x y : Sc} {sn : Seen}, loopP s f x sn = some y → x.met <+: y.met
  | 0, _, _, _, e => nomatch e
  | f + 1, x, y, sn, e => by
    unfold loopP at e
    cases e2 : placeO s.w x.pend with
    | none => rw [e2] at e; cases e; exact List.prefix_refl _
    | some pl =>
      rw [e2] at e
      by_cases z : (x.stop || x.endl) = true
      · simp only [z, if_true] at e; cases e; exact List.prefix_refl _
      · simp only [if_neg z] at e
        refine List.IsPrefix.trans ?_ (loop_pre f e)
        rw [meet_met]
        exact List.prefix_append _ _
theorem after_met {s : Dr} {x : Sc} : (afterP s x).met = x.met := by
  unfold afterP
  split <;> rfl
theorem feed_pre {s : Dr} {f : Nat} {x y : Sc} {i : It1} (e : feedP s f i x = some y) : x.met <+: y.met := by
  unfold feedP at e
  by_cases hs : x.stop = true
  · rw [if_pos hs] at e
    cases e
    exact List.prefix_refl _
  · rw [if_neg hs] at e
    obtain ⟨z, ez, rfl⟩ := Option.map_eq_some_iff.mp e
    rw [after_met]
    exact loop_pre f (x := { x with wr := [], pend := x.pend ++ [i] }) ez
theorem go_pre {s : Dr} {f : Nat} : ∀ (l : List It1) {x y : Sc} {fd gd : List It1}, goP s f l x fd = some (some (gd, y)) → x.met <+: y.met
  | [], x, y, fd, gd, e => by
    simp only [goP, Option.some.injEq, Prod.mk.injEq] at e
    obtain ⟨_, rfl⟩ := e
    exact List.prefix_refl _
  | i :: r, x, y, fd, gd, e => by
    unfold goP at e
    cases ef : feedP s f i x with
    | none => rw [ef] at e; cases e
    | some z =>
      rw [ef] at e
      simp only at e
      by_cases hz : z.endl = true
      · rw [if_pos hz] at e; cases e
      · rw [if_neg hz] at e
        exact (feed_pre ef).trans (go_pre r e)
/-- the same so far; or both have noted n hits, the same ones -/
def DnR (n : Nat) (x y : Sc) : Prop := n ≤ x.met.length ∧ n ≤ y.met.length ∧ (tl x.met).take n = (tl y.met).take n
def PR (n : Nat) (x y : Sc) : Prop := (FS x y ∧ x.met.length = x.cur ∧ x.cur < n ∧ x.stop = false) ∨ DnR n x y
theorem tl_len {m : List (W1 × Nat × List It1)} : (tl m).length = m.length := by simp [tl]
theorem pre_take {m m' : List (W1 × Nat × List It1)} {n : Nat} (h : m <+: m') (hn : n ≤ m.length) : (tl m').take n = (tl m).take n := by
  obtain ⟨r, rfl⟩ := h
  unfold tl
  rw [List.map_append, List.take_append_of_le_length (by simpa using hn)]
theorem dn_pre {n : Nat} {x y x' y' : Sc} (h : DnR n x y) (hx : x.met <+: x'.met) (hy : y.met <+: y'.met) : DnR n x' y' :=
  ⟨Nat.le_trans h.1 hx.length_le, Nat.le_trans h.2.1 hy.length_le, by rw [pre_take hx h.1, pre_take hy h.2.1]; exact h.2.2⟩
section
variable {s s2 : Dr}
theorem note_next (h2 : s2 = { s with zs := s.zs ++ [wStop] }) {pl : Nat} {y : Sc} (hc : y.cur + 1 < s.zs.length) : noteP s2 pl y = noteP s pl y := by
  subst h2
  unfold noteP
  have e1 : (s.zs ++ [wStop]).getD y.cur [] = s.zs.getD y.cur [] := by
    simp only [List.getD, List.getElem?_append_left (show y.cur < s.zs.length by omega)]
  simp only [e1, List.length_append, List.length_singleton, Nat.mod_eq_of_lt hc, Nat.mod_eq_of_lt (show y.cur + 1 < s.zs.length + 1 by omega)]
theorem meet_next (h2 : s2 = { s with zs := s.zs ++ [wStop] }) {pl : Nat} {y : Sc} {sn : Seen} (hc : y.cur + 1 < s.zs.length) : meetP s2 pl y sn = meetP s pl y sn := by
  have e1 : s2.zs.getD y.cur [] = s.zs.getD y.cur [] := by
    subst h2
    simp only [List.getD, List.getElem?_append_left (show y.cur < s.zs.length by omega)]
  have e2 := note_next h2 (pl := pl) hc
  have e3 : s2.w = s.w := by subst h2; rfl
  have e4 : ∀ x, keepP s2 pl x = keepP s pl x := fun x => by subst h2; rfl
  have e5 : ∀ x, replP s2 pl x = replP s pl x := fun x => by subst h2; rfl
  unfold meetP
  simp only [e1, e2, e3, e4, e5]
/-- a stepper that meets keeps cur + 1 as the hits noted, below its end -/
theorem meet_PR (h2 : s2 = { s with zs := s.zs ++ [wStop] }) (hs : wStop ∉ s.zs) {pl : Nat} {x y : Sc} {sn : Seen} (h : FS x y) (hm : x.met.length = x.cur) (hc : x.cur < s.zs.length) (hst : x.stop = false) :
    PR s.zs.length (meetP s pl x sn).1 (meetP s2 pl y sn).1 ∧ ((meetP s pl x sn).2 = (meetP s2 pl y sn).2 ∨ DnR s.zs.length (meetP s pl x sn).1 (meetP s2 pl y sn).1) := by
  have hcy : x.cur = y.cur := h.cur
  by_cases hl : x.cur + 1 < s.zs.length
  · rw [meet_next h2 (by rw [← hcy]; exact hl)]
    have hd : s.zs.getD x.cur [] ≠ wStop := by
      simp only [List.getD, List.getElem?_eq_getElem hc, Option.getD_some]
      intro e
      exact hs (e ▸ List.getElem_mem hc)
    refine ⟨.inl ⟨meet_fs h, ?_, ?_, ?_⟩, .inl (meet_cs h.toCS).2⟩
    · rw [meet_met]
      unfold meetP
      simp only [if_neg hd]
      split <;> simp [noteP, keepP, replP, leaveP, writeP, hm, Nat.mod_eq_of_lt hl]
    · unfold meetP
      simp only [if_neg hd]
      split <;> (simp [noteP, keepP, replP, leaveP, writeP, hm, Nat.mod_eq_of_lt hl]; try exact hl)
    · unfold meetP
      simp only [if_neg hd]
      split <;> simp [noteP, keepP, replP, leaveP, writeP, hst]
  · have hml : y.met.length = x.met.length := by
      have := congrArg List.length h.met
      simpa using this.symm
    have e1 : s2.zs.getD y.cur [] = s.zs.getD x.cur [] := by
      subst h2
      rw [← hcy]
      simp only [List.getD, List.getElem?_append_left hc]
    have e3 : s2.w = s.w := by subst h2; rfl
    have D : DnR s.zs.length (meetP s pl x sn).1 (meetP s2 pl y sn).1 := by
      refine ⟨?_, ?_, ?_⟩
      · rw [meet_met]; simp only [noteP, List.length_append, List.length_singleton]; omega
      · rw [meet_met]; simp only [noteP, List.length_append, List.length_singleton]; omega
      · rw [meet_met, meet_met]
        refine congrArg (List.take _) ?_
        have hmt : tl x.met = tl y.met := h.met
        show tl (x.met ++ [(s.zs.getD x.cur [], x.many + pl, (x.pend.drop pl).take s.w.length)]) = tl (y.met ++ [(s2.zs.getD y.cur [], y.many + pl, (y.pend.drop pl).take s2.w.length)])
        rw [e1, ← h.many]
        simp only [tl, List.map_append] at hmt ⊢
        rw [hmt]
        rfl
    exact ⟨.inr D, .inr D⟩
theorem loop_PR (h2 : s2 = { s with zs := s.zs ++ [wStop] }) (hs : wStop ∉ s.zs) : ∀ (f : Nat) {x y x' y' : Sc} {sn sn2 : Seen}, PR s.zs.length x y → (sn = sn2 ∨ DnR s.zs.length x y) → loopP s f x sn = some x' → loopP s2 f y sn2 = some y' → PR s.zs.length x' y'
  | 0, _, _, _, _, _, _, _, _, e, _ => nomatch e
  | f + 1, x, y, x', y', sn, sn2, h, hsn, e1, e2 => by
    rcases h with ⟨h, hm, hc, hst⟩ | h
    · rcases hsn with hsn | hsn
      · subst hsn
        have e3 : s2.w = s.w := by subst h2; rfl
        unfold loopP at e1 e2
        rw [place_sgn h.pend, h.stop, h.endl] at e1
        rw [e3] at e2
        cases e : placeO s.w y.pend with
        | none => rw [e] at e1 e2; cases e1; cases e2; exact .inl ⟨h, hm, hc, hst⟩
        | some pl =>
          rw [e] at e1 e2
          by_cases z : (y.stop || y.endl) = true
          · simp only [z, if_true] at e1 e2; cases e1; cases e2; exact .inl ⟨h, hm, hc, hst⟩
          · simp only [if_neg z] at e1 e2
            obtain ⟨q1, q2⟩ := meet_PR h2 hs (pl := pl) (sn := sn) h hm hc hst
            exact loop_PR h2 hs f q1 q2 e1 e2
      · exact .inr (dn_pre hsn (loop_pre _ e1) (loop_pre _ e2))
    · exact .inr (dn_pre h (loop_pre _ e1) (loop_pre _ e2))
theorem feed_PR (h2 : s2 = { s with zs := s.zs ++ [wStop] }) (hs : wStop ∉ s.zs) {f : Nat} {x y x' y' : Sc} {i : It1} (h : PR s.zs.length x y) (e1 : feedP s f i x = some x') (e2 : feedP s2 f i y = some y') : PR s.zs.length x' y' := by
  rcases h with ⟨h, hm, hc, hst⟩ | h
  · have hst2 : y.stop = false := h.stop.symm.trans hst
    unfold feedP at e1 e2
    rw [if_neg (by simp [hst])] at e1
    rw [if_neg (by simp [hst2])] at e2
    obtain ⟨a, ea, rfl⟩ := Option.map_eq_some_iff.mp e1
    obtain ⟨b, eb, rfl⟩ := Option.map_eq_some_iff.mp e2
    have h0 : FS { x with wr := [], pend := x.pend ++ [i] } { y with wr := [], pend := y.pend ++ [i] } := ⟨⟨by simp only [sgn_app, h.pend], h.cur, h.stop, h.endl⟩, rfl, h.many, h.met⟩
    have q := loop_PR h2 hs f (sn := []) (sn2 := []) (.inl ⟨h0, hm, hc, hst⟩) (.inl rfl) ea eb
    rcases q with ⟨q, qm, qc, qs⟩ | q
    · refine .inl ⟨?_, ?_, ?_, ?_⟩
      · have : afterP s2 b = afterP s b := by subst h2; rfl
        rw [this]
        exact after_fs q
      · rw [after_met, qm]
        unfold afterP
        split <;> rfl
      · unfold afterP
        split <;> exact qc
      · unfold afterP
        split <;> exact qs
    · exact .inr (dn_pre q (by rw [after_met]; exact List.prefix_refl _) (by rw [after_met]; exact List.prefix_refl _))
  · exact .inr (dn_pre h (feed_pre e1) (feed_pre e2))
theorem go_PR (h2 : s2 = { s with zs := s.zs ++ [wStop] }) (hs : wStop ∉ s.zs) {f : Nat} : ∀ (l : List It1) {x y x' y' : Sc} {fd gd fd' gd' : List It1}, PR s.zs.length x y → goP s f l x fd = some (some (fd', x')) → goP s2 f l y gd = some (some (gd', y')) → (tl x'.met).take s.zs.length = (tl y'.met).take s.zs.length
  | [], x, y, x', y', fd, gd, fd', gd', h, e1, e2 => by
    simp only [goP, Option.some.injEq, Prod.mk.injEq] at e1 e2
    obtain ⟨_, rfl⟩ := e1
    obtain ⟨_, rfl⟩ := e2
    rcases h with ⟨h, _⟩ | h
    · show (tl x.met).take _ = (tl y.met).take _
      rw [show tl x.met = tl y.met from h.met]
    · exact h.2.2
  | i :: r, x, y, x', y', fd, gd, fd', gd', h, e1, e2 => by
    unfold goP at e1 e2
    cases f1 : feedP s f i x with
    | none => rw [f1] at e1; cases e1
    | some a =>
      cases f2 : feedP s2 f i y with
      | none => rw [f2] at e2; cases e2
      | some b =>
        rw [f1] at e1
        rw [f2] at e2
        simp only at e1 e2
        by_cases z1 : a.endl = true
        · rw [if_pos z1] at e1; cases e1
        · by_cases z2 : b.endl = true
          · rw [if_pos z2] at e2; cases e2
          · rw [if_neg z1] at e1
            rw [if_neg z2] at e2
            exact go_PR h2 hs r (feed_PR h2 hs h f1 f2) e1 e2
end
/-! ### a stop behind the deeds: not more hits than deeds -/
structure Few (s : Dr) (x : Sc) : Prop where
  go : x.stop = false → x.met.length = x.cur ∧ x.cur < s.zs.length
  st : x.met.length ≤ s.zs.length
theorem meet_few {s : Dr} {zs : List W1} (hz : s.zs = zs ++ [wStop]) {pl : Nat} {x : Sc} {sn : Seen} (h : Few s x) (hst : x.stop = false) : Few s (meetP s pl x sn).1 := by
  obtain ⟨hm, hc⟩ := h.go hst
  have hml : (meetP s pl x sn).1.met.length = x.met.length + 1 := by rw [meet_met]; simp [noteP]
  refine ⟨fun hs => ?_, by omega⟩
  unfold meetP at hs
  simp only at hs
  by_cases hd : s.zs.getD x.cur [] = wStop
  · rw [if_pos hd] at hs; cases hs
  · have hl : x.cur + 1 < s.zs.length := by
      have hzl : s.zs.length = zs.length + 1 := by rw [hz]; simp
      rcases Nat.lt_or_ge x.cur zs.length with z | z
      · omega
      · exfalso
        have e : x.cur = zs.length := by omega
        rw [hz, e] at hd
        simp [List.getD] at hd
    have hcur : (meetP s pl x sn).1.cur = x.cur + 1 := by
      unfold meetP
      simp only [if_neg hd]
      split <;> simp [noteP, keepP, replP, leaveP, writeP, Nat.mod_eq_of_lt hl]
    rw [hcur]
    exact ⟨by omega, hl⟩
theorem loop_few {s : Dr} {zs : List W1} (hz : s.zs = zs ++ [wStop]) : ∀ (f : Nat) {x y : Sc} {sn : Seen}, Few s x → loopP s f x sn = some y → Few s y
  | 0, _, _, _, _, e => nomatch e
  | f + 1, x, y, sn, h, e => by
    unfold loopP at e
    cases e2 : placeO s.w x.pend with
    | none => rw [e2] at e; cases e; exact h
    | some pl =>
      rw [e2] at e
      by_cases z : (x.stop || x.endl) = true
      · simp only [z, if_true] at e; cases e; exact h
      · simp only [if_neg z] at e
        have hst : x.stop = false := by
          revert z
          cases x.stop <;> simp
        exact loop_few hz f (meet_few hz h hst) e
theorem after_few {s : Dr} {x : Sc} (h : Few s x) : Few s (afterP s x) := by
  unfold afterP
  split
  · exact ⟨h.go, h.st⟩
  · exact ⟨h.go, h.st⟩
theorem go_few {s : Dr} {zs : List W1} (hz : s.zs = zs ++ [wStop]) {f : Nat} : ∀ (l : List It1) {x y : Sc} {fd gd : List It1}, Few s x → goP s f l x fd = some (some (gd, y)) → y.met.length ≤ s.zs.length
  | [], x, y, fd, gd, h, e => by
    simp only [goP, Option.some.injEq, Prod.mk.injEq] at e
    obtain ⟨_, rfl⟩ := e
    exact h.st
  | i :: r, x, y, fd, gd, h, e => by
    unfold goP at e
    cases ef : feedP s f i x with
    | none => rw [ef] at e; cases e
    | some z =>
      rw [ef] at e
      simp only at e
      by_cases hz' : z.endl = true
      · rw [if_pos hz'] at e; cases e
      · rw [if_neg hz'] at e
        refine go_few hz r ?_ e
        unfold feedP at ef
        by_cases hs : x.stop = true
        · rw [if_pos hs] at ef
          cases ef
          exact ⟨h.go, h.st⟩
        · rw [if_neg hs] at ef
          obtain ⟨q, eq, rfl⟩ := Option.map_eq_some_iff.mp ef
          exact after_few (loop_few hz f (x := { x with wr := [], pend := x.pend ++ [i] }) ⟨h.go, h.st⟩ eq)
theorem few0 {s : Dr} (h : 0 < s.zs.length) : Few s sc0 := ⟨fun _ => ⟨rfl, h⟩, Nat.zero_le _⟩
end FL

namespace FL
open PySem L2 PyProof.Rows
theorem deedI0 {s : Dr} : DeedI s sc0 := fun e he => by cases he
section
variable {s : Dr} {text : W1} {G : List Ob}
theorem okd_n (ho : okd s = true) {n : Int} (h : 1 ≤ n ∧ n ≤ 2) : okd { s with n := n } = true := by
  obtain ⟨h1, h2, h3, h4, h5, h6, h7, h8, h9, h10⟩ := okd_parts ho
  unfold okd okS
  simp only [Bool.and_eq_true, decide_eq_true_eq]
  exact ⟨⟨⟨⟨⟨⟨⟨⟨⟨h1, h2⟩, h3⟩, h4⟩, h5⟩, h6⟩, h7⟩, h8⟩, h.1⟩, h.2⟩
theorem ran_base (ho : okd s = true) (hT : isT text = true) (hl : text.length ≤ 5000) (hn : s.n = 1 ∨ text.length ≤ 16) : r__law_ran [drU s, .str text] G = ranR G (runR' G s text (passesP s s.n.toNat 0 (startP text) [])) := by
  unfold r__law_ran
  simp only [drOfU_drU (d := s) ho]
  unfold r_run
  simp only [drOfI_U ho]
  rw [if_pos ⟨hT, hl, hn⟩]
theorem go_len0 : (startP text).length = text.length := startP_len
/-- one pass -/
theorem ran_one (ho : okd s = true) (hT : isT text = true) (hl : text.length ≤ 5000) {r : Option (List It1 × Sc)} (hg : goP s 100 (startP text) sc0 [] = some r) : match r with
    | none => r__law_ran [drU { s with n := 1 }, .str text] G = .ok .non G
    | some (fd, x) => ∃ ft, r__law_ran [drU { s with n := 1 }, .str text] G = .ok (outU (sgn fd) (x.met.map (evU 0)) ft) G := by
  have ho1 := okd_n ho (n := 1) (by omega)
  rw [ran_base ho1 hT hl (.inl rfl)]
  rw [show ({ s with n := 1 } : Dr).n.toNat = 1 from rfl]
  cases r with
  | none =>
    have e : passesP { s with n := 1 } 1 0 (startP text) [] = some (.error 0) := by
      unfold passesP
      rw [go_n, hg]
    rw [e]
    rfl
  | some w =>
    obtain ⟨fd, x⟩ := w
    have e : passesP { s with n := 1 } 1 0 (startP text) [] = some (.ok (fd, x.met.map (evU 0))) := by
      unfold passesP
      rw [go_n, hg]
      simp only [passesP, List.nil_append]
    rw [e]
    have hD : DeedI s x := goP_deedI ho _ deedI0 hg
    simp only [runR', ofEvs_map hD]
    exact ⟨_, rfl⟩
/-- two -/
theorem ran_two (ho : okd s = true) (hT : isT text = true) (hl : text.length ≤ 16) {r : Option (List It1 × Sc)} (hg : goP s 100 (startP text) sc0 [] = some r) : match r with
    | none => r__law_ran [drU { s with n := 2 }, .str text] G = .ok .non G
    | some (fd, x) => ∀ r2, goP s 100 fd sc0 [] = some r2 → match r2 with
      | none => r__law_ran [drU { s with n := 2 }, .str text] G = .ok .non G
      | some (gd, y) => ∃ ft, r__law_ran [drU { s with n := 2 }, .str text] G = .ok (outU (sgn gd) (x.met.map (evU 0) ++ y.met.map (evU 1)) ft) G := by
  have ho1 := okd_n ho (n := 2) (by omega)
  rw [ran_base ho1 hT (by omega) (.inr hl)]
  rw [show ({ s with n := 2 } : Dr).n.toNat = 2 from rfl]
  cases r with
  | none =>
    have e : passesP { s with n := 2 } 2 0 (startP text) [] = some (.error 0) := by
      unfold passesP
      rw [go_n, hg]
    rw [e]
    rfl
  | some w =>
    obtain ⟨fd, x⟩ := w
    intro r2 hg2
    cases r2 with
    | none =>
      have e : passesP { s with n := 2 } 2 0 (startP text) [] = some (.error 1) := by
        unfold passesP
        rw [go_n, hg]
        simp only
        unfold passesP
        rw [go_n, hg2]
        rfl
      rw [e]
      rfl
    | some w2 =>
      obtain ⟨gd, y⟩ := w2
      have e : passesP { s with n := 2 } 2 0 (startP text) [] = some (.ok (gd, x.met.map (evU 0) ++ y.met.map (evU 1))) := by
        unfold passesP
        rw [go_n, hg]
        simp only
        unfold passesP
        rw [go_n, hg2]
        simp only [passesP, List.nil_append]
        rfl
      rw [e]
      have hD : DeedI s x := goP_deedI ho _ deedI0 hg
      have hD2 : DeedI s y := goP_deedI ho _ deedI0 hg2
      simp only [runR', ofEvs_app (ofEvs_map (n := 0) hD) (ofEvs_map (n := 1) hD2)]
      exact ⟨_, rfl⟩
/-! ### the events of a pass -/
def dpU (e : W1 × Nat × List It1) : U := .tup [.str e.1, .int (e.2.1 : Nat)]
theorem bare_map {n m : Int} : ∀ l : List (W1 × Nat × List It1), bareP n (l.map (evU m)) = some (if m = n then l.map dpU else [])
  | [] => by simp [bareP]
  | e :: r => by
    rw [List.map_cons]
    unfold bareP
    rw [bare_map r]
    simp only [evU, bareE]
    by_cases z : m = n
    · simp [z, dpU]
    · simp [z]
theorem bare_app {n : Int} : ∀ {a b x y : List U}, bareP n a = some x → bareP n b = some y → bareP n (a ++ b) = some (x ++ y)
  | [], b, x, y, h1, h2 => by cases h1; exact h2
  | u :: r, b, x, y, h1, h2 => by
    unfold bareP at h1
    split at h1
    · rename_i c d e1 e2
      cases h1
      rw [List.cons_append]
      unfold bareP
      rw [e1, bare_app e2 h2]
      simp
    · cases h1
theorem dp_tl {l m : List (W1 × Nat × List It1)} (h : tl l = tl m) : l.map dpU = m.map dpU := by
  have : ∀ l : List (W1 × Nat × List It1), l.map dpU = (tl l).map fun e => .tup [.str e.1, .int (e.2 : Nat)] := fun l => by
    unfold tl
    rw [List.map_map]
    rfl
  rw [this, this, h]
theorem dp_take {l m : List (W1 × Nat × List It1)} {n : Nat} (h : (tl l).take n = (tl m).take n) : (l.map dpU).take n = (m.map dpU).take n := by
  have : ∀ l : List (W1 × Nat × List It1), l.map dpU = (tl l).map fun e => .tup [.str e.1, .int (e.2 : Nat)] := fun l => by
    unfold tl
    rw [List.map_map]
    rfl
  rw [this, this, ← List.map_take, ← List.map_take, h]
theorem pds_dp {k : Nat} : ∀ {l : List (W1 × Nat × List It1)}, (∀ e ∈ l, okC e.1 = true) → pds (k + 2) (l.map dpU) = true
  | [], _ => by rw [List.map_nil]; unfold pds; rfl
  | e :: r, h => by
    rw [List.map_cons]
    unfold pds
    rw [pds_dp fun e he => h e (.tail _ he), Bool.and_true]
    unfold dpU pd pds pds pds
    rw [pd_str (h e (.head _))]
    unfold pd
    rfl
theorem pds_take {k n : Nat} : ∀ {l : List U}, pds k l = true → pds k (l.take n) = true := by
  induction n with
  | zero => intro l h; rw [List.take_zero]; unfold pds; rfl
  | succ n ih =>
    intro l h
    cases l with
    | nil => exact h
    | cons a r =>
      rw [List.take_succ_cons]
      unfold pds at h ⊢
      rw [Bool.and_eq_true] at h ⊢
      exact ⟨h.1, ih h.2⟩
theorem eq_same {neg : Bool} {et : Nat → Option RunD} {sg : Sg} {m1 m2 : ME} {u : U} (h1 : m1 sg G = .ok u G) (h2 : m2 sg G = .ok u G) (hp : pd 20 u = true) : tobM (bin2 (eqX neg et) m1 m2) sg G = .ok (!neg) G := by
  refine tob_bl ?_
  rw [bin2_p h1 h2, eqX_pd hp hp, eqv_refl_pd hp]
  cases neg <;> rfl
/-! ### what the law reads of an outcome -/
abbrev outA (k : Nat) (j : Nat) : ME := attrM (fun c => (([(3, r_Outcome_text)] : List (Nat × RunD)).lookup c).map attrP) (fun c => ([] : List Nat).contains c) 20 (varM j)
theorem out_text {sg : Sg} {j : Nat} {a : W1} {ev : List U} {ft : List (U × U)} (hs : sg[j]? = some (some (outU a ev ft))) : outA 0 j sg G = .ok (.str a) G := by
  show attrM _ _ _ _ _ _ = _
  unfold attrM
  rw [var_ok hs]
  simp [outU, insOf, List.lookup, attrP, arM, noExc, r_Outcome_text]
theorem bare_call {sg : Sg} {j : Nat} {n : Int} {a : W1} {ev l : List U} {ft : List (U × U)} (hs : sg[j]? = some (some (outU a ev ft))) (hb : bareP n ev = some l) (hz : ev.length ≤ szL) : callM 2 r__law_bare (consA (varM j) (consA (litM (.int n)) nilA)) sg G = .ok (.lst l) G := by
  rw [call2 (var_ok hs) (u' := .int n) rfl]
  unfold r__law_bare outU
  simp only [hb]
  exact if_pos hz
theorem is_non {neg : Bool} {sg : Sg} {j : Nat} {u : U} (hs : sg[j]? = some (some u)) : tobM (bin2 (isU neg) (varM j) (litM .non)) sg G = .ok (if neg then !isNonU u else isNonU u) G := by
  refine tob_bl ?_
  rw [bin2_p (var_ok hs) (y := .non) rfl]
  rfl
theorem is_nonE {neg : Bool} {sg : Sg} {j : Nat} {u : U} (hs : sg[j]? = some (some u)) : bin2 (isU neg) (varM j) (litM .non) sg G = .ok (.bl (if neg then !isNonU u else isNonU u)) G := by
  rw [bin2_p (var_ok hs) (y := .non) rfl]
  rfl
theorem sl_tup {sg : Sg} {j : Nat} {xs : List U} {lo hi : Option Int} {m1 m2 : MO} (hs : sg[j]? = some (some (.tup xs))) (h1 : m1 sg G = .ok lo G) (h2 : m2 sg G = .ok hi G) : slM false (varM j) m1 m2 sg G = .ok (.tup (cutL xs lo hi)) G := by
  unfold slM
  rw [var_ok hs]
  simp only [bind_ok, h1, h2, slU]
theorem add_tup {sg : Sg} {m1 m2 : ME} {G1 G2 : List Ob} {a b : List U} (h1 : m1 sg G = .ok (.tup a) G1) (h2 : m2 sg G1 = .ok (.tup b) G2) (hl : a.length + b.length ≤ 1000) : bin2 (addU false) m1 m2 sg G = .ok (.tup (a ++ b)) G2 := by
  rw [bin2_ok h1 h2]
  exact if_pos (Nat.le_trans hl (by decide))
abbrev argN (n : Int) : ME := bin2 (addU false) (slM false (varM 3) noneO (someO (litM (.int 5)))) (tupM (consA (litM (.int n)) nilA))
theorem arg_n {sg : Sg} {n : Int} (hs : sg[3]? = some (some (drU s))) : argN n sg G = .ok (drU { s with n := n }) G := by
  have h1 : slM false (varM 3) noneO (someO (litM (.int 5))) sg G = .ok (.tup [.str s.w, .str s.p, .str s.k, .str s.t, .tup (s.zs.map .str)]) G := by
    rw [sl_tup hs (lo := none) (hi := some 5) rfl rfl]
    exact congrArg (fun z => Rs.ok (U.tup z) G) (cut_to (a := 5))
  have h2 : tupM (consA (litM (.int n)) nilA) sg G = .ok (.tup [.int n]) G := by
    unfold tupM
    rw [consA_p (x := .int n) rfl rfl]
    exact newT_ok' (by simp [szL])
  exact add_tup h1 h2 (by simp)
end
end FL

namespace FL
open PySem L2 PyProof.Rows
abbrev stopM : ME := litM (.str (Str.ofString "stop").cps.toList)
abbrev eqNL : U → U → List Ob → Rs U := eqX true (fun c => d_law.eqt.lookup c)
abbrev eqL : U → U → List Ob → Rs U := eqX false (fun c => d_law.eqt.lookup c)
abbrev lenL (m : ME) : ME := preM (lenX (fun c => d_law.lnt.lookup c)) (consA m nilA)
abbrev bareM (j : Nat) (n : Int) : ME := callM 2 r__law_bare (consA (varM j) (consA (litM (.int n)) nilA))
abbrev retF : MS := stE (litM (.bl false)) rtM
abbrev lw0 : MS := (stE (callM 2 r__law_random (consA (varM 0) (consA (litM (.int 18)) nilA))) (setM 1))
abbrev lw1I : MI := (preI rng1U (consA (litM (.int 3)) nilA))
abbrev lw1G : MG := (nameG 2)
abbrev lw1b0 : MS := (stE (callM 1 r__law_drawn (consA (varM 1) nilA)) (setM 3))
abbrev lw1b1 : MS := (stE (callM 3 r__law_text (consA (varM 1) (consA (varM 3) (consA (litM (.int 12)) nilA)))) (setM 4))
abbrev lw1b2 : MS := (stE (callM 2 r__law_ran (consA (argN 1) (consA (varM 4) nilA))) (setM 5))
abbrev lw1b3 : MS := (stE (callM 2 r__law_ran (consA (argN 2) (consA (varM 4) nilA))) (setM 6))
abbrev lw1b4 : MS := (ifM (andT (tobM (bin2 (isU false) (varM 5) (litM .non))) (tobM (bin2 (isU true) (varM 6) (litM .non)))) retF nxM)
abbrev lw1b5 : MS := (ifM (tobM (bin2 (isU true) (varM 5) (litM .non))) (seqM (stE (callM 2 r__law_ran (consA (argN 1) (consA (outA 0 5) nilA))) (setM 10)) (seqM (ifM (tobM (bin2 eqNL (bin2 (isU false) (varM 10) (litM .non)) (bin2 (isU false) (varM 6) (litM .non)))) retF nxM) (ifM (tobM (bin2 (isU true) (varM 6) (litM .non))) (seqM (ifM (orT (tobM (bin2 eqNL (outA 0 6) (outA 0 10))) (tobM (bin2 eqNL (bareM 6 0) (bareM 5 0)))) retF nxM) (ifM (tobM (bin2 eqNL (bareM 6 1) (bareM 10 0))) retF nxM)) nxM))) nxM)
abbrev lw1b6 : MS := (stE (slM false (preM tupleU (consA (compM false (seqI (bin2 idxU (varM 3) (litM (.int 4)))) (nameG 11) (tobM (bin2 eqNL (varM 11) stopM)) (varM 11) [11]) nilA)) noneO (someO (litM (.int 2)))) (setM 7))
abbrev lw1b7 : MS := (stE (callM 2 r__law_ran (consA (bin2 (addU false) (slM false (varM 3) noneO (someO (litM (.int 4)))) (tupM (consA (bin2 (addU false) (varM 7) (tupM (consA stopM nilA))) (consA (litM (.int 1)) nilA)))) (consA (varM 4) nilA))) (setM 8))
abbrev lw1b8 : MS := (stE (litM (.int 0)) (setM 9))
abbrev lw1b9 : MS := (ifM (andT (tobM (bin2 (isU true) (varM 5) (litM .non))) (andT (tobM (bin2 (inU true) stopM (bin2 idxU (varM 3) (litM (.int 4))))) (tobM (bin2 eqL (lenL (varM 7)) (lenL (bin2 idxU (varM 3) (litM (.int 4)))))))) (seqM (stE (lenL (varM 7)) (setM 9)) (ifM (tobM (bin2 eqNL (slM false (bareM 8 0) noneO (someO (varM 9))) (slM false (bareM 5 0) noneO (someO (varM 9))))) retF nxM)) nxM)
abbrev lw1b10 : MS := (ifM (orT (tobM (bin2 (isU false) (varM 8) (litM .non))) (orT (tobM (bin2 (cmpU fun i j => decide (j < i)) (lenL (varM 8)) (bin2 (addU false) (lenL (varM 7)) (litM (.int 1))))) (andT (tobM (bin2 eqNL (outA 0 8) (varM 4))) (tobM (bin2 eqL (varM 7) (tupM nilA)))))) retF nxM)
abbrev lw1B : MS := seqM lw1b0 (seqM lw1b1 (seqM lw1b2 (seqM lw1b3 (seqM lw1b4 (seqM lw1b5 (seqM lw1b6 (seqM lw1b7 (seqM lw1b8 (seqM lw1b9 lw1b10)))))))))
abbrev lw1 : MS := forM lw1I lw1G lw1B
abbrev lw2 : MS := (stE (litM (.bl true)) rtM)
theorem law_m : m_law = seqM lw0 (seqM lw1 lw2) := rfl
theorem okT_big {l : W1} (h : isT l = true) : okC l = true := isT_ok h
theorem pd_lst {l : List (W1 × Nat × List It1)} (h : ∀ e ∈ l, okC e.1 = true) : pd 20 (.lst (l.map dpU)) = true := by
  unfold pd
  exact pds_dp h
section
variable {s : Dr} {text : W1} {G : List Ob} {x0 x1 x2 x5 x6 x7 x8 x9 x10 x11 : Option U}
abbrev lwL (x0 x1 x2 : Option U) (s : Dr) (text : W1) (x5 x6 x7 x8 x9 x10 x11 : Option U) : Sg := [x0, x1, x2, some (drU s), some (.str text), x5, x6, x7, x8, x9, x10, x11]
theorem ran_call {n : Int} {sg : Sg} {m : ME} {t : W1} {r : Rs U} (hs : sg[3]? = some (some (drU s))) (hm : m sg G = .ok (.str t) G) (hr : r__law_ran [drU { s with n := n }, .str t] G = r) : callM 2 r__law_ran (consA (argN n) (consA m nilA)) sg G = r :=
  (call2 (arg_n hs) hm).trans hr
theorem isN {neg : Bool} {sg : Sg} {j : Nat} (hs : sg[j]? = some (some U.non)) : tobM (bin2 (isU neg) (varM j) (litM .non)) sg G = .ok (!neg) G := (is_non hs).trans (by cases neg <;> rfl)
theorem isO {neg : Bool} {sg : Sg} {j : Nat} {a : W1} {ev : List U} {ft : List (U × U)} (hs : sg[j]? = some (some (outU a ev ft))) : tobM (bin2 (isU neg) (varM j) (litM .non)) sg G = .ok neg G := (is_non hs).trans (by cases neg <;> rfl)
theorem isNE {neg : Bool} {sg : Sg} {j : Nat} (hs : sg[j]? = some (some U.non)) : bin2 (isU neg) (varM j) (litM .non) sg G = .ok (.bl (!neg)) G := (is_nonE hs).trans (by cases neg <;> rfl)
theorem isOE {neg : Bool} {sg : Sg} {j : Nat} {a : W1} {ev : List U} {ft : List (U × U)} (hs : sg[j]? = some (some (outU a ev ft))) : bin2 (isU neg) (varM j) (litM .non) sg G = .ok (.bl neg) G := (is_nonE hs).trans (by cases neg <;> rfl)
theorem both_ok (ho : okd s = true) (hE : Ends s) (hT : isT text = true) (hl : text.length ≤ 12) :
    ∃ u5 u6 y10, (∀ mt, seqM lw1b2 (seqM lw1b3 (seqM lw1b4 (seqM lw1b5 mt))) (lwL x0 x1 x2 s text x5 x6 x7 x8 x9 x10 x11) G = mt (lwL x0 x1 x2 s text (some u5) (some u6) x7 x8 x9 y10 x11) G) ∧
      (u5 = .non ∨ ∃ fd x ft, goP s 100 (startP text) sc0 [] = some (some (fd, x)) ∧ u5 = outU (sgn fd) (x.met.map (evU 0)) ft) := by
  obtain ⟨h1, h2, h3, h4, h5, h6, h7, h8, h9, h10⟩ := okd_parts ho
  have hlz := (okDs_ok h8).2.2
  have hI := sc0_inv (s := s) (by omega) (by omega)
  cases eg : goP s 100 (startP text) sc0 [] with
  | none => exact absurd eg (go_some hE (by omega) (by omega) _ _ hI)
  | some r =>
    have a1 := ran_one (G := G) ho hT (by omega) eg
    have a2 := ran_two (G := G) ho hT (by omega) eg
    cases r with
    | none =>
      have c5 := ran_call (sg := lwL x0 x1 x2 s text x5 x6 x7 x8 x9 x10 x11) (m := varM 4) rfl rfl a1
      have c6 := ran_call (sg := lwL x0 x1 x2 s text (some .non) x6 x7 x8 x9 x10 x11) (m := varM 4) rfl rfl a2
      have t4 : andT (tobM (bin2 (isU false) (varM 5) (litM .non))) (tobM (bin2 (isU true) (varM 6) (litM .non))) (lwL x0 x1 x2 s text (some .non) (some .non) x7 x8 x9 x10 x11) G = .ok false G := andT_p (a := true) (b := false) (isN (neg := false) rfl) fun _ => isN (neg := true) rfl
      have t5 : tobM (bin2 (isU true) (varM 5) (litM .non)) (lwL x0 x1 x2 s text (some .non) (some .non) x7 x8 x9 x10 x11) G = .ok false G := isN (neg := true) rfl
      exact ⟨.non, .non, x10, fun mt => (seqM_set c5).trans ((seqM_set c6).trans ((seqM_if t4).trans (seqM_if t5))), .inl rfl⟩
    | some w =>
      obtain ⟨fd, x⟩ := w
      obtain ⟨ft1, a1⟩ := a1
      obtain ⟨q1, q2, q3, q4⟩ := goP_TB ho (by rw [startP_sgn]; exact hT) eg
      have hD : DeedI s x := goP_deedI ho _ deedI0 eg
      have hfl : (sgn fd).length ≤ 5000 := by rw [sgn_len]; rw [startP_len] at q2; omega
      have hxl : x.met.length ≤ 1200 := by rw [startP_len] at q3; omega
      have c5 := ran_call (sg := lwL x0 x1 x2 s text x5 x6 x7 x8 x9 x10 x11) (m := varM 4) rfl rfl a1
      -- the second pass, both ways
      have hfs := go_fs (s := s) (f := 100) (l := fd) (m := startP (sgn fd)) (x := sc0) (y := sc0) (fd := []) (gd := []) (by rw [startP_sgn]) (fs_refl sc0) rfl
      cases e2 : goP s 100 fd sc0 [] with
      | none => exact absurd e2 (go_some hE (by omega) (by omega) _ _ hI)
      | some r2 =>
      cases e3 : goP s 100 (startP (sgn fd)) sc0 [] with
      | none => exact absurd e3 (go_some hE (by omega) (by omega) _ _ hI)
      | some r3 =>
      rw [e2, e3] at hfs
      have a2 := a2 r2 e2
      have a3 := ran_one (G := G) ho q1 hfl e3
      have ot : outA 0 5 (lwL x0 x1 x2 s text (some (outU (sgn fd) (x.met.map (evU 0)) ft1)) (some .non) x7 x8 x9 x10 x11) G = .ok (.str (sgn fd)) G := out_text rfl
      cases r2 with
      | none =>
        have er3 : r3 = none := by
          have := hfs.2.1.mp rfl
          exact Option.some.inj this
        subst er3
        have c6 := ran_call (sg := lwL x0 x1 x2 s text (some (outU (sgn fd) (x.met.map (evU 0)) ft1)) x6 x7 x8 x9 x10 x11) (m := varM 4) rfl rfl a2
        have t4 : andT (tobM (bin2 (isU false) (varM 5) (litM .non))) (tobM (bin2 (isU true) (varM 6) (litM .non))) (lwL x0 x1 x2 s text (some (outU (sgn fd) (x.met.map (evU 0)) ft1)) (some .non) x7 x8 x9 x10 x11) G = .ok false G := andT_p (a := false) (b := false) (isO (neg := false) rfl) fun z => nomatch z
        have t5 : tobM (bin2 (isU true) (varM 5) (litM .non)) (lwL x0 x1 x2 s text (some (outU (sgn fd) (x.met.map (evU 0)) ft1)) (some .non) x7 x8 x9 x10 x11) G = .ok true G := isO (neg := true) rfl
        have c10 := ran_call (sg := lwL x0 x1 x2 s text (some (outU (sgn fd) (x.met.map (evU 0)) ft1)) (some .non) x7 x8 x9 x10 x11) (m := outA 0 5) rfl ot a3
        have t6 : tobM (bin2 eqNL (bin2 (isU false) (varM 10) (litM .non)) (bin2 (isU false) (varM 6) (litM .non))) (lwL x0 x1 x2 s text (some (outU (sgn fd) (x.met.map (evU 0)) ft1)) (some .non) x7 x8 x9 (some .non) x11) G = .ok false G := eq_same (neg := true) (u := .bl true) (isNE (neg := false) rfl) (isNE (neg := false) rfl) rfl
        have t7 : tobM (bin2 (isU true) (varM 6) (litM .non)) (lwL x0 x1 x2 s text (some (outU (sgn fd) (x.met.map (evU 0)) ft1)) (some .non) x7 x8 x9 (some .non) x11) G = .ok false G := isN (neg := true) rfl
        exact ⟨_, .non, some .non, fun mt => (seqM_set c5).trans ((seqM_set c6).trans ((seqM_if t4).trans (seqM_nx ((ifM_t t5).trans ((seqM_set c10).trans ((seqM_if t6).trans (ifM_fn t7))))))), .inr ⟨fd, x, ft1, rfl, rfl⟩⟩
      | some w2 =>
        obtain ⟨gd, y⟩ := w2
        cases r3 with
        | none => exact absurd (hfs.2.1.mpr rfl) (by simp)
        | some w3 =>
        obtain ⟨hd, z⟩ := w3
        obtain ⟨es, fs⟩ := hfs.2.2 _ _ _ _ rfl rfl
        obtain ⟨ft2, a2⟩ := a2
        obtain ⟨ft3, a3⟩ := a3
        have hDy : DeedI s y := goP_deedI ho _ deedI0 e2
        have hDz : DeedI s z := goP_deedI ho _ deedI0 e3
        obtain ⟨p1, p2, p3, p4⟩ := goP_TB ho q1 e2
        obtain ⟨v1, v2, v3, v4⟩ := goP_TB ho (by rw [startP_sgn]; exact q1) e3
        rw [startP_len] at v3
        have hyl : y.met.length ≤ 500000 := by rw [sgn_len] at hfl; omega
        have hzl : z.met.length ≤ 500000 := by omega
        have c6 := ran_call (sg := lwL x0 x1 x2 s text (some (outU (sgn fd) (x.met.map (evU 0)) ft1)) x6 x7 x8 x9 x10 x11) (m := varM 4) rfl rfl a2
        generalize hB : outU (sgn gd) (x.met.map (evU 0) ++ y.met.map (evU 1)) ft2 = B at c6
        have ot' : outA 0 5 (lwL x0 x1 x2 s text (some (outU (sgn fd) (x.met.map (evU 0)) ft1)) (some B) x7 x8 x9 x10 x11) G = .ok (.str (sgn fd)) G := out_text rfl
        have hBn : isNonU B = false := by rw [← hB]; rfl
        have t4 : andT (tobM (bin2 (isU false) (varM 5) (litM .non))) (tobM (bin2 (isU true) (varM 6) (litM .non))) (lwL x0 x1 x2 s text (some (outU (sgn fd) (x.met.map (evU 0)) ft1)) (some B) x7 x8 x9 x10 x11) G = .ok false G := andT_p (a := false) (b := false) (isO (neg := false) rfl) fun z => nomatch z
        have t5 : tobM (bin2 (isU true) (varM 5) (litM .non)) (lwL x0 x1 x2 s text (some (outU (sgn fd) (x.met.map (evU 0)) ft1)) (some B) x7 x8 x9 x10 x11) G = .ok true G := isO (neg := true) rfl
        have c10 := ran_call (sg := lwL x0 x1 x2 s text (some (outU (sgn fd) (x.met.map (evU 0)) ft1)) (some B) x7 x8 x9 x10 x11) (m := outA 0 5) rfl ot' a3
        have t6 : tobM (bin2 eqNL (bin2 (isU false) (varM 10) (litM .non)) (bin2 (isU false) (varM 6) (litM .non))) (lwL x0 x1 x2 s text (some (outU (sgn fd) (x.met.map (evU 0)) ft1)) (some B) x7 x8 x9 (some (outU (sgn hd) (z.met.map (evU 0)) ft3)) x11) G = .ok false G := eq_same (neg := true) (u := .bl false) (isOE (neg := false) rfl) (by rw [is_nonE (u := B) rfl, hBn]; rfl) rfl
        have t7 : tobM (bin2 (isU true) (varM 6) (litM .non)) (lwL x0 x1 x2 s text (some (outU (sgn fd) (x.met.map (evU 0)) ft1)) (some B) x7 x8 x9 (some (outU (sgn hd) (z.met.map (evU 0)) ft3)) x11) G = .ok true G := by rw [is_non (u := B) rfl, hBn]; rfl
        subst hB
        have b50 : bareM 5 0 (lwL x0 x1 x2 s text (some (outU (sgn fd) (x.met.map (evU 0)) ft1)) (some (outU (sgn gd) (x.met.map (evU 0) ++ y.met.map (evU 1)) ft2)) x7 x8 x9 (some (outU (sgn hd) (z.met.map (evU 0)) ft3)) x11) G = .ok (.lst (x.met.map dpU)) G := bare_call rfl (bare_map _) (by rw [List.length_map]; unfold szL; omega)
        have b60 : bareM 6 0 (lwL x0 x1 x2 s text (some (outU (sgn fd) (x.met.map (evU 0)) ft1)) (some (outU (sgn gd) (x.met.map (evU 0) ++ y.met.map (evU 1)) ft2)) x7 x8 x9 (some (outU (sgn hd) (z.met.map (evU 0)) ft3)) x11) G = .ok (.lst (x.met.map dpU)) G := bare_call rfl ((bare_app (bare_map _) (bare_map _)).trans (by simp)) (by rw [List.length_append, List.length_map, List.length_map]; unfold szL; omega)
        have b61 : bareM 6 1 (lwL x0 x1 x2 s text (some (outU (sgn fd) (x.met.map (evU 0)) ft1)) (some (outU (sgn gd) (x.met.map (evU 0) ++ y.met.map (evU 1)) ft2)) x7 x8 x9 (some (outU (sgn hd) (z.met.map (evU 0)) ft3)) x11) G = .ok (.lst (y.met.map dpU)) G := bare_call rfl ((bare_app (bare_map _) (bare_map _)).trans (by simp)) (by rw [List.length_append, List.length_map, List.length_map]; unfold szL; omega)
        have b10 : bareM 10 0 (lwL x0 x1 x2 s text (some (outU (sgn fd) (x.met.map (evU 0)) ft1)) (some (outU (sgn gd) (x.met.map (evU 0) ++ y.met.map (evU 1)) ft2)) x7 x8 x9 (some (outU (sgn hd) (z.met.map (evU 0)) ft3)) x11) G = .ok (.lst (y.met.map dpU)) G := by
          rw [dp_tl (l := y.met) (m := z.met) fs.met]
          exact bare_call rfl (bare_map _) (by rw [List.length_map]; unfold szL; omega)
        have t8 : orT (tobM (bin2 eqNL (outA 0 6) (outA 0 10))) (tobM (bin2 eqNL (bareM 6 0) (bareM 5 0))) (lwL x0 x1 x2 s text (some (outU (sgn fd) (x.met.map (evU 0)) ft1)) (some (outU (sgn gd) (x.met.map (evU 0) ++ y.met.map (evU 1)) ft2)) x7 x8 x9 (some (outU (sgn hd) (z.met.map (evU 0)) ft3)) x11) G = .ok false G := orT_p (a := false) (b := false) (eq_same (neg := true) (u := .str (sgn gd)) (out_text rfl) (by rw [es]; exact out_text rfl) (pd_str (isT_ok p1))) fun _ => eq_same (neg := true) b60 b50 (pd_lst hD)
        have t9 : tobM (bin2 eqNL (bareM 6 1) (bareM 10 0)) (lwL x0 x1 x2 s text (some (outU (sgn fd) (x.met.map (evU 0)) ft1)) (some (outU (sgn gd) (x.met.map (evU 0) ++ y.met.map (evU 1)) ft2)) x7 x8 x9 (some (outU (sgn hd) (z.met.map (evU 0)) ft3)) x11) G = .ok false G := eq_same (neg := true) b61 b10 (pd_lst hDy)
        exact ⟨_, _, _, fun mt => (seqM_set c5).trans ((seqM_set c6).trans ((seqM_if t4).trans (seqM_nx ((ifM_t t5).trans ((seqM_set c10).trans ((seqM_if t6).trans ((ifM_t t7).trans ((seqM_if t8).trans (ifM_fn t9))))))))), .inr ⟨fd, x, ft1, rfl, rfl⟩⟩
end
end FL

namespace FL
open PySem L2 PyProof.Rows
def someZ (zs : List W1) : List W1 := (zs.filter fun z => !(z == wStop)).take 2
theorem some_all : (deeds8.all fun zs => stops7.any (fun z => z == someZ zs ++ [wStop]) && !(someZ zs == []) && (goes6.any (fun z => z == zs) || stops7.any fun z => z == zs) && okDs (someZ zs ++ [wStop])) = true := by decide +kernel
theorem some_ok {zs : List W1} (h : zs ∈ deeds8) : someZ zs ++ [wStop] ∈ stops7 ∧ someZ zs ≠ [] ∧ (zs ∈ goes6 ∨ zs ∈ stops7) ∧ okDs (someZ zs ++ [wStop]) = true := by
  have := List.all_eq_true.mp some_all _ h
  simp only [Bool.and_eq_true, Bool.or_eq_true, List.any_eq_true, beq_iff_eq, exists_eq_right', exists_eq_right, Bool.not_eq_true', beq_eq_false_iff_ne, ne_eq] at this
  exact ⟨this.1.1.1, this.1.1.2, this.1.2, this.2⟩
section
variable {s : Dr} {text : W1} {G : List Ob} {x0 x1 x2 x5 x6 x7 x8 x9 x10 x11 : Option U}
theorem stop_lit {sg : Sg} : stopM sg G = .ok (.str wStop) G := by simp [stopM, litM, wStop]
theorem tup2 {sg : Sg} {m1 m2 : ME} {a b : U} (h1 : m1 sg G = .ok a G) (h2 : m2 sg G = .ok b G) : tupM (consA m1 (consA m2 nilA)) sg G = .ok (.tup [a, b]) G := by
  unfold tupM
  rw [consA_p h1 (consA_p h2 rfl)]
  exact newT_ok' (by simp [szL])
theorem deeds_at {sg : Sg} (hs : sg[3]? = some (some (drU s))) : bin2 idxU (varM 3) (litM (.int 4)) sg G = .ok (.tup (s.zs.map .str)) G := (idxS hs).2.2.2.2.1
def notStop : U → Bool
  | .str a => !(a == wStop)
  | _ => false
theorem filter_strs (zs : List W1) : (zs.map U.str).filter notStop = (zs.filter fun z => !(z == wStop)).map U.str := by
  rw [List.filter_map]
  rfl
theorem zs_ok (ho : okd s = true) : s.zs.all okC = true ∧ s.zs.length ≤ 3 ∧ 1 ≤ s.zs.length := by
  obtain ⟨h1, h2, h3, h4, h5, h6, h7, h8, h9, h10⟩ := okd_parts ho
  exact okDs_ok h8
theorem some_call (ho : okd s = true) : slM false (preM tupleU (consA (compM false (seqI (bin2 idxU (varM 3) (litM (.int 4)))) (nameG 11) (tobM (bin2 eqNL (varM 11) stopM)) (varM 11) [11]) nilA)) noneO (someO (litM (.int 2))) (lwL x0 x1 x2 s text x5 x6 x7 x8 x9 x10 x11) G = .ok (.tup ((someZ s.zs).map .str)) G := by
  obtain ⟨z1, z2, z3⟩ := zs_ok ho
  have hit : seqI (bin2 idxU (varM 3) (litM (.int 4))) (lwL x0 x1 x2 s text x5 x6 x7 x8 x9 x10 x11) G = .ok (.seq (.tup (s.zs.map .str)), (s.zs.map U.str).length) G := by
    unfold seqI
    rw [deeds_at (s := s) rfl]
    rfl
  have hc := comp_seqF (mu := false) (g := nameG 11) (t := tobM (bin2 eqNL (varM 11) stopM)) (e := varM 11) (own := [11]) (s := lwL x0 x1 x2 s text x5 x6 x7 x8 x9 x10 x11) (p := notStop) (h := fun z => z) hit rfl fun z hz => by
    obtain ⟨a, ha, rfl⟩ := List.mem_map.mp hz
    refine ⟨lwL x0 x1 x2 s text x5 x6 x7 x8 x9 x10 (some (.str a)), rfl, ?_, fun _ => rfl⟩
    exact (tob_str (neg := true) (x := a) (y := wStop) rfl stop_lit (List.all_eq_true.mp z1 _ ha) (by decide)).trans rfl
  rw [List.map_id', filter_strs, newL_f (by rw [List.length_map]; exact Nat.le_trans (List.length_filter_le _ _) (by unfold szL; omega))] at hc
  have ht : preM tupleU (consA (compM false (seqI (bin2 idxU (varM 3) (litM (.int 4)))) (nameG 11) (tobM (bin2 eqNL (varM 11) stopM)) (varM 11) [11]) nilA) (lwL x0 x1 x2 s text x5 x6 x7 x8 x9 x10 x11) G = .ok (.tup ((s.zs.filter fun z => !(z == wStop)).map U.str)) G := by
    rw [pre_one hc]
    simp only [tupleU, lstOf]
    exact newT_ok' (by rw [List.length_map]; exact Nat.le_trans (List.length_filter_le _ _) (by unfold szL; omega))
  unfold slM
  rw [ht]
  simp only [bind_ok, noneO]
  rw [someO_ok (z := 2) rfl]
  simp only [bind_ok, slU]
  refine congrArg (fun z => Rs.ok (U.tup z) G) ((cut_to (a := 2)).trans ?_)
  rw [← List.map_take]
  rfl
abbrev argC : ME := bin2 (addU false) (slM false (varM 3) noneO (someO (litM (.int 4)))) (tupM (consA (bin2 (addU false) (varM 7) (tupM (consA stopM nilA))) (consA (litM (.int 1)) nilA)))
theorem arg_c {zs : List W1} (hz : zs.length ≤ 3) : argC (lwL x0 x1 x2 s text x5 x6 (some (.tup (zs.map .str))) x8 x9 x10 x11) G = .ok (drU { s with zs := zs ++ [wStop], n := 1 }) G := by
  have h1 : slM false (varM 3) noneO (someO (litM (.int 4))) (lwL x0 x1 x2 s text x5 x6 (some (.tup (zs.map .str))) x8 x9 x10 x11) G = .ok (.tup [.str s.w, .str s.p, .str s.k, .str s.t]) G := by
    rw [sl_tup (xs := [.str s.w, .str s.p, .str s.k, .str s.t, .tup (s.zs.map .str), .int s.n]) (lo := none) (hi := some 4) rfl rfl rfl]
    exact congrArg (fun z => Rs.ok (U.tup z) G) (cut_to (a := 4))
  have h0 : tupM (consA stopM nilA) (lwL x0 x1 x2 s text x5 x6 (some (.tup (zs.map .str))) x8 x9 x10 x11) G = .ok (.tup [.str wStop]) G := by
    unfold tupM
    rw [consA_p stop_lit rfl]
    exact newT_ok' (by simp [szL])
  have h3 : bin2 (addU false) (varM 7) (tupM (consA stopM nilA)) (lwL x0 x1 x2 s text x5 x6 (some (.tup (zs.map .str))) x8 x9 x10 x11) G = .ok (.tup ((zs ++ [wStop]).map .str)) G := by
    rw [List.map_append]
    exact add_tup rfl h0 (by simp; omega)
  have h2 : tupM (consA (bin2 (addU false) (varM 7) (tupM (consA stopM nilA))) (consA (litM (.int 1)) nilA)) (lwL x0 x1 x2 s text x5 x6 (some (.tup (zs.map .str))) x8 x9 x10 x11) G = .ok (.tup [.tup ((zs ++ [wStop]).map .str), .int 1]) G := by
    exact tup2 h3 rfl
  exact add_tup h1 h2 (by simp)
theorem lenL_tup {sg : Sg} {m : ME} {l : List U} (h : m sg G = .ok (.tup l) G) : lenL m sg G = .ok (.int l.length) G := by
  show preM _ _ _ _ = _
  rw [pre_one h]
  simp [lenX, insOf, lenU, seqOf]
theorem len_out {sg : Sg} {j : Nat} {a : W1} {ev : List U} {ft : List (U × U)} (hs : sg[j]? = some (some (outU a ev ft))) (hz : ev.length < 2 ^ 62) : lenL (varM j) sg G = .ok (.int ev.length) G := by
  show preM _ _ _ _ = _
  rw [pre_one (var_ok hs)]
  have e : (fun c => d_law.lnt.lookup c) 3 = some r_Outcome_len := rfl
  have h1 : r_Outcome_len [outU a ev ft] G = .ok (.int ev.length) G := by
    unfold r_Outcome_len outU
    exact if_pos hz
  have h2 : insOf G (outU a ev ft) = some (3, [(15, .str a), (16, .tup ev), (17, .dct ft)]) := rfl
  have h3 : arM 1 r_Outcome_len [outU a ev ft] G = .ok (.int ev.length) G := h1
  have e' : List.lookup 3 d_law.lnt = some r_Outcome_len := rfl
  unfold lenX
  simp only [h2, e', h3]
  exact if_pos (by omega)
theorem in_stop {sg : Sg} (hs : sg[3]? = some (some (drU s))) : tobM (bin2 (inU true) stopM (bin2 idxU (varM 3) (litM (.int 4)))) sg G = .ok (!inW s.zs wStop) G := by
  refine tob_bl ?_
  rw [bin2_p stop_lit (deeds_at hs)]
  have hf : (s.zs.map U.str).all flatU = true := flat_strs s.zs
  simp only [inU, seqOf, hf, flatU, and_self, if_true, eqF_strs]
theorem sl_bare {sg : Sg} {j n : Nat} {l : List U} (hb : bareM j 0 sg G = .ok (.lst l) G) (hs : sg[9]? = some (some (.int (n : Nat)))) (hz : l.length ≤ szL) : slM false (bareM j 0) noneO (someO (varM 9)) sg G = .ok (.lst (l.take n)) G := by
  unfold slM
  rw [hb]
  simp only [bind_ok, noneO]
  rw [someO_ok (z := (n : Int)) (var_ok hs)]
  simp only [bind_ok, slU, lstOf]
  rw [cut_to]
  exact newL_f (Nat.le_trans (by rw [List.length_take]; exact Nat.min_le_right _ _) hz)
theorem some_eq {zs : List W1} (h1 : inW zs wStop = false) (h2 : (someZ zs).length = zs.length) : someZ zs = zs ∧ wStop ∉ zs := by
  have hn : wStop ∉ zs := fun hm => by
    unfold inW at h1
    rw [List.any_eq_false] at h1
    exact h1 _ hm (by simp)
  have hf : (zs.filter fun z => !(z == wStop)) = zs := by
    rw [List.filter_eq_self]
    intro z hz
    have : z ≠ wStop := fun e => hn (e ▸ hz)
    simpa using this
  refine ⟨?_, hn⟩
  unfold someZ at h2 ⊢
  rw [hf] at h2 ⊢
  rw [List.length_take] at h2
  exact List.take_of_length_le (by omega)
theorem cut_ok (ho : okd s = true) (hw : s.w ∈ words6') (hp : s.p ∈ puts10') (hk : s.k ∈ keepsL) (ht : s.t ∈ turnsL) (hz : s.zs ∈ deeds8) (hT : isT text = true) (hl : text.length ≤ 12) {u5 u6 : U}
    (h5 : u5 = .non ∨ ∃ fd x ft, goP s 100 (startP text) sc0 [] = some (some (fd, x)) ∧ u5 = outU (sgn fd) (x.met.map (evU 0)) ft) :
    ∃ u7 u8 u9, seqM lw1b6 (seqM lw1b7 (seqM lw1b8 (seqM lw1b9 lw1b10))) (lwL x0 x1 x2 s text (some u5) (some u6) x7 x8 x9 x10 x11) G = .nx (lwL x0 x1 x2 s text (some u5) (some u6) (some u7) (some u8) (some u9) x10 x11) G := by
  obtain ⟨h1, h2, h3, h4, h5', h6, h7, h8, h9, h10⟩ := okd_parts ho
  obtain ⟨m1, m2, m3, m4⟩ := some_ok hz
  have hol := okDs_ok m4
  have hsl : (someZ s.zs).length ≤ 2 := by have := hol.2.1; simp at this; omega
  have ho2 : okd { s with zs := someZ s.zs ++ [wStop] } = true := by
    unfold okd okS
    simp only [Bool.and_eq_true, decide_eq_true_eq]
    exact ⟨⟨⟨⟨⟨⟨⟨⟨⟨h1, h2⟩, h3⟩, h4⟩, h5'⟩, h6⟩, h7⟩, m4⟩, h9⟩, h10⟩
  obtain ⟨_, hC⟩ := ends_stop (s := { s with zs := someZ s.zs ++ [wStop] }) hw hp hk ht m1
  have hI := sc0_inv (s := { s with zs := someZ s.zs ++ [wStop] }) h2 hol.2.2
  obtain ⟨gd, y, eg⟩ := go_calm hC h2 hol.2.2 (startP text) [] hI
  obtain ⟨ft, ar⟩ := ran_one (G := G) ho2 hT (by omega) eg
  have hfew : y.met.length ≤ (someZ s.zs).length + 1 := by
    have := go_few (zs := someZ s.zs) rfl _ (few0 (s := { s with zs := someZ s.zs ++ [wStop] }) hol.2.2) eg
    simpa using this
  obtain ⟨q1, q2, q3, q4⟩ := goP_TB ho2 (by rw [startP_sgn]; exact hT) eg
  have c6 := some_call (G := G) (text := text) (x0 := x0) (x1 := x1) (x2 := x2) (x5 := some u5) (x6 := some u6) (x7 := x7) (x8 := x8) (x9 := x9) (x10 := x10) (x11 := x11) ho
  have c7 : callM 2 r__law_ran (consA argC (consA (varM 4) nilA)) (lwL x0 x1 x2 s text (some u5) (some u6) (some (.tup ((someZ s.zs).map .str))) x8 x9 x10 x11) G = .ok (outU (sgn gd) (y.met.map (evU 0)) ft) G := (call2 (arg_c (by omega)) rfl).trans ar
  -- the last test
  have last : ∀ n : Int, lw1b10 (lwL x0 x1 x2 s text (some u5) (some u6) (some (.tup ((someZ s.zs).map .str))) (some (outU (sgn gd) (y.met.map (evU 0)) ft)) (some (.int n)) x10 x11) G = .nx (lwL x0 x1 x2 s text (some u5) (some u6) (some (.tup ((someZ s.zs).map .str))) (some (outU (sgn gd) (y.met.map (evU 0)) ft)) (some (.int n)) x10 x11) G := fun n => by
    generalize hsg : lwL x0 x1 x2 s text (some u5) (some u6) (some (.tup ((someZ s.zs).map .str))) (some (outU (sgn gd) (y.met.map (evU 0)) ft)) (some (.int n)) x10 x11 = sg
    have s7 : sg[7]? = some (some (.tup ((someZ s.zs).map .str))) := by rw [← hsg]; rfl
    have s8 : sg[8]? = some (some (outU (sgn gd) (y.met.map (evU 0)) ft)) := by rw [← hsg]; rfl
    have s4 : sg[4]? = some (some (.str text)) := by rw [← hsg]; rfl
    have l7 : lenL (varM 7) sg G = .ok (.int (someZ s.zs).length) G := by
      have := lenL_tup (G := G) (var_ok (G := G) s7)
      rw [List.length_map] at this
      exact this
    have l8 : lenL (varM 8) sg G = .ok (.int y.met.length) G := by
      have := len_out (G := G) s8 (by rw [List.length_map]; omega)
      rw [List.length_map] at this
      exact this
    have a8 : bin2 (addU false) (lenL (varM 7)) (litM (.int 1)) sg G = .ok (.int ((someZ s.zs).length + 1)) G := add_int l7 (y := 1) rfl rfl
    have t2 : tobM (bin2 (cmpU fun i j => decide (j < i)) (lenL (varM 8)) (bin2 (addU false) (lenL (varM 7)) (litM (.int 1)))) sg G = .ok false G := by
      refine tob_bl ?_
      rw [bin2_p l8 a8]
      simp only [cmpU]
      rw [decide_eq_false (by omega)]
    have t4 : tobM (bin2 eqL (varM 7) (tupM nilA)) sg G = .ok false G := by
      refine tob_bl ?_
      have hp0 : pds 19 ((someZ s.zs).map .str) = true := pds_strs (by
        have := hol.1
        rw [List.all_append, Bool.and_eq_true] at this
        exact this.1)
      rw [bin2_p (var_ok s7) (y := .tup (([] : List W1).map .str)) rfl]
      refine (eqX_strs hp0 (by rw [List.map_nil]; unfold pds; rfl)).trans ?_
      simp [m2]
    have t3 : tobM (bin2 eqNL (outA 0 8) (varM 4)) sg G = .ok (!(sgn gd == text)) G := tob_str (neg := true) (out_text s8) (var_ok s4) (isT_ok q1) (isT_ok hT)
    have t1 : tobM (bin2 (isU false) (varM 8) (litM .non)) sg G = .ok false G := isO s8
    exact ifM_fn (orT_p (a := false) (b := false) t1 fun _ => orT_p (a := false) (b := false) t2 fun _ => (andT_p (b := false) t3 fun _ => t4).trans (by rw [Bool.and_false]))
  have step : ∀ n : Int, lw1b9 (lwL x0 x1 x2 s text (some u5) (some u6) (some (.tup ((someZ s.zs).map .str))) (some (outU (sgn gd) (y.met.map (evU 0)) ft)) (some (.int 0)) x10 x11) G = .nx (lwL x0 x1 x2 s text (some u5) (some u6) (some (.tup ((someZ s.zs).map .str))) (some (outU (sgn gd) (y.met.map (evU 0)) ft)) (some (.int n)) x10 x11) G → ∃ u7 u8 u9, seqM lw1b6 (seqM lw1b7 (seqM lw1b8 (seqM lw1b9 lw1b10))) (lwL x0 x1 x2 s text (some u5) (some u6) x7 x8 x9 x10 x11) G = .nx (lwL x0 x1 x2 s text (some u5) (some u6) (some u7) (some u8) (some u9) x10 x11) G := fun n hn =>
    ⟨_, _, .int n, (seqM_set c6).trans ((seqM_set (s := lwL x0 x1 x2 s text (some u5) (some u6) (some (.tup ((someZ s.zs).map .str))) x8 x9 x10 x11) c7).trans ((seqM_set (u := .int 0) (G1 := G) rfl).trans ((seqM_nx (s := lwL x0 x1 x2 s text (some u5) (some u6) (some (.tup ((someZ s.zs).map .str))) (some (outU (sgn gd) (y.met.map (evU 0)) ft)) (some (.int 0)) x10 x11) hn).trans (last n))))⟩
  generalize hsg0 : lwL x0 x1 x2 s text (some u5) (some u6) (some (.tup ((someZ s.zs).map .str))) (some (outU (sgn gd) (y.met.map (evU 0)) ft)) (some (.int 0)) x10 x11 = sg0 at step
  have s3 : sg0[3]? = some (some (drU s)) := by rw [← hsg0]; rfl
  have s5 : sg0[5]? = some (some u5) := by rw [← hsg0]; rfl
  have s7 : sg0[7]? = some (some (.tup ((someZ s.zs).map .str))) := by rw [← hsg0]; rfl
  rcases h5 with h5 | ⟨fd, x, ft1, eg1, h5⟩
  · refine step 0 ?_
    rw [hsg0]
    rw [h5] at s5
    exact ifM_fn (andT_p (a := false) (b := false) (isN (neg := true) s5) fun z => nomatch z)
  · have s5' := s5
    rw [h5] at s5'
    have l7 : lenL (varM 7) sg0 G = .ok (.int (someZ s.zs).length) G := by
      have := lenL_tup (G := G) (var_ok (G := G) s7)
      rw [List.length_map] at this
      exact this
    have l3 : lenL (bin2 idxU (varM 3) (litM (.int 4))) sg0 G = .ok (.int s.zs.length) G := by
      have := lenL_tup (G := G) (deeds_at (G := G) s3)
      rw [List.length_map] at this
      exact this
    have e3 : tobM (bin2 eqL (lenL (varM 7)) (lenL (bin2 idxU (varM 3) (litM (.int 4))))) sg0 G = .ok (((someZ s.zs).length : Int) == (s.zs.length : Int)) G := by
      refine tob_bl ?_
      rw [bin2_p l7 l3]
      exact eqX_int
    have tt := andT_p (isO (G := G) (neg := true) s5') fun _ => andT_p (in_stop (G := G) s3) fun _ => e3
    by_cases hc : (true && (!inW s.zs wStop && (((someZ s.zs).length : Int) == (s.zs.length : Int)))) = true
    · rw [hc] at tt
      simp only [Bool.true_and, Bool.and_eq_true, Bool.not_eq_true', beq_iff_eq] at hc
      obtain ⟨g1, g2⟩ := some_eq hc.1 (by omega)
      refine step (someZ s.zs).length ?_
      refine (ifM_t tt).trans ?_
      refine (seqM_set l7).trans ?_
      subst hsg0
      have hDx : DeedI s x := goP_deedI ho _ deedI0 eg1
      obtain ⟨w1, w2, w3, w4⟩ := goP_TB ho (by rw [startP_sgn]; exact hT) eg1
      rw [startP_len] at w3
      have b8 : bareM 8 0 (lwL x0 x1 x2 s text (some u5) (some u6) (some (.tup ((someZ s.zs).map .str))) (some (outU (sgn gd) (y.met.map (evU 0)) ft)) (some (.int (someZ s.zs).length)) x10 x11) G = .ok (.lst (y.met.map dpU)) G := bare_call rfl (bare_map _) (by rw [List.length_map]; unfold szL; omega)
      have b5 : bareM 5 0 (lwL x0 x1 x2 s text (some u5) (some u6) (some (.tup ((someZ s.zs).map .str))) (some (outU (sgn gd) (y.met.map (evU 0)) ft)) (some (.int (someZ s.zs).length)) x10 x11) G = .ok (.lst (x.met.map dpU)) G := by
        rw [h5]
        exact bare_call rfl (bare_map _) (by rw [List.length_map]; unfold szL; omega)
      have r8 := sl_bare (n := (someZ s.zs).length) b8 rfl (by rw [List.length_map]; unfold szL; omega)
      have r5 := sl_bare (n := (someZ s.zs).length) b5 rfl (by rw [List.length_map]; unfold szL; omega)
      have hpr : (tl x.met).take s.zs.length = (tl y.met).take s.zs.length := go_PR (s := s) (s2 := { s with zs := someZ s.zs ++ [wStop] }) (by rw [g1]) g2 _ (.inl ⟨fs_refl sc0, rfl, by show 0 < s.zs.length; have := (zs_ok ho).2.2; omega, rfl⟩) eg1 eg
      have hd : (x.met.map dpU).take (someZ s.zs).length = (y.met.map dpU).take (someZ s.zs).length := by
        rw [g1]
        exact dp_take hpr
      rw [hd] at r5
      have hDy : DeedI { s with zs := someZ s.zs ++ [wStop] } y := goP_deedI ho2 _ deedI0 eg
      exact ifM_fn (eq_same (neg := true) r8 r5 (by unfold pd; exact pds_take (pds_dp hDy)))
    · have hc' : (true && (!inW s.zs wStop && (((someZ s.zs).length : Int) == (s.zs.length : Int)))) = false := by simpa using hc
      rw [hc'] at tt
      refine step 0 ?_
      rw [hsg0]
      exact ifM_fn tt
end
end FL

namespace FL
open PySem L2 PyProof.Rows
theorem lap_ok {G : List Ob} {l : Int × Int × List Int} (hl : l.2.2.length ≤ 63) {x0 x2 x3 x4 x5 x6 x7 x8 x9 x10 x11 : Option U} :
    ∃ l' y3 y4 y5 y6 y7 y8 y9 y10, l'.2.2.length ≤ 63 ∧ lw1B [x0, some (.ref G.length), x2, x3, x4, x5, x6, x7, x8, x9, x10, x11] (G ++ [drC (dl l)]) = .nx [x0, some (.ref G.length), x2, y3, y4, y5, y6, y7, y8, y9, y10, x11] (G ++ [drC (dl l')]) := by
  have D : ∀ l : Int × Int × List Int, l.2.2.length ≤ 63 → drOf (G ++ [drC (dl l)]) G.length = some l := fun l hl => by
    obtain ⟨a, b, r⟩ := l
    unfold drOf
    simp only [get_new, drC, dl, intsOf_map]
    rw [if_pos hl]
  have ho : okd (drawnP l).1 = true := drawn_ok l
  obtain ⟨hw, hp, hk, ht, hz, hn, hl1⟩ := drawn_mem l
  have c3 : callM 1 r__law_drawn (consA (varM 1) nilA) [x0, some (.ref G.length), x2, x3, x4, x5, x6, x7, x8, x9, x10, x11] (G ++ [drC (dl l)]) = .ok (drU (drawnP l).1) (G ++ [drC (dl (drawnP l).2)]) := (call1 (G := G ++ [drC (dl l)]) (var_ok (u := .ref G.length) rfl)).trans (by simp only [r__law_drawn, D l hl, set_new])
  generalize (drawnP l).1 = s at ho hw hp hk ht hz hn c3
  generalize (drawnP l).2 = l1 at hl1 c3
  obtain ⟨h1, h2, h3, h4, h5, h6, h7, h8, h9, h10⟩ := okd_parts ho
  have c4 : callM 3 r__law_text (consA (varM 1) (consA (varM 3) (consA (litM (.int 12)) nilA))) [x0, some (.ref G.length), x2, some (drU s), x4, x5, x6, x7, x8, x9, x10, x11] (G ++ [drC (dl l1)]) = .ok (.str (textD s.w l1).1) (G ++ [drC (dl (textD s.w l1).2)]) := (call3 (var_ok (u := .ref G.length) rfl) (var_ok (u := drU s) rfl) (u'' := .int 12) rfl).trans (by simp only [r__law_text, D l1 (by omega), drOfU_drU (d := s) ho, set_new])
  have htx : isT (textD s.w l1).1 = true ∧ (textD s.w l1).1.length ≤ 12 ∧ (textD s.w l1).2.2.2.length ≤ 63 := by
    obtain ⟨a, b, r⟩ := l1
    obtain ⟨v, a', b', r', hb, hr', hv⟩ := below_form a b r 13
    obtain ⟨q1, q2, q3⟩ := textP_ok h1 h3 v.toNat (a', b', r')
    unfold textD
    simp only [hb, List.headD_cons, List.tail_cons]
    exact ⟨isT_take q1, by rw [List.length_take]; exact Nat.min_le_left _ _, by simp only at q3 hl1; omega⟩
  generalize (textD s.w l1).1 = text at htx c4
  generalize (textD s.w l1).2 = l2 at htx c4
  have hE : Ends s := by
    rcases (some_ok hz).2.2.1 with z | z
    · exact ends_go hw hp hk ht z
    · exact (ends_stop hw hp hk ht z).1
  obtain ⟨u5, u6, y10, b1, b2⟩ := both_ok (G := G ++ [drC (dl l2)]) (x0 := x0) (x1 := some (.ref G.length)) (x2 := x2) (x5 := x5) (x6 := x6) (x7 := x7) (x8 := x8) (x9 := x9) (x10 := x10) (x11 := x11) ho hE htx.1 htx.2.1
  obtain ⟨u7, u8, u9, d1⟩ := cut_ok (G := G ++ [drC (dl l2)]) (x0 := x0) (x1 := some (.ref G.length)) (x2 := x2) (x7 := x7) (x8 := x8) (x9 := x9) (x10 := y10) (x11 := x11) (u6 := u6) ho hw hp hk ht hz htx.1 htx.2.1 b2
  exact ⟨l2, _, _, _, _, _, _, _, _, htx.2.2, (seqM_set c3).trans ((seqM_set (s := [x0, some (.ref G.length), x2, some (drU s), x4, x5, x6, x7, x8, x9, x10, x11]) c4).trans ((b1 _).trans d1))⟩
theorem le_law : LeC r_law (runB d_law 40 s_law) := fun us G => by
  unfold r_law
  split
  · rename_i sl
    split
    · rename_i ns e
      split
      · rename_i hl
        refine .inr (.inr ?_)
        rw [run_law]
        have hs : startS d_law.N [.sc sl] = [some (.sc sl), none, none, none, none, none, none, none, none, none, none, none] := rfl
        rw [hs, law_m]
        have hlen : (ns.filter fun c => decide ((10 : Int) ^ 18 ≤ c)).length ≤ 63 := Nat.le_trans (List.length_filter_le _ _) hl
        refine cut_n (seqM_set (u := .ref G.length) (G1 := G ++ [drC (rndP ns 18 :: 0 :: ns.filter fun c => decide (10 ^ 18 ≤ c))]) ((call2 (var_ok (u := .sc sl) rfl) (u' := .int 18) (G2 := G) rfl).trans (by simp [r__law_random, e, hl]))) ?_
        generalize hl0 : (rndP ns 18, (0 : Int), ns.filter fun c => decide ((10 : Int) ^ 18 ≤ c)) = l0
        have hdl : (rndP ns 18 :: 0 :: ns.filter fun c => decide ((10 : Int) ^ 18 ≤ c)) = dl l0 := by rw [← hl0]; rfl
        rw [hdl]
        have hl0' : l0.2.2.length ≤ 63 := by rw [← hl0]; exact hlen
        obtain ⟨s', G', h2, l5, y2, y3, y4, y5, y6, y7, y8, y9, y10, e1, e2, e5⟩ := forL_inv (b := .items (rangeL 0 1 3)) (g := nameG 2) (body := lw1B)
          (fun k s' G' => ∃ l y2 y3 y4 y5 y6 y7 y8 y9 y10, s' = [some (.sc sl), some (.ref G.length), y2, y3, y4, y5, y6, y7, y8, y9, y10, none] ∧ G' = G ++ [drC (dl l)] ∧ l.2.2.length ≤ 63) (n := 3) (l := rangeL 0 1 3) rfl (fun G i => rfl)
          (fun k u s1 G1 hu ⟨l, y2, y3, y4, y5, y6, y7, y8, y9, y10, e1, e2, e3⟩ => by
            subst e1
            subst e2
            obtain ⟨l', z3, z4, z5, z6, z7, z8, z9, z10, q1, q2⟩ := lap_ok (G := G) e3 (x0 := some (.sc sl)) (x2 := some u) (x3 := y3) (x4 := y4) (x5 := y5) (x6 := y6) (x7 := y7) (x8 := y8) (x9 := y9) (x10 := y10) (x11 := none)
            exact ⟨_, _, _, rfl, .inl q2, l', _, _, _, _, _, _, _, _, _, rfl, rfl, q1⟩) 3 0 [some (.sc sl), some (.ref G.length), none, none, none, none, none, none, none, none, none, none] (G ++ [drC (dl l0)]) rfl ⟨l0, _, _, _, _, _, _, _, _, _, rfl, rfl, hl0'⟩
        subst e1
        subst e2
        have hit : lw1I [some (.sc sl), some (.ref G.length), none, none, none, none, none, none, none, none, none, none] (G ++ [drC (dl l0)]) = .ok (.items (rangeL 0 1 3), 3) (G ++ [drC (dl l0)]) := (pre_oneI (u := .int (3 : Nat)) rfl).trans (rng_items (n := 3) (by decide))
        refine cut_n (seqM_nx (m1 := lw1) (s := [some (.sc sl), some (.ref G.length), none, none, none, none, none, none, none, none, none, none]) (forM_ok hit h2)) ?_
        exact cut_rt (g := [drC (dl l5)]) (u := .bl true) (stE_rt rfl) rfl
      · exact .inl rfl
    · exact .inl rfl
  · exact .inl rfl
end FL

namespace FL
open PySem L2 PyProof.Rows
theorem law_true (ns : List Int) (h : ns.length ≤ 63) : r_law [.sc (ns.map .int)] [] = .ok (.bl true) [] := by simp [r_law, h]
/-! the chain -/
def flds : List (Str × List Nat) := [("word", [0]), ("put", [0]), ("keep", [0]), ("turn", [0]), ("deeds", [0]), ("passes", [0]), ("stepper", [2]), ("pending", [2]), ("next_deed", [2]), ("is_stopped", [2]), ("written", [2]), ("many", [2]), ("met", [2]), ("is_endless", [2]), ("seen", [1]), ("own_text", [3]), ("own_events", [3]), ("own_fates", [3])]
def atts : List Str := ["word", "put", "keep", "turn", "deeds", "passes", "stepper", "pending", "next_deed", "is_stopped", "written", "many", "met", "is_endless", "seen", "own_text", "own_events", "own_fates", "pass_number", "field", "text", "events", "fates", "parts_told", "touch", "is_again", "feed", "rest", "write", "leave", "meet", "turned"]
theorem atts_nd : atts.Nodup := by decide +kernel
abbrev tb (K : PySem.W.Frag) (C0 C1 C2 C3 C4 C5 C6 C7 : Addr) : Tb := ⟨K, [C0, C1, C2, C3, C4, C5, C6, C7], atts⟩
structure Facts (K : PySem.W.Frag) (mg : Str → Option Value) (C0 C1 C2 C3 C4 C5 C6 C7 : Addr) : Prop where
  isi : IsiOk K (tb K C0 C1 C2 C3 C4 C5 C6 C7) [0]
  fld : ∀ f cs, (f, cs) ∈ flds → ∀ c ∈ cs, FldOk K (tb K C0 C1 C2 C3 C4 C5 C6 C7) c f
  bl : ∀ x, x ∈ bls → mg x = none
  g0 : mg "Stepper" = some (.ref C0)
  cl0 : Cls K C0
  mk0 : PySem.W.makesIn K C0 = true
  kc0 : PySem.W.keepIn K (.ref C0) = true
  g1 : mg "Loops" = some (.ref C1)
  cl1 : Cls K C1
  mk1 : PySem.W.makesIn K C1 = true
  kc1 : PySem.W.keepIn K (.ref C1) = true
  g2 : mg "Scan" = some (.ref C2)
  cl2 : Cls K C2
  mk2 : PySem.W.makesIn K C2 = true
  kc2 : PySem.W.keepIn K (.ref C2) = true
  g3 : mg "Outcome" = some (.ref C3)
  cl3 : Cls K C3
  mk3 : PySem.W.makesIn K C3 = true
  kc3 : PySem.W.keepIn K (.ref C3) = true
  g4 : mg "HitError" = some (.ref C4)
  g5 : mg "InvalidStepper" = some (.ref C5)
  g6 : mg "InvalidText" = some (.ref C6)
  g7 : mg "Endless" = some (.ref C7)
  xs : XsOk K (tb K C0 C1 C2 C3 C4 C5 C6 C7) exs
  xi : XiOk K (tb K C0 C1 C2 C3 C4 C5 C6 C7) exi
  con_SIGNS : ∃ v val, mg "SIGNS" = some val ∧ RelV v val ∧ ∀ ρ Z H, Rep (tb K C0 C1 C2 C3 C4 C5 C6 C7) ρ Z H v c_SIGNS
  con_MOST_SIGNS : ∃ v val, mg "MOST_SIGNS" = some val ∧ RelV v val ∧ ∀ ρ Z H, Rep (tb K C0 C1 C2 C3 C4 C5 C6 C7) ρ Z H v (.int 3)
  con_MOST_DEEDS : ∃ v val, mg "MOST_DEEDS" = some val ∧ RelV v val ∧ ∀ ρ Z H, Rep (tb K C0 C1 C2 C3 C4 C5 C6 C7) ρ Z H v (.int 3)
  con_KEEPS : ∃ v val, mg "KEEPS" = some val ∧ RelV v val ∧ ∀ ρ Z H, Rep (tb K C0 C1 C2 C3 C4 C5 C6 C7) ρ Z H v c_KEEPS
  con_TURNS : ∃ v val, mg "TURNS" = some val ∧ RelV v val ∧ ∀ ρ Z H, Rep (tb K C0 C1 C2 C3 C4 C5 C6 C7) ρ Z H v c_TURNS
  con_DEEDS : ∃ v val, mg "DEEDS" = some val ∧ RelV v val ∧ ∀ ρ Z H, Rep (tb K C0 C1 C2 C3 C4 C5 C6 C7) ρ Z H v c_DEEDS
  con_MOST_PASSES : ∃ v val, mg "MOST_PASSES" = some val ∧ RelV v val ∧ ∀ ρ Z H, Rep (tb K C0 C1 C2 C3 C4 C5 C6 C7) ρ Z H v (.int 2)
  con_WINDOW : ∃ v val, mg "WINDOW" = some val ∧ RelV v val ∧ ∀ ρ Z H, Rep (tb K C0 C1 C2 C3 C4 C5 C6 C7) ρ Z H v (.int 12)
theorem sc_is_integer : FnScope d_is_integer.N ["value"] (defScope s_is_integer) := ⟨rfl, rfl, rfl, by decide +kernel, rfl, by decide +kernel, by decide +kernel⟩
theorem sc_is_text : FnScope d_is_text.N ["value"] (defScope s_is_text) := ⟨rfl, rfl, rfl, by decide +kernel, rfl, by decide +kernel, by decide +kernel⟩
theorem sc_need_text : FnScope d_need_text.N ["value"] (defScope s_need_text) := ⟨rfl, rfl, rfl, by decide +kernel, rfl, by decide +kernel, by decide +kernel⟩
theorem sc_is_one_of : FnScope d_is_one_of.N ["value", "words"] (defScope s_is_one_of) := ⟨rfl, rfl, rfl, by decide +kernel, rfl, by decide +kernel, by decide +kernel⟩
theorem sc_are_deeds : FnScope d_are_deeds.N ["value"] (defScope s_are_deeds) := ⟨rfl, rfl, rfl, by decide +kernel, rfl, by decide +kernel, by decide +kernel⟩
theorem sc_need_fields : FnScope d_need_fields.N ["word", "put", "keep", "turn", "deeds", "passes"] (defScope s_need_fields) := ⟨rfl, rfl, rfl, by decide +kernel, rfl, by decide +kernel, by decide +kernel⟩
theorem sc_Stepper_init : FnScope d_Stepper_init.N ["self", "word", "put", "keep", "turn", "deeds", "passes"] (defScope s_Stepper_init) := ⟨rfl, rfl, rfl, by decide +kernel, rfl, by decide +kernel, by decide +kernel⟩
theorem sc_place_of : FnScope d_place_of.N ["word", "items"] (defScope s_place_of) := ⟨rfl, rfl, rfl, by decide +kernel, rfl, by decide +kernel, by decide +kernel⟩
theorem sc_beginning_of : FnScope d_beginning_of.N ["word", "items"] (defScope s_beginning_of) := ⟨rfl, rfl, rfl, by decide +kernel, rfl, by decide +kernel, by decide +kernel⟩
theorem sc_Loops_init : FnScope d_Loops_init.N ["self"] (defScope s_Loops_init) := ⟨rfl, rfl, rfl, by decide +kernel, rfl, by decide +kernel, by decide +kernel⟩
theorem sc_Loops_touch : FnScope d_Loops_touch.N ["self", "left"] (defScope s_Loops_touch) := ⟨rfl, rfl, rfl, by decide +kernel, rfl, by decide +kernel, by decide +kernel⟩
theorem sc_Loops_is_again : FnScope d_Loops_is_again.N ["self", "at", "items"] (defScope s_Loops_is_again) := ⟨rfl, rfl, rfl, by decide +kernel, rfl, by decide +kernel, by decide +kernel⟩
theorem sc_Scan_init : FnScope d_Scan_init.N ["self", "stepper", "pending", "at", "is_stopped"] (defScope s_Scan_init) := ⟨rfl, rfl, rfl, by decide +kernel, rfl, by decide +kernel, by decide +kernel⟩
theorem sc_Scan_write : FnScope d_Scan_write.N ["self", "items"] (defScope s_Scan_write) := ⟨rfl, rfl, rfl, by decide +kernel, rfl, by decide +kernel, by decide +kernel⟩
theorem sc_Scan_leave : FnScope d_Scan_leave.N ["self", "many"] (defScope s_Scan_leave) := ⟨rfl, rfl, rfl, by decide +kernel, rfl, by decide +kernel, by decide +kernel⟩
theorem sc_Scan_turned : FnScope d_Scan_turned.N ["self", "many"] (defScope s_Scan_turned) := ⟨rfl, rfl, rfl, by decide +kernel, rfl, by decide +kernel, by decide +kernel⟩
theorem sc_Scan_meet : FnScope d_Scan_meet.N ["self", "place", "loops"] (defScope s_Scan_meet) := ⟨rfl, rfl, rfl, by decide +kernel, rfl, by decide +kernel, by decide +kernel⟩
theorem sc_Scan_feed : FnScope d_Scan_feed.N ["self", "item"] (defScope s_Scan_feed) := ⟨rfl, rfl, rfl, by decide +kernel, rfl, by decide +kernel, by decide +kernel⟩
theorem sc_Scan_rest : FnScope d_Scan_rest.N ["self"] (defScope s_Scan_rest) := ⟨rfl, rfl, rfl, by decide +kernel, rfl, by decide +kernel, by decide +kernel⟩
theorem sc_Outcome_init : FnScope d_Outcome_init.N ["self", "text", "events", "fates"] (defScope s_Outcome_init) := ⟨rfl, rfl, rfl, by decide +kernel, rfl, by decide +kernel, by decide +kernel⟩
theorem sc_Outcome_text : FnScope d_Outcome_text.N ["self"] (defScope s_Outcome_text) := ⟨rfl, rfl, rfl, by decide +kernel, rfl, by decide +kernel, by decide +kernel⟩
theorem sc_Outcome_events : FnScope d_Outcome_events.N ["self"] (defScope s_Outcome_events) := ⟨rfl, rfl, rfl, by decide +kernel, rfl, by decide +kernel, by decide +kernel⟩
theorem sc_Outcome_len : FnScope d_Outcome_len.N ["self"] (defScope s_Outcome_len) := ⟨rfl, rfl, rfl, by decide +kernel, rfl, by decide +kernel, by decide +kernel⟩
theorem sc_old_place : FnScope d_old_place.N ["hit"] (defScope s_old_place) := ⟨rfl, rfl, rfl, by decide +kernel, rfl, by decide +kernel, by decide +kernel⟩
theorem sc_gone_through : FnScope d_gone_through.N ["stepper", "items", "number"] (defScope s_gone_through) := ⟨rfl, rfl, rfl, by decide +kernel, rfl, by decide +kernel, by decide +kernel⟩
theorem sc_fates_of : FnScope d_fates_of.N ["stepper", "text", "items", "events"] (defScope s_fates_of) := ⟨rfl, rfl, rfl, by decide +kernel, rfl, by decide +kernel, by decide +kernel⟩
theorem sc_run : FnScope d_run.N ["stepper", "text"] (defScope s_run) := ⟨rfl, rfl, rfl, by decide +kernel, rfl, by decide +kernel, by decide +kernel⟩
theorem sc__law_random : FnScope d__law_random.N ["_law_script", "_law_salt"] (defScope s__law_random) := ⟨rfl, rfl, rfl, by decide +kernel, rfl, by decide +kernel, by decide +kernel⟩
theorem sc__law_below : FnScope d__law_below.N ["_law_d", "_law_size"] (defScope s__law_below) := ⟨rfl, rfl, rfl, by decide +kernel, rfl, by decide +kernel, by decide +kernel⟩
theorem sc__law_pick : FnScope d__law_pick.N ["_law_d", "_law_items"] (defScope s__law_pick) := ⟨rfl, rfl, rfl, by decide +kernel, rfl, by decide +kernel, by decide +kernel⟩
theorem sc__law_drawn : FnScope d__law_drawn.N ["_law_d"] (defScope s__law_drawn) := ⟨rfl, rfl, rfl, by decide +kernel, rfl, by decide +kernel, by decide +kernel⟩
theorem sc__law_make : FnScope d__law_make.N ["_law_s"] (defScope s__law_make) := ⟨rfl, rfl, rfl, by decide +kernel, rfl, by decide +kernel, by decide +kernel⟩
theorem sc__law_text : FnScope d__law_text.N ["_law_d", "_law_s", "_law_many"] (defScope s__law_text) := ⟨rfl, rfl, rfl, by decide +kernel, rfl, by decide +kernel, by decide +kernel⟩
theorem sc__law_ran : FnScope d__law_ran.N ["_law_s", "_law_text_here"] (defScope s__law_ran) := ⟨rfl, rfl, rfl, by decide +kernel, rfl, by decide +kernel, by decide +kernel⟩
theorem sc__law_bare : FnScope d__law_bare.N ["_law_outcome", "_law_number"] (defScope s__law_bare) := ⟨rfl, rfl, rfl, by decide +kernel, rfl, by decide +kernel, by decide +kernel⟩
theorem sc_law : FnScope d_law.N ["_law_script"] (defScope s_law) := ⟨rfl, rfl, rfl, by decide +kernel, rfl, by decide +kernel, by decide +kernel⟩
theorem sc_InvalidStepper_init : FnScope ["self", "field"] ["self", "field"] (defScope s_InvalidStepper_init) := ⟨rfl, rfl, rfl, by decide +kernel, rfl, by decide +kernel, by decide +kernel⟩
theorem sc_Endless_init : FnScope ["self", "pass_number"] ["self", "pass_number"] (defScope s_Endless_init) := ⟨rfl, rfl, rfl, by decide +kernel, rfl, by decide +kernel, by decide +kernel⟩
section
variable {P : Program} {w : World} {K : PySem.W.Frag} {mg : Str → Option Value} {base : Heap} {C0 C1 C2 C3 C4 C5 C6 C7 : Addr}
set_option maxHeartbeats 4000000 in
theorem chain (F : Facts K mg C0 C1 C2 C3 C4 C5 C6 C7)
    {f_is_integer : Addr} {fd_is_integer : FuncData} (F_is_integer : Fun K "is_integer" "is_integer" s_is_integer f_is_integer fd_is_integer)
    (g_is_integer : mg "is_integer" = some (.ref f_is_integer))
    {f_is_text : Addr} {fd_is_text : FuncData} (F_is_text : Fun K "is_text" "is_text" s_is_text f_is_text fd_is_text)
    (g_is_text : mg "is_text" = some (.ref f_is_text))
    {f_need_text : Addr} {fd_need_text : FuncData} (F_need_text : Fun K "need_text" "need_text" s_need_text f_need_text fd_need_text)
    (g_need_text : mg "need_text" = some (.ref f_need_text))
    {f_is_one_of : Addr} {fd_is_one_of : FuncData} (F_is_one_of : Fun K "is_one_of" "is_one_of" s_is_one_of f_is_one_of fd_is_one_of)
    (g_is_one_of : mg "is_one_of" = some (.ref f_is_one_of))
    {f_are_deeds : Addr} {fd_are_deeds : FuncData} (F_are_deeds : Fun K "are_deeds" "are_deeds" s_are_deeds f_are_deeds fd_are_deeds)
    (g_are_deeds : mg "are_deeds" = some (.ref f_are_deeds))
    {f_need_fields : Addr} {fd_need_fields : FuncData} (F_need_fields : Fun K "need_fields" "need_fields" s_need_fields f_need_fields fd_need_fields)
    (g_need_fields : mg "need_fields" = some (.ref f_need_fields))
    {f_Stepper_init : Addr} {fd_Stepper_init : FuncData} (F_Stepper_init : Fun K "__init__" "Stepper.__init__" s_Stepper_init f_Stepper_init fd_Stepper_init)
    (i_Stepper_init : PySem.W.findIn K (.ref C0) "__init__" = some (some (.ref f_Stepper_init))) (j_Stepper_init : PySem.W.isFn K (.ref f_Stepper_init) = true)
    {f_place_of : Addr} {fd_place_of : FuncData} (F_place_of : Fun K "place_of" "place_of" s_place_of f_place_of fd_place_of)
    (g_place_of : mg "place_of" = some (.ref f_place_of))
    {f_beginning_of : Addr} {fd_beginning_of : FuncData} (F_beginning_of : Fun K "beginning_of" "beginning_of" s_beginning_of f_beginning_of fd_beginning_of)
    (g_beginning_of : mg "beginning_of" = some (.ref f_beginning_of))
    {f_Loops_init : Addr} {fd_Loops_init : FuncData} (F_Loops_init : Fun K "__init__" "Loops.__init__" s_Loops_init f_Loops_init fd_Loops_init)
    (i_Loops_init : PySem.W.findIn K (.ref C1) "__init__" = some (some (.ref f_Loops_init))) (j_Loops_init : PySem.W.isFn K (.ref f_Loops_init) = true)
    {f_Loops_touch : Addr} {fd_Loops_touch : FuncData} (F_Loops_touch : Fun K "touch" "Loops.touch" s_Loops_touch f_Loops_touch fd_Loops_touch)
    (i_Loops_touch : PySem.W.findIn K (.ref C1) "touch" = some (some (.ref f_Loops_touch))) (j_Loops_touch : PySem.W.isFn K (.ref f_Loops_touch) = true)
    {f_Loops_is_again : Addr} {fd_Loops_is_again : FuncData} (F_Loops_is_again : Fun K "is_again" "Loops.is_again" s_Loops_is_again f_Loops_is_again fd_Loops_is_again)
    (i_Loops_is_again : PySem.W.findIn K (.ref C1) "is_again" = some (some (.ref f_Loops_is_again))) (j_Loops_is_again : PySem.W.isFn K (.ref f_Loops_is_again) = true)
    {f_Scan_init : Addr} {fd_Scan_init : FuncData} (F_Scan_init : Fun K "__init__" "Scan.__init__" s_Scan_init f_Scan_init fd_Scan_init)
    (i_Scan_init : PySem.W.findIn K (.ref C2) "__init__" = some (some (.ref f_Scan_init))) (j_Scan_init : PySem.W.isFn K (.ref f_Scan_init) = true)
    {f_Scan_write : Addr} {fd_Scan_write : FuncData} (F_Scan_write : Fun K "write" "Scan.write" s_Scan_write f_Scan_write fd_Scan_write)
    (i_Scan_write : PySem.W.findIn K (.ref C2) "write" = some (some (.ref f_Scan_write))) (j_Scan_write : PySem.W.isFn K (.ref f_Scan_write) = true)
    {f_Scan_leave : Addr} {fd_Scan_leave : FuncData} (F_Scan_leave : Fun K "leave" "Scan.leave" s_Scan_leave f_Scan_leave fd_Scan_leave)
    (i_Scan_leave : PySem.W.findIn K (.ref C2) "leave" = some (some (.ref f_Scan_leave))) (j_Scan_leave : PySem.W.isFn K (.ref f_Scan_leave) = true)
    {f_Scan_turned : Addr} {fd_Scan_turned : FuncData} (F_Scan_turned : Fun K "turned" "Scan.turned" s_Scan_turned f_Scan_turned fd_Scan_turned)
    (i_Scan_turned : PySem.W.findIn K (.ref C2) "turned" = some (some (.ref f_Scan_turned))) (j_Scan_turned : PySem.W.isFn K (.ref f_Scan_turned) = true)
    {f_Scan_meet : Addr} {fd_Scan_meet : FuncData} (F_Scan_meet : Fun K "meet" "Scan.meet" s_Scan_meet f_Scan_meet fd_Scan_meet)
    (i_Scan_meet : PySem.W.findIn K (.ref C2) "meet" = some (some (.ref f_Scan_meet))) (j_Scan_meet : PySem.W.isFn K (.ref f_Scan_meet) = true)
    {f_Scan_feed : Addr} {fd_Scan_feed : FuncData} (F_Scan_feed : Fun K "feed" "Scan.feed" s_Scan_feed f_Scan_feed fd_Scan_feed)
    (i_Scan_feed : PySem.W.findIn K (.ref C2) "feed" = some (some (.ref f_Scan_feed))) (j_Scan_feed : PySem.W.isFn K (.ref f_Scan_feed) = true)
    {f_Scan_rest : Addr} {fd_Scan_rest : FuncData} (F_Scan_rest : Fun K "rest" "Scan.rest" s_Scan_rest f_Scan_rest fd_Scan_rest)
    (i_Scan_rest : PySem.W.findIn K (.ref C2) "rest" = some (some (.ref f_Scan_rest))) (j_Scan_rest : PySem.W.isFn K (.ref f_Scan_rest) = true)
    {f_Outcome_init : Addr} {fd_Outcome_init : FuncData} (F_Outcome_init : Fun K "__init__" "Outcome.__init__" s_Outcome_init f_Outcome_init fd_Outcome_init)
    (i_Outcome_init : PySem.W.findIn K (.ref C3) "__init__" = some (some (.ref f_Outcome_init))) (j_Outcome_init : PySem.W.isFn K (.ref f_Outcome_init) = true)
    {f_Outcome_text : Addr} {fd_Outcome_text : FuncData} (F_Outcome_text : Fun K "text" "Outcome.text" s_Outcome_text f_Outcome_text fd_Outcome_text)
    {p_Outcome_text : Addr} (P_Outcome_text : PropOf K C3 "text" p_Outcome_text f_Outcome_text)
    {f_Outcome_events : Addr} {fd_Outcome_events : FuncData} (F_Outcome_events : Fun K "events" "Outcome.events" s_Outcome_events f_Outcome_events fd_Outcome_events)
    {p_Outcome_events : Addr} (P_Outcome_events : PropOf K C3 "events" p_Outcome_events f_Outcome_events)
    {f_Outcome_len : Addr} {fd_Outcome_len : FuncData} (F_Outcome_len : Fun K "__len__" "Outcome.__len__" s_Outcome_len f_Outcome_len fd_Outcome_len)
    (i_Outcome_len : PySem.W.findIn K (.ref C3) "__len__" = some (some (.ref f_Outcome_len))) (j_Outcome_len : PySem.W.isFn K (.ref f_Outcome_len) = true)
    {f_old_place : Addr} {fd_old_place : FuncData} (F_old_place : Fun K "old_place" "old_place" s_old_place f_old_place fd_old_place)
    (g_old_place : mg "old_place" = some (.ref f_old_place))
    {f_gone_through : Addr} {fd_gone_through : FuncData} (F_gone_through : Fun K "gone_through" "gone_through" s_gone_through f_gone_through fd_gone_through)
    (g_gone_through : mg "gone_through" = some (.ref f_gone_through))
    {f_fates_of : Addr} {fd_fates_of : FuncData} (F_fates_of : Fun K "fates_of" "fates_of" s_fates_of f_fates_of fd_fates_of)
    (g_fates_of : mg "fates_of" = some (.ref f_fates_of))
    {f_run : Addr} {fd_run : FuncData} (F_run : Fun K "run" "run" s_run f_run fd_run)
    (g_run : mg "run" = some (.ref f_run))
    {f__law_random : Addr} {fd__law_random : FuncData} (F__law_random : Fun K "_law_random" "_law_random" s__law_random f__law_random fd__law_random)
    (g__law_random : mg "_law_random" = some (.ref f__law_random))
    {f__law_below : Addr} {fd__law_below : FuncData} (F__law_below : Fun K "_law_below" "_law_below" s__law_below f__law_below fd__law_below)
    (g__law_below : mg "_law_below" = some (.ref f__law_below))
    {f__law_pick : Addr} {fd__law_pick : FuncData} (F__law_pick : Fun K "_law_pick" "_law_pick" s__law_pick f__law_pick fd__law_pick)
    (g__law_pick : mg "_law_pick" = some (.ref f__law_pick))
    {f__law_drawn : Addr} {fd__law_drawn : FuncData} (F__law_drawn : Fun K "_law_drawn" "_law_drawn" s__law_drawn f__law_drawn fd__law_drawn)
    (g__law_drawn : mg "_law_drawn" = some (.ref f__law_drawn))
    {f__law_make : Addr} {fd__law_make : FuncData} (F__law_make : Fun K "_law_make" "_law_make" s__law_make f__law_make fd__law_make)
    (g__law_make : mg "_law_make" = some (.ref f__law_make))
    {f__law_text : Addr} {fd__law_text : FuncData} (F__law_text : Fun K "_law_text" "_law_text" s__law_text f__law_text fd__law_text)
    (g__law_text : mg "_law_text" = some (.ref f__law_text))
    {f__law_ran : Addr} {fd__law_ran : FuncData} (F__law_ran : Fun K "_law_ran" "_law_ran" s__law_ran f__law_ran fd__law_ran)
    (g__law_ran : mg "_law_ran" = some (.ref f__law_ran))
    {f__law_bare : Addr} {fd__law_bare : FuncData} (F__law_bare : Fun K "_law_bare" "_law_bare" s__law_bare f__law_bare fd__law_bare)
    (g__law_bare : mg "_law_bare" = some (.ref f__law_bare))
    {f_law : Addr} {fd_law : FuncData} (F_law : Fun K "law" "law" s_law f_law fd_law)
    (g_law : mg "law" = some (.ref f_law))
    (X_HitError : XcOk P w K mg base (tb K C0 C1 C2 C3 C4 C5 C6 C7) 1 "HitError" (4, none))
    (X_InvalidStepper : XcOk P w K mg base (tb K C0 C1 C2 C3 C4 C5 C6 C7) 1 "InvalidStepper" (5, some 19))
    (X_InvalidText : XcOk P w K mg base (tb K C0 C1 C2 C3 C4 C5 C6 C7) 1 "InvalidText" (6, none))
    (X_Endless : XcOk P w K mg base (tb K C0 C1 C2 C3 C4 C5 C6 C7) 1 "Endless" (7, some 18)) :
    FnOk P w K mg base (L2.CX P w) 16 f_law fd_law ["_law_script"] (spD (tb K C0 C1 C2 C3 C4 C5 C6 C7) 1 r_law) := by
  have t_is_integer : TabOk P w K mg base (tb K C0 C1 C2 C3 C4 C5 C6 C7) 0 d_is_integer := tab_mk (att_of atts_nd K [C0, C1, C2, C3, C4, C5, C6, C7]) trivial F.bl trivial F.isi trivial trivial trivial trivial xs_nil xi_nil
  have O_is_integer : DefOk P w K mg base (tb K C0 C1 C2 C3 C4 C5 C6 C7) 2 f_is_integer 1 r_is_integer := (def_body (n := 40) F_is_integer sc_is_integer (F_is_integer.binds (ps := ["value"]) fun _ _ _ _ _ _ us hl => match us, hl with | [_], _ => rfl) rfl t_is_integer).le le_is_integer
  have t_is_text : TabOk P w K mg base (tb K C0 C1 C2 C3 C4 C5 C6 C7) 0 d_is_text := tab_mk (att_of atts_nd K [C0, C1, C2, C3, C4, C5, C6, C7]) ⟨F.con_SIGNS, trivial⟩ F.bl trivial F.isi trivial trivial trivial trivial xs_nil xi_nil
  have O_is_text : DefOk P w K mg base (tb K C0 C1 C2 C3 C4 C5 C6 C7) 2 f_is_text 1 r_is_text := (def_body (n := 40) F_is_text sc_is_text (F_is_text.binds (ps := ["value"]) fun _ _ _ _ _ _ us hl => match us, hl with | [_], _ => rfl) rfl t_is_text).le le_is_text
  have t_need_text : TabOk P w K mg base (tb K C0 C1 C2 C3 C4 C5 C6 C7) 2 d_need_text := tab_mk (att_of atts_nd K [C0, C1, C2, C3, C4, C5, C6, C7]) ⟨⟨f_is_text, g_is_text, F_is_text.kp, O_is_text.mono (by decide)⟩, trivial⟩ F.bl trivial F.isi trivial trivial trivial ⟨X_InvalidText.mono (by decide), trivial⟩ F.xs F.xi
  have O_need_text : DefOk P w K mg base (tb K C0 C1 C2 C3 C4 C5 C6 C7) 4 f_need_text 1 r_need_text := (def_body (n := 40) F_need_text sc_need_text (F_need_text.binds (ps := ["value"]) fun _ _ _ _ _ _ us hl => match us, hl with | [_], _ => rfl) rfl t_need_text).le le_need_text
  have t_is_one_of : TabOk P w K mg base (tb K C0 C1 C2 C3 C4 C5 C6 C7) 0 d_is_one_of := tab_mk (att_of atts_nd K [C0, C1, C2, C3, C4, C5, C6, C7]) trivial F.bl trivial F.isi trivial trivial trivial trivial xs_nil xi_nil
  have O_is_one_of : DefOk P w K mg base (tb K C0 C1 C2 C3 C4 C5 C6 C7) 2 f_is_one_of 2 r_is_one_of := (def_body (n := 40) F_is_one_of sc_is_one_of (F_is_one_of.binds (ps := ["value", "words"]) fun _ _ _ _ _ _ us hl => match us, hl with | [_, _], _ => rfl) rfl t_is_one_of).le le_is_one_of
  have t_are_deeds : TabOk P w K mg base (tb K C0 C1 C2 C3 C4 C5 C6 C7) 2 d_are_deeds := tab_mk (att_of atts_nd K [C0, C1, C2, C3, C4, C5, C6, C7]) ⟨⟨f_is_one_of, g_is_one_of, F_is_one_of.kp, O_is_one_of.mono (by decide)⟩, F.con_DEEDS, F.con_MOST_DEEDS, trivial⟩ F.bl trivial F.isi trivial trivial trivial trivial xs_nil xi_nil
  have O_are_deeds : DefOk P w K mg base (tb K C0 C1 C2 C3 C4 C5 C6 C7) 4 f_are_deeds 1 r_are_deeds := (def_body (n := 40) F_are_deeds sc_are_deeds (F_are_deeds.binds (ps := ["value"]) fun _ _ _ _ _ _ us hl => match us, hl with | [_], _ => rfl) rfl t_are_deeds).le le_are_deeds
  have t_need_fields : TabOk P w K mg base (tb K C0 C1 C2 C3 C4 C5 C6 C7) 4 d_need_fields := tab_mk (att_of atts_nd K [C0, C1, C2, C3, C4, C5, C6, C7]) ⟨F.con_MOST_PASSES, ⟨f_is_integer, g_is_integer, F_is_integer.kp, O_is_integer.mono (by decide)⟩, ⟨f_are_deeds, g_are_deeds, F_are_deeds.kp, O_are_deeds.mono (by decide)⟩, ⟨f_is_one_of, g_is_one_of, F_is_one_of.kp, O_is_one_of.mono (by decide)⟩, F.con_TURNS, F.con_KEEPS, F.con_MOST_SIGNS, ⟨f_is_text, g_is_text, F_is_text.kp, O_is_text.mono (by decide)⟩, trivial⟩ F.bl trivial F.isi trivial trivial trivial ⟨X_InvalidStepper.mono (by decide), trivial⟩ F.xs F.xi
  have O_need_fields : DefOk P w K mg base (tb K C0 C1 C2 C3 C4 C5 C6 C7) 6 f_need_fields 6 r_need_fields := (def_body (n := 40) F_need_fields sc_need_fields (F_need_fields.binds (ps := ["word", "put", "keep", "turn", "deeds", "passes"]) fun _ _ _ _ _ _ us hl => match us, hl with | [_, _, _, _, _, _], _ => rfl) rfl t_need_fields).le le_need_fields
  have t_Stepper_init : TabOk P w K mg base (tb K C0 C1 C2 C3 C4 C5 C6 C7) 6 d_Stepper_init := tab_mk (att_of atts_nd K [C0, C1, C2, C3, C4, C5, C6, C7]) ⟨⟨f_need_fields, g_need_fields, F_need_fields.kp, O_need_fields.mono (by decide)⟩, trivial⟩ F.bl trivial F.isi ⟨⟨rfl, F.fld _ _ (List.mem_of_getElem? (i := 0) rfl), trivial⟩, ⟨rfl, F.fld _ _ (List.mem_of_getElem? (i := 1) rfl), trivial⟩, ⟨rfl, F.fld _ _ (List.mem_of_getElem? (i := 2) rfl), trivial⟩, ⟨rfl, F.fld _ _ (List.mem_of_getElem? (i := 3) rfl), trivial⟩, ⟨rfl, F.fld _ _ (List.mem_of_getElem? (i := 4) rfl), trivial⟩, ⟨rfl, F.fld _ _ (List.mem_of_getElem? (i := 5) rfl), trivial⟩, trivial⟩ trivial trivial trivial xs_nil xi_nil
  have O_Stepper_init : FnOk P w K mg base (L2.CX P w) 8 f_Stepper_init fd_Stepper_init _ (spD (tb K C0 C1 C2 C3 C4 C5 C6 C7) 7 r_Stepper_init) := FnOk.leC (fn_body (n := 40) F_Stepper_init sc_Stepper_init rfl t_Stepper_init) (Le.c le_Stepper_init)
  have t_place_of : TabOk P w K mg base (tb K C0 C1 C2 C3 C4 C5 C6 C7) 0 d_place_of := tab_mk (att_of atts_nd K [C0, C1, C2, C3, C4, C5, C6, C7]) trivial F.bl trivial F.isi trivial trivial trivial trivial xs_nil xi_nil
  have O_place_of : DefOk P w K mg base (tb K C0 C1 C2 C3 C4 C5 C6 C7) 2 f_place_of 2 r_place_of := (def_body (n := 40) F_place_of sc_place_of (F_place_of.binds (ps := ["word", "items"]) fun _ _ _ _ _ _ us hl => match us, hl with | [_, _], _ => rfl) rfl t_place_of).le le_place_of
  have t_beginning_of : TabOk P w K mg base (tb K C0 C1 C2 C3 C4 C5 C6 C7) 0 d_beginning_of := tab_mk (att_of atts_nd K [C0, C1, C2, C3, C4, C5, C6, C7]) trivial F.bl trivial F.isi trivial trivial trivial trivial xs_nil xi_nil
  have O_beginning_of : DefOk P w K mg base (tb K C0 C1 C2 C3 C4 C5 C6 C7) 2 f_beginning_of 2 r_beginning_of := (def_body (n := 40) F_beginning_of sc_beginning_of (F_beginning_of.binds (ps := ["word", "items"]) fun _ _ _ _ _ _ us hl => match us, hl with | [_, _], _ => rfl) rfl t_beginning_of).le le_beginning_of
  have t_Loops_init : TabOk P w K mg base (tb K C0 C1 C2 C3 C4 C5 C6 C7) 0 d_Loops_init := tab_mk (att_of atts_nd K [C0, C1, C2, C3, C4, C5, C6, C7]) trivial F.bl trivial F.isi ⟨⟨rfl, F.fld _ _ (List.mem_of_getElem? (i := 14) rfl), trivial⟩, trivial⟩ trivial trivial trivial xs_nil xi_nil
  have O_Loops_init : DefOk P w K mg base (tb K C0 C1 C2 C3 C4 C5 C6 C7) 2 f_Loops_init 1 r_Loops_init := (def_body (n := 40) F_Loops_init sc_Loops_init (F_Loops_init.binds (ps := ["self"]) fun _ _ _ _ _ _ us hl => match us, hl with | [_], _ => rfl) rfl t_Loops_init).le le_Loops_init
  have t_Loops_touch : TabOk P w K mg base (tb K C0 C1 C2 C3 C4 C5 C6 C7) 0 d_Loops_touch := tab_mk (att_of atts_nd K [C0, C1, C2, C3, C4, C5, C6, C7]) trivial F.bl trivial F.isi ⟨⟨rfl, F.fld _ _ (List.mem_of_getElem? (i := 14) rfl), trivial⟩, trivial⟩ trivial trivial trivial xs_nil xi_nil
  have O_Loops_touch : DefOk P w K mg base (tb K C0 C1 C2 C3 C4 C5 C6 C7) 2 f_Loops_touch 2 r_Loops_touch := (def_body (n := 40) F_Loops_touch sc_Loops_touch (F_Loops_touch.binds (ps := ["self", "left"]) fun _ _ _ _ _ _ us hl => match us, hl with | [_, _], _ => rfl) rfl t_Loops_touch).le le_Loops_touch
  have t_Loops_is_again : TabOk P w K mg base (tb K C0 C1 C2 C3 C4 C5 C6 C7) 0 d_Loops_is_again := tab_mk (att_of atts_nd K [C0, C1, C2, C3, C4, C5, C6, C7]) ⟨F.con_WINDOW, trivial⟩ F.bl trivial F.isi ⟨⟨rfl, F.fld _ _ (List.mem_of_getElem? (i := 14) rfl), trivial⟩, trivial⟩ trivial trivial trivial xs_nil xi_nil
  have O_Loops_is_again : DefOk P w K mg base (tb K C0 C1 C2 C3 C4 C5 C6 C7) 2 f_Loops_is_again 3 r_Loops_is_again := (def_body (n := 40) F_Loops_is_again sc_Loops_is_again (F_Loops_is_again.binds (ps := ["self", "at", "items"]) fun _ _ _ _ _ _ us hl => match us, hl with | [_, _, _], _ => rfl) rfl t_Loops_is_again).le le_Loops_is_again
  have t_Scan_init : TabOk P w K mg base (tb K C0 C1 C2 C3 C4 C5 C6 C7) 0 d_Scan_init := tab_mk (att_of atts_nd K [C0, C1, C2, C3, C4, C5, C6, C7]) trivial F.bl trivial F.isi ⟨⟨rfl, F.fld _ _ (List.mem_of_getElem? (i := 6) rfl), trivial⟩, ⟨rfl, F.fld _ _ (List.mem_of_getElem? (i := 7) rfl), trivial⟩, ⟨rfl, F.fld _ _ (List.mem_of_getElem? (i := 8) rfl), trivial⟩, ⟨rfl, F.fld _ _ (List.mem_of_getElem? (i := 9) rfl), trivial⟩, ⟨rfl, F.fld _ _ (List.mem_of_getElem? (i := 10) rfl), trivial⟩, ⟨rfl, F.fld _ _ (List.mem_of_getElem? (i := 11) rfl), trivial⟩, ⟨rfl, F.fld _ _ (List.mem_of_getElem? (i := 12) rfl), trivial⟩, ⟨rfl, F.fld _ _ (List.mem_of_getElem? (i := 13) rfl), trivial⟩, trivial⟩ trivial trivial trivial xs_nil xi_nil
  have O_Scan_init : DefOk P w K mg base (tb K C0 C1 C2 C3 C4 C5 C6 C7) 2 f_Scan_init 5 r_Scan_init := (def_body (n := 40) F_Scan_init sc_Scan_init (F_Scan_init.binds (ps := ["self", "stepper", "pending", "at", "is_stopped"]) fun _ _ _ _ _ _ us hl => match us, hl with | [_, _, _, _, _], _ => rfl) rfl t_Scan_init).le le_Scan_init
  have t_Scan_write : TabOk P w K mg base (tb K C0 C1 C2 C3 C4 C5 C6 C7) 0 d_Scan_write := tab_mk (att_of atts_nd K [C0, C1, C2, C3, C4, C5, C6, C7]) trivial F.bl trivial F.isi ⟨⟨rfl, F.fld _ _ (List.mem_of_getElem? (i := 10) rfl), trivial⟩, ⟨rfl, F.fld _ _ (List.mem_of_getElem? (i := 11) rfl), trivial⟩, trivial⟩ trivial trivial trivial xs_nil xi_nil
  have O_Scan_write : DefOk P w K mg base (tb K C0 C1 C2 C3 C4 C5 C6 C7) 2 f_Scan_write 2 r_Scan_write := (def_body (n := 40) F_Scan_write sc_Scan_write (F_Scan_write.binds (ps := ["self", "items"]) fun _ _ _ _ _ _ us hl => match us, hl with | [_, _], _ => rfl) rfl t_Scan_write).le le_Scan_write
  have t_Scan_leave : TabOk P w K mg base (tb K C0 C1 C2 C3 C4 C5 C6 C7) 2 d_Scan_leave := tab_mk (att_of atts_nd K [C0, C1, C2, C3, C4, C5, C6, C7]) trivial F.bl trivial F.isi ⟨⟨rfl, F.fld _ _ (List.mem_of_getElem? (i := 7) rfl), trivial⟩, trivial⟩ ⟨⟨List.cons_ne_nil _ _, ⟨⟨⟨C2, f_Scan_write, rfl, F.cl2, ⟨i_Scan_write, j_Scan_write, F_Scan_write.kp⟩, rfl, O_Scan_write.mono (by decide)⟩⟩, trivial⟩⟩, trivial⟩ trivial trivial xs_nil xi_nil
  have O_Scan_leave : DefOk P w K mg base (tb K C0 C1 C2 C3 C4 C5 C6 C7) 4 f_Scan_leave 2 r_Scan_leave := (def_body (n := 40) F_Scan_leave sc_Scan_leave (F_Scan_leave.binds (ps := ["self", "many"]) fun _ _ _ _ _ _ us hl => match us, hl with | [_, _], _ => rfl) rfl t_Scan_leave).le le_Scan_leave
  have t_Scan_turned : TabOk P w K mg base (tb K C0 C1 C2 C3 C4 C5 C6 C7) 0 d_Scan_turned := tab_mk (att_of atts_nd K [C0, C1, C2, C3, C4, C5, C6, C7]) trivial F.bl trivial F.isi ⟨⟨rfl, F.fld _ _ (List.mem_of_getElem? (i := 3) rfl), trivial⟩, ⟨rfl, F.fld _ _ (List.mem_of_getElem? (i := 6) rfl), trivial⟩, trivial⟩ trivial trivial trivial xs_nil xi_nil
  have O_Scan_turned : DefOk P w K mg base (tb K C0 C1 C2 C3 C4 C5 C6 C7) 2 f_Scan_turned 2 r_Scan_turned := (def_body (n := 40) F_Scan_turned sc_Scan_turned (F_Scan_turned.binds (ps := ["self", "many"]) fun _ _ _ _ _ _ us hl => match us, hl with | [_, _], _ => rfl) rfl t_Scan_turned).le le_Scan_turned
  have t_Scan_meet : TabOk P w K mg base (tb K C0 C1 C2 C3 C4 C5 C6 C7) 4 d_Scan_meet := tab_mk (att_of atts_nd K [C0, C1, C2, C3, C4, C5, C6, C7]) trivial F.bl trivial F.isi ⟨⟨rfl, F.fld _ _ (List.mem_of_getElem? (i := 0) rfl), trivial⟩, ⟨rfl, F.fld _ _ (List.mem_of_getElem? (i := 1) rfl), trivial⟩, ⟨rfl, F.fld _ _ (List.mem_of_getElem? (i := 2) rfl), trivial⟩, ⟨rfl, F.fld _ _ (List.mem_of_getElem? (i := 4) rfl), trivial⟩, ⟨rfl, F.fld _ _ (List.mem_of_getElem? (i := 6) rfl), trivial⟩, ⟨rfl, F.fld _ _ (List.mem_of_getElem? (i := 7) rfl), trivial⟩, ⟨rfl, F.fld _ _ (List.mem_of_getElem? (i := 8) rfl), trivial⟩, ⟨rfl, F.fld _ _ (List.mem_of_getElem? (i := 9) rfl), trivial⟩, ⟨rfl, F.fld _ _ (List.mem_of_getElem? (i := 11) rfl), trivial⟩, ⟨rfl, F.fld _ _ (List.mem_of_getElem? (i := 12) rfl), trivial⟩, ⟨rfl, F.fld _ _ (List.mem_of_getElem? (i := 13) rfl), trivial⟩, trivial⟩ ⟨⟨List.cons_ne_nil _ _, ⟨⟨⟨C2, f_Scan_leave, rfl, F.cl2, ⟨i_Scan_leave, j_Scan_leave, F_Scan_leave.kp⟩, rfl, O_Scan_leave.mono (by decide)⟩⟩, trivial⟩⟩, ⟨List.cons_ne_nil _ _, ⟨⟨⟨C1, f_Loops_is_again, rfl, F.cl1, ⟨i_Loops_is_again, j_Loops_is_again, F_Loops_is_again.kp⟩, rfl, O_Loops_is_again.mono (by decide)⟩⟩, trivial⟩⟩, ⟨List.cons_ne_nil _ _, ⟨⟨⟨C2, f_Scan_turned, rfl, F.cl2, ⟨i_Scan_turned, j_Scan_turned, F_Scan_turned.kp⟩, rfl, O_Scan_turned.mono (by decide)⟩⟩, trivial⟩⟩, ⟨List.cons_ne_nil _ _, ⟨⟨⟨C1, f_Loops_touch, rfl, F.cl1, ⟨i_Loops_touch, j_Loops_touch, F_Loops_touch.kp⟩, rfl, O_Loops_touch.mono (by decide)⟩⟩, trivial⟩⟩, trivial⟩ trivial trivial xs_nil xi_nil
  have O_Scan_meet : DefOk P w K mg base (tb K C0 C1 C2 C3 C4 C5 C6 C7) 6 f_Scan_meet 3 r_Scan_meet := (def_body (n := 40) F_Scan_meet sc_Scan_meet (F_Scan_meet.binds (ps := ["self", "place", "loops"]) fun _ _ _ _ _ _ us hl => match us, hl with | [_, _, _], _ => rfl) rfl t_Scan_meet).le le_Scan_meet
  have t_Scan_feed : TabOk P w K mg base (tb K C0 C1 C2 C3 C4 C5 C6 C7) 6 d_Scan_feed := tab_mk (att_of atts_nd K [C0, C1, C2, C3, C4, C5, C6, C7]) ⟨⟨f_beginning_of, g_beginning_of, F_beginning_of.kp, O_beginning_of.mono (by decide)⟩, ⟨f_place_of, g_place_of, F_place_of.kp, O_place_of.mono (by decide)⟩, ⟨C1, f_Loops_init, rfl, F.g1, ⟨F.mk1, i_Loops_init, j_Loops_init, F.kc1⟩, O_Loops_init.mono (by decide)⟩, trivial⟩ F.bl trivial F.isi ⟨⟨rfl, F.fld _ _ (List.mem_of_getElem? (i := 0) rfl), trivial⟩, ⟨rfl, F.fld _ _ (List.mem_of_getElem? (i := 6) rfl), trivial⟩, ⟨rfl, F.fld _ _ (List.mem_of_getElem? (i := 7) rfl), trivial⟩, ⟨rfl, F.fld _ _ (List.mem_of_getElem? (i := 9) rfl), trivial⟩, ⟨rfl, F.fld _ _ (List.mem_of_getElem? (i := 10) rfl), trivial⟩, ⟨rfl, F.fld _ _ (List.mem_of_getElem? (i := 13) rfl), trivial⟩, trivial⟩ ⟨⟨List.cons_ne_nil _ _, ⟨⟨⟨C2, f_Scan_write, rfl, F.cl2, ⟨i_Scan_write, j_Scan_write, F_Scan_write.kp⟩, rfl, O_Scan_write.mono (by decide)⟩⟩, trivial⟩⟩, ⟨List.cons_ne_nil _ _, ⟨⟨⟨C2, f_Scan_leave, rfl, F.cl2, ⟨i_Scan_leave, j_Scan_leave, F_Scan_leave.kp⟩, rfl, O_Scan_leave.mono (by decide)⟩⟩, trivial⟩⟩, ⟨List.cons_ne_nil _ _, ⟨⟨⟨C2, f_Scan_meet, rfl, F.cl2, ⟨i_Scan_meet, j_Scan_meet, F_Scan_meet.kp⟩, rfl, O_Scan_meet.mono (by decide)⟩⟩, trivial⟩⟩, trivial⟩ trivial trivial xs_nil xi_nil
  have O_Scan_feed : DefOk P w K mg base (tb K C0 C1 C2 C3 C4 C5 C6 C7) 8 f_Scan_feed 2 r_Scan_feed := (def_body (n := 40) F_Scan_feed sc_Scan_feed (F_Scan_feed.binds (ps := ["self", "item"]) fun _ _ _ _ _ _ us hl => match us, hl with | [_, _], _ => rfl) rfl t_Scan_feed).le le_Scan_feed
  have t_Scan_rest : TabOk P w K mg base (tb K C0 C1 C2 C3 C4 C5 C6 C7) 4 d_Scan_rest := tab_mk (att_of atts_nd K [C0, C1, C2, C3, C4, C5, C6, C7]) trivial F.bl trivial F.isi ⟨⟨rfl, F.fld _ _ (List.mem_of_getElem? (i := 7) rfl), trivial⟩, ⟨rfl, F.fld _ _ (List.mem_of_getElem? (i := 10) rfl), trivial⟩, trivial⟩ ⟨⟨List.cons_ne_nil _ _, ⟨⟨⟨C2, f_Scan_leave, rfl, F.cl2, ⟨i_Scan_leave, j_Scan_leave, F_Scan_leave.kp⟩, rfl, O_Scan_leave.mono (by decide)⟩⟩, trivial⟩⟩, trivial⟩ trivial trivial xs_nil xi_nil
  have O_Scan_rest : DefOk P w K mg base (tb K C0 C1 C2 C3 C4 C5 C6 C7) 6 f_Scan_rest 1 r_Scan_rest := (def_body (n := 40) F_Scan_rest sc_Scan_rest (F_Scan_rest.binds (ps := ["self"]) fun _ _ _ _ _ _ us hl => match us, hl with | [_], _ => rfl) rfl t_Scan_rest).le le_Scan_rest
  have t_Outcome_init : TabOk P w K mg base (tb K C0 C1 C2 C3 C4 C5 C6 C7) 0 d_Outcome_init := tab_mk (att_of atts_nd K [C0, C1, C2, C3, C4, C5, C6, C7]) trivial F.bl trivial F.isi ⟨⟨rfl, F.fld _ _ (List.mem_of_getElem? (i := 15) rfl), trivial⟩, ⟨rfl, F.fld _ _ (List.mem_of_getElem? (i := 16) rfl), trivial⟩, ⟨rfl, F.fld _ _ (List.mem_of_getElem? (i := 17) rfl), trivial⟩, trivial⟩ trivial trivial trivial xs_nil xi_nil
  have O_Outcome_init : DefOk P w K mg base (tb K C0 C1 C2 C3 C4 C5 C6 C7) 2 f_Outcome_init 4 r_Outcome_init := (def_body (n := 40) F_Outcome_init sc_Outcome_init (F_Outcome_init.binds (ps := ["self", "text", "events", "fates"]) fun _ _ _ _ _ _ us hl => match us, hl with | [_, _, _, _], _ => rfl) rfl t_Outcome_init).le le_Outcome_init
  have t_Outcome_text : TabOk P w K mg base (tb K C0 C1 C2 C3 C4 C5 C6 C7) 0 d_Outcome_text := tab_mk (att_of atts_nd K [C0, C1, C2, C3, C4, C5, C6, C7]) trivial F.bl trivial F.isi ⟨⟨rfl, F.fld _ _ (List.mem_of_getElem? (i := 15) rfl), trivial⟩, trivial⟩ trivial trivial trivial xs_nil xi_nil
  have O_Outcome_text : DefOk P w K mg base (tb K C0 C1 C2 C3 C4 C5 C6 C7) 2 f_Outcome_text 1 r_Outcome_text := (def_body (n := 40) F_Outcome_text sc_Outcome_text (F_Outcome_text.binds (ps := ["self"]) fun _ _ _ _ _ _ us hl => match us, hl with | [_], _ => rfl) rfl t_Outcome_text).le le_Outcome_text
  have t_Outcome_events : TabOk P w K mg base (tb K C0 C1 C2 C3 C4 C5 C6 C7) 0 d_Outcome_events := tab_mk (att_of atts_nd K [C0, C1, C2, C3, C4, C5, C6, C7]) trivial F.bl trivial F.isi ⟨⟨rfl, F.fld _ _ (List.mem_of_getElem? (i := 16) rfl), trivial⟩, trivial⟩ trivial trivial trivial xs_nil xi_nil
  have O_Outcome_events : DefOk P w K mg base (tb K C0 C1 C2 C3 C4 C5 C6 C7) 2 f_Outcome_events 1 r_Outcome_events := (def_body (n := 40) F_Outcome_events sc_Outcome_events (F_Outcome_events.binds (ps := ["self"]) fun _ _ _ _ _ _ us hl => match us, hl with | [_], _ => rfl) rfl t_Outcome_events).le le_Outcome_events
  have t_Outcome_len : TabOk P w K mg base (tb K C0 C1 C2 C3 C4 C5 C6 C7) 0 d_Outcome_len := tab_mk (att_of atts_nd K [C0, C1, C2, C3, C4, C5, C6, C7]) trivial F.bl trivial F.isi ⟨⟨rfl, F.fld _ _ (List.mem_of_getElem? (i := 16) rfl), trivial⟩, trivial⟩ trivial trivial trivial xs_nil xi_nil
  have O_Outcome_len : DefOk P w K mg base (tb K C0 C1 C2 C3 C4 C5 C6 C7) 2 f_Outcome_len 1 r_Outcome_len := (def_body (n := 40) F_Outcome_len sc_Outcome_len (F_Outcome_len.binds (ps := ["self"]) fun _ _ _ _ _ _ us hl => match us, hl with | [_], _ => rfl) rfl t_Outcome_len).le le_Outcome_len
  have t_old_place : TabOk P w K mg base (tb K C0 C1 C2 C3 C4 C5 C6 C7) 0 d_old_place := tab_mk (att_of atts_nd K [C0, C1, C2, C3, C4, C5, C6, C7]) trivial F.bl trivial F.isi trivial trivial trivial trivial xs_nil xi_nil
  have O_old_place : DefOk P w K mg base (tb K C0 C1 C2 C3 C4 C5 C6 C7) 2 f_old_place 1 r_old_place := (def_body (n := 40) F_old_place sc_old_place (F_old_place.binds (ps := ["hit"]) fun _ _ _ _ _ _ us hl => match us, hl with | [_], _ => rfl) rfl t_old_place).le le_old_place
  have t_gone_through : TabOk P w K mg base (tb K C0 C1 C2 C3 C4 C5 C6 C7) 8 d_gone_through := tab_mk (att_of atts_nd K [C0, C1, C2, C3, C4, C5, C6, C7]) ⟨⟨f_old_place, g_old_place, F_old_place.kp, O_old_place.mono (by decide)⟩, ⟨C2, f_Scan_init, rfl, F.g2, ⟨F.mk2, i_Scan_init, j_Scan_init, F.kc2⟩, O_Scan_init.mono (by decide)⟩, trivial⟩ F.bl trivial F.isi ⟨⟨rfl, F.fld _ _ (List.mem_of_getElem? (i := 12) rfl), trivial⟩, ⟨rfl, F.fld _ _ (List.mem_of_getElem? (i := 13) rfl), trivial⟩, trivial⟩ ⟨⟨List.cons_ne_nil _ _, ⟨⟨⟨C2, f_Scan_rest, rfl, F.cl2, ⟨i_Scan_rest, j_Scan_rest, F_Scan_rest.kp⟩, rfl, O_Scan_rest.mono (by decide)⟩⟩, trivial⟩⟩, ⟨List.cons_ne_nil _ _, ⟨⟨⟨C2, f_Scan_feed, rfl, F.cl2, ⟨i_Scan_feed, j_Scan_feed, F_Scan_feed.kp⟩, rfl, O_Scan_feed.mono (by decide)⟩⟩, trivial⟩⟩, trivial⟩ trivial ⟨X_Endless.mono (by decide), trivial⟩ F.xs F.xi
  have O_gone_through : DefOk P w K mg base (tb K C0 C1 C2 C3 C4 C5 C6 C7) 10 f_gone_through 3 r_gone_through := (def_body (n := 40) F_gone_through sc_gone_through (F_gone_through.binds (ps := ["stepper", "items", "number"]) fun _ _ _ _ _ _ us hl => match us, hl with | [_, _, _], _ => rfl) rfl t_gone_through).leC le_gone_through
  have t_fates_of : TabOk P w K mg base (tb K C0 C1 C2 C3 C4 C5 C6 C7) 0 d_fates_of := tab_mk (att_of atts_nd K [C0, C1, C2, C3, C4, C5, C6, C7]) trivial F.bl trivial F.isi ⟨⟨rfl, F.fld _ _ (List.mem_of_getElem? (i := 0) rfl), trivial⟩, trivial⟩ trivial trivial trivial xs_nil xi_nil
  have O_fates_of : DefOk P w K mg base (tb K C0 C1 C2 C3 C4 C5 C6 C7) 2 f_fates_of 4 r_fates_of := (def_body (n := 40) F_fates_of sc_fates_of (F_fates_of.binds (ps := ["stepper", "text", "items", "events"]) fun _ _ _ _ _ _ us hl => match us, hl with | [_, _, _, _], _ => rfl) rfl t_fates_of).leC le_fates_of
  have t_run : TabOk P w K mg base (tb K C0 C1 C2 C3 C4 C5 C6 C7) 10 d_run := tab_mk (att_of atts_nd K [C0, C1, C2, C3, C4, C5, C6, C7]) ⟨⟨C3, f_Outcome_init, rfl, F.g3, ⟨F.mk3, i_Outcome_init, j_Outcome_init, F.kc3⟩, O_Outcome_init.mono (by decide)⟩, ⟨f_fates_of, g_fates_of, F_fates_of.kp, O_fates_of.mono (by decide)⟩, ⟨f_gone_through, g_gone_through, F_gone_through.kp, O_gone_through.mono (by decide)⟩, ⟨f_need_text, g_need_text, F_need_text.kp, O_need_text.mono (by decide)⟩, trivial⟩ F.bl trivial F.isi ⟨⟨rfl, F.fld _ _ (List.mem_of_getElem? (i := 5) rfl), trivial⟩, trivial⟩ trivial trivial trivial xs_nil xi_nil
  have O_run : DefOk P w K mg base (tb K C0 C1 C2 C3 C4 C5 C6 C7) 12 f_run 2 r_run := (def_body (n := 40) F_run sc_run (F_run.binds (ps := ["stepper", "text"]) fun _ _ _ _ _ _ us hl => match us, hl with | [_, _], _ => rfl) rfl t_run).leC le_run
  have t__law_random : TabOk P w K mg base (tb K C0 C1 C2 C3 C4 C5 C6 C7) 0 d__law_random := tab_mk (att_of atts_nd K [C0, C1, C2, C3, C4, C5, C6, C7]) trivial F.bl trivial F.isi trivial trivial trivial trivial xs_nil xi_nil
  have O__law_random : DefOk P w K mg base (tb K C0 C1 C2 C3 C4 C5 C6 C7) 2 f__law_random 2 r__law_random := (def_body (n := 40) F__law_random sc__law_random (F__law_random.binds (ps := ["_law_script", "_law_salt"]) fun _ _ _ _ _ _ us hl => match us, hl with | [_, _], _ => rfl) rfl t__law_random).le le__law_random
  have t__law_below : TabOk P w K mg base (tb K C0 C1 C2 C3 C4 C5 C6 C7) 0 d__law_below := tab_mk (att_of atts_nd K [C0, C1, C2, C3, C4, C5, C6, C7]) trivial F.bl trivial F.isi trivial trivial trivial trivial xs_nil xi_nil
  have O__law_below : DefOk P w K mg base (tb K C0 C1 C2 C3 C4 C5 C6 C7) 2 f__law_below 2 r__law_below := (def_body (n := 40) F__law_below sc__law_below (F__law_below.binds (ps := ["_law_d", "_law_size"]) fun _ _ _ _ _ _ us hl => match us, hl with | [_, _], _ => rfl) rfl t__law_below).le le__law_below
  have t__law_pick : TabOk P w K mg base (tb K C0 C1 C2 C3 C4 C5 C6 C7) 2 d__law_pick := tab_mk (att_of atts_nd K [C0, C1, C2, C3, C4, C5, C6, C7]) ⟨⟨f__law_below, g__law_below, F__law_below.kp, O__law_below.mono (by decide)⟩, trivial⟩ F.bl trivial F.isi trivial trivial trivial trivial xs_nil xi_nil
  have O__law_pick : DefOk P w K mg base (tb K C0 C1 C2 C3 C4 C5 C6 C7) 4 f__law_pick 2 r__law_pick := (def_body (n := 40) F__law_pick sc__law_pick (F__law_pick.binds (ps := ["_law_d", "_law_items"]) fun _ _ _ _ _ _ us hl => match us, hl with | [_, _], _ => rfl) rfl t__law_pick).le le__law_pick
  have t__law_drawn : TabOk P w K mg base (tb K C0 C1 C2 C3 C4 C5 C6 C7) 4 d__law_drawn := tab_mk (att_of atts_nd K [C0, C1, C2, C3, C4, C5, C6, C7]) ⟨⟨f__law_pick, g__law_pick, F__law_pick.kp, O__law_pick.mono (by decide)⟩, ⟨f__law_below, g__law_below, F__law_below.kp, O__law_below.mono (by decide)⟩, trivial⟩ F.bl trivial F.isi trivial trivial trivial trivial xs_nil xi_nil
  have O__law_drawn : DefOk P w K mg base (tb K C0 C1 C2 C3 C4 C5 C6 C7) 6 f__law_drawn 1 r__law_drawn := (def_body (n := 40) F__law_drawn sc__law_drawn (F__law_drawn.binds (ps := ["_law_d"]) fun _ _ _ _ _ _ us hl => match us, hl with | [_], _ => rfl) rfl t__law_drawn).le le__law_drawn
  have t__law_make : TabOk P w K mg base (tb K C0 C1 C2 C3 C4 C5 C6 C7) 8 d__law_make := tab_mk (att_of atts_nd K [C0, C1, C2, C3, C4, C5, C6, C7]) ⟨⟨C0, f_Stepper_init, fd_Stepper_init, _, rfl, F.g0, ⟨F.mk0, i_Stepper_init, j_Stepper_init, F.kc0⟩, kbn_of (n := 3) F_Stepper_init (fun _ _ _ _ _ _ us ws l1 l2 => match us, l1, ws, l2 with | [_, _, _], _, [_, _, _, _], _ => rfl), FnOk.mono O_Stepper_init (by decide)⟩, trivial⟩ F.bl trivial F.isi trivial trivial trivial trivial xs_nil xi_nil
  have O__law_make : DefOk P w K mg base (tb K C0 C1 C2 C3 C4 C5 C6 C7) 10 f__law_make 1 r__law_make := (def_body (n := 40) F__law_make sc__law_make (F__law_make.binds (ps := ["_law_s"]) fun _ _ _ _ _ _ us hl => match us, hl with | [_], _ => rfl) rfl t__law_make).leC le__law_make
  have t__law_text : TabOk P w K mg base (tb K C0 C1 C2 C3 C4 C5 C6 C7) 4 d__law_text := tab_mk (att_of atts_nd K [C0, C1, C2, C3, C4, C5, C6, C7]) ⟨⟨f__law_below, g__law_below, F__law_below.kp, O__law_below.mono (by decide)⟩, ⟨f__law_pick, g__law_pick, F__law_pick.kp, O__law_pick.mono (by decide)⟩, trivial⟩ F.bl trivial F.isi trivial trivial trivial trivial xs_nil xi_nil
  have O__law_text : DefOk P w K mg base (tb K C0 C1 C2 C3 C4 C5 C6 C7) 6 f__law_text 3 r__law_text := (def_body (n := 40) F__law_text sc__law_text (F__law_text.binds (ps := ["_law_d", "_law_s", "_law_many"]) fun _ _ _ _ _ _ us hl => match us, hl with | [_, _, _], _ => rfl) rfl t__law_text).le le__law_text
  have t__law_ran : TabOk P w K mg base (tb K C0 C1 C2 C3 C4 C5 C6 C7) 12 d__law_ran := tab_mk (att_of atts_nd K [C0, C1, C2, C3, C4, C5, C6, C7]) ⟨⟨f_run, g_run, F_run.kp, O_run.mono (by decide)⟩, ⟨f__law_make, g__law_make, F__law_make.kp, O__law_make.mono (by decide)⟩, trivial⟩ F.bl trivial F.isi trivial trivial trivial ⟨X_Endless.mono (by decide), trivial⟩ F.xs F.xi
  have O__law_ran : DefOk P w K mg base (tb K C0 C1 C2 C3 C4 C5 C6 C7) 14 f__law_ran 2 r__law_ran := (def_body (n := 40) F__law_ran sc__law_ran (F__law_ran.binds (ps := ["_law_s", "_law_text_here"]) fun _ _ _ _ _ _ us hl => match us, hl with | [_, _], _ => rfl) rfl t__law_ran).le le__law_ran
  have t__law_bare : TabOk P w K mg base (tb K C0 C1 C2 C3 C4 C5 C6 C7) 2 d__law_bare := tab_mk (att_of atts_nd K [C0, C1, C2, C3, C4, C5, C6, C7]) trivial F.bl trivial F.isi ⟨⟨rfl, (fun c hc => nomatch hc), ⟨⟨⟨C3, p_Outcome_events, f_Outcome_events, rfl, F.cl3, P_Outcome_events, O_Outcome_events.mono (by decide)⟩⟩, trivial⟩⟩, trivial⟩ trivial trivial trivial xs_nil xi_nil
  have O__law_bare : DefOk P w K mg base (tb K C0 C1 C2 C3 C4 C5 C6 C7) 4 f__law_bare 2 r__law_bare := (def_body (n := 40) F__law_bare sc__law_bare (F__law_bare.binds (ps := ["_law_outcome", "_law_number"]) fun _ _ _ _ _ _ us hl => match us, hl with | [_, _], _ => rfl) rfl t__law_bare).le le__law_bare
  have t_law : TabOk P w K mg base (tb K C0 C1 C2 C3 C4 C5 C6 C7) 14 d_law := tab_mk (att_of atts_nd K [C0, C1, C2, C3, C4, C5, C6, C7]) ⟨⟨f__law_bare, g__law_bare, F__law_bare.kp, O__law_bare.mono (by decide)⟩, ⟨f__law_ran, g__law_ran, F__law_ran.kp, O__law_ran.mono (by decide)⟩, ⟨f__law_text, g__law_text, F__law_text.kp, O__law_text.mono (by decide)⟩, ⟨f__law_drawn, g__law_drawn, F__law_drawn.kp, O__law_drawn.mono (by decide)⟩, ⟨f__law_random, g__law_random, F__law_random.kp, O__law_random.mono (by decide)⟩, trivial⟩ F.bl trivial F.isi ⟨⟨rfl, (fun c hc => nomatch hc), ⟨⟨⟨C3, p_Outcome_text, f_Outcome_text, rfl, F.cl3, P_Outcome_text, O_Outcome_text.mono (by decide)⟩⟩, trivial⟩⟩, trivial⟩ trivial trivial trivial xs_nil xi_nil ⟨⟨⟨C3, f_Outcome_len, rfl, i_Outcome_len, j_Outcome_len, O_Outcome_len.mono (by decide)⟩⟩, trivial⟩
  have O_law : FnOk P w K mg base (L2.CX P w) 16 f_law fd_law _ (spD (tb K C0 C1 C2 C3 C4 C5 C6 C7) 1 r_law) := FnOk.leC (fn_body (n := 40) F_law sc_law rfl t_law) le_law
  exact O_law
end
set_option maxHeartbeats 4000000 in
theorem all_mk {l : PySem.W.OpenLaw} {w : World} {K : PySem.W.Frag} {h : Heap} {mg : Str → Option Value} (X : K.In h) (G : h.Ns mainGlobals mg) {fa : Addr} (hfa : mg "law" = some (.ref fa))
    {C0 C1 C2 C3 C4 C5 C6 C7 : Addr}
    (aC0 : PySem.W.nsIn K mainGlobals "Stepper" = some (some (.ref C0)))
    (aC1 : PySem.W.nsIn K mainGlobals "Loops" = some (some (.ref C1)))
    (aC2 : PySem.W.nsIn K mainGlobals "Scan" = some (some (.ref C2)))
    (aC3 : PySem.W.nsIn K mainGlobals "Outcome" = some (some (.ref C3)))
    (aC4 : PySem.W.nsIn K mainGlobals "HitError" = some (some (.ref C4)))
    (aC5 : PySem.W.nsIn K mainGlobals "InvalidStepper" = some (some (.ref C5)))
    (aC6 : PySem.W.nsIn K mainGlobals "InvalidText" = some (some (.ref C6)))
    (aC7 : PySem.W.nsIn K mainGlobals "Endless" = some (some (.ref C7)))
    {f_is_integer : Addr} {oc_is_integer kV_is_integer dc_is_integer pm_is_integer cd_is_integer ct_is_integer : Value} {od_is_integer an_is_integer : Option Addr} {sl_is_integer : Array (Option Value)}
    (a_is_integer : PySem.W.nsIn K mainGlobals "is_integer" = some (some (.ref f_is_integer)))
    (l_is_integer : K.lookup f_is_integer = some ⟨oc_is_integer, od_is_integer, .func (PySem.W.fnOf "is_integer" "is_integer" (defArgs s_is_integer) (defBody s_is_integer) (defScope s_is_integer) .none kV_is_integer dc_is_integer pm_is_integer an_is_integer cd_is_integer ct_is_integer), sl_is_integer⟩)
    (c_is_integer : PySem.W.codeIn K cd_is_integer "is_integer" = true)
    (k_is_integer : PySem.W.keepIn K (.ref f_is_integer) = true)
    {f_is_text : Addr} {oc_is_text kV_is_text dc_is_text pm_is_text cd_is_text ct_is_text : Value} {od_is_text an_is_text : Option Addr} {sl_is_text : Array (Option Value)}
    (a_is_text : PySem.W.nsIn K mainGlobals "is_text" = some (some (.ref f_is_text)))
    (l_is_text : K.lookup f_is_text = some ⟨oc_is_text, od_is_text, .func (PySem.W.fnOf "is_text" "is_text" (defArgs s_is_text) (defBody s_is_text) (defScope s_is_text) .none kV_is_text dc_is_text pm_is_text an_is_text cd_is_text ct_is_text), sl_is_text⟩)
    (c_is_text : PySem.W.codeIn K cd_is_text "is_text" = true)
    (k_is_text : PySem.W.keepIn K (.ref f_is_text) = true)
    {f_need_text : Addr} {oc_need_text kV_need_text dc_need_text pm_need_text cd_need_text ct_need_text : Value} {od_need_text an_need_text : Option Addr} {sl_need_text : Array (Option Value)}
    (a_need_text : PySem.W.nsIn K mainGlobals "need_text" = some (some (.ref f_need_text)))
    (l_need_text : K.lookup f_need_text = some ⟨oc_need_text, od_need_text, .func (PySem.W.fnOf "need_text" "need_text" (defArgs s_need_text) (defBody s_need_text) (defScope s_need_text) .none kV_need_text dc_need_text pm_need_text an_need_text cd_need_text ct_need_text), sl_need_text⟩)
    (c_need_text : PySem.W.codeIn K cd_need_text "need_text" = true)
    (k_need_text : PySem.W.keepIn K (.ref f_need_text) = true)
    {f_is_one_of : Addr} {oc_is_one_of kV_is_one_of dc_is_one_of pm_is_one_of cd_is_one_of ct_is_one_of : Value} {od_is_one_of an_is_one_of : Option Addr} {sl_is_one_of : Array (Option Value)}
    (a_is_one_of : PySem.W.nsIn K mainGlobals "is_one_of" = some (some (.ref f_is_one_of)))
    (l_is_one_of : K.lookup f_is_one_of = some ⟨oc_is_one_of, od_is_one_of, .func (PySem.W.fnOf "is_one_of" "is_one_of" (defArgs s_is_one_of) (defBody s_is_one_of) (defScope s_is_one_of) .none kV_is_one_of dc_is_one_of pm_is_one_of an_is_one_of cd_is_one_of ct_is_one_of), sl_is_one_of⟩)
    (c_is_one_of : PySem.W.codeIn K cd_is_one_of "is_one_of" = true)
    (k_is_one_of : PySem.W.keepIn K (.ref f_is_one_of) = true)
    {f_are_deeds : Addr} {oc_are_deeds kV_are_deeds dc_are_deeds pm_are_deeds cd_are_deeds ct_are_deeds : Value} {od_are_deeds an_are_deeds : Option Addr} {sl_are_deeds : Array (Option Value)}
    (a_are_deeds : PySem.W.nsIn K mainGlobals "are_deeds" = some (some (.ref f_are_deeds)))
    (l_are_deeds : K.lookup f_are_deeds = some ⟨oc_are_deeds, od_are_deeds, .func (PySem.W.fnOf "are_deeds" "are_deeds" (defArgs s_are_deeds) (defBody s_are_deeds) (defScope s_are_deeds) .none kV_are_deeds dc_are_deeds pm_are_deeds an_are_deeds cd_are_deeds ct_are_deeds), sl_are_deeds⟩)
    (c_are_deeds : PySem.W.codeIn K cd_are_deeds "are_deeds" = true)
    (k_are_deeds : PySem.W.keepIn K (.ref f_are_deeds) = true)
    {f_need_fields : Addr} {oc_need_fields kV_need_fields dc_need_fields pm_need_fields cd_need_fields ct_need_fields : Value} {od_need_fields an_need_fields : Option Addr} {sl_need_fields : Array (Option Value)}
    (a_need_fields : PySem.W.nsIn K mainGlobals "need_fields" = some (some (.ref f_need_fields)))
    (l_need_fields : K.lookup f_need_fields = some ⟨oc_need_fields, od_need_fields, .func (PySem.W.fnOf "need_fields" "need_fields" (defArgs s_need_fields) (defBody s_need_fields) (defScope s_need_fields) .none kV_need_fields dc_need_fields pm_need_fields an_need_fields cd_need_fields ct_need_fields), sl_need_fields⟩)
    (c_need_fields : PySem.W.codeIn K cd_need_fields "need_fields" = true)
    (k_need_fields : PySem.W.keepIn K (.ref f_need_fields) = true)
    {f_Stepper_init : Addr} {oc_Stepper_init kV_Stepper_init dc_Stepper_init pm_Stepper_init cd_Stepper_init ct_Stepper_init : Value} {od_Stepper_init an_Stepper_init : Option Addr} {sl_Stepper_init : Array (Option Value)}
    (i_Stepper_init : PySem.W.findIn K (.ref C0) "__init__" = some (some (.ref f_Stepper_init)))
    (j_Stepper_init : PySem.W.isFn K (.ref f_Stepper_init) = true)
    (l_Stepper_init : K.lookup f_Stepper_init = some ⟨oc_Stepper_init, od_Stepper_init, .func (PySem.W.fnOf "__init__" "Stepper.__init__" (defArgs s_Stepper_init) (defBody s_Stepper_init) (defScope s_Stepper_init) .none kV_Stepper_init dc_Stepper_init pm_Stepper_init an_Stepper_init cd_Stepper_init ct_Stepper_init), sl_Stepper_init⟩)
    (c_Stepper_init : PySem.W.codeIn K cd_Stepper_init "Stepper.__init__" = true)
    (k_Stepper_init : PySem.W.keepIn K (.ref f_Stepper_init) = true)
    {f_place_of : Addr} {oc_place_of kV_place_of dc_place_of pm_place_of cd_place_of ct_place_of : Value} {od_place_of an_place_of : Option Addr} {sl_place_of : Array (Option Value)}
    (a_place_of : PySem.W.nsIn K mainGlobals "place_of" = some (some (.ref f_place_of)))
    (l_place_of : K.lookup f_place_of = some ⟨oc_place_of, od_place_of, .func (PySem.W.fnOf "place_of" "place_of" (defArgs s_place_of) (defBody s_place_of) (defScope s_place_of) .none kV_place_of dc_place_of pm_place_of an_place_of cd_place_of ct_place_of), sl_place_of⟩)
    (c_place_of : PySem.W.codeIn K cd_place_of "place_of" = true)
    (k_place_of : PySem.W.keepIn K (.ref f_place_of) = true)
    {f_beginning_of : Addr} {oc_beginning_of kV_beginning_of dc_beginning_of pm_beginning_of cd_beginning_of ct_beginning_of : Value} {od_beginning_of an_beginning_of : Option Addr} {sl_beginning_of : Array (Option Value)}
    (a_beginning_of : PySem.W.nsIn K mainGlobals "beginning_of" = some (some (.ref f_beginning_of)))
    (l_beginning_of : K.lookup f_beginning_of = some ⟨oc_beginning_of, od_beginning_of, .func (PySem.W.fnOf "beginning_of" "beginning_of" (defArgs s_beginning_of) (defBody s_beginning_of) (defScope s_beginning_of) .none kV_beginning_of dc_beginning_of pm_beginning_of an_beginning_of cd_beginning_of ct_beginning_of), sl_beginning_of⟩)
    (c_beginning_of : PySem.W.codeIn K cd_beginning_of "beginning_of" = true)
    (k_beginning_of : PySem.W.keepIn K (.ref f_beginning_of) = true)
    {f_Loops_init : Addr} {oc_Loops_init kV_Loops_init dc_Loops_init pm_Loops_init cd_Loops_init ct_Loops_init : Value} {od_Loops_init an_Loops_init : Option Addr} {sl_Loops_init : Array (Option Value)}
    (i_Loops_init : PySem.W.findIn K (.ref C1) "__init__" = some (some (.ref f_Loops_init)))
    (j_Loops_init : PySem.W.isFn K (.ref f_Loops_init) = true)
    (l_Loops_init : K.lookup f_Loops_init = some ⟨oc_Loops_init, od_Loops_init, .func (PySem.W.fnOf "__init__" "Loops.__init__" (defArgs s_Loops_init) (defBody s_Loops_init) (defScope s_Loops_init) .none kV_Loops_init dc_Loops_init pm_Loops_init an_Loops_init cd_Loops_init ct_Loops_init), sl_Loops_init⟩)
    (c_Loops_init : PySem.W.codeIn K cd_Loops_init "Loops.__init__" = true)
    (k_Loops_init : PySem.W.keepIn K (.ref f_Loops_init) = true)
    {f_Loops_touch : Addr} {oc_Loops_touch kV_Loops_touch dc_Loops_touch pm_Loops_touch cd_Loops_touch ct_Loops_touch : Value} {od_Loops_touch an_Loops_touch : Option Addr} {sl_Loops_touch : Array (Option Value)}
    (i_Loops_touch : PySem.W.findIn K (.ref C1) "touch" = some (some (.ref f_Loops_touch)))
    (j_Loops_touch : PySem.W.isFn K (.ref f_Loops_touch) = true)
    (l_Loops_touch : K.lookup f_Loops_touch = some ⟨oc_Loops_touch, od_Loops_touch, .func (PySem.W.fnOf "touch" "Loops.touch" (defArgs s_Loops_touch) (defBody s_Loops_touch) (defScope s_Loops_touch) .none kV_Loops_touch dc_Loops_touch pm_Loops_touch an_Loops_touch cd_Loops_touch ct_Loops_touch), sl_Loops_touch⟩)
    (c_Loops_touch : PySem.W.codeIn K cd_Loops_touch "Loops.touch" = true)
    (k_Loops_touch : PySem.W.keepIn K (.ref f_Loops_touch) = true)
    {f_Loops_is_again : Addr} {oc_Loops_is_again kV_Loops_is_again dc_Loops_is_again pm_Loops_is_again cd_Loops_is_again ct_Loops_is_again : Value} {od_Loops_is_again an_Loops_is_again : Option Addr} {sl_Loops_is_again : Array (Option Value)}
    (i_Loops_is_again : PySem.W.findIn K (.ref C1) "is_again" = some (some (.ref f_Loops_is_again)))
    (j_Loops_is_again : PySem.W.isFn K (.ref f_Loops_is_again) = true)
    (l_Loops_is_again : K.lookup f_Loops_is_again = some ⟨oc_Loops_is_again, od_Loops_is_again, .func (PySem.W.fnOf "is_again" "Loops.is_again" (defArgs s_Loops_is_again) (defBody s_Loops_is_again) (defScope s_Loops_is_again) .none kV_Loops_is_again dc_Loops_is_again pm_Loops_is_again an_Loops_is_again cd_Loops_is_again ct_Loops_is_again), sl_Loops_is_again⟩)
    (c_Loops_is_again : PySem.W.codeIn K cd_Loops_is_again "Loops.is_again" = true)
    (k_Loops_is_again : PySem.W.keepIn K (.ref f_Loops_is_again) = true)
    {f_Scan_init : Addr} {oc_Scan_init kV_Scan_init dc_Scan_init pm_Scan_init cd_Scan_init ct_Scan_init : Value} {od_Scan_init an_Scan_init : Option Addr} {sl_Scan_init : Array (Option Value)}
    (i_Scan_init : PySem.W.findIn K (.ref C2) "__init__" = some (some (.ref f_Scan_init)))
    (j_Scan_init : PySem.W.isFn K (.ref f_Scan_init) = true)
    (l_Scan_init : K.lookup f_Scan_init = some ⟨oc_Scan_init, od_Scan_init, .func (PySem.W.fnOf "__init__" "Scan.__init__" (defArgs s_Scan_init) (defBody s_Scan_init) (defScope s_Scan_init) .none kV_Scan_init dc_Scan_init pm_Scan_init an_Scan_init cd_Scan_init ct_Scan_init), sl_Scan_init⟩)
    (c_Scan_init : PySem.W.codeIn K cd_Scan_init "Scan.__init__" = true)
    (k_Scan_init : PySem.W.keepIn K (.ref f_Scan_init) = true)
    {f_Scan_write : Addr} {oc_Scan_write kV_Scan_write dc_Scan_write pm_Scan_write cd_Scan_write ct_Scan_write : Value} {od_Scan_write an_Scan_write : Option Addr} {sl_Scan_write : Array (Option Value)}
    (i_Scan_write : PySem.W.findIn K (.ref C2) "write" = some (some (.ref f_Scan_write)))
    (j_Scan_write : PySem.W.isFn K (.ref f_Scan_write) = true)
    (l_Scan_write : K.lookup f_Scan_write = some ⟨oc_Scan_write, od_Scan_write, .func (PySem.W.fnOf "write" "Scan.write" (defArgs s_Scan_write) (defBody s_Scan_write) (defScope s_Scan_write) .none kV_Scan_write dc_Scan_write pm_Scan_write an_Scan_write cd_Scan_write ct_Scan_write), sl_Scan_write⟩)
    (c_Scan_write : PySem.W.codeIn K cd_Scan_write "Scan.write" = true)
    (k_Scan_write : PySem.W.keepIn K (.ref f_Scan_write) = true)
    {f_Scan_leave : Addr} {oc_Scan_leave kV_Scan_leave dc_Scan_leave pm_Scan_leave cd_Scan_leave ct_Scan_leave : Value} {od_Scan_leave an_Scan_leave : Option Addr} {sl_Scan_leave : Array (Option Value)}
    (i_Scan_leave : PySem.W.findIn K (.ref C2) "leave" = some (some (.ref f_Scan_leave)))
    (j_Scan_leave : PySem.W.isFn K (.ref f_Scan_leave) = true)
    (l_Scan_leave : K.lookup f_Scan_leave = some ⟨oc_Scan_leave, od_Scan_leave, .func (PySem.W.fnOf "leave" "Scan.leave" (defArgs s_Scan_leave) (defBody s_Scan_leave) (defScope s_Scan_leave) .none kV_Scan_leave dc_Scan_leave pm_Scan_leave an_Scan_leave cd_Scan_leave ct_Scan_leave), sl_Scan_leave⟩)
    (c_Scan_leave : PySem.W.codeIn K cd_Scan_leave "Scan.leave" = true)
    (k_Scan_leave : PySem.W.keepIn K (.ref f_Scan_leave) = true)
    {f_Scan_turned : Addr} {oc_Scan_turned kV_Scan_turned dc_Scan_turned pm_Scan_turned cd_Scan_turned ct_Scan_turned : Value} {od_Scan_turned an_Scan_turned : Option Addr} {sl_Scan_turned : Array (Option Value)}
    (i_Scan_turned : PySem.W.findIn K (.ref C2) "turned" = some (some (.ref f_Scan_turned)))
    (j_Scan_turned : PySem.W.isFn K (.ref f_Scan_turned) = true)
    (l_Scan_turned : K.lookup f_Scan_turned = some ⟨oc_Scan_turned, od_Scan_turned, .func (PySem.W.fnOf "turned" "Scan.turned" (defArgs s_Scan_turned) (defBody s_Scan_turned) (defScope s_Scan_turned) .none kV_Scan_turned dc_Scan_turned pm_Scan_turned an_Scan_turned cd_Scan_turned ct_Scan_turned), sl_Scan_turned⟩)
    (c_Scan_turned : PySem.W.codeIn K cd_Scan_turned "Scan.turned" = true)
    (k_Scan_turned : PySem.W.keepIn K (.ref f_Scan_turned) = true)
    {f_Scan_meet : Addr} {oc_Scan_meet kV_Scan_meet dc_Scan_meet pm_Scan_meet cd_Scan_meet ct_Scan_meet : Value} {od_Scan_meet an_Scan_meet : Option Addr} {sl_Scan_meet : Array (Option Value)}
    (i_Scan_meet : PySem.W.findIn K (.ref C2) "meet" = some (some (.ref f_Scan_meet)))
    (j_Scan_meet : PySem.W.isFn K (.ref f_Scan_meet) = true)
    (l_Scan_meet : K.lookup f_Scan_meet = some ⟨oc_Scan_meet, od_Scan_meet, .func (PySem.W.fnOf "meet" "Scan.meet" (defArgs s_Scan_meet) (defBody s_Scan_meet) (defScope s_Scan_meet) .none kV_Scan_meet dc_Scan_meet pm_Scan_meet an_Scan_meet cd_Scan_meet ct_Scan_meet), sl_Scan_meet⟩)
    (c_Scan_meet : PySem.W.codeIn K cd_Scan_meet "Scan.meet" = true)
    (k_Scan_meet : PySem.W.keepIn K (.ref f_Scan_meet) = true)
    {f_Scan_feed : Addr} {oc_Scan_feed kV_Scan_feed dc_Scan_feed pm_Scan_feed cd_Scan_feed ct_Scan_feed : Value} {od_Scan_feed an_Scan_feed : Option Addr} {sl_Scan_feed : Array (Option Value)}
    (i_Scan_feed : PySem.W.findIn K (.ref C2) "feed" = some (some (.ref f_Scan_feed)))
    (j_Scan_feed : PySem.W.isFn K (.ref f_Scan_feed) = true)
    (l_Scan_feed : K.lookup f_Scan_feed = some ⟨oc_Scan_feed, od_Scan_feed, .func (PySem.W.fnOf "feed" "Scan.feed" (defArgs s_Scan_feed) (defBody s_Scan_feed) (defScope s_Scan_feed) .none kV_Scan_feed dc_Scan_feed pm_Scan_feed an_Scan_feed cd_Scan_feed ct_Scan_feed), sl_Scan_feed⟩)
    (c_Scan_feed : PySem.W.codeIn K cd_Scan_feed "Scan.feed" = true)
    (k_Scan_feed : PySem.W.keepIn K (.ref f_Scan_feed) = true)
    {f_Scan_rest : Addr} {oc_Scan_rest kV_Scan_rest dc_Scan_rest pm_Scan_rest cd_Scan_rest ct_Scan_rest : Value} {od_Scan_rest an_Scan_rest : Option Addr} {sl_Scan_rest : Array (Option Value)}
    (i_Scan_rest : PySem.W.findIn K (.ref C2) "rest" = some (some (.ref f_Scan_rest)))
    (j_Scan_rest : PySem.W.isFn K (.ref f_Scan_rest) = true)
    (l_Scan_rest : K.lookup f_Scan_rest = some ⟨oc_Scan_rest, od_Scan_rest, .func (PySem.W.fnOf "rest" "Scan.rest" (defArgs s_Scan_rest) (defBody s_Scan_rest) (defScope s_Scan_rest) .none kV_Scan_rest dc_Scan_rest pm_Scan_rest an_Scan_rest cd_Scan_rest ct_Scan_rest), sl_Scan_rest⟩)
    (c_Scan_rest : PySem.W.codeIn K cd_Scan_rest "Scan.rest" = true)
    (k_Scan_rest : PySem.W.keepIn K (.ref f_Scan_rest) = true)
    {f_Outcome_init : Addr} {oc_Outcome_init kV_Outcome_init dc_Outcome_init pm_Outcome_init cd_Outcome_init ct_Outcome_init : Value} {od_Outcome_init an_Outcome_init : Option Addr} {sl_Outcome_init : Array (Option Value)}
    (i_Outcome_init : PySem.W.findIn K (.ref C3) "__init__" = some (some (.ref f_Outcome_init)))
    (j_Outcome_init : PySem.W.isFn K (.ref f_Outcome_init) = true)
    (l_Outcome_init : K.lookup f_Outcome_init = some ⟨oc_Outcome_init, od_Outcome_init, .func (PySem.W.fnOf "__init__" "Outcome.__init__" (defArgs s_Outcome_init) (defBody s_Outcome_init) (defScope s_Outcome_init) .none kV_Outcome_init dc_Outcome_init pm_Outcome_init an_Outcome_init cd_Outcome_init ct_Outcome_init), sl_Outcome_init⟩)
    (c_Outcome_init : PySem.W.codeIn K cd_Outcome_init "Outcome.__init__" = true)
    (k_Outcome_init : PySem.W.keepIn K (.ref f_Outcome_init) = true)
    {f_Outcome_text : Addr} {oc_Outcome_text kV_Outcome_text dc_Outcome_text pm_Outcome_text cd_Outcome_text ct_Outcome_text : Value} {od_Outcome_text an_Outcome_text : Option Addr} {sl_Outcome_text : Array (Option Value)}
    {p_Outcome_text : Addr} {rest_Outcome_text : List Value}
    (pa_Outcome_text : PySem.W.findIn K (.ref C3) "text" = some (some (.ref p_Outcome_text)))
    (pb_Outcome_text : PySem.W.specialIn K (.ref p_Outcome_text) "__get__" = some (some (.builtin "property.__get__")))
    (pc_Outcome_text : PySem.W.takesIn K (.ref p_Outcome_text) = some true)
    (pd_Outcome_text : PySem.W.recIn K p_Outcome_text "property" = some (.ref f_Outcome_text :: rest_Outcome_text))
    (l_Outcome_text : K.lookup f_Outcome_text = some ⟨oc_Outcome_text, od_Outcome_text, .func (PySem.W.fnOf "text" "Outcome.text" (defArgs s_Outcome_text) (defBody s_Outcome_text) (defScope s_Outcome_text) .none kV_Outcome_text dc_Outcome_text pm_Outcome_text an_Outcome_text cd_Outcome_text ct_Outcome_text), sl_Outcome_text⟩)
    (c_Outcome_text : PySem.W.codeIn K cd_Outcome_text "Outcome.text" = true)
    (k_Outcome_text : PySem.W.keepIn K (.ref f_Outcome_text) = true)
    {f_Outcome_events : Addr} {oc_Outcome_events kV_Outcome_events dc_Outcome_events pm_Outcome_events cd_Outcome_events ct_Outcome_events : Value} {od_Outcome_events an_Outcome_events : Option Addr} {sl_Outcome_events : Array (Option Value)}
    {p_Outcome_events : Addr} {rest_Outcome_events : List Value}
    (pa_Outcome_events : PySem.W.findIn K (.ref C3) "events" = some (some (.ref p_Outcome_events)))
    (pb_Outcome_events : PySem.W.specialIn K (.ref p_Outcome_events) "__get__" = some (some (.builtin "property.__get__")))
    (pc_Outcome_events : PySem.W.takesIn K (.ref p_Outcome_events) = some true)
    (pd_Outcome_events : PySem.W.recIn K p_Outcome_events "property" = some (.ref f_Outcome_events :: rest_Outcome_events))
    (l_Outcome_events : K.lookup f_Outcome_events = some ⟨oc_Outcome_events, od_Outcome_events, .func (PySem.W.fnOf "events" "Outcome.events" (defArgs s_Outcome_events) (defBody s_Outcome_events) (defScope s_Outcome_events) .none kV_Outcome_events dc_Outcome_events pm_Outcome_events an_Outcome_events cd_Outcome_events ct_Outcome_events), sl_Outcome_events⟩)
    (c_Outcome_events : PySem.W.codeIn K cd_Outcome_events "Outcome.events" = true)
    (k_Outcome_events : PySem.W.keepIn K (.ref f_Outcome_events) = true)
    {f_Outcome_len : Addr} {oc_Outcome_len kV_Outcome_len dc_Outcome_len pm_Outcome_len cd_Outcome_len ct_Outcome_len : Value} {od_Outcome_len an_Outcome_len : Option Addr} {sl_Outcome_len : Array (Option Value)}
    (i_Outcome_len : PySem.W.findIn K (.ref C3) "__len__" = some (some (.ref f_Outcome_len)))
    (j_Outcome_len : PySem.W.isFn K (.ref f_Outcome_len) = true)
    (l_Outcome_len : K.lookup f_Outcome_len = some ⟨oc_Outcome_len, od_Outcome_len, .func (PySem.W.fnOf "__len__" "Outcome.__len__" (defArgs s_Outcome_len) (defBody s_Outcome_len) (defScope s_Outcome_len) .none kV_Outcome_len dc_Outcome_len pm_Outcome_len an_Outcome_len cd_Outcome_len ct_Outcome_len), sl_Outcome_len⟩)
    (c_Outcome_len : PySem.W.codeIn K cd_Outcome_len "Outcome.__len__" = true)
    (k_Outcome_len : PySem.W.keepIn K (.ref f_Outcome_len) = true)
    {f_old_place : Addr} {oc_old_place kV_old_place dc_old_place pm_old_place cd_old_place ct_old_place : Value} {od_old_place an_old_place : Option Addr} {sl_old_place : Array (Option Value)}
    (a_old_place : PySem.W.nsIn K mainGlobals "old_place" = some (some (.ref f_old_place)))
    (l_old_place : K.lookup f_old_place = some ⟨oc_old_place, od_old_place, .func (PySem.W.fnOf "old_place" "old_place" (defArgs s_old_place) (defBody s_old_place) (defScope s_old_place) .none kV_old_place dc_old_place pm_old_place an_old_place cd_old_place ct_old_place), sl_old_place⟩)
    (c_old_place : PySem.W.codeIn K cd_old_place "old_place" = true)
    (k_old_place : PySem.W.keepIn K (.ref f_old_place) = true)
    {f_gone_through : Addr} {oc_gone_through kV_gone_through dc_gone_through pm_gone_through cd_gone_through ct_gone_through : Value} {od_gone_through an_gone_through : Option Addr} {sl_gone_through : Array (Option Value)}
    (a_gone_through : PySem.W.nsIn K mainGlobals "gone_through" = some (some (.ref f_gone_through)))
    (l_gone_through : K.lookup f_gone_through = some ⟨oc_gone_through, od_gone_through, .func (PySem.W.fnOf "gone_through" "gone_through" (defArgs s_gone_through) (defBody s_gone_through) (defScope s_gone_through) .none kV_gone_through dc_gone_through pm_gone_through an_gone_through cd_gone_through ct_gone_through), sl_gone_through⟩)
    (c_gone_through : PySem.W.codeIn K cd_gone_through "gone_through" = true)
    (k_gone_through : PySem.W.keepIn K (.ref f_gone_through) = true)
    {f_fates_of : Addr} {oc_fates_of kV_fates_of dc_fates_of pm_fates_of cd_fates_of ct_fates_of : Value} {od_fates_of an_fates_of : Option Addr} {sl_fates_of : Array (Option Value)}
    (a_fates_of : PySem.W.nsIn K mainGlobals "fates_of" = some (some (.ref f_fates_of)))
    (l_fates_of : K.lookup f_fates_of = some ⟨oc_fates_of, od_fates_of, .func (PySem.W.fnOf "fates_of" "fates_of" (defArgs s_fates_of) (defBody s_fates_of) (defScope s_fates_of) .none kV_fates_of dc_fates_of pm_fates_of an_fates_of cd_fates_of ct_fates_of), sl_fates_of⟩)
    (c_fates_of : PySem.W.codeIn K cd_fates_of "fates_of" = true)
    (k_fates_of : PySem.W.keepIn K (.ref f_fates_of) = true)
    {f_run : Addr} {oc_run kV_run dc_run pm_run cd_run ct_run : Value} {od_run an_run : Option Addr} {sl_run : Array (Option Value)}
    (a_run : PySem.W.nsIn K mainGlobals "run" = some (some (.ref f_run)))
    (l_run : K.lookup f_run = some ⟨oc_run, od_run, .func (PySem.W.fnOf "run" "run" (defArgs s_run) (defBody s_run) (defScope s_run) .none kV_run dc_run pm_run an_run cd_run ct_run), sl_run⟩)
    (c_run : PySem.W.codeIn K cd_run "run" = true)
    (k_run : PySem.W.keepIn K (.ref f_run) = true)
    {f__law_random : Addr} {oc__law_random kV__law_random dc__law_random pm__law_random cd__law_random ct__law_random : Value} {od__law_random an__law_random : Option Addr} {sl__law_random : Array (Option Value)}
    (a__law_random : PySem.W.nsIn K mainGlobals "_law_random" = some (some (.ref f__law_random)))
    (l__law_random : K.lookup f__law_random = some ⟨oc__law_random, od__law_random, .func (PySem.W.fnOf "_law_random" "_law_random" (defArgs s__law_random) (defBody s__law_random) (defScope s__law_random) .none kV__law_random dc__law_random pm__law_random an__law_random cd__law_random ct__law_random), sl__law_random⟩)
    (c__law_random : PySem.W.codeIn K cd__law_random "_law_random" = true)
    (k__law_random : PySem.W.keepIn K (.ref f__law_random) = true)
    {f__law_below : Addr} {oc__law_below kV__law_below dc__law_below pm__law_below cd__law_below ct__law_below : Value} {od__law_below an__law_below : Option Addr} {sl__law_below : Array (Option Value)}
    (a__law_below : PySem.W.nsIn K mainGlobals "_law_below" = some (some (.ref f__law_below)))
    (l__law_below : K.lookup f__law_below = some ⟨oc__law_below, od__law_below, .func (PySem.W.fnOf "_law_below" "_law_below" (defArgs s__law_below) (defBody s__law_below) (defScope s__law_below) .none kV__law_below dc__law_below pm__law_below an__law_below cd__law_below ct__law_below), sl__law_below⟩)
    (c__law_below : PySem.W.codeIn K cd__law_below "_law_below" = true)
    (k__law_below : PySem.W.keepIn K (.ref f__law_below) = true)
    {f__law_pick : Addr} {oc__law_pick kV__law_pick dc__law_pick pm__law_pick cd__law_pick ct__law_pick : Value} {od__law_pick an__law_pick : Option Addr} {sl__law_pick : Array (Option Value)}
    (a__law_pick : PySem.W.nsIn K mainGlobals "_law_pick" = some (some (.ref f__law_pick)))
    (l__law_pick : K.lookup f__law_pick = some ⟨oc__law_pick, od__law_pick, .func (PySem.W.fnOf "_law_pick" "_law_pick" (defArgs s__law_pick) (defBody s__law_pick) (defScope s__law_pick) .none kV__law_pick dc__law_pick pm__law_pick an__law_pick cd__law_pick ct__law_pick), sl__law_pick⟩)
    (c__law_pick : PySem.W.codeIn K cd__law_pick "_law_pick" = true)
    (k__law_pick : PySem.W.keepIn K (.ref f__law_pick) = true)
    {f__law_drawn : Addr} {oc__law_drawn kV__law_drawn dc__law_drawn pm__law_drawn cd__law_drawn ct__law_drawn : Value} {od__law_drawn an__law_drawn : Option Addr} {sl__law_drawn : Array (Option Value)}
    (a__law_drawn : PySem.W.nsIn K mainGlobals "_law_drawn" = some (some (.ref f__law_drawn)))
    (l__law_drawn : K.lookup f__law_drawn = some ⟨oc__law_drawn, od__law_drawn, .func (PySem.W.fnOf "_law_drawn" "_law_drawn" (defArgs s__law_drawn) (defBody s__law_drawn) (defScope s__law_drawn) .none kV__law_drawn dc__law_drawn pm__law_drawn an__law_drawn cd__law_drawn ct__law_drawn), sl__law_drawn⟩)
    (c__law_drawn : PySem.W.codeIn K cd__law_drawn "_law_drawn" = true)
    (k__law_drawn : PySem.W.keepIn K (.ref f__law_drawn) = true)
    {f__law_make : Addr} {oc__law_make kV__law_make dc__law_make pm__law_make cd__law_make ct__law_make : Value} {od__law_make an__law_make : Option Addr} {sl__law_make : Array (Option Value)}
    (a__law_make : PySem.W.nsIn K mainGlobals "_law_make" = some (some (.ref f__law_make)))
    (l__law_make : K.lookup f__law_make = some ⟨oc__law_make, od__law_make, .func (PySem.W.fnOf "_law_make" "_law_make" (defArgs s__law_make) (defBody s__law_make) (defScope s__law_make) .none kV__law_make dc__law_make pm__law_make an__law_make cd__law_make ct__law_make), sl__law_make⟩)
    (c__law_make : PySem.W.codeIn K cd__law_make "_law_make" = true)
    (k__law_make : PySem.W.keepIn K (.ref f__law_make) = true)
    {f__law_text : Addr} {oc__law_text kV__law_text dc__law_text pm__law_text cd__law_text ct__law_text : Value} {od__law_text an__law_text : Option Addr} {sl__law_text : Array (Option Value)}
    (a__law_text : PySem.W.nsIn K mainGlobals "_law_text" = some (some (.ref f__law_text)))
    (l__law_text : K.lookup f__law_text = some ⟨oc__law_text, od__law_text, .func (PySem.W.fnOf "_law_text" "_law_text" (defArgs s__law_text) (defBody s__law_text) (defScope s__law_text) .none kV__law_text dc__law_text pm__law_text an__law_text cd__law_text ct__law_text), sl__law_text⟩)
    (c__law_text : PySem.W.codeIn K cd__law_text "_law_text" = true)
    (k__law_text : PySem.W.keepIn K (.ref f__law_text) = true)
    {f__law_ran : Addr} {oc__law_ran kV__law_ran dc__law_ran pm__law_ran cd__law_ran ct__law_ran : Value} {od__law_ran an__law_ran : Option Addr} {sl__law_ran : Array (Option Value)}
    (a__law_ran : PySem.W.nsIn K mainGlobals "_law_ran" = some (some (.ref f__law_ran)))
    (l__law_ran : K.lookup f__law_ran = some ⟨oc__law_ran, od__law_ran, .func (PySem.W.fnOf "_law_ran" "_law_ran" (defArgs s__law_ran) (defBody s__law_ran) (defScope s__law_ran) .none kV__law_ran dc__law_ran pm__law_ran an__law_ran cd__law_ran ct__law_ran), sl__law_ran⟩)
    (c__law_ran : PySem.W.codeIn K cd__law_ran "_law_ran" = true)
    (k__law_ran : PySem.W.keepIn K (.ref f__law_ran) = true)
    {f__law_bare : Addr} {oc__law_bare kV__law_bare dc__law_bare pm__law_bare cd__law_bare ct__law_bare : Value} {od__law_bare an__law_bare : Option Addr} {sl__law_bare : Array (Option Value)}
    (a__law_bare : PySem.W.nsIn K mainGlobals "_law_bare" = some (some (.ref f__law_bare)))
    (l__law_bare : K.lookup f__law_bare = some ⟨oc__law_bare, od__law_bare, .func (PySem.W.fnOf "_law_bare" "_law_bare" (defArgs s__law_bare) (defBody s__law_bare) (defScope s__law_bare) .none kV__law_bare dc__law_bare pm__law_bare an__law_bare cd__law_bare ct__law_bare), sl__law_bare⟩)
    (c__law_bare : PySem.W.codeIn K cd__law_bare "_law_bare" = true)
    (k__law_bare : PySem.W.keepIn K (.ref f__law_bare) = true)
    {f_law : Addr} {oc_law kV_law dc_law pm_law cd_law ct_law : Value} {od_law an_law : Option Addr} {sl_law : Array (Option Value)}
    (a_law : PySem.W.nsIn K mainGlobals "law" = some (some (.ref f_law)))
    (l_law : K.lookup f_law = some ⟨oc_law, od_law, .func (PySem.W.fnOf "law" "law" (defArgs s_law) (defBody s_law) (defScope s_law) .none kV_law dc_law pm_law an_law cd_law ct_law), sl_law⟩)
    (c_law : PySem.W.codeIn K cd_law "law" = true)
    (k_law : PySem.W.keepIn K (.ref f_law) = true)
    (cl0 : clsB K C0 = true)
    (mk0 : PySem.W.makesIn K C0 = true)
    (kc0 : PySem.W.keepIn K (.ref C0) = true)
    (cl1 : clsB K C1 = true)
    (mk1 : PySem.W.makesIn K C1 = true)
    (kc1 : PySem.W.keepIn K (.ref C1) = true)
    (cl2 : clsB K C2 = true)
    (mk2 : PySem.W.makesIn K C2 = true)
    (kc2 : PySem.W.keepIn K (.ref C2) = true)
    (cl3 : clsB K C3 = true)
    (mk3 : PySem.W.makesIn K C3 = true)
    (kc3 : PySem.W.keepIn K (.ref C3) = true)
    (xb4 : xpB K C4 = true)
    {nm5 q5 : Str} {N5 : Addr} {bs5 bm5 sub5 : List Value} {sn5 : List Str} {ab5 : Bool} {col5 : Option Bool} {dd5 : Option Addr} {e05 e15 e25 e35 e55 : Option Value}
    {f_InvalidStepper_init : Addr} {oc_InvalidStepper_init kV_InvalidStepper_init dc_InvalidStepper_init pm_InvalidStepper_init cd_InvalidStepper_init ct_InvalidStepper_init : Value} {od_InvalidStepper_init an_InvalidStepper_init : Option Addr} {sl_InvalidStepper_init : Array (Option Value)}
    (o5 : K.lookup C5 = some (excClassObj nm5 q5 C5 N5 bs5 bm5 true sn5 sub5 ab5 col5 dd5 e05 e15 e25 e35 e55 "ValueError.__new__"))
    (i_InvalidStepper_init : PySem.W.findIn K (.ref C5) "__init__" = some (some (.ref f_InvalidStepper_init)))
    (l_InvalidStepper_init : K.lookup f_InvalidStepper_init = some ⟨oc_InvalidStepper_init, od_InvalidStepper_init, .func (PySem.W.fnOf "__init__" "InvalidStepper.__init__" (defArgs s_InvalidStepper_init) (defBody s_InvalidStepper_init) (defScope s_InvalidStepper_init) .none kV_InvalidStepper_init dc_InvalidStepper_init pm_InvalidStepper_init an_InvalidStepper_init cd_InvalidStepper_init ct_InvalidStepper_init), sl_InvalidStepper_init⟩)
    (c_InvalidStepper_init : PySem.W.codeIn K cd_InvalidStepper_init "InvalidStepper.__init__" = true)
    (k_InvalidStepper_init : PySem.W.keepIn K (.ref f_InvalidStepper_init) = true)
    (rv5 : PySem.HandSPX.refsVE bm5 = true)
    (xb5 : xcB K C5 f_InvalidStepper_init "field" = true)
    (xb6 : xpB K C6 = true)
    {nm7 q7 : Str} {N7 : Addr} {bs7 bm7 sub7 : List Value} {sn7 : List Str} {ab7 : Bool} {col7 : Option Bool} {dd7 : Option Addr} {e07 e17 e27 e37 e57 : Option Value}
    {f_Endless_init : Addr} {oc_Endless_init kV_Endless_init dc_Endless_init pm_Endless_init cd_Endless_init ct_Endless_init : Value} {od_Endless_init an_Endless_init : Option Addr} {sl_Endless_init : Array (Option Value)}
    (o7 : K.lookup C7 = some (excClassObj nm7 q7 C7 N7 bs7 bm7 true sn7 sub7 ab7 col7 dd7 e07 e17 e27 e37 e57 "ValueError.__new__"))
    (i_Endless_init : PySem.W.findIn K (.ref C7) "__init__" = some (some (.ref f_Endless_init)))
    (l_Endless_init : K.lookup f_Endless_init = some ⟨oc_Endless_init, od_Endless_init, .func (PySem.W.fnOf "__init__" "Endless.__init__" (defArgs s_Endless_init) (defBody s_Endless_init) (defScope s_Endless_init) .none kV_Endless_init dc_Endless_init pm_Endless_init an_Endless_init cd_Endless_init ct_Endless_init), sl_Endless_init⟩)
    (c_Endless_init : PySem.W.codeIn K cd_Endless_init "Endless.__init__" = true)
    (k_Endless_init : PySem.W.keepIn K (.ref f_Endless_init) = true)
    (rv7 : PySem.HandSPX.refsVE bm7 = true)
    (xb7 : xcB K C7 f_Endless_init "pass_number" = true)
    (isi : isiB K [C0, C1, C2, C3, C4, C5, C6, C7] [0] = true)
    (fld : fldB K [C0, C1, C2, C3, C4, C5, C6, C7] flds = true)
    (blt : blB K bls = true)
    (xsb : xsB K [C0, C1, C2, C3, C4, C5, C6, C7] exs = true)
    (xib : xiB K [C0, C1, C2, C3, C4, C5, C6, C7] exi = true)
    (con_SIGNS : conAt K "SIGNS" = some c_SIGNS)
    (con_MOST_SIGNS : conAt K "MOST_SIGNS" = some (.int 3))
    (con_MOST_DEEDS : conAt K "MOST_DEEDS" = some (.int 3))
    (con_KEEPS : conAt K "KEEPS" = some c_KEEPS)
    (con_TURNS : conAt K "TURNS" = some c_TURNS)
    (con_DEEDS : conAt K "DEEDS" = some c_DEEDS)
    (con_MOST_PASSES : conAt K "MOST_PASSES" = some (.int 2))
    (con_WINDOW : conAt K "WINDOW" = some (.int 12)) :
    ∃ fd : FuncData, (∀ (s : Shared) (v : Value), BindsTo s fd ⟨[v], []⟩ [("_law_script", v)]) ∧ ∀ base : Heap, K.In base → base.Ns mainGlobals mg → FnOk l.prog w K mg base (L2.CX l.prog w) 16 fa fd ["_law_script"] (spLaw K) := by
  have e := hfa.symm.trans (PySem.W.mg_of X G a_law)
  cases e
  have F : Facts K mg C0 C1 C2 C3 C4 C5 C6 C7 := ⟨isiB_ok (T := (tb K C0 C1 C2 C3 C4 C5 C6 C7)) isi, (fun f cs hm => fldB_ok (T := (tb K C0 C1 C2 C3 C4 C5 C6 C7)) fld hm), blB_ok X G blt, PySem.W.mg_of X G aC0, clsB_ok cl0, mk0, kc0, PySem.W.mg_of X G aC1, clsB_ok cl1, mk1, kc1, PySem.W.mg_of X G aC2, clsB_ok cl2, mk2, kc2, PySem.W.mg_of X G aC3, clsB_ok cl3, mk3, kc3, PySem.W.mg_of X G aC4, PySem.W.mg_of X G aC5, PySem.W.mg_of X G aC6, PySem.W.mg_of X G aC7, xsB_ok (T := (tb K C0 C1 C2 C3 C4 C5 C6 C7)) xsb, xiB_ok (T := (tb K C0 C1 C2 C3 C4 C5 C6 C7)) xib, con_ok (T := (tb K C0 C1 C2 C3 C4 C5 C6 C7)) rfl X G con_SIGNS, con_ok (T := (tb K C0 C1 C2 C3 C4 C5 C6 C7)) rfl X G con_MOST_SIGNS, con_ok (T := (tb K C0 C1 C2 C3 C4 C5 C6 C7)) rfl X G con_MOST_DEEDS, con_ok (T := (tb K C0 C1 C2 C3 C4 C5 C6 C7)) rfl X G con_KEEPS, con_ok (T := (tb K C0 C1 C2 C3 C4 C5 C6 C7)) rfl X G con_TURNS, con_ok (T := (tb K C0 C1 C2 C3 C4 C5 C6 C7)) rfl X G con_DEEDS, con_ok (T := (tb K C0 C1 C2 C3 C4 C5 C6 C7)) rfl X G con_MOST_PASSES, con_ok (T := (tb K C0 C1 C2 C3 C4 C5 C6 C7)) rfl X G con_WINDOW⟩
  refine ⟨PySem.W.fnOf "law" "law" (defArgs s_law) (defBody s_law) (defScope s_law) .none kV_law dc_law pm_law an_law cd_law ct_law, fun s v => .of_eq rfl, fun base _ _ => ?_⟩
  exact (chain (P := l.prog) (w := w) (base := base) F (fun_mk (st := s_is_integer) l_is_integer c_is_integer k_is_integer) (PySem.W.mg_of X G a_is_integer) (fun_mk (st := s_is_text) l_is_text c_is_text k_is_text) (PySem.W.mg_of X G a_is_text) (fun_mk (st := s_need_text) l_need_text c_need_text k_need_text) (PySem.W.mg_of X G a_need_text) (fun_mk (st := s_is_one_of) l_is_one_of c_is_one_of k_is_one_of) (PySem.W.mg_of X G a_is_one_of) (fun_mk (st := s_are_deeds) l_are_deeds c_are_deeds k_are_deeds) (PySem.W.mg_of X G a_are_deeds) (fun_mk (st := s_need_fields) l_need_fields c_need_fields k_need_fields) (PySem.W.mg_of X G a_need_fields) (fun_mk (st := s_Stepper_init) l_Stepper_init c_Stepper_init k_Stepper_init) i_Stepper_init j_Stepper_init (fun_mk (st := s_place_of) l_place_of c_place_of k_place_of) (PySem.W.mg_of X G a_place_of) (fun_mk (st := s_beginning_of) l_beginning_of c_beginning_of k_beginning_of) (PySem.W.mg_of X G a_beginning_of) (fun_mk (st := s_Loops_init) l_Loops_init c_Loops_init k_Loops_init) i_Loops_init j_Loops_init (fun_mk (st := s_Loops_touch) l_Loops_touch c_Loops_touch k_Loops_touch) i_Loops_touch j_Loops_touch (fun_mk (st := s_Loops_is_again) l_Loops_is_again c_Loops_is_again k_Loops_is_again) i_Loops_is_again j_Loops_is_again (fun_mk (st := s_Scan_init) l_Scan_init c_Scan_init k_Scan_init) i_Scan_init j_Scan_init (fun_mk (st := s_Scan_write) l_Scan_write c_Scan_write k_Scan_write) i_Scan_write j_Scan_write (fun_mk (st := s_Scan_leave) l_Scan_leave c_Scan_leave k_Scan_leave) i_Scan_leave j_Scan_leave (fun_mk (st := s_Scan_turned) l_Scan_turned c_Scan_turned k_Scan_turned) i_Scan_turned j_Scan_turned (fun_mk (st := s_Scan_meet) l_Scan_meet c_Scan_meet k_Scan_meet) i_Scan_meet j_Scan_meet (fun_mk (st := s_Scan_feed) l_Scan_feed c_Scan_feed k_Scan_feed) i_Scan_feed j_Scan_feed (fun_mk (st := s_Scan_rest) l_Scan_rest c_Scan_rest k_Scan_rest) i_Scan_rest j_Scan_rest (fun_mk (st := s_Outcome_init) l_Outcome_init c_Outcome_init k_Outcome_init) i_Outcome_init j_Outcome_init (fun_mk (st := s_Outcome_text) l_Outcome_text c_Outcome_text k_Outcome_text) ⟨pa_Outcome_text, pb_Outcome_text, pc_Outcome_text, ⟨_, pd_Outcome_text⟩⟩ (fun_mk (st := s_Outcome_events) l_Outcome_events c_Outcome_events k_Outcome_events) ⟨pa_Outcome_events, pb_Outcome_events, pc_Outcome_events, ⟨_, pd_Outcome_events⟩⟩ (fun_mk (st := s_Outcome_len) l_Outcome_len c_Outcome_len k_Outcome_len) i_Outcome_len j_Outcome_len (fun_mk (st := s_old_place) l_old_place c_old_place k_old_place) (PySem.W.mg_of X G a_old_place) (fun_mk (st := s_gone_through) l_gone_through c_gone_through k_gone_through) (PySem.W.mg_of X G a_gone_through) (fun_mk (st := s_fates_of) l_fates_of c_fates_of k_fates_of) (PySem.W.mg_of X G a_fates_of) (fun_mk (st := s_run) l_run c_run k_run) (PySem.W.mg_of X G a_run) (fun_mk (st := s__law_random) l__law_random c__law_random k__law_random) (PySem.W.mg_of X G a__law_random) (fun_mk (st := s__law_below) l__law_below c__law_below k__law_below) (PySem.W.mg_of X G a__law_below) (fun_mk (st := s__law_pick) l__law_pick c__law_pick k__law_pick) (PySem.W.mg_of X G a__law_pick) (fun_mk (st := s__law_drawn) l__law_drawn c__law_drawn k__law_drawn) (PySem.W.mg_of X G a__law_drawn) (fun_mk (st := s__law_make) l__law_make c__law_make k__law_make) (PySem.W.mg_of X G a__law_make) (fun_mk (st := s__law_text) l__law_text c__law_text k__law_text) (PySem.W.mg_of X G a__law_text) (fun_mk (st := s__law_ran) l__law_ran c__law_ran k__law_ran) (PySem.W.mg_of X G a__law_ran) (fun_mk (st := s__law_bare) l__law_bare c__law_bare k__law_bare) (PySem.W.mg_of X G a__law_bare) (fun_mk (st := s_law) l_law c_law k_law) (PySem.W.mg_of X G a_law) (xc_plain (T := (tb K C0 C1 C2 C3 C4 C5 C6 C7)) rfl (PySem.W.mg_of X G aC4) xb4) (xc_init (T := (tb K C0 C1 C2 C3 C4 C5 C6 C7)) rfl (PySem.W.mg_of X G aC5) rfl o5 rv5 xb5 (fun_mk (st := s_InvalidStepper_init) l_InvalidStepper_init c_InvalidStepper_init k_InvalidStepper_init) sc_InvalidStepper_init rfl (by decide +kernel) (by decide +kernel) ((fun_mk (st := s_InvalidStepper_init) l_InvalidStepper_init c_InvalidStepper_init k_InvalidStepper_init).binds (ps := ["self", "field"]) fun _ _ _ _ _ _ us hl => match us, hl with | [_, _], _ => rfl)) (xc_plain (T := (tb K C0 C1 C2 C3 C4 C5 C6 C7)) rfl (PySem.W.mg_of X G aC6) xb6) (xc_init (T := (tb K C0 C1 C2 C3 C4 C5 C6 C7)) rfl (PySem.W.mg_of X G aC7) rfl o7 rv7 xb7 (fun_mk (st := s_Endless_init) l_Endless_init c_Endless_init k_Endless_init) sc_Endless_init rfl (by decide +kernel) (by decide +kernel) ((fun_mk (st := s_Endless_init) l_Endless_init c_Endless_init k_Endless_init).binds (ps := ["self", "pass_number"]) fun _ _ _ _ _ _ us hl => match us, hl with | [_, _], _ => rfl))).imp (spLaw_le (T := (tb K C0 C1 C2 C3 C4 C5 C6 C7)) rfl law_true)
theorem walk {l : PySem.W.OpenLaw} {q : Program} {loose : List Str} {XP : (Str → Option Value) → Heap → Prop} {YP : World → Heap → Prop} {d : DefRec} {K : Params → PySem.W.Frag} (hn : l.most = some 63) (hdf : d.params.defaults = [])
    (hY : ∀ (w : World) (h : Heap), YP w h → (K w.params).In h)
    (F : ∀ (w : World) (mg : Str → Option Value) (fa : Addr) (h : Heap), (K w.params).In h → h.Ns mainGlobals mg → mg d.name = some (.ref fa) →
      ∃ fd : FuncData, (∀ (s : Shared) (u : Value), BindsTo s fd ⟨[u], []⟩ [("_law_script", u)]) ∧ ∀ base : Heap, (K w.params).In base → base.Ns mainGlobals mg → FnOk l.prog w (K w.params) mg base (L2.CX l.prog w) 16 fa fd ["_law_script"] (spLaw (K w.params))) :
    PySem.W.WalkO q loose XP YP l.row.toRowW d [] (fun f vs => PySem.call f vs) :=
  L2.walk_of (n := 63) (k := 16) (x := "_law_script") (CX := fun w => L2.CX l.prog w) (sp := fun w => spLaw (K w.params)) hn (by decide) hdf ⟨rfl, by decide, by decide⟩ hY F (fun _ _ a ns hl _ hS => ⟨a, ns, rfl, hS, hl, fun _ => rfl⟩) fun w H s e s' z => cx_no H s e s' z
end FL

open PySem PySem.W PyProof.Rows
set_option maxRecDepth 100000 in
set_option maxHeartbeats 0 in
theorem PySem.Challenge.cw_hitsteps_k18_whole_passes_one_after_anot_holds : PySem.Challenge.rw_hitsteps_k18_whole_passes_one_after_anot.Holds := by
  w_on; o_law; k_head; (case hw => w_witness2)
  k_fill
  refine FL.walk (l := PySem.Challenge.rw_hitsteps_k18_whole_passes_one_after_anot) rfl rfl (fun w h Y => PySem.W.kIn_of Y) ?F
  case F =>
    intro w mg fa h KX G hmg
    refine' FL.all_mk KX G hmg ?aC0 ?aC1 ?aC2 ?aC3 ?aC4 ?aC5 ?aC6 ?aC7 ?a_is_integer ?l_is_integer ?c_is_integer ?k_is_integer ?a_is_text ?l_is_text ?c_is_text ?k_is_text ?a_need_text ?l_need_text ?c_need_text ?k_need_text ?a_is_one_of ?l_is_one_of ?c_is_one_of ?k_is_one_of ?a_are_deeds ?l_are_deeds ?c_are_deeds ?k_are_deeds ?a_need_fields ?l_need_fields ?c_need_fields ?k_need_fields ?i_Stepper_init ?j_Stepper_init ?l_Stepper_init ?c_Stepper_init ?k_Stepper_init ?a_place_of ?l_place_of ?c_place_of ?k_place_of ?a_beginning_of ?l_beginning_of ?c_beginning_of ?k_beginning_of ?i_Loops_init ?j_Loops_init ?l_Loops_init ?c_Loops_init ?k_Loops_init ?i_Loops_touch ?j_Loops_touch ?l_Loops_touch ?c_Loops_touch ?k_Loops_touch ?i_Loops_is_again ?j_Loops_is_again ?l_Loops_is_again ?c_Loops_is_again ?k_Loops_is_again ?i_Scan_init ?j_Scan_init ?l_Scan_init ?c_Scan_init ?k_Scan_init ?i_Scan_write ?j_Scan_write ?l_Scan_write ?c_Scan_write ?k_Scan_write ?i_Scan_leave ?j_Scan_leave ?l_Scan_leave ?c_Scan_leave ?k_Scan_leave ?i_Scan_turned ?j_Scan_turned ?l_Scan_turned ?c_Scan_turned ?k_Scan_turned ?i_Scan_meet ?j_Scan_meet ?l_Scan_meet ?c_Scan_meet ?k_Scan_meet ?i_Scan_feed ?j_Scan_feed ?l_Scan_feed ?c_Scan_feed ?k_Scan_feed ?i_Scan_rest ?j_Scan_rest ?l_Scan_rest ?c_Scan_rest ?k_Scan_rest ?i_Outcome_init ?j_Outcome_init ?l_Outcome_init ?c_Outcome_init ?k_Outcome_init ?pa_Outcome_text ?pb_Outcome_text ?pc_Outcome_text ?pd_Outcome_text ?l_Outcome_text ?c_Outcome_text ?k_Outcome_text ?pa_Outcome_events ?pb_Outcome_events ?pc_Outcome_events ?pd_Outcome_events ?l_Outcome_events ?c_Outcome_events ?k_Outcome_events ?i_Outcome_len ?j_Outcome_len ?l_Outcome_len ?c_Outcome_len ?k_Outcome_len ?a_old_place ?l_old_place ?c_old_place ?k_old_place ?a_gone_through ?l_gone_through ?c_gone_through ?k_gone_through ?a_fates_of ?l_fates_of ?c_fates_of ?k_fates_of ?a_run ?l_run ?c_run ?k_run ?a__law_random ?l__law_random ?c__law_random ?k__law_random ?a__law_below ?l__law_below ?c__law_below ?k__law_below ?a__law_pick ?l__law_pick ?c__law_pick ?k__law_pick ?a__law_drawn ?l__law_drawn ?c__law_drawn ?k__law_drawn ?a__law_make ?l__law_make ?c__law_make ?k__law_make ?a__law_text ?l__law_text ?c__law_text ?k__law_text ?a__law_ran ?l__law_ran ?c__law_ran ?k__law_ran ?a__law_bare ?l__law_bare ?c__law_bare ?k__law_bare ?a_law ?l_law ?c_law ?k_law ?cl0 ?mk0 ?kc0 ?cl1 ?mk1 ?kc1 ?cl2 ?mk2 ?kc2 ?cl3 ?mk3 ?kc3 ?xb4 ?o5 ?i_InvalidStepper_init ?l_InvalidStepper_init ?c_InvalidStepper_init ?k_InvalidStepper_init ?rv5 ?xb5 ?xb6 ?o7 ?i_Endless_init ?l_Endless_init ?c_Endless_init ?k_Endless_init ?rv7 ?xb7 ?isi ?fld ?blt ?xsb ?xib ?con_SIGNS ?con_MOST_SIGNS ?con_MOST_DEEDS ?con_KEEPS ?con_TURNS ?con_DEEDS ?con_MOST_PASSES ?con_WINDOW
    (case aC0 => k_is)
    (case aC1 => k_is)
    (case aC2 => k_is)
    (case aC3 => k_is)
    (case aC4 => k_is)
    (case aC5 => k_is)
    (case aC6 => k_is)
    (case aC7 => k_is)
    (case a_is_integer => k_is)
    (case l_is_integer => k_is)
    (case c_is_integer => k_is)
    (case k_is_integer => k_is)
    (case a_is_text => k_is)
    (case l_is_text => k_is)
    (case c_is_text => k_is)
    (case k_is_text => k_is)
    (case a_need_text => k_is)
    (case l_need_text => k_is)
    (case c_need_text => k_is)
    (case k_need_text => k_is)
    (case a_is_one_of => k_is)
    (case l_is_one_of => k_is)
    (case c_is_one_of => k_is)
    (case k_is_one_of => k_is)
    (case a_are_deeds => k_is)
    (case l_are_deeds => k_is)
    (case c_are_deeds => k_is)
    (case k_are_deeds => k_is)
    (case a_need_fields => k_is)
    (case l_need_fields => k_is)
    (case c_need_fields => k_is)
    (case k_need_fields => k_is)
    (case i_Stepper_init => k_is)
    (case j_Stepper_init => k_is)
    (case l_Stepper_init => k_is)
    (case c_Stepper_init => k_is)
    (case k_Stepper_init => k_is)
    (case a_place_of => k_is)
    (case l_place_of => k_is)
    (case c_place_of => k_is)
    (case k_place_of => k_is)
    (case a_beginning_of => k_is)
    (case l_beginning_of => k_is)
    (case c_beginning_of => k_is)
    (case k_beginning_of => k_is)
    (case i_Loops_init => k_is)
    (case j_Loops_init => k_is)
    (case l_Loops_init => k_is)
    (case c_Loops_init => k_is)
    (case k_Loops_init => k_is)
    (case i_Loops_touch => k_is)
    (case j_Loops_touch => k_is)
    (case l_Loops_touch => k_is)
    (case c_Loops_touch => k_is)
    (case k_Loops_touch => k_is)
    (case i_Loops_is_again => k_is)
    (case j_Loops_is_again => k_is)
    (case l_Loops_is_again => k_is)
    (case c_Loops_is_again => k_is)
    (case k_Loops_is_again => k_is)
    (case i_Scan_init => k_is)
    (case j_Scan_init => k_is)
    (case l_Scan_init => k_is)
    (case c_Scan_init => k_is)
    (case k_Scan_init => k_is)
    (case i_Scan_write => k_is)
    (case j_Scan_write => k_is)
    (case l_Scan_write => k_is)
    (case c_Scan_write => k_is)
    (case k_Scan_write => k_is)
    (case i_Scan_leave => k_is)
    (case j_Scan_leave => k_is)
    (case l_Scan_leave => k_is)
    (case c_Scan_leave => k_is)
    (case k_Scan_leave => k_is)
    (case i_Scan_turned => k_is)
    (case j_Scan_turned => k_is)
    (case l_Scan_turned => k_is)
    (case c_Scan_turned => k_is)
    (case k_Scan_turned => k_is)
    (case i_Scan_meet => k_is)
    (case j_Scan_meet => k_is)
    (case l_Scan_meet => k_is)
    (case c_Scan_meet => k_is)
    (case k_Scan_meet => k_is)
    (case i_Scan_feed => k_is)
    (case j_Scan_feed => k_is)
    (case l_Scan_feed => k_is)
    (case c_Scan_feed => k_is)
    (case k_Scan_feed => k_is)
    (case i_Scan_rest => k_is)
    (case j_Scan_rest => k_is)
    (case l_Scan_rest => k_is)
    (case c_Scan_rest => k_is)
    (case k_Scan_rest => k_is)
    (case i_Outcome_init => k_is)
    (case j_Outcome_init => k_is)
    (case l_Outcome_init => k_is)
    (case c_Outcome_init => k_is)
    (case k_Outcome_init => k_is)
    (case pa_Outcome_text => k_is)
    (case pb_Outcome_text => k_is)
    (case pc_Outcome_text => k_is)
    (case pd_Outcome_text => k_is)
    (case l_Outcome_text => k_is)
    (case c_Outcome_text => k_is)
    (case k_Outcome_text => k_is)
    (case pa_Outcome_events => k_is)
    (case pb_Outcome_events => k_is)
    (case pc_Outcome_events => k_is)
    (case pd_Outcome_events => k_is)
    (case l_Outcome_events => k_is)
    (case c_Outcome_events => k_is)
    (case k_Outcome_events => k_is)
    (case i_Outcome_len => k_is)
    (case j_Outcome_len => k_is)
    (case l_Outcome_len => k_is)
    (case c_Outcome_len => k_is)
    (case k_Outcome_len => k_is)
    (case a_old_place => k_is)
    (case l_old_place => k_is)
    (case c_old_place => k_is)
    (case k_old_place => k_is)
    (case a_gone_through => k_is)
    (case l_gone_through => k_is)
    (case c_gone_through => k_is)
    (case k_gone_through => k_is)
    (case a_fates_of => k_is)
    (case l_fates_of => k_is)
    (case c_fates_of => k_is)
    (case k_fates_of => k_is)
    (case a_run => k_is)
    (case l_run => k_is)
    (case c_run => k_is)
    (case k_run => k_is)
    (case a__law_random => k_is)
    (case l__law_random => k_is)
    (case c__law_random => k_is)
    (case k__law_random => k_is)
    (case a__law_below => k_is)
    (case l__law_below => k_is)
    (case c__law_below => k_is)
    (case k__law_below => k_is)
    (case a__law_pick => k_is)
    (case l__law_pick => k_is)
    (case c__law_pick => k_is)
    (case k__law_pick => k_is)
    (case a__law_drawn => k_is)
    (case l__law_drawn => k_is)
    (case c__law_drawn => k_is)
    (case k__law_drawn => k_is)
    (case a__law_make => k_is)
    (case l__law_make => k_is)
    (case c__law_make => k_is)
    (case k__law_make => k_is)
    (case a__law_text => k_is)
    (case l__law_text => k_is)
    (case c__law_text => k_is)
    (case k__law_text => k_is)
    (case a__law_ran => k_is)
    (case l__law_ran => k_is)
    (case c__law_ran => k_is)
    (case k__law_ran => k_is)
    (case a__law_bare => k_is)
    (case l__law_bare => k_is)
    (case c__law_bare => k_is)
    (case k__law_bare => k_is)
    (case a_law => k_is)
    (case l_law => k_is)
    (case c_law => k_is)
    (case k_law => k_is)
    (case cl0 => kernel_rfl)
    (case mk0 => k_is)
    (case kc0 => k_is)
    (case cl1 => kernel_rfl)
    (case mk1 => k_is)
    (case kc1 => k_is)
    (case cl2 => kernel_rfl)
    (case mk2 => k_is)
    (case kc2 => k_is)
    (case cl3 => kernel_rfl)
    (case mk3 => k_is)
    (case kc3 => k_is)
    (case xb4 => kernel_rfl)
    (case o5 => k_is)
    (case i_InvalidStepper_init => k_is)
    (case l_InvalidStepper_init => k_is)
    (case c_InvalidStepper_init => k_is)
    (case k_InvalidStepper_init => k_is)
    (case rv5 => kernel_rfl)
    (case xb5 => kernel_rfl)
    (case xb6 => kernel_rfl)
    (case o7 => k_is)
    (case i_Endless_init => k_is)
    (case l_Endless_init => k_is)
    (case c_Endless_init => k_is)
    (case k_Endless_init => k_is)
    (case rv7 => kernel_rfl)
    (case xb7 => kernel_rfl)
    (case isi => kernel_rfl)
    (case fld => kernel_rfl)
    (case blt => kernel_rfl)
    (case xsb => kernel_rfl)
    (case xib => kernel_rfl)
    (case con_SIGNS => kernel_rfl)
    (case con_MOST_SIGNS => kernel_rfl)
    (case con_MOST_DEEDS => kernel_rfl)
    (case con_KEEPS => kernel_rfl)
    (case con_TURNS => kernel_rfl)
    (case con_DEEDS => kernel_rfl)
    (case con_MOST_PASSES => kernel_rfl)
    (case con_WINDOW => kernel_rfl)
