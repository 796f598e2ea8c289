import PyProof.Rows.All
import Wide.All
import OpenK.AllK
import Wide.FinOn
import HandS.ForMost
import HandS.ForExc
import HandS.Wide
import HandS.Flow
import HandS.IsInst
import PyProof.NeData
import HandS.ExcOwn
import HandS.ExcIs
import HandS.TryOnly
import HandS.Text
import HandS.StrMore
import HandS.SortOrd
import HandS.SortRule
import HandS.SortInts
import HandS.RevTup
import HandS.Rev
import PyProof.ListNew
import HandS.HotCalls
import HandS.SuiteRaise
import HandS.RaiseFrom
import HandS.ExcInit
import HandS.ExcInitHot
import HandS.ExcCtx
import HandS.ClsMeth
import HandS.ExcField
import KE.KExcIs
import PySem.Challenge.RW_reels_k19_whole_cues_read
set_option Elab.async false
set_option linter.all false
set_option maxRecDepth 100000
set_option maxHeartbeats 2000000
/-! A layer of plain data over HandS: D values (trees), own slots, shared cells; an evaluator on them; its soundness, construct by construct. -/
namespace Dv
open PySem PySem.Spec PyProof.Rows L2

/-! ### data -/
inductive D where
  | non
  | bl (b : Bool)
  | int (i : Int)
  | str (x : Str)
  | tup (ds : List D)
  | lst (ds : List D)
  | obj (c : Str) (fs : List (Str × D))
  | loc (i : Nat)
  | frz (ds : List D)
  deriving Inhabited
inductive Cell where
  | gone
  | lst (ds : List D)
  | ins (c : Str) (fs : List (Str × D))
  deriving Inhabited
structure DX where
  c : Str
  fs : List (Str × D)
inductive Sl where
  | val (d : D)
  | own (ds : List D)
  | exc (x : DX)
abbrev Rho := List (Option Sl)
abbrev Om := List Cell
inductive Res (τ : Type) where
  | ok (t : τ) (r : Rho) (o : Om)
  | xc (x : DX) (r : Rho) (o : Om)
  | no
@[simp] def Res.bind {τ υ : Type} : Res τ → (τ → Rho → Om → Res υ) → Res υ
  | .ok t r o, f => f t r o
  | .xc x r o, _ => .xc x r o
  | .no, _ => .no

/-- what a def of the text answers -/
inductive FR where
  | ok (d : D) (o : Om)
  | xc (x : DX) (o : Om)
  | no
@[simp] def FR.res : FR → Rho → Res D
  | .ok d o, r => .ok d r o
  | .xc x o, r => .xc x r o
  | .no, _ => .no
@[simp] def liftO {τ : Type} : Option τ → Rho → Om → Res τ
  | some t, r, o => .ok t r o
  | none, _, _ => .no

/-- the static facts: the written part, the classes' addresses -/
structure G where
  K : PySem.W.Frag
  cls : Str → Addr
  ex : Option (Nat × Addr × Str)
abbrev gK (K : PySem.W.Frag) (cls : Str → Addr) : G := ⟨K, cls, none⟩

/-- a list that is locked (the script), or stands in the written part -/
def FzL (K : PySem.W.Frag) (H : Hp) (a : Addr) (xs : List V) : Prop :=
  (∃ o, H a = some (.frz o (.lst xs))) ∨ ∃ (o : Obj) (its : Array Value) (n : Nat), K.lookup a = some o ∧ o.cls = .type "list" ∧ o.dict = none ∧ o.data = .seq its n ∧ its.size ≤ sizeLine ∧ Vals xs its.toList
theorem FzL.sq {K : PySem.W.Frag} {H : Hp} {a : Addr} {xs : List V} (h : FzL K H a xs) : SqL K H a xs := h.elim (fun ⟨o, h⟩ => .inl (.inr ⟨o, h⟩)) .inr
section
variable (g : G) (al : List Addr) (L : Addr → Prop) (H : Hp)
mutual
inductive RepV : V → D → Prop
  | non : RepV .non .non
  | bl {b : Bool} : RepV (.bl b) (.bl b)
  | int {i : Int} : RepV (.int i) (.int i)
  | str {x : Str} : RepV (.str x) (.str x)
  | tup {a : Addr} {vs : List V} {ds : List D} : SqT g.K H a vs → RepVs vs ds → RepV (.ref a) (.tup ds)
  | lst {a : Addr} {vs : List V} {ds : List D} : H a = some (.lst vs) → ¬ L a → RepVs vs ds → RepV (.ref a) (.lst ds)
  | frz {a : Addr} {vs : List V} {ds : List D} : FzL g.K H a vs → RepVs vs ds → RepV (.ref a) (.frz ds)
  | obj {a dx : Addr} {c : Str} {fvs : List (Str × V)} {fs : List (Str × D)} : H a = some (.ins (g.cls c) dx fvs) → ¬ L a → RepFs fvs fs → RepV (.ref a) (.obj c fs)
  | loc {i : Nat} {a : Addr} : al[i]? = some a → RepV (.ref a) (.loc i)
inductive RepVs : List V → List D → Prop
  | nil : RepVs [] []
  | cons {v : V} {vs : List V} {d : D} {ds : List D} : RepV v d → RepVs vs ds → RepVs (v :: vs) (d :: ds)
inductive RepFs : List (Str × V) → List (Str × D) → Prop
  | nil : RepFs [] []
  | cons {f : Str} {v : V} {vs : List (Str × V)} {d : D} {ds : List (Str × D)} : RepV v d → RepFs vs ds → RepFs ((f, v) :: vs) ((f, d) :: ds)
end
end

section
variable {g : G} {al al' : List Addr} {L L' : Addr → Prop} {H H' : Hp}
/-- what carries a representation on -/
structure Car (g : G) (al : List Addr) (L : Addr → Prop) (H : Hp) (al' : List Addr) (L' : Addr → Prop) (H' : Hp) : Prop where
  tup : ∀ (a : Addr) (vs : List V), SqT g.K H a vs → SqT g.K H' a vs
  lst : ∀ (a : Addr) (vs : List V), H a = some (.lst vs) → ¬ L a → H' a = some (.lst vs) ∧ ¬ L' a
  frz : ∀ (a : Addr) (vs : List V), FzL g.K H a vs → FzL g.K H' a vs
  obj : ∀ (a C dx : Addr) (fs : List (Str × V)), H a = some (.ins C dx fs) → ¬ L a → H' a = some (.ins C dx fs) ∧ ¬ L' a
  loc : ∀ (i : Nat) (a : Addr), al[i]? = some a → al'[i]? = some a
mutual
theorem RepV.car (c : Car g al L H al' L' H') : ∀ {v : V} {d : D}, RepV g al L H v d → RepV g al' L' H' v d
  | _, _, .non => .non
  | _, _, .bl => .bl
  | _, _, .int => .int
  | _, _, .str => .str
  | _, _, .tup h r => .tup (c.tup _ _ h) (RepVs.car c r)
  | _, _, .lst h n r => .lst (c.lst _ _ h n).1 (c.lst _ _ h n).2 (RepVs.car c r)
  | _, _, .frz h r => .frz (c.frz _ _ h) (RepVs.car c r)
  | _, _, .obj h n r => .obj (c.obj _ _ _ _ h n).1 (c.obj _ _ _ _ h n).2 (RepFs.car c r)
  | _, _, .loc h => .loc (c.loc _ _ h)
theorem RepVs.car (c : Car g al L H al' L' H') : ∀ {vs : List V} {ds : List D}, RepVs g al L H vs ds → RepVs g al' L' H' vs ds
  | _, _, .nil => .nil
  | _, _, .cons h r => .cons (RepV.car c h) (RepVs.car c r)
theorem RepFs.car (c : Car g al L H al' L' H') : ∀ {vs : List (Str × V)} {ds : List (Str × D)}, RepFs g al L H vs ds → RepFs g al' L' H' vs ds
  | _, _, .nil => .nil
  | _, _, .cons h r => .cons (RepV.car c h) (RepFs.car c r)
end

theorem RepVs.length : ∀ {vs : List V} {ds : List D}, RepVs g al L H vs ds → vs.length = ds.length
  | _, _, .nil => rfl
  | _, _, .cons _ r => by simp [RepVs.length r]
theorem RepVs.get : ∀ {vs : List V} {ds : List D}, RepVs g al L H vs ds → ∀ {i : Nat} {d : D}, ds[i]? = some d → ∃ v, vs[i]? = some v ∧ RepV g al L H v d
  | _, _, .nil, i, d, h => by simp at h
  | _, _, .cons h r, 0, d, e => by
    simp at e
    subst e
    exact ⟨_, rfl, h⟩
  | _, _, .cons h r, i + 1, d, e => by
    obtain ⟨v, h1, h2⟩ := RepVs.get r (i := i) (d := d) (by simpa using e)
    exact ⟨v, by simpa using h1, h2⟩
theorem RepVs.get' : ∀ {vs : List V} {ds : List D}, RepVs g al L H vs ds → ∀ {i : Nat} {v : V}, vs[i]? = some v → ∃ d, ds[i]? = some d ∧ RepV g al L H v d
  | _, _, .nil, i, d, h => by simp at h
  | _, _, .cons h r, 0, d, e => by
    simp at e
    subst e
    exact ⟨_, rfl, h⟩
  | _, _, .cons h r, i + 1, d, e => by
    obtain ⟨v, h1, h2⟩ := RepVs.get' r (i := i) (v := d) (by simpa using e)
    exact ⟨v, by simpa using h1, h2⟩
theorem RepVs.append : ∀ {vs ws : List V} {ds es : List D}, RepVs g al L H vs ds → RepVs g al L H ws es → RepVs g al L H (vs ++ ws) (ds ++ es)
  | _, _, _, _, .nil, s => s
  | _, _, _, _, .cons h r, s => .cons h (RepVs.append r s)
theorem RepVs.take : ∀ {vs : List V} {ds : List D} (n : Nat), RepVs g al L H vs ds → RepVs g al L H (vs.take n) (ds.take n)
  | _, _, 0, _ => .nil
  | _, _, _ + 1, .nil => .nil
  | _, _, n + 1, .cons h r => .cons h (RepVs.take n r)
theorem RepVs.drop : ∀ {vs : List V} {ds : List D} (n : Nat), RepVs g al L H vs ds → RepVs g al L H (vs.drop n) (ds.drop n)
  | _, _, 0, r => r
  | _, _, _ + 1, .nil => .nil
  | _, _, n + 1, .cons _ r => RepVs.drop n r
theorem RepVs.set {v : V} {d : D} (h : RepV g al L H v d) : ∀ {vs : List V} {ds : List D} (i : Nat), RepVs g al L H vs ds → RepVs g al L H (vs.set i v) (ds.set i d)
  | _, _, _, .nil => .nil
  | _, _, 0, .cons _ r => .cons h r
  | _, _, i + 1, .cons q r => .cons q (RepVs.set h i r)
theorem RepVs.eraseIdx : ∀ {vs : List V} {ds : List D} (i : Nat), RepVs g al L H vs ds → RepVs g al L H (vs.eraseIdx i) (ds.eraseIdx i)
  | _, _, _, .nil => .nil
  | _, _, 0, .cons _ r => r
  | _, _, i + 1, .cons q r => .cons q (RepVs.eraseIdx i r)
theorem RepVs.dropLast {vs : List V} {ds : List D} (h : RepVs g al L H vs ds) : RepVs g al L H vs.dropLast ds.dropLast := by
  rw [List.dropLast_eq_take, List.dropLast_eq_take, h.length]
  exact h.take _
theorem RepVs.reverse {vs : List V} {ds : List D} (h : RepVs g al L H vs ds) : RepVs g al L H vs.reverse ds.reverse := by
  induction vs generalizing ds with
  | nil => cases h; exact .nil
  | cons v vs ih =>
    cases h with
    | cons h r =>
      rw [List.reverse_cons, List.reverse_cons]
      exact (ih r).append (.cons h .nil)
theorem RepVs.flat {vs : List V} {ds : List D} (h : RepVs g al L H vs ds) : ∀ k : Nat, RepVs g al L H (List.replicate k vs).flatten (List.replicate k ds).flatten
  | 0 => .nil
  | k + 1 => by
    rw [List.replicate_succ, List.replicate_succ, List.flatten_cons, List.flatten_cons]
    exact h.append (RepVs.flat h k)
theorem RepVs.ints : ∀ {vs : List V} {ns : List Int}, RepVs g al L H vs (ns.map D.int) → vs = ns.map V.int
  | _, [], h => by cases h; rfl
  | _, n :: ns, h => by
    rw [List.map_cons] at h
    cases h with
    | cons h r =>
      cases h
      rw [RepVs.ints r]
      rfl
theorem RepVs.strs : ∀ {vs : List V} {ns : List Str}, RepVs g al L H vs (ns.map D.str) → vs = ns.map V.str
  | _, [], h => by cases h; rfl
  | _, n :: ns, h => by
    rw [List.map_cons] at h
    cases h with
    | cons h r =>
      cases h
      rw [RepVs.strs r]
      rfl
theorem RepVs.of_ints : ∀ {ns : List Int}, RepVs g al L H (ns.map V.int) (ns.map D.int)
  | [] => .nil
  | n :: ns => .cons .int RepVs.of_ints
theorem RepVs.of_strs : ∀ {ns : List Str}, RepVs g al L H (ns.map V.str) (ns.map D.str)
  | [] => .nil
  | n :: ns => .cons .str RepVs.of_strs
theorem RepFs.length : ∀ {vs : List (Str × V)} {ds : List (Str × D)}, RepFs g al L H vs ds → vs.length = ds.length
  | _, _, .nil => rfl
  | _, _, .cons _ r => by simp [RepFs.length r]
theorem RepFs.lookup : ∀ {vs : List (Str × V)} {ds : List (Str × D)}, RepFs g al L H vs ds → ∀ {f : Str} {d : D}, ds.lookup f = some d → ∃ v, vs.lookup f = some v ∧ RepV g al L H v d
  | _, _, .nil, f, d, h => by cases h
  | _, _, .cons (f := f') h r, f, d, e => by
    by_cases q : (f == f') = true
    · simp [List.lookup, q] at e ⊢
      subst e
      exact h
    · simp only [Bool.not_eq_true] at q
      simp [List.lookup, q] at e ⊢
      exact RepFs.lookup r e
theorem RepFs.lookup_none : ∀ {vs : List (Str × V)} {ds : List (Str × D)}, RepFs g al L H vs ds → ∀ {f : Str}, ds.lookup f = none → vs.lookup f = none
  | _, _, .nil, f, _ => rfl
  | _, _, .cons (f := f') h r, f, e => by
    by_cases q : (f == f') = true
    · simp [List.lookup, q] at e
    · simp only [Bool.not_eq_true] at q
      simp only [List.lookup, q] at e ⊢
      exact RepFs.lookup_none r e
/-- an attribute stored -/
def putD (f : Str) (d : D) : List (Str × D) → List (Str × D)
  | [] => [(f, d)]
  | (h, e) :: r => if h = f then (h, d) :: r else (h, e) :: putD f d r
theorem RepFs.put {f : Str} {v : V} {d : D} (h : RepV g al L H v d) : ∀ {vs : List (Str × V)} {ds : List (Str × D)}, RepFs g al L H vs ds → RepFs g al L H (putF f v vs) (putD f d ds)
  | _, _, .nil => .cons h .nil
  | _, _, .cons (f := f') q r => by
    unfold putF putD
    split
    · exact .cons h r
    · exact .cons q (RepFs.put h r)
end
end Dv

namespace Dv
open PySem PySem.Spec PyProof.Rows L2

abbrev St := L2.St
/-! ### the state -/
/-- the addresses of the living cells; of the own slots -/
def Lv (al : List Addr) (om : Om) (a : Addr) : Prop := ∃ (i : Nat) (c : Cell), al[i]? = some a ∧ om[i]? = some c ∧ c ≠ .gone
def OwnA (σ : St) (ρ : Rho) (a : Addr) : Prop := ∃ (i : Nat) (ds : List D), ρ[i]? = some (some (.own ds)) ∧ σ[i]? = some (some (.ref a))
def Mt (al : List Addr) (om : Om) (σ : St) (ρ : Rho) (a : Addr) : Prop := Lv al om a ∨ OwnA σ ρ a
def LL (R : Addr → Prop) (al : List Addr) (om : Om) (σ : St) (ρ : Rho) (a : Addr) : Prop := Mt al om σ ρ a ∨ R a
def CellR (g : G) (al : List Addr) (L : Addr → Prop) (H : Hp) (a : Addr) : Cell → Prop
  | .gone => True
  | .lst ds => ∃ vs, H a = some (.lst vs) ∧ RepVs g al L H vs ds
  | .ins c fs => ∃ dx fvs, H a = some (.ins (g.cls c) dx fvs) ∧ RepFs g al L H fvs fs
/-- the shared cells, R being reserved -/
structure RO (g : G) (R : Addr → Prop) (al : List Addr) (om : Om) (H : Hp) (L : Addr → Prop) : Prop where
  len : al.length = om.length
  cel : ∀ (i : Nat) (c : Cell) (a : Addr), om[i]? = some c → al[i]? = some a → CellR g al L H a c
  inj : ∀ (i j : Nat) (a : Addr) (ci cj : Cell), al[i]? = some a → al[j]? = some a → om[i]? = some ci → om[j]? = some cj → ci ≠ .gone → cj ≠ .gone → i = j
  rsv : ∀ a, R a → ¬ Lv al om a ∧ H a ≠ none
/-- as many slots; the slot of a caught exception -/
structure Sle (g : G) (σ : St) (ρ : Rho) : Prop where
  len : σ.length = ρ.length
  exc : ∀ (i : Nat) (a : Addr) (c : Str) (x : DX), g.ex = some (i, a, c) → ρ[i]? = some (some (.exc x)) → σ[i]? = some (some (.ref a)) ∧ x.c = c
/-- a frame's state -/
structure Rst (g : G) (R : Addr → Prop) (al : List Addr) (σ : St) (ρ : Rho) (om : Om) (H : Hp) : Prop where
  o : RO g R al om H (LL R al om σ ρ)
  sl : Sle g σ ρ
  val : ∀ (i : Nat) (d : D), ρ[i]? = some (some (.val d)) → ∃ v, σ[i]? = some (some v) ∧ RepV g al (LL R al om σ ρ) H v d
  own : ∀ (i : Nat) (ds : List D), ρ[i]? = some (some (.own ds)) → ∃ (a : Addr) (vs : List V), σ[i]? = some (some (.ref a)) ∧ H a = some (.lst vs) ∧ RepVs g al (LL R al om σ ρ) H vs ds
  odj : ∀ (i j : Nat) (a : Addr) (di dj : List D), ρ[i]? = some (some (.own di)) → ρ[j]? = some (some (.own dj)) → σ[i]? = some (some (.ref a)) → σ[j]? = some (some (.ref a)) → i = j
  ocl : ∀ a, OwnA σ ρ a → ¬ Lv al om a ∧ ¬ R a
/-- from one state to a later one: M is what may have changed -/
structure Step (al : List Addr) (M : Addr → Prop) (H : Hp) (al' : List Addr) (M' : Addr → Prop) (H' : Hp) : Prop where
  ext : ∀ (i : Nat) (a : Addr), al[i]? = some a → al'[i]? = some a
  keep : ∀ (a : Addr) (o : HO), H a = some o → ¬ M a → H' a = some o
  fresh : ∀ a, M' a → M a ∨ H a = none
/-- an exception of an own class -/
def RepX (g : G) (al : List Addr) (L : Addr → Prop) (H : Hp) (cv : Value) (dd : Option Addr) (x : DX) : Prop :=
  cv = .ref (g.cls x.c) ∧ ((x.fs = [] ∧ dd = none) ∨ ∃ (d : Addr) (fvs : List (Str × V)), dd = some d ∧ x.fs ≠ [] ∧ H d = some (.xd fvs) ∧ RepFs g al L H fvs x.fs)

section
variable {g : G} {R : Addr → Prop} {al al' al2 : List Addr} {M M' M2 L L' : Addr → Prop} {om om' : Om} {σ σ' : St} {ρ ρ' : Rho} {H H' H2 : Hp}
theorem Step.refl : Step al M H al M H := ⟨fun _ _ h => h, fun _ _ h _ => h, fun _ h => .inl h⟩
theorem Step.trans (s : Step al M H al' M' H') (t : Step al' M' H' al2 M2 H2) : Step al M H al2 M2 H2 where
  ext := fun i a h => t.ext i a (s.ext i a h)
  keep := fun a o h n => t.keep a o (s.keep a o h n) fun m => by
    rcases s.fresh a m with q | q
    · exact n q
    · rw [h] at q; cases q
  fresh := fun a m => by
    by_cases q : M a
    · exact .inl q
    · refine .inr ?_
      cases e : H a with
      | none => rfl
      | some o =>
        have k := s.keep a o e q
        rcases t.fresh a m with z | z
        · rcases s.fresh a z with y | y
          · exact absurd y q
          · rw [e] at y; cases y
        · rw [k] at z; cases z
/-- the same addresses, the heap grown, less changing -/
theorem Step.grow (k : ∀ (a : Addr) (o : HO), H a = some o → ¬ M a → H' a = some o) (m : ∀ a, M' a → M a ∨ H a = none) : Step al M H al M' H' := ⟨fun _ _ h => h, k, m⟩
/-- what changes are lists and instances -/
def Flat (M : Addr → Prop) (H : Hp) : Prop := ∀ a, M a → (∃ xs, H a = some (.lst xs)) ∨ ∃ C dx fs, H a = some (.ins C dx fs)
theorem Lv.flat (o : RO g R al om H L) : Flat (Lv al om) H := fun a ⟨i, c, h1, h2, h3⟩ => by
  have q := o.cel i c a h2 h1
  cases c with
  | gone => exact absurd rfl h3
  | lst ds => obtain ⟨vs, e, _⟩ := q; exact .inl ⟨vs, e⟩
  | ins c fs => obtain ⟨dx, fvs, e, _⟩ := q; exact .inr ⟨_, dx, fvs, e⟩
theorem Mt.flat (S : Rst g R al σ ρ om H) : Flat (Mt al om σ ρ) H := fun a m => by
  rcases m with m | ⟨i, ds, h1, h2⟩
  · exact Lv.flat S.o a m
  · obtain ⟨b, vs, e1, e2, _⟩ := S.own i ds h1
    rw [h2] at e1
    cases e1
    exact .inl ⟨vs, e2⟩
/-- a representation is carried by a step, R staying reserved -/
theorem Step.car (s : Step al M H al' M' H') (f : Flat M H) (hr : ∀ a, R a → H a ≠ none) : Car g al (fun a => M a ∨ R a) H al' (fun a => M' a ∨ R a) H' where
  tup := fun a vs h => by
    rcases h with (h | ⟨o, h⟩) | h
    · refine .inl (.inl (s.keep a _ h fun m => ?_))
      rcases f a m with ⟨xs, e⟩ | ⟨C, dx, fs, e⟩ <;> (rw [h] at e; cases e)
    · refine .inl (.inr ⟨o, s.keep a _ h fun m => ?_⟩)
      rcases f a m with ⟨xs, e⟩ | ⟨C, dx, fs, e⟩ <;> (rw [h] at e; cases e)
    · exact .inr h
  lst := fun a vs h n => by
    refine ⟨s.keep a _ h fun m => n (.inl m), fun m => ?_⟩
    rcases m with m | m
    · rcases s.fresh a m with q | q
      · exact n (.inl q)
      · rw [h] at q; cases q
    · exact n (.inr m)
  frz := fun a vs h => h.imp (fun ⟨o, h⟩ => ⟨o, s.keep a _ h fun m => by
    rcases f a m with ⟨xs, e⟩ | ⟨C, dx, fs, e⟩ <;> (rw [h] at e; cases e)⟩) id
  obj := fun a C dx fs h n => by
    refine ⟨s.keep a _ h fun m => n (.inl m), fun m => ?_⟩
    rcases m with m | m
    · rcases s.fresh a m with q | q
      · exact n (.inl q)
      · rw [h] at q; cases q
    · exact n (.inr m)
  loc := fun i a h => s.ext i a h
theorem Step.rep (s : Step al (Mt al om σ ρ) H al' (Mt al' om' σ' ρ') H') (S : Rst g R al σ ρ om H) {v : V} {d : D} (r : RepV g al (LL R al om σ ρ) H v d) : RepV g al' (LL R al' om' σ' ρ') H' v d :=
  r.car (s.car (Mt.flat S) fun a h => (S.o.rsv a h).2)
theorem Step.reps (s : Step al (Mt al om σ ρ) H al' (Mt al' om' σ' ρ') H') (S : Rst g R al σ ρ om H) {v : List V} {d : List D} (r : RepVs g al (LL R al om σ ρ) H v d) : RepVs g al' (LL R al' om' σ' ρ') H' v d :=
  r.car (s.car (Mt.flat S) fun a h => (S.o.rsv a h).2)
theorem Step.repfs (s : Step al (Mt al om σ ρ) H al' (Mt al' om' σ' ρ') H') (S : Rst g R al σ ρ om H) {v : List (Str × V)} {d : List (Str × D)} (r : RepFs g al (LL R al om σ ρ) H v d) : RepFs g al' (LL R al' om' σ' ρ') H' v d :=
  r.car (s.car (Mt.flat S) fun a h => (S.o.rsv a h).2)
/-- .. where what is reserved besides is new -/
theorem Step.rep2 {R2 : Addr → Prop} (s : Step al (Mt al om σ ρ) H al' (Mt al' om' σ' ρ') H') (S : Rst g R al σ ρ om H) (h2 : ∀ a, R2 a → R a ∨ H a = none) {v : V} {d : D} (r : RepV g al (LL R al om σ ρ) H v d) : RepV g al' (LL R2 al' om' σ' ρ') H' v d := by
  have c := s.car (g := g) (R := R) (Mt.flat S) fun a h => (S.o.rsv a h).2
  have no : ∀ {a : Addr} {o : HO}, H a = some o → ¬ LL R al om σ ρ a → ¬ LL R2 al' om' σ' ρ' a := fun {a o} h n m => by
    rcases m with m | m
    · rcases s.fresh a m with q | q
      · exact n (.inl q)
      · rw [h] at q; cases q
    · rcases h2 a m with q | q
      · exact n (.inr q)
      · rw [h] at q; cases q
  exact r.car ⟨c.tup, fun a vs h n => ⟨(c.lst a vs h n).1, no h n⟩, c.frz, fun a C dx fs h n => ⟨(c.obj a C dx fs h n).1, no h n⟩, c.loc⟩
theorem CellR.car {a : Addr} {c : Cell} (k : Car g al L H al' L' H') (h : CellR g al L H a c) (hl : ∀ xs, H a = some (.lst xs) → c ≠ .gone → H' a = some (.lst xs)) (hi : ∀ C dx fs, H a = some (.ins C dx fs) → c ≠ .gone → H' a = some (.ins C dx fs)) : CellR g al' L' H' a c := by
  cases c with
  | gone => trivial
  | lst ds =>
    obtain ⟨vs, e, r⟩ := h
    exact ⟨vs, hl _ e (fun z => nomatch z), r.car k⟩
  | ins c fs =>
    obtain ⟨dx, fvs, e, r⟩ := h
    exact ⟨dx, fvs, hi _ _ _ e (fun z => nomatch z), r.car k⟩
/-- the heap has grown, nothing else -/
theorem Rst.grow (S : Rst g R al σ ρ om H) (k : ∀ (a : Addr) (o : HO), H a = some o → H' a = some o) : Rst g R al σ ρ om H' ∧ Step al (Mt al om σ ρ) H al (Mt al om σ ρ) H' := by
  have st : Step al (Mt al om σ ρ) H al (Mt al om σ ρ) H' := .grow (fun a o h _ => k a o h) fun _ h => .inl h
  refine ⟨⟨⟨S.o.len, fun i c a h1 h2 => ?_, S.o.inj, fun a h => ⟨(S.o.rsv a h).1, ?_⟩⟩, S.sl, fun i d h => ?_, fun i ds h => ?_, S.odj, S.ocl⟩, st⟩
  · exact (S.o.cel i c a h1 h2).car (st.car (Mt.flat S) fun a h => (S.o.rsv a h).2) (fun xs e _ => k _ _ e) (fun C dx fs e _ => k _ _ e)
  · cases e : H a with
    | none => exact absurd e (S.o.rsv a h).2
    | some o => rw [k a o e]; simp
  · obtain ⟨v, e, r⟩ := S.val i d h
    exact ⟨v, e, st.rep S r⟩
  · obtain ⟨a, vs, e, e2, r⟩ := S.own i ds h
    exact ⟨a, vs, e, k _ _ e2, st.reps S r⟩
theorem upd_keep {p : Addr} {o : HO} (hp : H p = none) : ∀ (a : Addr) (u : HO), H a = some u → upd H p o a = some u := fun a u e => by
  rw [upd_ne (ne_of_none e hp)]
  exact e
/-- a new address is none of those that change or are reserved -/
theorem Rst.new (S : Rst g R al σ ρ om H) {p : Addr} (hp : H p = none) : ¬ LL R al om σ ρ p := fun m => by
  rcases m with m | m
  · rcases Mt.flat S p m with ⟨xs, e⟩ | ⟨C, dx, fs, e⟩ <;> (rw [hp] at e; cases e)
  · exact (S.o.rsv p m).2 hp

/-! ### what is wanted of an outcome -/
/-- how a value of the layer lies -/
abbrev Rl (β τ : Type) := List Addr → (Addr → Prop) → Hp → β → τ → Prop
def PostR {β τ : Type} (g : G) (R : Addr → Prop) (W : WX) (rel : Rl β τ) (al : List Addr) (M : Addr → Prop) (H : Hp) (σ : St) : Res τ → (β → Hp → Prop) → Prop
  | .ok t ρ' om', Q => ∀ y H' al', Step al M H al' (Mt al' om' σ ρ') H' → Rst g R al' σ ρ' om' H' → rel al' (LL R al' om' σ ρ') H' y t → Q y H'
  | .xc x ρ' om', _ => ∀ cv dd H' al', Step al M H al' (Mt al' om' σ ρ') H' → Rst g R al' σ ρ' om' H' → RepX g al' (LL R al' om' σ ρ') H' cv dd x → W cv dd σ H'
  | .no, _ => False
theorem PostR.step {β τ : Type} {W : WX} {rel : Rl β τ} {r : Res τ} {Q : β → Hp → Prop} (s : Step al M H al' M' H') (p : PostR g R W rel al M H σ r Q) : PostR g R W rel al' M' H' σ r Q := by
  cases r with
  | ok t ρ' om' => exact fun y H2 al2 t2 => p y H2 al2 (s.trans t2)
  | xc x ρ' om' => exact fun y dd H2 al2 t2 => p y dd H2 al2 (s.trans t2)
  | no => exact p
/-- the reading of a term of the evaluator -/
def tR {β τ : Type} (g : G) (W : WX) (rel : G → Rl β τ) (u : Rho → Om → Res τ) : St → Hp → (β → Hp → Prop) → Prop := fun σ H Q =>
  ∃ R ρ om al, Rst g R al σ ρ om H ∧ PostR g R W (rel g) al (Mt al om σ ρ) H σ (u ρ om) Q
def relV : G → Rl V D := fun g al L H v d => RepV g al L H v d
def relVs : G → Rl (List V) (List D) := fun g al L H v d => RepVs g al L H v d
def relB : G → Rl Bool Bool := fun _ _ _ _ b c => b = c
def relO : G → Rl (Option Int) (Option Int) := fun _ _ _ _ b c => b = c
abbrev UE := Rho → Om → Res D
abbrev UT := Rho → Om → Res Bool
abbrev UA := Rho → Om → Res (List D)
abbrev UO := Rho → Om → Res (Option Int)
abbrev tE (g : G) (W : WX) (u : UE) : TE := tR g W relV u
abbrev tT (g : G) (W : WX) (u : UT) : TT := tR g W relB u
abbrev tA (g : G) (W : WX) (u : UA) : TA := tR g W relVs u
abbrev tO (g : G) (W : WX) (u : UO) : TO := tR g W relO u
theorem tR_bind {β τ β2 τ2 : Type} {W : WX} {rel : G → Rl β τ} {rel2 : Rl β2 τ2} {u : Rho → Om → Res τ} {f : τ → Rho → Om → Res τ2} {Q : β → Hp → Prop} {Q2 : β2 → Hp → Prop} (S : Rst g R al σ ρ om H)
    (P : PostR g R W rel2 al (Mt al om σ ρ) H σ ((u ρ om).bind f) Q2)
    (k : ∀ t ρ' om' y H' al', Step al (Mt al om σ ρ) H al' (Mt al' om' σ ρ') H' → Rst g R al' σ ρ' om' H' → rel g al' (LL R al' om' σ ρ') H' y t → PostR g R W rel2 al' (Mt al' om' σ ρ') H' σ (f t ρ' om') Q2 → Q y H') : tR g W rel u σ H Q := by
  refine ⟨R, ρ, om, al, S, ?_⟩
  cases e : u ρ om with
  | ok t ρ' om' =>
    rw [e] at P
    exact fun y H' al' s S' r => k t ρ' om' y H' al' s S' r (PostR.step s P)
  | xc x ρ' om' =>
    rw [e] at P
    exact P
  | no =>
    rw [e] at P
    exact P
end
section
variable {X : Cx}
theorem peImp {e : Expr} {t t' : TE} (h : PE X e t) (i : ∀ σ H Q, t' σ H Q → t σ H Q) : PE X e t' := ⟨fun pins s σ H Q I q => h.run pins s σ H Q I (i σ H Q q)⟩
theorem ptImp {e : Expr} {t t' : TT} (h : PT X e t) (i : ∀ σ H Q, t' σ H Q → t σ H Q) : PT X e t' := ⟨fun pins s σ H Q I q => h.run pins s σ H Q I (i σ H Q q)⟩
theorem pwImp {e : Expr} {t t' : TT} (h : PW X e t) (i : ∀ σ H Q, t' σ H Q → t σ H Q) : PW X e t' := ⟨fun w pins s σ H Q I q => h.run w pins s σ H Q I (i σ H Q q)⟩
theorem paImp {e : List Expr} {t t' : TA} (h : PA X e t) (i : ∀ σ H Q, t' σ H Q → t σ H Q) : PA X e t' := ⟨fun p pins s σ H Q I q => h.run p pins s σ H Q I (i σ H Q q)⟩
theorem poImp {e : Option Expr} {t t' : TO} (h : PO X e t) (i : ∀ σ H Q, t' σ H Q → t σ H Q) : PO X e t' := ⟨fun pins s σ H Q I q => h.run pins s σ H Q I (i σ H Q q)⟩
theorem psImp {e : Stmt} {t t' : TS} (h : PS X e t) (i : ∀ D σ H, t' D σ H → t D σ H) : PS X e t' := ⟨fun pins s σ H D I q => h.run pins s σ H D I (i D σ H q)⟩
theorem pssImp {e : List Stmt} {t t' : TS} (h : PSs X e t) (i : ∀ D σ H, t' D σ H → t D σ H) : PSs X e t' := ⟨fun pins s σ H D I q => h.run pins s σ H D I (i D σ H q)⟩
end
end Dv

namespace Dv
open PySem PySem.Spec PyProof.Rows L2

/-! ### operations on data -/
def big : Nat := 1000000
theorem big_line {n : Nat} (h : n ≤ big) : n ≤ sizeLine := Nat.le_trans h (by decide)
theorem big_lt {n : Nat} (h : n < big) : n < sizeLine := Nat.lt_of_lt_of_le h (by decide)
def mulOk (i j : Int) : Bool := decide (i.natAbs < 18446744073709551616) || decide (j.natAbs < 18446744073709551616) || decide (i.natAbs.log2 + j.natAbs.log2 < 1000000)
def divOk (i j : Int) : Bool := !(Builtin.divisionGoesByPylong i j)
def dAdd : D → D → Option D
  | .int i, .int j => some (.int (i + j))
  | .str i, .str j => if i.length + j.length ≤ big then some (.str (i ++ j)) else none
  | .lst i, .lst j => if i.length + j.length ≤ big then some (.lst (i ++ j)) else none
  | _, _ => none
def dSub : D → D → Option D
  | .int i, .int j => some (.int (i - j))
  | _, _ => none
def dMul : D → D → Option D
  | .int i, .int j => if mulOk i j = true then some (.int (i * j)) else none
  | .lst i, .int j => if -1000 ≤ j ∧ j ≤ 1000 ∧ i.length ≤ 1000 then some (.lst (List.replicate j.toNat i).flatten) else none
  | _, _ => none
def dDiv : D → D → Option D
  | .int i, .int j => if j ≠ 0 ∧ divOk i j = true then some (.int (i.fdiv j)) else none
  | _, _ => none
def dMod : D → D → Option D
  | .int i, .int j => if j ≠ 0 then some (.int (i.fmod j)) else none
  | _, _ => none
def dLt : D → D → Option D
  | .int i, .int j => some (.bl (decide (i < j)))
  | _, _ => none
def dLe : D → D → Option D
  | .int i, .int j => some (.bl (decide (i ≤ j)))
  | _, _ => none
def dGt : D → D → Option D
  | .int i, .int j => some (.bl (decide (j < i)))
  | _, _ => none
def dGe : D → D → Option D
  | .int i, .int j => some (.bl (decide (j ≤ i)))
  | _, _ => none
def dIn : D → D → Option D
  | .str i, .str j => some (.bl (!(Builtin.Str.occurrences j i 0 j.length 1).isEmpty))
  | .int i, .tup [.int a, .int b] => some (.bl (decide (i = a) || decide (i = b)))
  | _, _ => none
def dNotIn : D → D → Option D
  | .str i, .str j => some (.bl (!(!(Builtin.Str.occurrences j i 0 j.length 1).isEmpty)))
  | _, _ => none
def isNon : D → Bool
  | .non => true
  | _ => false
def dIs : D → D → Option D
  | x, .non => some (.bl (isNon x))
  | _, _ => none
def dIsNot : D → D → Option D
  | x, .non => some (.bl (!isNon x))
  | _, _ => none
def dNeg : D → Option D
  | .int i => some (.int (-i))
  | _ => none
def atN {α : Type} (xs : List α) (i : Int) : Option α := if 0 ≤ i then xs[i.toNat]? else if -(xs.length : Int) ≤ i then xs[(i + xs.length).toNat]? else none
def dIx : D → D → Option D
  | .lst xs, .int i => atN xs i
  | .tup xs, .int i => atN xs i
  | .str z, .int i => if z.length ≤ big then (match atN z.cps.toList i with | some c => some (.str ⟨#[c]⟩) | none => none) else none
  | _, _ => none
/-! equality -/
mutual
def toPy : D → Option PyData
  | .non => some .none
  | .bl b => some (.bool b)
  | .int i => some (.int i)
  | .str x => some (.str x)
  | .tup ds => match toPys ds with | some l => some (.tuple l) | none => none
  | .lst ds => match toPys ds with | some l => some (.list l) | none => none
  | _ => none
def toPys : List D → Option (List PyData)
  | [] => some []
  | d :: ds => match toPy d, toPys ds with | some p, some l => some (p :: l) | _, _ => none
end
def eqPy (x y : D) : Option Bool := match toPy x, toPy y with
  | some p, some q => if SeqAt.shaped p = true ∧ SeqAt.shaped q = true then some (PyData.eqv p q) else none
  | _, _ => none
def dEqB : D → D → Option Bool
  | .int i, .int j => some (decide (i = j))
  | .bl i, .bl j => some (decide (i = j))
  | .str i, .str j => some (decide (i = j))
  | .non, .non => some true
  | .lst xs, .lst [] => some (decide (xs.length = 0))
  | x, y => eqPy x y
def dEq (x y : D) : Option D := match dEqB x y with | some b => some (.bl b) | none => none
def dNe (x y : D) : Option D := match dEqB x y with | some b => some (.bl (!b)) | none => none

/-! ### the evaluator: expressions -/
@[simp] def uVar (i : Nat) : UE := fun ρ ω => match ρ[i]? with
  | some (some (.val d)) => .ok d ρ ω
  | _ => .no
@[simp] def uC (d : D) : UE := fun ρ ω => .ok d ρ ω
@[simp] def uUn (f : D → Option D) (ua : UE) : UE := fun ρ ω => (ua ρ ω).bind fun x ρ ω => liftO (f x) ρ ω
@[simp] def uBin (f : D → D → Option D) (ua ub : UE) : UE := fun ρ ω => (ua ρ ω).bind fun x ρ ω => (ub ρ ω).bind fun y ρ ω => liftO (f x y) ρ ω
@[simp] def dBool : D → Option Bool
  | .bl b => some b
  | _ => none
@[simp] def uB (ua : UE) : UT := fun ρ ω => (ua ρ ω).bind fun x ρ ω => liftO (dBool x) ρ ω
@[simp] def uNot (u : UT) : UT := fun ρ ω => (u ρ ω).bind fun b ρ ω => .ok (!b) ρ ω
@[simp] def uAnd (u v : UT) : UT := fun ρ ω => (u ρ ω).bind fun b ρ ω => if b = true then v ρ ω else .ok false ρ ω
@[simp] def uOr (u v : UT) : UT := fun ρ ω => (u ρ ω).bind fun b ρ ω => if b = true then .ok true ρ ω else v ρ ω
@[simp] def uTV (u : UT) : UE := fun ρ ω => (u ρ ω).bind fun b ρ ω => .ok (.bl b) ρ ω
@[simp] def uAndV (u v : UE) : UE := fun ρ ω => (u ρ ω).bind fun x ρ ω => (liftO (dBool x) ρ ω : Res Bool).bind fun b ρ ω => if b = true then v ρ ω else .ok (.bl false) ρ ω
@[simp] def uOrV (u v : UE) : UE := fun ρ ω => (u ρ ω).bind fun x ρ ω => (liftO (dBool x) ρ ω : Res Bool).bind fun b ρ ω => if b = true then .ok (.bl true) ρ ω else v ρ ω
@[simp] def uNotV (u : UE) : UE := fun ρ ω => (u ρ ω).bind fun x ρ ω => (liftO (dBool x) ρ ω : Res Bool).bind fun b ρ ω => .ok (.bl (!b)) ρ ω
@[simp] def uIf (t : UT) (u v : UE) : UE := fun ρ ω => (t ρ ω).bind fun b ρ ω => if b = true then u ρ ω else v ρ ω
@[simp] def uChain (f g : D → D → Option D) (ua ub uc : UE) : UE := fun ρ ω => (ua ρ ω).bind fun x ρ ω => (ub ρ ω).bind fun y ρ ω =>
  (liftO (f x y) ρ ω : Res D).bind fun z ρ ω => (liftO (dBool z) ρ ω : Res Bool).bind fun b ρ ω => if b = true then (uc ρ ω).bind fun w ρ ω => liftO (g y w) ρ ω else .ok (.bl false) ρ ω
@[simp] def uNil : UA := fun ρ ω => .ok [] ρ ω
@[simp] def uCons (u : UE) (v : UA) : UA := fun ρ ω => (u ρ ω).bind fun x ρ ω => (v ρ ω).bind fun xs ρ ω => .ok (x :: xs) ρ ω
@[simp] def uTup (u : UA) : UE := fun ρ ω => (u ρ ω).bind fun xs ρ ω => if xs.length ≤ big then .ok (.tup xs) ρ ω else .no
@[simp] def uLst (u : UA) : UE := fun ρ ω => (u ρ ω).bind fun xs ρ ω => if xs.length ≤ big then .ok (.lst xs) ρ ω else .no
@[simp] def uFn (f : List D → Option D) (u : UA) : UE := fun ρ ω => (u ρ ω).bind fun xs ρ ω => liftO (f xs) ρ ω
@[simp] def uMe (f : D → List D → Option D) (u : UE) (v : UA) : UE := fun ρ ω => (u ρ ω).bind fun x ρ ω => (v ρ ω).bind fun xs ρ ω => liftO (f x xs) ρ ω

/-! ### how they are shown -/
/-- a value that is only looked at: an own list, too -/
inductive RepW (g : G) (al : List Addr) (L : Addr → Prop) (H : Hp) : V → D → Prop
  | v {v : V} {d : D} : RepV g al L H v d → RepW g al L H v d
  | own {a : Addr} {vs : List V} {ds : List D} : H a = some (.lst vs) → RepVs g al L H vs ds → RepW g al L H (.ref a) (.lst ds)
inductive RepWs (g : G) (al : List Addr) (L : Addr → Prop) (H : Hp) : List V → List D → Prop
  | nil : RepWs g al L H [] []
  | cons {v : V} {vs : List V} {d : D} {ds : List D} : RepW g al L H v d → RepWs g al L H vs ds → RepWs g al L H (v :: vs) (d :: ds)
section
variable {g : G} {al : List Addr} {L : Addr → Prop} {H : Hp} {v : V}
theorem RepVs.ws : ∀ {vs : List V} {ds : List D}, RepVs g al L H vs ds → RepWs g al L H vs ds
  | _, _, .nil => .nil
  | _, _, .cons h r => .cons (.v h) r.ws
theorem RepW.int {i : Int} (h : RepW g al L H v (.int i)) : v = .int i := by
  cases h with
  | v h => cases h; rfl
theorem RepW.bl {i : Bool} (h : RepW g al L H v (.bl i)) : v = .bl i := by
  cases h with
  | v h => cases h; rfl
theorem RepW.non (h : RepW g al L H v .non) : v = .non := by
  cases h with
  | v h => cases h; rfl
theorem RepW.str {i : Str} (h : RepW g al L H v (.str i)) : v = .str i := by
  cases h with
  | v h => cases h; rfl
theorem RepW.lst {ds : List D} (h : RepW g al L H v (.lst ds)) : ∃ (a : Addr) (vs : List V), v = .ref a ∧ H a = some (.lst vs) ∧ RepVs g al L H vs ds := by
  cases h with
  | v h => cases h with
    | lst h1 h2 h3 => exact ⟨_, _, rfl, h1, h3⟩
  | own h1 h2 => exact ⟨_, _, rfl, h1, h2⟩
theorem RepW.tup {ds : List D} (h : RepW g al L H v (.tup ds)) : ∃ (a : Addr) (vs : List V), v = .ref a ∧ SqT g.K H a vs ∧ RepVs g al L H vs ds := by
  cases h with
  | v h => cases h with
    | tup h1 h3 => exact ⟨_, _, rfl, h1, h3⟩
theorem RepW.frz {ds : List D} (h : RepW g al L H v (.frz ds)) : ∃ (a : Addr) (vs : List V), v = .ref a ∧ FzL g.K H a vs ∧ RepVs g al L H vs ds := by
  cases h with
  | v h => cases h with
    | frz h1 h3 => exact ⟨_, _, rfl, h1, h3⟩
end
section
variable {g : G} {R : Addr → Prop} {al : List Addr} {om : Om} {σ : St} {ρ : Rho} {H H' : Hp} {W : WX} {X : Cx}
theorem okSame {Q : VK} {v : V} {d : D} (S : Rst g R al σ ρ om H) (P : PostR g R W (relV g) al (Mt al om σ ρ) H σ (.ok d ρ om) Q) (r : RepV g al (LL R al om σ ρ) H v d) : Q v H := P v H al .refl S r
theorem okNewT {Q : VK} {vs : List V} {ds : List D} {p : Addr} (S : Rst g R al σ ρ om H) (P : PostR g R W (relV g) al (Mt al om σ ρ) H σ (.ok (.tup ds) ρ om) Q) (hp : H p = none) (r : RepVs g al (LL R al om σ ρ) H vs ds) : Q (.ref p) (upd H p (.tup vs)) := by
  obtain ⟨S', s⟩ := S.grow (upd_keep (o := .tup vs) hp)
  exact P _ _ al s S' (.tup (.inl (.inl upd_same)) (s.reps S r))
theorem okNewL {Q : VK} {vs : List V} {ds : List D} {p : Addr} (S : Rst g R al σ ρ om H) (P : PostR g R W (relV g) al (Mt al om σ ρ) H σ (.ok (.lst ds) ρ om) Q) (hp : H p = none) (r : RepVs g al (LL R al om σ ρ) H vs ds) : Q (.ref p) (upd H p (.lst vs)) := by
  obtain ⟨S', s⟩ := S.grow (upd_keep (o := .lst vs) hp)
  exact P _ _ al s S' (.lst upd_same (S.new hp) (s.reps S r))
/-- an operation by values does what f says -/
def OpS (g : G) (r : R2) (f : D → D → Option D) : Prop := ∀ (R : Addr → Prop) (W : WX) (al : List Addr) (om : Om) (σ : St) (ρ : Rho) (H : Hp) (Q : VK) (v w : V) (x y : D), Rst g R al σ ρ om H → RepW g al (LL R al om σ ρ) H v x → RepW g al (LL R al om σ ρ) H w y →
  PostR g R W (relV g) al (Mt al om σ ρ) H σ (liftO (f x y) ρ om) Q → r v w H Q
def UnS (g : G) (r : V → Hp → VK → Prop) (f : D → Option D) : Prop := ∀ (R : Addr → Prop) (W : WX) (al : List Addr) (om : Om) (σ : St) (ρ : Rho) (H : Hp) (Q : VK) (v : V) (x : D), Rst g R al σ ρ om H → RepW g al (LL R al om σ ρ) H v x →
  PostR g R W (relV g) al (Mt al om σ ρ) H σ (liftO (f x) ρ om) Q → r v H Q
def FnS (g : G) (r : List V → Hp → VK → Prop) (f : List D → Option D) : Prop := ∀ (R : Addr → Prop) (W : WX) (al : List Addr) (om : Om) (σ : St) (ρ : Rho) (H : Hp) (Q : VK) (vs : List V) (xs : List D), Rst g R al σ ρ om H → RepWs g al (LL R al om σ ρ) H vs xs →
  PostR g R W (relV g) al (Mt al om σ ρ) H σ (liftO (f xs) ρ om) Q → r vs H Q
def MeS (g : G) (r : V → List V → Hp → VK → Prop) (f : D → List D → Option D) : Prop := ∀ (R : Addr → Prop) (W : WX) (al : List Addr) (om : Om) (σ : St) (ρ : Rho) (H : Hp) (Q : VK) (v : V) (x : D) (vs : List V) (xs : List D), Rst g R al σ ρ om H → RepW g al (LL R al om σ ρ) H v x → RepWs g al (LL R al om σ ρ) H vs xs →
  PostR g R W (relV g) al (Mt al om σ ρ) H σ (liftO (f x xs) ρ om) Q → r v vs H Q
/-- a two-place reading -/
theorem tOp_of {r : R2} {f : D → D → Option D} {ua ub : UE} (hf : OpS g r f) {Q : VK} (h : tE g W (uBin f ua ub) σ H Q) : tOp r (tE g W ua) (tE g W ub) σ H Q := by
  obtain ⟨R, ρ, om, al, S, P⟩ := h
  refine tR_bind S P fun x ρ1 om1 v H1 al1 s1 S1 r1 P1 => ?_
  refine tR_bind S1 P1 fun y ρ2 om2 w H2 al2 s2 S2 r2 P2 => ?_
  exact hf R W al2 om2 σ ρ2 H2 Q v w x y S2 (.v (s2.rep S1 r1)) (.v r2) P2
variable {a b c e : Expr} {ua ub uc ue : UE} {ut uv : UT} {pos : Pos} {es : List Expr} {us : UA}
theorem pu_var (i : Nat) {x : Str} (hN : X.N[i]? = some x := by rfl) (hv : Vis X.env.scope x := by first | exact Or.inl rfl | exact Or.inr (Or.inl rfl) | exact Or.inr (Or.inr rfl)) (hd : (x == ("__debug__" : Str)) = false := by decide)
    (hcd : (x == ("__classdict__" : Str)) = false := by decide) : PE X (.Name x pos) (tE g W (uVar i)) := peImp (pe_var hN hv hd hcd) fun σ H Q ⟨R, ρ, om, al, S, P⟩ => by
  simp only [uVar] at P
  split at P
  · rename_i d e
    obtain ⟨v, h1, h2⟩ := S.val i d e
    exact ⟨v, h1, okSame S P h2⟩
  · exact P.elim
theorem pu_int {i : Int} {j} : PE X (.Constant (.int i) j pos) (tE g W (uC (.int i))) := peImp pe_int fun σ H Q ⟨R, ρ, om, al, S, P⟩ => okSame S P .int
theorem pu_bl {i : Bool} {j} : PE X (.Constant (.bool i) j pos) (tE g W (uC (.bl i))) := peImp pe_bl fun σ H Q ⟨R, ρ, om, al, S, P⟩ => okSame S P .bl
theorem pu_non {j} : PE X (.Constant .none j pos) (tE g W (uC .non)) := peImp pe_non fun σ H Q ⟨R, ρ, om, al, S, P⟩ => okSame S P .non
theorem pu_str {i : Str} {j} : PE X (.Constant (.str i) j pos) (tE g W (uC (.str i))) := peImp pe_str fun σ H Q ⟨R, ρ, om, al, S, P⟩ => okSame S P .str
/-- a constant of the module -/
theorem pu_glob {x : Str} {d : D} {v : V} {u : Value} (hg : Gl X x) (hm : X.mg x = some u) (r : RelV v u) (hr : ∀ al L H, RepV g al L H v d) (hd : (x == ("__debug__" : Str)) = false := by decide) : PE X (.Name x pos) (tE g W (uC d)) :=
  peImp (pe_glob hg hm r hd) fun σ H Q ⟨R, ρ, om, al, S, P⟩ => okSame S P (hr _ _ _)
theorem pu_bin {op : Operator} {r : R2} {f : D → D → Option D} (ho : OpR X (binaryOp op) r) (hf : OpS g r f) (ha : PE X a (tE g W ua)) (hb : PE X b (tE g W ub)) : PE X (.BinOp a op b pos) (tE g W (uBin f ua ub)) :=
  peImp (pe_op ho ha hb) fun σ H Q h => tOp_of hf h
theorem pu_un {op : UnaryOp} {r : V → Hp → VK → Prop} {f : D → Option D} (ho : UnR X (unaryOp op) r) (hf : UnS g r f) (ha : PE X a (tE g W ua)) : PE X (.UnaryOp op a pos) (tE g W (uUn f ua)) :=
  peImp (pe_un ho ha) fun σ H Q ⟨R, ρ, om, al, S, P⟩ => tR_bind S P fun x ρ1 om1 v H1 al1 s1 S1 r1 P1 => hf R W al1 om1 σ ρ1 H1 Q v x S1 (.v r1) P1
theorem pu_cmp {op : CmpOp} {r : R2} {f : D → D → Option D} (ho : OpR X (compareOp op) r) (hf : OpS g r f) (ha : PE X a (tE g W ua)) (hb : PE X b (tE g W ub)) (hm : behindInMarks op b = false) : PE X (.Compare a [op] [b] pos) (tE g W (uBin f ua ub)) :=
  peImp (pe_cmpR ho ha hb hm) fun σ H Q h => tOp_of hf h
theorem pu_ix {r : R2} {f : D → D → Option D} (ho : IxR X r) (hf : OpS g r f) (ha : PE X a (tE g W ua)) (hb : PE X b (tE g W ub)) (hs : PlainIx b := by exact fun _ _ => rfl) : PE X (.Subscript a b pos) (tE g W (uBin f ua ub)) :=
  peImp (pe_ix ho ha hb hs) fun σ H Q h => tOp_of hf h
/-- a value of the layer is a bool -/
theorem tB_of {Q : Bool → Hp → Prop} (h : tT g W (uB ua) σ H Q) : tE g W ua σ H fun x H' => ∃ k, x = .bl k ∧ Q k H' := by
  obtain ⟨R, ρ, om, al, S, P⟩ := h
  refine tR_bind S P fun x ρ1 om1 v H1 al1 s1 S1 r1 P1 => ?_
  cases r1 with
  | bl => exact ⟨_, rfl, P1 _ _ _ .refl S1 rfl⟩
  | _ => exact P1.elim
theorem pt_of (ha : PE X a (tE g W ua)) (he : ∀ whole, isTrue a X.env whole = (do let v ← whole; standAt a.pos; holding [v] (truthy v)) := by intro _; rfl) : PT X a (tT g W (uB ua)) :=
  ptImp (pt_val ha he) fun σ H Q h => tB_of h
theorem pt_cmpU {op : CmpOp} {r : R2} {f : D → D → Option D} (ho : OpR X (compareOp op) r) (hf : OpS g r f) (ha : PE X a (tE g W ua)) (hb : PE X b (tE g W ub)) (hm : behindInMarks op b = false) : PT X (.Compare a [op] [b] pos) (tT g W (uB (uBin f ua ub))) :=
  ptImp (pt_cmpR ho ha hb hm) fun σ H Q h => by
    obtain ⟨R, ρ, om, al, S, P⟩ := tB_of h
    exact tOp_of hf ⟨R, ρ, om, al, S, P⟩
theorem pt_notU (ha : PT X a (tT g W ut)) : PT X (.UnaryOp .Not a pos) (tT g W (uNot ut)) := ptImp (pt_not ha) fun σ H Q ⟨R, ρ, om, al, S, P⟩ =>
  tR_bind S P fun x ρ1 om1 v H1 al1 s1 S1 r1 P1 => by
    cases (show v = x from r1)
    exact P1 _ _ _ .refl S1 rfl
theorem pw_and1U (ha : PT X a (tT g W ut)) : PW X (.BoolOp .And [a] pos) (tT g W ut) := pw_and1 ha
theorem pw_or1U (ha : PT X a (tT g W ut)) : PW X (.BoolOp .Or [a] pos) (tT g W ut) := pw_or1 ha
theorem pw_andU (ha : PT X a (tT g W ut)) (hb : PW X (.BoolOp .And (b :: es) pos) (tT g W uv)) : PW X (.BoolOp .And (a :: b :: es) pos) (tT g W (uAnd ut uv)) := pwImp (pw_and ha hb) fun σ H Q ⟨R, ρ, om, al, S, P⟩ =>
  tR_bind S P fun x ρ1 om1 v H1 al1 s1 S1 r1 P1 => by
    cases (show v = x from r1)
    cases x with
    | true => exact ⟨R, ρ1, om1, al1, S1, P1⟩
    | false => exact P1 _ _ _ .refl S1 rfl
theorem pw_orU (ha : PT X a (tT g W ut)) (hb : PW X (.BoolOp .Or (b :: es) pos) (tT g W uv)) : PW X (.BoolOp .Or (a :: b :: es) pos) (tT g W (uOr ut uv)) := pwImp (pw_or ha hb) fun σ H Q ⟨R, ρ, om, al, S, P⟩ =>
  tR_bind S P fun x ρ1 om1 v H1 al1 s1 S1 r1 P1 => by
    cases (show v = x from r1)
    cases x with
    | true => exact P1 _ _ _ .refl S1 rfl
    | false => exact ⟨R, ρ1, om1, al1, S1, P1⟩
/-- and, or, not as values of bools -/
theorem pu_one {op} (h : PE X a (tE g W ua)) : PE X (.BoolOp op [a] pos) (tE g W ua) := pe_one h
theorem pu_and (ha : PE X a (tE g W ua)) (hb : PE X (.BoolOp .And (b :: es) pos) (tE g W ub)) : PE X (.BoolOp .And (a :: b :: es) pos) (tE g W (uAndV ua ub)) := peImp (pe_and ha hb) fun σ H Q ⟨R, ρ, om, al, S, P⟩ =>
  tR_bind S P fun x ρ1 om1 v H1 al1 s1 S1 r1 P1 => by
    cases r1 with
    | @bl k =>
      refine ⟨_, rfl, ?_⟩
      cases k with
      | true => exact ⟨R, ρ1, om1, al1, S1, P1⟩
      | false => exact okSame S1 P1 .bl
    | _ => exact P1.elim
theorem pu_or (ha : PE X a (tE g W ua)) (hb : PE X (.BoolOp .Or (b :: es) pos) (tE g W ub)) : PE X (.BoolOp .Or (a :: b :: es) pos) (tE g W (uOrV ua ub)) := peImp (pe_or ha hb) fun σ H Q ⟨R, ρ, om, al, S, P⟩ =>
  tR_bind S P fun x ρ1 om1 v H1 al1 s1 S1 r1 P1 => by
    cases r1 with
    | @bl k =>
      refine ⟨_, rfl, ?_⟩
      cases k with
      | true => exact okSame S1 P1 .bl
      | false => exact ⟨R, ρ1, om1, al1, S1, P1⟩
    | _ => exact P1.elim
theorem pu_not (ha : PE X a (tE g W ua)) : PE X (.UnaryOp .Not a pos) (tE g W (uNotV ua)) := peImp (pe_not ha) fun σ H Q ⟨R, ρ, om, al, S, P⟩ =>
  tR_bind S P fun x ρ1 om1 v H1 al1 s1 S1 r1 P1 => by
    cases r1 with
    | @bl k => exact ⟨_, rfl, okSame S1 P1 .bl⟩
    | _ => exact P1.elim
theorem pu_if (hc : PT X c (tT g W ut)) (ha : PE X a (tE g W ua)) (hb : PE X b (tE g W ub)) : PE X (.IfExp c a b pos) (tE g W (uIf ut ua ub)) := peImp (pe_ifExp hc ha hb) fun σ H Q ⟨R, ρ, om, al, S, P⟩ =>
  tR_bind S P fun x ρ1 om1 v H1 al1 s1 S1 r1 P1 => by
    cases (show v = x from r1)
    cases x with
    | true => exact ⟨R, ρ1, om1, al1, S1, P1⟩
    | false => exact ⟨R, ρ1, om1, al1, S1, P1⟩
/-- a chain of two comparisons -/
theorem tChain_of {r r' : R2} {f f' : D → D → Option D} (hf : OpS g r f) (hf' : OpS g r' f') {Q : VK} (h : tE g W (uChain f f' ua ub uc) σ H Q) : tChain r r' (tE g W ua) (tE g W ub) (tE g W uc) σ H Q := by
  obtain ⟨R, ρ, om, al, S, P⟩ := h
  refine tR_bind S P fun x ρ1 om1 v H1 al1 s1 S1 r1 P1 => ?_
  refine tR_bind S1 P1 fun y ρ2 om2 w H2 al2 s2 S2 r2 P2 => ?_
  refine hf R W al2 om2 σ ρ2 H2 _ v w x y S2 (.v (s2.rep S1 r1)) (.v r2) ?_
  cases e : f x y with
  | none =>
    rw [e] at P2
    exact P2.elim
  | some z =>
    rw [e] at P2
    show PostR g R W (relV g) al2 (Mt al2 om2 σ ρ2) H2 σ (.ok z ρ2 om2) _
    intro v3 H3 al3 s3 S3 r3
    have P3 := PostR.step s3 P2
    cases r3 with
    | @bl k =>
      refine ⟨k, rfl, ?_⟩
      cases k with
      | true =>
        refine tR_bind S3 (P3 : PostR g R W (relV g) al3 (Mt al3 om2 σ ρ2) H3 σ ((uc ρ2 om2).bind fun w ρ ω => liftO (f' y w) ρ ω) Q) fun z2 ρ4 om4 w4 H4 al4 s4 S4 r4 P4 => ?_
        exact hf' R W al4 om4 σ ρ4 H4 Q w w4 y z2 S4 (.v (s4.rep S3 (s3.rep S2 r2))) (.v r4) P4
      | false => exact okSame S3 P3 .bl
    | _ => exact P3.elim
theorem pu_chain {op op' : CmpOp} {r r' : R2} {f f' : D → D → Option D} (ho : OpR X (compareOp op) r) (ho' : OpR X (compareOp op') r') (hf : OpS g r f) (hf' : OpS g r' f') (ha : PE X a (tE g W ua)) (hb : PE X b (tE g W ub)) (hc : PE X c (tE g W uc))
    (hm : lastMarks [op, op'] [b, c] = false := by with_unfolding_all rfl) : PE X (.Compare a [op, op'] [b, c] pos) (tE g W (uChain f f' ua ub uc)) := peImp (pe_chain ho ho' ha hb hc hm) fun σ H Q h => tChain_of hf hf' h
theorem pt_chainU {op op' : CmpOp} {r r' : R2} {f f' : D → D → Option D} (ho : OpR X (compareOp op) r) (ho' : OpR X (compareOp op') r') (hf : OpS g r f) (hf' : OpS g r' f') (ha : PE X a (tE g W ua)) (hb : PE X b (tE g W ub)) (hc : PE X c (tE g W uc))
    (hm : lastMarks [op, op'] [b, c] = false := by with_unfolding_all rfl) : PT X (.Compare a [op, op'] [b, c] pos) (tT g W (uB (uChain f f' ua ub uc))) := ptImp (pt_chain ho ho' ha hb hc hm) fun σ H Q h => by
    obtain ⟨R, ρ, om, al, S, P⟩ := tB_of h
    exact tChain_of hf hf' ⟨R, ρ, om, al, S, P⟩
/-! argument lists and displays -/
theorem pa_nilU : PA X [] (tA g W uNil) := paImp pa_nil fun σ H Q ⟨R, ρ, om, al, S, P⟩ => P _ _ _ .refl S .nil
theorem pa_consU (ha : PE X e (tE g W ue)) (hr : PA X es (tA g W us)) (hs : starEach (e :: es) X.env = (false, eval e X.env) :: starEach es X.env := by rfl) : PA X (e :: es) (tA g W (uCons ue us)) := paImp (pa_cons ha hr hs) fun σ H Q ⟨R, ρ, om, al, S, P⟩ =>
  tR_bind S P fun x ρ1 om1 v H1 al1 s1 S1 r1 P1 => tR_bind S1 P1 fun xs ρ2 om2 vs H2 al2 s2 S2 r2 P2 => P2 _ _ _ .refl S2 (.cons (s2.rep S1 r1) r2)
theorem pu_tup {x1} (h : PA X es (tA g W us)) : PE X (.Tuple es x1 pos) (tE g W (uTup us)) := peImp (pe_tup h) fun σ H Q ⟨R, ρ, om, al, S, P⟩ =>
  tR_bind S P fun xs ρ1 om1 vs H1 al1 s1 S1 r1 P1 => by
    split at P1
    · rename_i hz
      exact ⟨big_line (by rw [RepVs.length r1]; exact hz), fun p hp => okNewT S1 P1 hp r1⟩
    · exact P1.elim
theorem pu_lst (h : PA X es (tA g W us)) : PE X (.List es pos) (tE g W (uLst us)) := peImp (pe_lst h) fun σ H Q ⟨R, ρ, om, al, S, P⟩ =>
  tR_bind S P fun xs ρ1 om1 vs H1 al1 s1 S1 r1 P1 => by
    split at P1
    · rename_i hz
      exact ⟨big_line (by rw [RepVs.length r1]; exact hz), fun p hp => okNewL S1 P1 hp r1⟩
    · exact P1.elim
end
end Dv

namespace Dv
open PySem PySem.Spec PyProof.Rows L2
section
variable {g : G} {R : Addr → Prop} {al : List Addr} {om : Om} {σ : St} {ρ : Rho} {H H' : Hp} {W : WX} {X : Cx} {L : Addr → Prop}
/-! ### arithmetic -/
theorem mulOk_ok {i j : Int} (h : mulOk i j = true) : CMul i j ∨ CMulW i j := by
  unfold mulOk at h
  simp only [Bool.or_eq_true, decide_eq_true_eq] at h
  unfold CMul CMulW
  omega
def rAddU : R2 := fun x y H Q => rI0 (fun i j => .int (i + j)) x y H Q ∨ (∃ i j, x = .str i ∧ y = .str j ∧ i.length + j.length ≤ sizeLine ∧ Q (.str (i ++ j)) H) ∨ rCat x y H Q
theorem op_addU : OpR X (binaryOp .Add) rAddU := op_add.or (op_add_str.or op_cat)
theorem s_add : OpS g rAddU dAdd := by
  intro R W al om σ ρ H Q v w x y S rx ry P
  cases x <;> cases y <;> first | exact P.elim | skip
  · cases rx.int; cases ry.int
    exact .inl ⟨_, _, rfl, rfl, okSame S P .int⟩
  · rename_i i j
    cases rx.str; cases ry.str
    by_cases hz : i.length + j.length ≤ big
    · simp only [dAdd, if_pos hz] at P
      exact .inr (.inl ⟨_, _, rfl, rfl, big_line hz, okSame S P .str⟩)
    · simp only [dAdd, if_neg hz] at P
      exact P.elim
  · rename_i ds es
    obtain ⟨a, vs, rfl, ha, ra⟩ := rx.lst
    obtain ⟨b, ws, rfl, hb, rb⟩ := ry.lst
    by_cases hz : ds.length + es.length ≤ big
    · simp only [dAdd, if_pos hz] at P
      exact .inr (.inr ⟨_, _, _, _, rfl, rfl, ha, hb, big_line (by rw [ra.length, rb.length]; exact hz), fun p hp => okNewL S P hp (ra.append rb)⟩)
    · simp only [dAdd, if_neg hz] at P
      exact P.elim
theorem s_sub : OpS g (rI0 fun i j => .int (i - j)) dSub := by
  intro R W al om σ ρ H Q v w x y S rx ry P
  cases x <;> cases y <;> first | exact P.elim | skip
  cases rx.int; cases ry.int
  exact ⟨_, _, rfl, rfl, okSame S P .int⟩
def rMulU : R2 := fun x y H Q => rI CMul (fun i j => .int (i * j)) x y H Q ∨ rI CMulW (fun i j => .int (i * j)) x y H Q ∨ rRep x y H Q
theorem op_mulU : OpR X (binaryOp .Mult) rMulU := op_mul.or (op_mulW.or op_rep)
theorem s_mul : OpS g rMulU dMul := by
  intro R W al om σ ρ H Q v w x y S rx ry P
  cases x <;> cases y <;> first | exact P.elim | skip
  · rename_i i j
    cases rx.int; cases ry.int
    by_cases hz : mulOk i j = true
    · simp only [dMul, if_pos hz] at P
      rcases mulOk_ok hz with h | h
      · exact .inl ⟨_, _, rfl, rfl, h, okSame S P .int⟩
      · exact .inr (.inl ⟨_, _, rfl, rfl, h, okSame S P .int⟩)
    · simp only [dMul, if_neg hz] at P
      exact P.elim
  · rename_i ds j
    obtain ⟨a, vs, rfl, ha, ra⟩ := rx.lst
    cases ry.int
    by_cases hz : -1000 ≤ j ∧ j ≤ 1000 ∧ ds.length ≤ 1000
    · simp only [dMul, if_pos hz] at P
      obtain ⟨z1, z2, z3⟩ := hz
      refine .inr (.inr ⟨_, _, _, rfl, rfl, ha, by omega, by omega, ?_, fun p hp => okNewL S P hp (ra.flat _)⟩)
      have e : sizeLine = 16777216 := sizeLine_eq
      rw [ra.length, e]
      have : ds.length * j.toNat ≤ 1000 * 1000 := Nat.mul_le_mul z3 (by omega)
      omega
    · simp only [dMul, if_neg hz] at P
      exact P.elim
def CDivU (i j : Int) : Prop := j ≠ 0 ∧ Builtin.divisionGoesByPylong i j = false
theorem op_fdivU : OpR X (binaryOp .FloorDiv) (rI CDivU fun i j => .int (i.fdiv j)) := opI fun _ _ _ _ _ _ _ hc q => floordiv_int hc.1 q (.inl hc.2)
theorem s_div : OpS g (rI CDivU fun i j => .int (i.fdiv j)) dDiv := by
  intro R W al om σ ρ H Q v w x y S rx ry P
  cases x <;> cases y <;> first | exact P.elim | skip
  rename_i i j
  cases rx.int; cases ry.int
  by_cases hz : j ≠ 0 ∧ divOk i j = true
  · simp only [dDiv, if_pos hz] at P
    exact ⟨_, _, rfl, rfl, ⟨hz.1, by simpa [divOk] using hz.2⟩, okSame S P .int⟩
  · simp only [dDiv, if_neg hz] at P
    exact P.elim
theorem s_mod : OpS g (rI (fun _ j => j ≠ 0) fun i j => .int (i.fmod j)) dMod := by
  intro R W al om σ ρ H Q v w x y S rx ry P
  cases x <;> cases y <;> first | exact P.elim | skip
  rename_i i j
  cases rx.int; cases ry.int
  by_cases hz : j ≠ 0
  · simp only [dMod, if_pos hz] at P
    exact ⟨_, _, rfl, rfl, hz, okSame S P .int⟩
  · simp only [dMod, if_neg hz] at P
    exact P.elim
theorem s_neg : UnS g (rU fun i => .int (-i)) dNeg := by
  intro R W al om σ ρ H Q v x S rx P
  cases x <;> first | exact P.elim | skip
  cases rx.int
  exact ⟨_, rfl, okSame S P .int⟩
/-! ### comparisons -/
theorem s_lt : OpS g (rI0 fun i j => .bl (decide (i < j))) dLt := by
  intro R W al om σ ρ H Q v w x y S rx ry P
  cases x <;> cases y <;> first | exact P.elim | skip
  cases rx.int; cases ry.int
  exact ⟨_, _, rfl, rfl, okSame S P .bl⟩
theorem s_le : OpS g (rI0 fun i j => .bl (decide (i ≤ j))) dLe := by
  intro R W al om σ ρ H Q v w x y S rx ry P
  cases x <;> cases y <;> first | exact P.elim | skip
  cases rx.int; cases ry.int
  exact ⟨_, _, rfl, rfl, okSame S P .bl⟩
theorem s_gt : OpS g (rI0 fun i j => .bl (decide (j < i))) dGt := by
  intro R W al om σ ρ H Q v w x y S rx ry P
  cases x <;> cases y <;> first | exact P.elim | skip
  cases rx.int; cases ry.int
  exact ⟨_, _, rfl, rfl, okSame S P .bl⟩
theorem s_ge : OpS g (rI0 fun i j => .bl (decide (j ≤ i))) dGe := by
  intro R W al om σ ρ H Q v w x y S rx ry P
  cases x <;> cases y <;> first | exact P.elim | skip
  cases rx.int; cases ry.int
  exact ⟨_, _, rfl, rfl, okSame S P .bl⟩
def rIsN : R2 := fun x y H Q => y = .non ∧ Q (.bl (decide (x = .non))) H
theorem s_is : OpS g rIsN dIs := by
  intro R W al om σ ρ H Q v w x y S rx ry P
  cases y <;> first | exact P.elim | skip
  cases ry.non
  refine ⟨rfl, okSame S P ?_⟩
  cases rx with
  | v rx => cases rx <;> exact .bl
  | own h r => exact .bl
def rNotN : R2 := fun x y H Q => y = .non ∧ Q (.bl (!decide (x = .non))) H
theorem s_isnot : OpS g rNotN dIsNot := by
  intro R W al om σ ρ H Q v w x y S rx ry P
  cases y <;> first | exact P.elim | skip
  cases ry.non
  refine ⟨rfl, okSame S P ?_⟩
  cases rx with
  | v rx => cases rx <;> exact .bl
  | own h r => exact .bl
/-! ### equality -/
mutual
theorem dp_of : ∀ {d : D} {v : V} {p : PyData}, RepV g al L H v d → toPy d = some p → Dp g.K H v p
  | .non, _, _, .non, e => by cases e; exact .non
  | .bl b, _, _, .bl, e => by cases e; exact .bl b
  | .int i, _, _, .int, e => by cases e; exact .int i
  | .str x, _, _, .str, e => by cases e; exact .str x
  | .tup ds, _, p, .tup h r, e => by
    unfold toPy at e
    split at e
    · rename_i l hl
      cases e
      exact .tup h (dps_of r hl)
    · cases e
  | .lst ds, _, p, .lst h n r, e => by
    unfold toPy at e
    split at e
    · rename_i l hl
      cases e
      exact .lst (SqL.of h) (dps_of r hl)
    · cases e
  | .obj _ _, _, _, _, e => by cases e
  | .loc _, _, _, _, e => by cases e
  | .frz _, _, _, _, e => by cases e
theorem dps_of : ∀ {ds : List D} {vs : List V} {p : List PyData}, RepVs g al L H vs ds → toPys ds = some p → DpAll g.K H vs p
  | [], _, _, .nil, e => by cases e; exact .nil
  | d :: ds, _, p, .cons h r, e => by
    unfold toPys at e
    split at e
    · rename_i q l h1 h2
      cases e
      exact .cons (dp_of h h1) (dps_of r h2)
    · cases e
end
/-- a list compared with one that holds nothing -/
def rEqNil : R2 := fun x y H Q => ∃ (a b : Addr) (xs : List V), x = .ref a ∧ y = .ref b ∧ H a = some (.lst xs) ∧ H b = some (.lst []) ∧ Q (.bl (decide (xs.length = 0))) H
def rNeNil : R2 := fun x y H Q => ∃ (a b : Addr) (xs : List V), x = .ref a ∧ y = .ref b ∧ H a = some (.lst xs) ∧ H b = some (.lst []) ∧ Q (.bl (!decide (xs.length = 0))) H
theorem op_eqNil (hu : X.A.units < cLine) : OpR X (compareOp .Eq) rEqNil := by
  intro pins s σ H x y v u Q I rx ry h
  obtain ⟨a, b, xs, rfl, rfl, ha, hb, q⟩ := h
  cases rx
  cases ry
  obtain ⟨its, r1, p1, z1⟩ := I.list (SqL.of ha)
  obtain ⟨jts, r2, p2, z2⟩ := I.list (SqL.of hb)
  cases r2
  cases xs with
  | nil =>
    cases r1
    exact SeqAt.eq_listAt (e := fun _ => true) p1.isList p2.isList rfl hu (fun j h1 _ => absurd h1 (by simp)) ⟨.bl _, H, I, rfl, q⟩
  | cons x xs =>
    cases r1 with
    | cons r1 rs => exact SeqAt.eq_list_lengthsAt p1.isList p2.isList (by simp) hu ⟨.bl _, H, I, rfl, q⟩
theorem op_neNil (hu : X.A.units < cLine) : OpR X (compareOp .NotEq) rNeNil := by
  intro pins s σ H x y v u Q I rx ry h
  obtain ⟨a, b, xs, rfl, rfl, ha, hb, q⟩ := h
  cases rx
  cases ry
  obtain ⟨its, r1, p1, z1⟩ := I.list (SqL.of ha)
  obtain ⟨jts, r2, p2, z2⟩ := I.list (SqL.of hb)
  cases r2
  cases xs with
  | nil =>
    cases r1
    exact SeqAt.RcNeAt.lists (e := fun _ => true) p1.isList p2.isList rfl hu (fun j h1 _ => absurd h1 (by simp)) X.prog X.w _ _ ⟨.bl _, H, I, rfl, q⟩
  | cons x xs =>
    cases r1 with
    | cons r1 rs => exact SeqAt.RcNeAt.lists_lengths p1.isList p2.isList (by simp) hu X.prog X.w _ _ ⟨.bl _, H, I, rfl, q⟩
def rEqU (K : PySem.W.Frag) : R2 := fun x y H Q => rEq x y H Q ∨ rEqD K x y H Q ∨ rEqNil x y H Q
theorem op_eqU (hu : X.A.units + 64 < cLine) : OpR X (compareOp .Eq) (rEqU X.K) := op_eq.or ((op_eqD hu).or (op_eqNil (by omega)))
def rNeU (K : PySem.W.Frag) : R2 := fun x y H Q => rNe x y H Q ∨ rNeD K x y H Q ∨ rNeNil x y H Q
theorem op_neU (hu : X.A.units + 64 < cLine) : OpR X (compareOp .NotEq) (rNeU X.K) := op_ne.or ((op_neD hu).or (op_neNil (by omega)))
/-- the ways an equality is told -/
inductive EqW (g : G) (H : Hp) : V → V → Bool → Prop
  | sc {v w : V} {b : Bool} : scal v w = true → decide (v = w) = b → EqW g H v w b
  | dp {v w : V} {p q : PyData} {b : Bool} : Dp g.K H v p → Dp g.K H w q → SeqAt.shaped p = true → SeqAt.shaped q = true → PyData.eqv p q = b → EqW g H v w b
  | nl {a c : Addr} {xs : List V} {b : Bool} : H a = some (.lst xs) → H c = some (.lst []) → decide (xs.length = 0) = b → EqW g H (.ref a) (.ref c) b
theorem dp_ofW {d : D} {v : V} {p : PyData} (h : RepW g al L H v d) (e : toPy d = some p) : Dp g.K H v p := by
  cases h with
  | v h => exact dp_of h e
  | own h r =>
    unfold toPy at e
    split at e
    · rename_i l hl
      cases e
      exact .lst (SqL.of h) (dps_of r hl)
    · cases e
theorem eqPy_way {x y : D} {v w : V} {b : Bool} (rx : RepW g al L H v x) (ry : RepW g al L H w y) (e : eqPy x y = some b) : EqW g H v w b := by
  unfold eqPy at e
  split at e
  · rename_i p q hp hq
    split at e
    · rename_i hs
      cases e
      exact .dp (dp_ofW rx hp) (dp_ofW ry hq) hs.1 hs.2 rfl
    · cases e
  · cases e
theorem eq_way {x y : D} {v w : V} {b : Bool} (rx : RepW g al L H v x) (ry : RepW g al L H w y) (e : dEqB x y = some b) : EqW g H v w b := by
  unfold dEqB at e
  split at e
  · cases rx.int; cases ry.int; cases e
    exact .sc rfl (by simp)
  · cases rx.bl; cases ry.bl; cases e
    exact .sc rfl (by simp)
  · cases rx.str; cases ry.str; cases e
    exact .sc rfl (by simp)
  · cases rx.non; cases ry.non; cases e
    exact .sc rfl rfl
  · obtain ⟨a, vs, rfl, h1, r1⟩ := rx.lst
    obtain ⟨b, ws, rfl, h2, r2⟩ := ry.lst
    cases r2
    cases e
    exact .nl h1 h2 (by rw [r1.length])
  · exact eqPy_way rx ry e
theorem s_eq : OpS g (rEqU g.K) dEq := by
  intro R W al om σ ρ H Q v w x y S rx ry P
  unfold dEq at P
  split at P
  · rename_i b e
    cases eq_way rx ry e with
    | sc h1 h2 => exact .inl ⟨h1, by rw [h2]; exact okSame S P .bl⟩
    | dp h1 h2 h3 h4 h5 => exact .inr (.inl ⟨_, _, h1, h2, h3, h4, by rw [h5]; exact okSame S P .bl⟩)
    | nl h1 h2 h3 => exact .inr (.inr ⟨_, _, _, rfl, rfl, h1, h2, by rw [h3]; exact okSame S P .bl⟩)
  · exact P.elim
theorem s_ne : OpS g (rNeU g.K) dNe := by
  intro R W al om σ ρ H Q v w x y S rx ry P
  unfold dNe at P
  split at P
  · rename_i b e
    cases eq_way rx ry e with
    | sc h1 h2 => exact .inl ⟨h1, by rw [h2]; exact okSame S P .bl⟩
    | dp h1 h2 h3 h4 h5 => exact .inr (.inl ⟨_, _, h1, h2, h3, h4, by rw [h5]; exact okSame S P .bl⟩)
    | nl h1 h2 h3 => exact .inr (.inr ⟨_, _, _, rfl, rfl, h1, h2, by rw [h3]; exact okSame S P .bl⟩)
  · exact P.elim
/-! ### an item -/
theorem atN_atI {α : Type} {xs : List α} {i : Int} {d : α} (h : atN xs i = some d) : atI xs i = some d := by
  unfold atN at h
  unfold atI ixN
  by_cases h0 : 0 ≤ i
  · rw [if_pos h0] at h ⊢
    obtain ⟨hl, _⟩ := List.getElem?_eq_some_iff.mp h
    rw [if_pos (by omega)]
    exact h
  · rw [if_neg h0] at h ⊢
    split at h
    · rename_i h1
      rw [if_pos h1]
      exact h
    · cases h
theorem RepVs.atN {vs : List V} {ds : List D} (r : RepVs g al L H vs ds) {i : Int} {d : D} (h : Dv.atN ds i = some d) : ∃ v, atI vs i = some v ∧ RepV g al L H v d := by
  unfold Dv.atN at h
  by_cases h0 : 0 ≤ i
  · rw [if_pos h0] at h
    obtain ⟨v, e, q⟩ := r.get h
    exact ⟨v, atN_atI (by unfold Dv.atN; rw [if_pos h0]; exact e), q⟩
  · rw [if_neg h0] at h
    split at h
    · rename_i h1
      obtain ⟨v, e, q⟩ := r.get h
      exact ⟨v, atN_atI (by unfold Dv.atN; rw [if_neg h0, r.length, if_pos h1]; exact e), q⟩
    · cases h
theorem s_ix : OpS g (rIx g.K) dIx := by
  intro R W al om σ ρ H Q v w x y S rx ry P
  cases x <;> cases y <;> first | exact P.elim | skip
  · rename_i z i
    cases rx.str; cases ry.int
    simp only [dIx] at P
    split at P
    · rename_i hz
      split at P
      · rename_i c hc
        exact .inr (.inr ⟨_, _, c, rfl, rfl, big_line hz, atN_atI hc, okSame S P .str⟩)
      · exact P.elim
    · exact P.elim
  · rename_i ds i
    obtain ⟨a, vs, rfl, h, r⟩ := rx.tup
    cases ry.int
    simp only [dIx] at P
    cases e : atN ds i with
    | none => rw [e] at P; exact P.elim
    | some d =>
      rw [e] at P
      obtain ⟨v, h1, h2⟩ := r.atN e
      exact .inr (.inl ⟨_, _, _, _, rfl, rfl, h, h1, okSame S P h2⟩)
  · rename_i ds i
    obtain ⟨a, vs, rfl, h, r⟩ := rx.lst
    cases ry.int
    simp only [dIx] at P
    cases e : atN ds i with
    | none => rw [e] at P; exact P.elim
    | some d =>
      rw [e] at P
      obtain ⟨v, h1, h2⟩ := r.atN e
      exact .inl ⟨_, _, _, _, rfl, rfl, SqL.of h, h1, okSame S P h2⟩
end
end Dv

namespace Dv
open PySem PySem.Spec PyProof.Rows L2
section
variable {g : G} {R : Addr → Prop} {al : List Addr} {om : Om} {σ σ' : St} {ρ ρ' : Rho} {H H' : Hp} {W : WX} {X : Cx} {L : Addr → Prop} {i : Nat} {a p : Addr} {ds ds' : List D} {vs vs' : List V} {v : V} {d : D}
/-! ### changes of a state -/
theorem Sle.set1 (h : Sle g σ ρ) {s : Option Sl} (hs : ∀ x, s ≠ some (.exc x)) : Sle g σ (ρ.set i s) := ⟨by rw [List.length_set]; exact h.len, fun j a c x e q => by
  rw [List.getElem?_set] at q
  split at q
  · split at q
    · cases q; exact absurd rfl (hs x)
    · cases q
  · exact h.exc j a c x e q⟩
theorem Sle.set2 (h : Sle g σ ρ) {s : Option Sl} {w : Option V} (hs : ∀ x, s ≠ some (.exc x)) : Sle g (σ.set i w) (ρ.set i s) := ⟨by rw [List.length_set, List.length_set]; exact h.len, fun j a c x e q => by
  rw [List.getElem?_set] at q
  split at q
  · split at q
    · cases q; exact absurd rfl (hs x)
    · cases q
  · rename_i n
    rw [List.getElem?_set_ne n]
    exact h.exc j a c x e q⟩
theorem getset {α : Type} {l : List α} {i j : Nat} {x y : α} (h : (l.set i x)[j]? = some y) : (j = i ∧ y = x) ∨ (j ≠ i ∧ l[j]? = some y) := by
  rw [List.getElem?_set] at h
  split at h
  · rename_i e
    split at h
    · cases h; exact .inl ⟨e.symm, rfl⟩
    · cases h
  · rename_i e
    exact .inr ⟨fun z => e z.symm, h⟩
/-- a step in which the cells stay as they are -/
theorem Rst.chg (S : Rst g R al σ ρ om H) (st : Step al (Mt al om σ ρ) H al (Mt al om σ' ρ') H') (hl : ∀ a, Lv al om a → H' a = H a) (sl : Sle g σ' ρ') (rs : ∀ a, R a → H' a ≠ none)
    (val : ∀ (j : Nat) (d : D), ρ'[j]? = some (some (.val d)) → (ρ[j]? = some (some (.val d)) ∧ σ'[j]? = σ[j]?) ∨ ∃ v, σ'[j]? = some (some v) ∧ RepV g al (LL R al om σ' ρ') H' v d)
    (own : ∀ (j : Nat) (ds : List D), ρ'[j]? = some (some (.own ds)) → (ρ[j]? = some (some (.own ds)) ∧ σ'[j]? = σ[j]? ∧ ∀ b, σ[j]? = some (some (.ref b)) → H' b = H b) ∨ ∃ (a : Addr) (vs : List V), σ'[j]? = some (some (.ref a)) ∧ H' a = some (.lst vs) ∧ RepVs g al (LL R al om σ' ρ') H' vs ds)
    (odj : ∀ (i j : Nat) (a : Addr) (di dj : List D), ρ'[i]? = some (some (.own di)) → ρ'[j]? = some (some (.own dj)) → σ'[i]? = some (some (.ref a)) → σ'[j]? = some (some (.ref a)) → i = j)
    (ocl : ∀ a, OwnA σ' ρ' a → ¬ Lv al om a ∧ ¬ R a) : Rst g R al σ' ρ' om H' := by
  refine ⟨⟨S.o.len, fun j c b h1 h2 => ?_, S.o.inj, fun b h => ⟨(S.o.rsv b h).1, rs b h⟩⟩, sl, fun j d h => ?_, fun j ds h => ?_, odj, ocl⟩
  · exact (S.o.cel j c b h1 h2).car (st.car (Mt.flat S) fun a h => (S.o.rsv a h).2) (fun xs e n => by rw [hl b ⟨j, c, h2, h1, n⟩]; exact e) (fun C dx fs e n => by rw [hl b ⟨j, c, h2, h1, n⟩]; exact e)
  · rcases val j d h with ⟨h1, h2⟩ | q
    · obtain ⟨v, e, r⟩ := S.val j d h1
      exact ⟨v, by rw [h2]; exact e, st.rep S r⟩
    · exact q
  · rcases own j ds h with ⟨h1, h2, h3⟩ | q
    · obtain ⟨a, vs, e, e2, r⟩ := S.own j ds h1
      exact ⟨a, vs, by rw [h2]; exact e, by rw [h3 a e]; exact e2, st.reps S r⟩
    · exact q
theorem own_set (S : Rst g R al σ ρ om H) (ho : ρ[i]? = some (some (.own ds))) {b : Addr} (h : OwnA σ (ρ.set i (some (.own ds'))) b) : OwnA σ ρ b := by
  obtain ⟨j, dj, h1, h2⟩ := h
  rcases getset h1 with ⟨rfl, q⟩ | ⟨n, q⟩
  · exact ⟨j, ds, ho, h2⟩
  · exact ⟨j, dj, q, h2⟩
/-- the own list of a slot is changed -/
theorem Rst.setOwn (S : Rst g R al σ ρ om H) (ho : ρ[i]? = some (some (.own ds))) (hσ : σ[i]? = some (some (.ref a))) (ha : H a = some (.lst vs)) (hv : RepVs g al (LL R al om σ ρ) H vs' ds') :
    Rst g R al σ (ρ.set i (some (.own ds'))) om (upd H a (.lst vs')) ∧ Step al (Mt al om σ ρ) H al (Mt al om σ (ρ.set i (some (.own ds')))) (upd H a (.lst vs')) := by
  have hA : OwnA σ ρ a := ⟨i, ds, ho, hσ⟩
  have st : Step al (Mt al om σ ρ) H al (Mt al om σ (ρ.set i (some (.own ds')))) (upd H a (.lst vs')) := by
    refine .grow (fun b o h n => ?_) fun b m => ?_
    · rw [upd_ne (fun z => n (by rw [z]; exact .inr hA))]
      exact h
    · rcases m with m | m
      · exact .inl (.inl m)
      · exact .inl (.inr (own_set S ho m))
  refine ⟨S.chg st (fun b h => ?_) (S.sl.set1 fun _ z => nomatch z) (fun b h => ?_) (fun j d h => ?_) (fun j dj h => ?_) (fun j k b dj dk h1 h2 h3 h4 => ?_) (fun b h => S.ocl b (own_set S ho h)), st⟩
  · rw [upd_ne (fun z => (S.ocl a hA).1 (by rw [← z]; exact h))]
  · by_cases z : b = a
    · subst z; rw [upd_same]; simp
    · rw [upd_ne z]; exact (S.o.rsv b h).2
  · rcases getset h with ⟨rfl, q⟩ | ⟨n, q⟩
    · cases q
    · exact .inl ⟨q, rfl⟩
  · rcases getset h with ⟨rfl, q⟩ | ⟨n, q⟩
    · cases q
      exact .inr ⟨a, vs', hσ, upd_same, st.reps S hv⟩
    · refine .inl ⟨q, rfl, fun b hb => ?_⟩
      rw [upd_ne fun z => ?_]
      subst z
      exact n (S.odj j i b _ _ q ho hb hσ)
  · have f : ∀ {j : Nat} {dj : List D}, (ρ.set i (some (.own ds')))[j]? = some (some (.own dj)) → ∃ dj', ρ[j]? = some (some (.own dj')) := fun {j dj} h => by
      rcases getset h with ⟨rfl, q⟩ | ⟨n, q⟩
      · exact ⟨_, ho⟩
      · exact ⟨_, q⟩
    obtain ⟨_, q1⟩ := f h1
    obtain ⟨_, q2⟩ := f h2
    exact S.odj j k b _ _ q1 q2 h3 h4
/-- the own list of a slot becomes a value; the slot is empty -/
theorem Rst.moveOwn (S : Rst g R al σ ρ om H) (ho : ρ[i]? = some (some (.own ds))) (hσ : σ[i]? = some (some (.ref a))) :
    Rst g R al σ (ρ.set i none) om H ∧ Step al (Mt al om σ ρ) H al (Mt al om σ (ρ.set i none)) H ∧ ¬ LL R al om σ (ρ.set i none) a := by
  have hA : OwnA σ ρ a := ⟨i, ds, ho, hσ⟩
  have f : ∀ {j : Nat} {dj : List D}, (ρ.set i none)[j]? = some (some (.own dj)) → j ≠ i ∧ ρ[j]? = some (some (.own dj)) := fun {j dj} h => by
    rcases getset h with ⟨rfl, q⟩ | ⟨n, q⟩
    · cases q
    · exact ⟨n, q⟩
  have sub : ∀ b, OwnA σ (ρ.set i none) b → OwnA σ ρ b := fun b ⟨j, dj, h1, h2⟩ => ⟨j, dj, (f h1).2, h2⟩
  have st : Step al (Mt al om σ ρ) H al (Mt al om σ (ρ.set i none)) H := .grow (fun b o h n => h) fun b m => by
    rcases m with m | m
    · exact .inl (.inl m)
    · exact .inl (.inr (sub b m))
  refine ⟨S.chg st (fun b h => rfl) (S.sl.set1 fun _ z => nomatch z) (fun b h => (S.o.rsv b h).2) (fun j d h => ?_) (fun j dj h => ?_) (fun j k b dj dk h1 h2 h3 h4 => S.odj j k b _ _ (f h1).2 (f h2).2 h3 h4) (fun b h => S.ocl b (sub b h)), st, fun m => ?_⟩
  · rcases getset h with ⟨rfl, q⟩ | ⟨n, q⟩
    · cases q
    · exact .inl ⟨q, rfl⟩
  · exact .inl ⟨(f h).2, rfl, fun _ _ => rfl⟩
  · rcases m with (m | ⟨j, dj, h1, h2⟩) | m
    · exact (S.ocl a hA).1 m
    · exact (f h1).1 (S.odj j i a _ _ (f h1).2 ho h2 hσ)
    · exact (S.ocl a hA).2 m
theorem OwnA.drop {w : V} {s : Option Sl} (hs : ∀ ds, s ≠ some (.own ds)) {b : Addr} (h : OwnA (σ.set i (some w)) (ρ.set i s) b) : OwnA σ ρ b := by
  obtain ⟨j, dj, h1, h2⟩ := h
  rcases getset h1 with ⟨rfl, q⟩ | ⟨n, q⟩
  · exact absurd q.symm (hs _)
  · rcases getset h2 with ⟨rfl, _⟩ | ⟨_, q2⟩
    · exact absurd rfl n
    · exact ⟨j, dj, q, q2⟩
/-- a slot gets a value -/
theorem Rst.setVal (S : Rst g R al σ ρ om H) (hi : i < σ.length) (hv : RepV g al (LL R al om σ ρ) H v d) :
    Rst g R al (σ.set i (some v)) (ρ.set i (some (.val d))) om H ∧ Step al (Mt al om σ ρ) H al (Mt al om (σ.set i (some v)) (ρ.set i (some (.val d)))) H := by
  have sub : ∀ b, OwnA (σ.set i (some v)) (ρ.set i (some (.val d))) b → OwnA σ ρ b := fun b h => h.drop (fun ds z => by cases z)
  have st : Step al (Mt al om σ ρ) H al (Mt al om (σ.set i (some v)) (ρ.set i (some (.val d)))) H := .grow (fun b o h n => h) fun b m => by
    rcases m with m | m
    · exact .inl (.inl m)
    · exact .inl (.inr (sub b m))
  refine ⟨S.chg st (fun b h => rfl) (S.sl.set2 fun _ z => nomatch z) (fun b h => (S.o.rsv b h).2) (fun j d' h => ?_) (fun j dj h => ?_) (fun j k b dj dk h1 h2 h3 h4 => ?_) (fun b h => S.ocl b (sub b h)), st⟩
  · rcases getset h with ⟨rfl, q⟩ | ⟨n, q⟩
    · cases q
      exact .inr ⟨v, by rw [List.getElem?_set_self hi], st.rep S hv⟩
    · exact .inl ⟨q, by rw [List.getElem?_set_ne (Ne.symm n)]⟩
  · rcases getset h with ⟨rfl, q⟩ | ⟨n, q⟩
    · cases q
    · exact .inl ⟨q, by rw [List.getElem?_set_ne (Ne.symm n)], fun _ _ => rfl⟩
  · rcases getset h1 with ⟨rfl, q1⟩ | ⟨n1, q1⟩
    · cases q1
    · rcases getset h2 with ⟨rfl, q2⟩ | ⟨n2, q2⟩
      · cases q2
      · rw [List.getElem?_set_ne (Ne.symm n1)] at h3
        rw [List.getElem?_set_ne (Ne.symm n2)] at h4
        exact S.odj j k b _ _ q1 q2 h3 h4
/-- R, and p -/
def Rp (R : Addr → Prop) (p : Addr) : Addr → Prop := fun b => R b ∨ b = p
theorem LL.rp {b : Addr} : LL (Rp R p) al om σ ρ b ↔ LL R al om σ ρ b ∨ b = p := by
  unfold LL Rp
  exact or_assoc.symm
/-- less reserved -/
theorem Rst.less {R2 : Addr → Prop} (S : Rst g R al σ ρ om H) (h : ∀ a, R2 a → R a) : Rst g R2 al σ ρ om H ∧ Car g al (LL R al om σ ρ) H al (LL R2 al om σ ρ) H := by
  have ll : ∀ a, LL R2 al om σ ρ a → LL R al om σ ρ a := fun a m => m.elim .inl fun q => .inr (h a q)
  have cr : Car g al (LL R al om σ ρ) H al (LL R2 al om σ ρ) H := ⟨fun _ _ h => h, fun a vs h n => ⟨h, fun m => n (ll a m)⟩, fun _ _ h => h, fun a C dx fs h n => ⟨h, fun m => n (ll a m)⟩, fun _ _ h => h⟩
  refine ⟨⟨⟨S.o.len, fun j c b h1 h2 => (S.o.cel j c b h1 h2).car cr (fun _ e _ => e) (fun _ _ _ e _ => e), S.o.inj, fun a q => S.o.rsv a (h a q)⟩, S.sl, fun j d h => ?_, fun j dj h => ?_, S.odj, fun a q => ⟨(S.ocl a q).1, fun z => (S.ocl a q).2 (h a z)⟩⟩, cr⟩
  · obtain ⟨v, e, r⟩ := S.val j d h
    exact ⟨v, e, r.car cr⟩
  · obtain ⟨a, vs, e, e2, r⟩ := S.own j dj h
    exact ⟨a, vs, e, e2, r.car cr⟩
theorem Rst.lessp (S : Rst g (Rp R p) al σ ρ om H) (hR : ¬ R p) : Rst g R al σ ρ om H ∧ Car g al (LL (Rp R p) al om σ ρ) H al (LL R al om σ ρ) H ∧ ¬ LL R al om σ ρ p := by
  obtain ⟨S', c⟩ := S.less (R2 := R) fun a h => .inl h
  refine ⟨S', c, fun m => ?_⟩
  rcases m with (m | m) | m
  · exact (S.o.rsv p (.inr rfl)).1 m
  · exact (S.ocl p m).2 (.inr rfl)
  · exact hR m
/-- a new address is reserved -/
theorem Rst.newRes {o : HO} (S : Rst g R al σ ρ om H) (hp : H p = none) : Rst g (Rp R p) al σ ρ om (upd H p o) ∧ Car g al (LL R al om σ ρ) H al (LL (Rp R p) al om σ ρ) (upd H p o) := by
  have hn := S.new hp
  have k := upd_keep (o := o) hp
  have np : ∀ {a : Addr} {u : HO}, H a = some u → a ≠ p := fun e => ne_of_none e hp
  have cr : Car g al (LL R al om σ ρ) H al (LL (Rp R p) al om σ ρ) (upd H p o) := by
    refine ⟨fun a vs h => ?_, fun a vs h n => ⟨k a _ h, fun m => ?_⟩, fun a vs h => h.imp (fun ⟨o, h⟩ => ⟨o, k a _ h⟩) id, fun a C dx fs h n => ⟨k a _ h, fun m => ?_⟩, fun _ _ h => h⟩
    · rcases h with (h | ⟨u, h⟩) | h
      · exact .inl (.inl (k a _ h))
      · exact .inl (.inr ⟨u, k a _ h⟩)
      · exact .inr h
    · rcases LL.rp.mp m with m | m
      · exact n m
      · exact np h m
    · rcases LL.rp.mp m with m | m
      · exact n m
      · exact np h m
  refine ⟨⟨⟨S.o.len, fun j c b h1 h2 => (S.o.cel j c b h1 h2).car cr (fun _ e _ => k _ _ e) (fun _ _ _ e _ => k _ _ e), S.o.inj, fun a q => ?_⟩, S.sl, fun j d h => ?_, fun j dj h => ?_, S.odj, fun a q => ⟨(S.ocl a q).1, fun z => ?_⟩⟩, cr⟩
  · rcases q with q | rfl
    · refine ⟨(S.o.rsv a q).1, ?_⟩
      cases e : H a with
      | none => exact absurd e (S.o.rsv a q).2
      | some u => rw [k a u e]; simp
    · exact ⟨fun m => hn (.inl (.inl m)), by rw [upd_same]; simp⟩
  · obtain ⟨v, e, r⟩ := S.val j d h
    exact ⟨v, e, r.car cr⟩
  · obtain ⟨a, vs, e, e2, r⟩ := S.own j dj h
    exact ⟨a, vs, e, k _ _ e2, r.car cr⟩
  · rcases z with z | rfl
    · exact (S.ocl a q).2 z
    · exact hn (.inl (.inr q))
/-- a slot gets a list that nothing else knows -/
theorem Rst.setNew (S : Rst g (Rp R p) al σ ρ om H) (hi : i < σ.length) (hR : ¬ R p) (hp : H p = some (.lst vs)) (hv : RepVs g al (LL (Rp R p) al om σ ρ) H vs ds) :
    Rst g R al (σ.set i (some (.ref p))) (ρ.set i (some (.own ds))) om H ∧ ∀ b, Mt al om (σ.set i (some (.ref p))) (ρ.set i (some (.own ds))) b → Mt al om σ ρ b ∨ b = p := by
  have hn : ¬ Mt al om σ ρ p := fun m => m.elim (S.o.rsv p (.inr rfl)).1 fun m => (S.ocl p m).2 (.inr rfl)
  have sub : ∀ b, OwnA (σ.set i (some (.ref p))) (ρ.set i (some (.own ds))) b → OwnA σ ρ b ∨ b = p := fun b h => by
    obtain ⟨j, dj, h1, h2⟩ := h
    rcases getset h1 with ⟨rfl, q⟩ | ⟨n, q⟩
    · rcases getset h2 with ⟨_, q2⟩ | ⟨n2, _⟩
      · cases q2
        exact .inr rfl
      · exact absurd rfl n2
    · rcases getset h2 with ⟨rfl, _⟩ | ⟨_, q2⟩
      · exact absurd rfl n
      · exact .inl ⟨j, dj, q, q2⟩
  have ll : ∀ b, LL R al om (σ.set i (some (.ref p))) (ρ.set i (some (.own ds))) b → LL (Rp R p) al om σ ρ b := fun b m => by
    rcases m with (m | m) | m
    · exact .inl (.inl m)
    · rcases sub b m with q | q
      · exact .inl (.inr q)
      · exact .inr (.inr q)
    · exact .inr (.inl m)
  have cr : Car g al (LL (Rp R p) al om σ ρ) H al (LL R al om (σ.set i (some (.ref p))) (ρ.set i (some (.own ds)))) H :=
    ⟨fun _ _ h => h, fun a vs h n => ⟨h, fun m => n (ll a m)⟩, fun _ _ h => h, fun a C dx fs h n => ⟨h, fun m => n (ll a m)⟩, fun _ _ h => h⟩
  refine ⟨⟨⟨S.o.len, fun j c b h1 h2 => (S.o.cel j c b h1 h2).car cr (fun _ e _ => e) (fun _ _ _ e _ => e), S.o.inj, fun a q => S.o.rsv a (.inl q)⟩, (S.sl.set2 fun _ z => nomatch z), fun j d h => ?_, fun j dj h => ?_, fun j k b dj dk h1 h2 h3 h4 => ?_, fun b h => ?_⟩, fun b m => ?_⟩
  · rcases getset h with ⟨rfl, q⟩ | ⟨n, q⟩
    · cases q
    · obtain ⟨v, e, r⟩ := S.val j d q
      exact ⟨v, by rw [List.getElem?_set_ne (Ne.symm n)]; exact e, r.car cr⟩
  · rcases getset h with ⟨rfl, q⟩ | ⟨n, q⟩
    · cases q
      exact ⟨p, vs, by rw [List.getElem?_set_self hi], hp, hv.car cr⟩
    · obtain ⟨a, vs, e, e2, r⟩ := S.own j dj q
      exact ⟨a, vs, by rw [List.getElem?_set_ne (Ne.symm n)]; exact e, e2, r.car cr⟩
  · have nf : ∀ (j : Nat) (dj : List D), ρ[j]? = some (some (.own dj)) → σ[j]? ≠ some (some (.ref p)) := fun j dj h1 h2 => hn (.inr ⟨j, dj, h1, h2⟩)
    rcases getset h1 with ⟨rfl, q1⟩ | ⟨n1, q1⟩
    · rcases getset h2 with ⟨rfl, q2⟩ | ⟨n2, q2⟩
      · rfl
      · rw [List.getElem?_set_self hi] at h3
        cases h3
        rw [List.getElem?_set_ne (Ne.symm n2)] at h4
        exact absurd h4 (nf k _ q2)
    · rw [List.getElem?_set_ne (Ne.symm n1)] at h3
      rcases getset h2 with ⟨rfl, q2⟩ | ⟨n2, q2⟩
      · rw [List.getElem?_set_self hi] at h4
        cases h4
        exact absurd h3 (nf j _ q1)
      · rw [List.getElem?_set_ne (Ne.symm n2)] at h4
        exact S.odj j k b _ _ q1 q2 h3 h4
  · rcases sub b h with q | rfl
    · exact ⟨(S.ocl b q).1, fun z => (S.ocl b q).2 (.inl z)⟩
    · exact ⟨fun m => hn (.inl m), hR⟩
  · rcases m with m | m
    · exact .inl (.inl m)
    · rcases sub b m with q | q
      · exact .inl (.inr q)
      · exact .inr q
end
end Dv

namespace Dv
open PySem PySem.Spec PyProof.Rows L2

/-! ### what is wanted of an own list, of a statement -/
def PostO (g : G) (R : Addr → Prop) (W : WX) (al : List Addr) (M : Addr → Prop) (H : Hp) (σ : St) : Res (List D) → VK → Prop
  | .ok ds ρ' om', Q => ∀ (p : Addr) (vs : List V) (H' : Hp) (al' : List Addr), Step al M H al' (fun a => Mt al' om' σ ρ' a ∨ a = p) H' → Rst g (Rp R p) al' σ ρ' om' H' → ¬ R p → H' p = some (.lst vs) → RepVs g al' (LL (Rp R p) al' om' σ ρ') H' vs ds → Q (.ref p) H'
  | .xc x ρ' om', _ => ∀ cv dd H' al', Step al M H al' (Mt al' om' σ ρ') H' → Rst g R al' σ ρ' om' H' → RepX g al' (LL R al' om' σ ρ') H' cv dd x → W cv dd σ H'
  | .no, _ => False
abbrev UW := Rho → Om → Res (List D)
def tOw (g : G) (W : WX) (u : UW) : TE := fun σ H Q => ∃ R ρ om al, Rst g R al σ ρ om H ∧ PostO g R W al (Mt al om σ ρ) H σ (u ρ om) Q

inductive RS where
  | nx (r : Rho) (o : Om)
  | bk (r : Rho) (o : Om)
  | ct (r : Rho) (o : Om)
  | rt (d : D) (o : Om)
  | rto (ds : List D) (o : Om)
  | xc (x : DX) (r : Rho) (o : Om)
  | no
@[simp] def RS.of {τ : Type} : Res τ → (τ → Rho → Om → RS) → RS
  | .ok t r o, f => f t r o
  | .xc x r o, _ => .xc x r o
  | .no, _ => .no
abbrev US := Rho → Om → RS
def PostS (g : G) (R : Addr → Prop) (W : WX) (al : List Addr) (M : Addr → Prop) (H : Hp) : RS → Ends → Prop
  | .nx ρ' om', D => ∀ σ' H' al', Step al M H al' (Mt al' om' σ' ρ') H' → Rst g R al' σ' ρ' om' H' → D.nx σ' H'
  | .bk ρ' om', D => ∀ σ' H' al', Step al M H al' (Mt al' om' σ' ρ') H' → Rst g R al' σ' ρ' om' H' → D.bk σ' H'
  | .ct ρ' om', D => ∀ σ' H' al', Step al M H al' (Mt al' om' σ' ρ') H' → Rst g R al' σ' ρ' om' H' → D.ct σ' H'
  | .rt d om', D => ∀ v σ' ρ' H' al', Step al M H al' (Mt al' om' σ' ρ') H' → Rst g R al' σ' ρ' om' H' → RepV g al' (LL R al' om' σ' ρ') H' v d → D.rt v H'
  | .rto ds om', D => ∀ (p : Addr) (vs : List V) (σ' : St) (ρ' : Rho) (H' : Hp) (al' : List Addr), Step al M H al' (fun a => Mt al' om' σ' ρ' a ∨ a = p) H' → Rst g (Rp R p) al' σ' ρ' om' H' → ¬ R p → H' p = some (.lst vs) → RepVs g al' (LL (Rp R p) al' om' σ' ρ') H' vs ds → D.rt (.ref p) H'
  | .xc x ρ' om', _ => ∀ cv dd σ' H' al', Step al M H al' (Mt al' om' σ' ρ') H' → Rst g R al' σ' ρ' om' H' → RepX g al' (LL R al' om' σ' ρ') H' cv dd x → W cv dd σ' H'
  | .no, _ => False
def tS (g : G) (W : WX) (u : US) : TS := fun D σ H => ∃ R ρ om al, Rst g R al σ ρ om H ∧ PostS g R W al (Mt al om σ ρ) H (u ρ om) D

section
variable {g : G} {R : Addr → Prop} {al al' : List Addr} {om om' : Om} {σ σ' : St} {ρ ρ' : Rho} {H H' : Hp} {W : WX} {X : Cx} {M M' : Addr → Prop} {i : Nat}
theorem PostO.step {r : Res (List D)} {Q : VK} (s : Step al M H al' M' H') (p : PostO g R W al M H σ r Q) : PostO g R W al' M' H' σ r Q := by
  cases r with
  | ok t ρ' om' => exact fun y vs H2 al2 t2 => p y vs H2 al2 (s.trans t2)
  | xc x ρ' om' => exact fun y dd H2 al2 t2 => p y dd H2 al2 (s.trans t2)
  | no => exact p
theorem PostS.step {r : RS} {D : Ends} (s : Step al M H al' M' H') (p : PostS g R W al M H r D) : PostS g R W al' M' H' r D := by
  cases r with
  | nx ρ' om' => exact fun σ' H2 al2 t2 => p σ' H2 al2 (s.trans t2)
  | bk ρ' om' => exact fun σ' H2 al2 t2 => p σ' H2 al2 (s.trans t2)
  | ct ρ' om' => exact fun σ' H2 al2 t2 => p σ' H2 al2 (s.trans t2)
  | rt d om' => exact fun v σ' ρ' H2 al2 t2 => p v σ' ρ' H2 al2 (s.trans t2)
  | rto d om' => exact fun y vs σ' ρ' H2 al2 t2 => p y vs σ' ρ' H2 al2 (s.trans t2)
  | xc x ρ' om' => exact fun y dd σ' H2 al2 t2 => p y dd σ' H2 al2 (s.trans t2)
  | no => exact p
/-- an expression, then an own list -/
theorem tR_bindO {β τ : Type} {rel : G → Rl β τ} {u : Rho → Om → Res τ} {f : τ → Rho → Om → Res (List D)} {Q : β → Hp → Prop} {Q2 : VK} (S : Rst g R al σ ρ om H)
    (P : PostO g R W al (Mt al om σ ρ) H σ ((u ρ om).bind f) Q2)
    (k : ∀ t ρ' om' y H' al', Step al (Mt al om σ ρ) H al' (Mt al' om' σ ρ') H' → Rst g R al' σ ρ' om' H' → rel g al' (LL R al' om' σ ρ') H' y t → PostO g R W al' (Mt al' om' σ ρ') H' σ (f t ρ' om') Q2 → Q y H') : tR g W rel u σ H Q := by
  refine ⟨R, ρ, om, al, S, ?_⟩
  cases e : u ρ om with
  | ok t ρ' om' =>
    rw [e] at P
    exact fun y H' al' s S' r => k t ρ' om' y H' al' s S' r (PostO.step s P)
  | xc x ρ' om' => rw [e] at P; exact P
  | no => rw [e] at P; exact P
/-- an expression, then a statement -/
theorem tR_bindS {β τ : Type} {rel : G → Rl β τ} {u : Rho → Om → Res τ} {f : τ → Rho → Om → RS} {Q : β → Hp → Prop} {D2 : Ends} (S : Rst g R al σ ρ om H)
    (P : PostS g R W al (Mt al om σ ρ) H (RS.of (u ρ om) f) D2)
    (k : ∀ t ρ' om' y H' al', Step al (Mt al om σ ρ) H al' (Mt al' om' σ ρ') H' → Rst g R al' σ ρ' om' H' → rel g al' (LL R al' om' σ ρ') H' y t → PostS g R W al' (Mt al' om' σ ρ') H' (f t ρ' om') D2 → Q y H') : tR g W rel u σ H Q := by
  refine ⟨R, ρ, om, al, S, ?_⟩
  cases e : u ρ om with
  | ok t ρ' om' =>
    rw [e] at P
    exact fun y H' al' s S' r => k t ρ' om' y H' al' s S' r (PostS.step s P)
  | xc x ρ' om' =>
    rw [e] at P
    exact fun cv dd H' al' s S' r => P cv dd σ H' al' s S' r
  | no => rw [e] at P; exact P
/-- an own list, then a statement -/
theorem tOw_bindS {u : UW} {f : List D → Rho → Om → RS} {Q : VK} {D2 : Ends} (S : Rst g R al σ ρ om H)
    (P : PostS g R W al (Mt al om σ ρ) H (RS.of (u ρ om) f) D2)
    (k : ∀ ds ρ' om' p vs H' al', Step al (Mt al om σ ρ) H al' (fun a => Mt al' om' σ ρ' a ∨ a = p) H' → Rst g (Rp R p) al' σ ρ' om' H' → ¬ R p → H' p = some (.lst vs) → RepVs g al' (LL (Rp R p) al' om' σ ρ') H' vs ds → PostS g R W al' (fun a => Mt al' om' σ ρ' a ∨ a = p) H' (f ds ρ' om') D2 → Q (.ref p) H') : tOw g W u σ H Q := by
  refine ⟨R, ρ, om, al, S, ?_⟩
  cases e : u ρ om with
  | ok t ρ' om' =>
    rw [e] at P
    exact fun p vs H' al' s S' n e r => k t ρ' om' p vs H' al' s S' n e r (PostS.step s P)
  | xc x ρ' om' =>
    rw [e] at P
    exact fun cv dd H' al' s S' r => P cv dd σ H' al' s S' r
  | no => rw [e] at P; exact P
/-- an own list becomes a value -/
@[simp] def uFz (u : UW) : UE := fun ρ ω => (u ρ ω).bind fun ds ρ ω => .ok (.lst ds) ρ ω
theorem pu_fz {e : Expr} {u : UW} (h : PE X e (tOw g W u)) : PE X e (tE g W (uFz u)) := peImp h fun σ H Q ⟨R, ρ, om, al, S, P⟩ => by
  refine ⟨R, ρ, om, al, S, ?_⟩
  simp only [uFz] at P
  cases e : u ρ om with
  | ok ds ρ' om' =>
    rw [e] at P
    intro p vs H' al' s S' n hp r
    obtain ⟨S2, c, n2⟩ := S'.lessp n
    refine P _ H' al' ⟨s.ext, s.keep, fun a m => s.fresh a (.inl m)⟩ S2 (.lst hp n2 (r.car c))
  | xc x ρ' om' => rw [e] at P; exact P
  | no => rw [e] at P; exact P
theorem Rst.grown {o : HO} {p : Addr} (hp : H p = none) : Step al (Mt al om σ ρ) H al (fun a => Mt al om σ ρ a ∨ a = p) (upd H p o) := .grow (fun a u h _ => upd_keep hp a u h) fun a m => m.elim .inl fun z => .inr (z ▸ hp)
/-- a list just laid -/
theorem okOwn {Q : VK} {vs : List V} {ds : List D} {p : Addr} (S : Rst g R al σ ρ om H) (P : PostO g R W al (Mt al om σ ρ) H σ (.ok ds ρ om) Q) (hp : H p = none) (r : RepVs g al (LL R al om σ ρ) H vs ds) : Q (.ref p) (upd H p (.lst vs)) := by
  obtain ⟨S', c⟩ := S.newRes (o := .lst vs) hp
  exact P p vs _ al (Rst.grown hp) S' (fun z => (S.o.rsv p z).2 hp) upd_same (r.car c)
/-- [a, b, ..] as an own list -/
@[simp] def uLstO (u : UA) : UW := fun ρ ω => (u ρ ω).bind fun xs ρ ω => if xs.length ≤ big then .ok xs ρ ω else .no
theorem pu_lstO {es : List Expr} {us : UA} {pos : Pos} (h : PA X es (tA g W us)) : PE X (.List es pos) (tOw g W (uLstO us)) := peImp (pe_lst h) fun σ H Q ⟨R, ρ, om, al, S, P⟩ =>
  tR_bindO S P fun xs ρ1 om1 vs H1 al1 s1 S1 r1 P1 => by
    split at P1
    · rename_i hz
      exact ⟨big_line (by rw [RepVs.length r1]; exact hz), fun p hp => okOwn S1 P1 hp r1⟩
    · exact P1.elim
/-- the own list of a slot, handed on -/
@[simp] def uMv (i : Nat) : UW := fun ρ ω => match ρ[i]? with
  | some (some (.own ds)) => .ok ds (ρ.set i none) ω
  | _ => .no
theorem pu_mv (i : Nat) {x : Str} {pos : Pos} (hN : X.N[i]? = some x := by rfl) (hv : Vis X.env.scope x := by first | exact Or.inl rfl | exact Or.inr (Or.inl rfl) | exact Or.inr (Or.inr rfl)) (hd : (x == ("__debug__" : Str)) = false := by decide)
    (hcd : (x == ("__classdict__" : Str)) = false := by decide) : PE X (.Name x pos) (tOw g W (uMv i)) := peImp (pe_var hN hv hd hcd) fun σ H Q ⟨R, ρ, om, al, S, P⟩ => by
  simp only [uMv] at P
  split at P
  · rename_i ds e
    obtain ⟨a, vs, h1, h2, h3⟩ := S.own i ds e
    refine ⟨_, h1, ?_⟩
    obtain ⟨S', st, hn⟩ := S.moveOwn e h1
    have hA : OwnA σ ρ a := ⟨i, ds, e, h1⟩
    have cr : Car g al (LL R al om σ ρ) H al (LL (Rp R a) al om σ (ρ.set i none)) H := by
      have ll : ∀ b, LL (Rp R a) al om σ (ρ.set i none) b → LL R al om σ ρ b := fun b m => by
        rcases LL.rp.mp m with m | m
        · rcases m with m | m
          · rcases st.fresh b m with q | q
            · exact .inl q
            · rcases m with m | ⟨j, dj, q1, q2⟩
              · exact .inl (.inl m)
              · rcases getset q1 with ⟨_, q⟩ | ⟨_, q⟩
                · cases q
                · exact .inl (.inr ⟨j, dj, q, q2⟩)
          · exact .inr m
        · rw [m]; exact .inl (.inr hA)
      exact ⟨fun _ _ h => h, fun a vs h n => ⟨h, fun m => n (ll a m)⟩, fun _ _ h => h, fun a C dx fs h n => ⟨h, fun m => n (ll a m)⟩, fun _ _ h => h⟩
    have S2 : Rst g (Rp R a) al σ (ρ.set i none) om H := by
      refine ⟨⟨S'.o.len, fun j c b k1 k2 => (S.o.cel j c b k1 k2).car cr (fun _ e _ => e) (fun _ _ _ e _ => e), S'.o.inj, fun b q => ?_⟩, S'.sl, fun j d k => ?_, fun j dj k => ?_, S'.odj, fun b q => ⟨(S'.ocl b q).1, fun z => ?_⟩⟩
      · rcases q with q | rfl
        · exact S'.o.rsv b q
        · exact ⟨(S.ocl b hA).1, by rw [h2]; simp⟩
      · rcases getset k with ⟨_, q⟩ | ⟨_, q⟩
        · cases q
        · obtain ⟨v, q1, q2⟩ := S.val j d q
          exact ⟨v, q1, q2.car cr⟩
      · rcases getset k with ⟨_, q⟩ | ⟨_, q⟩
        · cases q
        · obtain ⟨b, ws, q1, q2, q3⟩ := S.own j dj q
          exact ⟨b, ws, q1, q2, q3.car cr⟩
      · rcases z with z | rfl
        · exact (S'.ocl b q).2 z
        · exact hn (.inl (.inr q))
    refine P a vs H al ⟨fun _ _ h => h, fun _ _ h _ => h, fun b m => ?_⟩ S2 (S.ocl a hA).2 h2 (h3.car cr)
    rcases m with m | rfl
    · exact st.fresh b m
    · exact .inl (.inr hA)
  · exact P.elim
/-! ### statements -/
@[simp] def sNext : US := fun ρ ω => .nx ρ ω
@[simp] def sSeq (u v : US) : US := fun ρ ω => match u ρ ω with
  | .nx ρ ω => v ρ ω
  | .bk ρ ω => .bk ρ ω
  | .ct ρ ω => .ct ρ ω
  | .rt d ω => .rt d ω
  | .rto d ω => .rto d ω
  | .xc x ρ ω => .xc x ρ ω
  | .no => .no
@[simp] def sAsg (i : Nat) (u : UE) : US := fun ρ ω => RS.of (u ρ ω) fun d ρ ω => .nx (ρ.set i (some (.val d))) ω
@[simp] def sAsgO (i : Nat) (u : UW) : US := fun ρ ω => RS.of (u ρ ω) fun ds ρ ω => .nx (ρ.set i (some (.own ds))) ω
@[simp] def sExpr (u : UE) : US := fun ρ ω => RS.of (u ρ ω) fun _ ρ ω => .nx ρ ω
@[simp] def sRet (u : UE) : US := fun ρ ω => RS.of (u ρ ω) fun d _ ω => .rt d ω
@[simp] def sRetO (u : UW) : US := fun ρ ω => RS.of (u ρ ω) fun d _ ω => .rto d ω
@[simp] def sRetN : US := fun _ ω => .rt .non ω
@[simp] def sIf (c : UT) (u v : US) : US := fun ρ ω => RS.of (c ρ ω) fun b ρ ω => if b = true then u ρ ω else v ρ ω
@[simp] def sBreak : US := fun ρ ω => .bk ρ ω
@[simp] def sCont : US := fun ρ ω => .ct ρ ω
@[simp] def sRaise (x : DX) : US := fun ρ ω => .xc x ρ ω
variable {e c : Expr} {ue : UE} {uw : UW} {uc : UT} {u v : US} {st : Stmt} {rest body other : List Stmt} {pos pos' : Pos}
theorem pss_nilU : PSs X [] (tS g W sNext) := pssImp pss_nil fun D σ H ⟨R, ρ, om, al, S, P⟩ => P σ H al .refl S
theorem tSeq_of {D : Ends} (h : tS g W (sSeq u v) D σ H) : tSeq (tS g W u) (tS g W v) D σ H := by
  obtain ⟨R, ρ, om, al, S, P⟩ := h
  refine ⟨R, ρ, om, al, S, ?_⟩
  simp only [sSeq] at P
  cases e : u ρ om with
  | nx ρ' om' =>
    rw [e] at P
    exact fun σ' H' al' s S' => ⟨R, ρ', om', al', S', PostS.step s P⟩
  | bk ρ' om' => rw [e] at P; exact P
  | ct ρ' om' => rw [e] at P; exact P
  | rt d om' => rw [e] at P; exact P
  | rto d om' => rw [e] at P; exact P
  | xc x ρ' om' => rw [e] at P; exact P
  | no => rw [e] at P; exact P
theorem pss_consU (h1 : PS X st (tS g W u)) (h2 : PSs X rest (tS g W v)) : PSs X (st :: rest) (tS g W (sSeq u v)) := pssImp (pss_cons h1 h2) fun D σ H h => tSeq_of h
theorem pss_oneU (h1 : PS X st (tS g W u)) : PSs X [st] (tS g W u) := pss_one h1
theorem ps_passU : PS X (.Pass pos) (tS g W sNext) := psImp ps_pass fun D σ H ⟨R, ρ, om, al, S, P⟩ => P σ H al .refl S
theorem ps_breakU : PS X (.Break pos) (tS g W sBreak) := psImp ps_break fun D σ H ⟨R, ρ, om, al, S, P⟩ => P σ H al .refl S
theorem ps_contU : PS X (.Continue pos) (tS g W sCont) := psImp ps_continue fun D σ H ⟨R, ρ, om, al, S, P⟩ => P σ H al .refl S
/-- storing into a name -/
theorem set_of {De : Ends} {d : D} {x : V} (S : Rst g R al σ ρ om H) (r : RepV g al (LL R al om σ ρ) H x d) (P : PostS g R W al (Mt al om σ ρ) H (.nx (ρ.set i (some (.val d))) om) De) : De.nx (σ.set i (some x)) H := by
  by_cases hi : i < σ.length
  · obtain ⟨S', s⟩ := S.setVal hi r
    exact P _ _ al s S'
  · rw [List.set_eq_of_length_le (by omega)]
    rw [List.set_eq_of_length_le (by rw [← S.sl.len]; omega)] at P
    exact P σ H al .refl S
theorem setO_of {De : Ends} {ds : List D} {p : Addr} {vs : List V} (S : Rst g (Rp R p) al σ ρ om H) (hR : ¬ R p) (hp : H p = some (.lst vs)) (r : RepVs g al (LL (Rp R p) al om σ ρ) H vs ds)
    (P : PostS g R W al (fun a => Mt al om σ ρ a ∨ a = p) H (.nx (ρ.set i (some (.own ds))) om) De) : De.nx (σ.set i (some (.ref p))) H := by
  by_cases hi : i < σ.length
  · obtain ⟨S', m⟩ := S.setNew hi hR hp r
    exact P _ _ al ⟨fun _ _ h => h, fun _ _ h _ => h, fun a q => .inl (m a q)⟩ S'
  · rw [List.set_eq_of_length_le (by omega)]
    rw [List.set_eq_of_length_le (by rw [← S.sl.len]; omega)] at P
    exact P σ H al ⟨fun _ _ h => h, fun _ _ h _ => h, fun a q => .inl (.inl q)⟩ (S.lessp hR).1
variable {x : Str}
theorem ps_asgU (i : Nat) (hN : X.N.Nodup) (he : PE X e (tE g W ue)) (hi : X.N[i]? = some x := by rfl) (hx : Loc X.env.scope x := by first | exact Or.inl rfl | exact Or.inr rfl) (hs : swapsWith e (some (.Name x pos')) pos.line X.env = pure false := by rfl) (hf : X.fn x = true ∨ X.env.scope.names.lookup x = some .local := by first | exact .inl rfl | exact .inr rfl) :
    PS X (.Assign [.Name x pos'] e pos) (tS g W (sAsg i ue)) := psImp (ps_set hN hi hx he hs hf) fun De σ H ⟨R, ρ, om, al, S, P⟩ =>
  tR_bindS S P fun d ρ' om' v H' al' s S' r P' => set_of S' r P'
theorem ps_asgO (i : Nat) (hN : X.N.Nodup) (he : PE X e (tOw g W uw)) (hi : X.N[i]? = some x := by rfl) (hx : Loc X.env.scope x := by first | exact Or.inl rfl | exact Or.inr rfl) (hs : swapsWith e (some (.Name x pos')) pos.line X.env = pure false := by rfl) (hf : X.fn x = true ∨ X.env.scope.names.lookup x = some .local := by first | exact .inl rfl | exact .inr rfl) :
    PS X (.Assign [.Name x pos'] e pos) (tS g W (sAsgO i uw)) := psImp (ps_set hN hi hx he hs hf) fun De σ H ⟨R, ρ, om, al, S, P⟩ =>
  tOw_bindS S P fun ds ρ' om' p vs H' al' s S' n hp r P' => setO_of S' n hp r P'
theorem ps_exprU (he : PE X e (tE g W ue)) (hs : swapsWith e none pos.line X.env = pure false := by rfl) : PS X (.Expr e pos) (tS g W (sExpr ue)) := psImp (ps_expr he hs) fun De σ H ⟨R, ρ, om, al, S, P⟩ =>
  tR_bindS S P fun d ρ' om' v H' al' s S' r P' => P' _ _ _ .refl S'
theorem ps_retU (he : PE X e (tE g W ue)) : PS X (.Return (some e) pos) (tS g W (sRet ue)) := psImp (ps_ret he) fun De σ H ⟨R, ρ, om, al, S, P⟩ =>
  tR_bindS S P fun d ρ' om' v H' al' s S' r P' => P' _ _ _ _ _ .refl S' r
theorem ps_retO (he : PE X e (tOw g W uw)) : PS X (.Return (some e) pos) (tS g W (sRetO uw)) := psImp (ps_ret he) fun De σ H ⟨R, ρ, om, al, S, P⟩ =>
  tOw_bindS S P fun ds ρ' om' p vs H' al' s S' n hp r P' => P' p vs σ ρ' H' al' .refl S' n hp r
theorem ps_retNU : PS X (.Return none pos) (tS g W sRetN) := psImp ps_retN fun De σ H ⟨R, ρ, om, al, S, P⟩ => P .non σ ρ H al .refl S .non
theorem tS_use {De : Ends} (S : Rst g R al σ ρ om H) (P : PostS g R W al (Mt al om σ ρ) H (u ρ om) De) : tS g W u De σ H := ⟨R, ρ, om, al, S, P⟩
theorem ps_ifU (hc : PT X c (tT g W uc)) (ha : PSs X body (tS g W u)) (hb : PSs X other (tS g W v)) : PS X (.If c body other pos) (tS g W (sIf uc u v)) := psImp (ps_if hc ha hb) fun De σ H ⟨R, ρ, om, al, S, P⟩ =>
  tR_bindS S P fun b ρ' om' y H' al' s S' r P' => by
    cases (show y = b from r)
    cases b with
    | true => exact tS_use S' P'
    | false => exact tS_use S' P'
theorem ps_neverU : PS X st (tS g W fun _ _ => .no) := psImp ps_never fun De σ H ⟨R, ρ, om, al, S, P⟩ => P.elim
theorem pss_neverU : PSs X body (tS g W fun _ _ => .no) := pssImp pss_never fun De σ H ⟨R, ρ, om, al, S, P⟩ => P.elim

/-! ### a while: n turns at most -/
def goW (c : UT) (b : US) : Nat → US
  | 0 => fun _ _ => .no
  | n + 1 => fun ρ ω => RS.of (c ρ ω) fun k ρ ω => if k = true then (match b ρ ω with
      | .nx ρ ω => goW c b n ρ ω
      | .ct ρ ω => goW c b n ρ ω
      | .bk ρ ω => .nx ρ ω
      | .rt d ω => .rt d ω
      | .rto d ω => .rto d ω
      | .xc x ρ ω => .xc x ρ ω
      | .no => .no) else .nx ρ ω
def sWhile (fuel : Rho → Om → Nat) (c : UT) (b : US) : US := fun ρ ω => goW c b (fuel ρ ω) ρ ω
theorem ps_whileU (fuel : Rho → Om → Nat) (hp : PassesOwn (model X.prog X.w) X.A X.env X.xe) (hc : PT X c (tT g W uc)) (hb : PSs X body (tS g W u)) : PS X (.While c body [] pos) (tS g W (sWhile fuel uc u)) := psImp (ps_while hp hc hb) fun De σ H ⟨R, ρ, om, al, S, P⟩ => by
  refine ⟨fun n σ' H' => ∃ ρ' om' al', Step al (Mt al om σ ρ) H al' (Mt al' om' σ' ρ') H' ∧ Rst g R al' σ' ρ' om' H' ∧ PostS g R W al' (Mt al' om' σ' ρ') H' (goW uc u n ρ' om') De, ⟨fuel ρ om, ρ, om, al, .refl, S, P⟩, ?_⟩
  rintro n σ1 H1 ⟨ρ1, om1, al1, s1, S1, P1⟩
  cases n with
  | zero => exact P1.elim
  | succ n =>
    refine tR_bindS S1 P1 fun b ρ' om' y H' al' s S' r P' => ?_
    cases (show y = b from r)
    cases b with
    | false => exact P' _ _ _ .refl S'
    | true =>
      refine ⟨fun σ' H' => ∃ ρ' om' al', Step al (Mt al om σ ρ) H al' (Mt al' om' σ' ρ') H' ∧ Rst g R al' σ' ρ' om' H' ∧ PostS g R W al' (Mt al' om' σ' ρ') H' (goW uc u n ρ' om') De, fun σ' H' h => ⟨n, Nat.lt_succ_self n, h⟩, ?_⟩
      refine tS_use S' ?_
      simp only [if_pos] at P'
      cases e : u ρ' om' with
      | nx ρ2 om2 => rw [e] at P'; exact fun σ2 H2 al2 s2 S2 => ⟨ρ2, om2, al2, (s1.trans s).trans s2, S2, PostS.step s2 P'⟩
      | ct ρ2 om2 => rw [e] at P'; exact fun σ2 H2 al2 s2 S2 => ⟨ρ2, om2, al2, (s1.trans s).trans s2, S2, PostS.step s2 P'⟩
      | bk ρ2 om2 => rw [e] at P'; exact P'
      | rt d om2 => rw [e] at P'; exact P'
      | rto d om2 => rw [e] at P'; exact P'
      | xc x ρ2 om2 => rw [e] at P'; exact P'
      | no => rw [e] at P'; exact P'
end
end Dv

namespace Dv
open PySem PySem.Spec PyProof.Rows L2

/-! ### what a loop walks: a row of items, settled when it begins -/
/-- at turn i it yields what stands for the i-th of ds, whatever has gone on since -/
def ItS (g : G) (J : It) (ds : List D) (R : Addr → Prop) (al : List Addr) (M : Addr → Prop) (H : Hp) : Prop :=
  ∀ (R2 : Addr → Prop) (σ : St) (ρ : Rho) (om : Om) (al2 : List Addr) (H2 : Hp) (i : Nat), (∀ a, R2 a → R a ∨ H a = none) → Step al M H al2 (Mt al2 om σ ρ) H2 → Rst g R2 al2 σ ρ om H2 →
    (i < ds.length → J.go i H2 ∧ ∀ x H3, J.yld i H2 x H3 → Rst g R2 al2 σ ρ om H3 ∧ Step al2 (Mt al2 om σ ρ) H2 al2 (Mt al2 om σ ρ) H3 ∧ ∃ d, ds[i]? = some d ∧ RepV g al2 (LL R2 al2 om σ ρ) H3 x d) ∧
    (ds.length ≤ i → J.stop i H2)
abbrev UI := Rho → Om → Res (List D)
def PostI (g : G) (R : Addr → Prop) (W : WX) (al : List Addr) (M : Addr → Prop) (H : Hp) (σ : St) : Res (List D) → (It → Hp → Prop) → Prop
  | .ok ds ρ' om', Q => ∀ J H' al', Step al M H al' (Mt al' om' σ ρ') H' → Rst g R al' σ ρ' om' H' → ItS g J ds R al' (Mt al' om' σ ρ') H' → Q J H'
  | .xc x ρ' om', _ => ∀ cv dd H' al', Step al M H al' (Mt al' om' σ ρ') H' → Rst g R al' σ ρ' om' H' → RepX g al' (LL R al' om' σ ρ') H' cv dd x → W cv dd σ H'
  | .no, _ => False
def tI (g : G) (W : WX) (u : UI) : TI := fun σ H Q => ∃ R ρ om al, Rst g R al σ ρ om H ∧ PostI g R W al (Mt al om σ ρ) H σ (u ρ om) Q
/-- a target -/
abbrev UG := D → Rho → Option Rho
@[simp] def gN (i : Nat) : UG := fun d ρ => some (ρ.set i (some (.val d)))
@[simp] def gT2 (a b : Nat) : UG := fun d ρ => match d with
  | .tup [x, y] => some ((ρ.set a (some (.val x))).set b (some (.val y)))
  | _ => none
@[simp] def gT3 (a b c : Nat) : UG := fun d ρ => match d with
  | .tup [x, y, z] => some (((ρ.set a (some (.val x))).set b (some (.val y))).set c (some (.val z)))
  | _ => none
@[simp] def gT4 (a b c e : Nat) : UG := fun d ρ => match d with
  | .tup [x, y, z, w] => some ((((ρ.set a (some (.val x))).set b (some (.val y))).set c (some (.val z))).set e (some (.val w)))
  | _ => none
def tG (g : G) (u : UG) : TG := fun v σ H Q => ∃ R ρ om al d ρ', Rst g R al σ ρ om H ∧ RepV g al (LL R al om σ ρ) H v d ∧ u d ρ = some ρ' ∧ ∀ σ', Step al (Mt al om σ ρ) H al (Mt al om σ' ρ') H → Rst g R al σ' ρ' om H → Q σ' H
def goL (G : UG) (b : US) : List D → US
  | [] => fun ρ ω => .nx ρ ω
  | d :: r => fun ρ ω => match G d ρ with
    | none => .no
    | some ρ1 => match b ρ1 ω with
      | .nx ρ ω => goL G b r ρ ω
      | .ct ρ ω => goL G b r ρ ω
      | .bk ρ ω => .nx ρ ω
      | .rt d ω => .rt d ω
      | .rto d ω => .rto d ω
      | .xc x ρ ω => .xc x ρ ω
      | .no => .no
def sFor (s : UI) (G : UG) (b : US) : US := fun ρ ω => RS.of (s ρ ω) fun t ρ ω => goL G b t ρ ω
section
variable {g : G} {R : Addr → Prop} {al al' : List Addr} {om om' : Om} {σ σ' : St} {ρ ρ' : Rho} {H H' : Hp} {W : WX} {X : Cx} {M M' : Addr → Prop} {i : Nat}
theorem tI_bindS {u : UI} {f : List D → Rho → Om → RS} {Q : It → Hp → Prop} {D2 : Ends} (S : Rst g R al σ ρ om H)
    (P : PostS g R W al (Mt al om σ ρ) H (RS.of (u ρ om) f) D2)
    (k : ∀ t ρ' om' J H' al', Step al (Mt al om σ ρ) H al' (Mt al' om' σ ρ') H' → Rst g R al' σ ρ' om' H' → ItS g J t R al' (Mt al' om' σ ρ') H' → PostS g R W al' (Mt al' om' σ ρ') H' (f t ρ' om') D2 → Q J H') : tI g W u σ H Q := by
  refine ⟨R, ρ, om, al, S, ?_⟩
  cases e : u ρ om with
  | ok t ρ' om' =>
    rw [e] at P
    exact fun y H' al' s S' r => k t ρ' om' y H' al' s S' r (PostS.step s P)
  | xc x ρ' om' =>
    rw [e] at P
    exact fun cv dd H' al' s S' r => P cv dd σ H' al' s S' r
  | no => rw [e] at P; exact P
variable {tg iter : Expr} {body : List Stmt} {us : UI} {G' : UG} {u : US} {pos : Pos}
theorem ps_forU (hp : PassesOwn (model X.prog X.w) X.A X.env X.xe) (hc : X.calm = true) (hi : PI X tg iter (tI g W us)) (hg : PG X tg (tG g G')) (hb : PSs X body (tS g W u))
    (hs : ∀ x, foldedSetIterable iter X.env x = pure x := by intro _; rfl) : PS X (.For tg iter body [] pos) (tS g W (sFor us G' u)) := psImp (ps_for hp hc hi hg hb hs) fun De σ H ⟨R, ρ, om, al, S, P⟩ => by
  refine tI_bindS S P fun ds ρ1 om1 J H1 al1 s1 S1 it P1 => ?_
  -- behind i turns: what is left gives what is wanted
  refine ⟨fun i n σ' H' => n + i = ds.length ∧ ∃ ρ' om' al', Step al1 (Mt al1 om1 σ ρ1) H1 al' (Mt al' om' σ' ρ') H' ∧ Rst g R al' σ' ρ' om' H' ∧ PostS g R W al' (Mt al' om' σ' ρ') H' (goL G' u (ds.drop i) ρ' om') De,
    ⟨ds.length, rfl, ρ1, om1, al1, .refl, S1, P1⟩, ?_⟩
  rintro i n σ2 H2 ⟨hn, ρ2, om2, al2, s2, S2, P2⟩
  have t := it R σ2 ρ2 om2 al2 H2 i (fun a h => .inl h) s2 S2
  by_cases hi : i < ds.length
  · obtain ⟨go, yl⟩ := t.1 hi
    refine .inr ⟨go, fun σ' H' => ∃ ρ' om' al', Step al1 (Mt al1 om1 σ ρ1) H1 al' (Mt al' om' σ' ρ') H' ∧ Rst g R al' σ' ρ' om' H' ∧ PostS g R W al' (Mt al' om' σ' ρ') H' (goL G' u (ds.drop (i + 1)) ρ' om') De,
      fun σ' H' h => ⟨n - 1, by omega, by omega, h⟩, fun x H3 hy => ?_⟩
    obtain ⟨S3, s3, d, hd, r⟩ := yl x H3 hy
    have e : ds.drop i = d :: ds.drop (i + 1) := by
      obtain ⟨hl, e⟩ := List.getElem?_eq_some_iff.mp hd
      rw [← e]
      exact List.drop_eq_getElem_cons hl
    rw [e] at P2
    unfold goL at P2
    cases eg : G' d ρ2 with
    | none => rw [eg] at P2; exact P2.elim
    | some ρ3 =>
      rw [eg] at P2
      refine ⟨R, ρ2, om2, al2, d, ρ3, S3, r, eg, fun σ4 s4 S4 => ?_⟩
      refine ⟨R, ρ3, om2, al2, S4, ?_⟩
      have P4 := PostS.step (s3.trans s4) P2
      dsimp only at P4
      cases eb : u ρ3 om2 with
      | nx ρ5 om5 => rw [eb] at P4; exact fun σ5 H5 al5 s5 S5 => ⟨ρ5, om5, al5, ((s2.trans s3).trans s4).trans s5, S5, PostS.step s5 P4⟩
      | ct ρ5 om5 => rw [eb] at P4; exact fun σ5 H5 al5 s5 S5 => ⟨ρ5, om5, al5, ((s2.trans s3).trans s4).trans s5, S5, PostS.step s5 P4⟩
      | bk ρ5 om5 => rw [eb] at P4; exact P4
      | rt d5 om5 => rw [eb] at P4; exact P4
      | rto d5 om5 => rw [eb] at P4; exact P4
      | xc x5 ρ5 om5 => rw [eb] at P4; exact P4
      | no => rw [eb] at P4; exact P4
  · rw [List.drop_eq_nil_of_le (by omega)] at P2
    exact .inl ⟨t.2 (by omega), P2 σ2 H2 al2 .refl S2⟩
/-! ### the things walked -/
@[simp] def dItems : D → Option (List D)
  | .lst ds => some ds
  | .frz ds => some ds
  | _ => none
@[simp] def iLst (u : UE) : UI := fun ρ ω => (u ρ ω).bind fun d ρ ω => liftO (dItems d) ρ ω
theorem tI_of {u : UE} {f : D → Option (List D)} {σ : St} {H : Hp} {Q : It → Hp → Prop} {Q' : VK} (h : tI g W (fun ρ ω => (u ρ ω).bind fun d ρ ω => liftO (f d) ρ ω) σ H Q)
    (k : ∀ R ρ om al H v d ds, Rst g R al σ ρ om H → RepV g al (LL R al om σ ρ) H v d → f d = some ds → (∀ J H', Step al (Mt al om σ ρ) H al (Mt al om σ ρ) H' → Rst g R al σ ρ om H' → ItS g J ds R al (Mt al om σ ρ) H' → Q J H') → Q' v H) : tE g W u σ H Q' := by
  obtain ⟨R, ρ, om, al, S, P⟩ := h
  refine ⟨R, ρ, om, al, S, ?_⟩
  dsimp only at P
  cases e : u ρ om with
  | ok d ρ' om' =>
    rw [e] at P
    intro v H' al' s S' r
    cases ef : f d with
    | none =>
      simp only [Res.bind, ef, liftO] at P
      exact P.elim
    | some ds =>
      simp only [Res.bind, ef, liftO] at P
      exact k R ρ' om' al' H' v d ds S' r ef fun J H2 s2 S2 it => P J H2 al' (s.trans s2) S2 it
  | xc x ρ' om' => rw [e] at P; exact P
  | no => rw [e] at P; exact P
theorem it_list {a : Addr} {ds : List D} {v : V} {d : D} (S : Rst g R al σ ρ om H) (r : RepV g al (LL R al om σ ρ) H v d) (hd : dItems d = some ds) (e : v = .ref a) : ItS g (Itl g.K a) ds R al (Mt al om σ ρ) H := by
  intro R2 σ2 ρ2 om2 al2 H2 i hR2 s S2
  have r2 : RepV g al2 (LL R2 al2 om2 σ2 ρ2) H2 v d := s.rep2 S hR2 r
  have ⟨vs, q, rs⟩ : ∃ vs, SqL g.K H2 a vs ∧ RepVs g al2 (LL R2 al2 om2 σ2 ρ2) H2 vs ds := by
    cases r2 with
    | lst h n r9 => cases hd; cases e; exact ⟨_, SqL.of h, r9⟩
    | frz h r9 => cases hd; cases e; exact ⟨_, h.sq, r9⟩
    | _ => cases hd
  refine ⟨fun hi => ?_, fun hi => ⟨vs, q, by rw [rs.length]; exact hi⟩⟩
  obtain ⟨v0, h0, h1⟩ := rs.get (i := i) (d := ds[i]) (by simp [hi])
  refine ⟨⟨vs, v0, q, h0⟩, fun x H3 ⟨e3, hx⟩ => ?_⟩
  subst e3
  have h2 := hx vs q
  rw [h0] at h2
  cases h2
  exact ⟨S2, .refl, ds[i], by simp [hi], h1⟩
theorem pi_listU {e : Expr} {ue : UE} (hK : X.K = g.K) (he : PE X e (tE g W ue)) : PI X tg e (tI g W (iLst ue)) := by
  refine ⟨fun pins s σ H Q I h => (pi_list he).run pins s σ H Q I (tI_of h fun R ρ om al H v d ds S r hd k => ?_)⟩
  cases r with
  | @lst a vs ds' h n r' =>
    refine ⟨a, rfl, ⟨vs, SqL.of h⟩, ?_⟩
    rw [hK]
    exact k _ H .refl S (it_list S (.lst h n r') hd rfl)
  | @frz a vs ds' h r' =>
    refine ⟨a, rfl, ⟨vs, by rw [hK]; exact h.sq⟩, ?_⟩
    rw [hK]
    exact k _ H .refl S (it_list S (.frz h r') hd rfl)
  | _ => cases hd
/-! names as targets -/
theorem pg_nameU (i : Nat) {x : Str} (hN : X.N.Nodup) (hi : X.N[i]? = some x := by rfl) (hx : Loc X.env.scope x := by first | exact Or.inl rfl | exact Or.inr rfl) (hf : X.fn x = true ∨ X.env.scope.names.lookup x = some .local := by first | exact .inl rfl | exact .inr rfl) : PG X (.Name x pos) (tG g (gN i)) :=
  ⟨fun pins s σ H v u Q I r ⟨R, ρ, om, al, d, ρ', S, rv, e, k⟩ => (pg_name hN hi hx hf).run pins s σ H v u Q I r (by
    cases e
    by_cases hl : i < σ.length
    · obtain ⟨S', s'⟩ := S.setVal hl rv
      exact k _ s' S'
    · show Q (σ.set i (some v)) H
      rw [List.set_eq_of_length_le (by rw [← S.sl.len]; omega)] at k
      rw [List.set_eq_of_length_le (by omega)]
      exact k _ .refl S)⟩
end
end Dv

namespace Dv
open PySem PySem.Spec PyProof.Rows L2

/-! ### what a def promises -/
def LF (R : Addr → Prop) (al : List Addr) (om : Om) (a : Addr) : Prop := Lv al om a ∨ R a
def PostF (g : G) (R : Addr → Prop) (al : List Addr) (M : Addr → Prop) (H : Hp) (E : XK) : FR → VK → Prop
  | .ok d om', Q => ∀ v H' al', Step al M H al' (Lv al' om') H' → RO g R al' om' H' (LF R al' om') → RepV g al' (LF R al' om') H' v d → Q v H'
  | .xc x om', _ => ∀ cv dd H' al', Step al M H al' (Lv al' om') H' → RO g R al' om' H' (LF R al' om') → RepX g al' (LF R al' om') H' cv dd x → E cv dd H'
  | .no, _ => False
def PostFO (g : G) (R : Addr → Prop) (al : List Addr) (M : Addr → Prop) (H : Hp) (E : XK) : FR → VK → Prop
  | .ok (.lst ds) om', Q => ∀ p vs H' al', Step al M H al' (fun a => Lv al' om' a ∨ a = p) H' → RO g (Rp R p) al' om' H' (LF (Rp R p) al' om') → H' p = some (.lst vs) → RepVs g al' (LF (Rp R p) al' om') H' vs ds → Q (.ref p) H'
  | .ok _ _, _ => False
  | .xc x om', _ => ∀ cv dd H' al', Step al M H al' (Lv al' om') H' → RO g R al' om' H' (LF R al' om') → RepX g al' (LF R al' om') H' cv dd x → E cv dd H'
  | .no, _ => False
abbrev FN := List D → Om → FR
def spU (g : G) (n : Nat) (S : FN) : Sp := fun vs H Q E => vs.length = n ∧ ∃ R ds om al, RO g R al om H (LF R al om) ∧ RepVs g al (LF R al om) H vs ds ∧ PostF g R al (Lv al om) H E (S ds om) Q
def spO (g : G) (n : Nat) (S : FN) : Sp := fun vs H Q E => vs.length = n ∧ ∃ R ds om al, RO g R al om H (LF R al om) ∧ RepVs g al (LF R al om) H vs ds ∧ PostFO g R al (Lv al om) H E (S ds om) Q
/-- the entry of a def of n names -/
@[simp] def ent (n : Nat) (ds : List D) : Rho := ds.map (fun d => some (.val d)) ++ List.replicate (n - ds.length) none
@[simp] def RS.fr : RS → FR
  | .nx _ o => .ok .non o
  | .rt d o => .ok d o
  | .rto ds o => .ok (.lst ds) o
  | .xc x _ o => .xc x o
  | _ => .no
/-- for an own list: what hands on such a one -/
@[simp] def RS.fo : RS → FR
  | .rto ds o => .ok (.lst ds) o
  | .xc x _ o => .xc x o
  | _ => .no
def defU (n : Nat) (u : US) : FN := fun ds ω => (u (ent n ds) ω).fr
def defO (n : Nat) (u : US) : FN := fun ds ω => (u (ent n ds) ω).fo

section
variable {g : G} {R R' : Addr → Prop} {al al' : List Addr} {om om' : Om} {σ σ' : St} {ρ ρ' : Rho} {H H' : Hp} {W : WX} {X : Cx} {M M' L L' : Addr → Prop} {i : Nat} {v : V} {d : D} {p : Addr}
theorem carL (h : ∀ a, L' a → L a) : Car g al L H al L' H := ⟨fun _ _ h => h, fun a vs e n => ⟨e, fun m => n (h a m)⟩, fun _ _ h => h, fun a C dx fs e n => ⟨e, fun m => n (h a m)⟩, fun _ _ h => h⟩
theorem RepX.car {cv : Value} {dd : Option Addr} {x : DX} (c : Car g al L H al L' H) (h : RepX g al L H cv dd x) : RepX g al L' H cv dd x := by
  obtain ⟨h1, h2 | ⟨d, fvs, h2, h0, h3, h4⟩⟩ := h
  · exact ⟨h1, .inl h2⟩
  · exact ⟨h1, .inr ⟨d, fvs, h2, h0, h3, h4.car c⟩⟩
/-- the reserved ones of a callee -/
def RC (R : Addr → Prop) (σ : St) (ρ : Rho) : Addr → Prop := fun a => R a ∨ OwnA σ ρ a
theorem lf_ll {a : Addr} : LF (RC R σ ρ) al om a ↔ LL R al om σ ρ a := by
  unfold LF RC LL Mt
  constructor
  · rintro (h | h | h)
    · exact .inl (.inl h)
    · exact .inr h
    · exact .inl (.inr h)
  · rintro ((h | h) | h)
    · exact .inl h
    · exact .inr (.inr h)
    · exact .inr (.inl h)
theorem RO.lm (o : RO g R al om H L) (h : ∀ a, L' a → L a) : RO g R al om H L' := ⟨o.len, fun i c a h1 h2 => (o.cel i c a h1 h2).car (carL h) (fun _ e _ => e) (fun _ _ _ e _ => e), o.inj, o.rsv⟩
theorem Rst.forCall (S : Rst g R al σ ρ om H) : RO g (RC R σ ρ) al om H (LF (RC R σ ρ) al om) :=
  let o := S.o.lm (L' := LF (RC R σ ρ) al om) fun a h => lf_ll.mp h
  ⟨o.len, o.cel, o.inj, fun a h => h.elim (S.o.rsv a) fun h => ⟨(S.ocl a h).1, by
    obtain ⟨j, ds, h1, h2⟩ := h
    obtain ⟨b, vs, e1, e2, _⟩ := S.own j ds h1
    rw [h2] at e1
    cases e1
    rw [e2]; simp⟩⟩
/-- behind a call: R2 what is reserved besides -/
theorem Rst.behind {R2 : Addr → Prop} (S : Rst g R al σ ρ om H) {M2 : Addr → Prop} (hM2 : ∀ a, Lv al' om' a → M2 a) (st : Step al (Lv al om) H al' M2 H') (hR : ∀ a, R a → R2 a) (hR2 : ∀ a, R2 a → R a ∨ (M2 a ∧ ¬ OwnA σ ρ a))
    (o : RO g (RC R2 σ ρ) al' om' H' (LF (RC R2 σ ρ) al' om')) : Rst g R2 al' σ ρ om' H' ∧ Step al (Mt al om σ ρ) H al' (fun a => Mt al' om' σ ρ a ∨ M2 a) H' := by
  have s1 : Step al (Mt al om σ ρ) H al' (fun a => Mt al' om' σ ρ a ∨ M2 a) H' := by
    refine ⟨st.ext, fun a u h n => st.keep a u h fun m => n (.inl m), fun a m => ?_⟩
    rcases m with (m | m) | m
    · exact (st.fresh a (hM2 a m)).elim (fun q => .inl (.inl q)) .inr
    · exact .inl (.inr m)
    · exact (st.fresh a m).elim (fun q => .inl (.inl q)) .inr
  have cr : Car g al (LL R al om σ ρ) H al' (LL R2 al' om' σ ρ) H' := by
    have c := s1.car (g := g) (R := R) (Mt.flat S) fun a h => (S.o.rsv a h).2
    have ll : ∀ a, LL R2 al' om' σ ρ a → (fun a => (Mt al' om' σ ρ a ∨ M2 a) ∨ R a) a := fun a m => by
      rcases m with m | m
      · exact .inl (.inl m)
      · rcases hR2 a m with q | q
        · exact .inr q
        · exact .inl (.inr q.1)
    exact ⟨c.tup, fun a vs h n => ⟨(c.lst a vs h n).1, fun m => (c.lst a vs h n).2 (ll a m)⟩, c.frz, fun a C dx fs h n => ⟨(c.obj a C dx fs h n).1, fun m => (c.obj a C dx fs h n).2 (ll a m)⟩, c.loc⟩
  have o' := o.lm (L' := LL R2 al' om' σ ρ) fun a h => lf_ll.mpr h
  refine ⟨⟨⟨o'.len, o'.cel, o'.inj, fun a h => o.rsv a (.inl h)⟩, S.sl, fun j d h => ?_, fun j ds h => ?_, S.odj, fun a h => ⟨(o.rsv a (.inr h)).1, fun z => ?_⟩⟩, s1⟩
  · obtain ⟨v, e, r⟩ := S.val j d h
    exact ⟨v, e, r.car cr⟩
  · obtain ⟨a, vs, e, e2, r⟩ := S.own j ds h
    exact ⟨a, vs, e, st.keep a _ e2 (S.ocl a ⟨j, ds, h, e⟩).1, r.car cr⟩
  · rcases hR2 a z with q | q
    · exact (S.ocl a h).2 q
    · exact q.2 h
/-- a call's end: a value -/
theorem call_end {S : FN} {ds : List D} {vs : List V} {Q : VK} (St : Rst g R al σ ρ om H) (r : RepVs g al (LL R al om σ ρ) H vs ds) (P : PostR g R W (relV g) al (Mt al om σ ρ) H σ ((S ds om).res ρ) Q) (n : Nat) (hn : vs.length = n) :
    spU g n S vs H Q (WE W σ) := by
  refine ⟨hn, RC R σ ρ, ds, om, al, St.forCall, r.car (carL fun a h => lf_ll.mp h), ?_⟩
  cases e : S ds om with
  | ok d om' =>
    rw [e] at P
    intro v H' al' s o rv
    obtain ⟨S2, s2⟩ := St.behind (R2 := R) (fun a h => h) s (fun a h => h) (fun a h => .inl h) o
    exact P v H' al' ⟨s2.ext, s2.keep, fun a m => s2.fresh a (.inl m)⟩ S2 (rv.car (carL fun a h => lf_ll.mpr h))
  | xc x om' =>
    rw [e] at P
    intro cv dd H' al' s o rv
    obtain ⟨S2, s2⟩ := St.behind (R2 := R) (fun a h => h) s (fun a h => h) (fun a h => .inl h) o
    exact P cv dd H' al' ⟨s2.ext, s2.keep, fun a m => s2.fresh a (.inl m)⟩ S2 (rv.car (carL fun a h => lf_ll.mpr h))
  | no => rw [e] at P; exact P
@[simp] def FR.own : FR → Rho → Res (List D)
  | .ok (.lst ds) o, r => .ok ds r o
  | .ok _ _, _ => .no
  | .xc x o, r => .xc x r o
  | .no, _ => .no
theorem call_endO {S : FN} {ds : List D} {vs : List V} {Q : VK} (St : Rst g R al σ ρ om H) (r : RepVs g al (LL R al om σ ρ) H vs ds) (P : PostO g R W al (Mt al om σ ρ) H σ ((S ds om).own ρ) Q) (n : Nat) (hn : vs.length = n) :
    spO g n S vs H Q (WE W σ) := by
  refine ⟨hn, RC R σ ρ, ds, om, al, St.forCall, r.car (carL fun a h => lf_ll.mp h), ?_⟩
  cases e : S ds om with
  | ok d om' =>
    rw [e] at P
    cases d with
    | lst ds =>
      intro p vs H' al' s o hp rv
      have np : ¬ RC R σ ρ p := fun z => by
        rcases s.fresh p (.inr rfl) with q | q
        · exact (St.forCall.rsv p z).1 q
        · exact (St.forCall.rsv p z).2 q
      have hrp : ∀ a, Rp (RC R σ ρ) p a ↔ RC (Rp R p) σ ρ a := fun a => by
        unfold Rp RC
        constructor
        · rintro ((h | h) | h)
          · exact .inl (.inl h)
          · exact .inr h
          · exact .inl (.inr h)
        · rintro ((h | h) | h)
          · exact .inl (.inl h)
          · exact .inr h
          · exact .inl (.inr h)
      have hlf : ∀ a, LF (RC (Rp R p) σ ρ) al' om' a → LF (Rp (RC R σ ρ) p) al' om' a := fun a h => h.imp id (hrp a).mpr
      have o2 : RO g (RC (Rp R p) σ ρ) al' om' H' (LF (RC (Rp R p) σ ρ) al' om') := by
        have q := o.lm hlf
        exact ⟨q.len, q.cel, q.inj, fun a h => q.rsv a ((hrp a).mpr h)⟩
      obtain ⟨S2, s2⟩ := St.behind (R2 := Rp R p) (M2 := fun a => Lv al' om' a ∨ a = p) (fun a h => .inl h) s (fun a h => .inl h) (fun a h => h.elim .inl fun z => .inr ⟨.inr z, fun q => np (.inr (z ▸ q))⟩) o2
      refine P p vs H' al' ⟨s2.ext, s2.keep, fun a m => s2.fresh a ?_⟩ S2 (fun z => np (.inl z)) hp (rv.car (carL fun a h => hlf a (lf_ll.mpr h)))
      rcases m with m | m
      · exact .inl m
      · exact .inr (.inr m)
    | _ => exact P.elim
  | xc x om' =>
    rw [e] at P
    intro cv dd H' al' s o rv
    obtain ⟨S2, s2⟩ := St.behind (R2 := R) (fun a h => h) s (fun a h => h) (fun a h => .inl h) o
    exact P cv dd H' al' ⟨s2.ext, s2.keep, fun a m => s2.fresh a (.inl m)⟩ S2 (rv.car (carL fun a h => lf_ll.mpr h))
  | no => rw [e] at P; exact P
/-- a def as it stands, and its promise -/
def Has (P : Program) (w : World) (K : PySem.W.Frag) (mg : Str → Option Value) (base : Heap) (x : Str) (ps : List Str) (k : Nat) (sp : Sp) : Prop :=
  ∃ (f : Addr) (fd : FuncData), mg x = some (.ref f) ∧ PySem.W.keepIn K (.ref f) = true ∧ Binds K fd ps [] ∧ FnOk P w K mg base (L2.CX P w) k f fd ps sp
variable {x : Str} {ps : List Str} {k n : Nat} {S : FN} {p0 pos : Pos} {e : Expr} {es : List Expr} {us : UA}
@[simp] def uCall (n : Nat) (S : FN) (us : UA) : UE := fun ρ ω => (us ρ ω).bind fun ds ρ ω => if ds.length = n then (S ds ω).res ρ else .no
@[simp] def uCallO (n : Nat) (S : FN) (us : UA) : UW := fun ρ ω => (us ρ ω).bind fun ds ρ ω => if ds.length = n then (S ds ω).own ρ else .no
/-- .. where nothing may be raised -/
@[simp] def FR.res0 : FR → Rho → Res D
  | .ok d o, r => .ok d r o
  | _, _ => .no
@[simp] def uCallN (n : Nat) (S : FN) (us : UA) : UE := fun ρ ω => (us ρ ω).bind fun ds ρ ω => if ds.length = n then (S ds ω).res0 ρ else .no
theorem pu_call (h : Has X.prog X.w X.K X.mg X.base x ps k (spU g ps.length S)) (hr : Room k X.A) (tk : Takes X W) (ha : PA X (e :: es) (tA g W us)) (hg : Gl X x := by rfl) (hdb : (x == ("__debug__" : Str)) = false := by decide)
    (he : starEach (e :: es) X.env = (false, eval e X.env) :: starEach es X.env := by rfl) (hpl : (backTo pos (starEach es X.env)).any (·.1) = false := by rfl) : PE X (.Call (.Name x p0) (e :: es) [] pos) (tE g W (uCall ps.length S us)) := by
  obtain ⟨f, fd, hm, hk, hb, F⟩ := h
  refine peImp (pe_callS F hr hg hm hk hb (fun σ => passAt tk σ) ha hdb he hpl) fun σ H Q ⟨R, ρ, om, al, St, P⟩ => ?_
  refine tR_bind St P fun ds ρ1 om1 vs H1 al1 s1 S1 r1 P1 => ?_
  split at P1
  · rename_i hl
    exact call_end S1 r1 P1 _ (by rw [RepVs.length r1]; exact hl)
  · exact P1.elim
theorem pu_callO (h : Has X.prog X.w X.K X.mg X.base x ps k (spO g ps.length S)) (hr : Room k X.A) (tk : Takes X W) (ha : PA X (e :: es) (tA g W us)) (hg : Gl X x := by rfl) (hdb : (x == ("__debug__" : Str)) = false := by decide)
    (he : starEach (e :: es) X.env = (false, eval e X.env) :: starEach es X.env := by rfl) (hpl : (backTo pos (starEach es X.env)).any (·.1) = false := by rfl) : PE X (.Call (.Name x p0) (e :: es) [] pos) (tOw g W (uCallO ps.length S us)) := by
  obtain ⟨f, fd, hm, hk, hb, F⟩ := h
  refine peImp (pe_callS F hr hg hm hk hb (fun σ => passAt tk σ) ha hdb he hpl) fun σ H Q ⟨R, ρ, om, al, St, P⟩ => ?_
  refine tR_bindO St P fun ds ρ1 om1 vs H1 al1 s1 S1 r1 P1 => ?_
  split at P1
  · rename_i hl
    exact call_endO S1 r1 P1 _ (by rw [RepVs.length r1]; exact hl)
  · exact P1.elim
theorem pu_callN (h : Has X.prog X.w X.K X.mg X.base x ps k (spU g n S)) (hr : Room k X.A) (ha : PA X (e :: es) (tA g W us)) (hg : Gl X x := by rfl) (hpn : ps.length = n := by rfl) (hdb : (x == ("__debug__" : Str)) = false := by decide)
    (he : starEach (e :: es) X.env = (false, eval e X.env) :: starEach es X.env := by rfl) (hpl : (backTo pos (starEach es X.env)).any (·.1) = false := by rfl) : PE X (.Call (.Name x p0) (e :: es) [] pos) (tE g W (uCallN n S us)) := by
  subst hpn
  obtain ⟨f, fd, hm, hk, hb, F⟩ := h
  refine peImp (pe_call F hr hg hm hk hb .nil passL ha hdb he hpl) fun σ H Q ⟨R, ρ, om, al, St, P⟩ => ?_
  refine tR_bind St P fun ds ρ1 om1 vs H1 al1 s1 S1 r1 P1 => ?_
  split at P1
  · rename_i hl
    have hn : vs.length = ps.length := by rw [RepVs.length r1]; exact hl
    rw [List.append_nil]
    cases e9 : S ds om1 with
    | ok d om' =>
      rw [e9] at P1
      obtain ⟨q1, R2, ds2, om2, al2, q2, q3, q4⟩ := call_end (W := fun _ _ _ _ => False) (S := S) S1 r1 (by rw [e9]; exact P1) _ hn
      exact ⟨q1, R2, ds2, om2, al2, q2, q3, q4⟩
    | xc x om' => rw [e9] at P1; exact P1.elim
    | no => rw [e9] at P1; exact P1.elim
  · exact P1.elim
/-! ### a def's body -/
theorem ent_get {ds : List D} {n j : Nat} {s : Sl} (h : (ent n ds)[j]? = some (some s)) : ∃ d, ds[j]? = some d ∧ s = .val d := by
  unfold ent at h
  by_cases hj : j < ds.length
  · rw [List.getElem?_append_left (by simpa using hj), List.getElem?_map] at h
    cases e : ds[j]? with
    | none => rw [e] at h; cases h
    | some d => rw [e] at h; cases h; exact ⟨d, rfl, rfl⟩
  · rw [List.getElem?_append_right (by simpa using hj), List.getElem?_replicate] at h
    split at h <;> cases h
theorem Rst.entry {N : List Str} {vs : List V} {ds : List D} (o : RO g R al om H (LF R al om)) (r : RepVs g al (LF R al om) H vs ds) (hn : vs.length ≤ N.length) : Rst g R al (start N vs) (ent N.length ds) om H ∧ (∀ a, Mt al om (start N vs) (ent N.length ds) a → Lv al om a) := by
  have no : ∀ a, ¬ OwnA (start N vs) (ent N.length ds) a := fun a ⟨j, dj, h1, _⟩ => by
    obtain ⟨d, _, e⟩ := ent_get h1
    cases e
  have ll : ∀ a, LL R al om (start N vs) (ent N.length ds) a → LF R al om a := fun a m => by
    rcases m with (m | m) | m
    · exact .inl m
    · exact absurd m (no a)
    · exact .inr m
  refine ⟨⟨o.lm ll, ?_, fun j d h => ?_, fun j dj h => ?_, fun i j a di dj h1 => ?_, fun a h => absurd h (no a)⟩, fun a m => m.elim id fun z => absurd z (no a)⟩
  · refine ⟨?_, fun j a c x _ h => ?_⟩
    · unfold L2.start ent
      simp only [List.length_append, List.length_map, List.length_replicate, r.length]
    · obtain ⟨d', _, q⟩ := ent_get h
      cases q
  · obtain ⟨d', e, q⟩ := ent_get h
    cases q
    obtain ⟨v, e2, rv⟩ := r.get e
    refine ⟨v, ?_, rv.car (carL ll)⟩
    unfold L2.start
    obtain ⟨hl, _⟩ := List.getElem?_eq_some_iff.mp e2
    rw [List.getElem?_append_left (by simpa using hl), List.getElem?_map, e2]
    rfl
  · obtain ⟨d', e, q⟩ := ent_get h
    cases q
  · obtain ⟨d', e, q⟩ := ent_get h1
    cases q
theorem rst_lf {a : Addr} (h : LF R al om a) : LL R al om σ ρ a := h.elim (fun h => .inl (.inl h)) .inr
variable {P : Program} {w : World} {K : PySem.W.Frag} {mg : Str → Option Value} {base : Heap} {qual : Str} {st : Stmt} {f : Addr} {fd : FuncData} {N : List Str} {u : US}
/-- THE RULE for a def -/
theorem fnU (F : Fun K x qual st f fd) (Sc : FnScope N ps (defScope st)) (hps : ps.length ≤ N.length)
    (body : ∀ (cdv : Value) (A : Around) (outer : List Env) (s : Shared) (H : Hp) (E : XK), Room k (A.deeper (envOfC qual (defScope st) s.heap.objs.size f cdv)) →
      Takes (cxOf (L2.CX P w) P w K mg base N qual (defScope st) f cdv A outer s H E) (fun cls d _ H => E cls d H) → PSs (cxOf (L2.CX P w) P w K mg base N qual (defScope st) f cdv A outer s H E) (defBody st) (tS g (fun cls d _ H => E cls d H) u)) :
    FnOk P w K mg base (L2.CX P w) (k + 1) f fd ps (spU g ps.length (defU N.length u)) := by
  refine F.okX Sc (fun vs H Q E h => h.1) (fun cdv A outer s H vs Q E hr h => ⟨_, body cdv A outer s H E hr (takes_of rfl rfl rfl rfl), ?_⟩)
  obtain ⟨hn, R, ds, om, al, o, r, p⟩ := h
  obtain ⟨S, m0⟩ := Rst.entry (N := N) o r (by omega)
  refine ⟨R, _, om, al, S, ?_⟩
  have back : ∀ {al' : List Addr} {om' : Om} {σ' : St} {ρ' : Rho} {H' : Hp}, Step al (Mt al om (start N vs) (ent N.length ds)) H al' (Mt al' om' σ' ρ') H' → Step al (Lv al om) H al' (Lv al' om') H' := fun s =>
    ⟨s.ext, fun a u h n => s.keep a u h fun z => n (m0 a z), fun a z => (s.fresh a (.inl z)).imp (m0 a) id⟩
  unfold defU at p
  cases e : u (ent N.length ds) om with
  | nx ρ' om' => rw [e] at p; exact fun σ' H' al' s S' => p _ H' al' (back s) (S'.o.lm fun a h => rst_lf h) .non
  | rt d om' => rw [e] at p; exact fun v σ' ρ' H' al' s S' r' => p _ H' al' (back s) (S'.o.lm fun a h => rst_lf h) (r'.car (carL fun a h => rst_lf h))
  | rto d om' =>
    rw [e] at p
    intro q vs σ' ρ' H' al' s S' n hq r'
    obtain ⟨S2, c, n2⟩ := S'.lessp n
    refine p _ H' al' ⟨s.ext, fun a u h z => s.keep a u h fun y => z (m0 a y), fun a z => (s.fresh a (.inl (.inl z))).imp (m0 a) id⟩ (S2.o.lm fun a h => rst_lf h) (RepV.car (carL fun a h => rst_lf h) (RepV.lst hq n2 (r'.car c)))
  | xc y ρ' om' => rw [e] at p; exact fun cv dd σ' H' al' s S' r' => p cv dd H' al' (back s) (S'.o.lm fun a h => rst_lf h) (r'.car (carL fun a h => rst_lf h))
  | bk ρ' om' => rw [e] at p; exact p.elim
  | ct ρ' om' => rw [e] at p; exact p.elim
  | no => rw [e] at p; exact p.elim
/-- .. for a def that hands on an own list -/
theorem fnO (F : Fun K x qual st f fd) (Sc : FnScope N ps (defScope st)) (hps : ps.length ≤ N.length)
    (body : ∀ (cdv : Value) (A : Around) (outer : List Env) (s : Shared) (H : Hp) (E : XK), Room k (A.deeper (envOfC qual (defScope st) s.heap.objs.size f cdv)) →
      Takes (cxOf (L2.CX P w) P w K mg base N qual (defScope st) f cdv A outer s H E) (fun cls d _ H => E cls d H) → PSs (cxOf (L2.CX P w) P w K mg base N qual (defScope st) f cdv A outer s H E) (defBody st) (tS g (fun cls d _ H => E cls d H) u)) :
    FnOk P w K mg base (L2.CX P w) (k + 1) f fd ps (spO g ps.length (defO N.length u)) := by
  refine F.okX Sc (fun vs H Q E h => h.1) (fun cdv A outer s H vs Q E hr h => ⟨_, body cdv A outer s H E hr (takes_of rfl rfl rfl rfl), ?_⟩)
  obtain ⟨hn, R, ds, om, al, o, r, p⟩ := h
  obtain ⟨S, m0⟩ := Rst.entry (N := N) o r (by omega)
  refine ⟨R, _, om, al, S, ?_⟩
  unfold defO at p
  cases e : u (ent N.length ds) om with
  | rto d om' =>
    rw [e] at p
    intro q vs σ' ρ' H' al' s S' n hq r'
    refine p q vs H' al' ⟨s.ext, fun a u h z => s.keep a u h fun y => z (m0 a y), fun a z => (s.fresh a (z.imp .inl id)).imp (m0 a) id⟩ (S'.o.lm fun a h => rst_lf h) hq (r'.car (carL fun a h => rst_lf h))
  | xc y ρ' om' =>
    rw [e] at p
    exact fun cv dd σ' H' al' s S' r' => p cv dd H' al' ⟨s.ext, fun a u h n => s.keep a u h fun z => n (m0 a z), fun a z => (s.fresh a (.inl z)).imp (m0 a) id⟩ (S'.o.lm fun a h => rst_lf h) (r'.car (carL fun a h => rst_lf h))
  | nx ρ' om' => rw [e] at p; exact p.elim
  | rt d om' => rw [e] at p; exact p.elim
  | bk ρ' om' => rw [e] at p; exact p.elim
  | ct ρ' om' => rw [e] at p; exact p.elim
  | no => rw [e] at p; exact p.elim
/-- an own list is a value, too -/
theorem spO_U {S : FN} {n : Nat} : ∀ vs H Q E, spU g n S vs H Q E → (∀ ds om x om', S ds om = .ok x om' → ∃ l, x = .lst l) → spO g n S vs H Q E := fun vs H Q E ⟨hn, R, ds, om, al, o, r, p⟩ hS => by
  refine ⟨hn, R, ds, om, al, o, r, ?_⟩
  cases e : S ds om with
  | ok d om' =>
    obtain ⟨l, rfl⟩ := hS _ _ _ _ e
    rw [e] at p
    intro q vs H' al' s o' hq r'
    refine p _ H' al' ⟨s.ext, s.keep, fun a z => s.fresh a (.inl z)⟩ ?_ ?_
    · have q := o'.lm (L' := LF R al' om') fun a h => h.imp id .inl
      exact ⟨q.len, q.cel, q.inj, fun a h => q.rsv a (.inl h)⟩
    · refine .lst hq (fun z => ?_) (r'.car (carL fun a h => h.imp id .inl))
      rcases z with z | z
      · exact (o'.rsv q (.inr rfl)).1 z
      · rcases s.fresh q (.inr rfl) with y | y
        · exact (o.rsv q z).1 y
        · exact (o.rsv q z).2 y
  | xc x om' => rw [e] at p; exact p
  | no => rw [e] at p; exact p
end
end Dv

namespace Dv
open PySem PySem.Spec PyProof.Rows L2

/-! ### built-in functions on data -/
def fAbs : List D → Option D
  | [.int i] => some (.int (if i < 0 then -i else i))
  | _ => none
def fLen : List D → Option D
  | [.lst xs] => some (.int xs.length)
  | [.frz xs] => some (.int xs.length)
  | [.tup xs] => some (.int xs.length)
  | [.str z] => if z.length ≤ big then some (.int z.length) else none
  | _ => none
def fInt : List D → Option D
  | [.int i] => some (.int i)
  | [.bl b] => some (.int (if b then 1 else 0))
  | _ => none
def fIntS : List D → Option D
  | [.str z] => if z.length ≤ 640 then (match PySem.intText? z with | some n => some (.int n) | none => none) else none
  | _ => none
def fStr : List D → Option D
  | [.int i] => if i.natAbs.log2 < 1920 then some (.str (toString i)) else none
  | _ => none
def fList : List D → Option (List D)
  | [.lst xs] => some xs
  | [.frz xs] => some xs
  | [.tup xs] => some xs
  | _ => none
def asInts : List D → Option (List Int)
  | [] => some []
  | .int i :: r => (asInts r).map (i :: ·)
  | _ => none
def asStrs : List D → Option (List Str)
  | [] => some []
  | .str i :: r => (asStrs r).map (i :: ·)
  | _ => none
def fSum : List D → Option D
  | [.lst xs] => (asInts xs).map fun ns => .int ns.sum
  | _ => none
def fMax2 : List D → Option D
  | [.int i, .int j] => some (.int (if j > i then j else i))
  | _ => none
def fMin2 : List D → Option D
  | [.int i, .int j] => some (.int (if j < i then j else i))
  | _ => none
def tyName : D → Option String
  | .non => some "NoneType"
  | .bl _ => some "bool"
  | .int _ => some "int"
  | .str _ => some "str"
  | .tup _ => some "tuple"
  | .lst _ => some "list"
  | _ => none
def dIsi (T : String) (d : D) : Option D := match tyName d with
  | some t => (L2.kitB t T).map .bl
  | none => none
@[simp] def uFnO (f : List D → Option (List D)) (u : UA) : UW := fun ρ ω => (u ρ ω).bind fun xs ρ ω => liftO (f xs) ρ ω
/-- a built-in of one argument, looking at the own list of a slot -/
@[simp] def uFnV (f : List D → Option D) (i : Nat) : UE := fun ρ ω => match ρ[i]? with
  | some (some (.own ds)) => liftO (f [.lst ds]) ρ ω
  | _ => .no
/-- an operation whose left side is the own list of a slot -/
@[simp] def uBinV (f : D → D → Option D) (i : Nat) (ub : UE) : UE := fun ρ ω => match ρ[i]? with
  | some (some (.own _)) => (ub ρ ω).bind fun y ρ ω => (match ρ[i]? with
    | some (some (.own ds)) => liftO (f (.lst ds) y) ρ ω
    | _ => .no)
  | _ => .no
/-- .. its right side -/
@[simp] def uBinW (f : D → D → Option D) (ua : UE) (i : Nat) : UE := fun ρ ω => (ua ρ ω).bind fun x ρ ω => match ρ[i]? with
  | some (some (.own ds)) => liftO (f x (.lst ds)) ρ ω
  | _ => .no
/-! methods that change a list -/
abbrev MF := List D → List D → Option (D × List D)
def mAppend : MF := fun xs ds => match ds with
  | [d] => if xs.length < big then some (.non, xs ++ [d]) else none
  | _ => none
def mPop : MF := fun xs ds => match ds with
  | [] => match xs.getLast? with
    | some d => some (d, xs.dropLast)
    | none => none
  | _ => none
def mPopAt : MF := fun xs ds => match ds with
  | [.int i] => if i = 0 then (match xs with | d :: r => some (d, r) | [] => none) else none
  | _ => none
def mClear : MF := fun xs ds => match ds with
  | [] => some (.non, [])
  | _ => none
def mExtend : MF := fun xs ds => match ds with
  | [.lst es] => if xs.length + es.length ≤ big then some (.non, xs ++ es) else none
  | _ => none
@[simp] def uMeO (i : Nat) (f : MF) (us : UA) : UE := fun ρ ω => match ρ[i]? with
  | some (some (.own _)) => (us ρ ω).bind fun ds ρ ω => (match ρ[i]? with
    | some (some (.own xs)) => (match f xs ds with
      | some (d, ys) => .ok d (ρ.set i (some (.own ys))) ω
      | none => .no)
    | _ => .no)
  | _ => .no
@[simp] def uMeL (ua : UE) (f : MF) (us : UA) : UE := fun ρ ω => (ua ρ ω).bind fun x ρ ω => match x with
  | .loc k => (match ω[k]? with
    | some (.lst _) => (us ρ ω).bind fun ds ρ ω => (match ω[k]? with
      | some (.lst xs) => (match f xs ds with
        | some (d, ys) => .ok d ρ (ω.set k (.lst ys))
        | none => .no)
      | _ => .no)
    | _ => .no)
  | _ => .no

section
variable {g : G} {R : Addr → Prop} {al : List Addr} {om : Om} {σ : St} {ρ : Rho} {H H' : Hp} {W : WX} {X : Cx} {L : Addr → Prop} {v : V} {d : D}
theorem RepWs.one {vs : List V} {d : D} (h : RepWs g al L H vs [d]) : ∃ v, vs = [v] ∧ RepW g al L H v d := by
  cases h with
  | cons h r => cases r; exact ⟨_, rfl, h⟩
theorem RepWs.two {vs : List V} {d e : D} (h : RepWs g al L H vs [d, e]) : ∃ v w, vs = [v, w] ∧ RepW g al L H v d ∧ RepW g al L H w e := by
  cases h with
  | cons h r => cases r with
    | cons h2 r => cases r; exact ⟨_, _, rfl, h, h2⟩
theorem asInts_eq : ∀ {xs : List D} {ns : List Int}, asInts xs = some ns → xs = ns.map D.int
  | [], ns, h => by cases h; rfl
  | .int i :: r, ns, h => by
    unfold asInts at h
    cases e : asInts r with
    | none => rw [e] at h; cases h
    | some l => rw [e] at h; cases h; rw [asInts_eq e]; rfl
  | .non :: _, _, h => by cases h
  | .bl _ :: _, _, h => by cases h
  | .str _ :: _, _, h => by cases h
  | .tup _ :: _, _, h => by cases h
  | .lst _ :: _, _, h => by cases h
  | .obj _ _ :: _, _, h => by cases h
  | .loc _ :: _, _, h => by cases h
  | .frz _ :: _, _, h => by cases h
theorem asStrs_eq : ∀ {xs : List D} {ns : List Str}, asStrs xs = some ns → xs = ns.map D.str
  | [], ns, h => by cases h; rfl
  | .str i :: r, ns, h => by
    unfold asStrs at h
    cases e : asStrs r with
    | none => rw [e] at h; cases h
    | some l => rw [e] at h; cases h; rw [asStrs_eq e]; rfl
  | .non :: _, _, h => by cases h
  | .bl _ :: _, _, h => by cases h
  | .int _ :: _, _, h => by cases h
  | .tup _ :: _, _, h => by cases h
  | .lst _ :: _, _, h => by cases h
  | .obj _ _ :: _, _, h => by cases h
  | .loc _ :: _, _, h => by cases h
  | .frz _ :: _, _, h => by cases h
theorem s_abs : FnS g (fun xs H Q => ∃ i, xs = [.int i] ∧ Q (.int (if i < 0 then -i else i)) H) fAbs := by
  intro R W al om σ ρ H Q vs xs S r P
  unfold fAbs at P
  split at P
  · obtain ⟨v, rfl, h⟩ := r.one
    cases h.int
    exact ⟨_, rfl, okSame S P .int⟩
  · exact P.elim
def rLenU (K : PySem.W.Frag) : List V → Hp → VK → Prop := fun xs H Q => (∃ p ys, xs = [.ref p] ∧ (SqL K H p ys ∨ SqT K H p ys) ∧ Q (.int ys.length) H) ∨ ∃ z, xs = [.str z] ∧ z.length ≤ sizeLine ∧ Q (.int z.length) H
theorem call_lenU : CallR X (.builtin "len") (rLenU X.K) := call_len_seq.or call_len_str
theorem s_len : FnS g (rLenU g.K) fLen := by
  intro R W al om σ ρ H Q vs xs S r P
  unfold fLen at P
  split at P
  · obtain ⟨v, rfl, h⟩ := r.one
    obtain ⟨a, vs, rfl, h1, h2⟩ := h.lst
    exact .inl ⟨a, vs, rfl, .inl (SqL.of h1), by rw [h2.length]; exact okSame S P .int⟩
  · obtain ⟨v, rfl, h⟩ := r.one
    obtain ⟨a, vs, rfl, h1, h2⟩ := h.frz
    exact .inl ⟨a, vs, rfl, .inl h1.sq, by rw [h2.length]; exact okSame S P .int⟩
  · obtain ⟨v, rfl, h⟩ := r.one
    obtain ⟨a, vs, rfl, h1, h2⟩ := h.tup
    exact .inl ⟨a, vs, rfl, .inr h1, by rw [h2.length]; exact okSame S P .int⟩
  · obtain ⟨v, rfl, h⟩ := r.one
    cases h.str
    split at P
    · rename_i hz
      exact .inr ⟨_, rfl, big_line hz, okSame S P .int⟩
    · exact P.elim
  · exact P.elim
theorem s_int : FnS g (fun xs H Q => (∃ i, xs = [.int i] ∧ Q (.int i) H) ∨ ∃ k, xs = [.bl k] ∧ Q (.int (if k then 1 else 0)) H) fInt := by
  intro R W al om σ ρ H Q vs xs S r P
  unfold fInt at P
  split at P
  · obtain ⟨v, rfl, h⟩ := r.one
    cases h.int
    exact .inl ⟨_, rfl, okSame S P .int⟩
  · obtain ⟨v, rfl, h⟩ := r.one
    cases h.bl
    exact .inr ⟨_, rfl, okSame S P .int⟩
  · exact P.elim
theorem s_intS : FnS g (fun xs H Q => ∃ a n, xs = [.str a] ∧ PySem.intText? a = some n ∧ a.length ≤ 640 ∧ Q (.int n) H) fIntS := by
  intro R W al om σ ρ H Q vs xs S r P
  unfold fIntS at P
  split at P
  · obtain ⟨v, rfl, h⟩ := r.one
    cases h.str
    split at P
    · rename_i hz
      split at P
      · rename_i n hn
        exact ⟨_, n, rfl, hn, hz, okSame S P .int⟩
      · exact P.elim
    · exact P.elim
  · exact P.elim
theorem s_str : FnS g (fun xs H Q => ∃ i, xs = [.int i] ∧ i.natAbs.log2 < 1920 ∧ Q (.str (toString i)) H) fStr := by
  intro R W al om σ ρ H Q vs xs S r P
  unfold fStr at P
  split at P
  · obtain ⟨v, rfl, h⟩ := r.one
    cases h.int
    split at P
    · rename_i hz
      exact ⟨_, rfl, hz, okSame S P .str⟩
    · exact P.elim
  · exact P.elim
theorem s_sum : FnS g (rSum g.K) fSum := by
  intro R W al om σ ρ H Q vs xs S r P
  unfold fSum at P
  split at P
  · obtain ⟨v, rfl, h⟩ := r.one
    obtain ⟨a, vs, rfl, h1, h2⟩ := h.lst
    rename_i ds
    cases e : asInts ds with
    | none => rw [e] at P; exact P.elim
    | some ns =>
      rw [e] at P
      rw [asInts_eq e] at h2
      rw [h2.ints] at h1
      exact ⟨a, ns, rfl, SqL.of h1, okSame S P .int⟩
  · exact P.elim
theorem s_max2 : FnS g (fun xs H Q => ∃ i j, xs = [.int i, .int j] ∧ Q (.int (if j > i then j else i)) H) fMax2 := by
  intro R W al om σ ρ H Q vs xs S r P
  unfold fMax2 at P
  split at P
  · obtain ⟨v, w, rfl, h, h2⟩ := r.two
    cases h.int; cases h2.int
    exact ⟨_, _, rfl, okSame S P .int⟩
  · exact P.elim
theorem s_min2 : FnS g (fun xs H Q => ∃ i j, xs = [.int i, .int j] ∧ Q (.int (if j < i then j else i)) H) fMin2 := by
  intro R W al om σ ρ H Q vs xs S r P
  unfold fMin2 at P
  split at P
  · obtain ⟨v, w, rfl, h, h2⟩ := r.two
    cases h.int; cases h2.int
    exact ⟨_, _, rfl, okSame S P .int⟩
  · exact P.elim
theorem tyX_of {t : String} (h : RepW g al L H v d) (e : tyName d = some t) : TyX g.K H v (.type t) := by
  cases d with
  | non => cases h.non; cases e; exact .base .non
  | bl b => cases h.bl; cases e; exact .base (.bl b)
  | int b => cases h.int; cases e; exact .base (.int b)
  | str b => cases h.str; cases e; exact .base (.str b)
  | lst b => obtain ⟨a, vs, rfl, h1, h2⟩ := h.lst; cases e; exact .base (.lst h1)
  | tup b =>
    obtain ⟨a, vs, rfl, h1, h2⟩ := h.tup
    cases e
    rcases h1 with (h1 | ⟨o, h1⟩) | ⟨o, its, n, h1, h2, _⟩
    · exact .base (.tup h1)
    · exact .fTuple h1
    · exact .kTuple h1 h2
  | _ => cases e
theorem dIsi_some {T : String} {z : D} (h : dIsi T d = some z) : ∃ t k, tyName d = some t ∧ L2.kitB t T = some k ∧ z = .bl k := by
  unfold dIsi at h
  split at h
  · rename_i t e
    cases e2 : L2.kitB t T with
    | none => rw [e2] at h; cases h
    | some k => rw [e2] at h; cases h; exact ⟨t, k, e, e2, rfl⟩
  · cases h
variable {a b e : Expr} {ua ub ue : UE} {es : List Expr} {us : UA} {p0 pos p1 : Pos} {x : Str} {f : List D → Option D} {r : List V → Hp → VK → Prop} {id : String}
theorem pu_isi (T : String) {n : Str} (hm : X.mg "isinstance" = none) (hn : X.mg n = none) (hv : bootBuiltins n = some (.type T)) (hK : X.K = g.K) (ha : PE X a (tE g W ua)) (hg : Gl X "isinstance" := by rfl) (hgn : Gl X n := by rfl) (hnn : n ≠ "__name__" := by decide) (hdn : (n == ("__debug__" : Str)) = false := by decide)
    (he : starEach (a :: [.Name n p1]) X.env = (false, eval a X.env) :: starEach [.Name n p1] X.env := by rfl) (he2 : starEach [.Name n p1] X.env = (false, eval (.Name n p1) X.env) :: starEach [] X.env := by rfl) (hpl : (backTo pos (starEach [.Name n p1] X.env)).any (·.1) = false := by rfl) :
    PE X (.Call (.Name "isinstance" p0) [a, .Name n p1] [] pos) (tE g W (uUn (dIsi T) ua)) :=
  peImp (pe_callB call_isi hg hm boot_isinstance (pa_cons ha (pa_cons (pe_bltn (v := .ty T) hgn hn hv rfl hnn hdn) pa_nil he2) he) (by decide) (by decide) he hpl) fun σ H Q ⟨R, ρ, om, al, S, P⟩ =>
    tR_bind S P fun d ρ1 om1 v H1 al1 s1 S1 r1 P1 => by
      cases e : dIsi T d with
      | none => rw [e] at P1; exact P1.elim
      | some z =>
        rw [e] at P1
        obtain ⟨t, k, e1, e2, rfl⟩ := dIsi_some e
        exact (⟨v, .ty T, .type t, .type T, k, rfl, .ty T, by rw [hK]; exact tyX_of (.v r1) e1, kit_ty e2, okSame S1 P1 .bl⟩ : rIsi X.K [v, .ty T] H1 Q)
theorem tCB_of (hf : FnS g r f) {σ : St} {H : Hp} {Q : VK} (h : tE g W (uFn f us) σ H Q) : tCB r (tA g W us) σ H Q := by
  obtain ⟨R, ρ, om, al, S, P⟩ := h
  exact tR_bind S P fun ds ρ1 om1 vs H1 al1 s1 S1 r1 P1 => hf R W al1 om1 σ ρ1 H1 Q vs ds S1 (RepVs.ws r1) P1
theorem pu_fn (hc : CallR X (.builtin id) r) (hf : FnS g r f) (hm : X.mg x = none) (hv : bootBuiltins x = some (.builtin id)) (ha : PA X (e :: es) (tA g W us)) (hg : Gl X x := by rfl) (hn : x ≠ "__name__" := by decide) (hdb : (x == ("__debug__" : Str)) = false := by decide)
    (he : starEach (e :: es) X.env = (false, eval e X.env) :: starEach es X.env := by rfl) (hpl : (backTo pos (starEach es X.env)).any (·.1) = false := by rfl) : PE X (.Call (.Name x p0) (e :: es) [] pos) (tE g W (uFn f us)) :=
  peImp (pe_callB hc hg hm hv ha hn hdb he hpl) fun σ H Q h => tCB_of hf h
theorem pu_fnT (hc : CallR X (.type id) r) (hf : FnS g r f) (hm : X.mg x = none) (hv : bootBuiltins x = some (.type id)) (ha : PA X (e :: es) (tA g W us)) (hg : Gl X x := by rfl) (hn : x ≠ "__name__" := by decide) (hdb : (x == ("__debug__" : Str)) = false := by decide)
    (he : starEach (e :: es) X.env = (false, eval e X.env) :: starEach es X.env := by rfl) (hpl : (backTo pos (starEach es X.env)).any (·.1) = false := by rfl) : PE X (.Call (.Name x p0) (e :: es) [] pos) (tE g W (uFn f us)) :=
  peImp (pe_callTy hc hg hm hv ha hn hdb he hpl) fun σ H Q h => tCB_of hf h
/-- list(x), an own list -/
theorem pu_list (hK : X.K = g.K) (hm : X.mg "list" = none) (ha : PA X [e] (tA g W us)) (hg : Gl X "list" := by rfl) (he : starEach [e] X.env = (false, eval e X.env) :: starEach [] X.env := by rfl) (hpl : (backTo pos (starEach [] X.env)).any (·.1) = false := by rfl) :
    PE X (.Call (.Name "list" p0) [e] [] pos) (tOw g W (uFnO fList us)) :=
  peImp (pe_callTy call_list_of hg hm (by decide +kernel) ha (by decide) (by decide) he hpl) fun σ H Q ⟨R, ρ, om, al, S, P⟩ =>
    tR_bindO S P fun ds ρ1 om1 vs H1 al1 s1 S1 r1 P1 => by
      have r2 := RepVs.ws r1
      unfold fList at P1
      split at P1
      · obtain ⟨v, rfl, h⟩ := r2.one
        obtain ⟨a, vs, rfl, h1, h2⟩ := h.lst
        exact ⟨a, vs, rfl, .inl (SqL.of h1), fun l hl => okOwn S1 P1 hl h2⟩
      · obtain ⟨v, rfl, h⟩ := r2.one
        obtain ⟨a, vs, rfl, h1, h2⟩ := h.frz
        exact ⟨a, vs, rfl, .inl (by rw [hK]; exact h1.sq), fun l hl => okOwn S1 P1 hl h2⟩
      · obtain ⟨v, rfl, h⟩ := r2.one
        obtain ⟨a, vs, rfl, h1, h2⟩ := h.tup
        exact ⟨a, vs, rfl, .inr (by rw [hK]; exact h1), fun l hl => okOwn S1 P1 hl h2⟩
      · exact P1.elim
/-! ### looking at an own list -/
theorem own_view (S : Rst g R al σ ρ om H) {i : Nat} {ds : List D} (e : ρ[i]? = some (some (.own ds))) : ∃ a, σ[i]? = some (some (.ref a)) ∧ RepW g al (LL R al om σ ρ) H (.ref a) (.lst ds) := by
  obtain ⟨a, vs, h1, h2, h3⟩ := S.own i ds e
  exact ⟨a, h1, .own h2 h3⟩
theorem pe_slot (i : Nat) {n : Str} (hN : X.N[i]? = some n := by rfl) (hv : Vis X.env.scope n := by first | exact Or.inl rfl | exact Or.inr (Or.inl rfl) | exact Or.inr (Or.inr rfl)) (hd : (n == ("__debug__" : Str)) = false := by decide)
    (hcd : (n == ("__classdict__" : Str)) = false := by decide) : PE X (.Name n p1) (tVar i) := pe_var hN hv hd hcd
theorem tOpV {i : Nat} {r : R2} {f : D → D → Option D} (hf : OpS g r f) {σ : St} {H : Hp} {Q : VK} (h : tE g W (uBinV f i ub) σ H Q) : tOp r (tVar i) (tE g W ub) σ H Q := by
  obtain ⟨R, ρ, om, al, S, P⟩ := h
  simp only [uBinV] at P
  split at P
  · rename_i xs e
    obtain ⟨a, h1, _⟩ := own_view S e
    refine ⟨_, h1, ?_⟩
    refine tR_bind S P fun y ρ1 om1 w H1 al1 s1 S1 r1 P1 => ?_
    split at P1
    · rename_i ds e1
      obtain ⟨a1, h3, h4⟩ := own_view S1 e1
      rw [h1] at h3
      cases h3
      exact hf R W al1 om1 σ ρ1 H1 Q _ w _ y S1 h4 (.v r1) P1
    · exact P1.elim
  · exact P.elim
theorem tOpW {i : Nat} {r : R2} {f : D → D → Option D} (hf : OpS g r f) {σ : St} {H : Hp} {Q : VK} (h : tE g W (uBinW f ua i) σ H Q) : tOp r (tE g W ua) (tVar i) σ H Q := by
  obtain ⟨R, ρ, om, al, S, P⟩ := h
  refine tR_bind S P fun y ρ1 om1 w H1 al1 s1 S1 r1 P1 => ?_
  split at P1
  · rename_i ds e1
    obtain ⟨a1, h3, h4⟩ := own_view S1 e1
    exact ⟨_, h3, hf R W al1 om1 σ ρ1 H1 Q w _ y _ S1 (.v r1) h4 P1⟩
  · exact P1.elim
theorem pu_binV (i : Nat) {op : Operator} {r : R2} {f : D → D → Option D} (ho : OpR X (binaryOp op) r) (hf : OpS g r f) (ha : PE X a (tVar i)) (hb : PE X b (tE g W ub)) : PE X (.BinOp a op b pos) (tE g W (uBinV f i ub)) := peImp (pe_op ho ha hb) fun σ H Q h => tOpV hf h
theorem pu_binW (i : Nat) {op : Operator} {r : R2} {f : D → D → Option D} (ho : OpR X (binaryOp op) r) (hf : OpS g r f) (ha : PE X a (tE g W ua)) (hb : PE X b (tVar i)) : PE X (.BinOp a op b pos) (tE g W (uBinW f ua i)) := peImp (pe_op ho ha hb) fun σ H Q h => tOpW hf h
theorem pu_cmpV (i : Nat) {op : CmpOp} {r : R2} {f : D → D → Option D} (ho : OpR X (compareOp op) r) (hf : OpS g r f) (ha : PE X a (tVar i)) (hb : PE X b (tE g W ub)) (hm : behindInMarks op b = false) : PE X (.Compare a [op] [b] pos) (tE g W (uBinV f i ub)) := peImp (pe_cmpR ho ha hb hm) fun σ H Q h => tOpV hf h
theorem pt_cmpV (i : Nat) {op : CmpOp} {r : R2} {f : D → D → Option D} (ho : OpR X (compareOp op) r) (hf : OpS g r f) (ha : PE X a (tVar i)) (hb : PE X b (tE g W ub)) (hm : behindInMarks op b = false) : PT X (.Compare a [op] [b] pos) (tT g W (uB (uBinV f i ub))) :=
  ptImp (pt_cmpR ho ha hb hm) fun σ H Q h => by
    obtain ⟨R, ρ, om, al, S, P⟩ := tB_of h
    exact tOpV hf ⟨R, ρ, om, al, S, P⟩
theorem pu_ixV (i : Nat) {r : R2} {f : D → D → Option D} (ho : IxR X r) (hf : OpS g r f) (ha : PE X a (tVar i)) (hb : PE X b (tE g W ub)) (hs : PlainIx b := by exact fun _ _ => rfl) : PE X (.Subscript a b pos) (tE g W (uBinV f i ub)) := peImp (pe_ix ho ha hb hs) fun σ H Q h => tOpV hf h
theorem tCBV {i : Nat} (hf : FnS g r f) {σ : St} {H : Hp} {Q : VK} (h : tE g W (uFnV f i) σ H Q) : tCB r (tCons (tVar i) tNil) σ H Q := by
  obtain ⟨R, ρ, om, al, S, P⟩ := h
  simp only [uFnV] at P
  split at P
  · rename_i xs e
    obtain ⟨a, h1, h2⟩ := own_view S e
    exact ⟨_, h1, hf R W al om σ ρ H Q _ _ S (.cons h2 .nil) P⟩
  · exact P.elim
theorem pu_fnV (i : Nat) (hc : CallR X (.builtin id) r) (hf : FnS g r f) (hm : X.mg x = none) (hv : bootBuiltins x = some (.builtin id)) (ha : PE X e (tVar i)) (hg : Gl X x := by rfl) (hn : x ≠ "__name__" := by decide) (hdb : (x == ("__debug__" : Str)) = false := by decide)
    (he : starEach [e] X.env = (false, eval e X.env) :: starEach [] X.env := by rfl) (hpl : (backTo pos (starEach [] X.env)).any (·.1) = false := by rfl) : PE X (.Call (.Name x p0) [e] [] pos) (tE g W (uFnV f i)) :=
  peImp (pe_callB hc hg hm hv (pa_cons ha pa_nil he) hn hdb he hpl) fun σ H Q h => tCBV hf h
/-! ### methods that change a list -/
def MuS (g : G) (r : V → List V → Hp → VK → Prop) (f : MF) : Prop := ∀ (al : List Addr) (L : Addr → Prop) (H : Hp) (a : Addr) (vs : List V) (xs : List D) (ws : List V) (ds : List D) (d : D) (ys : List D) (Q : VK), H a = some (.lst vs) → RepVs g al L H vs xs → RepVs g al L H ws ds → f xs ds = some (d, ys) →
  (∀ v vs', RepV g al L H v d → RepVs g al L H vs' ys → Q v (upd H a (.lst vs'))) → r (.ref a) ws H Q
theorem u_append : MuS g rAppend mAppend := by
  intro al L H a vs xs ws ds d ys Q ha rv rw_ e k
  unfold mAppend at e
  split at e
  · split at e
    · rename_i y hz
      cases e
      cases rw_ with
      | cons h r =>
        cases r
        exact ⟨a, vs, _, rfl, rfl, ha, by rw [rv.length]; exact big_lt hz, k _ _ .non (rv.append (.cons h .nil))⟩
    · cases e
  · cases e
theorem u_pop : MuS g rPop mPop := by
  intro al L H a vs xs ws ds d ys Q ha rv rw_ e k
  unfold mPop at e
  split at e
  · split at e
    · rename_i y hy
      cases e
      cases rw_
      rw [List.getLast?_eq_getElem?] at hy
      obtain ⟨v, h1, h2⟩ := rv.get hy
      exact ⟨a, vs, v, rfl, rfl, ha, by rw [rv.length]; exact h1, k _ _ h2 rv.dropLast⟩
    · cases e
  · cases e
theorem u_popAt : MuS g rPopAt mPopAt := by
  intro al L H a vs xs ws ds d ys Q ha rv rw_ e k
  unfold mPopAt at e
  split at e
  · rename_i i
    split at e
    · rename_i hi
      subst hi
      split at e
      · cases e
        cases rw_ with
        | cons h r =>
          cases r
          cases h
          cases rv with
          | cons h2 r2 =>
            exact ⟨a, _, 0, 0, _, rfl, rfl, ha, by decide, by decide, by simp [seqIndex?], rfl, k _ _ h2 r2⟩
      · cases e
    · cases e
  · cases e
theorem u_clear : MuS g rClear mClear := by
  intro al L H a vs xs ws ds d ys Q ha rv rw_ e k
  unfold mClear at e
  split at e
  · cases e
    cases rw_
    exact ⟨a, vs, rfl, rfl, ha, k _ _ .non .nil⟩
  · cases e
theorem u_extend : MuS g rExtend mExtend := by
  intro al L H a vs xs ws ds d ys Q ha rv rw_ e k
  unfold mExtend at e
  split at e
  · split at e
    · rename_i es hz
      cases e
      cases rw_ with
      | cons h r =>
        cases r
        cases h with
        | lst h1 h2 h3 => exact ⟨a, _, vs, _, rfl, rfl, ha, h1, by rw [rv.length, h3.length]; exact big_line hz, k _ _ .non (rv.append h3)⟩
    · cases e
  · cases e
variable {m : V → List V → Hp → VK → Prop} {mf : MF} {name : Str} {apos cpos : Pos} {o : Expr} {t : TA}
/-- o.m(..), o the name of a slot with an own list -/
theorem tBM_own {i : Nat} (hmf : MuS g m mf) {K : PySem.W.Frag} {σ : St} {H : Hp} {Q : VK} (h : tE g W (uMeO i mf us) σ H Q) : tBM K "list" m (tVar i) (tA g W us) σ H Q := by
  obtain ⟨R, ρ, om, al, S, P⟩ := h
  simp only [uMeO] at P
  split at P
  · rename_i xs0 e
    obtain ⟨a, vs, h1, h2, h3⟩ := S.own i _ e
    refine ⟨_, h1, .inl ⟨rfl, vs, SqL.of h2⟩, ?_⟩
    refine tR_bind S P fun ds ρ1 om1 ws H1 al1 s1 S1 r1 P1 => ?_
    split at P1
    · rename_i xs e1
      split at P1
      · rename_i d ys e2
        obtain ⟨b, vs1, q1, q2, q3⟩ := S1.own i _ e1
        rw [h1] at q1
        cases q1
        refine hmf al1 _ H1 a vs1 xs ws ds d ys Q q2 q3 r1 e2 fun v vs' rv rvs => ?_
        obtain ⟨S2, s2⟩ := S1.setOwn e1 h1 q2 rvs
        exact P1 v _ al1 s2 S2 (s2.rep S1 rv)
      · exact P1.elim
    · exact P1.elim
  · exact P.elim
theorem pu_meO (i : Nat) {nid : String} (slot : Slot "list" name nid) (hty : typeOf (.builtin nid) = pure (.type "method_descriptor")) (hm : MtM X nid m) (hmf : MuS g m mf) (ho : PE X o (tVar i)) (ha : PA X (e :: es) (tA g W us))
    (hbase : attributeBase o name X.env (eval o X.env) = eval o X.env := by rfl)
    (hfew : ((backTo cpos (starEach (e :: es) X.env)).all (fun x => !x.1) && (backToKw cpos (keywordEach [] X.env)).all (fun x => x.1.isSome)
      && decide ((e :: es).length + ([] : List Keyword).length + (if ([] : List Keyword).isEmpty then 0 else 1) < 30)) = true := by rfl)
    (hline : (apos.endLine == cpos.line) = true := by rfl) (hs : starEach (e :: es) X.env = (false, eval e X.env) :: starEach es X.env := by rfl) (hplain : (backTo cpos (starEach es X.env)).any (·.1) = false := by rfl) :
    PE X (.Call (.Attribute o name apos) (e :: es) [] cpos) (tE g W (uMeO i mf us)) := peImp (pe_bm PySem.F.plainAttrs_list slot hty hm ho ha hbase hfew hline hs hplain) fun σ H Q h => tBM_own hmf h
theorem pu_meO0 (i : Nat) {nid : String} (slot : Slot "list" name nid) (hty : typeOf (.builtin nid) = pure (.type "method_descriptor")) (hm : MtM X nid m) (hmf : MuS g m mf) (ho : PE X o (tVar i))
    (hbase : attributeBase o name X.env (eval o X.env) = eval o X.env := by rfl) (hline : (apos.endLine == cpos.line) = true := by rfl) :
    PE X (.Call (.Attribute o name apos) [] [] cpos) (tE g W (uMeO i mf uNil)) := peImp (pe_bm0 PySem.F.plainAttrs_list slot hty hm ho hbase hline) fun σ H Q h => by
  obtain ⟨v, h1, h2, R, ρ, om, al, S, P⟩ := tBM_own (K := X.K) hmf h
  exact ⟨v, h1, h2, P [] H al .refl S .nil⟩
/-! ### shared lists -/
theorem lv_set {k : Nat} {c c' : Cell} {a : Addr} (hk : om[k]? = some c) (hc : c ≠ .gone) (h : Lv al (om.set k c') a) : Lv al om a := by
  obtain ⟨i, ci, h1, h2, h3⟩ := h
  rcases getset h2 with ⟨rfl, _⟩ | ⟨n, q⟩
  · exact ⟨i, c, h1, hk, hc⟩
  · exact ⟨i, ci, h1, q, h3⟩
theorem Rst.setCell (S : Rst g R al σ ρ om H) {k : Nat} {c c' : Cell} {a : Addr} {o : HO} (hk : om[k]? = some c) (hc : c ≠ .gone) (hc' : c' ≠ .gone) (ha : al[k]? = some a)
    (hr : CellR g al (LL R al om σ ρ) (upd H a o) a c') : Rst g R al σ ρ (om.set k c') (upd H a o) ∧ Step al (Mt al om σ ρ) H al (Mt al (om.set k c') σ ρ) (upd H a o) := by
  have hL : Lv al om a := ⟨k, c, ha, hk, hc⟩
  have st : Step al (Mt al om σ ρ) H al (Mt al (om.set k c') σ ρ) (upd H a o) := by
    refine .grow (fun b u h n => ?_) fun b m => ?_
    · rw [upd_ne (fun z => n (by rw [z]; exact .inl hL))]
      exact h
    · exact .inl (m.imp (lv_set hk hc) id)
  have ll : ∀ b, LL R al (om.set k c') σ ρ b → LL R al om σ ρ b := fun b m => m.imp (fun m => m.imp (lv_set hk hc) id) id
  refine ⟨⟨⟨by rw [List.length_set]; exact S.o.len, fun i ci b h1 h2 => ?_, fun i j b ci cj h1 h2 h3 h4 n1 n2 => ?_, fun b h => ⟨fun z => (S.o.rsv b h).1 (lv_set hk hc z), ?_⟩⟩, S.sl, fun j d h => ?_, fun j dj h => ?_, S.odj, fun b h => ⟨fun z => (S.ocl b h).1 (lv_set hk hc z), (S.ocl b h).2⟩⟩, st⟩
  · rcases getset h1 with ⟨rfl, q⟩ | ⟨n, q⟩
    · subst q
      rw [ha] at h2
      cases h2
      exact hr.car (carL ll) (fun _ e _ => e) (fun _ _ _ e _ => e)
    · have ne : ci ≠ .gone → b ≠ a := fun nc z => n (S.o.inj i k a ci c (by rw [← z]; exact h2) ha q hk nc hc)
      exact (S.o.cel i ci b q h2).car (st.car (Mt.flat S) fun a h => (S.o.rsv a h).2) (fun xs e nc => by rw [upd_ne (ne nc)]; exact e) (fun C dx fs e nc => by rw [upd_ne (ne nc)]; exact e)
  · have f : ∀ {i : Nat} {ci : Cell}, (om.set k c')[i]? = some ci → ci ≠ .gone → ∃ ci', om[i]? = some ci' ∧ ci' ≠ .gone := fun {i ci} h nc => by
      rcases getset h with ⟨rfl, q⟩ | ⟨n, q⟩
      · exact ⟨c, hk, hc⟩
      · exact ⟨ci, q, nc⟩
    obtain ⟨c1, q1, m1⟩ := f h3 n1
    obtain ⟨c2, q2, m2⟩ := f h4 n2
    exact S.o.inj i j b c1 c2 h1 h2 q1 q2 m1 m2
  · by_cases z : b = a
    · subst z; rw [upd_same]; simp
    · rw [upd_ne z]; exact (S.o.rsv b h).2
  · obtain ⟨v, e, r⟩ := S.val j d h
    exact ⟨v, e, st.rep S r⟩
  · obtain ⟨b, vs, e, e2, r⟩ := S.own j dj h
    refine ⟨b, vs, e, ?_, st.reps S r⟩
    rw [upd_ne (fun z => (S.ocl b ⟨j, dj, h, e⟩).1 (by rw [z]; exact hL))]
    exact e2
theorem cell_lst (S : Rst g R al σ ρ om H) {k : Nat} {xs : List D} {a : Addr} (hk : om[k]? = some (.lst xs)) (ha : al[k]? = some a) : ∃ vs, H a = some (.lst vs) ∧ RepVs g al (LL R al om σ ρ) H vs xs := S.o.cel k _ a hk ha
theorem Rst.setL (S : Rst g R al σ ρ om H) {k : Nat} {xs ys : List D} {a : Addr} {vs : List V} (hk : om[k]? = some (.lst xs)) (ha : al[k]? = some a) (r : RepVs g al (LL R al om σ ρ) H vs ys) :
    Rst g R al σ ρ (om.set k (.lst ys)) (upd H a (.lst vs)) ∧ Step al (Mt al om σ ρ) H al (Mt al (om.set k (.lst ys)) σ ρ) (upd H a (.lst vs)) := by
  have hL : Lv al om a := ⟨k, _, ha, hk, fun z => nomatch z⟩
  have st : Step al (Mt al om σ ρ) H al (Mt al om σ ρ) (upd H a (.lst vs)) := .grow (fun b u h n => by
    rw [upd_ne (fun z => n (by rw [z]; exact .inl hL))]
    exact h) fun b m => .inl m
  exact S.setCell hk (fun z => nomatch z) (fun z => nomatch z) ha ⟨vs, upd_same, r.car (st.car (Mt.flat S) fun a h => (S.o.rsv a h).2)⟩
/-- o.m(..), o a shared list -/
theorem tBM_loc (hmf : MuS g m mf) {K : PySem.W.Frag} {σ : St} {H : Hp} {Q : VK} (h : tE g W (uMeL ua mf us) σ H Q) : tBM K "list" m (tE g W ua) (tA g W us) σ H Q := by
  obtain ⟨R, ρ, om, al, S, P⟩ := h
  refine tR_bind S P fun x ρ0 om0 v0 H0 al0 s0 S0 r0 P0 => ?_
  split at P0
  · rename_i k
    cases r0 with
    | loc ha =>
      rename_i a
      split at P0
      · rename_i xs0 e
        obtain ⟨vs, h2, h3⟩ := cell_lst S0 e ha
        refine ⟨.inl ⟨rfl, vs, SqL.of h2⟩, ?_⟩
        refine tR_bind S0 P0 fun ds ρ1 om1 ws H1 al1 s1 S1 r1 P1 => ?_
        split at P1
        · rename_i xs e1
          split at P1
          · rename_i d ys e2
            obtain ⟨vs1, q2, q3⟩ := cell_lst S1 e1 (s1.ext _ _ ha)
            refine hmf al1 _ H1 a vs1 xs ws ds d ys Q q2 q3 r1 e2 fun v vs' rv rvs => ?_
            obtain ⟨S2, s2⟩ := S1.setL e1 (s1.ext _ _ ha) rvs
            exact P1 v _ al1 s2 S2 (s2.rep S1 rv)
          · exact P1.elim
        · exact P1.elim
      · exact P0.elim
  · exact P0.elim
theorem pu_meL {nid : String} (slot : Slot "list" name nid) (hty : typeOf (.builtin nid) = pure (.type "method_descriptor")) (hm : MtM X nid m) (hmf : MuS g m mf) (ho : PE X o (tE g W ua)) (ha : PA X (e :: es) (tA g W us))
    (hbase : attributeBase o name X.env (eval o X.env) = eval o X.env := by rfl)
    (hfew : ((backTo cpos (starEach (e :: es) X.env)).all (fun x => !x.1) && (backToKw cpos (keywordEach [] X.env)).all (fun x => x.1.isSome)
      && decide ((e :: es).length + ([] : List Keyword).length + (if ([] : List Keyword).isEmpty then 0 else 1) < 30)) = true := by rfl)
    (hline : (apos.endLine == cpos.line) = true := by rfl) (hs : starEach (e :: es) X.env = (false, eval e X.env) :: starEach es X.env := by rfl) (hplain : (backTo cpos (starEach es X.env)).any (·.1) = false := by rfl) :
    PE X (.Call (.Attribute o name apos) (e :: es) [] cpos) (tE g W (uMeL ua mf us)) := peImp (pe_bm PySem.F.plainAttrs_list slot hty hm ho ha hbase hfew hline hs hplain) fun σ H Q h => tBM_loc hmf h
theorem pu_meL0 {nid : String} (slot : Slot "list" name nid) (hty : typeOf (.builtin nid) = pure (.type "method_descriptor")) (hm : MtM X nid m) (hmf : MuS g m mf) (ho : PE X o (tE g W ua))
    (hbase : attributeBase o name X.env (eval o X.env) = eval o X.env := by rfl) (hline : (apos.endLine == cpos.line) = true := by rfl) :
    PE X (.Call (.Attribute o name apos) [] [] cpos) (tE g W (uMeL ua mf uNil)) := peImp (pe_bm0 PySem.F.plainAttrs_list slot hty hm ho hbase hline) fun σ H Q h => by
  obtain ⟨R, ρ, om, al, S, P⟩ := h
  refine tR_bind S P fun x ρ0 om0 v0 H0 al0 s0 S0 r0 P0 => ?_
  split at P0
  · rename_i k
    cases r0 with
    | loc ha =>
      rename_i a
      split at P0
      · rename_i xs0 e
        obtain ⟨vs, h2, h3⟩ := cell_lst S0 e ha
        refine ⟨.inl ⟨rfl, vs, SqL.of h2⟩, ?_⟩
        simp only [uNil, Res.bind] at P0
        split at P0
        · rename_i xs e1
          split at P0
          · rename_i d ys e2
            obtain ⟨vs1, q2, q3⟩ := cell_lst S0 e1 ha
            refine hmf al0 _ H0 a vs1 xs [] [] d ys Q q2 q3 .nil e2 fun v vs' rv rvs => ?_
            obtain ⟨S2, s2⟩ := S0.setL e1 ha rvs
            exact P0 v _ al0 s2 S2 (s2.rep S0 rv)
          · exact P0.elim
        · exact P0.elim
      · exact P0.elim
  · exact P0.elim
/-- looking at a shared list: an item, its length, == .. -/
@[simp] def uSee (u : UE) (f : D → Option D) : UE := fun ρ ω => (u ρ ω).bind fun x ρ ω => match x with
  | .loc k => (match ω[k]? with
    | some (.lst xs) => liftO (f (.lst xs)) ρ ω
    | _ => .no)
  | _ => .no
@[simp] def uBinL (f : D → D → Option D) (ua ub : UE) : UE := fun ρ ω => (ua ρ ω).bind fun x ρ ω => (ub ρ ω).bind fun y ρ ω => match x with
  | .loc k => (match ω[k]? with
    | some (.lst xs) => liftO (f (.lst xs) y) ρ ω
    | _ => .no)
  | _ => .no
theorem tOpL {r : R2} {f : D → D → Option D} (hf : OpS g r f) {σ : St} {H : Hp} {Q : VK} (h : tE g W (uBinL f ua ub) σ H Q) : tOp r (tE g W ua) (tE g W ub) σ H Q := by
  obtain ⟨R, ρ, om, al, S, P⟩ := h
  refine tR_bind S P fun x ρ0 om0 v0 H0 al0 s0 S0 r0 P0 => ?_
  refine tR_bind S0 P0 fun y ρ1 om1 w H1 al1 s1 S1 r1 P1 => ?_
  split at P1
  · rename_i k
    cases (s1.rep S0 r0) with
    | loc ha =>
      split at P1
      · rename_i xs e
        obtain ⟨vs, h2, h3⟩ := cell_lst S1 e ha
        exact hf R W al1 om1 σ ρ1 H1 Q _ w _ y S1 (.own h2 h3) (.v r1) P1
      · exact P1.elim
  · exact P1.elim
theorem pu_ixL {r : R2} {f : D → D → Option D} (ho : IxR X r) (hf : OpS g r f) (ha : PE X a (tE g W ua)) (hb : PE X b (tE g W ub)) (hs : PlainIx b := by exact fun _ _ => rfl) : PE X (.Subscript a b pos) (tE g W (uBinL f ua ub)) := peImp (pe_ix ho ha hb hs) fun σ H Q h => tOpL hf h
theorem pu_cmpL {op : CmpOp} {r : R2} {f : D → D → Option D} (ho : OpR X (compareOp op) r) (hf : OpS g r f) (ha : PE X a (tE g W ua)) (hb : PE X b (tE g W ub)) (hm : behindInMarks op b = false) : PE X (.Compare a [op] [b] pos) (tE g W (uBinL f ua ub)) := peImp (pe_cmpR ho ha hb hm) fun σ H Q h => tOpL hf h
theorem pt_cmpL {op : CmpOp} {r : R2} {f : D → D → Option D} (ho : OpR X (compareOp op) r) (hf : OpS g r f) (ha : PE X a (tE g W ua)) (hb : PE X b (tE g W ub)) (hm : behindInMarks op b = false) : PT X (.Compare a [op] [b] pos) (tT g W (uB (uBinL f ua ub))) :=
  ptImp (pt_cmpR ho ha hb hm) fun σ H Q h => by
    obtain ⟨R, ρ, om, al, S, P⟩ := tB_of h
    exact tOpL hf ⟨R, ρ, om, al, S, P⟩
/-! ### storing an item: o[i] = e, o a shared list -/
def setN (xs : List D) (i : Int) (d : D) : Option (List D) := if 0 ≤ i ∧ i.toNat < xs.length then some (xs.set i.toNat d) else none
@[simp] def sSetL (uo ui ue : UE) : US := fun ρ ω => RS.of (ue ρ ω) fun d ρ ω => RS.of (uo ρ ω) fun o ρ ω => RS.of (ui ρ ω) fun i ρ ω => match o, i with
  | .loc k, .int i => (match ω[k]? with
    | some (.lst xs) => (match setN xs i d with
      | some ys => .nx ρ (ω.set k (.lst ys))
      | none => .no)
    | _ => .no)
  | _, _ => .no
theorem ps_setL {i : Expr} {ui : UE} {tpos : Pos} (he : PE X e (tE g W ue)) (ho : PE X o (tE g W ua)) (hi : PE X i (tE g W ui)) (hsub : ∀ v, assign (.Subscript o i tpos) X.env v = (do
      let ov ← holding [v] (eval o X.env)
      let iv ← holding [v, ov] (eval i X.env)
      standAt tpos
      holding [v, ov, iv] (setItem ov iv v)
      release [v, ov, iv] []) := by intro _; rfl) (hs : swapsWithSole [.Subscript o i tpos] e pos.line X.env = pure false := by rfl) (hw : swappedStores [.Subscript o i tpos] e X.env = pure none := by rfl)
    (h1 : (assignEach [.Subscript o i tpos] X.env).map (·.2) = [assign (.Subscript o i tpos) X.env] := by rfl) : PS X (.Assign [.Subscript o i tpos] e pos) (tS g W (sSetL ua ui ue)) := psImp (ps_asg he (pg_sub ho hi set_list hsub) hs hw h1) fun De σ H ⟨R, ρ, om, al, S, P⟩ => by
  refine tR_bindS S P fun d ρ1 om1 v H1 al1 s1 S1 r1 P1 => ?_
  refine tR_bindS S1 P1 fun x ρ2 om2 w H2 al2 s2 S2 r2 P2 => ?_
  refine tR_bindS S2 P2 fun y ρ3 om3 z H3 al3 s3 S3 r3 P3 => ?_
  split at P3
  · rename_i k j
    cases r3
    cases (s3.rep S2 r2) with
    | loc ha =>
      rename_i a
      split at P3
      · rename_i xs e3
        obtain ⟨vs, q1, q2⟩ := cell_lst S3 e3 ha
        split at P3
        · rename_i ys e4
          unfold setN at e4
          split at e4
          · rename_i hj
            cases e4
            refine ⟨a, vs, j, j.toNat, rfl, rfl, q1, ?_, ?_⟩
            · unfold ixN
              rw [if_pos hj.1, if_pos (by rw [q2.length]; omega)]
            · obtain ⟨S4, s4⟩ := S3.setL e3 ha (q2.set (s3.rep S2 (s2.rep S1 r1)) j.toNat)
              exact P3 σ _ al3 s4 S4
          · cases e4
        · exact P3.elim
      · exact P3.elim
  · exact P3.elim
end
end Dv

namespace Dv
open PySem PySem.Spec PyProof.Rows L2

/-! ### ranges -/
def rngN (lo : Int) (n : Nat) : List D := (List.range n).map fun (k : Nat) => .int (lo + (k : Int))
def fRng1 : List D → Option (List D)
  | [.int j] => if j.natAbs ≤ 1000000 then some (rngN 0 j.toNat) else none
  | _ => none
def fRng2 : List D → Option (List D)
  | [.int i, .int j] => if i.natAbs ≤ 1000000 ∧ j.natAbs ≤ 1000000 then some (rngN i (j - i).toNat) else none
  | _ => none
theorem fRng1_eq {j : Int} (h : j.natAbs ≤ 1000000) : fRng1 [.int j] = some (rngN 0 j.toNat) := if_pos h
/-- range(i, -1, -1) -/
def fRngD : List D → Option (List D)
  | [.int i, .int j, .int c] => if i.natAbs ≤ 1000000 ∧ j = -1 ∧ c = -1 then some ((List.range (i + 1).toNat).map fun (k : Nat) => .int (i - (k : Int))) else none
  | _ => none
@[simp] def iFn (f : List D → Option (List D)) (u : UA) : UI := fun ρ ω => (u ρ ω).bind fun ds ρ ω => liftO (f ds) ρ ω
/-- the signs of a text -/
def fSigns : D → Option (List D)
  | .str z => some (z.cps.toList.map fun c => .str ⟨#[c]⟩)
  | _ => none
@[simp] def iStrU (u : UE) : UI := fun ρ ω => (u ρ ω).bind fun d ρ ω => liftO (fSigns d) ρ ω
/-- enumerate of a list -/
def fEnum : List D → Option (List D)
  | [.lst ds] => some ((List.range ds.length).map fun (k : Nat) => .tup [.int (k : Int), ds.getD k .non])
  | _ => none
/-- an own list that is shared from now on -/
@[simp] def uNew (u : UW) : UE := fun ρ ω => (u ρ ω).bind fun ds ρ ω => .ok (.loc ω.length) ρ (ω ++ [.lst ds])
section
variable {g : G} {R : Addr → Prop} {al : List Addr} {om : Om} {σ : St} {ρ : Rho} {H H' : Hp} {W : WX} {X : Cx} {L : Addr → Prop} {v : V} {d : D} {p : Addr}
theorem getapp {α : Type} {l : List α} {x y : α} {i : Nat} (h : (l ++ [x])[i]? = some y) : l[i]? = some y ∨ (i = l.length ∧ y = x) := by
  by_cases hi : i < l.length
  · rw [List.getElem?_append_left hi] at h
    exact .inl h
  · rw [List.getElem?_append_right (by omega)] at h
    by_cases e : i - l.length = 0
    · rw [e] at h
      cases h
      exact .inr ⟨by omega, rfl⟩
    · rw [List.getElem?_eq_none (by simp; omega)] at h
      cases h
theorem Rst.newCell (S : Rst g (Rp R p) al σ ρ om H) (hR : ¬ R p) {c : Cell} (hn : H p ≠ none) (hr : CellR g al (LL (Rp R p) al om σ ρ) H p c) :
    Rst g R (al ++ [p]) σ ρ (om ++ [c]) H ∧ Step al (fun a => Mt al om σ ρ a ∨ a = p) H (al ++ [p]) (Mt (al ++ [p]) (om ++ [c]) σ ρ) H := by
  have len := S.o.len
  have ext : ∀ (i : Nat) (a : Addr), al[i]? = some a → (al ++ [p])[i]? = some a := fun i a h => by
    obtain ⟨hl, _⟩ := List.getElem?_eq_some_iff.mp h
    rw [List.getElem?_append_left hl]
    exact h
  have lv : ∀ a, Lv (al ++ [p]) (om ++ [c]) a → Lv al om a ∨ a = p := fun a ⟨i, ci, h1, h2, h3⟩ => by
    rcases getapp h1 with q | ⟨q, rfl⟩
    · obtain ⟨hl, _⟩ := List.getElem?_eq_some_iff.mp q
      rw [List.getElem?_append_left (by omega)] at h2
      exact .inl ⟨i, ci, q, h2, h3⟩
    · exact .inr rfl
  have np : ¬ Lv al om p := (S.o.rsv p (.inr rfl)).1
  have ll : ∀ a, LL R (al ++ [p]) (om ++ [c]) σ ρ a → LL (Rp R p) al om σ ρ a := fun a m => by
    rcases m with (m | m) | m
    · rcases lv a m with q | q
      · exact .inl (.inl q)
      · exact .inr (.inr q)
    · exact .inl (.inr m)
    · exact .inr (.inl m)
  have cr : Car g al (LL (Rp R p) al om σ ρ) H (al ++ [p]) (LL R (al ++ [p]) (om ++ [c]) σ ρ) H := ⟨fun _ _ h => h, fun a vs e n => ⟨e, fun m => n (ll a m)⟩, fun _ _ h => h, fun a C dx fs e n => ⟨e, fun m => n (ll a m)⟩, ext⟩
  refine ⟨⟨⟨by simp [len], fun i ci a h1 h2 => ?_, fun i j a ci cj h1 h2 h3 h4 n1 n2 => ?_, fun a h => ⟨fun z => ?_, (S.o.rsv a (.inl h)).2⟩⟩, S.sl, fun j d h => ?_, fun j dj h => ?_, S.odj, fun a h => ⟨fun z => ?_, fun z => (S.ocl a h).2 (.inl z)⟩⟩, ext, fun _ _ h _ => h, fun a m => .inl ?_⟩
  · rcases getapp h1 with q | ⟨q, rfl⟩
    · obtain ⟨hl, _⟩ := List.getElem?_eq_some_iff.mp q
      rw [List.getElem?_append_left (by omega)] at h2
      exact (S.o.cel i ci a q h2).car cr (fun _ e _ => e) (fun _ _ _ e _ => e)
    · rcases getapp h2 with q2 | ⟨_, rfl⟩
      · obtain ⟨hl, _⟩ := List.getElem?_eq_some_iff.mp q2
        omega
      · exact hr.car cr (fun _ e _ => e) (fun _ _ _ e _ => e)
  · rcases getapp h3 with q3 | ⟨q3, rfl⟩
    · obtain ⟨l3, _⟩ := List.getElem?_eq_some_iff.mp q3
      rw [List.getElem?_append_left (by omega)] at h1
      rcases getapp h4 with q4 | ⟨q4, rfl⟩
      · obtain ⟨l4, _⟩ := List.getElem?_eq_some_iff.mp q4
        rw [List.getElem?_append_left (by omega)] at h2
        exact S.o.inj i j a ci cj h1 h2 q3 q4 n1 n2
      · rcases getapp h2 with q2 | ⟨_, rfl⟩
        · obtain ⟨l2, _⟩ := List.getElem?_eq_some_iff.mp q2
          omega
        · exact absurd ⟨i, ci, h1, q3, n1⟩ np
    · rcases getapp h1 with q1 | ⟨_, rfl⟩
      · obtain ⟨l1, _⟩ := List.getElem?_eq_some_iff.mp q1
        omega
      · rcases getapp h4 with q4 | ⟨q4, _⟩
        · obtain ⟨l4, _⟩ := List.getElem?_eq_some_iff.mp q4
          rw [List.getElem?_append_left (by omega)] at h2
          exact absurd ⟨j, cj, h2, q4, n2⟩ np
        · omega
  · rcases lv a z with q | rfl
    · exact (S.o.rsv a (.inl h)).1 q
    · exact hR h
  · obtain ⟨v, e, r⟩ := S.val j d h
    exact ⟨v, e, r.car cr⟩
  · obtain ⟨a, vs, e, e2, r⟩ := S.own j dj h
    exact ⟨a, vs, e, e2, r.car cr⟩
  · rcases lv a z with q | rfl
    · exact (S.ocl a h).1 q
    · exact (S.ocl a h).2 (.inr rfl)
  · rcases m with m | m
    · exact (lv a m).imp .inl id
    · exact .inl (.inr m)
variable {e a b c : Expr} {ue ua ub : UE} {uw : UW} {us : UA} {es : List Expr} {tg : Expr} {p0 pos : Pos}
theorem pu_new (h : PE X e (tOw g W uw)) : PE X e (tE g W (uNew uw)) := peImp h fun σ H Q ⟨R, ρ, om, al, S, P⟩ => by
  refine ⟨R, ρ, om, al, S, ?_⟩
  simp only [uNew] at P
  cases e : uw ρ om with
  | ok ds ρ' om' =>
    rw [e] at P
    intro p vs H' al' s S' n hp r
    obtain ⟨S2, s2⟩ := S'.newCell n (c := .lst ds) (by rw [hp]; simp) ⟨vs, hp, r⟩
    exact P _ H' _ (s.trans s2) S2 (.loc (by rw [← S'.o.len]; simp))
  | xc x ρ' om' => rw [e] at P; exact P
  | no => rw [e] at P; exact P
/-! ### ranges, texts, enumerate -/
theorem tIA_of {f : List D → Option (List D)} {σ : St} {H : Hp} {Q : It → Hp → Prop} {Q' : List V → Hp → Prop} (h : tI g W (iFn f us) σ H Q)
    (k : ∀ R ρ om al H vs xs ds, Rst g R al σ ρ om H → RepVs g al (LL R al om σ ρ) H vs xs → f xs = some ds → (∀ J H', Step al (Mt al om σ ρ) H al (Mt al om σ ρ) H' → Rst g R al σ ρ om H' → ItS g J ds R al (Mt al om σ ρ) H' → Q J H') → Q' vs H) : tA g W us σ H Q' := by
  obtain ⟨R, ρ, om, al, S, P⟩ := h
  refine ⟨R, ρ, om, al, S, ?_⟩
  simp only [iFn] at P
  cases e : us ρ om with
  | ok d ρ' om' =>
    rw [e] at P
    intro v H' al' s S' r
    cases ef : f d with
    | none =>
      simp only [Res.bind, ef, liftO] at P
      exact P.elim
    | some ds =>
      simp only [Res.bind, ef, liftO] at P
      exact k R ρ' om' al' H' v d ds S' r ef fun J H2 s2 S2 it => P J H2 al' (s.trans s2) S2 it
  | xc x ρ' om' => rw [e] at P; exact P
  | no => rw [e] at P; exact P
theorem it_range {lo : Int} {n : Nat} {M : Addr → Prop} : ItS g (Itr lo n) (rngN lo n) R al M H := by
  intro R2 σ2 ρ2 om2 al2 H2 i hR2 s S2
  have hl : (rngN lo n).length = n := by simp [rngN]
  refine ⟨fun hi => ⟨by rw [← hl]; exact hi, fun x H3 ⟨e3, hx⟩ => ?_⟩, fun hi => by rw [← hl]; exact hi⟩
  subst e3
  subst hx
  exact ⟨S2, .refl, .int (lo + i), by rw [hl] at hi; simp [rngN, hi], .int⟩
theorem pi_rng1 (hm : X.mg "range" = none) (ha : PA X [a] (tA g W us)) (hg : Gl X "range" := by rfl) (hs : starEach [a] X.env = [(false, eval a X.env)] := by rfl) : PI X tg (.Call (.Name "range" p0) [a] [] pos) (tI g W (iFn fRng1 us)) :=
  ⟨fun pins s σ H Q I h => (pi_range1 hg hm ha hs).run pins s σ H Q I (tIA_of h fun R ρ om al H vs xs ds S r hd k => by
    unfold fRng1 at hd
    split at hd
    · split at hd
      · rename_i j hj
        cases hd
        cases r with
        | cons r r2 =>
          cases r2
          cases r
          exact ⟨j, rfl, by omega, by omega, k _ H .refl S it_range⟩
      · cases hd
    · cases hd)⟩
theorem pi_rng2 (hm : X.mg "range" = none) (ha : PA X [a, b] (tA g W us)) (hg : Gl X "range" := by rfl) (hs : starEach [a, b] X.env = [(false, eval a X.env), (false, eval b X.env)] := by rfl) (hs2 : starEach [b] X.env = [(false, eval b X.env)] := by rfl) :
    PI X tg (.Call (.Name "range" p0) [a, b] [] pos) (tI g W (iFn fRng2 us)) :=
  ⟨fun pins s σ H Q I h => (pi_range2 hg hm ha hs hs2).run pins s σ H Q I (tIA_of h fun R ρ om al H vs xs ds S r hd k => by
    unfold fRng2 at hd
    split at hd
    · split at hd
      · rename_i i j hj
        cases hd
        cases r with
        | cons r r2 =>
          cases r2 with
          | cons r2 r3 =>
            cases r3
            cases r
            cases r2
            exact ⟨i, j, rfl, ⟨by omega, by omega, by omega, by omega⟩, k _ H .refl S it_range⟩
      · cases hd
    · cases hd)⟩
theorem it_rangeD {i : Int} {n : Nat} {M : Addr → Prop} (hn : (i + 1).toNat = n) : ItS g (Itc i (-1) n) ((List.range n).map fun (k : Nat) => D.int (i - (k : Int))) R al M H := by
  intro R2 σ2 ρ2 om2 al2 H2 k hR2 s S2
  refine ⟨fun hi => ⟨by show k < n; simpa using hi, fun x H3 ⟨e3, hx⟩ => ?_⟩, fun hi => by show n ≤ k; simpa using hi⟩
  subst e3
  subst hx
  have e : i + (k : Int) * (-1) = i - k := by omega
  rw [e]
  exact ⟨S2, .refl, .int (i - k), by
    have hi' : k < n := by simpa using hi
    simp [hi'], .int⟩
theorem pi_rngD (hm : X.mg "range" = none) (ha : PA X [a, b, c] (tA g W us)) (hg : Gl X "range" := by rfl) (hs : starEach [a, b, c] X.env = (false, eval a X.env) :: starEach [b, c] X.env := by rfl) (hpl : (backTo pos (starEach [b, c] X.env)).any (·.1) = false := by rfl) :
    PI X tg (.Call (.Name "range" p0) [a, b, c] [] pos) (tI g W (iFn fRngD us)) :=
  ⟨fun pins s σ H Q I h => (pi_range3 hg hm ha hs hpl).run pins s σ H Q I (tIA_of h fun R ρ om al H vs xs ds S r hd k => by
    unfold fRngD at hd
    split at hd
    · split at hd
      · rename_i i j c hj
        obtain ⟨h1, rfl, rfl⟩ := hj
        cases hd
        cases r with
        | cons r r2 =>
          cases r2 with
          | cons r2 r3 =>
            cases r3 with
            | cons r3 r4 =>
              cases r4
              cases r
              cases r2
              cases r3
              have e : (i - -1).toNat = (i + 1).toNat := by congr 1
              exact ⟨i, -1, -1, (i - -1).toNat, rfl, RgC.neg (by omega) (by omega) (by decide) (by decide), by
                have q := it_rangeD (g := g) (R := R) (al := al) (H := H) (M := Mt al om σ ρ) (i := i) e.symm
                rw [e] at q
                exact k _ H .refl S q⟩
      · cases hd
    · cases hd)⟩
theorem it_str {z : Str} {M : Addr → Prop} : ItS g (Its z) (z.cps.toList.map fun c => D.str ⟨#[c]⟩) R al M H := by
  intro R2 σ2 ρ2 om2 al2 H2 i hR2 s S2
  refine ⟨fun hi => ⟨by show i < z.cps.size; simpa using hi, fun x H3 ⟨e3, c, hc, hx⟩ => ?_⟩, fun hi => by show z.cps.size ≤ i; simpa using hi⟩
  subst e3
  subst hx
  refine ⟨S2, .refl, .str ⟨#[c]⟩, ?_, .str⟩
  rw [List.getElem?_map, Array.getElem?_toList, hc]
  rfl
theorem pi_strU (he : PE X e (tE g W ue)) : PI X tg e (tI g W (iStrU ue)) := by
  refine ⟨fun pins s σ H Q I h => (pi_str he).run pins s σ H Q I (tI_of h fun R ρ om al H v d ds S r hd k => ?_)⟩
  cases r with
  | str => cases hd; exact ⟨_, rfl, k _ H .refl S it_str⟩
  | _ => cases hd
theorem it_enum {K : PySem.W.Frag} {a : Addr} {ds : List D} (hK : K = g.K) (S : Rst g R al σ ρ om H) (r : RepV g al (LL R al om σ ρ) H (.ref a) (.lst ds)) :
    ItS g (Ite K a) ((List.range ds.length).map fun (k : Nat) => D.tup [.int (k : Int), ds.getD k .non]) R al (Mt al om σ ρ) H := by
  intro R2 σ2 ρ2 om2 al2 H2 i hR2 s S2
  cases (s.rep2 S hR2 r : RepV g al2 (LL R2 al2 om2 σ2 ρ2) H2 _ _) with
  | @lst _ vs _ h n r2 =>
    refine ⟨fun hi => ?_, fun hi => ⟨vs, SqL.of h, by rw [r2.length]; simpa using hi⟩⟩
    have hi' : i < ds.length := by simpa using hi
    obtain ⟨v0, h0, h1⟩ := r2.get (i := i) (d := ds[i]) (by simp [hi'])
    refine ⟨⟨vs, v0, SqL.of h, h0⟩, fun x H3 ⟨T, y, e1, e2, e3, e4⟩ => ?_⟩
    have e5 := e4 vs (SqL.of h)
    rw [h0] at e5
    cases e5
    subst e1
    subst e3
    obtain ⟨S3, s3⟩ := S2.grow (upd_keep (o := .tup [.int (i : Nat), v0]) e2)
    refine ⟨S3, s3, .tup [.int (i : Int), ds[i]], by simp [hi'], .tup (.inl (.inl upd_same)) (.cons .int (.cons (s3.rep S2 h1) .nil))⟩
theorem pi_enumU {elts : List Expr} {kk : Nat} {tpos : Pos} (hK : X.K = g.K) (hm : X.mg "enumerate" = none) (ha : PA X [e] (tA g W us)) (hg : Gl X "enumerate" := by rfl) (hs : starEach [e] X.env = [(false, eval e X.env)] := by rfl) :
    PI X (.Tuple elts kk tpos) (.Call (.Name "enumerate" p0) [e] [] pos) (tI g W (iFn fEnum us)) :=
  ⟨fun pins s σ H Q I h => (pi_enum hg hm ha hs).run pins s σ H Q I (tIA_of h fun R ρ om al H vs xs ds S r hd k => by
    unfold fEnum at hd
    split at hd
    · cases hd
      cases r with
      | cons r r2 =>
        cases r2
        cases r with
        | lst h n r2 => exact ⟨_, _, rfl, SqL.of h, k _ H .refl S (it_enum hK S (.lst h n r2))⟩
    · cases hd)⟩
/-! ### tuples as targets -/
theorem gset {Q : St → Hp → Prop} {i : Nat} (S : Rst g R al σ ρ om H) (r : RepV g al (LL R al om σ ρ) H v d) (k : ∀ σ', σ' = σ.set i (some v) → Step al (Mt al om σ ρ) H al (Mt al om σ' (ρ.set i (some (.val d)))) H → Rst g R al σ' (ρ.set i (some (.val d))) om H → Q σ' H) : Q (σ.set i (some v)) H := by
  by_cases hl : i < σ.length
  · obtain ⟨S', s'⟩ := S.setVal hl r
    exact k _ rfl s' S'
  · have e : ρ.set i (some (.val d)) = ρ := List.set_eq_of_length_le (by rw [← S.sl.len]; omega)
    have e2 : σ.set i (some v) = σ := List.set_eq_of_length_le (by omega)
    rw [e, e2] at k
    rw [e2]
    exact k σ rfl .refl S
variable {x y z u : Str} {q1 q2 q3 q4 : Pos} {kk : Nat}
theorem pg_tup2 (i j : Nat) (hK : X.K = g.K) (hc : X.calm = true) (h1 : PG X a (gName i)) (h2 : PG X b (gName j)) (hp : (assignEach [a, b] X.env).map (·.2) = assign a X.env :: (assignEach [b] X.env).map (·.2) := by rfl) (hp2 : (assignEach [b] X.env).map (·.2) = assign b X.env :: (assignEach [] X.env).map (·.2) := by rfl)
    (hn : (assignEach [a, b] X.env).length = 2 := by rfl) (hst : (assignEach [a, b] X.env).findIdx? (·.1) = none := by rfl) : PG X (.Tuple [a, b] kk pos) (tG g (gT2 i j)) :=
  ⟨fun pins s σ H v w Q I r ⟨R, ρ, om, al, d, ρ', S, rv, e, k⟩ => (pg_tup hc (pgs_cons h1 (pgs_cons h2 pgs_nil hp2) hp) hn hst).run pins s σ H v w Q I r (by
    simp only [gT2] at e
    split at e
    · cases e
      cases rv with
      | @tup ta vs _ ht rs =>
        cases rs with
        | cons ra rs => cases rs with
          | cons rb rs =>
            cases rs
            refine ⟨ta, _, rfl, by rw [hK]; exact ht, rfl, _, _, rfl, ?_⟩
            refine gset (i := i) (Q := fun σ' H' => (gCons (gName j) gNil) _ σ' H' Q) S ra fun σ1 e1 s1 S1 => ⟨_, _, rfl, ?_⟩
            refine gset (i := j) (Q := fun σ' H' => gNil _ σ' H' Q) S1 (s1.rep S rb) fun σ2 e2 s2 S2 => ⟨rfl, ?_⟩
            exact k σ2 (s1.trans s2) S2
    · cases e)⟩
theorem pg_tup3 (i j l : Nat) (hK : X.K = g.K) (hc : X.calm = true) (h1 : PG X a (gName i)) (h2 : PG X b (gName j)) (h3 : PG X c (gName l)) (hp : (assignEach [a, b, c] X.env).map (·.2) = assign a X.env :: (assignEach [b, c] X.env).map (·.2) := by rfl) (hp2 : (assignEach [b, c] X.env).map (·.2) = assign b X.env :: (assignEach [c] X.env).map (·.2) := by rfl) (hp3 : (assignEach [c] X.env).map (·.2) = assign c X.env :: (assignEach [] X.env).map (·.2) := by rfl)
    (hn : (assignEach [a, b, c] X.env).length = 3 := by rfl) (hst : (assignEach [a, b, c] X.env).findIdx? (·.1) = none := by rfl) : PG X (.Tuple [a, b, c] kk pos) (tG g (gT3 i j l)) :=
  ⟨fun pins s σ H v w Q I r ⟨R, ρ, om, al, d, ρ', S, rv, e, k⟩ => (pg_tup hc (pgs_cons h1 (pgs_cons h2 (pgs_cons h3 pgs_nil hp3) hp2) hp) hn hst).run pins s σ H v w Q I r (by
    simp only [gT3] at e
    split at e
    · cases e
      cases rv with
      | @tup ta vs _ ht rs =>
        cases rs with
        | cons ra rs => cases rs with
          | cons rb rs => cases rs with
            | cons rc rs =>
              cases rs
              refine ⟨ta, _, rfl, by rw [hK]; exact ht, rfl, _, _, rfl, ?_⟩
              refine gset (i := i) (Q := fun σ' H' => (gCons (gName j) (gCons (gName l) gNil)) _ σ' H' Q) S ra fun σ1 e1 s1 S1 => ⟨_, _, rfl, ?_⟩
              refine gset (i := j) (Q := fun σ' H' => (gCons (gName l) gNil) _ σ' H' Q) S1 (s1.rep S rb) fun σ2 e2 s2 S2 => ⟨_, _, rfl, ?_⟩
              refine gset (i := l) (Q := fun σ' H' => gNil _ σ' H' Q) S2 (s2.rep S1 (s1.rep S rc)) fun σ3 e3 s3 S3 => ⟨rfl, ?_⟩
              exact k σ3 ((s1.trans s2).trans s3) S3
    · cases e)⟩
theorem pg_tup4 {e4 : Expr} (i j l m : Nat) (hK : X.K = g.K) (hc : X.calm = true) (h1 : PG X a (gName i)) (h2 : PG X b (gName j)) (h3 : PG X c (gName l)) (h4 : PG X e4 (gName m)) (hp : (assignEach [a, b, c, e4] X.env).map (·.2) = assign a X.env :: (assignEach [b, c, e4] X.env).map (·.2) := by rfl) (hp2 : (assignEach [b, c, e4] X.env).map (·.2) = assign b X.env :: (assignEach [c, e4] X.env).map (·.2) := by rfl) (hp3 : (assignEach [c, e4] X.env).map (·.2) = assign c X.env :: (assignEach [e4] X.env).map (·.2) := by rfl) (hp4 : (assignEach [e4] X.env).map (·.2) = assign e4 X.env :: (assignEach [] X.env).map (·.2) := by rfl)
    (hn : (assignEach [a, b, c, e4] X.env).length = 4 := by rfl) (hst : (assignEach [a, b, c, e4] X.env).findIdx? (·.1) = none := by rfl) : PG X (.Tuple [a, b, c, e4] kk pos) (tG g (gT4 i j l m)) :=
  ⟨fun pins s σ H v w Q I r ⟨R, ρ, om, al, d, ρ', S, rv, e, k⟩ => (pg_tup hc (pgs_cons h1 (pgs_cons h2 (pgs_cons h3 (pgs_cons h4 pgs_nil hp4) hp3) hp2) hp) hn hst).run pins s σ H v w Q I r (by
    simp only [gT4] at e
    split at e
    · cases e
      cases rv with
      | @tup ta vs _ ht rs =>
        cases rs with
        | cons ra rs => cases rs with
          | cons rb rs => cases rs with
            | cons rc rs => cases rs with
              | cons rd rs =>
                cases rs
                refine ⟨ta, _, rfl, by rw [hK]; exact ht, rfl, _, _, rfl, ?_⟩
                refine gset (i := i) (Q := fun σ' H' => (gCons (gName j) (gCons (gName l) (gCons (gName m) gNil))) _ σ' H' Q) S ra fun σ1 e1 s1 S1 => ⟨_, _, rfl, ?_⟩
                refine gset (i := j) (Q := fun σ' H' => (gCons (gName l) (gCons (gName m) gNil)) _ σ' H' Q) S1 (s1.rep S rb) fun σ2 e2 s2 S2 => ⟨_, _, rfl, ?_⟩
                refine gset (i := l) (Q := fun σ' H' => (gCons (gName m) gNil) _ σ' H' Q) S2 (s2.rep S1 (s1.rep S rc)) fun σ3 e3 s3 S3 => ⟨_, _, rfl, ?_⟩
                refine gset (i := m) (Q := fun σ' H' => gNil _ σ' H' Q) S3 (s3.rep S2 (s2.rep S1 (s1.rep S rd))) fun σ4 e4 s4 S4 => ⟨rfl, ?_⟩
                exact k σ4 (((s1.trans s2).trans s3).trans s4) S4
    · cases e)⟩
theorem pg_n (i : Nat) (hN : X.N.Nodup) (hi : X.N[i]? = some x := by rfl) (hx : Loc X.env.scope x := by first | exact Or.inl rfl | exact Or.inr rfl) (hf : X.fn x = true ∨ X.env.scope.names.lookup x = some .local := by first | exact .inl rfl | exact .inr rfl) : PG X (.Name x pos) (gName i) := pg_name hN hi hx hf
/-- a, b = e -/
@[simp] def sAsgG (G : UG) (u : UE) : US := fun ρ ω => RS.of (u ρ ω) fun d ρ ω => match G d ρ with
  | some ρ' => .nx ρ' ω
  | none => .no
theorem ps_asgG {G' : UG} (he : PE X e (tE g W ue)) (hg : PG X tg (tG g G')) (hs : swapsWithSole [tg] e pos.line X.env = pure false := by rfl) (hw : swappedStores [tg] e X.env = pure none := by rfl) (h1 : (assignEach [tg] X.env).map (·.2) = [assign tg X.env] := by rfl) :
    PS X (.Assign [tg] e pos) (tS g W (sAsgG G' ue)) := psImp (ps_asg he hg hs hw h1) fun De σ H ⟨R, ρ, om, al, S, P⟩ =>
  tR_bindS S P fun d ρ1 om1 v H1 al1 s1 S1 r1 P1 => by
    split at P1
    · rename_i ρ' e
      exact ⟨R, ρ1, om1, al1, d, ρ', S1, r1, e, fun σ' s S' => P1 σ' H1 al1 s S'⟩
    · exact P1.elim
end
end Dv

namespace Dv
open PySem PySem.Spec PyProof.Rows L2
@[simp] def fuelI (i : Nat) : Rho → Om → Nat := fun ρ _ => match ρ[i]? with
  | some (some (.val (.int j))) => j.natAbs + 1
  | _ => 0
theorem fnNo {P : Program} {w : World} {K : PySem.W.Frag} {mg : Str → Option Value} {base : Heap} {k : Nat} {f : Addr} {fd : FuncData} {ps : List Str} {g : G} : FnOk P w K mg base (L2.CX P w) k f fd ps (spU g ps.length fun _ _ => .no) :=
  ⟨fun vs H Q E h => h.1, fun A outer s H args us vs Q E hr he hb hv hs => by
    obtain ⟨_, R, ds, om, al, _, _, p⟩ := hs
    exact p.elim⟩
/-- a def as the top has left it -/
def At (K : PySem.W.Frag) (mg : Str → Option Value) (x qual : Str) (st : Stmt) : Prop := ∃ (f : Addr) (fd : FuncData), mg x = some (.ref f) ∧ Fun K x qual st f fd
theorem at_mk {K : PySem.W.Frag} {h : Heap} {mg : Str → Option Value} {x : Str} {st : Stmt} {f : Addr} {od an : Option Addr} {sl : Array (Option Value)} {oc kV dc pm cd ct : Value} (X : K.In h) (G : h.Ns mainGlobals mg)
    (a : PySem.W.nsIn K mainGlobals x = some (some (.ref f))) (l : K.lookup f = some ⟨oc, od, .func (PySem.W.fnOf x x (defArgs st) (defBody st) (defScope st) .none kV dc pm an cd ct), sl⟩) (c : PySem.W.codeIn K cd x = true) (k : PySem.W.keepIn K (.ref f) = true) : At K mg x x st :=
  ⟨f, _, PySem.W.mg_of X G a, fun_mk l c k⟩
theorem At.has {P : Program} {w : World} {K : PySem.W.Frag} {mg : Str → Option Value} {base : Heap} {x : Str} {st : Stmt} {ps : List Str} {k : Nat} {sp : Sp} (a : At K mg x x st)
    (b : ∀ (kV doc pm : Value) (an : Option Addr) (cdv ct : Value) (us : List Value), us.length = ps.length → bindArgs (PySem.W.fnOf x x (defArgs st) (defBody st) (defScope st) .none kV doc pm an cdv ct) ⟨us, []⟩ = pure (ps.zip us))
    (h : ∀ {f : Addr} {fd : FuncData}, mg x = some (.ref f) → Binds K fd ps [] → Fun K x x st f fd → FnOk P w K mg base (L2.CX P w) k f fd ps sp) : Has P w K mg base x ps k sp :=
  let ⟨f, fd, e, F⟩ := a
  ⟨f, fd, e, F.kp, F.binds b, h e (F.binds b) F⟩
/-- the law's promise: nothing is raised -/
def spLaw (S : FN) (K : PySem.W.Frag) : Sp := fun vs H Q _ => ∀ cls : Str → Addr, spU (gK K cls) 1 S vs H Q (fun _ _ _ => False)
theorem to0 {P : Program} {w : World} {K : PySem.W.Frag} {mg : Str → Option Value} {base : Heap} {k : Nat} {f : Addr} {fd : FuncData} {ps : List Str} {S : FN} {cls : Str → Addr} (F : FnOk P w K mg base (L2.CX P w) k f fd ps (spU (gK K cls) 1 S)) : FnOk P w K mg base CX0 k f fd ps (spLaw S K) :=
  ⟨fun vs H Q E h => F.len vs H Q _ (h cls), fun A outer s H args us vs Q E hr he hb hv hs => codeAny_mono (F.run A outer s H args us vs Q (fun _ _ _ => False) hr he hb hv (hs cls)) fun r s' h => by
    cases r with
    | ok fl => cases fl <;> exact h
    | error e =>
      obtain ⟨_, _, _, _, _, _, _, _, _, _, _, _, z⟩ := h
      exact z.elim⟩
theorem law_sp {K : PySem.W.Frag} {cls : Str → Addr} {S : FN} {H : Hp} {a : Addr} {ns : List Int} (hO : Only H) (h : SqL K H a (ns.map V.int)) (hS : ∃ om, S [.frz (ns.map D.int)] [] = .ok (.bl true) om) :
    spU (gK K cls) 1 S [.ref a] H (fun v _ => v = .bl true) (fun _ _ _ => False) := by
  obtain ⟨om, hS⟩ := hS
  refine ⟨rfl, fun _ => False, [.frz (ns.map D.int)], [], [], ⟨rfl, fun i c a h1 => by simp at h1, fun i j a ci cj h1 => by simp at h1, fun a h => h.elim⟩, .cons (.frz ?_ RepVs.of_ints) .nil, ?_⟩
  · rcases h with (h | ⟨o, h⟩) | h
    · rcases hO a with q | ⟨o, xs, q⟩
      · rw [h] at q; cases q
      · rw [h] at q; cases q
    · exact .inl ⟨o, h⟩
    · exact .inr h
  · rw [hS]
    intro v H' al' s o r
    cases r
    rfl
/-! ### the evaluator's equations, for simp only -/
section
variable {τ υ : Type} {t : τ} {r : Rho} {o : Om} {x : DX} {d : D} {ds : List D}
theorem bind_ok (f : τ → Rho → Om → Res υ) : (Res.ok t r o).bind f = f t r o := rfl
theorem bind_xc (f : τ → Rho → Om → Res υ) : (Res.xc x r o : Res τ).bind f = .xc x r o := rfl
theorem of_ok (f : τ → Rho → Om → RS) : RS.of (Res.ok t r o) f = f t r o := rfl
theorem of_xc (f : τ → Rho → Om → RS) : RS.of (Res.xc x r o : Res τ) f = .xc x r o := rfl
def RS.seq (s : RS) (v : US) : RS := match s with
  | .nx ρ ω => v ρ ω
  | .bk ρ ω => .bk ρ ω
  | .ct ρ ω => .ct ρ ω
  | .rt d ω => .rt d ω
  | .rto d ω => .rto d ω
  | .xc x ρ ω => .xc x ρ ω
  | .no => .no
theorem sSeq_eq (u v : US) : sSeq u v r o = (u r o).seq v := rfl
theorem seq_nx (v : US) : (RS.nx r o).seq v = v r o := rfl
theorem seq_rt (v : US) : (RS.rt d o).seq v = .rt d o := rfl
theorem seq_rto (v : US) : (RS.rto ds o).seq v = .rto ds o := rfl
theorem seq_xc (v : US) : (RS.xc x r o).seq v = .xc x r o := rfl
theorem seq_bk (v : US) : (RS.bk r o).seq v = .bk r o := rfl
theorem seq_ct (v : US) : (RS.ct r o).seq v = .ct r o := rfl
theorem seq_ite {c : Prop} [Decidable c] (a b : RS) (v : US) : (if c then a else b).seq v = if c then a.seq v else b.seq v := by split <;> rfl
theorem fr_nx : (RS.nx r o).fr = .ok .non o := rfl
theorem fr_rt : (RS.rt d o).fr = .ok d o := rfl
theorem fr_rto : (RS.rto ds o).fr = .ok (.lst ds) o := rfl
theorem fr_xc : (RS.xc x r o).fr = .xc x o := rfl
theorem fo_rto : (RS.rto ds o).fo = .ok (.lst ds) o := rfl
theorem fo_xc : (RS.xc x r o).fo = .xc x o := rfl
theorem res_ok : (FR.ok d o).res r = .ok d r o := rfl
theorem res_xc : (FR.xc x o).res r = .xc x r o := rfl
theorem res0_ok : (FR.ok d o).res0 r = .ok d r o := rfl
theorem own_ok : (FR.ok (.lst ds) o).own r = .ok ds r o := rfl
theorem own_xc : (FR.xc x o).own r = .xc x r o := rfl
theorem liftO_some : liftO (some t) r o = .ok t r o := rfl
theorem dBool_bl {b : Bool} : dBool (.bl b) = some b := rfl
theorem items_lst : dItems (.lst ds) = some ds := rfl
theorem items_frz : dItems (.frz ds) = some ds := rfl
theorem goL_nil (G : UG) (b : US) : goL G b [] r o = .nx r o := rfl
/-- one turn -/
def RS.turn (s : RS) (k : US) : RS := match s with
  | .nx ρ ω => k ρ ω
  | .ct ρ ω => k ρ ω
  | .bk ρ ω => .nx ρ ω
  | .rt d ω => .rt d ω
  | .rto d ω => .rto d ω
  | .xc x ρ ω => .xc x ρ ω
  | .no => .no
theorem turn_nx (v : US) : (RS.nx r o).turn v = v r o := rfl
theorem turn_ct (v : US) : (RS.ct r o).turn v = v r o := rfl
theorem turn_bk (v : US) : (RS.bk r o).turn v = .nx r o := rfl
theorem turn_rt (v : US) : (RS.rt d o).turn v = .rt d o := rfl
theorem turn_rto (v : US) : (RS.rto ds o).turn v = .rto ds o := rfl
theorem turn_xc (v : US) : (RS.xc x r o).turn v = .xc x r o := rfl
theorem goL_cons (G : UG) (b : US) {ρ1 : Rho} (h : G d r = some ρ1) : goL G b (d :: ds) r o = (b ρ1 o).turn (goL G b ds) := by
  simp only [goL, h]
  cases b ρ1 o <;> rfl
theorem sFor_eq (s : UI) (G : UG) (b : US) : sFor s G b r o = RS.of (s r o) fun t r o => goL G b t r o := rfl
theorem goW_succ (c : UT) (b : US) (n : Nat) : goW c b (n + 1) r o = RS.of (c r o) fun k r o => if k = true then (b r o).turn (goW c b n) else .nx r o := by
  simp only [goW]
  congr 1
theorem sWhile_eq (f : Rho → Om → Nat) (c : UT) (b : US) : sWhile f c b r o = goW c b (f r o) r o := rfl
end
theorem atN_zero {α : Type} (x : α) (r : List α) : atN (x :: r) 0 = some x := rfl
theorem atN_one {α : Type} (x y : α) (r : List α) : atN (x :: y :: r) 1 = some y := rfl
theorem atN_two {α : Type} (x y z : α) (r : List α) : atN (x :: y :: z :: r) 2 = some z := rfl
theorem atN_three {α : Type} (x y z w : α) (r : List α) : atN (x :: y :: z :: w :: r) 3 = some w := rfl
theorem divOk_small {i j : Int} (h : j.natAbs < 1073741824) : divOk i j = true := by
  unfold divOk
  rw [PyProof.noPylong_small h]
  rfl
theorem mulOk_r {i j : Int} (h : j.natAbs < 18446744073709551616) : mulOk i j = true := by
  unfold mulOk
  simp [h]
theorem mulOk_l {i j : Int} (h : i.natAbs < 18446744073709551616) : mulOk i j = true := by
  unfold mulOk
  simp [h]
theorem dMul_int {i j : Int} (h : mulOk i j = true) : dMul (.int i) (.int j) = some (.int (i * j)) := by
  show (if mulOk i j = true then some (D.int (i * j)) else none) = _
  rw [if_pos h]
theorem dDiv_int {i j : Int} (h0 : j ≠ 0) (h : divOk i j = true) : dDiv (.int i) (.int j) = some (.int (i.fdiv j)) := by
  show (if j ≠ 0 ∧ divOk i j = true then some (D.int (i.fdiv j)) else none) = _
  rw [if_pos ⟨h0, h⟩]
theorem dDiv_pos {i j : Int} (h0 : 0 < j) (h : j < 1073741824) : dDiv (.int i) (.int j) = some (.int (i / j)) := by
  rw [dDiv_int (by omega) (divOk_small (by omega)), Int.fdiv_eq_ediv_of_nonneg i (by omega)]
theorem dMod_int {i j : Int} (h0 : j ≠ 0) : dMod (.int i) (.int j) = some (.int (i.fmod j)) := by
  show (if j ≠ 0 then some (D.int (i.fmod j)) else none) = _
  rw [if_pos h0]
theorem dMod_pos {i j : Int} (h0 : 0 < j) : dMod (.int i) (.int j) = some (.int (i % j)) := by
  rw [dMod_int (by omega), Int.fmod_eq_emod_of_nonneg i (by omega)]
theorem dAdd_int {i j : Int} : dAdd (.int i) (.int j) = some (.int (i + j)) := rfl
theorem dSub_int {i j : Int} : dSub (.int i) (.int j) = some (.int (i - j)) := rfl
theorem dNeg_int {i : Int} : dNeg (.int i) = some (.int (-i)) := rfl
theorem dLt_int {i j : Int} : dLt (.int i) (.int j) = some (.bl (decide (i < j))) := rfl
theorem dLe_int {i j : Int} : dLe (.int i) (.int j) = some (.bl (decide (i ≤ j))) := rfl
theorem dGt_int {i j : Int} : dGt (.int i) (.int j) = some (.bl (decide (j < i))) := rfl
theorem dGe_int {i j : Int} : dGe (.int i) (.int j) = some (.bl (decide (j ≤ i))) := rfl
theorem dEq_int {i j : Int} : dEq (.int i) (.int j) = some (.bl (decide (i = j))) := rfl
theorem dNe_int {i j : Int} : dNe (.int i) (.int j) = some (.bl (!decide (i = j))) := rfl
theorem dEq_bl {i j : Bool} : dEq (.bl i) (.bl j) = some (.bl (decide (i = j))) := rfl
theorem dNe_bl {i j : Bool} : dNe (.bl i) (.bl j) = some (.bl (!decide (i = j))) := rfl
theorem dEq_nil {xs : List D} : dEq (.lst xs) (.lst []) = some (.bl (decide (xs.length = 0))) := rfl
theorem dNe_nil {xs : List D} : dNe (.lst xs) (.lst []) = some (.bl (!decide (xs.length = 0))) := rfl
theorem dIx_lst {xs : List D} {i : Int} : dIx (.lst xs) (.int i) = atN xs i := rfl
theorem dIx_tup {xs : List D} {i : Int} : dIx (.tup xs) (.int i) = atN xs i := rfl
theorem fAbs_int {i : Int} : fAbs [.int i] = some (.int (if i < 0 then -i else i)) := rfl
theorem fInt_bl {b : Bool} : fInt [.bl b] = some (.int (if b then 1 else 0)) := rfl
theorem fInt_int {i : Int} : fInt [.int i] = some (.int i) := rfl
theorem fLen_lst {xs : List D} : fLen [.lst xs] = some (.int xs.length) := rfl
theorem fLen_frz {xs : List D} : fLen [.frz xs] = some (.int xs.length) := rfl
theorem fLen_tup {xs : List D} : fLen [.tup xs] = some (.int xs.length) := rfl
theorem big_of {n : Nat} (h : n ≤ 1000) : n ≤ big := Nat.le_trans h (by decide)
end Dv
namespace Dv
open PySem PySem.Spec PyProof.Rows L2
theorem setN_zero {x d : D} {r : List D} : setN (x :: r) 0 d = some (d :: r) := rfl
theorem setN_one {x y d : D} {r : List D} : setN (x :: y :: r) 1 d = some (x :: d :: r) := rfl
theorem popAt_zero {x : D} {r : List D} : mPopAt (x :: r) [.int 0] = some (x, r) := rfl
theorem len_zero {α : Type} : decide (([] : List α).length = 0) = true := rfl
theorem len_succ {α : Type} {x : α} {r : List α} : decide ((x :: r).length = 0) = false := rfl
end Dv
namespace Dv
theorem le_big {n : Nat} (h : n ≤ 1000) : (n ≤ big) = True := eq_true (big_of h)
theorem lt_big {n : Nat} (h : n < 1000) : (n < big) = True := eq_true (Nat.lt_of_lt_of_le h (by decide))
end Dv
namespace Dv
theorem dMul_r {i j : Int} (h1 : -18446744073709551616 < j) (h2 : j < 18446744073709551616) : dMul (.int i) (.int j) = some (.int (i * j)) := dMul_int (mulOk_r (by omega))
theorem dMul_l {i j : Int} (h1 : -18446744073709551616 < i) (h2 : i < 18446744073709551616) : dMul (.int i) (.int j) = some (.int (i * j)) := dMul_int (mulOk_l (by omega))
end Dv

namespace Dv
open PySem PySem.Spec PyProof.Rows L2

/-! ### another caught exception -/
section
variable {K : PySem.W.Frag} {c : Str → Addr} {e e' : Option (Nat × Addr × Str)} {al : List Addr} {L : Addr → Prop} {H : Hp}
mutual
theorem RepV.conv : ∀ {v : V} {d : D}, RepV ⟨K, c, e⟩ al L H v d → RepV ⟨K, c, e'⟩ al L H v d
  | _, _, .non => .non
  | _, _, .bl => .bl
  | _, _, .int => .int
  | _, _, .str => .str
  | _, _, .tup h r => .tup h (RepVs.conv r)
  | _, _, .lst h n r => .lst h n (RepVs.conv r)
  | _, _, .frz h r => .frz h (RepVs.conv r)
  | _, _, .obj h n r => .obj h n (RepFs.conv r)
  | _, _, .loc h => .loc h
theorem RepVs.conv : ∀ {vs : List V} {ds : List D}, RepVs ⟨K, c, e⟩ al L H vs ds → RepVs ⟨K, c, e'⟩ al L H vs ds
  | _, _, .nil => .nil
  | _, _, .cons h r => .cons (RepV.conv h) (RepVs.conv r)
theorem RepFs.conv : ∀ {vs : List (Str × V)} {ds : List (Str × D)}, RepFs ⟨K, c, e⟩ al L H vs ds → RepFs ⟨K, c, e'⟩ al L H vs ds
  | _, _, .nil => .nil
  | _, _, .cons h r => .cons (RepV.conv h) (RepFs.conv r)
end
theorem CellR.conv {a : Addr} : ∀ {x : Cell}, CellR ⟨K, c, e⟩ al L H a x → CellR ⟨K, c, e'⟩ al L H a x
  | .gone, _ => trivial
  | .lst _, ⟨vs, h, r⟩ => ⟨vs, h, r.conv⟩
  | .ins _ _, ⟨dx, fvs, h, r⟩ => ⟨dx, fvs, h, r.conv⟩
theorem Rst.conv {R : Addr → Prop} {σ : St} {ρ : Rho} {om : Om} (S : Rst ⟨K, c, e⟩ R al σ ρ om H) (sl : Sle ⟨K, c, e'⟩ σ ρ) : Rst ⟨K, c, e'⟩ R al σ ρ om H :=
  ⟨⟨S.o.len, fun i x a h1 h2 => (S.o.cel i x a h1 h2).conv, S.o.inj, S.o.rsv⟩, sl, fun i d h => let ⟨v, h1, h2⟩ := S.val i d h; ⟨v, h1, h2.conv⟩, fun i ds h => let ⟨a, vs, h1, h2, h3⟩ := S.own i ds h; ⟨a, vs, h1, h2, h3.conv⟩, S.odj, S.ocl⟩
end
section
variable {g : G} {R : Addr → Prop} {al al' : List Addr} {om om' : Om} {σ σ' : St} {ρ ρ' : Rho} {H H' : Hp} {W : WX} {X : Cx} {M M' : Addr → Prop} {i : Nat} {a : Addr}
/-- slots that hold nothing of note may differ -/
theorem Rst.forget (S : Rst g R al σ ρ om H) (i : Nat) (w : Option V) : Rst g R al (σ.set i w) (ρ.set i none) om H ∧ Step al (Mt al om σ ρ) H al (Mt al om (σ.set i w) (ρ.set i none)) H := by
  have f : ∀ {j : Nat} {s : Sl}, (ρ.set i none)[j]? = some (some s) → j ≠ i ∧ ρ[j]? = some (some s) := fun {j s} h => by
    rcases getset h with ⟨rfl, q⟩ | ⟨n, q⟩
    · cases q
    · exact ⟨n, q⟩
  have fs : ∀ {j : Nat}, j ≠ i → (σ.set i w)[j]? = σ[j]? := fun n => by rw [List.getElem?_set_ne (Ne.symm n)]
  have sub : ∀ b, OwnA (σ.set i w) (ρ.set i none) b → OwnA σ ρ b := fun b ⟨j, dj, h1, h2⟩ => ⟨j, dj, (f h1).2, by rw [fs (f h1).1] at h2; exact h2⟩
  have st : Step al (Mt al om σ ρ) H al (Mt al om (σ.set i w) (ρ.set i none)) H := .grow (fun b o h n => h) fun b m => by
    rcases m with m | m
    · exact .inl (.inl m)
    · exact .inl (.inr (sub b m))
  refine ⟨S.chg st (fun b h => rfl) (S.sl.set2 fun _ z => nomatch z) (fun b h => (S.o.rsv b h).2) (fun j d h => ?_) (fun j dj h => ?_) (fun j k b dj dk h1 h2 h3 h4 => ?_) (fun b h => S.ocl b (sub b h)), st⟩
  · exact .inl ⟨(f h).2, fs (f h).1⟩
  · exact .inl ⟨(f h).2, fs (f h).1, fun _ _ => rfl⟩
  · rw [fs (f h1).1] at h3
    rw [fs (f h2).1] at h4
    exact S.odj j k b _ _ (f h1).2 (f h2).2 h3 h4
/-- the caught one in its slot -/
theorem Rst.caught {K : PySem.W.Frag} {c : Str → Addr} (S : Rst ⟨K, c, none⟩ R al σ ρ om H) (i : Nat) (a : Addr) (x : DX) :
    Rst ⟨K, c, some (i, a, x.c)⟩ R al (σ.set i (some (.ref a))) (ρ.set i (some (.exc x))) om H ∧ Step al (Mt al om σ ρ) H al (Mt al om (σ.set i (some (.ref a))) (ρ.set i (some (.exc x)))) H := by
  obtain ⟨S1, s1⟩ := S.forget i (some (.ref a))
  have f : ∀ {j : Nat}, (∀ d, (ρ.set i (some (.exc x)))[j]? = some (some (.val d)) → (ρ.set i none)[j]? = some (some (.val d))) ∧ ∀ d, (ρ.set i (some (.exc x)))[j]? = some (some (.own d)) → (ρ.set i none)[j]? = some (some (.own d)) := fun {j} => by
    constructor <;> intro d h <;>
    · rcases getset h with ⟨rfl, q⟩ | ⟨n, q⟩
      · cases q
      · rw [List.getElem?_set_ne (Ne.symm n)]; exact q
  have sub : ∀ b, OwnA (σ.set i (some (.ref a))) (ρ.set i (some (.exc x))) b → OwnA (σ.set i (some (.ref a))) (ρ.set i none) b := fun b ⟨j, dj, h1, h2⟩ => ⟨j, dj, f.2 _ h1, h2⟩
  have st : Step al (Mt al om σ ρ) H al (Mt al om (σ.set i (some (.ref a))) (ρ.set i (some (.exc x)))) H := s1.trans (.grow (fun b o h n => h) fun b m => by
    rcases m with m | m
    · exact .inl (.inl m)
    · exact .inl (.inr (sub b m)))
  have ll : ∀ b, LL R al om (σ.set i (some (.ref a))) (ρ.set i (some (.exc x))) b → LL R al om (σ.set i (some (.ref a))) (ρ.set i none) b := fun b m => by
    rcases m with (m | m) | m
    · exact .inl (.inl m)
    · exact .inl (.inr (sub b m))
    · exact .inr m
  have cr : Car (⟨K, c, none⟩ : G) al (LL R al om (σ.set i (some (.ref a))) (ρ.set i none)) H al (LL R al om (σ.set i (some (.ref a))) (ρ.set i (some (.exc x)))) H := carL ll
  refine ⟨⟨⟨S1.o.len, fun j y b h1 h2 => ((S1.o.cel j y b h1 h2).car cr (fun _ e _ => e) (fun _ _ _ e _ => e)).conv, S1.o.inj, S1.o.rsv⟩, ⟨?_, fun j b m y e q => ?_⟩, fun j d h => ?_, fun j ds h => ?_, fun j k b dj dk h1 h2 => S1.odj j k b dj dk (f.2 _ h1) (f.2 _ h2), fun b h => S1.ocl b (sub b h)⟩, st⟩
  · have := S1.sl.len
    rw [List.length_set] at this ⊢
    rw [this, List.length_set, List.length_set]
  · cases e
    have := List.getElem?_eq_some_iff.mp q
    obtain ⟨hl, _⟩ := this
    have e2 := S.sl.len
    rw [List.length_set] at hl
    rw [List.getElem?_set_self hl] at q
    cases q
    refine ⟨?_, rfl⟩
    rw [List.getElem?_set_self]
    omega
  · obtain ⟨v, h1, h2⟩ := S1.val j d (f.1 _ h)
    exact ⟨v, h1, (h2.car cr).conv⟩
  · obtain ⟨b, vs, h1, h2, h3⟩ := S1.own j ds (f.2 _ h)
    exact ⟨b, vs, h1, h2, (h3.car cr).conv⟩
/-- .. and gone -/
theorem Rst.uncaught {K : PySem.W.Frag} {c : Str → Addr} {m : Str} (S : Rst ⟨K, c, some (i, a, m)⟩ R al σ ρ om H) : Rst ⟨K, c, none⟩ R al (σ.set i none) (ρ.set i none) om H ∧ Step al (Mt al om σ ρ) H al (Mt al om (σ.set i none) (ρ.set i none)) H := by
  obtain ⟨S1, s1⟩ := S.forget i none
  exact ⟨S1.conv ⟨S1.sl.len, fun _ _ _ _ e => nomatch e⟩, s1⟩
/-! ### exceptions raised and caught -/
/-- what is known of the classes c: whether each is a sub class of cv -/
def KnOk (K : PySem.W.Frag) (cls : Str → Addr) (cv : Value) : List (Str × Bool) → Prop
  | [] => True
  | (c, b) :: r => PySem.W.subIn K (.ref (cls c)) cv = some b ∧ KnOk K cls cv r
theorem KnOk.get {K : PySem.W.Frag} {cls : Str → Addr} {cv : Value} : ∀ {l : List (Str × Bool)}, KnOk K cls cv l → ∀ {c : Str} {b : Bool}, l.lookup c = some b → PySem.W.subIn K (.ref (cls c)) cv = some b
  | [], _, _, _, h => by cases h
  | (c', b') :: r, h, c, b, e => by
    by_cases q : (c == c') = true
    · simp [List.lookup, q] at e
      subst e
      rw [beq_iff_eq.mp q]
      exact h.1
    · simp only [Bool.not_eq_true] at q
      simp [List.lookup, q] at e
      exact h.2.get e
theorem KnOk.nil {K : PySem.W.Frag} {cls : Str → Addr} {cv : Value} : KnOk K cls cv [] := trivial
theorem KnOk.cons {K : PySem.W.Frag} {cls : Str → Addr} {cv : Value} {c : Str} {b : Bool} {r : List (Str × Bool)} (h : PySem.W.subIn K (.ref (cls c)) cv = some b) (hr : KnOk K cls cv r) : KnOk K cls cv ((c, b) :: r) := ⟨h, hr⟩
/-- an own class of exceptions -/
structure ExF (K : PySem.W.Frag) (mg : Str → Option Value) (cls : Str → Addr) (n : Str) : Prop where
  g : mg n = some (.ref (cls n))
  k : PySem.W.keepIn K (.ref (cls n)) = true
  b : PySem.W.subIn K (.ref (cls n)) (.type "BaseException") = some true
  t : PySem.W.typeIn K (.ref (cls n)) = some (.type "type")
  i : PySem.W.isClsIn K (cls n) = true
/-- .. without an own __init__ -/
structure ExM (K : PySem.W.Frag) (mg : Str → Option Value) (cls : Str → Addr) (n : Str) : Prop extends ExF K mg cls n where
  x : PySem.W.excIn K (cls n) [.type "ValueError", .type "Exception", .type "BaseException", .type "object"] "ValueError.__new__" = true
theorem ExF.exm {K : PySem.W.Frag} {mg : Str → Option Value} {cls : Str → Addr} {n : Str} (F : ExF K mg cls n) {cv : Value} {b : Bool} (h : PySem.W.subIn K cv (.ref (cls n)) = some b) : PySem.W.exmOne K cv (.ref (cls n)) = some b := by
  have e1 : (PySem.W.subIn K (.ref (cls n)) (.type "BaseException") == some true) = true := by rw [F.b] <;> rfl
  have e2 : ((PySem.W.clsIn K (cls n)).isSome && PySem.W.typeIn K (.ref (cls n)) == some (.type "type")) = true := by
    have h2' : (PySem.W.clsIn K (cls n)).isSome = true := F.i
    rw [h2', F.t] <;> rfl
  show (if (PySem.W.subIn K (.ref (cls n)) (.type "BaseException") == some true) = true then (if ((PySem.W.clsIn K (cls n)).isSome && PySem.W.typeIn K (.ref (cls n)) == some (.type "type")) = true then PySem.W.subIn K cv (.ref (cls n)) else none) else none) = some b
  rw [if_pos e1, if_pos e2]
  exact h
theorem ps_raiseU {x m : Str} {j : Nat} {p p2 pos pos' : Pos} (F : ExM X.K X.mg g.cls x) (hc : X.calm = true) (tk : Takes X W) (hg : Gl X x) (hdb : (x == ("__debug__" : Str)) = false := by decide) : PS X (.Raise (some (.Call (.Name x p) [.Constant (.str m) j p2] [] pos)) none pos') (tS g W (sRaise ⟨x, []⟩)) :=
  psImp (ps_raise hc tk (pmk_own PySem.F.excBase_ValueError F.x F.g F.k (raises_own F.b F.t) hg hdb)) fun D σ H ⟨R, ρ, om, al, S, P⟩ => P (.ref (g.cls x)) none σ H al .refl S ⟨rfl, .inl ⟨rfl, rfl⟩⟩
/-- what follows an except suite -/
def RS.clr (i : Nat) : RS → RS
  | .nx r o => .nx (r.set i none) o
  | .bk r o => .bk (r.set i none) o
  | .ct r o => .ct (r.set i none) o
  | .rt d o => .rt d o
  | .rto d o => .rto d o
  | _ => .no
def sTryAs (i : Nat) (kn : List (Str × Bool)) (b h : US) : US := fun ρ ω => match b ρ ω with
  | .xc x ρ ω => match kn.lookup x.c with
    | some true => if x.fs.isEmpty then (h (ρ.set i (some (.exc x))) ω).clr i else .no
    | some false => .xc x ρ ω
    | none => .no
  | r => r
def RS.cln : RS → RS
  | .xc _ _ _ => .no
  | r => r
def sTry (kn : List (Str × Bool)) (b h : US) : US := fun ρ ω => match b ρ ω with
  | .xc x ρ ω => match kn.lookup x.c with
    | some true => (h ρ ω).cln
    | some false => .xc x ρ ω
    | none => .no
  | r => r
abbrev WF : WX := fun _ _ _ _ => False
variable {x n : Str} {body suite : List Stmt} {b₀ : Stmt} {np pos pos' : Pos} {ub us : US} {kn : List (Str × Bool)} {K : PySem.W.Frag} {cls : Str → Addr}
theorem ps_tryAsU (i : Nat) (hs : X.stack = X.env :: X.outer) (hf : X.env.frame = some X.env.locals) (hN : X.N.Nodup) (hi : X.N[i]? = some n) (hln : X.env.kindOf n = some .local) (hK : X.K = K) (F : ExF X.K X.mg cls x) (kn : List (Str × Bool)) (hkn : KnOk X.K cls (.ref (cls x)) kn) (hg : Gl X x) (tk : Takes X W)
    (hb : ∀ (W : WX) (pn : List (Addr × Obj)) (xe : Value → Shared → Prop), Takes (X.tr pn xe) W → PassesOwn (model X.prog X.w) X.A X.env xe → PSs (X.tr pn xe) body (tS (gK K cls) W ub))
    (hsu : ∀ (a : Addr) (oe : Obj) (c : Str) (pn : List (Addr × Obj)), Zc (.ref (cls c)) none oe → (∃ vs, oe.data = .fields vs) → kn.lookup c = some true → PSs (X.suite a ((a, oe) :: pn)) (b₀ :: suite) (tS ⟨K, cls, some (i, a, c)⟩ WF us))
    (hdb : (x == ("__debug__" : Str)) = false := by decide) :
    PS X (.Try body [.ExceptHandler (some (.Name x np)) (some n) (b₀ :: suite) pos'] [] [] pos) (tS (gK K cls) W (sTryAs i kn ub us)) := by
  refine psImp (ps_try_as (i := i) (tb := fun W => tS (gK K cls) W ub) (ts := fun a cv d D σ H => ∃ c, cv = .ref (cls c) ∧ kn.lookup c = some true ∧ d = none ∧ tS ⟨K, cls, some (i, a, c)⟩ WF us D σ H) (Wout := W) (c := .ref (cls x)) hs hf hN hi hln ⟨hg, hdb, .inl F.g⟩ tk hb (fun a oe cv d pn hz hd => ⟨fun pins s σ H D I h => ?_⟩)) ?_
  · obtain ⟨c, rfl, hl, rfl, h⟩ := h
    exact (hsu a oe c pn hz hd hl).run pins s σ H D I h
  · intro D σ H ⟨R, ρ, om, al, S, P⟩
    refine ⟨R, ρ, om, al, S, ?_⟩
    unfold sTryAs at P
    cases e : ub ρ om with
    | nx ρ' om' => rw [e] at P; exact P
    | bk ρ' om' => rw [e] at P; exact P
    | ct ρ' om' => rw [e] at P; exact P
    | rt d om' => rw [e] at P; exact P
    | rto d om' => rw [e] at P; exact P
    | no => rw [e] at P; exact P
    | xc y ρ' om' =>
      rw [e] at P
      dsimp only at P
      intro cv dd σ1 H1 al1 s1 S1 r1
      cases el : kn.lookup y.c with
      | none => rw [el] at P; exact P.elim
      | some b =>
        rw [el] at P
        refine ⟨b, ?_, fun hb1 a ha => ?_, fun hb1 => ?_⟩
        · rw [r1.1]; exact F.exm (hkn.get el)
        · subst hb1
          dsimp only at P
          split at P
          · rename_i he
            have hd : dd = none := by
              rcases r1.2 with q | ⟨_, _, _, q, _⟩
              · exact q.2
              · exact absurd (List.isEmpty_iff.mp he) q
            refine ⟨y.c, r1.1, el, hd, ?_⟩
            obtain ⟨S2, s2⟩ := S1.caught i a y
            refine ⟨R, _, om', al1, S2, ?_⟩
            cases eh : us (ρ'.set i (some (.exc y))) om' with
            | nx ρ3 om3 =>
              rw [eh] at P
              intro σ3 H3 al3 s3 S3
              obtain ⟨S4, s4⟩ := S3.uncaught
              exact P _ H3 al3 (s1.trans (s2.trans (s3.trans s4))) S4
            | bk ρ3 om3 =>
              rw [eh] at P
              intro σ3 H3 al3 s3 S3
              obtain ⟨S4, s4⟩ := S3.uncaught
              exact P _ H3 al3 (s1.trans (s2.trans (s3.trans s4))) S4
            | ct ρ3 om3 =>
              rw [eh] at P
              intro σ3 H3 al3 s3 S3
              obtain ⟨S4, s4⟩ := S3.uncaught
              exact P _ H3 al3 (s1.trans (s2.trans (s3.trans s4))) S4
            | rt d om3 =>
              rw [eh] at P
              intro v σ3 ρ3 H3 al3 s3 S3 r3
              obtain ⟨S4, s4⟩ := S3.uncaught
              refine P v _ _ H3 al3 (s1.trans (s2.trans (s3.trans s4))) S4 ?_
              exact (s4.rep S3 r3).conv
            | rto d om3 =>
              rw [eh] at P
              intro p vs σ3 ρ3 H3 al3 s3 S3 hp1 hp2 r3
              obtain ⟨S4, s4⟩ := S3.uncaught
              refine P p vs _ _ H3 al3 (s1.trans (s2.trans (s3.trans ⟨s4.ext, fun b u h n => s4.keep b u h fun m => n (.inl m), fun b m => ?_⟩))) S4 hp1 hp2 ?_
              · rcases m with m | m
                · exact (s4.fresh b m).imp .inl id
                · exact .inl (.inr m)
              · exact (s4.reps S3 r3).conv
            | xc _ _ _ => rw [eh] at P; exact P.elim
            | no => rw [eh] at P; exact P.elim
          · exact P.elim
        · subst hb1
          exact P cv dd σ1 H1 al1 s1 S1 r1
theorem ps_tryU (hs : X.stack = X.env :: X.outer) (hf : X.env.frame = some X.env.locals) (hK : X.K = K) (F : ExF X.K X.mg cls x) (kn : List (Str × Bool)) (hkn : KnOk X.K cls (.ref (cls x)) kn) (hg : Gl X x) (tk : Takes X W)
    (hb : ∀ (W : WX) (pn : List (Addr × Obj)) (xe : Value → Shared → Prop), Takes (X.tr pn xe) W → PassesOwn (model X.prog X.w) X.A X.env xe → PSs (X.tr pn xe) body (tS (gK K cls) W ub))
    (hsu : ∀ (a : Addr) (oe : Obj) (pn : List (Addr × Obj)), PSs (X.suite a ((a, oe) :: pn)) (b₀ :: suite) (tS (gK K cls) WF us))
    (hdb : (x == ("__debug__" : Str)) = false := by decide) :
    PS X (.Try body [.ExceptHandler (some (.Name x np)) none (b₀ :: suite) pos'] [] [] pos) (tS (gK K cls) W (sTry kn ub us)) := by
  refine psImp (ps_try_only (tb := fun W => tS (gK K cls) W ub) (ts := fun a cv d => tS (gK K cls) WF us) (Wout := W) (c := .ref (cls x)) hs hf ⟨hg, hdb, .inl F.g⟩ tk hb (fun a oe cv d pn hz hd => hsu a oe pn)) ?_
  intro D σ H ⟨R, ρ, om, al, S, P⟩
  refine ⟨R, ρ, om, al, S, ?_⟩
  unfold sTry at P
  cases e : ub ρ om with
  | nx ρ' om' => rw [e] at P; exact P
  | bk ρ' om' => rw [e] at P; exact P
  | ct ρ' om' => rw [e] at P; exact P
  | rt d om' => rw [e] at P; exact P
  | rto d om' => rw [e] at P; exact P
  | no => rw [e] at P; exact P
  | xc y ρ' om' =>
    rw [e] at P
    dsimp only at P
    intro cv dd σ1 H1 al1 s1 S1 r1
    cases el : kn.lookup y.c with
    | none => rw [el] at P; exact P.elim
    | some b =>
      rw [el] at P
      refine ⟨b, ?_, fun hb1 a ha => ?_, fun hb1 => ?_⟩
      · rw [r1.1]; exact F.exm (hkn.get el)
      · subst hb1
        refine ⟨R, _, om', al1, S1, ?_⟩
        have P' := PostS.step s1 P
        dsimp only at P'
        cases eh : us ρ' om' with
        | nx ρ3 om3 => rw [eh] at P'; exact P'
        | bk ρ3 om3 => rw [eh] at P'; exact P'
        | ct ρ3 om3 => rw [eh] at P'; exact P'
        | rt d om3 => rw [eh] at P'; exact P'
        | rto d om3 => rw [eh] at P'; exact P'
        | xc _ _ _ => rw [eh] at P'; exact P'.elim
        | no => rw [eh] at P'; exact P'.elim
      · subst hb1
        exact P cv dd σ1 H1 al1 s1 S1 r1
variable {e : Expr}
/-- isinstance(n, C), n the caught one in slot i -/
def uIsE (i : Nat) (kn : List (Str × Bool)) : UE := fun ρ ω => match ρ[i]? with
  | some (some (.exc x)) => match kn.lookup x.c with
    | some b => .ok (.bl b) ρ ω
    | none => .no
  | _ => .no
theorem kit_of {cv : Value} {b : Bool} {c : Value} (h : PySem.W.subIn K c cv = some b) (hc : PySem.W.kitCls K c cv = PySem.W.subIn K c cv) (hs : PySem.W.subIn K c c = some true) : PySem.W.kitOne K c cv = some b := by
  unfold PySem.W.kitOne
  split
  · rename_i q
    rw [← beq_iff_eq.mp q, hs] at h
    exact h
  · rw [hc]; exact h
theorem pu_isE (i : Nat) (kn : List (Str × Bool)) {a : Addr} {oe : Obj} {c C m : Str} {pn : List (Addr × Obj)} {cv : Value} {vc : V} {p p1 p2 pos : Pos} (hz : Zc (.ref (cls c)) none oe) (hf : ∃ vs, oe.data = .fields vs) (EC : ExcC X.K (cls c)) (hs : PySem.W.subIn X.K (.ref (cls c)) (.ref (cls c)) = some true)
    (hkn : KnOk X.K cls cv kn) (hkc : ∀ t, PySem.W.kitCls X.K t cv = PySem.W.subIn X.K t cv) (hcv : ∀ u, RelV vc u → u = cv) (m1 : X.mg "isinstance" = none) (hg : Gl X "isinstance")
    (hN : X.N[i]? = some m) (hv : Vis X.env.scope m) (hC : PE (X.suite a ((a, oe) :: pn)) (.Name C p2) (tC vc))
    (hd : (m == ("__debug__" : Str)) = false := by decide) (hcd : (m == ("__classdict__" : Str)) = false := by decide) :
    PE (X.suite a ((a, oe) :: pn)) (.Call (.Name "isinstance" p) [.Name m p1, .Name C p2] [] pos) (tE ⟨K, cls, some (i, a, c)⟩ W (uIsE i kn)) := by
  refine peImp (pe_callB (X := X.suite a ((a, oe) :: pn)) (call_isE EC hz hf) hg m1 (by decide +kernel) (pa_cons (X := X.suite a ((a, oe) :: pn)) (pe_var hN hv hd hcd) (pa_cons (X := X.suite a ((a, oe) :: pn)) hC pa_nil))) fun σ H Q ⟨R, ρ, om, al, S, P⟩ => ?_
  unfold uIsE at P
  split at P
  · rename_i x hx
    obtain ⟨h1, h2⟩ := S.sl.exc i a c x rfl hx
    split at P
    · rename_i b hb
      refine ⟨_, h1, vc, cv, b, rfl, hcv, ?_, P _ H al .refl S .bl⟩
      refine kit_of (hkn.get (by rw [← h2]; exact hb)) (hkc _) hs
    · exact P.elim
  · exact P.elim
theorem kitCls_ref {C : Addr} (h2 : PySem.W.isClsIn K C = true) (h3 : PySem.W.typeIn K (.ref C) = some (.type "type")) (t : Value) : PySem.W.kitCls K t (.ref C) = PySem.W.subIn K t (.ref C) := by
  have e2 : ((PySem.W.clsIn K C).isSome && PySem.W.typeIn K (.ref C) == some (.type "type")) = true := by
    have h2' : (PySem.W.clsIn K C).isSome = true := h2
    rw [h2', h3] <;> rfl
  show (if ((PySem.W.clsIn K C).isSome && PySem.W.typeIn K (.ref C) == some (.type "type")) = true then PySem.W.subIn K t (.ref C) else none) = _
  rw [if_pos e2]
theorem kitCls_type {T : String} (h : PySem.W.kitMeta T = true) (t : Value) : PySem.W.kitCls K t (.type T) = PySem.W.subIn K t (.type T) := by
  show (if PySem.W.kitMeta T = true then PySem.W.subIn K t (.type T) else none) = _
  rw [if_pos h]
theorem pu_isEO (i : Nat) (kn : List (Str × Bool)) {a : Addr} {oe : Obj} {c C m : Str} {pn : List (Addr × Obj)} {p p1 p2 pos : Pos} (hz : Zc (.ref (cls c)) none oe) (hf : ∃ vs, oe.data = .fields vs) (EC : ExcC X.K (cls c) ∧ PySem.W.subIn X.K (.ref (cls c)) (.ref (cls c)) = some true)
    (hkn : KnOk X.K cls (.ref (cls C)) kn) (F : ExF X.K X.mg cls C) (m1 : X.mg "isinstance" = none) (hg : Gl X "isinstance") (hgC : Gl X C)
    (hN : X.N[i]? = some m) (hv : Vis X.env.scope m) (hd : (m == ("__debug__" : Str)) = false := by decide) (hcd : (m == ("__classdict__" : Str)) = false := by decide) (hdC : (C == ("__debug__" : Str)) = false := by decide) :
    PE (X.suite a ((a, oe) :: pn)) (.Call (.Name "isinstance" p) [.Name m p1, .Name C p2] [] pos) (tE ⟨K, cls, some (i, a, c)⟩ W (uIsE i kn)) :=
  pu_isE (vc := .ref (cls C)) i kn hz hf EC.1 EC.2 hkn (kitCls_ref F.i F.t) (fun _ h => h) m1 hg hN hv (pe_glob (X := X.suite a ((a, oe) :: pn)) hgC F.g rfl hdC) hd hcd
theorem pu_isEV (i : Nat) (kn : List (Str × Bool)) {a : Addr} {oe : Obj} {c m : Str} {pn : List (Addr × Obj)} {p p1 p2 pos : Pos} (hz : Zc (.ref (cls c)) none oe) (hf : ∃ vs, oe.data = .fields vs) (EC : ExcC X.K (cls c) ∧ PySem.W.subIn X.K (.ref (cls c)) (.ref (cls c)) = some true)
    (hkn : KnOk X.K cls (.type "ValueError") kn) (mV : X.mg "ValueError" = none) (m1 : X.mg "isinstance" = none) (hg : Gl X "isinstance") (hgC : Gl X "ValueError")
    (hN : X.N[i]? = some m) (hv : Vis X.env.scope m) (hd : (m == ("__debug__" : Str)) = false := by decide) (hcd : (m == ("__classdict__" : Str)) = false := by decide) :
    PE (X.suite a ((a, oe) :: pn)) (.Call (.Name "isinstance" p) [.Name m p1, .Name "ValueError" p2] [] pos) (tE ⟨K, cls, some (i, a, c)⟩ W (uIsE i kn)) :=
  pu_isE (vc := .ty "ValueError") i kn hz hf EC.1 EC.2 hkn (kitCls_type (by decide +kernel)) (fun _ h => h) m1 hg hN hv (pe_bltn (X := X.suite a ((a, oe) :: pn)) hgC mV (by decide +kernel) rfl) hd hcd
/-! ### the facts of the top -/
def EcOk (K : PySem.W.Frag) (cls : Str → Addr) : List (Str × Bool) → Prop
  | [] => True
  | (c, b) :: r => (b = true → ExcC K (cls c) ∧ PySem.W.subIn K (.ref (cls c)) (.ref (cls c)) = some true) ∧ EcOk K cls r
theorem EcOk.nil {K : PySem.W.Frag} {cls : Str → Addr} : EcOk K cls [] := trivial
theorem EcOk.cons {K : PySem.W.Frag} {cls : Str → Addr} {c : Str} {r : List (Str × Bool)} (h : ExcC K (cls c) ∧ PySem.W.subIn K (.ref (cls c)) (.ref (cls c)) = some true) (hr : EcOk K cls r) : EcOk K cls ((c, true) :: r) := ⟨fun _ => h, hr⟩
theorem EcOk.skip {K : PySem.W.Frag} {cls : Str → Addr} {c : Str} {r : List (Str × Bool)} (hr : EcOk K cls r) : EcOk K cls ((c, false) :: r) := ⟨fun z => (nomatch z), hr⟩
theorem EcOk.get {K : PySem.W.Frag} {cls : Str → Addr} : ∀ {l : List (Str × Bool)}, EcOk K cls l → ∀ {c : Str}, l.lookup c = some true → ExcC K (cls c) ∧ PySem.W.subIn K (.ref (cls c)) (.ref (cls c)) = some true
  | [], _, _, h => by cases h
  | (c', b') :: r, h, c, e => by
    by_cases q : (c == c') = true
    · simp [List.lookup, q] at e
      subst e
      rw [beq_iff_eq.mp q]
      exact h.1 rfl
    · simp only [Bool.not_eq_true] at q
      simp [List.lookup, q] at e
      exact h.2.get e
def clsOf (mg : Str → Option Value) : Str → Addr := fun x => match mg x with | some (.ref a) => a | _ => 0
theorem clsOf_eq {mg : Str → Option Value} {x : Str} {a : Addr} (h : mg x = some (.ref a)) : clsOf mg x = a := by unfold clsOf; rw [h]
section
variable {h : Heap} {mg : Str → Option Value} {n c C : Str} {A B : Addr}
theorem exf_mk (X : K.In h) (G : h.Ns mainGlobals mg) (a : PySem.W.nsIn K mainGlobals n = some (some (.ref A))) (k : PySem.W.keepIn K (.ref A) = true) (b : PySem.W.subIn K (.ref A) (.type "BaseException") = some true) (t : PySem.W.typeIn K (.ref A) = some (.type "type")) (i : PySem.W.isClsIn K A = true) : ExF K mg (clsOf mg) n := by
  have e := clsOf_eq (PySem.W.mg_of X G a)
  exact ⟨by rw [e]; exact PySem.W.mg_of X G a, by rw [e]; exact k, by rw [e]; exact b, by rw [e]; exact t, by rw [e]; exact i⟩
theorem exm_mk (X : K.In h) (G : h.Ns mainGlobals mg) (a : PySem.W.nsIn K mainGlobals n = some (some (.ref A))) (k : PySem.W.keepIn K (.ref A) = true) (b : PySem.W.subIn K (.ref A) (.type "BaseException") = some true) (t : PySem.W.typeIn K (.ref A) = some (.type "type")) (i : PySem.W.isClsIn K A = true)
    (x : PySem.W.excIn K A [.type "ValueError", .type "Exception", .type "BaseException", .type "object"] "ValueError.__new__" = true) : ExM K mg (clsOf mg) n :=
  ⟨exf_mk X G a k b t i, by rw [clsOf_eq (PySem.W.mg_of X G a)]; exact x⟩
theorem sub_mk {b' : Bool} (X : K.In h) (G : h.Ns mainGlobals mg) (a : PySem.W.nsIn K mainGlobals c = some (some (.ref A))) (b : PySem.W.nsIn K mainGlobals C = some (some (.ref B))) (s : PySem.W.subIn K (.ref A) (.ref B) = some b') : PySem.W.subIn K (.ref (clsOf mg c)) (.ref (clsOf mg C)) = some b' := by
  rw [clsOf_eq (PySem.W.mg_of X G a), clsOf_eq (PySem.W.mg_of X G b)]
  exact s
theorem subT_mk {b' : Bool} {T : String} (X : K.In h) (G : h.Ns mainGlobals mg) (a : PySem.W.nsIn K mainGlobals c = some (some (.ref A))) (s : PySem.W.subIn K (.ref A) (.type T) = some b') : PySem.W.subIn K (.ref (clsOf mg c)) (.type T) = some b' := by
  rw [clsOf_eq (PySem.W.mg_of X G a)]
  exact s
theorem ec_mk (X : K.In h) (G : h.Ns mainGlobals mg) (a : PySem.W.nsIn K mainGlobals c = some (some (.ref A))) (s : PySem.W.subIn K (.ref A) (.ref A) = some true)
    (h1 : PySem.W.findIn K (.ref A) "__getattribute__" = some (some (.builtin "BaseException.__getattribute__"))) (h2 : PySem.W.findIn K (.ref A) "__getattr__" = some none) (h3 : PySem.W.subIn K (.ref A) (.type "BaseException") = some true) (h4 : PySem.W.hasDictIn K A = true)
    (h5 : PySem.W.findIn K (.ref A) "__class__" = some (some (.builtin "object.__class__"))) (h6 : PySem.W.specialIn K (.builtin "object.__class__") "__get__" = some (some (.builtin "getset_descriptor.__get__"))) (h7 : PySem.W.takesIn K (.builtin "object.__class__") = some true) (h8 : PySem.W.mroIn K A (.type "object") = some true) :
    ExcC K (clsOf mg c) ∧ PySem.W.subIn K (.ref (clsOf mg c)) (.ref (clsOf mg c)) = some true := by
  rw [clsOf_eq (PySem.W.mg_of X G a)]
  exact ⟨⟨h1, h2, h3, h4, h5, h6, h7, h8⟩, s⟩
end
end
end Dv

namespace Dv
open PySem PySem.Spec PyProof.Rows L2
section
variable {g : G} {R : Addr → Prop} {al al' : List Addr} {om om' : Om} {σ σ' : St} {ρ ρ' : Rho} {H H' : Hp} {W : WX} {X : Cx} {M M' L : Addr → Prop} {i : Nat} {a p : Addr} {e : Expr} {x : Str} {pos p2 : Pos} {d : D} {lo hi : Option Expr}
/-! ### a module's constants -/
/-- the name x of the module stands for d -/
def ConstOk (K : PySem.W.Frag) (mg : Str → Option Value) (x : Str) (d : D) : Prop := ∃ v u, mg x = some u ∧ RelV v u ∧ ∀ (cls : Str → Addr) (ex : Option (Nat × Addr × Str)) (al : List Addr) (L : Addr → Prop) (H : Hp), RepV ⟨K, cls, ex⟩ al L H v d
theorem pu_globC (hK : X.K = g.K) (h : ConstOk X.K X.mg x d) (hg : Gl X x := by rfl) (hd : (x == ("__debug__" : Str)) = false := by decide) : PE X (.Name x pos) (tE g W (uC d)) := by
  obtain ⟨v, u, hm, r, hr⟩ := h
  refine peImp (pe_glob hg hm r hd) fun σ H Q ⟨R, ρ, om, al, S, P⟩ => ?_
  exact P v H al .refl S (by
    have := hr g.cls g.ex al (LL R al om σ ρ) H
    rw [hK] at this
    exact this)
theorem const_int {K : PySem.W.Frag} {mg : Str → Option Value} {i : Int} {t : Tok} (h : mg x = some (.int i t)) : ConstOk K mg x (.int i) := ⟨.int i, _, h, ⟨t, rfl⟩, fun _ _ _ _ _ => .int⟩
theorem const_str {K : PySem.W.Frag} {mg : Str → Option Value} {i : Str} {t : Tok} (h : mg x = some (.str i t)) : ConstOk K mg x (.str i) := ⟨.str i, _, h, ⟨t, rfl⟩, fun _ _ _ _ _ => .str⟩
/-- a pair of whole numbers, written -/
theorem const_pair {K : PySem.W.Frag} {mg : Str → Option Value} {a : Addr} {i j : Int} {t1 t2 : Tok} {od : Option Addr} {n : Nat} {sl : Array (Option Value)} (h : mg x = some (.ref a)) (hl : K.lookup a = some ⟨.type "tuple", od, .seq #[.int i t1, .int j t2] n, sl⟩) : ConstOk K mg x (.tup [.int i, .int j]) :=
  ⟨.ref a, _, h, rfl, fun _ _ _ _ _ => .tup (vs := [.int i, .int j]) (.inr ⟨_, _, n, hl, rfl, rfl, by show 2 ≤ sizeLine; rw [sizeLine_eq]; omega, .cons ⟨t1, rfl⟩ (.cons ⟨t2, rfl⟩ .nil)⟩) (.cons .int (.cons .int .nil))⟩
/-! ### slices -/
@[simp] def uNoPart : UO := fun ρ ω => .ok none ρ ω
@[simp] def uPart (u : UE) : UO := fun ρ ω => (u ρ ω).bind fun d ρ ω => match d with
  | .int i => .ok (some i) ρ ω
  | _ => .no
theorem po_noneU : PO X none (tO g W uNoPart) := poImp po_none fun σ H Q ⟨R, ρ, om, al, S, P⟩ => P none H al .refl S rfl
theorem po_someU {u : UE} (h : PE X e (tE g W u)) : PO X (some e) (tO g W (uPart u)) := poImp (po_some h) fun σ H Q ⟨R, ρ, om, al, S, P⟩ =>
  tR_bind (rel := relV) S P fun t ρ1 om1 y H1 al1 s1 S1 r1 P1 => by
    cases t with
    | int i =>
      cases (show RepV g al1 (LL R al1 om1 σ ρ1) H1 y (.int i) from r1)
      exact ⟨i, rfl, P1 (some i) H1 al1 .refl S1 rfl⟩
    | _ => exact P1.elim
def cutD (xs : List D) (lo hi : Option Int) : List D := (xs.drop (HT.sIx xs.length 0 lo)).take (HT.sIx xs.length xs.length hi - HT.sIx xs.length 0 lo)
@[simp] def uSlW (u : UE) (l h : UO) : UW := fun ρ ω => (u ρ ω).bind fun d ρ ω => (l ρ ω).bind fun a ρ ω => (h ρ ω).bind fun b ρ ω => match dItems d with
  | some xs => .ok (cutD xs a b) ρ ω
  | none => .no
theorem pu_slW {u : UE} {l h : UO} (hK : X.K = g.K) (he : PE X e (tE g W u)) (hl : PO X lo (tO g W l)) (hh : PO X hi (tO g W h)) : PE X (.Subscript e (.Slice lo hi none p2) pos) (tOw g W (uSlW u l h)) :=
  peImp (pe_slice sl_list he hl hh) fun σ H Q ⟨R, ρ, om, al, S, P⟩ =>
    tR_bindO (rel := relV) S P fun d ρ1 om1 v H1 al1 s1 S1 r1 P1 => tR_bindO (rel := relO) S1 P1 fun a ρ2 om2 y2 H2 al2 s2 S2 r2 P2 => tR_bindO (rel := relO) S2 P2 fun b ρ3 om3 y3 H3 al3 s3 S3 r3 P3 => by
      cases (show y2 = a from r2)
      cases (show y3 = b from r3)
      have r : RepV g al3 (LL R al3 om3 σ ρ3) H3 v d := s3.rep S2 (s2.rep S1 r1)
      have fin : ∀ {c : Addr} {xs : List D} {vs : List V}, v = .ref c → dItems d = some xs → SqL g.K H3 c vs → RepVs g al3 (LL R al3 om3 σ ρ3) H3 vs xs → rSlL X.K v a b H3 Q := fun {c xs vs} ev ed hs rs => by
        rw [ed] at P3
        refine ⟨c, vs, ev, by rw [hK]; exact hs, fun p hp => okOwn S3 P3 hp ?_⟩
        unfold cutV cutD
        rw [rs.length]
        exact (rs.drop _).take _
      cases r with
      | lst h n r9 => exact fin rfl rfl (SqL.of h) r9
      | frz h r9 => exact fin rfl rfl h.sq r9
      | _ => exact P3.elim
@[simp] def uSlS (u : UE) (l h : UO) : UE := fun ρ ω => (u ρ ω).bind fun d ρ ω => (l ρ ω).bind fun a ρ ω => (h ρ ω).bind fun b ρ ω => match d with
  | .str z => if z.length ≤ big then .ok (.str (cutS z a b)) ρ ω else .no
  | _ => .no
theorem pu_slS {u : UE} {l h : UO} (he : PE X e (tE g W u)) (hl : PO X lo (tO g W l)) (hh : PO X hi (tO g W h)) : PE X (.Subscript e (.Slice lo hi none p2) pos) (tE g W (uSlS u l h)) :=
  peImp (pe_slice sl_str he hl hh) fun σ H Q ⟨R, ρ, om, al, S, P⟩ =>
    tR_bind (rel := relV) S P fun d ρ1 om1 v H1 al1 s1 S1 r1 P1 => tR_bind (rel := relO) S1 P1 fun a ρ2 om2 y2 H2 al2 s2 S2 r2 P2 => tR_bind (rel := relO) S2 P2 fun b ρ3 om3 y3 H3 al3 s3 S3 r3 P3 => by
      cases (show y2 = a from r2)
      cases (show y3 = b from r3)
      cases d with
      | str z =>
        cases (show RepV g al1 (LL R al1 om1 σ ρ1) H1 v (.str z) from r1)
        dsimp only at P3
        split at P3
        · rename_i hz
          exact ⟨z, rfl, big_line hz, P3 _ H3 al3 .refl S3 .str⟩
        · exact P3.elim
      | _ => exact P3.elim
/-! ### comprehensions -/
def clrs (ρ : Rho) : List Nat → Rho
  | [] => ρ
  | v :: vs => (clrs ρ vs).set v none
theorem Rst.forgets (S : Rst g R al σ ρ om H) : ∀ vs : List Nat, Rst g R al (wipe σ vs) (clrs ρ vs) om H ∧ Step al (Mt al om σ ρ) H al (Mt al om (wipe σ vs) (clrs ρ vs)) H
  | [] => ⟨S, .refl⟩
  | v :: vs => by
    obtain ⟨S1, s1⟩ := S.forgets vs
    obtain ⟨S2, s2⟩ := S1.forget v none
    exact ⟨S2, s1.trans s2⟩
theorem clrs_get {ρ : Rho} {i : Nat} {s : Sl} : ∀ {vs : List Nat}, (clrs ρ vs)[i]? = some (some s) → i ∉ vs
  | [], _ => by simp
  | v :: vs, h => by
    rcases getset h with ⟨_, q⟩ | ⟨n, q⟩
    · cases q
    · simp only [List.mem_cons, not_or]
      exact ⟨n, clrs_get q⟩
theorem wipe_out {σ : St} {i : Nat} : ∀ {vs : List Nat}, i ∉ vs → (wipe σ vs)[i]? = σ[i]?
  | [], _ => rfl
  | v :: vs, h => by
    simp only [List.mem_cons, not_or] at h
    show ((wipe σ vs).set v none)[i]? = _
    rw [List.getElem?_set_ne (Ne.symm h.1), wipe_out h.2]
theorem wipe_in {σ : St} {i : Nat} : ∀ {vs : List Nat}, i ∈ vs → (wipe σ vs)[i]? = if i < σ.length then some none else none
  | v :: vs, h => by
    show ((wipe σ vs).set v none)[i]? = _
    rw [List.getElem?_set]
    split
    · rename_i e
      subst e
      rw [wipe_length]
    · rename_i n
      rcases List.mem_cons.mp h with q | q
      · exact absurd q.symm n
      · exact wipe_in q
/-- outside of vs the slots are the same -/
def Out (vs : List Nat) (σ σ' : St) : Prop := σ'.length = σ.length ∧ ∀ j, j ∉ vs → σ'[j]? = σ[j]?
theorem Out.wipe {vs : List Nat} {σ σ' : St} (h : Out vs (wipe σ vs) σ') : L2.wipe σ' vs = L2.wipe σ vs := by
  have hl : σ'.length = σ.length := by rw [h.1, wipe_length]
  refine List.ext_getElem? fun j => ?_
  by_cases q : j ∈ vs
  · rw [wipe_in q, wipe_in q, hl]
  · rw [wipe_out q, h.2 j q]
theorem Rst.agree (S : Rst g R al σ ρ om H) (hl : σ'.length = σ.length) (h : ∀ (i : Nat) (s : Sl), ρ[i]? = some (some s) → σ'[i]? = σ[i]?) : Rst g R al σ' ρ om H ∧ (∀ a, Mt al om σ' ρ a ↔ Mt al om σ ρ a) := by
  have o : ∀ a, OwnA σ' ρ a ↔ OwnA σ ρ a := fun a => ⟨fun ⟨i, ds, h1, h2⟩ => ⟨i, ds, h1, by rw [← h i _ h1]; exact h2⟩, fun ⟨i, ds, h1, h2⟩ => ⟨i, ds, h1, by rw [h i _ h1]; exact h2⟩⟩
  have m : ∀ a, Mt al om σ' ρ a ↔ Mt al om σ ρ a := fun a => or_congr Iff.rfl (o a)
  have ll : ∀ a, LL R al om σ' ρ a → LL R al om σ ρ a := fun a q => q.imp (m a).mp id
  have st : Step al (Mt al om σ ρ) H al (Mt al om σ' ρ) H := .grow (fun _ _ h _ => h) fun a q => .inl ((m a).mp q)
  refine ⟨S.chg st (fun b h => rfl) ⟨by rw [hl]; exact S.sl.len, fun j a c x e q => by rw [h j _ q]; exact S.sl.exc j a c x e q⟩ (fun b h => (S.o.rsv b h).2) (fun j d q => .inl ⟨q, h j _ q⟩) (fun j dj q => .inl ⟨q, h j _ q, fun _ _ => rfl⟩) (fun j k b dj dk h1 h2 h3 h4 => S.odj j k b dj dk h1 h2 (by rw [← h j _ h1]; exact h3) (by rw [← h k _ h2]; exact h4)) (fun b q => S.ocl b ((o b).mp q)), m⟩
/-- the reserved list is written -/
theorem Rst.updRes {vs vs' : List V} (S : Rst g (Rp R p) al σ ρ om H) (hp : H p = some (.lst vs)) : Rst g (Rp R p) al σ ρ om (upd H p (.lst vs')) ∧ Car g al (LL (Rp R p) al om σ ρ) H al (LL (Rp R p) al om σ ρ) (upd H p (.lst vs')) := by
  have np : ¬ Mt al om σ ρ p := fun m => by
    rcases m with m | m
    · exact (S.o.rsv p (.inr rfl)).1 m
    · exact (S.ocl p m).2 (.inr rfl)
  have cr : Car g al (LL (Rp R p) al om σ ρ) H al (LL (Rp R p) al om σ ρ) (upd H p (.lst vs')) := by
    have no : ∀ {a : Addr} {o : HO}, H a = some o → (∀ xs, o ≠ .lst xs) → upd H p (.lst vs') a = some o := fun {a o} h n => by
      rw [upd_ne]
      · exact h
      · intro z; rw [z, hp] at h; cases h; exact n _ rfl
    refine ⟨fun a xs h => ?_, fun a xs h n => ⟨?_, n⟩, fun a xs h => ?_, fun a C dx fs h n => ⟨no h fun _ z => (by cases z), n⟩, fun _ _ h => h⟩
    · rcases h with (h | ⟨o, h⟩) | h
      · exact .inl (.inl (no h fun _ z => (by cases z)))
      · exact .inl (.inr ⟨o, no h fun _ z => (by cases z)⟩)
      · exact .inr h
    · rw [upd_ne]
      · exact h
      · intro z; exact n (.inr (.inr z))
    · rcases h with ⟨o, h⟩ | h
      · exact .inl ⟨o, no h fun _ z => (by cases z)⟩
      · exact .inr h
  refine ⟨⟨⟨S.o.len, fun j c b h1 h2 => ?_, S.o.inj, fun b q => ⟨(S.o.rsv b q).1, ?_⟩⟩, S.sl, fun j d h => ?_, fun j dj h => ?_, S.odj, S.ocl⟩, cr⟩
  · refine (S.o.cel j c b h1 h2).car cr (fun xs e n => ?_) (fun C dx fs e n => ?_)
    · rw [upd_ne (fun z => np (.inl ⟨j, c, by rw [← z]; exact h2, h1, n⟩))]; exact e
    · rw [upd_ne (fun z => np (.inl ⟨j, c, by rw [← z]; exact h2, h1, n⟩))]; exact e
  · by_cases z : b = p
    · rw [z, upd_same]; simp
    · rw [upd_ne z]; exact (S.o.rsv b q).2
  · obtain ⟨v, e, r⟩ := S.val j d h
    exact ⟨v, e, r.car cr⟩
  · obtain ⟨b, ws, e, e2, r⟩ := S.own j dj h
    exact ⟨b, ws, e, by rw [upd_ne (fun z => np (.inr ⟨j, dj, h, by rw [← z]; exact e⟩))]; exact e2, r.car cr⟩
def goC (G : UG) (tt : UT) (te : UE) (vs : List Nat) : List D → List D → UW
  | [], acc => fun ρ ω => .ok acc ρ ω
  | d :: r, acc => fun ρ ω => match G d ρ with
    | none => .no
    | some ρ1 => match tt ρ1 ω with
      | .ok b ρ2 ω2 => if b = true then (match te ρ2 ω2 with
        | .ok y ρ3 ω3 => if acc.length < big then goC G tt te vs r (acc ++ [y]) (clrs ρ3 vs) ω3 else .no
        | _ => .no) else goC G tt te vs r acc (clrs ρ2 vs) ω2
      | _ => .no
def uLc (s : UI) (G : UG) (tt : UT) (te : UE) (vs : List Nat) : UW := fun ρ ω => (s ρ ω).bind fun ds ρ ω => goC G tt te vs ds [] (clrs ρ vs) ω
def tGv (g : G) (vs : List Nat) (u : UG) : TG := fun v σ H Q => ∃ R ρ om al d ρ', Rst g R al σ ρ om H ∧ RepV g al (LL R al om σ ρ) H v d ∧ u d ρ = some ρ' ∧ ∀ σ', Out vs σ σ' → Step al (Mt al om σ ρ) H al (Mt al om σ' ρ') H → Rst g R al σ' ρ' om H → Q σ' H
theorem tI_bindO {u : UI} {f : List D → Rho → Om → Res (List D)} {Q : It → Hp → Prop} {Q2 : VK} (S : Rst g R al σ ρ om H)
    (P : PostO g R W al (Mt al om σ ρ) H σ ((u ρ om).bind f) Q2)
    (k : ∀ t ρ' om' J H' al', Step al (Mt al om σ ρ) H al' (Mt al' om' σ ρ') H' → Rst g R al' σ ρ' om' H' → ItS g J t R al' (Mt al' om' σ ρ') H' → PostO g R W al' (Mt al' om' σ ρ') H' σ (f t ρ' om') Q2 → Q J H') : tI g W u σ H Q := by
  refine ⟨R, ρ, om, al, S, ?_⟩
  cases e : u ρ om with
  | ok t ρ' om' =>
    rw [e] at P
    exact fun y H' al' s S' r => k t ρ' om' y H' al' s S' r (PostO.step s P)
  | xc x ρ' om' => rw [e] at P; exact P
  | no => rw [e] at P; exact P
theorem Step.or (s : Step al M H al' M' H') : Step al (fun a => M a ∨ a = p) H al' (fun a => M' a ∨ a = p) H' := ⟨s.ext, fun a o h n => s.keep a o h fun m => n (.inl m), fun a m => m.elim (fun m => (s.fresh a m).imp .inl id) fun z => .inl (.inr z)⟩
@[simp] def uYes : UT := fun ρ ω => .ok true ρ ω
theorem pts_nilU : PTs X [] (tT g W uYes) := ⟨fun pins s σ H Q I ⟨R, ρ, om, al, S, P⟩ => pts_nil.run pins s σ H Q I (P true H al .refl S rfl)⟩
theorem pts_oneU {c : Expr} {u : UT} (h : PT X c (tT g W u)) : PTs X [c] (tT g W u) := pts_one h
theorem tLc_of {us : UI} {G' : UG} {tt : UT} {te : UE} {vs : List Nat} {σ : St} {H : Hp} {Q : VK} (h : tOw g W (uLc us G' tt te vs) σ H Q) : tLc (tI g W us) (tGv g vs G') (tT g WF tt) (tE g WF te) vs σ H Q := by
  obtain ⟨R, ρ, om, al, S, P⟩ := h
  refine tI_bindO S P fun ds ρ1 om1 J H1 al1 s1 S1 it P1 => ?_
  intro D0 hD
  obtain ⟨S2, s2⟩ := S1.forgets vs
  obtain ⟨S3, c3⟩ := S2.newRes (o := .lst []) hD
  have nR : ¬ R D0 := fun z => (S1.o.rsv D0 z).2 hD
  -- behind i turns
  refine ⟨fun i n H' => n + i = ds.length ∧ ∃ ρ' om' al' accV acc, Step al1 (Mt al1 om1 σ ρ1) H1 al' (fun a => Mt al' om' (wipe σ vs) ρ' a ∨ a = D0) H' ∧ Rst g (Rp R D0) al' (wipe σ vs) ρ' om' H' ∧ (∀ i s, ρ'[i]? = some (some s) → i ∉ vs) ∧ H' D0 = some (.lst accV) ∧ RepVs g al' (LL (Rp R D0) al' om' (wipe σ vs) ρ') H' accV acc ∧
      PostO g R W al1 (Mt al1 om1 σ ρ1) H1 σ (goC G' tt te vs (ds.drop i) acc ρ' om') Q,
    ⟨ds.length, rfl, clrs ρ1 vs, om1, al1, [], [], ?_, S3, fun i s h => clrs_get h, upd_same, .nil, P1⟩, ?_⟩
  · refine s2.trans (.grow (fun b o h n => upd_keep hD b o h) fun b m => ?_)
    rcases m with m | m
    · exact .inl m
    · exact .inr (by rw [m]; exact hD)
  rintro i n H2 ⟨hn, ρ2, om2, al2, accV, acc, t2, S4, cl2, hacc, racc, P2⟩
  obtain ⟨S4', c4', n4⟩ := S4.lessp nR
  have w2 : Step al1 (Mt al1 om1 σ ρ1) H1 al2 (Mt al2 om2 (wipe σ vs) ρ2) H2 := ⟨t2.ext, t2.keep, fun a m => t2.fresh a (.inl m)⟩
  have t := it (Rp R D0) (wipe σ vs) ρ2 om2 al2 H2 i (fun a h => h.imp id fun z => by rw [z]; exact hD) w2 S4
  by_cases hi : i < ds.length
  · obtain ⟨go, yl⟩ := t.1 hi
    refine .inr ⟨go, fun H' => ∃ ρ' om' al' accV acc, Step al1 (Mt al1 om1 σ ρ1) H1 al' (fun a => Mt al' om' (wipe σ vs) ρ' a ∨ a = D0) H' ∧ Rst g (Rp R D0) al' (wipe σ vs) ρ' om' H' ∧ (∀ i s, ρ'[i]? = some (some s) → i ∉ vs) ∧ H' D0 = some (.lst accV) ∧ RepVs g al' (LL (Rp R D0) al' om' (wipe σ vs) ρ') H' accV acc ∧
        PostO g R W al1 (Mt al1 om1 σ ρ1) H1 σ (goC G' tt te vs (ds.drop (i + 1)) acc ρ' om') Q, fun H' h => ⟨n - 1, by omega, by omega, h⟩, fun x H3 hy => ?_⟩
    obtain ⟨S5, s5, d, hd, r⟩ := yl x H3 hy
    have e : ds.drop i = d :: ds.drop (i + 1) := by
      obtain ⟨hl, e⟩ := List.getElem?_eq_some_iff.mp hd
      rw [← e]
      exact List.drop_eq_getElem_cons hl
    rw [e] at P2
    unfold goC at P2
    cases eg : G' d ρ2 with
    | none => rw [eg] at P2; exact P2.elim
    | some ρ3 =>
      rw [eg] at P2
      refine ⟨Rp R D0, ρ2, om2, al2, d, ρ3, S5, r, eg, fun σ4 o4 s4 S6 => ⟨o4.wipe, Rp R D0, ρ3, om2, al2, S6, ?_⟩⟩
      dsimp only at P2
      cases et : tt ρ3 om2 with
      | xc _ _ _ => rw [et] at P2; exact P2.elim
      | no => rw [et] at P2; exact P2.elim
      | ok b ρ5 om5 =>
        rw [et] at P2
        dsimp only at P2
        intro y7 H7 al7 s7 S7 e7
        cases (show y7 = b from e7)
        have ns : ∀ {a : Addr}, ¬ Mt al2 om2 (wipe σ vs) ρ2 a → a = D0 → True := fun _ _ => trivial
        have kD : ∀ {al : List Addr} {om : Om} {σ : St} {ρ : Rho} {H : Hp}, Rst g (Rp R D0) al σ ρ om H → ¬ Mt al om σ ρ D0 := fun S m => by
          rcases m with m | m
          · exact (S.o.rsv D0 (.inr rfl)).1 m
          · exact (S.ocl D0 m).2 (.inr rfl)
        have st7 := (s5.trans s4).trans s7
        have hD7 : H7 D0 = some (.lst accV) := st7.keep D0 _ hacc (kD S4)
        have ra7 := st7.reps S4 racc
        cases b with
        | false =>
          simp only [Bool.false_eq_true, if_false] at P2 ⊢
          obtain ⟨S8, s8⟩ := S7.forgets vs
          rw [o4.wipe] at S8 s8
          exact ⟨clrs ρ5 vs, om5, al7, accV, acc, t2.trans (st7.trans s8).or, S8, fun i s h => clrs_get h, by exact hD7, s8.reps S7 ra7, P2⟩
        | true =>
          simp only [if_true] at P2 ⊢
          refine ⟨Rp R D0, ρ5, om5, al7, S7, ?_⟩
          cases ee : te ρ5 om5 with
          | xc _ _ _ => rw [ee] at P2; exact P2.elim
          | no => rw [ee] at P2; exact P2.elim
          | ok y ρ6 om6 =>
            rw [ee] at P2
            dsimp only at P2
            split at P2
            · rename_i hz
              intro yv H9 al9 s9 S9 ry
              have hD9 : H9 D0 = some (.lst accV) := s9.keep D0 _ hD7 (kD S7)
              have ra9 := s9.reps S7 ra7
              have hlen : accV.length < sizeLine := by rw [ra9.length]; exact Nat.lt_of_lt_of_le hz (big_line (Nat.le_refl _))
              refine ⟨accV, hD9, hlen, ?_⟩
              obtain ⟨S10, c10⟩ := S9.updRes (vs' := accV ++ [yv]) hD9
              obtain ⟨S11, s11⟩ := S10.forgets vs
              rw [o4.wipe] at S11 s11
              refine ⟨clrs ρ6 vs, om6, al9, accV ++ [yv], acc ++ [y], t2.trans ((st7.trans s9).or.trans ?_), S11, fun i s h => clrs_get h, upd_same, s11.reps S10 ((ra9.append (.cons ry .nil)).car c10), P2⟩
              refine ⟨fun _ _ h => h, fun b o h n => ?_, fun b m => ?_⟩
              · rw [upd_ne fun z => n (.inr z)]; exact h
              · rcases m with m | m
                · rcases s11.fresh b m with q | q
                  · exact .inl (.inl q)
                  · by_cases z : b = D0
                    · exact .inl (.inr z)
                    · rw [upd_ne z] at q; exact .inr q
                · exact .inl (.inr m)
            · exact P2.elim
  · rw [List.drop_eq_nil_of_le (by omega)] at P2
    refine .inl ⟨t.2 (by omega), ?_⟩
    unfold goC at P2
    have hout : ∀ (j : Nat) (s : Sl), ρ2[j]? = some (some s) → σ[j]? = (wipe σ vs)[j]? := fun j s h => (wipe_out (cl2 j s h)).symm
    obtain ⟨S7, m7⟩ := S4.agree (σ' := σ) (by rw [wipe_length]) hout
    refine P2 D0 accV H2 al2 ⟨t2.ext, t2.keep, fun a m => t2.fresh a (m.imp (m7 a).mp id)⟩ S7 nR hacc (racc.car (carL fun a m => ?_))
    exact m.imp (m7 a).mp id
variable {q1 : Pos} {kk : Nat} {a1 b1 : Expr} {y : Str}
theorem pu_lc {elt tg iter : Expr} {ifs : List Expr} {scope : Scope} {us : UI} {G' : UG} {tt : UT} {te : UE} (own : List (Str × Nat)) (hc : X.calm = true) (hN : X.N.Nodup) (hi : PI X tg iter (tI g W us)) (ok : BlkOk X.N X.env.scope scope own)
    (hg : ∀ (s : Shared) (H : Hp) (C : Addr) (cl : List (Str × Addr)) (fp : List Addr), PG (X.blk s H scope (compEnvC scope cl C X.env) fp) tg (tGv g (own.map (·.2)) G')) (ht : ∀ (s : Shared) (H : Hp) (C : Addr) (cl : List (Str × Addr)) (fp : List Addr), PTs (X.blk s H scope (compEnvC scope cl C X.env) fp) ifs (tT g WF tt))
    (he : ∀ (s : Shared) (H : Hp) (C : Addr) (cl : List (Str × Addr)) (fp : List Addr), PE (X.blk s H scope (compEnvC scope cl C X.env) fp) elt (tE g WF te)) (hs : ∀ x, foldedSetIterable iter X.env x = pure x := by intro _; rfl) :
    PE X (.ListComp elt [⟨tg, iter, ifs, 0⟩] scope pos) (tOw g W (uLc us G' tt te (own.map (·.2)))) :=
  peImp (pe_lc hc hN hi ok hg ht he hs) fun σ H Q h => tLc_of h
/-- name = [..] -/
theorem ps_setLcU (i : Nat) {y : Str} {py : Pos} {elt tg iter : Expr} {ifs : List Expr} {scope : Scope} {pos spos : Pos} {us : UI} {G' : UG} {tt : UT} {te : UE} (own : List (Str × Nat)) (hc : X.calm = true) (hN : X.N.Nodup)
    (hsw : swapsWith (.ListComp elt [⟨tg, iter, ifs, 0⟩] scope pos) (some (.Name y py)) spos.line X.env = pure true) (hi : PI X tg iter (tI g W us)) (ok : BlkOk X.N X.env.scope scope own)
    (hg : ∀ (s : Shared) (H : Hp) (C : Addr) (cl : List (Str × Addr)) (fp : List Addr), PG (X.blk s H scope (compEnvC scope cl C X.env) fp) tg (tGv g (own.map (·.2)) G')) (ht : ∀ (s : Shared) (H : Hp) (C : Addr) (cl : List (Str × Addr)) (fp : List Addr), PTs (X.blk s H scope (compEnvC scope cl C X.env) fp) ifs (tT g WF tt))
    (he : ∀ (s : Shared) (H : Hp) (C : Addr) (cl : List (Str × Addr)) (fp : List Addr), PE (X.blk s H scope (compEnvC scope cl C X.env) fp) elt (tE g WF te)) (hy : X.N[i]? = some y := by rfl) (hyl : X.env.scope.names.lookup y = some .local := by rfl) (hs : ∀ x, foldedSetIterable iter X.env x = pure x := by intro _; rfl) :
    PS X (.Assign [.Name y py] (.ListComp elt [⟨tg, iter, ifs, 0⟩] scope pos) spos) (tS g W (sAsg i (uFz (uLc us G' tt te (own.map (·.2)))))) :=
  psImp (ps_setLc hc hN hy hyl hsw hi ok hg ht he hs) fun De σ H ⟨R, ρ, om, al, S, P⟩ => by
    have P' : PostS g R W al (Mt al om σ ρ) H (RS.of (uLc us G' tt te (own.map (·.2)) ρ om) fun ds ρ ω => .nx (ρ.set i (some (.val (.lst ds)))) ω) De := by
      simp only [sAsg, uFz] at P
      cases e : uLc us G' tt te (own.map (·.2)) ρ om with
      | ok ds ρ' om' => rw [e] at P; exact P
      | xc x ρ' om' => rw [e] at P; exact P
      | no => rw [e] at P; exact P
    refine tLc_of (tOw_bindS S P' fun ds ρ' om' p vs H' al' s S' n hp r P2 => ?_)
    obtain ⟨S2, c, n2⟩ := S'.lessp n
    exact set_of S2 (.lst hp n2 (r.car c)) (PostS.step ⟨fun _ _ h => h, fun _ _ h _ => h, fun a m => .inl (.inl m)⟩ P2)
theorem ps_setLcO (i : Nat) {y : Str} {py : Pos} {elt tg iter : Expr} {ifs : List Expr} {scope : Scope} {pos spos : Pos} {us : UI} {G' : UG} {tt : UT} {te : UE} (own : List (Str × Nat)) (hc : X.calm = true) (hN : X.N.Nodup)
    (hsw : swapsWith (.ListComp elt [⟨tg, iter, ifs, 0⟩] scope pos) (some (.Name y py)) spos.line X.env = pure true) (hi : PI X tg iter (tI g W us)) (ok : BlkOk X.N X.env.scope scope own)
    (hg : ∀ (s : Shared) (H : Hp) (C : Addr) (cl : List (Str × Addr)) (fp : List Addr), PG (X.blk s H scope (compEnvC scope cl C X.env) fp) tg (tGv g (own.map (·.2)) G')) (ht : ∀ (s : Shared) (H : Hp) (C : Addr) (cl : List (Str × Addr)) (fp : List Addr), PTs (X.blk s H scope (compEnvC scope cl C X.env) fp) ifs (tT g WF tt))
    (he : ∀ (s : Shared) (H : Hp) (C : Addr) (cl : List (Str × Addr)) (fp : List Addr), PE (X.blk s H scope (compEnvC scope cl C X.env) fp) elt (tE g WF te)) (hy : X.N[i]? = some y := by rfl) (hyl : X.env.scope.names.lookup y = some .local := by rfl) (hs : ∀ x, foldedSetIterable iter X.env x = pure x := by intro _; rfl) :
    PS X (.Assign [.Name y py] (.ListComp elt [⟨tg, iter, ifs, 0⟩] scope pos) spos) (tS g W (sAsgO i (uLc us G' tt te (own.map (·.2))))) :=
  psImp (ps_setLc hc hN hy hyl hsw hi ok hg ht he hs) fun De σ H ⟨R, ρ, om, al, S, P⟩ =>
    tLc_of (tOw_bindS S P fun ds ρ' om' p vs H' al' s S' n hp r P2 => setO_of S' n hp r P2)
theorem pg_nameC (i : Nat) (hN : X.N.Nodup) (hi : X.N[i]? = some x := by rfl) (hx : Loc X.env.scope x := by first | exact Or.inl rfl | exact Or.inr rfl) (hf : X.fn x = true ∨ X.env.scope.names.lookup x = some .local := by first | exact .inl rfl | exact .inr rfl) : PG X (.Name x pos) (tGv g [i] (gN i)) :=
  ⟨fun pins s σ H v u Q I r ⟨R, ρ, om, al, d, ρ', S, rv, e, k⟩ => (pg_name hN hi hx hf).run pins s σ H v u Q I r (by
    cases e
    refine gset (i := i) (Q := fun σ' H' => Q σ' H') S rv fun σ1 e1 s1 S1 => k σ1 ⟨by rw [e1, List.length_set], fun j hj => ?_⟩ s1 S1
    rw [e1, List.getElem?_set_ne]
    intro z; exact hj (by rw [z]; simp))⟩
theorem pg_tup2C (i j : Nat) (hK : X.K = g.K) (hc : X.calm = true) (h1 : PG X a1 (gName i)) (h2 : PG X b1 (gName j)) (hp : (assignEach [a1, b1] X.env).map (·.2) = assign a1 X.env :: (assignEach [b1] X.env).map (·.2) := by rfl) (hp2 : (assignEach [b1] X.env).map (·.2) = assign b1 X.env :: (assignEach [] X.env).map (·.2) := by rfl)
    (hn : (assignEach [a1, b1] X.env).length = 2 := by rfl) (hst : (assignEach [a1, b1] X.env).findIdx? (·.1) = none := by rfl) : PG X (.Tuple [a1, b1] kk pos) (tGv g [i, j] (gT2 i j)) :=
  ⟨fun pins s σ H v w Q I r ⟨R, ρ, om, al, d, ρ', S, rv, e, k⟩ => (pg_tup hc (pgs_cons h1 (pgs_cons h2 pgs_nil hp2) hp) hn hst).run pins s σ H v w Q I r (by
    simp only [gT2] at e
    split at e
    · cases e
      cases rv with
      | @tup ta vs _ ht rs =>
        cases rs with
        | cons ra rs => cases rs with
          | cons rb rs =>
            cases rs
            refine ⟨ta, _, rfl, by rw [hK]; exact ht, rfl, _, _, rfl, ?_⟩
            refine gset (i := i) (Q := fun σ' H' => (gCons (gName j) gNil) _ σ' H' Q) S ra fun σ1 e1 s1 S1 => ⟨_, _, rfl, ?_⟩
            refine gset (i := j) (Q := fun σ' H' => gNil _ σ' H' Q) S1 (s1.rep S rb) fun σ2 e2 s2 S2 => ⟨rfl, ?_⟩
            refine k σ2 ⟨by rw [e2, e1, List.length_set, List.length_set], fun l hl => ?_⟩ (s1.trans s2) S2
            simp only [List.mem_cons, List.not_mem_nil, or_false, not_or] at hl
            rw [e2, e1, List.getElem?_set_ne (fun z => hl.2 z.symm), List.getElem?_set_ne (fun z => hl.1 z.symm)]
    · cases e)⟩
end
end Dv

set_option maxHeartbeats 4000000
namespace Dv
open PySem PySem.Spec PyProof.Rows L2
local macro_rules | `(tactic| walk_at "ev") => `(tactic| try simp (disch := omega) only [sSeq_eq, seq_nx, seq_rt, seq_rto, seq_xc, seq_bk, seq_ct, seq_ite, sAsg, sAsgO, sExpr, sRet, sRetO, sRetN, sIf, sNext, uVar, uC, uUn, uBin, uB, uNot, uAnd, uOr, uTV, uAndV, uOrV, uNotV, uIf, uChain, uNil, uCons, uTup, uLst, uLstO, uFn, uFnO, uFz, uMv, uNew, uCall, uCallO, uCallN, uBinV, uBinW, uBinL, uMeO, uMeL, uFnV, sSetL, sAsgG, gN, gT2, gT3, gT4, iLst, iFn,   bind_ok, bind_xc, of_ok, of_xc, res_ok, res_xc, res0_ok, own_ok, own_xc, fr_nx, fr_rt, fr_rto, fr_xc, fo_rto, fo_xc, liftO_some, dBool_bl, items_lst, items_frz, ent, defU, defO, List.map_cons, List.map_nil, List.length_cons, List.length_nil, List.cons_append, List.nil_append, List.append_nil, List.replicate, List.getElem?_cons_zero, List.getElem?_cons_succ, List.set_cons_zero, List.set_cons_succ, Nat.zero_add, Nat.reduceAdd, Nat.reduceSub, Nat.reduceLeDiff,   le_big, lt_big, atN_zero, atN_one, atN_two, atN_three, setN_zero, setN_one, popAt_zero, len_zero, len_succ, dMul_r, dMul_l, dDiv_pos, dMod_pos, dAdd_int, dSub_int, dNeg_int, dLt_int, dLe_int, dGt_int, dGe_int, dEq_int, dNe_int, dEq_bl, dNe_bl, dEq_nil, dNe_nil, dIx_lst, dIx_tup, fAbs_int, fInt_bl, fInt_int, fLen_lst, fLen_frz, fLen_tup, ite_true, ite_false, if_true, if_false, Bool.not_true, Bool.not_false, decide_true, decide_false, Bool.true_eq_false, Bool.false_eq_true, reduceIte, reduceCtorEq, turn_nx, turn_ct, turn_bk, turn_rt, turn_rto, turn_xc, sFor_eq, goL_nil, eq_self])
local macro_rules | `(tactic| walk_at "evs") => `(tactic| try simp (disch := omega) only [sSeq_eq, seq_nx, seq_rt, seq_rto, seq_xc, seq_bk, seq_ct, seq_ite, sAsg, sAsgO, sExpr, sRet, sRetO, sRetN, sIf, sNext, uVar, uC, uUn, uBin, uB, uNot, uAnd, uOr, uTV, uAndV, uOrV, uNotV, uIf, uChain, uNil, uCons, uTup, uLst, uLstO, uFn, uFnO, uFz, uMv, uNew, uCall, uCallO, uCallN, uBinV, uBinW, uBinL, uMeO, uMeL, uFnV, sSetL, sAsgG, gN, gT2, gT3, gT4, iLst, iFn,   bind_ok, bind_xc, of_ok, of_xc, res_ok, res_xc, res0_ok, own_ok, own_xc, fr_nx, fr_rt, fr_rto, fr_xc, fo_rto, fo_xc, liftO_some, dBool_bl, items_lst, items_frz, ent, defU, defO, List.map_cons, List.map_nil, List.length_cons, List.length_nil, List.cons_append, List.nil_append, List.append_nil, List.replicate, List.getElem?_cons_zero, List.getElem?_cons_succ, List.set_cons_zero, List.set_cons_succ, Nat.zero_add, Nat.reduceAdd, Nat.reduceSub, Nat.reduceLeDiff,   le_big, lt_big, atN_zero, atN_one, atN_two, atN_three, setN_zero, setN_one, popAt_zero, len_zero, len_succ, dMul_r, dMul_l, dDiv_pos, dMod_pos, dAdd_int, dSub_int, dNeg_int, dLt_int, dLe_int, dGt_int, dGe_int, dEq_int, dNe_int, dEq_bl, dNe_bl, dEq_nil, dNe_nil, dIx_lst, dIx_tup, fAbs_int, fInt_bl, fInt_int, fLen_lst, fLen_frz, fLen_tup, ite_true, ite_false, if_true, if_false, Bool.not_true, Bool.not_false, decide_true, decide_false, Bool.true_eq_false, Bool.false_eq_true, reduceIte, reduceCtorEq, turn_nx, turn_ct, turn_bk, turn_rt, turn_rto, turn_xc, sFor_eq, goL_nil, eq_self, *])
/-! ### draws -/
structure Box where
  ns : List Int
  s : Int
  h : 0 ≤ s ∧ s < 2147483647
def bom (b : Box) (rest : Om) : Om := .lst (b.ns.map .int) :: .lst [.loc 0, .int b.s] :: rest
def tkv (m : Int) (b : Box) : Int := match b.ns with
  | [] => (b.s * 48271 % 2147483647) / 7 % m
  | n :: _ => n % m
def tkn (m : Int) (b : Box) : Box := match b.ns with
  | [] => ⟨[], b.s * 48271 % 2147483647, Int.emod_nonneg _ (by decide), Int.emod_lt_of_pos _ (by decide)⟩
  | n :: r => ⟨if n / m = 0 ∨ n / m = -1 then r else n / m :: r, b.s, b.h⟩
theorem tkv_nn {m : Int} (b : Box) (h : 0 < m) : 0 ≤ tkv m b := by
  unfold tkv
  split <;> exact Int.emod_nonneg _ (by omega)
theorem tkv_lt {m : Int} (b : Box) (h : 0 < m) : tkv m b < m := by
  unfold tkv
  split <;> exact Int.emod_lt_of_pos _ h
theorem begun_loop (F : D) (om : Om) : ∀ (ns : List Int) (st : Int) (r : Option Sl), 0 ≤ st ∧ st < 2147483647 → ∃ st' r', (0 ≤ st' ∧ st' < 2147483647) ∧
    goL (gN 2) (sAsg 1 (uBin dMod (uBin dAdd (uBin dAdd (uBin dMul (uVar 1) (uC (.int 48271))) (uBin dMul (uVar 2) (uC (.int 69621)))) (uC (.int 11))) (uC (.int 2147483647)))) (ns.map D.int) [some (.val F), some (.val (.int st)), r] om = .nx [some (.val F), some (.val (.int st')), r'] om
  | [], st, r, h => ⟨st, r, h, rfl⟩
  | n :: ns, st, r, h => by
    have h2 : 0 ≤ (st * 48271 + n * 69621 + 11) % 2147483647 ∧ (st * 48271 + n * 69621 + 11) % 2147483647 < 2147483647 := ⟨Int.emod_nonneg _ (by decide), Int.emod_lt_of_pos _ (by decide)⟩
    obtain ⟨st', r', h', e⟩ := begun_loop F om ns _ (some (.val (.int n))) h2
    refine ⟨st', r', h', ?_⟩
    rw [List.map_cons, goL_cons (ρ1 := [some (.val F), some (.val (.int st)), some (.val (.int n))]) _ _ rfl]
    walk_at "ev"
    exact e
/-! ### fractions -/
abbrev Fr := Int × Int
@[reducible] def encF (q : Fr) : D := .tup [.int q.1, .int q.2]
def gN' (t b : Int) : Int := if b < 0 then -(Int.gcd t b : Int) else (Int.gcd t b : Int)
def mk (t b : Int) : Fr := (t.fdiv (gN' t b), b.fdiv (gN' t b))
theorem gcd_loop (t c : Option Sl) (om : Om) : ∀ (k : Nat) (n : Nat) (a b : Nat) (r : Option Sl), b ≤ k → b < n → ∃ r',
    goW (uB (uBin dGt (uVar 3) (uC (.int 0)))) (sSeq (sAsg 4 (uBin dMod (uVar 2) (uVar 3))) (sSeq (sAsg 2 (uVar 3)) (sAsg 3 (uVar 4)))) n [t, c, some (.val (.int a)), some (.val (.int b)), r] om = .nx [t, c, some (.val (.int (Nat.gcd a b : Nat))), some (.val (.int 0)), r'] om := by
  intro k
  induction k with
  | zero =>
    intro n a b r hb hn
    obtain rfl : b = 0 := by omega
    obtain ⟨m, rfl⟩ : ∃ m, n = m + 1 := ⟨n - 1, by omega⟩
    refine ⟨r, ?_⟩
    rw [goW_succ]
    walk_at "ev"
    simp
  | succ k ih =>
    intro n a b r hb hn
    by_cases h0 : b = 0
    · subst h0
      obtain ⟨m, rfl⟩ : ∃ m, n = m + 1 := ⟨n - 1, by omega⟩
      refine ⟨r, ?_⟩
      rw [goW_succ]
      walk_at "ev"
      simp
    · obtain ⟨m, rfl⟩ : ∃ m, n = m + 1 := ⟨n - 1, by omega⟩
      have hlt : a % b < b := Nat.mod_lt _ (by omega)
      obtain ⟨r', e⟩ := ih m b (a % b) (some (.val (.int ((a % b : Nat) : Int)))) (by omega) (by omega)
      refine ⟨r', ?_⟩
      rw [goW_succ]
      have hp : (0 : Int) < (b : Int) := by omega
      walk_at "ev"
      simp only [hp, decide_true, if_true]
      walk_at "ev"
      have e2 : ((a : Int) % (b : Int)) = ((a % b : Nat) : Int) := by omega
      rw [e2, e]
      congr 6
      rw [Nat.gcd_comm a b, Nat.gcd_rec b a]
      rw [Nat.gcd_comm]

theorem gcd_pos_of {t b : Int} (hb : b ≠ 0) : 0 < Int.gcd t b := Int.gcd_pos_of_ne_zero_right _ hb
theorem abs_if (i : Int) : (if i < 0 then -i else i) = ((i.natAbs : Nat) : Int) := by
  split <;> omega
theorem divOk_bits {i j : Int} (h : j.natAbs < 2 ^ 9000) : divOk i j = true := by
  unfold divOk
  rw [PyProof.noPylong_of_log2]
  · rfl
  · by_cases h0 : j.natAbs = 0
    · rw [h0]; decide
    · exact (Nat.log2_lt h0).mpr h
theorem gN'_ne {t b : Int} (hb : b ≠ 0) : gN' t b ≠ 0 := by
  have := gcd_pos_of (t := t) hb
  unfold gN'
  split <;> omega
theorem gN'_le {t b : Int} (hb : b ≠ 0) : (gN' t b).natAbs ≤ b.natAbs := by
  have h : Int.gcd t b ≤ b.natAbs := Nat.le_of_dvd (by omega) (Int.gcd_dvd_natAbs_right t b)
  unfold gN'
  split <;> omega
/-! ### alike -/
mutual
def good : Nat → D → Bool
  | _, .non => true
  | _, .bl _ => true
  | _, .int _ => true
  | _, .str _ => true
  | n + 1, .tup ds => decide (ds.length ≤ 1000) && goods n ds
  | n + 1, .lst ds => decide (ds.length ≤ 1000) && goods n ds
  | _, _ => false
def goods : Nat → List D → Bool
  | _, [] => true
  | n, d :: ds => good n d && goods n ds
end

theorem goods_get : ∀ {n : Nat} {ds : List D} {k : Nat} {d : D}, goods n ds = true → ds[k]? = some d → good n d = true
  | n, [], k, d, h, e => by simp at e
  | n, x :: ds, 0, d, h, e => by
    simp at e
    subst e
    unfold goods at h
    exact (Bool.and_eq_true_iff.mp h).1
  | n, x :: ds, k + 1, d, h, e => by
    unfold goods at h
    exact goods_get (Bool.and_eq_true_iff.mp h).2 (by simpa using e)
theorem kb (a b : String) (r : Bool) (h : L2.kitB a b = some r := by decide +kernel) : L2.kitB a b = some r := h
theorem isi_of {T t : String} {d : D} {r : Bool} (h : tyName d = some t) (k : L2.kitB t T = some r) : dIsi T d = some (.bl r) := by
  unfold dIsi
  rw [h]
  show Option.map D.bl (L2.kitB t T) = _
  rw [k]
  rfl
theorem atN_nat {α : Type} {xs : List α} {k : Nat} {x : α} (h : xs[k]? = some x) : atN xs (k : Int) = some x := by
  unfold atN
  rw [if_pos (by omega)]
  simpa using h
theorem alike_loop {rec : FN} {f g : D} {om : Om} : ∀ (l : List Nat) (r : Option Sl), (∀ k ∈ l, ∃ x y, dIx f (.int (k : Int)) = some x ∧ dIx g (.int (k : Int)) = some y ∧ rec [x, y] om = .ok (.bl true) om) →
    ∃ r', goL (gN 2) (sIf (uNot (uB (uCall 2 rec (uCons (uBin dIx (uVar 0) (uVar 2)) (uCons (uBin dIx (uVar 1) (uVar 2)) uNil))))) (sRet (uC (.bl false))) sNext) (l.map fun (k : Nat) => D.int ((0 : Int) + (k : Int))) [some (.val f), some (.val g), r] om = .nx [some (.val f), some (.val g), r'] om
  | [], r, _ => ⟨r, rfl⟩
  | k :: l, r, h => by
    obtain ⟨x, y, e1, e2, e3⟩ := h k (by simp)
    obtain ⟨r', e⟩ := alike_loop (rec := rec) (f := f) (g := g) (om := om) l (some (.val (.int ((0 : Int) + (k : Int))))) fun j hj => h j (by simp [hj])
    refine ⟨r', ?_⟩
    rw [List.map_cons, goL_cons (ρ1 := [some (.val f), some (.val g), some (.val (.int ((0 : Int) + (k : Int))))]) _ _ rfl]
    simp only [Int.zero_add] at *
    walk_at "evs"
theorem mk_spec {t b : Int} (hb : b ≠ 0) : ∃ q r : Int, t = gN' t b * q ∧ b = gN' t b * r ∧ mk t b = (q, r) ∧ 0 < r := by
  have hg := gN'_ne (t := t) hb
  have ht : gN' t b ∣ t := by
    unfold gN'
    split
    · exact Int.neg_dvd.mpr (Int.gcd_dvd_left t b)
    · exact Int.gcd_dvd_left t b
  have hbd : gN' t b ∣ b := by
    unfold gN'
    split
    · exact Int.neg_dvd.mpr (Int.gcd_dvd_right t b)
    · exact Int.gcd_dvd_right t b
  obtain ⟨q, hq⟩ := ht
  obtain ⟨r, hr⟩ := hbd
  refine ⟨q, r, hq, hr, ?_, ?_⟩
  · unfold mk
    generalize gN' t b = g at *
    subst hq
    subst hr
    rw [Int.mul_fdiv_cancel_left _ hg, Int.mul_fdiv_cancel_left _ hg]
  · have hp : (0 : Int) < Int.gcd t b := by have := gcd_pos_of (t := t) hb; omega
    by_cases hn : b < 0
    · have e : gN' t b = -(Int.gcd t b : Int) := by unfold gN'; rw [if_pos hn]
      rw [e] at hr
      rcases Int.lt_trichotomy r 0 with h | h | h
      · have : 0 ≤ -(Int.gcd t b : Int) * r := by
          have := Int.mul_nonneg_of_nonpos_of_nonpos (a := -(Int.gcd t b : Int)) (b := r) (by omega) (by omega)
          exact this
        omega
      · subst h; omega
      · exact h
    · have e : gN' t b = (Int.gcd t b : Int) := by unfold gN'; rw [if_neg hn]
      rw [e] at hr
      rcases Int.lt_trichotomy r 0 with h | h | h
      · have : (Int.gcd t b : Int) * r ≤ 0 := Int.mul_nonpos_of_nonneg_of_nonpos (by omega) (by omega)
        omega
      · subst h; omega
      · exact h
theorem natAbs_le_mul {g q t : Int} (hg : g ≠ 0) (h : t = g * q) : q.natAbs ≤ t.natAbs := by
  subst h
  rw [Int.natAbs_mul]
  exact Nat.le_mul_of_pos_left _ (by omega)
theorem mk_den {t b : Int} (hb : b ≠ 0) : 0 < (mk t b).2 ∧ (mk t b).2.natAbs ≤ b.natAbs ∧ (mk t b).1.natAbs ≤ t.natAbs := by
  obtain ⟨q, r, h1, h2, h3, h4⟩ := mk_spec (t := t) hb
  rw [h3]
  exact ⟨h4, natAbs_le_mul (gN'_ne (t := t) hb) h2, natAbs_le_mul (gN'_ne (t := t) hb) h1⟩
/-- a fraction of less than N bits each -/
structure Bd (N : Nat) (q : Fr) : Prop where
  p : 0 < q.2
  n : q.1.natAbs < 2 ^ N
  d : q.2.natAbs < 2 ^ N
theorem Bd.mono {N M : Nat} {q : Fr} (h : Bd N q) (k : N ≤ M) : Bd M q := ⟨h.p, Nat.lt_of_lt_of_le h.n (Nat.pow_le_pow_right (by decide) k), Nat.lt_of_lt_of_le h.d (Nat.pow_le_pow_right (by decide) k)⟩
theorem bd_mk {N : Nat} {t b : Int} (hb : b ≠ 0) (h1 : t.natAbs < 2 ^ N) (h2 : b.natAbs < 2 ^ N) : Bd N (mk t b) := by
  obtain ⟨h, k, l⟩ := mk_den (t := t) hb
  exact ⟨h, Nat.lt_of_le_of_lt l h1, Nat.lt_of_le_of_lt k h2⟩
theorem bits_mul {i j : Int} {N M : Nat} (h1 : i.natAbs < 2 ^ N) (h2 : j.natAbs < 2 ^ M) : (i * j).natAbs < 2 ^ (N + M) := by
  rw [Int.natAbs_mul, Nat.pow_add]
  exact Nat.mul_lt_mul'' h1 h2
theorem bits_add {i j : Int} {N : Nat} (h1 : i.natAbs < 2 ^ N) (h2 : j.natAbs < 2 ^ N) : (i + j).natAbs < 2 ^ (N + 1) := by
  rw [Nat.pow_succ]
  omega
theorem bits_sub {i j : Int} {N : Nat} (h1 : i.natAbs < 2 ^ N) (h2 : j.natAbs < 2 ^ N) : (i - j).natAbs < 2 ^ (N + 1) := by
  rw [Nat.pow_succ]
  omega
theorem mulOk_bits {i j : Int} {N M : Nat} (h1 : i.natAbs < 2 ^ N) (h2 : j.natAbs < 2 ^ M) (h : N + M ≤ 900000) : mulOk i j = true := by
  have hw := wide_mul (a := N + 1) (b := M + 1) (Nat.lt_of_lt_of_le h1 (Nat.pow_le_pow_right (by decide) (Nat.le_succ _))) (Nat.lt_of_lt_of_le h2 (Nat.pow_le_pow_right (by decide) (Nat.le_succ _))) (Nat.succ_pos _) (Nat.succ_pos _) (by omega)
  unfold CMulW at hw
  unfold mulOk
  rw [Bool.or_eq_true]
  exact .inr (decide_eq_true hw)
theorem pos_mul {a b : Int} (h1 : 0 < a) (h2 : 0 < b) : a * b ≠ 0 := by
  have := Int.mul_pos h1 h2
  omega
theorem pow_9000 {n N : Nat} (h : n < 2 ^ N) (k : N ≤ 9000) : n < 2 ^ 9000 := Nat.lt_of_lt_of_le h (Nat.pow_le_pow_right (by decide) k)
def fsum (a b : Fr) : Fr := mk (a.1 * b.2 + b.1 * a.2) (a.2 * b.2)
def fsub (a b : Fr) : Fr := mk (a.1 * b.2 - b.1 * a.2) (a.2 * b.2)
def fmul (a b : Fr) : Fr := mk (a.1 * b.1) (a.2 * b.2)
def fdv (a b : Fr) : Fr := mk (a.1 * b.2) (a.2 * b.1)
def flt (a b : Fr) : Bool := decide (a.1 * b.2 < b.1 * a.2)
section
variable {N M : Nat} {a b : Fr} (om : Om)
theorem bd_sum (ha : Bd N a) (hb : Bd M b) : Bd (N + M + 1) (fsum a b) :=
  bd_mk (pos_mul ha.p hb.p) (bits_add (bits_mul ha.n hb.d) (by rw [Nat.add_comm]; exact bits_mul hb.n ha.d)) (Nat.lt_of_lt_of_le (bits_mul ha.d hb.d) (Nat.pow_le_pow_right (by decide) (by omega)))
theorem bd_sub (ha : Bd N a) (hb : Bd M b) : Bd (N + M + 1) (fsub a b) :=
  bd_mk (pos_mul ha.p hb.p) (bits_sub (bits_mul ha.n hb.d) (by rw [Nat.add_comm]; exact bits_mul hb.n ha.d)) (Nat.lt_of_lt_of_le (bits_mul ha.d hb.d) (Nat.pow_le_pow_right (by decide) (by omega)))
theorem bd_mul (ha : Bd N a) (hb : Bd M b) : Bd (N + M) (fmul a b) := bd_mk (pos_mul ha.p hb.p) (bits_mul ha.n hb.n) (bits_mul ha.d hb.d)
theorem bd_dv (ha : Bd N a) (hb : Bd M b) (h0 : b.1 ≠ 0) : Bd (N + M) (fdv a b) := bd_mk (by
  have := ha.p
  intro z
  rcases Int.mul_eq_zero.mp z with h | h
  · omega
  · exact h0 h) (bits_mul ha.n hb.d) (bits_mul ha.d hb.n)
end
theorem ne_dv {N M : Nat} {a b : Fr} (ha : Bd N a) (hb : Bd M b) (hz : N + M ≤ 13000) (h0 : b.1 ≠ 0) : a.2 * b.1 ≠ 0 := fun z => by
  have := ha.p
  rcases Int.mul_eq_zero.mp z with h | h
  · omega
  · exact h0 h
theorem divOk_big {i j : Int} (h : i.natAbs < 2 ^ 13400) : divOk i j = true := by
  unfold divOk Builtin.divisionGoesByPylong
  have h1 : (if (i == 0) = true then 0 else i.natAbs.log2 / 30 + 1) ≤ 450 := by
    split
    · exact Nat.zero_le _
    · rename_i c
      have c' : i.natAbs ≠ 0 := fun z => c (by rw [Int.natAbs_eq_zero.mp z]; rfl)
      have := (Nat.log2_lt c').mpr h
      omega
  show (!(decide ((if (j == 0) = true then 0 else j.natAbs.log2 / 30 + 1) > 300) && decide ((if (i == 0) = true then 0 else i.natAbs.log2 / 30 + 1) > (if (j == 0) = true then 0 else j.natAbs.log2 / 30 + 1) + 150))) = true
  generalize (if (i == 0) = true then 0 else i.natAbs.log2 / 30 + 1) = x at *
  generalize (if (j == 0) = true then 0 else j.natAbs.log2 / 30 + 1) = y at *
  by_cases hy : y > 300
  · rw [decide_eq_false (p := x > y + 150) (by omega)]; simp
  · rw [decide_eq_false hy]; rfl
theorem pow_13400 {n N : Nat} (h : n < 2 ^ N) (k : N ≤ 13400) : n < 2 ^ 13400 := Nat.lt_of_lt_of_le h (Nat.pow_le_pow_right (by decide) k)
theorem good_F (q : Fr) : good 10 (encF q) = true := rfl
theorem dIsi_bool (b : Bool) : dIsi "bool" (.bl b) = some (.bl true) := rfl
end Dv

namespace Dv
open PySem PySem.Spec PyProof.Rows L2
/-! ### what a fraction is worth -/
def val (q : Fr) : Rat := (q.1 : Rat) / (q.2 : Rat)
theorem cast_ne {i : Int} (h : i ≠ 0) : (i : Rat) ≠ 0 := fun z => h (Rat.intCast_inj.mp (by rw [z]; rfl))
theorem cast_pos {i : Int} (h : 0 < i) : (0 : Rat) < (i : Rat) := Rat.intCast_lt_intCast.mpr h
theorem val_mk {t b : Int} (hb : b ≠ 0) : val (mk t b) = (t : Rat) / (b : Rat) := by
  obtain ⟨q, r, h1, h2, h3, h4⟩ := mk_spec (t := t) hb
  have hg := cast_ne (gN'_ne (t := t) hb)
  have hr := cast_ne (show r ≠ 0 by omega)
  rw [h3]
  unfold val
  generalize gN' t b = g at *
  subst h1
  subst h2
  rw [Rat.intCast_mul, Rat.intCast_mul]
  grind
section
variable {a b : Fr} (ha : 0 < a.2) (hb : 0 < b.2)
include ha hb
theorem val_sum : val (fsum a b) = val a + val b := by
  have h1 := cast_ne (show a.2 ≠ 0 by omega)
  have h2 := cast_ne (show b.2 ≠ 0 by omega)
  unfold fsum
  rw [val_mk (pos_mul ha hb)]
  unfold val
  rw [Rat.intCast_add, Rat.intCast_mul, Rat.intCast_mul, Rat.intCast_mul]
  grind
theorem val_sub : val (fsub a b) = val a - val b := by
  have h1 := cast_ne (show a.2 ≠ 0 by omega)
  have h2 := cast_ne (show b.2 ≠ 0 by omega)
  unfold fsub
  rw [val_mk (pos_mul ha hb)]
  unfold val
  rw [Rat.intCast_sub, Rat.intCast_mul, Rat.intCast_mul, Rat.intCast_mul]
  grind
theorem val_mul : val (fmul a b) = val a * val b := by
  have h1 := cast_ne (show a.2 ≠ 0 by omega)
  have h2 := cast_ne (show b.2 ≠ 0 by omega)
  unfold fmul
  rw [val_mk (pos_mul ha hb)]
  unfold val
  rw [Rat.intCast_mul, Rat.intCast_mul]
  grind
theorem val_dv (h0 : b.1 ≠ 0) : val (fdv a b) = val a / val b := by
  have h1 := cast_ne (show a.2 ≠ 0 by omega)
  have h2 := cast_ne (show b.2 ≠ 0 by omega)
  have h3 := cast_ne h0
  have h4 : a.2 * b.1 ≠ 0 := fun z => by
    rcases Int.mul_eq_zero.mp z with h | h
    · omega
    · exact h0 h
  unfold fdv
  rw [val_mk h4]
  unfold val
  rw [Rat.intCast_mul, Rat.intCast_mul]
  grind
theorem flt_iff : flt a b = true ↔ val a < val b := by
  have h1 := cast_pos ha
  have h2 := cast_pos hb
  unfold flt val
  rw [decide_eq_true_iff, ← Rat.intCast_lt_intCast, Rat.intCast_mul, Rat.intCast_mul, Rat.div_lt_iff h1]
  rw [show (b.1 : Rat) / (b.2 : Rat) * (a.2 : Rat) = ((b.1 : Rat) * (a.2 : Rat)) / (b.2 : Rat) by grind, Rat.lt_div_iff h2]
theorem flt_false : flt a b = false ↔ val b ≤ val a := by
  rw [← Rat.not_lt, ← flt_iff ha hb, Bool.not_eq_true]
end
theorem val_lt_of {a : Fr} (ha : 0 < a.2) : 0 ≤ val a ↔ 0 ≤ a.1 := by
  have h1 := cast_pos ha
  unfold val
  rw [← Rat.not_lt, Rat.div_lt_iff h1, Rat.zero_mul, Rat.not_lt]
  exact Rat.intCast_le_intCast
theorem val_pos {a : Fr} (ha : 0 < a.2) : 0 < val a ↔ 0 < a.1 := by
  have h1 := cast_pos ha
  unfold val
  rw [Rat.lt_div_iff h1, Rat.zero_mul]
  exact Rat.intCast_lt_intCast
theorem div_pos' {x y : Rat} (h1 : 0 < x) (h2 : 0 < y) : 0 < x / y := by
  rw [Rat.lt_div_iff h2, Rat.zero_mul]
  exact h1
end Dv

namespace Dv
open PySem PySem.Spec PyProof.Rows L2
/-! ### a value is equal to itself -/
mutual
def shp : Nat → D → Bool
  | _, .non => true
  | _, .bl _ => true
  | _, .int _ => true
  | _, .str x => (PyData.str x).canLay0
  | n + 1, .tup ds => shps n ds
  | n + 1, .lst ds => shps n ds
  | _, _ => false
def shps : Nat → List D → Bool
  | _, [] => true
  | n, d :: ds => shp n d && shps n ds
end
mutual
theorem shp_py : ∀ (n : Nat) (d : D), shp n d = true → ∃ p, toPy d = some p ∧ p.canLay0 = true ∧ p.depth ≤ n ∧ PyData.eqv p p = true
  | n, .non, _ => ⟨.none, by unfold toPy; rfl, by unfold PyData.canLay0; rfl, by unfold PyData.depth; omega, by unfold PyData.eqv; rfl⟩
  | n, .bl b, _ => ⟨.bool b, by unfold toPy; rfl, by unfold PyData.canLay0; rfl, by unfold PyData.depth; omega, by unfold PyData.eqv; simp⟩
  | n, .int i, _ => ⟨.int i, by unfold toPy; rfl, by unfold PyData.canLay0; rfl, by unfold PyData.depth; omega, by unfold PyData.eqv; simp⟩
  | n, .str x, h => ⟨.str x, by unfold toPy; rfl, by unfold shp at h; exact h, by unfold PyData.depth; omega, by unfold PyData.eqv; simp⟩
  | n + 1, .tup ds, h => by
    unfold shp at h
    obtain ⟨l, h1, h2, h3, h4⟩ := shps_py n ds h
    exact ⟨.tuple l, by unfold toPy; rw [h1], by unfold PyData.canLay0; exact h2, by unfold PyData.depth; omega, by unfold PyData.eqv; exact h4⟩
  | n + 1, .lst ds, h => by
    unfold shp at h
    obtain ⟨l, h1, h2, h3, h4⟩ := shps_py n ds h
    exact ⟨.list l, by unfold toPy; rw [h1], by unfold PyData.canLay0; exact h2, by unfold PyData.depth; omega, by unfold PyData.eqv; exact h4⟩
  | 0, .tup _, h => by unfold shp at h; cases h
  | 0, .lst _, h => by unfold shp at h; cases h
  | _, .obj _ _, h => by unfold shp at h; cases h
  | _, .loc _, h => by unfold shp at h; cases h
  | _, .frz _, h => by unfold shp at h; cases h
theorem shps_py : ∀ (n : Nat) (ds : List D), shps n ds = true → ∃ l, toPys ds = some l ∧ PyData.canLayAll0 l = true ∧ PyData.depthAll l ≤ n ∧ PyData.eqvAll l l = true
  | n, [], _ => ⟨[], by unfold toPys; rfl, by unfold PyData.canLayAll0; rfl, by unfold PyData.depthAll; omega, by unfold PyData.eqvAll; rfl⟩
  | n, d :: ds, h => by
    unfold shps at h
    obtain ⟨a, b⟩ := Bool.and_eq_true_iff.mp h
    obtain ⟨p, h1, h2, h3, h4⟩ := shp_py n d a
    obtain ⟨l, k1, k2, k3, k4⟩ := shps_py n ds b
    refine ⟨p :: l, by unfold toPys; rw [h1, k1], by unfold PyData.canLayAll0; rw [h2, k2]; rfl, by unfold PyData.depthAll; omega, by unfold PyData.eqvAll; rw [h4, k4]; rfl⟩
end
theorem eqPy_self {d : D} (h : shp 64 d = true) : eqPy d d = some true := by
  obtain ⟨p, h1, h2, h3, h4⟩ := shp_py 64 d h
  have hs : SeqAt.shaped p = true := by unfold SeqAt.shaped; rw [h2, decide_eq_true h3]; rfl
  unfold eqPy
  rw [h1]
  dsimp only
  rw [if_pos ⟨hs, hs⟩, h4]
theorem dEq_self {ds : List D} (h : shp 64 (.lst ds) = true) : dEq (.lst ds) (.lst ds) = some (.bl true) := by
  unfold dEq
  have e : dEqB (.lst ds) (.lst ds) = some true := by
    cases ds with
    | nil => rfl
    | cons d r => exact eqPy_self h
  rw [e]
theorem shps_all {n : Nat} : ∀ {ds : List D}, (∀ d ∈ ds, shp n d = true) → shps n ds = true
  | [], _ => by unfold shps; rfl
  | d :: ds, h => by
    unfold shps
    rw [h d (by simp), shps_all fun x hx => h x (by simp [hx])]
    rfl
theorem goods_all {n : Nat} : ∀ {ds : List D}, (∀ d ∈ ds, good n d = true) → goods n ds = true
  | [], _ => by unfold goods; rfl
  | d :: ds, h => by
    unfold goods
    rw [h d (by simp), goods_all fun x hx => h x (by simp [hx])]
    rfl
/-! ### comprehensions over a row -/
theorem goC_map {te : UE} {i : Nat} {ω : Om} {ρ : Rho} (f : D → D) : ∀ (ds acc : List D), (∀ d ∈ ds, te ((ρ.set i none).set i (some (.val d))) ω = .ok (f d) ((ρ.set i none).set i (some (.val d))) ω) → acc.length + ds.length ≤ big →
    goC (gN i) uYes te [i] ds acc (ρ.set i none) ω = .ok (acc ++ ds.map f) (ρ.set i none) ω
  | [], acc, _, _ => by unfold goC; simp
  | d :: ds, acc, h, hz => by
    unfold goC
    simp only [gN, uYes, if_true]
    rw [h d (by simp)]
    simp only [List.length_cons] at hz
    dsimp only
    rw [if_pos (by omega)]
    have e : clrs ((ρ.set i none).set i (some (.val d))) [i] = ρ.set i none := by
      show ((ρ.set i none).set i (some (.val d))).set i none = _
      rw [List.set_set, List.set_set]
    rw [e, goC_map f ds (acc ++ [f d]) (fun x hx => h x (by simp [hx])) (by simp; omega)]
    simp
/-- .. whose turns draw -/
theorem goC_inv {te : UE} {i : Nat} {ρ : Rho} (I : Om → Prop) (P : D → Prop) (h : ∀ (d : D) (ω : Om), I ω → ∃ y ω', te ((ρ.set i none).set i (some (.val d))) ω = .ok y ((ρ.set i none).set i (some (.val d))) ω' ∧ I ω' ∧ P y) :
    ∀ (ds acc : List D) (ω : Om), I ω → acc.length + ds.length ≤ big → ∃ ys ω', goC (gN i) uYes te [i] ds acc (ρ.set i none) ω = .ok (acc ++ ys) (ρ.set i none) ω' ∧ I ω' ∧ (∀ y ∈ ys, P y) ∧ ys.length = ds.length
  | [], acc, ω, hI, _ => ⟨[], ω, by unfold goC; simp, hI, by simp, rfl⟩
  | d :: ds, acc, ω, hI, hz => by
    obtain ⟨y, ω1, e1, h1, h2⟩ := h d ω hI
    simp only [List.length_cons] at hz
    obtain ⟨ys, ω2, e2, h3, h4, h5⟩ := goC_inv I P h ds (acc ++ [y]) ω1 h1 (by simp; omega)
    refine ⟨y :: ys, ω2, ?_, h3, fun z hz => ?_, by simp [h5]⟩
    · unfold goC
      simp only [gN, uYes, if_true]
      rw [e1]
      dsimp only
      rw [if_pos (by omega)]
      have e : clrs ((ρ.set i none).set i (some (.val d))) [i] = ρ.set i none := by
        show ((ρ.set i none).set i (some (.val d))).set i none = _
        rw [List.set_set, List.set_set]
      rw [e, e2]
      simp
    · rcases List.mem_cons.mp hz with rfl | q
      · exact h2
      · exact h4 z q
end Dv

namespace Dv
open PySem PySem.Spec PyProof.Rows L2
/-! ### lowest terms: equal worth, equal pairs -/
def Cn (q : Fr) : Prop := 0 < q.2 ∧ Int.gcd q.1 q.2 = 1
theorem mk_cn {t b : Int} (hb : b ≠ 0) : Cn (mk t b) := by
  obtain ⟨q, r, h1, h2, h3, h4⟩ := mk_spec (t := t) hb
  rw [h3]
  refine ⟨h4, ?_⟩
  have hg := gcd_pos_of (t := t) hb
  have hn : (gN' t b).natAbs = Int.gcd t b := by unfold gN'; split <;> simp
  have e : Int.gcd t b = (gN' t b).natAbs * Int.gcd q r := by
    rw [show Int.gcd t b = Int.gcd (gN' t b * q) (gN' t b * r) by rw [← h1, ← h2], Int.gcd_mul_left]
  rw [hn] at e
  have : Int.gcd t b * Int.gcd q r = Int.gcd t b * 1 := by omega
  exact Nat.eq_of_mul_eq_mul_left hg this
theorem dvd_cop {k m n : Int} (h : Int.gcd k m = 1) (d : k ∣ m * n) : k ∣ n := by
  rw [← Int.natAbs_dvd_natAbs, Int.natAbs_mul] at d
  rw [← Int.natAbs_dvd_natAbs]
  exact Nat.Coprime.dvd_of_dvd_mul_left h d
theorem cn_ext {a b : Fr} (ha : Cn a) (hb : Cn b) (h : val a = val b) : a = b := by
  obtain ⟨p, q⟩ := a
  obtain ⟨r, s⟩ := b
  obtain ⟨h1, h2⟩ := ha
  obtain ⟨h3, h4⟩ := hb
  dsimp only at h1 h2 h3 h4
  have hc : p * s = r * q := by
    have c1 := cast_ne (show q ≠ 0 by omega)
    have c2 := cast_ne (show s ≠ 0 by omega)
    unfold val at h
    dsimp only at h
    have : ((p * s : Int) : Rat) = ((r * q : Int) : Rat) := by
      rw [Rat.intCast_mul, Rat.intCast_mul]
      grind
    exact Rat.intCast_inj.mp this
  -- q divides s and s divides q
  have d1 : q ∣ s := by
    have : q ∣ p * s := ⟨r, by rw [hc, Int.mul_comm]⟩
    exact dvd_cop (by rw [Int.gcd_comm]; exact h2) this
  have d2 : s ∣ q := by
    have : s ∣ r * q := ⟨p, by rw [← hc, Int.mul_comm]⟩
    exact dvd_cop (by rw [Int.gcd_comm]; exact h4) this
  have e : q = s := Int.dvd_antisymm (by omega) (by omega) d1 d2
  subst e
  have : p = r := Int.eq_of_mul_eq_mul_right (by omega) hc
  rw [this]
theorem cn_01 : Cn ((0, 1) : Fr) := ⟨by decide, by decide⟩
theorem cn_sum {a b : Fr} (ha : 0 < a.2) (hb : 0 < b.2) : Cn (fsum a b) := mk_cn (pos_mul ha hb)
theorem cn_sub {a b : Fr} (ha : 0 < a.2) (hb : 0 < b.2) : Cn (fsub a b) := mk_cn (pos_mul ha hb)
theorem cn_mul {a b : Fr} (ha : 0 < a.2) (hb : 0 < b.2) : Cn (fmul a b) := mk_cn (pos_mul ha hb)
/-! ### fractions compared as pairs -/
theorem dEq_fr (a b : Fr) : dEq (encF a) (encF b) = some (.bl (decide (a = b))) := by
  obtain ⟨a1, a2⟩ := a
  obtain ⟨b1, b2⟩ := b
  have e : eqPy (.tup [.int a1, .int a2]) (.tup [.int b1, .int b2]) = some (decide ((a1, a2) = (b1, b2))) := by
    have hs : ∀ i j : Int, SeqAt.shaped (.tuple [.int i, .int j]) = true := fun i j => by
      simp [SeqAt.shaped, PyData.canLay0, PyData.canLayAll0, PyData.depth, PyData.depthAll]
    have t : ∀ i j : Int, toPy (.tup [.int i, .int j]) = some (.tuple [.int i, .int j]) := fun i j => by simp [toPy, toPys]
    unfold eqPy
    rw [t, t]
    dsimp only
    rw [if_pos ⟨hs _ _, hs _ _⟩]
    congr 1
    simp only [PyData.eqv, PyData.eqvAll, Bool.and_true]
    by_cases h1 : a1 = b1 <;> by_cases h2 : a2 = b2 <;> simp [h1, h2]
  show (match dEqB (.tup [.int a1, .int a2]) (.tup [.int b1, .int b2]) with | some b => some (D.bl b) | none => none) = _
  rw [show dEqB (.tup [.int a1, .int a2]) (.tup [.int b1, .int b2]) = eqPy (.tup [.int a1, .int a2]) (.tup [.int b1, .int b2]) from rfl, e]
theorem dNe_fr (a b : Fr) : dNe (encF a) (encF b) = some (.bl (!decide (a = b))) := by
  have h := dEq_fr a b
  unfold dEq at h
  unfold dNe
  cases e : dEqB (encF a) (encF b) with
  | none => rw [e] at h; cases h
  | some x => rw [e] at h; cases h; rfl
theorem dNe_self {ds : List D} (h : shp 64 (.lst ds) = true) : dNe (.lst ds) (.lst ds) = some (.bl false) := by
  have h := dEq_self h
  unfold dEq at h
  unfold dNe
  cases e : dEqB (.lst ds) (.lst ds) with
  | none => rw [e] at h; cases h
  | some x => rw [e] at h; cases h; rfl
theorem val_int1 (i : Int) : val (i, 1) = (i : Rat) := by
  unfold val
  simp only [Rat.div_def]
  rw [show ((1 : Int) : Rat) = 1 from rfl]
  grind
theorem val_nn_mk {t b : Int} (hb : 0 < b) (ht : 0 ≤ t) : 0 ≤ val (mk t b) := by
  rw [val_mk (by omega)]
  have h1 := cast_pos hb
  rw [← Rat.not_lt, Rat.div_lt_iff h1, Rat.zero_mul, Rat.not_lt]
  exact Rat.intCast_le_intCast.mpr ht
theorem val_pos_mk {t b : Int} (hb : 0 < b) (ht : 0 < t) : 0 < val (mk t b) := by
  rw [val_mk (by omega)]
  have h1 := cast_pos hb
  rw [Rat.lt_div_iff h1, Rat.zero_mul]
  exact cast_pos ht
end Dv

namespace Dv
open PySem PySem.Spec PyProof.Rows L2
/-! ### an own list lent to a call: the call tells nothing of it and leaves no list behind -/
mutual
def flat : D → Bool
  | .non => true
  | .bl _ => true
  | .int _ => true
  | .str _ => true
  | .loc _ => true
  | .tup ds => flats ds
  | .frz ds => flats ds
  | .lst _ => false
  | .obj _ _ => false
def flats : List D → Bool
  | [] => true
  | d :: ds => flat d && flats ds
end
def flatFs : List (Str × D) → Bool
  | [] => true
  | (_, d) :: r => flat d && flatFs r
def cellFlat : Cell → Bool
  | .gone => true
  | .lst ds => flats ds
  | .ins _ fs => flatFs fs
def omFlat : Om → Bool
  | [] => true
  | c :: r => cellFlat c && omFlat r
section
variable {g : G} {al : List Addr} {L L' : Addr → Prop} {H : Hp}
mutual
theorem RepV.flt : ∀ {v : V} {d : D}, Dv.flat d = true → RepV g al L H v d → RepV g al L' H v d
  | _, _, _, .non => .non
  | _, _, _, .bl => .bl
  | _, _, _, .int => .int
  | _, _, _, .str => .str
  | _, _, f, .tup h r => .tup h (RepVs.flt (by unfold Dv.flat at f; exact f) r)
  | _, _, f, .lst h n r => by unfold Dv.flat at f; cases f
  | _, _, f, .frz h r => .frz h (RepVs.flt (by unfold Dv.flat at f; exact f) r)
  | _, _, f, .obj h n r => by unfold Dv.flat at f; cases f
  | _, _, _, .loc h => .loc h
theorem RepVs.flt : ∀ {vs : List V} {ds : List D}, flats ds = true → RepVs g al L H vs ds → RepVs g al L' H vs ds
  | _, _, _, .nil => .nil
  | _, _, f, .cons h r => .cons (RepV.flt (by unfold flats at f; exact (Bool.and_eq_true_iff.mp f).1) h) (RepVs.flt (by unfold flats at f; exact (Bool.and_eq_true_iff.mp f).2) r)
end
theorem RepFs.flt : ∀ {vs : List (Str × V)} {ds : List (Str × D)}, flatFs ds = true → RepFs g al L H vs ds → RepFs g al L' H vs ds
  | _, _, _, .nil => .nil
  | _, _, f, .cons h r => .cons (h.flt (by unfold flatFs at f; exact (Bool.and_eq_true_iff.mp f).1)) (RepFs.flt (by unfold flatFs at f; exact (Bool.and_eq_true_iff.mp f).2) r)
theorem CellR.flt {a : Addr} : ∀ {c : Cell}, cellFlat c = true → CellR g al L H a c → CellR g al L' H a c
  | .gone, _, _ => trivial
  | .lst ds, f, ⟨vs, h, r⟩ => ⟨vs, h, r.flt f⟩
  | .ins c fs, f, ⟨dx, fvs, h, r⟩ => ⟨dx, fvs, h, r.flt f⟩
theorem omFlat_get : ∀ {om : Om} {i : Nat} {c : Cell}, omFlat om = true → om[i]? = some c → cellFlat c = true
  | [], i, c, _, h => by simp at h
  | x :: om, 0, c, f, h => by
    simp at h
    subst h
    unfold omFlat at f
    exact (Bool.and_eq_true_iff.mp f).1
  | x :: om, i + 1, c, f, h => by
    unfold omFlat at f
    exact omFlat_get (Bool.and_eq_true_iff.mp f).2 (by simpa using h)
end
section
variable {g : G} {R : Addr → Prop} {al al' : List Addr} {om om' : Om} {σ σ' : St} {ρ ρ' : Rho} {H H' : Hp} {W : WX} {X : Cx} {i : Nat} {v : V} {d : D} {x y : Str} {ps : List Str} {k n : Nat} {S : FN} {p0 p1 pos : Pos} {es : List Expr} {us : UA}
def uCallL (i n : Nat) (S : FN) (us : UA) : UE := fun ρ ω => match ρ[i]? with
  | some (some (.own _)) => (us ρ ω).bind fun ds ρ ω => (match ρ[i]? with
    | some (some (.own xs)) => if ds.length + 1 = n then (match S (.lst xs :: ds) ω with
      | .ok d ω' => if flat d = true ∧ omFlat ω' = true then .ok d ρ ω' else .no
      | _ => .no) else .no
    | _ => .no)
  | _ => .no
theorem pu_callL (i : Nat) (h : Has X.prog X.w X.K X.mg X.base x ps k (spU g n S)) (hr : Room k X.A) (ha : PA X es (tA g W us)) (hN : X.N[i]? = some y := by rfl) (hv : Vis X.env.scope y := by first | exact Or.inl rfl | exact Or.inr (Or.inl rfl) | exact Or.inr (Or.inr rfl)) (hg : Gl X x := by rfl) (hpn : ps.length = n := by rfl)
    (hdb : (x == ("__debug__" : Str)) = false := by decide) (hd : (y == ("__debug__" : Str)) = false := by decide) (hcd : (y == ("__classdict__" : Str)) = false := by decide)
    (he : starEach (.Name y p1 :: es) X.env = (false, eval (.Name y p1) X.env) :: starEach es X.env := by rfl) (hpl : (backTo pos (starEach es X.env)).any (·.1) = false := by rfl) : PE X (.Call (.Name x p0) (.Name y p1 :: es) [] pos) (tE g W (uCallL i n S us)) := by
  subst hpn
  obtain ⟨f, fd, hm, hk, hb, F⟩ := h
  refine peImp (pe_call F hr hg hm hk hb .nil passL (pa_cons (pe_var hN hv hd hcd) ha) hdb he hpl) fun σ H Q ⟨R, ρ, om, al, St, P⟩ => ?_
  unfold uCallL at P
  split at P
  · rename_i xs0 e0
    obtain ⟨a, vs0, q1, q2, q3⟩ := St.own i xs0 e0
    refine ⟨_, q1, tR_bind St P fun ds ρ1 om1 vs H1 al1 s1 S1 r1 P1 => ?_⟩
    split at P1
    · rename_i xs e1
      split at P1
      · rename_i hl
        obtain ⟨a', vx, k1, k2, k3⟩ := S1.own i xs e1
        rw [q1] at k1
        cases k1
        obtain ⟨S', st, hn⟩ := S1.moveOwn e1 q1
        have ll : ∀ b, LL R al1 om1 σ (ρ1.set i none) b → LL R al1 om1 σ ρ1 b := fun b m => by
          rcases m with (m | ⟨j, dj, z1, z2⟩) | m
          · exact .inl (.inl m)
          · rcases getset z1 with ⟨_, q⟩ | ⟨_, q⟩
            · cases q
            · exact .inl (.inr ⟨j, dj, q, z2⟩)
          · exact .inr m
        have r2 : RepVs g al1 (LL R al1 om1 σ (ρ1.set i none)) H1 (.ref a :: vs) (.lst xs :: ds) := .cons (.lst k2 hn (k3.car (carL ll))) (r1.car (carL ll))
        rw [List.append_nil]
        refine ⟨by rw [List.length_cons, RepVs.length r1]; exact hl, RC R σ (ρ1.set i none), .lst xs :: ds, om1, al1, S'.forCall, r2.car (carL fun a h => lf_ll.mp h), ?_⟩
        cases e9 : S (.lst xs :: ds) om1 with
        | xc _ _ => rw [e9] at P1; exact P1.elim
        | no => rw [e9] at P1; exact P1.elim
        | ok d om' =>
          rw [e9] at P1
          dsimp only at P1
          split at P1
          · rename_i hf
            intro v H' al' s o rv
            have T : Step al1 (Mt al1 om1 σ ρ1) H1 al' (Mt al' om' σ ρ1) H' := ⟨s.ext, fun b o h n => s.keep b o h fun m => n (.inl m), fun b m => by
              rcases m with m | m
              · exact (s.fresh b m).imp .inl id
              · exact .inl (.inr m)⟩
            refine P1 v H' al' T ⟨⟨o.len, fun j c b h1 h2 => (o.cel j c b h1 h2).flt (omFlat_get hf.2 h1), o.inj, fun b h => o.rsv b (.inl h)⟩, S1.sl, fun j d h => ?_, fun j dj h => ?_, S1.odj, fun b h => ⟨fun z => ?_, (S1.ocl b h).2⟩⟩ (rv.flt hf.1)
            · obtain ⟨w, h1, h2⟩ := S1.val j d h
              exact ⟨w, h1, T.rep S1 h2⟩
            · obtain ⟨b, ws, h1, h2, h3⟩ := S1.own j dj h
              exact ⟨b, ws, h1, s.keep b _ h2 (S1.ocl b ⟨j, dj, h, h1⟩).1, T.reps S1 h3⟩
            · obtain ⟨j, dj, z1, z2⟩ := id h
              obtain ⟨b', ws, h1, h2, h3⟩ := S1.own j dj z1
              rw [z2] at h1
              cases h1
              rcases s.fresh b z with q | q
              · exact (S1.ocl b h).1 q
              · rw [h2] at q; cases q
          · exact P1.elim
      · exact P1.elim
    · exact P1.elim
  · exact P.elim
end
end Dv

namespace Dv
open PySem PySem.Spec PyProof.Rows L2
/-! ### texts: methods of one argument -/
@[simp] def uM1 (f : Str → D → Option D) (ua ub : UE) : UE := fun ρ ω => (ua ρ ω).bind fun x ρ ω => match x with
  | .str a => (ub ρ ω).bind fun y ρ ω => liftO (f a y) ρ ω
  | _ => .no
def fJoin (a : Str) : D → Option D
  | .lst ys => match asStrs ys with
    | some ss => if (ss.map (·.length)).sum + ss.length * a.length ≤ big then some (.str (Txt.join a ss)) else none
    | none => none
  | _ => none
def fSplit (a : Str) : D → Option D
  | .str b => if (b.length == 0) = false ∧ a.length + 2 ≤ big then some (.lst ((Txt.split a b).map D.str)) else none
  | _ => none
def fPart (a : Str) : D → Option D
  | .str b => if (b.length == 0) = false ∧ a.length ≤ big then some (.tup [.str (Txt.partition a b).1, .str (Txt.partition a b).2.1, .str (Txt.partition a b).2.2]) else none
  | _ => none
def fLstripC (a : Str) : D → Option D
  | .str b => if a.length ≤ big then some (.str (Txt.lstripChars a b)) else none
  | _ => none
/-- x or y, by the truth of a text -/
@[simp] def uOrS (ua ub : UE) : UE := fun ρ ω => (ua ρ ω).bind fun x ρ ω => match x with
  | .str a => if a.length ≤ big then (if a.length = 0 then ub ρ ω else .ok (.str a) ρ ω) else .no
  | _ => .no
def dInS : D → D → Option D
  | .str i, .str j => some (.bl (!(Builtin.Str.occurrences j i 0 j.length 1).isEmpty))
  | _, _ => none
/-- x * n of a text -/
def dMulS : D → D → Option D
  | .str x, .int n => if 1 ≤ n ∧ n ≤ 1000 ∧ 1 ≤ x.length ∧ x.length ≤ 1000 then some (.str ⟨(List.replicate n.toNat x.cps).foldl (· ++ ·) #[]⟩) else none
  | _, _ => none
section
variable {g : G} {R : Addr → Prop} {al : List Addr} {om : Om} {σ : St} {ρ : Rho} {H H' : Hp} {W : WX} {X : Cx} {L : Addr → Prop} {v : V} {d : D}
variable {a b e o : Expr} {ua ub ue : UE} {es : List Expr} {us : UA} {p0 pos p1 apos : Pos} {x : Str} {f : Str → D → Option D} {r : V → List V → Hp → VK → Prop} {id : String} {name : Str}
def M1S (g : G) (r : V → List V → Hp → VK → Prop) (f : Str → D → Option D) : Prop := ∀ (R : Addr → Prop) (W : WX) (al : List Addr) (om : Om) (σ : St) (ρ : Rho) (H : Hp) (Q : VK) (a : Str) (w : V) (y : D), Rst g R al σ ρ om H → RepV g al (LL R al om σ ρ) H w y →
  PostR g R W (relV g) al (Mt al om σ ρ) H σ (liftO (f a y) ρ om) Q → r (.str a) [w] H Q
theorem tM1_of (hf : M1S g r f) {Q : VK} (h : tE g W (uM1 f ua ub) σ H Q) : tM1 r (tE g W ua) (tE g W ub) σ H Q := by
  obtain ⟨R, ρ, om, al, S, P⟩ := h
  refine tR_bind S P fun x ρ1 om1 v H1 al1 s1 S1 r1 P1 => ?_
  cases x <;> first | exact P1.elim | skip
  cases r1
  exact ⟨⟨_, rfl⟩, tR_bind S1 P1 fun y ρ2 om2 w H2 al2 s2 S2 r2 P2 => hf R W al2 om2 σ ρ2 H2 Q _ w y S2 r2 P2⟩
theorem pu_m1 (slot : Slot "str" name id) (ty : typeOf (.builtin id) = pure (.type "method_descriptor")) (rule : MtR X id r) (hf : M1S g r f) (ho : PE X o (tE g W ua)) (he : PE X e (tE g W ub))
    (hs : starEach [e] X.env = [(false, eval e X.env)] := by rfl) (hbase : attributeBase o name X.env (eval o X.env) = eval o X.env := by rfl) (hline : (apos.endLine == pos.line) = true := by rfl) :
    PE X (.Call (.Attribute o name apos) [e] [] pos) (tE g W (uM1 f ua ub)) := peImp (pe_m1 slot ty rule ho he hs hbase hline) fun σ H Q h => tM1_of hf h
theorem s_join {K : PySem.W.Frag} : M1S g (fun x xs H Q => ∃ a p, ∃ ys : List Str, x = .str a ∧ xs = [.ref p] ∧ (SqL K H p (ys.map V.str) ∨ SqT K H p (ys.map V.str)) ∧
    (ys.map (·.length)).sum + ys.length * a.length ≤ 16777216 ∧ Q (.str (Txt.join a ys)) H) fJoin := by
  intro R W al om σ ρ H Q a w y S r P
  cases y <;> first | exact P.elim | skip
  rename_i ds
  unfold fJoin at P
  dsimp only at P
  cases e : asStrs ds with
  | none => rw [e] at P; exact P.elim
  | some ss =>
    rw [e] at P
    dsimp only at P
    split at P
    · rename_i hz
      cases r with
      | lst h1 h2 h3 =>
        rw [asStrs_eq e] at h3
        rw [h3.strs] at h1
        exact ⟨a, _, ss, rfl, rfl, .inl (SqL.of h1), Nat.le_trans hz (by decide), okSame S P .str⟩
    · exact P.elim
theorem s_split : M1S g (fun x xs H Q => ∃ a b, x = .str a ∧ xs = [.str b] ∧ (b.length == 0) = false ∧ a.length + 2 ≤ sizeLine ∧ rNewStrs (Txt.split a b) H Q) fSplit := by
  intro R W al om σ ρ H Q a w y S r P
  cases y <;> first | exact P.elim | skip
  cases r
  unfold fSplit at P
  dsimp only at P
  split at P
  · rename_i hz
    exact ⟨a, _, rfl, rfl, hz.1, big_line hz.2, fun p hp => okNewL S P hp .of_strs⟩
  · exact P.elim
theorem s_part : M1S g (fun x xs H Q => ∃ a b, x = .str a ∧ xs = [.str b] ∧ (b.length == 0) = false ∧ a.length ≤ sizeLine ∧
    ∀ p, H p = none → Q (.ref p) (upd H p (.tup [.str (Txt.partition a b).1, .str (Txt.partition a b).2.1, .str (Txt.partition a b).2.2]))) fPart := by
  intro R W al om σ ρ H Q a w y S r P
  cases y <;> first | exact P.elim | skip
  cases r
  unfold fPart at P
  dsimp only at P
  split at P
  · rename_i hz
    exact ⟨a, _, rfl, rfl, hz.1, big_line hz.2, fun p hp => okNewT S P hp (.cons .str (.cons .str (.cons .str .nil)))⟩
  · exact P.elim
theorem s_lstripC : M1S g (fun x xs H Q => ∃ a b, x = .str a ∧ xs = [.str b] ∧ a.length ≤ sizeLine ∧ Q (.str (Txt.lstripChars a b)) H) fLstripC := by
  intro R W al om σ ρ H Q a w y S r P
  cases y <;> first | exact P.elim | skip
  cases r
  unfold fLstripC at P
  dsimp only at P
  split at P
  · rename_i hz
    exact ⟨a, _, rfl, rfl, big_line hz, okSame S P .str⟩
  · exact P.elim
theorem pu_join (ho : PE X o (tE g W ua)) (he : PE X e (tE g W ub)) (hs : starEach [e] X.env = [(false, eval e X.env)] := by rfl) (hbase : attributeBase o "join" X.env (eval o X.env) = eval o X.env := by rfl) (hline : (apos.endLine == pos.line) = true := by rfl) :
    PE X (.Call (.Attribute o "join" apos) [e] [] pos) (tE g W (uM1 fJoin ua ub)) := pu_m1 F.slot_str_join F.type_str_join mt_join s_join ho he hs hbase hline
theorem pu_split (ho : PE X o (tE g W ua)) (he : PE X e (tE g W ub)) (hs : starEach [e] X.env = [(false, eval e X.env)] := by rfl) (hbase : attributeBase o "split" X.env (eval o X.env) = eval o X.env := by rfl) (hline : (apos.endLine == pos.line) = true := by rfl) :
    PE X (.Call (.Attribute o "split" apos) [e] [] pos) (tE g W (uM1 fSplit ua ub)) := pu_m1 F.slot_str_split F.type_str_split mt_split s_split ho he hs hbase hline
theorem pu_part (ho : PE X o (tE g W ua)) (he : PE X e (tE g W ub)) (hs : starEach [e] X.env = [(false, eval e X.env)] := by rfl) (hbase : attributeBase o "partition" X.env (eval o X.env) = eval o X.env := by rfl) (hline : (apos.endLine == pos.line) = true := by rfl) :
    PE X (.Call (.Attribute o "partition" apos) [e] [] pos) (tE g W (uM1 fPart ua ub)) := pu_m1 F.slot_str_partition F.type_str_partition mt_partition s_part ho he hs hbase hline
theorem pu_lstripC (ho : PE X o (tE g W ua)) (he : PE X e (tE g W ub)) (hs : starEach [e] X.env = [(false, eval e X.env)] := by rfl) (hbase : attributeBase o "lstrip" X.env (eval o X.env) = eval o X.env := by rfl) (hline : (apos.endLine == pos.line) = true := by rfl) :
    PE X (.Call (.Attribute o "lstrip" apos) [e] [] pos) (tE g W (uM1 fLstripC ua ub)) := pu_m1 F.slot_str_lstrip F.type_str_lstrip mt_lstripChars s_lstripC ho he hs hbase hline
theorem pu_orS (ha : PE X a (tE g W ua)) (hb : PE X b (tE g W ub)) : PE X (.BoolOp .Or [a, b] pos) (tE g W (uOrS ua ub)) :=
  peImp (pe_orT ha (pe_one hb)) fun σ H Q ⟨R, ρ, om, al, S, P⟩ => tR_bind S P fun x ρ1 om1 v H1 al1 s1 S1 r1 P1 => by
    cases x <;> first | exact P1.elim | skip
    cases r1
    rename_i y
    dsimp only at P1
    split at P1
    · rename_i hz
      refine ⟨_, ⟨big_line hz, rfl⟩, ?_⟩
      by_cases h0 : y.length = 0
      · rw [if_pos h0] at P1
        have e : (((y.length : Nat) : Int) != 0) = false := by rw [h0]; rfl
        rw [e]
        exact ⟨R, ρ1, om1, al1, S1, P1⟩
      · rw [if_neg h0] at P1
        have e : (((y.length : Nat) : Int) != 0) = true := by
          simp only [bne_iff_ne, ne_eq]
          omega
        rw [e]
        exact okSame S1 P1 .str
    · exact P1.elim
def rNotInS : R2 := fun x y H Q => ∃ i j, x = .str i ∧ y = .str j ∧ Q (.bl (!(!(Builtin.Str.occurrences j i 0 j.length 1).isEmpty))) H
theorem s_notin : OpS g rNotInS dNotIn := by
  intro R W al om σ ρ H Q v w x y S rx ry P
  cases x <;> cases y <;> first | exact P.elim | skip
  cases rx.str; cases ry.str
  exact ⟨_, _, rfl, rfl, okSame S P .bl⟩
theorem s_inS : OpS g (fun x y H Q => ∃ i j, x = .str i ∧ y = .str j ∧ Q (.bl (!(Builtin.Str.occurrences j i 0 j.length 1).isEmpty)) H) dInS := by
  intro R W al om σ ρ H Q v w x y S rx ry P
  cases x <;> cases y <;> first | exact P.elim | skip
  cases rx.str; cases ry.str
  exact ⟨_, _, rfl, rfl, okSame S P .bl⟩
theorem dNotIn_sign (c : Nat) (z : Str) : dNotIn (.str ⟨#[c]⟩) (.str z) = some (.bl (!decide (c ∈ z.cps.toList))) := by
  show some (D.bl (!(!(Builtin.Str.occurrences z ⟨#[c]⟩ 0 z.length 1).isEmpty))) = _
  rw [PySem.StrLaws.found_one z c]
theorem rep_size (x : Array Nat) : ∀ (n : Nat) (acc : Array Nat), ((List.replicate n x).foldl (· ++ ·) acc).size = acc.size + n * x.size
  | 0, acc => by simp
  | n + 1, acc => by
    rw [List.replicate_succ, List.foldl_cons, rep_size x n, Array.size_append, Nat.succ_mul]
    omega
def rMulS : R2 := fun x y H Q => ∃ z n, x = .str z ∧ y = .int n ∧ (1 ≤ n ∧ n ≤ 1000 ∧ 1 ≤ z.length ∧ z.length ≤ 1000) ∧ Q (.str ⟨(List.replicate n.toNat z.cps).foldl (· ++ ·) #[]⟩) H
theorem op_mulS : OpR X (binaryOp .Mult) rMulS := by
  intro pins s σ H x y v u Q I rx ry h
  obtain ⟨z, n, rfl, rfl, ⟨h1, h2, h3, h4⟩, q⟩ := h
  obtain ⟨t, rfl⟩ := rx
  obtain ⟨t', rfl⟩ := ry
  have hz : z.length * n.toNat ≤ 1000 * 1000 := Nat.mul_le_mul h4 (by omega)
  refine PySem.P.mul_str ?_ (fun _ _ => ?_) (fun _ _ => ?_) ?_
  · rw [decide_eq_false (by omega), decide_eq_false (by omega)]; rfl
  · have : (1000 : Int) ≤ (2 ^ 63 - 1) / n := by
      refine (Int.le_ediv_iff_mul_le (by omega)).mpr ?_
      omega
    omega
  · have e : sizeLine = 16777216 := sizeLine_eq
    unfold Builtin.Str.tooLong
    first
      | exact decide_eq_false (by omega)
      | (simp; omega)
  · rw [if_neg (by omega)]
    by_cases hn : n = 1
    · subst hn
      have e : ((1 : Int) == 1 || z.length == 0) = true := rfl
      rw [if_pos e]
      refine ⟨.str z, H, I, ⟨t, rfl⟩, ?_⟩
      have e2 : (⟨(List.replicate (1 : Int).toNat z.cps).foldl (· ++ ·) #[]⟩ : Str) = z := by simp
      rw [e2] at q
      exact q
    · have e : (n == 1 || z.length == 0) = false := by simp; omega
      rw [if_neg (by rw [e]; decide)]
      refine ⟨?_, ?_⟩
      · have e3 : sizeLine = 16777216 := sizeLine_eq
        have e4 := rep_size z.cps n.toNat #[]
        have e5 : z.cps.size = z.length := rfl
        show (⟨(List.replicate n.toNat z.cps).foldl (· ++ ·) #[]⟩ : Str).length ≤ sizeLine
        show ((List.replicate n.toNat z.cps).foldl (· ++ ·) #[]).size ≤ sizeLine
        rw [e4, e5, Nat.mul_comm]
        simp only [List.size_toArray, List.length_nil]
        omega
      · exact ⟨.str _, H, I.tok _, ⟨_, rfl⟩, q⟩
theorem s_mulS : OpS g rMulS dMulS := by
  intro R W al om σ ρ H Q v w x y S rx ry P
  cases x <;> cases y <;> first | exact P.elim | skip
  cases rx.str; cases ry.int
  unfold dMulS at P
  dsimp only at P
  split at P
  · rename_i hz
    exact ⟨_, _, rfl, rfl, hz, okSame S P .str⟩
  · exact P.elim
end
end Dv

namespace Dv
open PySem PySem.Spec PyProof.Rows L2
/-! ### texts as lists of signs -/
abbrev tx (l : List Nat) : D := .str ⟨l.toArray⟩
theorem tx_of (s : String) (l : List Nat) (h : s.toList.map Char.toNat = l) : D.str (Str.ofString s) = tx l := by
  have : Str.ofString s = ⟨l.toArray⟩ := TL.ext_tl (by rw [TL.tl_ofString, h])
  rw [this]
theorem k_colon : D.str (Str.ofString ":") = tx [58] := tx_of _ _ (by decide)
theorem k_blank : D.str (Str.ofString " ") = tx [32] := tx_of _ _ (by decide)
theorem k_line : D.str (Str.ofString "/") = tx [47] := tx_of _ _ (by decide)
theorem k_f : D.str (Str.ofString "f") = tx [102] := tx_of _ _ (by decide)
theorem k_s : D.str (Str.ofString "s") = tx [115] := tx_of _ _ (by decide)
theorem k_0 : D.str (Str.ofString "0") = tx [48] := tx_of _ _ (by decide)
theorem k_empty : D.str (Str.ofString "") = tx [] := tx_of _ _ (by decide)
theorem k_digits : D.str (Str.ofString "0123456789") = tx [48, 49, 50, 51, 52, 53, 54, 55, 56, 57] := tx_of _ _ (by decide)
theorem k_abc : D.str (Str.ofString "abcxyz") = tx [97, 98, 99, 120, 121, 122] := tx_of _ _ (by decide)
theorem k_alpha : D.str (Str.ofString "abcdefghijklmnopqrstuvwxyz") = tx [97, 98, 99, 100, 101, 102, 103, 104, 105, 106, 107, 108, 109, 110, 111, 112, 113, 114, 115, 116, 117, 118, 119, 120, 121, 122] := tx_of _ _ (by decide)
theorem k_cue : D.str (Str.ofString "cue ") = tx [99, 117, 101, 32] := tx_of _ _ (by decide)
theorem k_from : D.str (Str.ofString " from ") = tx [32, 102, 114, 111, 109, 32] := tx_of _ _ (by decide)
theorem k_to : D.str (Str.ofString " to ") = tx [32, 116, 111, 32] := tx_of _ _ (by decide)
theorem k_at : D.str (Str.ofString " at ") = tx [32, 97, 116, 32] := tx_of _ _ (by decide)
theorem k_two : D.str (Str.ofString "  ") = tx [32, 32] := tx_of _ _ (by decide)
theorem k_fto : D.str (Str.ofString "f to ") = tx [102, 32, 116, 111, 32] := tx_of _ _ (by decide)
theorem k_nl : D.str (Str.ofString "\n") = tx [10] := tx_of _ _ (by decide)
theorem k_a1 : D.str (Str.ofString "a") = tx [97] := tx_of _ _ (by decide)
theorem len_tx (l : List Nat) : (⟨l.toArray⟩ : Str).length = l.length := by rw [TL.len_tl]
theorem tx_app (a b : List Nat) : ((⟨a.toArray⟩ : Str) ++ (⟨b.toArray⟩ : Str)) = ⟨(a ++ b).toArray⟩ := TL.ext_tl (by rw [TL.tl_append])
theorem dAdd_tx {a b : List Nat} (h : a.length + b.length ≤ 100000) : dAdd (tx a) (tx b) = some (tx (a ++ b)) := by
  show (if (⟨a.toArray⟩ : Str).length + (⟨b.toArray⟩ : Str).length ≤ big then some (D.str ((⟨a.toArray⟩ : Str) ++ (⟨b.toArray⟩ : Str))) else none) = _
  rw [len_tx, len_tx, if_pos (Nat.le_trans h (by decide)), tx_app]
theorem fLen_tx {l : List Nat} (h : l.length ≤ 100000) : fLen [tx l] = some (.int l.length) := by
  show (if (⟨l.toArray⟩ : Str).length ≤ big then some (D.int (⟨l.toArray⟩ : Str).length) else none) = _
  rw [len_tx, if_pos (Nat.le_trans h (by decide))]
theorem tx_inj {a b : List Nat} : ((⟨a.toArray⟩ : Str) = ⟨b.toArray⟩) ↔ a = b := ⟨fun h => by
  have := congrArg TL.tl h
  simpa using this, fun h => by rw [h]⟩
theorem dEq_tx (a b : List Nat) : dEq (tx a) (tx b) = some (.bl (decide (a = b))) := by
  show some (D.bl (decide ((⟨a.toArray⟩ : Str) = ⟨b.toArray⟩))) = _
  congr 2
  exact decide_eq_decide.mpr tx_inj
theorem dNe_tx (a b : List Nat) : dNe (tx a) (tx b) = some (.bl (!decide (a = b))) := by
  show some (D.bl (!decide ((⟨a.toArray⟩ : Str) = ⟨b.toArray⟩))) = _
  congr 3
  exact decide_eq_decide.mpr tx_inj
theorem dEq_txn (a : List Nat) : dEq (tx a) (tx []) = some (.bl (decide (a = []))) := dEq_tx a []
theorem dNe_txn (a : List Nat) : dNe (tx a) (tx []) = some (.bl (!decide (a = []))) := dNe_tx a []
def nm (i : Int) : List Nat := TL.numL i.toNat
theorem fStr_nat {i : Int} (h0 : 0 ≤ i) (h : i < 1000000000000000000000000000000000000000000) : fStr [.int i] = some (tx (nm i)) := by
  have hl : i.natAbs.log2 < 1920 := by
    by_cases hz : i.natAbs = 0
    · rw [hz]; decide
    · exact Nat.lt_trans ((Nat.log2_lt hz).mpr (show i.natAbs < 2 ^ 140 by omega)) (by decide)
  show (if i.natAbs.log2 < 1920 then some (D.str (Str.ofString (toString i))) else none) = _
  rw [if_pos hl]
  have e : Str.ofString (toString i) = ⟨(nm i).toArray⟩ := TL.ext_tl (by
    have : i = ((i.toNat : Nat) : Int) := by omega
    show TL.tl (Str.ofString (toString i)) = nm i
    unfold nm
    conv => lhs; rw [this]
    rw [TL.tl_num])
  rw [e]
theorem nm_len {i : Int} {k : Nat} (h0 : 0 ≤ i) (hk : 0 < k) (h : i < ((10 ^ k : Nat) : Int)) : (nm i).length ≤ k := TL.numL_len hk (by omega)
theorem nm_len9 {i : Int} (h0 : 0 ≤ i) (h : i < 1000000000) : (nm i).length ≤ 9 := nm_len h0 (by decide) (by simpa using h)
theorem nm_len20 {i : Int} (h0 : 0 ≤ i) (h : i < 10000000000000000000000000000000000000000) : (nm i).length ≤ 40 := nm_len h0 (by decide) (by simpa using h)
theorem dIx_tx0 (c : Nat) {l : List Nat} (h : l.length ≤ 100000) : dIx (tx (c :: l)) (.int 0) = some (tx [c]) := by
  show (if (⟨(c :: l).toArray⟩ : Str).length ≤ big then (match atN (c :: l) 0 with | some c => some (D.str ⟨#[c]⟩) | none => none) else none) = _
  rw [len_tx, if_pos (Nat.le_trans (show (c :: l).length ≤ 100001 by simp; omega) (by decide))]
  rfl
/-- the last sign; all but the last -/
theorem cutS_l1 (l : List Nat) (c : Nat) : cutS ⟨(l ++ [c]).toArray⟩ (some (-1)) none = ⟨[c].toArray⟩ := by
  unfold cutS
  rw [len_tx, HT.sIx_none]
  have e : HT.sIx (l ++ [c]).length 0 (some (-1)) = l.length := by
    have := HT.clip_eq (-1) (l ++ [c]).length 0
    rw [if_pos (by decide)] at this
    have h2 : (l ++ [c]).length = l.length + 1 := by simp
    omega
  rw [e]
  simp
theorem cutS_b1 (l : List Nat) (c : Nat) : cutS ⟨(l ++ [c]).toArray⟩ none (some (-1)) = ⟨l.toArray⟩ := by
  unfold cutS
  rw [len_tx, HT.sIx_none]
  have e : HT.sIx (l ++ [c]).length (l ++ [c]).length (some (-1)) = l.length := by
    have := HT.clip_eq (-1) (l ++ [c]).length (l ++ [c]).length
    rw [if_pos (by decide)] at this
    have h2 : (l ++ [c]).length = l.length + 1 := by simp
    omega
  rw [e]
  simp
theorem cutS_ln : cutS ⟨[].toArray⟩ (some (-1)) none = ⟨[].toArray⟩ := by
  unfold cutS
  simp
theorem cutS_bn : cutS ⟨[].toArray⟩ none (some (-1)) = ⟨[].toArray⟩ := by
  unfold cutS
  simp
/-! ### cut at a sign -/
theorem fPart_tx {l S : List Nat} (hS : S ≠ []) (h : l.length ≤ 100000) : fPart ⟨l.toArray⟩ (tx S) = some (match TL.par S [] l with | some (a, b) => .tup [tx a, tx S, tx b] | none => .tup [tx l, tx [], tx []]) := by
  have hn : ((⟨S.toArray⟩ : Str).length == 0) = false := by
    rw [len_tx]
    cases S with
    | nil => exact absurd rfl hS
    | cons => rfl
  show (if ((⟨S.toArray⟩ : Str).length == 0) = false ∧ (⟨l.toArray⟩ : Str).length ≤ big then some (D.tup [.str (Txt.partition ⟨l.toArray⟩ ⟨S.toArray⟩).1, .str (Txt.partition ⟨l.toArray⟩ ⟨S.toArray⟩).2.1, .str (Txt.partition ⟨l.toArray⟩ ⟨S.toArray⟩).2.2]) else none) = _
  rw [if_pos ⟨hn, by rw [len_tx]; exact Nat.le_trans h (by decide)⟩, TL.partition_par ⟨l.toArray⟩ ⟨S.toArray⟩ hS]
  show some _ = _
  cases e : TL.par S [] l with
  | none => rfl
  | some ab => rfl
/-- what stands before the first s, and behind it -/
theorem par1 (s : Nat) : ∀ (l acc : List Nat), (s ∉ l ∧ TL.par [s] acc l = none) ∨ ∃ a b, s ∉ a ∧ l = a ++ s :: b ∧ TL.par [s] acc l = some (acc ++ a, b)
  | [], acc => .inl ⟨by simp, rfl⟩
  | c :: r, acc => by
    by_cases h : c = s
    · subst h
      refine .inr ⟨[], r, by simp, rfl, ?_⟩
      rw [TL.par_hit (by simp [TL.pre])]
      simp
    · have hp : TL.pre [s] (c :: r) = false := by simp [TL.pre, h]
      rcases par1 s r (acc ++ [c]) with ⟨h1, h2⟩ | ⟨a, b, h1, h2, h3⟩
      · refine .inl ⟨by simp [h1]; exact fun z => h z.symm, ?_⟩
        rw [TL.par_miss hp, h2]
      · refine .inr ⟨c :: a, b, by simp [h1]; exact fun z => h z.symm, by rw [h2]; rfl, ?_⟩
        rw [TL.par_miss hp, h3]
        simp
theorem par1_app {s : Nat} {a b : List Nat} (h : s ∉ a) : TL.par [s] [] (a ++ s :: b) = some (a, b) := TL.par_part1 (S := []) (acc := []) h
theorem par1_none {s : Nat} {a : List Nat} (h : s ∉ a) : TL.par [s] [] a = none := TL.par_none1 h
/-- split at a sign -/
theorem fSplit_tx {l : List Nat} {s : Nat} (hs : s < 256) (h : l.length ≤ 100000) : fSplit ⟨l.toArray⟩ (tx [s]) = some (.lst ((TL.spl [s] 0 [] l).map tx)) := by
  show (if ((⟨[s].toArray⟩ : Str).length == 0) = false ∧ (⟨l.toArray⟩ : Str).length + 2 ≤ big then some (D.lst ((Txt.split ⟨l.toArray⟩ ⟨[s].toArray⟩).map D.str)) else none) = _
  rw [if_pos ⟨rfl, by rw [len_tx]; exact Nat.le_trans (Nat.add_le_add_right h 2) (by decide)⟩]
  have e := TL.split_spl ⟨l.toArray⟩ ⟨[s].toArray⟩ (by simp) (TL.kind_ok (by simp [hs]))
  have e2 : Txt.split ⟨l.toArray⟩ ⟨[s].toArray⟩ = (TL.spl [s] 0 [] l).map fun z => (⟨z.toArray⟩ : Str) := TL.map_tl_inj (by
    rw [e, List.map_map]
    show TL.spl [s] 0 [] l = (TL.spl [s] 0 [] l).map (fun z => z)
    simp)
  rw [e2, List.map_map]
  rfl
theorem asStrs_tx : ∀ ls : List (List Nat), asStrs (ls.map tx) = some (ls.map fun z => (⟨z.toArray⟩ : Str))
  | [] => rfl
  | l :: ls => by
    rw [List.map_cons]
    unfold asStrs
    rw [asStrs_tx ls]
    rfl
def lens (ls : List (List Nat)) : Nat := (ls.map List.length).sum
theorem fJoin_tx {s : List Nat} {ls : List (List Nat)} (h : lens ls + ls.length * s.length ≤ 1000000) : fJoin ⟨s.toArray⟩ (.lst (ls.map tx)) = some (tx (TL.joinL s ls)) := by
  unfold fJoin
  dsimp only
  rw [asStrs_tx]
  dsimp only
  have hl : ((ls.map fun z => (⟨z.toArray⟩ : Str)).map (·.length)).sum = lens ls := by
    unfold lens
    rw [List.map_map]
    congr 1
  rw [if_pos (by rw [hl, List.length_map, len_tx]; exact h), TL.join_eq]
  have : Str.join ⟨s.toArray⟩ (ls.map fun z => (⟨z.toArray⟩ : Str)) = ⟨(TL.joinL s ls).toArray⟩ := TL.ext_tl (by
    rw [TL.tl_join, List.map_map]
    show TL.joinL s (ls.map fun z => z) = TL.joinL s ls
    simp)
  rw [this]
/-! ### numbers -/
def isDig (c : Nat) : Bool := decide (48 ≤ c) && decide (c ≤ 57)
def numV (l : List Nat) : Option Nat := if l.length = 0 ∨ 9 < l.length ∨ (l.head? = some 48 ∧ 1 < l.length) ∨ l.all isDig = false then none else some (NumText.digitsVal l)
theorem dNotIn_dig (c : Nat) : dNotIn (tx [c]) (tx [48, 49, 50, 51, 52, 53, 54, 55, 56, 57]) = some (.bl (!isDig c)) := by
  rw [dNotIn_sign]
  congr 3
  unfold isDig
  rw [← Bool.decide_and]
  refine decide_eq_decide.mpr ?_
  simp only [List.mem_cons, List.not_mem_nil, or_false]
  omega
theorem fIntS_tx {l : List Nat} (h0 : l ≠ []) (h1 : l.length ≤ 600) (h : l.all isDig = true) : fIntS [tx l] = some (.int (NumText.digitsVal l : Nat)) := by
  have hd : NumText.AllDigits l := fun c hc => by
    have := List.all_eq_true.mp h c hc
    unfold isDig at this
    simpa using this
  show (if (⟨l.toArray⟩ : Str).length ≤ 640 then (match PySem.intText? ⟨l.toArray⟩ with | some n => some (D.int n) | none => none) else none) = _
  rw [len_tx, if_pos (by omega), intText_digits (x := ⟨l.toArray⟩) hd h0 (by rw [len_tx]; omega)]
theorem fSigns_tx (l : List Nat) : fSigns (tx l) = some (l.map fun c => tx [c]) := rfl
theorem drop_tw (p : Nat → Bool) : ∀ l : List Nat, l.drop (l.takeWhile p).length = l.dropWhile p
  | [] => rfl
  | c :: l => by
    rw [List.takeWhile_cons, List.dropWhile_cons]
    cases p c
    · simp
    · simp [drop_tw p l]
theorem fLstrip_tx {l : List Nat} (h : l.length ≤ 100000) : fLstripC ⟨l.toArray⟩ (tx [48]) = some (tx (l.dropWhile fun c => decide (c = 48))) := by
  show (if (⟨l.toArray⟩ : Str).length ≤ big then some (D.str (Txt.lstripChars ⟨l.toArray⟩ ⟨[48].toArray⟩)) else none) = _
  rw [len_tx, if_pos (Nat.le_trans h (by decide))]
  have : Txt.lstripChars ⟨l.toArray⟩ ⟨[48].toArray⟩ = ⟨(l.dropWhile fun c => decide (c = 48)).toArray⟩ := TL.ext_tl (by
    show TL.tl (Txt.stripBy _ true false _) = _
    rw [PyProof.Rows.stripBy_eq]
    show TL.tl (Builtin.Str.strSub _ _ (⟨l.toArray⟩ : Str).length) = _
    rw [TL.tl_strSub_end]
    show l.drop (l.takeWhile _).length = l.dropWhile _
    rw [drop_tw]
    congr 1
    funext c
    simp [eq_comm])
  rw [this]
end Dv

namespace Dv
open PySem PySem.Spec PyProof.Rows L2
/-! ### times written, as lists of signs -/
def mixL (q : Fr) : List Nat := if q.1 % q.2 = 0 then nm (q.1 / q.2) else (((nm (q.1 / q.2) ++ [32]) ++ nm (q.1 % q.2)) ++ [47]) ++ nm q.2
def two (n : Int) : List Nat := if n < 10 then [48] ++ nm n else nm n
def clockH (q : Fr) (rate : Int) : List Nat := (((nm (q.1 / q.2 / rate / 3600) ++ [58]) ++ two (q.1 / q.2 / rate / 60 % 60)) ++ [58] ++ two (q.1 / q.2 / rate % 60)) ++ [58] ++ two (q.1 / q.2 % rate)
def clockL (q : Fr) (rate : Int) : List Nat := if q.1 % q.2 = 0 then clockH q rate else (((clockH q rate ++ [32]) ++ nm (q.1 % q.2)) ++ [47]) ++ nm q.2
/-- a time that is written -/
structure Wr (q : Fr) : Prop where
  a : 0 ≤ q.1
  b : q.1 < 10000000000000000000000000000000000000000
  c : 0 < q.2
  d : q.2 < 1073741824
theorem dl {a b N : Int} (h0 : 0 ≤ a) (h1 : a < N) (h2 : 0 < b) : 0 ≤ a / b ∧ a / b < N :=
  ⟨Int.ediv_nonneg h0 (by omega), Int.lt_of_le_of_lt (Int.ediv_le_self b h0) h1⟩
theorem ml {a b : Int} (h2 : 0 < b) : 0 ≤ a % b ∧ a % b < b := ⟨Int.emod_nonneg a (by omega), Int.emod_lt_of_pos a h2⟩
section
variable {q : Fr} (h : Wr q)
include h
theorem Wr.div : 0 ≤ q.1 / q.2 ∧ q.1 / q.2 < 10000000000000000000000000000000000000000 := dl h.a h.b h.c
theorem Wr.md : 0 ≤ q.1 % q.2 ∧ q.1 % q.2 < q.2 := ml h.c
theorem Wr.l1 : (nm (q.1 / q.2)).length ≤ 40 := nm_len20 h.div.1 h.div.2
theorem Wr.l2 : (nm (q.1 % q.2)).length ≤ 40 := nm_len20 h.md.1 (by have := h.md.2; have := h.d; omega)
theorem Wr.l3 : (nm q.2).length ≤ 40 := nm_len20 (by have := h.c; omega) (by have := h.d; omega)
theorem Wr.mix : (mixL q).length ≤ 122 := by
  have h1 := h.l1
  have h2 := h.l2
  have h3 := h.l3
  unfold mixL
  split
  · omega
  · simp only [List.length_append, List.length_cons, List.length_nil]
    omega
end
theorem two_len {n : Int} (h0 : 0 ≤ n) (h : n < 10000000000000000000000000000000000000000) : (two n).length ≤ 41 := by
  have := nm_len20 h0 h
  unfold two
  split
  · simp only [List.length_append, List.length_cons, List.length_nil]; omega
  · omega
theorem clockH_len {q : Fr} {rate : Int} (h : Wr q) (h1 : 0 < rate) (h2 : rate ≤ 1000) : (clockH q rate).length ≤ 166 := by
  have d := h.div
  have e := dl d.1 d.2 h1
  have e2 := dl e.1 e.2 (show (0 : Int) < 3600 by decide)
  have l1 := nm_len20 e2.1 e2.2
  have m1 := ml (a := q.1 / q.2 / rate / 60) (show (0 : Int) < 60 by decide)
  have m2 := ml (a := q.1 / q.2 / rate) (show (0 : Int) < 60 by decide)
  have m3 := ml (a := q.1 / q.2) h1
  have t1 := two_len m1.1 (by omega)
  have t2 := two_len m2.1 (by omega)
  have t3 := two_len m3.1 (by omega)
  unfold clockH
  simp only [List.length_append, List.length_cons, List.length_nil]
  omega
theorem clockL_len {q : Fr} {rate : Int} (h : Wr q) (h1 : 0 < rate) (h2 : rate ≤ 1000) : (clockL q rate).length ≤ 248 := by
  have a := clockH_len h h1 h2
  have b := h.l2
  have c := h.l3
  unfold clockL
  split
  · omega
  · simp only [List.length_append, List.length_cons, List.length_nil]
    omega
end Dv

namespace Dv
open PySem PySem.Spec PyProof.Rows L2
/-! ### what texts are read to -/
def ofN (o : Option Nat) (om : Om) : FR := match o with
  | some n => .ok (.int (n : Int)) om
  | none => .xc ⟨"BadTime", []⟩ om
theorem numV_lt {l : List Nat} {n : Nat} (h : numV l = some n) : n < 1000000000 := by
  unfold numV at h
  split at h
  · cases h
  · rename_i hn
    cases h
    have h9 : l.length ≤ 9 := Nat.le_of_not_lt fun z => hn (.inr (.inl z))
    have hd : ∀ c ∈ l, c ≤ 57 := fun c hc => by
      have ha : l.all isDig = true := by
        cases ha : l.all isDig
        · exact absurd (.inr (.inr (.inr ha))) hn
        · rfl
      have := List.all_eq_true.mp ha c hc
      unfold isDig at this
      simp at this
      exact this.2
    have gen : ∀ (l : List Nat) (a : Nat), (∀ c ∈ l, c ≤ 57) → l.foldl (fun acc c => acc * 10 + (c - 48)) a < (a + 1) * 10 ^ l.length := by
      intro l
      induction l with
      | nil => intro a _; simp
      | cons c r ih =>
        intro a hc
        rw [List.foldl_cons]
        have h1 := ih (a * 10 + (c - 48)) fun x hx => hc x (by simp [hx])
        have h2 := hc c (by simp)
        refine Nat.lt_of_lt_of_le h1 ?_
        rw [List.length_cons, Nat.pow_succ, Nat.mul_comm (10 ^ r.length) 10, ← Nat.mul_assoc]
        exact Nat.mul_le_mul_right _ (by omega)
    have := gen l 0 hd
    refine Nat.lt_of_lt_of_le this ?_
    rw [Nat.zero_add, Nat.one_mul]
    exact Nat.pow_le_pow_right (by decide) h9
def restV (l : List Nat) : Option Fr := match TL.par [47] [] l with
  | none => none
  | some (a, b) => match numV a, numV b with
    | some p, some q => if p = 0 ∨ q ≤ p ∨ mk p q ≠ ((p : Int), (q : Int)) then none else some ((p : Int), (q : Int))
    | _, _ => none
def ofF (o : Option Fr) (om : Om) : FR := match o with
  | some q => .ok (encF q) om
  | none => .xc ⟨"BadTime", []⟩ om
theorem numV_nil : numV [] = none := rfl
theorem par_len {s : Nat} {l a b : List Nat} (h : TL.par [s] [] l = some (a, b)) : a.length + b.length + 1 = l.length := by
  rcases par1 s l [] with ⟨_, h2⟩ | ⟨a', b', _, h2, h3⟩
  · rw [h] at h2; cases h2
  · rw [h] at h3
    injection h3 with h3
    injection h3 with h4 h5
    subst h4 h5
    rw [h2]
    simp
    omega
theorem restV_bd {l : List Nat} {r : Fr} (h : restV l = some r) : Bd 30 r ∧ 0 < r.1 ∧ r.1 < r.2 ∧ r.2 < 1000000000 ∧ mk r.1 r.2 = r := by
  unfold restV at h
  split at h
  · cases h
  · rename_i a b e
    split at h
    · rename_i p q e1 e2
      have hp := numV_lt e1
      have hq := numV_lt e2
      split at h
      · cases h
      · rename_i hn
        cases h
        have p6 : (2 : Nat) ^ 30 = 1073741824 := by decide
        have h0 : p ≠ 0 := fun z => hn (.inl z)
        have h1 : ¬ q ≤ p := fun z => hn (.inr (.inl z))
        have h2 : mk p q = ((p : Int), (q : Int)) := Classical.byContradiction fun z => hn (.inr (.inr z))
        exact ⟨⟨by show (0 : Int) < q; omega, by show (p : Int).natAbs < _; omega, by show (q : Int).natAbs < _; omega⟩, by show (0 : Int) < p; omega, by show (p : Int) < q; omega, by show (q : Int) < _; omega, h2⟩
    · cases h
def mixV (l : List Nat) : Option Fr := match TL.par [32] [] l with
  | none => (numV l).map fun n => ((n : Int), 1)
  | some (a, b) => match numV a, restV b with
    | some n, some r => some (fsum ((n : Int), 1) r)
    | _, _ => none
theorem bd_num {n : Nat} (h : n < 1000000000) : Bd 30 ((n : Int), 1) := by
  have p6 : (2 : Nat) ^ 30 = 1073741824 := by decide
  exact ⟨by show (0 : Int) < 1; omega, by show (n : Int).natAbs < _; omega, by show (1 : Int).natAbs < _; omega⟩
theorem mixV_bd {l : List Nat} {r : Fr} (h : mixV l = some r) : Bd 61 r := by
  unfold mixV at h
  split at h
  · cases en : numV l with
    | none => rw [en] at h; cases h
    | some n => rw [en] at h; cases h; exact (bd_num (numV_lt en)).mono (by decide)
  · split at h
    · rename_i e1 e2
      cases h
      exact (bd_sum (bd_num (numV_lt e1)) (restV_bd e2).1).mono (by decide)
    · cases h
def figV (l : List Nat) : Option Nat := if (2 < l.length ∧ l.head? = some 48) ∨ l.length < 2 then none else numV (if l.dropWhile (fun c => decide (c = 48)) = [] then [48] else l.dropWhile fun c => decide (c = 48))
def clockF (rate : Int) (h m s f : Nat) : Option Int := if 60 ≤ m ∨ 60 ≤ s ∨ rate ≤ (f : Int) then none else some ((((h : Int) * 60 + m) * 60 + s) * rate + f)
def clockP (rate : Int) : List (List Nat) → Option Int
  | [a, b, c, d] => (numV a).bind fun h => (figV b).bind fun m => (figV c).bind fun s => (figV d).bind fun f => clockF rate h m s f
  | _ => none
def clockV (l : List Nat) (rate : Int) : Option Int := clockP rate (TL.spl [58] 0 [] l)
theorem clockP_ne {rate : Int} : ∀ {ps : List (List Nat)}, ps.length ≠ 4 → clockP rate ps = none
  | [], _ => rfl
  | [_], _ => rfl
  | [_, _], _ => rfl
  | [_, _, _], _ => rfl
  | [_, _, _, _], h => absurd rfl h
  | _ :: _ :: _ :: _ :: _ :: _, _ => rfl
theorem clockP_some {rate n : Int} {ps : List (List Nat)} (e : clockP rate ps = some n) : ∃ a b c d h m s f, ps = [a, b, c, d] ∧ numV a = some h ∧ figV b = some m ∧ figV c = some s ∧ figV d = some f ∧ m < 60 ∧ s < 60 ∧ (f : Int) < rate ∧ n = (((h : Int) * 60 + m) * 60 + s) * rate + f := by
  by_cases h4 : ps.length = 4
  · match ps, h4, e with
    | [a, b, c, d], _, e =>
      unfold clockP at e
      obtain ⟨h, e1, e⟩ := Option.bind_eq_some_iff.mp e
      obtain ⟨m, e2, e⟩ := Option.bind_eq_some_iff.mp e
      obtain ⟨s, e3, e⟩ := Option.bind_eq_some_iff.mp e
      obtain ⟨f, e4, e⟩ := Option.bind_eq_some_iff.mp e
      unfold clockF at e
      split at e
      · cases e
      · rename_i hn
        cases e
        exact ⟨a, b, c, d, h, m, s, f, rfl, e1, e2, e3, e4, Nat.lt_of_not_le fun z => hn (.inl z), Nat.lt_of_not_le fun z => hn (.inr (.inl z)), Int.lt_of_not_ge fun z => hn (.inr (.inr z)), rfl⟩
  · rw [clockP_ne h4] at e
    cases e
theorem dw_len (l : List Nat) : (l.dropWhile fun c => decide (c = 48)).length ≤ l.length := by
  induction l with
  | nil => simp
  | cons c r ih =>
    rw [List.dropWhile_cons]
    split
    · simp; omega
    · simp
def ofI (o : Option Int) (om : Om) : FR := match o with
  | some n => .ok (.int n) om
  | none => .xc ⟨"BadTime", []⟩ om
theorem spl_len (s : Nat) : ∀ (l acc p : List Nat), p ∈ TL.spl [s] 0 acc l → p.length ≤ acc.length + l.length
  | [], acc, p, h => by
    rw [TL.spl_nil] at h
    simp only [List.mem_cons, List.not_mem_nil, or_false] at h
    rw [h]; simp
  | c :: r, acc, p, h => by
    cases hp : TL.pre [s] (c :: r)
    · rw [TL.spl_miss hp] at h
      have := spl_len s r (acc ++ [c]) p h
      simp at this ⊢
      omega
    · rw [TL.spl_hit hp] at h
      rcases List.mem_cons.mp h with rfl | h
      · omega
      · have := spl_len s r [] p h
        simp at this ⊢
        omega
theorem figV_lt {p : List Nat} {n : Nat} (h : figV p = some n) : n < 1000000000 := by
  unfold figV at h
  split at h
  · cases h
  · exact numV_lt h
def timeV (l : List Nat) (rate : Int) : Option Fr :=
  if l.getLast? = some 102 then mixV l.dropLast
  else if l.getLast? = some 115 then (mixV l.dropLast).map fun q => fmul q (rate, 1)
  else match TL.par [32] [] l with
    | none => (clockV l rate).map fun n => (n, 1)
    | some (a, b) => match clockV a rate, restV b with
      | some n, some r => some (fsum (n, 1) r)
      | _, _ => none
theorem clockV_lt {l : List Nat} {rate n : Int} (h : clockV l rate = some n) (hr : 0 ≤ rate ∧ rate ≤ 1000) : 0 ≤ n ∧ n < 36000000000000000 := by
  obtain ⟨a, b, c, d, hh, m, s, f, _, e1, e2, e3, e4, k1, k2, k3, rfl⟩ := clockP_some h
  have := numV_lt e1
  have b1 : 0 ≤ ((hh : Int) * 60 + m) * 60 + s := by omega
  have b2 : ((hh : Int) * 60 + m) * 60 + s ≤ 3600000000000 := by omega
  have b3 : 0 ≤ (((hh : Int) * 60 + m) * 60 + s) * rate := Int.mul_nonneg b1 hr.1
  have b4 : (((hh : Int) * 60 + m) * 60 + s) * rate ≤ 3600000000000 * 1000 := Int.mul_le_mul b2 hr.2 hr.1 (by decide)
  omega
theorem last_or (l : List Nat) : l = [] ∨ ∃ a c, l = a ++ [c] := by
  by_cases hn : l = []
  · exact .inl hn
  · exact .inr ⟨l.dropLast, l.getLast hn, (List.dropLast_concat_getLast hn).symm⟩
theorem timeV_snoc (a : List Nat) (c : Nat) (rate : Int) : timeV (a ++ [c]) rate = if c = 102 then mixV a else if c = 115 then (mixV a).map fun q => fmul q (rate, 1) else match TL.par [32] [] (a ++ [c]) with
    | none => (clockV (a ++ [c]) rate).map fun n => (n, 1)
    | some (x, y) => match clockV x rate, restV y with
      | some n, some r => some (fsum (n, 1) r)
      | _, _ => none := by
  unfold timeV
  simp
theorem bd_clk {n : Int} (h : 0 ≤ n ∧ n < 36000000000000000) : Bd 60 (n, 1) := by
  have p6 : (2 : Nat) ^ 60 = 1152921504606846976 := by decide
  exact ⟨by show (0 : Int) < 1; omega, by show n.natAbs < _; omega, by show (1 : Int).natAbs < _; omega⟩
end Dv

namespace Dv
open PySem PySem.Spec PyProof.Rows L2
/-! ### what is written is read -/
theorem nm_dig (n : Int) : (nm n).all isDig = true := List.all_eq_true.mpr fun c hc => by
  have := TL.numL_digits n.toNat c hc
  unfold isDig
  simp only [Bool.and_eq_true, decide_eq_true_eq]
  exact this
theorem nm_ne (n : Int) : nm n ≠ [] := TL.numL_ne _
theorem nm_free {n : Int} {s : Nat} (h : s < 48 ∨ 57 < s) : s ∉ nm n := TL.numL_free h
theorem numL_head {n : Nat} (h : 0 < n) : (TL.numL n).head? ≠ some 48 := by
  induction n using Nat.strongRecOn with
  | _ n ih =>
    by_cases h9 : n < 10
    · rw [TL.numL_lt h9]
      simp
      omega
    · rw [TL.numL_step (by omega)]
      have := ih (n / 10) (by omega) (by omega)
      have hn := TL.numL_ne (n / 10)
      cases e : TL.numL (n / 10) with
      | nil => exact absurd e hn
      | cons c r => rw [e] at this; simpa using this
theorem numV_nm {n : Int} (h0 : 0 ≤ n) (h : n < 1000000000) : numV (nm n) = some n.toNat := by
  have l9 := nm_len9 h0 h
  have hn := nm_ne n
  unfold numV
  rw [if_neg]
  · rw [show NumText.digitsVal (nm n) = n.toNat from TL.numL_val _]
  · rintro (z | z | z | z)
    · exact hn (List.eq_nil_of_length_eq_zero z)
    · omega
    · by_cases h1 : n.toNat < 10
      · have : nm n = [48 + n.toNat] := TL.numL_lt h1
        rw [this] at z
        simp at z
      · exact numL_head (n := n.toNat) (by omega) z.1
    · rw [nm_dig] at z; cases z
theorem two_dig (n : Int) : (two n).all isDig = true := by
  unfold two
  split
  · rw [List.all_append, nm_dig]; rfl
  · exact nm_dig n
theorem two_free {n : Int} {s : Nat} (h : s < 48 ∨ 57 < s) : s ∉ two n := by
  unfold two
  split
  · simp only [List.mem_append, List.mem_cons, List.not_mem_nil, or_false]
    rintro (z | z)
    · omega
    · exact nm_free h z
  · exact nm_free h
theorem dw_head {l : List Nat} (h : l.head? ≠ some 48) : l.dropWhile (fun c => decide (c = 48)) = l := by
  cases l with
  | nil => rfl
  | cons c r =>
    rw [List.dropWhile_cons, if_neg]
    simpa using h
theorem figV_two {n : Int} (h0 : 0 ≤ n) (h : n < 1000000000) : figV (two n) = some n.toNat := by
  unfold two
  by_cases h1 : n < 10
  · rw [if_pos h1]
    have e : nm n = [48 + n.toNat] := TL.numL_lt (by omega)
    rw [e]
    unfold figV
    rw [if_neg (by simp)]
    by_cases hz : n.toNat = 0
    · rw [hz]; rfl
    · have e2 : ([48] ++ [48 + n.toNat]).dropWhile (fun c => decide (c = 48)) = [48 + n.toNat] := by
        show List.dropWhile _ (48 :: [48 + n.toNat]) = _
        rw [List.dropWhile_cons_of_pos (by simp), List.dropWhile_cons_of_neg (by
          rw [decide_eq_true_eq]
          omega)]
      rw [e2, if_neg (by simp), ← e, numV_nm h0 h]
  · rw [if_neg h1]
    have hh := numL_head (n := n.toNat) (by omega)
    have e2 : (nm n).dropWhile (fun c => decide (c = 48)) = nm n := dw_head hh
    have l2 : ¬ (nm n).length < 2 := by
      have : nm n = TL.numL (n.toNat / 10) ++ [48 + n.toNat % 10] := TL.numL_step (by omega)
      rw [this]
      have := TL.numL_ne (n.toNat / 10)
      cases e : TL.numL (n.toNat / 10) with
      | nil => exact absurd e this
      | cons c r => simp
    unfold figV
    rw [if_neg (fun z => z.elim (fun z => hh z.2) l2), e2, if_neg (nm_ne n), numV_nm h0 h]
/-- a fraction that can be written and read -/
structure Rd (q : Fr) : Prop where
  cn : Cn q
  a : 0 ≤ q.1
  b : q.1 / q.2 < 1000000000
  d : q.2 < 1000000000
theorem mk_cop {t b : Int} (hb : 0 < b) (h : Int.gcd t b = 1) : mk t b = (t, b) := by
  unfold mk gN'
  rw [if_neg (by omega), h]
  simp
theorem rest_nm {q : Fr} (h : Rd q) (h0 : q.1 % q.2 ≠ 0) : restV (nm (q.1 % q.2) ++ 47 :: nm q.2) = some (q.1 % q.2, q.2) := by
  have hc := h.cn.1
  have m := ml (a := q.1) hc
  have hd := h.d
  have g : Int.gcd (q.1 % q.2) q.2 = 1 := by
    have d1 : ((Int.gcd (q.1 % q.2) q.2 : Nat) : Int) ∣ q.1 % q.2 := Int.gcd_dvd_left _ _
    have d2 : ((Int.gcd (q.1 % q.2) q.2 : Nat) : Int) ∣ q.2 := Int.gcd_dvd_right _ _
    generalize Int.gcd (q.1 % q.2) q.2 = k at *
    have d3 : (k : Int) ∣ q.1 := by
      rw [← Int.mul_ediv_add_emod q.1 q.2]
      exact Int.dvd_add (Int.dvd_mul_of_dvd_left d2) d1
    have d4 : k ∣ Int.gcd q.1 q.2 := Nat.dvd_gcd (Int.natAbs_dvd_natAbs.mpr d3) (Int.natAbs_dvd_natAbs.mpr d2)
    rw [h.cn.2] at d4
    exact Nat.dvd_one.mp d4
  unfold restV
  rw [par1_app (nm_free (by decide))]
  dsimp only
  rw [numV_nm m.1 (by omega), numV_nm (by omega) hd]
  dsimp only
  have e1 : (((q.1 % q.2).toNat : Nat) : Int) = q.1 % q.2 := by omega
  have e2 : ((q.2.toNat : Nat) : Int) = q.2 := by omega
  rw [e1, e2, mk_cop hc g, if_neg]
  rintro (z | z | z)
  · omega
  · omega
  · exact z rfl
theorem sum_rest {q : Fr} (h : Rd q) : fsum (q.1 / q.2, 1) (q.1 % q.2, q.2) = q := by
  have hc := h.cn.1
  unfold fsum
  have e : (q.1 / q.2) * q.2 + q.1 % q.2 * 1 = q.1 := by rw [Int.mul_one, Int.mul_comm]; exact Int.mul_ediv_add_emod q.1 q.2
  show mk ((q.1 / q.2) * q.2 + q.1 % q.2 * 1) (1 * q.2) = q
  rw [e, Int.one_mul, mk_cop hc h.cn.2]
theorem cn_one {q : Fr} (h : Cn q) (h0 : q.1 % q.2 = 0) : q.2 = 1 := by
  have d : q.2 ∣ q.1 := Int.dvd_of_emod_eq_zero h0
  have g := h.2
  have := h.1
  have e : q.2.natAbs ∣ Int.gcd q.1 q.2 := Nat.dvd_gcd (Int.natAbs_dvd_natAbs.mpr d) (Nat.dvd_refl _)
  rw [g] at e
  have := Nat.dvd_one.mp e
  omega
theorem mixV_mixL {q : Fr} (h : Rd q) : mixV (mixL q) = some q := by
  have hc := h.cn.1
  have v0 : 0 ≤ q.1 / q.2 := Int.ediv_nonneg h.a (by omega)
  unfold mixL mixV
  by_cases h0 : q.1 % q.2 = 0
  · rw [if_pos h0, par1_none (nm_free (by decide))]
    dsimp only
    rw [numV_nm v0 h.b]
    have e := cn_one h.cn h0
    have e1 : (((q.1 / q.2).toNat : Nat) : Int) = q.1 := by rw [e, Int.ediv_one]; have := h.a; omega
    show some ((((q.1 / q.2).toNat : Nat) : Int), (1 : Int)) = some q
    rw [e1, ← e]
  · rw [if_neg h0]
    have e : (((nm (q.1 / q.2) ++ [32]) ++ nm (q.1 % q.2)) ++ [47]) ++ nm q.2 = nm (q.1 / q.2) ++ 32 :: (nm (q.1 % q.2) ++ 47 :: nm q.2) := by simp
    rw [e, par1_app (nm_free (by decide))]
    dsimp only
    rw [numV_nm v0 h.b, rest_nm h h0]
    dsimp only
    have e1 : (((q.1 / q.2).toNat : Nat) : Int) = q.1 / q.2 := by omega
    rw [e1, sum_rest h]
theorem mix_last (q : Fr) (c : Nat) : (mixL q ++ [c]).getLast? = some c ∧ (mixL q ++ [c]).dropLast = mixL q := by simp
theorem timeV_f {q : Fr} (h : Rd q) (rate : Int) : timeV (mixL q ++ [102]) rate = some q := by
  unfold timeV
  rw [(mix_last q 102).1, (mix_last q 102).2, if_pos rfl, mixV_mixL h]
theorem mul_cop {q : Fr} {rate : Int} (h : Cn q) (hr : 0 < rate) : fmul (mk q.1 (q.2 * rate)) (rate, 1) = q := by
  have hc := h.1
  have hm : 0 < q.2 * rate := Int.mul_pos hc hr
  have mp := (mk_den (t := q.1) (b := q.2 * rate) (by omega)).1
  refine cn_ext (cn_mul mp (by show (0 : Int) < 1; decide)) h ?_
  have c1 := cast_ne (show q.2 ≠ 0 by omega)
  have c2 := cast_ne (show rate ≠ 0 by omega)
  rw [val_mul mp (by show (0 : Int) < 1; decide), val_mk (by omega), val_int1]
  unfold val
  rw [Rat.intCast_mul]
  grind
theorem timeV_s {q : Fr} {rate : Int} (hq : Cn q) (hr : 0 < rate) (h : Rd (mk q.1 (q.2 * rate))) : timeV (mixL (mk q.1 (q.2 * rate)) ++ [115]) rate = some q := by
  unfold timeV
  rw [(mix_last _ 115).1, (mix_last _ 115).2, if_neg (by decide), if_pos rfl, mixV_mixL h]
  show some (fmul (mk q.1 (q.2 * rate)) (rate, 1)) = _
  rw [mul_cop hq hr]
/-! clocks -/
theorem clock_parts {q : Fr} {rate : Int} (hr : 0 < rate) (hr2 : rate ≤ 1000) (h : Rd q) : clockV (clockH q rate) rate = some (q.1 / q.2) := by
  have hc := h.cn.1
  have v0 : 0 ≤ q.1 / q.2 := Int.ediv_nonneg h.a (by omega)
  have hb := h.b
  have w := dl v0 hb hr
  have w2 := dl w.1 w.2 (show (0 : Int) < 3600 by decide)
  have m1 := ml (a := q.1 / q.2 / rate / 60) (show (0 : Int) < 60 by decide)
  have m2 := ml (a := q.1 / q.2 / rate) (show (0 : Int) < 60 by decide)
  have m3 := ml (a := q.1 / q.2) hr
  have e : clockH q rate = TL.joinL [58] [nm (q.1 / q.2 / rate / 3600), two (q.1 / q.2 / rate / 60 % 60), two (q.1 / q.2 / rate % 60), two (q.1 / q.2 % rate)] := by
    unfold clockH
    show _ = nm (q.1 / q.2 / rate / 3600) ++ ([58] ++ (two (q.1 / q.2 / rate / 60 % 60) ++ ([58] ++ (two (q.1 / q.2 / rate % 60) ++ ([58] ++ two (q.1 / q.2 % rate))))))
    simp only [List.append_assoc]
  unfold clockV
  rw [e, TL.spl_join (by simp) (by
    intro p hp
    simp only [List.mem_cons, List.not_mem_nil, or_false] at hp
    rcases hp with rfl | rfl | rfl | rfl
    · exact nm_free (by decide)
    · exact two_free (by decide)
    · exact two_free (by decide)
    · exact two_free (by decide))]
  show (numV _).bind _ = _
  rw [numV_nm w2.1 (by omega)]
  show (figV _).bind _ = _
  rw [figV_two m1.1 (by omega)]
  show (figV _).bind _ = _
  rw [figV_two m2.1 (by omega)]
  show (figV _).bind _ = _
  rw [figV_two m3.1 (by omega)]
  show clockF rate _ _ _ _ = _
  unfold clockF
  rw [if_neg (by omega)]
  congr 1
  have e1 : (((q.1 / q.2 / rate / 3600).toNat : Nat) : Int) = q.1 / q.2 / rate / 3600 := by omega
  have e2 : (((q.1 / q.2 / rate / 60 % 60).toNat : Nat) : Int) = q.1 / q.2 / rate / 60 % 60 := by omega
  have e3 : (((q.1 / q.2 / rate % 60).toNat : Nat) : Int) = q.1 / q.2 / rate % 60 := by omega
  have e4 : (((q.1 / q.2 % rate).toNat : Nat) : Int) = q.1 / q.2 % rate := by omega
  rw [e1, e2, e3, e4]
  generalize q.1 / q.2 = F at *
  have k1 : (F / rate / 3600 * 60 + F / rate / 60 % 60) * 60 + F / rate % 60 = F / rate := by omega
  rw [k1]
  rw [Int.mul_comm]
  exact Int.mul_ediv_add_emod F rate
theorem clockH_free {q : Fr} {rate : Int} {s : Nat} (h : s < 48 ∨ 58 < s) : s ∉ clockH q rate := by
  unfold clockH
  simp only [List.mem_append, List.mem_cons, List.not_mem_nil, or_false]
  rintro ((((((z | z) | z) | z) | z) | z) | z)
  all_goals first
    | exact nm_free (by omega) z
    | exact two_free (by omega) z
    | omega
theorem timeV_c {q : Fr} {rate : Int} (hr : 0 < rate) (hr2 : rate ≤ 1000) (h : Rd q) : timeV (clockL q rate) rate = some q := by
  have nl : ∀ (l : List Nat) (d : List Nat), d ≠ [] → (∀ c ∈ d, c ≠ 102 ∧ c ≠ 115) → (l ++ d).getLast? ≠ some 102 ∧ (l ++ d).getLast? ≠ some 115 := by
    intro l d hd hc
    have : (l ++ d).getLast? = d.getLast? := by
      rw [List.getLast?_append]
      cases e : d.getLast? with
      | none => exact absurd (List.getLast?_eq_none_iff.mp e) hd
      | some x => rfl
    rw [this]
    constructor
    · intro z; exact (hc 102 (List.mem_of_getLast? z)).1 rfl
    · intro z; exact (hc 115 (List.mem_of_getLast? z)).2 rfl
  have fr : ∀ n : Int, ∀ c ∈ nm n, c ≠ 102 ∧ c ≠ 115 := fun n c hc => ⟨fun z => nm_free (n := n) (s := 102) (by decide) (z ▸ hc), fun z => nm_free (n := n) (s := 115) (by decide) (z ▸ hc)⟩
  have fr2 : ∀ n : Int, ∀ c ∈ two n, c ≠ 102 ∧ c ≠ 115 := fun n c hc => ⟨fun z => two_free (n := n) (s := 102) (by decide) (z ▸ hc), fun z => two_free (n := n) (s := 115) (by decide) (z ▸ hc)⟩
  have tn : ∀ n : Int, two n ≠ [] := fun n => by unfold two; split <;> simp [nm_ne]
  have cp := clock_parts hr hr2 h
  have v0 : 0 ≤ q.1 / q.2 := Int.ediv_nonneg h.a (by have := h.cn.1; omega)
  unfold timeV clockL
  by_cases h0 : q.1 % q.2 = 0
  · rw [if_pos h0]
    have l : (clockH q rate).getLast? ≠ some 102 ∧ (clockH q rate).getLast? ≠ some 115 := nl (((nm (q.1 / q.2 / rate / 3600) ++ [58]) ++ two (q.1 / q.2 / rate / 60 % 60)) ++ [58] ++ two (q.1 / q.2 / rate % 60) ++ [58]) (two (q.1 / q.2 % rate)) (tn _) (fr2 _)
    rw [if_neg l.1, if_neg l.2, par1_none (clockH_free (by decide))]
    dsimp only
    rw [cp]
    have e := cn_one h.cn h0
    show some (q.1 / q.2, (1 : Int)) = some q
    have : q.1 / q.2 = q.1 := by rw [e, Int.ediv_one]
    rw [this, ← e]
  · rw [if_neg h0]
    have l := nl (((clockH q rate ++ [32]) ++ nm (q.1 % q.2)) ++ [47]) (nm q.2) (nm_ne _) (fr _)
    rw [if_neg l.1, if_neg l.2]
    have e : (((clockH q rate ++ [32]) ++ nm (q.1 % q.2)) ++ [47]) ++ nm q.2 = clockH q rate ++ 32 :: (nm (q.1 % q.2) ++ 47 :: nm q.2) := by simp
    rw [e, par1_app (clockH_free (by decide))]
    dsimp only
    rw [cp, rest_nm h h0]
    dsimp only
    rw [sum_rest h]
end Dv

/-! ### sorted: pairs of an int and a text; texts -/
namespace Dv
open PySem PySem.Spec PyProof.Rows
section
variable {prog : Program} {w : World} {A : Around} {E : Value → Shared → Prop} {s : Shared}
def IsIS (h : Heap) (v : Value) (x : Int) (y : Str) : Prop := ∃ a o t u n, v = .ref a ∧ h.get? a = some o ∧ o.cls = .type "tuple" ∧ o.data = .seq #[.int x t, .str y u] n
theorem IsIS.keeps {h h' : Heap} {v : Value} {x : Int} {y : Str} (p : IsIS h v x y) (k : ∀ b o, h.get? b = some o → o.cls = .type "tuple" → h'.get? b = some o) : IsIS h' v x y := by
  obtain ⟨a, o, t, u, n, e, ho, hc, hd⟩ := p
  exact ⟨a, o, t, u, n, e, k _ _ ho hc, hc, hd⟩
/-- by the int, then by the text -/
def ltIS (p q : Int × Str) : Bool := if p.1 = q.1 then decide (p.2.cps.toList < q.2.cps.toList) else decide (p.1 < q.1)
theorem nlt_irrefl (l : List Nat) : ¬ l < l := List.lt_irrefl l
theorem swo_IS {α : Type} (k : α → Int × Str) : SrtO.Swo fun v u => ltIS (k v) (k u) := by
  have asy : ∀ a b : List Nat, a < b → ¬ b < a := fun a b h => List.lt_asymm h
  have tr : ∀ a b c : List Nat, ¬ b < a → ¬ c < b → ¬ c < a := fun a b c h1 h2 h3 => by
    have h4 : a ≤ b := h1
    have h5 : b ≤ c := h2
    exact (List.le_trans h4 h5) h3
  refine ⟨fun x y h => ?_, fun x y z h1 h2 => ?_⟩
  · unfold ltIS at h ⊢
    by_cases e : (k x).1 = (k y).1
    · rw [if_pos e, decide_eq_true_eq] at h
      rw [if_pos e.symm]
      exact decide_eq_false (asy _ _ h)
    · rw [if_neg e, decide_eq_true_eq] at h
      rw [if_neg (fun z => e z.symm)]
      exact decide_eq_false (by omega)
  · unfold ltIS at h1 h2 ⊢
    by_cases e1 : (k y).1 = (k x).1
    · rw [if_pos e1] at h1
      by_cases e2 : (k z).1 = (k y).1
      · rw [if_pos e2] at h2
        rw [if_pos (e2.trans e1)]
        exact decide_eq_false (tr _ _ _ (of_decide_eq_false h1) (of_decide_eq_false h2))
      · rw [if_neg e2] at h2
        have := of_decide_eq_false h2
        rw [if_neg (fun q => e2 (q.trans e1.symm))]
        exact decide_eq_false (by omega)
    · rw [if_neg e1] at h1
      have := of_decide_eq_false h1
      by_cases e2 : (k z).1 = (k y).1
      · rw [if_neg (fun q => e1 (e2.symm.trans q))]
        exact decide_eq_false (by omega)
      · rw [if_neg e2] at h2
        have := of_decide_eq_false h2
        by_cases e3 : (k z).1 = (k x).1
        · omega
        · rw [if_neg e3]
          exact decide_eq_false (by omega)
theorem is_cmp {vs : List Value} {k : Value → Int × Str} (hp : ∀ v ∈ vs, IsIS s.heap v (k v).1 (k v).2) : SrtO.Cmp prog w A s (tuples' true) (fun p => p.1 ∈ vs) (SrtO.lt2 fun v u => ltIS (k v) (k u)) := by
  intro p q hm hm'
  have h1 := hp _ hm
  have h2 := hp _ hm'
  show wpAny (model prog w) A (keyLt' (tuples' true) p.1 q.1) (fun r s' => s' = s ∧ r = ltIS (k p.1) (k q.1)) (fun _ _ => False) s
  unfold ltIS
  generalize (k p.1).1 = x at h1 ⊢
  generalize (k p.1).2 = y at h1 ⊢
  generalize (k q.1).1 = x' at h2 ⊢
  generalize (k q.1).2 = y' at h2 ⊢
  obtain ⟨a, o, t, u, n, e, ho, hc, hd⟩ := h1
  obtain ⟨a', o', t', u', n', e', ho', hc', hd'⟩ := h2
  rw [e, e']
  refine PySem.W.kat_lt ho hd ho' hd' ?_
  show PySem.W.KatLex prog w A true (decide (2 < 2)) _ [(.int x t, .int x' t'), (.str y u, .str y' u')] 0 s
  refine PySem.W.kat_cons (SeqAt.EqAt.int_int x t x' t' prog w _ _ ?_)
  refine PySem.W.kat_go (fun e1 => ?_) (fun e1 => ?_)
  · have ex : x = x' := by simpa using e1
    refine PySem.W.kat_yes (PySem.W.kat_cons (SeqAt.EqAt.str_str y u y' u' prog w _ _ ?_))
    refine PySem.W.kat_go (fun e2 => ?_) (fun e2 => ?_)
    · have ey : y = y' := by simpa using e2
      have e3 : (if x = x' then decide (y.cps.toList < y'.cps.toList) else decide (x < x')) = false := by
        rw [if_pos ex, ey]
        exact decide_eq_false (nlt_irrefl _)
      exact PySem.W.kat_yes (PySem.W.kat_nil ⟨rfl, e3.symm⟩)
    · have e3 : (if x = x' then decide (y.cps.toList < y'.cps.toList) else decide (x < x')) = decide (y.cps.toList < y'.cps.toList) := if_pos ex
      refine PySem.W.kat_no (PySem.W.kat_one _ _ (PyProof.Rows.lt_str ?_))
      exact (show s = s ∧ decide (y.cps.toList < y'.cps.toList) = (if x = x' then decide (y.cps.toList < y'.cps.toList) else decide (x < x')) from ⟨rfl, e3.symm⟩)
  · have ex : ¬ x = x' := by simpa using e1
    have e3 : (if x = x' then decide (y.cps.toList < y'.cps.toList) else decide (x < x')) = decide (x < x') := if_neg ex
    exact PySem.W.kat_no (oneLt_int ⟨rfl, e3.symm⟩)
theorem is_firsts {h : Heap} : ∀ {vs : List Value}, (∀ v ∈ vs, ∃ x y, IsIS h v x y) → ∃ fs : List Value, PySem.W.KatTups h vs fs ∧ fs.length = vs.length ∧ ∀ f ∈ fs, ∃ x t, f = Value.int x t
  | [], _ => ⟨[], PySem.W.KatTups.nil, rfl, fun _ hm => by simp at hm⟩
  | v :: vs, hp => by
    obtain ⟨fs, h1, h2, h3⟩ := is_firsts (vs := vs) fun v' hm => hp v' (List.mem_cons_of_mem _ hm)
    obtain ⟨x, y, a, o, t, u, n, e, ho, hc, hd⟩ := hp v (List.mem_cons_self ..)
    subst e
    refine ⟨.int x t :: fs, PySem.W.KatTups.cons ho hc hd rfl h1, by rw [List.length_cons, List.length_cons, h2], fun f hm => ?_⟩
    rcases List.mem_cons.mp hm with rfl | hm
    · exact ⟨x, t, rfl⟩
    · exact h3 f hm
theorem is_sortable {a : Addr} {vs : List Value} {k : Value → Int × Str} (h0 : 0 < vs.length) (hp : ∀ v ∈ vs, IsIS s.heap v (k v).1 (k v).2) (ha : ∀ o, s.heap.get? a = some o → o.cls ≠ .type "tuple") : SrtO.SortableO prog w A s a vs fun v u => ltIS (k v) (k u) := by
  intro h' keep
  have hp' : ∀ v ∈ vs, IsIS h' v (k v).1 (k v).2 := fun v hm => (hp v hm).keeps fun b o e c => keep b o (fun z => by subst z; exact ha o e c) e
  obtain ⟨fs, h1, h2, h3⟩ := is_firsts fun v hm => ⟨_, _, hp' v hm⟩
  refine ⟨tuples' true, fun Q E hq => ?_, is_cmp hp'⟩
  refine PySem.W.kat_kind (T := .type "int") h1 (by omega) (fun f hm => ?_) (by rfl) ?_
  · obtain ⟨x, t, rfl⟩ := h3 f hm
    exact PySem.W.Looks.now
  · have e : (Value.type "int" != Value.type "tuple") = true := by first | decide +kernel | rfl | decide
    rw [e]
    exact hq
theorem sorted_IS {l : Addr} {vs : List Value} {k : Value → Int × Str} {Q : Value → Shared → Prop} (hl : s.heap.IsList l vs.toArray) (hz : vs.length ≤ sizeLine) (hp : ∀ v ∈ vs, IsIS s.heap v (k v).1 (k v).2)
    (h : ∀ (h' : Heap) (d : Addr) (out : List Value), SrtO.Srtd (fun v u => ltIS (k v) (k u)) out → SrtO.Stb (fun v u => ltIS (k v) (k u)) out vs → (∀ b o, s.heap.get? b = some o → h'.get? b = some o) → s.heap.objs.size ≤ d → (∃ n, h'.get? d = some (seqObj "list" out.toArray n)) → Q (.ref d) { s with heap := h' }) :
    wpAny (model prog w) A (call (.builtin "sorted") [.ref l]) Q E s := by
  refine SrtO.sorted_ord (swo_IS k) hl hz (fun h2 h₁ a ha kk => ?_) fun out hs hb => ?_
  · refine is_sortable (s := { s with heap := h₁ }) (by omega) (fun v hm => (hp v hm).keeps fun b o e _ => (kk b o e).2) fun o e => ?_
    have e' : some o = some (seqObj "list" vs.toArray 0) := e.symm.trans ha
    cases e'
    intro c
    exact absurd (Value.type.inj c) (by decide)
  · exact h _ _ out hs hb (fun b o e => sortedAll_old e) (Nat.le_succ _) (sortedAll_at s.heap vs out.toArray)
end
open L2
/-! the sorted list -/
section
variable {α β : Type}
def insB (lt : α → α → Bool) (d : α) : List α → List α
  | [] => [d]
  | x :: r => if lt x d = true then x :: insB lt d r else d :: x :: r
def isort (lt : α → α → Bool) : List α → List α
  | [] => []
  | d :: r => insB lt d (isort lt r)
theorem insB_perm (lt : α → α → Bool) (d : α) : ∀ l : List α, (insB lt d l).Perm (d :: l)
  | [] => .refl _
  | x :: r => by
    unfold insB
    split
    · exact ((insB_perm lt d r).cons x).trans (.swap d x r)
    · exact .refl _
theorem isort_perm (lt : α → α → Bool) : ∀ l : List α, (isort lt l).Perm l
  | [] => .refl _
  | d :: r => (insB_perm lt d _).trans ((isort_perm lt r).cons d)
theorem insB_srtd {lt : α → α → Bool} (O : SrtO.Swo lt) (d : α) : ∀ l : List α, SrtO.Srtd lt l → SrtO.Srtd lt (insB lt d l)
  | [], _ => SrtO.srtd_one d
  | x :: r, h => by
    unfold insB
    split
    · rename_i c
      refine List.pairwise_cons.mpr ⟨fun y hy => ?_, insB_srtd O d r (List.pairwise_cons.mp h).2⟩
      rcases List.mem_cons.mp ((insB_perm lt d r).mem_iff.mp hy) with rfl | hy
      · exact O.asym _ _ c
      · exact SrtO.srtd_head h y hy
    · rename_i c
      simp only [Bool.not_eq_true] at c
      refine List.pairwise_cons.mpr ⟨fun y hy => ?_, h⟩
      rcases List.mem_cons.mp hy with rfl | hy
      · exact c
      · exact O.tr d x y c (SrtO.srtd_head h y hy)
theorem isort_srtd {lt : α → α → Bool} (O : SrtO.Swo lt) : ∀ l : List α, SrtO.Srtd lt (isort lt l)
  | [] => .nil
  | d :: r => insB_srtd O d _ (isort_srtd O r)
theorem insB_cls {lt : α → α → Bool} (O : SrtO.Swo lt) (d x : α) : ∀ l : List α, SrtO.Srtd lt l → (insB lt d l).filter (SrtO.eqv lt x) = (d :: l).filter (SrtO.eqv lt x)
  | [], _ => rfl
  | y :: r, h => by
    unfold insB
    split
    · rename_i c
      have ih := insB_cls O d x r (List.pairwise_cons.mp h).2
      rw [List.filter_cons, ih]
      cases e : SrtO.eqv lt x d
      · rw [List.filter_cons (x := d), e, List.filter_cons (x := d), e, List.filter_cons (x := y)]
        simp
      · have e2 : SrtO.eqv lt x y = false := by
          cases e2 : SrtO.eqv lt x y
          · rfl
          · obtain ⟨p1, p2⟩ := SrtO.eqv_iff.mp e
            obtain ⟨q1, q2⟩ := SrtO.eqv_iff.mp e2
            have t2 := O.tr d x y p1 q2
            rw [c] at t2
            cases t2
        rw [e2]
        simp [List.filter_cons, e, e2]
    · rfl
theorem isort_stb {lt : α → α → Bool} (O : SrtO.Swo lt) : ∀ l : List α, SrtO.Stb lt (isort lt l) l
  | [] => .refl _
  | d :: r => ⟨isort_perm lt _, fun x => by
    show (insB lt d (isort lt r)).filter _ = _
    rw [insB_cls O d x _ (isort_srtd O r), List.filter_cons, List.filter_cons, (isort_stb O r).cls x]⟩
theorem insB_map (lt : β → β → Bool) (f : α → β) (d : α) : ∀ l : List α, (insB (fun x y => lt (f x) (f y)) d l).map f = insB lt (f d) (l.map f)
  | [] => rfl
  | x :: r => by
    rw [List.map_cons]
    unfold insB
    split
    · rw [List.map_cons, insB_map lt f d r]
    · rfl
theorem isort_map (lt : β → β → Bool) (f : α → β) : ∀ l : List α, (isort (fun x y => lt (f x) (f y)) l).map f = isort lt (l.map f)
  | [] => rfl
  | d :: r => by
    show (insB _ d (isort _ r)).map f = insB lt (f d) (isort lt (r.map f))
    rw [insB_map, isort_map]
theorem insB_congr {lt lt' : α → α → Bool} {d : α} : ∀ {l : List α}, (∀ x ∈ l, lt x d = lt' x d) → insB lt d l = insB lt' d l
  | [], _ => rfl
  | x :: r, h => by
    unfold insB
    rw [h x (by simp), insB_congr fun y hy => h y (by simp [hy])]
theorem isort_congr {lt lt' : α → α → Bool} : ∀ {l : List α}, (∀ x ∈ l, ∀ y ∈ l, lt x y = lt' x y) → isort lt l = isort lt' l
  | [], _ => rfl
  | d :: r, h => by
    show insB lt d (isort lt r) = insB lt' d (isort lt' r)
    rw [isort_congr fun x hx y hy => h x (by simp [hx]) y (by simp [hy])]
    exact insB_congr fun x hx => h x (by simp [(isort_perm lt' r).mem_iff.mp hx]) d (by simp)
end
/-- sorted(xs), pairs of an int and a text -/
def rSortedIS (K : PySem.W.Frag) : List V → Hp → VK → Prop := fun vs H Q => ∃ (a : Addr) (α : Type) (ts : List α) (fv : α → V) (key : α → Int × Str), vs = [V.ref a] ∧ SqL K H a (ts.map fv) ∧ (∀ x ∈ ts, ∃ t, fv x = V.ref t ∧ SqT K H t [.int (key x).1, .str (key x).2]) ∧
  ∀ p, H p = none → Q (.ref p) (upd H p (.lst ((isort (fun x y => ltIS (key x) (key y)) ts).map fv)))
section
variable {X : Cx}
open Classical in
theorem cr_sortedIS : CallR X (.builtin "sorted") (rSortedIS X.K) := by
  intro pins s σ H vs us Q I r h
  obtain ⟨a, α, ts, fv, key, rfl, hs, hx0, q⟩ := h
  -- the key of a value
  have uq : ∀ x ∈ ts, ∀ y ∈ ts, fv x = fv y → key x = key y := fun x hx y hy e => by
    obtain ⟨t, e1, h1⟩ := hx0 x hx
    obtain ⟨t', e2, h2⟩ := hx0 y hy
    rw [e1, e2] at e
    cases e
    have := I.tuple_inj h1 h2
    injection this with z1 z2
    injection z2 with z2 z3
    injection z1 with z1
    injection z2 with z2
    exact Prod.ext z1 z2
  let k : V → Int × Str := fun v => if h : ∃ x, x ∈ ts ∧ fv x = v then key h.choose else (0, ⟨#[]⟩)
  have hk : ∀ x ∈ ts, k (fv x) = key x := fun x hx => by
    have h : ∃ y, y ∈ ts ∧ fv y = fv x := ⟨x, hx, rfl⟩
    show (if h : ∃ y, y ∈ ts ∧ fv y = fv x then key h.choose else (0, ⟨#[]⟩)) = key x
    rw [dif_pos h]
    exact uq _ h.choose_spec.1 _ hx h.choose_spec.2
  have hx : ∀ x ∈ ts.map fv, ∃ t, x = V.ref t ∧ SqT X.K H t [.int (k x).1, .str (k x).2] := fun x hm => by
    obtain ⟨y, hy, rfl⟩ := List.mem_map.mp hm
    rw [hk y hy]
    exact hx0 y hy
  obtain ⟨its, rv, hl, hz⟩ := I.list hs
  obtain ⟨u, rfl, ru⟩ := vals1 r
  obtain rfl : u = Value.ref a := ru
  obtain ⟨e1, e2⟩ := refs_back rv fun x m => by
    obtain ⟨t, e, _⟩ := hx x m
    exact ⟨t, e⟩
  refine sorted_IS (k := fun u => k (backV u)) hl.isList (by rw [← rv.length]; exact hz) (fun v hv => ?_) fun h' d out h1 h2 kp hd hn => ?_
  · obtain ⟨t, rfl⟩ := e2 v hv
    have hm : V.ref t ∈ ts.map fv := by rw [e1]; exact List.mem_map.mpr ⟨_, hv, rfl⟩
    obtain ⟨t', e, ht⟩ := hx _ hm
    cases e
    obtain ⟨its2, r2, ⟨o, ho, hc, n, hd⟩, hz2⟩ := I.tuple ht
    obtain ⟨u1, u2, rfl, ri, rj⟩ := vals2 r2
    obtain ⟨t1, rfl⟩ := ri
    obtain ⟨t2, rfl⟩ := rj
    exact ⟨t, o, t1, t2, n, rfl, ho, hc, hd⟩
  · have h3 : ∀ u ∈ out, ∃ a, u = Value.ref a := fun u hu => e2 u (h2.perm.mem_iff.mp hu)
    obtain ⟨n, hn⟩ := hn
    have hb : SrtO.Stb (fun v u => ltIS (k v) (k u)) (out.map backV) (ts.map fv) := by
      rw [e1]
      exact SrtO.Stb.map (swo_IS k) backV h2
    have hsr : SrtO.Srtd (fun v u => ltIS (k v) (k u)) (out.map backV) := SrtO.srtd_map h1
    have e3 : out.map backV = isort (fun v u => ltIS (k v) (k u)) (ts.map fv) :=
      SrtO.stb_uniq (swo_IS k) hsr (isort_srtd (swo_IS k) _) (hb.trans ⟨(isort_perm _ _).symm, fun x => ((isort_stb (swo_IS k) _).cls x).symm⟩)
    have e4 : isort (fun v u => ltIS (k v) (k u)) (ts.map fv) = (isort (fun x y => ltIS (key x) (key y)) ts).map fv := by
      rw [← isort_map (fun v u => ltIS (k v) (k u)) fv ts]
      congr 1
      exact isort_congr fun x hx y hy => by rw [hk x hx, hk y hy]
    have e5 := e3.trans e4
    refine ⟨.ref d, upd H d (.lst (out.map backV)), I.laid (t' := s.toks) kp hd ⟨?_, out, n, vals_back h3, hn⟩, rfl, ?_⟩
    · rw [hb.len]
      exact hz
    · rw [e5]
      exact q d (I.hok.fresh hd)
end
/-! ### sorted, as a built-in of the layer -/
def keyIS : D → Option (Int × Str)
  | .tup [.int i, .str x] => some (i, x)
  | _ => none
def keysIS : List D → Option (List ((Int × Str) × D))
  | [] => some []
  | d :: ds => match keyIS d, keysIS ds with
    | some k, some l => some ((k, d) :: l)
    | _, _ => none
def fSortIS : List D → Option D
  | [.lst ds] => (keysIS ds).map fun l => .lst ((isort (fun x y => ltIS x.1 y.1) l).map (·.2))
  | _ => none
section
variable {g : G} {R : Addr → Prop} {al : List Addr} {om : Om} {σ : St} {ρ : Rho} {H : Hp} {W : WX} {L : Addr → Prop}
theorem RepVs.mem_zip : ∀ {vs : List V} {ds : List D}, RepVs g al L H vs ds → ∀ p ∈ vs.zip ds, RepV g al L H p.1 p.2
  | _, _, .nil, p, h => by simp at h
  | _, _, .cons h r, p, hp => by
    rw [List.zip_cons_cons] at hp
    rcases List.mem_cons.mp hp with rfl | hp
    · exact h
    · exact r.mem_zip p hp
theorem RepVs.of_mem {α : Type} {f : α → V} {h : α → D} : ∀ {l : List α}, (∀ x ∈ l, RepV g al L H (f x) (h x)) → RepVs g al L H (l.map f) (l.map h)
  | [], _ => .nil
  | x :: l, k => .cons (k x (by simp)) (RepVs.of_mem fun y hy => k y (by simp [hy]))
/-- values, keys and data side by side -/
theorem keys_rep : ∀ {vs : List V} {ds : List D} {l : List ((Int × Str) × D)}, RepVs g al L H vs ds → keysIS ds = some l → ∃ ts : List (V × ((Int × Str) × D)), ts.map (·.1) = vs ∧ ts.map (·.2) = l ∧ ∀ x ∈ ts, RepV g al L H x.1 x.2.2 ∧ x.2.2 = .tup [.int x.2.1.1, .str x.2.1.2]
  | _, _, l, .nil, e => by cases e; exact ⟨[], rfl, rfl, by simp⟩
  | v :: vs, d :: ds, l, .cons h r, e => by
    unfold keysIS at e
    cases e1 : keyIS d with
    | none => rw [e1] at e; cases e
    | some k =>
      cases e2 : keysIS ds with
      | none => rw [e1, e2] at e; cases e
      | some l' =>
        rw [e1, e2] at e
        cases e
        obtain ⟨ts, h1, h2, h3⟩ := keys_rep r e2
        refine ⟨(v, (k, d)) :: ts, by rw [List.map_cons, h1], by rw [List.map_cons, h2], fun x hx => ?_⟩
        rcases List.mem_cons.mp hx with rfl | hx
        · refine ⟨h, ?_⟩
          unfold keyIS at e1
          split at e1
          · cases e1; rfl
          · cases e1
        · exact h3 x hx
theorem s_sortIS : FnS g (rSortedIS g.K) fSortIS := by
  intro R W al om σ ρ H Q vs xs S r P
  unfold fSortIS at P
  split at P
  · obtain ⟨v, rfl, h⟩ := r.one
    obtain ⟨a, vs, rfl, h1, h2⟩ := h.lst
    rename_i ds
    cases e : keysIS ds with
    | none => rw [e] at P; exact P.elim
    | some l =>
      rw [e] at P
      obtain ⟨ts, k1, k2, k3⟩ := keys_rep h2 e
      refine ⟨a, _, ts, (·.1), (·.2.1), rfl, by rw [k1]; exact SqL.of h1, fun x hx => ?_, fun p hp => ?_⟩
      · obtain ⟨m1, m2⟩ := k3 x hx
        rw [m2] at m1
        generalize ex : x.1 = xv at m1
        cases m1 with
        | tup t1 t2 =>
          rename_i b ws
          have : ws = [.int x.2.1.1, .str x.2.1.2] := by
            cases t2 with
            | cons a1 a2 => cases a1; cases a2 with
              | cons b1 b2 => cases b1; cases b2; rfl
          rw [this] at t1
          exact ⟨b, ex, t1⟩
      · have e9 : (isort (fun x y => ltIS x.1 y.1) l).map (·.2) = (isort (fun (x y : V × ((Int × Str) × D)) => ltIS x.2.1 y.2.1) ts).map (·.2.2) := by
          rw [← k2, ← isort_map (fun (x y : (Int × Str) × D) => ltIS x.1 y.1) (fun x : V × ((Int × Str) × D) => x.2) ts, List.map_map]
          rfl
        have P' : PostR g R W (relV g) al (Mt al om σ ρ) H σ (.ok (.lst ((isort (fun (x y : V × ((Int × Str) × D)) => ltIS x.2.1 y.2.1) ts).map (·.2.2))) ρ om) Q := by
          rw [← e9]; exact P
        exact okNewL S P' hp (RepVs.of_mem fun x hx => (k3 x ((isort_perm _ _).mem_iff.mp hx)).1)
  · exact P.elim
end
/-! ### a sum of lists as an own list -/
@[simp] def uCatV (i : Nat) (ub : UE) : UW := fun ρ ω => match ρ[i]? with
  | some (some (.own _)) => (ub ρ ω).bind fun y ρ ω => (match ρ[i]?, y with
    | some (some (.own xs)), .lst ys => if xs.length + ys.length ≤ big then .ok (xs ++ ys) ρ ω else .no
    | _, _ => .no)
  | _ => .no
section
variable {g : G} {X : Cx} {W : WX} {a b : Expr} {ub : UE} {pos : Pos}
theorem pu_catV (i : Nat) (ha : PE X a (tVar i)) (hb : PE X b (tE g W ub)) : PE X (.BinOp a .Add b pos) (tOw g W (uCatV i ub)) := peImp (pe_op op_cat ha hb) fun σ H Q ⟨R, ρ, om, al, S, P⟩ => by
  simp only [uCatV] at P
  split at P
  · rename_i xs e
    obtain ⟨a, vs, h1, h2, h3⟩ := S.own i xs e
    refine ⟨_, h1, tR_bindO S P fun y ρ1 om1 w H1 al1 s1 S1 r1 P1 => ?_⟩
    split at P1
    · rename_i xs' ys e1
      split at P1
      · rename_i hz
        obtain ⟨a', vs', k1, k2, k3⟩ := S1.own i xs' e1
        rw [h1] at k1
        cases k1
        cases r1 with
        | lst m1 m2 m3 =>
          exact ⟨_, _, _, _, rfl, rfl, k2, m1, big_line (by rw [k3.length, m3.length]; exact hz), fun p hp => okOwn S1 P1 hp (k3.append m3)⟩
      · exact P1.elim
    · exact P1.elim
  · exact P.elim
end
end Dv

namespace Dv
open PySem PySem.Spec PyProof.Rows L2
/-! ### comprehensions, any target -/
theorem goC_gen {G : UG} {te : UE} {vs : List Nat} {ω : Om} {ρ : Rho} (f : D → D) (r : D → Rho) : ∀ (ds acc : List D), (∀ d ∈ ds, G d ρ = some (r d) ∧ te (r d) ω = .ok (f d) (r d) ω ∧ clrs (r d) vs = ρ) → acc.length + ds.length ≤ big → goC G uYes te vs ds acc ρ ω = .ok (acc ++ ds.map f) ρ ω
  | [], acc, _, _ => by unfold goC; simp
  | d :: ds, acc, h, hz => by
    obtain ⟨h1, h2, h3⟩ := h d (by simp)
    simp only [List.length_cons] at hz
    unfold goC
    rw [h1]
    simp only [uYes, if_true]
    rw [h2]
    dsimp only
    rw [if_pos (by omega), h3, goC_gen f r ds (acc ++ [f d]) (fun x hx => h x (by simp [hx])) (by simp; omega)]
    simp
theorem goC_filt {G : UG} {tt : UT} {te : UE} {vs : List Nat} {ω : Om} {ρ : Rho} (f : D → D) (p : D → Bool) (r : D → Rho) : ∀ (ds acc : List D), (∀ d ∈ ds, G d ρ = some (r d) ∧ tt (r d) ω = .ok (p d) (r d) ω ∧ te (r d) ω = .ok (f d) (r d) ω ∧ clrs (r d) vs = ρ) → acc.length + ds.length ≤ big → goC G tt te vs ds acc ρ ω = .ok (acc ++ (ds.filter p).map f) ρ ω
  | [], acc, _, _ => by unfold goC; simp
  | d :: ds, acc, h, hz => by
    obtain ⟨h1, h0, h2, h3⟩ := h d (by simp)
    simp only [List.length_cons] at hz
    unfold goC
    rw [h1]
    dsimp only
    rw [h0]
    dsimp only
    cases e : p d
    · rw [if_neg (by decide), h3, goC_filt f p r ds acc (fun x hx => h x (by simp [hx])) (by omega), List.filter_cons, e]
      simp
    · rw [if_pos rfl, h2]
      dsimp only
      rw [if_pos (by omega), h3, goC_filt f p r ds (acc ++ [f d]) (fun x hx => h x (by simp [hx])) (by simp; omega), List.filter_cons, e]
      simp
/-! ### small fractions -/
structure Sm (q : Fr) : Prop where
  cn : Cn q
  a : 0 ≤ q.1
  b : q.1 < 1000000000000
  d : q.2 < 100000000
theorem Sm.bd {q : Fr} (h : Sm q) : Bd 40 q := by
  have p6 : (2 : Nat) ^ 40 = 1099511627776 := by decide
  have := h.a
  have := h.b
  have := h.d
  have := h.cn.1
  exact ⟨h.cn.1, by omega, by omega⟩
theorem Sm.wr {q : Fr} (h : Sm q) : Wr q := ⟨h.a, by have := h.b; omega, h.cn.1, by have := h.d; omega⟩
theorem val_floor {q : Fr} (hq : 0 < q.2) {n : Int} (h : val q < (n : Rat)) : q.1 / q.2 < n := by
  have h1 := cast_pos hq
  unfold val at h
  rw [Rat.div_lt_iff h1, ← Rat.intCast_mul, Rat.intCast_lt_intCast] at h
  exact Int.ediv_lt_of_lt_mul hq h
theorem Sm.rd {q : Fr} (h : Sm q) (hv : val q < ((1000000000 : Int) : Rat)) : Rd q := ⟨h.cn, h.a, val_floor h.cn.1 hv, by have := h.d; omega⟩
theorem Sm.nn {q : Fr} (h : Sm q) : 0 ≤ val q := (val_lt_of h.cn.1).mpr h.a
/-! ### cues -/
structure Cu where
  n : Int
  b : Fr
  e : Fr
  ws : List (List Nat × Fr)
@[reducible] def encW (w : List Nat × Fr) : D := .tup [tx w.1, encF w.2]
@[reducible] def encCu (c : Cu) : D := .tup [.int c.n, encF c.b, encF c.e, .lst (c.ws.map encW)]
structure Wd (w : List Nat) : Prop where
  l : 1 ≤ w.length
  m : w.length ≤ 20
  a : ∀ c ∈ w, 97 ≤ c ∧ c ≤ 122
structure CuOk (c : Cu) : Prop where
  n0 : 0 ≤ c.n
  n1 : c.n < 1000000000
  b : Sm c.b
  e : Sm c.e
  lt : val c.b < val c.e
  hi : val c.e < ((200000 : Int) : Rat)
  ws : ∀ w ∈ c.ws, Wd w.1 ∧ Sm w.2 ∧ val c.b ≤ val w.2 ∧ val w.2 < val c.e
  srt : c.ws.Pairwise fun x y => val x.2 ≤ val y.2
  len : c.ws.length ≤ 11
/-- the drawn words with their elevenths -/
@[reducible] def encA (x : Int × List Nat) : D := .tup [.int x.1, tx x.2]
def kA (x : Int × List Nat) : Int × Str := (x.1, ⟨x.2.toArray⟩)
theorem keys_A : ∀ l : List (Int × List Nat), keysIS (l.map encA) = some (l.map fun x => (kA x, encA x))
  | [] => rfl
  | x :: l => by
    rw [List.map_cons, List.map_cons]
    unfold keysIS
    rw [keys_A l]
    rfl
theorem fSort_A (l : List (Int × List Nat)) : fSortIS [.lst (l.map encA)] = some (.lst ((isort (fun x y => ltIS (kA x) (kA y)) l).map encA)) := by
  unfold fSortIS
  dsimp only
  rw [keys_A]
  show some (D.lst _) = _
  rw [← isort_map (fun (x y : (Int × Str) × D) => ltIS x.1 y.1) (fun x : Int × List Nat => (kA x, encA x)) l, List.map_map]
  rfl
theorem sort_ats (l : List (Int × List Nat)) : (isort (fun x y => ltIS (kA x) (kA y)) l).Pairwise (fun x y => x.1 ≤ y.1) := by
  refine (isort_srtd (swo_IS kA) l).imp fun {x y} h => ?_
  have h : ltIS (kA y) (kA x) = false := h
  unfold ltIS kA at h
  dsimp only at h
  by_cases e : y.1 = x.1
  · omega
  · rw [if_neg e] at h
    have := of_decide_eq_false h
    omega
/-! texts of drawn letters -/
theorem let_list {ys : List D} (h : ∀ y ∈ ys, ∃ c, y = tx [c] ∧ 97 ≤ c ∧ c ≤ 122) : ∃ cs : List Nat, ys = cs.map (fun c => tx [c]) ∧ cs.length = ys.length ∧ ∀ c ∈ cs, 97 ≤ c ∧ c ≤ 122 := by
  induction ys with
  | nil => exact ⟨[], rfl, rfl, by simp⟩
  | cons y ys ih =>
    obtain ⟨c, rfl, h1⟩ := h y (by simp)
    obtain ⟨cs, e, l, h2⟩ := ih fun z hz => h z (by simp [hz])
    refine ⟨c :: cs, by rw [e]; rfl, by simp [l], fun x hx => ?_⟩
    rcases List.mem_cons.mp hx with rfl | hx
    · exact h1
    · exact h2 x hx
theorem joinL_nil : ∀ cs : List Nat, TL.joinL [] (cs.map fun c => [c]) = cs
  | [] => rfl
  | [_] => rfl
  | a :: b :: r => by
    show [a] ++ ([] ++ TL.joinL [] ((b :: r).map fun c => [c])) = _
    rw [joinL_nil (b :: r)]
    rfl
theorem lens_one : ∀ cs : List Nat, lens (cs.map fun c => [c]) = cs.length
  | [] => rfl
  | c :: cs => by
    have := lens_one cs
    unfold lens at this ⊢
    simp only [List.map_cons, List.sum_cons, List.length_cons, List.length_nil]
    omega
theorem fJoin_let {cs : List Nat} (h : cs.length ≤ 1000) : fJoin ⟨([] : List Nat).toArray⟩ (.lst (cs.map fun c => tx [c])) = some (tx cs) := by
  have := fJoin_tx (s := []) (ls := cs.map fun c => [c]) (by rw [lens_one]; simp; omega)
  rw [List.map_map, joinL_nil] at this
  exact this
theorem dIx_let {l : List Nat} {k : Int} (h0 : 0 ≤ k) (h1 : k < (l.length : Int)) (hl : l.length ≤ 1000) : ∃ c ∈ l, dIx (tx l) (.int k) = some (tx [c]) := by
  have hk : k.toNat < l.length := by omega
  refine ⟨l[k.toNat], List.getElem_mem hk, ?_⟩
  show (if (⟨l.toArray⟩ : Str).length ≤ big then (match atN l k with | some c => some (D.str ⟨#[c]⟩) | none => none) else none) = _
  rw [len_tx, if_pos (Nat.le_trans hl (by decide))]
  have e : atN l k = some l[k.toNat] := by
    unfold atN
    rw [if_pos h0]
    simp [hk]
  rw [e]
end Dv

namespace Dv
open PySem PySem.Spec PyProof.Rows L2
/-! ### bounds in numbers -/
structure Nb (A B : Nat) (q : Fr) : Prop where
  p : 0 < q.2
  n : q.1.natAbs ≤ A
  d : q.2.natAbs ≤ B
theorem nb_mk {A B : Nat} {t b : Int} (hb : b ≠ 0) (h1 : t.natAbs ≤ A) (h2 : b.natAbs ≤ B) : Nb A B (mk t b) := by
  obtain ⟨h, k, l⟩ := mk_den (t := t) hb
  exact ⟨h, Nat.le_trans l h1, Nat.le_trans k h2⟩
section
variable {A B C D : Nat} {p q : Fr} (h : Nb A B p) (k : Nb C D q)
include h k
theorem nb_sum : Nb (A * D + C * B) (B * D) (fsum p q) := nb_mk (pos_mul h.p k.p) (by
  refine Nat.le_trans (Int.natAbs_add_le _ _) ?_
  rw [Int.natAbs_mul, Int.natAbs_mul]
  exact Nat.add_le_add (Nat.mul_le_mul h.n k.d) (Nat.mul_le_mul k.n h.d)) (by rw [Int.natAbs_mul]; exact Nat.mul_le_mul h.d k.d)
theorem nb_sub : Nb (A * D + C * B) (B * D) (fsub p q) := nb_mk (pos_mul h.p k.p) (by
  refine Nat.le_trans (Int.natAbs_sub_le _ _) ?_
  rw [Int.natAbs_mul, Int.natAbs_mul]
  exact Nat.add_le_add (Nat.mul_le_mul h.n k.d) (Nat.mul_le_mul k.n h.d)) (by rw [Int.natAbs_mul]; exact Nat.mul_le_mul h.d k.d)
theorem nb_mul : Nb (A * C) (B * D) (fmul p q) := nb_mk (pos_mul h.p k.p) (by rw [Int.natAbs_mul]; exact Nat.mul_le_mul h.n k.n) (by rw [Int.natAbs_mul]; exact Nat.mul_le_mul h.d k.d)
end
theorem Nb.bd {A B N : Nat} {q : Fr} (h : Nb A B q) (h1 : A < 2 ^ N) (h2 : B < 2 ^ N) : Bd N q := ⟨h.p, Nat.lt_of_le_of_lt h.n h1, Nat.lt_of_le_of_lt h.d h2⟩
theorem Nb.sm {A B : Nat} {q : Fr} (h : Nb A B q) (hc : Cn q) (hv : 0 ≤ val q) (h1 : A < 1000000000000) (h2 : B < 100000000) : Sm q := by
  have a := h.n
  have b := h.d
  have c := (val_lt_of h.p).mp hv
  have d := h.p
  exact ⟨hc, c, by omega, by omega⟩
structure Tg (m : Int) (q : Fr) : Prop where
  cn : Cn q
  a : 0 ≤ q.1
  b : q.1 < m
  d : q.2 ≤ 30
theorem Tg.nb {m : Int} {q : Fr} (h : Tg m q) : Nb m.toNat 30 q := by
  have := h.a
  have := h.b
  have := h.d
  have := h.cn.1
  exact ⟨h.cn.1, by omega, by omega⟩
theorem val_le_top {q : Fr} (h : 0 < q.2) (h0 : 0 ≤ q.1) : val q ≤ (q.1 : Rat) := by
  have h1 := cast_pos h
  have h2 : (1 : Rat) ≤ (q.2 : Rat) := by
    have : (1 : Int) ≤ q.2 := by omega
    exact Rat.intCast_le_intCast.mpr this
  have h3 : (0 : Rat) ≤ (q.1 : Rat) := by exact Rat.intCast_le_intCast.mpr h0
  unfold val
  rw [← Rat.not_lt, Rat.lt_div_iff h1, Rat.not_lt]
  have := Rat.mul_le_mul_of_nonneg_left h2 h3
  grind
structure CuN (b s e far : Fr) : Prop where
  pb : Sm b
  pe : Sm e
  ps : Bd 20 s
  pf : Bd 40 far
  lt : val b < val e
  hi : val e < ((200000 : Int) : Rat)
  w : ∀ a : Int, 0 ≤ a → a < 11 → Bd 20 (mk a 11) ∧ Sm (fsum b (fmul far (mk a 11))) ∧ val b ≤ val (fsum b (fmul far (mk a 11))) ∧ val (fsum b (fmul far (mk a 11))) < val e
  mono : ∀ a c : Int, 0 ≤ a → a ≤ c → c < 11 → val (fsum b (fmul far (mk a 11))) ≤ val (fsum b (fmul far (mk c 11)))
theorem cue_nums {b t : Fr} (hb : Tg 99999 b) (ht : Tg 25 t) : CuN b (fsum (1, 3) t) (fsum b (fsum (1, 3) t)) (fsub (fsum b (fsum (1, 3) t)) b) := by
  have n3 : Nb 1 3 ((1, 3) : Fr) := ⟨by decide, by decide, by decide⟩
  have nb := hb.nb
  have nt := ht.nb
  have ns := nb_sum n3 nt
  have ne := nb_sum nb ns
  have nf := nb_sub ne nb
  have v0 : 0 ≤ val b := (val_lt_of hb.cn.1).mpr hb.a
  have vt : 0 ≤ val t := (val_lt_of ht.cn.1).mpr ht.a
  have v3 : val ((1, 3) : Fr) = 1 / 3 := by unfold val; rfl
  have vs : val (fsum (1, 3) t) = 1 / 3 + val t := by rw [val_sum n3.p nt.p, v3]
  have ve : val (fsum b (fsum (1, 3) t)) = val b + (1 / 3 + val t) := by rw [val_sum nb.p ns.p, vs]
  have vf : val (fsub (fsum b (fsum (1, 3) t)) b) = 1 / 3 + val t := by rw [val_sub ne.p nb.p, ve]; grind
  have tb := val_le_top hb.cn.1 hb.a
  have tt := val_le_top ht.cn.1 ht.a
  have tb2 : (b.1 : Rat) ≤ ((99999 : Int) : Rat) := Rat.intCast_le_intCast.mpr (by have := hb.b; omega)
  have tt2 : (t.1 : Rat) ≤ ((25 : Int) : Rat) := Rat.intCast_le_intCast.mpr (by have := ht.b; omega)
  have c1 : ((99999 : Int) : Rat) = 99999 := rfl
  have c2 : ((25 : Int) : Rat) = 25 := rfl
  have c3 : ((200000 : Int) : Rat) = 200000 := rfl
  have key : ∀ a : Int, 0 ≤ a → a < 11 → Nb 10 11 (mk a 11) ∧ val (mk a 11) = (a : Rat) / 11 := fun a h0 h1 =>
    ⟨nb_mk (by decide) (by omega) (by decide), by rw [val_mk (by decide)]; rfl⟩
  have vw : ∀ a : Int, 0 ≤ a → a < 11 → val (fsum b (fmul (fsub (fsum b (fsum (1, 3) t)) b) (mk a 11))) = val b + (1 / 3 + val t) * ((a : Rat) / 11) := fun a h0 h1 => by
    obtain ⟨k1, k2⟩ := key a h0 h1
    rw [val_sum nb.p (nb_mul nf k1).p, val_mul nf.p k1.p, vf, k2]
  refine ⟨nb.sm hb.cn v0 (by decide) (by decide), ne.sm (cn_sum nb.p ns.p) (by rw [ve]; grind) (by decide) (by decide), ns.bd (by decide) (by decide), nf.bd (by decide) (by decide), by rw [ve]; grind, by rw [ve]; grind, fun a h0 h1 => ?_, fun a c h0 h1 h2 => ?_⟩
  · obtain ⟨k1, k2⟩ := key a h0 h1
    have nw := nb_sum nb (nb_mul nf k1)
    have a0 : (0 : Rat) ≤ (a : Rat) := by
      have : ((0 : Int) : Rat) ≤ (a : Rat) := Rat.intCast_le_intCast.mpr h0
      exact this
    have a1 : (a : Rat) ≤ 10 := by
      have : (a : Rat) ≤ ((10 : Int) : Rat) := Rat.intCast_le_intCast.mpr (by omega)
      exact this
    have f0 : (0 : Rat) < 1 / 3 + val t := by grind
    have g0 : (0 : Rat) ≤ (a : Rat) / 11 := by grind
    have g1 : (a : Rat) / 11 < 1 := by grind
    have m0 := Rat.mul_nonneg (Rat.le_of_lt f0) g0
    have m1 := Rat.mul_lt_mul_of_pos_left g1 f0
    refine ⟨k1.bd (by decide) (by decide), nw.sm (cn_sum nb.p (nb_mul nf k1).p) (by rw [vw a h0 h1]; grind) (by decide) (by decide), by rw [vw a h0 h1]; grind, by rw [vw a h0 h1, ve]; grind⟩
  · rw [vw a h0 (by omega), vw c (by omega) h2]
    have ac : (a : Rat) ≤ (c : Rat) := Rat.intCast_le_intCast.mpr h1
    have f0 : (0 : Rat) ≤ 1 / 3 + val t := by grind
    have g : (a : Rat) / 11 ≤ (c : Rat) / 11 := by grind
    have := Rat.mul_le_mul_of_nonneg_left g f0
    grind
end Dv

namespace Dv
open PySem PySem.Spec PyProof.Rows L2
/-! ### cues as lines -/
def lineH (c : Cu) : List Nat := [99, 117, 101, 32] ++ (nm c.n ++ ([32, 102, 114, 111, 109, 32] ++ (mixL c.b ++ ([102] ++ ([32, 116, 111, 32] ++ (mixL c.e ++ [102]))))))
def lineW (w : List Nat × Fr) : List Nat := [32, 32] ++ (w.1 ++ ([32, 97, 116, 32] ++ (mixL w.2 ++ [102])))
def linesC (c : Cu) : List (List Nat) := lineH c :: c.ws.map lineW
def linesA : List Cu → List (List Nat)
  | [] => []
  | c :: r => linesC c ++ linesA r
theorem lineH_len {c : Cu} (h : CuOk c) : (lineH c).length ≤ 300 := by
  have h1 := nm_len20 h.n0 (by have := h.n1; omega)
  have h2 := h.b.wr.mix
  have h3 := h.e.wr.mix
  unfold lineH
  simp only [List.length_append, List.length_cons, List.length_nil]
  omega
theorem lineW_len {w : List Nat × Fr} (h : Wd w.1) (k : Sm w.2) : (lineW w).length ≤ 300 := by
  have h1 := h.m
  have h2 := k.wr.mix
  unfold lineW
  simp only [List.length_append, List.length_cons, List.length_nil]
  omega
theorem lines_len : ∀ {cs : List Cu}, (∀ c ∈ cs, CuOk c) → (linesA cs).length ≤ 12 * cs.length ∧ ∀ l ∈ linesA cs, l.length ≤ 300
  | [], _ => ⟨by simp [linesA], by simp [linesA]⟩
  | c :: r, h => by
    have hc := h c (by simp)
    obtain ⟨h1, h2⟩ := lines_len (cs := r) fun x hx => h x (by simp [hx])
    have hl := hc.len
    refine ⟨?_, fun l hl => ?_⟩
    · unfold linesA linesC
      simp only [List.length_append, List.length_cons, List.length_map]
      omega
    · unfold linesA linesC at hl
      rcases List.mem_append.mp hl with q | q
      · rcases List.mem_cons.mp q with rfl | q
        · exact lineH_len hc
        · obtain ⟨w, hw, rfl⟩ := List.mem_map.mp q
          exact lineW_len (hc.ws w hw).1 (hc.ws w hw).2.1
      · exact h2 l q
theorem lens_le {N : Nat} : ∀ {ls : List (List Nat)}, (∀ l ∈ ls, l.length ≤ N) → lens ls ≤ N * ls.length
  | [], _ => by simp [lens]
  | l :: ls, h => by
    have h1 := lens_le (ls := ls) fun x hx => h x (by simp [hx])
    have h2 := h l (by simp)
    unfold lens at h1 ⊢
    simp only [List.map_cons, List.sum_cons, List.length_cons, Nat.mul_succ]
    omega
theorem app_tx {ls : List (List Nat)} (h : ls.length ≤ 1000) (l : List Nat) : mAppend (ls.map tx) [tx l] = some (.non, (ls ++ [l]).map tx) := by
  unfold mAppend
  dsimp only
  rw [if_pos (by rw [List.length_map]; exact Nat.lt_of_le_of_lt h (by decide))]
  simp
end Dv

namespace Dv
open PySem PySem.Spec PyProof.Rows L2
/-! ### seeing through to a shared list -/
def see (ω : Om) : D → D
  | .loc k => match ω[k]? with
    | some (.lst ds) => .lst ds
    | _ => .loc k
  | d => d
@[simp] def uBinX (f : D → D → Option D) (ua ub : UE) : UE := fun ρ ω => (ua ρ ω).bind fun x ρ ω => (ub ρ ω).bind fun y ρ ω => liftO (f (see ω x) (see ω y)) ρ ω
@[simp] def uUnX (f : D → Option D) (ua : UE) : UE := fun ρ ω => (ua ρ ω).bind fun x ρ ω => liftO (f (see ω x)) ρ ω
@[simp] def uFnX (f : List D → Option D) (u : UA) : UE := fun ρ ω => (u ρ ω).bind fun xs ρ ω => liftO (f (xs.map (see ω))) ρ ω
section
variable {g : G} {R : Addr → Prop} {al : List Addr} {om : Om} {σ : St} {ρ : Rho} {H H' : Hp} {W : WX} {X : Cx} {v : V} {d : D} {a b c e o : Expr} {ua ub uc ue uo : UE} {es : List Expr} {us : UA} {p0 pos p1 apos : Pos} {x : Str} {id : String}
theorem see_rep (S : Rst g R al σ ρ om H) (r : RepV g al (LL R al om σ ρ) H v d) : RepW g al (LL R al om σ ρ) H v (see om d) := by
  cases d with
  | loc k =>
    unfold see
    dsimp only
    split
    · rename_i ds e
      cases r with
      | loc ha =>
        obtain ⟨vs, h2, h3⟩ := cell_lst S e ha
        exact .own h2 h3
    · exact .v r
  | _ => exact .v r
theorem see_reps (S : Rst g R al σ ρ om H) : ∀ {vs : List V} {ds : List D}, RepVs g al (LL R al om σ ρ) H vs ds → RepWs g al (LL R al om σ ρ) H vs (ds.map (see om))
  | _, _, .nil => .nil
  | _, _, .cons h r => .cons (see_rep S h) (see_reps S r)
theorem tOpX {r : R2} {f : D → D → Option D} (hf : OpS g r f) {Q : VK} (h : tE g W (uBinX f ua ub) σ H Q) : tOp r (tE g W ua) (tE g W ub) σ H Q := by
  obtain ⟨R, ρ, om, al, S, P⟩ := h
  refine tR_bind S P fun x ρ1 om1 v H1 al1 s1 S1 r1 P1 => ?_
  refine tR_bind S1 P1 fun y ρ2 om2 w H2 al2 s2 S2 r2 P2 => ?_
  exact hf R W al2 om2 σ ρ2 H2 Q v w _ _ S2 (see_rep S2 (s2.rep S1 r1)) (see_rep S2 r2) P2
theorem pu_binX {op : Operator} {r : R2} {f : D → D → Option D} (ho : OpR X (binaryOp op) r) (hf : OpS g r f) (ha : PE X a (tE g W ua)) (hb : PE X b (tE g W ub)) : PE X (.BinOp a op b pos) (tE g W (uBinX f ua ub)) := peImp (pe_op ho ha hb) fun σ H Q h => tOpX hf h
theorem pu_cmpX {op : CmpOp} {r : R2} {f : D → D → Option D} (ho : OpR X (compareOp op) r) (hf : OpS g r f) (ha : PE X a (tE g W ua)) (hb : PE X b (tE g W ub)) (hm : behindInMarks op b = false) : PE X (.Compare a [op] [b] pos) (tE g W (uBinX f ua ub)) := peImp (pe_cmpR ho ha hb hm) fun σ H Q h => tOpX hf h
theorem pt_cmpX {op : CmpOp} {r : R2} {f : D → D → Option D} (ho : OpR X (compareOp op) r) (hf : OpS g r f) (ha : PE X a (tE g W ua)) (hb : PE X b (tE g W ub)) (hm : behindInMarks op b = false) : PT X (.Compare a [op] [b] pos) (tT g W (uB (uBinX f ua ub))) :=
  ptImp (pt_cmpR ho ha hb hm) fun σ H Q h => by
    obtain ⟨R, ρ, om, al, S, P⟩ := tB_of h
    exact tOpX hf ⟨R, ρ, om, al, S, P⟩
theorem pu_ixX {r : R2} {f : D → D → Option D} (ho : IxR X r) (hf : OpS g r f) (ha : PE X a (tE g W ua)) (hb : PE X b (tE g W ub)) (hs : PlainIx b := by exact fun _ _ => rfl) : PE X (.Subscript a b pos) (tE g W (uBinX f ua ub)) := peImp (pe_ix ho ha hb hs) fun σ H Q h => tOpX hf h
theorem pu_isiX (T : String) {n : Str} (hm : X.mg "isinstance" = none) (hn : X.mg n = none) (hv : bootBuiltins n = some (.type T)) (hK : X.K = g.K) (ha : PE X a (tE g W ua)) (hg : Gl X "isinstance" := by rfl) (hgn : Gl X n := by rfl) (hnn : n ≠ "__name__" := by decide) (hdn : (n == ("__debug__" : Str)) = false := by decide)
    (he : starEach (a :: [.Name n p1]) X.env = (false, eval a X.env) :: starEach [.Name n p1] X.env := by rfl) (he2 : starEach [.Name n p1] X.env = (false, eval (.Name n p1) X.env) :: starEach [] X.env := by rfl) (hpl : (backTo pos (starEach [.Name n p1] X.env)).any (·.1) = false := by rfl) :
    PE X (.Call (.Name "isinstance" p0) [a, .Name n p1] [] pos) (tE g W (uUnX (dIsi T) ua)) :=
  peImp (pe_callB call_isi hg hm boot_isinstance (pa_cons ha (pa_cons (pe_bltn (v := .ty T) hgn hn hv rfl hnn hdn) pa_nil he2) he) (by decide) (by decide) he hpl) fun σ H Q ⟨R, ρ, om, al, S, P⟩ =>
    tR_bind S P fun d ρ1 om1 v H1 al1 s1 S1 r1 P1 => by
      cases e : dIsi T (see om1 d) with
      | none => rw [e] at P1; exact P1.elim
      | some z =>
        rw [e] at P1
        obtain ⟨t, k, e1, e2, rfl⟩ := dIsi_some e
        exact (⟨v, .ty T, .type t, .type T, k, rfl, .ty T, by rw [hK]; exact tyX_of (see_rep S1 r1) e1, kit_ty e2, okSame S1 P1 .bl⟩ : rIsi X.K [v, .ty T] H1 Q)
theorem tCBX_of {f : List D → Option D} {r : List V → Hp → VK → Prop} (hf : FnS g r f) {Q : VK} (h : tE g W (uFnX f us) σ H Q) : tCB r (tA g W us) σ H Q := by
  obtain ⟨R, ρ, om, al, S, P⟩ := h
  exact tR_bind S P fun ds ρ1 om1 vs H1 al1 s1 S1 r1 P1 => hf R W al1 om1 σ ρ1 H1 Q vs _ S1 (see_reps S1 r1) P1
theorem pu_fnX {f : List D → Option D} {r : List V → Hp → VK → Prop} (hc : CallR X (.builtin id) r) (hf : FnS g r f) (hm : X.mg x = none) (hv : bootBuiltins x = some (.builtin id)) (ha : PA X (e :: es) (tA g W us)) (hg : Gl X x := by rfl) (hn : x ≠ "__name__" := by decide) (hdb : (x == ("__debug__" : Str)) = false := by decide)
    (he : starEach (e :: es) X.env = (false, eval e X.env) :: starEach es X.env := by rfl) (hpl : (backTo pos (starEach es X.env)).any (·.1) = false := by rfl) : PE X (.Call (.Name x p0) (e :: es) [] pos) (tE g W (uFnX f us)) :=
  peImp (pe_callB hc hg hm hv ha hn hdb he hpl) fun σ H Q h => tCBX_of hf h
/-! ### a for over a list that may change: asked anew at each turn -/
def goX (G : UG) (b : US) (get : Rho → Om → Option (List D)) : Nat → Nat → US
  | 0, _ => fun _ _ => .no
  | f + 1, i => fun ρ ω => match get ρ ω with
    | none => .no
    | some ds => match ds[i]? with
      | none => .nx ρ ω
      | some d => match G d ρ with
        | none => .no
        | some ρ1 => match b ρ1 ω with
          | .nx ρ ω => goX G b get f (i + 1) ρ ω
          | .ct ρ ω => goX G b get f (i + 1) ρ ω
          | .bk ρ ω => .nx ρ ω
          | .rt d ω => .rt d ω
          | .rto d ω => .rto d ω
          | .xc x ρ ω => .xc x ρ ω
          | .no => .no
def getL (k : Nat) : Rho → Om → Option (List D) := fun _ ω => match ω[k]? with
  | some (.lst ds) => some ds
  | _ => none
def lenG (get : Rho → Om → Option (List D)) : Rho → Om → Nat := fun ρ ω => match get ρ ω with
  | some ds => ds.length + 1
  | none => 0
/-- for .. in e, e a shared list -/
def sForL (u : UE) (G : UG) (b : US) : US := fun ρ ω => RS.of (u ρ ω) fun x ρ ω => match x with
  | .loc k => goX G b (getL k) (lenG (getL k) ρ ω) 0 ρ ω
  | _ => .no
variable {tg iter : Expr} {body : List Stmt} {G' : UG} {u : US}
theorem ps_forL (hp : PassesOwn (model X.prog X.w) X.A X.env X.xe) (hc : X.calm = true) (hK : X.K = g.K) (he : PE X iter (tE g W ue)) (hg : PG X tg (tG g G')) (hb : PSs X body (tS g W u))
    (hs : ∀ x, foldedSetIterable iter X.env x = pure x := by intro _; rfl) : PS X (.For tg iter body [] pos) (tS g W (sForL ue G' u)) := psImp (ps_for hp hc (pi_list he) hg hb hs) fun De σ H ⟨R, ρ, om, al, S, P⟩ => by
  refine tR_bindS S P fun x ρ1 om1 v H1 al1 s1 S1 r1 P1 => ?_
  cases x <;> first | exact P1.elim | skip
  rename_i k
  cases r1 with
  | loc ha =>
  rename_i ad
  dsimp only at P1
  have cell : ∀ {al' : List Addr} {om' : Om} {σ' : St} {ρ' : Rho} {H' : Hp} {ds : List D}, (∀ (i : Nat) (a : Addr), al1[i]? = some a → al'[i]? = some a) → Rst g R al' σ' ρ' om' H' → getL k ρ' om' = some ds → ∃ vs, SqL X.K H' ad vs ∧ H' ad = some (.lst vs) ∧ RepVs g al' (LL R al' om' σ' ρ') H' vs ds := fun {al' om' σ' ρ' H' ds} ext S' e => by
    unfold getL at e
    split at e
    · rename_i ds' e'
      cases e
      obtain ⟨vs, h1, h2⟩ := cell_lst S' e' (ext _ _ ha)
      exact ⟨vs, SqL.of h1, h1, h2⟩
    · cases e
  have first : ∃ vs, SqL X.K H1 ad vs := by
    unfold lenG at P1
    cases e : getL k ρ1 om1 with
    | none => rw [e] at P1; exact P1.elim
    | some ds => obtain ⟨vs, h, _⟩ := cell (fun _ _ h => h) S1 e; exact ⟨vs, h⟩
  refine ⟨ad, rfl, first, ?_⟩
  refine ⟨fun i m σ' H' => ∃ ρ' om' al', Step al1 (Mt al1 om1 σ ρ1) H1 al' (Mt al' om' σ' ρ') H' ∧ Rst g R al' σ' ρ' om' H' ∧ PostS g R W al' (Mt al' om' σ' ρ') H' (goX G' u (getL k) m i ρ' om') De, ⟨_, ρ1, om1, al1, .refl, S1, P1⟩, ?_⟩
  rintro i m σ2 H2 ⟨ρ2, om2, al2, s2, S2, P2⟩
  cases m with
  | zero => exact P2.elim
  | succ m =>
    unfold goX at P2
    cases e : getL k ρ2 om2 with
    | none => rw [e] at P2; exact P2.elim
    | some ds =>
      rw [e] at P2
      dsimp only at P2
      obtain ⟨vs, q0, q1, q2⟩ := cell s2.ext S2 e
      cases ed : ds[i]? with
      | none =>
        rw [ed] at P2
        refine .inl ⟨⟨vs, q0, ?_⟩, P2 σ2 H2 al2 .refl S2⟩
        rw [q2.length]
        exact List.getElem?_eq_none_iff.mp ed
      | some d =>
        rw [ed] at P2
        dsimp only at P2
        obtain ⟨v0, h0, h1⟩ := q2.get ed
        refine .inr ⟨⟨vs, v0, q0, h0⟩, fun σ' H' => ∃ ρ' om' al', Step al1 (Mt al1 om1 σ ρ1) H1 al' (Mt al' om' σ' ρ') H' ∧ Rst g R al' σ' ρ' om' H' ∧ PostS g R W al' (Mt al' om' σ' ρ') H' (goX G' u (getL k) m (i + 1) ρ' om') De, fun σ' H' h => ⟨m, Nat.lt_succ_self m, h⟩, fun x H3 ⟨e3, hx⟩ => ?_⟩
        subst e3
        have h2 := hx vs q0
        rw [h0] at h2
        cases h2
        cases eg : G' d ρ2 with
        | none => rw [eg] at P2; exact P2.elim
        | some ρ3 =>
          rw [eg] at P2
          refine ⟨R, ρ2, om2, al2, d, ρ3, S2, h1, eg, fun σ4 s4 S4 => ?_⟩
          refine ⟨R, ρ3, om2, al2, S4, ?_⟩
          have P4 := PostS.step s4 P2
          dsimp only at P4
          cases eb : u ρ3 om2 with
          | nx ρ5 om5 => rw [eb] at P4; exact fun σ5 H5 al5 s5 S5 => ⟨ρ5, om5, al5, (s2.trans s4).trans s5, S5, PostS.step s5 P4⟩
          | ct ρ5 om5 => rw [eb] at P4; exact fun σ5 H5 al5 s5 S5 => ⟨ρ5, om5, al5, (s2.trans s4).trans s5, S5, PostS.step s5 P4⟩
          | bk ρ5 om5 => rw [eb] at P4; exact P4
          | rt d5 om5 => rw [eb] at P4; exact P4
          | rto d5 om5 => rw [eb] at P4; exact P4
          | xc x5 ρ5 om5 => rw [eb] at P4; exact P4
          | no => rw [eb] at P4; exact P4
theorem goX_end (G : UG) (b : US) (get : Rho → Om → Option (List D)) {f i : Nat} {r : Rho} {o : Om} {ds : List D} (h : get r o = some ds) (hi : ds[i]? = none) : goX G b get (f + 1) i r o = .nx r o := by
  unfold goX
  rw [h]
  dsimp only
  rw [hi]
theorem goX_next (G : UG) (b : US) (get : Rho → Om → Option (List D)) {f i : Nat} {r ρ1 : Rho} {o : Om} {ds : List D} {d : D} (h : get r o = some ds) (hi : ds[i]? = some d) (hg : G d r = some ρ1) : goX G b get (f + 1) i r o = (b ρ1 o).turn (goX G b get f (i + 1)) := by
  conv => lhs; unfold goX
  rw [h]
  dsimp only
  rw [hi]
  dsimp only
  rw [hg]
  dsimp only
  cases b ρ1 o <;> rfl
end
/-! ### instances -/
def isIns (ω : Om) (x : D) (c m : Str) : Bool := match x with
  | .obj c' fs => decide (c' = c) && (fs.lookup m).isNone
  | .loc k => (match ω[k]? with
    | some (.ins c' fs) => decide (c' = c) && (fs.lookup m).isNone
    | _ => false)
  | _ => false
@[simp] def uFld (c f : Str) (ua : UE) : UE := fun ρ ω => (ua ρ ω).bind fun x ρ ω => match x with
  | .obj c' fs => if c' = c then liftO (fs.lookup f) ρ ω else .no
  | .loc k => (match ω[k]? with
    | some (.ins c' fs) => if c' = c then liftO (fs.lookup f) ρ ω else .no
    | _ => .no)
  | _ => .no
@[simp] def sFldU (c f : Str) (uo uv : UE) : US := fun ρ ω => RS.of (uv ρ ω) fun d ρ ω => RS.of (uo ρ ω) fun x ρ ω => match x with
  | .loc k => (match ω[k]? with
    | some (.ins c' fs) => if c' = c ∧ fs.length < 900 then .nx ρ (ω.set k (.ins c' (putD f d fs))) else .no
    | _ => .no)
  | _ => .no
@[simp] def uMeth (c m : Str) (n : Nat) (S : FN) (uo : UE) (us : UA) : UE := fun ρ ω => (uo ρ ω).bind fun x ρ ω => if isIns ω x c m = true then (us ρ ω).bind fun ds ρ ω => if ds.length + 1 = n then (S (x :: ds) ω).res ρ else .no else .no
@[simp] def uMethO (c m : Str) (n : Nat) (S : FN) (uo : UE) (us : UA) : UW := fun ρ ω => (uo ρ ω).bind fun x ρ ω => if isIns ω x c m = true then (us ρ ω).bind fun ds ρ ω => if ds.length + 1 = n then (S (x :: ds) ω).own ρ else .no else .no
/-- a new instance, shared -/
@[simp] def uMake (c : Str) (n : Nat) (S : FN) (us : UA) : UE := fun ρ ω => (us ρ ω).bind fun ds ρ ω => if ds.length + 1 = n then (match S (.loc ω.length :: ds) (ω ++ [.ins c []]) with
  | .ok .non ω' => .ok (.loc ω.length) ρ ω'
  | _ => .no) else .no
/-- a shared instance that stays as it is from now on -/
@[simp] def uFrzI (ua : UE) : UE := fun ρ ω => (ua ρ ω).bind fun x ρ ω => match x with
  | .loc k => (match ω[k]? with
    | some (.ins c fs) => .ok (.obj c fs) ρ (ω.set k .gone)
    | _ => .no)
  | _ => .no
section
variable {g : G} {R : Addr → Prop} {al : List Addr} {om : Om} {σ : St} {ρ : Rho} {H H' : Hp} {W : WX} {X : Cx} {v : V} {d : D} {a b c e o : Expr} {ua ub uc ue uo uv : UE} {es : List Expr} {us : UA} {p0 pos p1 apos pos' : Pos} {x cn f m : Str} {k n : Nat} {S : FN} {ps : List Str}
theorem pu_fld (cn f : Str) (hc : Cls X.K (g.cls cn)) (hn : NoAttr X.K (g.cls cn) f) (ha : PE X a (tE g W ua)) (hb : attributeBase a f X.env (eval a X.env) = eval a X.env := by rfl) : PE X (.Attribute a f pos) (tE g W (uFld cn f ua)) :=
  peImp (pe_fld ha hb) fun σ H Q ⟨R, ρ, om, al, S, P⟩ => tR_bind S P fun x ρ1 om1 v H1 al1 s1 S1 r1 P1 => by
    cases x <;> first | exact P1.elim | skip
    · rename_i c' fs
      dsimp only at P1
      split at P1
      · rename_i ec
        subst ec
        cases e : fs.lookup f with
        | none => rw [e] at P1; exact P1.elim
        | some d =>
          rw [e] at P1
          cases r1 with
          | obj h1 h2 h3 =>
            obtain ⟨w, k1, k2⟩ := h3.lookup e
            exact ⟨_, _, _, _, w, rfl, h1, hc, hn, k1, okSame S1 P1 k2⟩
      · exact P1.elim
    · rename_i k
      dsimp only at P1
      split at P1
      · rename_i c' fs e0
        split at P1
        · rename_i ec
          subst ec
          cases e : fs.lookup f with
          | none => rw [e] at P1; exact P1.elim
          | some d =>
            rw [e] at P1
            cases r1 with
            | loc h1 =>
              obtain ⟨dx, fvs, m1, m2⟩ := S1.o.cel k _ _ e0 h1
              obtain ⟨w, k1, k2⟩ := m2.lookup e
              exact ⟨_, _, _, _, w, rfl, m1, hc, hn, k1, okSame S1 P1 k2⟩
        · exact P1.elim
      · exact P1.elim
theorem ps_fldU (cn f : Str) (hc : Cls X.K (g.cls cn)) (hn : NoAttr X.K (g.cls cn) f) (ho : PE X o (tE g W uo)) (hv : PE X e (tE g W uv)) (hs : swapsWith e (some (.Attribute o f pos')) pos.line X.env = pure false := by rfl) : PS X (.Assign [.Attribute o f pos'] e pos) (tS g W (sFldU cn f uo uv)) :=
  psImp (ps_fld ho hv hs) fun De σ H ⟨R, ρ, om, al, S, P⟩ => tR_bindS S P fun d ρ1 om1 y H1 al1 s1 S1 r1 P1 => tR_bindS S1 P1 fun x ρ2 om2 z H2 al2 s2 S2 r2 P2 => by
    cases x <;> first | exact P2.elim | skip
    rename_i k
    dsimp only at P2
    split at P2
    · rename_i c' fs e0
      split at P2
      · rename_i ec
        obtain ⟨ec, hz⟩ := ec
        subst ec
        cases r2 with
        | loc h1 =>
          rename_i ad
          obtain ⟨dx, fvs, m1, m2⟩ := S2.o.cel k _ _ e0 h1
          have rd : RepV g al2 (LL R al2 om2 σ ρ2) H2 y d := s2.rep S1 r1
          have L : Lv al2 om2 ad := ⟨k, _, h1, e0, by simp⟩
          have cr : Car g al2 (LL R al2 om2 σ ρ2) H2 al2 (LL R al2 om2 σ ρ2) (upd H2 ad (.ins (g.cls c') dx (putF f y fvs))) := by
            refine ⟨fun b vs h => ?_, fun b vs h n => ⟨?_, n⟩, fun b vs h => ?_, fun b C dx' fs' h n => ⟨?_, n⟩, fun _ _ h => h⟩
            · rcases h with (h | ⟨o, h⟩) | h
              · exact .inl (.inl (by rw [upd_ne (ne_of h m1 (by intro z; cases z))]; exact h))
              · exact .inl (.inr ⟨o, by rw [upd_ne (ne_of h m1 (by intro z; cases z))]; exact h⟩)
              · exact .inr h
            · rw [upd_ne (ne_of h m1 (by intro z; cases z))]; exact h
            · exact h.imp (fun ⟨o, h⟩ => ⟨o, by rw [upd_ne (ne_of h m1 (by intro z; cases z))]; exact h⟩) id
            · rw [upd_ne (fun z => n (by rw [z]; exact .inl (.inl L)))]; exact h
          obtain ⟨S3, s3⟩ := S2.setCell (o := .ins (g.cls c') dx (putF f y fvs)) e0 (by simp) (c' := .ins c' (putD f d fs)) (by simp) h1 ⟨dx, putF f y fvs, upd_same, (m2.put rd).car cr⟩
          exact ⟨_, _, _, _, rfl, m1, hc, hn, by rw [m2.length]; omega, P2 σ _ al2 s3 S3⟩
      · exact P2.elim
    · exact P2.elim
/-- an instance of the class -/
theorem ins_at (S : Rst g R al σ ρ om H) {d : D} (r : RepV g al (LL R al om σ ρ) H v d) (h : isIns om d cn m = true) : ∃ ad dx fs, v = .ref ad ∧ H ad = some (.ins (g.cls cn) dx fs) ∧ fs.lookup m = none := by
  cases d <;> first | (cases h; done) | skip
  · rename_i c' fs
    unfold isIns at h
    simp only [Bool.and_eq_true, decide_eq_true_eq, Option.isNone_iff_eq_none] at h
    obtain ⟨rfl, h⟩ := h
    cases r with
    | obj h1 h2 h3 => exact ⟨_, _, _, rfl, h1, h3.lookup_none h⟩
  · rename_i k
    unfold isIns at h
    dsimp only at h
    split at h
    · rename_i c' fs e0
      simp only [Bool.and_eq_true, decide_eq_true_eq, Option.isNone_iff_eq_none] at h
      obtain ⟨rfl, h⟩ := h
      cases r with
      | loc h1 =>
        obtain ⟨dx, fvs, m1, m2⟩ := S.o.cel k _ _ e0 h1
        exact ⟨_, _, _, rfl, m1, m2.lookup_none h⟩
    · cases h
/-! calls of methods -/
def tMethS (C : Addr) (m : Str) (sp : Sp) (E : St → XK) (ta : TE) (t : TA) : TE := fun σ H Q => ta σ H fun x H1 => ∃ a dx fs, x = .ref a ∧ H1 a = some (.ins C dx fs) ∧ fs.lookup m = none ∧ t σ H1 fun vs H2 => sp (x :: vs) H2 Q (E σ)
theorem pe_methS {CX : CXT} {C fa : Addr} {fd : FuncData} {sp : Sp} {E : St → XK} {ta : TE} {t : TA} {pl : Sem Bool} (he : PE X o ta) (c : Cls X.K C) (hm : Meth X.K C m fa) (F : FnOk X.prog X.w X.K X.mg X.base CX k fa fd ps sp) (hr : Room k X.A) (hb : Binds X.K fd ps []) (hx : ∀ σ, PassesAt CX X σ (E σ)) (ha : PA X (e :: es) t)
    (hst : starEach (e :: es) X.env = (false, eval e X.env) :: starEach es X.env := by rfl) (hpl : (backTo pos (starEach es X.env)).any (·.1) = false := by rfl)
    (ht : eval (.Call (.Attribute o m apos) (e :: es) [] pos) X.env = (do
      let ov ← eval o X.env
      standAt apos.atName
      let (f, first) ← holding [ov] (getMethod ov m pl)
      callWith pos f first (backTo pos (starEach (e :: es) X.env)) (backToKw pos (keywordEach [] X.env))) := by rfl) :
    PE X (.Call (.Attribute o m apos) (e :: es) [] pos) (tMethS C m sp E ta t) := by
  refine ⟨fun pins s σ H Q I h => ?_⟩
  refine PySem.W.methodCall_KW (pl := pl) (thn (he.run pins s σ H _ I h) fun u s1 ⟨x, H1, I1, rx, a, dx, fs, ex, ea, l, q⟩ => ?_) ht
  subst ex
  obtain rfl : u = Value.ref a := rx
  refine getmeth_ok I1 ea c hm l ?_
  refine PySem.W.callWith_K (first := [.ref a]) (h₀ := X.base) I.ok.mod.kin hm.kp (thn (ha.run pos pins s1 σ H1 _ I1 q) fun us s2 ⟨vs, H2, I2, r, q2⟩ => ⟨I2.kIn, ?_⟩) hst hpl
  exact run_fnS (us := .ref a :: us) (vs := .ref a :: vs) F hr hb (hx σ) I2 (.cons rfl r) q2
theorem pe_methS0 {CX : CXT} {C fa : Addr} {fd : FuncData} {sp : Sp} {E : St → XK} {ta : TE} {pl : Sem Bool} (he : PE X o ta) (c : Cls X.K C) (hm : Meth X.K C m fa) (F : FnOk X.prog X.w X.K X.mg X.base CX k fa fd ps sp) (hr : Room k X.A) (hb : Binds X.K fd ps []) (hx : ∀ σ, PassesAt CX X σ (E σ))
    (ht : eval (.Call (.Attribute o m apos) [] [] pos) X.env = (do
      let ov ← eval o X.env
      standAt apos.atName
      let (f, first) ← holding [ov] (getMethod ov m pl)
      callWith pos f first (backTo pos (starEach [] X.env)) (backToKw pos (keywordEach [] X.env))) := by rfl) :
    PE X (.Call (.Attribute o m apos) [] [] pos) (tMethS C m sp E ta tNil) := by
  refine ⟨fun pins s σ H Q I h => ?_⟩
  refine PySem.W.methodCall_KW (pl := pl) (thn (he.run pins s σ H _ I h) fun u s1 ⟨x, H1, I1, rx, a, dx, fs, ex, ea, l, q⟩ => ?_) ht
  subst ex
  obtain rfl : u = Value.ref a := rx
  refine getmeth_ok I1 ea c hm l ?_
  exact PySem.W.callWith_K0 (first := [.ref a]) I1.kIn hm.kp (run_fnS (us := [.ref a]) (vs := [.ref a]) F hr hb (hx σ) I1 (.cons rfl .nil) q)
/-- a method as it stands, and its promise -/
def HasM (P : Program) (w : World) (K : PySem.W.Frag) (mg : Str → Option Value) (base : Heap) (C : Addr) (m : Str) (ps : List Str) (k : Nat) (sp : Sp) : Prop :=
  ∃ (f : Addr) (fd : FuncData), Meth K C m f ∧ Binds K fd ps [] ∧ FnOk P w K mg base (L2.CX P w) k f fd ps sp
theorem pu_meth (h : HasM X.prog X.w X.K X.mg X.base (g.cls cn) m ps k (spU g ps.length S)) (hc : Cls X.K (g.cls cn)) (hr : Room k X.A) (tk : Takes X W) (ho : PE X o (tE g W uo)) (ha : PA X (e :: es) (tA g W us)) {pl : Sem Bool}
    (hst : starEach (e :: es) X.env = (false, eval e X.env) :: starEach es X.env := by rfl) (hpl : (backTo pos (starEach es X.env)).any (·.1) = false := by rfl)
    (ht : eval (.Call (.Attribute o m apos) (e :: es) [] pos) X.env = (do
      let ov ← eval o X.env
      standAt apos.atName
      let (f, first) ← holding [ov] (getMethod ov m pl)
      callWith pos f first (backTo pos (starEach (e :: es) X.env)) (backToKw pos (keywordEach [] X.env))) := by rfl) :
    PE X (.Call (.Attribute o m apos) (e :: es) [] pos) (tE g W (uMeth cn m ps.length S uo us)) := by
  obtain ⟨f, fd, hm, hb, F⟩ := h
  refine peImp (pe_methS ho hc hm F hr hb (fun σ => passAt tk σ) ha hst hpl ht) fun σ H Q ⟨R, ρ, om, al, St, P⟩ => ?_
  refine tR_bind St P fun x ρ1 om1 v H1 al1 s1 S1 r1 P1 => ?_
  split at P1
  · rename_i hi
    obtain ⟨ad, dx, fs, rfl, q1, q2⟩ := ins_at S1 r1 hi
    refine ⟨ad, dx, fs, rfl, q1, q2, tR_bind S1 P1 fun ds ρ2 om2 vs H2 al2 s2 S2 r2 P2 => ?_⟩
    split at P2
    · rename_i hl
      exact call_end (ds := x :: ds) S2 (.cons (s2.rep S1 r1) r2) P2 _ (by rw [List.length_cons, RepVs.length r2]; exact hl)
    · exact P2.elim
  · exact P1.elim
theorem pu_meth0 (h : HasM X.prog X.w X.K X.mg X.base (g.cls cn) m ps k (spU g ps.length S)) (hc : Cls X.K (g.cls cn)) (hr : Room k X.A) (tk : Takes X W) (ho : PE X o (tE g W uo)) {pl : Sem Bool}
    (ht : eval (.Call (.Attribute o m apos) [] [] pos) X.env = (do
      let ov ← eval o X.env
      standAt apos.atName
      let (f, first) ← holding [ov] (getMethod ov m pl)
      callWith pos f first (backTo pos (starEach [] X.env)) (backToKw pos (keywordEach [] X.env))) := by rfl) :
    PE X (.Call (.Attribute o m apos) [] [] pos) (tE g W (uMeth cn m ps.length S uo uNil)) := by
  obtain ⟨f, fd, hm, hb, F⟩ := h
  refine peImp (pe_methS0 ho hc hm F hr hb (fun σ => passAt tk σ) ht) fun σ H Q ⟨R, ρ, om, al, St, P⟩ => ?_
  refine tR_bind St P fun x ρ1 om1 v H1 al1 s1 S1 r1 P1 => ?_
  split at P1
  · rename_i hi
    obtain ⟨ad, dx, fs, rfl, q1, q2⟩ := ins_at S1 r1 hi
    refine ⟨ad, dx, fs, rfl, q1, q2, ?_⟩
    simp only [uNil, Res.bind] at P1
    split at P1
    · rename_i hl
      exact call_end (ds := [x]) S1 (.cons r1 .nil) P1 _ hl
    · exact P1.elim
  · exact P1.elim
theorem pu_methO (h : HasM X.prog X.w X.K X.mg X.base (g.cls cn) m ps k (spO g ps.length S)) (hc : Cls X.K (g.cls cn)) (hr : Room k X.A) (tk : Takes X W) (ho : PE X o (tE g W uo)) (ha : PA X (e :: es) (tA g W us)) {pl : Sem Bool}
    (hst : starEach (e :: es) X.env = (false, eval e X.env) :: starEach es X.env := by rfl) (hpl : (backTo pos (starEach es X.env)).any (·.1) = false := by rfl)
    (ht : eval (.Call (.Attribute o m apos) (e :: es) [] pos) X.env = (do
      let ov ← eval o X.env
      standAt apos.atName
      let (f, first) ← holding [ov] (getMethod ov m pl)
      callWith pos f first (backTo pos (starEach (e :: es) X.env)) (backToKw pos (keywordEach [] X.env))) := by rfl) :
    PE X (.Call (.Attribute o m apos) (e :: es) [] pos) (tOw g W (uMethO cn m ps.length S uo us)) := by
  obtain ⟨f, fd, hm, hb, F⟩ := h
  refine peImp (pe_methS ho hc hm F hr hb (fun σ => passAt tk σ) ha hst hpl ht) fun σ H Q ⟨R, ρ, om, al, St, P⟩ => ?_
  refine tR_bindO St P fun x ρ1 om1 v H1 al1 s1 S1 r1 P1 => ?_
  split at P1
  · rename_i hi
    obtain ⟨ad, dx, fs, rfl, q1, q2⟩ := ins_at S1 r1 hi
    refine ⟨ad, dx, fs, rfl, q1, q2, tR_bindO S1 P1 fun ds ρ2 om2 vs H2 al2 s2 S2 r2 P2 => ?_⟩
    split at P2
    · rename_i hl
      exact call_endO (ds := x :: ds) S2 (.cons (s2.rep S1 r1) r2) P2 _ (by rw [List.length_cons, RepVs.length r2]; exact hl)
    · exact P2.elim
  · exact P1.elim
theorem pu_methO0 (h : HasM X.prog X.w X.K X.mg X.base (g.cls cn) m ps k (spO g ps.length S)) (hc : Cls X.K (g.cls cn)) (hr : Room k X.A) (tk : Takes X W) (ho : PE X o (tE g W uo)) {pl : Sem Bool}
    (ht : eval (.Call (.Attribute o m apos) [] [] pos) X.env = (do
      let ov ← eval o X.env
      standAt apos.atName
      let (f, first) ← holding [ov] (getMethod ov m pl)
      callWith pos f first (backTo pos (starEach [] X.env)) (backToKw pos (keywordEach [] X.env))) := by rfl) :
    PE X (.Call (.Attribute o m apos) [] [] pos) (tOw g W (uMethO cn m ps.length S uo uNil)) := by
  obtain ⟨f, fd, hm, hb, F⟩ := h
  refine peImp (pe_methS0 ho hc hm F hr hb (fun σ => passAt tk σ) ht) fun σ H Q ⟨R, ρ, om, al, St, P⟩ => ?_
  refine tR_bindO St P fun x ρ1 om1 v H1 al1 s1 S1 r1 P1 => ?_
  split at P1
  · rename_i hi
    obtain ⟨ad, dx, fs, rfl, q1, q2⟩ := ins_at S1 r1 hi
    refine ⟨ad, dx, fs, rfl, q1, q2, ?_⟩
    simp only [uNil, Res.bind] at P1
    split at P1
    · rename_i hl
      exact call_endO (ds := [x]) S1 (.cons r1 .nil) P1 _ hl
    · exact P1.elim
  · exact P1.elim
/-! making -/
theorem pu_make {fa : Addr} {fd : FuncData} (M : Mk X.K (g.cls x) fa) (F : FnOk X.prog X.w X.K X.mg X.base (L2.CX X.prog X.w) k fa fd ps (spU g ps.length S)) (hb : Binds X.K fd ps []) (hm : X.mg x = some (.ref (g.cls x))) (hr : Room (k + 1) X.A) (ha : PA X (e :: es) (tA g W us)) (hg : Gl X x := by rfl) (hdb : (x == ("__debug__" : Str)) = false := by decide)
    (he : starEach (e :: es) X.env = (false, eval e X.env) :: starEach es X.env := by rfl) (hpl : (backTo pos (starEach es X.env)).any (·.1) = false := by rfl) : PE X (.Call (.Name x p0) (e :: es) [] pos) (tE g W (uMake x ps.length S us)) := by
  refine peImp (pe_make M F hr hg hm hb .nil passL ha hdb he hpl) fun σ H Q ⟨R, ρ, om, al, St, P⟩ => ?_
  refine tR_bind St P fun ds ρ1 om1 vs H1 al1 s1 S1 r1 P1 => ?_
  split at P1
  · rename_i hl
    intro q dx hq hdx ne
    rw [List.append_nil]
    -- the instance's dict, then the instance
    obtain ⟨S2, s2⟩ := S1.grow (H' := upd H1 dx (.own q)) (upd_keep hdx)
    have hq2 : upd H1 dx (.own q) q = none := by rw [upd_ne ne.symm]; exact hq
    obtain ⟨S3, c3⟩ := S2.newRes (o := .ins (g.cls x) dx []) hq2
    have nR : ¬ R q := fun z => (S1.o.rsv q z).2 hq
    obtain ⟨S4, s4⟩ := S3.newCell nR (c := .ins x []) (by rw [upd_same]; simp) ⟨dx, [], upd_same, .nil⟩
    have s34 : Step al1 (Mt al1 om1 σ ρ1) (upd H1 dx (.own q)) al1 (fun a => Mt al1 om1 σ ρ1 a ∨ a = q) (upd (upd H1 dx (.own q)) q (.ins (g.cls x) dx [])) := Rst.grown hq2
    have T := (s2.trans s34).trans s4
    have hlen : al1.length = om1.length := S1.o.len
    have loc : (al1 ++ [q])[om1.length]? = some q := by rw [← hlen]; simp
    have r4 : RepVs g (al1 ++ [q]) (LL R (al1 ++ [q]) (om1 ++ [.ins x []]) σ ρ1) (upd (upd H1 dx (.own q)) q (.ins (g.cls x) dx [])) (.ref q :: vs) (.loc om1.length :: ds) := .cons (.loc loc) (T.reps S1 r1)
    refine call_end (W := fun _ _ _ _ => False) (S := S) S4 r4 ?_ _ (by rw [List.length_cons, RepVs.length r1]; exact hl)
    cases e9 : S (.loc om1.length :: ds) (om1 ++ [.ins x []]) with
    | ok d om' =>
      rw [e9] at P1
      cases d <;> first | exact P1.elim | skip
      intro y H' al' s S' ry
      cases ry
      exact ⟨rfl, P1 _ H' al' (T.trans s) S' (.loc (s.ext _ _ loc))⟩
    | xc y om' => rw [e9] at P1; exact P1.elim
    | no => rw [e9] at P1; exact P1.elim
  · exact P1.elim
theorem Rst.freeze (S : Rst g R al σ ρ om H) {k : Nat} {c : Str} {fs : List (Str × D)} {ad : Addr} (hk : om[k]? = some (.ins c fs)) (ha : al[k]? = some ad) :
    Rst g R al σ ρ (om.set k .gone) H ∧ Step al (Mt al om σ ρ) H al (Mt al (om.set k .gone) σ ρ) H ∧ RepV g al (LL R al (om.set k .gone) σ ρ) H (.ref ad) (.obj c fs) := by
  have lv : ∀ b, Lv al (om.set k .gone) b → Lv al om b ∧ b ≠ ad := fun b ⟨i, ci, h1, h2, h3⟩ => by
    rcases getset h2 with ⟨rfl, q⟩ | ⟨n, q⟩
    · exact absurd q h3
    · refine ⟨⟨i, ci, h1, q, h3⟩, fun z => ?_⟩
      subst z
      exact n (S.o.inj i k b ci _ h1 ha q hk h3 (by simp))
  have L : Lv al om ad := ⟨k, _, ha, hk, by simp⟩
  have ll : ∀ b, LL R al (om.set k .gone) σ ρ b → LL R al om σ ρ b := fun b m => m.imp (fun m => m.imp (fun z => (lv b z).1) id) id
  have cr := carL (g := g) (al := al) (H := H) ll
  have nl : ¬ LL R al (om.set k .gone) σ ρ ad := fun m => by
    rcases m with (m | m) | m
    · exact (lv ad m).2 rfl
    · exact (S.ocl ad m).1 L
    · exact (S.o.rsv ad m).1 L
  obtain ⟨dx, fvs, m1, m2⟩ := S.o.cel k _ _ hk ha
  refine ⟨⟨⟨by rw [List.length_set]; exact S.o.len, fun i ci b h1 h2 => ?_, fun i j b ci cj h1 h2 h3 h4 n1 n2 => ?_, fun b h => ⟨fun z => (S.o.rsv b h).1 (lv b z).1, (S.o.rsv b h).2⟩⟩, S.sl, fun j d h => ?_, fun j dj h => ?_, S.odj, fun b h => ⟨fun z => (S.ocl b h).1 (lv b z).1, (S.ocl b h).2⟩⟩, .grow (fun _ _ h _ => h) fun b m => .inl (m.imp (fun z => (lv b z).1) id), .obj m1 nl (m2.car cr)⟩
  · rcases getset h1 with ⟨rfl, q⟩ | ⟨n, q⟩
    · subst q; trivial
    · exact (S.o.cel i ci b q h2).car cr (fun _ e _ => e) (fun _ _ _ e _ => e)
  · rcases getset h3 with ⟨_, q⟩ | ⟨_, q3⟩
    · exact absurd q n1
    · rcases getset h4 with ⟨_, q⟩ | ⟨_, q4⟩
      · exact absurd q n2
      · exact S.o.inj i j b ci cj h1 h2 q3 q4 n1 n2
  · obtain ⟨v, e, r⟩ := S.val j d h
    exact ⟨v, e, r.car cr⟩
  · obtain ⟨b, vs, e, e2, r⟩ := S.own j dj h
    exact ⟨b, vs, e, e2, r.car cr⟩
theorem pu_frzI (ha : PE X a (tE g W ua)) : PE X a (tE g W (uFrzI ua)) := peImp ha fun σ H Q ⟨R, ρ, om, al, S, P⟩ => by
  refine tR_bind S P fun x ρ1 om1 v H1 al1 s1 S1 r1 P1 => ?_
  cases x <;> first | exact P1.elim | skip
  rename_i k
  dsimp only at P1
  split at P1
  · rename_i c fs e0
    cases r1 with
    | loc h1 =>
      obtain ⟨S2, s2, r2⟩ := S1.freeze e0 h1
      exact P1 _ H1 al1 s2 S2 r2
  · exact P1.elim
end
end Dv

namespace Dv
open PySem PySem.Spec PyProof.Rows L2
/-! ### a sum of two lists, shared ones too, as an own list -/
@[simp] def uCatX (ua ub : UE) : UW := fun ρ ω => (ua ρ ω).bind fun x ρ ω => (ub ρ ω).bind fun y ρ ω => match see ω x, see ω y with
  | .lst xs, .lst ys => if xs.length + ys.length ≤ big then .ok (xs ++ ys) ρ ω else .no
  | _, _ => .no
/-- a suite that is never reached -/
def sNo : US := fun _ _ => .no
theorem pss_noU {g : G} {X : Cx} {W : WX} {b : List Stmt} : PSs X b (tS g W sNo) := ⟨fun pins s σ H D I h => by
  obtain ⟨R, ρ, om, al, S, P⟩ := h
  exact P.elim⟩
/-- for .. in e, e a list as a value or a shared one -/
def sForX (u : UE) (G : UG) (b : US) : US := fun ρ ω => match u ρ ω with
  | .ok (.loc _) _ _ => sForL u G b ρ ω
  | _ => sFor (iLst u) G b ρ ω
theorem forX_lst {u : UE} {G : UG} {b : US} {ρ ρ' : Rho} {ω ω' : Om} {ds : List D} (h : u ρ ω = .ok (.lst ds) ρ' ω') : sForX u G b ρ ω = sFor (iLst u) G b ρ ω := by
  unfold sForX
  rw [h]
theorem forX_loc {u : UE} {G : UG} {b : US} {ρ ρ' : Rho} {ω ω' : Om} {k : Nat} (h : u ρ ω = .ok (.loc k) ρ' ω') : sForX u G b ρ ω = sForL u G b ρ ω := by
  unfold sForX
  rw [h]
section
variable {g : G} {X : Cx} {W : WX} {tg iter : Expr} {body : List Stmt} {ue : UE} {G' : UG} {u : US} {pos : Pos}
theorem ps_forX (hp : PassesOwn (model X.prog X.w) X.A X.env X.xe) (hc : X.calm = true) (hK : X.K = g.K) (he : PE X iter (tE g W ue)) (hg : PG X tg (tG g G')) (hb : PSs X body (tS g W u))
    (hs : ∀ x, foldedSetIterable iter X.env x = pure x := by intro _; rfl) : PS X (.For tg iter body [] pos) (tS g W (sForX ue G' u)) := ⟨fun pins s σ H D I h => by
  obtain ⟨R, ρ, om, al, S, P⟩ := h
  unfold sForX at P
  split at P
  · exact (ps_forL hp hc hK he hg hb hs).run pins s σ H D I ⟨R, ρ, om, al, S, P⟩
  · exact (ps_forU hp hc (pi_listU hK he) hg hb hs).run pins s σ H D I ⟨R, ρ, om, al, S, P⟩⟩
end
/-- a slice of the own list of a slot -/
@[simp] def uSlV (i : Nat) (l h : UO) : UW := fun ρ ω => match ρ[i]? with
  | some (some (.own _)) => (l ρ ω).bind fun a ρ ω => (h ρ ω).bind fun b ρ ω => (match ρ[i]? with
    | some (some (.own xs)) => .ok (cutD xs a b) ρ ω
    | _ => .no)
  | _ => .no
section
variable {g : G} {X : Cx} {W : WX} {e : Expr} {lo hi : Option Expr} {p2 pos : Pos}
theorem pu_slV (i : Nat) {l h : UO} (hK : X.K = g.K) (ha : PE X e (tVar i)) (hl : PO X lo (tO g W l)) (hh : PO X hi (tO g W h)) : PE X (.Subscript e (.Slice lo hi none p2) pos) (tOw g W (uSlV i l h)) :=
  peImp (pe_slice sl_list ha hl hh) fun σ H Q ⟨R, ρ, om, al, S, P⟩ => by
    simp only [uSlV] at P
    split at P
    · rename_i xs e
      obtain ⟨a, vs, h1, h2, h3⟩ := S.own i xs e
      refine ⟨_, h1, tR_bindO (rel := relO) S P fun a' ρ1 om1 y1 H1 al1 s1 S1 r1 P1 => tR_bindO (rel := relO) S1 P1 fun b' ρ2 om2 y2 H2 al2 s2 S2 r2 P2 => ?_⟩
      cases (show y1 = a' from r1)
      cases (show y2 = b' from r2)
      split at P2
      · rename_i xs' e1
        obtain ⟨a2, vs', k1, k2, k3⟩ := S2.own i xs' e1
        rw [h1] at k1
        cases k1
        refine ⟨_, vs', rfl, by rw [hK]; exact SqL.of k2, fun p hp => okOwn S2 P2 hp ?_⟩
        unfold cutV cutD
        rw [k3.length]
        exact (k3.drop _).take _
      · exact P2.elim
    · exact P.elim
end
section
variable {g : G} {R : Addr → Prop} {al : List Addr} {om : Om} {σ : St} {ρ : Rho} {H H' : Hp} {W : WX} {X : Cx} {v : V} {d : D} {a b c e o : Expr} {ua ub uc ue uo : UE} {es : List Expr} {us : UA} {p0 pos p1 apos : Pos} {x cn m : Str} {k n : Nat} {S : FN} {ps : List Str}
theorem pu_catX (ha : PE X a (tE g W ua)) (hb : PE X b (tE g W ub)) : PE X (.BinOp a .Add b pos) (tOw g W (uCatX ua ub)) := peImp (pe_op op_cat ha hb) fun σ H Q ⟨R, ρ, om, al, S, P⟩ => by
  refine tR_bindO S P fun x ρ1 om1 v H1 al1 s1 S1 r1 P1 => tR_bindO S1 P1 fun y ρ2 om2 w H2 al2 s2 S2 r2 P2 => ?_
  have rx := see_rep S2 (s2.rep S1 r1)
  have ry := see_rep S2 r2
  split at P2
  · rename_i xs ys e1 e2
    split at P2
    · rename_i hz
      rw [e1] at rx
      rw [e2] at ry
      obtain ⟨a1, vs, rfl, h1, k1⟩ := rx.lst
      obtain ⟨a2, ws, rfl, h2, k2⟩ := ry.lst
      exact ⟨_, _, _, _, rfl, rfl, h1, h2, big_line (by rw [k1.length, k2.length]; exact hz), fun p hp => okOwn S2 P2 hp (k1.append k2)⟩
    · exact P2.elim
  · exact P2.elim
end
/-! ### classes as the top has left them -/
def AtM (K : PySem.W.Frag) (C : Addr) (m qual : Str) (st : Stmt) : Prop := ∃ (f : Addr) (fd : FuncData), Meth K C m f ∧ Fun K m qual st f fd
def AtI (K : PySem.W.Frag) (mg : Str → Option Value) (C : Addr) (x qual : Str) (st : Stmt) : Prop := ∃ (f : Addr) (fd : FuncData), Mk K C f ∧ Fun K "__init__" qual st f fd ∧ mg x = some (.ref C)
def HasI (P : Program) (w : World) (K : PySem.W.Frag) (mg : Str → Option Value) (base : Heap) (C : Addr) (x : Str) (ps : List Str) (k : Nat) (sp : Sp) : Prop :=
  ∃ (f : Addr) (fd : FuncData), Mk K C f ∧ Binds K fd ps [] ∧ FnOk P w K mg base (L2.CX P w) k f fd ps sp ∧ mg x = some (.ref C)
section
variable {K : PySem.W.Frag} {h : Heap} {mg : Str → Option Value} {cn m qual : Str} {C f : Addr} {st : Stmt} {od an : Option Addr} {sl : Array (Option Value)} {oc kV dc pm cd ct : Value}
theorem atM_mk (X : K.In h) (G : h.Ns mainGlobals mg) (aC : PySem.W.nsIn K mainGlobals cn = some (some (.ref C))) (a : PySem.W.findIn K (.ref C) m = some (some (.ref f))) (i : PySem.W.isFn K (.ref f) = true)
    (l : K.lookup f = some ⟨oc, od, .func (PySem.W.fnOf m qual (defArgs st) (defBody st) (defScope st) .none kV dc pm an cd ct), sl⟩) (c : PySem.W.codeIn K cd qual = true) (k : PySem.W.keepIn K (.ref f) = true) : AtM K (clsOf mg cn) m qual st := by
  rw [clsOf_eq (PySem.W.mg_of X G aC)]
  exact ⟨f, _, ⟨a, i, k⟩, fun_mk l c k⟩
theorem atI_mk (X : K.In h) (G : h.Ns mainGlobals mg) (aC : PySem.W.nsIn K mainGlobals cn = some (some (.ref C))) (a : PySem.W.findIn K (.ref C) "__init__" = some (some (.ref f))) (i : PySem.W.isFn K (.ref f) = true)
    (l : K.lookup f = some ⟨oc, od, .func (PySem.W.fnOf "__init__" qual (defArgs st) (defBody st) (defScope st) .none kV dc pm an cd ct), sl⟩) (c : PySem.W.codeIn K cd qual = true) (k : PySem.W.keepIn K (.ref f) = true)
    (mk : PySem.W.makesIn K C = true) (kc : PySem.W.keepIn K (.ref C) = true) : AtI K mg (clsOf mg cn) cn qual st := by
  have e := PySem.W.mg_of X G aC
  rw [clsOf_eq e]
  exact ⟨f, _, ⟨mk, a, i, kc⟩, fun_mk l c k, e⟩
theorem cls_mk (X : K.In h) (G : h.Ns mainGlobals mg) (aC : PySem.W.nsIn K mainGlobals cn = some (some (.ref C))) (pg : PySem.W.plainGet K C Str.empty = true) (hd : PySem.W.hasDictIn K C = true) (po : PySem.W.plainOver K C = true)
    (sa : PySem.W.findIn K (.ref C) "__setattr__" = some (some (.builtin "object.__setattr__"))) : Cls K (clsOf mg cn) := by
  rw [clsOf_eq (PySem.W.mg_of X G aC)]
  exact ⟨pg, hd, po, sa⟩
theorem na_mk (X : K.In h) (G : h.Ns mainGlobals mg) (aC : PySem.W.nsIn K mainGlobals cn = some (some (.ref C))) (n : PySem.W.findIn K (.ref C) m = some none) : NoAttr K (clsOf mg cn) m := by
  rw [clsOf_eq (PySem.W.mg_of X G aC)]
  exact n
end
theorem AtM.has {P : Program} {w : World} {K : PySem.W.Frag} {mg : Str → Option Value} {base : Heap} {C : Addr} {m qual : Str} {st : Stmt} {ps : List Str} {k : Nat} {sp : Sp} (a : AtM K C m qual st)
    (b : ∀ (kV doc pm : Value) (an : Option Addr) (cdv ct : Value) (us : List Value), us.length = ps.length → bindArgs (PySem.W.fnOf m qual (defArgs st) (defBody st) (defScope st) .none kV doc pm an cdv ct) ⟨us, []⟩ = pure (ps.zip us))
    (h : ∀ {f : Addr} {fd : FuncData}, Fun K m qual st f fd → FnOk P w K mg base (L2.CX P w) k f fd ps sp) : HasM P w K mg base C m ps k sp :=
  let ⟨f, fd, e, F⟩ := a
  ⟨f, fd, e, F.binds b, h F⟩
theorem AtI.has {P : Program} {w : World} {K : PySem.W.Frag} {mg : Str → Option Value} {base : Heap} {C : Addr} {x qual : Str} {st : Stmt} {ps : List Str} {k : Nat} {sp : Sp} (a : AtI K mg C x qual st)
    (b : ∀ (kV doc pm : Value) (an : Option Addr) (cdv ct : Value) (us : List Value), us.length = ps.length → bindArgs (PySem.W.fnOf "__init__" qual (defArgs st) (defBody st) (defScope st) .none kV doc pm an cdv ct) ⟨us, []⟩ = pure (ps.zip us))
    (h : ∀ {f : Addr} {fd : FuncData}, Fun K "__init__" qual st f fd → FnOk P w K mg base (L2.CX P w) k f fd ps sp) : HasI P w K mg base C x ps k sp :=
  let ⟨f, fd, e, F, hm⟩ := a
  ⟨f, fd, e, F.binds b, h F, hm⟩
section
variable {g : G} {W : WX} {X : Cx} {e : Expr} {es : List Expr} {us : UA} {p0 pos : Pos} {x : Str} {k : Nat} {S : FN} {ps : List Str}
theorem pu_makeI {n : Nat} (h : HasI X.prog X.w X.K X.mg X.base (g.cls x) x ps k (spU g n S)) (hr : Room (k + 1) X.A) (ha : PA X (e :: es) (tA g W us)) (hpn : ps.length = n := by rfl) (hg : Gl X x := by rfl) (hdb : (x == ("__debug__" : Str)) = false := by decide)
    (he : starEach (e :: es) X.env = (false, eval e X.env) :: starEach es X.env := by rfl) (hpl : (backTo pos (starEach es X.env)).any (·.1) = false := by rfl) : PE X (.Call (.Name x p0) (e :: es) [] pos) (tE g W (uMake x n S us)) := by
  subst hpn
  obtain ⟨fa, fd, M, hb, F, hm⟩ := h
  exact pu_make M F hb hm hr ha hg hdb he hpl
variable {o : Expr} {uo : UE} {cn m : Str} {apos : Pos} {n : Nat}
theorem pu_mth (h : HasM X.prog X.w X.K X.mg X.base (g.cls cn) m ps k (spU g n S)) (hc : Cls X.K (g.cls cn)) (hr : Room k X.A) (tk : Takes X W) (ho : PE X o (tE g W uo)) (ha : PA X (e :: es) (tA g W us)) {pl : Sem Bool} (hpn : ps.length = n := by rfl)
    (hst : starEach (e :: es) X.env = (false, eval e X.env) :: starEach es X.env := by rfl) (hpl : (backTo pos (starEach es X.env)).any (·.1) = false := by rfl)
    (ht : eval (.Call (.Attribute o m apos) (e :: es) [] pos) X.env = (do
      let ov ← eval o X.env
      standAt apos.atName
      let (f, first) ← holding [ov] (getMethod ov m pl)
      callWith pos f first (backTo pos (starEach (e :: es) X.env)) (backToKw pos (keywordEach [] X.env))) := by rfl) :
    PE X (.Call (.Attribute o m apos) (e :: es) [] pos) (tE g W (uMeth cn m n S uo us)) := by
  subst hpn
  exact pu_meth h hc hr tk ho ha hst hpl ht
theorem pu_mth0 (h : HasM X.prog X.w X.K X.mg X.base (g.cls cn) m ps k (spU g n S)) (hc : Cls X.K (g.cls cn)) (hr : Room k X.A) (tk : Takes X W) (ho : PE X o (tE g W uo)) {pl : Sem Bool} (hpn : ps.length = n := by rfl)
    (ht : eval (.Call (.Attribute o m apos) [] [] pos) X.env = (do
      let ov ← eval o X.env
      standAt apos.atName
      let (f, first) ← holding [ov] (getMethod ov m pl)
      callWith pos f first (backTo pos (starEach [] X.env)) (backToKw pos (keywordEach [] X.env))) := by rfl) :
    PE X (.Call (.Attribute o m apos) [] [] pos) (tE g W (uMeth cn m n S uo uNil)) := by
  subst hpn
  exact pu_meth0 h hc hr tk ho ht
theorem pu_mthO (h : HasM X.prog X.w X.K X.mg X.base (g.cls cn) m ps k (spO g n S)) (hc : Cls X.K (g.cls cn)) (hr : Room k X.A) (tk : Takes X W) (ho : PE X o (tE g W uo)) (ha : PA X (e :: es) (tA g W us)) {pl : Sem Bool} (hpn : ps.length = n := by rfl)
    (hst : starEach (e :: es) X.env = (false, eval e X.env) :: starEach es X.env := by rfl) (hpl : (backTo pos (starEach es X.env)).any (·.1) = false := by rfl)
    (ht : eval (.Call (.Attribute o m apos) (e :: es) [] pos) X.env = (do
      let ov ← eval o X.env
      standAt apos.atName
      let (f, first) ← holding [ov] (getMethod ov m pl)
      callWith pos f first (backTo pos (starEach (e :: es) X.env)) (backToKw pos (keywordEach [] X.env))) := by rfl) :
    PE X (.Call (.Attribute o m apos) (e :: es) [] pos) (tOw g W (uMethO cn m n S uo us)) := by
  subst hpn
  exact pu_methO h hc hr tk ho ha hst hpl ht
theorem pu_mthO0 (h : HasM X.prog X.w X.K X.mg X.base (g.cls cn) m ps k (spO g n S)) (hc : Cls X.K (g.cls cn)) (hr : Room k X.A) (tk : Takes X W) (ho : PE X o (tE g W uo)) {pl : Sem Bool} (hpn : ps.length = n := by rfl)
    (ht : eval (.Call (.Attribute o m apos) [] [] pos) X.env = (do
      let ov ← eval o X.env
      standAt apos.atName
      let (f, first) ← holding [ov] (getMethod ov m pl)
      callWith pos f first (backTo pos (starEach [] X.env)) (backToKw pos (keywordEach [] X.env))) := by rfl) :
    PE X (.Call (.Attribute o m apos) [] [] pos) (tOw g W (uMethO cn m n S uo uNil)) := by
  subst hpn
  exact pu_methO0 h hc hr tk ho ht
end
end Dv

namespace Dv
open PySem PySem.Spec PyProof.Rows L2
variable (om : Om)
theorem see_bl (b : Bool) : see om (.bl b) = .bl b := rfl
theorem see_int (b : Int) : see om (.int b) = .int b := rfl
theorem see_non : see om .non = .non := rfl
theorem see_tup (b : List D) : see om (.tup b) = .tup b := rfl
theorem see_lst (b : List D) : see om (.lst b) = .lst b := rfl
theorem see_str (b : Str) : see om (.str b) = .str b := rfl
theorem see_loc {k : Nat} {ds : List D} (h : om[k]? = some (.lst ds)) : see om (.loc k) = .lst ds := by
  unfold see
  dsimp only
  rw [h]
theorem dIsi_b {T : String} {r : Bool} (b : Bool) (k : L2.kitB "bool" T = some r) : dIsi T (.bl b) = some (.bl r) := isi_of rfl k
/-- seen through the shared lists f is d -/
def seeD (om : Om) : Nat → D → D → Prop
  | _, f, .non => f = .non
  | _, f, .bl b => f = .bl b
  | _, f, .int b => f = .int b
  | _, f, .str b => f = .str b
  | n + 1, f, .tup ds => ∃ fs : List D, f = .tup fs ∧ fs.length = ds.length ∧ ∀ (k : Nat) (x : D), ds[k]? = some x → ∃ y, fs[k]? = some y ∧ seeD om n y x
  | n + 1, f, .lst ds => ∃ fs : List D, see om f = .lst fs ∧ fs.length = ds.length ∧ ∀ (k : Nat) (x : D), ds[k]? = some x → ∃ y, fs[k]? = some y ∧ seeD om n y x
  | _, _, _ => False
theorem seeD_refl : ∀ (n : Nat) (d : D), good n d = true → seeD om n d d
  | n, .non, _ => by unfold seeD; rfl
  | n, .bl b, _ => by unfold seeD; rfl
  | n, .int b, _ => by unfold seeD; rfl
  | n, .str b, _ => by unfold seeD; rfl
  | n + 1, .tup ds, h => by
    unfold good at h
    obtain ⟨h1, h2⟩ := Bool.and_eq_true_iff.mp h
    unfold seeD
    exact ⟨ds, rfl, rfl, fun k x e => ⟨x, e, seeD_refl n x (goods_get h2 e)⟩⟩
  | n + 1, .lst ds, h => by
    unfold good at h
    obtain ⟨h1, h2⟩ := Bool.and_eq_true_iff.mp h
    unfold seeD
    exact ⟨ds, rfl, rfl, fun k x e => ⟨x, e, seeD_refl n x (goods_get h2 e)⟩⟩
  | 0, .tup ds, h => by unfold good at h; cases h
  | 0, .lst ds, h => by unfold good at h; cases h
  | _, .obj _ _, h => by unfold good at h; cases h
  | _, .loc _, h => by unfold good at h; cases h
  | _, .frz _, h => by unfold good at h; cases h
end Dv

namespace Dv
open PySem PySem.Spec PyProof.Rows L2
/-! ### lines taken apart -/
theorem cutS_lo (A B : List Nat) {k : Nat} (hk : A.length = k) : cutS ⟨(A ++ B).toArray⟩ none (some (k : Int)) = ⟨A.toArray⟩ := by
  subst hk
  have e : ¬ ((A.length : Int) < 0) := by omega
  unfold cutS
  rw [len_tx, HT.sIx_none]
  have : HT.sIx (A ++ B).length (A ++ B).length (some (A.length : Int)) = A.length := by
    unfold HT.sIx
    dsimp only
    rw [if_neg e]
    simp
  rw [this]
  simp
theorem cutS_hi (A B : List Nat) {k : Nat} (hk : A.length = k) : cutS ⟨(A ++ B).toArray⟩ (some (k : Int)) none = ⟨B.toArray⟩ := by
  subst hk
  have e : ¬ ((A.length : Int) < 0) := by omega
  unfold cutS
  rw [len_tx, HT.sIx_none]
  have : HT.sIx (A ++ B).length 0 (some (A.length : Int)) = A.length := by
    unfold HT.sIx
    dsimp only
    rw [if_neg e]
    simp
  rw [this]
  simp
theorem par_skip {S : List Nat} {l : List Nat} : ∀ (p acc : List Nat), 32 ∉ p → TL.par (32 :: S) acc (p ++ l) = TL.par (32 :: S) (acc ++ p) l
  | [], acc, _ => by simp
  | c :: p, acc, h => by
    have hc : c ≠ 32 := fun z => h (by simp [z])
    rw [List.cons_append, TL.par_miss, par_skip p _ fun z => h (by simp [z])]
    · simp
    · show (c :: (p ++ l).take S.length == 32 :: S) = false
      have : (c == 32) = false := by simpa using hc
      rw [List.cons_beq_cons, this]
      rfl
theorem nm_cons (i : Int) : ∃ d t, nm i = d :: t ∧ 48 ≤ d ∧ d ≤ 57 := by
  cases e : nm i with
  | nil => exact absurd e (nm_ne i)
  | cons d t =>
    have := List.all_eq_true.mp (nm_dig i) d (by rw [e]; simp)
    unfold isDig at this
    simp at this
    exact ⟨d, t, rfl, this.1, this.2⟩
/-- a blank ahead of a figure is no part of a longer sign -/
theorem par_fig {s : Nat} (hs : s < 48 ∨ 57 < s) {S : List Nat} (acc : List Nat) (i : Int) (l : List Nat) : TL.par (32 :: s :: S) acc (32 :: (nm i ++ l)) = TL.par (32 :: s :: S) (acc ++ [32]) (nm i ++ l) := by
  obtain ⟨d, t, e, h1, h2⟩ := nm_cons i
  rw [TL.par_miss]
  rw [e, List.cons_append]
  show (32 :: d :: (t ++ l).take S.length == 32 :: s :: S) = false
  have : (d == s) = false := by simp; omega
  rw [List.cons_beq_cons, List.cons_beq_cons, this]
  rfl
theorem par_from (c : Cu) : TL.par [32, 102, 114, 111, 109, 32] [] (lineH c) = some ([99, 117, 101, 32] ++ nm c.n, mixL c.b ++ ([102] ++ ([32, 116, 111, 32] ++ (mixL c.e ++ [102])))) := by
  unfold lineH
  have s1 : 32 ∉ [99, 117, 101] := by decide
  have := par_skip (S := [102, 114, 111, 109, 32]) (l := 32 :: (nm c.n ++ ([32, 102, 114, 111, 109, 32] ++ (mixL c.b ++ ([102] ++ ([32, 116, 111, 32] ++ (mixL c.e ++ [102]))))))) [99, 117, 101] [] s1
  refine Eq.trans this ?_
  rw [par_fig (by omega), TL.par_part1 (nm_free (by omega))]
  rfl
theorem par_to (b : Fr) (l : List Nat) : TL.par [32, 116, 111, 32] [] (mixL b ++ ([102] ++ ([32, 116, 111, 32] ++ l))) = some (mixL b ++ [102], l) := by
  have f : ∀ i : Int, 32 ∉ nm i := fun i => nm_free (by omega)
  unfold mixL
  split
  · have := TL.par_part1 (s := 32) (S := [116, 111, 32]) (p := nm (b.1 / b.2) ++ [102]) (rest := l) (acc := []) (by simp [f])
    rw [List.append_assoc] at this
    exact this
  · have e : nm (b.1 / b.2) ++ [32] ++ nm (b.1 % b.2) ++ [47] ++ nm b.2 ++ ([102] ++ ([32, 116, 111, 32] ++ l)) = nm (b.1 / b.2) ++ (32 :: (nm (b.1 % b.2) ++ ([47] ++ nm b.2 ++ [102] ++ (32 :: [116, 111, 32] ++ l)))) := by simp
    rw [e, par_skip _ _ (f _), par_fig (by omega)]
    have := TL.par_part1 (s := 32) (S := [116, 111, 32]) (p := nm (b.1 % b.2) ++ ([47] ++ nm b.2 ++ [102])) (rest := l) (acc := [] ++ nm (b.1 / b.2) ++ [32]) (by simp [f])
    simp only [List.append_assoc, List.cons_append, List.nil_append] at this ⊢
    rw [this]
theorem par_atw {w : List Nat} (h : ∀ c ∈ w, 97 ≤ c ∧ c ≤ 122) (l : List Nat) : TL.par [32, 97, 116, 32] [] (w ++ ([32, 97, 116, 32] ++ l)) = some (w, l) := by
  have := TL.par_part1 (s := 32) (S := [97, 116, 32]) (p := w) (rest := l) (acc := []) (fun z => by have := h 32 z; omega)
  exact this
theorem dNotIn_alpha {c : Nat} (h : 97 ≤ c ∧ c ≤ 122) : dNotIn (tx [c]) (tx [97, 98, 99, 100, 101, 102, 103, 104, 105, 106, 107, 108, 109, 110, 111, 112, 113, 114, 115, 116, 117, 118, 119, 120, 121, 122]) = some (.bl false) := by
  rw [dNotIn_sign]
  have : c ∈ [97, 98, 99, 100, 101, 102, 103, 104, 105, 106, 107, 108, 109, 110, 111, 112, 113, 114, 115, 116, 117, 118, 119, 120, 121, 122] := by
    simp only [List.mem_cons, List.not_mem_nil, or_false]
    omega
  rw [decide_eq_true (p := c ∈ (⟨[97, 98, 99, 100, 101, 102, 103, 104, 105, 106, 107, 108, 109, 110, 111, 112, 113, 114, 115, 116, 117, 118, 119, 120, 121, 122].toArray⟩ : Str).cps.toList) this]
  rfl
def enumD : Nat → List D → List D
  | _, [] => []
  | i, d :: ds => .tup [.int (i : Int), d] :: enumD (i + 1) ds
theorem enumD_get : ∀ (ds : List D) (i k : Nat), (enumD i ds)[k]? = (ds[k]?).map fun d => D.tup [.int ((i + k : Nat) : Int), d]
  | [], i, k => by simp [enumD]
  | d :: ds, i, 0 => by simp [enumD]
  | d :: ds, i, k + 1 => by
    unfold enumD
    rw [List.getElem?_cons_succ, List.getElem?_cons_succ, enumD_get ds (i + 1) k]
    have : i + 1 + k = i + (k + 1) := by omega
    rw [this]
theorem fEnum_eq (ds : List D) : fEnum [.lst ds] = some (enumD 0 ds) := by
  unfold fEnum
  dsimp only
  congr 1
  refine List.ext_getElem? fun k => ?_
  rw [enumD_get, List.getElem?_map]
  by_cases h : k < ds.length
  · rw [List.getElem?_range h]
    simp [h]
  · rw [List.getElem?_eq_none (by simp; omega), List.getElem?_eq_none (by omega)]
    rfl
theorem enumD_app : ∀ (a b : List D) (i : Nat), enumD i (a ++ b) = enumD i a ++ enumD (i + a.length) b
  | [], b, i => by simp [enumD]
  | d :: a, b, i => by
    rw [List.cons_append, enumD, enumD, enumD_app a b (i + 1), List.length_cons]
    have : i + 1 + a.length = i + (a.length + 1) := by omega
    rw [this]
    rfl
end Dv

namespace Dv
open PySem PySem.Spec PyProof.Rows L2
/-! ### what is read was written so -/
theorem dv_snoc (a : List Nat) (c : Nat) : NumText.digitsVal (a ++ [c]) = NumText.digitsVal a * 10 + (c - 48) := by
  unfold NumText.digitsVal
  rw [List.foldl_append]
  rfl
theorem num_sound : ∀ (n : Nat) (l : List Nat), l.length = n → l ≠ [] → l.all isDig = true → l.head? ≠ some 48 → 0 < NumText.digitsVal l ∧ TL.numL (NumText.digitsVal l) = l := by
  intro n
  induction n with
  | zero => intro l h h0; exact absurd (List.eq_nil_of_length_eq_zero h) h0
  | succ n ih =>
    intro l hl h0 hd hh
    obtain ⟨a, c, rfl⟩ : ∃ a c, l = a ++ [c] := ⟨l.dropLast, l.getLast h0, (List.dropLast_concat_getLast h0).symm⟩
    rw [dv_snoc]
    rw [List.all_append, Bool.and_eq_true] at hd
    have hc : 48 ≤ c ∧ c ≤ 57 := by
      have := hd.2
      simp only [List.all_cons, List.all_nil, Bool.and_true] at this
      unfold isDig at this
      simp at this
      exact this
    by_cases ha : a = []
    · subst ha
      have e : NumText.digitsVal [] = 0 := rfl
      have c0 : c ≠ 48 := fun z => hh (by simp [z])
      rw [e, Nat.zero_mul, Nat.zero_add]
      refine ⟨by omega, ?_⟩
      rw [TL.numL_lt (by omega)]
      simp
      omega
    · have hh2 : a.head? ≠ some 48 := by
        cases a with
        | nil => exact absurd rfl ha
        | cons x r => simpa using hh
      obtain ⟨k1, k2⟩ := ih a (by simp at hl; omega) ha hd.1 hh2
      refine ⟨by omega, ?_⟩
      rw [TL.numL_step (by omega)]
      have e1 : (NumText.digitsVal a * 10 + (c - 48)) / 10 = NumText.digitsVal a := by omega
      have e2 : 48 + (NumText.digitsVal a * 10 + (c - 48)) % 10 = c := by omega
      rw [e1, e2, k2]
theorem numV_sound {l : List Nat} {n : Nat} (h : numV l = some n) : nm (n : Int) = l := by
  unfold numV at h
  split at h
  · cases h
  · rename_i hn
    cases h
    have h0 : l ≠ [] := fun z => hn (.inl (by rw [z]; rfl))
    have hd : l.all isDig = true := by
      cases ha : l.all isDig
      · exact absurd (.inr (.inr (.inr ha))) hn
      · rfl
    show TL.numL ((NumText.digitsVal l : Int)).toNat = l
    rw [Int.toNat_natCast]
    by_cases hh : l.head? = some 48
    · have l1 : ¬ 1 < l.length := fun z => hn (.inr (.inr (.inl ⟨hh, z⟩)))
      cases l with
      | nil => exact absurd rfl h0
      | cons c r =>
        have : r = [] := List.eq_nil_of_length_eq_zero (by simp only [List.length_cons] at l1; omega)
        subst this
        simp at hh
        subst hh
        rfl
    · exact (num_sound l.length l rfl h0 hd hh).2
theorem par1_some {s : Nat} {l a b : List Nat} (h : TL.par [s] [] l = some (a, b)) : l = a ++ s :: b := by
  rcases par1 s l [] with ⟨_, h2⟩ | ⟨a', b', _, h2, h3⟩
  · rw [h] at h2; cases h2
  · rw [h] at h3
    injection h3 with h3
    injection h3 with h4 h5
    subst h4 h5
    exact h2
theorem mk_gcd {t b : Int} (hb : 0 < b) (h : mk t b = (t, b)) : Int.gcd t b = 1 := by
  have := (mk_cn (t := t) (b := b) (by omega)).2
  rw [h] at this
  exact this
theorem restV_sound {l : List Nat} {r : Fr} (h : restV l = some r) : l = nm r.1 ++ 47 :: nm r.2 ∧ 0 < r.1 ∧ r.1 < r.2 ∧ r.2 < 1000000000 ∧ Int.gcd r.1 r.2 = 1 := by
  obtain ⟨_, b1, b2, b3, b4⟩ := restV_bd h
  refine ⟨?_, b1, b2, b3, mk_gcd (by omega) b4⟩
  unfold restV at h
  split at h
  · cases h
  · rename_i a b e
    split at h
    · rename_i p q e1 e2
      split at h
      · cases h
      · cases h
        rw [par1_some e, numV_sound e1, numV_sound e2]
    · cases h
/-- a whole number and a rest -/
theorem whole_rest {n : Int} {p d : Int} (hn : 0 ≤ n) (h1 : 0 < p) (h2 : p < d) (hg : Int.gcd p d = 1) : fsum (n, 1) (p, d) = (n * d + p, d) ∧ (n * d + p) / d = n ∧ (n * d + p) % d = p ∧ Cn (n * d + p, d) := by
  have hd : 0 < d := by omega
  have g : Int.gcd (n * d + p) d = 1 := by
    rw [Int.add_comm, Int.gcd_add_mul_right_left]
    exact hg
  refine ⟨?_, ?_, ?_, hd, g⟩
  · unfold fsum
    show mk (n * d + p * 1) (1 * d) = _
    rw [Int.mul_one, Int.one_mul, mk_cop hd g]
  · rw [Int.add_comm, Int.add_mul_ediv_right _ _ (by omega), Int.ediv_eq_zero_of_lt (by omega) h2, Int.zero_add]
  · rw [Int.add_comm, Int.add_mul_emod_self_right, Int.emod_eq_of_lt (by omega) h2]
structure So (q : Fr) : Prop where
  cn : Cn q
  a : 0 ≤ q.1
theorem mixV_sound {l : List Nat} {q : Fr} (h : mixV l = some q) : So q ∧ mixL q = l := by
  unfold mixV at h
  split at h
  · cases en : numV l with
    | none => rw [en] at h; cases h
    | some n =>
      rw [en] at h
      cases h
      refine ⟨⟨⟨by show (0 : Int) < 1; decide, Int.gcd_one_right _⟩, by show (0 : Int) ≤ (n : Int); omega⟩, ?_⟩
      unfold mixL
      rw [if_pos (Int.emod_one _)]
      show nm ((n : Int) / 1) = l
      rw [Int.ediv_one]
      exact numV_sound en
  · rename_i a b e
    split at h
    · rename_i n r e1 e2
      cases h
      obtain ⟨r1, r2, r3, r4, r5⟩ := restV_sound e2
      obtain ⟨w1, w2, w3, w4⟩ := whole_rest (n := (n : Int)) (p := r.1) (d := r.2) (by omega) r2 r3 r5
      have er : fsum ((n : Int), 1) r = ((n : Int) * r.2 + r.1, r.2) := w1
      rw [er]
      refine ⟨⟨w4, ?_⟩, ?_⟩
      · show 0 ≤ (n : Int) * r.2 + r.1
        have : 0 ≤ (n : Int) * r.2 := Int.mul_nonneg (by omega) (by omega)
        omega
      · unfold mixL
        dsimp only
        rw [w2, w3, if_neg (by omega), numV_sound e1, par1_some e, r1]
        simp
    · cases h
theorem numL_digit {n : Nat} {c : Nat} (h : TL.numL n = [c]) : n < 10 := by
  by_cases h9 : n < 10
  · exact h9
  · rw [TL.numL_step (by omega)] at h
    have := TL.numL_ne (n / 10)
    cases e : TL.numL (n / 10) with
    | nil => exact absurd e this
    | cons x r => rw [e] at h; simp at h
theorem figV_sound {l : List Nat} {n : Nat} (h : figV l = some n) : two (n : Int) = l := by
  unfold figV at h
  split at h
  · cases h
  · rename_i hn
    have h2 : 2 ≤ l.length := Nat.le_of_not_lt fun z => hn (.inr z)
    have ns := numV_sound h
    cases l with
    | nil => simp at h2
    | cons c r =>
      by_cases hc : c = 48
      · subst hc
        have lr : r.length = 1 := by
          have : ¬ 2 < (48 :: r).length := fun z => hn (.inl ⟨z, rfl⟩)
          simp at this h2
          omega
        obtain ⟨d, rfl⟩ := List.length_eq_one_iff.mp lr
        by_cases hd : d = 48
        · subst hd
          have e : List.dropWhile (fun c => decide (c = 48)) [48, 48] = [] := rfl
          rw [e, if_pos rfl] at ns
          have : (n : Int) < 10 := by
            have := numL_digit (n := ((n : Int)).toNat) ns
            omega
          unfold two
          rw [if_pos this, ns]
          rfl
        · have e : List.dropWhile (fun c => decide (c = 48)) [48, d] = [d] := by
            rw [List.dropWhile_cons_of_pos (by simp), List.dropWhile_cons_of_neg (by simpa using hd)]
          rw [e, if_neg (by simp)] at ns
          have : (n : Int) < 10 := by
            have := numL_digit (n := ((n : Int)).toNat) ns
            omega
          unfold two
          rw [if_pos this, ns]
          rfl
      · have e : List.dropWhile (fun c => decide (c = 48)) (c :: r) = c :: r := by
          rw [List.dropWhile_cons_of_neg (by simpa using hc)]
        rw [e, if_neg (by simp)] at ns
        have : ¬ (n : Int) < 10 := fun z => by
          have e1 : nm (n : Int) = [48 + ((n : Int)).toNat] := TL.numL_lt (by omega)
          rw [e1] at ns
          rw [← ns] at h2
          simp at h2
        unfold two
        rw [if_neg this, ns]
theorem spl_ne (l acc : List Nat) : TL.spl [58] 0 acc l ≠ [] := by
  induction l generalizing acc with
  | nil => rw [TL.spl_nil]; simp
  | cons c r ih =>
    cases hp : TL.pre [58] (c :: r)
    · rw [TL.spl_miss hp]; exact ih _
    · rw [TL.spl_hit hp]; simp
theorem join_spl : ∀ (l acc : List Nat), TL.joinL [58] (TL.spl [58] 0 acc l) = acc ++ l
  | [], acc => by rw [TL.spl_nil]; simp [TL.joinL]
  | c :: r, acc => by
    cases hp : TL.pre [58] (c :: r)
    · rw [TL.spl_miss hp, join_spl r]
      simp
    · rw [TL.spl_hit hp]
      have hc : c = 58 := by
        have : ((c :: r).take 1 == [58]) = true := hp
        simpa using this
      have e := join_spl r []
      show TL.joinL [58] (acc :: TL.spl [58] 0 [] r) = _
      cases q : TL.spl [58] 0 [] r with
      | nil => exact absurd q (spl_ne _ _)
      | cons x y =>
        rw [q] at e
        show acc ++ ([58] ++ TL.joinL [58] (x :: y)) = _
        rw [e, hc]
        rfl
theorem clock_sound {l : List Nat} {rate n : Int} (h : clockV l rate = some n) (hr : 0 < rate) (p d : Int) (hd : 0 < d) (hq : (p / d) = n) : clockH (p, d) rate = l ∧ 0 ≤ n := by
  unfold clockV at h
  obtain ⟨a, b, c, d', hh, m, s, f, e0, e1, e2, e3, e4, k1, k2, k3, k4⟩ := clockP_some h
  have j := join_spl l []
  rw [e0] at j
  have hb : 0 ≤ (((hh : Int) * 60 + m) * 60 + s) := by omega
  have n0 : 0 ≤ n := by
    rw [k4]
    have := Int.mul_nonneg hb (Int.le_of_lt hr)
    omega
  have d1 : n / rate = ((hh : Int) * 60 + m) * 60 + s := by
    rw [k4, Int.add_comm, Int.add_mul_ediv_right _ _ (by omega), Int.ediv_eq_zero_of_lt (by omega) k3, Int.zero_add]
  have d2 : n % rate = f := by
    rw [k4, Int.add_comm, Int.add_mul_emod_self_right, Int.emod_eq_of_lt (by omega) k3]
  refine ⟨?_, n0⟩
  unfold clockH
  dsimp only
  rw [hq, d1, d2]
  have a1 : (((hh : Int) * 60 + m) * 60 + s) / 3600 = hh := by omega
  have a2 : (((hh : Int) * 60 + m) * 60 + s) / 60 % 60 = m := by omega
  have a3 : (((hh : Int) * 60 + m) * 60 + s) % 60 = s := by omega
  rw [a1, a2, a3, numV_sound e1, figV_sound e2, figV_sound e3, figV_sound e4]
  rw [List.nil_append] at j
  rw [← j]
  simp [TL.joinL]
theorem timeV_sound {l : List Nat} {rate : Int} {q : Fr} (h : timeV l rate = some q) (hr : 0 < rate) (hr2 : rate ≤ 1000) : So q ∧
    ((l.getLast? = some 102 → mixL q ++ [102] = l ∧ mixV l.dropLast = some q) ∧ (l.getLast? ≠ some 102 → l.getLast? = some 115 → mixL (mk q.1 (q.2 * rate)) ++ [115] = l ∧ mixV l.dropLast = some (mk q.1 (q.2 * rate)) ∧ q = fmul (mk q.1 (q.2 * rate)) (rate, 1)) ∧
    (l.getLast? ≠ some 102 → l.getLast? ≠ some 115 → clockL q rate = l ∧ q.1 < 10000000000000000000000000000000000000000 ∧ q.2 < 1000000000)) := by
  have back : ∀ c, l.getLast? = some c → l.dropLast ++ [c] = l := fun c hc => by
    have hn : l ≠ [] := fun z => by rw [z] at hc; cases hc
    rw [List.getLast?_eq_some_getLast hn] at hc
    injection hc with hc
    rw [← hc]
    exact List.dropLast_concat_getLast hn
  unfold timeV at h
  by_cases h1 : l.getLast? = some 102
  · rw [if_pos h1] at h
    obtain ⟨s, e⟩ := mixV_sound h
    exact ⟨s, fun _ => ⟨by rw [e, back _ h1], h⟩, fun z => absurd h1 z, fun z => absurd h1 z⟩
  · rw [if_neg h1] at h
    by_cases h2 : l.getLast? = some 115
    · rw [if_pos h2] at h
      cases em : mixV l.dropLast with
      | none => rw [em] at h; cases h
      | some q0 =>
        rw [em] at h
        cases h
        obtain ⟨s, e⟩ := mixV_sound em
        have hp : 0 < ((rate, 1) : Fr).2 := by show (0 : Int) < 1; decide
        have cq := cn_mul s.cn.1 hp
        have vq : val (fmul q0 (rate, 1)) = val q0 * (rate : Rat) := by rw [val_mul s.cn.1 hp, val_int1]
        have nn : 0 ≤ val (fmul q0 (rate, 1)) := by
          rw [vq]
          exact Rat.mul_nonneg ((val_lt_of s.cn.1).mpr s.a) (Rat.intCast_le_intCast.mpr (Int.le_of_lt hr))
        have bp : 0 < (fmul q0 (rate, 1)).2 * rate := Int.mul_pos cq.1 hr
        have e3 : mk (fmul q0 (rate, 1)).1 ((fmul q0 (rate, 1)).2 * rate) = q0 := by
          refine cn_ext (mk_cn (by omega)) s.cn ?_
          rw [val_mk (by omega)]
          have v2 : ((fmul q0 (rate, 1)).1 : Rat) / ((fmul q0 (rate, 1)).2 : Rat) = val q0 * (rate : Rat) := vq
          have c1 := cast_ne (show (fmul q0 (rate, 1)).2 ≠ 0 by have := cq.1; omega)
          have c2 := cast_ne (show rate ≠ 0 by omega)
          rw [Rat.intCast_mul]
          generalize ((fmul q0 (rate, 1)).1 : Rat) = X at *
          generalize ((fmul q0 (rate, 1)).2 : Rat) = Y at *
          generalize (rate : Rat) = Z at *
          generalize val q0 = V at *
          have : X / (Y * Z) = (X / Y) / Z := by
            simp only [Rat.div_def]
            rw [Rat.inv_mul_rev]
            grind
          rw [this, v2]
          simp only [Rat.div_def]
          rw [Rat.mul_assoc, Rat.mul_inv_cancel _ c2]
          grind
        exact ⟨⟨cq, (val_lt_of cq.1).mp nn⟩, fun z => absurd z h1, fun _ _ => ⟨by rw [e3, e, back _ h2], by rw [e3], by rw [e3]⟩, fun _ z => absurd h2 z⟩
    · rw [if_neg h2] at h
      have fin : So q ∧ clockL q rate = l ∧ q.1 < 10000000000000000000000000000000000000000 ∧ q.2 < 1000000000 := by
        cases ep : TL.par [32] [] l with
        | none =>
          rw [ep] at h
          dsimp only at h
          cases ec : clockV l rate with
          | none => rw [ec] at h; cases h
          | some n =>
            rw [ec] at h
            cases h
            obtain ⟨c1, c2⟩ := clock_sound ec hr n 1 (by decide) (Int.ediv_one n)
            have nb := (clockV_lt ec ⟨by omega, hr2⟩).2
            refine ⟨⟨⟨by show (0 : Int) < 1; decide, Int.gcd_one_right _⟩, c2⟩, ?_, by show n < _; omega, by show (1 : Int) < _; decide⟩
            unfold clockL
            rw [if_pos (Int.emod_one _), c1]
        | some ab =>
          obtain ⟨a, b⟩ := ab
          rw [ep] at h
          dsimp only at h
          split at h
          · rename_i n r ec er
            cases h
            obtain ⟨r1, r2, r3, r4, r5⟩ := restV_sound er
            obtain ⟨c0, n0⟩ := clock_sound ec hr n 1 (by decide) (Int.ediv_one n)
            obtain ⟨w1, w2, w3, w4⟩ := whole_rest (n := n) (p := r.1) (d := r.2) n0 r2 r3 r5
            obtain ⟨c1, c2⟩ := clock_sound ec hr (n * r.2 + r.1) r.2 (by omega) w2
            have er : fsum (n, 1) r = (n * r.2 + r.1, r.2) := w1
            have nb := (clockV_lt ec ⟨by omega, hr2⟩).2
            have nd : n * r.2 ≤ n * 1000000000 := Int.mul_le_mul_of_nonneg_left (by omega) n0
            rw [er]
            refine ⟨⟨w4, ?_⟩, ?_, ?_, r4⟩
            · show 0 ≤ n * r.2 + r.1
              have : 0 ≤ n * r.2 := Int.mul_nonneg n0 (by omega)
              omega
            rotate_left
            · show n * r.2 + r.1 < _
              omega
            · unfold clockL
              dsimp only
              rw [w3, if_neg (by omega), c1, par1_some ep, r1]
              simp
          · cases h
      exact ⟨fin.1, fun z => absurd z h1, fun _ z => absurd z h2, fun _ _ => fin.2⟩
/-- bounds of what is read -/
theorem mixV_lt {l : List Nat} {q : Fr} (h : mixV l = some q) : q.1 < 1000000000000000000 ∧ q.2 < 1000000000 := by
  unfold mixV at h
  split at h
  · cases en : numV l with
    | none => rw [en] at h; cases h
    | some n =>
      rw [en] at h
      cases h
      have := numV_lt en
      exact ⟨by show (n : Int) < _; omega, by show (1 : Int) < _; decide⟩
  · split at h
    · rename_i n r e1 e2
      cases h
      obtain ⟨r1, r2, r3, r4, r5⟩ := restV_sound e2
      have n1 := numV_lt e1
      obtain ⟨w1, w2, w3, w4⟩ := whole_rest (n := (n : Int)) (p := r.1) (d := r.2) (by omega) r2 r3 r5
      have er : fsum ((n : Int), 1) r = ((n : Int) * r.2 + r.1, r.2) := w1
      rw [er]
      refine ⟨?_, r4⟩
      show (n : Int) * r.2 + r.1 < _
      have : (n : Int) * r.2 ≤ 999999999 * r.2 := Int.mul_le_mul_of_nonneg_right (by omega) (by omega)
      omega
    · cases h
end Dv

namespace Dv
open PySem PySem.Spec PyProof.Rows L2
/-! ### what any line is read to -/
theorem par_sound {S : List Nat} : ∀ {l acc a b : List Nat}, TL.par S acc l = some (a, b) → acc ++ l = a ++ (S ++ b)
  | [], _, _, _, h => by cases h
  | c :: r, acc, a, b, h => by
    cases hp : TL.pre S (c :: r) with
    | true =>
      rw [TL.par_hit hp] at h
      cases h
      have : (c :: r).take S.length = S := beq_iff_eq.mp hp
      have e : c :: r = S ++ (c :: r).drop S.length := by
        conv => lhs; rw [← List.take_append_drop S.length (c :: r), this]
      rw [← e]
    | false =>
      rw [TL.par_miss hp] at h
      have := par_sound h
      rw [← this]
      simp
theorem par_lens {S : List Nat} {l a b : List Nat} (h : TL.par S [] l = some (a, b)) : a.length + b.length ≤ l.length := by
  have := congrArg List.length (par_sound h)
  simp only [List.nil_append, List.length_append] at this
  omega
def frV (l : List Nat) : Option Fr := if l.getLast? = some 102 then mixV l.dropLast else none
def headV (l : List Nat) : Option (Int × Fr × Fr) := match TL.par [32, 102, 114, 111, 109, 32] [] l with
  | none => none
  | some (h, r) => match TL.par [32, 116, 111, 32] [] r with
    | none => none
    | some (b, e) => if h.take 4 = [99, 117, 101, 32] then (match numV (h.drop 4), frV b, frV e with
      | some n, some p, some q => if flt p q = true then some ((n : Int), p, q) else none
      | _, _, _ => none) else none
def letB (c : Nat) : Bool := decide (97 ≤ c) && decide (c ≤ 122)
def wdB (w : List Nat) : Bool := decide (1 ≤ w.length) && decide (w.length ≤ 20) && w.all letB
def wordV (l : List Nat) : Option (List Nat × Fr) := match TL.par [32, 97, 116, 32] [] (l.drop 2) with
  | none => none
  | some (w, t) => if wdB w = true then (frV t).map fun q => (w, q) else none
/-- the time behind which the next word comes -/
def lastAt (b : Fr) (ws : List (List Nat × Fr)) : Fr := match ws.getLast? with
  | none => b
  | some v => v.2
def okW (c : Cu) (w : List Nat × Fr) : Bool := !flt w.2 c.b && flt w.2 c.e && (match c.ws.getLast? with
  | none => true
  | some v => !flt w.2 v.2)
def lastN (cs : List Cu) : Int := match cs.getLast? with
  | none => -1
  | some c => c.n
def stepV (cs : List Cu) (l : List Nat) : Option (List Cu) := if l.take 2 = [32, 32] then (match cs.getLast? with
    | none => none
    | some c => match wordV l with
      | some w => if okW c w = true then some (cs.dropLast ++ [⟨c.n, c.b, c.e, c.ws ++ [w]⟩]) else none
      | none => none)
  else match headV l with
    | some (n, b, e) => if lastN cs < n then some (cs ++ [⟨n, b, e, []⟩]) else none
    | none => none
def readV : List Cu → Nat → List (List Nat) → Except Nat (List Cu)
  | cs, _, [] => .ok cs
  | cs, i, l :: ls => match stepV cs l with
    | none => .error i
    | some cs' => readV cs' (i + 1) ls
theorem readV_cons (cs : List Cu) (i : Nat) (l : List Nat) (ls : List (List Nat)) : readV cs i (l :: ls) = (match stepV cs l with
    | none => .error i
    | some cs' => readV cs' (i + 1) ls) := rfl
theorem readV_app : ∀ (a b : List (List Nat)) (cs : List Cu) (i : Nat), readV cs i (a ++ b) = (match readV cs i a with
    | .ok cs' => readV cs' (i + a.length) b
    | .error k => .error k)
  | [], b, cs, i => by simp [readV]
  | l :: a, b, cs, i => by
    rw [List.cons_append, readV_cons, readV_cons]
    cases stepV cs l with
    | none => rfl
    | some cs' =>
      dsimp only
      rw [readV_app a b cs' (i + 1), List.length_cons]
      have : i + 1 + a.length = i + (a.length + 1) := by omega
      rw [this]
/-- a fraction that was read -/
structure Fg (q : Fr) : Prop where
  cn : Cn q
  a : 0 ≤ q.1
  b : q.1 < 1000000000000000000
  d : q.2 < 1000000000
theorem Fg.wr {q : Fr} (h : Fg q) : Wr q := ⟨h.a, by have := h.b; omega, h.cn.1, by have := h.d; omega⟩
theorem Fg.bd {q : Fr} (h : Fg q) : Bd 61 q := by
  have p6 : (2 : Nat) ^ 61 = 2305843009213693952 := by decide
  have := h.a
  have := h.b
  have := h.d
  have := h.cn.1
  exact ⟨h.cn.1, by omega, by omega⟩
theorem Sm.fg {q : Fr} (h : Sm q) : Fg q := ⟨h.cn, h.a, by have := h.b; omega, by have := h.d; omega⟩
theorem frV_sound {l : List Nat} {q : Fr} (h : frV l = some q) : Fg q ∧ l = mixL q ++ [102] := by
  unfold frV at h
  split at h
  · rename_i hl
    obtain ⟨s, e⟩ := mixV_sound h
    obtain ⟨b1, b2⟩ := mixV_lt h
    refine ⟨⟨s.cn, s.a, b1, b2⟩, ?_⟩
    rw [e]
    have hn : l ≠ [] := fun z => by rw [z] at hl; cases hl
    have := List.dropLast_concat_getLast hn
    rw [List.getLast?_eq_some_getLast hn] at hl
    injection hl with hl
    rw [hl] at this
    exact this.symm
  · cases h
theorem frV_mix {q : Fr} (h : Rd q) : frV (mixL q ++ [102]) = some q := by
  unfold frV
  obtain ⟨h1, h2⟩ := mix_last q 102
  rw [h1, if_pos rfl, h2, mixV_mixL h]
theorem headV_sound {l : List Nat} {n : Int} {b e : Fr} (h : headV l = some (n, b, e)) : 0 ≤ n ∧ n < 1000000000 ∧ Fg b ∧ Fg e ∧ flt b e = true ∧ ∀ ws, lineH ⟨n, b, e, ws⟩ = l := by
  unfold headV at h
  split at h
  · cases h
  · rename_i hd r e1
    split at h
    · cases h
    · rename_i bt et e2
      split at h
      · rename_i h4
        split at h
        · rename_i m p q e3 e4 e5
          split at h
          · rename_i hlt
            cases h
            obtain ⟨f1, g1⟩ := frV_sound e4
            obtain ⟨f2, g2⟩ := frV_sound e5
            have s1 := par_sound e1
            have s2 := par_sound e2
            rw [List.nil_append] at s1 s2
            have hh : hd = [99, 117, 101, 32] ++ hd.drop 4 := by
              conv => lhs; rw [← List.take_append_drop 4 hd, h4]
            have := numV_lt e3
            refine ⟨by omega, by omega, f1, f2, hlt, fun ws => ?_⟩
            unfold lineH
            dsimp only
            rw [numV_sound e3, s1, hh, s2, g1, g2]
            simp
          · cases h
        · cases h
      · cases h
theorem wordV_sound {l : List Nat} {w : List Nat × Fr} (h2 : l.take 2 = [32, 32]) (h : wordV l = some w) : wdB w.1 = true ∧ Fg w.2 ∧ lineW w = l := by
  unfold wordV at h
  split at h
  · cases h
  · rename_i a t e1
    split at h
    · rename_i hw
      cases ef : frV t with
      | none => rw [ef] at h; cases h
      | some q =>
        rw [ef] at h
        cases h
        obtain ⟨f1, g1⟩ := frV_sound ef
        have s1 := par_sound e1
        rw [List.nil_append] at s1
        refine ⟨hw, f1, ?_⟩
        unfold lineW
        dsimp only
        rw [← g1]
        rw [← s1, ← h2, List.take_append_drop]
    · cases h
theorem linesA_cons (c : Cu) (r : List Cu) : linesA (c :: r) = linesC c ++ linesA r := rfl
theorem linesA_app : ∀ a b : List Cu, linesA (a ++ b) = linesA a ++ linesA b
  | [], b => rfl
  | c :: a, b => by
    rw [List.cons_append, linesA_cons, linesA_cons, linesA_app a b, List.append_assoc]
/-- what is read is good -/
structure CuG (c : Cu) : Prop where
  n0 : 0 ≤ c.n
  n1 : c.n < 1000000000
  b : Fg c.b
  e : Fg c.e
  lt : flt c.b c.e = true
  ws : ∀ p x q, c.ws = p ++ x :: q → wdB x.1 = true ∧ Fg x.2 ∧ flt x.2 (lastAt c.b p) = false ∧ flt x.2 c.e = true
structure CsG (cs : List Cu) : Prop where
  c : ∀ c ∈ cs, CuG c
  r : ∀ p c q, cs = p ++ c :: q → lastN p < c.n
theorem snoc_or {α : Type} (l : List α) : l = [] ∨ ∃ p x, l = p ++ [x] := by
  by_cases h : l = []
  · exact .inl h
  · exact .inr ⟨l.dropLast, l.getLast h, (List.dropLast_concat_getLast h).symm⟩
theorem last_snoc {α : Type} (p : List α) (x : α) : (p ++ [x]).getLast? = some x := by simp
theorem app_eq_snoc {α : Type} {p q a : List α} {x w : α} (h : a ++ [w] = p ++ x :: q) : (q = [] ∧ a = p ∧ w = x) ∨ ∃ q', q = q' ++ [w] ∧ a = p ++ x :: q' := by
  rcases snoc_or q with rfl | ⟨q', y, rfl⟩
  · have := List.append_inj' h rfl
    exact .inl ⟨rfl, this.1, by injection this.2⟩
  · have e : p ++ x :: (q' ++ [y]) = (p ++ x :: q') ++ [y] := by simp
    rw [e] at h
    have := List.append_inj' h rfl
    injection this.2 with h2
    exact .inr ⟨q', by rw [h2], this.1⟩
theorem stepV_sound {cs cs' : List Cu} {l : List Nat} (h : stepV cs l = some cs') (g : CsG cs) : CsG cs' ∧ linesA cs' = linesA cs ++ [l] ∧ lastN cs ≤ lastN cs' ∧ cs' ≠ [] := by
  unfold stepV at h
  split at h
  · rename_i h2
    rcases snoc_or cs with rfl | ⟨p, c, rfl⟩
    · cases h
    · rw [last_snoc] at h
      dsimp only at h
      split at h
      · rename_i w ew
        split at h
        · rename_i hk
          cases h
          obtain ⟨w1, w2, w3⟩ := wordV_sound h2 ew
          rw [List.dropLast_concat]
          have gc := g.c c (by simp)
          have h3 : flt w.2 (lastAt c.b c.ws) = false ∧ flt w.2 c.e = true := by
            unfold okW at hk
            unfold lastAt
            simp only [Bool.and_eq_true, Bool.not_eq_true'] at hk
            obtain ⟨⟨k1, k2⟩, k3⟩ := hk
            refine ⟨?_, k2⟩
            cases eg : c.ws.getLast? with
            | none => exact k1
            | some v => rw [eg] at k3; simpa using k3
          refine ⟨⟨fun d hd => ?_, fun p1 c1 q1 e1 => ?_⟩, ?_, ?_, by simp⟩
          · rcases List.mem_append.mp hd with hd | hd
            · exact g.c d (by simp [hd])
            · rw [List.mem_singleton] at hd
              subst hd
              refine ⟨gc.n0, gc.n1, gc.b, gc.e, gc.lt, fun p2 x2 q2 e2 => ?_⟩
              rcases app_eq_snoc e2 with ⟨_, rfl, rfl⟩ | ⟨q', _, e3⟩
              · exact ⟨w1, w2, h3.1, h3.2⟩
              · exact gc.ws p2 x2 q' e3
          · rcases app_eq_snoc e1 with ⟨_, rfl, rfl⟩ | ⟨q', _, e3⟩
            · exact g.r p c [] rfl
            · exact g.r p1 c1 (q' ++ [c]) (by rw [e3]; simp)
          · rw [linesA_app, linesA_app]
            simp only [linesA, linesC, List.append_nil, List.map_append, List.map_cons, List.map_nil]
            rw [w3]
            have : lineH ⟨c.n, c.b, c.e, c.ws ++ [w]⟩ = lineH c := rfl
            rw [this]
            simp
          · unfold lastN
            rw [last_snoc, last_snoc]
            exact Int.le_refl _
        · cases h
      · cases h
  · split at h
    · rename_i n b e eh
      split at h
      · rename_i hn
        cases h
        obtain ⟨a1, a2, a3, a4, a5, a6⟩ := headV_sound eh
        refine ⟨⟨fun d hd => ?_, fun p1 c1 q1 e1 => ?_⟩, ?_, ?_, by simp⟩
        · rcases List.mem_append.mp hd with hd | hd
          · exact g.c d hd
          · rw [List.mem_singleton] at hd
            subst hd
            exact ⟨a1, a2, a3, a4, a5, fun p2 x2 q2 e2 => absurd (congrArg List.length e2) (by simp)⟩
        · rcases app_eq_snoc e1 with ⟨_, rfl, rfl⟩ | ⟨q', _, e3⟩
          · exact hn
          · exact g.r p1 c1 q' e3
        · rw [linesA_app]
          simp only [linesA, linesC, List.append_nil, List.map_nil]
          rw [a6]
        · have : lastN (cs ++ [⟨n, b, e, []⟩]) = n := by unfold lastN; rw [last_snoc]
          rw [this]
          omega
      · cases h
    · cases h
theorem csg_nil : CsG [] := ⟨fun c h => (nomatch h), fun p c q e => by
  have := congrArg List.length e
  simp at this⟩
theorem readV_sound : ∀ (ls : List (List Nat)) (cs cs' : List Cu) (i : Nat), readV cs i ls = .ok cs' → CsG cs → CsG cs' ∧ linesA cs' = linesA cs ++ ls ∧ lastN cs ≤ lastN cs'
  | [], cs, cs', i, h, g => by
    unfold readV at h
    cases h
    exact ⟨g, by simp, Int.le_refl _⟩
  | l :: ls, cs, cs', i, h, g => by
    unfold readV at h
    split at h
    · cases h
    · rename_i cs1 e1
      obtain ⟨g1, g2, g3, _⟩ := stepV_sound e1 g
      obtain ⟨k1, k2, k3⟩ := readV_sound ls cs1 cs' (i + 1) h g1
      exact ⟨k1, by rw [k2, g2]; simp, by omega⟩
theorem readV_err : ∀ (ls : List (List Nat)) (cs : List Cu) (i k : Nat), readV cs i ls = .error k → i ≤ k ∧ k < i + ls.length
  | [], cs, i, k, h => by unfold readV at h; cases h
  | l :: ls, cs, i, k, h => by
    unfold readV at h
    split at h
    · cases h
      simp
    · have := readV_err ls _ (i + 1) k h
      simp only [List.length_cons]
      omega
end Dv

namespace Dv
open PySem PySem.Spec PyProof.Rows L2
/-! ### drawn lines -/
theorem rd_of {q : Fr} (h : Sm q) (hv : val q < ((200000 : Int) : Rat)) : Rd q := by
  refine h.rd ?_
  have : ((200000 : Int) : Rat) < ((1000000000 : Int) : Rat) := Rat.intCast_lt_intCast.mpr (by decide)
  grind
theorem headV_line {c : Cu} (h : CuOk c) : headV (lineH c) = some (c.n, c.b, c.e) := by
  have hv : val c.b < ((200000 : Int) : Rat) := by have := h.lt; have := h.hi; grind
  unfold headV
  rw [par_from]
  dsimp only
  rw [par_to]
  dsimp only
  have h4 : ([99, 117, 101, 32] ++ nm c.n).take 4 = [99, 117, 101, 32] := by simp
  have d4 : ([99, 117, 101, 32] ++ nm c.n).drop 4 = nm c.n := by simp
  rw [if_pos h4, d4, numV_nm h.n0 h.n1, frV_mix (rd_of h.b hv), frV_mix (rd_of h.e h.hi)]
  dsimp only
  rw [if_pos ((flt_iff h.b.cn.1 h.e.cn.1).mpr h.lt), Int.toNat_of_nonneg h.n0]
theorem headH_take (c : Cu) : (lineH c).take 2 ≠ [32, 32] := by
  unfold lineH
  simp
theorem wordW_take (w : List Nat × Fr) : (lineW w).take 2 = [32, 32] := by
  unfold lineW
  simp
theorem wdB_of {w : List Nat} (h : Wd w) : wdB w = true := by
  unfold wdB
  simp only [Bool.and_eq_true, decide_eq_true_eq, List.all_eq_true]
  refine ⟨⟨h.l, h.m⟩, fun c hc => ?_⟩
  have := h.a c hc
  unfold letB
  simp
  omega
theorem wd_of {w : List Nat} (h : wdB w = true) : Wd w := by
  unfold wdB at h
  simp only [Bool.and_eq_true, decide_eq_true_eq, List.all_eq_true] at h
  refine ⟨h.1.1, h.1.2, fun c hc => ?_⟩
  have := h.2 c hc
  unfold letB at this
  simp at this
  exact this
theorem wordV_line {w : List Nat × Fr} (h1 : Wd w.1) (h2 : Rd w.2) : wordV (lineW w) = some w := by
  unfold wordV
  have d : (lineW w).drop 2 = w.1 ++ ([32, 97, 116, 32] ++ (mixL w.2 ++ [102])) := by unfold lineW; simp
  rw [d, par_atw h1.a]
  dsimp only
  rw [if_pos (wdB_of h1), frV_mix h2]
  rfl
theorem step_head {c : Cu} (h : CuOk c) {acc : List Cu} (ha : lastN acc < c.n) : stepV acc (lineH c) = some (acc ++ [⟨c.n, c.b, c.e, []⟩]) := by
  unfold stepV
  rw [if_neg (headH_take c), headV_line h]
  dsimp only
  rw [if_pos ha]
theorem read_words {c : Cu} (h : CuOk c) (rest : List (List Nat)) (acc : List Cu) : ∀ (ws pre : List (List Nat × Fr)) (i : Nat), c.ws = pre ++ ws → readV (acc ++ [⟨c.n, c.b, c.e, pre⟩]) i (ws.map lineW ++ rest) = readV (acc ++ [c]) (i + ws.length) rest
  | [], pre, i, e => by
    rw [List.append_nil] at e
    rw [← e]
    rfl
  | w :: ws, pre, i, e => by
    rw [List.map_cons, List.cons_append, readV_cons]
    obtain ⟨w1, w2, w3, w4⟩ := h.ws w (by rw [e]; simp)
    have hv : val w.2 < ((200000 : Int) : Rat) := by have := h.hi; grind
    have st : stepV (acc ++ [⟨c.n, c.b, c.e, pre⟩]) (lineW w) = some (acc ++ [⟨c.n, c.b, c.e, pre ++ [w]⟩]) := by
      unfold stepV
      rw [if_pos (wordW_take w), last_snoc, wordV_line w1 (rd_of w2 hv)]
      dsimp only
      have ok : okW ⟨c.n, c.b, c.e, pre⟩ w = true := by
        unfold okW
        dsimp only
        rw [(flt_false w2.cn.1 h.b.cn.1).mpr w3, (flt_iff w2.cn.1 h.e.cn.1).mpr w4]
        rcases snoc_or pre with rfl | ⟨p0, v, rfl⟩
        · rfl
        · rw [last_snoc]
          have ord : val v.2 ≤ val w.2 := by
            have := h.srt
            rw [e, List.append_assoc, List.pairwise_append] at this
            exact (List.pairwise_cons.mp this.2.1).1 w (by simp)
          obtain ⟨_, v2, _⟩ := h.ws v (by rw [e]; simp)
          dsimp only
          rw [(flt_false w2.cn.1 v2.cn.1).mpr ord]
          rfl
      rw [if_pos ok, List.dropLast_concat]
    rw [st]
    dsimp only
    rw [read_words h rest acc ws (pre ++ [w]) (i + 1) (by rw [e]; simp), List.length_cons]
    have : i + 1 + ws.length = i + (ws.length + 1) := by omega
    rw [this]
theorem read_cue {c : Cu} (h : CuOk c) {acc : List Cu} (ha : lastN acc < c.n) (i : Nat) (rest : List (List Nat)) : readV acc i (linesC c ++ rest) = readV (acc ++ [c]) (i + (linesC c).length) rest := by
  unfold linesC
  rw [List.cons_append, readV_cons, step_head h ha]
  dsimp only
  rw [read_words h rest acc c.ws [] (i + 1) rfl, List.length_cons, List.length_map]
  have : i + 1 + c.ws.length = i + (c.ws.length + 1) := by omega
  rw [this]
theorem lastN_snoc (acc : List Cu) (c : Cu) : lastN (acc ++ [c]) = c.n := by unfold lastN; rw [last_snoc]
theorem read_cues' : ∀ (cs acc : List Cu) (i : Nat) (rest : List (List Nat)), (∀ c ∈ cs, CuOk c) → cs.Pairwise (fun c d => c.n < d.n) → (∀ c ∈ cs, lastN acc < c.n) → readV acc i (linesA cs ++ rest) = readV (acc ++ cs) (i + (linesA cs).length) rest
  | [], acc, i, rest, _, _, _ => by simp [linesA]
  | c :: cs, acc, i, rest, hc, hp, hl => by
    rw [linesA_cons, List.append_assoc, read_cue (hc c (by simp)) (hl c (by simp))]
    rw [List.pairwise_cons] at hp
    rw [read_cues' cs (acc ++ [c]) _ rest (fun d hd => hc d (by simp [hd])) hp.2 (fun d hd => by rw [lastN_snoc]; exact hp.1 d hd), List.append_assoc, List.length_append, Nat.add_assoc]
    rfl
/-- drawn cues -/
structure Dr (cs : List Cu) : Prop where
  c : ∀ c ∈ cs, CuOk c
  p : cs.Pairwise fun c d => c.n < d.n
theorem read_all {cs : List Cu} (h : Dr cs) : readV [] 0 (linesA cs) = .ok cs := by
  have := read_cues' cs [] 0 [] h.c h.p (fun c hc => by have := (h.c c hc).n0; show (-1 : Int) < _; omega)
  rw [List.append_nil] at this
  rw [this]
  simp [readV]
theorem read_take {cs : List Cu} (h : Dr cs) (a : Nat) : ∃ acc, readV [] 0 ((linesA cs).take a) = .ok acc ∧ CsG acc := by
  have e := read_all h
  rw [← List.take_append_drop a (linesA cs), readV_app] at e
  cases e1 : readV [] 0 ((linesA cs).take a) with
  | error k => rw [e1] at e; cases e
  | ok acc => exact ⟨acc, rfl, (readV_sound _ _ _ _ e1 csg_nil).1⟩
theorem read_bad {cs acc : List Cu} {L : List (List Nat)} {a : Nat} {l : List Nat} {rest : List (List Nat)} (ha : a ≤ L.length) (e : readV [] 0 (L.take a) = .ok acc) (hb : stepV acc l = none) : readV [] 0 (L.take a ++ [l] ++ rest) = .error a := by
  rw [List.append_assoc, readV_app, e]
  dsimp only
  rw [List.singleton_append, readV_cons, hb]
  dsimp only
  rw [List.length_take, Nat.min_eq_left ha, Nat.zero_add]
/-- a line that is none anywhere -/
def noneV (l : List Nat) : Bool := if l.take 2 = [32, 32] then (wordV l).isNone else (headV l).isNone
theorem step_none {l : List Nat} (h : noneV l = true) (acc : List Cu) : stepV acc l = none := by
  unfold noneV at h
  unfold stepV
  split at h
  · rename_i h2
    rw [if_pos h2]
    rw [Option.isNone_iff_eq_none] at h
    rw [h]
    cases acc.getLast? <;> rfl
  · rename_i h2
    rw [if_neg h2]
    rw [Option.isNone_iff_eq_none] at h
    rw [h]
theorem none_put {cs : List Cu} (h : Dr cs) {a : Nat} (ha : a ≤ (linesA cs).length) {l : List Nat} (hn : noneV l = true) (rest : List (List Nat)) : readV [] 0 ((linesA cs).take a ++ [l] ++ rest) = .error a := by
  obtain ⟨acc, e, _⟩ := read_take h a
  exact read_bad (cs := cs) ha e (step_none hn acc)
/-! ### odd lines -/
theorem odd_split {cs : List Cu} {k : Nat} (hk : k < cs.length) : ∃ p c q, cs = p ++ c :: q ∧ p.length = k ∧ cs[k]? = some c :=
  ⟨cs.take k, cs[k], cs.drop (k + 1), by rw [List.getElem_cons_drop, List.take_append_drop], by rw [List.length_take]; omega, List.getElem?_eq_getElem hk⟩
section
variable {p q : List Cu} {c : Cu}
theorem take_head (a : List Cu) : (linesA (p ++ c :: a)).take ((linesA p).length + 1) = linesA p ++ [lineH c] := by
  rw [linesA_app, linesA_cons]
  unfold linesC
  rw [List.cons_append, List.take_append, List.take_of_length_le (by omega)]
  congr 1
  have : (linesA p).length + 1 - (linesA p).length = 1 := by omega
  rw [this]
  rfl
theorem read_head (h : Dr (p ++ c :: q)) : readV [] 0 (linesA p ++ [lineH c]) = .ok (p ++ [⟨c.n, c.b, c.e, []⟩]) := by
  have hp := List.pairwise_append.mp h.p
  have := read_cues' p [] 0 [lineH c] (fun d hd => h.c d (by simp [hd])) hp.1 (fun d hd => by have := (h.c d (by simp [hd])).n0; show (-1 : Int) < _; omega)
  rw [this, List.nil_append, readV_cons, step_head (h.c c (by simp))]
  · rfl
  · rcases snoc_or p with rfl | ⟨p0, d, rfl⟩
    · have := (h.c c (by simp)).n0
      show (-1 : Int) < _
      omega
    · rw [lastN_snoc]
      exact hp.2.2 d (by simp) c (by simp)
theorem odd_again (h : Dr (p ++ c :: q)) {a : Nat} (h1 : (linesA p).length + 1 ≤ a) (h2 : a ≤ (linesA (p ++ c :: q)).length) (rest : List (List Nat)) : readV [] 0 ((linesA (p ++ c :: q)).take a ++ [lineH c] ++ rest) = .error a := by
  obtain ⟨acc, e, _⟩ := read_take h a
  refine read_bad (cs := p) h2 e ?_
  have er := read_head h
  have g := (readV_sound _ _ _ _ er csg_nil).1
  have sp : (linesA (p ++ c :: q)).take a = (linesA p ++ [lineH c]) ++ ((linesA (p ++ c :: q)).drop ((linesA p).length + 1)).take (a - ((linesA p).length + 1)) := by
    rw [← take_head q, ← List.take_add]
    congr 1
    omega
  rw [sp, readV_app, er] at e
  dsimp only at e
  have m := (readV_sound _ _ _ _ e g).2.2
  rw [lastN_snoc] at m
  dsimp only at m
  unfold stepV
  rw [if_neg (headH_take c), headV_line (h.c c (by simp))]
  dsimp only
  rw [if_neg (by omega)]
theorem odd_word (h : Dr (p ++ c :: q)) {w : List Nat × Fr} {l : List Nat} (hl : l.take 2 = [32, 32]) (hw : wordV l = some w) (hk : okW ⟨c.n, c.b, c.e, []⟩ w = false) (rest : List (List Nat)) : readV [] 0 ((linesA (p ++ c :: q)).take ((linesA p).length + 1) ++ [l] ++ rest) = .error ((linesA p).length + 1) := by
  have er := read_head h
  rw [← take_head q] at er
  refine read_bad (cs := p) ?_ er ?_
  · rw [linesA_app, linesA_cons]
    unfold linesC
    simp
  · unfold stepV
    rw [if_pos hl, last_snoc, hw]
    dsimp only
    rw [if_neg (by rw [hk]; simp)]
theorem odd_end (h : Dr (p ++ c :: q)) (rest : List (List Nat)) : readV [] 0 ((linesA (p ++ c :: q)).take ((linesA p).length + 1) ++ [lineW ([97], c.e)] ++ rest) = .error ((linesA p).length + 1) := by
  have hc := h.c c (by simp)
  refine odd_word h (wordW_take _) (wordV_line (show Wd [97] from ⟨by decide, by decide, by decide⟩) (rd_of hc.e hc.hi)) ?_ rest
  unfold okW
  dsimp only
  rw [(flt_false hc.e.cn.1 hc.e.cn.1).mpr Rat.le_refl]
  simp
def zeroL : List Nat := [32, 32, 97, 32, 97, 116, 32, 48, 102]
theorem zero_word : wordV zeroL = some ([97], (0, 1)) := by decide +kernel
theorem odd_zero (h : Dr (p ++ c :: q)) (hb : c.b ≠ (0, 1)) (rest : List (List Nat)) : readV [] 0 ((linesA (p ++ c :: q)).take ((linesA p).length + 1) ++ [zeroL] ++ rest) = .error ((linesA p).length + 1) := by
  have hc := h.c c (by simp)
  refine odd_word h (by decide) zero_word ?_ rest
  have lt : flt (0, 1) c.b = true := by
    unfold flt
    have a := hc.b.a
    have d := hc.b.cn
    have : c.b.1 ≠ 0 := fun z => hb (by
      have g := d.2
      rw [z] at g
      have d1 := d.1
      have g2 : Int.gcd 0 c.b.2 = c.b.2.natAbs := Int.gcd_zero_left _
      rw [g2] at g
      exact Prod.ext z (by show c.b.2 = 1; omega))
    simp
    omega
  unfold okW
  dsimp only
  rw [lt]
  rfl
end
theorem odd_first (L : List (List Nat)) : readV [] 0 (zeroL :: L) = .error 0 := by
  rw [readV_cons]
  have : stepV [] zeroL = none := by decide +kernel
  rw [this]
def nonesL : List (List Nat) := [[],
  [32],
  [99, 117, 101],
  [99, 117, 101, 32, 49],
  [99, 117, 101, 32, 49, 32, 102, 114, 111, 109, 32, 50, 102],
  [99, 117, 101, 32, 49, 32, 102, 114, 111, 109, 32, 50, 102, 32, 116, 111],
  [99, 117, 101, 32, 49, 32, 102, 114, 111, 109, 32, 50, 102, 32, 116, 111, 32, 50, 102],
  [99, 117, 101, 32, 49, 32, 102, 114, 111, 109, 32, 51, 102, 32, 116, 111, 32, 50, 102],
  [99, 117, 101, 32, 120, 32, 102, 114, 111, 109, 32, 49, 102, 32, 116, 111, 32, 50, 102],
  [99, 117, 101, 32, 48, 49, 32, 102, 114, 111, 109, 32, 49, 102, 32, 116, 111, 32, 50, 102],
  [99, 117, 101, 32, 45, 49, 32, 102, 114, 111, 109, 32, 49, 102, 32, 116, 111, 32, 50, 102],
  [99, 117, 101, 32, 49, 32, 102, 114, 111, 109, 32, 49, 115, 32, 116, 111, 32, 50, 102],
  [99, 117, 101, 32, 49, 32, 102, 114, 111, 109, 32, 49, 32, 116, 111, 32, 50, 102],
  [99, 117, 101, 32, 49, 32, 102, 114, 111, 109, 32, 49, 102, 32, 116, 111, 32, 50, 102, 32],
  [67, 117, 101, 32, 49, 32, 102, 114, 111, 109, 32, 49, 102, 32, 116, 111, 32, 50, 102],
  [32, 99, 117, 101, 32, 49, 32, 102, 114, 111, 109, 32, 49, 102, 32, 116, 111, 32, 50, 102],
  [32, 32, 97],
  [32, 32, 97, 32, 97, 116, 32, 49],
  [32, 32, 97, 116, 32, 49, 102],
  [32, 32, 65, 32, 97, 116, 32, 49, 102],
  [32, 32, 97, 32, 97, 116, 32, 49, 32, 50, 47, 52, 102],
  [32, 32, 32, 97, 32, 97, 116, 32, 49, 102],
  [32, 32, 97, 32, 97, 116, 32, 32, 49, 102],
  [32, 32, 97, 32, 98, 32, 97, 116, 32, 49, 102],
  [99, 117, 101, 32, 49, 50, 51, 52, 53, 54, 55, 56, 57, 48, 32, 102, 114, 111, 109, 32, 49, 102, 32, 116, 111, 32, 50, 102]]
theorem nones_ok : ∀ l ∈ nonesL, noneV l = true := by decide +kernel
theorem nones_len : ∀ l ∈ nonesL, l.length ≤ 100 ∧ 10 ∉ l := by decide +kernel
end Dv

namespace Dv
open PySem PySem.Spec PyProof.Rows L2
/-- how often a while may turn: the length of an own list -/
@[simp] def fuelL (i : Nat) : Rho → Om → Nat := fun ρ _ => match ρ[i]? with
  | some (some (.own xs)) => xs.length + 1
  | _ => 0
end Dv

/-! ### sorted: texts -/
namespace Dv
open PySem PySem.Spec PyProof.Rows Srt
section
variable {prog : Program} {w : World} {A : Around} {E : Value → Shared → Prop} {s : Shared}
def kS : Value → Str
  | .str x _ => x
  | _ => ⟨#[]⟩
def ltS (x y : Str) : Bool := decide (x.cps.toList < y.cps.toList)
theorem swo_S {α : Type} (k : α → Str) : SrtO.Swo fun v u => ltS (k v) (k u) := by
  refine ⟨fun x y h => ?_, fun x y z h1 h2 => ?_⟩
  · exact decide_eq_false (List.lt_asymm (of_decide_eq_true h))
  · have h4 : (k x).cps.toList ≤ (k y).cps.toList := of_decide_eq_false h1
    have h5 : (k y).cps.toList ≤ (k z).cps.toList := of_decide_eq_false h2
    have h6 : ¬ (k z).cps.toList < (k x).cps.toList := List.le_trans h4 h5
    exact decide_eq_false h6
theorem strs_of : ∀ {vs : List Value}, (∀ v ∈ vs, ∃ x t, v = Value.str x t) → StrsAre vs (vs.map kS)
  | [], _ => .nil
  | v :: vs, h => by
    obtain ⟨x, t, e⟩ := h v (by simp)
    subst e
    exact .cons x t (strs_of fun u hu => h u (by simp [hu]))
theorem str_cmp {vs : List Value} (hI : ∀ v ∈ vs, ∃ x t, v = Value.str x t) : SrtO.Cmp prog w A s oneType' (fun p => p.1 ∈ vs) (SrtO.lt2 fun v u => ltS (kS v) (kS u)) := by
  intro p q hm hm'
  obtain ⟨a, t, e⟩ := hI _ hm
  obtain ⟨b, u, e'⟩ := hI _ hm'
  show wpAny (model prog w) A (keyLt' oneType' p.1 q.1) (fun r s' => s' = s ∧ r = ltS (kS p.1) (kS q.1)) (fun _ _ => False) s
  rw [e, e', keyLt'_oneType]
  exact oneLt_str ⟨rfl, rfl⟩
theorem str_sortable {a : Addr} {vs : List Value} (hI : ∀ v ∈ vs, ∃ x t, v = Value.str x t) (h2 : 2 ≤ vs.length) : SrtO.SortableO prog w A s a vs fun v u => ltS (kS v) (kS u) := by
  intro h' _
  refine ⟨oneType', fun Q E hq => ?_, str_cmp hI⟩
  match vs, hI, h2 with
  | v1 :: v2 :: rest, hI, _ =>
    rw [keyKind_strs (strs_of hI)]
    exact wpAny_pure hq
  | [], _, h => exact absurd h (by decide)
  | [v], _, h => exact absurd h (by simp)
theorem sorted_S {l : Addr} {vs : List Value} {Q : Value → Shared → Prop} (hl : s.heap.IsList l vs.toArray) (hz : vs.length ≤ sizeLine) (hp : ∀ v ∈ vs, ∃ x t, v = Value.str x t)
    (h : ∀ (h' : Heap) (d : Addr) (out : List Value), SrtO.Srtd (fun v u => ltS (kS v) (kS u)) out → SrtO.Stb (fun v u => ltS (kS v) (kS u)) out vs → (∀ b o, s.heap.get? b = some o → h'.get? b = some o) → s.heap.objs.size ≤ d → (∃ n, h'.get? d = some (seqObj "list" out.toArray n)) → Q (.ref d) { s with heap := h' }) :
    wpAny (model prog w) A (call (.builtin "sorted") [.ref l]) Q E s := by
  refine SrtO.sorted_ord (swo_S kS) hl hz (fun h2 h₁ a ha kk => ?_) fun out hs hb => ?_
  · exact str_sortable hp h2
  · exact h _ _ out hs hb (fun b o e => sortedAll_old e) (Nat.le_succ _) (sortedAll_at s.heap vs out.toArray)
end
open L2
def rSortedS (K : PySem.W.Frag) : List V → Hp → VK → Prop := fun vs H Q => ∃ (a : Addr) (xs : List Str), vs = [V.ref a] ∧ SqL K H a (xs.map V.str) ∧
  ∀ p, H p = none → Q (.ref p) (upd H p (.lst ((isort ltS xs).map V.str)))
theorem strs_vals : ∀ {xs : List Str} {us : List Value}, Vals (xs.map V.str) us → us.map kS = xs ∧ ∀ v ∈ us, ∃ x t, v = Value.str x t
  | [], us, r => by
    cases r
    exact ⟨rfl, by simp⟩
  | x :: xs, us, r => by
    rw [List.map_cons] at r
    cases r with
    | cons r1 r2 =>
      obtain ⟨t, rfl⟩ := r1
      obtain ⟨k1, k2⟩ := strs_vals r2
      refine ⟨by rw [List.map_cons, k1]; rfl, fun v hv => ?_⟩
      rcases List.mem_cons.mp hv with rfl | hv
      · exact ⟨x, t, rfl⟩
      · exact k2 v hv
theorem vals_strs : ∀ {us : List Value}, (∀ v ∈ us, ∃ x t, v = Value.str x t) → Vals ((us.map kS).map V.str) us
  | [], _ => .nil
  | u :: us, h => by
    obtain ⟨x, t, rfl⟩ := h u (by simp)
    exact .cons ⟨t, rfl⟩ (vals_strs fun v hv => h v (by simp [hv]))
section
variable {X : Cx}
theorem cr_sortedSt : CallR X (.builtin "sorted") (rSortedS X.K) := by
  intro pins s σ H vs us Q I r h
  obtain ⟨a, xs, rfl, hs, q⟩ := h
  obtain ⟨its, rv, hl, hz⟩ := I.list hs
  obtain ⟨u, rfl, ru⟩ := vals1 r
  obtain rfl : u = Value.ref a := ru
  obtain ⟨e1, e2⟩ := strs_vals rv
  refine sorted_S hl.isList (by rw [← rv.length]; exact hz) e2 fun h' d out h1 h2 kp hd hn => ?_
  have h3 : ∀ u ∈ out, ∃ x t, u = Value.str x t := fun u hu => e2 u (h2.perm.mem_iff.mp hu)
  obtain ⟨n, hn⟩ := hn
  have hb : SrtO.Stb ltS (out.map kS) (its.map kS) := SrtO.Stb.map (swo_S id) kS h2
  have hsr : SrtO.Srtd ltS (out.map kS) := SrtO.srtd_map h1
  rw [e1] at hb
  have e3 : out.map kS = isort ltS xs := SrtO.stb_uniq (swo_S id) hsr (isort_srtd (swo_S id) _) (hb.trans ⟨(isort_perm _ _).symm, fun x => ((isort_stb (swo_S id) _).cls x).symm⟩)
  refine ⟨.ref d, upd H d (.lst ((out.map kS).map V.str)), I.laid (t' := s.toks) kp hd ⟨?_, out, n, vals_strs h3, hn⟩, rfl, ?_⟩
  · have := h2.len
    rw [List.length_map, List.length_map, this, ← rv.length]
    exact hz
  · rw [e3]
    exact q d (I.hok.fresh hd)
end
/-! ### as a built-in of the layer -/
def txsD : List D → Option (List Str)
  | [] => some []
  | .str x :: ds => (txsD ds).map (x :: ·)
  | _ :: _ => none
def fSortS : List D → Option D
  | [.lst ds] => (txsD ds).map fun l => .lst ((isort ltS l).map .str)
  | _ => none
section
variable {g : G} {R : Addr → Prop} {al : List Addr} {om : Om} {σ : St} {ρ : Rho} {H : Hp} {W : WX} {L : Addr → Prop}
theorem txs_rep : ∀ {vs : List V} {ds : List D} {l : List Str}, RepVs g al L H vs ds → txsD ds = some l → vs = l.map V.str ∧ ds = l.map D.str
  | _, _, l, .nil, e => by cases e; exact ⟨rfl, rfl⟩
  | v :: vs, d :: ds, l, .cons h r, e => by
    cases d with
    | str x =>
      unfold txsD at e
      cases e2 : txsD ds with
      | none => rw [e2] at e; cases e
      | some l' =>
        rw [e2] at e
        cases e
        obtain ⟨k1, k2⟩ := txs_rep r e2
        cases h
        exact ⟨by rw [k1]; rfl, by rw [k2]; rfl⟩
    | _ => unfold txsD at e; cases e
theorem s_sortS : FnS g (rSortedS g.K) fSortS := by
  intro R W al om σ ρ H Q vs xs S r P
  unfold fSortS at P
  split at P
  · obtain ⟨v, rfl, h⟩ := r.one
    obtain ⟨a, vs, rfl, h1, h2⟩ := h.lst
    rename_i ds
    cases e : txsD ds with
    | none => rw [e] at P; exact P.elim
    | some l =>
      rw [e] at P
      obtain ⟨k1, k2⟩ := txs_rep h2 e
      refine ⟨a, l, rfl, by rw [← k1]; exact SqL.of h1, fun p hp => ?_⟩
      have P' : PostR g R W (relV g) al (Mt al om σ ρ) H σ (.ok (.lst ((isort ltS l).map D.str)) ρ om) Q := P
      exact okNewL S P' hp (RepVs.of_mem fun x hx => .str)
  · exact P.elim
end
end Dv

set_option maxRecDepth 1000000
/-! ### list(reversed(a list)) -/
namespace Dv
open PySem PySem.Spec PyProof.Rows RT
section
variable {prog : Program} {w : World} {A : Around} {s : Shared} {R : Result → Shared → Prop}
theorem extend_rev {it l : Addr} {items : Array Value} (hh : A.handled = none) (hit : s.heap.IsRevIter it l ((items.size : Int) - 1)) (hl : s.heap.IsList l items) (hne : l ≠ it) (hn : items.size ≤ sizeLine) (S : Addr) (res : Value) (c₀ : Nat) (hSi : S ≠ it) (hSl : S ≠ l)
    (hS : s.heap.get? S = some { cls := .type "list", data := .seq #[] c₀ })
    (hR : ∀ (h' : Heap) (tk : Nat) (acc : Array Value) (c' : Nat), (∀ b o, b ≠ it → b ≠ S → s.heap.get? b = some o → h'.get? b = some o) → h'.get? S = some { cls := .type "list", dict := none, data := .seq acc c', slots := #[] } → ItemsOf (fun i v => items[items.size - 1 - i]? = some v) acc items.size → R (.ok (.ret res)) { s with heap := h', toks := tk }) :
    wpAny (model prog w) A.in1 (Builtin.List.listExtendWith (.ref S) (.ref it) res)
      (fun fin s' => match fin with | .done f => R (.ok f) s' | .again c' => c'.quiet = true ∧ codeAny (model prog w) A c' R s') (fun e s' => R (.error e) s') s := by
  have W := (Walks.listRev (prog := prog) (w := w) (A := A.in1) hh it l hne items).toS
  have hSf : S ∉ [it, l] := by simp only [List.mem_cons, List.not_mem_nil, or_false, not_or]; exact ⟨hSi, hSl⟩
  have hT : s.TypeIs (.ref it) "list_reverseiterator" := hit.typeIs
  have h1 : Builtin.List.listSameRef (.ref S) (.ref it) = false := by simp [Builtin.List.listSameRef, hSi]
  unfold Builtin.List.listExtendWith
  refine wpAny_bind (wpAny_typeOf hT ?_)
  rw [if_neg (by rw [h1]; decide)]
  refine wpAny_bind (wpAny_pyIter_revIter hit ?_)
  refine wpAny_bind (wpAny_holding ?_)
  unfold Builtin.List.listLengthHint
  refine wpAny_bind (wpAny_specialOf hT nolen_lri ?_)
  show wpAny _ A.in1 (specialOf (Value.ref it) (Str.ofString "__length_hint__") >>= _) _ _ _
  refine wpAny_bind (wpAny_specialOf hT hint_lri ?_)
  generalize hid : ("list_reverseiterator.__length_hint__" : String) = id0
  wp_delta
  rw [show splitId id0 = some ("list_reverseiterator", "__length_hint__") from by subst hid; decide +kernel]
  subst hid
  refine wpAny_bind (wpAny_isInstance (b := true) hT (by rw [isSubtype_type]; kernel_rfl) ?_)
  refine wpAny_pure ?_
  rw [if_neg (by decide)]
  have e0 : ((items.size : Nat) : Int) - 1 - ((0 : Nat) : Int) = (items.size : Int) - 1 := by omega
  refine wpAny_pure ⟨plainId_quiet F.plain_extend_loop _, codeAny_extend_loopS W hn _ hSf _ items.size 0 _ _ _ rfl (Nat.zero_le _) ⟨Nat.zero_le _, by rw [e0]; exact hit, hl⟩ hS (ItemsOf.nil _) fun s' acc' c' hm hS' hacc => ?_⟩
  rw [Moved.eq_with hm]
  refine hR s'.heap s'.toks acc' c' (fun b o hb hb2 e => hm.heap b o (fun hmem => ?_) e) hS' hacc
  rcases List.mem_cons.mp hmem with e' | hmem
  · exact hb2 e'
  · exact hb (List.mem_singleton.mp hmem)
theorem list_init_rev {it l : Addr} {items : Array Value} (hh : A.handled = none) (hit : s.heap.IsRevIter it l ((items.size : Int) - 1)) (hl : s.heap.IsList l items) (hne : l ≠ it) (hn : items.size ≤ sizeLine) (S : Addr) (hSi : S ≠ it) (hSl : S ≠ l)
    (hS : s.heap.get? S = some { cls := .type "list", data := .seq #[] })
    (hR : ∀ (h' : Heap) (tk : Nat) (acc : Array Value) (c' : Nat), (∀ b o, b ≠ it → b ≠ S → s.heap.get? b = some o → h'.get? b = some o) → h'.get? S = some { cls := .type "list", dict := none, data := .seq acc c', slots := #[] } → ItemsOf (fun i v => items[items.size - 1 - i]? = some v) acc items.size → R (.ok (.ret .none)) { s with heap := h', toks := tk }) :
    wpAny (model prog w) A.in1 (Builtin.«list.__init__» ⟨[.ref S, .ref it], []⟩)
      (fun fin s' => match fin with | .done f => R (.ok f) s' | .again c' => c'.quiet = true ∧ codeAny (model prog w) A c' R s') (fun e s' => R (.error e) s') s := by
  show wpAny _ A.in1 (do let old ← Builtin.List.listItems (.ref S); Builtin.List.listUpdate (.ref S) (fun _ => #[]); letGo old.toList.reverse; Builtin.List.listExtendWith (.ref S) (.ref it) .none) _ _ s
  refine wpAny_bind ?_
  unfold Builtin.List.listItems
  refine wpAny_bind (wpAny_seqItems hS rfl (wpAny_pure ?_))
  show wpAny _ A.in1 (updateSeq S (fun _ => #[]) >>= fun _ => letGo (#[] : Array Value).toList.reverse >>= fun _ => Builtin.List.listExtendWith (.ref S) (.ref it) .none) _ _ s
  refine wpAny_bind (wpAny_updateSeq hS rfl ?_)
  have hS₂ := Heap.get?_update_self (Obj.mapSeq (fun _ => (#[] : Array Value))) hS rfl
  have oth : ∀ b o, b ≠ S → s.heap.get? b = some o → (s.heap.update S (Obj.mapSeq (fun _ => (#[] : Array Value)))).get? b = some o :=
    fun b o hb e => (Heap.get?_update_other _ _ (Ne.symm hb)).trans e
  obtain ⟨ol, hol, _⟩ := id hl
  refine wpAny_bind (wpAny_letGo ?_)
  refine extend_rev hh (hit.at fun o e => oth it o (Ne.symm hSi) e) (hl.at fun o e => oth l o (Ne.symm hSl) e) hne hn S .none _ hSi hSl hS₂ fun h' tk acc c' hk hS' hacc => ?_
  exact hR h' tk acc c' (fun b o hb hb2 e => hk b o hb hb2 (oth b o hb2 e)) hS' hacc
end
section
variable {prog : Program} {w : World} {A : Around} {E : Value → Shared → Prop} {s : Shared}
theorem call_list_rev {it l : Addr} {items : Array Value} {Q : Value → Shared → Prop} (hh : A.handled = none) (hit : s.heap.IsRevIter it l ((items.size : Int) - 1)) (hl : s.heap.IsList l items) (hne : l ≠ it) (hn : items.size ≤ sizeLine)
    (hQ : ∀ (h' : Heap) (tk : Nat) (acc : Array Value) (c' : Nat), (∀ b o, b ≠ it → s.heap.get? b = some o → h'.get? b = some o) → h'.get? s.heap.objs.size = some { cls := .type "list", dict := none, data := .seq acc c', slots := #[] } → ItemsOf (fun i v => items[items.size - 1 - i]? = some v) acc items.size →
      Q (.ref s.heap.objs.size) { s with heap := h', toks := tk }) :
    wpAny (model prog w) A (call (.type "list") [.ref it]) Q E s := by
  obtain ⟨oi, hoi, _⟩ := id hit
  obtain ⟨ol, hol, _⟩ := id hl
  have hSi : s.heap.objs.size ≠ it := Nat.ne_of_gt (Heap.lt_size hoi)
  have hSl : s.heap.objs.size ≠ l := Nat.ne_of_gt (Heap.lt_size hol)
  refine callType_codes (Q₁ := fun obj s₁ => obj = .ref s.heap.objs.size ∧ s₁ = { s with heap := s.heap.push { cls := .type "list", data := .seq #[] } }) F.called_list (F.typeCall_list_1 _) F.entry_list_init
    (code_list_new _ ⟨rfl, rfl⟩) fun obj s₁ h₁ => ?_
  obtain ⟨rfl, rfl⟩ := h₁
  have hS : (s.heap.push { cls := .type "list", data := .seq #[] }).get? s.heap.objs.size = some { cls := .type "list", data := .seq #[] } := Heap.get?_push_size _ rfl
  refine ⟨⟨_, hS, rfl⟩, F.args_list_init_2 _ _, list_init_rev (A := A.in1) (s := { s with heap := s.heap.push { cls := .type "list", data := .seq #[] } }) hh (hit.at fun o e => Heap.get?_push_of_some _ e) (hl.push _) hne hn s.heap.objs.size hSi hSl hS fun h' tk acc c' hk hS' hacc => ?_⟩
  refine ⟨rfl, hQ h' tk acc c' (fun b o hb e => hk b o hb (Nat.ne_of_lt (Heap.lt_size e)) (Heap.get?_push_of_some _ e)) hS' hacc⟩
end
open L2
/-- list(reversed(x)), x a list: a new list -/
def tLstRev (K : PySem.W.Frag) (te : TE) : TE := fun σ H Q => te σ H fun v H1 => ∃ (a : Addr) (xs : List V), v = .ref a ∧ SqL K H1 a xs ∧ ∀ q, H1 q = none → Q (.ref q) (upd H1 q (.lst xs.reverse))
section
variable {X : Cx}
theorem pe_lstRev {e : Expr} {te : TE} {p p2 pos pos2 : Pos} (hc : X.calm = true) (hg : Gl X "list") (hm : X.mg "list" = none) (hg2 : Gl X "reversed") (hm2 : X.mg "reversed" = none) (he : PE X e te)
    (hs : starEach [e] X.env = (false, eval e X.env) :: starEach [] X.env := by rfl)
    (hs2 : starEach [.Call (.Name "reversed" p2) [e] [] pos2] X.env = (false, eval (.Call (.Name "reversed" p2) [e] [] pos2) X.env) :: starEach [] X.env := by rfl) :
    PE X (.Call (.Name "list" p) [.Call (.Name "reversed" p2) [e] [] pos2] [] pos) (tLstRev X.K te) := by
  refine ⟨fun pins s σ H Q I h => ?_⟩
  refine Call_ (ld_blt I hg hm PyProof.Rows.boot_list (PyProof.Rows.callWith_type1 (args_cons (Call_ (ld_blt I hg2 hm2 PyProof.Rows.boot_reversed (PyProof.Rows.callWith_type1 (args_cons (thn (he.run pins s σ H _ I h) fun u s1 ⟨v, H1, I1, r1, q1⟩ => args_nil ?_) hs) hs rfl))) hs2) hs2 rfl))
  obtain ⟨a, xs, ev, hq, q⟩ := q1
  subst ev
  obtain rfl : u = Value.ref a := r1
  obtain ⟨its, rv, p', hz⟩ := I1.list hq
  refine call_reversed_list p'.isList (args_nil ?_)
  have hl := p'.isList
  obtain ⟨ol, hol, _⟩ := id hl
  have hne : a ≠ s1.heap.objs.size := Nat.ne_of_lt (Heap.lt_size hol)
  have hn : its.toArray.size ≤ sizeLine := by rw [List.size_toArray, ← rv.length]; exact hz
  refine call_list_rev (s := { s1 with heap := s1.heap.push (revObj a ((its.toArray.size : Int) - 1)) }) (I1.ok.hd hc) ⟨_, Heap.get?_push_size _ rfl, rfl, rfl⟩ (hl.push _) hne hn fun h' tk acc c' hk hS hi => ?_
  have kp : ∀ b o, s1.heap.get? b = some o → h'.get? b = some o := fun b o e => hk b o (Nat.ne_of_lt (Heap.lt_size e)) (Heap.get?_push_of_some _ e)
  have hd : s1.heap.objs.size ≤ (s1.heap.push (revObj a ((its.toArray.size : Int) - 1))).objs.size := by
    rw [Heap.size_push]
    exact Nat.le_succ _
  refine ⟨.ref _, upd H1 _ (.lst xs.reverse), I1.laid (t' := tk) kp hd ⟨by rw [List.length_reverse]; exact hz, acc.toList, c', vals_rev rv hi, ?_⟩, rfl, q _ (I1.hok.fresh hd)⟩
  rw [Array.toArray_toList]
  exact hS
end
/-- .. of an own list -/
@[simp] def uRev (i : Nat) : UW := fun ρ ω => match ρ[i]? with
  | some (some (.own xs)) => .ok xs.reverse ρ ω
  | _ => .no
section
variable {g : G} {X : Cx} {W : WX} {e : Expr} {p p2 pos pos2 : Pos}
theorem pu_rev (i : Nat) (hK : X.K = g.K) (hc : X.calm = true) (hm : X.mg "list" = none) (hm2 : X.mg "reversed" = none) (he : PE X e (tVar i)) (hg : Gl X "list" := by rfl) (hg2 : Gl X "reversed" := by rfl)
    (hs : starEach [e] X.env = (false, eval e X.env) :: starEach [] X.env := by rfl)
    (hs2 : starEach [.Call (.Name "reversed" p2) [e] [] pos2] X.env = (false, eval (.Call (.Name "reversed" p2) [e] [] pos2) X.env) :: starEach [] X.env := by rfl) :
    PE X (.Call (.Name "list" p) [.Call (.Name "reversed" p2) [e] [] pos2] [] pos) (tOw g W (uRev i)) := peImp (pe_lstRev hc hg hm hg2 hm2 he hs hs2) fun σ H Q ⟨R, ρ, om, al, S, P⟩ => by
  simp only [uRev] at P
  split at P
  · rename_i xs e
    obtain ⟨a, vs, h1, h2, h3⟩ := S.own i xs e
    exact ⟨_, h1, a, vs, rfl, by rw [hK]; exact SqL.of h2, fun p hp => okOwn S P hp (RepVs.reverse h3)⟩
  · exact P.elim
end
/-! ### a method's call in a comprehension -/
@[simp] def uMethN (c m : Str) (n : Nat) (S : FN) (uo : UE) : UE := fun ρ ω => (uo ρ ω).bind fun x ρ ω => if isIns ω x c m = true then (if 1 = n then (match S [x] ω with
  | .ok d ω' => .ok d ρ ω'
  | _ => .no) else .no) else .no
section
variable {g : G} {W : WX} {X : Cx} {o : Expr} {uo : UE} {pos apos : Pos} {cn m : Str} {k n : Nat} {S : FN} {ps : List Str}
theorem passN {X : Cx} (σ : St) : PassesAt (L2.CX X.prog X.w) X σ (fun _ _ _ => False) := fun _ _ _ e s' I h => by
  obtain ⟨_, _, _, _, _, _, _, _, _, _, _, _, z⟩ := h
  exact z.elim
theorem pu_mth0N (h : HasM X.prog X.w X.K X.mg X.base (g.cls cn) m ps k (spU g n S)) (hc : Cls X.K (g.cls cn)) (hr : Room k X.A) (ho : PE X o (tE g W uo)) {pl : Sem Bool} (hpn : ps.length = n := by rfl)
    (ht : eval (.Call (.Attribute o m apos) [] [] pos) X.env = (do
      let ov ← eval o X.env
      standAt apos.atName
      let (f, first) ← holding [ov] (getMethod ov m pl)
      callWith pos f first (backTo pos (starEach [] X.env)) (backToKw pos (keywordEach [] X.env))) := by rfl) :
    PE X (.Call (.Attribute o m apos) [] [] pos) (tE g W (uMethN cn m n S uo)) := by
  subst hpn
  obtain ⟨f, fd, hm, hb, F⟩ := h
  refine peImp (pe_methS0 (E := fun _ _ _ _ => False) ho hc hm F hr hb (fun σ => passN σ) ht) fun σ H Q ⟨R, ρ, om, al, St, P⟩ => ?_
  refine tR_bind St P fun x ρ1 om1 v H1 al1 s1 S1 r1 P1 => ?_
  split at P1
  · rename_i hi
    obtain ⟨ad, dx, fs, rfl, q1, q2⟩ := ins_at S1 r1 hi
    refine ⟨ad, dx, fs, rfl, q1, q2, ?_⟩
    split at P1
    · rename_i hl
      cases e9 : S [x] om1 with
      | ok d om' =>
        rw [e9] at P1
        obtain ⟨k1, R2, ds2, om2, al2, k2, k3, k4⟩ := call_end (W := fun _ _ _ _ => False) (S := S) (ds := [x]) S1 (.cons r1 .nil) (by rw [e9]; exact P1) _ hl
        exact ⟨k1, R2, ds2, om2, al2, k2, k3, k4⟩
      | xc x om' => rw [e9] at P1; exact P1.elim
      | no => rw [e9] at P1; exact P1.elim
    · exact P1.elim
  · exact P1.elim
end
end Dv

namespace Dv
open PySem PySem.Spec PyProof.Rows L2
/-! ### a comprehension over a shared list, asked anew at each turn -/
def goCX (G : UG) (tt : UT) (te : UE) (vs : List Nat) (get : Rho → Om → Option (List D)) : Nat → Nat → List D → UW
  | 0, _, _ => fun _ _ => .no
  | f + 1, i, acc => fun ρ ω => match get ρ ω with
    | none => .no
    | some ds => match ds[i]? with
      | none => .ok acc ρ ω
      | some d => match G d ρ with
        | none => .no
        | some ρ1 => match tt ρ1 ω with
          | .ok b ρ2 ω2 => if b = true then (match te ρ2 ω2 with
            | .ok y ρ3 ω3 => if acc.length < big then goCX G tt te vs get f (i + 1) (acc ++ [y]) (clrs ρ3 vs) ω3 else .no
            | _ => .no) else goCX G tt te vs get f (i + 1) acc (clrs ρ2 vs) ω2
          | _ => .no
def uLcL (u : UE) (G : UG) (tt : UT) (te : UE) (vs : List Nat) : UW := fun ρ ω => (u ρ ω).bind fun x ρ ω => match x with
  | .loc k => goCX G tt te vs (getL k) (lenG (getL k) ρ ω) 0 [] (clrs ρ vs) ω
  | _ => .no
section
variable {g : G} {R : Addr → Prop} {al : List Addr} {om : Om} {σ : St} {ρ : Rho} {H H' : Hp} {W : WX} {X : Cx} {v : V} {d : D} {a b c e o : Expr} {ua ub uc ue uo : UE} {es : List Expr} {us : UA} {p0 pos p1 apos : Pos} {x : Str} {id : String}
theorem tLcL_of {K : PySem.W.Frag} {G' : UG} {tt : UT} {te : UE} {vs : List Nat} {σ : St} {H : Hp} {Q : VK} (h : tOw g W (uLcL ue G' tt te vs) σ H Q) : tLc (iList K (tE g W ue)) (tGv g vs G') (tT g WF tt) (tE g WF te) vs σ H Q := by
  obtain ⟨R, ρ, om, al, S, P⟩ := h
  refine tR_bindO S P fun x ρ1 om1 v H1 al1 s1 S1 r1 P1 => ?_
  cases x <;> first | exact P1.elim | skip
  rename_i k
  cases r1 with
  | loc ha =>
  rename_i ad
  dsimp only at P1
  have cell : ∀ {R2 : Addr → Prop} {al' : List Addr} {om' : Om} {σ' : St} {ρ' : Rho} {H' : Hp} {ds : List D}, (∀ (i : Nat) (a : Addr), al1[i]? = some a → al'[i]? = some a) → Rst g R2 al' σ' ρ' om' H' → getL k ρ' om' = some ds → ∃ vs, SqL K H' ad vs ∧ H' ad = some (.lst vs) ∧ RepVs g al' (LL R2 al' om' σ' ρ') H' vs ds := fun {R2 al' om' σ' ρ' H' ds} ext S' e => by
    unfold getL at e
    split at e
    · rename_i ds' e'
      cases e
      obtain ⟨vs, h1, h2⟩ := cell_lst S' e' (ext _ _ ha)
      exact ⟨vs, SqL.of h1, h1, h2⟩
    · cases e
  have first : ∃ vs, SqL K H1 ad vs := by
    unfold lenG at P1
    cases e : getL k ρ1 om1 with
    | none => rw [e] at P1; exact P1.elim
    | some ds => obtain ⟨vs, h, _⟩ := cell (fun _ _ h => h) S1 e; exact ⟨vs, h⟩
  refine ⟨ad, rfl, first, ?_⟩
  intro D0 hD
  obtain ⟨S2, s2⟩ := S1.forgets vs
  obtain ⟨S3, c3⟩ := S2.newRes (o := .lst []) hD
  have nR : ¬ R D0 := fun z => (S1.o.rsv D0 z).2 hD
  refine ⟨fun i n H' => ∃ ρ' om' al' accV acc, Step al1 (Mt al1 om1 σ ρ1) H1 al' (fun a => Mt al' om' (wipe σ vs) ρ' a ∨ a = D0) H' ∧ Rst g (Rp R D0) al' (wipe σ vs) ρ' om' H' ∧ (∀ i s, ρ'[i]? = some (some s) → i ∉ vs) ∧ H' D0 = some (.lst accV) ∧ RepVs g al' (LL (Rp R D0) al' om' (wipe σ vs) ρ') H' accV acc ∧
      PostO g R W al1 (Mt al1 om1 σ ρ1) H1 σ (goCX G' tt te vs (getL k) n i acc ρ' om') Q,
    ⟨_, clrs ρ1 vs, om1, al1, [], [], ?_, S3, fun i s h => clrs_get h, upd_same, .nil, P1⟩, ?_⟩
  · refine s2.trans (.grow (fun b o h n => upd_keep hD b o h) fun b m => ?_)
    rcases m with m | m
    · exact .inl m
    · exact .inr (by rw [m]; exact hD)
  rintro i n H2 ⟨ρ2, om2, al2, accV, acc, t2, S4, cl2, hacc, racc, P2⟩
  obtain ⟨S4', c4', n4⟩ := S4.lessp nR
  cases n with
  | zero => exact P2.elim
  | succ n =>
  unfold goCX at P2
  cases eq : getL k ρ2 om2 with
  | none => rw [eq] at P2; exact P2.elim
  | some ds =>
  rw [eq] at P2
  dsimp only at P2
  obtain ⟨vs0, q0, q1, q2⟩ := cell t2.ext S4 eq
  cases ed : ds[i]? with
  | some d =>
    rw [ed] at P2
    dsimp only at P2
    obtain ⟨v0, h0, r⟩ := q2.get ed
    refine .inr ⟨⟨vs0, v0, q0, h0⟩, fun H' => ∃ ρ' om' al' accV acc, Step al1 (Mt al1 om1 σ ρ1) H1 al' (fun a => Mt al' om' (wipe σ vs) ρ' a ∨ a = D0) H' ∧ Rst g (Rp R D0) al' (wipe σ vs) ρ' om' H' ∧ (∀ i s, ρ'[i]? = some (some s) → i ∉ vs) ∧ H' D0 = some (.lst accV) ∧ RepVs g al' (LL (Rp R D0) al' om' (wipe σ vs) ρ') H' accV acc ∧
        PostO g R W al1 (Mt al1 om1 σ ρ1) H1 σ (goCX G' tt te vs (getL k) n (i + 1) acc ρ' om') Q, fun H' h => ⟨n, Nat.lt_succ_self n, h⟩, fun x H3 ⟨e3, hx⟩ => ?_⟩
    subst e3
    have h2 := hx vs0 q0
    rw [h0] at h2
    cases h2
    cases eg : G' d ρ2 with
    | none => rw [eg] at P2; exact P2.elim
    | some ρ3 =>
      rw [eg] at P2
      refine ⟨Rp R D0, ρ2, om2, al2, d, ρ3, S4, r, eg, fun σ4 o4 s4 S6 => ⟨o4.wipe, Rp R D0, ρ3, om2, al2, S6, ?_⟩⟩
      dsimp only at P2
      cases et : tt ρ3 om2 with
      | xc _ _ _ => rw [et] at P2; exact P2.elim
      | no => rw [et] at P2; exact P2.elim
      | ok b ρ5 om5 =>
        rw [et] at P2
        dsimp only at P2
        intro y7 H7 al7 s7 S7 e7
        cases (show y7 = b from e7)
        have kD : ∀ {al : List Addr} {om : Om} {σ : St} {ρ : Rho} {H : Hp}, Rst g (Rp R D0) al σ ρ om H → ¬ Mt al om σ ρ D0 := fun S m => by
          rcases m with m | m
          · exact (S.o.rsv D0 (.inr rfl)).1 m
          · exact (S.ocl D0 m).2 (.inr rfl)
        have st7 := s4.trans s7
        have hD7 : H7 D0 = some (.lst accV) := st7.keep D0 _ hacc (kD S4)
        have ra7 := st7.reps S4 racc
        cases b with
        | false =>
          simp only [Bool.false_eq_true, if_false] at P2 ⊢
          obtain ⟨S8, s8⟩ := S7.forgets vs
          rw [o4.wipe] at S8 s8
          exact ⟨clrs ρ5 vs, om5, al7, accV, acc, t2.trans (st7.trans s8).or, S8, fun i s h => clrs_get h, by exact hD7, s8.reps S7 ra7, P2⟩
        | true =>
          simp only [if_true] at P2 ⊢
          refine ⟨Rp R D0, ρ5, om5, al7, S7, ?_⟩
          cases ee : te ρ5 om5 with
          | xc _ _ _ => rw [ee] at P2; exact P2.elim
          | no => rw [ee] at P2; exact P2.elim
          | ok y ρ6 om6 =>
            rw [ee] at P2
            dsimp only at P2
            split at P2
            · rename_i hz
              intro yv H9 al9 s9 S9 ry
              have hD9 : H9 D0 = some (.lst accV) := s9.keep D0 _ hD7 (kD S7)
              have ra9 := s9.reps S7 ra7
              have hlen : accV.length < sizeLine := by rw [ra9.length]; exact Nat.lt_of_lt_of_le hz (big_line (Nat.le_refl _))
              refine ⟨accV, hD9, hlen, ?_⟩
              obtain ⟨S10, c10⟩ := S9.updRes (vs' := accV ++ [yv]) hD9
              obtain ⟨S11, s11⟩ := S10.forgets vs
              rw [o4.wipe] at S11 s11
              refine ⟨clrs ρ6 vs, om6, al9, accV ++ [yv], acc ++ [y], t2.trans ((st7.trans s9).or.trans ?_), S11, fun i s h => clrs_get h, upd_same, s11.reps S10 ((ra9.append (.cons ry .nil)).car c10), P2⟩
              refine ⟨fun _ _ h => h, fun b o h n => ?_, fun b m => ?_⟩
              · rw [upd_ne fun z => n (.inr z)]; exact h
              · rcases m with m | m
                · rcases s11.fresh b m with q | q
                  · exact .inl (.inl q)
                  · by_cases z : b = D0
                    · exact .inl (.inr z)
                    · rw [upd_ne z] at q; exact .inr q
                · exact .inl (.inr m)
            · exact P2.elim
  | none =>
    rw [ed] at P2
    dsimp only at P2
    refine .inl ⟨⟨vs0, q0, ?_⟩, ?_⟩
    · rw [q2.length]
      exact List.getElem?_eq_none_iff.mp ed
    have hout : ∀ (j : Nat) (s : Sl), ρ2[j]? = some (some s) → σ[j]? = (wipe σ vs)[j]? := fun j s h => (wipe_out (cl2 j s h)).symm
    obtain ⟨S7, m7⟩ := S4.agree (σ' := σ) (by rw [wipe_length]) hout
    refine P2 D0 accV H2 al2 ⟨t2.ext, t2.keep, fun a m => t2.fresh a (m.imp (m7 a).mp id)⟩ S7 nR hacc (racc.car (carL fun a m => ?_))
    exact m.imp (m7 a).mp id
/-- [.. for .. in e ..], e a shared list -/
theorem pu_lcL {elt tg iter : Expr} {ifs : List Expr} {scope : Scope} {G' : UG} {tt : UT} {te : UE} (own : List (Str × Nat)) (hc : X.calm = true) (hN : X.N.Nodup) (hi : PE X iter (tE g W ue)) (ok : BlkOk X.N X.env.scope scope own)
    (hg : ∀ (s : Shared) (H : Hp) (C : Addr) (cl : List (Str × Addr)) (fp : List Addr), PG (X.blk s H scope (compEnvC scope cl C X.env) fp) tg (tGv g (own.map (·.2)) G')) (ht : ∀ (s : Shared) (H : Hp) (C : Addr) (cl : List (Str × Addr)) (fp : List Addr), PTs (X.blk s H scope (compEnvC scope cl C X.env) fp) ifs (tT g WF tt))
    (he : ∀ (s : Shared) (H : Hp) (C : Addr) (cl : List (Str × Addr)) (fp : List Addr), PE (X.blk s H scope (compEnvC scope cl C X.env) fp) elt (tE g WF te)) (hs : ∀ x, foldedSetIterable iter X.env x = pure x := by intro _; rfl) :
    PE X (.ListComp elt [⟨tg, iter, ifs, 0⟩] scope pos) (tOw g W (uLcL ue G' tt te (own.map (·.2)))) :=
  peImp (pe_lc hc hN (pi_list hi) ok hg ht he hs) fun σ H Q h => tLcL_of h
/-! ### list(x), x a shared list or a value -/
@[simp] def uFnOX (f : List D → Option (List D)) (u : UA) : UW := fun ρ ω => (u ρ ω).bind fun xs ρ ω => liftO (f (xs.map (see ω))) ρ ω
theorem pu_listX (hK : X.K = g.K) (hm : X.mg "list" = none) (ha : PA X [e] (tA g W us)) (hg : Gl X "list" := by rfl) (he : starEach [e] X.env = (false, eval e X.env) :: starEach [] X.env := by rfl) (hpl : (backTo pos (starEach [] X.env)).any (·.1) = false := by rfl) :
    PE X (.Call (.Name "list" p0) [e] [] pos) (tOw g W (uFnOX fList us)) :=
  peImp (pe_callTy call_list_of hg hm (by decide +kernel) ha (by decide) (by decide) he hpl) fun σ H Q ⟨R, ρ, om, al, S, P⟩ =>
    tR_bindO S P fun ds ρ1 om1 vs H1 al1 s1 S1 r1 P1 => by
      have r2 := see_reps S1 r1
      generalize ds.map (see om1) = ds' at P1 r2
      unfold fList at P1
      split at P1
      · obtain ⟨v, rfl, h⟩ := r2.one
        obtain ⟨a, vs, rfl, h1, h2⟩ := h.lst
        exact ⟨a, vs, rfl, .inl (SqL.of h1), fun l hl => okOwn S1 P1 hl h2⟩
      · obtain ⟨v, rfl, h⟩ := r2.one
        obtain ⟨a, vs, rfl, h1, h2⟩ := h.frz
        exact ⟨a, vs, rfl, .inl (by rw [hK]; exact h1.sq), fun l hl => okOwn S1 P1 hl h2⟩
      · obtain ⟨v, rfl, h⟩ := r2.one
        obtain ⟨a, vs, rfl, h1, h2⟩ := h.tup
        exact ⟨a, vs, rfl, .inr (by rw [hK]; exact h1), fun l hl => okOwn S1 P1 hl h2⟩
      · exact P1.elim
end
end Dv

namespace Dv
open PySem PySem.Spec PyProof.Rows L2
/-! ### defs whose exceptions bear no context -/
def HasN (P : Program) (w : World) (K : PySem.W.Frag) (mg : Str → Option Value) (base : Heap) (x : Str) (ps : List Str) (k : Nat) (sp : Sp) : Prop :=
  ∃ (f : Addr) (fd : FuncData), mg x = some (.ref f) ∧ PySem.W.keepIn K (.ref f) = true ∧ Binds K fd ps [] ∧ FnOk P w K mg base (L2N.CX P w) k f fd ps sp
theorem At.hasN {P : Program} {w : World} {K : PySem.W.Frag} {mg : Str → Option Value} {base : Heap} {x : Str} {st : Stmt} {ps : List Str} {k : Nat} {sp : Sp} (a : At K mg x x st)
    (b : ∀ (kV doc pm : Value) (an : Option Addr) (cdv ct : Value) (us : List Value), us.length = ps.length → bindArgs (PySem.W.fnOf x x (defArgs st) (defBody st) (defScope st) .none kV doc pm an cdv ct) ⟨us, []⟩ = pure (ps.zip us))
    (h : ∀ {f : Addr} {fd : FuncData}, mg x = some (.ref f) → Binds K fd ps [] → Fun K x x st f fd → FnOk P w K mg base (L2N.CX P w) k f fd ps sp) : HasN P w K mg base x ps k sp :=
  let ⟨f, fd, e, F⟩ := a
  ⟨f, fd, e, F.kp, F.binds b, h e (F.binds b) F⟩
section
variable {g : G} {R : Addr → Prop} {al : List Addr} {om : Om} {σ : St} {ρ : Rho} {H H' : Hp} {W : WX} {X : Cx} {x : Str} {ps : List Str} {k n : Nat} {S : FN} {p0 pos : Pos} {e : Expr} {es : List Expr} {us : UA}
theorem pu_callM (h : HasN X.prog X.w X.K X.mg X.base x ps k (spU g ps.length S)) (hr : Room k X.A) (tk : L2N.Takes X W) (ha : PA X (e :: es) (tA g W us)) (hg : Gl X x := by rfl) (hdb : (x == ("__debug__" : Str)) = false := by decide)
    (he : starEach (e :: es) X.env = (false, eval e X.env) :: starEach es X.env := by rfl) (hpl : (backTo pos (starEach es X.env)).any (·.1) = false := by rfl) : PE X (.Call (.Name x p0) (e :: es) [] pos) (tE g W (uCall ps.length S us)) := by
  obtain ⟨f, fd, hm, hk, hb, F⟩ := h
  refine peImp (pe_callS F hr hg hm hk hb (fun σ => L2N.passAt tk σ) ha hdb he hpl) fun σ H Q ⟨R, ρ, om, al, St, P⟩ => ?_
  refine tR_bind St P fun ds ρ1 om1 vs H1 al1 s1 S1 r1 P1 => ?_
  split at P1
  · rename_i hl
    exact call_end S1 r1 P1 _ (by rw [RepVs.length r1]; exact hl)
  · exact P1.elim
variable {P : Program} {w : World} {K : PySem.W.Frag} {mg : Str → Option Value} {base : Heap} {qual : Str} {st : Stmt} {f : Addr} {fd : FuncData} {N : List Str} {u : US}
theorem fnUN (F : Fun K x qual st f fd) (Sc : FnScope N ps (defScope st)) (hps : ps.length ≤ N.length)
    (body : ∀ (cdv : Value) (A : Around) (outer : List Env) (s : Shared) (H : Hp) (E : XK), Room k (A.deeper (envOfC qual (defScope st) s.heap.objs.size f cdv)) →
      L2N.Takes (cxOf (L2N.CX P w) P w K mg base N qual (defScope st) f cdv A outer s H E) (fun cls d _ H => E cls d H) → PSs (cxOf (L2N.CX P w) P w K mg base N qual (defScope st) f cdv A outer s H E) (defBody st) (tS g (fun cls d _ H => E cls d H) u)) :
    FnOk P w K mg base (L2N.CX P w) (k + 1) f fd ps (spU g ps.length (defU N.length u)) := by
  obtain ⟨oc, od, kV, doc, pm, an, cdv, ct, osl, rfl, lk, hcd⟩ := F.ex
  refine fn_of lk hcd Sc (fun vs H Q E h => h.1) (fun A outer s H vs Q E hr h => ⟨_, body cdv A outer s H E hr (L2N.takes_of rfl rfl rfl rfl), ?_⟩)
  obtain ⟨hn, R, ds, om, al, o, r, p⟩ := h
  obtain ⟨S, m0⟩ := Rst.entry (N := N) o r (by omega)
  refine ⟨R, _, om, al, S, ?_⟩
  have back : ∀ {al' : List Addr} {om' : Om} {σ' : St} {ρ' : Rho} {H' : Hp}, Step al (Mt al om (start N vs) (ent N.length ds)) H al' (Mt al' om' σ' ρ') H' → Step al (Lv al om) H al' (Lv al' om') H' := fun s =>
    ⟨s.ext, fun a u h n => s.keep a u h fun z => n (m0 a z), fun a z => (s.fresh a (.inl z)).imp (m0 a) id⟩
  unfold defU at p
  cases e : u (ent N.length ds) om with
  | nx ρ' om' => rw [e] at p; exact fun σ' H' al' s S' => p _ H' al' (back s) (S'.o.lm fun a h => rst_lf h) .non
  | rt d om' => rw [e] at p; exact fun v σ' ρ' H' al' s S' r' => p _ H' al' (back s) (S'.o.lm fun a h => rst_lf h) (r'.car (carL fun a h => rst_lf h))
  | rto d om' =>
    rw [e] at p
    intro q vs σ' ρ' H' al' s S' n hq r'
    obtain ⟨S2, c, n2⟩ := S'.lessp n
    refine p _ H' al' ⟨s.ext, fun a u h z => s.keep a u h fun y => z (m0 a y), fun a z => (s.fresh a (.inl (.inl z))).imp (m0 a) id⟩ (S2.o.lm fun a h => rst_lf h) (RepV.car (carL fun a h => rst_lf h) (RepV.lst hq n2 (r'.car c)))
  | xc y ρ' om' => rw [e] at p; exact fun cv dd σ' H' al' s S' r' => p cv dd H' al' (back s) (S'.o.lm fun a h => rst_lf h) (r'.car (carL fun a h => rst_lf h))
  | bk ρ' om' => rw [e] at p; exact p.elim
  | ct ρ' om' => rw [e] at p; exact p.elim
  | no => rw [e] at p; exact p.elim
end
section
variable {g : G} {W : WX} {X : Cx}
theorem ps_raiseM {x m : Str} {j : Nat} {p p2 pos pos' : Pos} (F : ExM X.K X.mg g.cls x) (hc : X.calm = true) (tk : L2N.Takes X W) (hg : Gl X x) (hdb : (x == ("__debug__" : Str)) = false := by decide) : PS X (.Raise (some (.Call (.Name x p) [.Constant (.str m) j p2] [] pos)) none pos') (tS g W (sRaise ⟨x, []⟩)) :=
  psImp (L2N.ps_raise hc tk (L2N.pmk_own PySem.F.excBase_ValueError F.x F.g F.k (raises_own F.b F.t) hg hdb)) fun D σ H ⟨R, ρ, om, al, S, P⟩ => P (.ref (g.cls x)) none σ H al .refl S ⟨rfl, .inl ⟨rfl, rfl⟩⟩
end
/-! ### an exception class whose __init__ is x0.__init__(self, f); self.f = f -/
structure BnOk (K : PySem.W.Frag) (mg : Str → Option Value) (cls : Str → Addr) (x x0 fld qual : Str) (st : Stmt) : Prop where
  T : OexC K (cls x)
  gx : mg x = some (.ref (cls x))
  g0 : mg x0 = some (.ref (cls x0))
  rd : PySem.W.readsIn K (cls x0) (.type "type") = true
  ga : PySem.W.specialIn K (.ref (cls x0)) "__getattribute__" = some (some (.builtin "type.__getattribute__"))
  at0 : PySem.W.findCls K (.ref (cls x0)) (.type "type") "__init__" = some (.val (.builtin "ValueError.__init__"))
  no : PySem.W.findIn K (.ref (cls x)) fld = some none
  fn : ∃ (fI : Addr) (fd : FuncData), PySem.W.findIn K (.ref (cls x)) "__init__" = some (some (.ref fI)) ∧ PySem.W.typeIn K (.ref fI) = some (.type "function") ∧ Fun K "__init__" qual st fI fd
/-- x0.__init__(e, ..), x0 an own class that has it from ValueError -/
theorem pe_exinit {X : Cx} {C0 : Addr} {x0 : Str} {e : Expr} {es : List Expr} {ta : TA} {p1 p2 pos : Pos} {pl : Sem Bool} (hg : Gl X x0) (hm : X.mg x0 = some (.ref C0)) (rd : PySem.W.readsIn X.K C0 (.type "type") = true)
    (ga : PySem.W.specialIn X.K (.ref C0) "__getattribute__" = some (some (.builtin "type.__getattribute__"))) (at0 : PySem.W.findCls X.K (.ref C0) (.type "type") "__init__" = some (.val (.builtin "ValueError.__init__"))) (ha : PA X (e :: es) ta)
    (hdb : (x0 == ("__debug__" : Str)) = false := by decide)
    (hc : eval (.Call (.Attribute (.Name x0 p1) "__init__" p2) (e :: es) [] pos) X.env = (do
      let ov ← eval (.Name x0 p1) X.env
      standAt p2.atName
      let (f, first) ← holding [ov] (getMethod ov "__init__" pl)
      callWith pos f first (backTo pos (starEach (e :: es) X.env)) (backToKw pos (keywordEach [] X.env))) := by rfl)
    (he : starEach (e :: es) X.env = (false, eval e X.env) :: starEach es X.env := by rfl) (hpl : (backTo pos (starEach es X.env)).any (·.1) = false := by rfl) :
    PE X (.Call (.Attribute (.Name x0 p1) "__init__" p2) (e :: es) [] pos) (tVeI X.K ta) := by
  refine ⟨fun pins s σ H Q I h => ?_⟩
  refine PySem.W.methodCall_KW (ld_glob I hg hm ?_ hdb) hc
  refine PySem.W.method_cls I.kIn ga (PySem.W.cls_value I.kIn rd at0 (by decide +kernel) ?_)
  show wpAny _ _ (callWith pos (Value.builtin "ValueError.__init__") [] (backTo pos (starEach (e :: es) X.env)) []) _ _ _
  refine PyProof.Rows.callWith_method1 (thn (ha.run pos pins _ σ H _ (I.tok _) h) fun us s1 ⟨vs, H1, I1, r1, a, C, ws, ev, hl, T, ea, q⟩ => ?_) he hpl
  subst ev
  cases r1 with
  | @cons _ u0 _ ur ra rw' =>
    obtain rfl : u0 = Value.ref a := ra
    have hlen : ur.length ≤ sizeLine := by
      rw [← Paired.length rw', sizeLine_eq]
      omega
    exact oinit_ok T I1 ea hlen fun s' J => ⟨.non, H1, J, rfl, q⟩
/-- what such an __init__ does -/
def spI (C : Addr) (fld : Str) : Sp := fun vs H Q _ => ∃ (a : Addr) (y : V), vs = [.ref a, y] ∧ H a = some (exo a C none) ∧ ∀ d, H d = none → d ≠ a → Q .non (upd (upd H d (exd d [(fld, y)])) a (exo a C (some d)))
theorem fnI {P : Program} {w : World} {K : PySem.W.Frag} {mg : Str → Option Value} {base : Heap} {x x0 fld qual : Str} {st : Stmt} {f : Addr} {fd : FuncData} {cls : Str → Addr} {N : List Str} {ps : List Str} (B : BnOk K mg cls x x0 fld qual st) (F : Fun K "__init__" qual st f fd) (Sc : FnScope N ps (defScope st)) (h2 : ps.length = 2)
    (body : ∀ (cdv : Value) (A : Around) (outer : List Env) (s : Shared) (H : Hp) (E : XK) (p : Addr × Obj), PSs (L2H.cxH (L2.CX P w) P w K mg base N qual (defScope st) f cdv A outer s H E p) (defBody st) (tSeq (tDrop (tVeI K (tCons (tVar 0) (tCons (tVar 1) tNil)))) (tOst K fld (tVar 0) (tVar 1)))) :
    L2H.FnH P w K mg base (L2.CX P w) 1 f fd ps (spI (cls x) fld) := by
  obtain ⟨oc, od, kV, doc, pm, an, cdv, ct, osl, rfl, lk, hcd⟩ := F.ex
  refine L2H.fn_ofH lk hcd Sc (fun vs H Q E ⟨a, y, e, _⟩ => by rw [e, h2]; rfl) (fun A outer s H vs Q E p hot hr h => ⟨_, body cdv A outer s H E p, ?_⟩)
  obtain ⟨a, y, e, ea, q⟩ := h
  subst e
  have g0 : (L2.start N [V.ref a, y])[0]? = some (some (V.ref a)) := rfl
  have g1 : (L2.start N [V.ref a, y])[1]? = some (some y) := rfl
  exact ⟨_, g0, _, g1, a, cls x, [y], rfl, by simp, B.T, ea, _, g1, _, g0, a, cls x, rfl, B.T, B.no, .inl ⟨ea, fun dx h1 h2 => q dx h1 h2⟩⟩
/-! ### try .. except x: raise y(e) -/
def sTryR (kn : List (Str × Bool)) (y fld : Str) (b : US) (ue : UE) : US := fun ρ ω => match b ρ ω with
  | .xc x ρ ω => match kn.lookup x.c with
    | some true => (match ue ρ ω with
      | .ok d ρ ω => .xc ⟨y, [(fld, d)]⟩ ρ ω
      | _ => .no)
    | _ => .no
  | r => r
theorem upd_del {H : Hp} {a d : Addr} {o1 o2 o3 o4 : HO} (ha : H a = none) (hd : d ≠ a) : upd (del (upd (upd (upd H a o1) d o2) a o3) a) d o4 = upd H d o4 := by
  funext b
  by_cases h : b = d
  · subst h
    rw [upd_same, upd_same]
  · rw [upd_ne h, upd_ne h]
    by_cases h2 : b = a
    · subst h2
      rw [del_same, ha]
    · rw [del_ne h2, upd_ne h2, upd_ne h, upd_ne h2]
theorem passF {X : Cx} : Passes (L2.CX X.prog X.w) X (fun _ _ _ => False) := fun _ _ _ _ e s' I h => by
  obtain ⟨_, _, _, _, _, _, _, _, _, _, _, _, z⟩ := h
  exact z.elim
section
variable {X : Cx} {W : WX} {K : PySem.W.Frag} {cls : Str → Addr} {x y x0 fld qual : Str} {body : List Stmt} {e : Expr} {ub : US} {ue : UE} {kn : List (Str × Bool)} {np pos pos' p pos1 pos2 : Pos} {st : Stmt} {ps : List Str}
theorem ps_tryR (hs : X.stack = X.env :: X.outer) (hf : X.env.frame = some X.env.locals) (hK : X.K = K) (F : ExF X.K X.mg cls x) (kn : List (Str × Bool)) (hkn : KnOk X.K cls (.ref (cls x)) kn) (hg : Gl X x) (tk : Takes X W)
    (hpa : ∀ hd : Option Value, PassesOwnAt (model X.prog X.w) (X.A.mark hd) X.A X.env X.xe)
    (hb : ∀ (W : WX) (pn : List (Addr × Obj)) (xe : Value → Shared → Prop), L2N.Takes (X.tr pn xe) W → PassesOwn (model X.prog X.w) X.A X.env xe → PSs (X.tr pn xe) body (tS (gK K cls) W ub))
    (B : BnOk X.K X.mg cls y x0 fld qual st) (FI : ∀ (fI : Addr) (fd : FuncData), Fun X.K "__init__" qual st fI fd → Binds X.K fd ps [] ∧ L2H.FnH X.prog X.w X.K X.mg X.base (L2.CX X.prog X.w) 1 fI fd ps (spI (cls y) fld)) (hr : Room 2 X.A)
    (he : ∀ (a : Addr) (oe : Obj) (pn : List (Addr × Obj)), PA (L2H.suiteX X a ((a, oe) :: pn)) [e] (tA (gK K cls) WF (uCons ue uNil))) (hgy : Gl X y)
    (hse : ∀ (a : Addr) (oe : Obj) (pn : List (Addr × Obj)), starEach [e] (L2H.suiteX X a ((a, oe) :: pn)).env = (false, eval e (L2H.suiteX X a ((a, oe) :: pn)).env) :: starEach [] (L2H.suiteX X a ((a, oe) :: pn)).env := by intro _ _ _; rfl)
    (hdb : (x == ("__debug__" : Str)) = false := by decide) (hdy : (y == ("__debug__" : Str)) = false := by decide) :
    PS X (.Try body [.ExceptHandler (some (.Name x np)) none [.Raise (some (.Call (.Name y p) [e] [] pos1)) none pos2] pos'] [] [] pos) (tS (gK K cls) W (sTryR kn y fld ub ue)) := by
  subst hK
  obtain ⟨fI, fd, iC, tI, FF⟩ := B.fn
  obtain ⟨hbI, F1⟩ := FI fI fd FF
  refine psImp (L2H.ps_try_onlyX (tb := fun W => tS (gK X.K cls) W ub) (ts := fun a cv d _ σ H => tMkO (cls y) (spI (cls y) fld) [] (tA (gK X.K cls) WF (uCons ue uNil)) σ H fun c d H' => W c d σ H') (Wout := W) (c := .ref (cls x)) hs hf ⟨hg, hdb, .inl F.g⟩ hpa tk
    (fun W pn xe tk _ hp => hb W pn xe tk hp) (fun a oe cv d pn hz hd tkS hot => pss_one (L2H.ps_raiseH hot tkS (L2H.pmk5_oexH (X := L2H.suiteX X a ((a, oe) :: pn)) (k := 1) B.T iC tI F1 (L2H.roomH_mark hr _) hot hbI passF hgy B.gx (he a oe pn) hdy (hse a oe pn)).pmk))) ?_
  intro D σ H ⟨R, ρ, om, al, S, P⟩
  refine ⟨R, ρ, om, al, S, ?_⟩
  unfold sTryR at P
  cases e1 : ub ρ om with
  | nx ρ' om' => rw [e1] at P; exact P
  | bk ρ' om' => rw [e1] at P; exact P
  | ct ρ' om' => rw [e1] at P; exact P
  | rt d om' => rw [e1] at P; exact P
  | rto d om' => rw [e1] at P; exact P
  | no => rw [e1] at P; exact P
  | xc y1 ρ' om' =>
    rw [e1] at P
    dsimp only at P
    intro cv dd σ1 H1 al1 s1 S1 r1
    cases el : kn.lookup y1.c with
    | none => rw [el] at P; exact P.elim
    | some b =>
      rw [el] at P
      cases b with
      | false => exact P.elim
      | true =>
        dsimp only at P
        refine ⟨true, ?_, fun hb1 a ha => ?_, fun hb1 => by cases hb1⟩
        · rw [r1.1]; exact F.exm (hkn.get el)
        · cases eu : ue ρ' om' with
          | xc _ _ _ => rw [eu] at P; exact P.elim
          | no => rw [eu] at P; exact P.elim
          | ok d ρ2 om2 =>
            rw [eu] at P
            dsimp only at P
            refine ⟨R, ρ', om', al1, S1, ?_⟩
            have en : (uCons ue uNil) ρ' om' = .ok [d] ρ2 om2 := by
              simp only [uCons, uNil]
              rw [eu]
              rfl
            rw [en]
            intro vs H2 al2 s2 S2 r2
            have r3 : RepVs (gK X.K cls) al2 (LL R al2 om2 σ1 ρ2) H2 vs [d] := r2
            cases r3 with
            | @cons v vt _ _ rv rn =>
            cases rn
            refine ⟨by simp, fun a2 ha2 => ⟨a2, v, by simp, upd_same, fun d2 hd2 hne => ⟨rfl, d2, [(fld, v)], upd_same, ?_, ?_, ?_⟩⟩⟩
            · rw [upd_ne hne, upd_same]
            · rw [upd_ne hne] at hd2
              exact hd2
            · rw [upd_ne hne] at hd2
              rw [upd_del ha2 hne]
              have kp := upd_keep (o := (.xd [(fld, v)] : HO)) hd2
              obtain ⟨S3, s3⟩ := S2.grow kp
              exact P (.ref (cls y)) (some d2) σ1 _ al2 (s1.trans (s2.trans s3)) S3 ⟨rfl, .inr ⟨d2, [(fld, v)], rfl, by simp, upd_same, .cons (s3.rep S2 rv) .nil⟩⟩
end
end Dv

namespace Dv
open PySem PySem.Spec PyProof.Rows L2
/-! ### a caught exception with a field -/
def rIsED (K : PySem.W.Frag) (D a dd : Addr) : List V → Hp → VK → Prop := fun xs H Q => ∃ (c : V) (cv : Value) (b : Bool), xs = [.ref a, c] ∧ (∀ u, RelV c u → u = cv) ∧ PySem.W.kitOne K (.ref D) cv = some b ∧ (∃ fs, H dd = some (.xd fs)) ∧ Q (.bl b) H
theorem call_isED {X : Cx} {a D dd : Addr} {oe : Obj} {pn : List (Addr × Obj)} (C : ExcC X.K D) (hz : Zc (.ref D) (some dd) oe) (hf : ∃ vs, oe.data = .fields vs) : CallR (X.suite a ((a, oe) :: pn)) (.builtin "isinstance") (rIsED X.K D a dd) := by
  intro pins s σ H xs us Q I r h
  obtain ⟨c, cv, b, rfl, hcv, e, ⟨fs, ed⟩, q⟩ := h
  cases r with
  | cons rx rr =>
    cases rr with
    | cons rt rr =>
      cases rr
      cases rx
      have ec := hcv _ rt
      subst ec
      obtain ⟨hget, _⟩ := I.pin (a, oe) (List.mem_append.mpr (.inl List.mem_cons_self))
      obtain ⟨vs, hv⟩ := hf
      have hx : ObjOk X.prog X.w H s.heap dd (.xd fs) := I.hok dd _ ed
      obtain ⟨mA, hns, hr⟩ := hx
      obtain ⟨od, ho, hl⟩ := lookIn_ns hns
      have J : PySem.W.InstAt s.heap a oe D (some od) := ⟨hget, hz.1, by unfold PySem.W.notCls; rw [hv] <;> rfl, by rw [hz.2]; exact ho⟩
      have hc : (PySem.W.clsIn X.K D).isSome = true := by
        obtain ⟨cd, hc, _⟩ := PySem.W.any_some C.hd
        rw [hc]
        rfl
      exact PySem.W.kia_one (PySem.W.kitx_exc hc C.hg C.hk C.hs C.ha C.hn C.ht C.hm) I.kIn J e (fun z => nomatch z) fun tk => ⟨.bl b, H, I.kept (t' := tk) fun _ _ z => z, rfl, q⟩
/-- what the handler answers: k within the lines, and at the place if one is asked -/
def lineOk (n : Nat) (nh : Bool) (at_ k : Int) : Bool := decide (0 ≤ k) && decide (k < (n : Int)) && (!nh || decide (k = at_))
section
variable {X : Cx} {a dd y : Addr} {oe : Obj} {pn : List (Addr × Obj)} {i jl jn ja : Nat} {m nl nn na fld C1 C2 : Str} {A1 A2 : Addr}
theorem suite_line (hz : Zc (.ref y) (some dd) oe) (hf : ∃ vs, oe.data = .fields vs) (EC : ExcC X.K y) (T : XfC X.K y) (hno : PySem.W.findIn X.K (.ref y) fld = some none)
    (m1 : X.mg "isinstance" = none) (mi : X.mg "int" = none) (mb : X.mg "bool" = none) (ml : X.mg "len" = none) (mV : X.mg "ValueError" = none) (g1 : Gl X "isinstance") (gi : Gl X "int") (gb : Gl X "bool") (gl : Gl X "len") (gV : Gl X "ValueError")
    (gC1 : Gl X C1) (gC2 : Gl X C2) (mC1 : X.mg C1 = some (.ref A1)) (mC2 : X.mg C2 = some (.ref A2))
    (k1 : PySem.W.kitOne X.K (.ref y) (.ref A1) = some true) (k2 : PySem.W.kitOne X.K (.ref y) (.ref A2) = some false) (k3 : PySem.W.kitOne X.K (.ref y) (.type "ValueError") = some true)
    (hi : X.N[i]? = some m) (hvi : Vis X.env.scope m) (hl : X.N[jl]? = some nl) (hvl : Vis X.env.scope nl) (hn : X.N[jn]? = some nn) (hvn : Vis X.env.scope nn) (ha : X.N[ja]? = some na) (hva : Vis X.env.scope na)
    (d1 : (m == ("__debug__" : Str)) = false) (d2 : (m == ("__classdict__" : Str)) = false) (d3 : (nl == ("__debug__" : Str)) = false) (d4 : (nl == ("__classdict__" : Str)) = false) (d5 : (nn == ("__debug__" : Str)) = false) (d6 : (nn == ("__classdict__" : Str)) = false)
    (d7 : (na == ("__debug__" : Str)) = false) (d8 : (na == ("__classdict__" : Str)) = false) (d9 : (C1 == ("__debug__" : Str)) = false) (d10 : (C2 == ("__debug__" : Str)) = false)
    {p1 p2 p3 p4 p5 p6 p7 p8 p9 p10 p11 p12 p13 p14 p15 p16 p17 p18 p19 p20 p21 p22 p23 p24 p25 p26 p27 p28 p29 p30 p31 p32 p33 p34 p35 p36 p37 p38 p39 p40 p41 p42 p43 p44 p45 p46 p47 p48 p49 p50 p51 p52 p53 p54 p55 : Pos} {j1 j2 j3 j4 j5 : Nat} :
    ∃ t, PSs (X.suite a ((a, oe) :: pn)) [
      .If (.BoolOp .Or [.UnaryOp .Not (.Call (.Name "isinstance" p1) [.Name m p2, .Name C1 p3] [] p4) p5, .Call (.Name "isinstance" p6) [.Name m p7, .Name C2 p8] [] p9] p10) [.Return (some (.Constant (.bool false) j1 p11)) p12] [] p13,
      .If (.UnaryOp .Not (.Call (.Name "isinstance" p14) [.Name m p15, .Name "ValueError" p16] [] p17) p18) [.Return (some (.Constant (.bool false) j2 p19)) p21] [] p22,
      .If (.BoolOp .Or [.UnaryOp .Not (.Call (.Name "isinstance" p23) [.Attribute (.Name m p20) fld p24, .Name "int" p25] [] p26) p27, .Call (.Name "isinstance" p28) [.Attribute (.Name m p29) fld p30, .Name "bool" p31] [] p32] p33) [.Return (some (.Constant (.bool false) j3 p34)) p35] [] p36,
      .If (.UnaryOp .Not (.Compare (.Constant (.int 0) j4 p37) [.LtE, .Lt] [.Attribute (.Name m p38) fld p39, .Call (.Name "len" p40) [.Name nl p41] [] p42] p43) p44) [.Return (some (.Constant (.bool false) j5 p45)) p46] [] p47,
      .Return (some (.BoolOp .Or [.UnaryOp .Not (.Name nn p48) p49, .Compare (.Attribute (.Name m p51) fld p52) [.Eq] [.Name na p53] p54] p55)) p50] t ∧
      ∀ (D : Ends) (σ : St) (H : Hp) (k at_ : Int) (nh : Bool) (p : Addr) (vs : List V), σ[i]? = some (some (.ref a)) → H dd = some (.xd [(fld, .int k)]) → σ[jl]? = some (some (.ref p)) → H p = some (.lst vs) → σ[jn]? = some (some (.bl nh)) → σ[ja]? = some (some (.int at_)) →
        D.rt (.bl (lineOk vs.length nh at_ k)) H → t D σ H := by
  have ve : ∀ q, PE (X.suite a ((a, oe) :: pn)) (.Name m q) (tVar i) := fun q => pe_var (X := X.suite a ((a, oe) :: pn)) hi hvi d1 d2
  have xf : ∀ q q2, PE (X.suite a ((a, oe) :: pn)) (.Attribute (.Name m q) fld q2) (tXf a (.ref y) (some dd) y fld (tVar i)) := fun q q2 => pe_xf T hno hz hf (ve q) (by rfl)
  have isI : ∀ (n : Str) (T : String) (hm : X.mg n = none) (hg : Gl X n) (hv : bootBuiltins n = some (.type T)) (hn : n ≠ "__name__") (hd : (n == ("__debug__" : Str)) = false) (q0 q1 q2 q3 q4 : Pos),
      PT (X.suite a ((a, oe) :: pn)) (.Call (.Name "isinstance" q0) [.Attribute (.Name m q1) fld q2, .Name n q3] [] q4) (tB (tCB (rIsi X.K) (tCons (tXf a (.ref y) (some dd) y fld (tVar i)) (tCons (tC (.ty T)) tNil)))) := fun n T hm hg hv hn hd q0 q1 q2 q3 q4 =>
    pt_val (pe_callB (X := X.suite a ((a, oe) :: pn)) call_isi g1 m1 (by decide +kernel) (pa_cons (xf q1 q2) (pa_cons (pe_bltn (X := X.suite a ((a, oe) :: pn)) (v := .ty T) hg hm hv rfl hn hd) pa_nil)) (by decide) (by decide) rfl rfl)
  have isC : ∀ (n : Str) (A : Addr) (hm : X.mg n = some (.ref A)) (hg : Gl X n) (hd : (n == ("__debug__" : Str)) = false) (q0 q1 q3 q4 : Pos),
      PT (X.suite a ((a, oe) :: pn)) (.Call (.Name "isinstance" q0) [.Name m q1, .Name n q3] [] q4) (tB (tCB (rIsED X.K y a dd) (tCons (tVar i) (tCons (tC (.ref A)) tNil)))) := fun n A hm hg hd q0 q1 q3 q4 =>
    pt_val (pe_callB (X := X.suite a ((a, oe) :: pn)) (call_isED EC hz hf) g1 m1 (by decide +kernel) (pa_cons (ve q1) (pa_cons (pe_glob (X := X.suite a ((a, oe) :: pn)) hg hm rfl hd) pa_nil)) (by decide) (by decide) rfl rfl)
  have isV : ∀ (q0 q1 q3 q4 : Pos),
      PT (X.suite a ((a, oe) :: pn)) (.Call (.Name "isinstance" q0) [.Name m q1, .Name "ValueError" q3] [] q4) (tB (tCB (rIsED X.K y a dd) (tCons (tVar i) (tCons (tC (.ty "ValueError")) tNil)))) := fun q0 q1 q3 q4 =>
    pt_val (pe_callB (X := X.suite a ((a, oe) :: pn)) (call_isED EC hz hf) g1 m1 (by decide +kernel) (pa_cons (ve q1) (pa_cons (pe_bltn (X := X.suite a ((a, oe) :: pn)) gV mV (by decide +kernel) rfl) pa_nil)) (by decide) (by decide) rfl rfl)
  refine ⟨_, pss_cons (ps_if (PW.pt (pw_or (pt_not (isC C1 A1 mC1 gC1 d9 _ _ _ _)) (pw_or1 (isC C2 A2 mC2 gC2 d10 _ _ _ _)))) (pss_one (ps_ret pe_bl)) pss_nil)
    (pss_cons (ps_if (pt_not (isV _ _ _ _)) (pss_one (ps_ret pe_bl)) pss_nil)
    (pss_cons (ps_if (PW.pt (pw_or (pt_not (isI "int" "int" mi gi (by decide +kernel) (by decide) (by decide) _ _ _ _ _)) (pw_or1 (isI "bool" "bool" mb gb (by decide +kernel) (by decide) (by decide) _ _ _ _ _)))) (pss_one (ps_ret pe_bl)) pss_nil)
    (pss_cons (ps_if (pt_not (pt_chain op_le op_lt pe_int (xf _ _) (pe_callB (X := X.suite a ((a, oe) :: pn)) call_lenU gl ml (by decide +kernel) (pa_cons (pe_var (X := X.suite a ((a, oe) :: pn)) hl hvl d3 d4) pa_nil) (by decide) (by decide) rfl rfl))) (pss_one (ps_ret pe_bl)) pss_nil)
    (pss_one (ps_ret (pe_or (pe_not (pe_var (X := X.suite a ((a, oe) :: pn)) hn hvn d5 d6)) (pe_one (pe_cmpR op_eq (xf _ _) (pe_var (X := X.suite a ((a, oe) :: pn)) ha hva d7 d8) (nomark _))))))))), ?_⟩
  intro D σ H k at_ nh p vs s1 h1 s2 h2 s3 s4 fin
  have lk : [(fld, V.int k)].lookup fld = some (.int k) := by simp [List.lookup]
  have ti : TyX X.K H (.int k) (.type "int") := .base (.int k)
  have xv : ∀ Q : VK, Q (.int k) H → tXf a (.ref y) (some dd) y fld (tVar i) σ H Q := fun Q q => ⟨_, s1, rfl, rfl, dd, _, _, rfl, h1, lk, q⟩
  have q1 : ∀ (A : Addr) (b : Bool), PySem.W.kitOne X.K (.ref y) (.ref A) = some b → ∀ Q : Bool → Hp → Prop, Q b H → tB (tCB (rIsED X.K y a dd) (tCons (tVar i) (tCons (tC (.ref A)) tNil))) σ H Q := fun A b kb Q q => ⟨_, s1, .ref A, .ref A, b, rfl, fun u e => e, kb, ⟨_, h1⟩, b, rfl, q⟩
  have q2 : ∀ Q : Bool → Hp → Prop, Q true H → tB (tCB (rIsED X.K y a dd) (tCons (tVar i) (tCons (tC (.ty "ValueError")) tNil))) σ H Q := fun Q q => ⟨_, s1, .ty "ValueError", .type "ValueError", true, rfl, fun u e => e, k3, ⟨_, h1⟩, true, rfl, q⟩
  have q3 : ∀ (T : String) (b : Bool), L2.kitB "int" T = some b → ∀ Q : Bool → Hp → Prop, Q b H → tB (tCB (rIsi X.K) (tCons (tXf a (.ref y) (some dd) y fld (tVar i)) (tCons (tC (.ty T)) tNil))) σ H Q := fun T b kb Q q => xv _ ⟨_, _, _, _, b, rfl, .ty T, ti, kit_ty kb, b, rfl, q⟩
  have n1 : PySem.W.kitOne X.K (.ref y) (.ref A1) = some true := k1
  refine q1 A1 true k1 _ ?_
  show (if (!true) = true then _ else _)
  rw [if_neg (by decide)]
  refine q1 A2 false k2 _ ?_
  show (if false = true then _ else _)
  rw [if_neg (by decide)]
  refine q2 _ ?_
  show (if (!true) = true then _ else _)
  rw [if_neg (by decide)]
  refine q3 "int" true (by decide +kernel) _ ?_
  show (if (!true) = true then _ else _)
  rw [if_neg (by decide)]
  refine q3 "bool" false (by decide +kernel) _ ?_
  show (if false = true then _ else _)
  rw [if_neg (by decide)]
  have ln : ∀ Q : VK, Q (.int (vs.length : Int)) H → tCB (rLenU X.K) (tCons (tVar jl) tNil) σ H Q := fun Q q => ⟨_, s2, .inl ⟨p, vs, rfl, .inl (SqL.of h2), q⟩⟩
  have ch : ∀ Q : Bool → Hp → Prop, Q (decide (0 ≤ k) && decide (k < (vs.length : Int))) H → tTest (tChain (rI0 fun i j => V.bl (decide (i ≤ j))) (rI0 fun i j => V.bl (decide (i < j))) (tC (V.int 0)) (tXf a (Value.ref y) (some dd) y fld (tVar i)) (tCB (rLenU (X.suite a ((a, oe) :: pn)).K) (tCons (tVar jl) tNil))) σ H Q := by
    intro Q q
    unfold tTest tChain tC
    refine xv _ ?_
    refine ⟨0, k, rfl, rfl, ?_⟩
    dsimp only
    by_cases c1 : 0 ≤ k
    · rw [decide_eq_true c1] at q ⊢
      refine ⟨true, rfl, ?_⟩
      rw [if_pos rfl]
      refine ln _ ?_
      exact ⟨k, vs.length, rfl, rfl, _, rfl, by rw [Bool.true_and] at q; exact q⟩
    · rw [decide_eq_false c1] at q ⊢
      refine ⟨false, rfl, ?_⟩
      rw [if_neg (by decide)]
      exact ⟨false, rfl, q⟩
  refine ch _ ?_
  have nv : ∀ Q : VK, Q (.bl (!nh)) H → tNotV (tVar jn) σ H Q := fun Q q => ⟨_, s3, nh, rfl, q⟩
  have fe : lineOk vs.length nh at_ k = ((decide (0 ≤ k) && decide (k < (vs.length : Int))) && (!nh || decide (k = at_))) := rfl
  rw [fe] at fin
  cases cc : (decide (0 ≤ k) && decide (k < (vs.length : Int))) with
  | false =>
    rw [cc] at fin
    show (if (!false) = true then _ else _)
    rw [if_pos (by decide)]
    exact fin
  | true =>
    rw [cc, Bool.true_and] at fin
    show (if (!true) = true then _ else _)
    rw [if_neg (by decide)]
    have lastv : tOrV (tNotV (tVar jn)) (tOp rEq (tXf a (Value.ref y) (some dd) y fld (tVar i)) (tVar ja)) σ H D.rt := by
      refine nv _ ?_
      refine ⟨!nh, rfl, ?_⟩
      cases nh with
      | false =>
        rw [if_pos (by decide)]
        exact fin
      | true =>
        rw [if_neg (by decide)]
        refine xv _ ?_
        refine ⟨_, s4, rfl, ?_⟩
        have : decide (V.int k = V.int at_) = decide (k = at_) := decide_eq_decide.mpr (by simp)
        rw [this]
        exact fin
    exact lastv
end
/-! ### try .. except x as n: (the suite above) -/
def lineAns (y fld : Str) (i jl jn ja : Nat) (x : DX) (ρ : Rho) : Option Bool := if x.c = y ∧ i < ρ.length then (match x.fs with
  | [(f, .int k)] => if f = fld then (match ρ[jl]?, ρ[jn]?, ρ[ja]? with
    | some (some (.val (.lst ls))), some (some (.val (.bl nh))), some (some (.val (.int at_))) => some (lineOk ls.length nh at_ k)
    | _, _, _ => none) else none
  | _ => none) else none
def sTryL (y fld : Str) (i jl jn ja : Nat) (b : US) : US := fun ρ ω => match b ρ ω with
  | .xc x ρ ω => match lineAns y fld i jl jn ja x ρ with
    | some r => .rt (.bl r) ω
    | none => .no
  | r => r
section
variable {X : Cx} {W : WX} {K : PySem.W.Frag} {cls : Str → Addr} {x y n fld : Str} {body suite : List Stmt} {b₀ : Stmt} {ub : US} {np pos pos' : Pos} {i jl jn ja : Nat}
theorem ps_tryL (hs : X.stack = X.env :: X.outer) (hf : X.env.frame = some X.env.locals) (hN : X.N.Nodup) (hi : X.N[i]? = some n) (hln : X.env.kindOf n = some .local) (hK : X.K = K) (F : ExF X.K X.mg cls x) (kn : List (Str × Bool)) (hkn : KnOk X.K cls (.ref (cls x)) kn) (hy : kn.lookup y = some true) (hg : Gl X x) (tk : Takes X W)
    (hl : jl ≠ i) (hn : jn ≠ i) (ha : ja ≠ i)
    (hb : ∀ (W : WX) (pn : List (Addr × Obj)) (xe : Value → Shared → Prop), Takes (X.tr pn xe) W → PassesOwn (model X.prog X.w) X.A X.env xe → PSs (X.tr pn xe) body (tS (gK K cls) W ub))
    (hsu : ∀ (a : Addr) (oe : Obj) (dd : Addr) (pn : List (Addr × Obj)), Zc (.ref (cls y)) (some dd) oe → (∃ vs, oe.data = .fields vs) → ∃ t, PSs (X.suite a ((a, oe) :: pn)) (b₀ :: suite) t ∧
      ∀ (D : Ends) (σ : St) (H : Hp) (k at_ : Int) (nh : Bool) (p : Addr) (vs : List V), σ[i]? = some (some (.ref a)) → H dd = some (.xd [(fld, .int k)]) → σ[jl]? = some (some (.ref p)) → H p = some (.lst vs) → σ[jn]? = some (some (.bl nh)) → σ[ja]? = some (some (.int at_)) →
        D.rt (.bl (lineOk vs.length nh at_ k)) H → t D σ H)
    (hdb : (x == ("__debug__" : Str)) = false := by decide) :
    PS X (.Try body [.ExceptHandler (some (.Name x np)) (some n) (b₀ :: suite) pos'] [] [] pos) (tS (gK K cls) W (sTryL y fld i jl jn ja ub)) := by
  refine psImp (ps_try_as (i := i) (tb := fun W => tS (gK K cls) W ub) (ts := fun a cv d D σ H => cv = .ref (cls y) ∧ ∃ (dd : Addr) (k at_ : Int) (nh : Bool) (p : Addr) (vs : List V), d = some dd ∧ σ[i]? = some (some (.ref a)) ∧ H dd = some (.xd [(fld, .int k)]) ∧ σ[jl]? = some (some (.ref p)) ∧ H p = some (.lst vs) ∧ σ[jn]? = some (some (.bl nh)) ∧ σ[ja]? = some (some (.int at_)) ∧
      D.rt (.bl (lineOk vs.length nh at_ k)) H) (Wout := W) (c := .ref (cls x)) hs hf hN hi hln ⟨hg, hdb, .inl F.g⟩ tk hb (fun a oe cv d pn hz hd => ⟨fun pins s σ H D I h => ?_⟩)) ?_
  · obtain ⟨rfl, dd, k, at_, nh, p, vs, rfl, c1, c2, c3, c4, c5, c6, c7⟩ := h
    obtain ⟨t, ht, hq⟩ := hsu a oe dd pn hz hd
    exact ht.run pins s σ H D I (hq D σ H k at_ nh p vs c1 c2 c3 c4 c5 c6 c7)
  · intro D σ H ⟨R, ρ, om, al, S, P⟩
    refine ⟨R, ρ, om, al, S, ?_⟩
    unfold sTryL at P
    cases e : ub ρ om with
    | nx ρ' om' => rw [e] at P; exact P
    | bk ρ' om' => rw [e] at P; exact P
    | ct ρ' om' => rw [e] at P; exact P
    | rt d om' => rw [e] at P; exact P
    | rto d om' => rw [e] at P; exact P
    | no => rw [e] at P; exact P
    | xc y1 ρ' om' =>
      rw [e] at P
      dsimp only at P
      intro cv dd σ1 H1 al1 s1 S1 r1
      cases el : lineAns y fld i jl jn ja y1 ρ' with
      | none => rw [el] at P; exact P.elim
      | some r =>
        rw [el] at P
        dsimp only at P
        unfold lineAns at el
        split at el
        · rename_i hc
          obtain ⟨hc, hil⟩ := hc
          split at el
          · rename_i f k hfs
            split at el
            · rename_i hff
              split at el
              · rename_i ls nh at_ e1 e2 e3
                cases el
                subst hff
                obtain ⟨r1a, r1b⟩ := r1
                rw [hc] at r1a
                have dx : ∃ d0, dd = some d0 ∧ H1 d0 = some (.xd [(f, .int k)]) := by
                  rcases r1b with ⟨q, _⟩ | ⟨d0, fvs, q1, _, q2, q3⟩
                  · rw [hfs] at q
                    cases q
                  · rw [hfs] at q3
                    cases q3 with
                    | cons rv rn =>
                      cases rn
                      cases rv
                      exact ⟨d0, q1, q2⟩
                obtain ⟨d0, rfl, hd0⟩ := dx
                obtain ⟨v1, a1, b1⟩ := S1.val jl _ e1
                obtain ⟨v2, a2, b2⟩ := S1.val jn _ e2
                obtain ⟨v3, a3, b3⟩ := S1.val ja _ e3
                cases b1 with
                | @lst p vs _ hp _ rl =>
                cases b2
                cases b3
                have ll := rl.length
                refine ⟨true, ?_, fun _ a hna => ?_, fun z => by cases z⟩
                · rw [r1a]; exact F.exm (hkn.get hy)
                · refine ⟨r1a, d0, k, at_, nh, p, vs, rfl, ?_, hd0, ?_, hp, ?_, ?_, ?_⟩
                  · rw [List.getElem?_set_self]
                    rw [S1.sl.len]
                    exact hil
                  · rw [List.getElem?_set_ne (Ne.symm hl)]; exact a1
                  · rw [List.getElem?_set_ne (Ne.symm hn)]; exact a2
                  · rw [List.getElem?_set_ne (Ne.symm ha)]; exact a3
                  · rw [ll]
                    exact P (.bl _) σ1 ρ' H1 al1 s1 S1 .bl
              · cases el
            · cases el
          · cases el
        · cases el
end
theorem xfc_of {K : PySem.W.Frag} {C : Addr} (E : ExcC K C) : XfC K C := ⟨E.hg, E.hk, E.hs, E.hd⟩
/-- isinstance of the caught one as the facts tell it -/
theorem kit_own {K : PySem.W.Frag} {mg : Str → Option Value} {cls : Str → Addr} {y C : Str} {kn : List (Str × Bool)} {b : Bool} (hkn : KnOk K cls (.ref (cls C)) kn) (F : ExF K mg cls C) (hs : PySem.W.subIn K (.ref (cls y)) (.ref (cls y)) = some true) (h : kn.lookup y = some b) : PySem.W.kitOne K (.ref (cls y)) (.ref (cls C)) = some b :=
  kit_of (hkn.get h) (kitCls_ref F.i F.t _) hs
theorem kit_VE {K : PySem.W.Frag} {cls : Str → Addr} {y : Str} {kn : List (Str × Bool)} {b : Bool} (hkn : KnOk K cls (.type "ValueError") kn) (hs : PySem.W.subIn K (.ref (cls y)) (.ref (cls y)) = some true) (h : kn.lookup y = some b) : PySem.W.kitOne K (.ref (cls y)) (.type "ValueError") = some b :=
  kit_of (hkn.get h) (kitCls_type (by decide +kernel) _) hs
section
variable {K : PySem.W.Frag} {h : Heap} {mg : Str → Option Value} {x x0 fld qual : Str} {st : Stmt} {C C0 f1 N : Addr} {nm q : Str} {bs : List Value} {sn : List Str} {sub : List Value} {ab : Bool} {col : Option Bool} {dd : Option Addr} {m0 m1 m2 m3 m5 : Option Value}
  {od an : Option Addr} {sl : Array (Option Value)} {oc kV dc pm cd ct : Value}
theorem bn_mk (X : K.In h) (G : h.Ns mainGlobals mg) (aC : PySem.W.nsIn K mainGlobals x = some (some (.ref C))) (a0 : PySem.W.nsIn K mainGlobals x0 = some (some (.ref C0)))
    (xL : K.lookup C = some (excClassObj nm q C N bs [.ref C0, .type "ValueError", .type "Exception", .type "BaseException", .type "object"] true sn sub ab col dd m0 m1 m2 m3 m5 "ValueError.__new__"))
    (sa : PySem.W.findIn K (.ref C) "__setattr__" = some (some (.builtin "object.__setattr__"))) (eC : PySem.W.subIn K (.ref C) (.type "BaseException") = some true) (tC : PySem.W.typeIn K (.ref C) = some (.type "type")) (kC : PySem.W.keepIn K (.ref C) = true)
    (rd : PySem.W.readsIn K C0 (.type "type") = true) (ga : PySem.W.specialIn K (.ref C0) "__getattribute__" = some (some (.builtin "type.__getattribute__"))) (at0 : PySem.W.findCls K (.ref C0) (.type "type") "__init__" = some (.val (.builtin "ValueError.__init__")))
    (no : PySem.W.findIn K (.ref C) fld = some none) (a1 : PySem.W.findIn K (.ref C) "__init__" = some (some (.ref f1))) (t1 : PySem.W.typeIn K (.ref f1) = some (.type "function"))
    (l1 : K.lookup f1 = some ⟨oc, od, .func (PySem.W.fnOf "__init__" qual (defArgs st) (defBody st) (defScope st) .none kV dc pm an cd ct), sl⟩) (c1 : PySem.W.codeIn K cd qual = true) (k1 : PySem.W.keepIn K (.ref f1) = true) : BnOk K mg (clsOf mg) x x0 fld qual st := by
  have e := clsOf_eq (PySem.W.mg_of X G aC)
  have e0 := clsOf_eq (PySem.W.mg_of X G a0)
  refine ⟨by rw [e]; exact ⟨⟨nm, q, N, bs, _, sn, sub, ab, col, dd, m0, m1, m2, m3, m5, xL, rfl⟩, sa, eC, tC, kC⟩, by rw [e]; exact PySem.W.mg_of X G aC, by rw [e0]; exact PySem.W.mg_of X G a0, by rw [e0]; exact rd, by rw [e0]; exact ga, by rw [e0]; exact at0, by rw [e]; exact no, f1, _, by rw [e]; exact a1, t1, fun_mk l1 c1 k1⟩
end
/-! ### a comprehension over a list that is a value or shared -/
def uLcX (u : UE) (G : UG) (tt : UT) (te : UE) (vs : List Nat) : UW := fun ρ ω => match u ρ ω with
  | .ok (.loc _) _ _ => uLcL u G tt te vs ρ ω
  | _ => uLc (iLst u) G tt te vs ρ ω
theorem lcX_lst {u : UE} {G : UG} {tt : UT} {te : UE} {vs : List Nat} {ρ ρ' : Rho} {ω ω' : Om} {ds : List D} (h : u ρ ω = .ok (.lst ds) ρ' ω') : uLcX u G tt te vs ρ ω = goC G tt te vs ds [] (clrs ρ' vs) ω' := by
  unfold uLcX uLc
  rw [h]
  simp only [iLst]
  rw [h]
  rfl
theorem lcX_loc {u : UE} {G : UG} {tt : UT} {te : UE} {vs : List Nat} {ρ ρ' : Rho} {ω ω' : Om} {k : Nat} (h : u ρ ω = .ok (.loc k) ρ' ω') : uLcX u G tt te vs ρ ω = goCX G tt te vs (getL k) (lenG (getL k) ρ' ω') 0 [] (clrs ρ' vs) ω' := by
  unfold uLcX uLcL
  rw [h]
  rfl
section
variable {g : G} {W : WX} {X : Cx} {ue : UE} {pos : Pos}
theorem pu_lcX {elt tg iter : Expr} {ifs : List Expr} {scope : Scope} {G' : UG} {tt : UT} {te : UE} (own : List (Str × Nat)) (hc : X.calm = true) (hN : X.N.Nodup) (hK : X.K = g.K) (hi : PE X iter (tE g W ue)) (ok : BlkOk X.N X.env.scope scope own)
    (hg : ∀ (s : Shared) (H : Hp) (C : Addr) (cl : List (Str × Addr)) (fp : List Addr), PG (X.blk s H scope (compEnvC scope cl C X.env) fp) tg (tGv g (own.map (·.2)) G')) (ht : ∀ (s : Shared) (H : Hp) (C : Addr) (cl : List (Str × Addr)) (fp : List Addr), PTs (X.blk s H scope (compEnvC scope cl C X.env) fp) ifs (tT g WF tt))
    (he : ∀ (s : Shared) (H : Hp) (C : Addr) (cl : List (Str × Addr)) (fp : List Addr), PE (X.blk s H scope (compEnvC scope cl C X.env) fp) elt (tE g WF te)) (hs : ∀ x, foldedSetIterable iter X.env x = pure x := by intro _; rfl) :
    PE X (.ListComp elt [⟨tg, iter, ifs, 0⟩] scope pos) (tOw g W (uLcX ue G' tt te (own.map (·.2)))) := ⟨fun pins s σ H Q I h => by
  obtain ⟨R, ρ, om, al, S, P⟩ := h
  unfold uLcX at P
  split at P
  · exact (pu_lcL own hc hN hi ok hg ht he hs).run pins s σ H Q I ⟨R, ρ, om, al, S, P⟩
  · exact (pu_lc own hc hN (pi_listU hK hi) ok hg ht he hs).run pins s σ H Q I ⟨R, ρ, om, al, S, P⟩⟩
end
/-! ### x in (i, j) -/
def dInT : D → D → Option D
  | .int i, .tup [.int a, .int b] => some (.bl (decide (a = i) || decide (b = i)))
  | _, _ => none
theorem s_inT {g : G} : OpS g (rIn g.K false) dInT := by
  intro R W al om σ ρ H Q v w x y S rx ry P
  unfold dInT at P
  split at P
  · rename_i i a b
    cases rx.int
    obtain ⟨p, vs, rfl, h1, h2⟩ := ry.tup
    cases h2 with
    | cons r1 h2 =>
    cases r1
    cases h2 with
    | cons r2 h2 =>
    cases r2
    cases h2
    have e : inV (.int i) [.int a, .int b] = (decide (a = i) || decide (b = i)) := by
      show (a == i || (b == i || false)) = _
      rw [Bool.or_false]
      rfl
    exact ⟨p, _, rfl, .inr h1, rfl, rfl, by rw [e]; exact okSame S P .bl⟩
  · exact P.elim
end Dv

namespace Dv
open PySem PySem.Spec PyProof.Rows L2
section
variable {P : Program} {w : World} {K : PySem.W.Frag} {mg : Str → Option Value} {base : Heap} {cls : Str → Addr}
def top (i : Nat) : Stmt := PySem.Challenge.pw_reels_k19_whole_cues_read.main.body.getD i (.Pass ⟨0, 0, 0, 0⟩)
def knl_BadTime : List (Str × Bool) := [("BadTime", true), ("BadNote", false)]
def knl_ReelError : List (Str × Bool) := [("BadTime", true), ("BadNote", true)]
def knl_BadNote : List (Str × Bool) := [("BadTime", false), ("BadNote", true)]
def knl_ValueError : List (Str × Bool) := [("BadTime", true), ("BadNote", true)]
abbrev t_BadNote_init : Stmt := inClass (top 3) 0
theorem sc_BadNote_init : FnScope ["self", "line"] ["self", "line"] (defScope t_BadNote_init) := ⟨rfl, rfl, rfl, by decide +kernel, rfl, by decide +kernel, by decide +kernel⟩
theorem ok_BadNote_init (B : BnOk K mg cls "BadNote" "ReelError" "line" "BadNote.__init__" t_BadNote_init) (fI : Addr) (fd : FuncData) (F : Fun K "__init__" "BadNote.__init__" t_BadNote_init fI fd) : Binds K fd ["self", "line"] [] ∧ L2H.FnH P w K mg base (L2.CX P w) 1 fI fd ["self", "line"] (spI (cls "BadNote") "line") :=
  ⟨F.binds (fun _ _ _ _ _ _ us hl => match us, hl with | [_, _], _ => rfl), fnI B F sc_BadNote_init rfl (fun cdv A outer s H E p => pss_cons (ps_expr (pe_exinit rfl B.g0 B.rd B.ga B.at0 (pa_cons (pe_var (i := 0) rfl (Or.inl rfl)) (pa_cons (pe_var (i := 1) rfl (Or.inl rfl)) pa_nil)))) (pss_one (ps_ost (pe_var (i := 0) rfl (Or.inl rfl)) (pe_var (i := 1) rfl (Or.inl rfl)))))⟩
/-! made -/
abbrev t_made : Stmt := top 5
theorem sc_made : FnScope ["top", "bottom", "one", "two", "rest"] ["top", "bottom"] (defScope t_made) := ⟨rfl, rfl, rfl, by decide +kernel, rfl, by decide +kernel, by decide +kernel⟩
def u_made : US :=
    (sSeq (sAsg 2 (uFn fAbs (uCons (uVar 0) uNil)))
    (sSeq (sAsg 3 (uFn fAbs (uCons (uVar 1) uNil)))
    (sSeq (sWhile (fuelI 3) (uB (uBin dGt (uVar 3) (uC (.int 0)))) (sSeq (sAsg 4 (uBin dMod (uVar 2) (uVar 3)))
    (sSeq (sAsg 2 (uVar 3))
    (sAsg 3 (uVar 4)))))
    (sSeq (sIf (uB (uBin dLt (uVar 1) (uC (.int 0)))) (sAsg 2 (uUn dNeg (uVar 2))) sNext)
    (sRet (uTup (uCons (uBin dDiv (uVar 0) (uVar 2)) (uCons (uBin dDiv (uVar 1) (uVar 2)) uNil))))))))
def S_made : FN := defU 5 u_made
theorem ok_made (m_abs : mg "abs" = none) {f : Addr} {fd : FuncData} (F : Fun K "made" "made" t_made f fd) :
    FnOk P w K mg base (L2.CX P w) 1 f fd ["top", "bottom"] (spU (gK K cls) 2 S_made) := by
  refine fnU (N := ["top", "bottom", "one", "two", "rest"]) F sc_made (by decide) fun cdv A outer s H E hr tk => ?_
  exact (pss_consU (ps_asgU 2 sc_made.nd (pu_fn call_abs s_abs m_abs boot_abs (pa_consU (pu_var 0) pa_nilU)))
    (pss_consU (ps_asgU 3 sc_made.nd (pu_fn call_abs s_abs m_abs boot_abs (pa_consU (pu_var 1) pa_nilU)))
    (pss_consU (ps_whileU (fuelI 3) (passes_of rfl) (pt_cmpU op_gt s_gt (pu_var 3) pu_int (nomark _)) (pss_consU (ps_asgU 4 sc_made.nd (pu_bin op_modN s_mod (pu_var 2) (pu_var 3)))
    (pss_consU (ps_asgU 2 sc_made.nd (pu_var 3))
    (pss_oneU (ps_asgU 3 sc_made.nd (pu_var 4))))))
    (pss_consU (ps_ifU (pt_cmpU op_lt s_lt (pu_var 1) pu_int (nomark _)) (pss_oneU (ps_asgU 2 sc_made.nd (pu_un un_neg s_neg (pu_var 2)))) pss_nilU)
    (pss_oneU (ps_retU (pu_tup (pa_consU (pu_bin op_fdivU s_div (pu_var 0) (pu_var 2)) (pa_consU (pu_bin op_fdivU s_div (pu_var 1) (pu_var 2)) pa_nilU)))))))))
/-! added -/
abbrev t_added : Stmt := top 6
theorem sc_added : FnScope ["one", "two"] ["one", "two"] (defScope t_added) := ⟨rfl, rfl, rfl, by decide +kernel, rfl, by decide +kernel, by decide +kernel⟩
def u_added : US :=
    (sRet (uCall 2 S_made (uCons (uBin dAdd (uBin dMul (uBin dIx (uVar 0) (uC (.int 0))) (uBin dIx (uVar 1) (uC (.int 1)))) (uBin dMul (uBin dIx (uVar 1) (uC (.int 0))) (uBin dIx (uVar 0) (uC (.int 1))))) (uCons (uBin dMul (uBin dIx (uVar 0) (uC (.int 1))) (uBin dIx (uVar 1) (uC (.int 1)))) uNil))))
def S_added : FN := defU 2 u_added
theorem ok_added (h_made : Has P w K mg base "made" ["top", "bottom"] 1 (spU (gK K cls) 2 S_made)) {f : Addr} {fd : FuncData} (F : Fun K "added" "added" t_added f fd) :
    FnOk P w K mg base (L2.CX P w) 2 f fd ["one", "two"] (spU (gK K cls) 2 S_added) := by
  refine fnU (N := ["one", "two"]) F sc_added (by decide) fun cdv A outer s H E hr tk => ?_
  exact (pss_oneU (ps_retU (pu_call h_made (hr.mono (by decide)) tk (pa_consU (pu_bin op_addU s_add (pu_bin op_mulU s_mul (pu_ix ix_seq s_ix (pu_var 0) pu_int) (pu_ix ix_seq s_ix (pu_var 1) pu_int)) (pu_bin op_mulU s_mul (pu_ix ix_seq s_ix (pu_var 1) pu_int) (pu_ix ix_seq s_ix (pu_var 0) pu_int))) (pa_consU (pu_bin op_mulU s_mul (pu_ix ix_seq s_ix (pu_var 0) pu_int) (pu_ix ix_seq s_ix (pu_var 1) pu_int)) pa_nilU)))))
/-! timed -/
abbrev t_timed : Stmt := top 7
theorem sc_timed : FnScope ["one", "two"] ["one", "two"] (defScope t_timed) := ⟨rfl, rfl, rfl, by decide +kernel, rfl, by decide +kernel, by decide +kernel⟩
def u_timed : US :=
    (sRet (uCall 2 S_made (uCons (uBin dMul (uBin dIx (uVar 0) (uC (.int 0))) (uBin dIx (uVar 1) (uC (.int 0)))) (uCons (uBin dMul (uBin dIx (uVar 0) (uC (.int 1))) (uBin dIx (uVar 1) (uC (.int 1)))) uNil))))
def S_timed : FN := defU 2 u_timed
theorem ok_timed (h_made : Has P w K mg base "made" ["top", "bottom"] 1 (spU (gK K cls) 2 S_made)) {f : Addr} {fd : FuncData} (F : Fun K "timed" "timed" t_timed f fd) :
    FnOk P w K mg base (L2.CX P w) 2 f fd ["one", "two"] (spU (gK K cls) 2 S_timed) := by
  refine fnU (N := ["one", "two"]) F sc_timed (by decide) fun cdv A outer s H E hr tk => ?_
  exact (pss_oneU (ps_retU (pu_call h_made (hr.mono (by decide)) tk (pa_consU (pu_bin op_mulU s_mul (pu_ix ix_seq s_ix (pu_var 0) pu_int) (pu_ix ix_seq s_ix (pu_var 1) pu_int)) (pa_consU (pu_bin op_mulU s_mul (pu_ix ix_seq s_ix (pu_var 0) pu_int) (pu_ix ix_seq s_ix (pu_var 1) pu_int)) pa_nilU)))))
/-! is_below -/
abbrev t_is_below : Stmt := top 8
theorem sc_is_below : FnScope ["one", "two"] ["one", "two"] (defScope t_is_below) := ⟨rfl, rfl, rfl, by decide +kernel, rfl, by decide +kernel, by decide +kernel⟩
def u_is_below : US :=
    (sRet (uBin dLt (uBin dMul (uBin dIx (uVar 0) (uC (.int 0))) (uBin dIx (uVar 1) (uC (.int 1)))) (uBin dMul (uBin dIx (uVar 1) (uC (.int 0))) (uBin dIx (uVar 0) (uC (.int 1))))))
def S_is_below : FN := defU 2 u_is_below
theorem ok_is_below {f : Addr} {fd : FuncData} (F : Fun K "is_below" "is_below" t_is_below f fd) :
    FnOk P w K mg base (L2.CX P w) 1 f fd ["one", "two"] (spU (gK K cls) 2 S_is_below) := by
  refine fnU (N := ["one", "two"]) F sc_is_below (by decide) fun cdv A outer s H E hr tk => ?_
  exact (pss_oneU (ps_retU (pu_cmp op_lt s_lt (pu_bin op_mulU s_mul (pu_ix ix_seq s_ix (pu_var 0) pu_int) (pu_ix ix_seq s_ix (pu_var 1) pu_int)) (pu_bin op_mulU s_mul (pu_ix ix_seq s_ix (pu_var 1) pu_int) (pu_ix ix_seq s_ix (pu_var 0) pu_int)) (nomark _))))
/-! number_of -/
abbrev t_number_of : Stmt := top 12
theorem sc_number_of : FnScope ["word", "sign"] ["word"] (defScope t_number_of) := ⟨rfl, rfl, rfl, by decide +kernel, rfl, by decide +kernel, by decide +kernel⟩
def u_number_of : US :=
    (sSeq (sIf (uOr (uNot (uB (uChain dLe dLe (uC (.int 1)) (uFn fLen (uCons (uVar 0) uNil)) (uC (.int 9))))) (uAnd (uB (uBin dEq (uBin dIx (uVar 0) (uC (.int 0))) (uC (.str (Str.ofString "0"))))) (uB (uBin dGt (uFn fLen (uCons (uVar 0) uNil)) (uC (.int 1)))))) (sRaise ⟨"BadTime", []⟩) sNext)
    (sSeq (sFor (iStrU (uVar 0)) (gN 1) (sIf (uB (uBin dNotIn (uVar 1) (uC (.str (Str.ofString "0123456789"))))) (sRaise ⟨"BadTime", []⟩) sNext))
    (sRet (uFn fIntS (uCons (uVar 0) uNil)))))
def S_number_of : FN := defU 2 u_number_of
theorem ok_number_of (m_len : mg "len" = none) (m_int : mg "int" = none) (k_MOST_FIGURES : ConstOk K mg "MOST_FIGURES" (.int 9)) (x_BadTime : ExM K mg cls "BadTime") (k_FIGURES : ConstOk K mg "FIGURES" (.str (Str.ofString "0123456789"))) {f : Addr} {fd : FuncData} (F : Fun K "number_of" "number_of" t_number_of f fd) :
    FnOk P w K mg base (L2N.CX P w) 1 f fd ["word"] (spU (gK K cls) 1 S_number_of) := by
  refine fnUN (N := ["word", "sign"]) F sc_number_of (by decide) fun cdv A outer s H E hr tk => ?_
  exact (pss_consU (ps_ifU (PW.pt (pw_orU (pt_notU (pt_chainU op_le op_le s_le s_le pu_int (pu_fn call_lenU s_len m_len PySem.boot_len (pa_consU (pu_var 0) pa_nilU)) (pu_globC rfl k_MOST_FIGURES))) (pw_or1U (PW.pt (pw_andU (pt_cmpU (op_eqU hr.units) s_eq (pu_ix ix_seq s_ix (pu_var 0) pu_int) pu_str (nomark _)) (pw_and1U (pt_cmpU op_gt s_gt (pu_fn call_lenU s_len m_len PySem.boot_len (pa_consU (pu_var 0) pa_nilU)) pu_int (nomark _)))))))) (pss_oneU (ps_raiseM x_BadTime rfl tk rfl)) pss_nilU)
    (pss_consU (ps_forU (passes_of rfl) rfl (pi_strU (pu_var 0)) (pg_nameU 1 sc_number_of.nd) (pss_oneU (ps_ifU (pt_cmpU op_notin_str s_notin (pu_var 1) (pu_globC rfl k_FIGURES) rfl) (pss_oneU (ps_raiseM x_BadTime rfl tk rfl)) pss_nilU)))
    (pss_oneU (ps_retU (pu_fnT call_int_str s_intS m_int (by decide +kernel) (pa_consU (pu_var 0) pa_nilU))))))
/-! rest_of -/
abbrev t_rest_of : Stmt := top 13
theorem sc_rest_of : FnScope ["word", "pair", "top", "line", "bottom"] ["word"] (defScope t_rest_of) := ⟨rfl, rfl, rfl, by decide +kernel, rfl, by decide +kernel, by decide +kernel⟩
def u_rest_of : US :=
    (sSeq (sAsgG (gT3 2 3 4) (uM1 fPart (uVar 0) (uC (.str (Str.ofString "/")))))
    (sSeq (sAsg 1 (uTup (uCons (uCall 1 S_number_of (uCons (uVar 2) uNil)) (uCons (uCall 1 S_number_of (uCons (uVar 4) uNil)) uNil))))
    (sSeq (sIf (uOr (uB (uBin dEq (uBin dIx (uVar 1) (uC (.int 0))) (uC (.int 0)))) (uOr (uB (uBin dGe (uBin dIx (uVar 1) (uC (.int 0))) (uBin dIx (uVar 1) (uC (.int 1))))) (uB (uBin dNe (uCallN 2 S_made (uCons (uBin dIx (uVar 1) (uC (.int 0))) (uCons (uBin dIx (uVar 1) (uC (.int 1))) uNil))) (uVar 1))))) (sRaise ⟨"BadTime", []⟩) sNext)
    (sRet (uVar 1)))))
def S_rest_of : FN := defU 5 u_rest_of
theorem ok_rest_of (x_BadTime : ExM K mg cls "BadTime") (h_number_of : HasN P w K mg base "number_of" ["word"] 1 (spU (gK K cls) 1 S_number_of)) (h_made : Has P w K mg base "made" ["top", "bottom"] 1 (spU (gK K cls) 2 S_made)) {f : Addr} {fd : FuncData} (F : Fun K "rest_of" "rest_of" t_rest_of f fd) :
    FnOk P w K mg base (L2N.CX P w) 2 f fd ["word"] (spU (gK K cls) 1 S_rest_of) := by
  refine fnUN (N := ["word", "pair", "top", "line", "bottom"]) F sc_rest_of (by decide) fun cdv A outer s H E hr tk => ?_
  exact (pss_consU (ps_asgG (pu_part (pu_var 0) pu_str) (pg_tup3 2 3 4 rfl rfl (pg_n 2 sc_rest_of.nd) (pg_n 3 sc_rest_of.nd) (pg_n 4 sc_rest_of.nd)))
    (pss_consU (ps_asgU 1 sc_rest_of.nd (pu_tup (pa_consU (pu_callM h_number_of (hr.mono (by decide)) tk (pa_consU (pu_var 2) pa_nilU)) (pa_consU (pu_callM h_number_of (hr.mono (by decide)) tk (pa_consU (pu_var 4) pa_nilU)) pa_nilU))))
    (pss_consU (ps_ifU (PW.pt (pw_orU (pt_cmpU (op_eqU hr.units) s_eq (pu_ix ix_seq s_ix (pu_var 1) pu_int) pu_int (nomark _)) (pw_orU (pt_cmpU op_ge s_ge (pu_ix ix_seq s_ix (pu_var 1) pu_int) (pu_ix ix_seq s_ix (pu_var 1) pu_int) (nomark _)) (pw_or1U (pt_cmpU (op_neU hr.units) s_ne (pu_callN h_made (hr.mono (by decide)) (pa_consU (pu_ix ix_seq s_ix (pu_var 1) pu_int) (pa_consU (pu_ix ix_seq s_ix (pu_var 1) pu_int) pa_nilU))) (pu_var 1) (nomark _)))))) (pss_oneU (ps_raiseM x_BadTime rfl tk rfl)) pss_nilU)
    (pss_oneU (ps_retU (pu_var 1))))))
/-! mixed_of -/
abbrev t_mixed_of : Stmt := top 14
theorem sc_mixed_of : FnScope ["text", "whole", "word", "blank", "rest"] ["text"] (defScope t_mixed_of) := ⟨rfl, rfl, rfl, by decide +kernel, rfl, by decide +kernel, by decide +kernel⟩
def u_mixed_of : US :=
    (sSeq (sAsgG (gT3 2 3 4) (uM1 fPart (uVar 0) (uC (.str (Str.ofString " ")))))
    (sSeq (sAsg 1 (uTup (uCons (uCall 1 S_number_of (uCons (uVar 2) uNil)) (uCons (uC (.int 1)) uNil))))
    (sSeq (sIf (uB (uBin dEq (uVar 3) (uC (.str (Str.ofString ""))))) (sRet (uVar 1)) sNext)
    (sRet (uCallN 2 S_added (uCons (uVar 1) (uCons (uCall 1 S_rest_of (uCons (uVar 4) uNil)) uNil)))))))
def S_mixed_of : FN := defU 5 u_mixed_of
theorem ok_mixed_of (h_number_of : HasN P w K mg base "number_of" ["word"] 1 (spU (gK K cls) 1 S_number_of)) (h_rest_of : HasN P w K mg base "rest_of" ["word"] 2 (spU (gK K cls) 1 S_rest_of)) (h_added : Has P w K mg base "added" ["one", "two"] 2 (spU (gK K cls) 2 S_added)) {f : Addr} {fd : FuncData} (F : Fun K "mixed_of" "mixed_of" t_mixed_of f fd) :
    FnOk P w K mg base (L2N.CX P w) 3 f fd ["text"] (spU (gK K cls) 1 S_mixed_of) := by
  refine fnUN (N := ["text", "whole", "word", "blank", "rest"]) F sc_mixed_of (by decide) fun cdv A outer s H E hr tk => ?_
  exact (pss_consU (ps_asgG (pu_part (pu_var 0) pu_str) (pg_tup3 2 3 4 rfl rfl (pg_n 2 sc_mixed_of.nd) (pg_n 3 sc_mixed_of.nd) (pg_n 4 sc_mixed_of.nd)))
    (pss_consU (ps_asgU 1 sc_mixed_of.nd (pu_tup (pa_consU (pu_callM h_number_of (hr.mono (by decide)) tk (pa_consU (pu_var 2) pa_nilU)) (pa_consU pu_int pa_nilU))))
    (pss_consU (ps_ifU (pt_cmpU (op_eqU hr.units) s_eq (pu_var 3) pu_str (nomark _)) (pss_oneU (ps_retU (pu_var 1))) pss_nilU)
    (pss_oneU (ps_retU (pu_callN h_added (hr.mono (by decide)) (pa_consU (pu_var 1) (pa_consU (pu_callM h_rest_of (hr.mono (by decide)) tk (pa_consU (pu_var 4) pa_nilU)) pa_nilU))))))))
/-! clocked_of -/
abbrev t_clocked_of : Stmt := top 15
theorem sc_clocked_of : FnScope ["word", "rate", "parts", "numbers", "part"] ["word", "rate"] (defScope t_clocked_of) := ⟨rfl, rfl, rfl, by decide +kernel, rfl, by decide +kernel, by decide +kernel⟩
def u_clocked_of : US :=
    (sSeq (sAsg 2 (uM1 fSplit (uVar 0) (uC (.str (Str.ofString ":")))))
    (sSeq (sIf (uB (uBin dNe (uFn fLen (uCons (uVar 2) uNil)) (uC (.int 4)))) (sRaise ⟨"BadTime", []⟩) sNext)
    (sSeq (sAsgO 3 (uLstO (uCons (uCall 1 S_number_of (uCons (uBin dIx (uVar 2) (uC (.int 0))) uNil)) uNil)))
    (sSeq (sFor (iLst (uFz (uSlW (uVar 2) (uPart (uC (.int 1))) uNoPart))) (gN 4) (sSeq (sIf (uOr (uAnd (uB (uBin dGt (uFn fLen (uCons (uVar 4) uNil)) (uC (.int 2)))) (uB (uBin dEq (uBin dIx (uVar 4) (uC (.int 0))) (uC (.str (Str.ofString "0")))))) (uB (uBin dLt (uFn fLen (uCons (uVar 4) uNil)) (uC (.int 2))))) (sRaise ⟨"BadTime", []⟩) sNext)
    (sExpr (uMeO 3 mAppend (uCons (uCall 1 S_number_of (uCons (uOrS (uM1 fLstripC (uVar 4) (uC (.str (Str.ofString "0")))) (uC (.str (Str.ofString "0")))) uNil)) uNil)))))
    (sSeq (sIf (uOr (uB (uBin dGe (uBinV dIx 3 (uC (.int 1))) (uC (.int 60)))) (uOr (uB (uBin dGe (uBinV dIx 3 (uC (.int 2))) (uC (.int 60)))) (uB (uBin dGe (uBinV dIx 3 (uC (.int 3))) (uVar 1))))) (sRaise ⟨"BadTime", []⟩) sNext)
    (sRet (uBin dAdd (uBin dMul (uBin dAdd (uBin dMul (uBin dAdd (uBin dMul (uBinV dIx 3 (uC (.int 0))) (uC (.int 60))) (uBinV dIx 3 (uC (.int 1)))) (uC (.int 60))) (uBinV dIx 3 (uC (.int 2)))) (uVar 1)) (uBinV dIx 3 (uC (.int 3))))))))))
def S_clocked_of : FN := defU 5 u_clocked_of
theorem ok_clocked_of (m_len : mg "len" = none) (x_BadTime : ExM K mg cls "BadTime") (h_number_of : HasN P w K mg base "number_of" ["word"] 1 (spU (gK K cls) 1 S_number_of)) {f : Addr} {fd : FuncData} (F : Fun K "clocked_of" "clocked_of" t_clocked_of f fd) :
    FnOk P w K mg base (L2N.CX P w) 2 f fd ["word", "rate"] (spU (gK K cls) 2 S_clocked_of) := by
  refine fnUN (N := ["word", "rate", "parts", "numbers", "part"]) F sc_clocked_of (by decide) fun cdv A outer s H E hr tk => ?_
  exact (pss_consU (ps_asgU 2 sc_clocked_of.nd (pu_split (pu_var 0) pu_str))
    (pss_consU (ps_ifU (pt_cmpU (op_neU hr.units) s_ne (pu_fn call_lenU s_len m_len PySem.boot_len (pa_consU (pu_var 2) pa_nilU)) pu_int (nomark _)) (pss_oneU (ps_raiseM x_BadTime rfl tk rfl)) pss_nilU)
    (pss_consU (ps_asgO 3 sc_clocked_of.nd (pu_lstO (pa_consU (pu_callM h_number_of (hr.mono (by decide)) tk (pa_consU (pu_ix ix_seq s_ix (pu_var 2) pu_int) pa_nilU)) pa_nilU)))
    (pss_consU (ps_forU (passes_of rfl) rfl (pi_listU rfl (pu_fz (pu_slW rfl (pu_var 2) (po_someU pu_int) po_noneU))) (pg_nameU 4 sc_clocked_of.nd) (pss_consU (ps_ifU (PW.pt (pw_orU (PW.pt (pw_andU (pt_cmpU op_gt s_gt (pu_fn call_lenU s_len m_len PySem.boot_len (pa_consU (pu_var 4) pa_nilU)) pu_int (nomark _)) (pw_and1U (pt_cmpU (op_eqU hr.units) s_eq (pu_ix ix_seq s_ix (pu_var 4) pu_int) pu_str (nomark _))))) (pw_or1U (pt_cmpU op_lt s_lt (pu_fn call_lenU s_len m_len PySem.boot_len (pa_consU (pu_var 4) pa_nilU)) pu_int (nomark _))))) (pss_oneU (ps_raiseM x_BadTime rfl tk rfl)) pss_nilU)
    (pss_oneU (ps_exprU (pu_meO 3 PySem.F.slot_list_append PySem.F.type_list_append mt_append u_append (pe_slot 3) (pa_consU (pu_callM h_number_of (hr.mono (by decide)) tk (pa_consU (pu_orS (pu_lstripC (pu_var 4) pu_str) pu_str) pa_nilU)) pa_nilU))))))
    (pss_consU (ps_ifU (PW.pt (pw_orU (pt_cmpU op_ge s_ge (pu_ixV 3 ix_seq s_ix (pe_slot 3) pu_int) pu_int (nomark _)) (pw_orU (pt_cmpU op_ge s_ge (pu_ixV 3 ix_seq s_ix (pe_slot 3) pu_int) pu_int (nomark _)) (pw_or1U (pt_cmpU op_ge s_ge (pu_ixV 3 ix_seq s_ix (pe_slot 3) pu_int) (pu_var 1) (nomark _)))))) (pss_oneU (ps_raiseM x_BadTime rfl tk rfl)) pss_nilU)
    (pss_oneU (ps_retU (pu_bin op_addU s_add (pu_bin op_mulU s_mul (pu_bin op_addU s_add (pu_bin op_mulU s_mul (pu_bin op_addU s_add (pu_bin op_mulU s_mul (pu_ixV 3 ix_seq s_ix (pe_slot 3) pu_int) pu_int) (pu_ixV 3 ix_seq s_ix (pe_slot 3) pu_int)) pu_int) (pu_ixV 3 ix_seq s_ix (pe_slot 3) pu_int)) (pu_var 1)) (pu_ixV 3 ix_seq s_ix (pe_slot 3) pu_int)))))))))
/-! read_time -/
abbrev t_read_time : Stmt := top 16
theorem sc_read_time : FnScope ["text", "rate", "frames", "word", "blank", "rest"] ["text", "rate"] (defScope t_read_time) := ⟨rfl, rfl, rfl, by decide +kernel, rfl, by decide +kernel, by decide +kernel⟩
def u_read_time : US :=
    (sSeq (sIf (uB (uBin dEq (uSlS (uVar 0) (uPart (uUn dNeg (uC (.int 1)))) uNoPart) (uC (.str (Str.ofString "f"))))) (sRet (uCall 1 S_mixed_of (uCons (uSlS (uVar 0) uNoPart (uPart (uUn dNeg (uC (.int 1))))) uNil))) sNext)
    (sSeq (sIf (uB (uBin dEq (uSlS (uVar 0) (uPart (uUn dNeg (uC (.int 1)))) uNoPart) (uC (.str (Str.ofString "s"))))) (sRet (uCallN 2 S_timed (uCons (uCall 1 S_mixed_of (uCons (uSlS (uVar 0) uNoPart (uPart (uUn dNeg (uC (.int 1))))) uNil)) (uCons (uTup (uCons (uVar 1) (uCons (uC (.int 1)) uNil))) uNil)))) sNext)
    (sSeq (sAsgG (gT3 3 4 5) (uM1 fPart (uVar 0) (uC (.str (Str.ofString " ")))))
    (sSeq (sAsg 2 (uTup (uCons (uCall 2 S_clocked_of (uCons (uVar 3) (uCons (uVar 1) uNil))) (uCons (uC (.int 1)) uNil))))
    (sSeq (sIf (uB (uBin dEq (uVar 4) (uC (.str (Str.ofString ""))))) (sRet (uVar 2)) sNext)
    (sRet (uCallN 2 S_added (uCons (uVar 2) (uCons (uCall 1 S_rest_of (uCons (uVar 5) uNil)) uNil)))))))))
def S_read_time : FN := defU 6 u_read_time
theorem ok_read_time (h_mixed_of : HasN P w K mg base "mixed_of" ["text"] 3 (spU (gK K cls) 1 S_mixed_of)) (h_timed : Has P w K mg base "timed" ["one", "two"] 2 (spU (gK K cls) 2 S_timed)) (h_clocked_of : HasN P w K mg base "clocked_of" ["word", "rate"] 2 (spU (gK K cls) 2 S_clocked_of)) (h_rest_of : HasN P w K mg base "rest_of" ["word"] 2 (spU (gK K cls) 1 S_rest_of)) (h_added : Has P w K mg base "added" ["one", "two"] 2 (spU (gK K cls) 2 S_added)) {f : Addr} {fd : FuncData} (F : Fun K "read_time" "read_time" t_read_time f fd) :
    FnOk P w K mg base (L2N.CX P w) 4 f fd ["text", "rate"] (spU (gK K cls) 2 S_read_time) := by
  refine fnUN (N := ["text", "rate", "frames", "word", "blank", "rest"]) F sc_read_time (by decide) fun cdv A outer s H E hr tk => ?_
  exact (pss_consU (ps_ifU (pt_cmpU (op_eqU hr.units) s_eq (pu_slS (pu_var 0) (po_someU (pu_un un_neg s_neg pu_int)) po_noneU) pu_str (nomark _)) (pss_oneU (ps_retU (pu_callM h_mixed_of (hr.mono (by decide)) tk (pa_consU (pu_slS (pu_var 0) po_noneU (po_someU (pu_un un_neg s_neg pu_int))) pa_nilU)))) pss_nilU)
    (pss_consU (ps_ifU (pt_cmpU (op_eqU hr.units) s_eq (pu_slS (pu_var 0) (po_someU (pu_un un_neg s_neg pu_int)) po_noneU) pu_str (nomark _)) (pss_oneU (ps_retU (pu_callN h_timed (hr.mono (by decide)) (pa_consU (pu_callM h_mixed_of (hr.mono (by decide)) tk (pa_consU (pu_slS (pu_var 0) po_noneU (po_someU (pu_un un_neg s_neg pu_int))) pa_nilU)) (pa_consU (pu_tup (pa_consU (pu_var 1) (pa_consU pu_int pa_nilU))) pa_nilU))))) pss_nilU)
    (pss_consU (ps_asgG (pu_part (pu_var 0) pu_str) (pg_tup3 3 4 5 rfl rfl (pg_n 3 sc_read_time.nd) (pg_n 4 sc_read_time.nd) (pg_n 5 sc_read_time.nd)))
    (pss_consU (ps_asgU 2 sc_read_time.nd (pu_tup (pa_consU (pu_callM h_clocked_of (hr.mono (by decide)) tk (pa_consU (pu_var 3) (pa_consU (pu_var 1) pa_nilU))) (pa_consU pu_int pa_nilU))))
    (pss_consU (ps_ifU (pt_cmpU (op_eqU hr.units) s_eq (pu_var 4) pu_str (nomark _)) (pss_oneU (ps_retU (pu_var 2))) pss_nilU)
    (pss_oneU (ps_retU (pu_callN h_added (hr.mono (by decide)) (pa_consU (pu_var 2) (pa_consU (pu_callM h_rest_of (hr.mono (by decide)) tk (pa_consU (pu_var 5) pa_nilU)) pa_nilU))))))))))
/-! need_word -/
abbrev t_need_word : Stmt := top 20
theorem sc_need_word : FnScope ["word", "sign"] ["word"] (defScope t_need_word) := ⟨rfl, rfl, rfl, by decide +kernel, rfl, by decide +kernel, by decide +kernel⟩
def u_need_word : US :=
    (sSeq (sIf (uNot (uB (uChain dLe dLe (uC (.int 1)) (uFn fLen (uCons (uVar 0) uNil)) (uC (.int 20))))) (sRaise ⟨"BadTime", []⟩) sNext)
    (sFor (iStrU (uVar 0)) (gN 1) (sIf (uB (uBin dNotIn (uVar 1) (uC (.str (Str.ofString "abcdefghijklmnopqrstuvwxyz"))))) (sRaise ⟨"BadTime", []⟩) sNext)))
def S_need_word : FN := defU 2 u_need_word
theorem ok_need_word (m_len : mg "len" = none) (k_MOST_WORD : ConstOk K mg "MOST_WORD" (.int 20)) (x_BadTime : ExM K mg cls "BadTime") (k_LETTERS : ConstOk K mg "LETTERS" (.str (Str.ofString "abcdefghijklmnopqrstuvwxyz"))) {f : Addr} {fd : FuncData} (F : Fun K "need_word" "need_word" t_need_word f fd) :
    FnOk P w K mg base (L2N.CX P w) 1 f fd ["word"] (spU (gK K cls) 1 S_need_word) := by
  refine fnUN (N := ["word", "sign"]) F sc_need_word (by decide) fun cdv A outer s H E hr tk => ?_
  exact (pss_consU (ps_ifU (pt_notU (pt_chainU op_le op_le s_le s_le pu_int (pu_fn call_lenU s_len m_len PySem.boot_len (pa_consU (pu_var 0) pa_nilU)) (pu_globC rfl k_MOST_WORD))) (pss_oneU (ps_raiseM x_BadTime rfl tk rfl)) pss_nilU)
    (pss_oneU (ps_forU (passes_of rfl) rfl (pi_strU (pu_var 0)) (pg_nameU 1 sc_need_word.nd) (pss_oneU (ps_ifU (pt_cmpU op_notin_str s_notin (pu_var 1) (pu_globC rfl k_LETTERS) rfl) (pss_oneU (ps_raiseM x_BadTime rfl tk rfl)) pss_nilU)))))
/-! frames_of -/
abbrev t_frames_of : Stmt := top 21
theorem sc_frames_of : FnScope ["text"] ["text"] (defScope t_frames_of) := ⟨rfl, rfl, rfl, by decide +kernel, rfl, by decide +kernel, by decide +kernel⟩
def u_frames_of : US :=
    (sSeq (sIf (uB (uBin dNe (uSlS (uVar 0) (uPart (uUn dNeg (uC (.int 1)))) uNoPart) (uC (.str (Str.ofString "f"))))) (sRaise ⟨"BadTime", []⟩) sNext)
    (sRet (uCall 2 S_read_time (uCons (uVar 0) (uCons (uC (.int 1)) uNil)))))
def S_frames_of : FN := defU 1 u_frames_of
theorem ok_frames_of (x_BadTime : ExM K mg cls "BadTime") (h_read_time : HasN P w K mg base "read_time" ["text", "rate"] 4 (spU (gK K cls) 2 S_read_time)) {f : Addr} {fd : FuncData} (F : Fun K "frames_of" "frames_of" t_frames_of f fd) :
    FnOk P w K mg base (L2N.CX P w) 5 f fd ["text"] (spU (gK K cls) 1 S_frames_of) := by
  refine fnUN (N := ["text"]) F sc_frames_of (by decide) fun cdv A outer s H E hr tk => ?_
  exact (pss_consU (ps_ifU (pt_cmpU (op_neU hr.units) s_ne (pu_slS (pu_var 0) (po_someU (pu_un un_neg s_neg pu_int)) po_noneU) pu_str (nomark _)) (pss_oneU (ps_raiseM x_BadTime rfl tk rfl)) pss_nilU)
    (pss_oneU (ps_retU (pu_callM h_read_time (hr.mono (by decide)) tk (pa_consU (pu_var 0) (pa_consU pu_int pa_nilU))))))
/-! head_of -/
abbrev t_head_of : Stmt := top 22
theorem sc_head_of : FnScope ["line", "cue", "head", "sign", "rest", "begin", "middle", "end"] ["line"] (defScope t_head_of) := ⟨rfl, rfl, rfl, by decide +kernel, rfl, by decide +kernel, by decide +kernel⟩
def u_head_of : US :=
    (sSeq (sAsgG (gT3 2 3 4) (uM1 fPart (uVar 0) (uC (.str (Str.ofString " from ")))))
    (sSeq (sAsgG (gT3 5 6 7) (uM1 fPart (uVar 4) (uC (.str (Str.ofString " to ")))))
    (sSeq (sIf (uOr (uB (uBin dNe (uSlS (uVar 2) uNoPart (uPart (uC (.int 4)))) (uC (.str (Str.ofString "cue "))))) (uOr (uB (uBin dEq (uVar 3) (uC (.str (Str.ofString ""))))) (uB (uBin dEq (uVar 6) (uC (.str (Str.ofString ""))))))) (sRaise ⟨"BadTime", []⟩) sNext)
    (sSeq (sAsg 1 (uTup (uCons (uCall 1 S_number_of (uCons (uSlS (uVar 2) (uPart (uC (.int 4))) uNoPart) uNil)) (uCons (uCall 1 S_frames_of (uCons (uVar 5) uNil)) (uCons (uCall 1 S_frames_of (uCons (uVar 7) uNil)) uNil)))))
    (sSeq (sIf (uNot (uB (uCallN 2 S_is_below (uCons (uBin dIx (uVar 1) (uC (.int 1))) (uCons (uBin dIx (uVar 1) (uC (.int 2))) uNil))))) (sRaise ⟨"BadTime", []⟩) sNext)
    (sRet (uVar 1)))))))
def S_head_of : FN := defU 8 u_head_of
theorem ok_head_of (x_BadTime : ExM K mg cls "BadTime") (h_number_of : HasN P w K mg base "number_of" ["word"] 1 (spU (gK K cls) 1 S_number_of)) (h_frames_of : HasN P w K mg base "frames_of" ["text"] 5 (spU (gK K cls) 1 S_frames_of)) (h_is_below : Has P w K mg base "is_below" ["one", "two"] 1 (spU (gK K cls) 2 S_is_below)) {f : Addr} {fd : FuncData} (F : Fun K "head_of" "head_of" t_head_of f fd) :
    FnOk P w K mg base (L2N.CX P w) 6 f fd ["line"] (spU (gK K cls) 1 S_head_of) := by
  refine fnUN (N := ["line", "cue", "head", "sign", "rest", "begin", "middle", "end"]) F sc_head_of (by decide) fun cdv A outer s H E hr tk => ?_
  exact (pss_consU (ps_asgG (pu_part (pu_var 0) pu_str) (pg_tup3 2 3 4 rfl rfl (pg_n 2 sc_head_of.nd) (pg_n 3 sc_head_of.nd) (pg_n 4 sc_head_of.nd)))
    (pss_consU (ps_asgG (pu_part (pu_var 4) pu_str) (pg_tup3 5 6 7 rfl rfl (pg_n 5 sc_head_of.nd) (pg_n 6 sc_head_of.nd) (pg_n 7 sc_head_of.nd)))
    (pss_consU (ps_ifU (PW.pt (pw_orU (pt_cmpU (op_neU hr.units) s_ne (pu_slS (pu_var 2) po_noneU (po_someU pu_int)) pu_str (nomark _)) (pw_orU (pt_cmpU (op_eqU hr.units) s_eq (pu_var 3) pu_str (nomark _)) (pw_or1U (pt_cmpU (op_eqU hr.units) s_eq (pu_var 6) pu_str (nomark _)))))) (pss_oneU (ps_raiseM x_BadTime rfl tk rfl)) pss_nilU)
    (pss_consU (ps_asgU 1 sc_head_of.nd (pu_tup (pa_consU (pu_callM h_number_of (hr.mono (by decide)) tk (pa_consU (pu_slS (pu_var 2) (po_someU pu_int) po_noneU) pa_nilU)) (pa_consU (pu_callM h_frames_of (hr.mono (by decide)) tk (pa_consU (pu_var 5) pa_nilU)) (pa_consU (pu_callM h_frames_of (hr.mono (by decide)) tk (pa_consU (pu_var 7) pa_nilU)) pa_nilU)))))
    (pss_consU (ps_ifU (pt_notU (pt_of (pu_callN h_is_below (hr.mono (by decide)) (pa_consU (pu_ix ix_seq s_ix (pu_var 1) pu_int) (pa_consU (pu_ix ix_seq s_ix (pu_var 1) pu_int) pa_nilU))))) (pss_oneU (ps_raiseM x_BadTime rfl tk rfl)) pss_nilU)
    (pss_oneU (ps_retU (pu_var 1))))))))
/-! word_of -/
abbrev t_word_of : Stmt := top 23
theorem sc_word_of : FnScope ["line", "cue", "found", "word", "sign", "time"] ["line", "cue"] (defScope t_word_of) := ⟨rfl, rfl, rfl, by decide +kernel, rfl, by decide +kernel, by decide +kernel⟩
def u_word_of : US :=
    (sSeq (sAsgG (gT3 3 4 5) (uM1 fPart (uSlS (uVar 0) (uPart (uC (.int 2))) uNoPart) (uC (.str (Str.ofString " at ")))))
    (sSeq (sIf (uB (uBinX dEq (uVar 4) (uC (.str (Str.ofString ""))))) (sRaise ⟨"BadTime", []⟩) sNext)
    (sSeq (sExpr (uCall 1 S_need_word (uCons (uVar 3) uNil)))
    (sSeq (sAsg 2 (uCall 1 S_frames_of (uCons (uVar 5) uNil)))
    (sSeq (sIf (uOr (uB (uCallN 2 S_is_below (uCons (uVar 2) (uCons (uBinX dIx (uVar 1) (uC (.int 1))) uNil)))) (uNot (uB (uCallN 2 S_is_below (uCons (uVar 2) (uCons (uBinX dIx (uVar 1) (uC (.int 2))) uNil)))))) (sRaise ⟨"BadTime", []⟩) sNext)
    (sSeq (sIf (uAnd (uB (uBinX dNe (uBinX dIx (uVar 1) (uC (.int 3))) (uLst uNil))) (uB (uCallN 2 S_is_below (uCons (uVar 2) (uCons (uBinX dIx (uBinX dIx (uBinX dIx (uVar 1) (uC (.int 3))) (uUn dNeg (uC (.int 1)))) (uC (.int 1))) uNil))))) (sRaise ⟨"BadTime", []⟩) sNext)
    (sRet (uTup (uCons (uVar 3) (uCons (uVar 2) uNil))))))))))
def S_word_of : FN := defU 6 u_word_of
theorem ok_word_of (x_BadTime : ExM K mg cls "BadTime") (h_need_word : HasN P w K mg base "need_word" ["word"] 1 (spU (gK K cls) 1 S_need_word)) (h_frames_of : HasN P w K mg base "frames_of" ["text"] 5 (spU (gK K cls) 1 S_frames_of)) (h_is_below : Has P w K mg base "is_below" ["one", "two"] 1 (spU (gK K cls) 2 S_is_below)) {f : Addr} {fd : FuncData} (F : Fun K "word_of" "word_of" t_word_of f fd) :
    FnOk P w K mg base (L2N.CX P w) 6 f fd ["line", "cue"] (spU (gK K cls) 2 S_word_of) := by
  refine fnUN (N := ["line", "cue", "found", "word", "sign", "time"]) F sc_word_of (by decide) fun cdv A outer s H E hr tk => ?_
  exact (pss_consU (ps_asgG (pu_part (pu_slS (pu_var 0) (po_someU pu_int) po_noneU) pu_str) (pg_tup3 3 4 5 rfl rfl (pg_n 3 sc_word_of.nd) (pg_n 4 sc_word_of.nd) (pg_n 5 sc_word_of.nd)))
    (pss_consU (ps_ifU (pt_cmpX (op_eqU hr.units) s_eq (pu_var 4) pu_str (nomark _)) (pss_oneU (ps_raiseM x_BadTime rfl tk rfl)) pss_nilU)
    (pss_consU (ps_exprU (pu_callM h_need_word (hr.mono (by decide)) tk (pa_consU (pu_var 3) pa_nilU)))
    (pss_consU (ps_asgU 2 sc_word_of.nd (pu_callM h_frames_of (hr.mono (by decide)) tk (pa_consU (pu_var 5) pa_nilU)))
    (pss_consU (ps_ifU (PW.pt (pw_orU (pt_of (pu_callN h_is_below (hr.mono (by decide)) (pa_consU (pu_var 2) (pa_consU (pu_ixX ix_seq s_ix (pu_var 1) pu_int) pa_nilU)))) (pw_or1U (pt_notU (pt_of (pu_callN h_is_below (hr.mono (by decide)) (pa_consU (pu_var 2) (pa_consU (pu_ixX ix_seq s_ix (pu_var 1) pu_int) pa_nilU)))))))) (pss_oneU (ps_raiseM x_BadTime rfl tk rfl)) pss_nilU)
    (pss_consU (ps_ifU (PW.pt (pw_andU (pt_cmpX (op_neU hr.units) s_ne (pu_ixX ix_seq s_ix (pu_var 1) pu_int) (pu_lst pa_nilU) (nomark _)) (pw_and1U (pt_of (pu_callN h_is_below (hr.mono (by decide)) (pa_consU (pu_var 2) (pa_consU (pu_ixX ix_seq s_ix (pu_ixX ix_seq s_ix (pu_ixX ix_seq s_ix (pu_var 1) pu_int) (pu_un un_neg s_neg pu_int)) pu_int) pa_nilU))))))) (pss_oneU (ps_raiseM x_BadTime rfl tk rfl)) pss_nilU)
    (pss_oneU (ps_retU (pu_tup (pa_consU (pu_var 3) (pa_consU (pu_var 2) pa_nilU)))))))))))
/-! read_cues -/
abbrev t_read_cues : Stmt := top 24
theorem sc_read_cues : FnScope ["text", "cues", "number", "line", "head"] ["text"] (defScope t_read_cues) := ⟨rfl, rfl, rfl, by decide +kernel, rfl, by decide +kernel, by decide +kernel⟩
def u_read_cues : US :=
    (sSeq (sAsgO 1 (uLstO uNil))
    (sSeq (sIf (uB (uBin dEq (uVar 0) (uC (.str (Str.ofString ""))))) (sRetO (uMv 1)) sNext)
    (sSeq (sFor (iFn fEnum (uCons (uM1 fSplit (uVar 0) (uC (.str (Str.ofString "\n")))) uNil)) (gT2 2 3) (sTryR knl_BadTime "BadNote" "line" (sIf (uB (uBin dNe (uSlS (uVar 3) uNoPart (uPart (uC (.int 2)))) (uC (.str (Str.ofString "  "))))) (sSeq (sAsg 4 (uCall 1 S_head_of (uCons (uVar 3) uNil)))
    (sSeq (sIf (uAnd (uB (uBinV dNe 1 (uLst uNil))) (uB (uBin dLe (uBin dIx (uVar 4) (uC (.int 0))) (uBin dIx (uBinV dIx 1 (uUn dNeg (uC (.int 1)))) (uC (.int 0)))))) (sRaise ⟨"BadTime", []⟩) sNext)
    (sExpr (uMeO 1 mAppend (uCons (uTup (uCons (uBin dIx (uVar 4) (uC (.int 0))) (uCons (uBin dIx (uVar 4) (uC (.int 1))) (uCons (uBin dIx (uVar 4) (uC (.int 2))) (uCons (uNew (uLstO uNil)) uNil))))) uNil))))) (sIf (uB (uBinV dEq 1 (uLst uNil))) (sRaise ⟨"BadTime", []⟩) (sExpr (uMeL (uBin dIx (uBinV dIx 1 (uUn dNeg (uC (.int 1)))) (uC (.int 3))) mAppend (uCons (uCall 2 S_word_of (uCons (uVar 3) (uCons (uBinV dIx 1 (uUn dNeg (uC (.int 1)))) uNil))) uNil))))) (uVar 2)))
    (sRetO (uMv 1)))))
def S_read_cues : FN := defO 5 u_read_cues
theorem ok_read_cues (m_enumerate : mg "enumerate" = none) (x_BadTime : ExM K mg cls "BadTime") (f_BadTime : ExF K mg cls "BadTime") (kn_BadTime : KnOk K cls (.ref (cls "BadTime")) knl_BadTime) (bn_BadNote : BnOk K mg cls "BadNote" "ReelError" "line" "BadNote.__init__" t_BadNote_init) (h_head_of : HasN P w K mg base "head_of" ["line"] 6 (spU (gK K cls) 1 S_head_of)) (h_word_of : HasN P w K mg base "word_of" ["line", "cue"] 6 (spU (gK K cls) 2 S_word_of)) {f : Addr} {fd : FuncData} (F : Fun K "read_cues" "read_cues" t_read_cues f fd) :
    FnOk P w K mg base (L2.CX P w) 7 f fd ["text"] (spO (gK K cls) 1 S_read_cues) := by
  refine fnO (N := ["text", "cues", "number", "line", "head"]) F sc_read_cues (by decide) fun cdv A outer s H E hr tk => ?_
  exact (pss_consU (ps_asgO 1 sc_read_cues.nd (pu_lstO pa_nilU))
    (pss_consU (ps_ifU (pt_cmpU (op_eqU hr.units) s_eq (pu_var 0) pu_str (nomark _)) (pss_oneU (ps_retO (pu_mv 1))) pss_nilU)
    (pss_consU (ps_forU (passes_of rfl) rfl (pi_enumU rfl m_enumerate (pa_consU (pu_split (pu_var 0) pu_str) pa_nilU)) (pg_tup2 2 3 rfl rfl (pg_n 2 sc_read_cues.nd) (pg_n 3 sc_read_cues.nd)) (pss_oneU (ps_tryR rfl rfl rfl f_BadTime knl_BadTime kn_BadTime rfl tk (L2H.passesAt_of rfl) (fun W pn xe tk _ => (pss_oneU (ps_ifU (pt_cmpU (op_neU hr.units) s_ne (pu_slS (pu_var 3) po_noneU (po_someU pu_int)) pu_str (nomark _)) (pss_consU (ps_asgU 4 sc_read_cues.nd (pu_callM h_head_of (hr.mono (by decide)) tk (pa_consU (pu_var 3) pa_nilU)))
    (pss_consU (ps_ifU (PW.pt (pw_andU (pt_cmpV 1 (op_neU hr.units) s_ne (pe_slot 1) (pu_lst pa_nilU) (nomark _)) (pw_and1U (pt_cmpU op_le s_le (pu_ix ix_seq s_ix (pu_var 4) pu_int) (pu_ix ix_seq s_ix (pu_ixV 1 ix_seq s_ix (pe_slot 1) (pu_un un_neg s_neg pu_int)) pu_int) (nomark _))))) (pss_oneU (ps_raiseM x_BadTime rfl tk rfl)) pss_nilU)
    (pss_oneU (ps_exprU (pu_meO 1 PySem.F.slot_list_append PySem.F.type_list_append mt_append u_append (pe_slot 1) (pa_consU (pu_tup (pa_consU (pu_ix ix_seq s_ix (pu_var 4) pu_int) (pa_consU (pu_ix ix_seq s_ix (pu_var 4) pu_int) (pa_consU (pu_ix ix_seq s_ix (pu_var 4) pu_int) (pa_consU (pu_new (pu_lstO pa_nilU)) pa_nilU))))) pa_nilU)))))) (pss_oneU (ps_ifU (pt_cmpV 1 (op_eqU hr.units) s_eq (pe_slot 1) (pu_lst pa_nilU) (nomark _)) (pss_oneU (ps_raiseM x_BadTime rfl tk rfl)) (pss_oneU (ps_exprU (pu_meL PySem.F.slot_list_append PySem.F.type_list_append mt_append u_append (pu_ix ix_seq s_ix (pu_ixV 1 ix_seq s_ix (pe_slot 1) (pu_un un_neg s_neg pu_int)) pu_int) (pa_consU (pu_callM h_word_of (hr.mono (by decide)) tk (pa_consU (pu_var 3) (pa_consU (pu_ixV 1 ix_seq s_ix (pe_slot 1) (pu_un un_neg s_neg pu_int)) pa_nilU))) pa_nilU))))))))) bn_BadNote (ok_BadNote_init bn_BadNote) (hr.mono (by decide)) (fun a oe pn => (pa_consU (pu_var 2) pa_nilU)) rfl)))
    (pss_oneU (ps_retO (pu_mv 1))))))
/-! _law_begun -/
abbrev t_law_begun : Stmt := top 26
theorem sc_law_begun : FnScope ["_law_script", "_law_stirred", "_law_cell"] ["_law_script"] (defScope t_law_begun) := ⟨rfl, rfl, rfl, by decide +kernel, rfl, by decide +kernel, by decide +kernel⟩
def u_law_begun : US :=
    (sSeq (sAsg 1 (uC (.int 0)))
    (sSeq (sFor (iLst (uVar 0)) (gN 2) (sAsg 1 (uBin dMod (uBin dAdd (uBin dAdd (uBin dMul (uVar 1) (uC (.int 48271))) (uBin dMul (uVar 2) (uC (.int 69621)))) (uC (.int 11))) (uC (.int 2147483647)))))
    (sRet (uNew (uLstO (uCons (uNew (uFnO fList (uCons (uVar 0) uNil))) (uCons (uBin dMul (uVar 1) (uFn fInt (uCons (uBin dGt (uFn fLen (uCons (uVar 0) uNil)) (uC (.int 2))) uNil))) uNil)))))))
def S_law_begun : FN := defU 3 u_law_begun
theorem ok_law_begun (m_list : mg "list" = none) (m_int : mg "int" = none) (m_len : mg "len" = none) {f : Addr} {fd : FuncData} (F : Fun K "_law_begun" "_law_begun" t_law_begun f fd) :
    FnOk P w K mg base (L2.CX P w) 1 f fd ["_law_script"] (spU (gK K cls) 1 S_law_begun) := by
  refine fnU (N := ["_law_script", "_law_stirred", "_law_cell"]) F sc_law_begun (by decide) fun cdv A outer s H E hr tk => ?_
  exact (pss_consU (ps_asgU 1 sc_law_begun.nd pu_int)
    (pss_consU (ps_forU (passes_of rfl) rfl (pi_listU rfl (pu_var 0)) (pg_nameU 2 sc_law_begun.nd) (pss_oneU (ps_asgU 1 sc_law_begun.nd (pu_bin op_modN s_mod (pu_bin op_addU s_add (pu_bin op_addU s_add (pu_bin op_mulU s_mul (pu_var 1) pu_int) (pu_bin op_mulU s_mul (pu_var 2) pu_int)) pu_int) pu_int))))
    (pss_oneU (ps_retU (pu_new (pu_lstO (pa_consU (pu_new (pu_list rfl m_list (pa_consU (pu_var 0) pa_nilU))) (pa_consU (pu_bin op_mulU s_mul (pu_var 1) (pu_fnT call_int1 s_int m_int (by decide +kernel) (pa_consU (pu_cmp op_gt s_gt (pu_fn call_lenU s_len m_len PySem.boot_len (pa_consU (pu_var 0) pa_nilU)) pu_int (nomark _)) pa_nilU))) pa_nilU))))))))
/-! _law_take -/
abbrev t_law_take : Stmt := top 27
theorem sc_law_take : FnScope ["_law_box", "_law_many", "_law_number"] ["_law_box", "_law_many"] (defScope t_law_take) := ⟨rfl, rfl, rfl, by decide +kernel, rfl, by decide +kernel, by decide +kernel⟩
def u_law_take : US :=
    (sSeq (sIf (uB (uBinL dEq (uBinL dIx (uVar 0) (uC (.int 0))) (uLst uNil))) (sSeq (sSetL (uVar 0) (uC (.int 1)) (uBin dMod (uBin dMul (uBinL dIx (uVar 0) (uC (.int 1))) (uC (.int 48271))) (uC (.int 2147483647))))
    (sRet (uBin dMod (uBin dDiv (uBinL dIx (uVar 0) (uC (.int 1))) (uC (.int 7))) (uVar 1)))) sNext)
    (sSeq (sAsg 2 (uBinL dIx (uBinL dIx (uVar 0) (uC (.int 0))) (uC (.int 0))))
    (sSeq (sSetL (uBinL dIx (uVar 0) (uC (.int 0))) (uC (.int 0)) (uBin dDiv (uVar 2) (uVar 1)))
    (sSeq (sIf (uOr (uB (uBin dEq (uBinL dIx (uBinL dIx (uVar 0) (uC (.int 0))) (uC (.int 0))) (uC (.int 0)))) (uB (uBin dEq (uBinL dIx (uBinL dIx (uVar 0) (uC (.int 0))) (uC (.int 0))) (uUn dNeg (uC (.int 1)))))) (sExpr (uMeL (uBinL dIx (uVar 0) (uC (.int 0))) mPopAt (uCons (uC (.int 0)) uNil))) sNext)
    (sRet (uBin dMod (uVar 2) (uVar 1)))))))
def S_law_take : FN := defU 3 u_law_take
theorem ok_law_take {f : Addr} {fd : FuncData} (F : Fun K "_law_take" "_law_take" t_law_take f fd) :
    FnOk P w K mg base (L2.CX P w) 1 f fd ["_law_box", "_law_many"] (spU (gK K cls) 2 S_law_take) := by
  refine fnU (N := ["_law_box", "_law_many", "_law_number"]) F sc_law_take (by decide) fun cdv A outer s H E hr tk => ?_
  exact (pss_consU (ps_ifU (pt_cmpL (op_eqU hr.units) s_eq (pu_ixL ix_seq s_ix (pu_var 0) pu_int) (pu_lst pa_nilU) (nomark _)) (pss_consU (ps_setL (pu_bin op_modN s_mod (pu_bin op_mulU s_mul (pu_ixL ix_seq s_ix (pu_var 0) pu_int) pu_int) pu_int) (pu_var 0) pu_int)
    (pss_oneU (ps_retU (pu_bin op_modN s_mod (pu_bin op_fdivU s_div (pu_ixL ix_seq s_ix (pu_var 0) pu_int) pu_int) (pu_var 1))))) pss_nilU)
    (pss_consU (ps_asgU 2 sc_law_take.nd (pu_ixL ix_seq s_ix (pu_ixL ix_seq s_ix (pu_var 0) pu_int) pu_int))
    (pss_consU (ps_setL (pu_bin op_fdivU s_div (pu_var 2) (pu_var 1)) (pu_ixL ix_seq s_ix (pu_var 0) pu_int) pu_int)
    (pss_consU (ps_ifU (PW.pt (pw_orU (pt_cmpU (op_eqU hr.units) s_eq (pu_ixL ix_seq s_ix (pu_ixL ix_seq s_ix (pu_var 0) pu_int) pu_int) pu_int (nomark _)) (pw_or1U (pt_cmpU (op_eqU hr.units) s_eq (pu_ixL ix_seq s_ix (pu_ixL ix_seq s_ix (pu_var 0) pu_int) pu_int) (pu_un un_neg s_neg pu_int) (nomark _))))) (pss_oneU (ps_exprU (pu_meL PySem.F.slot_list_pop PySem.F.type_list_pop mt_popAt u_popAt (pu_ixL ix_seq s_ix (pu_var 0) pu_int) (pa_consU pu_int pa_nilU)))) pss_nilU)
    (pss_oneU (ps_retU (pu_bin op_modN s_mod (pu_var 2) (pu_var 1))))))))
/-! _law_fr -/
abbrev t_law_fr : Stmt := top 29
theorem sc_law_fr : FnScope ["_law_top", "_law_bottom", "_law_one", "_law_two", "_law_rest"] ["_law_top", "_law_bottom"] (defScope t_law_fr) := ⟨rfl, rfl, rfl, by decide +kernel, rfl, by decide +kernel, by decide +kernel⟩
def u_law_fr : US :=
    (sSeq (sAsg 2 (uFn fAbs (uCons (uVar 0) uNil)))
    (sSeq (sAsg 3 (uFn fAbs (uCons (uVar 1) uNil)))
    (sSeq (sWhile (fuelI 3) (uB (uBin dGt (uVar 3) (uC (.int 0)))) (sSeq (sAsg 4 (uBin dMod (uVar 2) (uVar 3)))
    (sSeq (sAsg 2 (uVar 3))
    (sAsg 3 (uVar 4)))))
    (sSeq (sIf (uB (uBin dLt (uVar 1) (uC (.int 0)))) (sAsg 2 (uBin dSub (uC (.int 0)) (uVar 2))) sNext)
    (sRet (uTup (uCons (uBin dDiv (uVar 0) (uVar 2)) (uCons (uBin dDiv (uVar 1) (uVar 2)) uNil))))))))
def S_law_fr : FN := defU 5 u_law_fr
theorem ok_law_fr (m_abs : mg "abs" = none) {f : Addr} {fd : FuncData} (F : Fun K "_law_fr" "_law_fr" t_law_fr f fd) :
    FnOk P w K mg base (L2.CX P w) 1 f fd ["_law_top", "_law_bottom"] (spU (gK K cls) 2 S_law_fr) := by
  refine fnU (N := ["_law_top", "_law_bottom", "_law_one", "_law_two", "_law_rest"]) F sc_law_fr (by decide) fun cdv A outer s H E hr tk => ?_
  exact (pss_consU (ps_asgU 2 sc_law_fr.nd (pu_fn call_abs s_abs m_abs boot_abs (pa_consU (pu_var 0) pa_nilU)))
    (pss_consU (ps_asgU 3 sc_law_fr.nd (pu_fn call_abs s_abs m_abs boot_abs (pa_consU (pu_var 1) pa_nilU)))
    (pss_consU (ps_whileU (fuelI 3) (passes_of rfl) (pt_cmpU op_gt s_gt (pu_var 3) pu_int (nomark _)) (pss_consU (ps_asgU 4 sc_law_fr.nd (pu_bin op_modN s_mod (pu_var 2) (pu_var 3)))
    (pss_consU (ps_asgU 2 sc_law_fr.nd (pu_var 3))
    (pss_oneU (ps_asgU 3 sc_law_fr.nd (pu_var 4))))))
    (pss_consU (ps_ifU (pt_cmpU op_lt s_lt (pu_var 1) pu_int (nomark _)) (pss_oneU (ps_asgU 2 sc_law_fr.nd (pu_bin op_sub s_sub pu_int (pu_var 2)))) pss_nilU)
    (pss_oneU (ps_retU (pu_tup (pa_consU (pu_bin op_fdivU s_div (pu_var 0) (pu_var 2)) (pa_consU (pu_bin op_fdivU s_div (pu_var 1) (pu_var 2)) pa_nilU)))))))))
/-! _law_sum -/
abbrev t_law_sum : Stmt := top 30
theorem sc_law_sum : FnScope ["_law_one", "_law_two"] ["_law_one", "_law_two"] (defScope t_law_sum) := ⟨rfl, rfl, rfl, by decide +kernel, rfl, by decide +kernel, by decide +kernel⟩
def u_law_sum : US :=
    (sRet (uCall 2 S_law_fr (uCons (uBin dAdd (uBin dMul (uBin dIx (uVar 0) (uC (.int 0))) (uBin dIx (uVar 1) (uC (.int 1)))) (uBin dMul (uBin dIx (uVar 1) (uC (.int 0))) (uBin dIx (uVar 0) (uC (.int 1))))) (uCons (uBin dMul (uBin dIx (uVar 0) (uC (.int 1))) (uBin dIx (uVar 1) (uC (.int 1)))) uNil))))
def S_law_sum : FN := defU 2 u_law_sum
theorem ok_law_sum (h_law_fr : Has P w K mg base "_law_fr" ["_law_top", "_law_bottom"] 1 (spU (gK K cls) 2 S_law_fr)) {f : Addr} {fd : FuncData} (F : Fun K "_law_sum" "_law_sum" t_law_sum f fd) :
    FnOk P w K mg base (L2.CX P w) 2 f fd ["_law_one", "_law_two"] (spU (gK K cls) 2 S_law_sum) := by
  refine fnU (N := ["_law_one", "_law_two"]) F sc_law_sum (by decide) fun cdv A outer s H E hr tk => ?_
  exact (pss_oneU (ps_retU (pu_call h_law_fr (hr.mono (by decide)) tk (pa_consU (pu_bin op_addU s_add (pu_bin op_mulU s_mul (pu_ix ix_seq s_ix (pu_var 0) pu_int) (pu_ix ix_seq s_ix (pu_var 1) pu_int)) (pu_bin op_mulU s_mul (pu_ix ix_seq s_ix (pu_var 1) pu_int) (pu_ix ix_seq s_ix (pu_var 0) pu_int))) (pa_consU (pu_bin op_mulU s_mul (pu_ix ix_seq s_ix (pu_var 0) pu_int) (pu_ix ix_seq s_ix (pu_var 1) pu_int)) pa_nilU)))))
/-! _law_minus -/
abbrev t_law_minus : Stmt := top 31
theorem sc_law_minus : FnScope ["_law_one", "_law_two"] ["_law_one", "_law_two"] (defScope t_law_minus) := ⟨rfl, rfl, rfl, by decide +kernel, rfl, by decide +kernel, by decide +kernel⟩
def u_law_minus : US :=
    (sRet (uCall 2 S_law_fr (uCons (uBin dSub (uBin dMul (uBin dIx (uVar 0) (uC (.int 0))) (uBin dIx (uVar 1) (uC (.int 1)))) (uBin dMul (uBin dIx (uVar 1) (uC (.int 0))) (uBin dIx (uVar 0) (uC (.int 1))))) (uCons (uBin dMul (uBin dIx (uVar 0) (uC (.int 1))) (uBin dIx (uVar 1) (uC (.int 1)))) uNil))))
def S_law_minus : FN := defU 2 u_law_minus
theorem ok_law_minus (h_law_fr : Has P w K mg base "_law_fr" ["_law_top", "_law_bottom"] 1 (spU (gK K cls) 2 S_law_fr)) {f : Addr} {fd : FuncData} (F : Fun K "_law_minus" "_law_minus" t_law_minus f fd) :
    FnOk P w K mg base (L2.CX P w) 2 f fd ["_law_one", "_law_two"] (spU (gK K cls) 2 S_law_minus) := by
  refine fnU (N := ["_law_one", "_law_two"]) F sc_law_minus (by decide) fun cdv A outer s H E hr tk => ?_
  exact (pss_oneU (ps_retU (pu_call h_law_fr (hr.mono (by decide)) tk (pa_consU (pu_bin op_sub s_sub (pu_bin op_mulU s_mul (pu_ix ix_seq s_ix (pu_var 0) pu_int) (pu_ix ix_seq s_ix (pu_var 1) pu_int)) (pu_bin op_mulU s_mul (pu_ix ix_seq s_ix (pu_var 1) pu_int) (pu_ix ix_seq s_ix (pu_var 0) pu_int))) (pa_consU (pu_bin op_mulU s_mul (pu_ix ix_seq s_ix (pu_var 0) pu_int) (pu_ix ix_seq s_ix (pu_var 1) pu_int)) pa_nilU)))))
/-! _law_times -/
abbrev t_law_times : Stmt := top 32
theorem sc_law_times : FnScope ["_law_one", "_law_two"] ["_law_one", "_law_two"] (defScope t_law_times) := ⟨rfl, rfl, rfl, by decide +kernel, rfl, by decide +kernel, by decide +kernel⟩
def u_law_times : US :=
    (sRet (uCall 2 S_law_fr (uCons (uBin dMul (uBin dIx (uVar 0) (uC (.int 0))) (uBin dIx (uVar 1) (uC (.int 0)))) (uCons (uBin dMul (uBin dIx (uVar 0) (uC (.int 1))) (uBin dIx (uVar 1) (uC (.int 1)))) uNil))))
def S_law_times : FN := defU 2 u_law_times
theorem ok_law_times (h_law_fr : Has P w K mg base "_law_fr" ["_law_top", "_law_bottom"] 1 (spU (gK K cls) 2 S_law_fr)) {f : Addr} {fd : FuncData} (F : Fun K "_law_times" "_law_times" t_law_times f fd) :
    FnOk P w K mg base (L2.CX P w) 2 f fd ["_law_one", "_law_two"] (spU (gK K cls) 2 S_law_times) := by
  refine fnU (N := ["_law_one", "_law_two"]) F sc_law_times (by decide) fun cdv A outer s H E hr tk => ?_
  exact (pss_oneU (ps_retU (pu_call h_law_fr (hr.mono (by decide)) tk (pa_consU (pu_bin op_mulU s_mul (pu_ix ix_seq s_ix (pu_var 0) pu_int) (pu_ix ix_seq s_ix (pu_var 1) pu_int)) (pa_consU (pu_bin op_mulU s_mul (pu_ix ix_seq s_ix (pu_var 0) pu_int) (pu_ix ix_seq s_ix (pu_var 1) pu_int)) pa_nilU)))))
/-! _law_low -/
abbrev t_law_low : Stmt := top 34
theorem sc_law_low : FnScope ["_law_one", "_law_two"] ["_law_one", "_law_two"] (defScope t_law_low) := ⟨rfl, rfl, rfl, by decide +kernel, rfl, by decide +kernel, by decide +kernel⟩
def u_law_low : US :=
    (sRet (uBin dLt (uBin dMul (uBin dIx (uVar 0) (uC (.int 0))) (uBin dIx (uVar 1) (uC (.int 1)))) (uBin dMul (uBin dIx (uVar 1) (uC (.int 0))) (uBin dIx (uVar 0) (uC (.int 1))))))
def S_law_low : FN := defU 2 u_law_low
theorem ok_law_low {f : Addr} {fd : FuncData} (F : Fun K "_law_low" "_law_low" t_law_low f fd) :
    FnOk P w K mg base (L2.CX P w) 1 f fd ["_law_one", "_law_two"] (spU (gK K cls) 2 S_law_low) := by
  refine fnU (N := ["_law_one", "_law_two"]) F sc_law_low (by decide) fun cdv A outer s H E hr tk => ?_
  exact (pss_oneU (ps_retU (pu_cmp op_lt s_lt (pu_bin op_mulU s_mul (pu_ix ix_seq s_ix (pu_var 0) pu_int) (pu_ix ix_seq s_ix (pu_var 1) pu_int)) (pu_bin op_mulU s_mul (pu_ix ix_seq s_ix (pu_var 1) pu_int) (pu_ix ix_seq s_ix (pu_var 0) pu_int)) (nomark _))))
/-! _law_time -/
abbrev t_law_time : Stmt := top 35
theorem sc_law_time : FnScope ["_law_box", "_law_most", "_law_top", "_law_bottom"] ["_law_box", "_law_most"] (defScope t_law_time) := ⟨rfl, rfl, rfl, by decide +kernel, rfl, by decide +kernel, by decide +kernel⟩
def u_law_time : US :=
    (sSeq (sAsg 2 (uCall 2 S_law_take (uCons (uVar 0) (uCons (uVar 1) uNil))))
    (sSeq (sIf (uB (uBin dEq (uCall 2 S_law_take (uCons (uVar 0) (uCons (uC (.int 2)) uNil))) (uC (.int 0)))) (sRet (uTup (uCons (uVar 2) (uCons (uC (.int 1)) uNil)))) sNext)
    (sSeq (sAsg 3 (uBin dAdd (uC (.int 1)) (uCall 2 S_law_take (uCons (uVar 0) (uCons (uBin dIx (uLst (uCons (uC (.int 6)) (uCons (uC (.int 30)) uNil))) (uFn fInt (uCons (uBin dEq (uCall 2 S_law_take (uCons (uVar 0) (uCons (uC (.int 6)) uNil))) (uC (.int 1))) uNil))) uNil)))))
    (sRet (uCall 2 S_law_fr (uCons (uVar 2) (uCons (uVar 3) uNil)))))))
def S_law_time : FN := defU 4 u_law_time
theorem ok_law_time (m_int : mg "int" = none) (h_law_take : Has P w K mg base "_law_take" ["_law_box", "_law_many"] 1 (spU (gK K cls) 2 S_law_take)) (h_law_fr : Has P w K mg base "_law_fr" ["_law_top", "_law_bottom"] 1 (spU (gK K cls) 2 S_law_fr)) {f : Addr} {fd : FuncData} (F : Fun K "_law_time" "_law_time" t_law_time f fd) :
    FnOk P w K mg base (L2.CX P w) 2 f fd ["_law_box", "_law_most"] (spU (gK K cls) 2 S_law_time) := by
  refine fnU (N := ["_law_box", "_law_most", "_law_top", "_law_bottom"]) F sc_law_time (by decide) fun cdv A outer s H E hr tk => ?_
  exact (pss_consU (ps_asgU 2 sc_law_time.nd (pu_call h_law_take (hr.mono (by decide)) tk (pa_consU (pu_var 0) (pa_consU (pu_var 1) pa_nilU))))
    (pss_consU (ps_ifU (pt_cmpU (op_eqU hr.units) s_eq (pu_call h_law_take (hr.mono (by decide)) tk (pa_consU (pu_var 0) (pa_consU pu_int pa_nilU))) pu_int (nomark _)) (pss_oneU (ps_retU (pu_tup (pa_consU (pu_var 2) (pa_consU pu_int pa_nilU))))) pss_nilU)
    (pss_consU (ps_asgU 3 sc_law_time.nd (pu_bin op_addU s_add pu_int (pu_call h_law_take (hr.mono (by decide)) tk (pa_consU (pu_var 0) (pa_consU (pu_ix ix_seq s_ix (pu_lst (pa_consU pu_int (pa_consU pu_int pa_nilU))) (pu_fnT call_int1 s_int m_int (by decide +kernel) (pa_consU (pu_cmp (op_eqU hr.units) s_eq (pu_call h_law_take (hr.mono (by decide)) tk (pa_consU (pu_var 0) (pa_consU pu_int pa_nilU))) pu_int (nomark _)) pa_nilU))) pa_nilU)))))
    (pss_oneU (ps_retU (pu_call h_law_fr (hr.mono (by decide)) tk (pa_consU (pu_var 2) (pa_consU (pu_var 3) pa_nilU))))))))
/-! _law_cue -/
abbrev t_law_cue : Stmt := top 36
theorem sc_law_cue : FnScope ["_law_box", "_law_number", "_law_some", "_law_signs", "_law_begin", "_law_end", "_law_k", "_law_far", "_law_words", "_law_many", "_law_word", "_law_at", "_law_j"] ["_law_box", "_law_number"] (defScope t_law_cue) := ⟨rfl, rfl, rfl, by decide +kernel, rfl, by decide +kernel, by decide +kernel⟩
def u_law_cue : US :=
    (sSeq (sAsgO 2 (uLstO uNil))
    (sSeq (sAsg 3 (uC (.str (Str.ofString "abcxyz"))))
    (sSeq (sIf (uB (uBin dEq (uCall 2 S_law_take (uCons (uVar 0) (uCons (uC (.int 2)) uNil))) (uC (.int 1)))) (sAsg 3 (uM1 fJoin (uC (.str (Str.ofString ""))) (uFz (uLc (iFn fRng1 (uCons (uC (.int 3)) uNil)) (gN 6) uYes (uBin dIx (uC (.str (Str.ofString "abcdefghijklmnopqrstuvwxyz"))) (uCallN 2 S_law_take (uCons (uVar 0) (uCons (uC (.int 26)) uNil)))) [6])))) sNext)
    (sSeq (sAsg 4 (uCall 2 S_law_time (uCons (uVar 0) (uCons (uBin dIx (uLst (uCons (uC (.int 50)) (uCons (uC (.int 99999)) uNil))) (uFn fInt (uCons (uBin dEq (uCall 2 S_law_take (uCons (uVar 0) (uCons (uC (.int 6)) uNil))) (uC (.int 1))) uNil))) uNil))))
    (sSeq (sAsg 5 (uCall 2 S_law_sum (uCons (uVar 4) (uCons (uCall 2 S_law_sum (uCons (uTup (uCons (uC (.int 1)) (uCons (uC (.int 3)) uNil))) (uCons (uCall 2 S_law_time (uCons (uVar 0) (uCons (uC (.int 25)) uNil))) uNil))) uNil))))
    (sSeq (sFor (iFn fRng1 (uCons (uBin dIx (uLst (uCons (uCall 2 S_law_take (uCons (uVar 0) (uCons (uC (.int 5)) uNil))) (uCons (uCall 2 S_law_take (uCons (uVar 0) (uCons (uC (.int 12)) uNil))) uNil))) (uFn fInt (uCons (uBin dEq (uCall 2 S_law_take (uCons (uVar 0) (uCons (uC (.int 6)) uNil))) (uC (.int 1))) uNil))) uNil)) (gN 6) (sSeq (sAsg 9 (uBin dAdd (uC (.int 1)) (uCall 2 S_law_take (uCons (uVar 0) (uCons (uBin dIx (uLst (uCons (uC (.int 4)) (uCons (uC (.int 20)) uNil))) (uFn fInt (uCons (uBin dEq (uCall 2 S_law_take (uCons (uVar 0) (uCons (uC (.int 6)) uNil))) (uC (.int 1))) uNil))) uNil)))))
    (sSeq (sAsg 10 (uM1 fJoin (uC (.str (Str.ofString ""))) (uFz (uLc (iFn fRng1 (uCons (uVar 9) uNil)) (gN 12) uYes (uBin dIx (uVar 3) (uCallN 2 S_law_take (uCons (uVar 0) (uCons (uFn fLen (uCons (uVar 3) uNil)) uNil)))) [12]))))
    (sExpr (uMeO 2 mAppend (uCons (uTup (uCons (uCall 2 S_law_take (uCons (uVar 0) (uCons (uC (.int 11)) uNil))) (uCons (uVar 10) uNil))) uNil))))))
    (sSeq (sAsg 7 (uCall 2 S_law_minus (uCons (uVar 5) (uCons (uVar 4) uNil))))
    (sSeq (sAsg 8 (uFz (uLc (iLst (uFn fSortIS (uCons (uFz (uMv 2)) uNil))) (gT2 11 10) uYes (uTup (uCons (uVar 10) (uCons (uCallN 2 S_law_sum (uCons (uVar 4) (uCons (uCallN 2 S_law_times (uCons (uVar 7) (uCons (uCallN 2 S_law_fr (uCons (uVar 11) (uCons (uC (.int 11)) uNil))) uNil))) uNil))) uNil))) [11, 10])))
    (sRet (uTup (uCons (uVar 1) (uCons (uVar 4) (uCons (uVar 5) (uCons (uVar 8) uNil))))))))))))))
def S_law_cue : FN := defU 13 u_law_cue
theorem ok_law_cue (m_range : mg "range" = none) (m_int : mg "int" = none) (m_len : mg "len" = none) (m_sorted : mg "sorted" = none) (h_law_take : Has P w K mg base "_law_take" ["_law_box", "_law_many"] 1 (spU (gK K cls) 2 S_law_take)) (h_law_time : Has P w K mg base "_law_time" ["_law_box", "_law_most"] 2 (spU (gK K cls) 2 S_law_time)) (h_law_sum : Has P w K mg base "_law_sum" ["_law_one", "_law_two"] 2 (spU (gK K cls) 2 S_law_sum)) (h_law_minus : Has P w K mg base "_law_minus" ["_law_one", "_law_two"] 2 (spU (gK K cls) 2 S_law_minus)) (h_law_fr : Has P w K mg base "_law_fr" ["_law_top", "_law_bottom"] 1 (spU (gK K cls) 2 S_law_fr)) (h_law_times : Has P w K mg base "_law_times" ["_law_one", "_law_two"] 2 (spU (gK K cls) 2 S_law_times)) {f : Addr} {fd : FuncData} (F : Fun K "_law_cue" "_law_cue" t_law_cue f fd) :
    FnOk P w K mg base (L2.CX P w) 3 f fd ["_law_box", "_law_number"] (spU (gK K cls) 2 S_law_cue) := by
  refine fnU (N := ["_law_box", "_law_number", "_law_some", "_law_signs", "_law_begin", "_law_end", "_law_k", "_law_far", "_law_words", "_law_many", "_law_word", "_law_at", "_law_j"]) F sc_law_cue (by decide) fun cdv A outer s H E hr tk => ?_
  exact (pss_consU (ps_asgO 2 sc_law_cue.nd (pu_lstO pa_nilU))
    (pss_consU (ps_asgU 3 sc_law_cue.nd pu_str)
    (pss_consU (ps_ifU (pt_cmpU (op_eqU hr.units) s_eq (pu_call h_law_take (hr.mono (by decide)) tk (pa_consU (pu_var 0) (pa_consU pu_int pa_nilU))) pu_int (nomark _)) (pss_oneU (ps_asgU 3 sc_law_cue.nd (pu_join pu_str (pu_fz (by exact (pu_lc [("_law_k", 6)] rfl sc_law_cue.nd (pi_rng1 m_range (pa_consU pu_int pa_nilU)) (blkOk_by (N := ["_law_box", "_law_number", "_law_some", "_law_signs", "_law_begin", "_law_end", "_law_k", "_law_far", "_law_words", "_law_many", "_law_word", "_law_at", "_law_j"]) (sc := defScope t_law_cue) (by decide +kernel)) (fun _ _ _ _ _ => (pg_nameC 6 sc_law_cue.nd)) (fun _ _ _ _ _ => pts_nilU) (fun _ _ _ _ _ => (pu_ix ix_seq s_ix pu_str (pu_callN h_law_take (hr.mono (by decide)) (pa_consU (pu_var 0) (pa_consU pu_int pa_nilU))))))))))) pss_nilU)
    (pss_consU (ps_asgU 4 sc_law_cue.nd (pu_call h_law_time (hr.mono (by decide)) tk (pa_consU (pu_var 0) (pa_consU (pu_ix ix_seq s_ix (pu_lst (pa_consU pu_int (pa_consU pu_int pa_nilU))) (pu_fnT call_int1 s_int m_int (by decide +kernel) (pa_consU (pu_cmp (op_eqU hr.units) s_eq (pu_call h_law_take (hr.mono (by decide)) tk (pa_consU (pu_var 0) (pa_consU pu_int pa_nilU))) pu_int (nomark _)) pa_nilU))) pa_nilU))))
    (pss_consU (ps_asgU 5 sc_law_cue.nd (pu_call h_law_sum (hr.mono (by decide)) tk (pa_consU (pu_var 4) (pa_consU (pu_call h_law_sum (hr.mono (by decide)) tk (pa_consU (pu_tup (pa_consU pu_int (pa_consU pu_int pa_nilU))) (pa_consU (pu_call h_law_time (hr.mono (by decide)) tk (pa_consU (pu_var 0) (pa_consU pu_int pa_nilU))) pa_nilU))) pa_nilU))))
    (pss_consU (ps_forU (passes_of rfl) rfl (pi_rng1 m_range (pa_consU (pu_ix ix_seq s_ix (pu_lst (pa_consU (pu_call h_law_take (hr.mono (by decide)) tk (pa_consU (pu_var 0) (pa_consU pu_int pa_nilU))) (pa_consU (pu_call h_law_take (hr.mono (by decide)) tk (pa_consU (pu_var 0) (pa_consU pu_int pa_nilU))) pa_nilU))) (pu_fnT call_int1 s_int m_int (by decide +kernel) (pa_consU (pu_cmp (op_eqU hr.units) s_eq (pu_call h_law_take (hr.mono (by decide)) tk (pa_consU (pu_var 0) (pa_consU pu_int pa_nilU))) pu_int (nomark _)) pa_nilU))) pa_nilU)) (pg_nameU 6 sc_law_cue.nd) (pss_consU (ps_asgU 9 sc_law_cue.nd (pu_bin op_addU s_add pu_int (pu_call h_law_take (hr.mono (by decide)) tk (pa_consU (pu_var 0) (pa_consU (pu_ix ix_seq s_ix (pu_lst (pa_consU pu_int (pa_consU pu_int pa_nilU))) (pu_fnT call_int1 s_int m_int (by decide +kernel) (pa_consU (pu_cmp (op_eqU hr.units) s_eq (pu_call h_law_take (hr.mono (by decide)) tk (pa_consU (pu_var 0) (pa_consU pu_int pa_nilU))) pu_int (nomark _)) pa_nilU))) pa_nilU)))))
    (pss_consU (ps_asgU 10 sc_law_cue.nd (pu_join pu_str (pu_fz (by exact (pu_lc [("_law_j", 12)] rfl sc_law_cue.nd (pi_rng1 m_range (pa_consU (pu_var 9) pa_nilU)) (blkOk_by (N := ["_law_box", "_law_number", "_law_some", "_law_signs", "_law_begin", "_law_end", "_law_k", "_law_far", "_law_words", "_law_many", "_law_word", "_law_at", "_law_j"]) (sc := defScope t_law_cue) (by decide +kernel)) (fun _ _ _ _ _ => (pg_nameC 12 sc_law_cue.nd)) (fun _ _ _ _ _ => pts_nilU) (fun _ _ _ _ _ => (pu_ix ix_seq s_ix (pu_var 3) (pu_callN h_law_take (hr.mono (by decide)) (pa_consU (pu_var 0) (pa_consU (pu_fn call_lenU s_len m_len PySem.boot_len (pa_consU (pu_var 3) pa_nilU)) pa_nilU))))))))))
    (pss_oneU (ps_exprU (pu_meO 2 PySem.F.slot_list_append PySem.F.type_list_append mt_append u_append (pe_slot 2) (pa_consU (pu_tup (pa_consU (pu_call h_law_take (hr.mono (by decide)) tk (pa_consU (pu_var 0) (pa_consU pu_int pa_nilU))) (pa_consU (pu_var 10) pa_nilU))) pa_nilU)))))))
    (pss_consU (ps_asgU 7 sc_law_cue.nd (pu_call h_law_minus (hr.mono (by decide)) tk (pa_consU (pu_var 5) (pa_consU (pu_var 4) pa_nilU))))
    (pss_consU (by exact (ps_setLcU 8 [("_law_at", 11), ("_law_word", 10)] rfl sc_law_cue.nd (sw_true rfl rfl rfl (by decide +kernel)) (pi_listU rfl (pu_fn cr_sortedIS s_sortIS m_sorted (by decide +kernel) (pa_consU (pu_fz (pu_mv 2)) pa_nilU))) (blkOk_by (N := ["_law_box", "_law_number", "_law_some", "_law_signs", "_law_begin", "_law_end", "_law_k", "_law_far", "_law_words", "_law_many", "_law_word", "_law_at", "_law_j"]) (sc := defScope t_law_cue) (by decide +kernel)) (fun _ _ _ _ _ => (pg_tup2C 11 10 rfl rfl (pg_n 11 sc_law_cue.nd) (pg_n 10 sc_law_cue.nd))) (fun _ _ _ _ _ => pts_nilU) (fun _ _ _ _ _ => (pu_tup (pa_consU (pu_var 10) (pa_consU (pu_callN h_law_sum (hr.mono (by decide)) (pa_consU (pu_var 4) (pa_consU (pu_callN h_law_times (hr.mono (by decide)) (pa_consU (pu_var 7) (pa_consU (pu_callN h_law_fr (hr.mono (by decide)) (pa_consU (pu_var 11) (pa_consU pu_int pa_nilU))) pa_nilU))) pa_nilU))) pa_nilU))))))
    (pss_oneU (ps_retU (pu_tup (pa_consU (pu_var 1) (pa_consU (pu_var 4) (pa_consU (pu_var 5) (pa_consU (pu_var 8) pa_nilU)))))))))))))))
/-! _law_cues -/
abbrev t_law_cues : Stmt := top 37
theorem sc_law_cues : FnScope ["_law_box", "_law_cues_here", "_law_number", "_law_k"] ["_law_box"] (defScope t_law_cues) := ⟨rfl, rfl, rfl, by decide +kernel, rfl, by decide +kernel, by decide +kernel⟩
def u_law_cues : US :=
    (sSeq (sAsgO 1 (uLstO uNil))
    (sSeq (sAsg 2 (uC (.int 0)))
    (sSeq (sFor (iFn fRng1 (uCons (uBin dIx (uLst (uCons (uCall 2 S_law_take (uCons (uVar 0) (uCons (uC (.int 5)) uNil))) (uCons (uCall 2 S_law_take (uCons (uVar 0) (uCons (uC (.int 9)) uNil))) uNil))) (uFn fInt (uCons (uBin dEq (uCall 2 S_law_take (uCons (uVar 0) (uCons (uC (.int 6)) uNil))) (uC (.int 1))) uNil))) uNil)) (gN 3) (sSeq (sAsg 2 (uBin dAdd (uBin dAdd (uVar 2) (uC (.int 1))) (uBin dIx (uLst (uCons (uCall 2 S_law_take (uCons (uVar 0) (uCons (uC (.int 3)) uNil))) (uCons (uCall 2 S_law_take (uCons (uVar 0) (uCons (uC (.int 10000000)) uNil))) uNil))) (uFn fInt (uCons (uBin dEq (uCall 2 S_law_take (uCons (uVar 0) (uCons (uC (.int 6)) uNil))) (uC (.int 1))) uNil)))))
    (sExpr (uMeO 1 mAppend (uCons (uCall 2 S_law_cue (uCons (uVar 0) (uCons (uVar 2) uNil))) uNil)))))
    (sRetO (uMv 1)))))
def S_law_cues : FN := defU 4 u_law_cues
theorem ok_law_cues (m_range : mg "range" = none) (m_int : mg "int" = none) (h_law_take : Has P w K mg base "_law_take" ["_law_box", "_law_many"] 1 (spU (gK K cls) 2 S_law_take)) (h_law_cue : Has P w K mg base "_law_cue" ["_law_box", "_law_number"] 3 (spU (gK K cls) 2 S_law_cue)) {f : Addr} {fd : FuncData} (F : Fun K "_law_cues" "_law_cues" t_law_cues f fd) :
    FnOk P w K mg base (L2.CX P w) 4 f fd ["_law_box"] (spU (gK K cls) 1 S_law_cues) := by
  refine fnU (N := ["_law_box", "_law_cues_here", "_law_number", "_law_k"]) F sc_law_cues (by decide) fun cdv A outer s H E hr tk => ?_
  exact (pss_consU (ps_asgO 1 sc_law_cues.nd (pu_lstO pa_nilU))
    (pss_consU (ps_asgU 2 sc_law_cues.nd pu_int)
    (pss_consU (ps_forU (passes_of rfl) rfl (pi_rng1 m_range (pa_consU (pu_ix ix_seq s_ix (pu_lst (pa_consU (pu_call h_law_take (hr.mono (by decide)) tk (pa_consU (pu_var 0) (pa_consU pu_int pa_nilU))) (pa_consU (pu_call h_law_take (hr.mono (by decide)) tk (pa_consU (pu_var 0) (pa_consU pu_int pa_nilU))) pa_nilU))) (pu_fnT call_int1 s_int m_int (by decide +kernel) (pa_consU (pu_cmp (op_eqU hr.units) s_eq (pu_call h_law_take (hr.mono (by decide)) tk (pa_consU (pu_var 0) (pa_consU pu_int pa_nilU))) pu_int (nomark _)) pa_nilU))) pa_nilU)) (pg_nameU 3 sc_law_cues.nd) (pss_consU (ps_asgU 2 sc_law_cues.nd (pu_bin op_addU s_add (pu_bin op_addU s_add (pu_var 2) pu_int) (pu_ix ix_seq s_ix (pu_lst (pa_consU (pu_call h_law_take (hr.mono (by decide)) tk (pa_consU (pu_var 0) (pa_consU pu_int pa_nilU))) (pa_consU (pu_call h_law_take (hr.mono (by decide)) tk (pa_consU (pu_var 0) (pa_consU pu_int pa_nilU))) pa_nilU))) (pu_fnT call_int1 s_int m_int (by decide +kernel) (pa_consU (pu_cmp (op_eqU hr.units) s_eq (pu_call h_law_take (hr.mono (by decide)) tk (pa_consU (pu_var 0) (pa_consU pu_int pa_nilU))) pu_int (nomark _)) pa_nilU)))))
    (pss_oneU (ps_exprU (pu_meO 1 PySem.F.slot_list_append PySem.F.type_list_append mt_append u_append (pe_slot 1) (pa_consU (pu_call h_law_cue (hr.mono (by decide)) tk (pa_consU (pu_var 0) (pa_consU (pu_var 2) pa_nilU))) pa_nilU))))))
    (pss_oneU (ps_retO (pu_mv 1))))))
/-! _law_mixed -/
abbrev t_law_mixed : Stmt := top 38
theorem sc_law_mixed : FnScope ["_law_time_here", "_law_whole", "_law_rest"] ["_law_time_here"] (defScope t_law_mixed) := ⟨rfl, rfl, rfl, by decide +kernel, rfl, by decide +kernel, by decide +kernel⟩
def u_law_mixed : US :=
    (sSeq (sAsg 1 (uBin dDiv (uBin dIx (uVar 0) (uC (.int 0))) (uBin dIx (uVar 0) (uC (.int 1)))))
    (sSeq (sAsg 2 (uBin dMod (uBin dIx (uVar 0) (uC (.int 0))) (uBin dIx (uVar 0) (uC (.int 1)))))
    (sSeq (sIf (uB (uBin dEq (uVar 2) (uC (.int 0)))) (sRet (uFn fStr (uCons (uVar 1) uNil))) sNext)
    (sRet (uBin dAdd (uBin dAdd (uBin dAdd (uBin dAdd (uFn fStr (uCons (uVar 1) uNil)) (uC (.str (Str.ofString " ")))) (uFn fStr (uCons (uVar 2) uNil))) (uC (.str (Str.ofString "/")))) (uFn fStr (uCons (uBin dIx (uVar 0) (uC (.int 1))) uNil)))))))
def S_law_mixed : FN := defU 3 u_law_mixed
theorem ok_law_mixed (m_str : mg "str" = none) {f : Addr} {fd : FuncData} (F : Fun K "_law_mixed" "_law_mixed" t_law_mixed f fd) :
    FnOk P w K mg base (L2.CX P w) 1 f fd ["_law_time_here"] (spU (gK K cls) 1 S_law_mixed) := by
  refine fnU (N := ["_law_time_here", "_law_whole", "_law_rest"]) F sc_law_mixed (by decide) fun cdv A outer s H E hr tk => ?_
  exact (pss_consU (ps_asgU 1 sc_law_mixed.nd (pu_bin op_fdivU s_div (pu_ix ix_seq s_ix (pu_var 0) pu_int) (pu_ix ix_seq s_ix (pu_var 0) pu_int)))
    (pss_consU (ps_asgU 2 sc_law_mixed.nd (pu_bin op_modN s_mod (pu_ix ix_seq s_ix (pu_var 0) pu_int) (pu_ix ix_seq s_ix (pu_var 0) pu_int)))
    (pss_consU (ps_ifU (pt_cmpU (op_eqU hr.units) s_eq (pu_var 2) pu_int (nomark _)) (pss_oneU (ps_retU (pu_fnT call_str_int s_str m_str (by decide +kernel) (pa_consU (pu_var 1) pa_nilU)))) pss_nilU)
    (pss_oneU (ps_retU (pu_bin op_addU s_add (pu_bin op_addU s_add (pu_bin op_addU s_add (pu_bin op_addU s_add (pu_fnT call_str_int s_str m_str (by decide +kernel) (pa_consU (pu_var 1) pa_nilU)) pu_str) (pu_fnT call_str_int s_str m_str (by decide +kernel) (pa_consU (pu_var 2) pa_nilU))) pu_str) (pu_fnT call_str_int s_str m_str (by decide +kernel) (pa_consU (pu_ix ix_seq s_ix (pu_var 0) pu_int) pa_nilU))))))))
/-! _law_lines -/
abbrev t_law_lines : Stmt := top 39
theorem sc_law_lines : FnScope ["_law_cues_here", "_law_lines_here", "_law_number", "_law_begin", "_law_end", "_law_words", "_law_head", "_law_word", "_law_time_here"] ["_law_cues_here"] (defScope t_law_lines) := ⟨rfl, rfl, rfl, by decide +kernel, rfl, by decide +kernel, by decide +kernel⟩
def u_law_lines : US :=
    (sSeq (sAsgO 1 (uLstO uNil))
    (sSeq (sForX (uVar 0) (gT4 2 3 4 5) (sSeq (sAsg 6 (uBin dAdd (uBin dAdd (uBin dAdd (uC (.str (Str.ofString "cue "))) (uFn fStr (uCons (uVar 2) uNil))) (uC (.str (Str.ofString " from ")))) (uCall 1 S_law_mixed (uCons (uVar 3) uNil))))
    (sSeq (sExpr (uMeO 1 mAppend (uCons (uBin dAdd (uBin dAdd (uBin dAdd (uVar 6) (uC (.str (Str.ofString "f to ")))) (uCall 1 S_law_mixed (uCons (uVar 4) uNil))) (uC (.str (Str.ofString "f")))) uNil)))
    (sAsgO 1 (uCatV 1 (uFz (uLcX (uVar 5) (gT2 7 8) uYes (uBin dAdd (uBin dAdd (uBin dAdd (uBin dAdd (uC (.str (Str.ofString "  "))) (uVar 7)) (uC (.str (Str.ofString " at ")))) (uCallN 1 S_law_mixed (uCons (uVar 8) uNil))) (uC (.str (Str.ofString "f")))) [7, 8])))))))
    (sRetO (uMv 1))))
def S_law_lines : FN := defU 9 u_law_lines
theorem ok_law_lines (m_str : mg "str" = none) (h_law_mixed : Has P w K mg base "_law_mixed" ["_law_time_here"] 1 (spU (gK K cls) 1 S_law_mixed)) {f : Addr} {fd : FuncData} (F : Fun K "_law_lines" "_law_lines" t_law_lines f fd) :
    FnOk P w K mg base (L2.CX P w) 2 f fd ["_law_cues_here"] (spU (gK K cls) 1 S_law_lines) := by
  refine fnU (N := ["_law_cues_here", "_law_lines_here", "_law_number", "_law_begin", "_law_end", "_law_words", "_law_head", "_law_word", "_law_time_here"]) F sc_law_lines (by decide) fun cdv A outer s H E hr tk => ?_
  exact (pss_consU (ps_asgO 1 sc_law_lines.nd (pu_lstO pa_nilU))
    (pss_consU (ps_forX (passes_of rfl) rfl rfl (pu_var 0) (pg_tup4 2 3 4 5 rfl rfl (pg_n 2 sc_law_lines.nd) (pg_n 3 sc_law_lines.nd) (pg_n 4 sc_law_lines.nd) (pg_n 5 sc_law_lines.nd)) (pss_consU (ps_asgU 6 sc_law_lines.nd (pu_bin op_addU s_add (pu_bin op_addU s_add (pu_bin op_addU s_add pu_str (pu_fnT call_str_int s_str m_str (by decide +kernel) (pa_consU (pu_var 2) pa_nilU))) pu_str) (pu_call h_law_mixed (hr.mono (by decide)) tk (pa_consU (pu_var 3) pa_nilU))))
    (pss_consU (ps_exprU (pu_meO 1 PySem.F.slot_list_append PySem.F.type_list_append mt_append u_append (pe_slot 1) (pa_consU (pu_bin op_addU s_add (pu_bin op_addU s_add (pu_bin op_addU s_add (pu_var 6) pu_str) (pu_call h_law_mixed (hr.mono (by decide)) tk (pa_consU (pu_var 4) pa_nilU))) pu_str) pa_nilU)))
    (pss_oneU (ps_asgO 1 sc_law_lines.nd (pu_catV 1 (pe_slot 1) (pu_fz (by exact (pu_lcX [("_law_word", 7), ("_law_time_here", 8)] rfl sc_law_lines.nd rfl (pu_var 5) (blkOk_by (N := ["_law_cues_here", "_law_lines_here", "_law_number", "_law_begin", "_law_end", "_law_words", "_law_head", "_law_word", "_law_time_here"]) (sc := defScope t_law_lines) (by decide +kernel)) (fun _ _ _ _ _ => (pg_tup2C 7 8 rfl rfl (pg_n 7 sc_law_lines.nd) (pg_n 8 sc_law_lines.nd))) (fun _ _ _ _ _ => pts_nilU) (fun _ _ _ _ _ => (pu_bin op_addU s_add (pu_bin op_addU s_add (pu_bin op_addU s_add (pu_bin op_addU s_add pu_str (pu_var 7)) pu_str) (pu_callN h_law_mixed (hr.mono (by decide)) (pa_consU (pu_var 8) pa_nilU))) pu_str)))))))))))
    (pss_oneU (ps_retO (pu_mv 1)))))
/-! _law_good -/
abbrev t_law_good : Stmt := top 40
theorem sc_law_good : FnScope ["_law_cues_here", "_law_last", "_law_cue_here", "_law_at", "_law_word", "_law_time_here", "_law_sign"] ["_law_cues_here"] (defScope t_law_good) := ⟨rfl, rfl, rfl, by decide +kernel, rfl, by decide +kernel, by decide +kernel⟩
def u_law_good : US :=
    (sSeq (sAsg 1 (uUn dNeg (uC (.int 1))))
    (sSeq (sForX (uVar 0) (gN 2) (sSeq (sIf (uOr (uNot (uB (uUnX (dIsi "tuple") (uVar 2)))) (uOr (uB (uBinX dNe (uFnX fLen (uCons (uVar 2) uNil)) (uC (.int 4)))) (uOr (uNot (uB (uUnX (dIsi "int") (uBinX dIx (uVar 2) (uC (.int 0)))))) (uB (uBinX dLe (uBinX dIx (uVar 2) (uC (.int 0))) (uVar 1)))))) (sRet (uC (.bl false))) sNext)
    (sSeq (sAsg 1 (uBinX dIx (uVar 2) (uC (.int 0))))
    (sSeq (sIf (uOr (uNot (uB (uCall 2 S_law_low (uCons (uBinX dIx (uVar 2) (uC (.int 1))) (uCons (uBinX dIx (uVar 2) (uC (.int 2))) uNil))))) (uNot (uB (uUnX (dIsi "list") (uBinX dIx (uVar 2) (uC (.int 3))))))) (sRet (uC (.bl false))) sNext)
    (sSeq (sAsg 3 (uBinX dIx (uVar 2) (uC (.int 1))))
    (sForX (uBinX dIx (uVar 2) (uC (.int 3))) (gT2 4 5) (sSeq (sIf (uOr (uNot (uB (uUnX (dIsi "str") (uVar 4)))) (uNot (uB (uChain dLt dLe (uC (.int 0)) (uFnX fLen (uCons (uVar 4) uNil)) (uC (.int 20)))))) (sRet (uC (.bl false))) sNext)
    (sSeq (sIf (uOr (uB (uCall 2 S_law_low (uCons (uVar 5) (uCons (uVar 3) uNil)))) (uNot (uB (uCall 2 S_law_low (uCons (uVar 5) (uCons (uBinX dIx (uVar 2) (uC (.int 2))) uNil)))))) (sRet (uC (.bl false))) sNext)
    (sSeq (sIf (uB (uBinX dNe (uFz (uLc (iStrU (uVar 4)) (gN 6) (uB (uBinX dNotIn (uVar 6) (uC (.str (Str.ofString "abcdefghijklmnopqrstuvwxyz"))))) (uVar 6) [6])) (uLst uNil))) (sRet (uC (.bl false))) sNext)
    (sAsg 3 (uVar 5)))))))))))
    (sRet (uC (.bl true)))))
def S_law_good : FN := defU 7 u_law_good
theorem ok_law_good (m_isinstance : mg "isinstance" = none) (m_tuple : mg "tuple" = none) (m_len : mg "len" = none) (m_int : mg "int" = none) (m_list : mg "list" = none) (m_str : mg "str" = none) (h_law_low : Has P w K mg base "_law_low" ["_law_one", "_law_two"] 1 (spU (gK K cls) 2 S_law_low)) {f : Addr} {fd : FuncData} (F : Fun K "_law_good" "_law_good" t_law_good f fd) :
    FnOk P w K mg base (L2.CX P w) 2 f fd ["_law_cues_here"] (spU (gK K cls) 1 S_law_good) := by
  refine fnU (N := ["_law_cues_here", "_law_last", "_law_cue_here", "_law_at", "_law_word", "_law_time_here", "_law_sign"]) F sc_law_good (by decide) fun cdv A outer s H E hr tk => ?_
  exact (pss_consU (ps_asgU 1 sc_law_good.nd (pu_un un_neg s_neg pu_int))
    (pss_consU (ps_forX (passes_of rfl) rfl rfl (pu_var 0) (pg_nameU 2 sc_law_good.nd) (pss_consU (ps_ifU (PW.pt (pw_orU (pt_notU (pt_of (pu_isiX "tuple" m_isinstance m_tuple (by decide +kernel) rfl (pu_var 2)))) (pw_orU (pt_cmpX (op_neU hr.units) s_ne (pu_fnX call_lenU s_len m_len PySem.boot_len (pa_consU (pu_var 2) pa_nilU)) pu_int (nomark _)) (pw_orU (pt_notU (pt_of (pu_isiX "int" m_isinstance m_int (by decide +kernel) rfl (pu_ixX ix_seq s_ix (pu_var 2) pu_int)))) (pw_or1U (pt_cmpX op_le s_le (pu_ixX ix_seq s_ix (pu_var 2) pu_int) (pu_var 1) (nomark _))))))) (pss_oneU (ps_retU pu_bl)) pss_nilU)
    (pss_consU (ps_asgU 1 sc_law_good.nd (pu_ixX ix_seq s_ix (pu_var 2) pu_int))
    (pss_consU (ps_ifU (PW.pt (pw_orU (pt_notU (pt_of (pu_call h_law_low (hr.mono (by decide)) tk (pa_consU (pu_ixX ix_seq s_ix (pu_var 2) pu_int) (pa_consU (pu_ixX ix_seq s_ix (pu_var 2) pu_int) pa_nilU))))) (pw_or1U (pt_notU (pt_of (pu_isiX "list" m_isinstance m_list (by decide +kernel) rfl (pu_ixX ix_seq s_ix (pu_var 2) pu_int))))))) (pss_oneU (ps_retU pu_bl)) pss_nilU)
    (pss_consU (ps_asgU 3 sc_law_good.nd (pu_ixX ix_seq s_ix (pu_var 2) pu_int))
    (pss_oneU (ps_forX (passes_of rfl) rfl rfl (pu_ixX ix_seq s_ix (pu_var 2) pu_int) (pg_tup2 4 5 rfl rfl (pg_n 4 sc_law_good.nd) (pg_n 5 sc_law_good.nd)) (pss_consU (ps_ifU (PW.pt (pw_orU (pt_notU (pt_of (pu_isiX "str" m_isinstance m_str (by decide +kernel) rfl (pu_var 4)))) (pw_or1U (pt_notU (pt_chainU op_lt op_le s_lt s_le pu_int (pu_fnX call_lenU s_len m_len PySem.boot_len (pa_consU (pu_var 4) pa_nilU)) pu_int))))) (pss_oneU (ps_retU pu_bl)) pss_nilU)
    (pss_consU (ps_ifU (PW.pt (pw_orU (pt_of (pu_call h_law_low (hr.mono (by decide)) tk (pa_consU (pu_var 5) (pa_consU (pu_var 3) pa_nilU)))) (pw_or1U (pt_notU (pt_of (pu_call h_law_low (hr.mono (by decide)) tk (pa_consU (pu_var 5) (pa_consU (pu_ixX ix_seq s_ix (pu_var 2) pu_int) pa_nilU)))))))) (pss_oneU (ps_retU pu_bl)) pss_nilU)
    (pss_consU (ps_ifU (pt_cmpX (op_neU hr.units) s_ne (pu_fz (by exact (pu_lc [("_law_sign", 6)] rfl sc_law_good.nd (pi_strU (pu_var 4)) (blkOk_by (N := ["_law_cues_here", "_law_last", "_law_cue_here", "_law_at", "_law_word", "_law_time_here", "_law_sign"]) (sc := defScope t_law_good) (by decide +kernel)) (fun _ _ _ _ _ => (pg_nameC 6 sc_law_good.nd)) (fun _ _ _ _ _ => (pts_oneU (pt_cmpX op_notin_str s_notin (pu_var 6) pu_str rfl))) (fun _ _ _ _ _ => (pu_var 6))))) (pu_lst pa_nilU) (nomark _)) (pss_oneU (ps_retU pu_bl)) pss_nilU)
    (pss_oneU (ps_asgU 3 sc_law_good.nd (pu_var 5)))))))))))))
    (pss_oneU (ps_retU pu_bl))))
/-! _law_none -/
abbrev t_law_none : Stmt := top 41
theorem sc_law_none : FnScope ["_law_box", "_law_some"] ["_law_box"] (defScope t_law_none) := ⟨rfl, rfl, rfl, by decide +kernel, rfl, by decide +kernel, by decide +kernel⟩
def u_law_none : US :=
    (sSeq (sAsgO 1 (uLstO (uCons (uC (.str (Str.ofString ""))) (uCons (uC (.str (Str.ofString " "))) (uCons (uC (.str (Str.ofString "cue"))) (uCons (uC (.str (Str.ofString "cue 1"))) (uCons (uC (.str (Str.ofString "cue 1 from 2f"))) (uCons (uC (.str (Str.ofString "cue 1 from 2f to"))) (uCons (uC (.str (Str.ofString "cue 1 from 2f to 2f"))) (uCons (uC (.str (Str.ofString "cue 1 from 3f to 2f"))) uNil))))))))))
    (sSeq (sAsgO 1 (uCatV 1 (uLst (uCons (uC (.str (Str.ofString "cue x from 1f to 2f"))) (uCons (uC (.str (Str.ofString "cue 01 from 1f to 2f"))) (uCons (uC (.str (Str.ofString "cue -1 from 1f to 2f"))) (uCons (uC (.str (Str.ofString "cue 1 from 1s to 2f"))) uNil)))))))
    (sSeq (sAsgO 1 (uCatV 1 (uLst (uCons (uC (.str (Str.ofString "cue 1 from 1 to 2f"))) (uCons (uC (.str (Str.ofString "cue 1 from 1f to 2f "))) (uCons (uC (.str (Str.ofString "Cue 1 from 1f to 2f"))) (uCons (uC (.str (Str.ofString " cue 1 from 1f to 2f"))) (uCons (uC (.str (Str.ofString "  a"))) uNil))))))))
    (sSeq (sAsgO 1 (uCatV 1 (uLst (uCons (uC (.str (Str.ofString "  a at 1"))) (uCons (uC (.str (Str.ofString "  at 1f"))) (uCons (uC (.str (Str.ofString "  A at 1f"))) (uCons (uC (.str (Str.ofString "  a at 1 2/4f"))) (uCons (uC (.str (Str.ofString "   a at 1f"))) (uCons (uC (.str (Str.ofString "  a at  1f"))) (uCons (uC (.str (Str.ofString "  a b at 1f"))) uNil))))))))))
    (sSeq (sExpr (uMeO 1 mAppend (uCons (uC (.str (Str.ofString "cue 1234567890 from 1f to 2f"))) uNil)))
    (sRet (uBinV dIx 1 (uCall 2 S_law_take (uCons (uVar 0) (uCons (uC (.int 25)) uNil))))))))))
def S_law_none : FN := defU 2 u_law_none
theorem ok_law_none (h_law_take : Has P w K mg base "_law_take" ["_law_box", "_law_many"] 1 (spU (gK K cls) 2 S_law_take)) {f : Addr} {fd : FuncData} (F : Fun K "_law_none" "_law_none" t_law_none f fd) :
    FnOk P w K mg base (L2.CX P w) 2 f fd ["_law_box"] (spU (gK K cls) 1 S_law_none) := by
  refine fnU (N := ["_law_box", "_law_some"]) F sc_law_none (by decide) fun cdv A outer s H E hr tk => ?_
  exact (pss_consU (ps_asgO 1 sc_law_none.nd (pu_lstO (pa_consU pu_str (pa_consU pu_str (pa_consU pu_str (pa_consU pu_str (pa_consU pu_str (pa_consU pu_str (pa_consU pu_str (pa_consU pu_str pa_nilU))))))))))
    (pss_consU (ps_asgO 1 sc_law_none.nd (pu_catV 1 (pe_slot 1) (pu_lst (pa_consU pu_str (pa_consU pu_str (pa_consU pu_str (pa_consU pu_str pa_nilU)))))))
    (pss_consU (ps_asgO 1 sc_law_none.nd (pu_catV 1 (pe_slot 1) (pu_lst (pa_consU pu_str (pa_consU pu_str (pa_consU pu_str (pa_consU pu_str (pa_consU pu_str pa_nilU))))))))
    (pss_consU (ps_asgO 1 sc_law_none.nd (pu_catV 1 (pe_slot 1) (pu_lst (pa_consU pu_str (pa_consU pu_str (pa_consU pu_str (pa_consU pu_str (pa_consU pu_str (pa_consU pu_str (pa_consU pu_str pa_nilU))))))))))
    (pss_consU (ps_exprU (pu_meO 1 PySem.F.slot_list_append PySem.F.type_list_append mt_append u_append (pe_slot 1) (pa_consU pu_str pa_nilU)))
    (pss_oneU (ps_retU (pu_ixV 1 ix_seq s_ix (pe_slot 1) (pu_call h_law_take (hr.mono (by decide)) tk (pa_consU (pu_var 0) (pa_consU pu_int pa_nilU)))))))))))
/-! _law_spoilt -/
abbrev t_law_spoilt : Stmt := top 42
theorem sc_law_spoilt : FnScope ["_law_box", "_law_line", "_law_j", "_law_at", "_law_sign", "_law_cut", "_law_behind"] ["_law_box", "_law_line"] (defScope t_law_spoilt) := ⟨rfl, rfl, rfl, by decide +kernel, rfl, by decide +kernel, by decide +kernel⟩
def u_law_spoilt : US :=
    (sSeq (sFor (iFn fRng1 (uCons (uBin dAdd (uC (.int 1)) (uCall 2 S_law_take (uCons (uVar 0) (uCons (uC (.int 3)) uNil)))) uNil)) (gN 2) (sSeq (sAsg 3 (uCall 2 S_law_take (uCons (uVar 0) (uCons (uBin dAdd (uFn fLen (uCons (uVar 1) uNil)) (uC (.int 1))) uNil))))
    (sSeq (sAsg 4 (uBin dIx (uC (.str (Str.ofString "a0 129f/to"))) (uCall 2 S_law_take (uCons (uVar 0) (uCons (uC (.int 10)) uNil)))))
    (sSeq (sAsg 5 (uCall 2 S_law_take (uCons (uVar 0) (uCons (uC (.int 3)) uNil))))
    (sSeq (sAsg 6 (uSlS (uVar 1) (uPart (uBin dAdd (uVar 3) (uBin dIx (uLst (uCons (uC (.int 1)) (uCons (uC (.int 0)) (uCons (uC (.int 1)) uNil)))) (uVar 5)))) uNoPart))
    (sAsg 1 (uBin dAdd (uBin dAdd (uSlS (uVar 1) uNoPart (uPart (uVar 3))) (uBin dIx (uLst (uCons (uC (.str (Str.ofString ""))) (uCons (uVar 4) (uCons (uVar 4) uNil)))) (uVar 5))) (uVar 6))))))))
    (sRet (uVar 1)))
def S_law_spoilt : FN := defU 7 u_law_spoilt
theorem ok_law_spoilt (m_range : mg "range" = none) (m_len : mg "len" = none) (h_law_take : Has P w K mg base "_law_take" ["_law_box", "_law_many"] 1 (spU (gK K cls) 2 S_law_take)) {f : Addr} {fd : FuncData} (F : Fun K "_law_spoilt" "_law_spoilt" t_law_spoilt f fd) :
    FnOk P w K mg base (L2.CX P w) 2 f fd ["_law_box", "_law_line"] (spU (gK K cls) 2 S_law_spoilt) := by
  refine fnU (N := ["_law_box", "_law_line", "_law_j", "_law_at", "_law_sign", "_law_cut", "_law_behind"]) F sc_law_spoilt (by decide) fun cdv A outer s H E hr tk => ?_
  exact (pss_consU (ps_forU (passes_of rfl) rfl (pi_rng1 m_range (pa_consU (pu_bin op_addU s_add pu_int (pu_call h_law_take (hr.mono (by decide)) tk (pa_consU (pu_var 0) (pa_consU pu_int pa_nilU)))) pa_nilU)) (pg_nameU 2 sc_law_spoilt.nd) (pss_consU (ps_asgU 3 sc_law_spoilt.nd (pu_call h_law_take (hr.mono (by decide)) tk (pa_consU (pu_var 0) (pa_consU (pu_bin op_addU s_add (pu_fn call_lenU s_len m_len PySem.boot_len (pa_consU (pu_var 1) pa_nilU)) pu_int) pa_nilU))))
    (pss_consU (ps_asgU 4 sc_law_spoilt.nd (pu_ix ix_seq s_ix pu_str (pu_call h_law_take (hr.mono (by decide)) tk (pa_consU (pu_var 0) (pa_consU pu_int pa_nilU)))))
    (pss_consU (ps_asgU 5 sc_law_spoilt.nd (pu_call h_law_take (hr.mono (by decide)) tk (pa_consU (pu_var 0) (pa_consU pu_int pa_nilU))))
    (pss_consU (ps_asgU 6 sc_law_spoilt.nd (pu_slS (pu_var 1) (po_someU (pu_bin op_addU s_add (pu_var 3) (pu_ix ix_seq s_ix (pu_lst (pa_consU pu_int (pa_consU pu_int (pa_consU pu_int pa_nilU)))) (pu_var 5)))) po_noneU))
    (pss_oneU (ps_asgU 1 sc_law_spoilt.nd (pu_bin op_addU s_add (pu_bin op_addU s_add (pu_slS (pu_var 1) po_noneU (po_someU (pu_var 3))) (pu_ix ix_seq s_ix (pu_lst (pa_consU pu_str (pa_consU (pu_var 4) (pa_consU (pu_var 4) pa_nilU)))) (pu_var 5))) (pu_var 6)))))))))
    (pss_oneU (ps_retU (pu_var 1))))
/-! _law_odd -/
abbrev t_law_odd : Stmt := top 43
theorem sc_law_odd : FnScope ["_law_box", "_law_cues_here", "_law_lines_here", "_law_heads", "_law_pick", "_law_head", "_law_way", "_law_at", "_law_word", "_law_k"] ["_law_box", "_law_cues_here", "_law_lines_here"] (defScope t_law_odd) := ⟨rfl, rfl, rfl, by decide +kernel, rfl, by decide +kernel, by decide +kernel⟩
def u_law_odd : US :=
    (sSeq (sAsg 3 (uFz (uLc (iFn fRng1 (uCons (uFn fLen (uCons (uVar 2) uNil)) uNil)) (gN 9) (uB (uBin dEq (uSlS (uBin dIx (uVar 2) (uVar 9)) uNoPart (uPart (uC (.int 3)))) (uC (.str (Str.ofString "cue"))))) (uVar 9) [9])))
    (sSeq (sIf (uB (uBin dEq (uVar 3) (uLst uNil))) (sRet (uTup (uCons (uVar 2) (uCons (uUn dNeg (uC (.int 1))) uNil)))) sNext)
    (sSeq (sAsg 4 (uCall 2 S_law_take (uCons (uVar 0) (uCons (uFn fLen (uCons (uVar 3) uNil)) uNil))))
    (sSeq (sAsg 5 (uBin dIx (uVar 3) (uVar 4)))
    (sSeq (sAsg 6 (uCall 2 S_law_take (uCons (uVar 0) (uCons (uC (.int 3)) uNil))))
    (sSeq (sIf (uB (uBin dEq (uVar 6) (uC (.int 0)))) (sSeq (sAsg 7 (uBin dAdd (uBin dAdd (uVar 5) (uC (.int 1))) (uCall 2 S_law_take (uCons (uVar 0) (uCons (uBin dSub (uFn fLen (uCons (uVar 2) uNil)) (uVar 5)) uNil)))))
    (sRet (uTup (uCons (uBin dAdd (uBin dAdd (uFz (uSlW (uVar 2) uNoPart (uPart (uVar 7)))) (uLst (uCons (uBin dIx (uVar 2) (uVar 5)) uNil))) (uFz (uSlW (uVar 2) (uPart (uVar 7)) uNoPart))) (uCons (uVar 7) uNil))))) sNext)
    (sSeq (sIf (uB (uBin dEq (uVar 6) (uC (.int 1)))) (sSeq (sAsg 8 (uBin dAdd (uBin dAdd (uC (.str (Str.ofString "  a at "))) (uCall 1 S_law_mixed (uCons (uBin dIx (uBin dIx (uVar 1) (uVar 4)) (uC (.int 2))) uNil))) (uC (.str (Str.ofString "f")))))
    (sRet (uTup (uCons (uBin dAdd (uBin dAdd (uFz (uSlW (uVar 2) uNoPart (uPart (uBin dAdd (uVar 5) (uC (.int 1)))))) (uLst (uCons (uVar 8) uNil))) (uFz (uSlW (uVar 2) (uPart (uBin dAdd (uVar 5) (uC (.int 1)))) uNoPart))) (uCons (uBin dAdd (uVar 5) (uC (.int 1))) uNil))))) sNext)
    (sSeq (sAsg 7 (uBin dIx (uLst (uCons (uC (.int 0)) (uCons (uBin dAdd (uVar 5) (uC (.int 1))) uNil))) (uFn fInt (uCons (uBin dNe (uBin dIx (uBin dIx (uVar 1) (uVar 4)) (uC (.int 1))) (uTup (uCons (uC (.int 0)) (uCons (uC (.int 1)) uNil)))) uNil))))
    (sRet (uTup (uCons (uBin dAdd (uBin dAdd (uFz (uSlW (uVar 2) uNoPart (uPart (uVar 7)))) (uLst (uCons (uC (.str (Str.ofString "  a at 0f"))) uNil))) (uFz (uSlW (uVar 2) (uPart (uVar 7)) uNoPart))) (uCons (uVar 7) uNil))))))))))))
def S_law_odd : FN := defU 10 u_law_odd
theorem ok_law_odd (m_range : mg "range" = none) (m_len : mg "len" = none) (m_int : mg "int" = none) (h_law_take : Has P w K mg base "_law_take" ["_law_box", "_law_many"] 1 (spU (gK K cls) 2 S_law_take)) (h_law_mixed : Has P w K mg base "_law_mixed" ["_law_time_here"] 1 (spU (gK K cls) 1 S_law_mixed)) {f : Addr} {fd : FuncData} (F : Fun K "_law_odd" "_law_odd" t_law_odd f fd) :
    FnOk P w K mg base (L2.CX P w) 2 f fd ["_law_box", "_law_cues_here", "_law_lines_here"] (spU (gK K cls) 3 S_law_odd) := by
  refine fnU (N := ["_law_box", "_law_cues_here", "_law_lines_here", "_law_heads", "_law_pick", "_law_head", "_law_way", "_law_at", "_law_word", "_law_k"]) F sc_law_odd (by decide) fun cdv A outer s H E hr tk => ?_
  exact (pss_consU (by exact (ps_setLcU 3 [("_law_k", 9)] rfl sc_law_odd.nd (sw_true rfl rfl rfl (by decide +kernel)) (pi_rng1 m_range (pa_consU (pu_fn call_lenU s_len m_len PySem.boot_len (pa_consU (pu_var 2) pa_nilU)) pa_nilU)) (blkOk_by (N := ["_law_box", "_law_cues_here", "_law_lines_here", "_law_heads", "_law_pick", "_law_head", "_law_way", "_law_at", "_law_word", "_law_k"]) (sc := defScope t_law_odd) (by decide +kernel)) (fun _ _ _ _ _ => (pg_nameC 9 sc_law_odd.nd)) (fun _ _ _ _ _ => (pts_oneU (pt_cmpU (op_eqU hr.units) s_eq (pu_slS (pu_ix ix_seq s_ix (pu_var 2) (pu_var 9)) po_noneU (po_someU pu_int)) pu_str (nomark _)))) (fun _ _ _ _ _ => (pu_var 9))))
    (pss_consU (ps_ifU (pt_cmpU (op_eqU hr.units) s_eq (pu_var 3) (pu_lst pa_nilU) (nomark _)) (pss_oneU (ps_retU (pu_tup (pa_consU (pu_var 2) (pa_consU (pu_un un_neg s_neg pu_int) pa_nilU))))) pss_nilU)
    (pss_consU (ps_asgU 4 sc_law_odd.nd (pu_call h_law_take (hr.mono (by decide)) tk (pa_consU (pu_var 0) (pa_consU (pu_fn call_lenU s_len m_len PySem.boot_len (pa_consU (pu_var 3) pa_nilU)) pa_nilU))))
    (pss_consU (ps_asgU 5 sc_law_odd.nd (pu_ix ix_seq s_ix (pu_var 3) (pu_var 4)))
    (pss_consU (ps_asgU 6 sc_law_odd.nd (pu_call h_law_take (hr.mono (by decide)) tk (pa_consU (pu_var 0) (pa_consU pu_int pa_nilU))))
    (pss_consU (ps_ifU (pt_cmpU (op_eqU hr.units) s_eq (pu_var 6) pu_int (nomark _)) (pss_consU (ps_asgU 7 sc_law_odd.nd (pu_bin op_addU s_add (pu_bin op_addU s_add (pu_var 5) pu_int) (pu_call h_law_take (hr.mono (by decide)) tk (pa_consU (pu_var 0) (pa_consU (pu_bin op_sub s_sub (pu_fn call_lenU s_len m_len PySem.boot_len (pa_consU (pu_var 2) pa_nilU)) (pu_var 5)) pa_nilU)))))
    (pss_oneU (ps_retU (pu_tup (pa_consU (pu_bin op_addU s_add (pu_bin op_addU s_add (pu_fz (pu_slW rfl (pu_var 2) po_noneU (po_someU (pu_var 7)))) (pu_lst (pa_consU (pu_ix ix_seq s_ix (pu_var 2) (pu_var 5)) pa_nilU))) (pu_fz (pu_slW rfl (pu_var 2) (po_someU (pu_var 7)) po_noneU))) (pa_consU (pu_var 7) pa_nilU)))))) pss_nilU)
    (pss_consU (ps_ifU (pt_cmpU (op_eqU hr.units) s_eq (pu_var 6) pu_int (nomark _)) (pss_consU (ps_asgU 8 sc_law_odd.nd (pu_bin op_addU s_add (pu_bin op_addU s_add pu_str (pu_call h_law_mixed (hr.mono (by decide)) tk (pa_consU (pu_ix ix_seq s_ix (pu_ix ix_seq s_ix (pu_var 1) (pu_var 4)) pu_int) pa_nilU))) pu_str))
    (pss_oneU (ps_retU (pu_tup (pa_consU (pu_bin op_addU s_add (pu_bin op_addU s_add (pu_fz (pu_slW rfl (pu_var 2) po_noneU (po_someU (pu_bin op_addU s_add (pu_var 5) pu_int)))) (pu_lst (pa_consU (pu_var 8) pa_nilU))) (pu_fz (pu_slW rfl (pu_var 2) (po_someU (pu_bin op_addU s_add (pu_var 5) pu_int)) po_noneU))) (pa_consU (pu_bin op_addU s_add (pu_var 5) pu_int) pa_nilU)))))) pss_nilU)
    (pss_consU (ps_asgU 7 sc_law_odd.nd (pu_ix ix_seq s_ix (pu_lst (pa_consU pu_int (pa_consU (pu_bin op_addU s_add (pu_var 5) pu_int) pa_nilU))) (pu_fnT call_int1 s_int m_int (by decide +kernel) (pa_consU (pu_cmp (op_neU hr.units) s_ne (pu_ix ix_seq s_ix (pu_ix ix_seq s_ix (pu_var 1) (pu_var 4)) pu_int) (pu_tup (pa_consU pu_int (pa_consU pu_int pa_nilU))) (nomark _)) pa_nilU))))
    (pss_oneU (ps_retU (pu_tup (pa_consU (pu_bin op_addU s_add (pu_bin op_addU s_add (pu_fz (pu_slW rfl (pu_var 2) po_noneU (po_someU (pu_var 7)))) (pu_lst (pa_consU pu_str pa_nilU))) (pu_fz (pu_slW rfl (pu_var 2) (po_someU (pu_var 7)) po_noneU))) (pa_consU (pu_var 7) pa_nilU)))))))))))))
/-! law -/
abbrev t_law : Stmt := top 44
theorem sc_law : FnScope ["_law_script", "_law_box", "_law_cues_here", "_law_lines_here", "_law_at", "_law_way", "_law_none_here", "_law_text", "e", "_law_told", "_law_line"] ["_law_script"] (defScope t_law) := ⟨rfl, rfl, rfl, by decide +kernel, rfl, by decide +kernel, by decide +kernel⟩
def u_law : US :=
    (sSeq (sAsg 1 (uCall 1 S_law_begun (uCons (uVar 0) uNil)))
    (sSeq (sAsg 2 (uCall 1 S_law_cues (uCons (uVar 1) uNil)))
    (sSeq (sAsg 3 (uCall 1 S_law_lines (uCons (uVar 2) uNil)))
    (sSeq (sAsg 4 (uCall 2 S_law_take (uCons (uVar 1) (uCons (uBinX dAdd (uFnX fLen (uCons (uVar 3) uNil)) (uC (.int 1))) uNil))))
    (sSeq (sAsg 5 (uCall 2 S_law_take (uCons (uVar 1) (uCons (uC (.int 9)) uNil))))
    (sSeq (sAsg 6 (uBinX dInT (uVar 5) (uTup (uCons (uC (.int 1)) (uCons (uC (.int 2)) uNil)))))
    (sSeq (sIf (uB (uVar 6)) (sAsg 3 (uBinX dAdd (uBinX dAdd (uFz (uSlW (uVar 3) uNoPart (uPart (uVar 4)))) (uLst (uCons (uCall 1 S_law_none (uCons (uVar 1) uNil)) uNil))) (uFz (uSlW (uVar 3) (uPart (uVar 4)) uNoPart)))) (sIf (uB (uBinX dGt (uVar 5) (uC (.int 5)))) (sSeq (sAsgG (gT2 3 4) (uCall 3 S_law_odd (uCons (uVar 1) (uCons (uVar 2) (uCons (uVar 3) uNil)))))
    (sAsg 6 (uBinX dGe (uVar 4) (uC (.int 0))))) (sIf (uAnd (uB (uBinX dGt (uVar 5) (uC (.int 2)))) (uB (uBinX dLt (uVar 4) (uFnX fLen (uCons (uVar 3) uNil))))) (sSeq (sAsg 10 (uBinX dIx (uVar 3) (uCall 2 S_law_take (uCons (uVar 1) (uCons (uFnX fLen (uCons (uVar 3) uNil)) uNil)))))
    (sSeq (sIf (uB (uBinX dLt (uVar 5) (uC (.int 5)))) (sAsg 10 (uCall 2 S_law_spoilt (uCons (uVar 1) (uCons (uBinX dIx (uVar 3) (uVar 4)) uNil)))) sNext)
    (sAsg 3 (uBinX dAdd (uBinX dAdd (uFz (uSlW (uVar 3) uNoPart (uPart (uVar 4)))) (uLst (uCons (uVar 10) uNil))) (uFz (uSlW (uVar 3) (uPart (uBinX dAdd (uVar 4) (uCall 2 S_law_take (uCons (uVar 1) (uCons (uC (.int 2)) uNil))))) uNoPart)))))) sNext)))
    (sSeq (sAsg 7 (uM1 fJoin (uC (.str (Str.ofString "\n"))) (uVar 3)))
    (sSeq (sTryL "BadNote" "line" 8 3 6 4 (sAsg 9 (uNew (uCallO 1 S_read_cues (uCons (uVar 7) uNil)))))
    (sSeq (sIf (uOr (uNot (uB (uUnX (dIsi "list") (uVar 9)))) (uAnd (uB (uVar 6)) (uB (uBinX dNe (uVar 3) (uLst (uCons (uC (.str (Str.ofString ""))) uNil)))))) (sRet (uC (.bl false))) sNext)
    (sRet (uAndV (uCall 1 S_law_good (uCons (uVar 9) uNil)) (uBinX dEq (uM1 fJoin (uC (.str (Str.ofString "\n"))) (uCall 1 S_law_lines (uCons (uVar 9) uNil))) (uVar 7))))))))))))))
def S_law : FN := defU 11 u_law
theorem ok_law (m_len : mg "len" = none) (m_isinstance : mg "isinstance" = none) (m_int : mg "int" = none) (m_bool : mg "bool" = none) (m_ValueError : mg "ValueError" = none) (m_list : mg "list" = none) (f_ReelError : ExF K mg cls "ReelError") (kn_ReelError : KnOk K cls (.ref (cls "ReelError")) knl_ReelError) (bn_BadNote : BnOk K mg cls "BadNote" "ReelError" "line" "BadNote.__init__" t_BadNote_init) (ec_ReelError : EcOk K cls knl_ReelError) (f_BadNote : ExF K mg cls "BadNote") (f_BadTime : ExF K mg cls "BadTime") (kn_BadNote : KnOk K cls (.ref (cls "BadNote")) knl_BadNote) (kn_BadTime : KnOk K cls (.ref (cls "BadTime")) knl_BadTime) (kn_ValueError : KnOk K cls (.type "ValueError") knl_ValueError) (h_law_begun : Has P w K mg base "_law_begun" ["_law_script"] 1 (spU (gK K cls) 1 S_law_begun)) (h_law_cues : Has P w K mg base "_law_cues" ["_law_box"] 4 (spU (gK K cls) 1 S_law_cues)) (h_law_lines : Has P w K mg base "_law_lines" ["_law_cues_here"] 2 (spU (gK K cls) 1 S_law_lines)) (h_law_take : Has P w K mg base "_law_take" ["_law_box", "_law_many"] 1 (spU (gK K cls) 2 S_law_take)) (h_law_none : Has P w K mg base "_law_none" ["_law_box"] 2 (spU (gK K cls) 1 S_law_none)) (h_law_odd : Has P w K mg base "_law_odd" ["_law_box", "_law_cues_here", "_law_lines_here"] 2 (spU (gK K cls) 3 S_law_odd)) (h_law_spoilt : Has P w K mg base "_law_spoilt" ["_law_box", "_law_line"] 2 (spU (gK K cls) 2 S_law_spoilt)) (h_read_cues : Has P w K mg base "read_cues" ["text"] 7 (spO (gK K cls) 1 S_read_cues)) (h_law_good : Has P w K mg base "_law_good" ["_law_cues_here"] 2 (spU (gK K cls) 1 S_law_good)) {f : Addr} {fd : FuncData} (F : Fun K "law" "law" t_law f fd) :
    FnOk P w K mg base (L2.CX P w) 8 f fd ["_law_script"] (spU (gK K cls) 1 S_law) := by
  refine fnU (N := ["_law_script", "_law_box", "_law_cues_here", "_law_lines_here", "_law_at", "_law_way", "_law_none_here", "_law_text", "e", "_law_told", "_law_line"]) F sc_law (by decide) fun cdv A outer s H E hr tk => ?_
  exact (pss_consU (ps_asgU 1 sc_law.nd (pu_call h_law_begun (hr.mono (by decide)) tk (pa_consU (pu_var 0) pa_nilU)))
    (pss_consU (ps_asgU 2 sc_law.nd (pu_call h_law_cues (hr.mono (by decide)) tk (pa_consU (pu_var 1) pa_nilU)))
    (pss_consU (ps_asgU 3 sc_law.nd (pu_call h_law_lines (hr.mono (by decide)) tk (pa_consU (pu_var 2) pa_nilU)))
    (pss_consU (ps_asgU 4 sc_law.nd (pu_call h_law_take (hr.mono (by decide)) tk (pa_consU (pu_var 1) (pa_consU (pu_binX op_addU s_add (pu_fnX call_lenU s_len m_len PySem.boot_len (pa_consU (pu_var 3) pa_nilU)) pu_int) pa_nilU))))
    (pss_consU (ps_asgU 5 sc_law.nd (pu_call h_law_take (hr.mono (by decide)) tk (pa_consU (pu_var 1) (pa_consU pu_int pa_nilU))))
    (pss_consU (ps_asgU 6 sc_law.nd (pu_cmpX op_in_seq s_inT (pu_var 5) (pu_tup (pa_consU pu_int (pa_consU pu_int pa_nilU))) rfl))
    (pss_consU (ps_ifU (pt_of (pu_var 6)) (pss_oneU (ps_asgU 3 sc_law.nd (pu_binX op_addU s_add (pu_binX op_addU s_add (pu_fz (pu_slW rfl (pu_var 3) po_noneU (po_someU (pu_var 4)))) (pu_lst (pa_consU (pu_call h_law_none (hr.mono (by decide)) tk (pa_consU (pu_var 1) pa_nilU)) pa_nilU))) (pu_fz (pu_slW rfl (pu_var 3) (po_someU (pu_var 4)) po_noneU))))) (pss_oneU (ps_ifU (pt_cmpX op_gt s_gt (pu_var 5) pu_int (nomark _)) (pss_consU (ps_asgG (pu_call h_law_odd (hr.mono (by decide)) tk (pa_consU (pu_var 1) (pa_consU (pu_var 2) (pa_consU (pu_var 3) pa_nilU)))) (pg_tup2 3 4 rfl rfl (pg_n 3 sc_law.nd) (pg_n 4 sc_law.nd)))
    (pss_oneU (ps_asgU 6 sc_law.nd (pu_cmpX op_ge s_ge (pu_var 4) pu_int (nomark _))))) (pss_oneU (ps_ifU (PW.pt (pw_andU (pt_cmpX op_gt s_gt (pu_var 5) pu_int (nomark _)) (pw_and1U (pt_cmpX op_lt s_lt (pu_var 4) (pu_fnX call_lenU s_len m_len PySem.boot_len (pa_consU (pu_var 3) pa_nilU)) (nomark _))))) (pss_consU (ps_asgU 10 sc_law.nd (pu_ixX ix_seq s_ix (pu_var 3) (pu_call h_law_take (hr.mono (by decide)) tk (pa_consU (pu_var 1) (pa_consU (pu_fnX call_lenU s_len m_len PySem.boot_len (pa_consU (pu_var 3) pa_nilU)) pa_nilU)))))
    (pss_consU (ps_ifU (pt_cmpX op_lt s_lt (pu_var 5) pu_int (nomark _)) (pss_oneU (ps_asgU 10 sc_law.nd (pu_call h_law_spoilt (hr.mono (by decide)) tk (pa_consU (pu_var 1) (pa_consU (pu_ixX ix_seq s_ix (pu_var 3) (pu_var 4)) pa_nilU))))) pss_nilU)
    (pss_oneU (ps_asgU 3 sc_law.nd (pu_binX op_addU s_add (pu_binX op_addU s_add (pu_fz (pu_slW rfl (pu_var 3) po_noneU (po_someU (pu_var 4)))) (pu_lst (pa_consU (pu_var 10) pa_nilU))) (pu_fz (pu_slW rfl (pu_var 3) (po_someU (pu_binX op_addU s_add (pu_var 4) (pu_call h_law_take (hr.mono (by decide)) tk (pa_consU (pu_var 1) (pa_consU pu_int pa_nilU))))) po_noneU))))))) pss_nilU)))))
    (pss_consU (ps_asgU 7 sc_law.nd (pu_join pu_str (pu_var 3)))
    (pss_consU (ps_tryL (i := 8) (jl := 3) (jn := 6) (ja := 4) rfl rfl sc_law.nd rfl rfl rfl f_ReelError knl_ReelError kn_ReelError rfl rfl tk (by decide) (by decide) (by decide) (fun W pn xe tk _ => (pss_oneU (ps_asgU 9 sc_law.nd (pu_new (pu_callO h_read_cues (hr.mono (by decide)) tk (pa_consU (pu_var 7) pa_nilU)))))) (fun a oe dd pn hz hf => (suite_line hz hf (ec_ReelError.get rfl).1 (xfc_of (ec_ReelError.get rfl).1) bn_BadNote.no m_isinstance m_int m_bool m_len m_ValueError (by rfl) (by rfl) (by rfl) (by rfl) (by rfl) (by rfl) (by rfl) f_BadNote.g f_BadTime.g (kit_own kn_BadNote f_BadNote (ec_ReelError.get rfl).2 rfl) (kit_own kn_BadTime f_BadTime (ec_ReelError.get rfl).2 rfl) (kit_VE kn_ValueError (ec_ReelError.get rfl).2 rfl) (by rfl) (by first | exact Or.inl rfl | exact Or.inr (Or.inl rfl) | exact Or.inr (Or.inr rfl)) (by rfl) (by first | exact Or.inl rfl | exact Or.inr (Or.inl rfl) | exact Or.inr (Or.inr rfl)) (by rfl) (by first | exact Or.inl rfl | exact Or.inr (Or.inl rfl) | exact Or.inr (Or.inr rfl)) (by rfl) (by first | exact Or.inl rfl | exact Or.inr (Or.inl rfl) | exact Or.inr (Or.inr rfl)) (by decide) (by decide) (by decide) (by decide) (by decide) (by decide) (by decide) (by decide) (by decide) (by decide))))
    (pss_consU (ps_ifU (PW.pt (pw_orU (pt_notU (pt_of (pu_isiX "list" m_isinstance m_list (by decide +kernel) rfl (pu_var 9)))) (pw_or1U (PW.pt (pw_andU (pt_of (pu_var 6)) (pw_and1U (pt_cmpX (op_neU hr.units) s_ne (pu_var 3) (pu_lst (pa_consU pu_str pa_nilU)) (nomark _)))))))) (pss_oneU (ps_retU pu_bl)) pss_nilU)
    (pss_oneU (ps_retU (pu_and (pu_call h_law_good (hr.mono (by decide)) tk (pa_consU (pu_var 9) pa_nilU)) (pu_one (pu_cmpX (op_eqU hr.units) s_eq (pu_join pu_str (pu_call h_law_lines (hr.mono (by decide)) tk (pa_consU (pu_var 9) pa_nilU))) (pu_var 7) (nomark _))))))))))))))))
end
/-- what the top has left -/
abbrev clsL (mg : Str → Option Value) : Str → Addr := clsOf mg
structure Tx (K : PySem.W.Frag) (mg : Str → Option Value) : Prop where
  a_made : At K mg "made" "made" t_made
  a_added : At K mg "added" "added" t_added
  a_timed : At K mg "timed" "timed" t_timed
  a_is_below : At K mg "is_below" "is_below" t_is_below
  a_number_of : At K mg "number_of" "number_of" t_number_of
  a_rest_of : At K mg "rest_of" "rest_of" t_rest_of
  a_mixed_of : At K mg "mixed_of" "mixed_of" t_mixed_of
  a_clocked_of : At K mg "clocked_of" "clocked_of" t_clocked_of
  a_read_time : At K mg "read_time" "read_time" t_read_time
  a_need_word : At K mg "need_word" "need_word" t_need_word
  a_frames_of : At K mg "frames_of" "frames_of" t_frames_of
  a_head_of : At K mg "head_of" "head_of" t_head_of
  a_word_of : At K mg "word_of" "word_of" t_word_of
  a_read_cues : At K mg "read_cues" "read_cues" t_read_cues
  a_law_begun : At K mg "_law_begun" "_law_begun" t_law_begun
  a_law_take : At K mg "_law_take" "_law_take" t_law_take
  a_law_fr : At K mg "_law_fr" "_law_fr" t_law_fr
  a_law_sum : At K mg "_law_sum" "_law_sum" t_law_sum
  a_law_minus : At K mg "_law_minus" "_law_minus" t_law_minus
  a_law_times : At K mg "_law_times" "_law_times" t_law_times
  a_law_low : At K mg "_law_low" "_law_low" t_law_low
  a_law_time : At K mg "_law_time" "_law_time" t_law_time
  a_law_cue : At K mg "_law_cue" "_law_cue" t_law_cue
  a_law_cues : At K mg "_law_cues" "_law_cues" t_law_cues
  a_law_mixed : At K mg "_law_mixed" "_law_mixed" t_law_mixed
  a_law_lines : At K mg "_law_lines" "_law_lines" t_law_lines
  a_law_good : At K mg "_law_good" "_law_good" t_law_good
  a_law_none : At K mg "_law_none" "_law_none" t_law_none
  a_law_spoilt : At K mg "_law_spoilt" "_law_spoilt" t_law_spoilt
  a_law_odd : At K mg "_law_odd" "_law_odd" t_law_odd
  a_law : At K mg "law" "law" t_law
  m_abs : mg "abs" = none
  m_len : mg "len" = none
  m_int : mg "int" = none
  m_enumerate : mg "enumerate" = none
  m_list : mg "list" = none
  m_range : mg "range" = none
  m_sorted : mg "sorted" = none
  m_str : mg "str" = none
  m_isinstance : mg "isinstance" = none
  m_tuple : mg "tuple" = none
  m_bool : mg "bool" = none
  m_ValueError : mg "ValueError" = none
  k_MOST_FIGURES : ConstOk K mg "MOST_FIGURES" (.int 9)
  x_BadTime : ExM K mg (clsOf mg) "BadTime"
  k_FIGURES : ConstOk K mg "FIGURES" (.str (Str.ofString "0123456789"))
  k_MOST_WORD : ConstOk K mg "MOST_WORD" (.int 20)
  k_LETTERS : ConstOk K mg "LETTERS" (.str (Str.ofString "abcdefghijklmnopqrstuvwxyz"))
  f_BadTime : ExF K mg (clsOf mg) "BadTime"
  kn_BadTime : KnOk K (clsOf mg) (.ref (clsOf mg "BadTime")) knl_BadTime
  bn_BadNote : BnOk K mg (clsOf mg) "BadNote" "ReelError" "line" "BadNote.__init__" t_BadNote_init
  f_ReelError : ExF K mg (clsOf mg) "ReelError"
  kn_ReelError : KnOk K (clsOf mg) (.ref (clsOf mg "ReelError")) knl_ReelError
  ec_ReelError : EcOk K (clsOf mg) knl_ReelError
  f_BadNote : ExF K mg (clsOf mg) "BadNote"
  kn_BadNote : KnOk K (clsOf mg) (.ref (clsOf mg "BadNote")) knl_BadNote
  kn_ValueError : KnOk K (clsOf mg) (.type "ValueError") knl_ValueError
theorem law_ok {P : Program} {w : World} {K : PySem.W.Frag} {mg : Str → Option Value} {base : Heap} {f : Addr} {fd : FuncData} (T : Tx K mg) (F : Fun K "law" "law" t_law f fd) : FnOk P w K mg base (L2.CX P w) 8 f fd ["_law_script"] (spU (gK K (clsOf mg)) 1 S_law) := by
  have h_made : Has P w K mg base "made" ["top", "bottom"] 1 (spU (gK K (clsOf mg)) 2 S_made) := T.a_made.has (fun _ _ _ _ _ _ us hl => match us, hl with | [_, _], _ => rfl) fun hm hb F => ok_made T.m_abs F
  have h_added : Has P w K mg base "added" ["one", "two"] 2 (spU (gK K (clsOf mg)) 2 S_added) := T.a_added.has (fun _ _ _ _ _ _ us hl => match us, hl with | [_, _], _ => rfl) fun hm hb F => ok_added h_made F
  have h_timed : Has P w K mg base "timed" ["one", "two"] 2 (spU (gK K (clsOf mg)) 2 S_timed) := T.a_timed.has (fun _ _ _ _ _ _ us hl => match us, hl with | [_, _], _ => rfl) fun hm hb F => ok_timed h_made F
  have h_is_below : Has P w K mg base "is_below" ["one", "two"] 1 (spU (gK K (clsOf mg)) 2 S_is_below) := T.a_is_below.has (fun _ _ _ _ _ _ us hl => match us, hl with | [_, _], _ => rfl) fun hm hb F => ok_is_below  F
  have h_number_of : HasN P w K mg base "number_of" ["word"] 1 (spU (gK K (clsOf mg)) 1 S_number_of) := T.a_number_of.hasN (fun _ _ _ _ _ _ us hl => match us, hl with | [_], _ => rfl) fun hm hb F => ok_number_of T.m_len T.m_int T.k_MOST_FIGURES T.x_BadTime T.k_FIGURES F
  have h_rest_of : HasN P w K mg base "rest_of" ["word"] 2 (spU (gK K (clsOf mg)) 1 S_rest_of) := T.a_rest_of.hasN (fun _ _ _ _ _ _ us hl => match us, hl with | [_], _ => rfl) fun hm hb F => ok_rest_of T.x_BadTime h_number_of h_made F
  have h_mixed_of : HasN P w K mg base "mixed_of" ["text"] 3 (spU (gK K (clsOf mg)) 1 S_mixed_of) := T.a_mixed_of.hasN (fun _ _ _ _ _ _ us hl => match us, hl with | [_], _ => rfl) fun hm hb F => ok_mixed_of h_number_of h_rest_of h_added F
  have h_clocked_of : HasN P w K mg base "clocked_of" ["word", "rate"] 2 (spU (gK K (clsOf mg)) 2 S_clocked_of) := T.a_clocked_of.hasN (fun _ _ _ _ _ _ us hl => match us, hl with | [_, _], _ => rfl) fun hm hb F => ok_clocked_of T.m_len T.x_BadTime h_number_of F
  have h_read_time : HasN P w K mg base "read_time" ["text", "rate"] 4 (spU (gK K (clsOf mg)) 2 S_read_time) := T.a_read_time.hasN (fun _ _ _ _ _ _ us hl => match us, hl with | [_, _], _ => rfl) fun hm hb F => ok_read_time h_mixed_of h_timed h_clocked_of h_rest_of h_added F
  have h_need_word : HasN P w K mg base "need_word" ["word"] 1 (spU (gK K (clsOf mg)) 1 S_need_word) := T.a_need_word.hasN (fun _ _ _ _ _ _ us hl => match us, hl with | [_], _ => rfl) fun hm hb F => ok_need_word T.m_len T.k_MOST_WORD T.x_BadTime T.k_LETTERS F
  have h_frames_of : HasN P w K mg base "frames_of" ["text"] 5 (spU (gK K (clsOf mg)) 1 S_frames_of) := T.a_frames_of.hasN (fun _ _ _ _ _ _ us hl => match us, hl with | [_], _ => rfl) fun hm hb F => ok_frames_of T.x_BadTime h_read_time F
  have h_head_of : HasN P w K mg base "head_of" ["line"] 6 (spU (gK K (clsOf mg)) 1 S_head_of) := T.a_head_of.hasN (fun _ _ _ _ _ _ us hl => match us, hl with | [_], _ => rfl) fun hm hb F => ok_head_of T.x_BadTime h_number_of h_frames_of h_is_below F
  have h_word_of : HasN P w K mg base "word_of" ["line", "cue"] 6 (spU (gK K (clsOf mg)) 2 S_word_of) := T.a_word_of.hasN (fun _ _ _ _ _ _ us hl => match us, hl with | [_, _], _ => rfl) fun hm hb F => ok_word_of T.x_BadTime h_need_word h_frames_of h_is_below F
  have h_read_cues : Has P w K mg base "read_cues" ["text"] 7 (spO (gK K (clsOf mg)) 1 S_read_cues) := T.a_read_cues.has (fun _ _ _ _ _ _ us hl => match us, hl with | [_], _ => rfl) fun hm hb F => ok_read_cues T.m_enumerate T.x_BadTime T.f_BadTime T.kn_BadTime T.bn_BadNote h_head_of h_word_of F
  have h_law_begun : Has P w K mg base "_law_begun" ["_law_script"] 1 (spU (gK K (clsOf mg)) 1 S_law_begun) := T.a_law_begun.has (fun _ _ _ _ _ _ us hl => match us, hl with | [_], _ => rfl) fun hm hb F => ok_law_begun T.m_list T.m_int T.m_len F
  have h_law_take : Has P w K mg base "_law_take" ["_law_box", "_law_many"] 1 (spU (gK K (clsOf mg)) 2 S_law_take) := T.a_law_take.has (fun _ _ _ _ _ _ us hl => match us, hl with | [_, _], _ => rfl) fun hm hb F => ok_law_take  F
  have h_law_fr : Has P w K mg base "_law_fr" ["_law_top", "_law_bottom"] 1 (spU (gK K (clsOf mg)) 2 S_law_fr) := T.a_law_fr.has (fun _ _ _ _ _ _ us hl => match us, hl with | [_, _], _ => rfl) fun hm hb F => ok_law_fr T.m_abs F
  have h_law_sum : Has P w K mg base "_law_sum" ["_law_one", "_law_two"] 2 (spU (gK K (clsOf mg)) 2 S_law_sum) := T.a_law_sum.has (fun _ _ _ _ _ _ us hl => match us, hl with | [_, _], _ => rfl) fun hm hb F => ok_law_sum h_law_fr F
  have h_law_minus : Has P w K mg base "_law_minus" ["_law_one", "_law_two"] 2 (spU (gK K (clsOf mg)) 2 S_law_minus) := T.a_law_minus.has (fun _ _ _ _ _ _ us hl => match us, hl with | [_, _], _ => rfl) fun hm hb F => ok_law_minus h_law_fr F
  have h_law_times : Has P w K mg base "_law_times" ["_law_one", "_law_two"] 2 (spU (gK K (clsOf mg)) 2 S_law_times) := T.a_law_times.has (fun _ _ _ _ _ _ us hl => match us, hl with | [_, _], _ => rfl) fun hm hb F => ok_law_times h_law_fr F
  have h_law_low : Has P w K mg base "_law_low" ["_law_one", "_law_two"] 1 (spU (gK K (clsOf mg)) 2 S_law_low) := T.a_law_low.has (fun _ _ _ _ _ _ us hl => match us, hl with | [_, _], _ => rfl) fun hm hb F => ok_law_low  F
  have h_law_time : Has P w K mg base "_law_time" ["_law_box", "_law_most"] 2 (spU (gK K (clsOf mg)) 2 S_law_time) := T.a_law_time.has (fun _ _ _ _ _ _ us hl => match us, hl with | [_, _], _ => rfl) fun hm hb F => ok_law_time T.m_int h_law_take h_law_fr F
  have h_law_cue : Has P w K mg base "_law_cue" ["_law_box", "_law_number"] 3 (spU (gK K (clsOf mg)) 2 S_law_cue) := T.a_law_cue.has (fun _ _ _ _ _ _ us hl => match us, hl with | [_, _], _ => rfl) fun hm hb F => ok_law_cue T.m_range T.m_int T.m_len T.m_sorted h_law_take h_law_time h_law_sum h_law_minus h_law_fr h_law_times F
  have h_law_cues : Has P w K mg base "_law_cues" ["_law_box"] 4 (spU (gK K (clsOf mg)) 1 S_law_cues) := T.a_law_cues.has (fun _ _ _ _ _ _ us hl => match us, hl with | [_], _ => rfl) fun hm hb F => ok_law_cues T.m_range T.m_int h_law_take h_law_cue F
  have h_law_mixed : Has P w K mg base "_law_mixed" ["_law_time_here"] 1 (spU (gK K (clsOf mg)) 1 S_law_mixed) := T.a_law_mixed.has (fun _ _ _ _ _ _ us hl => match us, hl with | [_], _ => rfl) fun hm hb F => ok_law_mixed T.m_str F
  have h_law_lines : Has P w K mg base "_law_lines" ["_law_cues_here"] 2 (spU (gK K (clsOf mg)) 1 S_law_lines) := T.a_law_lines.has (fun _ _ _ _ _ _ us hl => match us, hl with | [_], _ => rfl) fun hm hb F => ok_law_lines T.m_str h_law_mixed F
  have h_law_good : Has P w K mg base "_law_good" ["_law_cues_here"] 2 (spU (gK K (clsOf mg)) 1 S_law_good) := T.a_law_good.has (fun _ _ _ _ _ _ us hl => match us, hl with | [_], _ => rfl) fun hm hb F => ok_law_good T.m_isinstance T.m_tuple T.m_len T.m_int T.m_list T.m_str h_law_low F
  have h_law_none : Has P w K mg base "_law_none" ["_law_box"] 2 (spU (gK K (clsOf mg)) 1 S_law_none) := T.a_law_none.has (fun _ _ _ _ _ _ us hl => match us, hl with | [_], _ => rfl) fun hm hb F => ok_law_none h_law_take F
  have h_law_spoilt : Has P w K mg base "_law_spoilt" ["_law_box", "_law_line"] 2 (spU (gK K (clsOf mg)) 2 S_law_spoilt) := T.a_law_spoilt.has (fun _ _ _ _ _ _ us hl => match us, hl with | [_, _], _ => rfl) fun hm hb F => ok_law_spoilt T.m_range T.m_len h_law_take F
  have h_law_odd : Has P w K mg base "_law_odd" ["_law_box", "_law_cues_here", "_law_lines_here"] 2 (spU (gK K (clsOf mg)) 3 S_law_odd) := T.a_law_odd.has (fun _ _ _ _ _ _ us hl => match us, hl with | [_, _, _], _ => rfl) fun hm hb F => ok_law_odd T.m_range T.m_len T.m_int h_law_take h_law_mixed F
  exact ok_law T.m_len T.m_isinstance T.m_int T.m_bool T.m_ValueError T.m_list T.f_ReelError T.kn_ReelError T.bn_BadNote T.ec_ReelError T.f_BadNote T.f_BadTime T.kn_BadNote T.kn_BadTime T.kn_ValueError h_law_begun h_law_cues h_law_lines h_law_take h_law_none h_law_odd h_law_spoilt h_read_cues h_law_good F
theorem fin {P : Program} {w : World} {K : PySem.W.Frag} {h : Heap} {mg : Str → Option Value} {fa : Addr} (X : K.In h) (hmg : mg "law" = some (.ref fa)) (T : Tx K mg) :
    ∃ fd : FuncData, (∀ (s : Shared) (u : Value), BindsTo s fd ⟨[u], []⟩ [("_law_script", u)]) ∧ ∀ base : Heap, K.In base → base.Ns mainGlobals mg → FnOk P w K mg base CX0 8 fa fd ["_law_script"] (spLaw S_law K) := by
  obtain ⟨f, fd, e, F⟩ := T.a_law
  have e2 := hmg.symm.trans e
  cases e2
  refine ⟨fd, fun s v => ?_, fun base hK hG => to0 (law_ok T F)⟩
  obtain ⟨oc, od, kV, doc, pm, an, cdv, ct, osl, rfl, lk, hcd⟩ := F.ex
  exact .of_eq rfl
end Dv

namespace Dv
open PySem PySem.Spec PyProof.Rows L2
local macro_rules | `(tactic| walk_at "ev") => `(tactic| try simp (disch := omega) only [sSeq_eq, seq_nx, seq_rt, seq_rto, seq_xc, seq_bk, seq_ct, seq_ite, sAsg, sAsgO, sExpr, sRet, sRetO, sRetN, sIf, sNext, uVar, uC, uUn, uBin, uB, uNot, uAnd, uOr, uTV, uAndV, uOrV, uNotV, uIf, uChain, uNil, uCons, uTup, uLst, uLstO, uFn, uFnO, uFz, uMv, uNew, uCall, uCallO, uCallN, uBinV, uBinW, uBinL, uMeO, uMeL, uFnV, sSetL, sAsgG, gN, gT2, gT3, gT4, iLst, iFn,   bind_ok, bind_xc, of_ok, of_xc, res_ok, res_xc, res0_ok, own_ok, own_xc, fr_nx, fr_rt, fr_rto, fr_xc, fo_rto, fo_xc, liftO_some, dBool_bl, items_lst, items_frz, ent, defU, defO, List.map_cons, List.map_nil, List.length_cons, List.length_nil, List.cons_append, List.nil_append, List.append_nil, List.replicate, List.getElem?_cons_zero, List.getElem?_cons_succ, List.set_cons_zero, List.set_cons_succ, Nat.zero_add, Nat.reduceAdd, Nat.reduceSub, Nat.reduceLeDiff,   le_big, lt_big, atN_zero, atN_one, atN_two, atN_three, setN_zero, setN_one, popAt_zero, len_zero, len_succ, dMul_r, dMul_l, dDiv_pos, dMod_pos, dAdd_int, dSub_int, dNeg_int, dLt_int, dLe_int, dGt_int, dGe_int, dEq_int, dNe_int, dEq_bl, dNe_bl, dEq_nil, dNe_nil, dIx_lst, dIx_tup, fAbs_int, fInt_bl, fInt_int, fLen_lst, fLen_frz, fLen_tup, ite_true, ite_false, if_true, if_false, Bool.not_true, Bool.not_false, decide_true, decide_false, Bool.true_eq_false, Bool.false_eq_true, reduceIte, reduceCtorEq, turn_nx, turn_ct, turn_bk, turn_rt, turn_rto, turn_xc, sFor_eq, goL_nil, eq_self])
local macro_rules | `(tactic| walk_at "evs") => `(tactic| try simp (disch := omega) only [sSeq_eq, seq_nx, seq_rt, seq_rto, seq_xc, seq_bk, seq_ct, seq_ite, sAsg, sAsgO, sExpr, sRet, sRetO, sRetN, sIf, sNext, uVar, uC, uUn, uBin, uB, uNot, uAnd, uOr, uTV, uAndV, uOrV, uNotV, uIf, uChain, uNil, uCons, uTup, uLst, uLstO, uFn, uFnO, uFz, uMv, uNew, uCall, uCallO, uCallN, uBinV, uBinW, uBinL, uMeO, uMeL, uFnV, sSetL, sAsgG, gN, gT2, gT3, gT4, iLst, iFn,   bind_ok, bind_xc, of_ok, of_xc, res_ok, res_xc, res0_ok, own_ok, own_xc, fr_nx, fr_rt, fr_rto, fr_xc, fo_rto, fo_xc, liftO_some, dBool_bl, items_lst, items_frz, ent, defU, defO, List.map_cons, List.map_nil, List.length_cons, List.length_nil, List.cons_append, List.nil_append, List.append_nil, List.replicate, List.getElem?_cons_zero, List.getElem?_cons_succ, List.set_cons_zero, List.set_cons_succ, Nat.zero_add, Nat.reduceAdd, Nat.reduceSub, Nat.reduceLeDiff,   le_big, lt_big, atN_zero, atN_one, atN_two, atN_three, setN_zero, setN_one, popAt_zero, len_zero, len_succ, dMul_r, dMul_l, dDiv_pos, dMod_pos, dAdd_int, dSub_int, dNeg_int, dLt_int, dLe_int, dGt_int, dGe_int, dEq_int, dNe_int, dEq_bl, dNe_bl, dEq_nil, dNe_nil, dIx_lst, dIx_tup, fAbs_int, fInt_bl, fInt_int, fLen_lst, fLen_frz, fLen_tup, ite_true, ite_false, if_true, if_false, Bool.not_true, Bool.not_false, decide_true, decide_false, Bool.true_eq_false, Bool.false_eq_true, reduceIte, reduceCtorEq, turn_nx, turn_ct, turn_bk, turn_rt, turn_rto, turn_xc, sFor_eq, goL_nil, eq_self, *])
theorem take_eq {m : Int} (b : Box) (rest : Om) (h : 0 < m) (h2 : m < 1073741824) : S_law_take [.loc 1, .int m] (bom b rest) = .ok (.int (tkv m b)) (bom (tkn m b) rest) := by
  obtain ⟨ns, s, hs⟩ := b
  cases ns with
  | nil =>
    unfold S_law_take u_law_take bom tkv tkn
    walk_at "ev"
  | cons n r =>
    unfold S_law_take u_law_take bom tkv tkn
    walk_at "ev"
    by_cases h0 : n / m = 0
    · simp only [h0, decide_true, true_or, if_true]
      walk_at "ev"
    · by_cases h1 : n / m = -1
      · simp only [h0, h1, decide_true, decide_false, or_true, if_true]
        walk_at "ev"
      · simp only [h0, h1, decide_false, or_self, if_false]
        walk_at "ev"

theorem begun_eq (ns : List Int) : ∃ b : Box, S_law_begun [.frz (ns.map D.int)] [] = .ok (.loc 1) (bom b []) := by
  obtain ⟨st, r, h, e⟩ := begun_loop (.frz (ns.map D.int)) [] ns 0 none ⟨by decide, by decide⟩
  unfold S_law_begun u_law_begun
  walk_at "ev"
  rw [e]
  walk_at "ev"
  simp only [fList]
  walk_at "ev"
  by_cases hl : (2 : Int) < ((ns.map D.int).length : Int)
  · simp only [hl, decide_true, if_true, Int.mul_one]
    exact ⟨⟨ns, st, h⟩, rfl⟩
  · simp only [hl, decide_false, if_false, Int.mul_zero, Bool.false_eq_true]
    exact ⟨⟨ns, 0, by decide, by decide⟩, rfl⟩
theorem made_gen {t b : Int} (om : Om) (hb : b ≠ 0) (ok1 : divOk t (gN' t b) = true) (ok2 : divOk b (gN' t b) = true) : S_made [.int t, .int b] om = .ok (encF (mk t b)) om := by
  obtain ⟨r', e⟩ := gcd_loop (some (.val (.int t))) (some (.val (.int b))) om b.natAbs (b.natAbs + 1) t.natAbs b.natAbs none (Nat.le_refl _) (Nat.lt_succ_self _)
  have hne := gN'_ne (t := t) hb
  have hle := gN'_le (t := t) hb
  have d1 := dDiv_int (i := t) hne ok1
  have d2 := dDiv_int (i := b) hne ok2
  unfold S_made u_made
  walk_at "ev"
  rw [sWhile_eq, abs_if, abs_if]
  simp only [fuelI, List.getElem?_cons_succ, List.getElem?_cons_zero, Int.natAbs_natCast]
  rw [e]
  have hg : (Nat.gcd t.natAbs b.natAbs : Nat) = Int.gcd t b := rfl
  rw [hg]
  walk_at "ev"
  by_cases hn : b < 0
  · have eg : gN' t b = -(Int.gcd t b : Int) := by unfold gN'; rw [if_pos hn]
    simp only [hn, decide_true, if_true]
    walk_at "ev"
    rw [eg] at d1 d2
    clear hne hle ok1 ok2 hn
    walk_at "evs"
    unfold mk
    rw [eg]
  · have eg : gN' t b = (Int.gcd t b : Int) := by unfold gN'; rw [if_neg hn]
    simp only [hn, decide_false, if_false, Bool.false_eq_true]
    walk_at "ev"
    rw [eg] at d1 d2
    clear hne hle ok1 ok2 hn
    walk_at "evs"
    unfold mk
    rw [eg]
theorem made_eq {t b : Int} (om : Om) (hb : b ≠ 0) (hs : b.natAbs < 2 ^ 9000) : S_made [.int t, .int b] om = .ok (encF (mk t b)) om :=
  made_gen om hb (divOk_bits (Nat.lt_of_le_of_lt (gN'_le hb) hs)) (divOk_bits (Nat.lt_of_le_of_lt (gN'_le hb) hs))
theorem lfr_gen {t b : Int} (om : Om) (hb : b ≠ 0) (ok1 : divOk t (gN' t b) = true) (ok2 : divOk b (gN' t b) = true) : S_law_fr [.int t, .int b] om = .ok (encF (mk t b)) om := by
  obtain ⟨r', e⟩ := gcd_loop (some (.val (.int t))) (some (.val (.int b))) om b.natAbs (b.natAbs + 1) t.natAbs b.natAbs none (Nat.le_refl _) (Nat.lt_succ_self _)
  have hne := gN'_ne (t := t) hb
  have hle := gN'_le (t := t) hb
  have d1 := dDiv_int (i := t) hne ok1
  have d2 := dDiv_int (i := b) hne ok2
  unfold S_law_fr u_law_fr
  walk_at "ev"
  rw [sWhile_eq, abs_if, abs_if]
  simp only [fuelI, List.getElem?_cons_succ, List.getElem?_cons_zero, Int.natAbs_natCast]
  rw [e]
  have hg : (Nat.gcd t.natAbs b.natAbs : Nat) = Int.gcd t b := rfl
  rw [hg]
  walk_at "ev"
  by_cases hn : b < 0
  · have eg : gN' t b = -(Int.gcd t b : Int) := by unfold gN'; rw [if_pos hn]
    simp only [hn, decide_true, if_true]
    walk_at "ev"
    rw [eg] at d1 d2
    rw [Int.zero_sub]
    clear hne hle ok1 ok2 hn
    walk_at "evs"
    unfold mk
    rw [eg]
  · have eg : gN' t b = (Int.gcd t b : Int) := by unfold gN'; rw [if_neg hn]
    simp only [hn, decide_false, if_false, Bool.false_eq_true]
    walk_at "ev"
    rw [eg] at d1 d2
    clear hne hle ok1 ok2 hn
    walk_at "evs"
    unfold mk
    rw [eg]
theorem lfr_eq {t b : Int} (om : Om) (hb : b ≠ 0) (hs : b.natAbs < 2 ^ 9000) : S_law_fr [.int t, .int b] om = .ok (encF (mk t b)) om :=
  lfr_gen om hb (divOk_bits (Nat.lt_of_le_of_lt (gN'_le hb) hs)) (divOk_bits (Nat.lt_of_le_of_lt (gN'_le hb) hs))
section
variable {N M : Nat} {a b : Fr} (om : Om) (ha : Bd N a) (hb : Bd M b) (hz : N + M ≤ 13000)
include ha hb hz
theorem added_eq : S_added [encF a, encF b] om = .ok (encF (fsum a b)) om := by
  have m1 := dMul_int (mulOk_bits ha.n hb.d (by omega))
  have m2 := dMul_int (mulOk_bits hb.n ha.d (by omega))
  have m3 := dMul_int (mulOk_bits ha.d hb.d (by omega))
  have e := made_gen (t := a.1 * b.2 + b.1 * a.2) om (pos_mul ha.p hb.p) (divOk_big (pow_13400 (bits_add (bits_mul ha.n hb.d) (by rw [Nat.add_comm]; exact bits_mul hb.n ha.d)) (by omega))) (divOk_big (pow_13400 (bits_mul ha.d hb.d) (by omega)))
  unfold S_added u_added
  walk_at "evs"
  rfl
theorem lsum_eq : S_law_sum [encF a, encF b] om = .ok (encF (fsum a b)) om := by
  have m1 := dMul_int (mulOk_bits ha.n hb.d (by omega))
  have m2 := dMul_int (mulOk_bits hb.n ha.d (by omega))
  have m3 := dMul_int (mulOk_bits ha.d hb.d (by omega))
  have e := lfr_gen (t := a.1 * b.2 + b.1 * a.2) om (pos_mul ha.p hb.p) (divOk_big (pow_13400 (bits_add (bits_mul ha.n hb.d) (by rw [Nat.add_comm]; exact bits_mul hb.n ha.d)) (by omega))) (divOk_big (pow_13400 (bits_mul ha.d hb.d) (by omega)))
  unfold S_law_sum u_law_sum
  walk_at "evs"
  rfl
theorem lminus_eq : S_law_minus [encF a, encF b] om = .ok (encF (fsub a b)) om := by
  have m1 := dMul_int (mulOk_bits ha.n hb.d (by omega))
  have m2 := dMul_int (mulOk_bits hb.n ha.d (by omega))
  have m3 := dMul_int (mulOk_bits ha.d hb.d (by omega))
  have e := lfr_gen (t := a.1 * b.2 - b.1 * a.2) om (pos_mul ha.p hb.p) (divOk_big (pow_13400 (bits_sub (bits_mul ha.n hb.d) (by rw [Nat.add_comm]; exact bits_mul hb.n ha.d)) (by omega))) (divOk_big (pow_13400 (bits_mul ha.d hb.d) (by omega)))
  unfold S_law_minus u_law_minus
  walk_at "evs"
  rfl
theorem timed_eq : S_timed [encF a, encF b] om = .ok (encF (fmul a b)) om := by
  have m1 := dMul_int (mulOk_bits ha.n hb.n (by omega))
  have m3 := dMul_int (mulOk_bits ha.d hb.d (by omega))
  have e := made_gen (t := a.1 * b.1) om (pos_mul ha.p hb.p) (divOk_big (pow_13400 (bits_mul ha.n hb.n) (by omega))) (divOk_big (pow_13400 (bits_mul ha.d hb.d) (by omega)))
  unfold S_timed u_timed
  walk_at "evs"
  rfl
theorem ltimes_eq : S_law_times [encF a, encF b] om = .ok (encF (fmul a b)) om := by
  have m1 := dMul_int (mulOk_bits ha.n hb.n (by omega))
  have m3 := dMul_int (mulOk_bits ha.d hb.d (by omega))
  have e := lfr_gen (t := a.1 * b.1) om (pos_mul ha.p hb.p) (divOk_big (pow_13400 (bits_mul ha.n hb.n) (by omega))) (divOk_big (pow_13400 (bits_mul ha.d hb.d) (by omega)))
  unfold S_law_times u_law_times
  walk_at "evs"
  rfl
theorem below_eq : S_is_below [encF a, encF b] om = .ok (.bl (flt a b)) om := by
  have m1 := dMul_int (mulOk_bits ha.n hb.d (by omega))
  have m2 := dMul_int (mulOk_bits hb.n ha.d (by omega))
  unfold S_is_below u_is_below
  walk_at "evs"
  rfl
theorem llow_eq : S_law_low [encF a, encF b] om = .ok (.bl (flt a b)) om := by
  have m1 := dMul_int (mulOk_bits ha.n hb.d (by omega))
  have m2 := dMul_int (mulOk_bits hb.n ha.d (by omega))
  unfold S_law_low u_law_low
  walk_at "evs"
  rfl
end
end Dv

namespace Dv
open PySem PySem.Spec PyProof.Rows L2
local macro_rules | `(tactic| walk_at "ev") => `(tactic| try simp (disch := omega) only [sSeq_eq, seq_nx, seq_rt, seq_rto, seq_xc, seq_bk, seq_ct, seq_ite, sAsg, sAsgO, sExpr, sRet, sRetO, sRetN, sIf, sNext, uVar, uC, uUn, uBin, uB, uNot, uAnd, uOr, uTV, uAndV, uOrV, uNotV, uIf, uChain, uNil, uCons, uTup, uLst, uLstO, uFn, uFnO, uFz, uMv, uNew, uCall, uCallO, uCallN, uBinV, uBinW, uBinL, uMeO, uMeL, uFnV, sSetL, sAsgG, gN, gT2, gT3, gT4, iLst, iFn,   bind_ok, bind_xc, of_ok, of_xc, res_ok, res_xc, res0_ok, own_ok, own_xc, fr_nx, fr_rt, fr_rto, fr_xc, fo_rto, fo_xc, liftO_some, dBool_bl, items_lst, items_frz, ent, defU, defO, List.map_cons, List.map_nil, List.length_cons, List.length_nil, List.cons_append, List.nil_append, List.append_nil, List.replicate, List.getElem?_cons_zero, List.getElem?_cons_succ, List.set_cons_zero, List.set_cons_succ, Nat.zero_add, Nat.reduceAdd, Nat.reduceSub, Nat.reduceLeDiff,   le_big, lt_big, atN_zero, atN_one, atN_two, atN_three, setN_zero, setN_one, popAt_zero, len_zero, len_succ, dMul_r, dMul_l, dDiv_pos, dMod_pos, dAdd_int, dSub_int, dNeg_int, dLt_int, dLe_int, dGt_int, dGe_int, dEq_int, dNe_int, dEq_bl, dNe_bl, dEq_nil, dNe_nil, dIx_lst, dIx_tup, fAbs_int, fInt_bl, fInt_int, fLen_lst, fLen_frz, fLen_tup, ite_true, ite_false, if_true, if_false, Bool.not_true, Bool.not_false, decide_true, decide_false, Bool.true_eq_false, Bool.false_eq_true, reduceIte, reduceCtorEq, turn_nx, turn_ct, turn_bk, turn_rt, turn_rto, turn_xc, sFor_eq, goL_nil, eq_self])
local macro_rules | `(tactic| walk_at "evs") => `(tactic| try simp (disch := omega) only [sSeq_eq, seq_nx, seq_rt, seq_rto, seq_xc, seq_bk, seq_ct, seq_ite, sAsg, sAsgO, sExpr, sRet, sRetO, sRetN, sIf, sNext, uVar, uC, uUn, uBin, uB, uNot, uAnd, uOr, uTV, uAndV, uOrV, uNotV, uIf, uChain, uNil, uCons, uTup, uLst, uLstO, uFn, uFnO, uFz, uMv, uNew, uCall, uCallO, uCallN, uBinV, uBinW, uBinL, uMeO, uMeL, uFnV, sSetL, sAsgG, gN, gT2, gT3, gT4, iLst, iFn,   bind_ok, bind_xc, of_ok, of_xc, res_ok, res_xc, res0_ok, own_ok, own_xc, fr_nx, fr_rt, fr_rto, fr_xc, fo_rto, fo_xc, liftO_some, dBool_bl, items_lst, items_frz, ent, defU, defO, List.map_cons, List.map_nil, List.length_cons, List.length_nil, List.cons_append, List.nil_append, List.append_nil, List.replicate, List.getElem?_cons_zero, List.getElem?_cons_succ, List.set_cons_zero, List.set_cons_succ, Nat.zero_add, Nat.reduceAdd, Nat.reduceSub, Nat.reduceLeDiff,   le_big, lt_big, atN_zero, atN_one, atN_two, atN_three, setN_zero, setN_one, popAt_zero, len_zero, len_succ, dMul_r, dMul_l, dDiv_pos, dMod_pos, dAdd_int, dSub_int, dNeg_int, dLt_int, dLe_int, dGt_int, dGe_int, dEq_int, dNe_int, dEq_bl, dNe_bl, dEq_nil, dNe_nil, dIx_lst, dIx_tup, fAbs_int, fInt_bl, fInt_int, fLen_lst, fLen_frz, fLen_tup, ite_true, ite_false, if_true, if_false, Bool.not_true, Bool.not_false, decide_true, decide_false, Bool.true_eq_false, Bool.false_eq_true, reduceIte, reduceCtorEq, turn_nx, turn_ct, turn_bk, turn_rt, turn_rto, turn_xc, sFor_eq, goL_nil, eq_self, *])
local macro_rules | `(tactic| walk_at "evt") => `(tactic| try simp (disch := first | omega | (simp only [List.length_append, List.length_cons, List.length_nil, List.length_map]; omega)) only [sSeq_eq, seq_nx, seq_rt, seq_rto, seq_xc, seq_bk, seq_ct, seq_ite, sAsg, sAsgO, sExpr, sRet, sRetO, sRetN, sIf, sNext, uVar, uC, uUn, uBin, uB, uNot, uAnd, uOr, uTV, uAndV, uOrV, uNotV, uIf, uChain, uNil, uCons, uTup, uLst, uLstO, uFn, uFnO, uFz, uMv, uNew, uCall, uCallO, uCallN, uBinV, uBinW, uBinL, uMeO, uMeL, uFnV, sSetL, sAsgG, gN, gT2, gT3, gT4, iLst, iFn,   bind_ok, bind_xc, of_ok, of_xc, res_ok, res_xc, res0_ok, own_ok, own_xc, fr_nx, fr_rt, fr_rto, fr_xc, fo_rto, fo_xc, liftO_some, dBool_bl, items_lst, items_frz, ent, defU, defO, List.map_cons, List.map_nil, List.length_cons, List.length_nil, List.cons_append, List.nil_append, List.append_nil, List.replicate, List.getElem?_cons_zero, List.getElem?_cons_succ, List.set_cons_zero, List.set_cons_succ, Nat.zero_add, Nat.reduceAdd, Nat.reduceSub, Nat.reduceLeDiff,   le_big, lt_big, atN_zero, atN_one, atN_two, atN_three, setN_zero, setN_one, popAt_zero, len_zero, len_succ, dMul_r, dMul_l, dDiv_pos, dMod_pos, dAdd_int, dSub_int, dNeg_int, dLt_int, dLe_int, dGt_int, dGe_int, dEq_int, dNe_int, dEq_bl, dNe_bl, dEq_nil, dNe_nil, dIx_lst, dIx_tup, fAbs_int, fInt_bl, fInt_int, fLen_lst, fLen_frz, fLen_tup, ite_true, ite_false, if_true, if_false, Bool.not_true, Bool.not_false, decide_true, decide_false, Bool.true_eq_false, Bool.false_eq_true, reduceIte, reduceCtorEq, turn_nx, turn_ct, turn_bk, turn_rt, turn_rto, turn_xc, sFor_eq, goL_nil, eq_self, sRaise, gT2, gT3, gT4, sAsgG, uM1, uOrS, uSlS, uSlW, uCatV, uPart, uNoPart, iStrU, k_colon, k_blank, k_line, k_f, k_s, k_0, k_empty, k_digits, k_abc, k_alpha, k_cue, k_from, k_to, k_at, k_two, k_fto, k_nl, k_a1, dAdd_tx, fLen_tx, fStr_nat, dEq_tx, dNe_tx, dEq_txn, dNe_txn, len_tx, cutS_l1, cutS_b1, cutS_ln, cutS_bn, dIx_tx0, *])
/-! ### numbers read -/
def bad : DX := ⟨"BadTime", []⟩
section
variable (om : Om)
theorem sgn_loop (v0 : Option Sl) : ∀ (r : List Nat) (x : Option Sl), (r.all isDig = true → ∃ y, goL (gN 1) (sIf (uB (uBin dNotIn (uVar 1) (uC (tx [48, 49, 50, 51, 52, 53, 54, 55, 56, 57])))) (sRaise ⟨"BadTime", []⟩) sNext) (r.map fun c => tx [c]) [v0, x] om = .nx [v0, y] om) ∧
    (r.all isDig = false → ∃ y, goL (gN 1) (sIf (uB (uBin dNotIn (uVar 1) (uC (tx [48, 49, 50, 51, 52, 53, 54, 55, 56, 57])))) (sRaise ⟨"BadTime", []⟩) sNext) (r.map fun c => tx [c]) [v0, x] om = .xc ⟨"BadTime", []⟩ [v0, y] om)
  | [], x => ⟨fun _ => ⟨x, rfl⟩, fun h => by cases h⟩
  | c :: r, x => by
    have e := dNotIn_dig c
    obtain ⟨h1, h2⟩ := sgn_loop v0 r (some (.val (tx [c])))
    refine ⟨fun h => ?_, fun h => ?_⟩
    · rw [List.all_cons, Bool.and_eq_true] at h
      obtain ⟨y, g⟩ := h1 h.2
      rw [h.1] at e
      refine ⟨y, ?_⟩
      rw [List.map_cons, goL_cons (ρ1 := [v0, some (.val (tx [c]))]) _ _ rfl]
      clear h1 h2 h
      walk_at "evt"
    · rw [List.all_cons] at h
      cases hc : isDig c
      · rw [hc] at e
        refine ⟨some (.val (tx [c])), ?_⟩
        rw [List.map_cons, goL_cons (ρ1 := [v0, some (.val (tx [c]))]) _ _ rfl]
        clear h1 h2 h hc
        walk_at "evt"
      · rw [hc] at e h
        obtain ⟨y, g⟩ := h2 (by simpa using h)
        refine ⟨y, ?_⟩
        rw [List.map_cons, goL_cons (ρ1 := [v0, some (.val (tx [c]))]) _ _ rfl]
        clear h1 h2 h hc
        walk_at "evt"
theorem number_eq (l : List Nat) (hl : l.length ≤ 1000) : S_number_of [tx l] om = ofN (numV l) om := by
  have d3 : ∀ c d : Nat, decide ([c] = [d]) = decide (c = d) := fun c d => decide_eq_decide.mpr (by simp)
  match l, hl with
  | [], _ =>
    have e0 : fLen [tx []] = some (.int 0) := fLen_tx (by simp)
    have e1 : decide ((1 : Int) ≤ 0) = false := by decide
    show _ = FR.xc ⟨"BadTime", []⟩ om
    unfold S_number_of u_number_of
    walk_at "evt"
  | c :: r, hl =>
    have e0 : fLen [tx (c :: r)] = some (.int (((c :: r).length : Nat) : Int)) := fLen_tx (by omega)
    have e1 : decide ((1 : Int) ≤ (((c :: r).length : Nat) : Int)) = true := decide_eq_true (by simp only [List.length_cons]; omega)
    have e2 : dIx (tx (c :: r)) (.int 0) = some (tx [c]) := dIx_tx0 c (by simp only [List.length_cons] at hl; omega)
    have e3 : fSigns (tx (c :: r)) = some ((c :: r).map fun c => tx [c]) := rfl
    by_cases h9 : (c :: r).length ≤ 9
    · have e4 : decide ((((c :: r).length : Nat) : Int) ≤ 9) = true := decide_eq_true (by omega)
      by_cases hz : c = 48 ∧ 1 < (c :: r).length
      · have e5 : decide (c = 48) = true := decide_eq_true hz.1
        have e6 : decide ((1 : Int) < (((c :: r).length : Nat) : Int)) = true := decide_eq_true (by omega)
        have en : numV (c :: r) = none := by
          unfold numV
          rw [if_pos (.inr (.inr (.inl ⟨by rw [hz.1]; rfl, hz.2⟩)))]
        rw [en]
        show _ = FR.xc ⟨"BadTime", []⟩ om
        unfold S_number_of u_number_of
        generalize (c :: r).length = n at *
        clear hl hz h9 en
        walk_at "evt"
      · have e7 : (decide (c = 48) = false) ∨ (decide (c = 48) = true ∧ decide ((1 : Int) < (((c :: r).length : Nat) : Int)) = false) := by
          by_cases hc : c = 48
          · exact .inr ⟨decide_eq_true hc, decide_eq_false (by omega)⟩
          · exact .inl (decide_eq_false hc)
        obtain ⟨g1, g2⟩ := sgn_loop om (some (.val (tx (c :: r)))) (c :: r) none
        cases ha : (c :: r).all isDig
        · have en : numV (c :: r) = none := by
            unfold numV
            rw [if_pos (.inr (.inr (.inr ha)))]
          obtain ⟨y, g⟩ := g2 ha
          rw [en]
          show _ = FR.xc ⟨"BadTime", []⟩ om
          unfold S_number_of u_number_of
          generalize (c :: r).length = n at *
          generalize List.map (fun c => tx [c]) (c :: r) = items at *
          clear hl hz h9 en g1 g2 ha
          rcases e7 with e7 | ⟨e7, e8⟩ <;> walk_at "evt"
        · have en : numV (c :: r) = some (NumText.digitsVal (c :: r)) := by
            unfold numV
            rw [if_neg]
            rintro (h | h | h | h)
            · simp at h
            · omega
            · exact hz ⟨by simpa using h.1, h.2⟩
            · rw [ha] at h; cases h
          have ei := fIntS_tx (l := c :: r) (by simp) (by omega) ha
          obtain ⟨y, g⟩ := g1 ha
          rw [en]
          show _ = FR.ok (.int (NumText.digitsVal (c :: r) : Nat)) om
          unfold S_number_of u_number_of
          generalize (c :: r).length = n at *
          generalize List.map (fun c => tx [c]) (c :: r) = items at *
          clear hl hz h9 en g1 g2 ha
          rcases e7 with e7 | ⟨e7, e8⟩ <;> walk_at "evt"
    · have e4 : decide ((((c :: r).length : Nat) : Int) ≤ 9) = false := decide_eq_false (by omega)
      have en : numV (c :: r) = none := by
        unfold numV
        rw [if_pos (.inr (.inl (by omega)))]
      rw [en]
      show _ = FR.xc ⟨"BadTime", []⟩ om
      unfold S_number_of u_number_of
      generalize (c :: r).length = n at *
      clear hl h9 en e2
      walk_at "evt"
/-! rests, mixed numbers -/
theorem number_nil : S_number_of [tx []] om = .xc ⟨"BadTime", []⟩ om := number_eq om [] (by simp)
theorem rest_eq (l : List Nat) (hl : l.length ≤ 1000) : S_rest_of [tx l] om = ofF (restV l) om := by
  have ep := fPart_tx (l := l) (S := [47]) (by simp) (by omega)
  unfold restV
  cases e : TL.par [47] [] l with
  | none =>
    rw [e] at ep
    dsimp only at ep
    have e1 := number_eq om l hl
    have e2 := number_nil om
    show _ = FR.xc ⟨"BadTime", []⟩ om
    unfold S_rest_of u_rest_of
    clear e hl
    cases en : numV l with
    | none =>
      rw [en] at e1
      simp only [ofN] at e1
      clear en
      walk_at "evt"
    | some n =>
      rw [en] at e1
      simp only [ofN] at e1
      clear en
      walk_at "evt"
  | some ab =>
    obtain ⟨a, b⟩ := ab
    rw [e] at ep
    dsimp only at ep ⊢
    have hpl := par_len e
    have e1 := number_eq om a (by omega)
    have e2 := number_eq om b (by omega)
    clear e hl hpl
    cases en : numV a with
    | none =>
      rw [en] at e1
      simp only [ofN] at e1
      show _ = FR.xc ⟨"BadTime", []⟩ om
      unfold S_rest_of u_rest_of
      clear en e2
      walk_at "evt"
    | some p =>
      rw [en] at e1
      have hp := numV_lt en
      cases en2 : numV b with
      | none =>
        rw [en2] at e2
        simp only [ofN] at e1 e2
        show _ = FR.xc ⟨"BadTime", []⟩ om
        unfold S_rest_of u_rest_of
        clear en en2 hp
        walk_at "evt"
      | some q =>
        rw [en2] at e2
        have hq := numV_lt en2
        simp only [ofN] at e1 e2
        dsimp only
        clear en en2
        by_cases h0 : p = 0
        · have d1 : decide ((p : Int) = 0) = true := decide_eq_true (by omega)
          rw [if_pos (.inl h0)]
          show _ = FR.xc ⟨"BadTime", []⟩ om
          unfold S_rest_of u_rest_of
          clear hp hq h0
          walk_at "evt"
        · have d1 : decide ((p : Int) = 0) = false := decide_eq_false (by omega)
          by_cases h1 : q ≤ p
          · have d2 : decide ((q : Int) ≤ (p : Int)) = true := decide_eq_true (by omega)
            rw [if_pos (.inr (.inl h1))]
            show _ = FR.xc ⟨"BadTime", []⟩ om
            unfold S_rest_of u_rest_of
            clear hp hq h0 h1
            walk_at "evt"
          · have d2 : decide ((q : Int) ≤ (p : Int)) = false := decide_eq_false (by omega)
            have p9 : (2 : Nat) ^ 30 ≤ 2 ^ 9000 := Nat.pow_le_pow_right (by decide) (by decide)
            have p6 : (2 : Nat) ^ 30 = 1073741824 := by decide
            have em := made_eq (t := (p : Int)) (b := (q : Int)) om (by omega) (by omega)
            have ed := dNe_fr (mk p q) ((p : Int), (q : Int))
            by_cases h2 : mk p q = ((p : Int), (q : Int))
            · rw [decide_eq_true h2] at ed
              rw [if_neg (fun z => z.elim h0 fun z => z.elim h1 fun z => z h2)]
              show _ = FR.ok (encF ((p : Int), (q : Int))) om
              unfold S_rest_of u_rest_of
              generalize mk (p : Int) (q : Int) = m at *
              clear hp hq h0 h1 p9 p6 h2
              walk_at "evt"
            · rw [decide_eq_false h2] at ed
              rw [if_pos (.inr (.inr h2))]
              show _ = FR.xc ⟨"BadTime", []⟩ om
              unfold S_rest_of u_rest_of
              generalize mk (p : Int) (q : Int) = m at *
              clear hp hq h0 h1 p9 p6 h2
              walk_at "evt"
theorem mixed_of_eq (l : List Nat) (hl : l.length ≤ 1000) : S_mixed_of [tx l] om = ofF (mixV l) om := by
  have ep := fPart_tx (l := l) (S := [32]) (by simp) (by omega)
  unfold mixV
  cases e : TL.par [32] [] l with
  | none =>
    rw [e] at ep
    dsimp only at ep ⊢
    have e1 := number_eq om l hl
    have d1 : decide (([] : List Nat) = []) = true := rfl
    clear e hl
    cases en : numV l with
    | none =>
      rw [en] at e1
      simp only [ofN] at e1
      show _ = FR.xc ⟨"BadTime", []⟩ om
      unfold S_mixed_of u_mixed_of
      clear en
      walk_at "evt"
    | some n =>
      rw [en] at e1
      simp only [ofN] at e1
      show _ = FR.ok (encF ((n : Int), 1)) om
      unfold S_mixed_of u_mixed_of
      clear en
      walk_at "evt"
  | some ab =>
    obtain ⟨a, b⟩ := ab
    rw [e] at ep
    dsimp only at ep ⊢
    have hpl := par_len e
    have e1 := number_eq om a (by omega)
    have e2 := rest_eq om b (by omega)
    have d1 : decide ([32] = ([] : List Nat)) = false := rfl
    clear e hl hpl
    cases en : numV a with
    | none =>
      rw [en] at e1
      simp only [ofN] at e1
      show _ = FR.xc ⟨"BadTime", []⟩ om
      unfold S_mixed_of u_mixed_of
      clear en e2
      walk_at "evt"
    | some p =>
      rw [en] at e1
      have hp := numV_lt en
      simp only [ofN] at e1
      cases er : restV b with
      | none =>
        rw [er] at e2
        simp only [ofF] at e2
        show _ = FR.xc ⟨"BadTime", []⟩ om
        unfold S_mixed_of u_mixed_of
        clear en er hp
        walk_at "evt"
      | some r =>
        rw [er] at e2
        have hb := (restV_bd er).1
        simp only [ofF] at e2
        have e3 := added_eq om (bd_num hp) hb (by decide)
        show _ = FR.ok (encF (fsum ((p : Int), 1) r)) om
        unfold S_mixed_of u_mixed_of
        clear en er hp hb
        walk_at "evt"
end
end Dv

namespace Dv
open PySem PySem.Spec PyProof.Rows L2
local macro_rules | `(tactic| walk_at "ev") => `(tactic| try simp (disch := omega) only [sSeq_eq, seq_nx, seq_rt, seq_rto, seq_xc, seq_bk, seq_ct, seq_ite, sAsg, sAsgO, sExpr, sRet, sRetO, sRetN, sIf, sNext, uVar, uC, uUn, uBin, uB, uNot, uAnd, uOr, uTV, uAndV, uOrV, uNotV, uIf, uChain, uNil, uCons, uTup, uLst, uLstO, uFn, uFnO, uFz, uMv, uNew, uCall, uCallO, uCallN, uBinV, uBinW, uBinL, uMeO, uMeL, uFnV, sSetL, sAsgG, gN, gT2, gT3, gT4, iLst, iFn,   bind_ok, bind_xc, of_ok, of_xc, res_ok, res_xc, res0_ok, own_ok, own_xc, fr_nx, fr_rt, fr_rto, fr_xc, fo_rto, fo_xc, liftO_some, dBool_bl, items_lst, items_frz, ent, defU, defO, List.map_cons, List.map_nil, List.length_cons, List.length_nil, List.cons_append, List.nil_append, List.append_nil, List.replicate, List.getElem?_cons_zero, List.getElem?_cons_succ, List.set_cons_zero, List.set_cons_succ, Nat.zero_add, Nat.reduceAdd, Nat.reduceSub, Nat.reduceLeDiff,   le_big, lt_big, atN_zero, atN_one, atN_two, atN_three, setN_zero, setN_one, popAt_zero, len_zero, len_succ, dMul_r, dMul_l, dDiv_pos, dMod_pos, dAdd_int, dSub_int, dNeg_int, dLt_int, dLe_int, dGt_int, dGe_int, dEq_int, dNe_int, dEq_bl, dNe_bl, dEq_nil, dNe_nil, dIx_lst, dIx_tup, fAbs_int, fInt_bl, fInt_int, fLen_lst, fLen_frz, fLen_tup, ite_true, ite_false, if_true, if_false, Bool.not_true, Bool.not_false, decide_true, decide_false, Bool.true_eq_false, Bool.false_eq_true, reduceIte, reduceCtorEq, turn_nx, turn_ct, turn_bk, turn_rt, turn_rto, turn_xc, sFor_eq, goL_nil, eq_self])
local macro_rules | `(tactic| walk_at "evs") => `(tactic| try simp (disch := omega) only [sSeq_eq, seq_nx, seq_rt, seq_rto, seq_xc, seq_bk, seq_ct, seq_ite, sAsg, sAsgO, sExpr, sRet, sRetO, sRetN, sIf, sNext, uVar, uC, uUn, uBin, uB, uNot, uAnd, uOr, uTV, uAndV, uOrV, uNotV, uIf, uChain, uNil, uCons, uTup, uLst, uLstO, uFn, uFnO, uFz, uMv, uNew, uCall, uCallO, uCallN, uBinV, uBinW, uBinL, uMeO, uMeL, uFnV, sSetL, sAsgG, gN, gT2, gT3, gT4, iLst, iFn,   bind_ok, bind_xc, of_ok, of_xc, res_ok, res_xc, res0_ok, own_ok, own_xc, fr_nx, fr_rt, fr_rto, fr_xc, fo_rto, fo_xc, liftO_some, dBool_bl, items_lst, items_frz, ent, defU, defO, List.map_cons, List.map_nil, List.length_cons, List.length_nil, List.cons_append, List.nil_append, List.append_nil, List.replicate, List.getElem?_cons_zero, List.getElem?_cons_succ, List.set_cons_zero, List.set_cons_succ, Nat.zero_add, Nat.reduceAdd, Nat.reduceSub, Nat.reduceLeDiff,   le_big, lt_big, atN_zero, atN_one, atN_two, atN_three, setN_zero, setN_one, popAt_zero, len_zero, len_succ, dMul_r, dMul_l, dDiv_pos, dMod_pos, dAdd_int, dSub_int, dNeg_int, dLt_int, dLe_int, dGt_int, dGe_int, dEq_int, dNe_int, dEq_bl, dNe_bl, dEq_nil, dNe_nil, dIx_lst, dIx_tup, fAbs_int, fInt_bl, fInt_int, fLen_lst, fLen_frz, fLen_tup, ite_true, ite_false, if_true, if_false, Bool.not_true, Bool.not_false, decide_true, decide_false, Bool.true_eq_false, Bool.false_eq_true, reduceIte, reduceCtorEq, turn_nx, turn_ct, turn_bk, turn_rt, turn_rto, turn_xc, sFor_eq, goL_nil, eq_self, *])
local macro_rules | `(tactic| walk_at "evt") => `(tactic| try simp (disch := first | omega | (simp only [List.length_append, List.length_cons, List.length_nil, List.length_map]; omega)) only [sSeq_eq, seq_nx, seq_rt, seq_rto, seq_xc, seq_bk, seq_ct, seq_ite, sAsg, sAsgO, sExpr, sRet, sRetO, sRetN, sIf, sNext, uVar, uC, uUn, uBin, uB, uNot, uAnd, uOr, uTV, uAndV, uOrV, uNotV, uIf, uChain, uNil, uCons, uTup, uLst, uLstO, uFn, uFnO, uFz, uMv, uNew, uCall, uCallO, uCallN, uBinV, uBinW, uBinL, uMeO, uMeL, uFnV, sSetL, sAsgG, gN, gT2, gT3, gT4, iLst, iFn,   bind_ok, bind_xc, of_ok, of_xc, res_ok, res_xc, res0_ok, own_ok, own_xc, fr_nx, fr_rt, fr_rto, fr_xc, fo_rto, fo_xc, liftO_some, dBool_bl, items_lst, items_frz, ent, defU, defO, List.map_cons, List.map_nil, List.length_cons, List.length_nil, List.cons_append, List.nil_append, List.append_nil, List.replicate, List.getElem?_cons_zero, List.getElem?_cons_succ, List.set_cons_zero, List.set_cons_succ, Nat.zero_add, Nat.reduceAdd, Nat.reduceSub, Nat.reduceLeDiff,   le_big, lt_big, atN_zero, atN_one, atN_two, atN_three, setN_zero, setN_one, popAt_zero, len_zero, len_succ, dMul_r, dMul_l, dDiv_pos, dMod_pos, dAdd_int, dSub_int, dNeg_int, dLt_int, dLe_int, dGt_int, dGe_int, dEq_int, dNe_int, dEq_bl, dNe_bl, dEq_nil, dNe_nil, dIx_lst, dIx_tup, fAbs_int, fInt_bl, fInt_int, fLen_lst, fLen_frz, fLen_tup, ite_true, ite_false, if_true, if_false, Bool.not_true, Bool.not_false, decide_true, decide_false, Bool.true_eq_false, Bool.false_eq_true, reduceIte, reduceCtorEq, turn_nx, turn_ct, turn_bk, turn_rt, turn_rto, turn_xc, sFor_eq, goL_nil, eq_self, sRaise, gT2, gT3, gT4, sAsgG, uM1, uOrS, uSlS, uSlW, uCatV, uPart, uNoPart, iStrU, k_colon, k_blank, k_line, k_f, k_s, k_0, k_empty, k_digits, k_abc, k_alpha, k_cue, k_from, k_to, k_at, k_two, k_fto, k_nl, k_a1, dAdd_tx, fLen_tx, fStr_nat, dEq_tx, dNe_tx, dEq_txn, dNe_txn, len_tx, cutS_l1, cutS_b1, cutS_ln, cutS_bn, dIx_tx0, *])
/-! ### clocks read -/
def cl_turn : US := (sSeq (sIf (uOr (uAnd (uB (uBin dGt (uFn fLen (uCons (uVar 4) uNil)) (uC (.int 2)))) (uB (uBin dEq (uBin dIx (uVar 4) (uC (.int 0))) (uC (tx [48]))))) (uB (uBin dLt (uFn fLen (uCons (uVar 4) uNil)) (uC (.int 2))))) (sRaise ⟨"BadTime", []⟩) sNext)
    (sExpr (uMeO 3 mAppend (uCons (uCall 1 S_number_of (uCons (uOrS (uM1 fLstripC (uVar 4) (uC (tx [48]))) (uC (tx [48]))) uNil)) uNil))))
section
variable (om : Om)
theorem cl_step (v0 v1 v2 : Option Sl) (xs : List D) (p : List Nat) (hp : p.length ≤ 1000) (hx : xs.length ≤ 10) :
    (∀ n, figV p = some n → cl_turn [v0, v1, v2, some (.own xs), some (.val (tx p))] om = .nx [v0, v1, v2, some (.own (xs ++ [.int (n : Int)])), some (.val (tx p))] om) ∧
    (figV p = none → cl_turn [v0, v1, v2, some (.own xs), some (.val (tx p))] om = .xc ⟨"BadTime", []⟩ [v0, v1, v2, some (.own xs), some (.val (tx p))] om) := by
  have e0 : fLen [tx p] = some (.int (p.length : Int)) := fLen_tx (by omega)
  have ap : ∀ n : Nat, mAppend xs [.int (n : Int)] = some (.non, xs ++ [.int (n : Int)]) := fun n => by
    unfold mAppend
    dsimp only
    rw [if_pos (Nat.lt_of_le_of_lt hx (by decide))]
  have es := fLstrip_tx (l := p) (by omega)
  have hl := dw_len p
  have d3 : ∀ c d : Nat, decide ([c] = [d]) = decide (c = d) := fun c d => decide_eq_decide.mpr (by simp)
  by_cases h1 : p.length < 2
  · have en : figV p = none := by
      unfold figV
      rw [if_pos (.inr h1)]
    have d1 : decide ((2 : Int) < (p.length : Int)) = false := decide_eq_false (by omega)
    have d2 : decide ((p.length : Int) < 2) = true := decide_eq_true (by omega)
    refine ⟨fun n h => (by rw [en] at h; cases h), fun _ => ?_⟩
    unfold cl_turn
    generalize p.length = k at *
    clear es ap hl hx h1 en
    walk_at "evt"
  · match p, hp, e0, es, hl, h1 with
    | [], _, _, _, _, h1 => exact absurd (by decide) h1
    | c :: r, hp, e0, es, hl, h1 =>
      have e2 : dIx (tx (c :: r)) (.int 0) = some (tx [c]) := dIx_tx0 c (by simp only [List.length_cons] at hp; omega)
      have d2 : decide ((((c :: r).length : Nat) : Int) < 2) = false := decide_eq_false (by omega)
      by_cases h2 : 2 < (c :: r).length ∧ c = 48
      · have en : figV (c :: r) = none := by
          unfold figV
          rw [if_pos (.inl ⟨h2.1, by rw [h2.2]; rfl⟩)]
        have d1 : decide ((2 : Int) < (((c :: r).length : Nat) : Int)) = true := decide_eq_true (by omega)
        have d4 : decide (c = 48) = true := decide_eq_true h2.2
        refine ⟨fun n h => (by rw [en] at h; cases h), fun _ => ?_⟩
        unfold cl_turn
        generalize (c :: r).length = k at *
        clear es ap hl hx h1 en h2
        walk_at "evt"
      · have e7 : (decide ((2 : Int) < (((c :: r).length : Nat) : Int)) = false) ∨ (decide ((2 : Int) < (((c :: r).length : Nat) : Int)) = true ∧ decide (c = 48) = false) := by
          by_cases hc : 2 < (c :: r).length
          · exact .inr ⟨decide_eq_true (by omega), decide_eq_false fun z => h2 ⟨hc, z⟩⟩
          · exact .inl (decide_eq_false (by omega))
        have ef : figV (c :: r) = numV (if (c :: r).dropWhile (fun c => decide (c = 48)) = [] then [48] else (c :: r).dropWhile fun c => decide (c = 48)) := by
          unfold figV
          rw [if_neg]
          rintro (z | z)
          · exact h2 ⟨z.1, by simpa using z.2⟩
          · exact h1 z
        rw [ef]
        clear ef h2 h1
        have n48 := number_eq om [48] (by simp)
        have nq := number_eq om ((c :: r).dropWhile fun c => decide (c = 48)) (by omega)
        have hq := dw_len (c :: r)
        generalize (c :: r).dropWhile (fun c => decide (c = 48)) = q at *
        have key : ∀ (o : Option Nat), (if q = [] then numV [48] else numV q) = o → ((∀ n, o = some n → cl_turn [v0, v1, v2, some (.own xs), some (.val (tx (c :: r)))] om = .nx [v0, v1, v2, some (.own (xs ++ [.int (n : Int)])), some (.val (tx (c :: r)))] om) ∧
            (o = none → cl_turn [v0, v1, v2, some (.own xs), some (.val (tx (c :: r)))] om = .xc ⟨"BadTime", []⟩ [v0, v1, v2, some (.own xs), some (.val (tx (c :: r)))] om)) := by
          intro o ho
          have zb : ((⟨q.toArray⟩ : Str).length ≤ big) = True := eq_true (by rw [len_tx]; exact Nat.le_trans (show q.length ≤ 2000 by omega) (by decide))
          cases q with
          | nil =>
            rw [if_pos rfl] at ho
            rw [ho] at n48
            have zl : ((⟨([] : List Nat).toArray⟩ : Str).length = 0) = True := eq_true rfl
            cases o with
            | none =>
              simp only [ofN] at n48
              refine ⟨fun n h => (by cases h), fun _ => ?_⟩
              unfold cl_turn
              generalize (c :: r).length = k at *
              clear ho hl hq hx ap nq hp d3
              rcases e7 with e7 | ⟨e7, e8⟩
              · walk_at "evt"
              · have e9 : decide ([c] = [48]) = false := by rw [← e8]; exact decide_eq_decide.mpr (by simp)
                walk_at "evt"
            | some m =>
              simp only [ofN] at n48
              have am := ap m
              refine ⟨fun n h => ?_, fun h => (by cases h)⟩
              cases h
              unfold cl_turn
              generalize (c :: r).length = k at *
              clear ho hl hq hx ap nq hp d3
              rcases e7 with e7 | ⟨e7, e8⟩
              · walk_at "evt"
              · have e9 : decide ([c] = [48]) = false := by rw [← e8]; exact decide_eq_decide.mpr (by simp)
                walk_at "evt"
          | cons q0 q1 =>
            rw [if_neg (by simp)] at ho
            rw [ho] at nq
            have zl : (q1.length + 1 = 0) = False := eq_false (by omega)
            have zb : (q1.length + 1 ≤ big) = True := eq_true (Nat.le_trans (show q1.length + 1 ≤ 2000 by simp only [List.length_cons] at hq hp; omega) (by decide))
            cases o with
            | none =>
              simp only [ofN] at nq
              refine ⟨fun n h => (by cases h), fun _ => ?_⟩
              unfold cl_turn
              generalize (c :: r).length = k at *
              clear ho hl hq hx ap n48 hp d3
              rcases e7 with e7 | ⟨e7, e8⟩
              · walk_at "evt"
              · have e9 : decide ([c] = [48]) = false := by rw [← e8]; exact decide_eq_decide.mpr (by simp)
                walk_at "evt"
            | some m =>
              simp only [ofN] at nq
              have am := ap m
              refine ⟨fun n h => ?_, fun h => (by cases h)⟩
              cases h
              unfold cl_turn
              generalize (c :: r).length = k at *
              clear ho hl hq hx ap n48 hp d3
              rcases e7 with e7 | ⟨e7, e8⟩
              · walk_at "evt"
              · have e9 : decide ([c] = [48]) = false := by rw [← e8]; exact decide_eq_decide.mpr (by simp)
                walk_at "evt"
        have := key _ rfl
        by_cases hq : q = []
        · rw [if_pos hq] at this ⊢
          exact this
        · rw [if_neg hq] at this ⊢
          exact this
end
section
variable (om : Om)
theorem clocked_eq (l : List Nat) (rate : Int) (hl : l.length ≤ 1000) (hr : 0 ≤ rate ∧ rate ≤ 1000) : S_clocked_of [tx l, .int rate] om = ofI (clockV l rate) om := by
  have es := fSplit_tx (l := l) (s := 58) (by decide) (by omega)
  have ml : ∀ p ∈ TL.spl [58] 0 [] l, p.length ≤ 1000 := fun p hp => by
    have := spl_len 58 l [] p hp
    simp at this
    omega
  have sl : (TL.spl [58] 0 [] l).length ≤ 1001 := by
    have g : ∀ (l acc : List Nat), (TL.spl [58] 0 acc l).length ≤ l.length + 1 := by
      intro l
      induction l with
      | nil => intro acc; rw [TL.spl_nil]; simp
      | cons c r ih =>
        intro acc
        cases hp : TL.pre [58] (c :: r)
        · rw [TL.spl_miss hp]
          have := ih (acc ++ [c])
          simp; omega
        · rw [TL.spl_hit hp]
          have := ih []
          show (acc :: TL.spl [58] 0 [] r).length ≤ _
          simp only [List.length_cons]
          omega
    have := g l []
    omega
  unfold clockV
  generalize TL.spl [58] 0 [] l = ps at *
  by_cases h4 : ps.length = 4
  · match ps, h4 with
    | [a, b, c, d], _ =>
      show _ = ofI ((numV a).bind fun h => (figV b).bind fun m => (figV c).bind fun s => (figV d).bind fun f => clockF rate h m s f) om
      have ea := number_eq om a (ml a (by simp))
      have tb := cl_step om
      have d0 : decide (((4 : Nat) : Int) = 4) = true := rfl
      have e0 : cutD [tx a, tx b, tx c, tx d] (some 1) none = [tx b, tx c, tx d] := rfl
      have lb := ml b (by simp)
      have lc := ml c (by simp)
      have ld := ml d (by simp)
      cases na : numV a with
      | none =>
        rw [na] at ea
        simp only [ofN] at ea
        show _ = FR.xc ⟨"BadTime", []⟩ om
        unfold S_clocked_of u_clocked_of
        clear tb ml sl hr hl na lb lc ld
        walk_at "evt"
      | some h =>
        rw [na] at ea
        simp only [ofN] at ea
        have v0 := (some (.val (tx l)) : Option Sl)
        -- the loop's three turns
        have t1 := cl_step om (some (.val (tx l))) (some (.val (.int rate))) (some (.val (.lst [tx a, tx b, tx c, tx d]))) [.int (h : Int)] b lb (by simp)
        have lp : goL (gN 4) cl_turn [tx b, tx c, tx d] [some (.val (tx l)), some (.val (.int rate)), some (.val (.lst [tx a, tx b, tx c, tx d])), some (.own [.int (h : Int)]), none] om =
            (match figV b, figV c, figV d with
              | some m, some s, some f => RS.nx [some (.val (tx l)), some (.val (.int rate)), some (.val (.lst [tx a, tx b, tx c, tx d])), some (.own [.int (h : Int), .int (m : Int), .int (s : Int), .int (f : Int)]), some (.val (tx d))] om
              | some m, some s, none => RS.xc ⟨"BadTime", []⟩ [some (.val (tx l)), some (.val (.int rate)), some (.val (.lst [tx a, tx b, tx c, tx d])), some (.own [.int (h : Int), .int (m : Int), .int (s : Int)]), some (.val (tx d))] om
              | some m, none, _ => RS.xc ⟨"BadTime", []⟩ [some (.val (tx l)), some (.val (.int rate)), some (.val (.lst [tx a, tx b, tx c, tx d])), some (.own [.int (h : Int), .int (m : Int)]), some (.val (tx c))] om
              | none, _, _ => RS.xc ⟨"BadTime", []⟩ [some (.val (tx l)), some (.val (.int rate)), some (.val (.lst [tx a, tx b, tx c, tx d])), some (.own [.int (h : Int)]), some (.val (tx b))] om) := by
          rw [goL_cons (ρ1 := [some (.val (tx l)), some (.val (.int rate)), some (.val (.lst [tx a, tx b, tx c, tx d])), some (.own [.int (h : Int)]), some (.val (tx b))]) _ _ rfl]
          cases nb : figV b with
          | none => rw [t1.2 nb]; rfl
          | some m =>
            rw [t1.1 m nb, turn_nx]
            have t2 := cl_step om (some (.val (tx l))) (some (.val (.int rate))) (some (.val (.lst [tx a, tx b, tx c, tx d]))) [.int (h : Int), .int (m : Int)] c lc (by simp)
            rw [goL_cons (ρ1 := [some (.val (tx l)), some (.val (.int rate)), some (.val (.lst [tx a, tx b, tx c, tx d])), some (.own [.int (h : Int), .int (m : Int)]), some (.val (tx c))]) _ _ rfl]
            cases nc : figV c with
            | none => rw [t2.2 nc]; rfl
            | some s =>
              rw [t2.1 s nc, turn_nx]
              have t3 := cl_step om (some (.val (tx l))) (some (.val (.int rate))) (some (.val (.lst [tx a, tx b, tx c, tx d]))) [.int (h : Int), .int (m : Int), .int (s : Int)] d ld (by simp)
              have e9 : ([.int (h : Int), .int (m : Int)] ++ [.int (s : Int)] : List D) = [.int (h : Int), .int (m : Int), .int (s : Int)] := rfl
              rw [e9, goL_cons (ρ1 := [some (.val (tx l)), some (.val (.int rate)), some (.val (.lst [tx a, tx b, tx c, tx d])), some (.own [.int (h : Int), .int (m : Int), .int (s : Int)]), some (.val (tx d))]) _ _ rfl]
              cases nd : figV d with
              | none => rw [t3.2 nd]; rfl
              | some f => rw [t3.1 f nd, turn_nx]; rfl
        clear tb t1 ml sl v0
        unfold cl_turn at lp
        have hh := numV_lt na
        cases nb : figV b with
        | none =>
          rw [nb] at lp
          show _ = FR.xc ⟨"BadTime", []⟩ om
          dsimp only at lp
          unfold S_clocked_of u_clocked_of
          clear hr hl na lb lc ld hh nb
          walk_at "evt"
        | some m =>
          cases nc : figV c with
          | none =>
            rw [nb, nc] at lp
            show _ = FR.xc ⟨"BadTime", []⟩ om
            unfold S_clocked_of u_clocked_of
            clear hr hl na lb lc ld hh nb nc
            walk_at "evt"
          | some s =>
            cases nd : figV d with
            | none =>
              rw [nb, nc, nd] at lp
              show _ = FR.xc ⟨"BadTime", []⟩ om
              unfold S_clocked_of u_clocked_of
              clear hr hl na lb lc ld hh nb nc nd
              walk_at "evt"
            | some f =>
              rw [nb, nc, nd] at lp
              have hm := figV_lt nb
              have hs := figV_lt nc
              have hf := figV_lt nd
              have m1 : dMul (.int (h : Int)) (.int 60) = some (.int ((h : Int) * 60)) := dMul_r (by decide) (by decide)
              have m2 : dMul (.int ((h : Int) * 60 + m)) (.int 60) = some (.int (((h : Int) * 60 + m) * 60)) := dMul_r (by decide) (by decide)
              have m3 : dMul (.int (((h : Int) * 60 + m) * 60 + s)) (.int rate) = some (.int ((((h : Int) * 60 + m) * 60 + s) * rate)) := dMul_r (by omega) (by omega)
              clear nb nc nd na
              by_cases c1 : 60 ≤ m
              · have d1 : decide ((60 : Int) ≤ (m : Int)) = true := decide_eq_true (by omega)
                show _ = ofI (clockF rate h m s f) om
                unfold clockF
                rw [if_pos (.inl c1)]
                show _ = FR.xc ⟨"BadTime", []⟩ om
                unfold S_clocked_of u_clocked_of
                clear hr hl lb lc ld hh hm hs hf c1
                walk_at "evt"
              · have d1 : decide ((60 : Int) ≤ (m : Int)) = false := decide_eq_false (by omega)
                by_cases c2 : 60 ≤ s
                · have d2 : decide ((60 : Int) ≤ (s : Int)) = true := decide_eq_true (by omega)
                  show _ = ofI (clockF rate h m s f) om
                  unfold clockF
                  rw [if_pos (.inr (.inl c2))]
                  show _ = FR.xc ⟨"BadTime", []⟩ om
                  unfold S_clocked_of u_clocked_of
                  clear hr hl lb lc ld hh hm hs hf c1 c2
                  walk_at "evt"
                · have d2 : decide ((60 : Int) ≤ (s : Int)) = false := decide_eq_false (by omega)
                  by_cases c3 : rate ≤ (f : Int)
                  · have d3 : decide (rate ≤ (f : Int)) = true := decide_eq_true c3
                    show _ = ofI (clockF rate h m s f) om
                    unfold clockF
                    rw [if_pos (.inr (.inr c3))]
                    show _ = FR.xc ⟨"BadTime", []⟩ om
                    unfold S_clocked_of u_clocked_of
                    clear hr hl lb lc ld hh hm hs hf c1 c2 c3
                    walk_at "evt"
                  · have d3 : decide (rate ≤ (f : Int)) = false := decide_eq_false c3
                    show _ = ofI (clockF rate h m s f) om
                    unfold clockF
                    rw [if_neg (fun z => z.elim c1 fun z => z.elim c2 c3)]
                    show _ = FR.ok (.int ((((h : Int) * 60 + m) * 60 + s) * rate + f)) om
                    unfold S_clocked_of u_clocked_of
                    clear hr hl lb lc ld hh hm hs hf c1 c2 c3
                    walk_at "evt"
  · have e1 : fLen [.lst (ps.map tx)] = some (.int (ps.length : Int)) := by rw [fLen_lst, List.length_map]
    have e2 : dNe (.int (ps.length : Int)) (.int 4) = some (.bl true) := by
      rw [dNe_int, decide_eq_false (by omega)]; rfl
    rw [clockP_ne h4]
    show _ = FR.xc ⟨"BadTime", []⟩ om
    unfold S_clocked_of u_clocked_of
    generalize ps.map tx = items at *
    clear h4 ml sl hr hl
    walk_at "evt"
/-! ### any of the three -/
theorem dEq_tx1 (a b : Nat) : decide ([a] = [b]) = decide (a = b) := decide_eq_decide.mpr (by simp)
end
end Dv

namespace Dv
open PySem PySem.Spec PyProof.Rows L2
local macro_rules | `(tactic| walk_at "ev") => `(tactic| try simp (disch := omega) only [sSeq_eq, seq_nx, seq_rt, seq_rto, seq_xc, seq_bk, seq_ct, seq_ite, sAsg, sAsgO, sExpr, sRet, sRetO, sRetN, sIf, sNext, uVar, uC, uUn, uBin, uB, uNot, uAnd, uOr, uTV, uAndV, uOrV, uNotV, uIf, uChain, uNil, uCons, uTup, uLst, uLstO, uFn, uFnO, uFz, uMv, uNew, uCall, uCallO, uCallN, uBinV, uBinW, uBinL, uMeO, uMeL, uFnV, sSetL, sAsgG, gN, gT2, gT3, gT4, iLst, iFn,   bind_ok, bind_xc, of_ok, of_xc, res_ok, res_xc, res0_ok, own_ok, own_xc, fr_nx, fr_rt, fr_rto, fr_xc, fo_rto, fo_xc, liftO_some, dBool_bl, items_lst, items_frz, ent, defU, defO, List.map_cons, List.map_nil, List.length_cons, List.length_nil, List.cons_append, List.nil_append, List.append_nil, List.replicate, List.getElem?_cons_zero, List.getElem?_cons_succ, List.set_cons_zero, List.set_cons_succ, Nat.zero_add, Nat.reduceAdd, Nat.reduceSub, Nat.reduceLeDiff,   le_big, lt_big, atN_zero, atN_one, atN_two, atN_three, setN_zero, setN_one, popAt_zero, len_zero, len_succ, dMul_r, dMul_l, dDiv_pos, dMod_pos, dAdd_int, dSub_int, dNeg_int, dLt_int, dLe_int, dGt_int, dGe_int, dEq_int, dNe_int, dEq_bl, dNe_bl, dEq_nil, dNe_nil, dIx_lst, dIx_tup, fAbs_int, fInt_bl, fInt_int, fLen_lst, fLen_frz, fLen_tup, ite_true, ite_false, if_true, if_false, Bool.not_true, Bool.not_false, decide_true, decide_false, Bool.true_eq_false, Bool.false_eq_true, reduceIte, reduceCtorEq, turn_nx, turn_ct, turn_bk, turn_rt, turn_rto, turn_xc, sFor_eq, goL_nil, eq_self])
local macro_rules | `(tactic| walk_at "evs") => `(tactic| try simp (disch := omega) only [sSeq_eq, seq_nx, seq_rt, seq_rto, seq_xc, seq_bk, seq_ct, seq_ite, sAsg, sAsgO, sExpr, sRet, sRetO, sRetN, sIf, sNext, uVar, uC, uUn, uBin, uB, uNot, uAnd, uOr, uTV, uAndV, uOrV, uNotV, uIf, uChain, uNil, uCons, uTup, uLst, uLstO, uFn, uFnO, uFz, uMv, uNew, uCall, uCallO, uCallN, uBinV, uBinW, uBinL, uMeO, uMeL, uFnV, sSetL, sAsgG, gN, gT2, gT3, gT4, iLst, iFn,   bind_ok, bind_xc, of_ok, of_xc, res_ok, res_xc, res0_ok, own_ok, own_xc, fr_nx, fr_rt, fr_rto, fr_xc, fo_rto, fo_xc, liftO_some, dBool_bl, items_lst, items_frz, ent, defU, defO, List.map_cons, List.map_nil, List.length_cons, List.length_nil, List.cons_append, List.nil_append, List.append_nil, List.replicate, List.getElem?_cons_zero, List.getElem?_cons_succ, List.set_cons_zero, List.set_cons_succ, Nat.zero_add, Nat.reduceAdd, Nat.reduceSub, Nat.reduceLeDiff,   le_big, lt_big, atN_zero, atN_one, atN_two, atN_three, setN_zero, setN_one, popAt_zero, len_zero, len_succ, dMul_r, dMul_l, dDiv_pos, dMod_pos, dAdd_int, dSub_int, dNeg_int, dLt_int, dLe_int, dGt_int, dGe_int, dEq_int, dNe_int, dEq_bl, dNe_bl, dEq_nil, dNe_nil, dIx_lst, dIx_tup, fAbs_int, fInt_bl, fInt_int, fLen_lst, fLen_frz, fLen_tup, ite_true, ite_false, if_true, if_false, Bool.not_true, Bool.not_false, decide_true, decide_false, Bool.true_eq_false, Bool.false_eq_true, reduceIte, reduceCtorEq, turn_nx, turn_ct, turn_bk, turn_rt, turn_rto, turn_xc, sFor_eq, goL_nil, eq_self, *])
local macro_rules | `(tactic| walk_at "evt") => `(tactic| try simp (disch := first | omega | (simp only [List.length_append, List.length_cons, List.length_nil, List.length_map]; omega)) only [sSeq_eq, seq_nx, seq_rt, seq_rto, seq_xc, seq_bk, seq_ct, seq_ite, sAsg, sAsgO, sExpr, sRet, sRetO, sRetN, sIf, sNext, uVar, uC, uUn, uBin, uB, uNot, uAnd, uOr, uTV, uAndV, uOrV, uNotV, uIf, uChain, uNil, uCons, uTup, uLst, uLstO, uFn, uFnO, uFz, uMv, uNew, uCall, uCallO, uCallN, uBinV, uBinW, uBinL, uMeO, uMeL, uFnV, sSetL, sAsgG, gN, gT2, gT3, gT4, iLst, iFn,   bind_ok, bind_xc, of_ok, of_xc, res_ok, res_xc, res0_ok, own_ok, own_xc, fr_nx, fr_rt, fr_rto, fr_xc, fo_rto, fo_xc, liftO_some, dBool_bl, items_lst, items_frz, ent, defU, defO, List.map_cons, List.map_nil, List.length_cons, List.length_nil, List.cons_append, List.nil_append, List.append_nil, List.replicate, List.getElem?_cons_zero, List.getElem?_cons_succ, List.set_cons_zero, List.set_cons_succ, Nat.zero_add, Nat.reduceAdd, Nat.reduceSub, Nat.reduceLeDiff,   le_big, lt_big, atN_zero, atN_one, atN_two, atN_three, setN_zero, setN_one, popAt_zero, len_zero, len_succ, dMul_r, dMul_l, dDiv_pos, dMod_pos, dAdd_int, dSub_int, dNeg_int, dLt_int, dLe_int, dGt_int, dGe_int, dEq_int, dNe_int, dEq_bl, dNe_bl, dEq_nil, dNe_nil, dIx_lst, dIx_tup, fAbs_int, fInt_bl, fInt_int, fLen_lst, fLen_frz, fLen_tup, ite_true, ite_false, if_true, if_false, Bool.not_true, Bool.not_false, decide_true, decide_false, Bool.true_eq_false, Bool.false_eq_true, reduceIte, reduceCtorEq, turn_nx, turn_ct, turn_bk, turn_rt, turn_rto, turn_xc, sFor_eq, goL_nil, eq_self, sRaise, gT2, gT3, gT4, sAsgG, uM1, uOrS, uSlS, uSlW, uCatV, uPart, uNoPart, iStrU, k_colon, k_blank, k_line, k_f, k_s, k_0, k_empty, k_digits, k_abc, k_alpha, k_cue, k_from, k_to, k_at, k_two, k_fto, k_nl, k_a1, dAdd_tx, fLen_tx, fStr_nat, dEq_tx, dNe_tx, dEq_txn, dNe_txn, len_tx, cutS_l1, cutS_b1, cutS_ln, cutS_bn, dIx_tx0, *])
section
variable (om : Om)
/-- the way of a clock -/
theorem read_clock (l : List Nat) (rate : Int) (hl : l.length ≤ 1000) (hr : 0 ≤ rate ∧ rate ≤ 1000) (w : List Nat)
    (s1 : cutS ⟨l.toArray⟩ (some (-1)) none = ⟨w.toArray⟩) (h1 : w ≠ [102]) (h2 : w ≠ [115]) : S_read_time [tx l, .int rate] om = ofF (match TL.par [32] [] l with
    | none => (clockV l rate).map fun n => (n, 1)
    | some (a, b) => match clockV a rate, restV b with
      | some n, some r => some (fsum (n, 1) r)
      | _, _ => none) om := by
  have ep := fPart_tx (l := l) (S := [32]) (by simp) (by omega)
  have d1 : decide (w = [102]) = false := decide_eq_false h1
  have d2 : decide (w = [115]) = false := decide_eq_false h2
  have zb : (l.length ≤ big) = True := eq_true (Nat.le_trans hl (by decide))
  cases e : TL.par [32] [] l with
  | none =>
    rw [e] at ep
    dsimp only at ep ⊢
    have e1 := clocked_eq om l rate hl hr
    have d3 : decide (([] : List Nat) = []) = true := rfl
    cases en : clockV l rate with
    | none =>
      rw [en] at e1
      simp only [ofI] at e1
      show _ = FR.xc ⟨"BadTime", []⟩ om
      unfold S_read_time u_read_time
      clear en e hl hr h1 h2
      walk_at "evt"
    | some n =>
      rw [en] at e1
      simp only [ofI] at e1
      show _ = FR.ok (encF (n, 1)) om
      unfold S_read_time u_read_time
      clear en e hl hr h1 h2
      walk_at "evt"
  | some ab =>
    obtain ⟨a, b⟩ := ab
    rw [e] at ep
    dsimp only at ep ⊢
    have hpl := par_len e
    have e1 := clocked_eq om a rate (by omega) hr
    have e2 := rest_eq om b (by omega)
    have d3 : decide ([32] = ([] : List Nat)) = false := rfl
    cases en : clockV a rate with
    | none =>
      rw [en] at e1
      simp only [ofI] at e1
      show _ = FR.xc ⟨"BadTime", []⟩ om
      unfold S_read_time u_read_time
      clear en e hl hr h1 h2 e2 hpl
      walk_at "evt"
    | some n =>
      rw [en] at e1
      have hn := clockV_lt en hr
      simp only [ofI] at e1
      cases er : restV b with
      | none =>
        rw [er] at e2
        simp only [ofF] at e2
        show _ = FR.xc ⟨"BadTime", []⟩ om
        unfold S_read_time u_read_time
        clear en er e hl hr h1 h2 hpl hn
        walk_at "evt"
      | some r =>
        rw [er] at e2
        have hb := (restV_bd er).1
        simp only [ofF] at e2
        have e3 := added_eq om (bd_clk hn) hb (by decide)
        show _ = FR.ok (encF (fsum (n, 1) r)) om
        unfold S_read_time u_read_time
        clear en er e hl hr h1 h2 hpl hn hb
        walk_at "evt"
theorem read_time_eq (l : List Nat) (rate : Int) (hl : l.length ≤ 1000) (hr : 0 ≤ rate ∧ rate ≤ 1000) : S_read_time [tx l, .int rate] om = ofF (timeV l rate) om := by
  rcases last_or l with rfl | ⟨a, c, rfl⟩
  · exact read_clock om [] rate hl hr [] cutS_ln (by simp) (by simp)
  · rw [timeV_snoc]
    by_cases h1 : c = 102
    · subst h1
      rw [if_pos rfl]
      have e1 := mixed_of_eq om a (by simp at hl; omega)
      have d1 : decide ([102] = [102]) = true := rfl
      have zb : ((a ++ [102]).length ≤ big) = True := eq_true (Nat.le_trans hl (by decide))
      have s1 := cutS_l1 a 102
      have s2 := cutS_b1 a 102
      generalize a ++ [102] = l at *
      cases em : mixV a with
      | none =>
        rw [em] at e1
        simp only [ofF] at e1 ⊢
        unfold S_read_time u_read_time
        clear em hl hr
        walk_at "evt"
      | some q =>
        rw [em] at e1
        simp only [ofF] at e1 ⊢
        unfold S_read_time u_read_time
        clear em hl hr
        walk_at "evt"
    · rw [if_neg h1]
      by_cases h2 : c = 115
      · subst h2
        rw [if_pos rfl]
        have e1 := mixed_of_eq om a (by simp at hl; omega)
        have d1 : decide ([115] = [102]) = false := rfl
        have d2 : decide ([115] = [115]) = true := rfl
        have zb : ((a ++ [115]).length ≤ big) = True := eq_true (Nat.le_trans hl (by decide))
        have s1 := cutS_l1 a 115
        have s2 := cutS_b1 a 115
        generalize a ++ [115] = l at *
        cases em : mixV a with
        | none =>
          rw [em] at e1
          simp only [ofF, Option.map] at e1 ⊢
          unfold S_read_time u_read_time
          clear em hl hr
          walk_at "evt"
        | some q =>
          rw [em] at e1
          have hq := mixV_bd em
          have hb : Bd 30 (rate, 1) := by
            have p6 : (2 : Nat) ^ 30 = 1073741824 := by decide
            exact ⟨by show (0 : Int) < 1; omega, by show rate.natAbs < _; omega, by show (1 : Int).natAbs < _; omega⟩
          have e3 := timed_eq om hq hb (by decide)
          simp only [ofF, Option.map] at e1 ⊢
          unfold S_read_time u_read_time
          clear em hl hr hq hb
          walk_at "evt"
      · rw [if_neg h2]
        exact read_clock om (a ++ [c]) rate hl hr [c] (cutS_l1 a c) (by simpa using h1) (by simpa using h2)
end
end Dv

namespace Dv
open PySem PySem.Spec PyProof.Rows L2
local macro_rules | `(tactic| walk_at "ev") => `(tactic| try simp (disch := omega) only [sSeq_eq, seq_nx, seq_rt, seq_rto, seq_xc, seq_bk, seq_ct, seq_ite, sAsg, sAsgO, sExpr, sRet, sRetO, sRetN, sIf, sNext, uVar, uC, uUn, uBin, uB, uNot, uAnd, uOr, uTV, uAndV, uOrV, uNotV, uIf, uChain, uNil, uCons, uTup, uLst, uLstO, uFn, uFnO, uFz, uMv, uNew, uCall, uCallO, uCallN, uBinV, uBinW, uBinL, uMeO, uMeL, uFnV, sSetL, sAsgG, gN, gT2, gT3, gT4, iLst, iFn,   bind_ok, bind_xc, of_ok, of_xc, res_ok, res_xc, res0_ok, own_ok, own_xc, fr_nx, fr_rt, fr_rto, fr_xc, fo_rto, fo_xc, liftO_some, dBool_bl, items_lst, items_frz, ent, defU, defO, List.map_cons, List.map_nil, List.length_cons, List.length_nil, List.cons_append, List.nil_append, List.append_nil, List.replicate, List.getElem?_cons_zero, List.getElem?_cons_succ, List.set_cons_zero, List.set_cons_succ, Nat.zero_add, Nat.reduceAdd, Nat.reduceSub, Nat.reduceLeDiff,   le_big, lt_big, atN_zero, atN_one, atN_two, atN_three, setN_zero, setN_one, popAt_zero, len_zero, len_succ, dMul_r, dMul_l, dDiv_pos, dMod_pos, dAdd_int, dSub_int, dNeg_int, dLt_int, dLe_int, dGt_int, dGe_int, dEq_int, dNe_int, dEq_bl, dNe_bl, dEq_nil, dNe_nil, dIx_lst, dIx_tup, fAbs_int, fInt_bl, fInt_int, fLen_lst, fLen_frz, fLen_tup, ite_true, ite_false, if_true, if_false, Bool.not_true, Bool.not_false, decide_true, decide_false, Bool.true_eq_false, Bool.false_eq_true, reduceIte, reduceCtorEq, turn_nx, turn_ct, turn_bk, turn_rt, turn_rto, turn_xc, sFor_eq, goL_nil, eq_self])
local macro_rules | `(tactic| walk_at "evs") => `(tactic| try simp (disch := omega) only [sSeq_eq, seq_nx, seq_rt, seq_rto, seq_xc, seq_bk, seq_ct, seq_ite, sAsg, sAsgO, sExpr, sRet, sRetO, sRetN, sIf, sNext, uVar, uC, uUn, uBin, uB, uNot, uAnd, uOr, uTV, uAndV, uOrV, uNotV, uIf, uChain, uNil, uCons, uTup, uLst, uLstO, uFn, uFnO, uFz, uMv, uNew, uCall, uCallO, uCallN, uBinV, uBinW, uBinL, uMeO, uMeL, uFnV, sSetL, sAsgG, gN, gT2, gT3, gT4, iLst, iFn,   bind_ok, bind_xc, of_ok, of_xc, res_ok, res_xc, res0_ok, own_ok, own_xc, fr_nx, fr_rt, fr_rto, fr_xc, fo_rto, fo_xc, liftO_some, dBool_bl, items_lst, items_frz, ent, defU, defO, List.map_cons, List.map_nil, List.length_cons, List.length_nil, List.cons_append, List.nil_append, List.append_nil, List.replicate, List.getElem?_cons_zero, List.getElem?_cons_succ, List.set_cons_zero, List.set_cons_succ, Nat.zero_add, Nat.reduceAdd, Nat.reduceSub, Nat.reduceLeDiff,   le_big, lt_big, atN_zero, atN_one, atN_two, atN_three, setN_zero, setN_one, popAt_zero, len_zero, len_succ, dMul_r, dMul_l, dDiv_pos, dMod_pos, dAdd_int, dSub_int, dNeg_int, dLt_int, dLe_int, dGt_int, dGe_int, dEq_int, dNe_int, dEq_bl, dNe_bl, dEq_nil, dNe_nil, dIx_lst, dIx_tup, fAbs_int, fInt_bl, fInt_int, fLen_lst, fLen_frz, fLen_tup, ite_true, ite_false, if_true, if_false, Bool.not_true, Bool.not_false, decide_true, decide_false, Bool.true_eq_false, Bool.false_eq_true, reduceIte, reduceCtorEq, turn_nx, turn_ct, turn_bk, turn_rt, turn_rto, turn_xc, sFor_eq, goL_nil, eq_self, *])
local macro_rules | `(tactic| walk_at "evt") => `(tactic| try simp (disch := first | omega | (simp only [List.length_append, List.length_cons, List.length_nil, List.length_map]; omega)) only [sSeq_eq, seq_nx, seq_rt, seq_rto, seq_xc, seq_bk, seq_ct, seq_ite, sAsg, sAsgO, sExpr, sRet, sRetO, sRetN, sIf, sNext, uVar, uC, uUn, uBin, uB, uNot, uAnd, uOr, uTV, uAndV, uOrV, uNotV, uIf, uChain, uNil, uCons, uTup, uLst, uLstO, uFn, uFnO, uFz, uMv, uNew, uCall, uCallO, uCallN, uBinV, uBinW, uBinL, uMeO, uMeL, uFnV, sSetL, sAsgG, gN, gT2, gT3, gT4, iLst, iFn,   bind_ok, bind_xc, of_ok, of_xc, res_ok, res_xc, res0_ok, own_ok, own_xc, fr_nx, fr_rt, fr_rto, fr_xc, fo_rto, fo_xc, liftO_some, dBool_bl, items_lst, items_frz, ent, defU, defO, List.map_cons, List.map_nil, List.length_cons, List.length_nil, List.cons_append, List.nil_append, List.append_nil, List.replicate, List.getElem?_cons_zero, List.getElem?_cons_succ, List.set_cons_zero, List.set_cons_succ, Nat.zero_add, Nat.reduceAdd, Nat.reduceSub, Nat.reduceLeDiff,   le_big, lt_big, atN_zero, atN_one, atN_two, atN_three, setN_zero, setN_one, popAt_zero, len_zero, len_succ, dMul_r, dMul_l, dDiv_pos, dMod_pos, dAdd_int, dSub_int, dNeg_int, dLt_int, dLe_int, dGt_int, dGe_int, dEq_int, dNe_int, dEq_bl, dNe_bl, dEq_nil, dNe_nil, dIx_lst, dIx_tup, fAbs_int, fInt_bl, fInt_int, fLen_lst, fLen_frz, fLen_tup, ite_true, ite_false, if_true, if_false, Bool.not_true, Bool.not_false, decide_true, decide_false, Bool.true_eq_false, Bool.false_eq_true, reduceIte, reduceCtorEq, turn_nx, turn_ct, turn_bk, turn_rt, turn_rto, turn_xc, sFor_eq, goL_nil, eq_self, sRaise, gT2, gT3, gT4, sAsgG, uM1, uOrS, uSlS, uSlW, uCatV, uPart, uNoPart, iStrU, k_colon, k_blank, k_line, k_f, k_s, k_0, k_empty, k_digits, k_abc, k_alpha, k_cue, k_from, k_to, k_at, k_two, k_fto, k_nl, k_a1, dAdd_tx, fLen_tx, fStr_nat, dEq_tx, dNe_tx, dEq_txn, dNe_txn, len_tx, cutS_l1, cutS_b1, cutS_ln, cutS_bn, dIx_tx0, *])
/-! ### cues drawn -/
section
variable (rest : Om)
theorem cn_int (i : Int) : Cn (i, 1) := ⟨by show (0 : Int) < 1; decide, by show Int.gcd i 1 = 1; exact Int.gcd_one_right i⟩
theorem time_gen {m : Int} (b : Box) (h : 0 < m) (h2 : m ≤ 1000000) : ∃ q b', S_law_time [.loc 1, .int m] (bom b rest) = .ok (encF q) (bom b' rest) ∧ Tg m q := by
  have e1 := take_eq (m := m) b rest h (by omega)
  have e2 := take_eq (m := 2) (tkn m b) rest (by decide) (by decide)
  have e3 := take_eq (m := 6) (tkn 2 (tkn m b)) rest (by decide) (by decide)
  have e4 := take_eq (m := 30) (tkn 6 (tkn 2 (tkn m b))) rest (by decide) (by decide)
  have e5 := take_eq (m := 6) (tkn 6 (tkn 2 (tkn m b))) rest (by decide) (by decide)
  have b1 := tkv_nn (m := m) b h
  have c1 := tkv_lt (m := m) b h
  have b4 := tkv_nn (m := 30) (tkn 6 (tkn 2 (tkn m b))) (by decide)
  have c4 := tkv_lt (m := 30) (tkn 6 (tkn 2 (tkn m b))) (by decide)
  have b5 := tkv_nn (m := 6) (tkn 6 (tkn 2 (tkn m b))) (by decide)
  have c5 := tkv_lt (m := 6) (tkn 6 (tkn 2 (tkn m b))) (by decide)
  have p9 : (2 : Nat) ^ 6 ≤ 2 ^ 9000 := Nat.pow_le_pow_right (by decide) (by decide)
  have p6 : (2 : Nat) ^ 6 = 64 := by decide
  have fin : ∀ {d : Int}, 0 < d → d ≤ 30 → Tg m (mk (tkv m b) d) := fun {d} h3 h4 => by
    obtain ⟨k1, k2, k3⟩ := mk_den (t := tkv m b) (b := d) (by omega)
    have v := val_nn_mk h3 b1
    have := (val_lt_of k1).mp v
    exact ⟨mk_cn (by omega), this, by omega, by omega⟩
  have e6 := lfr_eq (t := tkv m b) (b := 1 + tkv 30 (tkn 6 (tkn 2 (tkn m b)))) (bom (tkn 30 (tkn 6 (tkn 2 (tkn m b)))) rest) (by omega) (by omega)
  have e7 := lfr_eq (t := tkv m b) (b := 1 + tkv 6 (tkn 6 (tkn 2 (tkn m b)))) (bom (tkn 6 (tkn 6 (tkn 2 (tkn m b)))) rest) (by omega) (by omega)
  by_cases h0 : tkv 2 (tkn m b) = 0
  · refine ⟨(tkv m b, 1), tkn 2 (tkn m b), ?_, ⟨cn_int _, b1, c1, by show (1 : Int) ≤ 30; decide⟩⟩
    have d0 : decide (tkv 2 (tkn m b) = 0) = true := decide_eq_true h0
    unfold S_law_time u_law_time
    clear b1 c1 b4 c4 b5 c5 p9 p6 fin e6 e7 h2 h0
    walk_at "evt"
  · have d0 : decide (tkv 2 (tkn m b) = 0) = false := decide_eq_false h0
    by_cases h1 : tkv 6 (tkn 2 (tkn m b)) = 1
    · have d1 : decide (tkv 6 (tkn 2 (tkn m b)) = 1) = true := decide_eq_true h1
      refine ⟨_, tkn 30 (tkn 6 (tkn 2 (tkn m b))), ?_, fin (show 0 < 1 + tkv 30 (tkn 6 (tkn 2 (tkn m b))) by omega) (by omega)⟩
      unfold S_law_time u_law_time
      clear b1 c1 b4 c4 b5 c5 p9 p6 fin e7 h2 h0 h1
      walk_at "evt"
    · have d1 : decide (tkv 6 (tkn 2 (tkn m b)) = 1) = false := decide_eq_false h1
      refine ⟨_, tkn 6 (tkn 6 (tkn 2 (tkn m b))), ?_, fin (show 0 < 1 + tkv 6 (tkn 6 (tkn 2 (tkn m b))) by omega) (by omega)⟩
      unfold S_law_time u_law_time
      clear b1 c1 b4 c4 b5 c5 p9 p6 fin e6 h2 h0 h1
      walk_at "evt"
/-- letters drawn from some -/
theorem lets (n : Nat) (hn : n ≤ 1000) (v1 v2 v4 v5 v6 v7 v8 v9 v10 v11 : Option Sl) (sg : List Nat) (h0 : sg ≠ []) (h1 : sg.length ≤ 1000) (h2 : ∀ c ∈ sg, 97 ≤ c ∧ c ≤ 122) (b : Box) : ∃ (cs : List Nat) (b' : Box),
    goC (gN 12) uYes (uBin dIx (uVar 3) (uCallN 2 S_law_take (uCons (uVar 0) (uCons (uFn fLen (uCons (uVar 3) uNil)) uNil)))) [12] (rngN 0 n) [] [some (.val (.loc 1)), v1, v2, some (.val (tx sg)), v4, v5, v6, v7, v8, v9, v10, v11, none] (bom b rest) =
    .ok (cs.map fun c => tx [c]) [some (.val (.loc 1)), v1, v2, some (.val (tx sg)), v4, v5, v6, v7, v8, v9, v10, v11, none] (bom b' rest) ∧ cs.length = n ∧ ∀ c ∈ cs, 97 ≤ c ∧ c ≤ 122 := by
  have hl : 0 < (sg.length : Int) := by
    have : sg.length ≠ 0 := fun z => h0 (List.eq_nil_of_length_eq_zero z)
    omega
  have e0 : fLen [tx sg] = some (.int (sg.length : Int)) := fLen_tx (by omega)
  obtain ⟨ys, ω', g, ⟨b', rfl⟩, hP, hlen⟩ := goC_inv (te := uBin dIx (uVar 3) (uCallN 2 S_law_take (uCons (uVar 0) (uCons (uFn fLen (uCons (uVar 3) uNil)) uNil)))) (i := 12) (ρ := [some (.val (.loc 1)), v1, v2, some (.val (tx sg)), v4, v5, v6, v7, v8, v9, v10, v11, none]) (fun ω => ∃ b, ω = bom b rest) (fun y => ∃ c, y = tx [c] ∧ 97 ≤ c ∧ c ≤ 122)
    (fun d ω ⟨b, hb⟩ => by
      subst hb
      have e1 := take_eq (m := (sg.length : Int)) b rest hl (by omega)
      obtain ⟨c, hc, e2⟩ := dIx_let (l := sg) (tkv_nn b hl) (tkv_lt b hl) h1
      refine ⟨tx [c], _, ?_, ⟨tkn (sg.length : Int) b, rfl⟩, ⟨c, rfl, h2 c hc⟩⟩
      simp only [List.set_cons_succ, List.set_cons_zero]
      clear hc h0 h1 h2 hl hn
      walk_at "evt") (rngN 0 n) [] (bom b rest) ⟨b, rfl⟩ (by unfold rngN; simp; exact Nat.le_trans hn (by decide))
  obtain ⟨cs, rfl, k1, k2⟩ := let_list hP
  refine ⟨cs, b', g, ?_, k2⟩
  rw [k1, hlen]
  unfold rngN
  simp
/-- the three letters of a cue -/
theorem lets3 (v1 v2 v3 v4 v5 v7 v8 v9 v10 v11 v12 : Option Sl) (b : Box) : ∃ (cs : List Nat) (b' : Box),
    goC (gN 6) uYes (uBin dIx (uC (tx [97, 98, 99, 100, 101, 102, 103, 104, 105, 106, 107, 108, 109, 110, 111, 112, 113, 114, 115, 116, 117, 118, 119, 120, 121, 122])) (uCallN 2 S_law_take (uCons (uVar 0) (uCons (uC (.int 26)) uNil)))) [6] (rngN 0 3) [] [some (.val (.loc 1)), v1, v2, v3, v4, v5, none, v7, v8, v9, v10, v11, v12] (bom b rest) =
    .ok (cs.map fun c => tx [c]) [some (.val (.loc 1)), v1, v2, v3, v4, v5, none, v7, v8, v9, v10, v11, v12] (bom b' rest) ∧ cs.length = 3 ∧ ∀ c ∈ cs, 97 ≤ c ∧ c ≤ 122 := by
  obtain ⟨ys, ω', g, ⟨b', rfl⟩, hP, hlen⟩ := goC_inv (te := uBin dIx (uC (tx [97, 98, 99, 100, 101, 102, 103, 104, 105, 106, 107, 108, 109, 110, 111, 112, 113, 114, 115, 116, 117, 118, 119, 120, 121, 122])) (uCallN 2 S_law_take (uCons (uVar 0) (uCons (uC (.int 26)) uNil)))) (i := 6) (ρ := [some (.val (.loc 1)), v1, v2, v3, v4, v5, none, v7, v8, v9, v10, v11, v12]) (fun ω => ∃ b, ω = bom b rest) (fun y => ∃ c, y = tx [c] ∧ 97 ≤ c ∧ c ≤ 122)
    (fun d ω ⟨b, hb⟩ => by
      subst hb
      have e1 := take_eq (m := 26) b rest (by decide) (by decide)
      obtain ⟨c, hc, e2⟩ := dIx_let (l := [97, 98, 99, 100, 101, 102, 103, 104, 105, 106, 107, 108, 109, 110, 111, 112, 113, 114, 115, 116, 117, 118, 119, 120, 121, 122]) (tkv_nn (m := 26) b (by decide)) (tkv_lt (m := 26) b (by decide)) (by decide)
      refine ⟨tx [c], _, ?_, ⟨tkn 26 b, rfl⟩, ⟨c, rfl, ?_⟩⟩
      · simp only [List.set_cons_succ, List.set_cons_zero]
        clear hc
        walk_at "evt"
      · have : ∀ c ∈ [97, 98, 99, 100, 101, 102, 103, 104, 105, 106, 107, 108, 109, 110, 111, 112, 113, 114, 115, 116, 117, 118, 119, 120, 121, 122], 97 ≤ c ∧ c ≤ 122 := by decide
        exact this c hc) (rngN 0 3) [] (bom b rest) ⟨b, rfl⟩ (by decide)
  obtain ⟨cs, rfl, k1, k2⟩ := let_list hP
  refine ⟨cs, b', g, ?_, k2⟩
  rw [k1, hlen]
  rfl
def cu_turn : US := (sSeq (sAsg 9 (uBin dAdd (uC (.int 1)) (uCall 2 S_law_take (uCons (uVar 0) (uCons (uBin dIx (uLst (uCons (uC (.int 4)) (uCons (uC (.int 20)) uNil))) (uFn fInt (uCons (uBin dEq (uCall 2 S_law_take (uCons (uVar 0) (uCons (uC (.int 6)) uNil))) (uC (.int 1))) uNil))) uNil)))))
    (sSeq (sAsg 10 (uM1 fJoin (uC (tx [])) (uFz (uLc (iFn fRng1 (uCons (uVar 9) uNil)) (gN 12) uYes (uBin dIx (uVar 3) (uCallN 2 S_law_take (uCons (uVar 0) (uCons (uFn fLen (uCons (uVar 3) uNil)) uNil)))) [12]))))
    (sExpr (uMeO 2 mAppend (uCons (uTup (uCons (uCall 2 S_law_take (uCons (uVar 0) (uCons (uC (.int 11)) uNil))) (uCons (uVar 10) uNil))) uNil)))))
theorem cu_step (v1 v4 v5 v6 v7 v8 v9 v10 v11 v12 : Option Sl) (sg : List Nat) (h0 : sg ≠ []) (h1 : sg.length ≤ 1000) (h2 : ∀ c ∈ sg, 97 ≤ c ∧ c ≤ 122) (xs : List (Int × List Nat)) (hx : xs.length ≤ 20) (b : Box) : ∃ x b' y9 y10 y11 y12,
    cu_turn [some (.val (.loc 1)), v1, some (.own (xs.map encA)), some (.val (tx sg)), v4, v5, v6, v7, v8, v9, v10, v11, v12] (bom b rest) = .nx [some (.val (.loc 1)), v1, some (.own ((xs ++ [x]).map encA)), some (.val (tx sg)), v4, v5, v6, v7, v8, y9, y10, y11, y12] (bom b' rest) ∧ 0 ≤ x.1 ∧ x.1 < 11 ∧ Wd x.2 := by
  have e1 := take_eq (m := 6) b rest (by decide) (by decide)
  have fin : ∀ m : Int, m = 4 ∨ m = 20 → ∃ (cs : List Nat) (b' : Box), 0 < m ∧ S_law_take [.loc 1, .int m] (bom (tkn 6 b) rest) = .ok (.int (tkv m (tkn 6 b))) (bom (tkn m (tkn 6 b)) rest) ∧ fRng1 [.int (1 + tkv m (tkn 6 b))] = some (rngN 0 (1 + tkv m (tkn 6 b)).toNat) ∧
      goC (gN 12) uYes (uBin dIx (uVar 3) (uCallN 2 S_law_take (uCons (uVar 0) (uCons (uFn fLen (uCons (uVar 3) uNil)) uNil)))) [12] (rngN 0 (1 + tkv m (tkn 6 b)).toNat) [] [some (.val (.loc 1)), v1, some (.own (xs.map encA)), some (.val (tx sg)), v4, v5, v6, v7, v8, some (.val (.int (1 + tkv m (tkn 6 b)))), v10, v11, none] (bom (tkn m (tkn 6 b)) rest) =
      .ok (cs.map fun c => tx [c]) [some (.val (.loc 1)), v1, some (.own (xs.map encA)), some (.val (tx sg)), v4, v5, v6, v7, v8, some (.val (.int (1 + tkv m (tkn 6 b)))), v10, v11, none] (bom b' rest) ∧ fJoin ⟨([] : List Nat).toArray⟩ (.lst (cs.map fun c => tx [c])) = some (tx cs) ∧ Wd cs := by
    intro m hm
    have m0 : 0 < m := by omega
    have n1 := tkv_nn (m := m) (tkn 6 b) m0
    have n2 := tkv_lt (m := m) (tkn 6 b) m0
    obtain ⟨cs, b', g, g1, g2⟩ := lets rest (1 + tkv m (tkn 6 b)).toNat (by omega) v1 (some (.own (xs.map encA))) v4 v5 v6 v7 v8 (some (.val (.int (1 + tkv m (tkn 6 b))))) v10 v11 sg h0 h1 h2 (tkn m (tkn 6 b))
    exact ⟨cs, b', m0, take_eq (m := m) (tkn 6 b) rest m0 (by omega), fRng1_eq (by omega), g, fJoin_let (by omega), ⟨by omega, by omega, g2⟩⟩
  have app : ∀ x : Int × List Nat, mAppend (xs.map encA) [encA x] = some (.non, (xs ++ [x]).map encA) := fun x => by
    unfold mAppend
    dsimp only
    rw [if_pos (by rw [List.length_map]; exact Nat.lt_of_le_of_lt hx (by decide))]
    simp
  by_cases hd : tkv 6 b = 1
  · obtain ⟨cs, b', m0, f1, f2, f3, f4, f5⟩ := fin 20 (.inr rfl)
    have e5 := take_eq (m := 11) b' rest (by decide) (by decide)
    refine ⟨(tkv 11 b', cs), tkn 11 b', some (.val (.int (1 + tkv 20 (tkn 6 b)))), some (.val (tx cs)), v11, none, ?_, tkv_nn b' (by decide), tkv_lt b' (by decide), f5⟩
    have a1 := app (tkv 11 b', cs)
    have d0 : decide (tkv 6 b = 1) = true := decide_eq_true hd
    clear fin app hd f5 m0 hx h0 h1 h2
    unfold cu_turn uLc
    generalize List.map encA (xs ++ [(tkv 11 b', cs)]) = Y at *
    simp only [clrs, List.set_cons_succ, List.set_cons_zero]
    generalize xs.map encA = XX at *
    walk_at "evt"
  · obtain ⟨cs, b', m0, f1, f2, f3, f4, f5⟩ := fin 4 (.inl rfl)
    have e5 := take_eq (m := 11) b' rest (by decide) (by decide)
    refine ⟨(tkv 11 b', cs), tkn 11 b', some (.val (.int (1 + tkv 4 (tkn 6 b)))), some (.val (tx cs)), v11, none, ?_, tkv_nn b' (by decide), tkv_lt b' (by decide), f5⟩
    have a1 := app (tkv 11 b', cs)
    have d0 : decide (tkv 6 b = 1) = false := decide_eq_false hd
    clear fin app hd f5 m0 hx h0 h1 h2
    unfold cu_turn uLc
    generalize List.map encA (xs ++ [(tkv 11 b', cs)]) = Y at *
    simp only [clrs, List.set_cons_succ, List.set_cons_zero]
    generalize xs.map encA = XX at *
    walk_at "evt"
theorem cu_loop (v1 v4 v5 v7 v8 : Option Sl) (sg : List Nat) (h0 : sg ≠ []) (h1 : sg.length ≤ 1000) (h2 : ∀ c ∈ sg, 97 ≤ c ∧ c ≤ 122) : ∀ (l : List D) (xs : List (Int × List Nat)) (v6 v9 v10 v11 v12 : Option Sl) (b : Box), xs.length + l.length ≤ 20 → (∀ x ∈ xs, 0 ≤ x.1 ∧ x.1 < 11 ∧ Wd x.2) → ∃ (zs : List (Int × List Nat)) (b' : Box) (y6 y9 y10 y11 y12 : Option Sl),
    goL (gN 6) cu_turn l [some (.val (.loc 1)), v1, some (.own (xs.map encA)), some (.val (tx sg)), v4, v5, v6, v7, v8, v9, v10, v11, v12] (bom b rest) = .nx [some (.val (.loc 1)), v1, some (.own (zs.map encA)), some (.val (tx sg)), v4, v5, y6, v7, v8, y9, y10, y11, y12] (bom b' rest) ∧ (∀ x ∈ zs, 0 ≤ x.1 ∧ x.1 < 11 ∧ Wd x.2) ∧ zs.length = xs.length + l.length
  | [], xs, v6, v9, v10, v11, v12, b, _, hx => ⟨xs, b, v6, v9, v10, v11, v12, rfl, hx, by simp⟩
  | d :: l, xs, v6, v9, v10, v11, v12, b, hz, hx => by
    simp only [List.length_cons] at hz
    obtain ⟨x, b1, w9, w10, w11, w12, e, k1, k2, k3⟩ := cu_step rest v1 v4 v5 (some (.val d)) v7 v8 v9 v10 v11 v12 sg h0 h1 h2 xs (by omega) b
    obtain ⟨zs, b', y6, y9, y10, y11, y12, e2, m1, m2⟩ := cu_loop v1 v4 v5 v7 v8 sg h0 h1 h2 l (xs ++ [x]) (some (.val d)) w9 w10 w11 w12 b1 (by simp; omega) (fun z hz => by
      rcases List.mem_append.mp hz with q | q
      · exact hx z q
      · simp only [List.mem_cons, List.not_mem_nil, or_false] at q
        subst q
        exact ⟨k1, k2, k3⟩)
    refine ⟨zs, b', y6, y9, y10, y11, y12, ?_, m1, by rw [m2]; simp; omega⟩
    rw [goL_cons (ρ1 := [some (.val (.loc 1)), v1, some (.own (xs.map encA)), some (.val (tx sg)), v4, v5, some (.val d), v7, v8, v9, v10, v11, v12]) _ _ rfl, e, turn_nx, e2]
/-- the words' times -/
def wdOf (b far : Fr) (x : Int × List Nat) : List Nat × Fr := (x.2, fsum b (fmul far (mk x.1 11)))
theorem cu_words (v0 v1 v2 v3 v5 v6 v8 v9 v12 : Option Sl) (b s far : Fr) (hc : CuN b s (fsum b s) far) (l : List (Int × List Nat)) (hl : l.length ≤ 20) (h : ∀ x ∈ l, 0 ≤ x.1 ∧ x.1 < 11) (om : Om) :
    goC (gT2 11 10) uYes (uTup (uCons (uVar 10) (uCons (uCallN 2 S_law_sum (uCons (uVar 4) (uCons (uCallN 2 S_law_times (uCons (uVar 7) (uCons (uCallN 2 S_law_fr (uCons (uVar 11) (uCons (uC (.int 11)) uNil))) uNil))) uNil))) uNil))) [11, 10] (l.map encA) []
      [v0, v1, v2, v3, some (.val (encF b)), v5, v6, some (.val (encF far)), v8, v9, none, none, v12] om =
    .ok ((l.map (wdOf b far)).map encW) [v0, v1, v2, v3, some (.val (encF b)), v5, v6, some (.val (encF far)), v8, v9, none, none, v12] om := by
  have g := goC_gen (G := gT2 11 10) (te := uTup (uCons (uVar 10) (uCons (uCallN 2 S_law_sum (uCons (uVar 4) (uCons (uCallN 2 S_law_times (uCons (uVar 7) (uCons (uCallN 2 S_law_fr (uCons (uVar 11) (uCons (uC (.int 11)) uNil))) uNil))) uNil))) uNil))) (vs := [11, 10]) (ω := om) (ρ := [v0, v1, v2, v3, some (.val (encF b)), v5, v6, some (.val (encF far)), v8, v9, none, none, v12])
    (fun d => match d with | .tup [.int a, w] => .tup [w, encF (fsum b (fmul far (mk a 11)))] | _ => .non)
    (fun d => match d with | .tup [x, y] => [v0, v1, v2, v3, some (.val (encF b)), v5, v6, some (.val (encF far)), v8, v9, some (.val y), some (.val x), v12] | _ => []) (l.map encA) [] (fun d hd => by
      obtain ⟨⟨a, w⟩, hx, rfl⟩ := List.mem_map.mp hd
      obtain ⟨a0, a1⟩ := h _ hx
      dsimp only at a0 a1
      obtain ⟨k1, k2, _, _⟩ := hc.w a a0 a1
      have p9 : (2 : Nat) ^ 6 ≤ 2 ^ 9000 := Nat.pow_le_pow_right (by decide) (by decide)
      have p6 : (2 : Nat) ^ 6 = 64 := by decide
      have e1 := lfr_eq (t := a) (b := 11) om (by decide) (by omega)
      have e2 := ltimes_eq om hc.pf k1 (by decide)
      have e3 := lsum_eq om hc.pb.bd (bd_mul hc.pf k1) (by decide)
      refine ⟨rfl, ?_, rfl⟩
      clear hd hx a0 a1 k1 k2 p9 p6 hc h
      dsimp only
      walk_at "evt") (by rw [List.length_map]; simp; exact Nat.le_trans hl (by decide))
  rw [g, List.nil_append, List.map_map, List.map_map]
  rfl
def cuIf : US := (sIf (uB (uBin dEq (uCall 2 S_law_take (uCons (uVar 0) (uCons (uC (.int 2)) uNil))) (uC (.int 1)))) (sAsg 3 (uM1 fJoin (uC (tx [])) (uFz (uLc (iFn fRng1 (uCons (uC (.int 3)) uNil)) (gN 6) uYes (uBin dIx (uC (tx [97, 98, 99, 100, 101, 102, 103, 104, 105, 106, 107, 108, 109, 110, 111, 112, 113, 114, 115, 116, 117, 118, 119, 120, 121, 122])) (uCallN 2 S_law_take (uCons (uVar 0) (uCons (uC (.int 26)) uNil)))) [6])))) sNext)
def cuRun : US :=
      (sSeq (sFor (iFn fRng1 (uCons (uBin dIx (uLst (uCons (uCall 2 S_law_take (uCons (uVar 0) (uCons (uC (.int 5)) uNil))) (uCons (uCall 2 S_law_take (uCons (uVar 0) (uCons (uC (.int 12)) uNil))) uNil))) (uFn fInt (uCons (uBin dEq (uCall 2 S_law_take (uCons (uVar 0) (uCons (uC (.int 6)) uNil))) (uC (.int 1))) uNil))) uNil)) (gN 6) cu_turn)
    (sSeq (sAsg 7 (uCall 2 S_law_minus (uCons (uVar 5) (uCons (uVar 4) uNil))))
    (sSeq (sAsg 8 (uFz (uLc (iLst (uFn fSortIS (uCons (uFz (uMv 2)) uNil))) (gT2 11 10) uYes (uTup (uCons (uVar 10) (uCons (uCallN 2 S_law_sum (uCons (uVar 4) (uCons (uCallN 2 S_law_times (uCons (uVar 7) (uCons (uCallN 2 S_law_fr (uCons (uVar 11) (uCons (uC (.int 11)) uNil))) uNil))) uNil))) uNil))) [11, 10])))
    (sRet (uTup (uCons (uVar 1) (uCons (uVar 4) (uCons (uVar 5) (uCons (uVar 8) uNil)))))))))
theorem cue_eq (n : Int) (hn : 0 ≤ n) (hn2 : n < 1000000000) (b : Box) : ∃ c b', S_law_cue [.loc 1, .int n] (bom b rest) = .ok (encCu c) (bom b' rest) ∧ CuOk c ∧ c.n = n := by
  have n3 : Bd 2 ((1, 3) : Fr) := ⟨by decide, by decide, by decide⟩
  -- the letters
  have sg1 : ∃ (sg : List Nat) (b1 : Box) , sg ≠ [] ∧ sg.length ≤ 1000 ∧ (∀ c ∈ sg, 97 ≤ c ∧ c ≤ 122) ∧
      cuIf
        [some (.val (.loc 1)), some (.val (.int n)), some (.own []), some (.val (tx [97, 98, 99, 120, 121, 122])), none, none, none, none, none, none, none, none, none] (bom b rest) =
      .nx [some (.val (.loc 1)), some (.val (.int n)), some (.own []), some (.val (tx sg)), none, none, none, none, none, none, none, none, none] (bom b1 rest) := by
    have e1 := take_eq (m := 2) b rest (by decide) (by decide)
    by_cases hd : tkv 2 b = 1
    · obtain ⟨cs, b', g, g1, g2⟩ := lets3 rest (some (.val (.int n))) (some (.own [])) (some (.val (tx [97, 98, 99, 120, 121, 122]))) none none none none none none none none (tkn 2 b)
      have f1 : fRng1 [.int 3] = some (rngN 0 3) := fRng1_eq (by decide)
      have f2 := fJoin_let (cs := cs) (by omega)
      have d0 : decide (tkv 2 b = 1) = true := decide_eq_true hd
      refine ⟨cs, b', (by intro z; rw [z] at g1; cases g1), by omega, g2, ?_⟩
      clear g1 g2 hd hn hn2 n3
      unfold cuIf uLc
      simp only [clrs]
      walk_at "evt"
    · have d0 : decide (tkv 2 b = 1) = false := decide_eq_false hd
      refine ⟨[97, 98, 99, 120, 121, 122], tkn 2 b, by simp, by decide, by decide, ?_⟩
      clear hd hn hn2 n3
      unfold cuIf
      walk_at "evt"
  obtain ⟨sg, b1, s0, s1, s2, gs⟩ := sg1
  have e2 := take_eq (m := 6) b1 rest (by decide) (by decide)
  -- from the begin on
  have go : ∀ (m : Int), m = 50 ∨ m = 99999 → ∃ c b', CuOk c ∧ c.n = n ∧ ∃ (t2 : Fr) (b2 b3 : Box), S_law_time [.loc 1, .int m] (bom (tkn 6 b1) rest) = .ok (encF c.b) (bom b2 rest) ∧ S_law_time [.loc 1, .int 25] (bom b2 rest) = .ok (encF t2) (bom b3 rest) ∧
      S_law_sum [encF (1, 3), encF t2] (bom b3 rest) = .ok (encF (fsum (1, 3) t2)) (bom b3 rest) ∧ S_law_sum [encF c.b, encF (fsum (1, 3) t2)] (bom b3 rest) = .ok (encF c.e) (bom b3 rest) ∧
      cuRun
        [some (.val (.loc 1)), some (.val (.int n)), some (.own []), some (.val (tx sg)), some (.val (encF c.b)), some (.val (encF c.e)), none, none, none, none, none, none, none] (bom b3 rest) = .rt (encCu c) (bom b' rest) := by
    intro m hm
    obtain ⟨q, b2, f1, tq⟩ := time_gen rest (m := m) (tkn 6 b1) (by omega) (by omega)
    obtain ⟨t2, b3, f2, t2q⟩ := time_gen rest (m := 25) b2 (by decide) (by decide)
    have tq' : Tg 99999 q := ⟨tq.cn, tq.a, by have := tq.b; omega, tq.d⟩
    have hc := cue_nums tq' t2q
    have tbd : Bd 20 t2 := t2q.nb.bd (by decide) (by decide)
    have f3 := lsum_eq (bom b3 rest) n3 tbd (by decide)
    have f4 := lsum_eq (bom b3 rest) hc.pb.bd hc.ps (by decide)
    -- how many words
    have e5 := take_eq (m := 5) b3 rest (by decide) (by decide)
    have e6 := take_eq (m := 12) (tkn 5 b3) rest (by decide) (by decide)
    have e7 := take_eq (m := 6) (tkn 12 (tkn 5 b3)) rest (by decide) (by decide)
    have x5 := tkv_nn (m := 5) b3 (by decide)
    have y5 := tkv_lt (m := 5) b3 (by decide)
    have x6 := tkv_nn (m := 12) (tkn 5 b3) (by decide)
    have y6 := tkv_lt (m := 12) (tkn 5 b3) (by decide)
    have fin : ∀ k : Int, 0 ≤ k → k < 12 → ∃ (c : Cu) (b' : Box), CuOk c ∧ c.n = n ∧ c.b = q ∧ c.e = fsum q (fsum (1, 3) t2) ∧ fRng1 [.int k] = some (rngN 0 k.toNat) ∧ ∃ (zs : List (Int × List Nat)) (w6 w9 w10 w11 w12 : Option Sl), goL (gN 6) cu_turn (rngN 0 k.toNat) [some (.val (.loc 1)), some (.val (.int n)), some (.own []), some (.val (tx sg)), some (.val (encF q)), some (.val (encF (fsum q (fsum (1, 3) t2)))), none, none, none, none, none, none, none] (bom (tkn 6 (tkn 12 (tkn 5 b3))) rest) =
        .nx [some (.val (.loc 1)), some (.val (.int n)), some (.own (zs.map encA)), some (.val (tx sg)), some (.val (encF q)), some (.val (encF (fsum q (fsum (1, 3) t2)))), w6, none, none, w9, w10, w11, w12] (bom b' rest) ∧ S_law_minus [encF (fsum q (fsum (1, 3) t2)), encF q] (bom b' rest) = .ok (encF (fsub (fsum q (fsum (1, 3) t2)) q)) (bom b' rest) ∧
        c.ws.map encW = ((isort (fun x y => ltIS (kA x) (kA y)) zs).map (wdOf q (fsub (fsum q (fsum (1, 3) t2)) q))).map encW ∧ zs.length ≤ 20 ∧ (∀ x ∈ isort (fun x y => ltIS (kA x) (kA y)) zs, 0 ≤ x.1 ∧ x.1 < 11) := by
      intro k k0 k1
      have rl : (rngN 0 k.toNat).length = k.toNat := by unfold rngN; simp
      obtain ⟨zs, b', w6, w9, w10, w11, w12, g, g1, g2⟩ := cu_loop rest (some (.val (.int n))) (some (.val (encF q))) (some (.val (encF (fsum q (fsum (1, 3) t2))))) none none sg s0 s1 s2 (rngN 0 k.toNat) [] none none none none none (tkn 6 (tkn 12 (tkn 5 b3))) (by rw [rl]; simp; omega) (by simp)
      have zl : zs.length ≤ 11 := by rw [g2, rl]; simp; omega
      have ip := isort_perm (fun x y => ltIS (kA x) (kA y)) zs
      have im : ∀ x ∈ isort (fun x y => ltIS (kA x) (kA y)) zs, 0 ≤ x.1 ∧ x.1 < 11 ∧ Wd x.2 := fun x hx => g1 x (ip.mem_iff.mp hx)
      refine ⟨⟨n, q, fsum q (fsum (1, 3) t2), (isort (fun x y => ltIS (kA x) (kA y)) zs).map (wdOf q (fsub (fsum q (fsum (1, 3) t2)) q))⟩, b', ⟨hn, hn2, hc.pb, hc.pe, hc.lt, hc.hi, fun w hw => ?_, ?_, ?_⟩, rfl, rfl, rfl, fRng1_eq (by omega), zs, w6, w9, w10, w11, w12, g, lminus_eq _ hc.pe.bd hc.pb.bd (by decide), rfl, by omega, fun x hx => ⟨(im x hx).1, (im x hx).2.1⟩⟩
      · obtain ⟨x, hx, rfl⟩ := List.mem_map.mp hw
        obtain ⟨a0, a1, a2⟩ := im x hx
        obtain ⟨_, m2, m3, m4⟩ := hc.w x.1 a0 a1
        exact ⟨a2, m2, m3, m4⟩
      · refine List.pairwise_map.mpr (List.Pairwise.imp_of_mem (fun {x y} hx hy hxy => ?_) (sort_ats zs))
        exact hc.mono x.1 y.1 (im x hx).1 hxy (im y hy).2.1
      · rw [List.length_map, ip.length_eq]
        exact zl
    have fin2 : ∃ k : Int, 0 ≤ k ∧ k < 12 ∧ atN [D.int (tkv 5 b3), .int (tkv 12 (tkn 5 b3))] (if decide (tkv 6 (tkn 12 (tkn 5 b3)) = 1) = true then 1 else 0) = some (.int k) := by
      by_cases hd : tkv 6 (tkn 12 (tkn 5 b3)) = 1
      · exact ⟨_, x6, y6, by rw [decide_eq_true hd]; rfl⟩
      · exact ⟨_, x5, by omega, by rw [decide_eq_false hd]; rfl⟩
    obtain ⟨k, k0, k1, ek⟩ := fin2
    obtain ⟨c, b', hco, cn, cb, ce, f5, zs, w6, w9, w10, w11, w12, g, f6, f7, zl, zm⟩ := fin k k0 k1
    have f8 := fSort_A zs
    have f9 := cu_words (some (.val (.loc 1))) (some (.val (.int n))) none (some (.val (tx sg))) (some (.val (encF (fsum q (fsum (1, 3) t2))))) w6 none w9 w12 q (fsum (1, 3) t2) _ hc (isort (fun x y => ltIS (kA x) (kA y)) zs) (by rw [(isort_perm _ _).length_eq]; exact zl) zm (bom b' rest)
    rw [← f7] at f9
    refine ⟨c, b', hco, cn, t2, b2, b3, by rw [cb]; exact f1, f2, f3, by rw [cb, ce]; exact f4, ?_⟩
    rw [cb, ce, show encCu c = .tup [.int c.n, encF c.b, encF c.e, .lst (c.ws.map encW)] from rfl, cn, cb, ce]
    unfold cuRun uLc
    simp only [clrs]
    generalize c.ws.map encW = WW at *
    generalize zs.map encA = ZZ at *
    generalize (isort (fun x y => ltIS (kA x) (kA y)) zs).map encA = II at *
    generalize (fsub (fsum q (fsum (1, 3) t2)) q) = FAR at *
    generalize (fsum q (fsum (1, 3) t2)) = EE at *
    clear fin hco cn cb ce f7 zl zm hc tbd tq tq' t2q k0 k1 x5 y5 x6 y6 n3 s0 s1 s2 gs e2 hm hn hn2 f1 f2 f3 f4
    unfold cu_turn at g
    unfold cu_turn
    walk_at "evt"
  have hu : u_law_cue = (sSeq (sAsgO 2 (uLstO uNil)) (sSeq (sAsg 3 (uC (tx [97, 98, 99, 120, 121, 122]))) (sSeq cuIf
    (sSeq (sAsg 4 (uCall 2 S_law_time (uCons (uVar 0) (uCons (uBin dIx (uLst (uCons (uC (.int 50)) (uCons (uC (.int 99999)) uNil))) (uFn fInt (uCons (uBin dEq (uCall 2 S_law_take (uCons (uVar 0) (uCons (uC (.int 6)) uNil))) (uC (.int 1))) uNil))) uNil))))
    (sSeq (sAsg 5 (uCall 2 S_law_sum (uCons (uVar 4) (uCons (uCall 2 S_law_sum (uCons (uTup (uCons (uC (.int 1)) (uCons (uC (.int 3)) uNil))) (uCons (uCall 2 S_law_time (uCons (uVar 0) (uCons (uC (.int 25)) uNil))) uNil))) uNil))))
    cuRun))))) := by
    unfold u_law_cue cuIf cuRun cu_turn
    simp only [k_abc, k_alpha, k_empty]
  by_cases hd : tkv 6 b1 = 1
  · obtain ⟨c, b', k1, k2, t2, b2, b3, g1, g2, g3, g4, g5⟩ := go 99999 (.inr rfl)
    refine ⟨c, b', ?_, k1, k2⟩
    have d0 : decide (tkv 6 b1 = 1) = true := decide_eq_true hd
    unfold S_law_cue
    rw [hu]
    clear go hu k1 k2 hd n3 s0 s1 s2 hn hn2
    walk_at "evt"
  · obtain ⟨c, b', k1, k2, t2, b2, b3, g1, g2, g3, g4, g5⟩ := go 50 (.inl rfl)
    refine ⟨c, b', ?_, k1, k2⟩
    have d0 : decide (tkv 6 b1 = 1) = false := decide_eq_false hd
    unfold S_law_cue
    rw [hu]
    clear go hu k1 k2 hd n3 s0 s1 s2 hn hn2
    walk_at "evt"
end
end Dv

namespace Dv
open PySem PySem.Spec PyProof.Rows L2
local macro_rules | `(tactic| walk_at "ev") => `(tactic| try simp (disch := omega) only [sSeq_eq, seq_nx, seq_rt, seq_rto, seq_xc, seq_bk, seq_ct, seq_ite, sAsg, sAsgO, sExpr, sRet, sRetO, sRetN, sIf, sNext, uVar, uC, uUn, uBin, uB, uNot, uAnd, uOr, uTV, uAndV, uOrV, uNotV, uIf, uChain, uNil, uCons, uTup, uLst, uLstO, uFn, uFnO, uFz, uMv, uNew, uCall, uCallO, uCallN, uBinV, uBinW, uBinL, uMeO, uMeL, uFnV, sSetL, sAsgG, gN, gT2, gT3, gT4, iLst, iFn,   bind_ok, bind_xc, of_ok, of_xc, res_ok, res_xc, res0_ok, own_ok, own_xc, fr_nx, fr_rt, fr_rto, fr_xc, fo_rto, fo_xc, liftO_some, dBool_bl, items_lst, items_frz, ent, defU, defO, List.map_cons, List.map_nil, List.length_cons, List.length_nil, List.cons_append, List.nil_append, List.append_nil, List.replicate, List.getElem?_cons_zero, List.getElem?_cons_succ, List.set_cons_zero, List.set_cons_succ, Nat.zero_add, Nat.reduceAdd, Nat.reduceSub, Nat.reduceLeDiff,   le_big, lt_big, atN_zero, atN_one, atN_two, atN_three, setN_zero, setN_one, popAt_zero, len_zero, len_succ, dMul_r, dMul_l, dDiv_pos, dMod_pos, dAdd_int, dSub_int, dNeg_int, dLt_int, dLe_int, dGt_int, dGe_int, dEq_int, dNe_int, dEq_bl, dNe_bl, dEq_nil, dNe_nil, dIx_lst, dIx_tup, fAbs_int, fInt_bl, fInt_int, fLen_lst, fLen_frz, fLen_tup, ite_true, ite_false, if_true, if_false, Bool.not_true, Bool.not_false, decide_true, decide_false, Bool.true_eq_false, Bool.false_eq_true, reduceIte, reduceCtorEq, turn_nx, turn_ct, turn_bk, turn_rt, turn_rto, turn_xc, sFor_eq, goL_nil, eq_self])
local macro_rules | `(tactic| walk_at "evs") => `(tactic| try simp (disch := omega) only [sSeq_eq, seq_nx, seq_rt, seq_rto, seq_xc, seq_bk, seq_ct, seq_ite, sAsg, sAsgO, sExpr, sRet, sRetO, sRetN, sIf, sNext, uVar, uC, uUn, uBin, uB, uNot, uAnd, uOr, uTV, uAndV, uOrV, uNotV, uIf, uChain, uNil, uCons, uTup, uLst, uLstO, uFn, uFnO, uFz, uMv, uNew, uCall, uCallO, uCallN, uBinV, uBinW, uBinL, uMeO, uMeL, uFnV, sSetL, sAsgG, gN, gT2, gT3, gT4, iLst, iFn,   bind_ok, bind_xc, of_ok, of_xc, res_ok, res_xc, res0_ok, own_ok, own_xc, fr_nx, fr_rt, fr_rto, fr_xc, fo_rto, fo_xc, liftO_some, dBool_bl, items_lst, items_frz, ent, defU, defO, List.map_cons, List.map_nil, List.length_cons, List.length_nil, List.cons_append, List.nil_append, List.append_nil, List.replicate, List.getElem?_cons_zero, List.getElem?_cons_succ, List.set_cons_zero, List.set_cons_succ, Nat.zero_add, Nat.reduceAdd, Nat.reduceSub, Nat.reduceLeDiff,   le_big, lt_big, atN_zero, atN_one, atN_two, atN_three, setN_zero, setN_one, popAt_zero, len_zero, len_succ, dMul_r, dMul_l, dDiv_pos, dMod_pos, dAdd_int, dSub_int, dNeg_int, dLt_int, dLe_int, dGt_int, dGe_int, dEq_int, dNe_int, dEq_bl, dNe_bl, dEq_nil, dNe_nil, dIx_lst, dIx_tup, fAbs_int, fInt_bl, fInt_int, fLen_lst, fLen_frz, fLen_tup, ite_true, ite_false, if_true, if_false, Bool.not_true, Bool.not_false, decide_true, decide_false, Bool.true_eq_false, Bool.false_eq_true, reduceIte, reduceCtorEq, turn_nx, turn_ct, turn_bk, turn_rt, turn_rto, turn_xc, sFor_eq, goL_nil, eq_self, *])
local macro_rules | `(tactic| walk_at "evt") => `(tactic| try simp (disch := first | omega | (simp only [List.length_append, List.length_cons, List.length_nil, List.length_map]; omega)) only [sSeq_eq, seq_nx, seq_rt, seq_rto, seq_xc, seq_bk, seq_ct, seq_ite, sAsg, sAsgO, sExpr, sRet, sRetO, sRetN, sIf, sNext, uVar, uC, uUn, uBin, uB, uNot, uAnd, uOr, uTV, uAndV, uOrV, uNotV, uIf, uChain, uNil, uCons, uTup, uLst, uLstO, uFn, uFnO, uFz, uMv, uNew, uCall, uCallO, uCallN, uBinV, uBinW, uBinL, uMeO, uMeL, uFnV, sSetL, sAsgG, gN, gT2, gT3, gT4, iLst, iFn,   bind_ok, bind_xc, of_ok, of_xc, res_ok, res_xc, res0_ok, own_ok, own_xc, fr_nx, fr_rt, fr_rto, fr_xc, fo_rto, fo_xc, liftO_some, dBool_bl, items_lst, items_frz, ent, defU, defO, List.map_cons, List.map_nil, List.length_cons, List.length_nil, List.cons_append, List.nil_append, List.append_nil, List.replicate, List.getElem?_cons_zero, List.getElem?_cons_succ, List.set_cons_zero, List.set_cons_succ, Nat.zero_add, Nat.reduceAdd, Nat.reduceSub, Nat.reduceLeDiff,   le_big, lt_big, atN_zero, atN_one, atN_two, atN_three, setN_zero, setN_one, popAt_zero, len_zero, len_succ, dMul_r, dMul_l, dDiv_pos, dMod_pos, dAdd_int, dSub_int, dNeg_int, dLt_int, dLe_int, dGt_int, dGe_int, dEq_int, dNe_int, dEq_bl, dNe_bl, dEq_nil, dNe_nil, dIx_lst, dIx_tup, fAbs_int, fInt_bl, fInt_int, fLen_lst, fLen_frz, fLen_tup, ite_true, ite_false, if_true, if_false, Bool.not_true, Bool.not_false, decide_true, decide_false, Bool.true_eq_false, Bool.false_eq_true, reduceIte, reduceCtorEq, turn_nx, turn_ct, turn_bk, turn_rt, turn_rto, turn_xc, sFor_eq, goL_nil, eq_self, sRaise, gT2, gT3, gT4, sAsgG, uM1, uOrS, uSlS, uSlW, uCatV, uPart, uNoPart, iStrU, k_colon, k_blank, k_line, k_f, k_s, k_0, k_empty, k_digits, k_abc, k_alpha, k_cue, k_from, k_to, k_at, k_two, k_fto, k_nl, k_a1, dAdd_tx, fLen_tx, fStr_nat, dEq_tx, dNe_tx, dEq_txn, dNe_txn, len_tx, cutS_l1, cutS_b1, cutS_ln, cutS_bn, dIx_tx0, *])
/-! ### rows of cues drawn -/
section
variable (rest : Om)
def cs_turn : US := (sSeq (sAsg 2 (uBin dAdd (uBin dAdd (uVar 2) (uC (.int 1))) (uBin dIx (uLst (uCons (uCall 2 S_law_take (uCons (uVar 0) (uCons (uC (.int 3)) uNil))) (uCons (uCall 2 S_law_take (uCons (uVar 0) (uCons (uC (.int 10000000)) uNil))) uNil))) (uFn fInt (uCons (uBin dEq (uCall 2 S_law_take (uCons (uVar 0) (uCons (uC (.int 6)) uNil))) (uC (.int 1))) uNil)))))
    (sExpr (uMeO 1 mAppend (uCons (uCall 2 S_law_cue (uCons (uVar 0) (uCons (uVar 2) uNil))) uNil))))
theorem cs_step (x3 : Option Sl) (cs : List Cu) (n : Int) (hn : 0 ≤ n) (hn2 : n < 900000000) (hc : cs.length ≤ 20) (b : Box) : ∃ (c : Cu) (b' : Box), cs_turn [some (.val (.loc 1)), some (.own (cs.map encCu)), some (.val (.int n)), x3] (bom b rest) = .nx [some (.val (.loc 1)), some (.own ((cs ++ [c]).map encCu)), some (.val (.int c.n)), x3] (bom b' rest) ∧ CuOk c ∧ n < c.n ∧ c.n ≤ n + 10000000 := by
  have e1 := take_eq (m := 3) b rest (by decide) (by decide)
  have e2 := take_eq (m := 10000000) (tkn 3 b) rest (by decide) (by decide)
  have e3 := take_eq (m := 6) (tkn 10000000 (tkn 3 b)) rest (by decide) (by decide)
  have x1 := tkv_nn (m := 3) b (by decide)
  have y1 := tkv_lt (m := 3) b (by decide)
  have x2 := tkv_nn (m := 10000000) (tkn 3 b) (by decide)
  have y2 := tkv_lt (m := 10000000) (tkn 3 b) (by decide)
  have fin : ∃ k : Int, 0 ≤ k ∧ k < 10000000 ∧ atN [D.int (tkv 3 b), .int (tkv 10000000 (tkn 3 b))] (if decide (tkv 6 (tkn 10000000 (tkn 3 b)) = 1) = true then 1 else 0) = some (.int k) := by
    by_cases hd : tkv 6 (tkn 10000000 (tkn 3 b)) = 1
    · exact ⟨_, x2, y2, by rw [decide_eq_true hd]; rfl⟩
    · exact ⟨_, x1, by omega, by rw [decide_eq_false hd]; rfl⟩
  obtain ⟨k, k0, k1, ek⟩ := fin
  obtain ⟨c, b', g, g1, g2⟩ := cue_eq rest (n + 1 + k) (by omega) (by omega) (tkn 6 (tkn 10000000 (tkn 3 b)))
  have app : mAppend (cs.map encCu) [encCu c] = some (.non, (cs ++ [c]).map encCu) := by
    unfold mAppend
    dsimp only
    rw [if_pos (by rw [List.length_map]; exact Nat.lt_of_le_of_lt hc (by decide))]
    simp
  refine ⟨c, b', ?_, g1, by omega, by omega⟩
  rw [g2]
  clear g1 g2 k0 k1 x1 y1 x2 y2 hn hn2 hc
  unfold cs_turn
  generalize (cs ++ [c]).map encCu = Y at *
  generalize encCu c = cc at *
  generalize cs.map encCu = XX at *
  walk_at "evt"
theorem cs_loop : ∀ (l : List D) (cs : List Cu) (n : Int) (x3 : Option Sl) (b : Box), 0 ≤ n → n + 10000000 * l.length < 900000000 → cs.length + l.length ≤ 20 → (∀ c ∈ cs, CuOk c ∧ c.n ≤ n) → cs.Pairwise (fun c d => c.n < d.n) → ∃ (zs : List Cu) (b' : Box) (y2 y3 : Option Sl),
    goL (gN 3) cs_turn l [some (.val (.loc 1)), some (.own (cs.map encCu)), some (.val (.int n)), x3] (bom b rest) = .nx [some (.val (.loc 1)), some (.own (zs.map encCu)), y2, y3] (bom b' rest) ∧ (∀ c ∈ zs, CuOk c) ∧ zs.Pairwise (fun c d => c.n < d.n) ∧ zs.length = cs.length + l.length
  | [], cs, n, x3, b, _, _, _, h, hp => ⟨cs, b, _, x3, rfl, fun c hc => (h c hc).1, hp, by simp⟩
  | d :: l, cs, n, x3, b, h0, h1, h2, h, hp => by
    simp only [List.length_cons] at h1 h2
    obtain ⟨c, b1, e, k1, k2, k3⟩ := cs_step rest (some (.val d)) cs n h0 (by omega) (by omega) b
    obtain ⟨zs, b', y2, y3, e2, m1, m2, m3⟩ := cs_loop l (cs ++ [c]) c.n (some (.val d)) b1 (by omega) (by omega) (by simp; omega) (fun z hz => by
      rcases List.mem_append.mp hz with q | q
      · exact ⟨(h z q).1, by have := (h z q).2; omega⟩
      · simp only [List.mem_cons, List.not_mem_nil, or_false] at q
        subst q
        exact ⟨k1, by omega⟩) (List.pairwise_append.mpr ⟨hp, List.pairwise_singleton _ _, fun x hx y hy => by
          simp only [List.mem_cons, List.not_mem_nil, or_false] at hy
          subst hy
          have := (h x hx).2
          omega⟩)
    refine ⟨zs, b', y2, y3, ?_, m1, m2, by rw [m3]; simp; omega⟩
    rw [goL_cons (ρ1 := [some (.val (.loc 1)), some (.own (cs.map encCu)), some (.val (.int n)), some (.val d)]) _ _ rfl, e, turn_nx, e2]
theorem cues_eq (b : Box) : ∃ (cs : List Cu) (b' : Box), S_law_cues [.loc 1] (bom b rest) = .ok (.lst (cs.map encCu)) (bom b' rest) ∧ (∀ c ∈ cs, CuOk c) ∧ cs.Pairwise (fun c d => c.n < d.n) ∧ cs.length ≤ 8 := by
  have e5 := take_eq (m := 5) b rest (by decide) (by decide)
  have e6 := take_eq (m := 9) (tkn 5 b) rest (by decide) (by decide)
  have e7 := take_eq (m := 6) (tkn 9 (tkn 5 b)) rest (by decide) (by decide)
  have x5 := tkv_nn (m := 5) b (by decide)
  have y5 := tkv_lt (m := 5) b (by decide)
  have x6 := tkv_nn (m := 9) (tkn 5 b) (by decide)
  have y6 := tkv_lt (m := 9) (tkn 5 b) (by decide)
  have fin2 : ∃ k : Int, 0 ≤ k ∧ k < 9 ∧ atN [D.int (tkv 5 b), .int (tkv 9 (tkn 5 b))] (if decide (tkv 6 (tkn 9 (tkn 5 b)) = 1) = true then 1 else 0) = some (.int k) := by
    by_cases hd : tkv 6 (tkn 9 (tkn 5 b)) = 1
    · exact ⟨_, x6, y6, by rw [decide_eq_true hd]; rfl⟩
    · exact ⟨_, x5, by omega, by rw [decide_eq_false hd]; rfl⟩
  obtain ⟨k, k0, k1, ek⟩ := fin2
  have rl : (rngN 0 k.toNat).length = k.toNat := by unfold rngN; simp
  have f5 : fRng1 [.int k] = some (rngN 0 k.toNat) := fRng1_eq (by omega)
  obtain ⟨zs, b', y2, y3, e2, m1, m2, m3⟩ := cs_loop rest (rngN 0 k.toNat) [] 0 none (tkn 6 (tkn 9 (tkn 5 b))) (by decide) (by rw [rl]; omega) (by rw [rl]; simp; omega) (by simp) .nil
  refine ⟨zs, b', ?_, m1, m2, by rw [m3, rl]; simp; omega⟩
  unfold cs_turn at e2
  simp only [List.map_nil] at e2
  clear m1 m2 m3 rl k0 k1 x5 y5 x6 y6
  unfold S_law_cues u_law_cues
  generalize zs.map encCu = Y at *
  walk_at "evt"
end
end Dv

namespace Dv
open PySem PySem.Spec PyProof.Rows L2
local macro_rules | `(tactic| walk_at "ev") => `(tactic| try simp (disch := omega) only [sSeq_eq, seq_nx, seq_rt, seq_rto, seq_xc, seq_bk, seq_ct, seq_ite, sAsg, sAsgO, sExpr, sRet, sRetO, sRetN, sIf, sNext, uVar, uC, uUn, uBin, uB, uNot, uAnd, uOr, uTV, uAndV, uOrV, uNotV, uIf, uChain, uNil, uCons, uTup, uLst, uLstO, uFn, uFnO, uFz, uMv, uNew, uCall, uCallO, uCallN, uBinV, uBinW, uBinL, uMeO, uMeL, uFnV, sSetL, sAsgG, gN, gT2, gT3, gT4, iLst, iFn,   bind_ok, bind_xc, of_ok, of_xc, res_ok, res_xc, res0_ok, own_ok, own_xc, fr_nx, fr_rt, fr_rto, fr_xc, fo_rto, fo_xc, liftO_some, dBool_bl, items_lst, items_frz, ent, defU, defO, List.map_cons, List.map_nil, List.length_cons, List.length_nil, List.cons_append, List.nil_append, List.append_nil, List.replicate, List.getElem?_cons_zero, List.getElem?_cons_succ, List.set_cons_zero, List.set_cons_succ, Nat.zero_add, Nat.reduceAdd, Nat.reduceSub, Nat.reduceLeDiff,   le_big, lt_big, atN_zero, atN_one, atN_two, atN_three, setN_zero, setN_one, popAt_zero, len_zero, len_succ, dMul_r, dMul_l, dDiv_pos, dMod_pos, dAdd_int, dSub_int, dNeg_int, dLt_int, dLe_int, dGt_int, dGe_int, dEq_int, dNe_int, dEq_bl, dNe_bl, dEq_nil, dNe_nil, dIx_lst, dIx_tup, fAbs_int, fInt_bl, fInt_int, fLen_lst, fLen_frz, fLen_tup, ite_true, ite_false, if_true, if_false, Bool.not_true, Bool.not_false, decide_true, decide_false, Bool.true_eq_false, Bool.false_eq_true, reduceIte, reduceCtorEq, turn_nx, turn_ct, turn_bk, turn_rt, turn_rto, turn_xc, sFor_eq, goL_nil, eq_self])
local macro_rules | `(tactic| walk_at "evs") => `(tactic| try simp (disch := omega) only [sSeq_eq, seq_nx, seq_rt, seq_rto, seq_xc, seq_bk, seq_ct, seq_ite, sAsg, sAsgO, sExpr, sRet, sRetO, sRetN, sIf, sNext, uVar, uC, uUn, uBin, uB, uNot, uAnd, uOr, uTV, uAndV, uOrV, uNotV, uIf, uChain, uNil, uCons, uTup, uLst, uLstO, uFn, uFnO, uFz, uMv, uNew, uCall, uCallO, uCallN, uBinV, uBinW, uBinL, uMeO, uMeL, uFnV, sSetL, sAsgG, gN, gT2, gT3, gT4, iLst, iFn,   bind_ok, bind_xc, of_ok, of_xc, res_ok, res_xc, res0_ok, own_ok, own_xc, fr_nx, fr_rt, fr_rto, fr_xc, fo_rto, fo_xc, liftO_some, dBool_bl, items_lst, items_frz, ent, defU, defO, List.map_cons, List.map_nil, List.length_cons, List.length_nil, List.cons_append, List.nil_append, List.append_nil, List.replicate, List.getElem?_cons_zero, List.getElem?_cons_succ, List.set_cons_zero, List.set_cons_succ, Nat.zero_add, Nat.reduceAdd, Nat.reduceSub, Nat.reduceLeDiff,   le_big, lt_big, atN_zero, atN_one, atN_two, atN_three, setN_zero, setN_one, popAt_zero, len_zero, len_succ, dMul_r, dMul_l, dDiv_pos, dMod_pos, dAdd_int, dSub_int, dNeg_int, dLt_int, dLe_int, dGt_int, dGe_int, dEq_int, dNe_int, dEq_bl, dNe_bl, dEq_nil, dNe_nil, dIx_lst, dIx_tup, fAbs_int, fInt_bl, fInt_int, fLen_lst, fLen_frz, fLen_tup, ite_true, ite_false, if_true, if_false, Bool.not_true, Bool.not_false, decide_true, decide_false, Bool.true_eq_false, Bool.false_eq_true, reduceIte, reduceCtorEq, turn_nx, turn_ct, turn_bk, turn_rt, turn_rto, turn_xc, sFor_eq, goL_nil, eq_self, *])
local macro_rules | `(tactic| walk_at "evt") => `(tactic| try simp (disch := first | omega | (simp only [List.length_append, List.length_cons, List.length_nil, List.length_map]; omega)) only [sSeq_eq, seq_nx, seq_rt, seq_rto, seq_xc, seq_bk, seq_ct, seq_ite, sAsg, sAsgO, sExpr, sRet, sRetO, sRetN, sIf, sNext, uVar, uC, uUn, uBin, uB, uNot, uAnd, uOr, uTV, uAndV, uOrV, uNotV, uIf, uChain, uNil, uCons, uTup, uLst, uLstO, uFn, uFnO, uFz, uMv, uNew, uCall, uCallO, uCallN, uBinV, uBinW, uBinL, uMeO, uMeL, uFnV, sSetL, sAsgG, gN, gT2, gT3, gT4, iLst, iFn,   bind_ok, bind_xc, of_ok, of_xc, res_ok, res_xc, res0_ok, own_ok, own_xc, fr_nx, fr_rt, fr_rto, fr_xc, fo_rto, fo_xc, liftO_some, dBool_bl, items_lst, items_frz, ent, defU, defO, List.map_cons, List.map_nil, List.length_cons, List.length_nil, List.cons_append, List.nil_append, List.append_nil, List.replicate, List.getElem?_cons_zero, List.getElem?_cons_succ, List.set_cons_zero, List.set_cons_succ, Nat.zero_add, Nat.reduceAdd, Nat.reduceSub, Nat.reduceLeDiff,   le_big, lt_big, atN_zero, atN_one, atN_two, atN_three, setN_zero, setN_one, popAt_zero, len_zero, len_succ, dMul_r, dMul_l, dDiv_pos, dMod_pos, dAdd_int, dSub_int, dNeg_int, dLt_int, dLe_int, dGt_int, dGe_int, dEq_int, dNe_int, dEq_bl, dNe_bl, dEq_nil, dNe_nil, dIx_lst, dIx_tup, fAbs_int, fInt_bl, fInt_int, fLen_lst, fLen_frz, fLen_tup, ite_true, ite_false, if_true, if_false, Bool.not_true, Bool.not_false, decide_true, decide_false, Bool.true_eq_false, Bool.false_eq_true, reduceIte, reduceCtorEq, turn_nx, turn_ct, turn_bk, turn_rt, turn_rto, turn_xc, sFor_eq, goL_nil, eq_self, sRaise, gT2, gT3, gT4, sAsgG, uM1, uOrS, uSlS, uSlW, uCatV, uPart, uNoPart, iStrU, k_colon, k_blank, k_line, k_f, k_s, k_0, k_empty, k_digits, k_abc, k_alpha, k_cue, k_from, k_to, k_at, k_two, k_fto, k_nl, k_a1, dAdd_tx, fLen_tx, fStr_nat, dEq_tx, dNe_tx, dEq_txn, dNe_txn, len_tx, cutS_l1, cutS_b1, cutS_ln, cutS_bn, dIx_tx0, *])
section
variable (om : Om)
theorem lmixed_eq (q : Fr) (h : Wr q) : S_law_mixed [encF q] om = .ok (tx (mixL q)) om := by
  have c := h.c
  have d := h.d
  have v := h.div
  have m := h.md
  have l1 := h.l1
  have l2 := h.l2
  have l3 := h.l3
  have s1 := fStr_nat v.1 (by omega)
  have s2 := fStr_nat m.1 (by omega)
  have s3 := fStr_nat (i := q.2) (by omega) (by omega)
  have e1 : dDiv (.int q.1) (.int q.2) = some (.int (q.1 / q.2)) := dDiv_pos c d
  have e2 : dMod (.int q.1) (.int q.2) = some (.int (q.1 % q.2)) := dMod_pos c
  unfold mixL
  clear h c d v
  by_cases h0 : q.1 % q.2 = 0
  · have d0 : decide (q.1 % q.2 = 0) = true := decide_eq_true h0
    rw [if_pos h0]
    clear h0 m
    unfold S_law_mixed u_law_mixed
    generalize nm (q.1 / q.2) = A at *
    generalize nm (q.1 % q.2) = B at *
    generalize q.1 / q.2 = x at *
    generalize q.1 % q.2 = y at *
    walk_at "evt"
  · have d0 : decide (q.1 % q.2 = 0) = false := decide_eq_false h0
    rw [if_neg h0]
    clear h0 m
    unfold S_law_mixed u_law_mixed
    generalize nm (q.1 / q.2) = A at *
    generalize nm (q.1 % q.2) = B at *
    generalize nm q.2 = C at *
    generalize q.1 / q.2 = x at *
    generalize q.1 % q.2 = y at *
    walk_at "evt"
end
end Dv

namespace Dv
open PySem PySem.Spec PyProof.Rows L2
local macro_rules | `(tactic| walk_at "ev") => `(tactic| try simp (disch := omega) only [sSeq_eq, seq_nx, seq_rt, seq_rto, seq_xc, seq_bk, seq_ct, seq_ite, sAsg, sAsgO, sExpr, sRet, sRetO, sRetN, sIf, sNext, uVar, uC, uUn, uBin, uB, uNot, uAnd, uOr, uTV, uAndV, uOrV, uNotV, uIf, uChain, uNil, uCons, uTup, uLst, uLstO, uFn, uFnO, uFz, uMv, uNew, uCall, uCallO, uCallN, uBinV, uBinW, uBinL, uMeO, uMeL, uFnV, sSetL, sAsgG, gN, gT2, gT3, gT4, iLst, iFn,   bind_ok, bind_xc, of_ok, of_xc, res_ok, res_xc, res0_ok, own_ok, own_xc, fr_nx, fr_rt, fr_rto, fr_xc, fo_rto, fo_xc, liftO_some, dBool_bl, items_lst, items_frz, ent, defU, defO, List.map_cons, List.map_nil, List.length_cons, List.length_nil, List.cons_append, List.nil_append, List.append_nil, List.replicate, List.getElem?_cons_zero, List.getElem?_cons_succ, List.set_cons_zero, List.set_cons_succ, Nat.zero_add, Nat.reduceAdd, Nat.reduceSub, Nat.reduceLeDiff,   le_big, lt_big, atN_zero, atN_one, atN_two, atN_three, setN_zero, setN_one, popAt_zero, len_zero, len_succ, dMul_r, dMul_l, dDiv_pos, dMod_pos, dAdd_int, dSub_int, dNeg_int, dLt_int, dLe_int, dGt_int, dGe_int, dEq_int, dNe_int, dEq_bl, dNe_bl, dEq_nil, dNe_nil, dIx_lst, dIx_tup, fAbs_int, fInt_bl, fInt_int, fLen_lst, fLen_frz, fLen_tup, ite_true, ite_false, if_true, if_false, Bool.not_true, Bool.not_false, decide_true, decide_false, Bool.true_eq_false, Bool.false_eq_true, reduceIte, reduceCtorEq, turn_nx, turn_ct, turn_bk, turn_rt, turn_rto, turn_xc, sFor_eq, goL_nil, eq_self])
local macro_rules | `(tactic| walk_at "evs") => `(tactic| try simp (disch := omega) only [sSeq_eq, seq_nx, seq_rt, seq_rto, seq_xc, seq_bk, seq_ct, seq_ite, sAsg, sAsgO, sExpr, sRet, sRetO, sRetN, sIf, sNext, uVar, uC, uUn, uBin, uB, uNot, uAnd, uOr, uTV, uAndV, uOrV, uNotV, uIf, uChain, uNil, uCons, uTup, uLst, uLstO, uFn, uFnO, uFz, uMv, uNew, uCall, uCallO, uCallN, uBinV, uBinW, uBinL, uMeO, uMeL, uFnV, sSetL, sAsgG, gN, gT2, gT3, gT4, iLst, iFn,   bind_ok, bind_xc, of_ok, of_xc, res_ok, res_xc, res0_ok, own_ok, own_xc, fr_nx, fr_rt, fr_rto, fr_xc, fo_rto, fo_xc, liftO_some, dBool_bl, items_lst, items_frz, ent, defU, defO, List.map_cons, List.map_nil, List.length_cons, List.length_nil, List.cons_append, List.nil_append, List.append_nil, List.replicate, List.getElem?_cons_zero, List.getElem?_cons_succ, List.set_cons_zero, List.set_cons_succ, Nat.zero_add, Nat.reduceAdd, Nat.reduceSub, Nat.reduceLeDiff,   le_big, lt_big, atN_zero, atN_one, atN_two, atN_three, setN_zero, setN_one, popAt_zero, len_zero, len_succ, dMul_r, dMul_l, dDiv_pos, dMod_pos, dAdd_int, dSub_int, dNeg_int, dLt_int, dLe_int, dGt_int, dGe_int, dEq_int, dNe_int, dEq_bl, dNe_bl, dEq_nil, dNe_nil, dIx_lst, dIx_tup, fAbs_int, fInt_bl, fInt_int, fLen_lst, fLen_frz, fLen_tup, ite_true, ite_false, if_true, if_false, Bool.not_true, Bool.not_false, decide_true, decide_false, Bool.true_eq_false, Bool.false_eq_true, reduceIte, reduceCtorEq, turn_nx, turn_ct, turn_bk, turn_rt, turn_rto, turn_xc, sFor_eq, goL_nil, eq_self, *])
local macro_rules | `(tactic| walk_at "evt") => `(tactic| try simp (disch := first | omega | (simp only [List.length_append, List.length_cons, List.length_nil, List.length_map]; omega)) only [sSeq_eq, seq_nx, seq_rt, seq_rto, seq_xc, seq_bk, seq_ct, seq_ite, sAsg, sAsgO, sExpr, sRet, sRetO, sRetN, sIf, sNext, uVar, uC, uUn, uBin, uB, uNot, uAnd, uOr, uTV, uAndV, uOrV, uNotV, uIf, uChain, uNil, uCons, uTup, uLst, uLstO, uFn, uFnO, uFz, uMv, uNew, uCall, uCallO, uCallN, uBinV, uBinW, uBinL, uMeO, uMeL, uFnV, sSetL, sAsgG, gN, gT2, gT3, gT4, iLst, iFn,   bind_ok, bind_xc, of_ok, of_xc, res_ok, res_xc, res0_ok, own_ok, own_xc, fr_nx, fr_rt, fr_rto, fr_xc, fo_rto, fo_xc, liftO_some, dBool_bl, items_lst, items_frz, ent, defU, defO, List.map_cons, List.map_nil, List.length_cons, List.length_nil, List.cons_append, List.nil_append, List.append_nil, List.replicate, List.getElem?_cons_zero, List.getElem?_cons_succ, List.set_cons_zero, List.set_cons_succ, Nat.zero_add, Nat.reduceAdd, Nat.reduceSub, Nat.reduceLeDiff,   le_big, lt_big, atN_zero, atN_one, atN_two, atN_three, setN_zero, setN_one, popAt_zero, len_zero, len_succ, dMul_r, dMul_l, dDiv_pos, dMod_pos, dAdd_int, dSub_int, dNeg_int, dLt_int, dLe_int, dGt_int, dGe_int, dEq_int, dNe_int, dEq_bl, dNe_bl, dEq_nil, dNe_nil, dIx_lst, dIx_tup, fAbs_int, fInt_bl, fInt_int, fLen_lst, fLen_frz, fLen_tup, ite_true, ite_false, if_true, if_false, Bool.not_true, Bool.not_false, decide_true, decide_false, Bool.true_eq_false, Bool.false_eq_true, reduceIte, reduceCtorEq, turn_nx, turn_ct, turn_bk, turn_rt, turn_rto, turn_xc, sFor_eq, goL_nil, eq_self, sRaise, gT2, gT3, gT4, sAsgG, uM1, uOrS, uSlS, uSlW, uCatV, uPart, uNoPart, iStrU, k_colon, k_blank, k_line, k_f, k_s, k_0, k_empty, k_digits, k_abc, k_alpha, k_cue, k_from, k_to, k_at, k_two, k_fto, k_nl, k_a1, dAdd_tx, fLen_tx, fStr_nat, dEq_tx, dNe_tx, dEq_txn, dNe_txn, len_tx, cutS_l1, cutS_b1, cutS_ln, cutS_bn, dIx_tx0, *])
local macro_rules | `(tactic| walk_at "evx") => `(tactic| try simp (disch := first | omega | (simp only [List.length_append, List.length_cons, List.length_nil, List.length_map]; omega)) only [sSeq_eq, seq_nx, seq_rt, seq_rto, seq_xc, seq_bk, seq_ct, seq_ite, sAsg, sAsgO, sExpr, sRet, sRetO, sRetN, sIf, sNext, uVar, uC, uUn, uBin, uB, uNot, uAnd, uOr, uTV, uAndV, uOrV, uNotV, uIf, uChain, uNil, uCons, uTup, uLst, uLstO, uFn, uFnO, uFz, uMv, uNew, uCall, uCallO, uCallN, uBinV, uBinW, uBinL, uMeO, uMeL, uFnV, sSetL, sAsgG, gN, gT2, gT3, gT4, iLst, iFn,   bind_ok, bind_xc, of_ok, of_xc, res_ok, res_xc, res0_ok, own_ok, own_xc, fr_nx, fr_rt, fr_rto, fr_xc, fo_rto, fo_xc, liftO_some, dBool_bl, items_lst, items_frz, ent, defU, defO, List.map_cons, List.map_nil, List.length_cons, List.length_nil, List.cons_append, List.nil_append, List.append_nil, List.replicate, List.getElem?_cons_zero, List.getElem?_cons_succ, List.set_cons_zero, List.set_cons_succ, Nat.zero_add, Nat.reduceAdd, Nat.reduceSub, Nat.reduceLeDiff,   le_big, lt_big, atN_zero, atN_one, atN_two, atN_three, setN_zero, setN_one, popAt_zero, len_zero, len_succ, dMul_r, dMul_l, dDiv_pos, dMod_pos, dAdd_int, dSub_int, dNeg_int, dLt_int, dLe_int, dGt_int, dGe_int, dEq_int, dNe_int, dEq_bl, dNe_bl, dEq_nil, dNe_nil, dIx_lst, dIx_tup, fAbs_int, fInt_bl, fInt_int, fLen_lst, fLen_frz, fLen_tup, ite_true, ite_false, if_true, if_false, Bool.not_true, Bool.not_false, decide_true, decide_false, Bool.true_eq_false, Bool.false_eq_true, reduceIte, reduceCtorEq, turn_nx, turn_ct, turn_bk, turn_rt, turn_rto, turn_xc, sFor_eq, goL_nil, eq_self, sRaise, gT2, gT3, gT4, sAsgG, see_bl, see_int, see_non, see_tup, see_lst, see_str, uBinX, uUnX, uFnX, uFld, sFldU, uMeth, uMethO, uMake, uCatX, uRev, uMethN, uFrzI, uSlV, uM1, uOrS, uSlS, uSlW, uCatV, uPart, uNoPart, iStrU, k_colon, k_blank, k_line, k_f, k_s, k_0, k_empty, k_digits, k_abc, k_alpha, k_cue, k_from, k_to, k_at, k_two, k_fto, k_nl, k_a1, dAdd_tx, fLen_tx, fStr_nat, dEq_tx, dNe_tx, dEq_txn, dNe_txn, len_tx, cutS_l1, cutS_b1, cutS_ln, cutS_bn, dIx_tx0, *])
@[reducible] def encK (z : Cu × Nat) : D := .tup [.int z.1.n, encF z.1.b, encF z.1.e, .loc z.2]
theorem cutS_take (l : List Nat) (k : Nat) : cutS ⟨l.toArray⟩ none (some (k : Int)) = ⟨(l.take k).toArray⟩ := by
  have e : ¬ ((k : Int) < 0) := by omega
  unfold cutS
  rw [len_tx, HT.sIx_none]
  have : HT.sIx l.length l.length (some (k : Int)) = min k l.length := by
    unfold HT.sIx
    dsimp only
    rw [if_neg e]
    simp
  rw [this]
  simp
theorem cutS_drop (l : List Nat) (k : Nat) : cutS ⟨l.toArray⟩ (some (k : Int)) none = ⟨(l.drop k).toArray⟩ := by
  have e : ¬ ((k : Int) < 0) := by omega
  unfold cutS
  rw [len_tx, HT.sIx_none]
  have : HT.sIx l.length 0 (some (k : Int)) = min k l.length := by
    unfold HT.sIx
    dsimp only
    rw [if_neg e]
    simp
  rw [this]
  simp
  by_cases h : k ≤ l.length
  · rw [Nat.min_eq_left h]
    exact List.take_of_length_le (by simp)
  · rw [Nat.min_eq_right (by omega), List.drop_of_length_le (Nat.le_refl _), List.drop_of_length_le (by omega)]
    simp
theorem dNotIn_let (c : Nat) : dNotIn (tx [c]) (tx [97, 98, 99, 100, 101, 102, 103, 104, 105, 106, 107, 108, 109, 110, 111, 112, 113, 114, 115, 116, 117, 118, 119, 120, 121, 122]) = some (.bl (!letB c)) := by
  rw [dNotIn_sign]
  have e : decide (c ∈ [97, 98, 99, 100, 101, 102, 103, 104, 105, 106, 107, 108, 109, 110, 111, 112, 113, 114, 115, 116, 117, 118, 119, 120, 121, 122]) = letB c := by
    unfold letB
    rw [← Bool.decide_and]
    refine decide_eq_decide.mpr ?_
    simp only [List.mem_cons, List.not_mem_nil, or_false]
    omega
  have e2 : decide (c ∈ (⟨[97, 98, 99, 100, 101, 102, 103, 104, 105, 106, 107, 108, 109, 110, 111, 112, 113, 114, 115, 116, 117, 118, 119, 120, 121, 122].toArray⟩ : Str).cps.toList) = letB c := e
  rw [e2]
section
variable (om : Om)
theorem nwx_loop (v0 : Option Sl) : ∀ (w : List Nat) (x : Option Sl), ∃ y,
    goL (gN 1) (sIf (uB (uBin dNotIn (uVar 1) (uC (tx [97, 98, 99, 100, 101, 102, 103, 104, 105, 106, 107, 108, 109, 110, 111, 112, 113, 114, 115, 116, 117, 118, 119, 120, 121, 122])))) (sRaise ⟨"BadTime", []⟩) sNext) (w.map fun c => tx [c]) [v0, x] om = if w.all letB = true then .nx [v0, y] om else .xc ⟨"BadTime", []⟩ [v0, y] om
  | [], x => ⟨x, rfl⟩
  | c :: w, x => by
    have dn := dNotIn_let c
    rw [List.map_cons, goL_cons (ρ1 := [v0, some (.val (tx [c]))]) _ _ rfl, List.all_cons]
    cases hc : letB c with
    | false =>
      refine ⟨some (.val (tx [c])), ?_⟩
      rw [hc] at dn
      rw [Bool.false_and, if_neg (by decide)]
      generalize List.map (fun c => tx [c]) w = X at *
      clear hc
      walk_at "evx"
    | true =>
      obtain ⟨y, e⟩ := nwx_loop v0 w (some (.val (tx [c])))
      refine ⟨y, ?_⟩
      rw [hc] at dn
      rw [Bool.true_and]
      rw [← e]
      clear e hc
      generalize List.map (fun c => tx [c]) w = X at *
      walk_at "evx"
def badX : DX := ⟨"BadTime", []⟩
theorem need_word_gen {w : List Nat} (hl : w.length ≤ 1000) : S_need_word [tx w] om = if wdB w = true then .ok .non om else .xc ⟨"BadTime", []⟩ om := by
  have e1 := fLen_tx (l := w) (by omega)
  have e2 := fSigns_tx w
  unfold wdB
  by_cases c1 : (1 : Int) ≤ (w.length : Int)
  · by_cases c2 : (w.length : Int) ≤ 20
    · obtain ⟨y, e⟩ := nwx_loop om (some (.val (tx w))) w none
      have d1 : decide ((1 : Int) ≤ (w.length : Int)) = true := decide_eq_true c1
      have d2 : decide ((w.length : Int) ≤ 20) = true := decide_eq_true c2
      have d3 : decide (1 ≤ w.length) = true := decide_eq_true (by omega)
      have d4 : decide (w.length ≤ 20) = true := decide_eq_true (by omega)
      rw [d3, d4, Bool.true_and, Bool.true_and]
      clear c1 c2 hl d3 d4
      cases ha : w.all letB with
      | true =>
        rw [ha, if_pos rfl] at e
        rw [if_pos rfl]
        clear ha
        unfold S_need_word u_need_word
        generalize List.map (fun c => tx [c]) w = X at *
        generalize (w.length : Int) = L at *
        walk_at "evx"
      | false =>
        rw [ha, if_neg (by decide)] at e
        rw [if_neg (by decide)]
        clear ha
        unfold S_need_word u_need_word
        generalize List.map (fun c => tx [c]) w = X at *
        generalize (w.length : Int) = L at *
        walk_at "evx"
    · have d1 : decide ((1 : Int) ≤ (w.length : Int)) = true := decide_eq_true c1
      have d2 : decide ((w.length : Int) ≤ 20) = false := decide_eq_false c2
      have d4 : decide (w.length ≤ 20) = false := decide_eq_false (by omega)
      rw [d4, Bool.and_false, Bool.false_and, if_neg (by decide)]
      clear c1 c2 hl d4 e2
      unfold S_need_word u_need_word
      generalize (w.length : Int) = L at *
      walk_at "evx"
  · have d1 : decide ((1 : Int) ≤ (w.length : Int)) = false := decide_eq_false c1
    have d3 : decide (1 ≤ w.length) = false := decide_eq_false (by omega)
    rw [d3, Bool.false_and, Bool.false_and, if_neg (by decide)]
    clear c1 hl d3 e2
    unfold S_need_word u_need_word
    generalize (w.length : Int) = L at *
    walk_at "evx"
theorem frames_of_gen (l : List Nat) (hl : l.length ≤ 900) : S_frames_of [tx l] om = ofF (frV l) om := by
  have e1 := read_time_eq om l 1 (by omega) (by decide)
  rcases snoc_or l with rfl | ⟨a, c, rfl⟩
  · have c1 := cutS_ln
    have z : frV [] = none := rfl
    rw [z]
    show _ = FR.xc ⟨"BadTime", []⟩ om
    have d : decide (([] : List Nat) = [102]) = false := by decide
    clear e1 z
    unfold S_frames_of u_frames_of
    walk_at "evx"
  · have c1 := cutS_l1 a c
    by_cases h : c = 102
    · subst h
      have f : frV (a ++ [102]) = mixV a := by unfold frV; rw [last_snoc, if_pos rfl, List.dropLast_concat]
      rw [timeV_snoc, if_pos rfl] at e1
      rw [f]
      have d : decide (([102] : List Nat) = [102]) = true := by decide
      clear f
      cases hm : mixV a with
      | none =>
        have z : ofF none om = FR.xc ⟨"BadTime", []⟩ om := rfl
        rw [hm, z] at e1
        rw [z]
        clear z hm
        unfold S_frames_of u_frames_of
        generalize a ++ [102] = X at *
        walk_at "evx"
      | some q =>
        have z : ofF (some q) om = FR.ok (encF q) om := rfl
        rw [hm, z] at e1
        rw [z]
        clear z hm
        unfold S_frames_of u_frames_of
        generalize a ++ [102] = X at *
        walk_at "evx"
    · have f : frV (a ++ [c]) = none := by unfold frV; rw [last_snoc, if_neg (fun z => h (by injection z))]
      rw [f]
      show _ = FR.xc ⟨"BadTime", []⟩ om
      have d : decide (([c] : List Nat) = [102]) = false := decide_eq_false fun z => h (by injection z)
      clear e1 f h
      unfold S_frames_of u_frames_of
      generalize a ++ [c] = X at *
      walk_at "evx"
def ofH (o : Option (Int × Fr × Fr)) (om : Om) : FR := match o with
  | some (n, b, e) => .ok (.tup [.int n, encF b, encF e]) om
  | none => .xc ⟨"BadTime", []⟩ om
theorem head_of_gen (l : List Nat) (hl : l.length ≤ 900) : S_head_of [tx l] om = ofH (headV l) om := by
  have p1 := fPart_tx (l := l) (S := [32, 102, 114, 111, 109, 32]) (by simp) (by omega)
  have k0 : decide (([32, 102, 114, 111, 109, 32] : List Nat) = []) = false := by decide
  have k1 : decide (([32, 116, 111, 32] : List Nat) = []) = false := by decide
  have k2 : decide (([] : List Nat) = []) = true := by decide
  have z : ofH none om = FR.xc ⟨"BadTime", []⟩ om := rfl
  have n4 : ((4 : Nat) : Int) = 4 := rfl
  unfold headV
  cases e1 : TL.par [32, 102, 114, 111, 109, 32] [] l with
  | none =>
    rw [e1] at p1
    dsimp only at p1 ⊢
    rw [z]
    have p2 := fPart_tx (l := []) (S := [32, 116, 111, 32]) (by simp) (by simp)
    have e2 : TL.par [32, 116, 111, 32] [] [] = none := rfl
    rw [e2] at p2
    dsimp only at p2
    have c1 := cutS_take l 4
    rw [n4] at c1
    cases hd : decide (l.take 4 = [99, 117, 101, 32]) with
    | true =>
      clear e1 z e2 n4 k0 k1
      unfold S_head_of u_head_of
      generalize List.take 4 l = A at *
      walk_at "evx"
    | false =>
      clear e1 z e2 n4 k0 k1
      unfold S_head_of u_head_of
      generalize List.take 4 l = A at *
      walk_at "evx"
  | some hr =>
    obtain ⟨h, r⟩ := hr
    have ln := par_lens e1
    rw [e1] at p1
    dsimp only at p1 ⊢
    have p2 := fPart_tx (l := r) (S := [32, 116, 111, 32]) (by simp) (by omega)
    have c1 := cutS_take h 4
    have c2 := cutS_drop h 4
    rw [n4] at c1 c2
    cases e2 : TL.par [32, 116, 111, 32] [] r with
    | none =>
      rw [e2] at p2
      dsimp only at p2 ⊢
      rw [z]
      cases hd : decide (h.take 4 = [99, 117, 101, 32]) with
      | true =>
        clear e1 z e2 n4 k1 c2
        unfold S_head_of u_head_of
        generalize List.take 4 h = A at *
        walk_at "evx"
      | false =>
        clear e1 z e2 n4 k1 c2
        unfold S_head_of u_head_of
        generalize List.take 4 h = A at *
        walk_at "evx"
    | some be =>
      obtain ⟨b, e⟩ := be
      have ln2 := par_lens e2
      rw [e2] at p2
      dsimp only at p2 ⊢
      by_cases hd : h.take 4 = [99, 117, 101, 32]
      · have hd' : decide (h.take 4 = [99, 117, 101, 32]) = true := decide_eq_true hd
        rw [if_pos hd]
        have e3 := number_eq om (h.drop 4) (by rw [List.length_drop]; omega)
        have e4 := frames_of_gen om b (by omega)
        have e5 := frames_of_gen om e (by omega)
        clear e1 e2 n4 k2 hd
        cases q3 : numV (h.drop 4) with
        | none =>
          rw [q3] at e3
          have z3 : ofN none om = FR.xc ⟨"BadTime", []⟩ om := rfl
          rw [z3] at e3
          dsimp only
          rw [z]
          clear e4 e5 z z3 q3
          unfold S_head_of u_head_of
          generalize List.take 4 h = A at *
          generalize List.drop 4 h = B at *
          walk_at "evx"
        | some n =>
          rw [q3] at e3
          have z3 : ofN (some n) om = FR.ok (.int (n : Int)) om := rfl
          rw [z3] at e3
          cases q4 : frV b with
          | none =>
            rw [q4] at e4
            have z4 : ofF none om = FR.xc ⟨"BadTime", []⟩ om := rfl
            rw [z4] at e4
            dsimp only
            rw [z]
            clear e5 z z3 z4 q3 q4
            unfold S_head_of u_head_of
            generalize List.take 4 h = A at *
            generalize List.drop 4 h = B at *
            walk_at "evx"
          | some p =>
            rw [q4] at e4
            have z4 : ofF (some p) om = FR.ok (encF p) om := rfl
            rw [z4] at e4
            cases q5 : frV e with
            | none =>
              rw [q5] at e5
              have z5 : ofF none om = FR.xc ⟨"BadTime", []⟩ om := rfl
              rw [z5] at e5
              dsimp only
              rw [z]
              clear z z3 z4 z5 q3 q4 q5
              unfold S_head_of u_head_of
              generalize List.take 4 h = A at *
              generalize List.drop 4 h = B at *
              walk_at "evx"
            | some q =>
              rw [q5] at e5
              have z5 : ofF (some q) om = FR.ok (encF q) om := rfl
              rw [z5] at e5
              have e6 := below_eq om (frV_sound q4).1.bd (frV_sound q5).1.bd (by decide)
              dsimp only
              cases hlt : flt p q with
              | true =>
                rw [hlt] at e6
                rw [if_pos rfl]
                show _ = FR.ok (.tup [.int (n : Int), encF p, encF q]) om
                clear z z3 z4 z5 q3 q4 q5 hlt
                unfold S_head_of u_head_of
                generalize List.take 4 h = A at *
                generalize List.drop 4 h = B at *
                generalize (n : Int) = NN at *
                walk_at "evx"
              | false =>
                rw [hlt] at e6
                rw [if_neg (by decide), z]
                clear z z3 z4 z5 q3 q4 q5 hlt
                unfold S_head_of u_head_of
                generalize List.take 4 h = A at *
                generalize List.drop 4 h = B at *
                generalize (n : Int) = NN at *
                walk_at "evx"
      · have hd' : decide (h.take 4 = [99, 117, 101, 32]) = false := decide_eq_false hd
        rw [if_neg hd, z]
        clear e1 z e2 n4 k1 c2 hd
        unfold S_head_of u_head_of
        generalize List.take 4 h = A at *
        walk_at "evx"
end
end Dv

namespace Dv
open PySem PySem.Spec PyProof.Rows L2
local macro_rules | `(tactic| walk_at "ev") => `(tactic| try simp (disch := omega) only [sSeq_eq, seq_nx, seq_rt, seq_rto, seq_xc, seq_bk, seq_ct, seq_ite, sAsg, sAsgO, sExpr, sRet, sRetO, sRetN, sIf, sNext, uVar, uC, uUn, uBin, uB, uNot, uAnd, uOr, uTV, uAndV, uOrV, uNotV, uIf, uChain, uNil, uCons, uTup, uLst, uLstO, uFn, uFnO, uFz, uMv, uNew, uCall, uCallO, uCallN, uBinV, uBinW, uBinL, uMeO, uMeL, uFnV, sSetL, sAsgG, gN, gT2, gT3, gT4, iLst, iFn,   bind_ok, bind_xc, of_ok, of_xc, res_ok, res_xc, res0_ok, own_ok, own_xc, fr_nx, fr_rt, fr_rto, fr_xc, fo_rto, fo_xc, liftO_some, dBool_bl, items_lst, items_frz, ent, defU, defO, List.map_cons, List.map_nil, List.length_cons, List.length_nil, List.cons_append, List.nil_append, List.append_nil, List.replicate, List.getElem?_cons_zero, List.getElem?_cons_succ, List.set_cons_zero, List.set_cons_succ, Nat.zero_add, Nat.reduceAdd, Nat.reduceSub, Nat.reduceLeDiff,   le_big, lt_big, atN_zero, atN_one, atN_two, atN_three, setN_zero, setN_one, popAt_zero, len_zero, len_succ, dMul_r, dMul_l, dDiv_pos, dMod_pos, dAdd_int, dSub_int, dNeg_int, dLt_int, dLe_int, dGt_int, dGe_int, dEq_int, dNe_int, dEq_bl, dNe_bl, dEq_nil, dNe_nil, dIx_lst, dIx_tup, fAbs_int, fInt_bl, fInt_int, fLen_lst, fLen_frz, fLen_tup, ite_true, ite_false, if_true, if_false, Bool.not_true, Bool.not_false, decide_true, decide_false, Bool.true_eq_false, Bool.false_eq_true, reduceIte, reduceCtorEq, turn_nx, turn_ct, turn_bk, turn_rt, turn_rto, turn_xc, sFor_eq, goL_nil, eq_self])
local macro_rules | `(tactic| walk_at "evs") => `(tactic| try simp (disch := omega) only [sSeq_eq, seq_nx, seq_rt, seq_rto, seq_xc, seq_bk, seq_ct, seq_ite, sAsg, sAsgO, sExpr, sRet, sRetO, sRetN, sIf, sNext, uVar, uC, uUn, uBin, uB, uNot, uAnd, uOr, uTV, uAndV, uOrV, uNotV, uIf, uChain, uNil, uCons, uTup, uLst, uLstO, uFn, uFnO, uFz, uMv, uNew, uCall, uCallO, uCallN, uBinV, uBinW, uBinL, uMeO, uMeL, uFnV, sSetL, sAsgG, gN, gT2, gT3, gT4, iLst, iFn,   bind_ok, bind_xc, of_ok, of_xc, res_ok, res_xc, res0_ok, own_ok, own_xc, fr_nx, fr_rt, fr_rto, fr_xc, fo_rto, fo_xc, liftO_some, dBool_bl, items_lst, items_frz, ent, defU, defO, List.map_cons, List.map_nil, List.length_cons, List.length_nil, List.cons_append, List.nil_append, List.append_nil, List.replicate, List.getElem?_cons_zero, List.getElem?_cons_succ, List.set_cons_zero, List.set_cons_succ, Nat.zero_add, Nat.reduceAdd, Nat.reduceSub, Nat.reduceLeDiff,   le_big, lt_big, atN_zero, atN_one, atN_two, atN_three, setN_zero, setN_one, popAt_zero, len_zero, len_succ, dMul_r, dMul_l, dDiv_pos, dMod_pos, dAdd_int, dSub_int, dNeg_int, dLt_int, dLe_int, dGt_int, dGe_int, dEq_int, dNe_int, dEq_bl, dNe_bl, dEq_nil, dNe_nil, dIx_lst, dIx_tup, fAbs_int, fInt_bl, fInt_int, fLen_lst, fLen_frz, fLen_tup, ite_true, ite_false, if_true, if_false, Bool.not_true, Bool.not_false, decide_true, decide_false, Bool.true_eq_false, Bool.false_eq_true, reduceIte, reduceCtorEq, turn_nx, turn_ct, turn_bk, turn_rt, turn_rto, turn_xc, sFor_eq, goL_nil, eq_self, *])
local macro_rules | `(tactic| walk_at "evt") => `(tactic| try simp (disch := first | omega | (simp only [List.length_append, List.length_cons, List.length_nil, List.length_map]; omega)) only [sSeq_eq, seq_nx, seq_rt, seq_rto, seq_xc, seq_bk, seq_ct, seq_ite, sAsg, sAsgO, sExpr, sRet, sRetO, sRetN, sIf, sNext, uVar, uC, uUn, uBin, uB, uNot, uAnd, uOr, uTV, uAndV, uOrV, uNotV, uIf, uChain, uNil, uCons, uTup, uLst, uLstO, uFn, uFnO, uFz, uMv, uNew, uCall, uCallO, uCallN, uBinV, uBinW, uBinL, uMeO, uMeL, uFnV, sSetL, sAsgG, gN, gT2, gT3, gT4, iLst, iFn,   bind_ok, bind_xc, of_ok, of_xc, res_ok, res_xc, res0_ok, own_ok, own_xc, fr_nx, fr_rt, fr_rto, fr_xc, fo_rto, fo_xc, liftO_some, dBool_bl, items_lst, items_frz, ent, defU, defO, List.map_cons, List.map_nil, List.length_cons, List.length_nil, List.cons_append, List.nil_append, List.append_nil, List.replicate, List.getElem?_cons_zero, List.getElem?_cons_succ, List.set_cons_zero, List.set_cons_succ, Nat.zero_add, Nat.reduceAdd, Nat.reduceSub, Nat.reduceLeDiff,   le_big, lt_big, atN_zero, atN_one, atN_two, atN_three, setN_zero, setN_one, popAt_zero, len_zero, len_succ, dMul_r, dMul_l, dDiv_pos, dMod_pos, dAdd_int, dSub_int, dNeg_int, dLt_int, dLe_int, dGt_int, dGe_int, dEq_int, dNe_int, dEq_bl, dNe_bl, dEq_nil, dNe_nil, dIx_lst, dIx_tup, fAbs_int, fInt_bl, fInt_int, fLen_lst, fLen_frz, fLen_tup, ite_true, ite_false, if_true, if_false, Bool.not_true, Bool.not_false, decide_true, decide_false, Bool.true_eq_false, Bool.false_eq_true, reduceIte, reduceCtorEq, turn_nx, turn_ct, turn_bk, turn_rt, turn_rto, turn_xc, sFor_eq, goL_nil, eq_self, sRaise, gT2, gT3, gT4, sAsgG, uM1, uOrS, uSlS, uSlW, uCatV, uPart, uNoPart, iStrU, k_colon, k_blank, k_line, k_f, k_s, k_0, k_empty, k_digits, k_abc, k_alpha, k_cue, k_from, k_to, k_at, k_two, k_fto, k_nl, k_a1, dAdd_tx, fLen_tx, fStr_nat, dEq_tx, dNe_tx, dEq_txn, dNe_txn, len_tx, cutS_l1, cutS_b1, cutS_ln, cutS_bn, dIx_tx0, *])
local macro_rules | `(tactic| walk_at "evx") => `(tactic| try simp (disch := first | omega | (simp only [List.length_append, List.length_cons, List.length_nil, List.length_map]; omega)) only [sSeq_eq, seq_nx, seq_rt, seq_rto, seq_xc, seq_bk, seq_ct, seq_ite, sAsg, sAsgO, sExpr, sRet, sRetO, sRetN, sIf, sNext, uVar, uC, uUn, uBin, uB, uNot, uAnd, uOr, uTV, uAndV, uOrV, uNotV, uIf, uChain, uNil, uCons, uTup, uLst, uLstO, uFn, uFnO, uFz, uMv, uNew, uCall, uCallO, uCallN, uBinV, uBinW, uBinL, uMeO, uMeL, uFnV, sSetL, sAsgG, gN, gT2, gT3, gT4, iLst, iFn,   bind_ok, bind_xc, of_ok, of_xc, res_ok, res_xc, res0_ok, own_ok, own_xc, fr_nx, fr_rt, fr_rto, fr_xc, fo_rto, fo_xc, liftO_some, dBool_bl, items_lst, items_frz, ent, defU, defO, List.map_cons, List.map_nil, List.length_cons, List.length_nil, List.cons_append, List.nil_append, List.append_nil, List.replicate, List.getElem?_cons_zero, List.getElem?_cons_succ, List.set_cons_zero, List.set_cons_succ, Nat.zero_add, Nat.reduceAdd, Nat.reduceSub, Nat.reduceLeDiff,   le_big, lt_big, atN_zero, atN_one, atN_two, atN_three, setN_zero, setN_one, popAt_zero, len_zero, len_succ, dMul_r, dMul_l, dDiv_pos, dMod_pos, dAdd_int, dSub_int, dNeg_int, dLt_int, dLe_int, dGt_int, dGe_int, dEq_int, dNe_int, dEq_bl, dNe_bl, dEq_nil, dNe_nil, dIx_lst, dIx_tup, fAbs_int, fInt_bl, fInt_int, fLen_lst, fLen_frz, fLen_tup, ite_true, ite_false, if_true, if_false, Bool.not_true, Bool.not_false, decide_true, decide_false, Bool.true_eq_false, Bool.false_eq_true, reduceIte, reduceCtorEq, turn_nx, turn_ct, turn_bk, turn_rt, turn_rto, turn_xc, sFor_eq, goL_nil, eq_self, sRaise, gT2, gT3, gT4, sAsgG, see_bl, see_int, see_non, see_tup, see_lst, see_str, uBinX, uUnX, uFnX, uFld, sFldU, uMeth, uMethO, uMake, uCatX, uRev, uMethN, uFrzI, uSlV, uM1, uOrS, uSlS, uSlW, uCatV, uPart, uNoPart, iStrU, k_colon, k_blank, k_line, k_f, k_s, k_0, k_empty, k_digits, k_abc, k_alpha, k_cue, k_from, k_to, k_at, k_two, k_fto, k_nl, k_a1, dAdd_tx, fLen_tx, fStr_nat, dEq_tx, dNe_tx, dEq_txn, dNe_txn, len_tx, cutS_l1, cutS_b1, cutS_ln, cutS_bn, dIx_tx0, *])
def rd_h : US := (sSeq (sAsg 4 (uCall 1 S_head_of (uCons (uVar 3) uNil)))
    (sSeq (sIf (uAnd (uB (uBinV dNe 1 (uLst uNil))) (uB (uBin dLe (uBin dIx (uVar 4) (uC (.int 0))) (uBin dIx (uBinV dIx 1 (uUn dNeg (uC (.int 1)))) (uC (.int 0)))))) (sRaise ⟨"BadTime", []⟩) sNext)
    (sExpr (uMeO 1 mAppend (uCons (uTup (uCons (uBin dIx (uVar 4) (uC (.int 0))) (uCons (uBin dIx (uVar 4) (uC (.int 1))) (uCons (uBin dIx (uVar 4) (uC (.int 2))) (uCons (uNew (uLstO uNil)) uNil))))) uNil)))))
def rd_w : US := (sExpr (uMeL (uBin dIx (uBinV dIx 1 (uUn dNeg (uC (.int 1)))) (uC (.int 3))) mAppend (uCons (uCall 2 S_word_of (uCons (uVar 3) (uCons (uBinV dIx 1 (uUn dNeg (uC (.int 1)))) uNil))) uNil)))
def rd_b : US := sIf (uB (uBin dNe (uSlS (uVar 3) uNoPart (uPart (uC (.int 2)))) (uC (.str (Str.ofString "  "))))) rd_h (sIf (uB (uBinV dEq 1 (uLst uNil))) (sRaise ⟨"BadTime", []⟩) rd_w)
def rd_turn : US := sTryR knl_BadTime "BadNote" "line" rd_b (uVar 2)
theorem rd_turn_top : u_read_cues = (sSeq (sAsgO 1 (uLstO uNil))
    (sSeq (sIf (uB (uBin dEq (uVar 0) (uC (.str (Str.ofString ""))))) (sRetO (uMv 1)) sNext)
    (sSeq (sFor (iFn fEnum (uCons (uM1 fSplit (uVar 0) (uC (.str (Str.ofString "\n")))) uNil)) (gT2 2 3) rd_turn)
    (sRetO (uMv 1))))) := rfl
theorem tryR_nx {kn : List (Str × Bool)} {y fld : Str} {b : US} {ue : UE} {ρ ρ' : Rho} {om om' : Om} (e : b ρ om = .nx ρ' om') : sTryR kn y fld b ue ρ om = .nx ρ' om' := by
  unfold sTryR
  rw [e]
theorem tryR_xc {kn : List (Str × Bool)} {y fld c : Str} {b : US} {ue : UE} {ρ ρ' ρ2 : Rho} {om om' om2 : Om} {d : D} (e : b ρ om = .xc ⟨c, []⟩ ρ' om') (hk : kn.lookup c = some true) (e2 : ue ρ' om' = .ok d ρ2 om2) : sTryR kn y fld b ue ρ om = .xc ⟨y, [(fld, d)]⟩ ρ2 om2 := by
  unfold sTryR
  rw [e]
  dsimp only
  rw [hk]
  dsimp only
  rw [e2]
theorem ite_yes {t : UT} {b c : US} {ρ : Rho} {om : Om} (h : t ρ om = .ok true ρ om) : sIf t b c ρ om = b ρ om := by
  unfold sIf
  rw [h]
  rfl
theorem ite_no {t : UT} {b c : US} {ρ : Rho} {om : Om} (h : t ρ om = .ok false ρ om) : sIf t b c ρ om = c ρ om := by
  unfold sIf
  rw [h]
  rfl
theorem app_D {α : Type} (f : α → D) {d : List α} (s : α) (h : d.length ≤ 1000) : mAppend (d.map f) [f s] = some (.non, (d ++ [s]).map f) := by
  unfold mAppend
  dsimp only
  rw [if_pos (by rw [List.length_map]; exact Nat.lt_of_le_of_lt h (by decide))]
  simp
theorem atN_lastK {α : Type} {xs : List α} {x : α} : atN (xs ++ [x]) (-1) = some x := by
  unfold atN
  rw [if_neg (by omega), if_pos (by simp only [List.length_append, List.length_cons, List.length_nil]; omega)]
  have : (-1 + ((xs ++ [x]).length : Int)).toNat = xs.length := by simp only [List.length_append, List.length_cons, List.length_nil]; omega
  rw [this]
  simp
def ofW (o : Option (List Nat × Fr)) (om : Om) : FR := match o with
  | some w => .ok (encW w) om
  | none => .xc ⟨"BadTime", []⟩ om
/-- the word, if the cue takes it -/
def putV (c : Cu) (l : List Nat) : Option (List Nat × Fr) := match wordV l with
  | some w => if okW c w = true then some w else none
  | none => none
section
variable (om : Om)
theorem word_of_gen {c : Cu} (hc : CuG c) {k : Nat} (hk : om[k]? = some (.lst (c.ws.map encW))) (l : List Nat) (hl : l.length ≤ 900) : S_word_of [tx l, encK (c, k)] om = ofW (putV c l) om := by
  have c1 := cutS_drop l 2
  have n2 : ((2 : Nat) : Int) = 2 := rfl
  rw [n2] at c1
  have p1 := fPart_tx (l := l.drop 2) (S := [32, 97, 116, 32]) (by simp) (by rw [List.length_drop]; omega)
  have s1 := see_loc om hk
  have k0 : decide (([32, 97, 116, 32] : List Nat) = []) = false := by decide
  have k2 : decide (([] : List Nat) = []) = true := by decide
  have z : ofW none om = FR.xc ⟨"BadTime", []⟩ om := rfl
  unfold putV wordV
  cases e1 : TL.par [32, 97, 116, 32] [] (l.drop 2) with
  | none =>
    rw [e1] at p1
    dsimp only at p1 ⊢
    rw [z]
    clear hk hc n2 e1 z k0 s1
    unfold S_word_of u_word_of
    generalize List.drop 2 l = A at *
    walk_at "evx"
  | some wt =>
    obtain ⟨w, t⟩ := wt
    have ln := par_lens e1
    rw [List.length_drop] at ln
    rw [e1] at p1
    dsimp only at p1 ⊢
    have e2 := need_word_gen om (w := w) (by omega)
    have e3 := frames_of_gen om t (by omega)
    cases hw : wdB w with
    | false =>
      rw [hw, if_neg (by decide)] at e2
      rw [if_neg (by decide)]
      dsimp only
      rw [z]
      clear hk hc n2 e1 z k2 e3 hw s1 ln
      unfold S_word_of u_word_of
      generalize List.drop 2 l = A at *
      walk_at "evx"
    | true =>
      rw [hw, if_pos rfl] at e2
      rw [if_pos rfl]
      cases hf : frV t with
      | none =>
        rw [hf] at e3
        have z3 : ofF none om = FR.xc ⟨"BadTime", []⟩ om := rfl
        rw [z3] at e3
        show _ = ofW none om
        rw [z]
        clear hk hc n2 e1 z k2 hw hf z3 s1 ln
        unfold S_word_of u_word_of
        generalize List.drop 2 l = A at *
        walk_at "evx"
      | some q =>
        rw [hf] at e3
        have z3 : ofF (some q) om = FR.ok (encF q) om := rfl
        rw [z3] at e3
        have fq := (frV_sound hf).1
        have e4 := below_eq om fq.bd hc.b.bd (by decide)
        have e5 := below_eq om fq.bd hc.e.bd (by decide)
        show _ = ofW (if okW c (w, q) = true then some (w, q) else none) om
        have zo : ofW (some (w, q)) om = FR.ok (.tup [tx w, encF q]) om := rfl
        unfold okW
        dsimp only
        cases h4 : flt q c.b with
        | true =>
          rw [h4] at e4
          rw [if_neg (by simp), z]
          clear hk hc n2 e1 z k2 hw hf z3 s1 ln h4 fq zo
          unfold S_word_of u_word_of
          generalize List.drop 2 l = A at *
          walk_at "evx"
        | false =>
          rw [h4] at e4
          cases h5 : flt q c.e with
          | false =>
            rw [h5] at e5
            rw [if_neg (by simp), z]
            clear hk hc n2 e1 z k2 hw hf z3 s1 ln h4 h5 fq zo
            unfold S_word_of u_word_of
            generalize List.drop 2 l = A at *
            walk_at "evx"
          | true =>
            rw [h5] at e5
            rcases snoc_or c.ws with hn | ⟨p0, v, hn⟩
            · rw [hn] at s1
              rw [hn]
              rw [if_pos (by simp), zo]
              have d0 : decide ((List.map encW []).length = 0) = true := rfl
              clear hk hc n2 e1 z k2 hw hf z3 ln h4 h5 fq zo hn
              unfold S_word_of u_word_of
              generalize List.drop 2 l = A at *
              generalize List.map encW [] = X at *
              walk_at "evx"
            · have gv := (hc.ws p0 v [] hn).2.1
              have e6 := below_eq om fq.bd gv.bd (by decide)
              rw [hn] at s1
              rw [hn, last_snoc]
              have d0 : decide ((List.map encW (p0 ++ [v])).length = 0) = false := by simp
              have a1 : atN (List.map encW (p0 ++ [v])) (-1) = some (encW v) := by rw [List.map_append]; exact atN_lastK
              dsimp only
              have h6o : flt q v.2 = true ∨ flt q v.2 = false := by cases flt q v.2 <;> simp
              rcases h6o with h6 | h6
              · rw [h6] at e6
                rw [if_neg (by rw [h6]; simp), z]
                clear hk hc n2 e1 z k2 hw hf z3 ln h4 h5 h6 fq gv zo hn
                unfold S_word_of u_word_of
                generalize List.drop 2 l = A at *
                generalize List.map encW (p0 ++ [v]) = X at *
                obtain ⟨v1, v2⟩ := v
                dsimp only at *
                walk_at "evx"
              · rw [h6] at e6
                rw [if_pos (by rw [h6]; simp), zo]
                clear hk hc n2 e1 z k2 hw hf z3 ln h4 h5 h6 fq gv zo hn
                unfold S_word_of u_word_of
                generalize List.drop 2 l = A at *
                generalize List.map encW (p0 ++ [v]) = X at *
                obtain ⟨v1, v2⟩ := v
                dsimp only at *
                walk_at "evx"
end
/-! ### one line -/
structure KJ (om : Om) (zs : List (Cu × Nat)) : Prop where
  ks : ∀ z ∈ zs, om[z.2]? = some (.lst (z.1.ws.map encW))
  nd : (zs.map (·.2)).Nodup
theorem kj_new {om : Om} {zs : List (Cu × Nat)} (h : KJ om zs) {c : Cu} (hw : c.ws = []) : KJ (om ++ [.lst []]) (zs ++ [(c, om.length)]) := by
  have lk : ∀ z ∈ zs, z.2 < om.length := fun z hz => (List.getElem?_eq_some_iff.mp (h.ks z hz)).1
  refine ⟨fun z hz => ?_, ?_⟩
  · rcases List.mem_append.mp hz with q | q
    · rw [List.getElem?_append_left (lk z q)]
      exact h.ks z q
    · rw [List.mem_singleton] at q
      subst q
      dsimp only
      rw [hw]
      simp
  · rw [List.map_append, List.nodup_append]
    refine ⟨h.nd, by simp, fun a ha b hb => ?_⟩
    obtain ⟨z, hz, rfl⟩ := List.mem_map.mp ha
    simp only [List.map_cons, List.map_nil, List.mem_singleton] at hb
    have := lk z hz
    omega
theorem kj_put {om : Om} {z0 : List (Cu × Nat)} {c : Cu} {k : Nat} (h : KJ om (z0 ++ [(c, k)])) (w : List Nat × Fr) : KJ (om.set k (.lst ((c.ws ++ [w]).map encW))) (z0 ++ [(⟨c.n, c.b, c.e, c.ws ++ [w]⟩, k)]) := by
  have hk := h.ks (c, k) (by simp)
  have nd := h.nd
  rw [List.map_append, List.nodup_append] at nd
  refine ⟨fun z hz => ?_, ?_⟩
  · rcases List.mem_append.mp hz with q | q
    · have ne : z.2 ≠ k := nd.2.2 z.2 (List.mem_map.mpr ⟨z, q, rfl⟩) k (by simp)
      rw [List.getElem?_set_ne (Ne.symm ne)]
      exact h.ks z (by simp [q])
    · rw [List.mem_singleton] at q
      subst q
      dsimp only
      rw [List.getElem?_set_self (List.getElem?_eq_some_iff.mp hk).1]
  · have := h.nd
    rw [List.map_append] at this ⊢
    exact this
def Sz (n : Nat) (zs : List (Cu × Nat)) : Prop := zs.length ≤ n ∧ ∀ z ∈ zs, z.1.ws.length ≤ n
theorem sz_new {n : Nat} {zs : List (Cu × Nat)} (h : Sz n zs) {c : Cu} {k : Nat} (hw : c.ws = []) : Sz (n + 1) (zs ++ [(c, k)]) := by
  refine ⟨by have := h.1; simp; omega, fun z hz => ?_⟩
  rcases List.mem_append.mp hz with q | q
  · have := h.2 z q
    omega
  · rw [List.mem_singleton] at q
    subst q
    dsimp only
    rw [hw]
    simp
theorem sz_put {n : Nat} {z0 : List (Cu × Nat)} {c : Cu} {k : Nat} (h : Sz n (z0 ++ [(c, k)])) (w : List Nat × Fr) : Sz (n + 1) (z0 ++ [(⟨c.n, c.b, c.e, c.ws ++ [w]⟩, k)]) := by
  have h1 := h.1
  have h2 := h.2 (c, k) (by simp)
  dsimp only at h2
  refine ⟨by simp at h1 ⊢; omega, fun z hz => ?_⟩
  rcases List.mem_append.mp hz with q | q
  · have := h.2 z (by simp [q])
    omega
  · rw [List.mem_singleton] at q
    subst q
    simp
    omega
def errX (i : Int) : DX := ⟨"BadNote", [("line", .int i)]⟩
theorem rd_step {om : Om} {zs : List (Cu × Nat)} (h : KJ om zs) (g : CsG (zs.map (·.1))) {m : Nat} (hm : m ≤ 500) (hz : Sz m zs) (l : List Nat) (hl : l.length ≤ 900) (v0 x4 : Option Sl) (i : Int) :
    match stepV (zs.map (·.1)) l with
    | some cs' => ∃ (zs' : List (Cu × Nat)) (om' : Om) (y4 : Option Sl), rd_turn [v0, some (.own (zs.map encK)), some (.val (.int i)), some (.val (tx l)), x4] om = .nx [v0, some (.own (zs'.map encK)), some (.val (.int i)), some (.val (tx l)), y4] om' ∧ KJ om' zs' ∧ zs'.map (·.1) = cs' ∧ Sz (m + 1) zs'
    | none => ∃ (ρ' : Rho) (om' : Om), rd_turn [v0, some (.own (zs.map encK)), some (.val (.int i)), some (.val (tx l)), x4] om = .xc (errX i) ρ' om' := by
  have c1 := cutS_take l 2
  have n2 : ((2 : Nat) : Int) = 2 := rfl
  rw [n2] at c1
  have lkb : knl_BadTime.lookup ("BadTime" : Str) = some true := by decide
  unfold stepV
  by_cases h2 : l.take 2 = [32, 32]
  · rw [if_pos h2]
    have n1 : decide (l.take 2 = [32, 32]) = true := decide_eq_true h2
    rcases snoc_or zs with rfl | ⟨z0, ck, rfl⟩
    · show ∃ (ρ' : Rho) (om' : Om), _
      have d0 : decide ((List.map encK []).length = 0) = true := rfl
      have eb : rd_b [v0, some (.own (List.map encK [])), some (.val (.int i)), some (.val (tx l)), x4] om = .xc ⟨"BadTime", []⟩ [v0, some (.own (List.map encK [])), some (.val (.int i)), some (.val (tx l)), x4] om := by
        clear h g hz hm lkb h2 n2
        unfold rd_b
        rw [ite_no]
        · rw [ite_yes]
          · walk_at "evx"
          · generalize List.map encK [] = X at *
            clear n1 c1
            walk_at "evx"
        · clear d0
          generalize List.map encK [] = X at *
          generalize List.take 2 l = A at *
          walk_at "evx"
      exact ⟨_, _, tryR_xc eb lkb rfl⟩
    · obtain ⟨c, k⟩ := ck
      rw [List.map_append]
      simp only [List.map_cons, List.map_nil]
      rw [last_snoc]
      dsimp only
      have gc : CuG c := g.c c (by simp)
      have hk := h.ks (c, k) (by simp)
      have e1 := word_of_gen om gc hk l hl
      have d0 : decide ((List.map encK (z0 ++ [(c, k)])).length = 0) = false := by simp
      have g1 : atN (List.map encK (z0 ++ [(c, k)])) (-1) = some (encK (c, k)) := by rw [List.map_append]; exact atN_lastK
      have eb : rd_b [v0, some (.own (List.map encK (z0 ++ [(c, k)]))), some (.val (.int i)), some (.val (tx l)), x4] om = rd_w [v0, some (.own (List.map encK (z0 ++ [(c, k)]))), some (.val (.int i)), some (.val (tx l)), x4] om := by
        clear h g hz hm lkb h2 n2 e1 hk gc g1
        unfold rd_b
        rw [ite_no]
        · rw [ite_no]
          generalize List.map encK (z0 ++ [(c, k)]) = X at *
          clear n1 c1
          walk_at "evx"
        · clear d0
          generalize List.map encK (z0 ++ [(c, k)]) = X at *
          generalize List.take 2 l = A at *
          walk_at "evx"
      rw [List.dropLast_concat]
      have pv : putV c l = (match wordV l with
        | some w => if okW c w = true then some w else none
        | none => none) := rfl
      have po : (∃ w, putV c l = some w ∧ wordV l = some w ∧ okW c w = true) ∨ (putV c l = none ∧ (wordV l = none ∨ ∃ w, wordV l = some w ∧ okW c w = false)) := by
        unfold putV
        cases hw : wordV l with
        | none => exact .inr ⟨rfl, .inl rfl⟩
        | some w =>
          cases ho : okW c w with
          | true => exact .inl ⟨w, by simp [ho], rfl, ho⟩
          | false => exact .inr ⟨by simp [ho], .inr ⟨w, rfl, ho⟩⟩
      rcases po with ⟨w, ep, hw, ho⟩ | ⟨ep, hn⟩
      rotate_left
      · rw [ep] at e1
        have z1 : ofW none om = FR.xc ⟨"BadTime", []⟩ om := rfl
        rw [z1] at e1
        have ew : rd_w [v0, some (.own (List.map encK (z0 ++ [(c, k)]))), some (.val (.int i)), some (.val (tx l)), x4] om = .xc ⟨"BadTime", []⟩ [v0, some (.own (List.map encK (z0 ++ [(c, k)]))), some (.val (.int i)), some (.val (tx l)), x4] om := by
          clear h g hz hm lkb h2 n2 gc d0 eb pv ep z1 n1 c1 hn
          unfold rd_w
          generalize List.map encK (z0 ++ [(c, k)]) = X at *
          generalize List.map encW c.ws = Y at *
          walk_at "evx"
        have fin : ∃ (ρ' : Rho) (om' : Om), rd_turn [v0, some (.own (List.map encK (z0 ++ [(c, k)]))), some (.val (.int i)), some (.val (tx l)), x4] om = .xc (errX i) ρ' om' := ⟨_, _, tryR_xc (eb.trans ew) lkb rfl⟩
        rcases hn with hn | ⟨w, hn, ho⟩
        · rw [hn]
          exact fin
        · rw [hn]
          dsimp only
          rw [if_neg (by rw [ho]; simp)]
          exact fin
      · rw [ep] at e1
        rw [hw]
        dsimp only
        rw [if_pos ho]
        have z1 : ofW (some w) om = FR.ok (encW w) om := rfl
        rw [z1] at e1
        have lw : c.ws.length ≤ 1000 := by have := hz.2 (c, k) (by simp); dsimp only at this; omega
        have a1 := app_D encW (d := c.ws) w lw
        have ew : rd_w [v0, some (.own (List.map encK (z0 ++ [(c, k)]))), some (.val (.int i)), some (.val (tx l)), x4] om = .nx [v0, some (.own (List.map encK (z0 ++ [(c, k)]))), some (.val (.int i)), some (.val (tx l)), x4] (om.set k (.lst ((c.ws ++ [w]).map encW))) := by
          clear h g hz hm lkb h2 n2 gc d0 eb pv ep z1 n1 c1 lw hw ho
          unfold rd_w
          generalize List.map encK (z0 ++ [(c, k)]) = X at *
          generalize List.map encW c.ws = Y at *
          generalize List.map encW (c.ws ++ [w]) = Z at *
          walk_at "evx"
        refine ⟨z0 ++ [(⟨c.n, c.b, c.e, c.ws ++ [w]⟩, k)], _, x4, ?_, kj_put h w, by simp, sz_put hz w⟩
        have ee : List.map encK (z0 ++ [((⟨c.n, c.b, c.e, c.ws ++ [w]⟩ : Cu), k)]) = List.map encK (z0 ++ [(c, k)]) := by
          rw [List.map_append, List.map_append]
          rfl
        rw [ee]
        exact tryR_nx (eb.trans ew)
  · rw [if_neg h2]
    have n1 : decide (l.take 2 = [32, 32]) = false := decide_eq_false h2
    have e1 := head_of_gen om l hl
    have eb : rd_b [v0, some (.own (List.map encK zs)), some (.val (.int i)), some (.val (tx l)), x4] om = rd_h [v0, some (.own (List.map encK zs)), some (.val (.int i)), some (.val (tx l)), x4] om := by
      clear h g hz hm lkb h2 n2 e1
      unfold rd_b
      rw [ite_yes]
      generalize List.map encK zs = X at *
      generalize List.take 2 l = A at *
      walk_at "evx"
    clear n1 c1 n2
    cases eh : headV l with
    | none =>
      rw [eh] at e1
      have z1 : ofH none om = FR.xc ⟨"BadTime", []⟩ om := rfl
      rw [z1] at e1
      show ∃ (ρ' : Rho) (om' : Om), _
      have ew : rd_h [v0, some (.own (List.map encK zs)), some (.val (.int i)), some (.val (tx l)), x4] om = .xc ⟨"BadTime", []⟩ [v0, some (.own (List.map encK zs)), some (.val (.int i)), some (.val (tx l)), x4] om := by
        clear h g hz hm lkb h2 eb eh z1
        unfold rd_h
        generalize List.map encK zs = X at *
        walk_at "evx"
      exact ⟨_, _, tryR_xc (eb.trans ew) lkb rfl⟩
    | some nbe =>
      obtain ⟨n, b, e⟩ := nbe
      rw [eh] at e1
      have z1 : ofH (some (n, b, e)) om = FR.ok (.tup [.int n, encF b, encF e]) om := rfl
      rw [z1] at e1
      obtain ⟨n0, _⟩ := headV_sound eh
      dsimp only
      have a1 := app_D encK (d := zs) ((⟨n, b, e, []⟩ : Cu), om.length) (by have := hz.1; omega)
      rcases snoc_or zs with rfl | ⟨z0, ck, rfl⟩
      · have q : lastN (List.map (·.1) ([] : List (Cu × Nat))) = -1 := rfl
        rw [q, if_pos (by omega)]
        have d0 : decide ((List.map encK []).length = 0) = true := rfl
        have ew : rd_h [v0, some (.own (List.map encK [])), some (.val (.int i)), some (.val (tx l)), x4] om = .nx [v0, some (.own (([] ++ [((⟨n, b, e, []⟩ : Cu), om.length)]).map encK)), some (.val (.int i)), some (.val (tx l)), some (.val (.tup [.int n, encF b, encF e]))] (om ++ [.lst []]) := by
          clear h g hz hm lkb h2 eb eh z1 n0 q
          unfold rd_h
          generalize ([] ++ [((⟨n, b, e, []⟩ : Cu), om.length)]).map encK = Y at *
          generalize List.map encK [] = X at *
          walk_at "evx"
        exact ⟨_, _, _, tryR_nx (eb.trans ew), kj_new h rfl, by simp, sz_new hz rfl⟩
      · have q : lastN (List.map (·.1) (z0 ++ [ck])) = ck.1.n := by rw [List.map_append]; exact lastN_snoc _ _
        rw [q]
        have d0 : decide ((List.map encK (z0 ++ [ck])).length = 0) = false := by simp
        have g1 : atN (List.map encK (z0 ++ [ck])) (-1) = some (encK ck) := by rw [List.map_append]; exact atN_lastK
        by_cases hn : ck.1.n < n
        · rw [if_pos hn]
          have d1 : decide (n ≤ ck.1.n) = false := decide_eq_false (by omega)
          have ew : rd_h [v0, some (.own (List.map encK (z0 ++ [ck]))), some (.val (.int i)), some (.val (tx l)), x4] om = .nx [v0, some (.own ((z0 ++ [ck] ++ [((⟨n, b, e, []⟩ : Cu), om.length)]).map encK)), some (.val (.int i)), some (.val (tx l)), some (.val (.tup [.int n, encF b, encF e]))] (om ++ [.lst []]) := by
            clear h g hz hm lkb h2 eb eh z1 n0 q hn
            unfold rd_h
            generalize (z0 ++ [ck] ++ [((⟨n, b, e, []⟩ : Cu), om.length)]).map encK = Y at *
            generalize List.map encK (z0 ++ [ck]) = X at *
            walk_at "evx"
          exact ⟨_, _, _, tryR_nx (eb.trans ew), kj_new h rfl, by simp, sz_new hz rfl⟩
        · rw [if_neg hn]
          show ∃ (ρ' : Rho) (om' : Om), _
          have d1 : decide (n ≤ ck.1.n) = true := decide_eq_true (by omega)
          have ew : rd_h [v0, some (.own (List.map encK (z0 ++ [ck]))), some (.val (.int i)), some (.val (tx l)), x4] om = .xc ⟨"BadTime", []⟩ [v0, some (.own (List.map encK (z0 ++ [ck]))), some (.val (.int i)), some (.val (tx l)), some (.val (.tup [.int n, encF b, encF e]))] om := by
            clear h g hz hm lkb h2 eb eh z1 n0 q hn a1
            unfold rd_h
            generalize List.map encK (z0 ++ [ck]) = X at *
            walk_at "evx"
          exact ⟨_, _, tryR_xc (eb.trans ew) lkb rfl⟩
end Dv

namespace Dv
open PySem PySem.Spec PyProof.Rows L2
local macro_rules | `(tactic| walk_at "ev") => `(tactic| try simp (disch := omega) only [sSeq_eq, seq_nx, seq_rt, seq_rto, seq_xc, seq_bk, seq_ct, seq_ite, sAsg, sAsgO, sExpr, sRet, sRetO, sRetN, sIf, sNext, uVar, uC, uUn, uBin, uB, uNot, uAnd, uOr, uTV, uAndV, uOrV, uNotV, uIf, uChain, uNil, uCons, uTup, uLst, uLstO, uFn, uFnO, uFz, uMv, uNew, uCall, uCallO, uCallN, uBinV, uBinW, uBinL, uMeO, uMeL, uFnV, sSetL, sAsgG, gN, gT2, gT3, gT4, iLst, iFn,   bind_ok, bind_xc, of_ok, of_xc, res_ok, res_xc, res0_ok, own_ok, own_xc, fr_nx, fr_rt, fr_rto, fr_xc, fo_rto, fo_xc, liftO_some, dBool_bl, items_lst, items_frz, ent, defU, defO, List.map_cons, List.map_nil, List.length_cons, List.length_nil, List.cons_append, List.nil_append, List.append_nil, List.replicate, List.getElem?_cons_zero, List.getElem?_cons_succ, List.set_cons_zero, List.set_cons_succ, Nat.zero_add, Nat.reduceAdd, Nat.reduceSub, Nat.reduceLeDiff,   le_big, lt_big, atN_zero, atN_one, atN_two, atN_three, setN_zero, setN_one, popAt_zero, len_zero, len_succ, dMul_r, dMul_l, dDiv_pos, dMod_pos, dAdd_int, dSub_int, dNeg_int, dLt_int, dLe_int, dGt_int, dGe_int, dEq_int, dNe_int, dEq_bl, dNe_bl, dEq_nil, dNe_nil, dIx_lst, dIx_tup, fAbs_int, fInt_bl, fInt_int, fLen_lst, fLen_frz, fLen_tup, ite_true, ite_false, if_true, if_false, Bool.not_true, Bool.not_false, decide_true, decide_false, Bool.true_eq_false, Bool.false_eq_true, reduceIte, reduceCtorEq, turn_nx, turn_ct, turn_bk, turn_rt, turn_rto, turn_xc, sFor_eq, goL_nil, eq_self])
local macro_rules | `(tactic| walk_at "evs") => `(tactic| try simp (disch := omega) only [sSeq_eq, seq_nx, seq_rt, seq_rto, seq_xc, seq_bk, seq_ct, seq_ite, sAsg, sAsgO, sExpr, sRet, sRetO, sRetN, sIf, sNext, uVar, uC, uUn, uBin, uB, uNot, uAnd, uOr, uTV, uAndV, uOrV, uNotV, uIf, uChain, uNil, uCons, uTup, uLst, uLstO, uFn, uFnO, uFz, uMv, uNew, uCall, uCallO, uCallN, uBinV, uBinW, uBinL, uMeO, uMeL, uFnV, sSetL, sAsgG, gN, gT2, gT3, gT4, iLst, iFn,   bind_ok, bind_xc, of_ok, of_xc, res_ok, res_xc, res0_ok, own_ok, own_xc, fr_nx, fr_rt, fr_rto, fr_xc, fo_rto, fo_xc, liftO_some, dBool_bl, items_lst, items_frz, ent, defU, defO, List.map_cons, List.map_nil, List.length_cons, List.length_nil, List.cons_append, List.nil_append, List.append_nil, List.replicate, List.getElem?_cons_zero, List.getElem?_cons_succ, List.set_cons_zero, List.set_cons_succ, Nat.zero_add, Nat.reduceAdd, Nat.reduceSub, Nat.reduceLeDiff,   le_big, lt_big, atN_zero, atN_one, atN_two, atN_three, setN_zero, setN_one, popAt_zero, len_zero, len_succ, dMul_r, dMul_l, dDiv_pos, dMod_pos, dAdd_int, dSub_int, dNeg_int, dLt_int, dLe_int, dGt_int, dGe_int, dEq_int, dNe_int, dEq_bl, dNe_bl, dEq_nil, dNe_nil, dIx_lst, dIx_tup, fAbs_int, fInt_bl, fInt_int, fLen_lst, fLen_frz, fLen_tup, ite_true, ite_false, if_true, if_false, Bool.not_true, Bool.not_false, decide_true, decide_false, Bool.true_eq_false, Bool.false_eq_true, reduceIte, reduceCtorEq, turn_nx, turn_ct, turn_bk, turn_rt, turn_rto, turn_xc, sFor_eq, goL_nil, eq_self, *])
local macro_rules | `(tactic| walk_at "evt") => `(tactic| try simp (disch := first | omega | (simp only [List.length_append, List.length_cons, List.length_nil, List.length_map]; omega)) only [sSeq_eq, seq_nx, seq_rt, seq_rto, seq_xc, seq_bk, seq_ct, seq_ite, sAsg, sAsgO, sExpr, sRet, sRetO, sRetN, sIf, sNext, uVar, uC, uUn, uBin, uB, uNot, uAnd, uOr, uTV, uAndV, uOrV, uNotV, uIf, uChain, uNil, uCons, uTup, uLst, uLstO, uFn, uFnO, uFz, uMv, uNew, uCall, uCallO, uCallN, uBinV, uBinW, uBinL, uMeO, uMeL, uFnV, sSetL, sAsgG, gN, gT2, gT3, gT4, iLst, iFn,   bind_ok, bind_xc, of_ok, of_xc, res_ok, res_xc, res0_ok, own_ok, own_xc, fr_nx, fr_rt, fr_rto, fr_xc, fo_rto, fo_xc, liftO_some, dBool_bl, items_lst, items_frz, ent, defU, defO, List.map_cons, List.map_nil, List.length_cons, List.length_nil, List.cons_append, List.nil_append, List.append_nil, List.replicate, List.getElem?_cons_zero, List.getElem?_cons_succ, List.set_cons_zero, List.set_cons_succ, Nat.zero_add, Nat.reduceAdd, Nat.reduceSub, Nat.reduceLeDiff,   le_big, lt_big, atN_zero, atN_one, atN_two, atN_three, setN_zero, setN_one, popAt_zero, len_zero, len_succ, dMul_r, dMul_l, dDiv_pos, dMod_pos, dAdd_int, dSub_int, dNeg_int, dLt_int, dLe_int, dGt_int, dGe_int, dEq_int, dNe_int, dEq_bl, dNe_bl, dEq_nil, dNe_nil, dIx_lst, dIx_tup, fAbs_int, fInt_bl, fInt_int, fLen_lst, fLen_frz, fLen_tup, ite_true, ite_false, if_true, if_false, Bool.not_true, Bool.not_false, decide_true, decide_false, Bool.true_eq_false, Bool.false_eq_true, reduceIte, reduceCtorEq, turn_nx, turn_ct, turn_bk, turn_rt, turn_rto, turn_xc, sFor_eq, goL_nil, eq_self, sRaise, gT2, gT3, gT4, sAsgG, uM1, uOrS, uSlS, uSlW, uCatV, uPart, uNoPart, iStrU, k_colon, k_blank, k_line, k_f, k_s, k_0, k_empty, k_digits, k_abc, k_alpha, k_cue, k_from, k_to, k_at, k_two, k_fto, k_nl, k_a1, dAdd_tx, fLen_tx, fStr_nat, dEq_tx, dNe_tx, dEq_txn, dNe_txn, len_tx, cutS_l1, cutS_b1, cutS_ln, cutS_bn, dIx_tx0, *])
local macro_rules | `(tactic| walk_at "evx") => `(tactic| try simp (disch := first | omega | (simp only [List.length_append, List.length_cons, List.length_nil, List.length_map]; omega)) only [sSeq_eq, seq_nx, seq_rt, seq_rto, seq_xc, seq_bk, seq_ct, seq_ite, sAsg, sAsgO, sExpr, sRet, sRetO, sRetN, sIf, sNext, uVar, uC, uUn, uBin, uB, uNot, uAnd, uOr, uTV, uAndV, uOrV, uNotV, uIf, uChain, uNil, uCons, uTup, uLst, uLstO, uFn, uFnO, uFz, uMv, uNew, uCall, uCallO, uCallN, uBinV, uBinW, uBinL, uMeO, uMeL, uFnV, sSetL, sAsgG, gN, gT2, gT3, gT4, iLst, iFn,   bind_ok, bind_xc, of_ok, of_xc, res_ok, res_xc, res0_ok, own_ok, own_xc, fr_nx, fr_rt, fr_rto, fr_xc, fo_rto, fo_xc, liftO_some, dBool_bl, items_lst, items_frz, ent, defU, defO, List.map_cons, List.map_nil, List.length_cons, List.length_nil, List.cons_append, List.nil_append, List.append_nil, List.replicate, List.getElem?_cons_zero, List.getElem?_cons_succ, List.set_cons_zero, List.set_cons_succ, Nat.zero_add, Nat.reduceAdd, Nat.reduceSub, Nat.reduceLeDiff,   le_big, lt_big, atN_zero, atN_one, atN_two, atN_three, setN_zero, setN_one, popAt_zero, len_zero, len_succ, dMul_r, dMul_l, dDiv_pos, dMod_pos, dAdd_int, dSub_int, dNeg_int, dLt_int, dLe_int, dGt_int, dGe_int, dEq_int, dNe_int, dEq_bl, dNe_bl, dEq_nil, dNe_nil, dIx_lst, dIx_tup, fAbs_int, fInt_bl, fInt_int, fLen_lst, fLen_frz, fLen_tup, ite_true, ite_false, if_true, if_false, Bool.not_true, Bool.not_false, decide_true, decide_false, Bool.true_eq_false, Bool.false_eq_true, reduceIte, reduceCtorEq, turn_nx, turn_ct, turn_bk, turn_rt, turn_rto, turn_xc, sFor_eq, goL_nil, eq_self, sRaise, gT2, gT3, gT4, sAsgG, see_bl, see_int, see_non, see_tup, see_lst, see_str, uBinX, uUnX, uFnX, uFld, sFldU, uMeth, uMethO, uMake, uCatX, uRev, uMethN, uFrzI, uSlV, uM1, uOrS, uSlS, uSlW, uCatV, uPart, uNoPart, iStrU, k_colon, k_blank, k_line, k_f, k_s, k_0, k_empty, k_digits, k_abc, k_alpha, k_cue, k_from, k_to, k_at, k_two, k_fto, k_nl, k_a1, dAdd_tx, fLen_tx, fStr_nat, dEq_tx, dNe_tx, dEq_txn, dNe_txn, len_tx, cutS_l1, cutS_b1, cutS_ln, cutS_bn, dIx_tx0, *])
theorem rd_loop (v0 : Option Sl) : ∀ (ls : List (List Nat)) (zs : List (Cu × Nat)) (om : Om) (i m : Nat) (x2 x3 x4 : Option Sl), KJ om zs → CsG (zs.map (·.1)) → Sz m zs → m + ls.length ≤ 500 → (∀ l ∈ ls, l.length ≤ 900) →
    (∀ cs', readV (zs.map (·.1)) i ls = .ok cs' → ∃ (zs' : List (Cu × Nat)) (om' : Om) (y2 y3 y4 : Option Sl), goL (gT2 2 3) rd_turn (enumD i (ls.map tx)) [v0, some (.own (zs.map encK)), x2, x3, x4] om = .nx [v0, some (.own (zs'.map encK)), y2, y3, y4] om' ∧ KJ om' zs' ∧ zs'.map (·.1) = cs') ∧
    (∀ k, readV (zs.map (·.1)) i ls = .error k → ∃ (ρ' : Rho) (om' : Om), goL (gT2 2 3) rd_turn (enumD i (ls.map tx)) [v0, some (.own (zs.map encK)), x2, x3, x4] om = .xc (errX (k : Int)) ρ' om')
  | [], zs, om, i, m, x2, x3, x4, h, g, hz, hm, hl => ⟨fun cs' e => by
      cases e
      exact ⟨zs, om, x2, x3, x4, rfl, h, rfl⟩, fun k e => by cases e⟩
  | l :: ls, zs, om, i, m, x2, x3, x4, h, g, hz, hm, hl => by
    rw [List.length_cons] at hm
    have st := rd_step h g (m := m) (by omega) hz l (hl l (by simp)) v0 x4 (i : Int)
    rw [readV_cons, List.map_cons, enumD, goL_cons (ρ1 := [v0, some (.own (zs.map encK)), some (.val (.int i)), some (.val (tx l)), x4]) _ _ rfl]
    cases e1 : stepV (zs.map (·.1)) l with
    | none =>
      rw [e1] at st
      obtain ⟨ρ', om', t⟩ := st
      refine ⟨fun cs' e => (by cases e), fun k e => ?_⟩
      cases e
      rw [t]
      exact ⟨ρ', om', rfl⟩
    | some cs1 =>
      rw [e1] at st
      obtain ⟨z1, om1, y4, t, h1, h2, h3⟩ := st
      have g1 : CsG (z1.map (·.1)) := by rw [h2]; exact (stepV_sound e1 g).1
      have ih := rd_loop v0 ls z1 om1 (i + 1) (m + 1) (some (.val (.int i))) (some (.val (tx l))) y4 h1 g1 h3 (by omega) fun x hx => hl x (by simp [hx])
      rw [h2] at ih
      rw [t, turn_nx]
      exact ih
theorem join_len : ∀ ls : List (List Nat), (TL.joinL [10] ls).length ≤ lens ls + ls.length
  | [] => by simp [TL.joinL]
  | [p] => by simp [TL.joinL, lens]
  | p :: q :: r => by
    have := join_len (q :: r)
    unfold TL.joinL
    unfold lens at this ⊢
    simp only [List.map_cons, List.sum_cons, List.length_cons, List.length_append, List.length_nil] at this ⊢
    omega
theorem join_ne2 {L : List (List Nat)} (h1 : L ≠ []) (h2 : L ≠ [[]]) : TL.joinL [10] L ≠ [] := by
  match L, h1, h2 with
  | [p], _, h2 => exact fun z => h2 (by rw [show p = [] from z])
  | p :: q :: r, _, _ =>
    unfold TL.joinL
    simp
/-- lines that can stand in a text -/
structure Lo (L : List (List Nat)) : Prop where
  n : L.length ≤ 120
  l : ∀ l ∈ L, l.length ≤ 400 ∧ 10 ∉ l
theorem Lo.tx {L : List (List Nat)} (h : Lo L) : (TL.joinL [10] L).length ≤ 60000 ∧ lens L + L.length ≤ 60000 := by
  have l3 := lens_le fun l hl => (h.l l hl).1
  have l4 := join_len L
  have := h.n
  constructor <;> omega
theorem read_nil (om : Om) : S_read_cues [tx []] om = .ok (.lst []) om := by
  have d1 : decide (([] : List Nat) = []) = true := by decide
  unfold S_read_cues
  rw [rd_turn_top]
  simp only [defO, ent, sRetO, List.map_nil]
  walk_at "evx"
theorem read_gen (om : Om) {L : List (List Nat)} (h : Lo L) (h1 : L ≠ []) (h2 : L ≠ [[]]) :
    (∀ cs, readV [] 0 L = .ok cs → ∃ (zs : List (Cu × Nat)) (om' : Om), S_read_cues [tx (TL.joinL [10] L)] om = .ok (.lst (zs.map encK)) om' ∧ KJ om' zs ∧ zs.map (·.1) = cs) ∧
    (∀ k, readV [] 0 L = .error k → ∃ om', S_read_cues [tx (TL.joinL [10] L)] om = .xc (errX (k : Int)) om') := by
  obtain ⟨t1, t2⟩ := h.tx
  have jn := join_ne2 h1 h2
  have d1 : decide (TL.joinL [10] L = []) = false := decide_eq_false jn
  have e2 := fSplit_tx (l := TL.joinL [10] L) (s := 10) (by decide) (by omega)
  rw [TL.spl_join h1 fun p hp => (h.l p hp).2] at e2
  have e3 := fEnum_eq (L.map tx)
  have lp := rd_loop (some (.val (tx (TL.joinL [10] L)))) L [] om 0 0 none none none ⟨by simp, by simp⟩ csg_nil ⟨by simp, by simp⟩ (by have := h.n; omega) fun l hl => by have := (h.l l hl).1; omega
  rw [List.map_nil, List.map_nil] at lp
  refine ⟨fun cs e => ?_, fun k e => ?_⟩
  · obtain ⟨zs', om', y2, y3, y4, e1, k1, k2⟩ := lp.1 cs e
    refine ⟨zs', om', ?_, k1, k2⟩
    clear lp k1 k2 jn h h1 h2 t1 t2 e
    unfold S_read_cues
    rw [rd_turn_top]
    generalize rd_turn = RT at *
    generalize TL.joinL [10] L = J at *
    generalize enumD 0 (L.map tx) = EN at *
    generalize L.map tx = LL at *
    generalize zs'.map encK = Z at *
    simp only [defO, ent, sRetO]
    walk_at "evx"
  · obtain ⟨ρ', om', e1⟩ := lp.2 k e
    refine ⟨om', ?_⟩
    clear lp jn h h1 h2 t1 t2 e
    unfold S_read_cues
    rw [rd_turn_top]
    generalize rd_turn = RT at *
    generalize TL.joinL [10] L = J at *
    generalize enumD 0 (L.map tx) = EN at *
    generalize L.map tx = LL at *
    generalize errX (k : Int) = EX at *
    simp only [defO, ent, sRetO]
    walk_at "evx"
end Dv

namespace Dv
open PySem PySem.Spec PyProof.Rows L2
local macro_rules | `(tactic| walk_at "ev") => `(tactic| try simp (disch := omega) only [sSeq_eq, seq_nx, seq_rt, seq_rto, seq_xc, seq_bk, seq_ct, seq_ite, sAsg, sAsgO, sExpr, sRet, sRetO, sRetN, sIf, sNext, uVar, uC, uUn, uBin, uB, uNot, uAnd, uOr, uTV, uAndV, uOrV, uNotV, uIf, uChain, uNil, uCons, uTup, uLst, uLstO, uFn, uFnO, uFz, uMv, uNew, uCall, uCallO, uCallN, uBinV, uBinW, uBinL, uMeO, uMeL, uFnV, sSetL, sAsgG, gN, gT2, gT3, gT4, iLst, iFn,   bind_ok, bind_xc, of_ok, of_xc, res_ok, res_xc, res0_ok, own_ok, own_xc, fr_nx, fr_rt, fr_rto, fr_xc, fo_rto, fo_xc, liftO_some, dBool_bl, items_lst, items_frz, ent, defU, defO, List.map_cons, List.map_nil, List.length_cons, List.length_nil, List.cons_append, List.nil_append, List.append_nil, List.replicate, List.getElem?_cons_zero, List.getElem?_cons_succ, List.set_cons_zero, List.set_cons_succ, Nat.zero_add, Nat.reduceAdd, Nat.reduceSub, Nat.reduceLeDiff,   le_big, lt_big, atN_zero, atN_one, atN_two, atN_three, setN_zero, setN_one, popAt_zero, len_zero, len_succ, dMul_r, dMul_l, dDiv_pos, dMod_pos, dAdd_int, dSub_int, dNeg_int, dLt_int, dLe_int, dGt_int, dGe_int, dEq_int, dNe_int, dEq_bl, dNe_bl, dEq_nil, dNe_nil, dIx_lst, dIx_tup, fAbs_int, fInt_bl, fInt_int, fLen_lst, fLen_frz, fLen_tup, ite_true, ite_false, if_true, if_false, Bool.not_true, Bool.not_false, decide_true, decide_false, Bool.true_eq_false, Bool.false_eq_true, reduceIte, reduceCtorEq, turn_nx, turn_ct, turn_bk, turn_rt, turn_rto, turn_xc, sFor_eq, goL_nil, eq_self])
local macro_rules | `(tactic| walk_at "evs") => `(tactic| try simp (disch := omega) only [sSeq_eq, seq_nx, seq_rt, seq_rto, seq_xc, seq_bk, seq_ct, seq_ite, sAsg, sAsgO, sExpr, sRet, sRetO, sRetN, sIf, sNext, uVar, uC, uUn, uBin, uB, uNot, uAnd, uOr, uTV, uAndV, uOrV, uNotV, uIf, uChain, uNil, uCons, uTup, uLst, uLstO, uFn, uFnO, uFz, uMv, uNew, uCall, uCallO, uCallN, uBinV, uBinW, uBinL, uMeO, uMeL, uFnV, sSetL, sAsgG, gN, gT2, gT3, gT4, iLst, iFn,   bind_ok, bind_xc, of_ok, of_xc, res_ok, res_xc, res0_ok, own_ok, own_xc, fr_nx, fr_rt, fr_rto, fr_xc, fo_rto, fo_xc, liftO_some, dBool_bl, items_lst, items_frz, ent, defU, defO, List.map_cons, List.map_nil, List.length_cons, List.length_nil, List.cons_append, List.nil_append, List.append_nil, List.replicate, List.getElem?_cons_zero, List.getElem?_cons_succ, List.set_cons_zero, List.set_cons_succ, Nat.zero_add, Nat.reduceAdd, Nat.reduceSub, Nat.reduceLeDiff,   le_big, lt_big, atN_zero, atN_one, atN_two, atN_three, setN_zero, setN_one, popAt_zero, len_zero, len_succ, dMul_r, dMul_l, dDiv_pos, dMod_pos, dAdd_int, dSub_int, dNeg_int, dLt_int, dLe_int, dGt_int, dGe_int, dEq_int, dNe_int, dEq_bl, dNe_bl, dEq_nil, dNe_nil, dIx_lst, dIx_tup, fAbs_int, fInt_bl, fInt_int, fLen_lst, fLen_frz, fLen_tup, ite_true, ite_false, if_true, if_false, Bool.not_true, Bool.not_false, decide_true, decide_false, Bool.true_eq_false, Bool.false_eq_true, reduceIte, reduceCtorEq, turn_nx, turn_ct, turn_bk, turn_rt, turn_rto, turn_xc, sFor_eq, goL_nil, eq_self, *])
local macro_rules | `(tactic| walk_at "evt") => `(tactic| try simp (disch := first | omega | (simp only [List.length_append, List.length_cons, List.length_nil, List.length_map]; omega)) only [sSeq_eq, seq_nx, seq_rt, seq_rto, seq_xc, seq_bk, seq_ct, seq_ite, sAsg, sAsgO, sExpr, sRet, sRetO, sRetN, sIf, sNext, uVar, uC, uUn, uBin, uB, uNot, uAnd, uOr, uTV, uAndV, uOrV, uNotV, uIf, uChain, uNil, uCons, uTup, uLst, uLstO, uFn, uFnO, uFz, uMv, uNew, uCall, uCallO, uCallN, uBinV, uBinW, uBinL, uMeO, uMeL, uFnV, sSetL, sAsgG, gN, gT2, gT3, gT4, iLst, iFn,   bind_ok, bind_xc, of_ok, of_xc, res_ok, res_xc, res0_ok, own_ok, own_xc, fr_nx, fr_rt, fr_rto, fr_xc, fo_rto, fo_xc, liftO_some, dBool_bl, items_lst, items_frz, ent, defU, defO, List.map_cons, List.map_nil, List.length_cons, List.length_nil, List.cons_append, List.nil_append, List.append_nil, List.replicate, List.getElem?_cons_zero, List.getElem?_cons_succ, List.set_cons_zero, List.set_cons_succ, Nat.zero_add, Nat.reduceAdd, Nat.reduceSub, Nat.reduceLeDiff,   le_big, lt_big, atN_zero, atN_one, atN_two, atN_three, setN_zero, setN_one, popAt_zero, len_zero, len_succ, dMul_r, dMul_l, dDiv_pos, dMod_pos, dAdd_int, dSub_int, dNeg_int, dLt_int, dLe_int, dGt_int, dGe_int, dEq_int, dNe_int, dEq_bl, dNe_bl, dEq_nil, dNe_nil, dIx_lst, dIx_tup, fAbs_int, fInt_bl, fInt_int, fLen_lst, fLen_frz, fLen_tup, ite_true, ite_false, if_true, if_false, Bool.not_true, Bool.not_false, decide_true, decide_false, Bool.true_eq_false, Bool.false_eq_true, reduceIte, reduceCtorEq, turn_nx, turn_ct, turn_bk, turn_rt, turn_rto, turn_xc, sFor_eq, goL_nil, eq_self, sRaise, gT2, gT3, gT4, sAsgG, uM1, uOrS, uSlS, uSlW, uCatV, uPart, uNoPart, iStrU, k_colon, k_blank, k_line, k_f, k_s, k_0, k_empty, k_digits, k_abc, k_alpha, k_cue, k_from, k_to, k_at, k_two, k_fto, k_nl, k_a1, dAdd_tx, fLen_tx, fStr_nat, dEq_tx, dNe_tx, dEq_txn, dNe_txn, len_tx, cutS_l1, cutS_b1, cutS_ln, cutS_bn, dIx_tx0, *])
local macro_rules | `(tactic| walk_at "evx") => `(tactic| try simp (disch := first | omega | (simp only [List.length_append, List.length_cons, List.length_nil, List.length_map]; omega)) only [sSeq_eq, seq_nx, seq_rt, seq_rto, seq_xc, seq_bk, seq_ct, seq_ite, sAsg, sAsgO, sExpr, sRet, sRetO, sRetN, sIf, sNext, uVar, uC, uUn, uBin, uB, uNot, uAnd, uOr, uTV, uAndV, uOrV, uNotV, uIf, uChain, uNil, uCons, uTup, uLst, uLstO, uFn, uFnO, uFz, uMv, uNew, uCall, uCallO, uCallN, uBinV, uBinW, uBinL, uMeO, uMeL, uFnV, sSetL, sAsgG, gN, gT2, gT3, gT4, iLst, iFn,   bind_ok, bind_xc, of_ok, of_xc, res_ok, res_xc, res0_ok, own_ok, own_xc, fr_nx, fr_rt, fr_rto, fr_xc, fo_rto, fo_xc, liftO_some, dBool_bl, items_lst, items_frz, ent, defU, defO, List.map_cons, List.map_nil, List.length_cons, List.length_nil, List.cons_append, List.nil_append, List.append_nil, List.replicate, List.getElem?_cons_zero, List.getElem?_cons_succ, List.set_cons_zero, List.set_cons_succ, Nat.zero_add, Nat.reduceAdd, Nat.reduceSub, Nat.reduceLeDiff,   le_big, lt_big, atN_zero, atN_one, atN_two, atN_three, setN_zero, setN_one, popAt_zero, len_zero, len_succ, dMul_r, dMul_l, dDiv_pos, dMod_pos, dAdd_int, dSub_int, dNeg_int, dLt_int, dLe_int, dGt_int, dGe_int, dEq_int, dNe_int, dEq_bl, dNe_bl, dEq_nil, dNe_nil, dIx_lst, dIx_tup, fAbs_int, fInt_bl, fInt_int, fLen_lst, fLen_frz, fLen_tup, ite_true, ite_false, if_true, if_false, Bool.not_true, Bool.not_false, decide_true, decide_false, Bool.true_eq_false, Bool.false_eq_true, reduceIte, reduceCtorEq, turn_nx, turn_ct, turn_bk, turn_rt, turn_rto, turn_xc, sFor_eq, goL_nil, eq_self, sRaise, gT2, gT3, gT4, sAsgG, see_bl, see_int, see_non, see_tup, see_lst, see_str, uBinX, uUnX, uFnX, uFld, sFldU, uMeth, uMethO, uMake, uCatX, uRev, uMethN, uFrzI, uSlV, uM1, uOrS, uSlS, uSlW, uCatV, uPart, uNoPart, iStrU, k_colon, k_blank, k_line, k_f, k_s, k_0, k_empty, k_digits, k_abc, k_alpha, k_cue, k_from, k_to, k_at, k_two, k_fto, k_nl, k_a1, dAdd_tx, fLen_tx, fStr_nat, dEq_tx, dNe_tx, dEq_txn, dNe_txn, len_tx, cutS_l1, cutS_b1, cutS_ln, cutS_bn, dIx_tx0, *])
def w_el : UE := (uBin dAdd (uBin dAdd (uBin dAdd (uBin dAdd (uC (.str (Str.ofString "  "))) (uVar 7)) (uC (.str (Str.ofString " at ")))) (uCallN 1 S_law_mixed (uCons (uVar 8) uNil))) (uC (.str (Str.ofString "f"))))
def ll_turn : US := (sSeq (sAsg 6 (uBin dAdd (uBin dAdd (uBin dAdd (uC (.str (Str.ofString "cue "))) (uFn fStr (uCons (uVar 2) uNil))) (uC (.str (Str.ofString " from ")))) (uCall 1 S_law_mixed (uCons (uVar 3) uNil)))) (sSeq (sExpr (uMeO 1 mAppend (uCons (uBin dAdd (uBin dAdd (uBin dAdd (uVar 6) (uC (.str (Str.ofString "f to ")))) (uCall 1 S_law_mixed (uCons (uVar 4) uNil))) (uC (.str (Str.ofString "f")))) uNil))) (sAsgO 1 (uCatV 1 (uFz (uLcX (uVar 5) (gT2 7 8) uYes w_el [7, 8]))))))
theorem ll_top : u_law_lines = (sSeq (sAsgO 1 (uLstO uNil)) (sSeq (sForX (uVar 0) (gT4 2 3 4 5) ll_turn) (sRetO (uMv 1)))) := rfl
def n_tt : UT := (uB (uBinX dNotIn (uVar 6) (uC (.str (Str.ofString "abcdefghijklmnopqrstuvwxyz")))))
def gw_turn : US := (sSeq (sIf (uOr (uNot (uB (uUnX (dIsi "str") (uVar 4)))) (uNot (uB (uChain dLt dLe (uC (.int 0)) (uFnX fLen (uCons (uVar 4) uNil)) (uC (.int 20)))))) (sRet (uC (.bl false))) sNext) (sSeq (sIf (uOr (uB (uCall 2 S_law_low (uCons (uVar 5) (uCons (uVar 3) uNil)))) (uNot (uB (uCall 2 S_law_low (uCons (uVar 5) (uCons (uBinX dIx (uVar 2) (uC (.int 2))) uNil)))))) (sRet (uC (.bl false))) sNext) (sSeq (sIf (uB (uBinX dNe (uFz (uLc (iStrU (uVar 4)) (gN 6) n_tt (uVar 6) [6])) (uLst uNil))) (sRet (uC (.bl false))) sNext) (sAsg 3 (uVar 5)))))
def gd_0 : US := (sIf (uOr (uNot (uB (uUnX (dIsi "tuple") (uVar 2)))) (uOr (uB (uBinX dNe (uFnX fLen (uCons (uVar 2) uNil)) (uC (.int 4)))) (uOr (uNot (uB (uUnX (dIsi "int") (uBinX dIx (uVar 2) (uC (.int 0)))))) (uB (uBinX dLe (uBinX dIx (uVar 2) (uC (.int 0))) (uVar 1)))))) (sRet (uC (.bl false))) sNext)
def gd_1 : US := (sAsg 1 (uBinX dIx (uVar 2) (uC (.int 0))))
def gd_2 : US := (sIf (uOr (uNot (uB (uCall 2 S_law_low (uCons (uBinX dIx (uVar 2) (uC (.int 1))) (uCons (uBinX dIx (uVar 2) (uC (.int 2))) uNil))))) (uNot (uB (uUnX (dIsi "list") (uBinX dIx (uVar 2) (uC (.int 3))))))) (sRet (uC (.bl false))) sNext)
def gd_3 : US := (sAsg 3 (uBinX dIx (uVar 2) (uC (.int 1))))
def gd_4 : US := (sForX (uBinX dIx (uVar 2) (uC (.int 3))) (gT2 4 5) gw_turn)
def gd_turn : US := (sSeq gd_0 (sSeq gd_1 (sSeq gd_2 (sSeq gd_3 gd_4))))
theorem gd_top : u_law_good = (sSeq (sAsg 1 (uUn dNeg (uC (.int 1)))) (sSeq (sForX (uVar 0) (gN 2) gd_turn) (sRet (uC (.bl true))))) := rfl
theorem seq_go {a b : US} {ρ ρ' : Rho} {ω ω' : Om} (h : a ρ ω = .nx ρ' ω') : sSeq a b ρ ω = b ρ' ω' := by rw [sSeq_eq, h, seq_nx]
/-! ### loops over shared lists -/
theorem goX_any {α : Type} {G : UG} {body : US} (f : α → D) {k : Nat} {om : Om} {l : List α} (hk : om[k]? = some (.lst (l.map f))) (Inv : List α → Rho → Prop) (h : ∀ p x q ρ, l = p ++ x :: q → Inv p ρ → ∃ ρ1 ρ', G (f x) ρ = some ρ1 ∧ body ρ1 om = .nx ρ' om ∧ Inv (p ++ [x]) ρ') : ∀ (q p : List α) (ρ : Rho), l = p ++ q → Inv p ρ →
    ∃ ρ', goX G body (getL k) (q.length + 1) p.length ρ om = .nx ρ' om ∧ Inv l ρ'
  | [], p, ρ, e, hi => by
    rw [List.append_nil] at e
    subst e
    exact ⟨ρ, goX_end (ds := l.map f) _ _ _ (by unfold getL; rw [hk]) (by simp), hi⟩
  | x :: q, p, ρ, e, hi => by
    obtain ⟨ρ1, ρ2, e0, e1, h1⟩ := h p x q ρ e hi
    obtain ⟨ρ3, e2, h2⟩ := goX_any f hk Inv h q (p ++ [x]) ρ2 (by rw [e]; simp) h1
    refine ⟨ρ3, ?_, h2⟩
    rw [List.length_append] at e2
    rw [List.length_cons, goX_next (ds := l.map f) (d := f x) (ρ1 := ρ1) _ _ _ (by unfold getL; rw [hk]) (by rw [e]; simp) e0, e1, turn_nx]
    exact e2
theorem forXL_any {α : Type} {u : UE} {G : UG} {body : US} (f : α → D) {k : Nat} {om : Om} {ρ : Rho} {l : List α} (hu : u ρ om = .ok (.loc k) ρ om) (hk : om[k]? = some (.lst (l.map f))) (Inv : List α → Rho → Prop) (h : ∀ p x q ρ, l = p ++ x :: q → Inv p ρ → ∃ ρ1 ρ', G (f x) ρ = some ρ1 ∧ body ρ1 om = .nx ρ' om ∧ Inv (p ++ [x]) ρ') (h0 : Inv [] ρ) :
    ∃ ρ', sForX u G body ρ om = .nx ρ' om ∧ Inv l ρ' := by
  obtain ⟨ρ', e, h'⟩ := goX_any f hk Inv h l [] ρ rfl h0
  refine ⟨ρ', ?_, h'⟩
  rw [forX_loc hu]
  unfold sForL
  rw [hu]
  have lg : lenG (getL k) ρ om = l.length + 1 := by
    unfold lenG getL
    rw [hk]
    simp
  show goX G body (getL k) (lenG (getL k) ρ om) 0 ρ om = _
  rw [lg]
  exact e
theorem forXV_any {α : Type} {u : UE} {G : UG} {body : US} (f : α → D) {om : Om} {ρ : Rho} {l : List α} (hu : u ρ om = .ok (.lst (l.map f)) ρ om) (Inv : List α → Rho → Prop) (h : ∀ p x q ρ, l = p ++ x :: q → Inv p ρ → ∃ ρ1 ρ', G (f x) ρ = some ρ1 ∧ body ρ1 om = .nx ρ' om ∧ Inv (p ++ [x]) ρ') (h0 : Inv [] ρ) :
    ∃ ρ', sForX u G body ρ om = .nx ρ' om ∧ Inv l ρ' := by
  have key : ∀ (q p : List α) (ρ : Rho), l = p ++ q → Inv p ρ → ∃ ρ', goL G body (q.map f) ρ om = .nx ρ' om ∧ Inv l ρ' := by
    intro q
    induction q with
    | nil =>
      intro p ρ e hi
      rw [List.append_nil] at e
      subst e
      exact ⟨ρ, rfl, hi⟩
    | cons x q ih =>
      intro p ρ e hi
      obtain ⟨ρ1, ρ2, e0, e1, h1⟩ := h p x q ρ e hi
      obtain ⟨ρ3, e2, h2⟩ := ih (p ++ [x]) ρ2 (by rw [e]; simp) h1
      exact ⟨ρ3, by rw [List.map_cons, goL_cons _ _ e0, e1, turn_nx, e2], h2⟩
  obtain ⟨ρ', e, h'⟩ := key l [] ρ rfl h0
  refine ⟨ρ', ?_, h'⟩
  rw [forX_lst hu, sFor_eq]
  simp only [iLst]
  rw [hu]
  simp only [Res.bind, items_lst, liftO_some, of_ok]
  exact e
theorem goCX_gen {G : UG} {te : UE} {vs : List Nat} {k : Nat} {ω : Om} {ρ : Rho} {ds : List D} (hk : ω[k]? = some (.lst ds)) (f : D → D) (r : D → Rho) (h : ∀ d ∈ ds, G d ρ = some (r d) ∧ te (r d) ω = .ok (f d) (r d) ω ∧ clrs (r d) vs = ρ) : ∀ (n j : Nat) (acc : List D), n + j = ds.length + 1 → 0 < n → acc.length + ds.length ≤ big + j →
    goCX G uYes te vs (getL k) n j acc ρ ω = .ok (acc ++ (ds.drop j).map f) ρ ω
  | 0, _, _, _, h0, _ => absurd h0 (by omega)
  | n + 1, j, acc, e, _, hz => by
    unfold goCX
    have g : getL k ρ ω = some ds := by unfold getL; rw [hk]
    rw [g]
    dsimp only
    cases ed : ds[j]? with
    | none =>
      have := List.getElem?_eq_none_iff.mp ed
      rw [List.drop_of_length_le this]
      simp
    | some d =>
      dsimp only
      obtain ⟨lj, ej⟩ := List.getElem?_eq_some_iff.mp ed
      obtain ⟨h1, h2, h3⟩ := h d (List.mem_of_getElem? ed)
      rw [h1]
      simp only [uYes, if_true]
      rw [h2]
      dsimp only
      rw [if_pos (by omega), h3, goCX_gen hk f r h n (j + 1) (acc ++ [f d]) (by omega) (by omega) (by simp; omega)]
      rw [List.drop_eq_getElem_cons lj, ej]
      simp
/-! ### the law's lines -/
structure CuL (c : Cu) : Prop where
  n0 : 0 ≤ c.n
  n1 : c.n < 1000000000
  b : Wr c.b
  e : Wr c.e
  ws : ∀ w ∈ c.ws, w.1.length ≤ 20 ∧ Wr w.2
  len : c.ws.length ≤ 200
section
variable (om : Om)
theorem el_eq (v0 v1 v2 v3 v4 v5 v6 : Option Sl) {w : List Nat × Fr} (h : w.1.length ≤ 20 ∧ Wr w.2) : w_el [v0, v1, v2, v3, v4, v5, v6, some (.val (tx w.1)), some (.val (encF w.2))] om = .ok (tx (lineW w)) [v0, v1, v2, v3, v4, v5, v6, some (.val (tx w.1)), some (.val (encF w.2))] om := by
  obtain ⟨w, q⟩ := w
  dsimp only at *
  have e1 := lmixed_eq om q h.2
  have l1 := h.1
  have l2 := h.2.mix
  generalize hm : mixL q = M at *
  unfold lineW
  dsimp only
  rw [hm]
  clear hm h
  unfold w_el
  walk_at "evx"
  simp only [List.append_assoc, List.cons_append, List.nil_append]
def wF (d : D) : D := match d with | .tup [.str w, .tup [.int a, .int b]] => tx (lineW (w.cps.toList, (a, b))) | _ => .non
theorem wF_map (ws : List (List Nat × Fr)) : (ws.map encW).map wF = (ws.map lineW).map tx := by
  rw [List.map_map, List.map_map]
  rfl
theorem words_step (v0 v1 v2 v3 v4 v5 v6 : Option Sl) {ws : List (List Nat × Fr)} (h : ∀ w ∈ ws, w.1.length ≤ 20 ∧ Wr w.2) : ∀ d ∈ ws.map encW, gT2 7 8 d [v0, v1, v2, v3, v4, v5, v6, none, none] = some ((fun d => match d with | .tup [x, y] => [v0, v1, v2, v3, v4, v5, v6, some (.val x), some (.val y)] | _ => []) d) ∧
    w_el ((fun d => match d with | .tup [x, y] => [v0, v1, v2, v3, v4, v5, v6, some (.val x), some (.val y)] | _ => []) d) om = .ok (wF d) ((fun d => match d with | .tup [x, y] => [v0, v1, v2, v3, v4, v5, v6, some (.val x), some (.val y)] | _ => []) d) om ∧ clrs ((fun d => match d with | .tup [x, y] => [v0, v1, v2, v3, v4, v5, v6, some (.val x), some (.val y)] | _ => []) d) [7, 8] = [v0, v1, v2, v3, v4, v5, v6, none, none] := by
  intro d hd
  obtain ⟨w, hw, rfl⟩ := List.mem_map.mp hd
  exact ⟨rfl, el_eq om v0 v1 v2 v3 v4 v5 v6 (h w hw), rfl⟩
/-- the words of a cue, a value or shared -/
def WsD (om : Om) (d : D) (ws : List (List Nat × Fr)) : Prop := d = .lst (ws.map encW) ∨ ∃ k, d = .loc k ∧ om[k]? = some (.lst (ws.map encW))
theorem lines_lc (v0 v1 v2 v3 v4 v6 v7 v8 : Option Sl) {d : D} {ws : List (List Nat × Fr)} (hd : WsD om d ws) (hl : ws.length ≤ 200) (h : ∀ w ∈ ws, w.1.length ≤ 20 ∧ Wr w.2) :
    uLcX (uVar 5) (gT2 7 8) uYes w_el [7, 8] [v0, v1, v2, v3, v4, some (.val d), v6, v7, v8] om = .ok ((ws.map lineW).map tx) [v0, v1, v2, v3, v4, some (.val d), v6, none, none] om := by
  rcases hd with rfl | ⟨k, rfl, hk⟩
  · rw [lcX_lst (u := uVar 5) (ds := ws.map encW) (ρ' := [v0, v1, v2, v3, v4, some (.val (.lst (ws.map encW))), v6, v7, v8]) (ω' := om) rfl]
    have g := goC_gen (G := gT2 7 8) (te := w_el) (vs := [7, 8]) (ω := om) wF _ (ws.map encW) [] (words_step om v0 v1 v2 v3 v4 (some (.val (.lst (ws.map encW)))) v6 h) (by rw [List.length_map]; simp; exact Nat.le_trans hl (by decide))
    show goC (gT2 7 8) uYes w_el [7, 8] (ws.map encW) [] [v0, v1, v2, v3, v4, some (.val (.lst (ws.map encW))), v6, none, none] om = _
    rw [g, List.nil_append, wF_map]
  · rw [lcX_loc (u := uVar 5) (k := k) (ρ' := [v0, v1, v2, v3, v4, some (.val (.loc k)), v6, v7, v8]) (ω' := om) rfl]
    have lg : lenG (getL k) [v0, v1, v2, v3, v4, some (.val (.loc k)), v6, v7, v8] om = (ws.map encW).length + 1 := by
      unfold lenG getL
      rw [hk]
    rw [lg]
    have g := goCX_gen hk wF _ (words_step om v0 v1 v2 v3 v4 (some (.val (.loc k))) v6 h) ((ws.map encW).length + 1) 0 [] rfl (by omega) (by rw [List.length_map]; simp; exact Nat.le_trans hl (by decide))
    show goCX (gT2 7 8) uYes w_el [7, 8] (getL k) ((ws.map encW).length + 1) 0 [] [v0, v1, v2, v3, v4, some (.val (.loc k)), v6, none, none] om = _
    rw [g, List.nil_append, List.drop_zero, wF_map]
theorem ll_step (v0 v6 v7 v8 : Option Sl) {d : D} {c : Cu} (h : CuL c) (hd : WsD om d c.ws) (ls : List (List Nat)) (hl : ls.length ≤ 500) : ∃ y6, ll_turn [v0, some (.own (ls.map tx)), some (.val (.int c.n)), some (.val (encF c.b)), some (.val (encF c.e)), some (.val d), v6, v7, v8] om =
    .nx [v0, some (.own ((ls ++ linesC c).map tx)), some (.val (.int c.n)), some (.val (encF c.b)), some (.val (encF c.e)), some (.val d), y6, none, none] om := by
  have e1 := lmixed_eq om c.b h.b
  have e2 := lmixed_eq om c.e h.e
  have l1 := h.b.mix
  have l2 := h.e.mix
  have l3 := nm_len20 h.n0 (by have := h.n1; omega)
  have e3 := fStr_nat h.n0 (by have := h.n1; omega)
  have hw := h.len
  have ap := app_tx (ls := ls) (by omega)
  have ll2 : linesC c = [[99, 117, 101, 32] ++ (nm c.n ++ ([32, 102, 114, 111, 109, 32] ++ (mixL c.b ++ ([102] ++ ([32, 116, 111, 32] ++ (mixL c.e ++ [102]))))))] ++ c.ws.map lineW := rfl
  have cw := fun (a0 a1 a2 a3 a4 a6 a7 a8 : Option Sl) => lines_lc om a0 a1 a2 a3 a4 a6 a7 a8 hd (by omega) h.ws
  have zb : ∀ X : List Nat, ((List.map tx (ls ++ [X])).length + ((c.ws.map lineW).map tx).length ≤ big) = True := fun X => eq_true (by
    simp only [List.length_map, List.length_append, List.length_cons, List.length_nil]
    exact Nat.le_trans (show ls.length + (0 + 1) + c.ws.length ≤ 1000 by omega) (by decide))
  refine ⟨some (.val (tx ((([99, 117, 101, 32] ++ nm c.n) ++ [32, 102, 114, 111, 109, 32]) ++ mixL c.b))), ?_⟩
  rw [ll2]
  clear h hw ll2 hd
  unfold ll_turn
  generalize uLcX (uVar 5) (gT2 7 8) uYes w_el [7, 8] = LX at *
  generalize c.ws.map lineW = WL at *
  generalize mixL c.b = M1 at *
  generalize mixL c.e = M2 at *
  generalize nm c.n = NN at *
  walk_at "evx"
  simp only [List.append_assoc, List.cons_append, List.nil_append, List.map_append, List.map_cons, List.map_nil]
theorem len_le {p q : List Cu} {c : Cu} {n : Nat} (h : (linesA (p ++ c :: q)).length ≤ n) : (linesA p).length ≤ n := by
  rw [linesA_app, List.length_append] at h
  omega
theorem linesA_snoc (p : List Cu) (c : Cu) : linesA (p ++ [c]) = linesA p ++ linesC c := by
  rw [linesA_app]
  simp [linesA]
theorem llines_val {cs : List Cu} (h : ∀ c ∈ cs, CuL c) (hl : (linesA cs).length ≤ 500) : S_law_lines [.lst (cs.map encCu)] om = .ok (.lst ((linesA cs).map tx)) om := by
  obtain ⟨ρ1, e1, y2, y3, y4, y5, y6, y7, y8, q⟩ := forXV_any (u := uVar 0) (G := gT4 2 3 4 5) (body := ll_turn) encCu (om := om) (l := cs) (ρ := [some (.val (.lst (cs.map encCu))), some (.own []), none, none, none, none, none, none, none]) rfl
    (fun p ρ => ∃ y2 y3 y4 y5 y6 y7 y8, ρ = [some (.val (.lst (cs.map encCu))), some (.own ((linesA p).map tx)), y2, y3, y4, y5, y6, y7, y8]) (fun p c q ρ e ⟨y2, y3, y4, y5, y6, y7, y8, z⟩ => by
      subst z
      have hc := h c (by rw [e]; simp)
      obtain ⟨y, t⟩ := ll_step om (some (.val (.lst (cs.map encCu)))) y6 y7 y8 hc (d := .lst (c.ws.map encW)) (.inl rfl) (linesA p) (len_le (by rw [← e]; exact hl))
      rw [linesA_snoc]
      exact ⟨_, _, rfl, t, _, _, _, _, _, _, _, rfl⟩) ⟨none, none, none, none, none, none, none, rfl⟩
  rw [q] at e1
  clear h hl q
  unfold S_law_lines
  rw [ll_top]
  generalize sForX (uVar 0) (gT4 2 3 4 5) ll_turn = FX at *
  generalize (linesA cs).map tx = L at *
  generalize cs.map encCu = X at *
  walk_at "evx"
theorem llines_loc {zs : List (Cu × Nat)} {K : Nat} (hK : om[K]? = some (.lst (zs.map encK))) (hz : ∀ z ∈ zs, om[z.2]? = some (.lst (z.1.ws.map encW))) (h : ∀ z ∈ zs, CuL z.1) (hl : (linesA (zs.map (·.1))).length ≤ 500) : S_law_lines [.loc K] om = .ok (.lst ((linesA (zs.map (·.1))).map tx)) om := by
  obtain ⟨ρ1, e1, y2, y3, y4, y5, y6, y7, y8, q⟩ := forXL_any (u := uVar 0) (G := gT4 2 3 4 5) (body := ll_turn) encK (om := om) (k := K) (l := zs) (ρ := [some (.val (.loc K)), some (.own []), none, none, none, none, none, none, none]) rfl hK
    (fun p ρ => ∃ y2 y3 y4 y5 y6 y7 y8, ρ = [some (.val (.loc K)), some (.own ((linesA (p.map (·.1))).map tx)), y2, y3, y4, y5, y6, y7, y8]) (fun p c q ρ e ⟨y2, y3, y4, y5, y6, y7, y8, z⟩ => by
      subst z
      have hc := h c (by rw [e]; simp)
      have kc := hz c (by rw [e]; simp)
      obtain ⟨y, t⟩ := ll_step om (some (.val (.loc K))) y6 y7 y8 hc (d := .loc c.2) (.inr ⟨c.2, rfl, kc⟩) (linesA (p.map (·.1))) (len_le (c := c.1) (q := q.map (·.1)) (by rw [e] at hl; simpa using hl))
      have sn : linesA ((p ++ [c]).map (·.1)) = linesA (p.map (·.1)) ++ linesC c.1 := by rw [List.map_append]; exact linesA_snoc _ _
      rw [sn]
      exact ⟨_, _, rfl, t, _, _, _, _, _, _, _, rfl⟩) ⟨none, none, none, none, none, none, none, rfl⟩
  rw [q] at e1
  clear h hl q hz hK
  unfold S_law_lines
  rw [ll_top]
  generalize sForX (uVar 0) (gT4 2 3 4 5) ll_turn = FX at *
  generalize (linesA (zs.map (·.1))).map tx = L at *
  walk_at "evx"
end
/-! ### the law's good -/
theorem goC_none {tt : UT} {te : UE} {i : Nat} {ω : Om} {ρ : Rho} : ∀ (ds acc : List D), (∀ d ∈ ds, tt ((ρ.set i none).set i (some (.val d))) ω = .ok false ((ρ.set i none).set i (some (.val d))) ω) → goC (gN i) tt te [i] ds acc (ρ.set i none) ω = .ok acc (ρ.set i none) ω
  | [], acc, _ => by unfold goC; rfl
  | d :: ds, acc, h => by
    unfold goC
    simp only [gN]
    rw [h d (by simp)]
    have e : clrs ((ρ.set i none).set i (some (.val d))) [i] = ρ.set i none := by
      show ((ρ.set i none).set i (some (.val d))).set i none = _
      rw [List.set_set, List.set_set]
    simp only [Bool.false_eq_true, if_false]
    rw [e]
    exact goC_none ds acc fun x hx => h x (by simp [hx])
section
variable {om : Om}
theorem gw_step (v0 v1 y4 y5 y6 : Option Sl) {c : Cu} (hc : CuG c) (k : Nat) {p q : List (List Nat × Fr)} {x : List Nat × Fr} (e : c.ws = p ++ x :: q) (ha : Fg (lastAt c.b p)) :
    gw_turn [v0, v1, some (.val (encK (c, k))), some (.val (encF (lastAt c.b p))), some (.val (tx x.1)), some (.val (encF x.2)), y6] om = .nx [v0, v1, some (.val (encK (c, k))), some (.val (encF x.2)), some (.val (tx x.1)), some (.val (encF x.2)), none] om := by
  obtain ⟨g1, g2, g3, g4⟩ := hc.ws p x q e
  have w := wd_of g1
  have e1 := llow_eq om g2.bd ha.bd (by decide)
  rw [g3] at e1
  have e2 := llow_eq om g2.bd hc.e.bd (by decide)
  rw [g4] at e2
  have f1 := fLen_tx (l := x.1) (by have := w.m; omega)
  have d1 : decide ((0 : Int) < (x.1.length : Int)) = true := decide_eq_true (by have := w.l; omega)
  have d2 : decide ((x.1.length : Int) ≤ 20) = true := decide_eq_true (by have := w.m; omega)
  have i1 : dIsi "str" (tx x.1) = some (.bl true) := isi_of rfl (kb "str" "str" true)
  have sg := fSigns_tx x.1
  have gn := goC_none (te := uVar 6) (i := 6) (ω := om) (ρ := [v0, v1, some (.val (encK (c, k))), some (.val (encF (lastAt c.b p))), some (.val (tx x.1)), some (.val (encF x.2)), y6]) (tt := n_tt) (x.1.map fun c => tx [c]) [] (fun d hd => by
    obtain ⟨s, hs, rfl⟩ := List.mem_map.mp hd
    have dn := dNotIn_let s
    have ls : letB s = true := by have := w.a s hs; unfold letB; simp; omega
    rw [ls] at dn
    simp only [List.set_cons_succ, List.set_cons_zero]
    clear g1 g2 g3 g4 w e1 e2 f1 d1 d2 i1 sg ls hd hs e ha hc
    unfold n_tt
    generalize encF (lastAt c.b p) = A
    walk_at "evx")
  have nl : dNe (.lst []) (.lst []) = some (.bl false) := rfl
  clear g1 g2 g3 g4 w hc ha e
  obtain ⟨x1, x2⟩ := x
  dsimp only at *
  unfold gw_turn
  generalize n_tt = NT at *
  generalize S_law_low = F1 at *
  generalize lastAt c.b p = LA at *
  generalize x1.map (fun c => tx [c]) = SG at *
  generalize (x1.length : Int) = XL at *
  unfold uLc
  simp only [clrs, List.set_cons_succ, List.set_cons_zero] at *
  walk_at "evx"
end
end Dv

namespace Dv
open PySem PySem.Spec PyProof.Rows L2
local macro_rules | `(tactic| walk_at "ev") => `(tactic| try simp (disch := omega) only [sSeq_eq, seq_nx, seq_rt, seq_rto, seq_xc, seq_bk, seq_ct, seq_ite, sAsg, sAsgO, sExpr, sRet, sRetO, sRetN, sIf, sNext, uVar, uC, uUn, uBin, uB, uNot, uAnd, uOr, uTV, uAndV, uOrV, uNotV, uIf, uChain, uNil, uCons, uTup, uLst, uLstO, uFn, uFnO, uFz, uMv, uNew, uCall, uCallO, uCallN, uBinV, uBinW, uBinL, uMeO, uMeL, uFnV, sSetL, sAsgG, gN, gT2, gT3, gT4, iLst, iFn,   bind_ok, bind_xc, of_ok, of_xc, res_ok, res_xc, res0_ok, own_ok, own_xc, fr_nx, fr_rt, fr_rto, fr_xc, fo_rto, fo_xc, liftO_some, dBool_bl, items_lst, items_frz, ent, defU, defO, List.map_cons, List.map_nil, List.length_cons, List.length_nil, List.cons_append, List.nil_append, List.append_nil, List.replicate, List.getElem?_cons_zero, List.getElem?_cons_succ, List.set_cons_zero, List.set_cons_succ, Nat.zero_add, Nat.reduceAdd, Nat.reduceSub, Nat.reduceLeDiff,   le_big, lt_big, atN_zero, atN_one, atN_two, atN_three, setN_zero, setN_one, popAt_zero, len_zero, len_succ, dMul_r, dMul_l, dDiv_pos, dMod_pos, dAdd_int, dSub_int, dNeg_int, dLt_int, dLe_int, dGt_int, dGe_int, dEq_int, dNe_int, dEq_bl, dNe_bl, dEq_nil, dNe_nil, dIx_lst, dIx_tup, fAbs_int, fInt_bl, fInt_int, fLen_lst, fLen_frz, fLen_tup, ite_true, ite_false, if_true, if_false, Bool.not_true, Bool.not_false, decide_true, decide_false, Bool.true_eq_false, Bool.false_eq_true, reduceIte, reduceCtorEq, turn_nx, turn_ct, turn_bk, turn_rt, turn_rto, turn_xc, sFor_eq, goL_nil, eq_self])
local macro_rules | `(tactic| walk_at "evs") => `(tactic| try simp (disch := omega) only [sSeq_eq, seq_nx, seq_rt, seq_rto, seq_xc, seq_bk, seq_ct, seq_ite, sAsg, sAsgO, sExpr, sRet, sRetO, sRetN, sIf, sNext, uVar, uC, uUn, uBin, uB, uNot, uAnd, uOr, uTV, uAndV, uOrV, uNotV, uIf, uChain, uNil, uCons, uTup, uLst, uLstO, uFn, uFnO, uFz, uMv, uNew, uCall, uCallO, uCallN, uBinV, uBinW, uBinL, uMeO, uMeL, uFnV, sSetL, sAsgG, gN, gT2, gT3, gT4, iLst, iFn,   bind_ok, bind_xc, of_ok, of_xc, res_ok, res_xc, res0_ok, own_ok, own_xc, fr_nx, fr_rt, fr_rto, fr_xc, fo_rto, fo_xc, liftO_some, dBool_bl, items_lst, items_frz, ent, defU, defO, List.map_cons, List.map_nil, List.length_cons, List.length_nil, List.cons_append, List.nil_append, List.append_nil, List.replicate, List.getElem?_cons_zero, List.getElem?_cons_succ, List.set_cons_zero, List.set_cons_succ, Nat.zero_add, Nat.reduceAdd, Nat.reduceSub, Nat.reduceLeDiff,   le_big, lt_big, atN_zero, atN_one, atN_two, atN_three, setN_zero, setN_one, popAt_zero, len_zero, len_succ, dMul_r, dMul_l, dDiv_pos, dMod_pos, dAdd_int, dSub_int, dNeg_int, dLt_int, dLe_int, dGt_int, dGe_int, dEq_int, dNe_int, dEq_bl, dNe_bl, dEq_nil, dNe_nil, dIx_lst, dIx_tup, fAbs_int, fInt_bl, fInt_int, fLen_lst, fLen_frz, fLen_tup, ite_true, ite_false, if_true, if_false, Bool.not_true, Bool.not_false, decide_true, decide_false, Bool.true_eq_false, Bool.false_eq_true, reduceIte, reduceCtorEq, turn_nx, turn_ct, turn_bk, turn_rt, turn_rto, turn_xc, sFor_eq, goL_nil, eq_self, *])
local macro_rules | `(tactic| walk_at "evt") => `(tactic| try simp (disch := first | omega | (simp only [List.length_append, List.length_cons, List.length_nil, List.length_map]; omega)) only [sSeq_eq, seq_nx, seq_rt, seq_rto, seq_xc, seq_bk, seq_ct, seq_ite, sAsg, sAsgO, sExpr, sRet, sRetO, sRetN, sIf, sNext, uVar, uC, uUn, uBin, uB, uNot, uAnd, uOr, uTV, uAndV, uOrV, uNotV, uIf, uChain, uNil, uCons, uTup, uLst, uLstO, uFn, uFnO, uFz, uMv, uNew, uCall, uCallO, uCallN, uBinV, uBinW, uBinL, uMeO, uMeL, uFnV, sSetL, sAsgG, gN, gT2, gT3, gT4, iLst, iFn,   bind_ok, bind_xc, of_ok, of_xc, res_ok, res_xc, res0_ok, own_ok, own_xc, fr_nx, fr_rt, fr_rto, fr_xc, fo_rto, fo_xc, liftO_some, dBool_bl, items_lst, items_frz, ent, defU, defO, List.map_cons, List.map_nil, List.length_cons, List.length_nil, List.cons_append, List.nil_append, List.append_nil, List.replicate, List.getElem?_cons_zero, List.getElem?_cons_succ, List.set_cons_zero, List.set_cons_succ, Nat.zero_add, Nat.reduceAdd, Nat.reduceSub, Nat.reduceLeDiff,   le_big, lt_big, atN_zero, atN_one, atN_two, atN_three, setN_zero, setN_one, popAt_zero, len_zero, len_succ, dMul_r, dMul_l, dDiv_pos, dMod_pos, dAdd_int, dSub_int, dNeg_int, dLt_int, dLe_int, dGt_int, dGe_int, dEq_int, dNe_int, dEq_bl, dNe_bl, dEq_nil, dNe_nil, dIx_lst, dIx_tup, fAbs_int, fInt_bl, fInt_int, fLen_lst, fLen_frz, fLen_tup, ite_true, ite_false, if_true, if_false, Bool.not_true, Bool.not_false, decide_true, decide_false, Bool.true_eq_false, Bool.false_eq_true, reduceIte, reduceCtorEq, turn_nx, turn_ct, turn_bk, turn_rt, turn_rto, turn_xc, sFor_eq, goL_nil, eq_self, sRaise, gT2, gT3, gT4, sAsgG, uM1, uOrS, uSlS, uSlW, uCatV, uPart, uNoPart, iStrU, k_colon, k_blank, k_line, k_f, k_s, k_0, k_empty, k_digits, k_abc, k_alpha, k_cue, k_from, k_to, k_at, k_two, k_fto, k_nl, k_a1, dAdd_tx, fLen_tx, fStr_nat, dEq_tx, dNe_tx, dEq_txn, dNe_txn, len_tx, cutS_l1, cutS_b1, cutS_ln, cutS_bn, dIx_tx0, *])
local macro_rules | `(tactic| walk_at "evx") => `(tactic| try simp (disch := first | omega | (simp only [List.length_append, List.length_cons, List.length_nil, List.length_map]; omega)) only [sSeq_eq, seq_nx, seq_rt, seq_rto, seq_xc, seq_bk, seq_ct, seq_ite, sAsg, sAsgO, sExpr, sRet, sRetO, sRetN, sIf, sNext, uVar, uC, uUn, uBin, uB, uNot, uAnd, uOr, uTV, uAndV, uOrV, uNotV, uIf, uChain, uNil, uCons, uTup, uLst, uLstO, uFn, uFnO, uFz, uMv, uNew, uCall, uCallO, uCallN, uBinV, uBinW, uBinL, uMeO, uMeL, uFnV, sSetL, sAsgG, gN, gT2, gT3, gT4, iLst, iFn,   bind_ok, bind_xc, of_ok, of_xc, res_ok, res_xc, res0_ok, own_ok, own_xc, fr_nx, fr_rt, fr_rto, fr_xc, fo_rto, fo_xc, liftO_some, dBool_bl, items_lst, items_frz, ent, defU, defO, List.map_cons, List.map_nil, List.length_cons, List.length_nil, List.cons_append, List.nil_append, List.append_nil, List.replicate, List.getElem?_cons_zero, List.getElem?_cons_succ, List.set_cons_zero, List.set_cons_succ, Nat.zero_add, Nat.reduceAdd, Nat.reduceSub, Nat.reduceLeDiff,   le_big, lt_big, atN_zero, atN_one, atN_two, atN_three, setN_zero, setN_one, popAt_zero, len_zero, len_succ, dMul_r, dMul_l, dDiv_pos, dMod_pos, dAdd_int, dSub_int, dNeg_int, dLt_int, dLe_int, dGt_int, dGe_int, dEq_int, dNe_int, dEq_bl, dNe_bl, dEq_nil, dNe_nil, dIx_lst, dIx_tup, fAbs_int, fInt_bl, fInt_int, fLen_lst, fLen_frz, fLen_tup, ite_true, ite_false, if_true, if_false, Bool.not_true, Bool.not_false, decide_true, decide_false, Bool.true_eq_false, Bool.false_eq_true, reduceIte, reduceCtorEq, turn_nx, turn_ct, turn_bk, turn_rt, turn_rto, turn_xc, sFor_eq, goL_nil, eq_self, sRaise, gT2, gT3, gT4, sAsgG, see_bl, see_int, see_non, see_tup, see_lst, see_str, uBinX, uUnX, uFnX, uFld, sFldU, uMeth, uMethO, uMake, uCatX, uRev, uMethN, uFrzI, uSlV, uM1, uOrS, uSlS, uSlW, uCatV, uPart, uNoPart, iStrU, k_colon, k_blank, k_line, k_f, k_s, k_0, k_empty, k_digits, k_abc, k_alpha, k_cue, k_from, k_to, k_at, k_two, k_fto, k_nl, k_a1, dAdd_tx, fLen_tx, fStr_nat, dEq_tx, dNe_tx, dEq_txn, dNe_txn, len_tx, cutS_l1, cutS_b1, cutS_ln, cutS_bn, dIx_tx0, *])
section
variable {om : Om}
theorem last_fg {c : Cu} (hc : CuG c) {p q : List (List Nat × Fr)} (e : c.ws = p ++ q) : Fg (lastAt c.b p) := by
  rcases snoc_or p with rfl | ⟨p0, v, rfl⟩
  · exact hc.b
  · unfold lastAt
    rw [last_snoc]
    exact (hc.ws p0 v q (by rw [e]; simp)).2.1
theorem gd_words (v0 v1 y4 y5 y6 : Option Sl) {c : Cu} (hc : CuG c) {k : Nat} (hk : om[k]? = some (.lst (c.ws.map encW))) : ∃ y3 z4 z5 z6, gd_4 [v0, v1, some (.val (encK (c, k))), some (.val (encF c.b)), y4, y5, y6] om = .nx [v0, v1, some (.val (encK (c, k))), y3, z4, z5, z6] om := by
  obtain ⟨ρ1, e1, y3, z4, z5, z6, q⟩ := forXL_any (u := uBinX dIx (uVar 2) (uC (.int 3))) (G := gT2 4 5) (body := gw_turn) encW (om := om) (k := k) (l := c.ws) (ρ := [v0, v1, some (.val (encK (c, k))), some (.val (encF c.b)), y4, y5, y6]) (by
      generalize encF c.b = B
      generalize encF c.e = E
      walk_at "evx") hk
    (fun p ρ => ∃ y3 z4 z5 z6, ρ = [v0, v1, some (.val (encK (c, k))), y3, z4, z5, z6] ∧ y3 = some (.val (encF (lastAt c.b p)))) (fun p x q ρ e ⟨y3, z4, z5, z6, z, z2⟩ => by
      subst z z2
      have t := gw_step (om := om) v0 v1 z4 z5 z6 hc k e (last_fg hc e)
      refine ⟨_, _, rfl, t, _, _, _, _, rfl, ?_⟩
      unfold lastAt
      rw [last_snoc]) ⟨_, y4, y5, y6, rfl, rfl⟩
  obtain ⟨q, _⟩ := q
  subst q
  exact ⟨y3, z4, z5, z6, e1⟩
theorem gd_first (v0 y3 y4 y5 y6 : Option Sl) {c : Cu} (hc : CuG c) {k : Nat} (hk : om[k]? = some (.lst (c.ws.map encW))) {n : Int} (hn : n < c.n) :
    gd_0 [v0, some (.val (.int n)), some (.val (encK (c, k))), y3, y4, y5, y6] om = .nx [v0, some (.val (.int n)), some (.val (encK (c, k))), y3, y4, y5, y6] om ∧
    gd_1 [v0, some (.val (.int n)), some (.val (encK (c, k))), y3, y4, y5, y6] om = .nx [v0, some (.val (.int c.n)), some (.val (encK (c, k))), y3, y4, y5, y6] om ∧
    gd_2 [v0, some (.val (.int c.n)), some (.val (encK (c, k))), y3, y4, y5, y6] om = .nx [v0, some (.val (.int c.n)), some (.val (encK (c, k))), y3, y4, y5, y6] om ∧
    gd_3 [v0, some (.val (.int c.n)), some (.val (encK (c, k))), y3, y4, y5, y6] om = .nx [v0, some (.val (.int c.n)), some (.val (encK (c, k))), some (.val (encF c.b)), y4, y5, y6] om := by
  have e1 := llow_eq om hc.b.bd hc.e.bd (by decide)
  rw [hc.lt] at e1
  have s1 := see_loc om hk
  have i1 : dIsi "tuple" (encK (c, k)) = some (.bl true) := isi_of rfl (kb "tuple" "tuple" true)
  have i2 : dIsi "int" (.int c.n) = some (.bl true) := isi_of rfl (kb "int" "int" true)
  have i3 : dIsi "list" (.lst (c.ws.map encW)) = some (.bl true) := isi_of rfl (kb "list" "list" true)
  have d1 : decide (c.n ≤ n) = false := decide_eq_false (by omega)
  have nn : (!decide (((4 : Nat) : Int) = 4)) = false := rfl
  clear hk hc hn
  generalize List.map encW c.ws = X at *
  refine ⟨?_, ?_, ?_, ?_⟩
  · unfold gd_0
    clear e1
    walk_at "evx"
  · unfold gd_1
    clear e1 i1 i2 i3
    walk_at "evx"
  · unfold gd_2
    clear i1 i2
    generalize S_law_low = F1 at *
    walk_at "evx"
  · unfold gd_3
    clear e1 i1 i2 i3
    walk_at "evx"
theorem good_eq {zs : List (Cu × Nat)} {K : Nat} (hK : om[K]? = some (.lst (zs.map encK))) (hz : ∀ z ∈ zs, om[z.2]? = some (.lst (z.1.ws.map encW))) (g : CsG (zs.map (·.1))) : S_law_good [.loc K] om = .ok (.bl true) om := by
  obtain ⟨ρ1, e1, y2, y3, y4, y5, y6, q⟩ := forXL_any (u := uVar 0) (G := gN 2) (body := gd_turn) encK (om := om) (k := K) (l := zs) (ρ := [some (.val (.loc K)), some (.val (.int (-1))), none, none, none, none, none]) rfl hK
    (fun p ρ => ∃ y2 y3 y4 y5 y6, ρ = [some (.val (.loc K)), some (.val (.int (lastN (p.map (·.1))))), y2, y3, y4, y5, y6]) (fun p z q ρ e ⟨y2, y3, y4, y5, y6, w⟩ => by
      subst w
      obtain ⟨c, k⟩ := z
      have kc := hz (c, k) (by rw [e]; simp)
      have gc : CuG c := g.c c (by rw [e]; simp)
      have hn := g.r (p.map (·.1)) c (q.map (·.1)) (by rw [e]; simp)
      obtain ⟨a0, a1, a2, a3⟩ := gd_first (om := om) (some (.val (.loc K))) y3 y4 y5 y6 gc kc hn
      obtain ⟨w3, w4, w5, w6, a4⟩ := gd_words (om := om) (some (.val (.loc K))) (some (.val (.int c.n))) y4 y5 y6 gc kc
      have sn : lastN ((p ++ [(c, k)]).map (·.1)) = c.n := by rw [List.map_append]; exact lastN_snoc _ _
      rw [sn]
      refine ⟨_, _, rfl, ?_, some (.val (encK (c, k))), w3, w4, w5, w6, rfl⟩
      show gd_turn [some (.val (.loc K)), some (.val (.int (lastN (p.map (·.1))))), some (.val (encK (c, k))), y3, y4, y5, y6] om = _
      unfold gd_turn
      rw [seq_go a0, seq_go a1, seq_go a2, seq_go a3, a4]) ⟨none, none, none, none, none, rfl⟩
  rw [q] at e1
  clear g hz hK q
  unfold S_law_good
  rw [gd_top]
  generalize sForX (uVar 0) (gN 2) gd_turn = FX at *
  walk_at "evx"
end
end Dv

namespace Dv
open PySem PySem.Spec PyProof.Rows L2
local macro_rules | `(tactic| walk_at "ev") => `(tactic| try simp (disch := omega) only [sSeq_eq, seq_nx, seq_rt, seq_rto, seq_xc, seq_bk, seq_ct, seq_ite, sAsg, sAsgO, sExpr, sRet, sRetO, sRetN, sIf, sNext, uVar, uC, uUn, uBin, uB, uNot, uAnd, uOr, uTV, uAndV, uOrV, uNotV, uIf, uChain, uNil, uCons, uTup, uLst, uLstO, uFn, uFnO, uFz, uMv, uNew, uCall, uCallO, uCallN, uBinV, uBinW, uBinL, uMeO, uMeL, uFnV, sSetL, sAsgG, gN, gT2, gT3, gT4, iLst, iFn,   bind_ok, bind_xc, of_ok, of_xc, res_ok, res_xc, res0_ok, own_ok, own_xc, fr_nx, fr_rt, fr_rto, fr_xc, fo_rto, fo_xc, liftO_some, dBool_bl, items_lst, items_frz, ent, defU, defO, List.map_cons, List.map_nil, List.length_cons, List.length_nil, List.cons_append, List.nil_append, List.append_nil, List.replicate, List.getElem?_cons_zero, List.getElem?_cons_succ, List.set_cons_zero, List.set_cons_succ, Nat.zero_add, Nat.reduceAdd, Nat.reduceSub, Nat.reduceLeDiff,   le_big, lt_big, atN_zero, atN_one, atN_two, atN_three, setN_zero, setN_one, popAt_zero, len_zero, len_succ, dMul_r, dMul_l, dDiv_pos, dMod_pos, dAdd_int, dSub_int, dNeg_int, dLt_int, dLe_int, dGt_int, dGe_int, dEq_int, dNe_int, dEq_bl, dNe_bl, dEq_nil, dNe_nil, dIx_lst, dIx_tup, fAbs_int, fInt_bl, fInt_int, fLen_lst, fLen_frz, fLen_tup, ite_true, ite_false, if_true, if_false, Bool.not_true, Bool.not_false, decide_true, decide_false, Bool.true_eq_false, Bool.false_eq_true, reduceIte, reduceCtorEq, turn_nx, turn_ct, turn_bk, turn_rt, turn_rto, turn_xc, sFor_eq, goL_nil, eq_self])
local macro_rules | `(tactic| walk_at "evs") => `(tactic| try simp (disch := omega) only [sSeq_eq, seq_nx, seq_rt, seq_rto, seq_xc, seq_bk, seq_ct, seq_ite, sAsg, sAsgO, sExpr, sRet, sRetO, sRetN, sIf, sNext, uVar, uC, uUn, uBin, uB, uNot, uAnd, uOr, uTV, uAndV, uOrV, uNotV, uIf, uChain, uNil, uCons, uTup, uLst, uLstO, uFn, uFnO, uFz, uMv, uNew, uCall, uCallO, uCallN, uBinV, uBinW, uBinL, uMeO, uMeL, uFnV, sSetL, sAsgG, gN, gT2, gT3, gT4, iLst, iFn,   bind_ok, bind_xc, of_ok, of_xc, res_ok, res_xc, res0_ok, own_ok, own_xc, fr_nx, fr_rt, fr_rto, fr_xc, fo_rto, fo_xc, liftO_some, dBool_bl, items_lst, items_frz, ent, defU, defO, List.map_cons, List.map_nil, List.length_cons, List.length_nil, List.cons_append, List.nil_append, List.append_nil, List.replicate, List.getElem?_cons_zero, List.getElem?_cons_succ, List.set_cons_zero, List.set_cons_succ, Nat.zero_add, Nat.reduceAdd, Nat.reduceSub, Nat.reduceLeDiff,   le_big, lt_big, atN_zero, atN_one, atN_two, atN_three, setN_zero, setN_one, popAt_zero, len_zero, len_succ, dMul_r, dMul_l, dDiv_pos, dMod_pos, dAdd_int, dSub_int, dNeg_int, dLt_int, dLe_int, dGt_int, dGe_int, dEq_int, dNe_int, dEq_bl, dNe_bl, dEq_nil, dNe_nil, dIx_lst, dIx_tup, fAbs_int, fInt_bl, fInt_int, fLen_lst, fLen_frz, fLen_tup, ite_true, ite_false, if_true, if_false, Bool.not_true, Bool.not_false, decide_true, decide_false, Bool.true_eq_false, Bool.false_eq_true, reduceIte, reduceCtorEq, turn_nx, turn_ct, turn_bk, turn_rt, turn_rto, turn_xc, sFor_eq, goL_nil, eq_self, *])
local macro_rules | `(tactic| walk_at "evt") => `(tactic| try simp (disch := first | omega | (simp only [List.length_append, List.length_cons, List.length_nil, List.length_map]; omega)) only [sSeq_eq, seq_nx, seq_rt, seq_rto, seq_xc, seq_bk, seq_ct, seq_ite, sAsg, sAsgO, sExpr, sRet, sRetO, sRetN, sIf, sNext, uVar, uC, uUn, uBin, uB, uNot, uAnd, uOr, uTV, uAndV, uOrV, uNotV, uIf, uChain, uNil, uCons, uTup, uLst, uLstO, uFn, uFnO, uFz, uMv, uNew, uCall, uCallO, uCallN, uBinV, uBinW, uBinL, uMeO, uMeL, uFnV, sSetL, sAsgG, gN, gT2, gT3, gT4, iLst, iFn,   bind_ok, bind_xc, of_ok, of_xc, res_ok, res_xc, res0_ok, own_ok, own_xc, fr_nx, fr_rt, fr_rto, fr_xc, fo_rto, fo_xc, liftO_some, dBool_bl, items_lst, items_frz, ent, defU, defO, List.map_cons, List.map_nil, List.length_cons, List.length_nil, List.cons_append, List.nil_append, List.append_nil, List.replicate, List.getElem?_cons_zero, List.getElem?_cons_succ, List.set_cons_zero, List.set_cons_succ, Nat.zero_add, Nat.reduceAdd, Nat.reduceSub, Nat.reduceLeDiff,   le_big, lt_big, atN_zero, atN_one, atN_two, atN_three, setN_zero, setN_one, popAt_zero, len_zero, len_succ, dMul_r, dMul_l, dDiv_pos, dMod_pos, dAdd_int, dSub_int, dNeg_int, dLt_int, dLe_int, dGt_int, dGe_int, dEq_int, dNe_int, dEq_bl, dNe_bl, dEq_nil, dNe_nil, dIx_lst, dIx_tup, fAbs_int, fInt_bl, fInt_int, fLen_lst, fLen_frz, fLen_tup, ite_true, ite_false, if_true, if_false, Bool.not_true, Bool.not_false, decide_true, decide_false, Bool.true_eq_false, Bool.false_eq_true, reduceIte, reduceCtorEq, turn_nx, turn_ct, turn_bk, turn_rt, turn_rto, turn_xc, sFor_eq, goL_nil, eq_self, sRaise, gT2, gT3, gT4, sAsgG, uM1, uOrS, uSlS, uSlW, uCatV, uPart, uNoPart, iStrU, k_colon, k_blank, k_line, k_f, k_s, k_0, k_empty, k_digits, k_abc, k_alpha, k_cue, k_from, k_to, k_at, k_two, k_fto, k_nl, k_a1, dAdd_tx, fLen_tx, fStr_nat, dEq_tx, dNe_tx, dEq_txn, dNe_txn, len_tx, cutS_l1, cutS_b1, cutS_ln, cutS_bn, dIx_tx0, *])
local macro_rules | `(tactic| walk_at "evx") => `(tactic| try simp (disch := first | omega | (simp only [List.length_append, List.length_cons, List.length_nil, List.length_map]; omega)) only [sSeq_eq, seq_nx, seq_rt, seq_rto, seq_xc, seq_bk, seq_ct, seq_ite, sAsg, sAsgO, sExpr, sRet, sRetO, sRetN, sIf, sNext, uVar, uC, uUn, uBin, uB, uNot, uAnd, uOr, uTV, uAndV, uOrV, uNotV, uIf, uChain, uNil, uCons, uTup, uLst, uLstO, uFn, uFnO, uFz, uMv, uNew, uCall, uCallO, uCallN, uBinV, uBinW, uBinL, uMeO, uMeL, uFnV, sSetL, sAsgG, gN, gT2, gT3, gT4, iLst, iFn,   bind_ok, bind_xc, of_ok, of_xc, res_ok, res_xc, res0_ok, own_ok, own_xc, fr_nx, fr_rt, fr_rto, fr_xc, fo_rto, fo_xc, liftO_some, dBool_bl, items_lst, items_frz, ent, defU, defO, List.map_cons, List.map_nil, List.length_cons, List.length_nil, List.cons_append, List.nil_append, List.append_nil, List.replicate, List.getElem?_cons_zero, List.getElem?_cons_succ, List.set_cons_zero, List.set_cons_succ, Nat.zero_add, Nat.reduceAdd, Nat.reduceSub, Nat.reduceLeDiff,   le_big, lt_big, atN_zero, atN_one, atN_two, atN_three, setN_zero, setN_one, popAt_zero, len_zero, len_succ, dMul_r, dMul_l, dDiv_pos, dMod_pos, dAdd_int, dSub_int, dNeg_int, dLt_int, dLe_int, dGt_int, dGe_int, dEq_int, dNe_int, dEq_bl, dNe_bl, dEq_nil, dNe_nil, dIx_lst, dIx_tup, fAbs_int, fInt_bl, fInt_int, fLen_lst, fLen_frz, fLen_tup, ite_true, ite_false, if_true, if_false, Bool.not_true, Bool.not_false, decide_true, decide_false, Bool.true_eq_false, Bool.false_eq_true, reduceIte, reduceCtorEq, turn_nx, turn_ct, turn_bk, turn_rt, turn_rto, turn_xc, sFor_eq, goL_nil, eq_self, sRaise, gT2, gT3, gT4, sAsgG, see_bl, see_int, see_non, see_tup, see_lst, see_str, uBinX, uUnX, uFnX, uFld, sFldU, uMeth, uMethO, uMake, uCatX, uRev, uMethN, uFrzI, uSlV, uM1, uOrS, uSlS, uSlW, uCatV, uPart, uNoPart, iStrU, k_colon, k_blank, k_line, k_f, k_s, k_0, k_empty, k_digits, k_abc, k_alpha, k_cue, k_from, k_to, k_at, k_two, k_fto, k_nl, k_a1, dAdd_tx, fLen_tx, fStr_nat, dEq_tx, dNe_tx, dEq_txn, dNe_txn, len_tx, cutS_l1, cutS_b1, cutS_ln, cutS_bn, dIx_tx0, *])
def sp_turn : US := (sSeq (sAsg 3 (uCall 2 S_law_take (uCons (uVar 0) (uCons (uBin dAdd (uFn fLen (uCons (uVar 1) uNil)) (uC (.int 1))) uNil))))
    (sSeq (sAsg 4 (uBin dIx (uC (.str (Str.ofString "a0 129f/to"))) (uCall 2 S_law_take (uCons (uVar 0) (uCons (uC (.int 10)) uNil)))))
    (sSeq (sAsg 5 (uCall 2 S_law_take (uCons (uVar 0) (uCons (uC (.int 3)) uNil))))
    (sSeq (sAsg 6 (uSlS (uVar 1) (uPart (uBin dAdd (uVar 3) (uBin dIx (uLst (uCons (uC (.int 1)) (uCons (uC (.int 0)) (uCons (uC (.int 1)) uNil)))) (uVar 5)))) uNoPart))
    (sAsg 1 (uBin dAdd (uBin dAdd (uSlS (uVar 1) uNoPart (uPart (uVar 3))) (uBin dIx (uLst (uCons (uC (.str (Str.ofString ""))) (uCons (uVar 4) (uCons (uVar 4) uNil)))) (uVar 5))) (uVar 6)))))))
theorem sp_top : u_law_spoilt = (sSeq (sFor (iFn fRng1 (uCons (uBin dAdd (uC (.int 1)) (uCall 2 S_law_take (uCons (uVar 0) (uCons (uC (.int 3)) uNil)))) uNil)) (gN 2) sp_turn)
    (sRet (uVar 1))) := rfl
def o_tt : UT := (uB (uBin dEq (uSlS (uBin dIx (uVar 2) (uVar 9)) uNoPart (uPart (uC (.int 3)))) (uC (.str (Str.ofString "cue")))))
def o_0 : US := (sAsg 3 (uFz (uLc (iFn fRng1 (uCons (uFn fLen (uCons (uVar 2) uNil)) uNil)) (gN 9) o_tt (uVar 9) [9])))
def o_1 : US := (sIf (uB (uBin dEq (uVar 3) (uLst uNil))) (sRet (uTup (uCons (uVar 2) (uCons (uUn dNeg (uC (.int 1))) uNil)))) sNext)
def o_2 : US := (sAsg 4 (uCall 2 S_law_take (uCons (uVar 0) (uCons (uFn fLen (uCons (uVar 3) uNil)) uNil))))
def o_3 : US := (sAsg 5 (uBin dIx (uVar 3) (uVar 4)))
def o_4 : US := (sAsg 6 (uCall 2 S_law_take (uCons (uVar 0) (uCons (uC (.int 3)) uNil))))
def o_5 : US := (sIf (uB (uBin dEq (uVar 6) (uC (.int 0)))) (sSeq (sAsg 7 (uBin dAdd (uBin dAdd (uVar 5) (uC (.int 1))) (uCall 2 S_law_take (uCons (uVar 0) (uCons (uBin dSub (uFn fLen (uCons (uVar 2) uNil)) (uVar 5)) uNil)))))
    (sRet (uTup (uCons (uBin dAdd (uBin dAdd (uFz (uSlW (uVar 2) uNoPart (uPart (uVar 7)))) (uLst (uCons (uBin dIx (uVar 2) (uVar 5)) uNil))) (uFz (uSlW (uVar 2) (uPart (uVar 7)) uNoPart))) (uCons (uVar 7) uNil))))) sNext)
def o_6 : US := (sIf (uB (uBin dEq (uVar 6) (uC (.int 1)))) (sSeq (sAsg 8 (uBin dAdd (uBin dAdd (uC (.str (Str.ofString "  a at "))) (uCall 1 S_law_mixed (uCons (uBin dIx (uBin dIx (uVar 1) (uVar 4)) (uC (.int 2))) uNil))) (uC (.str (Str.ofString "f")))))
    (sRet (uTup (uCons (uBin dAdd (uBin dAdd (uFz (uSlW (uVar 2) uNoPart (uPart (uBin dAdd (uVar 5) (uC (.int 1)))))) (uLst (uCons (uVar 8) uNil))) (uFz (uSlW (uVar 2) (uPart (uBin dAdd (uVar 5) (uC (.int 1)))) uNoPart))) (uCons (uBin dAdd (uVar 5) (uC (.int 1))) uNil))))) sNext)
def o_7 : US := (sAsg 7 (uBin dIx (uLst (uCons (uC (.int 0)) (uCons (uBin dAdd (uVar 5) (uC (.int 1))) uNil))) (uFn fInt (uCons (uBin dNe (uBin dIx (uBin dIx (uVar 1) (uVar 4)) (uC (.int 1))) (uTup (uCons (uC (.int 0)) (uCons (uC (.int 1)) uNil)))) uNil))))
def o_8 : US := (sRet (uTup (uCons (uBin dAdd (uBin dAdd (uFz (uSlW (uVar 2) uNoPart (uPart (uVar 7)))) (uLst (uCons (uC (.str (Str.ofString "  a at 0f"))) uNil))) (uFz (uSlW (uVar 2) (uPart (uVar 7)) uNoPart))) (uCons (uVar 7) uNil))))
theorem o_top : u_law_odd = (sSeq o_0 (sSeq o_1 (sSeq o_2 (sSeq o_3 (sSeq o_4 (sSeq o_5 (sSeq o_6 (sSeq o_7 o_8)))))))) := rfl
theorem kn_0 : D.str (Str.ofString "") = tx [] := tx_of _ _ (by decide)
theorem kn_1 : D.str (Str.ofString " ") = tx [32] := tx_of _ _ (by decide)
theorem kn_2 : D.str (Str.ofString "cue") = tx [99, 117, 101] := tx_of _ _ (by decide)
theorem kn_3 : D.str (Str.ofString "cue 1") = tx [99, 117, 101, 32, 49] := tx_of _ _ (by decide)
theorem kn_4 : D.str (Str.ofString "cue 1 from 2f") = tx [99, 117, 101, 32, 49, 32, 102, 114, 111, 109, 32, 50, 102] := tx_of _ _ (by decide)
theorem kn_5 : D.str (Str.ofString "cue 1 from 2f to") = tx [99, 117, 101, 32, 49, 32, 102, 114, 111, 109, 32, 50, 102, 32, 116, 111] := tx_of _ _ (by decide)
theorem kn_6 : D.str (Str.ofString "cue 1 from 2f to 2f") = tx [99, 117, 101, 32, 49, 32, 102, 114, 111, 109, 32, 50, 102, 32, 116, 111, 32, 50, 102] := tx_of _ _ (by decide)
theorem kn_7 : D.str (Str.ofString "cue 1 from 3f to 2f") = tx [99, 117, 101, 32, 49, 32, 102, 114, 111, 109, 32, 51, 102, 32, 116, 111, 32, 50, 102] := tx_of _ _ (by decide)
theorem kn_8 : D.str (Str.ofString "cue x from 1f to 2f") = tx [99, 117, 101, 32, 120, 32, 102, 114, 111, 109, 32, 49, 102, 32, 116, 111, 32, 50, 102] := tx_of _ _ (by decide)
theorem kn_9 : D.str (Str.ofString "cue 01 from 1f to 2f") = tx [99, 117, 101, 32, 48, 49, 32, 102, 114, 111, 109, 32, 49, 102, 32, 116, 111, 32, 50, 102] := tx_of _ _ (by decide)
theorem kn_10 : D.str (Str.ofString "cue -1 from 1f to 2f") = tx [99, 117, 101, 32, 45, 49, 32, 102, 114, 111, 109, 32, 49, 102, 32, 116, 111, 32, 50, 102] := tx_of _ _ (by decide)
theorem kn_11 : D.str (Str.ofString "cue 1 from 1s to 2f") = tx [99, 117, 101, 32, 49, 32, 102, 114, 111, 109, 32, 49, 115, 32, 116, 111, 32, 50, 102] := tx_of _ _ (by decide)
theorem kn_12 : D.str (Str.ofString "cue 1 from 1 to 2f") = tx [99, 117, 101, 32, 49, 32, 102, 114, 111, 109, 32, 49, 32, 116, 111, 32, 50, 102] := tx_of _ _ (by decide)
theorem kn_13 : D.str (Str.ofString "cue 1 from 1f to 2f ") = tx [99, 117, 101, 32, 49, 32, 102, 114, 111, 109, 32, 49, 102, 32, 116, 111, 32, 50, 102, 32] := tx_of _ _ (by decide)
theorem kn_14 : D.str (Str.ofString "Cue 1 from 1f to 2f") = tx [67, 117, 101, 32, 49, 32, 102, 114, 111, 109, 32, 49, 102, 32, 116, 111, 32, 50, 102] := tx_of _ _ (by decide)
theorem kn_15 : D.str (Str.ofString " cue 1 from 1f to 2f") = tx [32, 99, 117, 101, 32, 49, 32, 102, 114, 111, 109, 32, 49, 102, 32, 116, 111, 32, 50, 102] := tx_of _ _ (by decide)
theorem kn_16 : D.str (Str.ofString "  a") = tx [32, 32, 97] := tx_of _ _ (by decide)
theorem kn_17 : D.str (Str.ofString "  a at 1") = tx [32, 32, 97, 32, 97, 116, 32, 49] := tx_of _ _ (by decide)
theorem kn_18 : D.str (Str.ofString "  at 1f") = tx [32, 32, 97, 116, 32, 49, 102] := tx_of _ _ (by decide)
theorem kn_19 : D.str (Str.ofString "  A at 1f") = tx [32, 32, 65, 32, 97, 116, 32, 49, 102] := tx_of _ _ (by decide)
theorem kn_20 : D.str (Str.ofString "  a at 1 2/4f") = tx [32, 32, 97, 32, 97, 116, 32, 49, 32, 50, 47, 52, 102] := tx_of _ _ (by decide)
theorem kn_21 : D.str (Str.ofString "   a at 1f") = tx [32, 32, 32, 97, 32, 97, 116, 32, 49, 102] := tx_of _ _ (by decide)
theorem kn_22 : D.str (Str.ofString "  a at  1f") = tx [32, 32, 97, 32, 97, 116, 32, 32, 49, 102] := tx_of _ _ (by decide)
theorem kn_23 : D.str (Str.ofString "  a b at 1f") = tx [32, 32, 97, 32, 98, 32, 97, 116, 32, 49, 102] := tx_of _ _ (by decide)
theorem kn_24 : D.str (Str.ofString "cue 1234567890 from 1f to 2f") = tx [99, 117, 101, 32, 49, 50, 51, 52, 53, 54, 55, 56, 57, 48, 32, 102, 114, 111, 109, 32, 49, 102, 32, 116, 111, 32, 50, 102] := tx_of _ _ (by decide)
theorem k_cue3 : D.str (Str.ofString "cue") = tx [99, 117, 101] := tx_of _ _ (by decide)
theorem k_sgn : D.str (Str.ofString "a0 129f/to") = tx [97, 48, 32, 49, 50, 57, 102, 47, 116, 111] := tx_of _ _ (by decide)
theorem k_aat : D.str (Str.ofString "  a at ") = tx [32, 32, 97, 32, 97, 116, 32] := tx_of _ _ (by decide)
theorem k_a0 : D.str (Str.ofString "  a at 0f") = tx zeroL := tx_of _ _ (by decide)
theorem cut_lo (A B : List D) {k : Nat} (hk : A.length = k) : cutD (A ++ B) none (some (k : Int)) = A := by
  have e : ¬ ((k : Int) < 0) := by omega
  unfold cutD HT.sIx
  simp only [List.length_append]
  rw [if_neg e]
  simp
  have : min k (A.length + B.length) = A.length := by omega
  rw [this]
  simp
theorem cut_hi (A B : List D) {k : Nat} (hk : A.length = k) : cutD (A ++ B) (some (k : Int)) none = B := by
  have e : ¬ ((k : Int) < 0) := by omega
  unfold cutD HT.sIx
  simp only [List.length_append]
  rw [if_neg e]
  simp
  have : min k (A.length + B.length) = A.length := by omega
  rw [this]
  simp
theorem cutD_lo (L : List (List Nat)) {k : Nat} (hk : k ≤ L.length) : cutD (L.map tx) none (some (k : Int)) = (L.take k).map tx := by
  have := cut_lo ((L.take k).map tx) ((L.drop k).map tx) (k := k) (by rw [List.length_map, List.length_take]; omega)
  rw [← List.map_append, List.take_append_drop] at this
  exact this
theorem cutD_hi (L : List (List Nat)) {k : Nat} (hk : k ≤ L.length) : cutD (L.map tx) (some (k : Int)) none = (L.drop k).map tx := by
  have := cut_hi ((L.take k).map tx) ((L.drop k).map tx) (k := k) (by rw [List.length_map, List.length_take]; omega)
  rw [← List.map_append, List.take_append_drop] at this
  exact this
theorem dAdd_L (A B : List (List Nat)) (h : A.length + B.length ≤ 1000) : dAdd (.lst (A.map tx)) (.lst (B.map tx)) = some (.lst ((A ++ B).map tx)) := by
  unfold dAdd
  dsimp only
  rw [if_pos (Nat.le_trans (m := 1000) (by simp; omega) (by decide)), List.map_append]
/-- L with l at k, what stood from k2 on behind it -/
@[reducible] def putL (L : List (List Nat)) (k k2 : Nat) (l : List Nat) : List (List Nat) := L.take k ++ [l] ++ L.drop k2
structure PutF (L : List (List Nat)) (k k2 : Nat) (l : List Nat) : Prop where
  c1 : cutD (L.map tx) none (some (k : Int)) = (L.take k).map tx
  c2 : cutD (L.map tx) (some (k2 : Int)) none = (L.drop k2).map tx
  a1 : dAdd (.lst ((L.take k).map tx)) (.lst [tx l]) = some (.lst ((L.take k ++ [l]).map tx))
  a2 : dAdd (.lst ((L.take k ++ [l]).map tx)) (.lst ((L.drop k2).map tx)) = some (.lst ((putL L k k2 l).map tx))
theorem put_f {L : List (List Nat)} (hL : L.length ≤ 400) {k k2 : Nat} (h1 : k ≤ L.length) (h2 : k2 ≤ L.length) (l : List Nat) : PutF L k k2 l :=
  ⟨cutD_lo L h1, cutD_hi L h2, dAdd_L _ [l] (by rw [List.length_take]; simp; omega), dAdd_L _ _ (by rw [List.length_append, List.length_take, List.length_drop]; simp; omega)⟩
theorem lo_put {L : List (List Nat)} (hn : L.length ≤ 119) (hl : ∀ l ∈ L, l.length ≤ 400 ∧ 10 ∉ l) {k k2 : Nat} (hk : k ≤ k2) {l : List Nat} (h : l.length ≤ 400 ∧ 10 ∉ l) : Lo (putL L k k2 l) := by
  refine ⟨?_, fun x hx => ?_⟩
  · unfold putL
    rw [List.length_append, List.length_append, List.length_take, List.length_drop]
    simp
    omega
  · unfold putL at hx
    rcases List.mem_append.mp hx with q | q
    · rcases List.mem_append.mp q with q | q
      · exact hl x (List.mem_of_mem_take q)
      · rw [List.mem_singleton] at q
        subst q
        exact h
    · exact hl x (List.mem_of_mem_drop q)
section
variable (rest : Om)
theorem none_eq (b : Box) : ∃ l ∈ nonesL, S_law_none [.loc 1] (bom b rest) = .ok (tx l) (bom (tkn 25 b) rest) := by
  have e1 := take_eq (m := 25) b rest (by decide) (by decide)
  have a0 := tkv_nn (m := 25) b (by decide)
  have a1 := tkv_lt (m := 25) b (by decide)
  obtain ⟨k, hk⟩ : ∃ k : Nat, tkv 25 b = (k : Int) := ⟨(tkv 25 b).toNat, by omega⟩
  have hl : k < nonesL.length := by
    have : nonesL.length = 25 := rfl
    omega
  refine ⟨nonesL[k], List.getElem_mem hl, ?_⟩
  have at1 : atN (nonesL.map tx) (tkv 25 b) = some (tx nonesL[k]) := by
    rw [hk]
    exact atN_nat (by rw [List.getElem?_map, List.getElem?_eq_getElem hl]; rfl)
  clear a0 a1 hk
  generalize nonesL[k] = R at *
  clear hl
  generalize tkv 25 b = V at *
  simp only [nonesL, List.map_cons, List.map_nil] at at1
  have ap := app_D tx (d := nonesL.dropLast) (nonesL.getLast (by decide)) (by decide)
  simp only [nonesL, List.dropLast, List.getLast, List.map_cons, List.map_nil, List.cons_append, List.nil_append] at ap
  have h0 := kn_0
  have h1 := kn_1
  have h2 := kn_2
  have h3 := kn_3
  have h4 := kn_4
  have h5 := kn_5
  have h6 := kn_6
  have h7 := kn_7
  have h8 := kn_8
  have h9 := kn_9
  have h10 := kn_10
  have h11 := kn_11
  have h12 := kn_12
  have h13 := kn_13
  have h14 := kn_14
  have h15 := kn_15
  have h16 := kn_16
  have h17 := kn_17
  have h18 := kn_18
  have h19 := kn_19
  have h20 := kn_20
  have h21 := kn_21
  have h22 := kn_22
  have h23 := kn_23
  have h24 := kn_24
  unfold S_law_none u_law_none
  walk_at "evx"
theorem sp_step (x2 x3 x4 x5 x6 : Option Sl) (l : List Nat) (hl : l.length ≤ 400) (hn : 10 ∉ l) (b : Box) : ∃ (l' : List Nat) (b' : Box) (y3 y4 y5 y6 : Option Sl),
    sp_turn [some (.val (.loc 1)), some (.val (tx l)), x2, x3, x4, x5, x6] (bom b rest) = .nx [some (.val (.loc 1)), some (.val (tx l')), x2, y3, y4, y5, y6] (bom b' rest) ∧ l'.length ≤ l.length + 1 ∧ 10 ∉ l' := by
  have e0 := fLen_tx (l := l) (by omega)
  have e1 := take_eq (m := (l.length : Int) + 1) b rest (by omega) (by omega)
  have a0 := tkv_nn (m := (l.length : Int) + 1) b (by omega)
  have a1 := tkv_lt (m := (l.length : Int) + 1) b (by omega)
  generalize tkv ((l.length : Int) + 1) b = at_ at *
  generalize tkn ((l.length : Int) + 1) b = b1 at *
  have e2 := take_eq (m := 10) b1 rest (by decide) (by decide)
  obtain ⟨c, hc10, e3⟩ := dIx_let (l := [97, 48, 32, 49, 50, 57, 102, 47, 116, 111]) (tkv_nn (m := 10) b1 (by decide)) (tkv_lt (m := 10) b1 (by decide)) (by decide)
  have n10 : ∀ c ∈ [97, 48, 32, 49, 50, 57, 102, 47, 116, 111], c ≠ 10 := by decide
  have c10 := n10 c hc10
  clear n10 hc10
  rw [← k_sgn] at e3
  generalize tkv 10 b1 = sg at *
  generalize tkn 10 b1 = b2 at *
  have e4 := take_eq (m := 3) b2 rest (by decide) (by decide)
  have c0 := tkv_nn (m := 3) b2 (by decide)
  have c1 := tkv_lt (m := 3) b2 (by decide)
  generalize tkv 3 b2 = ct at *
  generalize tkn 3 b2 = b3 at *
  obtain ⟨k, rfl⟩ : ∃ k : Nat, at_ = (k : Int) := ⟨at_.toNat, by omega⟩
  have s1 := cutS_take l k
  have s2 := cutS_drop l k
  have s3 := cutS_drop l (k + 1)
  have n3 : ((k + 1 : Nat) : Int) = (k : Int) + 1 := by omega
  rw [n3] at s3
  have z0 : (k : Int) + 0 = (k : Int) := by omega
  have ll : l.length ≤ 100000 := by omega
  have hc : ct = 0 ∨ ct = 1 ∨ ct = 2 := by omega
  have lt := List.length_take_le k l
  have lt2 : (l.take k).length ≤ l.length := List.length_take_le' k l
  have ld : (l.drop k).length = l.length - k := List.length_drop
  have ld1 : (l.drop (k + 1)).length = l.length - (k + 1) := List.length_drop
  have key : ∀ (mid tl : List Nat) (j : Int), mid.length ≤ 1 → 10 ∉ mid → tl.length ≤ l.length - k → (∀ x ∈ tl, x ∈ l) → cutS ⟨l.toArray⟩ (some j) none = ⟨tl.toArray⟩ → ct = 0 ∨ ct = 1 ∨ ct = 2 → atN [tx [], tx [c], tx [c]] ct = some (tx mid) → (∃ i : Int, atN [D.int 1, .int 0, .int 1] ct = some (.int i) ∧ (k : Int) + i = j) →
      ∃ (l' : List Nat) (b' : Box) (y3 y4 y5 y6 : Option Sl), sp_turn [some (.val (.loc 1)), some (.val (tx l)), x2, x3, x4, x5, x6] (bom b rest) = .nx [some (.val (.loc 1)), some (.val (tx l')), x2, y3, y4, y5, y6] (bom b' rest) ∧ l'.length ≤ l.length + 1 ∧ 10 ∉ l' := by
    rintro mid tl j m1 mm m2 mt m3 _ m4 ⟨i, m5, m6⟩
    have d1 := dAdd_tx (a := l.take k) (b := mid) (by omega)
    have d2 := dAdd_tx (a := l.take k ++ mid) (b := tl) (by rw [List.length_append]; omega)
    refine ⟨(l.take k ++ mid) ++ tl, b3, some (.val (.int (k : Int))), some (.val (tx [c])), some (.val (.int ct)), some (.val (tx tl)), ?_, by rw [List.length_append, List.length_append]; omega, fun z => ?_⟩
    · clear s2 s3 n3 z0 hc lt lt2 ld ld1 a0 a1 c0 c1 m1 m2 mm mt hn c10
      unfold sp_turn
      generalize (l.take k ++ mid) ++ tl = R2 at *
      generalize l.take k ++ mid = R1 at *
      generalize l.take k = R0 at *
      subst m6
      walk_at "evx"
    · rcases List.mem_append.mp z with z | z
      · rcases List.mem_append.mp z with z | z
        · exact hn (List.mem_of_mem_take z)
        · exact mm z
      · exact hn (mt 10 z)
  have mc : 10 ∉ [c] := by simp; exact fun z => c10 z.symm
  rcases hc with h | h | h
  · exact key [] (l.drop (k + 1)) _ (by simp) (by simp) (by omega) (fun x hx => List.mem_of_mem_drop hx) s3 (.inl h) (by rw [h]; rfl) ⟨1, by rw [h]; rfl, rfl⟩
  · exact key [c] (l.drop k) _ (by simp) mc (by omega) (fun x hx => List.mem_of_mem_drop hx) s2 (.inr (.inl h)) (by rw [h]; rfl) ⟨0, by rw [h]; rfl, z0⟩
  · exact key [c] (l.drop (k + 1)) _ (by simp) mc (by omega) (fun x hx => List.mem_of_mem_drop hx) s3 (.inr (.inr h)) (by rw [h]; rfl) ⟨1, by rw [h]; rfl, rfl⟩
theorem sp_loop : ∀ (ds : List D) (x2 x3 x4 x5 x6 : Option Sl) (l : List Nat) (b : Box), l.length + ds.length ≤ 400 → 10 ∉ l → ∃ (l' : List Nat) (b' : Box) (y2 y3 y4 y5 y6 : Option Sl),
    goL (gN 2) sp_turn ds [some (.val (.loc 1)), some (.val (tx l)), x2, x3, x4, x5, x6] (bom b rest) = .nx [some (.val (.loc 1)), some (.val (tx l')), y2, y3, y4, y5, y6] (bom b' rest) ∧ l'.length ≤ l.length + ds.length ∧ 10 ∉ l'
  | [], x2, x3, x4, x5, x6, l, b, _, hn => ⟨l, b, x2, x3, x4, x5, x6, rfl, by simp, hn⟩
  | d :: ds, x2, x3, x4, x5, x6, l, b, h, hn => by
    rw [List.length_cons] at h
    obtain ⟨l1, b1, w3, w4, w5, w6, e1, k1, m1⟩ := sp_step rest (some (.val d)) x3 x4 x5 x6 l (by omega) hn b
    obtain ⟨l', b', y2, y3, y4, y5, y6, e2, k2, m2⟩ := sp_loop ds (some (.val d)) w3 w4 w5 w6 l1 b1 (by omega) m1
    refine ⟨l', b', y2, y3, y4, y5, y6, ?_, by rw [List.length_cons]; omega, m2⟩
    rw [goL_cons (ρ1 := [some (.val (.loc 1)), some (.val (tx l)), some (.val d), x3, x4, x5, x6]) _ _ rfl, e1, turn_nx, e2]
theorem spoilt_eq (l : List Nat) (hl : l.length ≤ 300) (hn : 10 ∉ l) (b : Box) : ∃ (l' : List Nat) (b' : Box), S_law_spoilt [.loc 1, tx l] (bom b rest) = .ok (tx l') (bom b' rest) ∧ l'.length ≤ 303 ∧ 10 ∉ l' := by
  have e1 := take_eq (m := 3) b rest (by decide) (by decide)
  have c0 := tkv_nn (m := 3) b (by decide)
  have c1 := tkv_lt (m := 3) b (by decide)
  have e2 : fRng1 [.int (1 + tkv 3 b)] = some (rngN 0 (1 + tkv 3 b).toNat) := fRng1_eq (by omega)
  have rl : (rngN 0 (1 + tkv 3 b).toNat).length = (1 + tkv 3 b).toNat := by unfold rngN; simp
  obtain ⟨l', b', y2, y3, y4, y5, y6, e3, k3, m3⟩ := sp_loop rest (rngN 0 (1 + tkv 3 b).toNat) none none none none none l (tkn 3 b) (by rw [rl]; omega) hn
  refine ⟨l', b', ?_, by rw [rl] at k3; omega, m3⟩
  clear hl c0 c1 rl k3 m3 hn
  unfold S_law_spoilt
  rw [sp_top]
  generalize sp_turn = ST at *
  walk_at "evx"
end
end Dv

namespace Dv
open PySem PySem.Spec PyProof.Rows L2
local macro_rules | `(tactic| walk_at "ev") => `(tactic| try simp (disch := omega) only [sSeq_eq, seq_nx, seq_rt, seq_rto, seq_xc, seq_bk, seq_ct, seq_ite, sAsg, sAsgO, sExpr, sRet, sRetO, sRetN, sIf, sNext, uVar, uC, uUn, uBin, uB, uNot, uAnd, uOr, uTV, uAndV, uOrV, uNotV, uIf, uChain, uNil, uCons, uTup, uLst, uLstO, uFn, uFnO, uFz, uMv, uNew, uCall, uCallO, uCallN, uBinV, uBinW, uBinL, uMeO, uMeL, uFnV, sSetL, sAsgG, gN, gT2, gT3, gT4, iLst, iFn,   bind_ok, bind_xc, of_ok, of_xc, res_ok, res_xc, res0_ok, own_ok, own_xc, fr_nx, fr_rt, fr_rto, fr_xc, fo_rto, fo_xc, liftO_some, dBool_bl, items_lst, items_frz, ent, defU, defO, List.map_cons, List.map_nil, List.length_cons, List.length_nil, List.cons_append, List.nil_append, List.append_nil, List.replicate, List.getElem?_cons_zero, List.getElem?_cons_succ, List.set_cons_zero, List.set_cons_succ, Nat.zero_add, Nat.reduceAdd, Nat.reduceSub, Nat.reduceLeDiff,   le_big, lt_big, atN_zero, atN_one, atN_two, atN_three, setN_zero, setN_one, popAt_zero, len_zero, len_succ, dMul_r, dMul_l, dDiv_pos, dMod_pos, dAdd_int, dSub_int, dNeg_int, dLt_int, dLe_int, dGt_int, dGe_int, dEq_int, dNe_int, dEq_bl, dNe_bl, dEq_nil, dNe_nil, dIx_lst, dIx_tup, fAbs_int, fInt_bl, fInt_int, fLen_lst, fLen_frz, fLen_tup, ite_true, ite_false, if_true, if_false, Bool.not_true, Bool.not_false, decide_true, decide_false, Bool.true_eq_false, Bool.false_eq_true, reduceIte, reduceCtorEq, turn_nx, turn_ct, turn_bk, turn_rt, turn_rto, turn_xc, sFor_eq, goL_nil, eq_self])
local macro_rules | `(tactic| walk_at "evs") => `(tactic| try simp (disch := omega) only [sSeq_eq, seq_nx, seq_rt, seq_rto, seq_xc, seq_bk, seq_ct, seq_ite, sAsg, sAsgO, sExpr, sRet, sRetO, sRetN, sIf, sNext, uVar, uC, uUn, uBin, uB, uNot, uAnd, uOr, uTV, uAndV, uOrV, uNotV, uIf, uChain, uNil, uCons, uTup, uLst, uLstO, uFn, uFnO, uFz, uMv, uNew, uCall, uCallO, uCallN, uBinV, uBinW, uBinL, uMeO, uMeL, uFnV, sSetL, sAsgG, gN, gT2, gT3, gT4, iLst, iFn,   bind_ok, bind_xc, of_ok, of_xc, res_ok, res_xc, res0_ok, own_ok, own_xc, fr_nx, fr_rt, fr_rto, fr_xc, fo_rto, fo_xc, liftO_some, dBool_bl, items_lst, items_frz, ent, defU, defO, List.map_cons, List.map_nil, List.length_cons, List.length_nil, List.cons_append, List.nil_append, List.append_nil, List.replicate, List.getElem?_cons_zero, List.getElem?_cons_succ, List.set_cons_zero, List.set_cons_succ, Nat.zero_add, Nat.reduceAdd, Nat.reduceSub, Nat.reduceLeDiff,   le_big, lt_big, atN_zero, atN_one, atN_two, atN_three, setN_zero, setN_one, popAt_zero, len_zero, len_succ, dMul_r, dMul_l, dDiv_pos, dMod_pos, dAdd_int, dSub_int, dNeg_int, dLt_int, dLe_int, dGt_int, dGe_int, dEq_int, dNe_int, dEq_bl, dNe_bl, dEq_nil, dNe_nil, dIx_lst, dIx_tup, fAbs_int, fInt_bl, fInt_int, fLen_lst, fLen_frz, fLen_tup, ite_true, ite_false, if_true, if_false, Bool.not_true, Bool.not_false, decide_true, decide_false, Bool.true_eq_false, Bool.false_eq_true, reduceIte, reduceCtorEq, turn_nx, turn_ct, turn_bk, turn_rt, turn_rto, turn_xc, sFor_eq, goL_nil, eq_self, *])
local macro_rules | `(tactic| walk_at "evt") => `(tactic| try simp (disch := first | omega | (simp only [List.length_append, List.length_cons, List.length_nil, List.length_map]; omega)) only [sSeq_eq, seq_nx, seq_rt, seq_rto, seq_xc, seq_bk, seq_ct, seq_ite, sAsg, sAsgO, sExpr, sRet, sRetO, sRetN, sIf, sNext, uVar, uC, uUn, uBin, uB, uNot, uAnd, uOr, uTV, uAndV, uOrV, uNotV, uIf, uChain, uNil, uCons, uTup, uLst, uLstO, uFn, uFnO, uFz, uMv, uNew, uCall, uCallO, uCallN, uBinV, uBinW, uBinL, uMeO, uMeL, uFnV, sSetL, sAsgG, gN, gT2, gT3, gT4, iLst, iFn,   bind_ok, bind_xc, of_ok, of_xc, res_ok, res_xc, res0_ok, own_ok, own_xc, fr_nx, fr_rt, fr_rto, fr_xc, fo_rto, fo_xc, liftO_some, dBool_bl, items_lst, items_frz, ent, defU, defO, List.map_cons, List.map_nil, List.length_cons, List.length_nil, List.cons_append, List.nil_append, List.append_nil, List.replicate, List.getElem?_cons_zero, List.getElem?_cons_succ, List.set_cons_zero, List.set_cons_succ, Nat.zero_add, Nat.reduceAdd, Nat.reduceSub, Nat.reduceLeDiff,   le_big, lt_big, atN_zero, atN_one, atN_two, atN_three, setN_zero, setN_one, popAt_zero, len_zero, len_succ, dMul_r, dMul_l, dDiv_pos, dMod_pos, dAdd_int, dSub_int, dNeg_int, dLt_int, dLe_int, dGt_int, dGe_int, dEq_int, dNe_int, dEq_bl, dNe_bl, dEq_nil, dNe_nil, dIx_lst, dIx_tup, fAbs_int, fInt_bl, fInt_int, fLen_lst, fLen_frz, fLen_tup, ite_true, ite_false, if_true, if_false, Bool.not_true, Bool.not_false, decide_true, decide_false, Bool.true_eq_false, Bool.false_eq_true, reduceIte, reduceCtorEq, turn_nx, turn_ct, turn_bk, turn_rt, turn_rto, turn_xc, sFor_eq, goL_nil, eq_self, sRaise, gT2, gT3, gT4, sAsgG, uM1, uOrS, uSlS, uSlW, uCatV, uPart, uNoPart, iStrU, k_colon, k_blank, k_line, k_f, k_s, k_0, k_empty, k_digits, k_abc, k_alpha, k_cue, k_from, k_to, k_at, k_two, k_fto, k_nl, k_a1, dAdd_tx, fLen_tx, fStr_nat, dEq_tx, dNe_tx, dEq_txn, dNe_txn, len_tx, cutS_l1, cutS_b1, cutS_ln, cutS_bn, dIx_tx0, *])
local macro_rules | `(tactic| walk_at "evx") => `(tactic| try simp (disch := first | omega | (simp only [List.length_append, List.length_cons, List.length_nil, List.length_map]; omega)) only [sSeq_eq, seq_nx, seq_rt, seq_rto, seq_xc, seq_bk, seq_ct, seq_ite, sAsg, sAsgO, sExpr, sRet, sRetO, sRetN, sIf, sNext, uVar, uC, uUn, uBin, uB, uNot, uAnd, uOr, uTV, uAndV, uOrV, uNotV, uIf, uChain, uNil, uCons, uTup, uLst, uLstO, uFn, uFnO, uFz, uMv, uNew, uCall, uCallO, uCallN, uBinV, uBinW, uBinL, uMeO, uMeL, uFnV, sSetL, sAsgG, gN, gT2, gT3, gT4, iLst, iFn,   bind_ok, bind_xc, of_ok, of_xc, res_ok, res_xc, res0_ok, own_ok, own_xc, fr_nx, fr_rt, fr_rto, fr_xc, fo_rto, fo_xc, liftO_some, dBool_bl, items_lst, items_frz, ent, defU, defO, List.map_cons, List.map_nil, List.length_cons, List.length_nil, List.cons_append, List.nil_append, List.append_nil, List.replicate, List.getElem?_cons_zero, List.getElem?_cons_succ, List.set_cons_zero, List.set_cons_succ, Nat.zero_add, Nat.reduceAdd, Nat.reduceSub, Nat.reduceLeDiff,   le_big, lt_big, atN_zero, atN_one, atN_two, atN_three, setN_zero, setN_one, popAt_zero, len_zero, len_succ, dMul_r, dMul_l, dDiv_pos, dMod_pos, dAdd_int, dSub_int, dNeg_int, dLt_int, dLe_int, dGt_int, dGe_int, dEq_int, dNe_int, dEq_bl, dNe_bl, dEq_nil, dNe_nil, dIx_lst, dIx_tup, fAbs_int, fInt_bl, fInt_int, fLen_lst, fLen_frz, fLen_tup, ite_true, ite_false, if_true, if_false, Bool.not_true, Bool.not_false, decide_true, decide_false, Bool.true_eq_false, Bool.false_eq_true, reduceIte, reduceCtorEq, turn_nx, turn_ct, turn_bk, turn_rt, turn_rto, turn_xc, sFor_eq, goL_nil, eq_self, sRaise, gT2, gT3, gT4, sAsgG, see_bl, see_int, see_non, see_tup, see_lst, see_str, uBinX, uUnX, uFnX, uFld, sFldU, uMeth, uMethO, uMake, uCatX, uRev, uMethN, uFrzI, uSlV, uM1, uOrS, uSlS, uSlW, uCatV, uPart, uNoPart, iStrU, k_colon, k_blank, k_line, k_f, k_s, k_0, k_empty, k_digits, k_abc, k_alpha, k_cue, k_from, k_to, k_at, k_two, k_fto, k_nl, k_a1, dAdd_tx, fLen_tx, fStr_nat, dEq_tx, dNe_tx, dEq_txn, dNe_txn, len_tx, cutS_l1, cutS_b1, cutS_ln, cutS_bn, dIx_tx0, *])
/-! ### odd lines, drawn -/
def isH (l : List Nat) : Bool := decide (l.take 3 = [99, 117, 101])
def hpl : Nat → List Cu → List Nat
  | _, [] => []
  | i, c :: r => i :: hpl (i + (linesC c).length) r
theorem hpl_len : ∀ (cs : List Cu) (i : Nat), (hpl i cs).length = cs.length
  | [], _ => rfl
  | c :: r, i => by
    unfold hpl
    rw [List.length_cons, List.length_cons, hpl_len r]
theorem hpl_get : ∀ (p : List Cu) (c : Cu) (q : List Cu) (i : Nat), (hpl i (p ++ c :: q))[p.length]? = some (i + (linesA p).length)
  | [], c, q, i => by simp [hpl, linesA]
  | d :: p, c, q, i => by
    rw [List.cons_append]
    unfold hpl
    rw [List.length_cons, List.getElem?_cons_succ, hpl_get p c q, linesA_cons, List.length_append]
    congr 1
    omega
theorem isH_head (c : Cu) : isH (lineH c) = true := by
  unfold isH lineH
  simp
theorem isH_word (w : List Nat × Fr) : isH (lineW w) = false := by
  unfold isH lineW
  simp
theorem heads_eq : ∀ (cs : List Cu) (i : Nat), (List.range' i (linesA cs).length).filter (fun k => isH ((linesA cs).getD (k - i) [])) = hpl i cs
  | [], i => rfl
  | c :: r, i => by
    rw [linesA_cons, List.length_append]
    unfold hpl
    rw [← List.range'_append_1, List.filter_append]
    have h1 : (List.range' i (linesC c).length).filter (fun k => isH ((linesC c ++ linesA r).getD (k - i) [])) = [i] := by
      unfold linesC
      rw [List.length_cons, List.range'_succ, List.filter_cons]
      have e0 : isH ((lineH c :: c.ws.map lineW ++ linesA r).getD (i - i) []) = true := by
        rw [Nat.sub_self]
        exact isH_head c
      rw [if_pos e0]
      congr 1
      rw [List.filter_eq_nil_iff]
      intro k hk
      have hk := List.mem_range'_1.mp hk
      rw [List.length_map] at hk
      obtain ⟨j, rfl⟩ : ∃ j, k = i + 1 + j := ⟨k - i - 1, by omega⟩
      have hj : j < c.ws.length := by omega
      have ej : i + 1 + j - i = j + 1 := by omega
      have e1 : (lineH c :: c.ws.map lineW ++ linesA r).getD (i + 1 + j - i) [] = lineW c.ws[j] := by
        rw [ej, List.getD_eq_getElem?_getD, List.cons_append, List.getElem?_cons_succ, List.getElem?_append_left (by rw [List.length_map]; omega), List.getElem?_map, List.getElem?_eq_getElem hj]
        rfl
      rw [e1, isH_word]
      simp
    have h2 : (List.range' (i + (linesC c).length) (linesA r).length).filter (fun k => isH ((linesC c ++ linesA r).getD (k - i) [])) = hpl (i + (linesC c).length) r := by
      rw [← heads_eq r (i + (linesC c).length)]
      refine List.filter_congr fun k hk => ?_
      have hk := List.mem_range'_1.mp hk
      congr 1
      rw [List.getD_eq_getElem?_getD, List.getD_eq_getElem?_getD, List.getElem?_append_right (by omega)]
      congr 2
      omega
    rw [h1, h2]
    rfl
theorem heads_0 (cs : List Cu) : (List.range (linesA cs).length).filter (fun k => isH ((linesA cs).getD k [])) = hpl 0 cs := by
  have := heads_eq cs 0
  rw [List.range_eq_range']
  exact this
theorem mix_free {q : Fr} {s : Nat} (h : s ≠ 32) (h2 : s ≠ 47) (h3 : s < 48 ∨ 57 < s) : s ∉ mixL q := by
  have f : ∀ i : Int, s ∉ nm i := fun i => nm_free h3
  unfold mixL
  split <;> simp [f, h, h2]
theorem nl_word {w : List Nat × Fr} (h : Wd w.1) : 10 ∉ lineW w := by
  have m : ∀ q : Fr, 10 ∉ mixL q := fun q => mix_free (by decide) (by decide) (by decide)
  have : 10 ∉ w.1 := fun z => by have := h.a 10 z; omega
  unfold lineW
  simp [m, this]
theorem nl_free {cs : List Cu} (hc : ∀ c ∈ cs, CuOk c) : ∀ l ∈ linesA cs, 10 ∉ l := by
  induction cs with
  | nil => simp [linesA]
  | cons c cs ih =>
    have m : ∀ q : Fr, 10 ∉ mixL q := fun q => mix_free (by decide) (by decide) (by decide)
    have n : ∀ i : Int, 10 ∉ nm i := fun i => nm_free (by decide)
    intro l hl
    unfold linesA linesC at hl
    rcases List.mem_append.mp hl with q | q
    · rcases List.mem_cons.mp q with rfl | q
      · unfold lineH
        simp [m, n]
      · obtain ⟨w, hw, rfl⟩ := List.mem_map.mp q
        exact nl_word ((hc c (by simp)).ws w hw).1
    · exact ih (fun d hd => hc d (by simp [hd])) l q
theorem dr_lines {cs : List Cu} (h : Dr cs) (h8 : cs.length ≤ 8) : (linesA cs).length ≤ 96 ∧ ∀ l ∈ linesA cs, l.length ≤ 300 ∧ 10 ∉ l := by
  obtain ⟨a, b⟩ := lines_len h.c
  exact ⟨by omega, fun l hl => ⟨b l hl, nl_free h.c l hl⟩⟩
theorem dr_lo {cs : List Cu} (h : Dr cs) (h8 : cs.length ≤ 8) {k k2 : Nat} (hk : k ≤ k2) {l : List Nat} (hl : l.length ≤ 400 ∧ 10 ∉ l) : Lo (putL (linesA cs) k k2 l) := by
  obtain ⟨a, b⟩ := dr_lines h h8
  exact lo_put (by omega) (fun x hx => ⟨by have := (b x hx).1; omega, (b x hx).2⟩) hk hl
section
variable (rest : Om)
theorem o_heads (om : Om) (v0 v1 x3 x4 x5 x6 x7 x8 x9 : Option Sl) {L : List (List Nat)} (hL : L.length ≤ 400) (hl : ∀ l ∈ L, l.length ≤ 400) :
    o_0 [v0, v1, some (.val (.lst (L.map tx))), x3, x4, x5, x6, x7, x8, x9] om = .nx [v0, v1, some (.val (.lst (L.map tx))), some (.val (.lst (((List.range L.length).filter (fun k => isH (L.getD k []))).map fun k : Nat => D.int (k : Int)))), x4, x5, x6, x7, x8, none] om := by
  have rn : rngN 0 L.length = (List.range L.length).map fun k : Nat => D.int (k : Int) := by
    unfold rngN
    refine List.map_congr_left fun k _ => ?_
    rw [Int.zero_add]
  have g := goC_filt (G := gN 9) (tt := o_tt) (te := uVar 9) (vs := [9]) (ω := om) (ρ := [v0, v1, some (.val (.lst (L.map tx))), x3, x4, x5, x6, x7, x8, none]) (fun d => d) (fun d => match d with | .int k => isH (L.getD k.toNat []) | _ => false) (fun d => [v0, v1, some (.val (.lst (L.map tx))), x3, x4, x5, x6, x7, x8, some (.val d)]) (rngN 0 L.length) [] (fun d hd => by
    rw [rn] at hd
    obtain ⟨k, hk, rfl⟩ := List.mem_map.mp hd
    have hk := List.mem_range.mp hk
    have gd : L.getD k [] = L[k] := by rw [List.getD_eq_getElem?_getD, List.getElem?_eq_getElem hk]; rfl
    have a1 : atN (L.map tx) (k : Int) = some (tx L[k]) := atN_nat (by rw [List.getElem?_map, List.getElem?_eq_getElem hk]; rfl)
    have c1 := cutS_take L[k] 3
    have n3 : ((3 : Nat) : Int) = 3 := rfl
    rw [n3] at c1
    have ll := hl L[k] (List.getElem_mem hk)
    refine ⟨rfl, ?_, rfl, rfl⟩
    show _ = Res.ok (isH (L.getD (k : Int).toNat [])) _ _
    have kc := k_cue3
    rw [Int.toNat_natCast, gd]
    unfold isH
    clear rn hd hL hl n3 gd
    generalize L[k] = LK at *
    generalize L.map tx = LT at *
    generalize LK.take 3 = T3 at *
    generalize (k : Int) = KK at *
    unfold o_tt
    walk_at "evx") (by unfold rngN; simp; exact Nat.le_trans (show L.length ≤ 1000 by omega) (by decide))
  have e : (rngN 0 L.length).filter (fun d => match d with | .int k => isH (L.getD k.toNat []) | _ => false) = ((List.range L.length).filter (fun k => isH (L.getD k []))).map fun k : Nat => D.int (k : Int) := by
    rw [rn, List.filter_map]
    rfl
  rw [List.nil_append, List.map_id', e] at g
  have r1 := fRng1_eq (j := (L.length : Int)) (by omega)
  have t1 : ((L.length : Int)).toNat = L.length := by omega
  rw [t1] at r1
  have f1 : fLen [.lst (L.map tx)] = some (.int (L.length : Int)) := by rw [fLen_lst, List.length_map]
  clear e rn hL hl t1
  generalize (((List.range L.length).filter (fun k => isH (L.getD k []))).map fun k : Nat => D.int (k : Int)) = HD at *
  generalize rngN 0 L.length = RR at *
  generalize L.map tx = LT at *
  generalize (L.length : Int) = LL at *
  unfold o_0
  generalize o_tt = OT at *
  unfold uLc
  simp only [clrs, List.set_cons_succ, List.set_cons_zero] at *
  walk_at "evx"
end
end Dv

namespace Dv
open PySem PySem.Spec PyProof.Rows L2
local macro_rules | `(tactic| walk_at "ev") => `(tactic| try simp (disch := omega) only [sSeq_eq, seq_nx, seq_rt, seq_rto, seq_xc, seq_bk, seq_ct, seq_ite, sAsg, sAsgO, sExpr, sRet, sRetO, sRetN, sIf, sNext, uVar, uC, uUn, uBin, uB, uNot, uAnd, uOr, uTV, uAndV, uOrV, uNotV, uIf, uChain, uNil, uCons, uTup, uLst, uLstO, uFn, uFnO, uFz, uMv, uNew, uCall, uCallO, uCallN, uBinV, uBinW, uBinL, uMeO, uMeL, uFnV, sSetL, sAsgG, gN, gT2, gT3, gT4, iLst, iFn,   bind_ok, bind_xc, of_ok, of_xc, res_ok, res_xc, res0_ok, own_ok, own_xc, fr_nx, fr_rt, fr_rto, fr_xc, fo_rto, fo_xc, liftO_some, dBool_bl, items_lst, items_frz, ent, defU, defO, List.map_cons, List.map_nil, List.length_cons, List.length_nil, List.cons_append, List.nil_append, List.append_nil, List.replicate, List.getElem?_cons_zero, List.getElem?_cons_succ, List.set_cons_zero, List.set_cons_succ, Nat.zero_add, Nat.reduceAdd, Nat.reduceSub, Nat.reduceLeDiff,   le_big, lt_big, atN_zero, atN_one, atN_two, atN_three, setN_zero, setN_one, popAt_zero, len_zero, len_succ, dMul_r, dMul_l, dDiv_pos, dMod_pos, dAdd_int, dSub_int, dNeg_int, dLt_int, dLe_int, dGt_int, dGe_int, dEq_int, dNe_int, dEq_bl, dNe_bl, dEq_nil, dNe_nil, dIx_lst, dIx_tup, fAbs_int, fInt_bl, fInt_int, fLen_lst, fLen_frz, fLen_tup, ite_true, ite_false, if_true, if_false, Bool.not_true, Bool.not_false, decide_true, decide_false, Bool.true_eq_false, Bool.false_eq_true, reduceIte, reduceCtorEq, turn_nx, turn_ct, turn_bk, turn_rt, turn_rto, turn_xc, sFor_eq, goL_nil, eq_self])
local macro_rules | `(tactic| walk_at "evs") => `(tactic| try simp (disch := omega) only [sSeq_eq, seq_nx, seq_rt, seq_rto, seq_xc, seq_bk, seq_ct, seq_ite, sAsg, sAsgO, sExpr, sRet, sRetO, sRetN, sIf, sNext, uVar, uC, uUn, uBin, uB, uNot, uAnd, uOr, uTV, uAndV, uOrV, uNotV, uIf, uChain, uNil, uCons, uTup, uLst, uLstO, uFn, uFnO, uFz, uMv, uNew, uCall, uCallO, uCallN, uBinV, uBinW, uBinL, uMeO, uMeL, uFnV, sSetL, sAsgG, gN, gT2, gT3, gT4, iLst, iFn,   bind_ok, bind_xc, of_ok, of_xc, res_ok, res_xc, res0_ok, own_ok, own_xc, fr_nx, fr_rt, fr_rto, fr_xc, fo_rto, fo_xc, liftO_some, dBool_bl, items_lst, items_frz, ent, defU, defO, List.map_cons, List.map_nil, List.length_cons, List.length_nil, List.cons_append, List.nil_append, List.append_nil, List.replicate, List.getElem?_cons_zero, List.getElem?_cons_succ, List.set_cons_zero, List.set_cons_succ, Nat.zero_add, Nat.reduceAdd, Nat.reduceSub, Nat.reduceLeDiff,   le_big, lt_big, atN_zero, atN_one, atN_two, atN_three, setN_zero, setN_one, popAt_zero, len_zero, len_succ, dMul_r, dMul_l, dDiv_pos, dMod_pos, dAdd_int, dSub_int, dNeg_int, dLt_int, dLe_int, dGt_int, dGe_int, dEq_int, dNe_int, dEq_bl, dNe_bl, dEq_nil, dNe_nil, dIx_lst, dIx_tup, fAbs_int, fInt_bl, fInt_int, fLen_lst, fLen_frz, fLen_tup, ite_true, ite_false, if_true, if_false, Bool.not_true, Bool.not_false, decide_true, decide_false, Bool.true_eq_false, Bool.false_eq_true, reduceIte, reduceCtorEq, turn_nx, turn_ct, turn_bk, turn_rt, turn_rto, turn_xc, sFor_eq, goL_nil, eq_self, *])
local macro_rules | `(tactic| walk_at "evt") => `(tactic| try simp (disch := first | omega | (simp only [List.length_append, List.length_cons, List.length_nil, List.length_map]; omega)) only [sSeq_eq, seq_nx, seq_rt, seq_rto, seq_xc, seq_bk, seq_ct, seq_ite, sAsg, sAsgO, sExpr, sRet, sRetO, sRetN, sIf, sNext, uVar, uC, uUn, uBin, uB, uNot, uAnd, uOr, uTV, uAndV, uOrV, uNotV, uIf, uChain, uNil, uCons, uTup, uLst, uLstO, uFn, uFnO, uFz, uMv, uNew, uCall, uCallO, uCallN, uBinV, uBinW, uBinL, uMeO, uMeL, uFnV, sSetL, sAsgG, gN, gT2, gT3, gT4, iLst, iFn,   bind_ok, bind_xc, of_ok, of_xc, res_ok, res_xc, res0_ok, own_ok, own_xc, fr_nx, fr_rt, fr_rto, fr_xc, fo_rto, fo_xc, liftO_some, dBool_bl, items_lst, items_frz, ent, defU, defO, List.map_cons, List.map_nil, List.length_cons, List.length_nil, List.cons_append, List.nil_append, List.append_nil, List.replicate, List.getElem?_cons_zero, List.getElem?_cons_succ, List.set_cons_zero, List.set_cons_succ, Nat.zero_add, Nat.reduceAdd, Nat.reduceSub, Nat.reduceLeDiff,   le_big, lt_big, atN_zero, atN_one, atN_two, atN_three, setN_zero, setN_one, popAt_zero, len_zero, len_succ, dMul_r, dMul_l, dDiv_pos, dMod_pos, dAdd_int, dSub_int, dNeg_int, dLt_int, dLe_int, dGt_int, dGe_int, dEq_int, dNe_int, dEq_bl, dNe_bl, dEq_nil, dNe_nil, dIx_lst, dIx_tup, fAbs_int, fInt_bl, fInt_int, fLen_lst, fLen_frz, fLen_tup, ite_true, ite_false, if_true, if_false, Bool.not_true, Bool.not_false, decide_true, decide_false, Bool.true_eq_false, Bool.false_eq_true, reduceIte, reduceCtorEq, turn_nx, turn_ct, turn_bk, turn_rt, turn_rto, turn_xc, sFor_eq, goL_nil, eq_self, sRaise, gT2, gT3, gT4, sAsgG, uM1, uOrS, uSlS, uSlW, uCatV, uPart, uNoPart, iStrU, k_colon, k_blank, k_line, k_f, k_s, k_0, k_empty, k_digits, k_abc, k_alpha, k_cue, k_from, k_to, k_at, k_two, k_fto, k_nl, k_a1, dAdd_tx, fLen_tx, fStr_nat, dEq_tx, dNe_tx, dEq_txn, dNe_txn, len_tx, cutS_l1, cutS_b1, cutS_ln, cutS_bn, dIx_tx0, *])
local macro_rules | `(tactic| walk_at "evx") => `(tactic| try simp (disch := first | omega | (simp only [List.length_append, List.length_cons, List.length_nil, List.length_map]; omega)) only [sSeq_eq, seq_nx, seq_rt, seq_rto, seq_xc, seq_bk, seq_ct, seq_ite, sAsg, sAsgO, sExpr, sRet, sRetO, sRetN, sIf, sNext, uVar, uC, uUn, uBin, uB, uNot, uAnd, uOr, uTV, uAndV, uOrV, uNotV, uIf, uChain, uNil, uCons, uTup, uLst, uLstO, uFn, uFnO, uFz, uMv, uNew, uCall, uCallO, uCallN, uBinV, uBinW, uBinL, uMeO, uMeL, uFnV, sSetL, sAsgG, gN, gT2, gT3, gT4, iLst, iFn,   bind_ok, bind_xc, of_ok, of_xc, res_ok, res_xc, res0_ok, own_ok, own_xc, fr_nx, fr_rt, fr_rto, fr_xc, fo_rto, fo_xc, liftO_some, dBool_bl, items_lst, items_frz, ent, defU, defO, List.map_cons, List.map_nil, List.length_cons, List.length_nil, List.cons_append, List.nil_append, List.append_nil, List.replicate, List.getElem?_cons_zero, List.getElem?_cons_succ, List.set_cons_zero, List.set_cons_succ, Nat.zero_add, Nat.reduceAdd, Nat.reduceSub, Nat.reduceLeDiff,   le_big, lt_big, atN_zero, atN_one, atN_two, atN_three, setN_zero, setN_one, popAt_zero, len_zero, len_succ, dMul_r, dMul_l, dDiv_pos, dMod_pos, dAdd_int, dSub_int, dNeg_int, dLt_int, dLe_int, dGt_int, dGe_int, dEq_int, dNe_int, dEq_bl, dNe_bl, dEq_nil, dNe_nil, dIx_lst, dIx_tup, fAbs_int, fInt_bl, fInt_int, fLen_lst, fLen_frz, fLen_tup, ite_true, ite_false, if_true, if_false, Bool.not_true, Bool.not_false, decide_true, decide_false, Bool.true_eq_false, Bool.false_eq_true, reduceIte, reduceCtorEq, turn_nx, turn_ct, turn_bk, turn_rt, turn_rto, turn_xc, sFor_eq, goL_nil, eq_self, sRaise, gT2, gT3, gT4, sAsgG, see_bl, see_int, see_non, see_tup, see_lst, see_str, uBinX, uUnX, uFnX, uFld, sFldU, uMeth, uMethO, uMake, uCatX, uRev, uMethN, uFrzI, uSlV, uM1, uOrS, uSlS, uSlW, uCatV, uPart, uNoPart, iStrU, k_colon, k_blank, k_line, k_f, k_s, k_0, k_empty, k_digits, k_abc, k_alpha, k_cue, k_from, k_to, k_at, k_two, k_fto, k_nl, k_a1, dAdd_tx, fLen_tx, fStr_nat, dEq_tx, dNe_tx, dEq_txn, dNe_txn, len_tx, cutS_l1, cutS_b1, cutS_ln, cutS_bn, dIx_tx0, *])
section
variable (rest : Om)
theorem o1_nil (om : Om) (v0 v1 v2 x4 x5 x6 x7 x8 x9 : D) (a4 a5 a6 a7 a8 a9 : Option Sl) (A : D) : o_1 [some (.val v0), some (.val v1), some (.val A), some (.val (.lst [])), a4, a5, a6, a7, a8, a9] om = .rt (.tup [A, .int (-1)]) om := by
  have d : decide (([] : List D).length = 0) = true := rfl
  unfold o_1
  walk_at "evx"
theorem o1_go (om : Om) (v0 v1 v2 a4 a5 a6 a7 a8 a9 : Option Sl) {HD : List D} (h : decide (HD.length = 0) = false) : o_1 [v0, v1, v2, some (.val (.lst HD)), a4, a5, a6, a7, a8, a9] om = .nx [v0, v1, v2, some (.val (.lst HD)), a4, a5, a6, a7, a8, a9] om := by
  unfold o_1
  walk_at "evx"
theorem o2_go {om om' : Om} (v1 v2 a4 a5 a6 a7 a8 a9 : Option Sl) {HD : List D} {n V : Int} (h : fLen [.lst HD] = some (.int n)) (e : S_law_take [.loc 1, .int n] om = .ok (.int V) om') : o_2 [some (.val (.loc 1)), v1, v2, some (.val (.lst HD)), a4, a5, a6, a7, a8, a9] om = .nx [some (.val (.loc 1)), v1, v2, some (.val (.lst HD)), some (.val (.int V)), a5, a6, a7, a8, a9] om' := by
  unfold o_2
  generalize S_law_take = F at *
  walk_at "evx"
theorem o3_go (om : Om) (v0 v1 v2 a5 a6 a7 a8 a9 : Option Sl) {HD : List D} {V W : Int} (h : atN HD V = some (.int W)) : o_3 [v0, v1, v2, some (.val (.lst HD)), some (.val (.int V)), a5, a6, a7, a8, a9] om = .nx [v0, v1, v2, some (.val (.lst HD)), some (.val (.int V)), some (.val (.int W)), a6, a7, a8, a9] om := by
  unfold o_3
  walk_at "evx"
theorem o4_go {om om' : Om} (v1 v2 v3 v4 v5 a6 a7 a8 a9 : Option Sl) {V : Int} (e : S_law_take [.loc 1, .int 3] om = .ok (.int V) om') : o_4 [some (.val (.loc 1)), v1, v2, v3, v4, v5, a6, a7, a8, a9] om = .nx [some (.val (.loc 1)), v1, v2, v3, v4, v5, some (.val (.int V)), a7, a8, a9] om' := by
  unfold o_4
  generalize S_law_take = F at *
  walk_at "evx"
theorem o5_no (om : Om) (v0 v1 v2 v3 v4 v5 a7 a8 a9 : Option Sl) {V : Int} (h : decide (V = 0) = false) : o_5 [v0, v1, v2, v3, v4, v5, some (.val (.int V)), a7, a8, a9] om = .nx [v0, v1, v2, v3, v4, v5, some (.val (.int V)), a7, a8, a9] om := by
  unfold o_5
  walk_at "evx"
theorem o6_no (om : Om) (v0 v1 v2 v3 v4 v5 a7 a8 a9 : Option Sl) {V : Int} (h : decide (V = 1) = false) : o_6 [v0, v1, v2, v3, v4, v5, some (.val (.int V)), a7, a8, a9] om = .nx [v0, v1, v2, v3, v4, v5, some (.val (.int V)), a7, a8, a9] om := by
  unfold o_6
  walk_at "evx"
theorem o5_yes {om om' : Om} (v1 v3 v4 a7 a8 a9 : Option Sl) {L : List (List Nat)} {l : List Nat} {hd at_ : Nat} {T : Int} (hh : atN (L.map tx) (hd : Int) = some (tx l)) (e : S_law_take [.loc 1, .int ((L.length : Int) - (hd : Int))] om = .ok (.int T) om') (ea : (hd : Int) + 1 + T = (at_ : Int)) (P : PutF L at_ at_ l) :
    o_5 [some (.val (.loc 1)), v1, some (.val (.lst (L.map tx))), v3, v4, some (.val (.int (hd : Int))), some (.val (.int 0)), a7, a8, a9] om = .rt (.tup [.lst ((putL L at_ at_ l).map tx), .int (at_ : Int)]) om' := by
  obtain ⟨c1, c2, p1, p2⟩ := P
  have f1 : fLen [.lst (L.map tx)] = some (.int (L.length : Int)) := by rw [fLen_lst, List.length_map]
  unfold o_5
  generalize S_law_take = F at *
  generalize (L.take at_).map tx = T1 at *
  generalize (L.drop at_).map tx = T2 at *
  generalize (L.take at_ ++ [l]).map tx = T3 at *
  generalize (putL L at_ at_ l).map tx = T4 at *
  generalize L.map tx = LT at *
  generalize (L.length : Int) = LL at *
  generalize (hd : Int) = HH at *
  generalize (at_ : Int) = AA at *
  walk_at "evx"
theorem o6_yes (om : Om) (v0 v3 a7 a8 a9 : Option Sl) {L : List (List Nat)} {cs : List Cu} {c : Cu} {hd at_ : Nat} {V : Int} (hc : atN (cs.map encCu) V = some (encCu c)) (we : Wr c.e) (ea : (hd : Int) + 1 = (at_ : Int)) (P : PutF L at_ at_ (lineW ([97], c.e))) :
    o_6 [v0, some (.val (.lst (cs.map encCu))), some (.val (.lst (L.map tx))), v3, some (.val (.int V)), some (.val (.int (hd : Int))), some (.val (.int 1)), a7, a8, a9] om = .rt (.tup [.lst ((putL L at_ at_ (lineW ([97], c.e))).map tx), .int (at_ : Int)]) om := by
  obtain ⟨c1, c2, p1, p2⟩ := P
  have e1 := lmixed_eq om c.e we
  have lm := we.mix
  have lw : ([32, 32, 97, 32, 97, 116, 32] ++ mixL c.e) ++ [102] = lineW ([97], c.e) := by unfold lineW; simp
  have ka := k_aat
  have d1 := dAdd_tx (a := [32, 32, 97, 32, 97, 116, 32]) (b := mixL c.e) (by simp; omega)
  have d2 := dAdd_tx (a := [32, 32, 97, 32, 97, 116, 32] ++ mixL c.e) (b := [102]) (by simp; omega)
  rw [lw] at d2
  clear lw we lm
  generalize lineW ([97], c.e) = LW at *
  generalize [32, 32, 97, 32, 97, 116, 32] ++ mixL c.e = M2 at *
  generalize mixL c.e = M at *
  generalize (L.take at_).map tx = T1 at *
  generalize (L.drop at_).map tx = T2 at *
  generalize (L.take at_ ++ [LW]).map tx = T3 at *
  generalize (putL L at_ at_ LW).map tx = T4 at *
  generalize L.map tx = LT at *
  generalize (hd : Int) = HH at *
  generalize (at_ : Int) = AA at *
  obtain ⟨cn, cb, ce, cw⟩ := c
  dsimp only at *
  generalize cs.map encCu = CS at *
  generalize cw.map encW = CW at *
  unfold o_6
  walk_at "evx"
theorem o7_go (om : Om) (v0 v2 v3 v6 a7 a8 a9 : Option Sl) {cs : List Cu} {c : Cu} {hd : Nat} {V : Int} (hc : atN (cs.map encCu) V = some (encCu c)) :
    o_7 [v0, some (.val (.lst (cs.map encCu))), v2, v3, some (.val (.int V)), some (.val (.int (hd : Int))), v6, a7, a8, a9] om = .nx [v0, some (.val (.lst (cs.map encCu))), v2, v3, some (.val (.int V)), some (.val (.int (hd : Int))), v6, some (.val (.int (if c.b = (0, 1) then 0 else (hd : Int) + 1))), a8, a9] om := by
  have dn := dNe_fr c.b (0, 1)
  by_cases h : c.b = (0, 1)
  · have d : (!decide (c.b = (0, 1))) = false := by rw [decide_eq_true h]; rfl
    rw [d] at dn
    rw [if_pos h]
    clear d h
    obtain ⟨cn, cb, ce, cw⟩ := c
    dsimp only at *
    generalize cs.map encCu = CS at *
    generalize cw.map encW = CW at *
    generalize (hd : Int) = HH at *
    unfold o_7
    walk_at "evx"
  · have d : (!decide (c.b = (0, 1))) = true := by rw [decide_eq_false h]; rfl
    rw [d] at dn
    rw [if_neg h]
    clear d h
    obtain ⟨cn, cb, ce, cw⟩ := c
    dsimp only at *
    generalize cs.map encCu = CS at *
    generalize cw.map encW = CW at *
    generalize (hd : Int) = HH at *
    unfold o_7
    walk_at "evx"
theorem o8_go (om : Om) (v0 v1 v3 v4 v5 v6 v8 v9 : Option Sl) {L : List (List Nat)} {at_ : Nat} (P : PutF L at_ at_ zeroL) :
    o_8 [v0, v1, some (.val (.lst (L.map tx))), v3, v4, v5, v6, some (.val (.int (at_ : Int))), v8, v9] om = .rt (.tup [.lst ((putL L at_ at_ zeroL).map tx), .int (at_ : Int)]) om := by
  obtain ⟨c1, c2, p1, p2⟩ := P
  have ka := k_a0
  generalize (putL L at_ at_ zeroL).map tx = T4 at *
  generalize (L.take at_ ++ [zeroL]).map tx = T3 at *
  generalize (L.take at_).map tx = T1 at *
  generalize (L.drop at_).map tx = T2 at *
  generalize L.map tx = LT at *
  generalize (at_ : Int) = AA at *
  generalize zeroL = ZL at *
  unfold o_8
  walk_at "evx"
end
theorem seq_ret {a b : US} {ρ : Rho} {ω ω' : Om} {d : D} (h : a ρ ω = .rt d ω') : sSeq a b ρ ω = .rt d ω' := by rw [sSeq_eq, h, seq_rt]
section
variable (rest : Om)
theorem odd_eq {cs : List Cu} (h : Dr cs) (h8 : cs.length ≤ 8) (b : Box) : ∃ (L' : List (List Nat)) (at_ : Int) (b' : Box), S_law_odd [.loc 1, .lst (cs.map encCu), .lst ((linesA cs).map tx)] (bom b rest) = .ok (.tup [.lst (L'.map tx), .int at_]) (bom b' rest) ∧
    ((cs = [] ∧ at_ = -1 ∧ L' = linesA cs) ∨ (Lo L' ∧ ∃ k : Nat, at_ = (k : Int) ∧ readV [] 0 L' = .error k)) := by
  obtain ⟨ln, ll⟩ := dr_lines h h8
  have oh := o_heads (bom b rest) (some (.val (.loc 1))) (some (.val (.lst (cs.map encCu)))) none none none none none none none (L := linesA cs) (by omega) (fun l hl => by have := (ll l hl).1; omega)
  rw [heads_0] at oh
  have fin : ∀ (d : D) (om' : Om), u_law_odd [some (.val (.loc 1)), some (.val (.lst (cs.map encCu))), some (.val (.lst ((linesA cs).map tx))), none, none, none, none, none, none, none] (bom b rest) = .rt d om' → S_law_odd [.loc 1, .lst (cs.map encCu), .lst ((linesA cs).map tx)] (bom b rest) = .ok d om' := fun d om' e => by
    unfold S_law_odd defU
    show (u_law_odd [some (.val (.loc 1)), some (.val (.lst (cs.map encCu))), some (.val (.lst ((linesA cs).map tx))), none, none, none, none, none, none, none] (bom b rest)).fr = _
    rw [e]
    rfl
  by_cases hn : cs = []
  · refine ⟨linesA cs, -1, b, fin _ _ ?_, .inl ⟨hn, rfl, rfl⟩⟩
    rw [o_top, seq_go oh]
    subst hn
    exact seq_ret (o1_nil (bom b rest) (.loc 1) (.lst (List.map encCu [])) .non .non .non .non .non .non .non none none none none none none _)
  · have n0 : 0 < cs.length := List.length_pos_iff.mpr hn
    have hlen := hpl_len cs 0
    have f3 : fLen [.lst ((hpl 0 cs).map fun k : Nat => D.int (k : Int))] = some (.int (cs.length : Int)) := by rw [fLen_lst, List.length_map, hlen]
    have e2 := take_eq (m := (cs.length : Int)) b rest (by omega) (by omega)
    have v0 := tkv_nn (m := (cs.length : Int)) b (by omega)
    have v1 := tkv_lt (m := (cs.length : Int)) b (by omega)
    obtain ⟨k, hk⟩ : ∃ k : Nat, tkv (cs.length : Int) b = (k : Int) := ⟨(tkv (cs.length : Int) b).toNat, by omega⟩
    rw [hk] at e2
    obtain ⟨p, c, q, hcs, hp, hg⟩ := odd_split (cs := cs) (k := k) (by omega)
    have ac : atN (cs.map encCu) (k : Int) = some (encCu c) := atN_nat (by rw [List.getElem?_map, hg]; rfl)
    have ah : atN ((hpl 0 cs).map fun k : Nat => D.int (k : Int)) (k : Int) = some (.int (((linesA p).length : Nat) : Int)) := atN_nat (by
      have := hpl_get p c q 0
      rw [← hcs, hp, Nat.zero_add] at this
      rw [List.getElem?_map, this]
      rfl)
    have hl1 : (linesA p).length < (linesA cs).length := by
      rw [hcs, linesA_app, linesA_cons]
      unfold linesC
      simp
    have al : atN ((linesA cs).map tx) (((linesA p).length : Nat) : Int) = some (tx (lineH c)) := atN_nat (by
      have : (linesA cs)[(linesA p).length]? = some (lineH c) := by
        rw [hcs, linesA_app, linesA_cons]
        unfold linesC
        rw [List.getElem?_append_right (Nat.le_refl _), Nat.sub_self]
        rfl
      rw [List.getElem?_map, this]
      rfl)
    have hc := h.c c (by rw [hcs]; simp)
    generalize tkn (cs.length : Int) b = b1 at *
    have e4 := take_eq (m := 3) b1 rest (by decide) (by decide)
    have w0 := tkv_nn (m := 3) b1 (by decide)
    have w1 := tkv_lt (m := 3) b1 (by decide)
    generalize tkv 3 b1 = W at *
    generalize tkn 3 b1 = b2 at *
    have d1 : decide ((((hpl 0 cs).map fun k : Nat => D.int (k : Int)) : List D).length = 0) = false := decide_eq_false (by rw [List.length_map, hlen]; omega)
    have hD := h
    rw [hcs] at hD
    have pre : ∀ (d : D) (om' : Om), (sSeq o_5 (sSeq o_6 (sSeq o_7 o_8))) [some (.val (.loc 1)), some (.val (.lst (cs.map encCu))), some (.val (.lst ((linesA cs).map tx))), some (.val (.lst ((hpl 0 cs).map fun k : Nat => D.int (k : Int)))), some (.val (.int (k : Int))), some (.val (.int (((linesA p).length : Nat) : Int))), some (.val (.int W)), none, none, none] (bom b2 rest) = .rt d om' → S_law_odd [.loc 1, .lst (cs.map encCu), .lst ((linesA cs).map tx)] (bom b rest) = .ok d om' := fun d om' e => by
      refine fin d om' ?_
      rw [o_top, seq_go oh, seq_go (o1_go _ _ _ _ _ _ _ _ _ _ d1), seq_go (o2_go _ _ _ _ _ _ _ _ f3 e2), seq_go (o3_go _ _ _ _ _ _ _ _ _ ah), seq_go (o4_go _ _ _ _ _ _ _ _ _ e4)]
      exact e
    rcases (show W = 0 ∨ W = 1 ∨ W = 2 by omega) with z | z | z
    · subst z
      have e5 := take_eq (m := (((linesA cs).length : Nat) : Int) - (((linesA p).length : Nat) : Int)) b2 rest (by omega) (by omega)
      have t0 := tkv_nn (m := (((linesA cs).length : Nat) : Int) - (((linesA p).length : Nat) : Int)) b2 (by omega)
      have t1 := tkv_lt (m := (((linesA cs).length : Nat) : Int) - (((linesA p).length : Nat) : Int)) b2 (by omega)
      obtain ⟨a, ha⟩ : ∃ a : Nat, (((linesA p).length : Nat) : Int) + 1 + tkv ((((linesA cs).length : Nat) : Int) - (((linesA p).length : Nat) : Int)) b2 = (a : Int) := ⟨((((linesA p).length : Nat) : Int) + 1 + tkv ((((linesA cs).length : Nat) : Int) - (((linesA p).length : Nat) : Int)) b2).toNat, by omega⟩
      have hla := (lines_len h.c).2 (lineH c) (List.mem_of_getElem? (i := (linesA p).length) (by
        rw [hcs, linesA_app, linesA_cons]
        unfold linesC
        rw [List.getElem?_append_right (Nat.le_refl _), Nat.sub_self]
        rfl))
      have P := put_f (L := linesA cs) (by omega) (k := a) (k2 := a) (by omega) (by omega) (lineH c)
      refine ⟨_, _, _, pre _ _ (seq_ret (o5_yes _ _ _ _ _ _ al e5 ha P)), .inr ⟨dr_lo h h8 (Nat.le_refl _) ⟨by omega, ?_⟩, a, rfl, ?_⟩⟩
      · exact nl_free h.c _ (List.mem_of_getElem? (i := (linesA p).length) (by
          rw [hcs, linesA_app, linesA_cons]
          unfold linesC
          rw [List.getElem?_append_right (Nat.le_refl _), Nat.sub_self]
          rfl))
      · have := odd_again hD (a := a) (by omega) (by rw [← hcs]; omega) ((linesA cs).drop a)
        rw [← hcs] at this
        exact this
    · subst z
      have P := put_f (L := linesA cs) (by omega) (k := (linesA p).length + 1) (k2 := (linesA p).length + 1) (by omega) (by omega) (lineW ([97], c.e))
      have ww : Wd ([97] : List Nat) := ⟨by decide, by decide, by decide⟩
      refine ⟨_, _, _, pre _ _ ((seq_go (o5_no _ _ _ _ _ _ _ _ _ _ (by decide))).trans (seq_ret (o6_yes _ _ _ _ _ _ ac hc.e.wr (by omega) P))), .inr ⟨dr_lo h h8 (Nat.le_refl _) ⟨by have := lineW_len (w := ([97], c.e)) ww hc.e; omega, nl_word ww⟩, _, rfl, ?_⟩⟩
      have := odd_end hD ((linesA cs).drop ((linesA p).length + 1))
      rw [← hcs] at this
      exact this
    · subst z
      by_cases hb : c.b = (0, 1)
      · have P := put_f (L := linesA cs) (by omega) (k := 0) (k2 := 0) (by omega) (by omega) zeroL
        have o7 := o7_go (bom b2 rest) (some (.val (.loc 1))) (some (.val (.lst ((linesA cs).map tx)))) (some (.val (.lst ((hpl 0 cs).map fun k : Nat => D.int (k : Int))))) (some (.val (.int 2))) none none none (hd := (linesA p).length) ac
        rw [if_pos hb] at o7
        refine ⟨_, _, _, pre _ _ ((seq_go (o5_no _ _ _ _ _ _ _ _ _ _ (by decide))).trans ((seq_go (o6_no _ _ _ _ _ _ _ _ _ _ (by decide))).trans ((seq_go o7).trans (o8_go _ _ _ _ _ _ _ _ _ P)))), .inr ⟨dr_lo h h8 (Nat.le_refl _) ⟨by decide, by decide⟩, 0, rfl, ?_⟩⟩
        exact odd_first _
      · have P := put_f (L := linesA cs) (by omega) (k := (linesA p).length + 1) (k2 := (linesA p).length + 1) (by omega) (by omega) zeroL
        have o7 := o7_go (bom b2 rest) (some (.val (.loc 1))) (some (.val (.lst ((linesA cs).map tx)))) (some (.val (.lst ((hpl 0 cs).map fun k : Nat => D.int (k : Int))))) (some (.val (.int 2))) none none none (hd := (linesA p).length) ac
        rw [if_neg hb] at o7
        have c1 : (((linesA p).length : Nat) : Int) + 1 = (((linesA p).length + 1 : Nat) : Int) := by omega
        rw [c1] at o7
        refine ⟨_, _, _, pre _ _ ((seq_go (o5_no _ _ _ _ _ _ _ _ _ _ (by decide))).trans ((seq_go (o6_no _ _ _ _ _ _ _ _ _ _ (by decide))).trans ((seq_go o7).trans (o8_go _ _ _ _ _ _ _ _ _ P)))), .inr ⟨dr_lo h h8 (Nat.le_refl _) ⟨by decide, by decide⟩, _, rfl, ?_⟩⟩
        have := odd_zero hD hb ((linesA cs).drop ((linesA p).length + 1))
        rw [← hcs] at this
        exact this
end
end Dv

namespace Dv
open PySem PySem.Spec PyProof.Rows L2
local macro_rules | `(tactic| walk_at "ev") => `(tactic| try simp (disch := omega) only [sSeq_eq, seq_nx, seq_rt, seq_rto, seq_xc, seq_bk, seq_ct, seq_ite, sAsg, sAsgO, sExpr, sRet, sRetO, sRetN, sIf, sNext, uVar, uC, uUn, uBin, uB, uNot, uAnd, uOr, uTV, uAndV, uOrV, uNotV, uIf, uChain, uNil, uCons, uTup, uLst, uLstO, uFn, uFnO, uFz, uMv, uNew, uCall, uCallO, uCallN, uBinV, uBinW, uBinL, uMeO, uMeL, uFnV, sSetL, sAsgG, gN, gT2, gT3, gT4, iLst, iFn,   bind_ok, bind_xc, of_ok, of_xc, res_ok, res_xc, res0_ok, own_ok, own_xc, fr_nx, fr_rt, fr_rto, fr_xc, fo_rto, fo_xc, liftO_some, dBool_bl, items_lst, items_frz, ent, defU, defO, List.map_cons, List.map_nil, List.length_cons, List.length_nil, List.cons_append, List.nil_append, List.append_nil, List.replicate, List.getElem?_cons_zero, List.getElem?_cons_succ, List.set_cons_zero, List.set_cons_succ, Nat.zero_add, Nat.reduceAdd, Nat.reduceSub, Nat.reduceLeDiff,   le_big, lt_big, atN_zero, atN_one, atN_two, atN_three, setN_zero, setN_one, popAt_zero, len_zero, len_succ, dMul_r, dMul_l, dDiv_pos, dMod_pos, dAdd_int, dSub_int, dNeg_int, dLt_int, dLe_int, dGt_int, dGe_int, dEq_int, dNe_int, dEq_bl, dNe_bl, dEq_nil, dNe_nil, dIx_lst, dIx_tup, fAbs_int, fInt_bl, fInt_int, fLen_lst, fLen_frz, fLen_tup, ite_true, ite_false, if_true, if_false, Bool.not_true, Bool.not_false, decide_true, decide_false, Bool.true_eq_false, Bool.false_eq_true, reduceIte, reduceCtorEq, turn_nx, turn_ct, turn_bk, turn_rt, turn_rto, turn_xc, sFor_eq, goL_nil, eq_self])
local macro_rules | `(tactic| walk_at "evs") => `(tactic| try simp (disch := omega) only [sSeq_eq, seq_nx, seq_rt, seq_rto, seq_xc, seq_bk, seq_ct, seq_ite, sAsg, sAsgO, sExpr, sRet, sRetO, sRetN, sIf, sNext, uVar, uC, uUn, uBin, uB, uNot, uAnd, uOr, uTV, uAndV, uOrV, uNotV, uIf, uChain, uNil, uCons, uTup, uLst, uLstO, uFn, uFnO, uFz, uMv, uNew, uCall, uCallO, uCallN, uBinV, uBinW, uBinL, uMeO, uMeL, uFnV, sSetL, sAsgG, gN, gT2, gT3, gT4, iLst, iFn,   bind_ok, bind_xc, of_ok, of_xc, res_ok, res_xc, res0_ok, own_ok, own_xc, fr_nx, fr_rt, fr_rto, fr_xc, fo_rto, fo_xc, liftO_some, dBool_bl, items_lst, items_frz, ent, defU, defO, List.map_cons, List.map_nil, List.length_cons, List.length_nil, List.cons_append, List.nil_append, List.append_nil, List.replicate, List.getElem?_cons_zero, List.getElem?_cons_succ, List.set_cons_zero, List.set_cons_succ, Nat.zero_add, Nat.reduceAdd, Nat.reduceSub, Nat.reduceLeDiff,   le_big, lt_big, atN_zero, atN_one, atN_two, atN_three, setN_zero, setN_one, popAt_zero, len_zero, len_succ, dMul_r, dMul_l, dDiv_pos, dMod_pos, dAdd_int, dSub_int, dNeg_int, dLt_int, dLe_int, dGt_int, dGe_int, dEq_int, dNe_int, dEq_bl, dNe_bl, dEq_nil, dNe_nil, dIx_lst, dIx_tup, fAbs_int, fInt_bl, fInt_int, fLen_lst, fLen_frz, fLen_tup, ite_true, ite_false, if_true, if_false, Bool.not_true, Bool.not_false, decide_true, decide_false, Bool.true_eq_false, Bool.false_eq_true, reduceIte, reduceCtorEq, turn_nx, turn_ct, turn_bk, turn_rt, turn_rto, turn_xc, sFor_eq, goL_nil, eq_self, *])
local macro_rules | `(tactic| walk_at "evt") => `(tactic| try simp (disch := first | omega | (simp only [List.length_append, List.length_cons, List.length_nil, List.length_map]; omega)) only [sSeq_eq, seq_nx, seq_rt, seq_rto, seq_xc, seq_bk, seq_ct, seq_ite, sAsg, sAsgO, sExpr, sRet, sRetO, sRetN, sIf, sNext, uVar, uC, uUn, uBin, uB, uNot, uAnd, uOr, uTV, uAndV, uOrV, uNotV, uIf, uChain, uNil, uCons, uTup, uLst, uLstO, uFn, uFnO, uFz, uMv, uNew, uCall, uCallO, uCallN, uBinV, uBinW, uBinL, uMeO, uMeL, uFnV, sSetL, sAsgG, gN, gT2, gT3, gT4, iLst, iFn,   bind_ok, bind_xc, of_ok, of_xc, res_ok, res_xc, res0_ok, own_ok, own_xc, fr_nx, fr_rt, fr_rto, fr_xc, fo_rto, fo_xc, liftO_some, dBool_bl, items_lst, items_frz, ent, defU, defO, List.map_cons, List.map_nil, List.length_cons, List.length_nil, List.cons_append, List.nil_append, List.append_nil, List.replicate, List.getElem?_cons_zero, List.getElem?_cons_succ, List.set_cons_zero, List.set_cons_succ, Nat.zero_add, Nat.reduceAdd, Nat.reduceSub, Nat.reduceLeDiff,   le_big, lt_big, atN_zero, atN_one, atN_two, atN_three, setN_zero, setN_one, popAt_zero, len_zero, len_succ, dMul_r, dMul_l, dDiv_pos, dMod_pos, dAdd_int, dSub_int, dNeg_int, dLt_int, dLe_int, dGt_int, dGe_int, dEq_int, dNe_int, dEq_bl, dNe_bl, dEq_nil, dNe_nil, dIx_lst, dIx_tup, fAbs_int, fInt_bl, fInt_int, fLen_lst, fLen_frz, fLen_tup, ite_true, ite_false, if_true, if_false, Bool.not_true, Bool.not_false, decide_true, decide_false, Bool.true_eq_false, Bool.false_eq_true, reduceIte, reduceCtorEq, turn_nx, turn_ct, turn_bk, turn_rt, turn_rto, turn_xc, sFor_eq, goL_nil, eq_self, sRaise, gT2, gT3, gT4, sAsgG, uM1, uOrS, uSlS, uSlW, uCatV, uPart, uNoPart, iStrU, k_colon, k_blank, k_line, k_f, k_s, k_0, k_empty, k_digits, k_abc, k_alpha, k_cue, k_from, k_to, k_at, k_two, k_fto, k_nl, k_a1, dAdd_tx, fLen_tx, fStr_nat, dEq_tx, dNe_tx, dEq_txn, dNe_txn, len_tx, cutS_l1, cutS_b1, cutS_ln, cutS_bn, dIx_tx0, *])
local macro_rules | `(tactic| walk_at "evx") => `(tactic| try simp (disch := first | omega | (simp only [List.length_append, List.length_cons, List.length_nil, List.length_map]; omega)) only [sSeq_eq, seq_nx, seq_rt, seq_rto, seq_xc, seq_bk, seq_ct, seq_ite, sAsg, sAsgO, sExpr, sRet, sRetO, sRetN, sIf, sNext, uVar, uC, uUn, uBin, uB, uNot, uAnd, uOr, uTV, uAndV, uOrV, uNotV, uIf, uChain, uNil, uCons, uTup, uLst, uLstO, uFn, uFnO, uFz, uMv, uNew, uCall, uCallO, uCallN, uBinV, uBinW, uBinL, uMeO, uMeL, uFnV, sSetL, sAsgG, gN, gT2, gT3, gT4, iLst, iFn,   bind_ok, bind_xc, of_ok, of_xc, res_ok, res_xc, res0_ok, own_ok, own_xc, fr_nx, fr_rt, fr_rto, fr_xc, fo_rto, fo_xc, liftO_some, dBool_bl, items_lst, items_frz, ent, defU, defO, List.map_cons, List.map_nil, List.length_cons, List.length_nil, List.cons_append, List.nil_append, List.append_nil, List.replicate, List.getElem?_cons_zero, List.getElem?_cons_succ, List.set_cons_zero, List.set_cons_succ, Nat.zero_add, Nat.reduceAdd, Nat.reduceSub, Nat.reduceLeDiff,   le_big, lt_big, atN_zero, atN_one, atN_two, atN_three, setN_zero, setN_one, popAt_zero, len_zero, len_succ, dMul_r, dMul_l, dDiv_pos, dMod_pos, dAdd_int, dSub_int, dNeg_int, dLt_int, dLe_int, dGt_int, dGe_int, dEq_int, dNe_int, dEq_bl, dNe_bl, dEq_nil, dNe_nil, dIx_lst, dIx_tup, fAbs_int, fInt_bl, fInt_int, fLen_lst, fLen_frz, fLen_tup, ite_true, ite_false, if_true, if_false, Bool.not_true, Bool.not_false, decide_true, decide_false, Bool.true_eq_false, Bool.false_eq_true, reduceIte, reduceCtorEq, turn_nx, turn_ct, turn_bk, turn_rt, turn_rto, turn_xc, sFor_eq, goL_nil, eq_self, sRaise, gT2, gT3, gT4, sAsgG, see_bl, see_int, see_non, see_tup, see_lst, see_str, uBinX, uUnX, uFnX, uFld, sFldU, uMeth, uMethO, uMake, uCatX, uRev, uMethN, uFrzI, uSlV, uM1, uOrS, uSlS, uSlW, uCatV, uPart, uNoPart, iStrU, k_colon, k_blank, k_line, k_f, k_s, k_0, k_empty, k_digits, k_abc, k_alpha, k_cue, k_from, k_to, k_at, k_two, k_fto, k_nl, k_a1, dAdd_tx, fLen_tx, fStr_nat, dEq_tx, dNe_tx, dEq_txn, dNe_txn, len_tx, cutS_l1, cutS_b1, cutS_ln, cutS_bn, dIx_tx0, *])
def l_0 : US := (sAsg 1 (uCall 1 S_law_begun (uCons (uVar 0) uNil)))
def l_1 : US := (sAsg 2 (uCall 1 S_law_cues (uCons (uVar 1) uNil)))
def l_2 : US := (sAsg 3 (uCall 1 S_law_lines (uCons (uVar 2) uNil)))
def l_3 : US := (sAsg 4 (uCall 2 S_law_take (uCons (uVar 1) (uCons (uBinX dAdd (uFnX fLen (uCons (uVar 3) uNil)) (uC (.int 1))) uNil))))
def l_4 : US := (sAsg 5 (uCall 2 S_law_take (uCons (uVar 1) (uCons (uC (.int 9)) uNil))))
def l_5 : US := (sAsg 6 (uBinX dInT (uVar 5) (uTup (uCons (uC (.int 1)) (uCons (uC (.int 2)) uNil)))))
def l_6 : US := (sIf (uB (uVar 6)) (sAsg 3 (uBinX dAdd (uBinX dAdd (uFz (uSlW (uVar 3) uNoPart (uPart (uVar 4)))) (uLst (uCons (uCall 1 S_law_none (uCons (uVar 1) uNil)) uNil))) (uFz (uSlW (uVar 3) (uPart (uVar 4)) uNoPart)))) (sIf (uB (uBinX dGt (uVar 5) (uC (.int 5)))) (sSeq (sAsgG (gT2 3 4) (uCall 3 S_law_odd (uCons (uVar 1) (uCons (uVar 2) (uCons (uVar 3) uNil)))))
    (sAsg 6 (uBinX dGe (uVar 4) (uC (.int 0))))) (sIf (uAnd (uB (uBinX dGt (uVar 5) (uC (.int 2)))) (uB (uBinX dLt (uVar 4) (uFnX fLen (uCons (uVar 3) uNil))))) (sSeq (sAsg 10 (uBinX dIx (uVar 3) (uCall 2 S_law_take (uCons (uVar 1) (uCons (uFnX fLen (uCons (uVar 3) uNil)) uNil)))))
    (sSeq (sIf (uB (uBinX dLt (uVar 5) (uC (.int 5)))) (sAsg 10 (uCall 2 S_law_spoilt (uCons (uVar 1) (uCons (uBinX dIx (uVar 3) (uVar 4)) uNil)))) sNext)
    (sAsg 3 (uBinX dAdd (uBinX dAdd (uFz (uSlW (uVar 3) uNoPart (uPart (uVar 4)))) (uLst (uCons (uVar 10) uNil))) (uFz (uSlW (uVar 3) (uPart (uBinX dAdd (uVar 4) (uCall 2 S_law_take (uCons (uVar 1) (uCons (uC (.int 2)) uNil))))) uNoPart)))))) sNext)))
def l_7 : US := (sAsg 7 (uM1 fJoin (uC (.str (Str.ofString "\n"))) (uVar 3)))
def l_8 : US := (sTryL "BadNote" "line" 8 3 6 4 (sAsg 9 (uNew (uCallO 1 S_read_cues (uCons (uVar 7) uNil)))))
def l_9 : US := (sIf (uOr (uNot (uB (uUnX (dIsi "list") (uVar 9)))) (uAnd (uB (uVar 6)) (uB (uBinX dNe (uVar 3) (uLst (uCons (uC (.str (Str.ofString ""))) uNil)))))) (sRet (uC (.bl false))) sNext)
def l_10 : US := (sRet (uAndV (uCall 1 S_law_good (uCons (uVar 9) uNil)) (uBinX dEq (uM1 fJoin (uC (.str (Str.ofString "\n"))) (uCall 1 S_law_lines (uCons (uVar 9) uNil))) (uVar 7))))
theorem l_top : u_law = (sSeq l_0 (sSeq l_1 (sSeq l_2 (sSeq l_3 (sSeq l_4 (sSeq l_5 (sSeq l_6 (sSeq l_7 (sSeq l_8 (sSeq l_9 l_10)))))))))) := rfl
theorem tryL_nx {y fld : Str} {i jl jn ja : Nat} {b : US} {ρ ρ' : Rho} {om om' : Om} (e : b ρ om = .nx ρ' om') : sTryL y fld i jl jn ja b ρ om = .nx ρ' om' := by
  unfold sTryL
  rw [e]
theorem tryL_xc {y fld : Str} {i jl jn ja : Nat} {b : US} {ρ ρ' : Rho} {om om' : Om} {x : DX} {r : Bool} (e : b ρ om = .xc x ρ' om') (h : lineAns y fld i jl jn ja x ρ' = some r) : sTryL y fld i jl jn ja b ρ om = .rt (.bl r) om' := by
  unfold sTryL
  rw [e]
  dsimp only
  rw [h]
theorem seq_rtd {a b : US} {ρ : Rho} {ω ω' : Om} {d : D} (h : a ρ ω = .rt d ω') : sSeq a b ρ ω = .rt d ω' := by rw [sSeq_eq, h, seq_rt]
theorem ll_le : ∀ (cs : List Cu) (c : Cu), c ∈ cs → c.ws.length < (linesA cs).length
  | d :: cs, c, hc => by
    rw [linesA_cons, List.length_append]
    rcases List.mem_cons.mp hc with rfl | hc
    · unfold linesC
      simp
      omega
    · have := ll_le cs c hc
      omega
section
variable {x0 x1 x2 x3 x4 x5 x6 x7 x8 x9 x10 : Option Sl} {om om' : Om}
theorem s7 {L : List (List Nat)} (h : Lo L) : l_7 [x0, x1, x2, some (.val (.lst (L.map tx))), x4, x5, x6, x7, x8, x9, x10] om = .nx [x0, x1, x2, some (.val (.lst (L.map tx))), x4, x5, x6, some (.val (tx (TL.joinL [10] L))), x8, x9, x10] om := by
  have e := fJoin_tx (s := [10]) (ls := L) (by have := h.tx; simp; omega)
  clear h
  generalize L.map tx = LT at *
  generalize TL.joinL [10] L = T at *
  unfold l_7
  walk_at "evx"
theorem s8_xc {L : List (List Nat)} {T : D} {k : Nat} {at_ : Int} {nh : Bool} (e : S_read_cues [T] om = .xc (errX (k : Int)) om') (hk : lineOk L.length nh at_ (k : Int) = true) : l_8 [x0, x1, x2, some (.val (.lst (L.map tx))), some (.val (.int at_)), x5, some (.val (.bl nh)), some (.val (T)), x8, x9, x10] om = .rt (.bl true) om' := by
  unfold l_8
  refine tryL_xc (x := errX (k : Int)) (ρ' := [x0, x1, x2, some (.val (.lst (L.map tx))), some (.val (.int at_)), x5, some (.val (.bl nh)), some (.val (T)), x8, x9, x10]) ?_ ?_
  · clear hk
    generalize S_read_cues = F at *
    generalize errX (k : Int) = EX at *
    walk_at "evx"
  · rw [← hk]
    show some (lineOk (L.map tx).length nh at_ (k : Int)) = _
    rw [List.length_map]
theorem s8_ok {T : D} {ds : List D} (e : S_read_cues [T] om = .ok (.lst ds) om') : l_8 [x0, x1, x2, x3, x4, x5, x6, some (.val (T)), x8, x9, x10] om = .nx [x0, x1, x2, x3, x4, x5, x6, some (.val (T)), x8, some (.val (.loc om'.length)), x10] (om' ++ [.lst ds]) := by
  unfold l_8
  refine tryL_nx ?_
  generalize S_read_cues = F at *
  walk_at "evx"
theorem s9 {K : Nat} {ds LT : List D} {nh : Bool} (hK : om[K]? = some (.lst ds)) (h : nh = true → LT = [tx []]) : l_9 [x0, x1, x2, some (.val (.lst LT)), x4, x5, some (.val (.bl nh)), x7, x8, some (.val (.loc K)), x10] om = .nx [x0, x1, x2, some (.val (.lst LT)), x4, x5, some (.val (.bl nh)), x7, x8, some (.val (.loc K)), x10] om := by
  have s1 := see_loc om hK
  have i1 : dIsi "list" (.lst ds) = some (.bl true) := isi_of rfl (kb "list" "list" true)
  have ke : D.str (Str.ofString "") = tx [] := k_empty
  clear hK
  cases nh with
  | false =>
    clear h
    unfold l_9
    generalize Str.ofString "" = EM at *
    walk_at "evx"
  | true =>
    have hl := h rfl
    subst hl
    have nn : dNe (.lst [tx []]) (.lst [tx []]) = some (.bl false) := by
      refine dNe_self ?_
      decide +kernel
    clear h
    unfold l_9
    walk_at "evx"
theorem s10 {K : Nat} {T : List Nat} {L : List (List Nat)} (g : S_law_good [.loc K] om = .ok (.bl true) om) (e : S_law_lines [.loc K] om = .ok (.lst (L.map tx)) om) (hl : lens L + L.length ≤ 60000) (hT : TL.joinL [10] L = T) : l_10 [x0, x1, x2, x3, x4, x5, x6, some (.val (tx T)), x8, some (.val (.loc K)), x10] om = .rt (.bl true) om := by
  have j := fJoin_tx (s := [10]) (ls := L) (by simp; omega)
  rw [hT] at j
  have d : decide (T = T) = true := decide_eq_true rfl
  clear hl hT
  generalize L.map tx = LT at *
  unfold l_10
  generalize S_law_good = F1 at *
  generalize S_law_lines = F2 at *
  walk_at "evx"
/-- what lines, a place and a mark must be -/
structure TlOk (L : List (List Nat)) (at_ : Int) (nh : Bool) : Prop where
  lo : Lo L
  nn : nh = true → L = [[]] ∨ ∃ k : Nat, at_ = (k : Int) ∧ readV [] 0 L = .error k
theorem tail_true (om : Om) {L : List (List Nat)} {at_ : Int} {nh : Bool} (h : TlOk L at_ nh) (x0 x1 x2 x5 : Option Sl) (x10 : Option Sl) : ∃ om', (sSeq l_7 (sSeq l_8 (sSeq l_9 l_10))) [x0, x1, x2, some (.val (.lst (L.map tx))), some (.val (.int at_)), x5, some (.val (.bl nh)), none, none, none, x10] om = .rt (.bl true) om' := by
  by_cases h1 : L = [] ∨ L = [[]]
  · have jn : TL.joinL [10] L = [] := by rcases h1 with rfl | rfl <;> rfl
    have r := s7 (x0 := x0) (x1 := x1) (x2 := x2) (x4 := some (.val (.int at_))) (x5 := x5) (x6 := some (.val (.bl nh))) (x7 := none) (x8 := none) (x9 := none) (x10 := x10) (om := om) h.lo
    rw [jn] at r
    have hK : (om ++ [Cell.lst []])[om.length]? = some (.lst (([] : List (Cu × Nat)).map encK)) := by simp
    have g9 := s9 (x0 := x0) (x1 := x1) (x2 := x2) (x4 := some (.val (.int at_))) (x5 := x5) (x7 := some (.val (tx []))) (x8 := none) (x10 := x10) (om := om ++ [Cell.lst []]) (K := om.length) (LT := L.map tx) (nh := nh) hK (fun z => by
      rcases h.nn z with q | ⟨k, _, q⟩
      · rw [q]; rfl
      · rcases h1 with rfl | rfl
        · cases q
        · rfl)
    have gd := good_eq (om := om ++ [Cell.lst []]) (zs := []) hK (by simp) csg_nil
    have le := llines_loc (om ++ [Cell.lst []]) (zs := []) hK (by simp) (by simp) (by simp [linesA])
    refine ⟨om ++ [Cell.lst []], ?_⟩
    rw [seq_go r, seq_go (s8_ok (read_nil om)), seq_go g9]
    exact s10 (L := []) gd le (by simp [lens]) rfl
  · have n1 : L ≠ [] := fun z => h1 (.inl z)
    have n2 : L ≠ [[]] := fun z => h1 (.inr z)
    obtain ⟨r1, r2⟩ := read_gen om h.lo n1 n2
    have r := s7 (x0 := x0) (x1 := x1) (x2 := x2) (x4 := some (.val (.int at_))) (x5 := x5) (x6 := some (.val (.bl nh))) (x7 := none) (x8 := none) (x9 := none) (x10 := x10) (om := om) h.lo
    cases e : readV [] 0 L with
    | error k =>
      obtain ⟨om', e1⟩ := r2 k e
      have bd := readV_err L [] 0 k e
      refine ⟨om', ?_⟩
      rw [seq_go r]
      refine seq_rtd (s8_xc e1 ?_)
      unfold lineOk
      have d1 : decide ((0 : Int) ≤ (k : Int)) = true := decide_eq_true (by omega)
      have d2 : decide ((k : Int) < (L.length : Int)) = true := decide_eq_true (by omega)
      rw [d1, d2]
      cases nh with
      | false => rfl
      | true =>
        rcases h.nn rfl with q | ⟨k', q1, q2⟩
        · exact absurd q n2
        · rw [e] at q2
          injection q2 with q2
          rw [q1, q2]
          simp
    | ok cs =>
      obtain ⟨zs, om', e1, k1, k2⟩ := r1 cs e
      obtain ⟨g, gl, _⟩ := readV_sound _ _ _ _ e csg_nil
      have gl2 : linesA cs = L := by rw [gl]; simp [linesA]
      have hnh : nh = false := by
        cases nh with
        | false => rfl
        | true =>
          rcases h.nn rfl with q | ⟨k', q1, q2⟩
          · exact absurd q n2
          · rw [e] at q2; cases q2
      subst hnh
      have hK : (om' ++ [Cell.lst (zs.map encK)])[om'.length]? = some (.lst (zs.map encK)) := by simp
      have hz : ∀ z ∈ zs, (om' ++ [Cell.lst (zs.map encK)])[z.2]? = some (.lst (z.1.ws.map encW)) := fun z hz => by
        have := k1.ks z hz
        rw [List.getElem?_append_left (List.getElem?_eq_some_iff.mp this).1]
        exact this
      have g9 := s9 (x0 := x0) (x1 := x1) (x2 := x2) (x4 := some (.val (.int at_))) (x5 := x5) (x7 := some (.val (tx (TL.joinL [10] L)))) (x8 := none) (x10 := x10) (om := om' ++ [Cell.lst (zs.map encK)]) (K := om'.length) (LT := L.map tx) (nh := false) hK (fun z => by cases z)
      have gd := good_eq (om := om' ++ [Cell.lst (zs.map encK)]) hK hz (by rw [k2]; exact g)
      have nl := h.lo.n
      have le := llines_loc (om' ++ [Cell.lst (zs.map encK)]) hK hz (fun z hz2 => by
        have hc : z.1 ∈ cs := by rw [← k2]; exact List.mem_map.mpr ⟨z, hz2, rfl⟩
        have gc := g.c z.1 hc
        have wl := ll_le cs z.1 hc
        rw [gl2] at wl
        refine ⟨gc.n0, gc.n1, gc.b.wr, gc.e.wr, fun w hw => ?_, by omega⟩
        obtain ⟨p, q, hpq⟩ := List.append_of_mem hw
        obtain ⟨w1, w2, _⟩ := gc.ws p w q hpq
        exact ⟨(wd_of w1).m, w2.wr⟩) (by rw [k2, gl2]; omega)
      rw [k2, gl2] at le
      refine ⟨om' ++ [Cell.lst (zs.map encK)], ?_⟩
      rw [seq_go r, seq_go (s8_ok e1), seq_go g9]
      exact s10 gd le h.lo.tx.2 rfl
end
end Dv

namespace Dv
open PySem PySem.Spec PyProof.Rows L2
local macro_rules | `(tactic| walk_at "ev") => `(tactic| try simp (disch := omega) only [sSeq_eq, seq_nx, seq_rt, seq_rto, seq_xc, seq_bk, seq_ct, seq_ite, sAsg, sAsgO, sExpr, sRet, sRetO, sRetN, sIf, sNext, uVar, uC, uUn, uBin, uB, uNot, uAnd, uOr, uTV, uAndV, uOrV, uNotV, uIf, uChain, uNil, uCons, uTup, uLst, uLstO, uFn, uFnO, uFz, uMv, uNew, uCall, uCallO, uCallN, uBinV, uBinW, uBinL, uMeO, uMeL, uFnV, sSetL, sAsgG, gN, gT2, gT3, gT4, iLst, iFn,   bind_ok, bind_xc, of_ok, of_xc, res_ok, res_xc, res0_ok, own_ok, own_xc, fr_nx, fr_rt, fr_rto, fr_xc, fo_rto, fo_xc, liftO_some, dBool_bl, items_lst, items_frz, ent, defU, defO, List.map_cons, List.map_nil, List.length_cons, List.length_nil, List.cons_append, List.nil_append, List.append_nil, List.replicate, List.getElem?_cons_zero, List.getElem?_cons_succ, List.set_cons_zero, List.set_cons_succ, Nat.zero_add, Nat.reduceAdd, Nat.reduceSub, Nat.reduceLeDiff,   le_big, lt_big, atN_zero, atN_one, atN_two, atN_three, setN_zero, setN_one, popAt_zero, len_zero, len_succ, dMul_r, dMul_l, dDiv_pos, dMod_pos, dAdd_int, dSub_int, dNeg_int, dLt_int, dLe_int, dGt_int, dGe_int, dEq_int, dNe_int, dEq_bl, dNe_bl, dEq_nil, dNe_nil, dIx_lst, dIx_tup, fAbs_int, fInt_bl, fInt_int, fLen_lst, fLen_frz, fLen_tup, ite_true, ite_false, if_true, if_false, Bool.not_true, Bool.not_false, decide_true, decide_false, Bool.true_eq_false, Bool.false_eq_true, reduceIte, reduceCtorEq, turn_nx, turn_ct, turn_bk, turn_rt, turn_rto, turn_xc, sFor_eq, goL_nil, eq_self])
local macro_rules | `(tactic| walk_at "evs") => `(tactic| try simp (disch := omega) only [sSeq_eq, seq_nx, seq_rt, seq_rto, seq_xc, seq_bk, seq_ct, seq_ite, sAsg, sAsgO, sExpr, sRet, sRetO, sRetN, sIf, sNext, uVar, uC, uUn, uBin, uB, uNot, uAnd, uOr, uTV, uAndV, uOrV, uNotV, uIf, uChain, uNil, uCons, uTup, uLst, uLstO, uFn, uFnO, uFz, uMv, uNew, uCall, uCallO, uCallN, uBinV, uBinW, uBinL, uMeO, uMeL, uFnV, sSetL, sAsgG, gN, gT2, gT3, gT4, iLst, iFn,   bind_ok, bind_xc, of_ok, of_xc, res_ok, res_xc, res0_ok, own_ok, own_xc, fr_nx, fr_rt, fr_rto, fr_xc, fo_rto, fo_xc, liftO_some, dBool_bl, items_lst, items_frz, ent, defU, defO, List.map_cons, List.map_nil, List.length_cons, List.length_nil, List.cons_append, List.nil_append, List.append_nil, List.replicate, List.getElem?_cons_zero, List.getElem?_cons_succ, List.set_cons_zero, List.set_cons_succ, Nat.zero_add, Nat.reduceAdd, Nat.reduceSub, Nat.reduceLeDiff,   le_big, lt_big, atN_zero, atN_one, atN_two, atN_three, setN_zero, setN_one, popAt_zero, len_zero, len_succ, dMul_r, dMul_l, dDiv_pos, dMod_pos, dAdd_int, dSub_int, dNeg_int, dLt_int, dLe_int, dGt_int, dGe_int, dEq_int, dNe_int, dEq_bl, dNe_bl, dEq_nil, dNe_nil, dIx_lst, dIx_tup, fAbs_int, fInt_bl, fInt_int, fLen_lst, fLen_frz, fLen_tup, ite_true, ite_false, if_true, if_false, Bool.not_true, Bool.not_false, decide_true, decide_false, Bool.true_eq_false, Bool.false_eq_true, reduceIte, reduceCtorEq, turn_nx, turn_ct, turn_bk, turn_rt, turn_rto, turn_xc, sFor_eq, goL_nil, eq_self, *])
local macro_rules | `(tactic| walk_at "evt") => `(tactic| try simp (disch := first | omega | (simp only [List.length_append, List.length_cons, List.length_nil, List.length_map]; omega)) only [sSeq_eq, seq_nx, seq_rt, seq_rto, seq_xc, seq_bk, seq_ct, seq_ite, sAsg, sAsgO, sExpr, sRet, sRetO, sRetN, sIf, sNext, uVar, uC, uUn, uBin, uB, uNot, uAnd, uOr, uTV, uAndV, uOrV, uNotV, uIf, uChain, uNil, uCons, uTup, uLst, uLstO, uFn, uFnO, uFz, uMv, uNew, uCall, uCallO, uCallN, uBinV, uBinW, uBinL, uMeO, uMeL, uFnV, sSetL, sAsgG, gN, gT2, gT3, gT4, iLst, iFn,   bind_ok, bind_xc, of_ok, of_xc, res_ok, res_xc, res0_ok, own_ok, own_xc, fr_nx, fr_rt, fr_rto, fr_xc, fo_rto, fo_xc, liftO_some, dBool_bl, items_lst, items_frz, ent, defU, defO, List.map_cons, List.map_nil, List.length_cons, List.length_nil, List.cons_append, List.nil_append, List.append_nil, List.replicate, List.getElem?_cons_zero, List.getElem?_cons_succ, List.set_cons_zero, List.set_cons_succ, Nat.zero_add, Nat.reduceAdd, Nat.reduceSub, Nat.reduceLeDiff,   le_big, lt_big, atN_zero, atN_one, atN_two, atN_three, setN_zero, setN_one, popAt_zero, len_zero, len_succ, dMul_r, dMul_l, dDiv_pos, dMod_pos, dAdd_int, dSub_int, dNeg_int, dLt_int, dLe_int, dGt_int, dGe_int, dEq_int, dNe_int, dEq_bl, dNe_bl, dEq_nil, dNe_nil, dIx_lst, dIx_tup, fAbs_int, fInt_bl, fInt_int, fLen_lst, fLen_frz, fLen_tup, ite_true, ite_false, if_true, if_false, Bool.not_true, Bool.not_false, decide_true, decide_false, Bool.true_eq_false, Bool.false_eq_true, reduceIte, reduceCtorEq, turn_nx, turn_ct, turn_bk, turn_rt, turn_rto, turn_xc, sFor_eq, goL_nil, eq_self, sRaise, gT2, gT3, gT4, sAsgG, uM1, uOrS, uSlS, uSlW, uCatV, uPart, uNoPart, iStrU, k_colon, k_blank, k_line, k_f, k_s, k_0, k_empty, k_digits, k_abc, k_alpha, k_cue, k_from, k_to, k_at, k_two, k_fto, k_nl, k_a1, dAdd_tx, fLen_tx, fStr_nat, dEq_tx, dNe_tx, dEq_txn, dNe_txn, len_tx, cutS_l1, cutS_b1, cutS_ln, cutS_bn, dIx_tx0, *])
local macro_rules | `(tactic| walk_at "evx") => `(tactic| try simp (disch := first | omega | (simp only [List.length_append, List.length_cons, List.length_nil, List.length_map]; omega)) only [sSeq_eq, seq_nx, seq_rt, seq_rto, seq_xc, seq_bk, seq_ct, seq_ite, sAsg, sAsgO, sExpr, sRet, sRetO, sRetN, sIf, sNext, uVar, uC, uUn, uBin, uB, uNot, uAnd, uOr, uTV, uAndV, uOrV, uNotV, uIf, uChain, uNil, uCons, uTup, uLst, uLstO, uFn, uFnO, uFz, uMv, uNew, uCall, uCallO, uCallN, uBinV, uBinW, uBinL, uMeO, uMeL, uFnV, sSetL, sAsgG, gN, gT2, gT3, gT4, iLst, iFn,   bind_ok, bind_xc, of_ok, of_xc, res_ok, res_xc, res0_ok, own_ok, own_xc, fr_nx, fr_rt, fr_rto, fr_xc, fo_rto, fo_xc, liftO_some, dBool_bl, items_lst, items_frz, ent, defU, defO, List.map_cons, List.map_nil, List.length_cons, List.length_nil, List.cons_append, List.nil_append, List.append_nil, List.replicate, List.getElem?_cons_zero, List.getElem?_cons_succ, List.set_cons_zero, List.set_cons_succ, Nat.zero_add, Nat.reduceAdd, Nat.reduceSub, Nat.reduceLeDiff,   le_big, lt_big, atN_zero, atN_one, atN_two, atN_three, setN_zero, setN_one, popAt_zero, len_zero, len_succ, dMul_r, dMul_l, dDiv_pos, dMod_pos, dAdd_int, dSub_int, dNeg_int, dLt_int, dLe_int, dGt_int, dGe_int, dEq_int, dNe_int, dEq_bl, dNe_bl, dEq_nil, dNe_nil, dIx_lst, dIx_tup, fAbs_int, fInt_bl, fInt_int, fLen_lst, fLen_frz, fLen_tup, ite_true, ite_false, if_true, if_false, Bool.not_true, Bool.not_false, decide_true, decide_false, Bool.true_eq_false, Bool.false_eq_true, reduceIte, reduceCtorEq, turn_nx, turn_ct, turn_bk, turn_rt, turn_rto, turn_xc, sFor_eq, goL_nil, eq_self, sRaise, gT2, gT3, gT4, sAsgG, see_bl, see_int, see_non, see_tup, see_lst, see_str, uBinX, uUnX, uFnX, uFld, sFldU, uMeth, uMethO, uMake, uCatX, uRev, uMethN, uFrzI, uSlV, uM1, uOrS, uSlS, uSlW, uCatV, uPart, uNoPart, iStrU, k_colon, k_blank, k_line, k_f, k_s, k_0, k_empty, k_digits, k_abc, k_alpha, k_cue, k_from, k_to, k_at, k_two, k_fto, k_nl, k_a1, dAdd_tx, fLen_tx, fStr_nat, dEq_tx, dNe_tx, dEq_txn, dNe_txn, len_tx, cutS_l1, cutS_b1, cutS_ln, cutS_bn, dIx_tx0, *])
section
variable {x0 x1 x2 x3 x4 x5 x6 x7 x8 x9 x10 : Option Sl} {om om' om2 om3 : Om}
theorem s0 {A B : D} (e : S_law_begun [A] om = .ok B om') : l_0 [some (.val (A)), x1, x2, x3, x4, x5, x6, x7, x8, x9, x10] om = .nx [some (.val (A)), some (.val (B)), x2, x3, x4, x5, x6, x7, x8, x9, x10] om' := by
  unfold l_0
  generalize S_law_begun = F at *
  walk_at "evx"
theorem s1 {A B : D} (e : S_law_cues [A] om = .ok B om') : l_1 [x0, some (.val (A)), x2, x3, x4, x5, x6, x7, x8, x9, x10] om = .nx [x0, some (.val (A)), some (.val (B)), x3, x4, x5, x6, x7, x8, x9, x10] om' := by
  unfold l_1
  generalize S_law_cues = F at *
  walk_at "evx"
theorem s2 {A B : D} (e : S_law_lines [A] om = .ok B om') : l_2 [x0, x1, some (.val (A)), x3, x4, x5, x6, x7, x8, x9, x10] om = .nx [x0, x1, some (.val (A)), some (.val (B)), x4, x5, x6, x7, x8, x9, x10] om' := by
  unfold l_2
  generalize S_law_lines = F at *
  walk_at "evx"
theorem s3 {L : List (List Nat)} {V : Int} (e : S_law_take [.loc 1, .int ((L.length : Int) + 1)] om = .ok (.int V) om') : l_3 [x0, some (.val (.loc 1)), x2, some (.val (.lst (L.map tx))), x4, x5, x6, x7, x8, x9, x10] om = .nx [x0, some (.val (.loc 1)), x2, some (.val (.lst (L.map tx))), some (.val (.int V)), x5, x6, x7, x8, x9, x10] om' := by
  have f1 : fLen [.lst (L.map tx)] = some (.int (L.length : Int)) := by rw [fLen_lst, List.length_map]
  generalize L.map tx = LT at *
  generalize (L.length : Int) = LL at *
  unfold l_3
  generalize S_law_take = F at *
  walk_at "evx"
theorem s4 {V : Int} (e : S_law_take [.loc 1, .int 9] om = .ok (.int V) om') : l_4 [x0, some (.val (.loc 1)), x2, x3, x4, x5, x6, x7, x8, x9, x10] om = .nx [x0, some (.val (.loc 1)), x2, x3, x4, some (.val (.int V)), x6, x7, x8, x9, x10] om' := by
  unfold l_4
  generalize S_law_take = F at *
  walk_at "evx"
theorem s5 {V : Int} {r : Bool} (h : (decide (1 = V) || decide (2 = V)) = r) : l_5 [x0, x1, x2, x3, x4, some (.val (.int V)), x6, x7, x8, x9, x10] om = .nx [x0, x1, x2, x3, x4, some (.val (.int V)), some (.val (.bl r)), x7, x8, x9, x10] om := by
  have e : dInT (.int V) (.tup [.int 1, .int 2]) = some (.bl r) := by rw [← h]; rfl
  clear h
  unfold l_5
  walk_at "evx"
theorem s6_none {L : List (List Nat)} {k : Nat} {l : List Nat} (e : S_law_none [.loc 1] om = .ok (tx l) om') (P : PutF L k k l) : l_6 [x0, some (.val (.loc 1)), x2, some (.val (.lst (L.map tx))), some (.val (.int (k : Int))), x5, some (.val (.bl true)), x7, x8, x9, x10] om = .nx [x0, some (.val (.loc 1)), x2, some (.val (.lst ((putL L k k l).map tx))), some (.val (.int (k : Int))), x5, some (.val (.bl true)), x7, x8, x9, x10] om' := by
  obtain ⟨c1, c2, p1, p2⟩ := P
  generalize (putL L k k l).map tx = T4 at *
  generalize (L.take k ++ [l]).map tx = T3 at *
  generalize (L.take k).map tx = T1 at *
  generalize (L.drop k).map tx = T2 at *
  generalize L.map tx = LT at *
  generalize (k : Int) = KK at *
  unfold l_6
  generalize S_law_none = F1 at *
  generalize S_law_odd = F2 at *
  generalize S_law_spoilt = F3 at *
  generalize S_law_take = F4 at *
  walk_at "evx"
theorem s6_odd {CS LT A : D} {V at_ : Int} (hV : 5 < V) (e : S_law_odd [.loc 1, CS, LT] om = .ok (.tup [A, .int at_]) om') : l_6 [x0, some (.val (.loc 1)), some (.val (CS)), some (.val (LT)), x4, some (.val (.int V)), some (.val (.bl false)), x7, x8, x9, x10] om = .nx [x0, some (.val (.loc 1)), some (.val (CS)), some (.val (A)), some (.val (.int at_)), some (.val (.int V)), some (.val (.bl (decide (0 ≤ at_)))), x7, x8, x9, x10] om' := by
  have d : decide (5 < V) = true := decide_eq_true hV
  clear hV
  unfold l_6
  generalize S_law_none = F1 at *
  generalize S_law_odd = F2 at *
  generalize S_law_spoilt = F3 at *
  generalize S_law_take = F4 at *
  walk_at "evx"
theorem s6_skip {L : List (List Nat)} {V k : Int} (hV : ¬ 5 < V) (h : ¬ 2 < V ∨ ¬ k < (L.length : Int)) : l_6 [x0, x1, x2, some (.val (.lst (L.map tx))), some (.val (.int k)), some (.val (.int V)), some (.val (.bl false)), x7, x8, x9, x10] om = .nx [x0, x1, x2, some (.val (.lst (L.map tx))), some (.val (.int k)), some (.val (.int V)), some (.val (.bl false)), x7, x8, x9, x10] om := by
  have d : decide (5 < V) = false := decide_eq_false hV
  have f1 : fLen [.lst (L.map tx)] = some (.int (L.length : Int)) := by rw [fLen_lst, List.length_map]
  by_cases h2 : 2 < V
  · have d2 : decide (2 < V) = true := decide_eq_true h2
    have d3 : decide (k < (L.length : Int)) = false := decide_eq_false (by omega)
    clear hV h h2
    generalize L.map tx = LT at *
    generalize (L.length : Int) = LL at *
    unfold l_6
    generalize S_law_none = F1 at *
    generalize S_law_odd = F2 at *
    generalize S_law_spoilt = F3 at *
    generalize S_law_take = F4 at *
    walk_at "evx"
  · have d2 : decide (2 < V) = false := decide_eq_false h2
    clear hV h h2 f1
    generalize L.map tx = LT at *
    unfold l_6
    generalize S_law_none = F1 at *
    generalize S_law_odd = F2 at *
    generalize S_law_spoilt = F3 at *
    generalize S_law_take = F4 at *
    walk_at "evx"
theorem s6_spoilt {L : List (List Nat)} {V v t : Int} {k k2 : Nat} {l0 lk l : List Nat} (hV : 2 < V ∧ V < 5) (hk : (k : Int) < (L.length : Int)) (e1 : S_law_take [.loc 1, .int (L.length : Int)] om = .ok (.int v) om') (a1 : atN (L.map tx) v = some (tx l0)) (a2 : atN (L.map tx) (k : Int) = some (tx lk)) (e2 : S_law_spoilt [.loc 1, tx lk] om' = .ok (tx l) om2) (e3 : S_law_take [.loc 1, .int 2] om2 = .ok (.int t) om3) (hk2 : (k : Int) + t = (k2 : Int)) (P : PutF L k k2 l) :
    l_6 [x0, some (.val (.loc 1)), x2, some (.val (.lst (L.map tx))), some (.val (.int (k : Int))), some (.val (.int V)), some (.val (.bl false)), x7, x8, x9, x10] om = .nx [x0, some (.val (.loc 1)), x2, some (.val (.lst ((putL L k k2 l).map tx))), some (.val (.int (k : Int))), some (.val (.int V)), some (.val (.bl false)), x7, x8, x9, some (.val (tx l))] om3 := by
  obtain ⟨c1, c2, p1, p2⟩ := P
  have d : decide (5 < V) = false := decide_eq_false (by omega)
  have d2 : decide (2 < V) = true := decide_eq_true (by omega)
  have d3 : decide ((k : Int) < (L.length : Int)) = true := decide_eq_true hk
  have d4 : decide (V < 5) = true := decide_eq_true (by omega)
  have f1 : fLen [.lst (L.map tx)] = some (.int (L.length : Int)) := by rw [fLen_lst, List.length_map]
  clear hV hk
  generalize (putL L k k2 l).map tx = T4 at *
  generalize (L.take k ++ [l]).map tx = T3 at *
  generalize (L.take k).map tx = T1 at *
  generalize (L.drop k2).map tx = T2 at *
  generalize L.map tx = LT at *
  generalize (L.length : Int) = LL at *
  generalize (k : Int) = KK at *
  generalize (k2 : Int) = KK2 at *
  unfold l_6
  generalize S_law_none = F1 at *
  generalize S_law_odd = F2 at *
  generalize S_law_spoilt = F3 at *
  generalize S_law_take = F4 at *
  walk_at "evx"
theorem s6_again {L : List (List Nat)} {v t : Int} {k k2 : Nat} {l : List Nat} (hk : (k : Int) < (L.length : Int)) (e1 : S_law_take [.loc 1, .int (L.length : Int)] om = .ok (.int v) om') (a1 : atN (L.map tx) v = some (tx l)) (e3 : S_law_take [.loc 1, .int 2] om' = .ok (.int t) om3) (hk2 : (k : Int) + t = (k2 : Int)) (P : PutF L k k2 l) :
    l_6 [x0, some (.val (.loc 1)), x2, some (.val (.lst (L.map tx))), some (.val (.int (k : Int))), some (.val (.int 5)), some (.val (.bl false)), x7, x8, x9, x10] om = .nx [x0, some (.val (.loc 1)), x2, some (.val (.lst ((putL L k k2 l).map tx))), some (.val (.int (k : Int))), some (.val (.int 5)), some (.val (.bl false)), x7, x8, x9, some (.val (tx l))] om3 := by
  obtain ⟨c1, c2, p1, p2⟩ := P
  have d : decide ((5 : Int) < 5) = false := by decide
  have d2 : decide ((2 : Int) < 5) = true := by decide
  have d3 : decide ((k : Int) < (L.length : Int)) = true := decide_eq_true hk
  have f1 : fLen [.lst (L.map tx)] = some (.int (L.length : Int)) := by rw [fLen_lst, List.length_map]
  clear hk
  generalize (putL L k k2 l).map tx = T4 at *
  generalize (L.take k ++ [l]).map tx = T3 at *
  generalize (L.take k).map tx = T1 at *
  generalize (L.drop k2).map tx = T2 at *
  generalize L.map tx = LT at *
  generalize (L.length : Int) = LL at *
  generalize (k : Int) = KK at *
  generalize (k2 : Int) = KK2 at *
  unfold l_6
  generalize S_law_none = F1 at *
  generalize S_law_odd = F2 at *
  generalize S_law_spoilt = F3 at *
  generalize S_law_take = F4 at *
  walk_at "evx"
end
theorem cul_of {c : Cu} (h : CuOk c) : CuL c := ⟨h.n0, h.n1, h.b.wr, h.e.wr, fun w hw => ⟨(h.ws w hw).1.m, (h.ws w hw).2.1.wr⟩, by have := h.len; omega⟩
theorem six {cs : List Cu} (h : Dr cs) (h8 : cs.length ≤ 8) (b : Box) (x0 : Option Sl) {k : Nat} (hk : k ≤ (linesA cs).length) {V : Int} (v0 : 0 ≤ V) (v1 : V < 9) :
    ∃ (L : List (List Nat)) (at_ : Int) (nh : Bool) (b' : Box) (x10 : Option Sl), (sSeq l_5 (sSeq l_6 (sSeq l_7 (sSeq l_8 (sSeq l_9 l_10))))) [x0, some (.val (.loc 1)), some (.val (.lst (cs.map encCu))), some (.val (.lst ((linesA cs).map tx))), some (.val (.int (k : Int))), some (.val (.int V)), none, none, none, none, none] (bom b []) =
      (sSeq l_7 (sSeq l_8 (sSeq l_9 l_10))) [x0, some (.val (.loc 1)), some (.val (.lst (cs.map encCu))), some (.val (.lst (L.map tx))), some (.val (.int at_)), some (.val (.int V)), some (.val (.bl nh)), none, none, none, x10] (bom b' []) ∧ TlOk L at_ nh := by
  obtain ⟨ln, ll⟩ := dr_lines h h8
  have lo : Lo (linesA cs) := ⟨by omega, fun l hl => ⟨by have := (ll l hl).1; omega, (ll l hl).2⟩⟩
  by_cases w12 : V = 1 ∨ V = 2
  · have r5 := s5 (x0 := x0) (x1 := some (.val (.loc 1))) (x2 := some (.val (.lst (cs.map encCu)))) (x3 := some (.val (.lst ((linesA cs).map tx)))) (x4 := some (.val (.int (k : Int)))) (x6 := none) (x7 := none) (x8 := none) (x9 := none) (x10 := none) (om := bom b []) (V := V) (r := true) (by rcases w12 with z | z <;> subst z <;> decide)
    obtain ⟨l, hl, e⟩ := none_eq [] b
    have nl := nones_len l hl
    have P := put_f (L := linesA cs) (by omega) hk hk l
    refine ⟨_, _, true, _, none, by rw [seq_go r5, seq_go (s6_none e P)], dr_lo h h8 (Nat.le_refl _) ⟨by omega, nl.2⟩, fun _ => .inr ⟨k, rfl, none_put h hk (nones_ok l hl) _⟩⟩
  · have r5 := s5 (x0 := x0) (x1 := some (.val (.loc 1))) (x2 := some (.val (.lst (cs.map encCu)))) (x3 := some (.val (.lst ((linesA cs).map tx)))) (x4 := some (.val (.int (k : Int)))) (x6 := none) (x7 := none) (x8 := none) (x9 := none) (x10 := none) (om := bom b []) (V := V) (r := false) (by
      rw [decide_eq_false (fun z => w12 (.inl z.symm)), decide_eq_false (fun z => w12 (.inr z.symm))]
      rfl)
    by_cases w5 : 5 < V
    · obtain ⟨L', at_, b', e, o⟩ := odd_eq [] h h8 b
      refine ⟨L', at_, decide (0 ≤ at_), b', none, by rw [seq_go r5, seq_go (s6_odd w5 e)], ?_, fun z => ?_⟩
      · rcases o with ⟨_, _, rfl⟩ | ⟨q, _⟩
        · exact lo
        · exact q
      · rcases o with ⟨_, q, _⟩ | ⟨_, q⟩
        · rw [q] at z
          cases z
        · exact .inr q
    · by_cases w2 : 2 < V ∧ (k : Int) < ((linesA cs).length : Int)
      · have e1 := take_eq (m := ((linesA cs).length : Int)) b [] (by omega) (by omega)
        have t0 := tkv_nn (m := ((linesA cs).length : Int)) b (by omega)
        have t1 := tkv_lt (m := ((linesA cs).length : Int)) b (by omega)
        obtain ⟨v, hv⟩ : ∃ v : Nat, tkv ((linesA cs).length : Int) b = (v : Int) := ⟨(tkv ((linesA cs).length : Int) b).toNat, by omega⟩
        rw [hv] at e1
        have vl : v < (linesA cs).length := by omega
        have kl : k < (linesA cs).length := by omega
        have a1 : atN ((linesA cs).map tx) (v : Int) = some (tx (linesA cs)[v]) := atN_nat (by rw [List.getElem?_map, List.getElem?_eq_getElem vl]; rfl)
        have a2 : atN ((linesA cs).map tx) (k : Int) = some (tx (linesA cs)[k]) := atN_nat (by rw [List.getElem?_map, List.getElem?_eq_getElem kl]; rfl)
        by_cases w4 : V < 5
        · have lk := ll _ (List.getElem_mem kl)
          obtain ⟨l', b', e2, q1, q2⟩ := spoilt_eq [] (linesA cs)[k] lk.1 lk.2 (tkn ((linesA cs).length : Int) b)
          have e3 := take_eq (m := 2) b' [] (by decide) (by decide)
          have u0 := tkv_nn (m := 2) b' (by decide)
          have u1 := tkv_lt (m := 2) b' (by decide)
          obtain ⟨k2, hk2⟩ : ∃ k2 : Nat, (k : Int) + tkv 2 b' = (k2 : Int) := ⟨((k : Int) + tkv 2 b').toNat, by omega⟩
          have P := put_f (L := linesA cs) (by omega) (k := k) (k2 := k2) (by omega) (by omega) l'
          exact ⟨_, _, false, _, _, by rw [seq_go r5, seq_go (s6_spoilt ⟨w2.1, w4⟩ w2.2 e1 a1 a2 e2 e3 hk2 P)], dr_lo h h8 (by omega) ⟨by omega, q2⟩, fun z => by cases z⟩
        · have z5 : V = 5 := by omega
          subst z5
          have e3 := take_eq (m := 2) (tkn ((linesA cs).length : Int) b) [] (by decide) (by decide)
          have u0 := tkv_nn (m := 2) (tkn ((linesA cs).length : Int) b) (by decide)
          have u1 := tkv_lt (m := 2) (tkn ((linesA cs).length : Int) b) (by decide)
          obtain ⟨k2, hk2⟩ : ∃ k2 : Nat, (k : Int) + tkv 2 (tkn ((linesA cs).length : Int) b) = (k2 : Int) := ⟨((k : Int) + tkv 2 (tkn ((linesA cs).length : Int) b)).toNat, by omega⟩
          have lv := ll _ (List.getElem_mem vl)
          have P := put_f (L := linesA cs) (by omega) (k := k) (k2 := k2) (by omega) (by omega) (linesA cs)[v]
          exact ⟨_, _, false, _, _, by rw [seq_go r5, seq_go (s6_again w2.2 e1 a1 e3 hk2 P)], dr_lo h h8 (by omega) ⟨by omega, lv.2⟩, fun z => by cases z⟩
      · exact ⟨_, _, false, _, none, by rw [seq_go r5, seq_go (s6_skip w5 (by omega))], lo, fun z => by cases z⟩
theorem law_true (ns : List Int) (hns : ns.length ≤ 63) : ∃ om, S_law [.frz (ns.map D.int)] [] = .ok (.bl true) om := by
  obtain ⟨b0, e0⟩ := begun_eq ns
  obtain ⟨cs, b1, e1, c1, c2, c3⟩ := cues_eq [] b0
  have h : Dr cs := ⟨c1, c2⟩
  obtain ⟨ln, _⟩ := dr_lines h c3
  have e2 := llines_val (bom b1 []) (cs := cs) (fun c hc => cul_of (c1 c hc)) (by omega)
  have e3 := take_eq (m := ((linesA cs).length : Int) + 1) b1 [] (by omega) (by omega)
  have k0 := tkv_nn (m := ((linesA cs).length : Int) + 1) b1 (by omega)
  have k1 := tkv_lt (m := ((linesA cs).length : Int) + 1) b1 (by omega)
  obtain ⟨k, hk⟩ : ∃ k : Nat, tkv (((linesA cs).length : Int) + 1) b1 = (k : Int) := ⟨(tkv (((linesA cs).length : Int) + 1) b1).toNat, by omega⟩
  rw [hk] at e3
  have e4 := take_eq (m := 9) (tkn (((linesA cs).length : Int) + 1) b1) [] (by decide) (by decide)
  have v0 := tkv_nn (m := 9) (tkn (((linesA cs).length : Int) + 1) b1) (by decide)
  have v1 := tkv_lt (m := 9) (tkn (((linesA cs).length : Int) + 1) b1) (by decide)
  obtain ⟨L, at_, nh, b', x10, e6, tl⟩ := six h c3 (tkn 9 (tkn (((linesA cs).length : Int) + 1) b1)) (some (.val (.frz (ns.map D.int)))) (k := k) (by omega) v0 v1
  obtain ⟨om', e7⟩ := tail_true (bom b' []) tl (some (.val (.frz (ns.map D.int)))) (some (.val (.loc 1))) (some (.val (.lst (cs.map encCu)))) (some (.val (.int (tkv 9 (tkn (((linesA cs).length : Int) + 1) b1))))) x10
  have key : u_law [some (.val (.frz (ns.map D.int))), none, none, none, none, none, none, none, none, none, none] [] = .rt (.bl true) om' := by
    rw [l_top, seq_go (s0 e0), seq_go (s1 e1), seq_go (s2 e2), seq_go (s3 e3), seq_go (s4 e4), e6]
    exact e7
  refine ⟨om', ?_⟩
  unfold S_law defU
  show (u_law [some (.val (.frz (ns.map D.int))), none, none, none, none, none, none, none, none, none, none] []).fr = _
  rw [key]
  rfl
end Dv

open PySem PySem.W PyProof.Rows in
set_option maxRecDepth 100000 in
set_option maxHeartbeats 0 in
theorem PySem.Challenge.cw_reels_k19_whole_cues_read_holds : PySem.Challenge.rw_reels_k19_whole_cues_read.Holds := by
  w_on; o_law; k_head; (case hw => w_witness2)
  k_fill
  refine L2.walk_ofK (l := PySem.Challenge.rw_reels_k19_whole_cues_read) (n := 63) (k := 8) (x := "_law_script") (CX := L2.CX0) (sp := Dv.spLaw Dv.S_law) rfl (by decide) rfl ⟨rfl, by decide, by decide⟩ (fun w h Y => PySem.W.kIn_of Y) ?F (fun K H a ns hl hO hS => fun cls => Dv.law_sp hO hS (Dv.law_true ns hl)) (fun _ _ _ _ z => z)
  case F =>
    intro w mg fa h KX G hmg
    refine Dv.fin KX hmg ?T
    constructor
    · refine' Dv.at_mk KX G ?a ?l ?c ?k
      (case a => k_is)
      (case l => k_is)
      (case c => k_is)
      (case k => k_is)
    · refine' Dv.at_mk KX G ?a ?l ?c ?k
      (case a => k_is)
      (case l => k_is)
      (case c => k_is)
      (case k => k_is)
    · refine' Dv.at_mk KX G ?a ?l ?c ?k
      (case a => k_is)
      (case l => k_is)
      (case c => k_is)
      (case k => k_is)
    · refine' Dv.at_mk KX G ?a ?l ?c ?k
      (case a => k_is)
      (case l => k_is)
      (case c => k_is)
      (case k => k_is)
    · refine' Dv.at_mk KX G ?a ?l ?c ?k
      (case a => k_is)
      (case l => k_is)
      (case c => k_is)
      (case k => k_is)
    · refine' Dv.at_mk KX G ?a ?l ?c ?k
      (case a => k_is)
      (case l => k_is)
      (case c => k_is)
      (case k => k_is)
    · refine' Dv.at_mk KX G ?a ?l ?c ?k
      (case a => k_is)
      (case l => k_is)
      (case c => k_is)
      (case k => k_is)
    · refine' Dv.at_mk KX G ?a ?l ?c ?k
      (case a => k_is)
      (case l => k_is)
      (case c => k_is)
      (case k => k_is)
    · refine' Dv.at_mk KX G ?a ?l ?c ?k
      (case a => k_is)
      (case l => k_is)
      (case c => k_is)
      (case k => k_is)
    · refine' Dv.at_mk KX G ?a ?l ?c ?k
      (case a => k_is)
      (case l => k_is)
      (case c => k_is)
      (case k => k_is)
    · refine' Dv.at_mk KX G ?a ?l ?c ?k
      (case a => k_is)
      (case l => k_is)
      (case c => k_is)
      (case k => k_is)
    · refine' Dv.at_mk KX G ?a ?l ?c ?k
      (case a => k_is)
      (case l => k_is)
      (case c => k_is)
      (case k => k_is)
    · refine' Dv.at_mk KX G ?a ?l ?c ?k
      (case a => k_is)
      (case l => k_is)
      (case c => k_is)
      (case k => k_is)
    · refine' Dv.at_mk KX G ?a ?l ?c ?k
      (case a => k_is)
      (case l => k_is)
      (case c => k_is)
      (case k => k_is)
    · refine' Dv.at_mk KX G ?a ?l ?c ?k
      (case a => k_is)
      (case l => k_is)
      (case c => k_is)
      (case k => k_is)
    · refine' Dv.at_mk KX G ?a ?l ?c ?k
      (case a => k_is)
      (case l => k_is)
      (case c => k_is)
      (case k => k_is)
    · refine' Dv.at_mk KX G ?a ?l ?c ?k
      (case a => k_is)
      (case l => k_is)
      (case c => k_is)
      (case k => k_is)
    · refine' Dv.at_mk KX G ?a ?l ?c ?k
      (case a => k_is)
      (case l => k_is)
      (case c => k_is)
      (case k => k_is)
    · refine' Dv.at_mk KX G ?a ?l ?c ?k
      (case a => k_is)
      (case l => k_is)
      (case c => k_is)
      (case k => k_is)
    · refine' Dv.at_mk KX G ?a ?l ?c ?k
      (case a => k_is)
      (case l => k_is)
      (case c => k_is)
      (case k => k_is)
    · refine' Dv.at_mk KX G ?a ?l ?c ?k
      (case a => k_is)
      (case l => k_is)
      (case c => k_is)
      (case k => k_is)
    · refine' Dv.at_mk KX G ?a ?l ?c ?k
      (case a => k_is)
      (case l => k_is)
      (case c => k_is)
      (case k => k_is)
    · refine' Dv.at_mk KX G ?a ?l ?c ?k
      (case a => k_is)
      (case l => k_is)
      (case c => k_is)
      (case k => k_is)
    · refine' Dv.at_mk KX G ?a ?l ?c ?k
      (case a => k_is)
      (case l => k_is)
      (case c => k_is)
      (case k => k_is)
    · refine' Dv.at_mk KX G ?a ?l ?c ?k
      (case a => k_is)
      (case l => k_is)
      (case c => k_is)
      (case k => k_is)
    · refine' Dv.at_mk KX G ?a ?l ?c ?k
      (case a => k_is)
      (case l => k_is)
      (case c => k_is)
      (case k => k_is)
    · refine' Dv.at_mk KX G ?a ?l ?c ?k
      (case a => k_is)
      (case l => k_is)
      (case c => k_is)
      (case k => k_is)
    · refine' Dv.at_mk KX G ?a ?l ?c ?k
      (case a => k_is)
      (case l => k_is)
      (case c => k_is)
      (case k => k_is)
    · refine' Dv.at_mk KX G ?a ?l ?c ?k
      (case a => k_is)
      (case l => k_is)
      (case c => k_is)
      (case k => k_is)
    · refine' Dv.at_mk KX G ?a ?l ?c ?k
      (case a => k_is)
      (case l => k_is)
      (case c => k_is)
      (case k => k_is)
    · refine' Dv.at_mk KX G ?a ?l ?c ?k
      (case a => k_is)
      (case l => k_is)
      (case c => k_is)
      (case k => k_is)
    · refine' PySem.W.mg_none_of KX G ?z
      (case z => k_is)
    · refine' PySem.W.mg_none_of KX G ?z
      (case z => k_is)
    · refine' PySem.W.mg_none_of KX G ?z
      (case z => k_is)
    · refine' PySem.W.mg_none_of KX G ?z
      (case z => k_is)
    · refine' PySem.W.mg_none_of KX G ?z
      (case z => k_is)
    · refine' PySem.W.mg_none_of KX G ?z
      (case z => k_is)
    · refine' PySem.W.mg_none_of KX G ?z
      (case z => k_is)
    · refine' PySem.W.mg_none_of KX G ?z
      (case z => k_is)
    · refine' PySem.W.mg_none_of KX G ?z
      (case z => k_is)
    · refine' PySem.W.mg_none_of KX G ?z
      (case z => k_is)
    · refine' PySem.W.mg_none_of KX G ?z
      (case z => k_is)
    · refine' PySem.W.mg_none_of KX G ?z
      (case z => k_is)
    · refine' Dv.const_int (PySem.W.mg_of KX G ?a)
      (case a => k_is)
    · refine' Dv.exm_mk KX G ?a ?k ?b ?t ?i ?x
      (case a => k_is)
      (case k => k_is)
      (case b => k_is)
      (case t => k_is)
      (case i => k_is)
      (case x => k_exc)
    · refine' Dv.const_str (PySem.W.mg_of KX G ?a)
      (case a => k_is)
    · refine' Dv.const_int (PySem.W.mg_of KX G ?a)
      (case a => k_is)
    · refine' Dv.const_str (PySem.W.mg_of KX G ?a)
      (case a => k_is)
    · refine' Dv.exf_mk KX G ?a ?k ?b ?t ?i
      (case a => k_is)
      (case k => k_is)
      (case b => k_is)
      (case t => k_is)
      (case i => k_is)
    · refine' (Dv.KnOk.cons ?nBadTime0 (Dv.KnOk.cons ?nBadTime1 Dv.KnOk.nil))
      · refine' Dv.sub_mk KX G ?a ?b ?s
        (case a => k_is)
        (case b => k_is)
        (case s => first | rfl | k_is)
      · refine' Dv.sub_mk KX G ?a ?b ?s
        (case a => k_is)
        (case b => k_is)
        (case s => first | rfl | k_is)
    · refine' Dv.bn_mk KX G ?aC ?a0 ?xL ?sa ?eC ?tC ?kC ?rd ?ga ?at0 ?no ?a1 ?t1 ?l1 ?c1 ?k1
      (case aC => k_is)
      (case a0 => k_is)
      (case xL => k_is)
      (case sa => k_is)
      (case eC => k_is)
      (case tC => k_is)
      (case kC => k_is)
      (case rd => k_is)
      (case ga => k_is)
      (case at0 => k_is)
      (case no => k_is)
      (case a1 => k_is)
      (case t1 => k_is)
      (case l1 => k_is)
      (case c1 => k_is)
      (case k1 => k_is)
    · refine' Dv.exf_mk KX G ?a ?k ?b ?t ?i
      (case a => k_is)
      (case k => k_is)
      (case b => k_is)
      (case t => k_is)
      (case i => k_is)
    · refine' (Dv.KnOk.cons ?nReelError0 (Dv.KnOk.cons ?nReelError1 Dv.KnOk.nil))
      · refine' Dv.sub_mk KX G ?a ?b ?s
        (case a => k_is)
        (case b => k_is)
        (case s => first | rfl | k_is)
      · refine' Dv.sub_mk KX G ?a ?b ?s
        (case a => k_is)
        (case b => k_is)
        (case s => first | rfl | k_is)
    · refine' (Dv.EcOk.cons ?eReelError_BadTime (Dv.EcOk.cons ?eReelError_BadNote Dv.EcOk.nil))
      · refine' Dv.ec_mk KX G ?a ?s ?h1 ?h2 ?h3 ?h4 ?h5 ?h6 ?h7 ?h8
        (case a => first | k_is | rfl)
        (case s => first | k_is | rfl)
        (case h1 => first | k_is | rfl)
        (case h2 => first | k_is | rfl)
        (case h3 => first | k_is | rfl)
        (case h4 => first | k_is | rfl)
        (case h5 => first | k_is | rfl)
        (case h6 => first | k_is | rfl)
        (case h7 => first | k_is | rfl)
        (case h8 => first | k_is | rfl)
      · refine' Dv.ec_mk KX G ?a ?s ?h1 ?h2 ?h3 ?h4 ?h5 ?h6 ?h7 ?h8
        (case a => first | k_is | rfl)
        (case s => first | k_is | rfl)
        (case h1 => first | k_is | rfl)
        (case h2 => first | k_is | rfl)
        (case h3 => first | k_is | rfl)
        (case h4 => first | k_is | rfl)
        (case h5 => first | k_is | rfl)
        (case h6 => first | k_is | rfl)
        (case h7 => first | k_is | rfl)
        (case h8 => first | k_is | rfl)
    · refine' Dv.exf_mk KX G ?a ?k ?b ?t ?i
      (case a => k_is)
      (case k => k_is)
      (case b => k_is)
      (case t => k_is)
      (case i => k_is)
    · refine' (Dv.KnOk.cons ?nBadNote0 (Dv.KnOk.cons ?nBadNote1 Dv.KnOk.nil))
      · refine' Dv.sub_mk KX G ?a ?b ?s
        (case a => k_is)
        (case b => k_is)
        (case s => first | rfl | k_is)
      · refine' Dv.sub_mk KX G ?a ?b ?s
        (case a => k_is)
        (case b => k_is)
        (case s => first | rfl | k_is)
    · refine' (Dv.KnOk.cons ?nValueError0 (Dv.KnOk.cons ?nValueError1 Dv.KnOk.nil))
      · refine' Dv.subT_mk KX G ?a ?s
        (case a => k_is)
        (case s => k_is)
      · refine' Dv.subT_mk KX G ?a ?s
        (case a => k_is)
        (case s => k_is)
