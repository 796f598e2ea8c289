import PyProof.Rows.All
import Wide.All
import OpenK.AllK
import Wide.FinOn
import HandS.ForMost
import HandS.ForExc
import HandS.Wide
import HandS.Flow
import HandS.IsInst
import PyProof.NeData
import HandS.ExcOwn
import HandS.ExcIs
import HandS.TryOnly
import HandS.Text
import HandS.StrMore
import HandS.SortOrd
import HandS.SortRule
import HandS.SortInts
import HandS.RevTup
import HandS.Rev
import PyProof.ListNew
import PySem.Challenge.RW_reels_k14_moved_keep_the_rule
set_option Elab.async false
set_option linter.all false
set_option maxRecDepth 100000
set_option maxHeartbeats 2000000
/-! A layer of plain data over HandS: D values (trees), own slots, shared cells; an evaluator on them; its soundness, construct by construct. -/
namespace Dv
open PySem PySem.Spec PyProof.Rows L2

/-! ### data -/
inductive D where
  | non
  | bl (b : Bool)
  | int (i : Int)
  | str (x : Str)
  | tup (ds : List D)
  | lst (ds : List D)
  | obj (c : Str) (fs : List (Str × D))
  | loc (i : Nat)
  | frz (ds : List D)
  deriving Inhabited
inductive Cell where
  | gone
  | lst (ds : List D)
  | ins (c : Str) (fs : List (Str × D))
  deriving Inhabited
structure DX where
  c : Str
  fs : List (Str × D)
inductive Sl where
  | val (d : D)
  | own (ds : List D)
  | exc (x : DX)
abbrev Rho := List (Option Sl)
abbrev Om := List Cell
inductive Res (τ : Type) where
  | ok (t : τ) (r : Rho) (o : Om)
  | xc (x : DX) (r : Rho) (o : Om)
  | no
@[simp] def Res.bind {τ υ : Type} : Res τ → (τ → Rho → Om → Res υ) → Res υ
  | .ok t r o, f => f t r o
  | .xc x r o, _ => .xc x r o
  | .no, _ => .no

/-- what a def of the text answers -/
inductive FR where
  | ok (d : D) (o : Om)
  | xc (x : DX) (o : Om)
  | no
@[simp] def FR.res : FR → Rho → Res D
  | .ok d o, r => .ok d r o
  | .xc x o, r => .xc x r o
  | .no, _ => .no
@[simp] def liftO {τ : Type} : Option τ → Rho → Om → Res τ
  | some t, r, o => .ok t r o
  | none, _, _ => .no

/-- the static facts: the written part, the classes' addresses -/
structure G where
  K : PySem.W.Frag
  cls : Str → Addr
  ex : Option (Nat × Addr × Str)
abbrev gK (K : PySem.W.Frag) (cls : Str → Addr) : G := ⟨K, cls, none⟩

/-- a list that is locked (the script), or stands in the written part -/
def FzL (K : PySem.W.Frag) (H : Hp) (a : Addr) (xs : List V) : Prop :=
  (∃ o, H a = some (.frz o (.lst xs))) ∨ ∃ (o : Obj) (its : Array Value) (n : Nat), K.lookup a = some o ∧ o.cls = .type "list" ∧ o.dict = none ∧ o.data = .seq its n ∧ its.size ≤ sizeLine ∧ Vals xs its.toList
theorem FzL.sq {K : PySem.W.Frag} {H : Hp} {a : Addr} {xs : List V} (h : FzL K H a xs) : SqL K H a xs := h.elim (fun ⟨o, h⟩ => .inl (.inr ⟨o, h⟩)) .inr
section
variable (g : G) (al : List Addr) (L : Addr → Prop) (H : Hp)
mutual
inductive RepV : V → D → Prop
  | non : RepV .non .non
  | bl {b : Bool} : RepV (.bl b) (.bl b)
  | int {i : Int} : RepV (.int i) (.int i)
  | str {x : Str} : RepV (.str x) (.str x)
  | tup {a : Addr} {vs : List V} {ds : List D} : SqT g.K H a vs → RepVs vs ds → RepV (.ref a) (.tup ds)
  | lst {a : Addr} {vs : List V} {ds : List D} : H a = some (.lst vs) → ¬ L a → RepVs vs ds → RepV (.ref a) (.lst ds)
  | frz {a : Addr} {vs : List V} {ds : List D} : FzL g.K H a vs → RepVs vs ds → RepV (.ref a) (.frz ds)
  | obj {a dx : Addr} {c : Str} {fvs : List (Str × V)} {fs : List (Str × D)} : H a = some (.ins (g.cls c) dx fvs) → ¬ L a → RepFs fvs fs → RepV (.ref a) (.obj c fs)
  | loc {i : Nat} {a : Addr} : al[i]? = some a → RepV (.ref a) (.loc i)
inductive RepVs : List V → List D → Prop
  | nil : RepVs [] []
  | cons {v : V} {vs : List V} {d : D} {ds : List D} : RepV v d → RepVs vs ds → RepVs (v :: vs) (d :: ds)
inductive RepFs : List (Str × V) → List (Str × D) → Prop
  | nil : RepFs [] []
  | cons {f : Str} {v : V} {vs : List (Str × V)} {d : D} {ds : List (Str × D)} : RepV v d → RepFs vs ds → RepFs ((f, v) :: vs) ((f, d) :: ds)
end
end

section
variable {g : G} {al al' : List Addr} {L L' : Addr → Prop} {H H' : Hp}
/-- what carries a representation on -/
structure Car (g : G) (al : List Addr) (L : Addr → Prop) (H : Hp) (al' : List Addr) (L' : Addr → Prop) (H' : Hp) : Prop where
  tup : ∀ (a : Addr) (vs : List V), SqT g.K H a vs → SqT g.K H' a vs
  lst : ∀ (a : Addr) (vs : List V), H a = some (.lst vs) → ¬ L a → H' a = some (.lst vs) ∧ ¬ L' a
  frz : ∀ (a : Addr) (vs : List V), FzL g.K H a vs → FzL g.K H' a vs
  obj : ∀ (a C dx : Addr) (fs : List (Str × V)), H a = some (.ins C dx fs) → ¬ L a → H' a = some (.ins C dx fs) ∧ ¬ L' a
  loc : ∀ (i : Nat) (a : Addr), al[i]? = some a → al'[i]? = some a
mutual
theorem RepV.car (c : Car g al L H al' L' H') : ∀ {v : V} {d : D}, RepV g al L H v d → RepV g al' L' H' v d
  | _, _, .non => .non
  | _, _, .bl => .bl
  | _, _, .int => .int
  | _, _, .str => .str
  | _, _, .tup h r => .tup (c.tup _ _ h) (RepVs.car c r)
  | _, _, .lst h n r => .lst (c.lst _ _ h n).1 (c.lst _ _ h n).2 (RepVs.car c r)
  | _, _, .frz h r => .frz (c.frz _ _ h) (RepVs.car c r)
  | _, _, .obj h n r => .obj (c.obj _ _ _ _ h n).1 (c.obj _ _ _ _ h n).2 (RepFs.car c r)
  | _, _, .loc h => .loc (c.loc _ _ h)
theorem RepVs.car (c : Car g al L H al' L' H') : ∀ {vs : List V} {ds : List D}, RepVs g al L H vs ds → RepVs g al' L' H' vs ds
  | _, _, .nil => .nil
  | _, _, .cons h r => .cons (RepV.car c h) (RepVs.car c r)
theorem RepFs.car (c : Car g al L H al' L' H') : ∀ {vs : List (Str × V)} {ds : List (Str × D)}, RepFs g al L H vs ds → RepFs g al' L' H' vs ds
  | _, _, .nil => .nil
  | _, _, .cons h r => .cons (RepV.car c h) (RepFs.car c r)
end

theorem RepVs.length : ∀ {vs : List V} {ds : List D}, RepVs g al L H vs ds → vs.length = ds.length
  | _, _, .nil => rfl
  | _, _, .cons _ r => by simp [RepVs.length r]
theorem RepVs.get : ∀ {vs : List V} {ds : List D}, RepVs g al L H vs ds → ∀ {i : Nat} {d : D}, ds[i]? = some d → ∃ v, vs[i]? = some v ∧ RepV g al L H v d
  | _, _, .nil, i, d, h => by simp at h
  | _, _, .cons h r, 0, d, e => by
    simp at e
    subst e
    exact ⟨_, rfl, h⟩
  | _, _, .cons h r, i + 1, d, e => by
    obtain ⟨v, h1, h2⟩ := RepVs.get r (i := i) (d := d) (by simpa using e)
    exact ⟨v, by simpa using h1, h2⟩
theorem RepVs.get' : ∀ {vs : List V} {ds : List D}, RepVs g al L H vs ds → ∀ {i : Nat} {v : V}, vs[i]? = some v → ∃ d, ds[i]? = some d ∧ RepV g al L H v d
  | _, _, .nil, i, d, h => by simp at h
  | _, _, .cons h r, 0, d, e => by
    simp at e
    subst e
    exact ⟨_, rfl, h⟩
  | _, _, .cons h r, i + 1, d, e => by
    obtain ⟨v, h1, h2⟩ := RepVs.get' r (i := i) (v := d) (by simpa using e)
    exact ⟨v, by simpa using h1, h2⟩
theorem RepVs.append : ∀ {vs ws : List V} {ds es : List D}, RepVs g al L H vs ds → RepVs g al L H ws es → RepVs g al L H (vs ++ ws) (ds ++ es)
  | _, _, _, _, .nil, s => s
  | _, _, _, _, .cons h r, s => .cons h (RepVs.append r s)
theorem RepVs.take : ∀ {vs : List V} {ds : List D} (n : Nat), RepVs g al L H vs ds → RepVs g al L H (vs.take n) (ds.take n)
  | _, _, 0, _ => .nil
  | _, _, _ + 1, .nil => .nil
  | _, _, n + 1, .cons h r => .cons h (RepVs.take n r)
theorem RepVs.drop : ∀ {vs : List V} {ds : List D} (n : Nat), RepVs g al L H vs ds → RepVs g al L H (vs.drop n) (ds.drop n)
  | _, _, 0, r => r
  | _, _, _ + 1, .nil => .nil
  | _, _, n + 1, .cons _ r => RepVs.drop n r
theorem RepVs.set {v : V} {d : D} (h : RepV g al L H v d) : ∀ {vs : List V} {ds : List D} (i : Nat), RepVs g al L H vs ds → RepVs g al L H (vs.set i v) (ds.set i d)
  | _, _, _, .nil => .nil
  | _, _, 0, .cons _ r => .cons h r
  | _, _, i + 1, .cons q r => .cons q (RepVs.set h i r)
theorem RepVs.eraseIdx : ∀ {vs : List V} {ds : List D} (i : Nat), RepVs g al L H vs ds → RepVs g al L H (vs.eraseIdx i) (ds.eraseIdx i)
  | _, _, _, .nil => .nil
  | _, _, 0, .cons _ r => r
  | _, _, i + 1, .cons q r => .cons q (RepVs.eraseIdx i r)
theorem RepVs.dropLast {vs : List V} {ds : List D} (h : RepVs g al L H vs ds) : RepVs g al L H vs.dropLast ds.dropLast := by
  rw [List.dropLast_eq_take, List.dropLast_eq_take, h.length]
  exact h.take _
theorem RepVs.reverse {vs : List V} {ds : List D} (h : RepVs g al L H vs ds) : RepVs g al L H vs.reverse ds.reverse := by
  induction vs generalizing ds with
  | nil => cases h; exact .nil
  | cons v vs ih =>
    cases h with
    | cons h r =>
      rw [List.reverse_cons, List.reverse_cons]
      exact (ih r).append (.cons h .nil)
theorem RepVs.flat {vs : List V} {ds : List D} (h : RepVs g al L H vs ds) : ∀ k : Nat, RepVs g al L H (List.replicate k vs).flatten (List.replicate k ds).flatten
  | 0 => .nil
  | k + 1 => by
    rw [List.replicate_succ, List.replicate_succ, List.flatten_cons, List.flatten_cons]
    exact h.append (RepVs.flat h k)
theorem RepVs.ints : ∀ {vs : List V} {ns : List Int}, RepVs g al L H vs (ns.map D.int) → vs = ns.map V.int
  | _, [], h => by cases h; rfl
  | _, n :: ns, h => by
    rw [List.map_cons] at h
    cases h with
    | cons h r =>
      cases h
      rw [RepVs.ints r]
      rfl
theorem RepVs.strs : ∀ {vs : List V} {ns : List Str}, RepVs g al L H vs (ns.map D.str) → vs = ns.map V.str
  | _, [], h => by cases h; rfl
  | _, n :: ns, h => by
    rw [List.map_cons] at h
    cases h with
    | cons h r =>
      cases h
      rw [RepVs.strs r]
      rfl
theorem RepVs.of_ints : ∀ {ns : List Int}, RepVs g al L H (ns.map V.int) (ns.map D.int)
  | [] => .nil
  | n :: ns => .cons .int RepVs.of_ints
theorem RepVs.of_strs : ∀ {ns : List Str}, RepVs g al L H (ns.map V.str) (ns.map D.str)
  | [] => .nil
  | n :: ns => .cons .str RepVs.of_strs
theorem RepFs.length : ∀ {vs : List (Str × V)} {ds : List (Str × D)}, RepFs g al L H vs ds → vs.length = ds.length
  | _, _, .nil => rfl
  | _, _, .cons _ r => by simp [RepFs.length r]
theorem RepFs.lookup : ∀ {vs : List (Str × V)} {ds : List (Str × D)}, RepFs g al L H vs ds → ∀ {f : Str} {d : D}, ds.lookup f = some d → ∃ v, vs.lookup f = some v ∧ RepV g al L H v d
  | _, _, .nil, f, d, h => by cases h
  | _, _, .cons (f := f') h r, f, d, e => by
    by_cases q : (f == f') = true
    · simp [List.lookup, q] at e ⊢
      subst e
      exact h
    · simp only [Bool.not_eq_true] at q
      simp [List.lookup, q] at e ⊢
      exact RepFs.lookup r e
theorem RepFs.lookup_none : ∀ {vs : List (Str × V)} {ds : List (Str × D)}, RepFs g al L H vs ds → ∀ {f : Str}, ds.lookup f = none → vs.lookup f = none
  | _, _, .nil, f, _ => rfl
  | _, _, .cons (f := f') h r, f, e => by
    by_cases q : (f == f') = true
    · simp [List.lookup, q] at e
    · simp only [Bool.not_eq_true] at q
      simp only [List.lookup, q] at e ⊢
      exact RepFs.lookup_none r e
/-- an attribute stored -/
def putD (f : Str) (d : D) : List (Str × D) → List (Str × D)
  | [] => [(f, d)]
  | (h, e) :: r => if h = f then (h, d) :: r else (h, e) :: putD f d r
theorem RepFs.put {f : Str} {v : V} {d : D} (h : RepV g al L H v d) : ∀ {vs : List (Str × V)} {ds : List (Str × D)}, RepFs g al L H vs ds → RepFs g al L H (putF f v vs) (putD f d ds)
  | _, _, .nil => .cons h .nil
  | _, _, .cons (f := f') q r => by
    unfold putF putD
    split
    · exact .cons h r
    · exact .cons q (RepFs.put h r)
end
end Dv

namespace Dv
open PySem PySem.Spec PyProof.Rows L2

abbrev St := L2.St
/-! ### the state -/
/-- the addresses of the living cells; of the own slots -/
def Lv (al : List Addr) (om : Om) (a : Addr) : Prop := ∃ (i : Nat) (c : Cell), al[i]? = some a ∧ om[i]? = some c ∧ c ≠ .gone
def OwnA (σ : St) (ρ : Rho) (a : Addr) : Prop := ∃ (i : Nat) (ds : List D), ρ[i]? = some (some (.own ds)) ∧ σ[i]? = some (some (.ref a))
def Mt (al : List Addr) (om : Om) (σ : St) (ρ : Rho) (a : Addr) : Prop := Lv al om a ∨ OwnA σ ρ a
def LL (R : Addr → Prop) (al : List Addr) (om : Om) (σ : St) (ρ : Rho) (a : Addr) : Prop := Mt al om σ ρ a ∨ R a
def CellR (g : G) (al : List Addr) (L : Addr → Prop) (H : Hp) (a : Addr) : Cell → Prop
  | .gone => True
  | .lst ds => ∃ vs, H a = some (.lst vs) ∧ RepVs g al L H vs ds
  | .ins c fs => ∃ dx fvs, H a = some (.ins (g.cls c) dx fvs) ∧ RepFs g al L H fvs fs
/-- the shared cells, R being reserved -/
structure RO (g : G) (R : Addr → Prop) (al : List Addr) (om : Om) (H : Hp) (L : Addr → Prop) : Prop where
  len : al.length = om.length
  cel : ∀ (i : Nat) (c : Cell) (a : Addr), om[i]? = some c → al[i]? = some a → CellR g al L H a c
  inj : ∀ (i j : Nat) (a : Addr) (ci cj : Cell), al[i]? = some a → al[j]? = some a → om[i]? = some ci → om[j]? = some cj → ci ≠ .gone → cj ≠ .gone → i = j
  rsv : ∀ a, R a → ¬ Lv al om a ∧ H a ≠ none
/-- as many slots; the slot of a caught exception -/
structure Sle (g : G) (σ : St) (ρ : Rho) : Prop where
  len : σ.length = ρ.length
  exc : ∀ (i : Nat) (a : Addr) (c : Str) (x : DX), g.ex = some (i, a, c) → ρ[i]? = some (some (.exc x)) → σ[i]? = some (some (.ref a)) ∧ x.c = c
/-- a frame's state -/
structure Rst (g : G) (R : Addr → Prop) (al : List Addr) (σ : St) (ρ : Rho) (om : Om) (H : Hp) : Prop where
  o : RO g R al om H (LL R al om σ ρ)
  sl : Sle g σ ρ
  val : ∀ (i : Nat) (d : D), ρ[i]? = some (some (.val d)) → ∃ v, σ[i]? = some (some v) ∧ RepV g al (LL R al om σ ρ) H v d
  own : ∀ (i : Nat) (ds : List D), ρ[i]? = some (some (.own ds)) → ∃ (a : Addr) (vs : List V), σ[i]? = some (some (.ref a)) ∧ H a = some (.lst vs) ∧ RepVs g al (LL R al om σ ρ) H vs ds
  odj : ∀ (i j : Nat) (a : Addr) (di dj : List D), ρ[i]? = some (some (.own di)) → ρ[j]? = some (some (.own dj)) → σ[i]? = some (some (.ref a)) → σ[j]? = some (some (.ref a)) → i = j
  ocl : ∀ a, OwnA σ ρ a → ¬ Lv al om a ∧ ¬ R a
/-- from one state to a later one: M is what may have changed -/
structure Step (al : List Addr) (M : Addr → Prop) (H : Hp) (al' : List Addr) (M' : Addr → Prop) (H' : Hp) : Prop where
  ext : ∀ (i : Nat) (a : Addr), al[i]? = some a → al'[i]? = some a
  keep : ∀ (a : Addr) (o : HO), H a = some o → ¬ M a → H' a = some o
  fresh : ∀ a, M' a → M a ∨ H a = none
/-- an exception of an own class -/
def RepX (g : G) (al : List Addr) (L : Addr → Prop) (H : Hp) (cv : Value) (dd : Option Addr) (x : DX) : Prop :=
  cv = .ref (g.cls x.c) ∧ ((x.fs = [] ∧ dd = none) ∨ ∃ (d : Addr) (fvs : List (Str × V)), dd = some d ∧ x.fs ≠ [] ∧ H d = some (.xd fvs) ∧ RepFs g al L H fvs x.fs)

section
variable {g : G} {R : Addr → Prop} {al al' al2 : List Addr} {M M' M2 L L' : Addr → Prop} {om om' : Om} {σ σ' : St} {ρ ρ' : Rho} {H H' H2 : Hp}
theorem Step.refl : Step al M H al M H := ⟨fun _ _ h => h, fun _ _ h _ => h, fun _ h => .inl h⟩
theorem Step.trans (s : Step al M H al' M' H') (t : Step al' M' H' al2 M2 H2) : Step al M H al2 M2 H2 where
  ext := fun i a h => t.ext i a (s.ext i a h)
  keep := fun a o h n => t.keep a o (s.keep a o h n) fun m => by
    rcases s.fresh a m with q | q
    · exact n q
    · rw [h] at q; cases q
  fresh := fun a m => by
    by_cases q : M a
    · exact .inl q
    · refine .inr ?_
      cases e : H a with
      | none => rfl
      | some o =>
        have k := s.keep a o e q
        rcases t.fresh a m with z | z
        · rcases s.fresh a z with y | y
          · exact absurd y q
          · rw [e] at y; cases y
        · rw [k] at z; cases z
/-- the same addresses, the heap grown, less changing -/
theorem Step.grow (k : ∀ (a : Addr) (o : HO), H a = some o → ¬ M a → H' a = some o) (m : ∀ a, M' a → M a ∨ H a = none) : Step al M H al M' H' := ⟨fun _ _ h => h, k, m⟩
/-- what changes are lists and instances -/
def Flat (M : Addr → Prop) (H : Hp) : Prop := ∀ a, M a → (∃ xs, H a = some (.lst xs)) ∨ ∃ C dx fs, H a = some (.ins C dx fs)
theorem Lv.flat (o : RO g R al om H L) : Flat (Lv al om) H := fun a ⟨i, c, h1, h2, h3⟩ => by
  have q := o.cel i c a h2 h1
  cases c with
  | gone => exact absurd rfl h3
  | lst ds => obtain ⟨vs, e, _⟩ := q; exact .inl ⟨vs, e⟩
  | ins c fs => obtain ⟨dx, fvs, e, _⟩ := q; exact .inr ⟨_, dx, fvs, e⟩
theorem Mt.flat (S : Rst g R al σ ρ om H) : Flat (Mt al om σ ρ) H := fun a m => by
  rcases m with m | ⟨i, ds, h1, h2⟩
  · exact Lv.flat S.o a m
  · obtain ⟨b, vs, e1, e2, _⟩ := S.own i ds h1
    rw [h2] at e1
    cases e1
    exact .inl ⟨vs, e2⟩
/-- a representation is carried by a step, R staying reserved -/
theorem Step.car (s : Step al M H al' M' H') (f : Flat M H) (hr : ∀ a, R a → H a ≠ none) : Car g al (fun a => M a ∨ R a) H al' (fun a => M' a ∨ R a) H' where
  tup := fun a vs h => by
    rcases h with (h | ⟨o, h⟩) | h
    · refine .inl (.inl (s.keep a _ h fun m => ?_))
      rcases f a m with ⟨xs, e⟩ | ⟨C, dx, fs, e⟩ <;> (rw [h] at e; cases e)
    · refine .inl (.inr ⟨o, s.keep a _ h fun m => ?_⟩)
      rcases f a m with ⟨xs, e⟩ | ⟨C, dx, fs, e⟩ <;> (rw [h] at e; cases e)
    · exact .inr h
  lst := fun a vs h n => by
    refine ⟨s.keep a _ h fun m => n (.inl m), fun m => ?_⟩
    rcases m with m | m
    · rcases s.fresh a m with q | q
      · exact n (.inl q)
      · rw [h] at q; cases q
    · exact n (.inr m)
  frz := fun a vs h => h.imp (fun ⟨o, h⟩ => ⟨o, s.keep a _ h fun m => by
    rcases f a m with ⟨xs, e⟩ | ⟨C, dx, fs, e⟩ <;> (rw [h] at e; cases e)⟩) id
  obj := fun a C dx fs h n => by
    refine ⟨s.keep a _ h fun m => n (.inl m), fun m => ?_⟩
    rcases m with m | m
    · rcases s.fresh a m with q | q
      · exact n (.inl q)
      · rw [h] at q; cases q
    · exact n (.inr m)
  loc := fun i a h => s.ext i a h
theorem Step.rep (s : Step al (Mt al om σ ρ) H al' (Mt al' om' σ' ρ') H') (S : Rst g R al σ ρ om H) {v : V} {d : D} (r : RepV g al (LL R al om σ ρ) H v d) : RepV g al' (LL R al' om' σ' ρ') H' v d :=
  r.car (s.car (Mt.flat S) fun a h => (S.o.rsv a h).2)
theorem Step.reps (s : Step al (Mt al om σ ρ) H al' (Mt al' om' σ' ρ') H') (S : Rst g R al σ ρ om H) {v : List V} {d : List D} (r : RepVs g al (LL R al om σ ρ) H v d) : RepVs g al' (LL R al' om' σ' ρ') H' v d :=
  r.car (s.car (Mt.flat S) fun a h => (S.o.rsv a h).2)
theorem Step.repfs (s : Step al (Mt al om σ ρ) H al' (Mt al' om' σ' ρ') H') (S : Rst g R al σ ρ om H) {v : List (Str × V)} {d : List (Str × D)} (r : RepFs g al (LL R al om σ ρ) H v d) : RepFs g al' (LL R al' om' σ' ρ') H' v d :=
  r.car (s.car (Mt.flat S) fun a h => (S.o.rsv a h).2)
/-- .. where what is reserved besides is new -/
theorem Step.rep2 {R2 : Addr → Prop} (s : Step al (Mt al om σ ρ) H al' (Mt al' om' σ' ρ') H') (S : Rst g R al σ ρ om H) (h2 : ∀ a, R2 a → R a ∨ H a = none) {v : V} {d : D} (r : RepV g al (LL R al om σ ρ) H v d) : RepV g al' (LL R2 al' om' σ' ρ') H' v d := by
  have c := s.car (g := g) (R := R) (Mt.flat S) fun a h => (S.o.rsv a h).2
  have no : ∀ {a : Addr} {o : HO}, H a = some o → ¬ LL R al om σ ρ a → ¬ LL R2 al' om' σ' ρ' a := fun {a o} h n m => by
    rcases m with m | m
    · rcases s.fresh a m with q | q
      · exact n (.inl q)
      · rw [h] at q; cases q
    · rcases h2 a m with q | q
      · exact n (.inr q)
      · rw [h] at q; cases q
  exact r.car ⟨c.tup, fun a vs h n => ⟨(c.lst a vs h n).1, no h n⟩, c.frz, fun a C dx fs h n => ⟨(c.obj a C dx fs h n).1, no h n⟩, c.loc⟩
theorem CellR.car {a : Addr} {c : Cell} (k : Car g al L H al' L' H') (h : CellR g al L H a c) (hl : ∀ xs, H a = some (.lst xs) → c ≠ .gone → H' a = some (.lst xs)) (hi : ∀ C dx fs, H a = some (.ins C dx fs) → c ≠ .gone → H' a = some (.ins C dx fs)) : CellR g al' L' H' a c := by
  cases c with
  | gone => trivial
  | lst ds =>
    obtain ⟨vs, e, r⟩ := h
    exact ⟨vs, hl _ e (fun z => nomatch z), r.car k⟩
  | ins c fs =>
    obtain ⟨dx, fvs, e, r⟩ := h
    exact ⟨dx, fvs, hi _ _ _ e (fun z => nomatch z), r.car k⟩
/-- the heap has grown, nothing else -/
theorem Rst.grow (S : Rst g R al σ ρ om H) (k : ∀ (a : Addr) (o : HO), H a = some o → H' a = some o) : Rst g R al σ ρ om H' ∧ Step al (Mt al om σ ρ) H al (Mt al om σ ρ) H' := by
  have st : Step al (Mt al om σ ρ) H al (Mt al om σ ρ) H' := .grow (fun a o h _ => k a o h) fun _ h => .inl h
  refine ⟨⟨⟨S.o.len, fun i c a h1 h2 => ?_, S.o.inj, fun a h => ⟨(S.o.rsv a h).1, ?_⟩⟩, S.sl, fun i d h => ?_, fun i ds h => ?_, S.odj, S.ocl⟩, st⟩
  · exact (S.o.cel i c a h1 h2).car (st.car (Mt.flat S) fun a h => (S.o.rsv a h).2) (fun xs e _ => k _ _ e) (fun C dx fs e _ => k _ _ e)
  · cases e : H a with
    | none => exact absurd e (S.o.rsv a h).2
    | some o => rw [k a o e]; simp
  · obtain ⟨v, e, r⟩ := S.val i d h
    exact ⟨v, e, st.rep S r⟩
  · obtain ⟨a, vs, e, e2, r⟩ := S.own i ds h
    exact ⟨a, vs, e, k _ _ e2, st.reps S r⟩
theorem upd_keep {p : Addr} {o : HO} (hp : H p = none) : ∀ (a : Addr) (u : HO), H a = some u → upd H p o a = some u := fun a u e => by
  rw [upd_ne (ne_of_none e hp)]
  exact e
/-- a new address is none of those that change or are reserved -/
theorem Rst.new (S : Rst g R al σ ρ om H) {p : Addr} (hp : H p = none) : ¬ LL R al om σ ρ p := fun m => by
  rcases m with m | m
  · rcases Mt.flat S p m with ⟨xs, e⟩ | ⟨C, dx, fs, e⟩ <;> (rw [hp] at e; cases e)
  · exact (S.o.rsv p m).2 hp

/-! ### what is wanted of an outcome -/
/-- how a value of the layer lies -/
abbrev Rl (β τ : Type) := List Addr → (Addr → Prop) → Hp → β → τ → Prop
def PostR {β τ : Type} (g : G) (R : Addr → Prop) (W : WX) (rel : Rl β τ) (al : List Addr) (M : Addr → Prop) (H : Hp) (σ : St) : Res τ → (β → Hp → Prop) → Prop
  | .ok t ρ' om', Q => ∀ y H' al', Step al M H al' (Mt al' om' σ ρ') H' → Rst g R al' σ ρ' om' H' → rel al' (LL R al' om' σ ρ') H' y t → Q y H'
  | .xc x ρ' om', _ => ∀ cv dd H' al', Step al M H al' (Mt al' om' σ ρ') H' → Rst g R al' σ ρ' om' H' → RepX g al' (LL R al' om' σ ρ') H' cv dd x → W cv dd σ H'
  | .no, _ => False
theorem PostR.step {β τ : Type} {W : WX} {rel : Rl β τ} {r : Res τ} {Q : β → Hp → Prop} (s : Step al M H al' M' H') (p : PostR g R W rel al M H σ r Q) : PostR g R W rel al' M' H' σ r Q := by
  cases r with
  | ok t ρ' om' => exact fun y H2 al2 t2 => p y H2 al2 (s.trans t2)
  | xc x ρ' om' => exact fun y dd H2 al2 t2 => p y dd H2 al2 (s.trans t2)
  | no => exact p
/-- the reading of a term of the evaluator -/
def tR {β τ : Type} (g : G) (W : WX) (rel : G → Rl β τ) (u : Rho → Om → Res τ) : St → Hp → (β → Hp → Prop) → Prop := fun σ H Q =>
  ∃ R ρ om al, Rst g R al σ ρ om H ∧ PostR g R W (rel g) al (Mt al om σ ρ) H σ (u ρ om) Q
def relV : G → Rl V D := fun g al L H v d => RepV g al L H v d
def relVs : G → Rl (List V) (List D) := fun g al L H v d => RepVs g al L H v d
def relB : G → Rl Bool Bool := fun _ _ _ _ b c => b = c
def relO : G → Rl (Option Int) (Option Int) := fun _ _ _ _ b c => b = c
abbrev UE := Rho → Om → Res D
abbrev UT := Rho → Om → Res Bool
abbrev UA := Rho → Om → Res (List D)
abbrev UO := Rho → Om → Res (Option Int)
abbrev tE (g : G) (W : WX) (u : UE) : TE := tR g W relV u
abbrev tT (g : G) (W : WX) (u : UT) : TT := tR g W relB u
abbrev tA (g : G) (W : WX) (u : UA) : TA := tR g W relVs u
abbrev tO (g : G) (W : WX) (u : UO) : TO := tR g W relO u
theorem tR_bind {β τ β2 τ2 : Type} {W : WX} {rel : G → Rl β τ} {rel2 : Rl β2 τ2} {u : Rho → Om → Res τ} {f : τ → Rho → Om → Res τ2} {Q : β → Hp → Prop} {Q2 : β2 → Hp → Prop} (S : Rst g R al σ ρ om H)
    (P : PostR g R W rel2 al (Mt al om σ ρ) H σ ((u ρ om).bind f) Q2)
    (k : ∀ t ρ' om' y H' al', Step al (Mt al om σ ρ) H al' (Mt al' om' σ ρ') H' → Rst g R al' σ ρ' om' H' → rel g al' (LL R al' om' σ ρ') H' y t → PostR g R W rel2 al' (Mt al' om' σ ρ') H' σ (f t ρ' om') Q2 → Q y H') : tR g W rel u σ H Q := by
  refine ⟨R, ρ, om, al, S, ?_⟩
  cases e : u ρ om with
  | ok t ρ' om' =>
    rw [e] at P
    exact fun y H' al' s S' r => k t ρ' om' y H' al' s S' r (PostR.step s P)
  | xc x ρ' om' =>
    rw [e] at P
    exact P
  | no =>
    rw [e] at P
    exact P
end
section
variable {X : Cx}
theorem peImp {e : Expr} {t t' : TE} (h : PE X e t) (i : ∀ σ H Q, t' σ H Q → t σ H Q) : PE X e t' := ⟨fun pins s σ H Q I q => h.run pins s σ H Q I (i σ H Q q)⟩
theorem ptImp {e : Expr} {t t' : TT} (h : PT X e t) (i : ∀ σ H Q, t' σ H Q → t σ H Q) : PT X e t' := ⟨fun pins s σ H Q I q => h.run pins s σ H Q I (i σ H Q q)⟩
theorem pwImp {e : Expr} {t t' : TT} (h : PW X e t) (i : ∀ σ H Q, t' σ H Q → t σ H Q) : PW X e t' := ⟨fun w pins s σ H Q I q => h.run w pins s σ H Q I (i σ H Q q)⟩
theorem paImp {e : List Expr} {t t' : TA} (h : PA X e t) (i : ∀ σ H Q, t' σ H Q → t σ H Q) : PA X e t' := ⟨fun p pins s σ H Q I q => h.run p pins s σ H Q I (i σ H Q q)⟩
theorem poImp {e : Option Expr} {t t' : TO} (h : PO X e t) (i : ∀ σ H Q, t' σ H Q → t σ H Q) : PO X e t' := ⟨fun pins s σ H Q I q => h.run pins s σ H Q I (i σ H Q q)⟩
theorem psImp {e : Stmt} {t t' : TS} (h : PS X e t) (i : ∀ D σ H, t' D σ H → t D σ H) : PS X e t' := ⟨fun pins s σ H D I q => h.run pins s σ H D I (i D σ H q)⟩
theorem pssImp {e : List Stmt} {t t' : TS} (h : PSs X e t) (i : ∀ D σ H, t' D σ H → t D σ H) : PSs X e t' := ⟨fun pins s σ H D I q => h.run pins s σ H D I (i D σ H q)⟩
end
end Dv

namespace Dv
open PySem PySem.Spec PyProof.Rows L2

/-! ### operations on data -/
def big : Nat := 1000000
theorem big_line {n : Nat} (h : n ≤ big) : n ≤ sizeLine := Nat.le_trans h (by decide)
theorem big_lt {n : Nat} (h : n < big) : n < sizeLine := Nat.lt_of_lt_of_le h (by decide)
def mulOk (i j : Int) : Bool := decide (i.natAbs < 18446744073709551616) || decide (j.natAbs < 18446744073709551616) || decide (i.natAbs.log2 + j.natAbs.log2 < 1000000)
def divOk (i j : Int) : Bool := !(Builtin.divisionGoesByPylong i j)
def dAdd : D → D → Option D
  | .int i, .int j => some (.int (i + j))
  | .str i, .str j => if i.length + j.length ≤ big then some (.str (i ++ j)) else none
  | .lst i, .lst j => if i.length + j.length ≤ big then some (.lst (i ++ j)) else none
  | _, _ => none
def dSub : D → D → Option D
  | .int i, .int j => some (.int (i - j))
  | _, _ => none
def dMul : D → D → Option D
  | .int i, .int j => if mulOk i j = true then some (.int (i * j)) else none
  | .lst i, .int j => if -1000 ≤ j ∧ j ≤ 1000 ∧ i.length ≤ 1000 then some (.lst (List.replicate j.toNat i).flatten) else none
  | _, _ => none
def dDiv : D → D → Option D
  | .int i, .int j => if j ≠ 0 ∧ divOk i j = true then some (.int (i.fdiv j)) else none
  | _, _ => none
def dMod : D → D → Option D
  | .int i, .int j => if j ≠ 0 then some (.int (i.fmod j)) else none
  | _, _ => none
def dLt : D → D → Option D
  | .int i, .int j => some (.bl (decide (i < j)))
  | _, _ => none
def dLe : D → D → Option D
  | .int i, .int j => some (.bl (decide (i ≤ j)))
  | _, _ => none
def dGt : D → D → Option D
  | .int i, .int j => some (.bl (decide (j < i)))
  | _, _ => none
def dGe : D → D → Option D
  | .int i, .int j => some (.bl (decide (j ≤ i)))
  | _, _ => none
def dIn : D → D → Option D
  | .str i, .str j => some (.bl (!(Builtin.Str.occurrences j i 0 j.length 1).isEmpty))
  | .int i, .tup [.int a, .int b] => some (.bl (decide (i = a) || decide (i = b)))
  | _, _ => none
def dNotIn : D → D → Option D
  | .str i, .str j => some (.bl (!(!(Builtin.Str.occurrences j i 0 j.length 1).isEmpty)))
  | _, _ => none
def isNon : D → Bool
  | .non => true
  | _ => false
def dIs : D → D → Option D
  | x, .non => some (.bl (isNon x))
  | _, _ => none
def dIsNot : D → D → Option D
  | x, .non => some (.bl (!isNon x))
  | _, _ => none
def dNeg : D → Option D
  | .int i => some (.int (-i))
  | _ => none
def atN {α : Type} (xs : List α) (i : Int) : Option α := if 0 ≤ i then xs[i.toNat]? else if -(xs.length : Int) ≤ i then xs[(i + xs.length).toNat]? else none
def dIx : D → D → Option D
  | .lst xs, .int i => atN xs i
  | .tup xs, .int i => atN xs i
  | .str z, .int i => if z.length ≤ big then (match atN z.cps.toList i with | some c => some (.str ⟨#[c]⟩) | none => none) else none
  | _, _ => none
/-! equality -/
mutual
def toPy : D → Option PyData
  | .non => some .none
  | .bl b => some (.bool b)
  | .int i => some (.int i)
  | .str x => some (.str x)
  | .tup ds => match toPys ds with | some l => some (.tuple l) | none => none
  | .lst ds => match toPys ds with | some l => some (.list l) | none => none
  | _ => none
def toPys : List D → Option (List PyData)
  | [] => some []
  | d :: ds => match toPy d, toPys ds with | some p, some l => some (p :: l) | _, _ => none
end
def eqPy (x y : D) : Option Bool := match toPy x, toPy y with
  | some p, some q => if SeqAt.shaped p = true ∧ SeqAt.shaped q = true then some (PyData.eqv p q) else none
  | _, _ => none
def dEqB : D → D → Option Bool
  | .int i, .int j => some (decide (i = j))
  | .bl i, .bl j => some (decide (i = j))
  | .str i, .str j => some (decide (i = j))
  | .non, .non => some true
  | .lst xs, .lst [] => some (decide (xs.length = 0))
  | x, y => eqPy x y
def dEq (x y : D) : Option D := match dEqB x y with | some b => some (.bl b) | none => none
def dNe (x y : D) : Option D := match dEqB x y with | some b => some (.bl (!b)) | none => none

/-! ### the evaluator: expressions -/
@[simp] def uVar (i : Nat) : UE := fun ρ ω => match ρ[i]? with
  | some (some (.val d)) => .ok d ρ ω
  | _ => .no
@[simp] def uC (d : D) : UE := fun ρ ω => .ok d ρ ω
@[simp] def uUn (f : D → Option D) (ua : UE) : UE := fun ρ ω => (ua ρ ω).bind fun x ρ ω => liftO (f x) ρ ω
@[simp] def uBin (f : D → D → Option D) (ua ub : UE) : UE := fun ρ ω => (ua ρ ω).bind fun x ρ ω => (ub ρ ω).bind fun y ρ ω => liftO (f x y) ρ ω
@[simp] def dBool : D → Option Bool
  | .bl b => some b
  | _ => none
@[simp] def uB (ua : UE) : UT := fun ρ ω => (ua ρ ω).bind fun x ρ ω => liftO (dBool x) ρ ω
@[simp] def uNot (u : UT) : UT := fun ρ ω => (u ρ ω).bind fun b ρ ω => .ok (!b) ρ ω
@[simp] def uAnd (u v : UT) : UT := fun ρ ω => (u ρ ω).bind fun b ρ ω => if b = true then v ρ ω else .ok false ρ ω
@[simp] def uOr (u v : UT) : UT := fun ρ ω => (u ρ ω).bind fun b ρ ω => if b = true then .ok true ρ ω else v ρ ω
@[simp] def uTV (u : UT) : UE := fun ρ ω => (u ρ ω).bind fun b ρ ω => .ok (.bl b) ρ ω
@[simp] def uAndV (u v : UE) : UE := fun ρ ω => (u ρ ω).bind fun x ρ ω => (liftO (dBool x) ρ ω : Res Bool).bind fun b ρ ω => if b = true then v ρ ω else .ok (.bl false) ρ ω
@[simp] def uOrV (u v : UE) : UE := fun ρ ω => (u ρ ω).bind fun x ρ ω => (liftO (dBool x) ρ ω : Res Bool).bind fun b ρ ω => if b = true then .ok (.bl true) ρ ω else v ρ ω
@[simp] def uNotV (u : UE) : UE := fun ρ ω => (u ρ ω).bind fun x ρ ω => (liftO (dBool x) ρ ω : Res Bool).bind fun b ρ ω => .ok (.bl (!b)) ρ ω
@[simp] def uIf (t : UT) (u v : UE) : UE := fun ρ ω => (t ρ ω).bind fun b ρ ω => if b = true then u ρ ω else v ρ ω
@[simp] def uChain (f g : D → D → Option D) (ua ub uc : UE) : UE := fun ρ ω => (ua ρ ω).bind fun x ρ ω => (ub ρ ω).bind fun y ρ ω =>
  (liftO (f x y) ρ ω : Res D).bind fun z ρ ω => (liftO (dBool z) ρ ω : Res Bool).bind fun b ρ ω => if b = true then (uc ρ ω).bind fun w ρ ω => liftO (g y w) ρ ω else .ok (.bl false) ρ ω
@[simp] def uNil : UA := fun ρ ω => .ok [] ρ ω
@[simp] def uCons (u : UE) (v : UA) : UA := fun ρ ω => (u ρ ω).bind fun x ρ ω => (v ρ ω).bind fun xs ρ ω => .ok (x :: xs) ρ ω
@[simp] def uTup (u : UA) : UE := fun ρ ω => (u ρ ω).bind fun xs ρ ω => if xs.length ≤ big then .ok (.tup xs) ρ ω else .no
@[simp] def uLst (u : UA) : UE := fun ρ ω => (u ρ ω).bind fun xs ρ ω => if xs.length ≤ big then .ok (.lst xs) ρ ω else .no
@[simp] def uFn (f : List D → Option D) (u : UA) : UE := fun ρ ω => (u ρ ω).bind fun xs ρ ω => liftO (f xs) ρ ω
@[simp] def uMe (f : D → List D → Option D) (u : UE) (v : UA) : UE := fun ρ ω => (u ρ ω).bind fun x ρ ω => (v ρ ω).bind fun xs ρ ω => liftO (f x xs) ρ ω

/-! ### how they are shown -/
/-- a value that is only looked at: an own list, too -/
inductive RepW (g : G) (al : List Addr) (L : Addr → Prop) (H : Hp) : V → D → Prop
  | v {v : V} {d : D} : RepV g al L H v d → RepW g al L H v d
  | own {a : Addr} {vs : List V} {ds : List D} : H a = some (.lst vs) → RepVs g al L H vs ds → RepW g al L H (.ref a) (.lst ds)
inductive RepWs (g : G) (al : List Addr) (L : Addr → Prop) (H : Hp) : List V → List D → Prop
  | nil : RepWs g al L H [] []
  | cons {v : V} {vs : List V} {d : D} {ds : List D} : RepW g al L H v d → RepWs g al L H vs ds → RepWs g al L H (v :: vs) (d :: ds)
section
variable {g : G} {al : List Addr} {L : Addr → Prop} {H : Hp} {v : V}
theorem RepVs.ws : ∀ {vs : List V} {ds : List D}, RepVs g al L H vs ds → RepWs g al L H vs ds
  | _, _, .nil => .nil
  | _, _, .cons h r => .cons (.v h) r.ws
theorem RepW.int {i : Int} (h : RepW g al L H v (.int i)) : v = .int i := by
  cases h with
  | v h => cases h; rfl
theorem RepW.bl {i : Bool} (h : RepW g al L H v (.bl i)) : v = .bl i := by
  cases h with
  | v h => cases h; rfl
theorem RepW.non (h : RepW g al L H v .non) : v = .non := by
  cases h with
  | v h => cases h; rfl
theorem RepW.str {i : Str} (h : RepW g al L H v (.str i)) : v = .str i := by
  cases h with
  | v h => cases h; rfl
theorem RepW.lst {ds : List D} (h : RepW g al L H v (.lst ds)) : ∃ (a : Addr) (vs : List V), v = .ref a ∧ H a = some (.lst vs) ∧ RepVs g al L H vs ds := by
  cases h with
  | v h => cases h with
    | lst h1 h2 h3 => exact ⟨_, _, rfl, h1, h3⟩
  | own h1 h2 => exact ⟨_, _, rfl, h1, h2⟩
theorem RepW.tup {ds : List D} (h : RepW g al L H v (.tup ds)) : ∃ (a : Addr) (vs : List V), v = .ref a ∧ SqT g.K H a vs ∧ RepVs g al L H vs ds := by
  cases h with
  | v h => cases h with
    | tup h1 h3 => exact ⟨_, _, rfl, h1, h3⟩
theorem RepW.frz {ds : List D} (h : RepW g al L H v (.frz ds)) : ∃ (a : Addr) (vs : List V), v = .ref a ∧ FzL g.K H a vs ∧ RepVs g al L H vs ds := by
  cases h with
  | v h => cases h with
    | frz h1 h3 => exact ⟨_, _, rfl, h1, h3⟩
end
section
variable {g : G} {R : Addr → Prop} {al : List Addr} {om : Om} {σ : St} {ρ : Rho} {H H' : Hp} {W : WX} {X : Cx}
theorem okSame {Q : VK} {v : V} {d : D} (S : Rst g R al σ ρ om H) (P : PostR g R W (relV g) al (Mt al om σ ρ) H σ (.ok d ρ om) Q) (r : RepV g al (LL R al om σ ρ) H v d) : Q v H := P v H al .refl S r
theorem okNewT {Q : VK} {vs : List V} {ds : List D} {p : Addr} (S : Rst g R al σ ρ om H) (P : PostR g R W (relV g) al (Mt al om σ ρ) H σ (.ok (.tup ds) ρ om) Q) (hp : H p = none) (r : RepVs g al (LL R al om σ ρ) H vs ds) : Q (.ref p) (upd H p (.tup vs)) := by
  obtain ⟨S', s⟩ := S.grow (upd_keep (o := .tup vs) hp)
  exact P _ _ al s S' (.tup (.inl (.inl upd_same)) (s.reps S r))
theorem okNewL {Q : VK} {vs : List V} {ds : List D} {p : Addr} (S : Rst g R al σ ρ om H) (P : PostR g R W (relV g) al (Mt al om σ ρ) H σ (.ok (.lst ds) ρ om) Q) (hp : H p = none) (r : RepVs g al (LL R al om σ ρ) H vs ds) : Q (.ref p) (upd H p (.lst vs)) := by
  obtain ⟨S', s⟩ := S.grow (upd_keep (o := .lst vs) hp)
  exact P _ _ al s S' (.lst upd_same (S.new hp) (s.reps S r))
/-- an operation by values does what f says -/
def OpS (g : G) (r : R2) (f : D → D → Option D) : Prop := ∀ (R : Addr → Prop) (W : WX) (al : List Addr) (om : Om) (σ : St) (ρ : Rho) (H : Hp) (Q : VK) (v w : V) (x y : D), Rst g R al σ ρ om H → RepW g al (LL R al om σ ρ) H v x → RepW g al (LL R al om σ ρ) H w y →
  PostR g R W (relV g) al (Mt al om σ ρ) H σ (liftO (f x y) ρ om) Q → r v w H Q
def UnS (g : G) (r : V → Hp → VK → Prop) (f : D → Option D) : Prop := ∀ (R : Addr → Prop) (W : WX) (al : List Addr) (om : Om) (σ : St) (ρ : Rho) (H : Hp) (Q : VK) (v : V) (x : D), Rst g R al σ ρ om H → RepW g al (LL R al om σ ρ) H v x →
  PostR g R W (relV g) al (Mt al om σ ρ) H σ (liftO (f x) ρ om) Q → r v H Q
def FnS (g : G) (r : List V → Hp → VK → Prop) (f : List D → Option D) : Prop := ∀ (R : Addr → Prop) (W : WX) (al : List Addr) (om : Om) (σ : St) (ρ : Rho) (H : Hp) (Q : VK) (vs : List V) (xs : List D), Rst g R al σ ρ om H → RepWs g al (LL R al om σ ρ) H vs xs →
  PostR g R W (relV g) al (Mt al om σ ρ) H σ (liftO (f xs) ρ om) Q → r vs H Q
def MeS (g : G) (r : V → List V → Hp → VK → Prop) (f : D → List D → Option D) : Prop := ∀ (R : Addr → Prop) (W : WX) (al : List Addr) (om : Om) (σ : St) (ρ : Rho) (H : Hp) (Q : VK) (v : V) (x : D) (vs : List V) (xs : List D), Rst g R al σ ρ om H → RepW g al (LL R al om σ ρ) H v x → RepWs g al (LL R al om σ ρ) H vs xs →
  PostR g R W (relV g) al (Mt al om σ ρ) H σ (liftO (f x xs) ρ om) Q → r v vs H Q
/-- a two-place reading -/
theorem tOp_of {r : R2} {f : D → D → Option D} {ua ub : UE} (hf : OpS g r f) {Q : VK} (h : tE g W (uBin f ua ub) σ H Q) : tOp r (tE g W ua) (tE g W ub) σ H Q := by
  obtain ⟨R, ρ, om, al, S, P⟩ := h
  refine tR_bind S P fun x ρ1 om1 v H1 al1 s1 S1 r1 P1 => ?_
  refine tR_bind S1 P1 fun y ρ2 om2 w H2 al2 s2 S2 r2 P2 => ?_
  exact hf R W al2 om2 σ ρ2 H2 Q v w x y S2 (.v (s2.rep S1 r1)) (.v r2) P2
variable {a b c e : Expr} {ua ub uc ue : UE} {ut uv : UT} {pos : Pos} {es : List Expr} {us : UA}
theorem pu_var (i : Nat) {x : Str} (hN : X.N[i]? = some x := by rfl) (hv : Vis X.env.scope x := by first | exact Or.inl rfl | exact Or.inr (Or.inl rfl) | exact Or.inr (Or.inr rfl)) (hd : (x == ("__debug__" : Str)) = false := by decide)
    (hcd : (x == ("__classdict__" : Str)) = false := by decide) : PE X (.Name x pos) (tE g W (uVar i)) := peImp (pe_var hN hv hd hcd) fun σ H Q ⟨R, ρ, om, al, S, P⟩ => by
  simp only [uVar] at P
  split at P
  · rename_i d e
    obtain ⟨v, h1, h2⟩ := S.val i d e
    exact ⟨v, h1, okSame S P h2⟩
  · exact P.elim
theorem pu_int {i : Int} {j} : PE X (.Constant (.int i) j pos) (tE g W (uC (.int i))) := peImp pe_int fun σ H Q ⟨R, ρ, om, al, S, P⟩ => okSame S P .int
theorem pu_bl {i : Bool} {j} : PE X (.Constant (.bool i) j pos) (tE g W (uC (.bl i))) := peImp pe_bl fun σ H Q ⟨R, ρ, om, al, S, P⟩ => okSame S P .bl
theorem pu_non {j} : PE X (.Constant .none j pos) (tE g W (uC .non)) := peImp pe_non fun σ H Q ⟨R, ρ, om, al, S, P⟩ => okSame S P .non
theorem pu_str {i : Str} {j} : PE X (.Constant (.str i) j pos) (tE g W (uC (.str i))) := peImp pe_str fun σ H Q ⟨R, ρ, om, al, S, P⟩ => okSame S P .str
/-- a constant of the module -/
theorem pu_glob {x : Str} {d : D} {v : V} {u : Value} (hg : Gl X x) (hm : X.mg x = some u) (r : RelV v u) (hr : ∀ al L H, RepV g al L H v d) (hd : (x == ("__debug__" : Str)) = false := by decide) : PE X (.Name x pos) (tE g W (uC d)) :=
  peImp (pe_glob hg hm r hd) fun σ H Q ⟨R, ρ, om, al, S, P⟩ => okSame S P (hr _ _ _)
theorem pu_bin {op : Operator} {r : R2} {f : D → D → Option D} (ho : OpR X (binaryOp op) r) (hf : OpS g r f) (ha : PE X a (tE g W ua)) (hb : PE X b (tE g W ub)) : PE X (.BinOp a op b pos) (tE g W (uBin f ua ub)) :=
  peImp (pe_op ho ha hb) fun σ H Q h => tOp_of hf h
theorem pu_un {op : UnaryOp} {r : V → Hp → VK → Prop} {f : D → Option D} (ho : UnR X (unaryOp op) r) (hf : UnS g r f) (ha : PE X a (tE g W ua)) : PE X (.UnaryOp op a pos) (tE g W (uUn f ua)) :=
  peImp (pe_un ho ha) fun σ H Q ⟨R, ρ, om, al, S, P⟩ => tR_bind S P fun x ρ1 om1 v H1 al1 s1 S1 r1 P1 => hf R W al1 om1 σ ρ1 H1 Q v x S1 (.v r1) P1
theorem pu_cmp {op : CmpOp} {r : R2} {f : D → D → Option D} (ho : OpR X (compareOp op) r) (hf : OpS g r f) (ha : PE X a (tE g W ua)) (hb : PE X b (tE g W ub)) (hm : behindInMarks op b = false) : PE X (.Compare a [op] [b] pos) (tE g W (uBin f ua ub)) :=
  peImp (pe_cmpR ho ha hb hm) fun σ H Q h => tOp_of hf h
theorem pu_ix {r : R2} {f : D → D → Option D} (ho : IxR X r) (hf : OpS g r f) (ha : PE X a (tE g W ua)) (hb : PE X b (tE g W ub)) (hs : PlainIx b := by exact fun _ _ => rfl) : PE X (.Subscript a b pos) (tE g W (uBin f ua ub)) :=
  peImp (pe_ix ho ha hb hs) fun σ H Q h => tOp_of hf h
/-- a value of the layer is a bool -/
theorem tB_of {Q : Bool → Hp → Prop} (h : tT g W (uB ua) σ H Q) : tE g W ua σ H fun x H' => ∃ k, x = .bl k ∧ Q k H' := by
  obtain ⟨R, ρ, om, al, S, P⟩ := h
  refine tR_bind S P fun x ρ1 om1 v H1 al1 s1 S1 r1 P1 => ?_
  cases r1 with
  | bl => exact ⟨_, rfl, P1 _ _ _ .refl S1 rfl⟩
  | _ => exact P1.elim
theorem pt_of (ha : PE X a (tE g W ua)) (he : ∀ whole, isTrue a X.env whole = (do let v ← whole; standAt a.pos; holding [v] (truthy v)) := by intro _; rfl) : PT X a (tT g W (uB ua)) :=
  ptImp (pt_val ha he) fun σ H Q h => tB_of h
theorem pt_cmpU {op : CmpOp} {r : R2} {f : D → D → Option D} (ho : OpR X (compareOp op) r) (hf : OpS g r f) (ha : PE X a (tE g W ua)) (hb : PE X b (tE g W ub)) (hm : behindInMarks op b = false) : PT X (.Compare a [op] [b] pos) (tT g W (uB (uBin f ua ub))) :=
  ptImp (pt_cmpR ho ha hb hm) fun σ H Q h => by
    obtain ⟨R, ρ, om, al, S, P⟩ := tB_of h
    exact tOp_of hf ⟨R, ρ, om, al, S, P⟩
theorem pt_notU (ha : PT X a (tT g W ut)) : PT X (.UnaryOp .Not a pos) (tT g W (uNot ut)) := ptImp (pt_not ha) fun σ H Q ⟨R, ρ, om, al, S, P⟩ =>
  tR_bind S P fun x ρ1 om1 v H1 al1 s1 S1 r1 P1 => by
    cases (show v = x from r1)
    exact P1 _ _ _ .refl S1 rfl
theorem pw_and1U (ha : PT X a (tT g W ut)) : PW X (.BoolOp .And [a] pos) (tT g W ut) := pw_and1 ha
theorem pw_or1U (ha : PT X a (tT g W ut)) : PW X (.BoolOp .Or [a] pos) (tT g W ut) := pw_or1 ha
theorem pw_andU (ha : PT X a (tT g W ut)) (hb : PW X (.BoolOp .And (b :: es) pos) (tT g W uv)) : PW X (.BoolOp .And (a :: b :: es) pos) (tT g W (uAnd ut uv)) := pwImp (pw_and ha hb) fun σ H Q ⟨R, ρ, om, al, S, P⟩ =>
  tR_bind S P fun x ρ1 om1 v H1 al1 s1 S1 r1 P1 => by
    cases (show v = x from r1)
    cases x with
    | true => exact ⟨R, ρ1, om1, al1, S1, P1⟩
    | false => exact P1 _ _ _ .refl S1 rfl
theorem pw_orU (ha : PT X a (tT g W ut)) (hb : PW X (.BoolOp .Or (b :: es) pos) (tT g W uv)) : PW X (.BoolOp .Or (a :: b :: es) pos) (tT g W (uOr ut uv)) := pwImp (pw_or ha hb) fun σ H Q ⟨R, ρ, om, al, S, P⟩ =>
  tR_bind S P fun x ρ1 om1 v H1 al1 s1 S1 r1 P1 => by
    cases (show v = x from r1)
    cases x with
    | true => exact P1 _ _ _ .refl S1 rfl
    | false => exact ⟨R, ρ1, om1, al1, S1, P1⟩
/-- and, or, not as values of bools -/
theorem pu_one {op} (h : PE X a (tE g W ua)) : PE X (.BoolOp op [a] pos) (tE g W ua) := pe_one h
theorem pu_and (ha : PE X a (tE g W ua)) (hb : PE X (.BoolOp .And (b :: es) pos) (tE g W ub)) : PE X (.BoolOp .And (a :: b :: es) pos) (tE g W (uAndV ua ub)) := peImp (pe_and ha hb) fun σ H Q ⟨R, ρ, om, al, S, P⟩ =>
  tR_bind S P fun x ρ1 om1 v H1 al1 s1 S1 r1 P1 => by
    cases r1 with
    | @bl k =>
      refine ⟨_, rfl, ?_⟩
      cases k with
      | true => exact ⟨R, ρ1, om1, al1, S1, P1⟩
      | false => exact okSame S1 P1 .bl
    | _ => exact P1.elim
theorem pu_or (ha : PE X a (tE g W ua)) (hb : PE X (.BoolOp .Or (b :: es) pos) (tE g W ub)) : PE X (.BoolOp .Or (a :: b :: es) pos) (tE g W (uOrV ua ub)) := peImp (pe_or ha hb) fun σ H Q ⟨R, ρ, om, al, S, P⟩ =>
  tR_bind S P fun x ρ1 om1 v H1 al1 s1 S1 r1 P1 => by
    cases r1 with
    | @bl k =>
      refine ⟨_, rfl, ?_⟩
      cases k with
      | true => exact okSame S1 P1 .bl
      | false => exact ⟨R, ρ1, om1, al1, S1, P1⟩
    | _ => exact P1.elim
theorem pu_not (ha : PE X a (tE g W ua)) : PE X (.UnaryOp .Not a pos) (tE g W (uNotV ua)) := peImp (pe_not ha) fun σ H Q ⟨R, ρ, om, al, S, P⟩ =>
  tR_bind S P fun x ρ1 om1 v H1 al1 s1 S1 r1 P1 => by
    cases r1 with
    | @bl k => exact ⟨_, rfl, okSame S1 P1 .bl⟩
    | _ => exact P1.elim
theorem pu_if (hc : PT X c (tT g W ut)) (ha : PE X a (tE g W ua)) (hb : PE X b (tE g W ub)) : PE X (.IfExp c a b pos) (tE g W (uIf ut ua ub)) := peImp (pe_ifExp hc ha hb) fun σ H Q ⟨R, ρ, om, al, S, P⟩ =>
  tR_bind S P fun x ρ1 om1 v H1 al1 s1 S1 r1 P1 => by
    cases (show v = x from r1)
    cases x with
    | true => exact ⟨R, ρ1, om1, al1, S1, P1⟩
    | false => exact ⟨R, ρ1, om1, al1, S1, P1⟩
/-- a chain of two comparisons -/
theorem tChain_of {r r' : R2} {f f' : D → D → Option D} (hf : OpS g r f) (hf' : OpS g r' f') {Q : VK} (h : tE g W (uChain f f' ua ub uc) σ H Q) : tChain r r' (tE g W ua) (tE g W ub) (tE g W uc) σ H Q := by
  obtain ⟨R, ρ, om, al, S, P⟩ := h
  refine tR_bind S P fun x ρ1 om1 v H1 al1 s1 S1 r1 P1 => ?_
  refine tR_bind S1 P1 fun y ρ2 om2 w H2 al2 s2 S2 r2 P2 => ?_
  refine hf R W al2 om2 σ ρ2 H2 _ v w x y S2 (.v (s2.rep S1 r1)) (.v r2) ?_
  cases e : f x y with
  | none =>
    rw [e] at P2
    exact P2.elim
  | some z =>
    rw [e] at P2
    show PostR g R W (relV g) al2 (Mt al2 om2 σ ρ2) H2 σ (.ok z ρ2 om2) _
    intro v3 H3 al3 s3 S3 r3
    have P3 := PostR.step s3 P2
    cases r3 with
    | @bl k =>
      refine ⟨k, rfl, ?_⟩
      cases k with
      | true =>
        refine tR_bind S3 (P3 : PostR g R W (relV g) al3 (Mt al3 om2 σ ρ2) H3 σ ((uc ρ2 om2).bind fun w ρ ω => liftO (f' y w) ρ ω) Q) fun z2 ρ4 om4 w4 H4 al4 s4 S4 r4 P4 => ?_
        exact hf' R W al4 om4 σ ρ4 H4 Q w w4 y z2 S4 (.v (s4.rep S3 (s3.rep S2 r2))) (.v r4) P4
      | false => exact okSame S3 P3 .bl
    | _ => exact P3.elim
theorem pu_chain {op op' : CmpOp} {r r' : R2} {f f' : D → D → Option D} (ho : OpR X (compareOp op) r) (ho' : OpR X (compareOp op') r') (hf : OpS g r f) (hf' : OpS g r' f') (ha : PE X a (tE g W ua)) (hb : PE X b (tE g W ub)) (hc : PE X c (tE g W uc))
    (hm : lastMarks [op, op'] [b, c] = false := by with_unfolding_all rfl) : PE X (.Compare a [op, op'] [b, c] pos) (tE g W (uChain f f' ua ub uc)) := peImp (pe_chain ho ho' ha hb hc hm) fun σ H Q h => tChain_of hf hf' h
theorem pt_chainU {op op' : CmpOp} {r r' : R2} {f f' : D → D → Option D} (ho : OpR X (compareOp op) r) (ho' : OpR X (compareOp op') r') (hf : OpS g r f) (hf' : OpS g r' f') (ha : PE X a (tE g W ua)) (hb : PE X b (tE g W ub)) (hc : PE X c (tE g W uc))
    (hm : lastMarks [op, op'] [b, c] = false := by with_unfolding_all rfl) : PT X (.Compare a [op, op'] [b, c] pos) (tT g W (uB (uChain f f' ua ub uc))) := ptImp (pt_chain ho ho' ha hb hc hm) fun σ H Q h => by
    obtain ⟨R, ρ, om, al, S, P⟩ := tB_of h
    exact tChain_of hf hf' ⟨R, ρ, om, al, S, P⟩
/-! argument lists and displays -/
theorem pa_nilU : PA X [] (tA g W uNil) := paImp pa_nil fun σ H Q ⟨R, ρ, om, al, S, P⟩ => P _ _ _ .refl S .nil
theorem pa_consU (ha : PE X e (tE g W ue)) (hr : PA X es (tA g W us)) (hs : starEach (e :: es) X.env = (false, eval e X.env) :: starEach es X.env := by rfl) : PA X (e :: es) (tA g W (uCons ue us)) := paImp (pa_cons ha hr hs) fun σ H Q ⟨R, ρ, om, al, S, P⟩ =>
  tR_bind S P fun x ρ1 om1 v H1 al1 s1 S1 r1 P1 => tR_bind S1 P1 fun xs ρ2 om2 vs H2 al2 s2 S2 r2 P2 => P2 _ _ _ .refl S2 (.cons (s2.rep S1 r1) r2)
theorem pu_tup {x1} (h : PA X es (tA g W us)) : PE X (.Tuple es x1 pos) (tE g W (uTup us)) := peImp (pe_tup h) fun σ H Q ⟨R, ρ, om, al, S, P⟩ =>
  tR_bind S P fun xs ρ1 om1 vs H1 al1 s1 S1 r1 P1 => by
    split at P1
    · rename_i hz
      exact ⟨big_line (by rw [RepVs.length r1]; exact hz), fun p hp => okNewT S1 P1 hp r1⟩
    · exact P1.elim
theorem pu_lst (h : PA X es (tA g W us)) : PE X (.List es pos) (tE g W (uLst us)) := peImp (pe_lst h) fun σ H Q ⟨R, ρ, om, al, S, P⟩ =>
  tR_bind S P fun xs ρ1 om1 vs H1 al1 s1 S1 r1 P1 => by
    split at P1
    · rename_i hz
      exact ⟨big_line (by rw [RepVs.length r1]; exact hz), fun p hp => okNewL S1 P1 hp r1⟩
    · exact P1.elim
end
end Dv

namespace Dv
open PySem PySem.Spec PyProof.Rows L2
section
variable {g : G} {R : Addr → Prop} {al : List Addr} {om : Om} {σ : St} {ρ : Rho} {H H' : Hp} {W : WX} {X : Cx} {L : Addr → Prop}
/-! ### arithmetic -/
theorem mulOk_ok {i j : Int} (h : mulOk i j = true) : CMul i j ∨ CMulW i j := by
  unfold mulOk at h
  simp only [Bool.or_eq_true, decide_eq_true_eq] at h
  unfold CMul CMulW
  omega
def rAddU : R2 := fun x y H Q => rI0 (fun i j => .int (i + j)) x y H Q ∨ (∃ i j, x = .str i ∧ y = .str j ∧ i.length + j.length ≤ sizeLine ∧ Q (.str (i ++ j)) H) ∨ rCat x y H Q
theorem op_addU : OpR X (binaryOp .Add) rAddU := op_add.or (op_add_str.or op_cat)
theorem s_add : OpS g rAddU dAdd := by
  intro R W al om σ ρ H Q v w x y S rx ry P
  cases x <;> cases y <;> first | exact P.elim | skip
  · cases rx.int; cases ry.int
    exact .inl ⟨_, _, rfl, rfl, okSame S P .int⟩
  · rename_i i j
    cases rx.str; cases ry.str
    by_cases hz : i.length + j.length ≤ big
    · simp only [dAdd, if_pos hz] at P
      exact .inr (.inl ⟨_, _, rfl, rfl, big_line hz, okSame S P .str⟩)
    · simp only [dAdd, if_neg hz] at P
      exact P.elim
  · rename_i ds es
    obtain ⟨a, vs, rfl, ha, ra⟩ := rx.lst
    obtain ⟨b, ws, rfl, hb, rb⟩ := ry.lst
    by_cases hz : ds.length + es.length ≤ big
    · simp only [dAdd, if_pos hz] at P
      exact .inr (.inr ⟨_, _, _, _, rfl, rfl, ha, hb, big_line (by rw [ra.length, rb.length]; exact hz), fun p hp => okNewL S P hp (ra.append rb)⟩)
    · simp only [dAdd, if_neg hz] at P
      exact P.elim
theorem s_sub : OpS g (rI0 fun i j => .int (i - j)) dSub := by
  intro R W al om σ ρ H Q v w x y S rx ry P
  cases x <;> cases y <;> first | exact P.elim | skip
  cases rx.int; cases ry.int
  exact ⟨_, _, rfl, rfl, okSame S P .int⟩
def rMulU : R2 := fun x y H Q => rI CMul (fun i j => .int (i * j)) x y H Q ∨ rI CMulW (fun i j => .int (i * j)) x y H Q ∨ rRep x y H Q
theorem op_mulU : OpR X (binaryOp .Mult) rMulU := op_mul.or (op_mulW.or op_rep)
theorem s_mul : OpS g rMulU dMul := by
  intro R W al om σ ρ H Q v w x y S rx ry P
  cases x <;> cases y <;> first | exact P.elim | skip
  · rename_i i j
    cases rx.int; cases ry.int
    by_cases hz : mulOk i j = true
    · simp only [dMul, if_pos hz] at P
      rcases mulOk_ok hz with h | h
      · exact .inl ⟨_, _, rfl, rfl, h, okSame S P .int⟩
      · exact .inr (.inl ⟨_, _, rfl, rfl, h, okSame S P .int⟩)
    · simp only [dMul, if_neg hz] at P
      exact P.elim
  · rename_i ds j
    obtain ⟨a, vs, rfl, ha, ra⟩ := rx.lst
    cases ry.int
    by_cases hz : -1000 ≤ j ∧ j ≤ 1000 ∧ ds.length ≤ 1000
    · simp only [dMul, if_pos hz] at P
      obtain ⟨z1, z2, z3⟩ := hz
      refine .inr (.inr ⟨_, _, _, rfl, rfl, ha, by omega, by omega, ?_, fun p hp => okNewL S P hp (ra.flat _)⟩)
      have e : sizeLine = 16777216 := sizeLine_eq
      rw [ra.length, e]
      have : ds.length * j.toNat ≤ 1000 * 1000 := Nat.mul_le_mul z3 (by omega)
      omega
    · simp only [dMul, if_neg hz] at P
      exact P.elim
def CDivU (i j : Int) : Prop := j ≠ 0 ∧ Builtin.divisionGoesByPylong i j = false
theorem op_fdivU : OpR X (binaryOp .FloorDiv) (rI CDivU fun i j => .int (i.fdiv j)) := opI fun _ _ _ _ _ _ _ hc q => floordiv_int hc.1 q (.inl hc.2)
theorem s_div : OpS g (rI CDivU fun i j => .int (i.fdiv j)) dDiv := by
  intro R W al om σ ρ H Q v w x y S rx ry P
  cases x <;> cases y <;> first | exact P.elim | skip
  rename_i i j
  cases rx.int; cases ry.int
  by_cases hz : j ≠ 0 ∧ divOk i j = true
  · simp only [dDiv, if_pos hz] at P
    exact ⟨_, _, rfl, rfl, ⟨hz.1, by simpa [divOk] using hz.2⟩, okSame S P .int⟩
  · simp only [dDiv, if_neg hz] at P
    exact P.elim
theorem s_mod : OpS g (rI (fun _ j => j ≠ 0) fun i j => .int (i.fmod j)) dMod := by
  intro R W al om σ ρ H Q v w x y S rx ry P
  cases x <;> cases y <;> first | exact P.elim | skip
  rename_i i j
  cases rx.int; cases ry.int
  by_cases hz : j ≠ 0
  · simp only [dMod, if_pos hz] at P
    exact ⟨_, _, rfl, rfl, hz, okSame S P .int⟩
  · simp only [dMod, if_neg hz] at P
    exact P.elim
theorem s_neg : UnS g (rU fun i => .int (-i)) dNeg := by
  intro R W al om σ ρ H Q v x S rx P
  cases x <;> first | exact P.elim | skip
  cases rx.int
  exact ⟨_, rfl, okSame S P .int⟩
/-! ### comparisons -/
theorem s_lt : OpS g (rI0 fun i j => .bl (decide (i < j))) dLt := by
  intro R W al om σ ρ H Q v w x y S rx ry P
  cases x <;> cases y <;> first | exact P.elim | skip
  cases rx.int; cases ry.int
  exact ⟨_, _, rfl, rfl, okSame S P .bl⟩
theorem s_le : OpS g (rI0 fun i j => .bl (decide (i ≤ j))) dLe := by
  intro R W al om σ ρ H Q v w x y S rx ry P
  cases x <;> cases y <;> first | exact P.elim | skip
  cases rx.int; cases ry.int
  exact ⟨_, _, rfl, rfl, okSame S P .bl⟩
theorem s_gt : OpS g (rI0 fun i j => .bl (decide (j < i))) dGt := by
  intro R W al om σ ρ H Q v w x y S rx ry P
  cases x <;> cases y <;> first | exact P.elim | skip
  cases rx.int; cases ry.int
  exact ⟨_, _, rfl, rfl, okSame S P .bl⟩
theorem s_ge : OpS g (rI0 fun i j => .bl (decide (j ≤ i))) dGe := by
  intro R W al om σ ρ H Q v w x y S rx ry P
  cases x <;> cases y <;> first | exact P.elim | skip
  cases rx.int; cases ry.int
  exact ⟨_, _, rfl, rfl, okSame S P .bl⟩
def rIsN : R2 := fun x y H Q => y = .non ∧ Q (.bl (decide (x = .non))) H
theorem s_is : OpS g rIsN dIs := by
  intro R W al om σ ρ H Q v w x y S rx ry P
  cases y <;> first | exact P.elim | skip
  cases ry.non
  refine ⟨rfl, okSame S P ?_⟩
  cases rx with
  | v rx => cases rx <;> exact .bl
  | own h r => exact .bl
def rNotN : R2 := fun x y H Q => y = .non ∧ Q (.bl (!decide (x = .non))) H
theorem s_isnot : OpS g rNotN dIsNot := by
  intro R W al om σ ρ H Q v w x y S rx ry P
  cases y <;> first | exact P.elim | skip
  cases ry.non
  refine ⟨rfl, okSame S P ?_⟩
  cases rx with
  | v rx => cases rx <;> exact .bl
  | own h r => exact .bl
/-! ### equality -/
mutual
theorem dp_of : ∀ {d : D} {v : V} {p : PyData}, RepV g al L H v d → toPy d = some p → Dp g.K H v p
  | .non, _, _, .non, e => by cases e; exact .non
  | .bl b, _, _, .bl, e => by cases e; exact .bl b
  | .int i, _, _, .int, e => by cases e; exact .int i
  | .str x, _, _, .str, e => by cases e; exact .str x
  | .tup ds, _, p, .tup h r, e => by
    unfold toPy at e
    split at e
    · rename_i l hl
      cases e
      exact .tup h (dps_of r hl)
    · cases e
  | .lst ds, _, p, .lst h n r, e => by
    unfold toPy at e
    split at e
    · rename_i l hl
      cases e
      exact .lst (SqL.of h) (dps_of r hl)
    · cases e
  | .obj _ _, _, _, _, e => by cases e
  | .loc _, _, _, _, e => by cases e
  | .frz _, _, _, _, e => by cases e
theorem dps_of : ∀ {ds : List D} {vs : List V} {p : List PyData}, RepVs g al L H vs ds → toPys ds = some p → DpAll g.K H vs p
  | [], _, _, .nil, e => by cases e; exact .nil
  | d :: ds, _, p, .cons h r, e => by
    unfold toPys at e
    split at e
    · rename_i q l h1 h2
      cases e
      exact .cons (dp_of h h1) (dps_of r h2)
    · cases e
end
/-- a list compared with one that holds nothing -/
def rEqNil : R2 := fun x y H Q => ∃ (a b : Addr) (xs : List V), x = .ref a ∧ y = .ref b ∧ H a = some (.lst xs) ∧ H b = some (.lst []) ∧ Q (.bl (decide (xs.length = 0))) H
def rNeNil : R2 := fun x y H Q => ∃ (a b : Addr) (xs : List V), x = .ref a ∧ y = .ref b ∧ H a = some (.lst xs) ∧ H b = some (.lst []) ∧ Q (.bl (!decide (xs.length = 0))) H
theorem op_eqNil (hu : X.A.units < cLine) : OpR X (compareOp .Eq) rEqNil := by
  intro pins s σ H x y v u Q I rx ry h
  obtain ⟨a, b, xs, rfl, rfl, ha, hb, q⟩ := h
  cases rx
  cases ry
  obtain ⟨its, r1, p1, z1⟩ := I.list (SqL.of ha)
  obtain ⟨jts, r2, p2, z2⟩ := I.list (SqL.of hb)
  cases r2
  cases xs with
  | nil =>
    cases r1
    exact SeqAt.eq_listAt (e := fun _ => true) p1.isList p2.isList rfl hu (fun j h1 _ => absurd h1 (by simp)) ⟨.bl _, H, I, rfl, q⟩
  | cons x xs =>
    cases r1 with
    | cons r1 rs => exact SeqAt.eq_list_lengthsAt p1.isList p2.isList (by simp) hu ⟨.bl _, H, I, rfl, q⟩
theorem op_neNil (hu : X.A.units < cLine) : OpR X (compareOp .NotEq) rNeNil := by
  intro pins s σ H x y v u Q I rx ry h
  obtain ⟨a, b, xs, rfl, rfl, ha, hb, q⟩ := h
  cases rx
  cases ry
  obtain ⟨its, r1, p1, z1⟩ := I.list (SqL.of ha)
  obtain ⟨jts, r2, p2, z2⟩ := I.list (SqL.of hb)
  cases r2
  cases xs with
  | nil =>
    cases r1
    exact SeqAt.RcNeAt.lists (e := fun _ => true) p1.isList p2.isList rfl hu (fun j h1 _ => absurd h1 (by simp)) X.prog X.w _ _ ⟨.bl _, H, I, rfl, q⟩
  | cons x xs =>
    cases r1 with
    | cons r1 rs => exact SeqAt.RcNeAt.lists_lengths p1.isList p2.isList (by simp) hu X.prog X.w _ _ ⟨.bl _, H, I, rfl, q⟩
def rEqU (K : PySem.W.Frag) : R2 := fun x y H Q => rEq x y H Q ∨ rEqD K x y H Q ∨ rEqNil x y H Q
theorem op_eqU (hu : X.A.units + 64 < cLine) : OpR X (compareOp .Eq) (rEqU X.K) := op_eq.or ((op_eqD hu).or (op_eqNil (by omega)))
def rNeU (K : PySem.W.Frag) : R2 := fun x y H Q => rNe x y H Q ∨ rNeD K x y H Q ∨ rNeNil x y H Q
theorem op_neU (hu : X.A.units + 64 < cLine) : OpR X (compareOp .NotEq) (rNeU X.K) := op_ne.or ((op_neD hu).or (op_neNil (by omega)))
/-- the ways an equality is told -/
inductive EqW (g : G) (H : Hp) : V → V → Bool → Prop
  | sc {v w : V} {b : Bool} : scal v w = true → decide (v = w) = b → EqW g H v w b
  | dp {v w : V} {p q : PyData} {b : Bool} : Dp g.K H v p → Dp g.K H w q → SeqAt.shaped p = true → SeqAt.shaped q = true → PyData.eqv p q = b → EqW g H v w b
  | nl {a c : Addr} {xs : List V} {b : Bool} : H a = some (.lst xs) → H c = some (.lst []) → decide (xs.length = 0) = b → EqW g H (.ref a) (.ref c) b
theorem dp_ofW {d : D} {v : V} {p : PyData} (h : RepW g al L H v d) (e : toPy d = some p) : Dp g.K H v p := by
  cases h with
  | v h => exact dp_of h e
  | own h r =>
    unfold toPy at e
    split at e
    · rename_i l hl
      cases e
      exact .lst (SqL.of h) (dps_of r hl)
    · cases e
theorem eqPy_way {x y : D} {v w : V} {b : Bool} (rx : RepW g al L H v x) (ry : RepW g al L H w y) (e : eqPy x y = some b) : EqW g H v w b := by
  unfold eqPy at e
  split at e
  · rename_i p q hp hq
    split at e
    · rename_i hs
      cases e
      exact .dp (dp_ofW rx hp) (dp_ofW ry hq) hs.1 hs.2 rfl
    · cases e
  · cases e
theorem eq_way {x y : D} {v w : V} {b : Bool} (rx : RepW g al L H v x) (ry : RepW g al L H w y) (e : dEqB x y = some b) : EqW g H v w b := by
  unfold dEqB at e
  split at e
  · cases rx.int; cases ry.int; cases e
    exact .sc rfl (by simp)
  · cases rx.bl; cases ry.bl; cases e
    exact .sc rfl (by simp)
  · cases rx.str; cases ry.str; cases e
    exact .sc rfl (by simp)
  · cases rx.non; cases ry.non; cases e
    exact .sc rfl rfl
  · obtain ⟨a, vs, rfl, h1, r1⟩ := rx.lst
    obtain ⟨b, ws, rfl, h2, r2⟩ := ry.lst
    cases r2
    cases e
    exact .nl h1 h2 (by rw [r1.length])
  · exact eqPy_way rx ry e
theorem s_eq : OpS g (rEqU g.K) dEq := by
  intro R W al om σ ρ H Q v w x y S rx ry P
  unfold dEq at P
  split at P
  · rename_i b e
    cases eq_way rx ry e with
    | sc h1 h2 => exact .inl ⟨h1, by rw [h2]; exact okSame S P .bl⟩
    | dp h1 h2 h3 h4 h5 => exact .inr (.inl ⟨_, _, h1, h2, h3, h4, by rw [h5]; exact okSame S P .bl⟩)
    | nl h1 h2 h3 => exact .inr (.inr ⟨_, _, _, rfl, rfl, h1, h2, by rw [h3]; exact okSame S P .bl⟩)
  · exact P.elim
theorem s_ne : OpS g (rNeU g.K) dNe := by
  intro R W al om σ ρ H Q v w x y S rx ry P
  unfold dNe at P
  split at P
  · rename_i b e
    cases eq_way rx ry e with
    | sc h1 h2 => exact .inl ⟨h1, by rw [h2]; exact okSame S P .bl⟩
    | dp h1 h2 h3 h4 h5 => exact .inr (.inl ⟨_, _, h1, h2, h3, h4, by rw [h5]; exact okSame S P .bl⟩)
    | nl h1 h2 h3 => exact .inr (.inr ⟨_, _, _, rfl, rfl, h1, h2, by rw [h3]; exact okSame S P .bl⟩)
  · exact P.elim
/-! ### an item -/
theorem atN_atI {α : Type} {xs : List α} {i : Int} {d : α} (h : atN xs i = some d) : atI xs i = some d := by
  unfold atN at h
  unfold atI ixN
  by_cases h0 : 0 ≤ i
  · rw [if_pos h0] at h ⊢
    obtain ⟨hl, _⟩ := List.getElem?_eq_some_iff.mp h
    rw [if_pos (by omega)]
    exact h
  · rw [if_neg h0] at h ⊢
    split at h
    · rename_i h1
      rw [if_pos h1]
      exact h
    · cases h
theorem RepVs.atN {vs : List V} {ds : List D} (r : RepVs g al L H vs ds) {i : Int} {d : D} (h : Dv.atN ds i = some d) : ∃ v, atI vs i = some v ∧ RepV g al L H v d := by
  unfold Dv.atN at h
  by_cases h0 : 0 ≤ i
  · rw [if_pos h0] at h
    obtain ⟨v, e, q⟩ := r.get h
    exact ⟨v, atN_atI (by unfold Dv.atN; rw [if_pos h0]; exact e), q⟩
  · rw [if_neg h0] at h
    split at h
    · rename_i h1
      obtain ⟨v, e, q⟩ := r.get h
      exact ⟨v, atN_atI (by unfold Dv.atN; rw [if_neg h0, r.length, if_pos h1]; exact e), q⟩
    · cases h
theorem s_ix : OpS g (rIx g.K) dIx := by
  intro R W al om σ ρ H Q v w x y S rx ry P
  cases x <;> cases y <;> first | exact P.elim | skip
  · rename_i z i
    cases rx.str; cases ry.int
    simp only [dIx] at P
    split at P
    · rename_i hz
      split at P
      · rename_i c hc
        exact .inr (.inr ⟨_, _, c, rfl, rfl, big_line hz, atN_atI hc, okSame S P .str⟩)
      · exact P.elim
    · exact P.elim
  · rename_i ds i
    obtain ⟨a, vs, rfl, h, r⟩ := rx.tup
    cases ry.int
    simp only [dIx] at P
    cases e : atN ds i with
    | none => rw [e] at P; exact P.elim
    | some d =>
      rw [e] at P
      obtain ⟨v, h1, h2⟩ := r.atN e
      exact .inr (.inl ⟨_, _, _, _, rfl, rfl, h, h1, okSame S P h2⟩)
  · rename_i ds i
    obtain ⟨a, vs, rfl, h, r⟩ := rx.lst
    cases ry.int
    simp only [dIx] at P
    cases e : atN ds i with
    | none => rw [e] at P; exact P.elim
    | some d =>
      rw [e] at P
      obtain ⟨v, h1, h2⟩ := r.atN e
      exact .inl ⟨_, _, _, _, rfl, rfl, SqL.of h, h1, okSame S P h2⟩
end
end Dv

namespace Dv
open PySem PySem.Spec PyProof.Rows L2
section
variable {g : G} {R : Addr → Prop} {al : List Addr} {om : Om} {σ σ' : St} {ρ ρ' : Rho} {H H' : Hp} {W : WX} {X : Cx} {L : Addr → Prop} {i : Nat} {a p : Addr} {ds ds' : List D} {vs vs' : List V} {v : V} {d : D}
/-! ### changes of a state -/
theorem Sle.set1 (h : Sle g σ ρ) {s : Option Sl} (hs : ∀ x, s ≠ some (.exc x)) : Sle g σ (ρ.set i s) := ⟨by rw [List.length_set]; exact h.len, fun j a c x e q => by
  rw [List.getElem?_set] at q
  split at q
  · split at q
    · cases q; exact absurd rfl (hs x)
    · cases q
  · exact h.exc j a c x e q⟩
theorem Sle.set2 (h : Sle g σ ρ) {s : Option Sl} {w : Option V} (hs : ∀ x, s ≠ some (.exc x)) : Sle g (σ.set i w) (ρ.set i s) := ⟨by rw [List.length_set, List.length_set]; exact h.len, fun j a c x e q => by
  rw [List.getElem?_set] at q
  split at q
  · split at q
    · cases q; exact absurd rfl (hs x)
    · cases q
  · rename_i n
    rw [List.getElem?_set_ne n]
    exact h.exc j a c x e q⟩
theorem getset {α : Type} {l : List α} {i j : Nat} {x y : α} (h : (l.set i x)[j]? = some y) : (j = i ∧ y = x) ∨ (j ≠ i ∧ l[j]? = some y) := by
  rw [List.getElem?_set] at h
  split at h
  · rename_i e
    split at h
    · cases h; exact .inl ⟨e.symm, rfl⟩
    · cases h
  · rename_i e
    exact .inr ⟨fun z => e z.symm, h⟩
/-- a step in which the cells stay as they are -/
theorem Rst.chg (S : Rst g R al σ ρ om H) (st : Step al (Mt al om σ ρ) H al (Mt al om σ' ρ') H') (hl : ∀ a, Lv al om a → H' a = H a) (sl : Sle g σ' ρ') (rs : ∀ a, R a → H' a ≠ none)
    (val : ∀ (j : Nat) (d : D), ρ'[j]? = some (some (.val d)) → (ρ[j]? = some (some (.val d)) ∧ σ'[j]? = σ[j]?) ∨ ∃ v, σ'[j]? = some (some v) ∧ RepV g al (LL R al om σ' ρ') H' v d)
    (own : ∀ (j : Nat) (ds : List D), ρ'[j]? = some (some (.own ds)) → (ρ[j]? = some (some (.own ds)) ∧ σ'[j]? = σ[j]? ∧ ∀ b, σ[j]? = some (some (.ref b)) → H' b = H b) ∨ ∃ (a : Addr) (vs : List V), σ'[j]? = some (some (.ref a)) ∧ H' a = some (.lst vs) ∧ RepVs g al (LL R al om σ' ρ') H' vs ds)
    (odj : ∀ (i j : Nat) (a : Addr) (di dj : List D), ρ'[i]? = some (some (.own di)) → ρ'[j]? = some (some (.own dj)) → σ'[i]? = some (some (.ref a)) → σ'[j]? = some (some (.ref a)) → i = j)
    (ocl : ∀ a, OwnA σ' ρ' a → ¬ Lv al om a ∧ ¬ R a) : Rst g R al σ' ρ' om H' := by
  refine ⟨⟨S.o.len, fun j c b h1 h2 => ?_, S.o.inj, fun b h => ⟨(S.o.rsv b h).1, rs b h⟩⟩, sl, fun j d h => ?_, fun j ds h => ?_, odj, ocl⟩
  · exact (S.o.cel j c b h1 h2).car (st.car (Mt.flat S) fun a h => (S.o.rsv a h).2) (fun xs e n => by rw [hl b ⟨j, c, h2, h1, n⟩]; exact e) (fun C dx fs e n => by rw [hl b ⟨j, c, h2, h1, n⟩]; exact e)
  · rcases val j d h with ⟨h1, h2⟩ | q
    · obtain ⟨v, e, r⟩ := S.val j d h1
      exact ⟨v, by rw [h2]; exact e, st.rep S r⟩
    · exact q
  · rcases own j ds h with ⟨h1, h2, h3⟩ | q
    · obtain ⟨a, vs, e, e2, r⟩ := S.own j ds h1
      exact ⟨a, vs, by rw [h2]; exact e, by rw [h3 a e]; exact e2, st.reps S r⟩
    · exact q
theorem own_set (S : Rst g R al σ ρ om H) (ho : ρ[i]? = some (some (.own ds))) {b : Addr} (h : OwnA σ (ρ.set i (some (.own ds'))) b) : OwnA σ ρ b := by
  obtain ⟨j, dj, h1, h2⟩ := h
  rcases getset h1 with ⟨rfl, q⟩ | ⟨n, q⟩
  · exact ⟨j, ds, ho, h2⟩
  · exact ⟨j, dj, q, h2⟩
/-- the own list of a slot is changed -/
theorem Rst.setOwn (S : Rst g R al σ ρ om H) (ho : ρ[i]? = some (some (.own ds))) (hσ : σ[i]? = some (some (.ref a))) (ha : H a = some (.lst vs)) (hv : RepVs g al (LL R al om σ ρ) H vs' ds') :
    Rst g R al σ (ρ.set i (some (.own ds'))) om (upd H a (.lst vs')) ∧ Step al (Mt al om σ ρ) H al (Mt al om σ (ρ.set i (some (.own ds')))) (upd H a (.lst vs')) := by
  have hA : OwnA σ ρ a := ⟨i, ds, ho, hσ⟩
  have st : Step al (Mt al om σ ρ) H al (Mt al om σ (ρ.set i (some (.own ds')))) (upd H a (.lst vs')) := by
    refine .grow (fun b o h n => ?_) fun b m => ?_
    · rw [upd_ne (fun z => n (by rw [z]; exact .inr hA))]
      exact h
    · rcases m with m | m
      · exact .inl (.inl m)
      · exact .inl (.inr (own_set S ho m))
  refine ⟨S.chg st (fun b h => ?_) (S.sl.set1 fun _ z => nomatch z) (fun b h => ?_) (fun j d h => ?_) (fun j dj h => ?_) (fun j k b dj dk h1 h2 h3 h4 => ?_) (fun b h => S.ocl b (own_set S ho h)), st⟩
  · rw [upd_ne (fun z => (S.ocl a hA).1 (by rw [← z]; exact h))]
  · by_cases z : b = a
    · subst z; rw [upd_same]; simp
    · rw [upd_ne z]; exact (S.o.rsv b h).2
  · rcases getset h with ⟨rfl, q⟩ | ⟨n, q⟩
    · cases q
    · exact .inl ⟨q, rfl⟩
  · rcases getset h with ⟨rfl, q⟩ | ⟨n, q⟩
    · cases q
      exact .inr ⟨a, vs', hσ, upd_same, st.reps S hv⟩
    · refine .inl ⟨q, rfl, fun b hb => ?_⟩
      rw [upd_ne fun z => ?_]
      subst z
      exact n (S.odj j i b _ _ q ho hb hσ)
  · have f : ∀ {j : Nat} {dj : List D}, (ρ.set i (some (.own ds')))[j]? = some (some (.own dj)) → ∃ dj', ρ[j]? = some (some (.own dj')) := fun {j dj} h => by
      rcases getset h with ⟨rfl, q⟩ | ⟨n, q⟩
      · exact ⟨_, ho⟩
      · exact ⟨_, q⟩
    obtain ⟨_, q1⟩ := f h1
    obtain ⟨_, q2⟩ := f h2
    exact S.odj j k b _ _ q1 q2 h3 h4
/-- the own list of a slot becomes a value; the slot is empty -/
theorem Rst.moveOwn (S : Rst g R al σ ρ om H) (ho : ρ[i]? = some (some (.own ds))) (hσ : σ[i]? = some (some (.ref a))) :
    Rst g R al σ (ρ.set i none) om H ∧ Step al (Mt al om σ ρ) H al (Mt al om σ (ρ.set i none)) H ∧ ¬ LL R al om σ (ρ.set i none) a := by
  have hA : OwnA σ ρ a := ⟨i, ds, ho, hσ⟩
  have f : ∀ {j : Nat} {dj : List D}, (ρ.set i none)[j]? = some (some (.own dj)) → j ≠ i ∧ ρ[j]? = some (some (.own dj)) := fun {j dj} h => by
    rcases getset h with ⟨rfl, q⟩ | ⟨n, q⟩
    · cases q
    · exact ⟨n, q⟩
  have sub : ∀ b, OwnA σ (ρ.set i none) b → OwnA σ ρ b := fun b ⟨j, dj, h1, h2⟩ => ⟨j, dj, (f h1).2, h2⟩
  have st : Step al (Mt al om σ ρ) H al (Mt al om σ (ρ.set i none)) H := .grow (fun b o h n => h) fun b m => by
    rcases m with m | m
    · exact .inl (.inl m)
    · exact .inl (.inr (sub b m))
  refine ⟨S.chg st (fun b h => rfl) (S.sl.set1 fun _ z => nomatch z) (fun b h => (S.o.rsv b h).2) (fun j d h => ?_) (fun j dj h => ?_) (fun j k b dj dk h1 h2 h3 h4 => S.odj j k b _ _ (f h1).2 (f h2).2 h3 h4) (fun b h => S.ocl b (sub b h)), st, fun m => ?_⟩
  · rcases getset h with ⟨rfl, q⟩ | ⟨n, q⟩
    · cases q
    · exact .inl ⟨q, rfl⟩
  · exact .inl ⟨(f h).2, rfl, fun _ _ => rfl⟩
  · rcases m with (m | ⟨j, dj, h1, h2⟩) | m
    · exact (S.ocl a hA).1 m
    · exact (f h1).1 (S.odj j i a _ _ (f h1).2 ho h2 hσ)
    · exact (S.ocl a hA).2 m
theorem OwnA.drop {w : V} {s : Option Sl} (hs : ∀ ds, s ≠ some (.own ds)) {b : Addr} (h : OwnA (σ.set i (some w)) (ρ.set i s) b) : OwnA σ ρ b := by
  obtain ⟨j, dj, h1, h2⟩ := h
  rcases getset h1 with ⟨rfl, q⟩ | ⟨n, q⟩
  · exact absurd q.symm (hs _)
  · rcases getset h2 with ⟨rfl, _⟩ | ⟨_, q2⟩
    · exact absurd rfl n
    · exact ⟨j, dj, q, q2⟩
/-- a slot gets a value -/
theorem Rst.setVal (S : Rst g R al σ ρ om H) (hi : i < σ.length) (hv : RepV g al (LL R al om σ ρ) H v d) :
    Rst g R al (σ.set i (some v)) (ρ.set i (some (.val d))) om H ∧ Step al (Mt al om σ ρ) H al (Mt al om (σ.set i (some v)) (ρ.set i (some (.val d)))) H := by
  have sub : ∀ b, OwnA (σ.set i (some v)) (ρ.set i (some (.val d))) b → OwnA σ ρ b := fun b h => h.drop (fun ds z => by cases z)
  have st : Step al (Mt al om σ ρ) H al (Mt al om (σ.set i (some v)) (ρ.set i (some (.val d)))) H := .grow (fun b o h n => h) fun b m => by
    rcases m with m | m
    · exact .inl (.inl m)
    · exact .inl (.inr (sub b m))
  refine ⟨S.chg st (fun b h => rfl) (S.sl.set2 fun _ z => nomatch z) (fun b h => (S.o.rsv b h).2) (fun j d' h => ?_) (fun j dj h => ?_) (fun j k b dj dk h1 h2 h3 h4 => ?_) (fun b h => S.ocl b (sub b h)), st⟩
  · rcases getset h with ⟨rfl, q⟩ | ⟨n, q⟩
    · cases q
      exact .inr ⟨v, by rw [List.getElem?_set_self hi], st.rep S hv⟩
    · exact .inl ⟨q, by rw [List.getElem?_set_ne (Ne.symm n)]⟩
  · rcases getset h with ⟨rfl, q⟩ | ⟨n, q⟩
    · cases q
    · exact .inl ⟨q, by rw [List.getElem?_set_ne (Ne.symm n)], fun _ _ => rfl⟩
  · rcases getset h1 with ⟨rfl, q1⟩ | ⟨n1, q1⟩
    · cases q1
    · rcases getset h2 with ⟨rfl, q2⟩ | ⟨n2, q2⟩
      · cases q2
      · rw [List.getElem?_set_ne (Ne.symm n1)] at h3
        rw [List.getElem?_set_ne (Ne.symm n2)] at h4
        exact S.odj j k b _ _ q1 q2 h3 h4
/-- R, and p -/
def Rp (R : Addr → Prop) (p : Addr) : Addr → Prop := fun b => R b ∨ b = p
theorem LL.rp {b : Addr} : LL (Rp R p) al om σ ρ b ↔ LL R al om σ ρ b ∨ b = p := by
  unfold LL Rp
  exact or_assoc.symm
/-- less reserved -/
theorem Rst.less {R2 : Addr → Prop} (S : Rst g R al σ ρ om H) (h : ∀ a, R2 a → R a) : Rst g R2 al σ ρ om H ∧ Car g al (LL R al om σ ρ) H al (LL R2 al om σ ρ) H := by
  have ll : ∀ a, LL R2 al om σ ρ a → LL R al om σ ρ a := fun a m => m.elim .inl fun q => .inr (h a q)
  have cr : Car g al (LL R al om σ ρ) H al (LL R2 al om σ ρ) H := ⟨fun _ _ h => h, fun a vs h n => ⟨h, fun m => n (ll a m)⟩, fun _ _ h => h, fun a C dx fs h n => ⟨h, fun m => n (ll a m)⟩, fun _ _ h => h⟩
  refine ⟨⟨⟨S.o.len, fun j c b h1 h2 => (S.o.cel j c b h1 h2).car cr (fun _ e _ => e) (fun _ _ _ e _ => e), S.o.inj, fun a q => S.o.rsv a (h a q)⟩, S.sl, fun j d h => ?_, fun j dj h => ?_, S.odj, fun a q => ⟨(S.ocl a q).1, fun z => (S.ocl a q).2 (h a z)⟩⟩, cr⟩
  · obtain ⟨v, e, r⟩ := S.val j d h
    exact ⟨v, e, r.car cr⟩
  · obtain ⟨a, vs, e, e2, r⟩ := S.own j dj h
    exact ⟨a, vs, e, e2, r.car cr⟩
theorem Rst.lessp (S : Rst g (Rp R p) al σ ρ om H) (hR : ¬ R p) : Rst g R al σ ρ om H ∧ Car g al (LL (Rp R p) al om σ ρ) H al (LL R al om σ ρ) H ∧ ¬ LL R al om σ ρ p := by
  obtain ⟨S', c⟩ := S.less (R2 := R) fun a h => .inl h
  refine ⟨S', c, fun m => ?_⟩
  rcases m with (m | m) | m
  · exact (S.o.rsv p (.inr rfl)).1 m
  · exact (S.ocl p m).2 (.inr rfl)
  · exact hR m
/-- a new address is reserved -/
theorem Rst.newRes {o : HO} (S : Rst g R al σ ρ om H) (hp : H p = none) : Rst g (Rp R p) al σ ρ om (upd H p o) ∧ Car g al (LL R al om σ ρ) H al (LL (Rp R p) al om σ ρ) (upd H p o) := by
  have hn := S.new hp
  have k := upd_keep (o := o) hp
  have np : ∀ {a : Addr} {u : HO}, H a = some u → a ≠ p := fun e => ne_of_none e hp
  have cr : Car g al (LL R al om σ ρ) H al (LL (Rp R p) al om σ ρ) (upd H p o) := by
    refine ⟨fun a vs h => ?_, fun a vs h n => ⟨k a _ h, fun m => ?_⟩, fun a vs h => h.imp (fun ⟨o, h⟩ => ⟨o, k a _ h⟩) id, fun a C dx fs h n => ⟨k a _ h, fun m => ?_⟩, fun _ _ h => h⟩
    · rcases h with (h | ⟨u, h⟩) | h
      · exact .inl (.inl (k a _ h))
      · exact .inl (.inr ⟨u, k a _ h⟩)
      · exact .inr h
    · rcases LL.rp.mp m with m | m
      · exact n m
      · exact np h m
    · rcases LL.rp.mp m with m | m
      · exact n m
      · exact np h m
  refine ⟨⟨⟨S.o.len, fun j c b h1 h2 => (S.o.cel j c b h1 h2).car cr (fun _ e _ => k _ _ e) (fun _ _ _ e _ => k _ _ e), S.o.inj, fun a q => ?_⟩, S.sl, fun j d h => ?_, fun j dj h => ?_, S.odj, fun a q => ⟨(S.ocl a q).1, fun z => ?_⟩⟩, cr⟩
  · rcases q with q | rfl
    · refine ⟨(S.o.rsv a q).1, ?_⟩
      cases e : H a with
      | none => exact absurd e (S.o.rsv a q).2
      | some u => rw [k a u e]; simp
    · exact ⟨fun m => hn (.inl (.inl m)), by rw [upd_same]; simp⟩
  · obtain ⟨v, e, r⟩ := S.val j d h
    exact ⟨v, e, r.car cr⟩
  · obtain ⟨a, vs, e, e2, r⟩ := S.own j dj h
    exact ⟨a, vs, e, k _ _ e2, r.car cr⟩
  · rcases z with z | rfl
    · exact (S.ocl a q).2 z
    · exact hn (.inl (.inr q))
/-- a slot gets a list that nothing else knows -/
theorem Rst.setNew (S : Rst g (Rp R p) al σ ρ om H) (hi : i < σ.length) (hR : ¬ R p) (hp : H p = some (.lst vs)) (hv : RepVs g al (LL (Rp R p) al om σ ρ) H vs ds) :
    Rst g R al (σ.set i (some (.ref p))) (ρ.set i (some (.own ds))) om H ∧ ∀ b, Mt al om (σ.set i (some (.ref p))) (ρ.set i (some (.own ds))) b → Mt al om σ ρ b ∨ b = p := by
  have hn : ¬ Mt al om σ ρ p := fun m => m.elim (S.o.rsv p (.inr rfl)).1 fun m => (S.ocl p m).2 (.inr rfl)
  have sub : ∀ b, OwnA (σ.set i (some (.ref p))) (ρ.set i (some (.own ds))) b → OwnA σ ρ b ∨ b = p := fun b h => by
    obtain ⟨j, dj, h1, h2⟩ := h
    rcases getset h1 with ⟨rfl, q⟩ | ⟨n, q⟩
    · rcases getset h2 with ⟨_, q2⟩ | ⟨n2, _⟩
      · cases q2
        exact .inr rfl
      · exact absurd rfl n2
    · rcases getset h2 with ⟨rfl, _⟩ | ⟨_, q2⟩
      · exact absurd rfl n
      · exact .inl ⟨j, dj, q, q2⟩
  have ll : ∀ b, LL R al om (σ.set i (some (.ref p))) (ρ.set i (some (.own ds))) b → LL (Rp R p) al om σ ρ b := fun b m => by
    rcases m with (m | m) | m
    · exact .inl (.inl m)
    · rcases sub b m with q | q
      · exact .inl (.inr q)
      · exact .inr (.inr q)
    · exact .inr (.inl m)
  have cr : Car g al (LL (Rp R p) al om σ ρ) H al (LL R al om (σ.set i (some (.ref p))) (ρ.set i (some (.own ds)))) H :=
    ⟨fun _ _ h => h, fun a vs h n => ⟨h, fun m => n (ll a m)⟩, fun _ _ h => h, fun a C dx fs h n => ⟨h, fun m => n (ll a m)⟩, fun _ _ h => h⟩
  refine ⟨⟨⟨S.o.len, fun j c b h1 h2 => (S.o.cel j c b h1 h2).car cr (fun _ e _ => e) (fun _ _ _ e _ => e), S.o.inj, fun a q => S.o.rsv a (.inl q)⟩, (S.sl.set2 fun _ z => nomatch z), fun j d h => ?_, fun j dj h => ?_, fun j k b dj dk h1 h2 h3 h4 => ?_, fun b h => ?_⟩, fun b m => ?_⟩
  · rcases getset h with ⟨rfl, q⟩ | ⟨n, q⟩
    · cases q
    · obtain ⟨v, e, r⟩ := S.val j d q
      exact ⟨v, by rw [List.getElem?_set_ne (Ne.symm n)]; exact e, r.car cr⟩
  · rcases getset h with ⟨rfl, q⟩ | ⟨n, q⟩
    · cases q
      exact ⟨p, vs, by rw [List.getElem?_set_self hi], hp, hv.car cr⟩
    · obtain ⟨a, vs, e, e2, r⟩ := S.own j dj q
      exact ⟨a, vs, by rw [List.getElem?_set_ne (Ne.symm n)]; exact e, e2, r.car cr⟩
  · have nf : ∀ (j : Nat) (dj : List D), ρ[j]? = some (some (.own dj)) → σ[j]? ≠ some (some (.ref p)) := fun j dj h1 h2 => hn (.inr ⟨j, dj, h1, h2⟩)
    rcases getset h1 with ⟨rfl, q1⟩ | ⟨n1, q1⟩
    · rcases getset h2 with ⟨rfl, q2⟩ | ⟨n2, q2⟩
      · rfl
      · rw [List.getElem?_set_self hi] at h3
        cases h3
        rw [List.getElem?_set_ne (Ne.symm n2)] at h4
        exact absurd h4 (nf k _ q2)
    · rw [List.getElem?_set_ne (Ne.symm n1)] at h3
      rcases getset h2 with ⟨rfl, q2⟩ | ⟨n2, q2⟩
      · rw [List.getElem?_set_self hi] at h4
        cases h4
        exact absurd h3 (nf j _ q1)
      · rw [List.getElem?_set_ne (Ne.symm n2)] at h4
        exact S.odj j k b _ _ q1 q2 h3 h4
  · rcases sub b h with q | rfl
    · exact ⟨(S.ocl b q).1, fun z => (S.ocl b q).2 (.inl z)⟩
    · exact ⟨fun m => hn (.inl m), hR⟩
  · rcases m with m | m
    · exact .inl (.inl m)
    · rcases sub b m with q | q
      · exact .inl (.inr q)
      · exact .inr q
end
end Dv

namespace Dv
open PySem PySem.Spec PyProof.Rows L2

/-! ### what is wanted of an own list, of a statement -/
def PostO (g : G) (R : Addr → Prop) (W : WX) (al : List Addr) (M : Addr → Prop) (H : Hp) (σ : St) : Res (List D) → VK → Prop
  | .ok ds ρ' om', Q => ∀ (p : Addr) (vs : List V) (H' : Hp) (al' : List Addr), Step al M H al' (fun a => Mt al' om' σ ρ' a ∨ a = p) H' → Rst g (Rp R p) al' σ ρ' om' H' → ¬ R p → H' p = some (.lst vs) → RepVs g al' (LL (Rp R p) al' om' σ ρ') H' vs ds → Q (.ref p) H'
  | .xc x ρ' om', _ => ∀ cv dd H' al', Step al M H al' (Mt al' om' σ ρ') H' → Rst g R al' σ ρ' om' H' → RepX g al' (LL R al' om' σ ρ') H' cv dd x → W cv dd σ H'
  | .no, _ => False
abbrev UW := Rho → Om → Res (List D)
def tOw (g : G) (W : WX) (u : UW) : TE := fun σ H Q => ∃ R ρ om al, Rst g R al σ ρ om H ∧ PostO g R W al (Mt al om σ ρ) H σ (u ρ om) Q

inductive RS where
  | nx (r : Rho) (o : Om)
  | bk (r : Rho) (o : Om)
  | ct (r : Rho) (o : Om)
  | rt (d : D) (o : Om)
  | rto (ds : List D) (o : Om)
  | xc (x : DX) (r : Rho) (o : Om)
  | no
@[simp] def RS.of {τ : Type} : Res τ → (τ → Rho → Om → RS) → RS
  | .ok t r o, f => f t r o
  | .xc x r o, _ => .xc x r o
  | .no, _ => .no
abbrev US := Rho → Om → RS
def PostS (g : G) (R : Addr → Prop) (W : WX) (al : List Addr) (M : Addr → Prop) (H : Hp) : RS → Ends → Prop
  | .nx ρ' om', D => ∀ σ' H' al', Step al M H al' (Mt al' om' σ' ρ') H' → Rst g R al' σ' ρ' om' H' → D.nx σ' H'
  | .bk ρ' om', D => ∀ σ' H' al', Step al M H al' (Mt al' om' σ' ρ') H' → Rst g R al' σ' ρ' om' H' → D.bk σ' H'
  | .ct ρ' om', D => ∀ σ' H' al', Step al M H al' (Mt al' om' σ' ρ') H' → Rst g R al' σ' ρ' om' H' → D.ct σ' H'
  | .rt d om', D => ∀ v σ' ρ' H' al', Step al M H al' (Mt al' om' σ' ρ') H' → Rst g R al' σ' ρ' om' H' → RepV g al' (LL R al' om' σ' ρ') H' v d → D.rt v H'
  | .rto ds om', D => ∀ (p : Addr) (vs : List V) (σ' : St) (ρ' : Rho) (H' : Hp) (al' : List Addr), Step al M H al' (fun a => Mt al' om' σ' ρ' a ∨ a = p) H' → Rst g (Rp R p) al' σ' ρ' om' H' → ¬ R p → H' p = some (.lst vs) → RepVs g al' (LL (Rp R p) al' om' σ' ρ') H' vs ds → D.rt (.ref p) H'
  | .xc x ρ' om', _ => ∀ cv dd σ' H' al', Step al M H al' (Mt al' om' σ' ρ') H' → Rst g R al' σ' ρ' om' H' → RepX g al' (LL R al' om' σ' ρ') H' cv dd x → W cv dd σ' H'
  | .no, _ => False
def tS (g : G) (W : WX) (u : US) : TS := fun D σ H => ∃ R ρ om al, Rst g R al σ ρ om H ∧ PostS g R W al (Mt al om σ ρ) H (u ρ om) D

section
variable {g : G} {R : Addr → Prop} {al al' : List Addr} {om om' : Om} {σ σ' : St} {ρ ρ' : Rho} {H H' : Hp} {W : WX} {X : Cx} {M M' : Addr → Prop} {i : Nat}
theorem PostO.step {r : Res (List D)} {Q : VK} (s : Step al M H al' M' H') (p : PostO g R W al M H σ r Q) : PostO g R W al' M' H' σ r Q := by
  cases r with
  | ok t ρ' om' => exact fun y vs H2 al2 t2 => p y vs H2 al2 (s.trans t2)
  | xc x ρ' om' => exact fun y dd H2 al2 t2 => p y dd H2 al2 (s.trans t2)
  | no => exact p
theorem PostS.step {r : RS} {D : Ends} (s : Step al M H al' M' H') (p : PostS g R W al M H r D) : PostS g R W al' M' H' r D := by
  cases r with
  | nx ρ' om' => exact fun σ' H2 al2 t2 => p σ' H2 al2 (s.trans t2)
  | bk ρ' om' => exact fun σ' H2 al2 t2 => p σ' H2 al2 (s.trans t2)
  | ct ρ' om' => exact fun σ' H2 al2 t2 => p σ' H2 al2 (s.trans t2)
  | rt d om' => exact fun v σ' ρ' H2 al2 t2 => p v σ' ρ' H2 al2 (s.trans t2)
  | rto d om' => exact fun y vs σ' ρ' H2 al2 t2 => p y vs σ' ρ' H2 al2 (s.trans t2)
  | xc x ρ' om' => exact fun y dd σ' H2 al2 t2 => p y dd σ' H2 al2 (s.trans t2)
  | no => exact p
/-- an expression, then an own list -/
theorem tR_bindO {β τ : Type} {rel : G → Rl β τ} {u : Rho → Om → Res τ} {f : τ → Rho → Om → Res (List D)} {Q : β → Hp → Prop} {Q2 : VK} (S : Rst g R al σ ρ om H)
    (P : PostO g R W al (Mt al om σ ρ) H σ ((u ρ om).bind f) Q2)
    (k : ∀ t ρ' om' y H' al', Step al (Mt al om σ ρ) H al' (Mt al' om' σ ρ') H' → Rst g R al' σ ρ' om' H' → rel g al' (LL R al' om' σ ρ') H' y t → PostO g R W al' (Mt al' om' σ ρ') H' σ (f t ρ' om') Q2 → Q y H') : tR g W rel u σ H Q := by
  refine ⟨R, ρ, om, al, S, ?_⟩
  cases e : u ρ om with
  | ok t ρ' om' =>
    rw [e] at P
    exact fun y H' al' s S' r => k t ρ' om' y H' al' s S' r (PostO.step s P)
  | xc x ρ' om' => rw [e] at P; exact P
  | no => rw [e] at P; exact P
/-- an expression, then a statement -/
theorem tR_bindS {β τ : Type} {rel : G → Rl β τ} {u : Rho → Om → Res τ} {f : τ → Rho → Om → RS} {Q : β → Hp → Prop} {D2 : Ends} (S : Rst g R al σ ρ om H)
    (P : PostS g R W al (Mt al om σ ρ) H (RS.of (u ρ om) f) D2)
    (k : ∀ t ρ' om' y H' al', Step al (Mt al om σ ρ) H al' (Mt al' om' σ ρ') H' → Rst g R al' σ ρ' om' H' → rel g al' (LL R al' om' σ ρ') H' y t → PostS g R W al' (Mt al' om' σ ρ') H' (f t ρ' om') D2 → Q y H') : tR g W rel u σ H Q := by
  refine ⟨R, ρ, om, al, S, ?_⟩
  cases e : u ρ om with
  | ok t ρ' om' =>
    rw [e] at P
    exact fun y H' al' s S' r => k t ρ' om' y H' al' s S' r (PostS.step s P)
  | xc x ρ' om' =>
    rw [e] at P
    exact fun cv dd H' al' s S' r => P cv dd σ H' al' s S' r
  | no => rw [e] at P; exact P
/-- an own list, then a statement -/
theorem tOw_bindS {u : UW} {f : List D → Rho → Om → RS} {Q : VK} {D2 : Ends} (S : Rst g R al σ ρ om H)
    (P : PostS g R W al (Mt al om σ ρ) H (RS.of (u ρ om) f) D2)
    (k : ∀ ds ρ' om' p vs H' al', Step al (Mt al om σ ρ) H al' (fun a => Mt al' om' σ ρ' a ∨ a = p) H' → Rst g (Rp R p) al' σ ρ' om' H' → ¬ R p → H' p = some (.lst vs) → RepVs g al' (LL (Rp R p) al' om' σ ρ') H' vs ds → PostS g R W al' (fun a => Mt al' om' σ ρ' a ∨ a = p) H' (f ds ρ' om') D2 → Q (.ref p) H') : tOw g W u σ H Q := by
  refine ⟨R, ρ, om, al, S, ?_⟩
  cases e : u ρ om with
  | ok t ρ' om' =>
    rw [e] at P
    exact fun p vs H' al' s S' n e r => k t ρ' om' p vs H' al' s S' n e r (PostS.step s P)
  | xc x ρ' om' =>
    rw [e] at P
    exact fun cv dd H' al' s S' r => P cv dd σ H' al' s S' r
  | no => rw [e] at P; exact P
/-- an own list becomes a value -/
@[simp] def uFz (u : UW) : UE := fun ρ ω => (u ρ ω).bind fun ds ρ ω => .ok (.lst ds) ρ ω
theorem pu_fz {e : Expr} {u : UW} (h : PE X e (tOw g W u)) : PE X e (tE g W (uFz u)) := peImp h fun σ H Q ⟨R, ρ, om, al, S, P⟩ => by
  refine ⟨R, ρ, om, al, S, ?_⟩
  simp only [uFz] at P
  cases e : u ρ om with
  | ok ds ρ' om' =>
    rw [e] at P
    intro p vs H' al' s S' n hp r
    obtain ⟨S2, c, n2⟩ := S'.lessp n
    refine P _ H' al' ⟨s.ext, s.keep, fun a m => s.fresh a (.inl m)⟩ S2 (.lst hp n2 (r.car c))
  | xc x ρ' om' => rw [e] at P; exact P
  | no => rw [e] at P; exact P
theorem Rst.grown {o : HO} {p : Addr} (hp : H p = none) : Step al (Mt al om σ ρ) H al (fun a => Mt al om σ ρ a ∨ a = p) (upd H p o) := .grow (fun a u h _ => upd_keep hp a u h) fun a m => m.elim .inl fun z => .inr (z ▸ hp)
/-- a list just laid -/
theorem okOwn {Q : VK} {vs : List V} {ds : List D} {p : Addr} (S : Rst g R al σ ρ om H) (P : PostO g R W al (Mt al om σ ρ) H σ (.ok ds ρ om) Q) (hp : H p = none) (r : RepVs g al (LL R al om σ ρ) H vs ds) : Q (.ref p) (upd H p (.lst vs)) := by
  obtain ⟨S', c⟩ := S.newRes (o := .lst vs) hp
  exact P p vs _ al (Rst.grown hp) S' (fun z => (S.o.rsv p z).2 hp) upd_same (r.car c)
/-- [a, b, ..] as an own list -/
@[simp] def uLstO (u : UA) : UW := fun ρ ω => (u ρ ω).bind fun xs ρ ω => if xs.length ≤ big then .ok xs ρ ω else .no
theorem pu_lstO {es : List Expr} {us : UA} {pos : Pos} (h : PA X es (tA g W us)) : PE X (.List es pos) (tOw g W (uLstO us)) := peImp (pe_lst h) fun σ H Q ⟨R, ρ, om, al, S, P⟩ =>
  tR_bindO S P fun xs ρ1 om1 vs H1 al1 s1 S1 r1 P1 => by
    split at P1
    · rename_i hz
      exact ⟨big_line (by rw [RepVs.length r1]; exact hz), fun p hp => okOwn S1 P1 hp r1⟩
    · exact P1.elim
/-- the own list of a slot, handed on -/
@[simp] def uMv (i : Nat) : UW := fun ρ ω => match ρ[i]? with
  | some (some (.own ds)) => .ok ds (ρ.set i none) ω
  | _ => .no
theorem pu_mv (i : Nat) {x : Str} {pos : Pos} (hN : X.N[i]? = some x := by rfl) (hv : Vis X.env.scope x := by first | exact Or.inl rfl | exact Or.inr (Or.inl rfl) | exact Or.inr (Or.inr rfl)) (hd : (x == ("__debug__" : Str)) = false := by decide)
    (hcd : (x == ("__classdict__" : Str)) = false := by decide) : PE X (.Name x pos) (tOw g W (uMv i)) := peImp (pe_var hN hv hd hcd) fun σ H Q ⟨R, ρ, om, al, S, P⟩ => by
  simp only [uMv] at P
  split at P
  · rename_i ds e
    obtain ⟨a, vs, h1, h2, h3⟩ := S.own i ds e
    refine ⟨_, h1, ?_⟩
    obtain ⟨S', st, hn⟩ := S.moveOwn e h1
    have hA : OwnA σ ρ a := ⟨i, ds, e, h1⟩
    have cr : Car g al (LL R al om σ ρ) H al (LL (Rp R a) al om σ (ρ.set i none)) H := by
      have ll : ∀ b, LL (Rp R a) al om σ (ρ.set i none) b → LL R al om σ ρ b := fun b m => by
        rcases LL.rp.mp m with m | m
        · rcases m with m | m
          · rcases st.fresh b m with q | q
            · exact .inl q
            · rcases m with m | ⟨j, dj, q1, q2⟩
              · exact .inl (.inl m)
              · rcases getset q1 with ⟨_, q⟩ | ⟨_, q⟩
                · cases q
                · exact .inl (.inr ⟨j, dj, q, q2⟩)
          · exact .inr m
        · rw [m]; exact .inl (.inr hA)
      exact ⟨fun _ _ h => h, fun a vs h n => ⟨h, fun m => n (ll a m)⟩, fun _ _ h => h, fun a C dx fs h n => ⟨h, fun m => n (ll a m)⟩, fun _ _ h => h⟩
    have S2 : Rst g (Rp R a) al σ (ρ.set i none) om H := by
      refine ⟨⟨S'.o.len, fun j c b k1 k2 => (S.o.cel j c b k1 k2).car cr (fun _ e _ => e) (fun _ _ _ e _ => e), S'.o.inj, fun b q => ?_⟩, S'.sl, fun j d k => ?_, fun j dj k => ?_, S'.odj, fun b q => ⟨(S'.ocl b q).1, fun z => ?_⟩⟩
      · rcases q with q | rfl
        · exact S'.o.rsv b q
        · exact ⟨(S.ocl b hA).1, by rw [h2]; simp⟩
      · rcases getset k with ⟨_, q⟩ | ⟨_, q⟩
        · cases q
        · obtain ⟨v, q1, q2⟩ := S.val j d q
          exact ⟨v, q1, q2.car cr⟩
      · rcases getset k with ⟨_, q⟩ | ⟨_, q⟩
        · cases q
        · obtain ⟨b, ws, q1, q2, q3⟩ := S.own j dj q
          exact ⟨b, ws, q1, q2, q3.car cr⟩
      · rcases z with z | rfl
        · exact (S'.ocl b q).2 z
        · exact hn (.inl (.inr q))
    refine P a vs H al ⟨fun _ _ h => h, fun _ _ h _ => h, fun b m => ?_⟩ S2 (S.ocl a hA).2 h2 (h3.car cr)
    rcases m with m | rfl
    · exact st.fresh b m
    · exact .inl (.inr hA)
  · exact P.elim
/-! ### statements -/
@[simp] def sNext : US := fun ρ ω => .nx ρ ω
@[simp] def sSeq (u v : US) : US := fun ρ ω => match u ρ ω with
  | .nx ρ ω => v ρ ω
  | .bk ρ ω => .bk ρ ω
  | .ct ρ ω => .ct ρ ω
  | .rt d ω => .rt d ω
  | .rto d ω => .rto d ω
  | .xc x ρ ω => .xc x ρ ω
  | .no => .no
@[simp] def sAsg (i : Nat) (u : UE) : US := fun ρ ω => RS.of (u ρ ω) fun d ρ ω => .nx (ρ.set i (some (.val d))) ω
@[simp] def sAsgO (i : Nat) (u : UW) : US := fun ρ ω => RS.of (u ρ ω) fun ds ρ ω => .nx (ρ.set i (some (.own ds))) ω
@[simp] def sExpr (u : UE) : US := fun ρ ω => RS.of (u ρ ω) fun _ ρ ω => .nx ρ ω
@[simp] def sRet (u : UE) : US := fun ρ ω => RS.of (u ρ ω) fun d _ ω => .rt d ω
@[simp] def sRetO (u : UW) : US := fun ρ ω => RS.of (u ρ ω) fun d _ ω => .rto d ω
@[simp] def sRetN : US := fun _ ω => .rt .non ω
@[simp] def sIf (c : UT) (u v : US) : US := fun ρ ω => RS.of (c ρ ω) fun b ρ ω => if b = true then u ρ ω else v ρ ω
@[simp] def sBreak : US := fun ρ ω => .bk ρ ω
@[simp] def sCont : US := fun ρ ω => .ct ρ ω
@[simp] def sRaise (x : DX) : US := fun ρ ω => .xc x ρ ω
variable {e c : Expr} {ue : UE} {uw : UW} {uc : UT} {u v : US} {st : Stmt} {rest body other : List Stmt} {pos pos' : Pos}
theorem pss_nilU : PSs X [] (tS g W sNext) := pssImp pss_nil fun D σ H ⟨R, ρ, om, al, S, P⟩ => P σ H al .refl S
theorem tSeq_of {D : Ends} (h : tS g W (sSeq u v) D σ H) : tSeq (tS g W u) (tS g W v) D σ H := by
  obtain ⟨R, ρ, om, al, S, P⟩ := h
  refine ⟨R, ρ, om, al, S, ?_⟩
  simp only [sSeq] at P
  cases e : u ρ om with
  | nx ρ' om' =>
    rw [e] at P
    exact fun σ' H' al' s S' => ⟨R, ρ', om', al', S', PostS.step s P⟩
  | bk ρ' om' => rw [e] at P; exact P
  | ct ρ' om' => rw [e] at P; exact P
  | rt d om' => rw [e] at P; exact P
  | rto d om' => rw [e] at P; exact P
  | xc x ρ' om' => rw [e] at P; exact P
  | no => rw [e] at P; exact P
theorem pss_consU (h1 : PS X st (tS g W u)) (h2 : PSs X rest (tS g W v)) : PSs X (st :: rest) (tS g W (sSeq u v)) := pssImp (pss_cons h1 h2) fun D σ H h => tSeq_of h
theorem pss_oneU (h1 : PS X st (tS g W u)) : PSs X [st] (tS g W u) := pss_one h1
theorem ps_passU : PS X (.Pass pos) (tS g W sNext) := psImp ps_pass fun D σ H ⟨R, ρ, om, al, S, P⟩ => P σ H al .refl S
theorem ps_breakU : PS X (.Break pos) (tS g W sBreak) := psImp ps_break fun D σ H ⟨R, ρ, om, al, S, P⟩ => P σ H al .refl S
theorem ps_contU : PS X (.Continue pos) (tS g W sCont) := psImp ps_continue fun D σ H ⟨R, ρ, om, al, S, P⟩ => P σ H al .refl S
/-- storing into a name -/
theorem set_of {De : Ends} {d : D} {x : V} (S : Rst g R al σ ρ om H) (r : RepV g al (LL R al om σ ρ) H x d) (P : PostS g R W al (Mt al om σ ρ) H (.nx (ρ.set i (some (.val d))) om) De) : De.nx (σ.set i (some x)) H := by
  by_cases hi : i < σ.length
  · obtain ⟨S', s⟩ := S.setVal hi r
    exact P _ _ al s S'
  · rw [List.set_eq_of_length_le (by omega)]
    rw [List.set_eq_of_length_le (by rw [← S.sl.len]; omega)] at P
    exact P σ H al .refl S
theorem setO_of {De : Ends} {ds : List D} {p : Addr} {vs : List V} (S : Rst g (Rp R p) al σ ρ om H) (hR : ¬ R p) (hp : H p = some (.lst vs)) (r : RepVs g al (LL (Rp R p) al om σ ρ) H vs ds)
    (P : PostS g R W al (fun a => Mt al om σ ρ a ∨ a = p) H (.nx (ρ.set i (some (.own ds))) om) De) : De.nx (σ.set i (some (.ref p))) H := by
  by_cases hi : i < σ.length
  · obtain ⟨S', m⟩ := S.setNew hi hR hp r
    exact P _ _ al ⟨fun _ _ h => h, fun _ _ h _ => h, fun a q => .inl (m a q)⟩ S'
  · rw [List.set_eq_of_length_le (by omega)]
    rw [List.set_eq_of_length_le (by rw [← S.sl.len]; omega)] at P
    exact P σ H al ⟨fun _ _ h => h, fun _ _ h _ => h, fun a q => .inl (.inl q)⟩ (S.lessp hR).1
variable {x : Str}
theorem ps_asgU (i : Nat) (hN : X.N.Nodup) (he : PE X e (tE g W ue)) (hi : X.N[i]? = some x := by rfl) (hx : Loc X.env.scope x := by first | exact Or.inl rfl | exact Or.inr rfl) (hs : swapsWith e (some (.Name x pos')) pos.line X.env = pure false := by rfl) (hf : X.fn x = true ∨ X.env.scope.names.lookup x = some .local := by first | exact .inl rfl | exact .inr rfl) :
    PS X (.Assign [.Name x pos'] e pos) (tS g W (sAsg i ue)) := psImp (ps_set hN hi hx he hs hf) fun De σ H ⟨R, ρ, om, al, S, P⟩ =>
  tR_bindS S P fun d ρ' om' v H' al' s S' r P' => set_of S' r P'
theorem ps_asgO (i : Nat) (hN : X.N.Nodup) (he : PE X e (tOw g W uw)) (hi : X.N[i]? = some x := by rfl) (hx : Loc X.env.scope x := by first | exact Or.inl rfl | exact Or.inr rfl) (hs : swapsWith e (some (.Name x pos')) pos.line X.env = pure false := by rfl) (hf : X.fn x = true ∨ X.env.scope.names.lookup x = some .local := by first | exact .inl rfl | exact .inr rfl) :
    PS X (.Assign [.Name x pos'] e pos) (tS g W (sAsgO i uw)) := psImp (ps_set hN hi hx he hs hf) fun De σ H ⟨R, ρ, om, al, S, P⟩ =>
  tOw_bindS S P fun ds ρ' om' p vs H' al' s S' n hp r P' => setO_of S' n hp r P'
theorem ps_exprU (he : PE X e (tE g W ue)) (hs : swapsWith e none pos.line X.env = pure false := by rfl) : PS X (.Expr e pos) (tS g W (sExpr ue)) := psImp (ps_expr he hs) fun De σ H ⟨R, ρ, om, al, S, P⟩ =>
  tR_bindS S P fun d ρ' om' v H' al' s S' r P' => P' _ _ _ .refl S'
theorem ps_retU (he : PE X e (tE g W ue)) : PS X (.Return (some e) pos) (tS g W (sRet ue)) := psImp (ps_ret he) fun De σ H ⟨R, ρ, om, al, S, P⟩ =>
  tR_bindS S P fun d ρ' om' v H' al' s S' r P' => P' _ _ _ _ _ .refl S' r
theorem ps_retO (he : PE X e (tOw g W uw)) : PS X (.Return (some e) pos) (tS g W (sRetO uw)) := psImp (ps_ret he) fun De σ H ⟨R, ρ, om, al, S, P⟩ =>
  tOw_bindS S P fun ds ρ' om' p vs H' al' s S' n hp r P' => P' p vs σ ρ' H' al' .refl S' n hp r
theorem ps_retNU : PS X (.Return none pos) (tS g W sRetN) := psImp ps_retN fun De σ H ⟨R, ρ, om, al, S, P⟩ => P .non σ ρ H al .refl S .non
theorem tS_use {De : Ends} (S : Rst g R al σ ρ om H) (P : PostS g R W al (Mt al om σ ρ) H (u ρ om) De) : tS g W u De σ H := ⟨R, ρ, om, al, S, P⟩
theorem ps_ifU (hc : PT X c (tT g W uc)) (ha : PSs X body (tS g W u)) (hb : PSs X other (tS g W v)) : PS X (.If c body other pos) (tS g W (sIf uc u v)) := psImp (ps_if hc ha hb) fun De σ H ⟨R, ρ, om, al, S, P⟩ =>
  tR_bindS S P fun b ρ' om' y H' al' s S' r P' => by
    cases (show y = b from r)
    cases b with
    | true => exact tS_use S' P'
    | false => exact tS_use S' P'
theorem ps_neverU : PS X st (tS g W fun _ _ => .no) := psImp ps_never fun De σ H ⟨R, ρ, om, al, S, P⟩ => P.elim
theorem pss_neverU : PSs X body (tS g W fun _ _ => .no) := pssImp pss_never fun De σ H ⟨R, ρ, om, al, S, P⟩ => P.elim

/-! ### a while: n turns at most -/
def goW (c : UT) (b : US) : Nat → US
  | 0 => fun _ _ => .no
  | n + 1 => fun ρ ω => RS.of (c ρ ω) fun k ρ ω => if k = true then (match b ρ ω with
      | .nx ρ ω => goW c b n ρ ω
      | .ct ρ ω => goW c b n ρ ω
      | .bk ρ ω => .nx ρ ω
      | .rt d ω => .rt d ω
      | .rto d ω => .rto d ω
      | .xc x ρ ω => .xc x ρ ω
      | .no => .no) else .nx ρ ω
def sWhile (fuel : Rho → Om → Nat) (c : UT) (b : US) : US := fun ρ ω => goW c b (fuel ρ ω) ρ ω
theorem ps_whileU (fuel : Rho → Om → Nat) (hp : PassesOwn (model X.prog X.w) X.A X.env X.xe) (hc : PT X c (tT g W uc)) (hb : PSs X body (tS g W u)) : PS X (.While c body [] pos) (tS g W (sWhile fuel uc u)) := psImp (ps_while hp hc hb) fun De σ H ⟨R, ρ, om, al, S, P⟩ => by
  refine ⟨fun n σ' H' => ∃ ρ' om' al', Step al (Mt al om σ ρ) H al' (Mt al' om' σ' ρ') H' ∧ Rst g R al' σ' ρ' om' H' ∧ PostS g R W al' (Mt al' om' σ' ρ') H' (goW uc u n ρ' om') De, ⟨fuel ρ om, ρ, om, al, .refl, S, P⟩, ?_⟩
  rintro n σ1 H1 ⟨ρ1, om1, al1, s1, S1, P1⟩
  cases n with
  | zero => exact P1.elim
  | succ n =>
    refine tR_bindS S1 P1 fun b ρ' om' y H' al' s S' r P' => ?_
    cases (show y = b from r)
    cases b with
    | false => exact P' _ _ _ .refl S'
    | true =>
      refine ⟨fun σ' H' => ∃ ρ' om' al', Step al (Mt al om σ ρ) H al' (Mt al' om' σ' ρ') H' ∧ Rst g R al' σ' ρ' om' H' ∧ PostS g R W al' (Mt al' om' σ' ρ') H' (goW uc u n ρ' om') De, fun σ' H' h => ⟨n, Nat.lt_succ_self n, h⟩, ?_⟩
      refine tS_use S' ?_
      simp only [if_pos] at P'
      cases e : u ρ' om' with
      | nx ρ2 om2 => rw [e] at P'; exact fun σ2 H2 al2 s2 S2 => ⟨ρ2, om2, al2, (s1.trans s).trans s2, S2, PostS.step s2 P'⟩
      | ct ρ2 om2 => rw [e] at P'; exact fun σ2 H2 al2 s2 S2 => ⟨ρ2, om2, al2, (s1.trans s).trans s2, S2, PostS.step s2 P'⟩
      | bk ρ2 om2 => rw [e] at P'; exact P'
      | rt d om2 => rw [e] at P'; exact P'
      | rto d om2 => rw [e] at P'; exact P'
      | xc x ρ2 om2 => rw [e] at P'; exact P'
      | no => rw [e] at P'; exact P'
end
end Dv

namespace Dv
open PySem PySem.Spec PyProof.Rows L2

/-! ### what a loop walks: a row of items, settled when it begins -/
/-- at turn i it yields what stands for the i-th of ds, whatever has gone on since -/
def ItS (g : G) (J : It) (ds : List D) (R : Addr → Prop) (al : List Addr) (M : Addr → Prop) (H : Hp) : Prop :=
  ∀ (R2 : Addr → Prop) (σ : St) (ρ : Rho) (om : Om) (al2 : List Addr) (H2 : Hp) (i : Nat), (∀ a, R2 a → R a ∨ H a = none) → Step al M H al2 (Mt al2 om σ ρ) H2 → Rst g R2 al2 σ ρ om H2 →
    (i < ds.length → J.go i H2 ∧ ∀ x H3, J.yld i H2 x H3 → Rst g R2 al2 σ ρ om H3 ∧ Step al2 (Mt al2 om σ ρ) H2 al2 (Mt al2 om σ ρ) H3 ∧ ∃ d, ds[i]? = some d ∧ RepV g al2 (LL R2 al2 om σ ρ) H3 x d) ∧
    (ds.length ≤ i → J.stop i H2)
abbrev UI := Rho → Om → Res (List D)
def PostI (g : G) (R : Addr → Prop) (W : WX) (al : List Addr) (M : Addr → Prop) (H : Hp) (σ : St) : Res (List D) → (It → Hp → Prop) → Prop
  | .ok ds ρ' om', Q => ∀ J H' al', Step al M H al' (Mt al' om' σ ρ') H' → Rst g R al' σ ρ' om' H' → ItS g J ds R al' (Mt al' om' σ ρ') H' → Q J H'
  | .xc x ρ' om', _ => ∀ cv dd H' al', Step al M H al' (Mt al' om' σ ρ') H' → Rst g R al' σ ρ' om' H' → RepX g al' (LL R al' om' σ ρ') H' cv dd x → W cv dd σ H'
  | .no, _ => False
def tI (g : G) (W : WX) (u : UI) : TI := fun σ H Q => ∃ R ρ om al, Rst g R al σ ρ om H ∧ PostI g R W al (Mt al om σ ρ) H σ (u ρ om) Q
/-- a target -/
abbrev UG := D → Rho → Option Rho
@[simp] def gN (i : Nat) : UG := fun d ρ => some (ρ.set i (some (.val d)))
@[simp] def gT2 (a b : Nat) : UG := fun d ρ => match d with
  | .tup [x, y] => some ((ρ.set a (some (.val x))).set b (some (.val y)))
  | _ => none
@[simp] def gT3 (a b c : Nat) : UG := fun d ρ => match d with
  | .tup [x, y, z] => some (((ρ.set a (some (.val x))).set b (some (.val y))).set c (some (.val z)))
  | _ => none
@[simp] def gT4 (a b c e : Nat) : UG := fun d ρ => match d with
  | .tup [x, y, z, w] => some ((((ρ.set a (some (.val x))).set b (some (.val y))).set c (some (.val z))).set e (some (.val w)))
  | _ => none
def tG (g : G) (u : UG) : TG := fun v σ H Q => ∃ R ρ om al d ρ', Rst g R al σ ρ om H ∧ RepV g al (LL R al om σ ρ) H v d ∧ u d ρ = some ρ' ∧ ∀ σ', Step al (Mt al om σ ρ) H al (Mt al om σ' ρ') H → Rst g R al σ' ρ' om H → Q σ' H
def goL (G : UG) (b : US) : List D → US
  | [] => fun ρ ω => .nx ρ ω
  | d :: r => fun ρ ω => match G d ρ with
    | none => .no
    | some ρ1 => match b ρ1 ω with
      | .nx ρ ω => goL G b r ρ ω
      | .ct ρ ω => goL G b r ρ ω
      | .bk ρ ω => .nx ρ ω
      | .rt d ω => .rt d ω
      | .rto d ω => .rto d ω
      | .xc x ρ ω => .xc x ρ ω
      | .no => .no
def sFor (s : UI) (G : UG) (b : US) : US := fun ρ ω => RS.of (s ρ ω) fun t ρ ω => goL G b t ρ ω
section
variable {g : G} {R : Addr → Prop} {al al' : List Addr} {om om' : Om} {σ σ' : St} {ρ ρ' : Rho} {H H' : Hp} {W : WX} {X : Cx} {M M' : Addr → Prop} {i : Nat}
theorem tI_bindS {u : UI} {f : List D → Rho → Om → RS} {Q : It → Hp → Prop} {D2 : Ends} (S : Rst g R al σ ρ om H)
    (P : PostS g R W al (Mt al om σ ρ) H (RS.of (u ρ om) f) D2)
    (k : ∀ t ρ' om' J H' al', Step al (Mt al om σ ρ) H al' (Mt al' om' σ ρ') H' → Rst g R al' σ ρ' om' H' → ItS g J t R al' (Mt al' om' σ ρ') H' → PostS g R W al' (Mt al' om' σ ρ') H' (f t ρ' om') D2 → Q J H') : tI g W u σ H Q := by
  refine ⟨R, ρ, om, al, S, ?_⟩
  cases e : u ρ om with
  | ok t ρ' om' =>
    rw [e] at P
    exact fun y H' al' s S' r => k t ρ' om' y H' al' s S' r (PostS.step s P)
  | xc x ρ' om' =>
    rw [e] at P
    exact fun cv dd H' al' s S' r => P cv dd σ H' al' s S' r
  | no => rw [e] at P; exact P
variable {tg iter : Expr} {body : List Stmt} {us : UI} {G' : UG} {u : US} {pos : Pos}
theorem ps_forU (hp : PassesOwn (model X.prog X.w) X.A X.env X.xe) (hc : X.calm = true) (hi : PI X tg iter (tI g W us)) (hg : PG X tg (tG g G')) (hb : PSs X body (tS g W u))
    (hs : ∀ x, foldedSetIterable iter X.env x = pure x := by intro _; rfl) : PS X (.For tg iter body [] pos) (tS g W (sFor us G' u)) := psImp (ps_for hp hc hi hg hb hs) fun De σ H ⟨R, ρ, om, al, S, P⟩ => by
  refine tI_bindS S P fun ds ρ1 om1 J H1 al1 s1 S1 it P1 => ?_
  -- behind i turns: what is left gives what is wanted
  refine ⟨fun i n σ' H' => n + i = ds.length ∧ ∃ ρ' om' al', Step al1 (Mt al1 om1 σ ρ1) H1 al' (Mt al' om' σ' ρ') H' ∧ Rst g R al' σ' ρ' om' H' ∧ PostS g R W al' (Mt al' om' σ' ρ') H' (goL G' u (ds.drop i) ρ' om') De,
    ⟨ds.length, rfl, ρ1, om1, al1, .refl, S1, P1⟩, ?_⟩
  rintro i n σ2 H2 ⟨hn, ρ2, om2, al2, s2, S2, P2⟩
  have t := it R σ2 ρ2 om2 al2 H2 i (fun a h => .inl h) s2 S2
  by_cases hi : i < ds.length
  · obtain ⟨go, yl⟩ := t.1 hi
    refine .inr ⟨go, fun σ' H' => ∃ ρ' om' al', Step al1 (Mt al1 om1 σ ρ1) H1 al' (Mt al' om' σ' ρ') H' ∧ Rst g R al' σ' ρ' om' H' ∧ PostS g R W al' (Mt al' om' σ' ρ') H' (goL G' u (ds.drop (i + 1)) ρ' om') De,
      fun σ' H' h => ⟨n - 1, by omega, by omega, h⟩, fun x H3 hy => ?_⟩
    obtain ⟨S3, s3, d, hd, r⟩ := yl x H3 hy
    have e : ds.drop i = d :: ds.drop (i + 1) := by
      obtain ⟨hl, e⟩ := List.getElem?_eq_some_iff.mp hd
      rw [← e]
      exact List.drop_eq_getElem_cons hl
    rw [e] at P2
    unfold goL at P2
    cases eg : G' d ρ2 with
    | none => rw [eg] at P2; exact P2.elim
    | some ρ3 =>
      rw [eg] at P2
      refine ⟨R, ρ2, om2, al2, d, ρ3, S3, r, eg, fun σ4 s4 S4 => ?_⟩
      refine ⟨R, ρ3, om2, al2, S4, ?_⟩
      have P4 := PostS.step (s3.trans s4) P2
      dsimp only at P4
      cases eb : u ρ3 om2 with
      | nx ρ5 om5 => rw [eb] at P4; exact fun σ5 H5 al5 s5 S5 => ⟨ρ5, om5, al5, ((s2.trans s3).trans s4).trans s5, S5, PostS.step s5 P4⟩
      | ct ρ5 om5 => rw [eb] at P4; exact fun σ5 H5 al5 s5 S5 => ⟨ρ5, om5, al5, ((s2.trans s3).trans s4).trans s5, S5, PostS.step s5 P4⟩
      | bk ρ5 om5 => rw [eb] at P4; exact P4
      | rt d5 om5 => rw [eb] at P4; exact P4
      | rto d5 om5 => rw [eb] at P4; exact P4
      | xc x5 ρ5 om5 => rw [eb] at P4; exact P4
      | no => rw [eb] at P4; exact P4
  · rw [List.drop_eq_nil_of_le (by omega)] at P2
    exact .inl ⟨t.2 (by omega), P2 σ2 H2 al2 .refl S2⟩
/-! ### the things walked -/
@[simp] def dItems : D → Option (List D)
  | .lst ds => some ds
  | .frz ds => some ds
  | _ => none
@[simp] def iLst (u : UE) : UI := fun ρ ω => (u ρ ω).bind fun d ρ ω => liftO (dItems d) ρ ω
theorem tI_of {u : UE} {f : D → Option (List D)} {σ : St} {H : Hp} {Q : It → Hp → Prop} {Q' : VK} (h : tI g W (fun ρ ω => (u ρ ω).bind fun d ρ ω => liftO (f d) ρ ω) σ H Q)
    (k : ∀ R ρ om al H v d ds, Rst g R al σ ρ om H → RepV g al (LL R al om σ ρ) H v d → f d = some ds → (∀ J H', Step al (Mt al om σ ρ) H al (Mt al om σ ρ) H' → Rst g R al σ ρ om H' → ItS g J ds R al (Mt al om σ ρ) H' → Q J H') → Q' v H) : tE g W u σ H Q' := by
  obtain ⟨R, ρ, om, al, S, P⟩ := h
  refine ⟨R, ρ, om, al, S, ?_⟩
  dsimp only at P
  cases e : u ρ om with
  | ok d ρ' om' =>
    rw [e] at P
    intro v H' al' s S' r
    cases ef : f d with
    | none =>
      simp only [Res.bind, ef, liftO] at P
      exact P.elim
    | some ds =>
      simp only [Res.bind, ef, liftO] at P
      exact k R ρ' om' al' H' v d ds S' r ef fun J H2 s2 S2 it => P J H2 al' (s.trans s2) S2 it
  | xc x ρ' om' => rw [e] at P; exact P
  | no => rw [e] at P; exact P
theorem it_list {a : Addr} {ds : List D} {v : V} {d : D} (S : Rst g R al σ ρ om H) (r : RepV g al (LL R al om σ ρ) H v d) (hd : dItems d = some ds) (e : v = .ref a) : ItS g (Itl g.K a) ds R al (Mt al om σ ρ) H := by
  intro R2 σ2 ρ2 om2 al2 H2 i hR2 s S2
  have r2 : RepV g al2 (LL R2 al2 om2 σ2 ρ2) H2 v d := s.rep2 S hR2 r
  have ⟨vs, q, rs⟩ : ∃ vs, SqL g.K H2 a vs ∧ RepVs g al2 (LL R2 al2 om2 σ2 ρ2) H2 vs ds := by
    cases r2 with
    | lst h n r9 => cases hd; cases e; exact ⟨_, SqL.of h, r9⟩
    | frz h r9 => cases hd; cases e; exact ⟨_, h.sq, r9⟩
    | _ => cases hd
  refine ⟨fun hi => ?_, fun hi => ⟨vs, q, by rw [rs.length]; exact hi⟩⟩
  obtain ⟨v0, h0, h1⟩ := rs.get (i := i) (d := ds[i]) (by simp [hi])
  refine ⟨⟨vs, v0, q, h0⟩, fun x H3 ⟨e3, hx⟩ => ?_⟩
  subst e3
  have h2 := hx vs q
  rw [h0] at h2
  cases h2
  exact ⟨S2, .refl, ds[i], by simp [hi], h1⟩
theorem pi_listU {e : Expr} {ue : UE} (hK : X.K = g.K) (he : PE X e (tE g W ue)) : PI X tg e (tI g W (iLst ue)) := by
  refine ⟨fun pins s σ H Q I h => (pi_list he).run pins s σ H Q I (tI_of h fun R ρ om al H v d ds S r hd k => ?_)⟩
  cases r with
  | @lst a vs ds' h n r' =>
    refine ⟨a, rfl, ⟨vs, SqL.of h⟩, ?_⟩
    rw [hK]
    exact k _ H .refl S (it_list S (.lst h n r') hd rfl)
  | @frz a vs ds' h r' =>
    refine ⟨a, rfl, ⟨vs, by rw [hK]; exact h.sq⟩, ?_⟩
    rw [hK]
    exact k _ H .refl S (it_list S (.frz h r') hd rfl)
  | _ => cases hd
/-! names as targets -/
theorem pg_nameU (i : Nat) {x : Str} (hN : X.N.Nodup) (hi : X.N[i]? = some x := by rfl) (hx : Loc X.env.scope x := by first | exact Or.inl rfl | exact Or.inr rfl) (hf : X.fn x = true ∨ X.env.scope.names.lookup x = some .local := by first | exact .inl rfl | exact .inr rfl) : PG X (.Name x pos) (tG g (gN i)) :=
  ⟨fun pins s σ H v u Q I r ⟨R, ρ, om, al, d, ρ', S, rv, e, k⟩ => (pg_name hN hi hx hf).run pins s σ H v u Q I r (by
    cases e
    by_cases hl : i < σ.length
    · obtain ⟨S', s'⟩ := S.setVal hl rv
      exact k _ s' S'
    · show Q (σ.set i (some v)) H
      rw [List.set_eq_of_length_le (by rw [← S.sl.len]; omega)] at k
      rw [List.set_eq_of_length_le (by omega)]
      exact k _ .refl S)⟩
end
end Dv

namespace Dv
open PySem PySem.Spec PyProof.Rows L2

/-! ### what a def promises -/
def LF (R : Addr → Prop) (al : List Addr) (om : Om) (a : Addr) : Prop := Lv al om a ∨ R a
def PostF (g : G) (R : Addr → Prop) (al : List Addr) (M : Addr → Prop) (H : Hp) (E : XK) : FR → VK → Prop
  | .ok d om', Q => ∀ v H' al', Step al M H al' (Lv al' om') H' → RO g R al' om' H' (LF R al' om') → RepV g al' (LF R al' om') H' v d → Q v H'
  | .xc x om', _ => ∀ cv dd H' al', Step al M H al' (Lv al' om') H' → RO g R al' om' H' (LF R al' om') → RepX g al' (LF R al' om') H' cv dd x → E cv dd H'
  | .no, _ => False
def PostFO (g : G) (R : Addr → Prop) (al : List Addr) (M : Addr → Prop) (H : Hp) (E : XK) : FR → VK → Prop
  | .ok (.lst ds) om', Q => ∀ p vs H' al', Step al M H al' (fun a => Lv al' om' a ∨ a = p) H' → RO g (Rp R p) al' om' H' (LF (Rp R p) al' om') → H' p = some (.lst vs) → RepVs g al' (LF (Rp R p) al' om') H' vs ds → Q (.ref p) H'
  | .ok _ _, _ => False
  | .xc x om', _ => ∀ cv dd H' al', Step al M H al' (Lv al' om') H' → RO g R al' om' H' (LF R al' om') → RepX g al' (LF R al' om') H' cv dd x → E cv dd H'
  | .no, _ => False
abbrev FN := List D → Om → FR
def spU (g : G) (n : Nat) (S : FN) : Sp := fun vs H Q E => vs.length = n ∧ ∃ R ds om al, RO g R al om H (LF R al om) ∧ RepVs g al (LF R al om) H vs ds ∧ PostF g R al (Lv al om) H E (S ds om) Q
def spO (g : G) (n : Nat) (S : FN) : Sp := fun vs H Q E => vs.length = n ∧ ∃ R ds om al, RO g R al om H (LF R al om) ∧ RepVs g al (LF R al om) H vs ds ∧ PostFO g R al (Lv al om) H E (S ds om) Q
/-- the entry of a def of n names -/
@[simp] def ent (n : Nat) (ds : List D) : Rho := ds.map (fun d => some (.val d)) ++ List.replicate (n - ds.length) none
@[simp] def RS.fr : RS → FR
  | .nx _ o => .ok .non o
  | .rt d o => .ok d o
  | .rto ds o => .ok (.lst ds) o
  | .xc x _ o => .xc x o
  | _ => .no
/-- for an own list: what hands on such a one -/
@[simp] def RS.fo : RS → FR
  | .rto ds o => .ok (.lst ds) o
  | .xc x _ o => .xc x o
  | _ => .no
def defU (n : Nat) (u : US) : FN := fun ds ω => (u (ent n ds) ω).fr
def defO (n : Nat) (u : US) : FN := fun ds ω => (u (ent n ds) ω).fo

section
variable {g : G} {R R' : Addr → Prop} {al al' : List Addr} {om om' : Om} {σ σ' : St} {ρ ρ' : Rho} {H H' : Hp} {W : WX} {X : Cx} {M M' L L' : Addr → Prop} {i : Nat} {v : V} {d : D} {p : Addr}
theorem carL (h : ∀ a, L' a → L a) : Car g al L H al L' H := ⟨fun _ _ h => h, fun a vs e n => ⟨e, fun m => n (h a m)⟩, fun _ _ h => h, fun a C dx fs e n => ⟨e, fun m => n (h a m)⟩, fun _ _ h => h⟩
theorem RepX.car {cv : Value} {dd : Option Addr} {x : DX} (c : Car g al L H al L' H) (h : RepX g al L H cv dd x) : RepX g al L' H cv dd x := by
  obtain ⟨h1, h2 | ⟨d, fvs, h2, h0, h3, h4⟩⟩ := h
  · exact ⟨h1, .inl h2⟩
  · exact ⟨h1, .inr ⟨d, fvs, h2, h0, h3, h4.car c⟩⟩
/-- the reserved ones of a callee -/
def RC (R : Addr → Prop) (σ : St) (ρ : Rho) : Addr → Prop := fun a => R a ∨ OwnA σ ρ a
theorem lf_ll {a : Addr} : LF (RC R σ ρ) al om a ↔ LL R al om σ ρ a := by
  unfold LF RC LL Mt
  constructor
  · rintro (h | h | h)
    · exact .inl (.inl h)
    · exact .inr h
    · exact .inl (.inr h)
  · rintro ((h | h) | h)
    · exact .inl h
    · exact .inr (.inr h)
    · exact .inr (.inl h)
theorem RO.lm (o : RO g R al om H L) (h : ∀ a, L' a → L a) : RO g R al om H L' := ⟨o.len, fun i c a h1 h2 => (o.cel i c a h1 h2).car (carL h) (fun _ e _ => e) (fun _ _ _ e _ => e), o.inj, o.rsv⟩
theorem Rst.forCall (S : Rst g R al σ ρ om H) : RO g (RC R σ ρ) al om H (LF (RC R σ ρ) al om) :=
  let o := S.o.lm (L' := LF (RC R σ ρ) al om) fun a h => lf_ll.mp h
  ⟨o.len, o.cel, o.inj, fun a h => h.elim (S.o.rsv a) fun h => ⟨(S.ocl a h).1, by
    obtain ⟨j, ds, h1, h2⟩ := h
    obtain ⟨b, vs, e1, e2, _⟩ := S.own j ds h1
    rw [h2] at e1
    cases e1
    rw [e2]; simp⟩⟩
/-- behind a call: R2 what is reserved besides -/
theorem Rst.behind {R2 : Addr → Prop} (S : Rst g R al σ ρ om H) {M2 : Addr → Prop} (hM2 : ∀ a, Lv al' om' a → M2 a) (st : Step al (Lv al om) H al' M2 H') (hR : ∀ a, R a → R2 a) (hR2 : ∀ a, R2 a → R a ∨ (M2 a ∧ ¬ OwnA σ ρ a))
    (o : RO g (RC R2 σ ρ) al' om' H' (LF (RC R2 σ ρ) al' om')) : Rst g R2 al' σ ρ om' H' ∧ Step al (Mt al om σ ρ) H al' (fun a => Mt al' om' σ ρ a ∨ M2 a) H' := by
  have s1 : Step al (Mt al om σ ρ) H al' (fun a => Mt al' om' σ ρ a ∨ M2 a) H' := by
    refine ⟨st.ext, fun a u h n => st.keep a u h fun m => n (.inl m), fun a m => ?_⟩
    rcases m with (m | m) | m
    · exact (st.fresh a (hM2 a m)).elim (fun q => .inl (.inl q)) .inr
    · exact .inl (.inr m)
    · exact (st.fresh a m).elim (fun q => .inl (.inl q)) .inr
  have cr : Car g al (LL R al om σ ρ) H al' (LL R2 al' om' σ ρ) H' := by
    have c := s1.car (g := g) (R := R) (Mt.flat S) fun a h => (S.o.rsv a h).2
    have ll : ∀ a, LL R2 al' om' σ ρ a → (fun a => (Mt al' om' σ ρ a ∨ M2 a) ∨ R a) a := fun a m => by
      rcases m with m | m
      · exact .inl (.inl m)
      · rcases hR2 a m with q | q
        · exact .inr q
        · exact .inl (.inr q.1)
    exact ⟨c.tup, fun a vs h n => ⟨(c.lst a vs h n).1, fun m => (c.lst a vs h n).2 (ll a m)⟩, c.frz, fun a C dx fs h n => ⟨(c.obj a C dx fs h n).1, fun m => (c.obj a C dx fs h n).2 (ll a m)⟩, c.loc⟩
  have o' := o.lm (L' := LL R2 al' om' σ ρ) fun a h => lf_ll.mpr h
  refine ⟨⟨⟨o'.len, o'.cel, o'.inj, fun a h => o.rsv a (.inl h)⟩, S.sl, fun j d h => ?_, fun j ds h => ?_, S.odj, fun a h => ⟨(o.rsv a (.inr h)).1, fun z => ?_⟩⟩, s1⟩
  · obtain ⟨v, e, r⟩ := S.val j d h
    exact ⟨v, e, r.car cr⟩
  · obtain ⟨a, vs, e, e2, r⟩ := S.own j ds h
    exact ⟨a, vs, e, st.keep a _ e2 (S.ocl a ⟨j, ds, h, e⟩).1, r.car cr⟩
  · rcases hR2 a z with q | q
    · exact (S.ocl a h).2 q
    · exact q.2 h
/-- a call's end: a value -/
theorem call_end {S : FN} {ds : List D} {vs : List V} {Q : VK} (St : Rst g R al σ ρ om H) (r : RepVs g al (LL R al om σ ρ) H vs ds) (P : PostR g R W (relV g) al (Mt al om σ ρ) H σ ((S ds om).res ρ) Q) (n : Nat) (hn : vs.length = n) :
    spU g n S vs H Q (WE W σ) := by
  refine ⟨hn, RC R σ ρ, ds, om, al, St.forCall, r.car (carL fun a h => lf_ll.mp h), ?_⟩
  cases e : S ds om with
  | ok d om' =>
    rw [e] at P
    intro v H' al' s o rv
    obtain ⟨S2, s2⟩ := St.behind (R2 := R) (fun a h => h) s (fun a h => h) (fun a h => .inl h) o
    exact P v H' al' ⟨s2.ext, s2.keep, fun a m => s2.fresh a (.inl m)⟩ S2 (rv.car (carL fun a h => lf_ll.mpr h))
  | xc x om' =>
    rw [e] at P
    intro cv dd H' al' s o rv
    obtain ⟨S2, s2⟩ := St.behind (R2 := R) (fun a h => h) s (fun a h => h) (fun a h => .inl h) o
    exact P cv dd H' al' ⟨s2.ext, s2.keep, fun a m => s2.fresh a (.inl m)⟩ S2 (rv.car (carL fun a h => lf_ll.mpr h))
  | no => rw [e] at P; exact P
@[simp] def FR.own : FR → Rho → Res (List D)
  | .ok (.lst ds) o, r => .ok ds r o
  | .ok _ _, _ => .no
  | .xc x o, r => .xc x r o
  | .no, _ => .no
theorem call_endO {S : FN} {ds : List D} {vs : List V} {Q : VK} (St : Rst g R al σ ρ om H) (r : RepVs g al (LL R al om σ ρ) H vs ds) (P : PostO g R W al (Mt al om σ ρ) H σ ((S ds om).own ρ) Q) (n : Nat) (hn : vs.length = n) :
    spO g n S vs H Q (WE W σ) := by
  refine ⟨hn, RC R σ ρ, ds, om, al, St.forCall, r.car (carL fun a h => lf_ll.mp h), ?_⟩
  cases e : S ds om with
  | ok d om' =>
    rw [e] at P
    cases d with
    | lst ds =>
      intro p vs H' al' s o hp rv
      have np : ¬ RC R σ ρ p := fun z => by
        rcases s.fresh p (.inr rfl) with q | q
        · exact (St.forCall.rsv p z).1 q
        · exact (St.forCall.rsv p z).2 q
      have hrp : ∀ a, Rp (RC R σ ρ) p a ↔ RC (Rp R p) σ ρ a := fun a => by
        unfold Rp RC
        constructor
        · rintro ((h | h) | h)
          · exact .inl (.inl h)
          · exact .inr h
          · exact .inl (.inr h)
        · rintro ((h | h) | h)
          · exact .inl (.inl h)
          · exact .inr h
          · exact .inl (.inr h)
      have hlf : ∀ a, LF (RC (Rp R p) σ ρ) al' om' a → LF (Rp (RC R σ ρ) p) al' om' a := fun a h => h.imp id (hrp a).mpr
      have o2 : RO g (RC (Rp R p) σ ρ) al' om' H' (LF (RC (Rp R p) σ ρ) al' om') := by
        have q := o.lm hlf
        exact ⟨q.len, q.cel, q.inj, fun a h => q.rsv a ((hrp a).mpr h)⟩
      obtain ⟨S2, s2⟩ := St.behind (R2 := Rp R p) (M2 := fun a => Lv al' om' a ∨ a = p) (fun a h => .inl h) s (fun a h => .inl h) (fun a h => h.elim .inl fun z => .inr ⟨.inr z, fun q => np (.inr (z ▸ q))⟩) o2
      refine P p vs H' al' ⟨s2.ext, s2.keep, fun a m => s2.fresh a ?_⟩ S2 (fun z => np (.inl z)) hp (rv.car (carL fun a h => hlf a (lf_ll.mpr h)))
      rcases m with m | m
      · exact .inl m
      · exact .inr (.inr m)
    | _ => exact P.elim
  | xc x om' =>
    rw [e] at P
    intro cv dd H' al' s o rv
    obtain ⟨S2, s2⟩ := St.behind (R2 := R) (fun a h => h) s (fun a h => h) (fun a h => .inl h) o
    exact P cv dd H' al' ⟨s2.ext, s2.keep, fun a m => s2.fresh a (.inl m)⟩ S2 (rv.car (carL fun a h => lf_ll.mpr h))
  | no => rw [e] at P; exact P
/-- a def as it stands, and its promise -/
def Has (P : Program) (w : World) (K : PySem.W.Frag) (mg : Str → Option Value) (base : Heap) (x : Str) (ps : List Str) (k : Nat) (sp : Sp) : Prop :=
  ∃ (f : Addr) (fd : FuncData), mg x = some (.ref f) ∧ PySem.W.keepIn K (.ref f) = true ∧ Binds K fd ps [] ∧ FnOk P w K mg base (L2.CX P w) k f fd ps sp
variable {x : Str} {ps : List Str} {k n : Nat} {S : FN} {p0 pos : Pos} {e : Expr} {es : List Expr} {us : UA}
@[simp] def uCall (n : Nat) (S : FN) (us : UA) : UE := fun ρ ω => (us ρ ω).bind fun ds ρ ω => if ds.length = n then (S ds ω).res ρ else .no
@[simp] def uCallO (n : Nat) (S : FN) (us : UA) : UW := fun ρ ω => (us ρ ω).bind fun ds ρ ω => if ds.length = n then (S ds ω).own ρ else .no
/-- .. where nothing may be raised -/
@[simp] def FR.res0 : FR → Rho → Res D
  | .ok d o, r => .ok d r o
  | _, _ => .no
@[simp] def uCallN (n : Nat) (S : FN) (us : UA) : UE := fun ρ ω => (us ρ ω).bind fun ds ρ ω => if ds.length = n then (S ds ω).res0 ρ else .no
theorem pu_call (h : Has X.prog X.w X.K X.mg X.base x ps k (spU g ps.length S)) (hr : Room k X.A) (tk : Takes X W) (ha : PA X (e :: es) (tA g W us)) (hg : Gl X x := by rfl) (hdb : (x == ("__debug__" : Str)) = false := by decide)
    (he : starEach (e :: es) X.env = (false, eval e X.env) :: starEach es X.env := by rfl) (hpl : (backTo pos (starEach es X.env)).any (·.1) = false := by rfl) : PE X (.Call (.Name x p0) (e :: es) [] pos) (tE g W (uCall ps.length S us)) := by
  obtain ⟨f, fd, hm, hk, hb, F⟩ := h
  refine peImp (pe_callS F hr hg hm hk hb (fun σ => passAt tk σ) ha hdb he hpl) fun σ H Q ⟨R, ρ, om, al, St, P⟩ => ?_
  refine tR_bind St P fun ds ρ1 om1 vs H1 al1 s1 S1 r1 P1 => ?_
  split at P1
  · rename_i hl
    exact call_end S1 r1 P1 _ (by rw [RepVs.length r1]; exact hl)
  · exact P1.elim
theorem pu_callO (h : Has X.prog X.w X.K X.mg X.base x ps k (spO g ps.length S)) (hr : Room k X.A) (tk : Takes X W) (ha : PA X (e :: es) (tA g W us)) (hg : Gl X x := by rfl) (hdb : (x == ("__debug__" : Str)) = false := by decide)
    (he : starEach (e :: es) X.env = (false, eval e X.env) :: starEach es X.env := by rfl) (hpl : (backTo pos (starEach es X.env)).any (·.1) = false := by rfl) : PE X (.Call (.Name x p0) (e :: es) [] pos) (tOw g W (uCallO ps.length S us)) := by
  obtain ⟨f, fd, hm, hk, hb, F⟩ := h
  refine peImp (pe_callS F hr hg hm hk hb (fun σ => passAt tk σ) ha hdb he hpl) fun σ H Q ⟨R, ρ, om, al, St, P⟩ => ?_
  refine tR_bindO St P fun ds ρ1 om1 vs H1 al1 s1 S1 r1 P1 => ?_
  split at P1
  · rename_i hl
    exact call_endO S1 r1 P1 _ (by rw [RepVs.length r1]; exact hl)
  · exact P1.elim
theorem pu_callN (h : Has X.prog X.w X.K X.mg X.base x ps k (spU g n S)) (hr : Room k X.A) (ha : PA X (e :: es) (tA g W us)) (hg : Gl X x := by rfl) (hpn : ps.length = n := by rfl) (hdb : (x == ("__debug__" : Str)) = false := by decide)
    (he : starEach (e :: es) X.env = (false, eval e X.env) :: starEach es X.env := by rfl) (hpl : (backTo pos (starEach es X.env)).any (·.1) = false := by rfl) : PE X (.Call (.Name x p0) (e :: es) [] pos) (tE g W (uCallN n S us)) := by
  subst hpn
  obtain ⟨f, fd, hm, hk, hb, F⟩ := h
  refine peImp (pe_call F hr hg hm hk hb .nil passL ha hdb he hpl) fun σ H Q ⟨R, ρ, om, al, St, P⟩ => ?_
  refine tR_bind St P fun ds ρ1 om1 vs H1 al1 s1 S1 r1 P1 => ?_
  split at P1
  · rename_i hl
    have hn : vs.length = ps.length := by rw [RepVs.length r1]; exact hl
    rw [List.append_nil]
    cases e9 : S ds om1 with
    | ok d om' =>
      rw [e9] at P1
      obtain ⟨q1, R2, ds2, om2, al2, q2, q3, q4⟩ := call_end (W := fun _ _ _ _ => False) (S := S) S1 r1 (by rw [e9]; exact P1) _ hn
      exact ⟨q1, R2, ds2, om2, al2, q2, q3, q4⟩
    | xc x om' => rw [e9] at P1; exact P1.elim
    | no => rw [e9] at P1; exact P1.elim
  · exact P1.elim
/-! ### a def's body -/
theorem ent_get {ds : List D} {n j : Nat} {s : Sl} (h : (ent n ds)[j]? = some (some s)) : ∃ d, ds[j]? = some d ∧ s = .val d := by
  unfold ent at h
  by_cases hj : j < ds.length
  · rw [List.getElem?_append_left (by simpa using hj), List.getElem?_map] at h
    cases e : ds[j]? with
    | none => rw [e] at h; cases h
    | some d => rw [e] at h; cases h; exact ⟨d, rfl, rfl⟩
  · rw [List.getElem?_append_right (by simpa using hj), List.getElem?_replicate] at h
    split at h <;> cases h
theorem Rst.entry {N : List Str} {vs : List V} {ds : List D} (o : RO g R al om H (LF R al om)) (r : RepVs g al (LF R al om) H vs ds) (hn : vs.length ≤ N.length) : Rst g R al (start N vs) (ent N.length ds) om H ∧ (∀ a, Mt al om (start N vs) (ent N.length ds) a → Lv al om a) := by
  have no : ∀ a, ¬ OwnA (start N vs) (ent N.length ds) a := fun a ⟨j, dj, h1, _⟩ => by
    obtain ⟨d, _, e⟩ := ent_get h1
    cases e
  have ll : ∀ a, LL R al om (start N vs) (ent N.length ds) a → LF R al om a := fun a m => by
    rcases m with (m | m) | m
    · exact .inl m
    · exact absurd m (no a)
    · exact .inr m
  refine ⟨⟨o.lm ll, ?_, fun j d h => ?_, fun j dj h => ?_, fun i j a di dj h1 => ?_, fun a h => absurd h (no a)⟩, fun a m => m.elim id fun z => absurd z (no a)⟩
  · refine ⟨?_, fun j a c x _ h => ?_⟩
    · unfold L2.start ent
      simp only [List.length_append, List.length_map, List.length_replicate, r.length]
    · obtain ⟨d', _, q⟩ := ent_get h
      cases q
  · obtain ⟨d', e, q⟩ := ent_get h
    cases q
    obtain ⟨v, e2, rv⟩ := r.get e
    refine ⟨v, ?_, rv.car (carL ll)⟩
    unfold L2.start
    obtain ⟨hl, _⟩ := List.getElem?_eq_some_iff.mp e2
    rw [List.getElem?_append_left (by simpa using hl), List.getElem?_map, e2]
    rfl
  · obtain ⟨d', e, q⟩ := ent_get h
    cases q
  · obtain ⟨d', e, q⟩ := ent_get h1
    cases q
theorem rst_lf {a : Addr} (h : LF R al om a) : LL R al om σ ρ a := h.elim (fun h => .inl (.inl h)) .inr
variable {P : Program} {w : World} {K : PySem.W.Frag} {mg : Str → Option Value} {base : Heap} {qual : Str} {st : Stmt} {f : Addr} {fd : FuncData} {N : List Str} {u : US}
/-- THE RULE for a def -/
theorem fnU (F : Fun K x qual st f fd) (Sc : FnScope N ps (defScope st)) (hps : ps.length ≤ N.length)
    (body : ∀ (cdv : Value) (A : Around) (outer : List Env) (s : Shared) (H : Hp) (E : XK), Room k (A.deeper (envOfC qual (defScope st) s.heap.objs.size f cdv)) →
      Takes (cxOf (L2.CX P w) P w K mg base N qual (defScope st) f cdv A outer s H E) (fun cls d _ H => E cls d H) → PSs (cxOf (L2.CX P w) P w K mg base N qual (defScope st) f cdv A outer s H E) (defBody st) (tS g (fun cls d _ H => E cls d H) u)) :
    FnOk P w K mg base (L2.CX P w) (k + 1) f fd ps (spU g ps.length (defU N.length u)) := by
  refine F.okX Sc (fun vs H Q E h => h.1) (fun cdv A outer s H vs Q E hr h => ⟨_, body cdv A outer s H E hr (takes_of rfl rfl rfl rfl), ?_⟩)
  obtain ⟨hn, R, ds, om, al, o, r, p⟩ := h
  obtain ⟨S, m0⟩ := Rst.entry (N := N) o r (by omega)
  refine ⟨R, _, om, al, S, ?_⟩
  have back : ∀ {al' : List Addr} {om' : Om} {σ' : St} {ρ' : Rho} {H' : Hp}, Step al (Mt al om (start N vs) (ent N.length ds)) H al' (Mt al' om' σ' ρ') H' → Step al (Lv al om) H al' (Lv al' om') H' := fun s =>
    ⟨s.ext, fun a u h n => s.keep a u h fun z => n (m0 a z), fun a z => (s.fresh a (.inl z)).imp (m0 a) id⟩
  unfold defU at p
  cases e : u (ent N.length ds) om with
  | nx ρ' om' => rw [e] at p; exact fun σ' H' al' s S' => p _ H' al' (back s) (S'.o.lm fun a h => rst_lf h) .non
  | rt d om' => rw [e] at p; exact fun v σ' ρ' H' al' s S' r' => p _ H' al' (back s) (S'.o.lm fun a h => rst_lf h) (r'.car (carL fun a h => rst_lf h))
  | rto d om' =>
    rw [e] at p
    intro q vs σ' ρ' H' al' s S' n hq r'
    obtain ⟨S2, c, n2⟩ := S'.lessp n
    refine p _ H' al' ⟨s.ext, fun a u h z => s.keep a u h fun y => z (m0 a y), fun a z => (s.fresh a (.inl (.inl z))).imp (m0 a) id⟩ (S2.o.lm fun a h => rst_lf h) (RepV.car (carL fun a h => rst_lf h) (RepV.lst hq n2 (r'.car c)))
  | xc y ρ' om' => rw [e] at p; exact fun cv dd σ' H' al' s S' r' => p cv dd H' al' (back s) (S'.o.lm fun a h => rst_lf h) (r'.car (carL fun a h => rst_lf h))
  | bk ρ' om' => rw [e] at p; exact p.elim
  | ct ρ' om' => rw [e] at p; exact p.elim
  | no => rw [e] at p; exact p.elim
/-- .. for a def that hands on an own list -/
theorem fnO (F : Fun K x qual st f fd) (Sc : FnScope N ps (defScope st)) (hps : ps.length ≤ N.length)
    (body : ∀ (cdv : Value) (A : Around) (outer : List Env) (s : Shared) (H : Hp) (E : XK), Room k (A.deeper (envOfC qual (defScope st) s.heap.objs.size f cdv)) →
      Takes (cxOf (L2.CX P w) P w K mg base N qual (defScope st) f cdv A outer s H E) (fun cls d _ H => E cls d H) → PSs (cxOf (L2.CX P w) P w K mg base N qual (defScope st) f cdv A outer s H E) (defBody st) (tS g (fun cls d _ H => E cls d H) u)) :
    FnOk P w K mg base (L2.CX P w) (k + 1) f fd ps (spO g ps.length (defO N.length u)) := by
  refine F.okX Sc (fun vs H Q E h => h.1) (fun cdv A outer s H vs Q E hr h => ⟨_, body cdv A outer s H E hr (takes_of rfl rfl rfl rfl), ?_⟩)
  obtain ⟨hn, R, ds, om, al, o, r, p⟩ := h
  obtain ⟨S, m0⟩ := Rst.entry (N := N) o r (by omega)
  refine ⟨R, _, om, al, S, ?_⟩
  unfold defO at p
  cases e : u (ent N.length ds) om with
  | rto d om' =>
    rw [e] at p
    intro q vs σ' ρ' H' al' s S' n hq r'
    refine p q vs H' al' ⟨s.ext, fun a u h z => s.keep a u h fun y => z (m0 a y), fun a z => (s.fresh a (z.imp .inl id)).imp (m0 a) id⟩ (S'.o.lm fun a h => rst_lf h) hq (r'.car (carL fun a h => rst_lf h))
  | xc y ρ' om' =>
    rw [e] at p
    exact fun cv dd σ' H' al' s S' r' => p cv dd H' al' ⟨s.ext, fun a u h n => s.keep a u h fun z => n (m0 a z), fun a z => (s.fresh a (.inl z)).imp (m0 a) id⟩ (S'.o.lm fun a h => rst_lf h) (r'.car (carL fun a h => rst_lf h))
  | nx ρ' om' => rw [e] at p; exact p.elim
  | rt d om' => rw [e] at p; exact p.elim
  | bk ρ' om' => rw [e] at p; exact p.elim
  | ct ρ' om' => rw [e] at p; exact p.elim
  | no => rw [e] at p; exact p.elim
/-- an own list is a value, too -/
theorem spO_U {S : FN} {n : Nat} : ∀ vs H Q E, spU g n S vs H Q E → (∀ ds om x om', S ds om = .ok x om' → ∃ l, x = .lst l) → spO g n S vs H Q E := fun vs H Q E ⟨hn, R, ds, om, al, o, r, p⟩ hS => by
  refine ⟨hn, R, ds, om, al, o, r, ?_⟩
  cases e : S ds om with
  | ok d om' =>
    obtain ⟨l, rfl⟩ := hS _ _ _ _ e
    rw [e] at p
    intro q vs H' al' s o' hq r'
    refine p _ H' al' ⟨s.ext, s.keep, fun a z => s.fresh a (.inl z)⟩ ?_ ?_
    · have q := o'.lm (L' := LF R al' om') fun a h => h.imp id .inl
      exact ⟨q.len, q.cel, q.inj, fun a h => q.rsv a (.inl h)⟩
    · refine .lst hq (fun z => ?_) (r'.car (carL fun a h => h.imp id .inl))
      rcases z with z | z
      · exact (o'.rsv q (.inr rfl)).1 z
      · rcases s.fresh q (.inr rfl) with y | y
        · exact (o.rsv q z).1 y
        · exact (o.rsv q z).2 y
  | xc x om' => rw [e] at p; exact p
  | no => rw [e] at p; exact p
end
end Dv

namespace Dv
open PySem PySem.Spec PyProof.Rows L2

/-! ### built-in functions on data -/
def fAbs : List D → Option D
  | [.int i] => some (.int (if i < 0 then -i else i))
  | _ => none
def fLen : List D → Option D
  | [.lst xs] => some (.int xs.length)
  | [.frz xs] => some (.int xs.length)
  | [.tup xs] => some (.int xs.length)
  | [.str z] => if z.length ≤ big then some (.int z.length) else none
  | _ => none
def fInt : List D → Option D
  | [.int i] => some (.int i)
  | [.bl b] => some (.int (if b then 1 else 0))
  | _ => none
def fIntS : List D → Option D
  | [.str z] => if z.length ≤ 640 then (match PySem.intText? z with | some n => some (.int n) | none => none) else none
  | _ => none
def fStr : List D → Option D
  | [.int i] => if i.natAbs.log2 < 1920 then some (.str (toString i)) else none
  | _ => none
def fList : List D → Option (List D)
  | [.lst xs] => some xs
  | [.frz xs] => some xs
  | [.tup xs] => some xs
  | _ => none
def asInts : List D → Option (List Int)
  | [] => some []
  | .int i :: r => (asInts r).map (i :: ·)
  | _ => none
def asStrs : List D → Option (List Str)
  | [] => some []
  | .str i :: r => (asStrs r).map (i :: ·)
  | _ => none
def fSum : List D → Option D
  | [.lst xs] => (asInts xs).map fun ns => .int ns.sum
  | _ => none
def fMax2 : List D → Option D
  | [.int i, .int j] => some (.int (if j > i then j else i))
  | _ => none
def fMin2 : List D → Option D
  | [.int i, .int j] => some (.int (if j < i then j else i))
  | _ => none
def tyName : D → Option String
  | .non => some "NoneType"
  | .bl _ => some "bool"
  | .int _ => some "int"
  | .str _ => some "str"
  | .tup _ => some "tuple"
  | .lst _ => some "list"
  | _ => none
def dIsi (T : String) (d : D) : Option D := match tyName d with
  | some t => (L2.kitB t T).map .bl
  | none => none
@[simp] def uFnO (f : List D → Option (List D)) (u : UA) : UW := fun ρ ω => (u ρ ω).bind fun xs ρ ω => liftO (f xs) ρ ω
/-- a built-in of one argument, looking at the own list of a slot -/
@[simp] def uFnV (f : List D → Option D) (i : Nat) : UE := fun ρ ω => match ρ[i]? with
  | some (some (.own ds)) => liftO (f [.lst ds]) ρ ω
  | _ => .no
/-- an operation whose left side is the own list of a slot -/
@[simp] def uBinV (f : D → D → Option D) (i : Nat) (ub : UE) : UE := fun ρ ω => match ρ[i]? with
  | some (some (.own _)) => (ub ρ ω).bind fun y ρ ω => (match ρ[i]? with
    | some (some (.own ds)) => liftO (f (.lst ds) y) ρ ω
    | _ => .no)
  | _ => .no
/-- .. its right side -/
@[simp] def uBinW (f : D → D → Option D) (ua : UE) (i : Nat) : UE := fun ρ ω => (ua ρ ω).bind fun x ρ ω => match ρ[i]? with
  | some (some (.own ds)) => liftO (f x (.lst ds)) ρ ω
  | _ => .no
/-! methods that change a list -/
abbrev MF := List D → List D → Option (D × List D)
def mAppend : MF := fun xs ds => match ds with
  | [d] => if xs.length < big then some (.non, xs ++ [d]) else none
  | _ => none
def mPop : MF := fun xs ds => match ds with
  | [] => match xs.getLast? with
    | some d => some (d, xs.dropLast)
    | none => none
  | _ => none
def mPopAt : MF := fun xs ds => match ds with
  | [.int i] => if i = 0 then (match xs with | d :: r => some (d, r) | [] => none) else none
  | _ => none
def mClear : MF := fun xs ds => match ds with
  | [] => some (.non, [])
  | _ => none
def mExtend : MF := fun xs ds => match ds with
  | [.lst es] => if xs.length + es.length ≤ big then some (.non, xs ++ es) else none
  | _ => none
@[simp] def uMeO (i : Nat) (f : MF) (us : UA) : UE := fun ρ ω => match ρ[i]? with
  | some (some (.own _)) => (us ρ ω).bind fun ds ρ ω => (match ρ[i]? with
    | some (some (.own xs)) => (match f xs ds with
      | some (d, ys) => .ok d (ρ.set i (some (.own ys))) ω
      | none => .no)
    | _ => .no)
  | _ => .no
@[simp] def uMeL (ua : UE) (f : MF) (us : UA) : UE := fun ρ ω => (ua ρ ω).bind fun x ρ ω => match x with
  | .loc k => (match ω[k]? with
    | some (.lst _) => (us ρ ω).bind fun ds ρ ω => (match ω[k]? with
      | some (.lst xs) => (match f xs ds with
        | some (d, ys) => .ok d ρ (ω.set k (.lst ys))
        | none => .no)
      | _ => .no)
    | _ => .no)
  | _ => .no

section
variable {g : G} {R : Addr → Prop} {al : List Addr} {om : Om} {σ : St} {ρ : Rho} {H H' : Hp} {W : WX} {X : Cx} {L : Addr → Prop} {v : V} {d : D}
theorem RepWs.one {vs : List V} {d : D} (h : RepWs g al L H vs [d]) : ∃ v, vs = [v] ∧ RepW g al L H v d := by
  cases h with
  | cons h r => cases r; exact ⟨_, rfl, h⟩
theorem RepWs.two {vs : List V} {d e : D} (h : RepWs g al L H vs [d, e]) : ∃ v w, vs = [v, w] ∧ RepW g al L H v d ∧ RepW g al L H w e := by
  cases h with
  | cons h r => cases r with
    | cons h2 r => cases r; exact ⟨_, _, rfl, h, h2⟩
theorem asInts_eq : ∀ {xs : List D} {ns : List Int}, asInts xs = some ns → xs = ns.map D.int
  | [], ns, h => by cases h; rfl
  | .int i :: r, ns, h => by
    unfold asInts at h
    cases e : asInts r with
    | none => rw [e] at h; cases h
    | some l => rw [e] at h; cases h; rw [asInts_eq e]; rfl
  | .non :: _, _, h => by cases h
  | .bl _ :: _, _, h => by cases h
  | .str _ :: _, _, h => by cases h
  | .tup _ :: _, _, h => by cases h
  | .lst _ :: _, _, h => by cases h
  | .obj _ _ :: _, _, h => by cases h
  | .loc _ :: _, _, h => by cases h
  | .frz _ :: _, _, h => by cases h
theorem asStrs_eq : ∀ {xs : List D} {ns : List Str}, asStrs xs = some ns → xs = ns.map D.str
  | [], ns, h => by cases h; rfl
  | .str i :: r, ns, h => by
    unfold asStrs at h
    cases e : asStrs r with
    | none => rw [e] at h; cases h
    | some l => rw [e] at h; cases h; rw [asStrs_eq e]; rfl
  | .non :: _, _, h => by cases h
  | .bl _ :: _, _, h => by cases h
  | .int _ :: _, _, h => by cases h
  | .tup _ :: _, _, h => by cases h
  | .lst _ :: _, _, h => by cases h
  | .obj _ _ :: _, _, h => by cases h
  | .loc _ :: _, _, h => by cases h
  | .frz _ :: _, _, h => by cases h
theorem s_abs : FnS g (fun xs H Q => ∃ i, xs = [.int i] ∧ Q (.int (if i < 0 then -i else i)) H) fAbs := by
  intro R W al om σ ρ H Q vs xs S r P
  unfold fAbs at P
  split at P
  · obtain ⟨v, rfl, h⟩ := r.one
    cases h.int
    exact ⟨_, rfl, okSame S P .int⟩
  · exact P.elim
def rLenU (K : PySem.W.Frag) : List V → Hp → VK → Prop := fun xs H Q => (∃ p ys, xs = [.ref p] ∧ (SqL K H p ys ∨ SqT K H p ys) ∧ Q (.int ys.length) H) ∨ ∃ z, xs = [.str z] ∧ z.length ≤ sizeLine ∧ Q (.int z.length) H
theorem call_lenU : CallR X (.builtin "len") (rLenU X.K) := call_len_seq.or call_len_str
theorem s_len : FnS g (rLenU g.K) fLen := by
  intro R W al om σ ρ H Q vs xs S r P
  unfold fLen at P
  split at P
  · obtain ⟨v, rfl, h⟩ := r.one
    obtain ⟨a, vs, rfl, h1, h2⟩ := h.lst
    exact .inl ⟨a, vs, rfl, .inl (SqL.of h1), by rw [h2.length]; exact okSame S P .int⟩
  · obtain ⟨v, rfl, h⟩ := r.one
    obtain ⟨a, vs, rfl, h1, h2⟩ := h.frz
    exact .inl ⟨a, vs, rfl, .inl h1.sq, by rw [h2.length]; exact okSame S P .int⟩
  · obtain ⟨v, rfl, h⟩ := r.one
    obtain ⟨a, vs, rfl, h1, h2⟩ := h.tup
    exact .inl ⟨a, vs, rfl, .inr h1, by rw [h2.length]; exact okSame S P .int⟩
  · obtain ⟨v, rfl, h⟩ := r.one
    cases h.str
    split at P
    · rename_i hz
      exact .inr ⟨_, rfl, big_line hz, okSame S P .int⟩
    · exact P.elim
  · exact P.elim
theorem s_int : FnS g (fun xs H Q => (∃ i, xs = [.int i] ∧ Q (.int i) H) ∨ ∃ k, xs = [.bl k] ∧ Q (.int (if k then 1 else 0)) H) fInt := by
  intro R W al om σ ρ H Q vs xs S r P
  unfold fInt at P
  split at P
  · obtain ⟨v, rfl, h⟩ := r.one
    cases h.int
    exact .inl ⟨_, rfl, okSame S P .int⟩
  · obtain ⟨v, rfl, h⟩ := r.one
    cases h.bl
    exact .inr ⟨_, rfl, okSame S P .int⟩
  · exact P.elim
theorem s_intS : FnS g (fun xs H Q => ∃ a n, xs = [.str a] ∧ PySem.intText? a = some n ∧ a.length ≤ 640 ∧ Q (.int n) H) fIntS := by
  intro R W al om σ ρ H Q vs xs S r P
  unfold fIntS at P
  split at P
  · obtain ⟨v, rfl, h⟩ := r.one
    cases h.str
    split at P
    · rename_i hz
      split at P
      · rename_i n hn
        exact ⟨_, n, rfl, hn, hz, okSame S P .int⟩
      · exact P.elim
    · exact P.elim
  · exact P.elim
theorem s_str : FnS g (fun xs H Q => ∃ i, xs = [.int i] ∧ i.natAbs.log2 < 1920 ∧ Q (.str (toString i)) H) fStr := by
  intro R W al om σ ρ H Q vs xs S r P
  unfold fStr at P
  split at P
  · obtain ⟨v, rfl, h⟩ := r.one
    cases h.int
    split at P
    · rename_i hz
      exact ⟨_, rfl, hz, okSame S P .str⟩
    · exact P.elim
  · exact P.elim
theorem s_sum : FnS g (rSum g.K) fSum := by
  intro R W al om σ ρ H Q vs xs S r P
  unfold fSum at P
  split at P
  · obtain ⟨v, rfl, h⟩ := r.one
    obtain ⟨a, vs, rfl, h1, h2⟩ := h.lst
    rename_i ds
    cases e : asInts ds with
    | none => rw [e] at P; exact P.elim
    | some ns =>
      rw [e] at P
      rw [asInts_eq e] at h2
      rw [h2.ints] at h1
      exact ⟨a, ns, rfl, SqL.of h1, okSame S P .int⟩
  · exact P.elim
theorem s_max2 : FnS g (fun xs H Q => ∃ i j, xs = [.int i, .int j] ∧ Q (.int (if j > i then j else i)) H) fMax2 := by
  intro R W al om σ ρ H Q vs xs S r P
  unfold fMax2 at P
  split at P
  · obtain ⟨v, w, rfl, h, h2⟩ := r.two
    cases h.int; cases h2.int
    exact ⟨_, _, rfl, okSame S P .int⟩
  · exact P.elim
theorem s_min2 : FnS g (fun xs H Q => ∃ i j, xs = [.int i, .int j] ∧ Q (.int (if j < i then j else i)) H) fMin2 := by
  intro R W al om σ ρ H Q vs xs S r P
  unfold fMin2 at P
  split at P
  · obtain ⟨v, w, rfl, h, h2⟩ := r.two
    cases h.int; cases h2.int
    exact ⟨_, _, rfl, okSame S P .int⟩
  · exact P.elim
theorem tyX_of {t : String} (h : RepW g al L H v d) (e : tyName d = some t) : TyX g.K H v (.type t) := by
  cases d with
  | non => cases h.non; cases e; exact .base .non
  | bl b => cases h.bl; cases e; exact .base (.bl b)
  | int b => cases h.int; cases e; exact .base (.int b)
  | str b => cases h.str; cases e; exact .base (.str b)
  | lst b => obtain ⟨a, vs, rfl, h1, h2⟩ := h.lst; cases e; exact .base (.lst h1)
  | tup b =>
    obtain ⟨a, vs, rfl, h1, h2⟩ := h.tup
    cases e
    rcases h1 with (h1 | ⟨o, h1⟩) | ⟨o, its, n, h1, h2, _⟩
    · exact .base (.tup h1)
    · exact .fTuple h1
    · exact .kTuple h1 h2
  | _ => cases e
theorem dIsi_some {T : String} {z : D} (h : dIsi T d = some z) : ∃ t k, tyName d = some t ∧ L2.kitB t T = some k ∧ z = .bl k := by
  unfold dIsi at h
  split at h
  · rename_i t e
    cases e2 : L2.kitB t T with
    | none => rw [e2] at h; cases h
    | some k => rw [e2] at h; cases h; exact ⟨t, k, e, e2, rfl⟩
  · cases h
variable {a b e : Expr} {ua ub ue : UE} {es : List Expr} {us : UA} {p0 pos p1 : Pos} {x : Str} {f : List D → Option D} {r : List V → Hp → VK → Prop} {id : String}
theorem pu_isi (T : String) {n : Str} (hm : X.mg "isinstance" = none) (hn : X.mg n = none) (hv : bootBuiltins n = some (.type T)) (hK : X.K = g.K) (ha : PE X a (tE g W ua)) (hg : Gl X "isinstance" := by rfl) (hgn : Gl X n := by rfl) (hnn : n ≠ "__name__" := by decide) (hdn : (n == ("__debug__" : Str)) = false := by decide)
    (he : starEach (a :: [.Name n p1]) X.env = (false, eval a X.env) :: starEach [.Name n p1] X.env := by rfl) (he2 : starEach [.Name n p1] X.env = (false, eval (.Name n p1) X.env) :: starEach [] X.env := by rfl) (hpl : (backTo pos (starEach [.Name n p1] X.env)).any (·.1) = false := by rfl) :
    PE X (.Call (.Name "isinstance" p0) [a, .Name n p1] [] pos) (tE g W (uUn (dIsi T) ua)) :=
  peImp (pe_callB call_isi hg hm boot_isinstance (pa_cons ha (pa_cons (pe_bltn (v := .ty T) hgn hn hv rfl hnn hdn) pa_nil he2) he) (by decide) (by decide) he hpl) fun σ H Q ⟨R, ρ, om, al, S, P⟩ =>
    tR_bind S P fun d ρ1 om1 v H1 al1 s1 S1 r1 P1 => by
      cases e : dIsi T d with
      | none => rw [e] at P1; exact P1.elim
      | some z =>
        rw [e] at P1
        obtain ⟨t, k, e1, e2, rfl⟩ := dIsi_some e
        exact (⟨v, .ty T, .type t, .type T, k, rfl, .ty T, by rw [hK]; exact tyX_of (.v r1) e1, kit_ty e2, okSame S1 P1 .bl⟩ : rIsi X.K [v, .ty T] H1 Q)
theorem tCB_of (hf : FnS g r f) {σ : St} {H : Hp} {Q : VK} (h : tE g W (uFn f us) σ H Q) : tCB r (tA g W us) σ H Q := by
  obtain ⟨R, ρ, om, al, S, P⟩ := h
  exact tR_bind S P fun ds ρ1 om1 vs H1 al1 s1 S1 r1 P1 => hf R W al1 om1 σ ρ1 H1 Q vs ds S1 (RepVs.ws r1) P1
theorem pu_fn (hc : CallR X (.builtin id) r) (hf : FnS g r f) (hm : X.mg x = none) (hv : bootBuiltins x = some (.builtin id)) (ha : PA X (e :: es) (tA g W us)) (hg : Gl X x := by rfl) (hn : x ≠ "__name__" := by decide) (hdb : (x == ("__debug__" : Str)) = false := by decide)
    (he : starEach (e :: es) X.env = (false, eval e X.env) :: starEach es X.env := by rfl) (hpl : (backTo pos (starEach es X.env)).any (·.1) = false := by rfl) : PE X (.Call (.Name x p0) (e :: es) [] pos) (tE g W (uFn f us)) :=
  peImp (pe_callB hc hg hm hv ha hn hdb he hpl) fun σ H Q h => tCB_of hf h
theorem pu_fnT (hc : CallR X (.type id) r) (hf : FnS g r f) (hm : X.mg x = none) (hv : bootBuiltins x = some (.type id)) (ha : PA X (e :: es) (tA g W us)) (hg : Gl X x := by rfl) (hn : x ≠ "__name__" := by decide) (hdb : (x == ("__debug__" : Str)) = false := by decide)
    (he : starEach (e :: es) X.env = (false, eval e X.env) :: starEach es X.env := by rfl) (hpl : (backTo pos (starEach es X.env)).any (·.1) = false := by rfl) : PE X (.Call (.Name x p0) (e :: es) [] pos) (tE g W (uFn f us)) :=
  peImp (pe_callTy hc hg hm hv ha hn hdb he hpl) fun σ H Q h => tCB_of hf h
/-- list(x), an own list -/
theorem pu_list (hK : X.K = g.K) (hm : X.mg "list" = none) (ha : PA X [e] (tA g W us)) (hg : Gl X "list" := by rfl) (he : starEach [e] X.env = (false, eval e X.env) :: starEach [] X.env := by rfl) (hpl : (backTo pos (starEach [] X.env)).any (·.1) = false := by rfl) :
    PE X (.Call (.Name "list" p0) [e] [] pos) (tOw g W (uFnO fList us)) :=
  peImp (pe_callTy call_list_of hg hm (by decide +kernel) ha (by decide) (by decide) he hpl) fun σ H Q ⟨R, ρ, om, al, S, P⟩ =>
    tR_bindO S P fun ds ρ1 om1 vs H1 al1 s1 S1 r1 P1 => by
      have r2 := RepVs.ws r1
      unfold fList at P1
      split at P1
      · obtain ⟨v, rfl, h⟩ := r2.one
        obtain ⟨a, vs, rfl, h1, h2⟩ := h.lst
        exact ⟨a, vs, rfl, .inl (SqL.of h1), fun l hl => okOwn S1 P1 hl h2⟩
      · obtain ⟨v, rfl, h⟩ := r2.one
        obtain ⟨a, vs, rfl, h1, h2⟩ := h.frz
        exact ⟨a, vs, rfl, .inl (by rw [hK]; exact h1.sq), fun l hl => okOwn S1 P1 hl h2⟩
      · obtain ⟨v, rfl, h⟩ := r2.one
        obtain ⟨a, vs, rfl, h1, h2⟩ := h.tup
        exact ⟨a, vs, rfl, .inr (by rw [hK]; exact h1), fun l hl => okOwn S1 P1 hl h2⟩
      · exact P1.elim
/-! ### looking at an own list -/
theorem own_view (S : Rst g R al σ ρ om H) {i : Nat} {ds : List D} (e : ρ[i]? = some (some (.own ds))) : ∃ a, σ[i]? = some (some (.ref a)) ∧ RepW g al (LL R al om σ ρ) H (.ref a) (.lst ds) := by
  obtain ⟨a, vs, h1, h2, h3⟩ := S.own i ds e
  exact ⟨a, h1, .own h2 h3⟩
theorem pe_slot (i : Nat) {n : Str} (hN : X.N[i]? = some n := by rfl) (hv : Vis X.env.scope n := by first | exact Or.inl rfl | exact Or.inr (Or.inl rfl) | exact Or.inr (Or.inr rfl)) (hd : (n == ("__debug__" : Str)) = false := by decide)
    (hcd : (n == ("__classdict__" : Str)) = false := by decide) : PE X (.Name n p1) (tVar i) := pe_var hN hv hd hcd
theorem tOpV {i : Nat} {r : R2} {f : D → D → Option D} (hf : OpS g r f) {σ : St} {H : Hp} {Q : VK} (h : tE g W (uBinV f i ub) σ H Q) : tOp r (tVar i) (tE g W ub) σ H Q := by
  obtain ⟨R, ρ, om, al, S, P⟩ := h
  simp only [uBinV] at P
  split at P
  · rename_i xs e
    obtain ⟨a, h1, _⟩ := own_view S e
    refine ⟨_, h1, ?_⟩
    refine tR_bind S P fun y ρ1 om1 w H1 al1 s1 S1 r1 P1 => ?_
    split at P1
    · rename_i ds e1
      obtain ⟨a1, h3, h4⟩ := own_view S1 e1
      rw [h1] at h3
      cases h3
      exact hf R W al1 om1 σ ρ1 H1 Q _ w _ y S1 h4 (.v r1) P1
    · exact P1.elim
  · exact P.elim
theorem tOpW {i : Nat} {r : R2} {f : D → D → Option D} (hf : OpS g r f) {σ : St} {H : Hp} {Q : VK} (h : tE g W (uBinW f ua i) σ H Q) : tOp r (tE g W ua) (tVar i) σ H Q := by
  obtain ⟨R, ρ, om, al, S, P⟩ := h
  refine tR_bind S P fun y ρ1 om1 w H1 al1 s1 S1 r1 P1 => ?_
  split at P1
  · rename_i ds e1
    obtain ⟨a1, h3, h4⟩ := own_view S1 e1
    exact ⟨_, h3, hf R W al1 om1 σ ρ1 H1 Q w _ y _ S1 (.v r1) h4 P1⟩
  · exact P1.elim
theorem pu_binV (i : Nat) {op : Operator} {r : R2} {f : D → D → Option D} (ho : OpR X (binaryOp op) r) (hf : OpS g r f) (ha : PE X a (tVar i)) (hb : PE X b (tE g W ub)) : PE X (.BinOp a op b pos) (tE g W (uBinV f i ub)) := peImp (pe_op ho ha hb) fun σ H Q h => tOpV hf h
theorem pu_binW (i : Nat) {op : Operator} {r : R2} {f : D → D → Option D} (ho : OpR X (binaryOp op) r) (hf : OpS g r f) (ha : PE X a (tE g W ua)) (hb : PE X b (tVar i)) : PE X (.BinOp a op b pos) (tE g W (uBinW f ua i)) := peImp (pe_op ho ha hb) fun σ H Q h => tOpW hf h
theorem pu_cmpV (i : Nat) {op : CmpOp} {r : R2} {f : D → D → Option D} (ho : OpR X (compareOp op) r) (hf : OpS g r f) (ha : PE X a (tVar i)) (hb : PE X b (tE g W ub)) (hm : behindInMarks op b = false) : PE X (.Compare a [op] [b] pos) (tE g W (uBinV f i ub)) := peImp (pe_cmpR ho ha hb hm) fun σ H Q h => tOpV hf h
theorem pt_cmpV (i : Nat) {op : CmpOp} {r : R2} {f : D → D → Option D} (ho : OpR X (compareOp op) r) (hf : OpS g r f) (ha : PE X a (tVar i)) (hb : PE X b (tE g W ub)) (hm : behindInMarks op b = false) : PT X (.Compare a [op] [b] pos) (tT g W (uB (uBinV f i ub))) :=
  ptImp (pt_cmpR ho ha hb hm) fun σ H Q h => by
    obtain ⟨R, ρ, om, al, S, P⟩ := tB_of h
    exact tOpV hf ⟨R, ρ, om, al, S, P⟩
theorem pu_ixV (i : Nat) {r : R2} {f : D → D → Option D} (ho : IxR X r) (hf : OpS g r f) (ha : PE X a (tVar i)) (hb : PE X b (tE g W ub)) (hs : PlainIx b := by exact fun _ _ => rfl) : PE X (.Subscript a b pos) (tE g W (uBinV f i ub)) := peImp (pe_ix ho ha hb hs) fun σ H Q h => tOpV hf h
theorem tCBV {i : Nat} (hf : FnS g r f) {σ : St} {H : Hp} {Q : VK} (h : tE g W (uFnV f i) σ H Q) : tCB r (tCons (tVar i) tNil) σ H Q := by
  obtain ⟨R, ρ, om, al, S, P⟩ := h
  simp only [uFnV] at P
  split at P
  · rename_i xs e
    obtain ⟨a, h1, h2⟩ := own_view S e
    exact ⟨_, h1, hf R W al om σ ρ H Q _ _ S (.cons h2 .nil) P⟩
  · exact P.elim
theorem pu_fnV (i : Nat) (hc : CallR X (.builtin id) r) (hf : FnS g r f) (hm : X.mg x = none) (hv : bootBuiltins x = some (.builtin id)) (ha : PE X e (tVar i)) (hg : Gl X x := by rfl) (hn : x ≠ "__name__" := by decide) (hdb : (x == ("__debug__" : Str)) = false := by decide)
    (he : starEach [e] X.env = (false, eval e X.env) :: starEach [] X.env := by rfl) (hpl : (backTo pos (starEach [] X.env)).any (·.1) = false := by rfl) : PE X (.Call (.Name x p0) [e] [] pos) (tE g W (uFnV f i)) :=
  peImp (pe_callB hc hg hm hv (pa_cons ha pa_nil he) hn hdb he hpl) fun σ H Q h => tCBV hf h
/-! ### methods that change a list -/
def MuS (g : G) (r : V → List V → Hp → VK → Prop) (f : MF) : Prop := ∀ (al : List Addr) (L : Addr → Prop) (H : Hp) (a : Addr) (vs : List V) (xs : List D) (ws : List V) (ds : List D) (d : D) (ys : List D) (Q : VK), H a = some (.lst vs) → RepVs g al L H vs xs → RepVs g al L H ws ds → f xs ds = some (d, ys) →
  (∀ v vs', RepV g al L H v d → RepVs g al L H vs' ys → Q v (upd H a (.lst vs'))) → r (.ref a) ws H Q
theorem u_append : MuS g rAppend mAppend := by
  intro al L H a vs xs ws ds d ys Q ha rv rw_ e k
  unfold mAppend at e
  split at e
  · split at e
    · rename_i y hz
      cases e
      cases rw_ with
      | cons h r =>
        cases r
        exact ⟨a, vs, _, rfl, rfl, ha, by rw [rv.length]; exact big_lt hz, k _ _ .non (rv.append (.cons h .nil))⟩
    · cases e
  · cases e
theorem u_pop : MuS g rPop mPop := by
  intro al L H a vs xs ws ds d ys Q ha rv rw_ e k
  unfold mPop at e
  split at e
  · split at e
    · rename_i y hy
      cases e
      cases rw_
      rw [List.getLast?_eq_getElem?] at hy
      obtain ⟨v, h1, h2⟩ := rv.get hy
      exact ⟨a, vs, v, rfl, rfl, ha, by rw [rv.length]; exact h1, k _ _ h2 rv.dropLast⟩
    · cases e
  · cases e
theorem u_popAt : MuS g rPopAt mPopAt := by
  intro al L H a vs xs ws ds d ys Q ha rv rw_ e k
  unfold mPopAt at e
  split at e
  · rename_i i
    split at e
    · rename_i hi
      subst hi
      split at e
      · cases e
        cases rw_ with
        | cons h r =>
          cases r
          cases h
          cases rv with
          | cons h2 r2 =>
            exact ⟨a, _, 0, 0, _, rfl, rfl, ha, by decide, by decide, by simp [seqIndex?], rfl, k _ _ h2 r2⟩
      · cases e
    · cases e
  · cases e
theorem u_clear : MuS g rClear mClear := by
  intro al L H a vs xs ws ds d ys Q ha rv rw_ e k
  unfold mClear at e
  split at e
  · cases e
    cases rw_
    exact ⟨a, vs, rfl, rfl, ha, k _ _ .non .nil⟩
  · cases e
theorem u_extend : MuS g rExtend mExtend := by
  intro al L H a vs xs ws ds d ys Q ha rv rw_ e k
  unfold mExtend at e
  split at e
  · split at e
    · rename_i es hz
      cases e
      cases rw_ with
      | cons h r =>
        cases r
        cases h with
        | lst h1 h2 h3 => exact ⟨a, _, vs, _, rfl, rfl, ha, h1, by rw [rv.length, h3.length]; exact big_line hz, k _ _ .non (rv.append h3)⟩
    · cases e
  · cases e
variable {m : V → List V → Hp → VK → Prop} {mf : MF} {name : Str} {apos cpos : Pos} {o : Expr} {t : TA}
/-- o.m(..), o the name of a slot with an own list -/
theorem tBM_own {i : Nat} (hmf : MuS g m mf) {K : PySem.W.Frag} {σ : St} {H : Hp} {Q : VK} (h : tE g W (uMeO i mf us) σ H Q) : tBM K "list" m (tVar i) (tA g W us) σ H Q := by
  obtain ⟨R, ρ, om, al, S, P⟩ := h
  simp only [uMeO] at P
  split at P
  · rename_i xs0 e
    obtain ⟨a, vs, h1, h2, h3⟩ := S.own i _ e
    refine ⟨_, h1, .inl ⟨rfl, vs, SqL.of h2⟩, ?_⟩
    refine tR_bind S P fun ds ρ1 om1 ws H1 al1 s1 S1 r1 P1 => ?_
    split at P1
    · rename_i xs e1
      split at P1
      · rename_i d ys e2
        obtain ⟨b, vs1, q1, q2, q3⟩ := S1.own i _ e1
        rw [h1] at q1
        cases q1
        refine hmf al1 _ H1 a vs1 xs ws ds d ys Q q2 q3 r1 e2 fun v vs' rv rvs => ?_
        obtain ⟨S2, s2⟩ := S1.setOwn e1 h1 q2 rvs
        exact P1 v _ al1 s2 S2 (s2.rep S1 rv)
      · exact P1.elim
    · exact P1.elim
  · exact P.elim
theorem pu_meO (i : Nat) {nid : String} (slot : Slot "list" name nid) (hty : typeOf (.builtin nid) = pure (.type "method_descriptor")) (hm : MtM X nid m) (hmf : MuS g m mf) (ho : PE X o (tVar i)) (ha : PA X (e :: es) (tA g W us))
    (hbase : attributeBase o name X.env (eval o X.env) = eval o X.env := by rfl)
    (hfew : ((backTo cpos (starEach (e :: es) X.env)).all (fun x => !x.1) && (backToKw cpos (keywordEach [] X.env)).all (fun x => x.1.isSome)
      && decide ((e :: es).length + ([] : List Keyword).length + (if ([] : List Keyword).isEmpty then 0 else 1) < 30)) = true := by rfl)
    (hline : (apos.endLine == cpos.line) = true := by rfl) (hs : starEach (e :: es) X.env = (false, eval e X.env) :: starEach es X.env := by rfl) (hplain : (backTo cpos (starEach es X.env)).any (·.1) = false := by rfl) :
    PE X (.Call (.Attribute o name apos) (e :: es) [] cpos) (tE g W (uMeO i mf us)) := peImp (pe_bm PySem.F.plainAttrs_list slot hty hm ho ha hbase hfew hline hs hplain) fun σ H Q h => tBM_own hmf h
theorem pu_meO0 (i : Nat) {nid : String} (slot : Slot "list" name nid) (hty : typeOf (.builtin nid) = pure (.type "method_descriptor")) (hm : MtM X nid m) (hmf : MuS g m mf) (ho : PE X o (tVar i))
    (hbase : attributeBase o name X.env (eval o X.env) = eval o X.env := by rfl) (hline : (apos.endLine == cpos.line) = true := by rfl) :
    PE X (.Call (.Attribute o name apos) [] [] cpos) (tE g W (uMeO i mf uNil)) := peImp (pe_bm0 PySem.F.plainAttrs_list slot hty hm ho hbase hline) fun σ H Q h => by
  obtain ⟨v, h1, h2, R, ρ, om, al, S, P⟩ := tBM_own (K := X.K) hmf h
  exact ⟨v, h1, h2, P [] H al .refl S .nil⟩
/-! ### shared lists -/
theorem lv_set {k : Nat} {c c' : Cell} {a : Addr} (hk : om[k]? = some c) (hc : c ≠ .gone) (h : Lv al (om.set k c') a) : Lv al om a := by
  obtain ⟨i, ci, h1, h2, h3⟩ := h
  rcases getset h2 with ⟨rfl, _⟩ | ⟨n, q⟩
  · exact ⟨i, c, h1, hk, hc⟩
  · exact ⟨i, ci, h1, q, h3⟩
theorem Rst.setCell (S : Rst g R al σ ρ om H) {k : Nat} {c c' : Cell} {a : Addr} {o : HO} (hk : om[k]? = some c) (hc : c ≠ .gone) (hc' : c' ≠ .gone) (ha : al[k]? = some a)
    (hr : CellR g al (LL R al om σ ρ) (upd H a o) a c') : Rst g R al σ ρ (om.set k c') (upd H a o) ∧ Step al (Mt al om σ ρ) H al (Mt al (om.set k c') σ ρ) (upd H a o) := by
  have hL : Lv al om a := ⟨k, c, ha, hk, hc⟩
  have st : Step al (Mt al om σ ρ) H al (Mt al (om.set k c') σ ρ) (upd H a o) := by
    refine .grow (fun b u h n => ?_) fun b m => ?_
    · rw [upd_ne (fun z => n (by rw [z]; exact .inl hL))]
      exact h
    · exact .inl (m.imp (lv_set hk hc) id)
  have ll : ∀ b, LL R al (om.set k c') σ ρ b → LL R al om σ ρ b := fun b m => m.imp (fun m => m.imp (lv_set hk hc) id) id
  refine ⟨⟨⟨by rw [List.length_set]; exact S.o.len, fun i ci b h1 h2 => ?_, fun i j b ci cj h1 h2 h3 h4 n1 n2 => ?_, fun b h => ⟨fun z => (S.o.rsv b h).1 (lv_set hk hc z), ?_⟩⟩, S.sl, fun j d h => ?_, fun j dj h => ?_, S.odj, fun b h => ⟨fun z => (S.ocl b h).1 (lv_set hk hc z), (S.ocl b h).2⟩⟩, st⟩
  · rcases getset h1 with ⟨rfl, q⟩ | ⟨n, q⟩
    · subst q
      rw [ha] at h2
      cases h2
      exact hr.car (carL ll) (fun _ e _ => e) (fun _ _ _ e _ => e)
    · have ne : ci ≠ .gone → b ≠ a := fun nc z => n (S.o.inj i k a ci c (by rw [← z]; exact h2) ha q hk nc hc)
      exact (S.o.cel i ci b q h2).car (st.car (Mt.flat S) fun a h => (S.o.rsv a h).2) (fun xs e nc => by rw [upd_ne (ne nc)]; exact e) (fun C dx fs e nc => by rw [upd_ne (ne nc)]; exact e)
  · have f : ∀ {i : Nat} {ci : Cell}, (om.set k c')[i]? = some ci → ci ≠ .gone → ∃ ci', om[i]? = some ci' ∧ ci' ≠ .gone := fun {i ci} h nc => by
      rcases getset h with ⟨rfl, q⟩ | ⟨n, q⟩
      · exact ⟨c, hk, hc⟩
      · exact ⟨ci, q, nc⟩
    obtain ⟨c1, q1, m1⟩ := f h3 n1
    obtain ⟨c2, q2, m2⟩ := f h4 n2
    exact S.o.inj i j b c1 c2 h1 h2 q1 q2 m1 m2
  · by_cases z : b = a
    · subst z; rw [upd_same]; simp
    · rw [upd_ne z]; exact (S.o.rsv b h).2
  · obtain ⟨v, e, r⟩ := S.val j d h
    exact ⟨v, e, st.rep S r⟩
  · obtain ⟨b, vs, e, e2, r⟩ := S.own j dj h
    refine ⟨b, vs, e, ?_, st.reps S r⟩
    rw [upd_ne (fun z => (S.ocl b ⟨j, dj, h, e⟩).1 (by rw [z]; exact hL))]
    exact e2
theorem cell_lst (S : Rst g R al σ ρ om H) {k : Nat} {xs : List D} {a : Addr} (hk : om[k]? = some (.lst xs)) (ha : al[k]? = some a) : ∃ vs, H a = some (.lst vs) ∧ RepVs g al (LL R al om σ ρ) H vs xs := S.o.cel k _ a hk ha
theorem Rst.setL (S : Rst g R al σ ρ om H) {k : Nat} {xs ys : List D} {a : Addr} {vs : List V} (hk : om[k]? = some (.lst xs)) (ha : al[k]? = some a) (r : RepVs g al (LL R al om σ ρ) H vs ys) :
    Rst g R al σ ρ (om.set k (.lst ys)) (upd H a (.lst vs)) ∧ Step al (Mt al om σ ρ) H al (Mt al (om.set k (.lst ys)) σ ρ) (upd H a (.lst vs)) := by
  have hL : Lv al om a := ⟨k, _, ha, hk, fun z => nomatch z⟩
  have st : Step al (Mt al om σ ρ) H al (Mt al om σ ρ) (upd H a (.lst vs)) := .grow (fun b u h n => by
    rw [upd_ne (fun z => n (by rw [z]; exact .inl hL))]
    exact h) fun b m => .inl m
  exact S.setCell hk (fun z => nomatch z) (fun z => nomatch z) ha ⟨vs, upd_same, r.car (st.car (Mt.flat S) fun a h => (S.o.rsv a h).2)⟩
/-- o.m(..), o a shared list -/
theorem tBM_loc (hmf : MuS g m mf) {K : PySem.W.Frag} {σ : St} {H : Hp} {Q : VK} (h : tE g W (uMeL ua mf us) σ H Q) : tBM K "list" m (tE g W ua) (tA g W us) σ H Q := by
  obtain ⟨R, ρ, om, al, S, P⟩ := h
  refine tR_bind S P fun x ρ0 om0 v0 H0 al0 s0 S0 r0 P0 => ?_
  split at P0
  · rename_i k
    cases r0 with
    | loc ha =>
      rename_i a
      split at P0
      · rename_i xs0 e
        obtain ⟨vs, h2, h3⟩ := cell_lst S0 e ha
        refine ⟨.inl ⟨rfl, vs, SqL.of h2⟩, ?_⟩
        refine tR_bind S0 P0 fun ds ρ1 om1 ws H1 al1 s1 S1 r1 P1 => ?_
        split at P1
        · rename_i xs e1
          split at P1
          · rename_i d ys e2
            obtain ⟨vs1, q2, q3⟩ := cell_lst S1 e1 (s1.ext _ _ ha)
            refine hmf al1 _ H1 a vs1 xs ws ds d ys Q q2 q3 r1 e2 fun v vs' rv rvs => ?_
            obtain ⟨S2, s2⟩ := S1.setL e1 (s1.ext _ _ ha) rvs
            exact P1 v _ al1 s2 S2 (s2.rep S1 rv)
          · exact P1.elim
        · exact P1.elim
      · exact P0.elim
  · exact P0.elim
theorem pu_meL {nid : String} (slot : Slot "list" name nid) (hty : typeOf (.builtin nid) = pure (.type "method_descriptor")) (hm : MtM X nid m) (hmf : MuS g m mf) (ho : PE X o (tE g W ua)) (ha : PA X (e :: es) (tA g W us))
    (hbase : attributeBase o name X.env (eval o X.env) = eval o X.env := by rfl)
    (hfew : ((backTo cpos (starEach (e :: es) X.env)).all (fun x => !x.1) && (backToKw cpos (keywordEach [] X.env)).all (fun x => x.1.isSome)
      && decide ((e :: es).length + ([] : List Keyword).length + (if ([] : List Keyword).isEmpty then 0 else 1) < 30)) = true := by rfl)
    (hline : (apos.endLine == cpos.line) = true := by rfl) (hs : starEach (e :: es) X.env = (false, eval e X.env) :: starEach es X.env := by rfl) (hplain : (backTo cpos (starEach es X.env)).any (·.1) = false := by rfl) :
    PE X (.Call (.Attribute o name apos) (e :: es) [] cpos) (tE g W (uMeL ua mf us)) := peImp (pe_bm PySem.F.plainAttrs_list slot hty hm ho ha hbase hfew hline hs hplain) fun σ H Q h => tBM_loc hmf h
theorem pu_meL0 {nid : String} (slot : Slot "list" name nid) (hty : typeOf (.builtin nid) = pure (.type "method_descriptor")) (hm : MtM X nid m) (hmf : MuS g m mf) (ho : PE X o (tE g W ua))
    (hbase : attributeBase o name X.env (eval o X.env) = eval o X.env := by rfl) (hline : (apos.endLine == cpos.line) = true := by rfl) :
    PE X (.Call (.Attribute o name apos) [] [] cpos) (tE g W (uMeL ua mf uNil)) := peImp (pe_bm0 PySem.F.plainAttrs_list slot hty hm ho hbase hline) fun σ H Q h => by
  obtain ⟨R, ρ, om, al, S, P⟩ := h
  refine tR_bind S P fun x ρ0 om0 v0 H0 al0 s0 S0 r0 P0 => ?_
  split at P0
  · rename_i k
    cases r0 with
    | loc ha =>
      rename_i a
      split at P0
      · rename_i xs0 e
        obtain ⟨vs, h2, h3⟩ := cell_lst S0 e ha
        refine ⟨.inl ⟨rfl, vs, SqL.of h2⟩, ?_⟩
        simp only [uNil, Res.bind] at P0
        split at P0
        · rename_i xs e1
          split at P0
          · rename_i d ys e2
            obtain ⟨vs1, q2, q3⟩ := cell_lst S0 e1 ha
            refine hmf al0 _ H0 a vs1 xs [] [] d ys Q q2 q3 .nil e2 fun v vs' rv rvs => ?_
            obtain ⟨S2, s2⟩ := S0.setL e1 ha rvs
            exact P0 v _ al0 s2 S2 (s2.rep S0 rv)
          · exact P0.elim
        · exact P0.elim
      · exact P0.elim
  · exact P0.elim
/-- looking at a shared list: an item, its length, == .. -/
@[simp] def uSee (u : UE) (f : D → Option D) : UE := fun ρ ω => (u ρ ω).bind fun x ρ ω => match x with
  | .loc k => (match ω[k]? with
    | some (.lst xs) => liftO (f (.lst xs)) ρ ω
    | _ => .no)
  | _ => .no
@[simp] def uBinL (f : D → D → Option D) (ua ub : UE) : UE := fun ρ ω => (ua ρ ω).bind fun x ρ ω => (ub ρ ω).bind fun y ρ ω => match x with
  | .loc k => (match ω[k]? with
    | some (.lst xs) => liftO (f (.lst xs) y) ρ ω
    | _ => .no)
  | _ => .no
theorem tOpL {r : R2} {f : D → D → Option D} (hf : OpS g r f) {σ : St} {H : Hp} {Q : VK} (h : tE g W (uBinL f ua ub) σ H Q) : tOp r (tE g W ua) (tE g W ub) σ H Q := by
  obtain ⟨R, ρ, om, al, S, P⟩ := h
  refine tR_bind S P fun x ρ0 om0 v0 H0 al0 s0 S0 r0 P0 => ?_
  refine tR_bind S0 P0 fun y ρ1 om1 w H1 al1 s1 S1 r1 P1 => ?_
  split at P1
  · rename_i k
    cases (s1.rep S0 r0) with
    | loc ha =>
      split at P1
      · rename_i xs e
        obtain ⟨vs, h2, h3⟩ := cell_lst S1 e ha
        exact hf R W al1 om1 σ ρ1 H1 Q _ w _ y S1 (.own h2 h3) (.v r1) P1
      · exact P1.elim
  · exact P1.elim
theorem pu_ixL {r : R2} {f : D → D → Option D} (ho : IxR X r) (hf : OpS g r f) (ha : PE X a (tE g W ua)) (hb : PE X b (tE g W ub)) (hs : PlainIx b := by exact fun _ _ => rfl) : PE X (.Subscript a b pos) (tE g W (uBinL f ua ub)) := peImp (pe_ix ho ha hb hs) fun σ H Q h => tOpL hf h
theorem pu_cmpL {op : CmpOp} {r : R2} {f : D → D → Option D} (ho : OpR X (compareOp op) r) (hf : OpS g r f) (ha : PE X a (tE g W ua)) (hb : PE X b (tE g W ub)) (hm : behindInMarks op b = false) : PE X (.Compare a [op] [b] pos) (tE g W (uBinL f ua ub)) := peImp (pe_cmpR ho ha hb hm) fun σ H Q h => tOpL hf h
theorem pt_cmpL {op : CmpOp} {r : R2} {f : D → D → Option D} (ho : OpR X (compareOp op) r) (hf : OpS g r f) (ha : PE X a (tE g W ua)) (hb : PE X b (tE g W ub)) (hm : behindInMarks op b = false) : PT X (.Compare a [op] [b] pos) (tT g W (uB (uBinL f ua ub))) :=
  ptImp (pt_cmpR ho ha hb hm) fun σ H Q h => by
    obtain ⟨R, ρ, om, al, S, P⟩ := tB_of h
    exact tOpL hf ⟨R, ρ, om, al, S, P⟩
/-! ### storing an item: o[i] = e, o a shared list -/
def setN (xs : List D) (i : Int) (d : D) : Option (List D) := if 0 ≤ i ∧ i.toNat < xs.length then some (xs.set i.toNat d) else none
@[simp] def sSetL (uo ui ue : UE) : US := fun ρ ω => RS.of (ue ρ ω) fun d ρ ω => RS.of (uo ρ ω) fun o ρ ω => RS.of (ui ρ ω) fun i ρ ω => match o, i with
  | .loc k, .int i => (match ω[k]? with
    | some (.lst xs) => (match setN xs i d with
      | some ys => .nx ρ (ω.set k (.lst ys))
      | none => .no)
    | _ => .no)
  | _, _ => .no
theorem ps_setL {i : Expr} {ui : UE} {tpos : Pos} (he : PE X e (tE g W ue)) (ho : PE X o (tE g W ua)) (hi : PE X i (tE g W ui)) (hsub : ∀ v, assign (.Subscript o i tpos) X.env v = (do
      let ov ← holding [v] (eval o X.env)
      let iv ← holding [v, ov] (eval i X.env)
      standAt tpos
      holding [v, ov, iv] (setItem ov iv v)
      release [v, ov, iv] []) := by intro _; rfl) (hs : swapsWithSole [.Subscript o i tpos] e pos.line X.env = pure false := by rfl) (hw : swappedStores [.Subscript o i tpos] e X.env = pure none := by rfl)
    (h1 : (assignEach [.Subscript o i tpos] X.env).map (·.2) = [assign (.Subscript o i tpos) X.env] := by rfl) : PS X (.Assign [.Subscript o i tpos] e pos) (tS g W (sSetL ua ui ue)) := psImp (ps_asg he (pg_sub ho hi set_list hsub) hs hw h1) fun De σ H ⟨R, ρ, om, al, S, P⟩ => by
  refine tR_bindS S P fun d ρ1 om1 v H1 al1 s1 S1 r1 P1 => ?_
  refine tR_bindS S1 P1 fun x ρ2 om2 w H2 al2 s2 S2 r2 P2 => ?_
  refine tR_bindS S2 P2 fun y ρ3 om3 z H3 al3 s3 S3 r3 P3 => ?_
  split at P3
  · rename_i k j
    cases r3
    cases (s3.rep S2 r2) with
    | loc ha =>
      rename_i a
      split at P3
      · rename_i xs e3
        obtain ⟨vs, q1, q2⟩ := cell_lst S3 e3 ha
        split at P3
        · rename_i ys e4
          unfold setN at e4
          split at e4
          · rename_i hj
            cases e4
            refine ⟨a, vs, j, j.toNat, rfl, rfl, q1, ?_, ?_⟩
            · unfold ixN
              rw [if_pos hj.1, if_pos (by rw [q2.length]; omega)]
            · obtain ⟨S4, s4⟩ := S3.setL e3 ha (q2.set (s3.rep S2 (s2.rep S1 r1)) j.toNat)
              exact P3 σ _ al3 s4 S4
          · cases e4
        · exact P3.elim
      · exact P3.elim
  · exact P3.elim
end
end Dv

namespace Dv
open PySem PySem.Spec PyProof.Rows L2

/-! ### ranges -/
def rngN (lo : Int) (n : Nat) : List D := (List.range n).map fun (k : Nat) => .int (lo + (k : Int))
def fRng1 : List D → Option (List D)
  | [.int j] => if j.natAbs ≤ 1000000 then some (rngN 0 j.toNat) else none
  | _ => none
def fRng2 : List D → Option (List D)
  | [.int i, .int j] => if i.natAbs ≤ 1000000 ∧ j.natAbs ≤ 1000000 then some (rngN i (j - i).toNat) else none
  | _ => none
theorem fRng1_eq {j : Int} (h : j.natAbs ≤ 1000000) : fRng1 [.int j] = some (rngN 0 j.toNat) := if_pos h
/-- range(i, -1, -1) -/
def fRngD : List D → Option (List D)
  | [.int i, .int j, .int c] => if i.natAbs ≤ 1000000 ∧ j = -1 ∧ c = -1 then some ((List.range (i + 1).toNat).map fun (k : Nat) => .int (i - (k : Int))) else none
  | _ => none
@[simp] def iFn (f : List D → Option (List D)) (u : UA) : UI := fun ρ ω => (u ρ ω).bind fun ds ρ ω => liftO (f ds) ρ ω
/-- the signs of a text -/
def fSigns : D → Option (List D)
  | .str z => some (z.cps.toList.map fun c => .str ⟨#[c]⟩)
  | _ => none
@[simp] def iStrU (u : UE) : UI := fun ρ ω => (u ρ ω).bind fun d ρ ω => liftO (fSigns d) ρ ω
/-- enumerate of a list -/
def fEnum : List D → Option (List D)
  | [.lst ds] => some ((List.range ds.length).map fun (k : Nat) => .tup [.int (k : Int), ds.getD k .non])
  | _ => none
/-- an own list that is shared from now on -/
@[simp] def uNew (u : UW) : UE := fun ρ ω => (u ρ ω).bind fun ds ρ ω => .ok (.loc ω.length) ρ (ω ++ [.lst ds])
section
variable {g : G} {R : Addr → Prop} {al : List Addr} {om : Om} {σ : St} {ρ : Rho} {H H' : Hp} {W : WX} {X : Cx} {L : Addr → Prop} {v : V} {d : D} {p : Addr}
theorem getapp {α : Type} {l : List α} {x y : α} {i : Nat} (h : (l ++ [x])[i]? = some y) : l[i]? = some y ∨ (i = l.length ∧ y = x) := by
  by_cases hi : i < l.length
  · rw [List.getElem?_append_left hi] at h
    exact .inl h
  · rw [List.getElem?_append_right (by omega)] at h
    by_cases e : i - l.length = 0
    · rw [e] at h
      cases h
      exact .inr ⟨by omega, rfl⟩
    · rw [List.getElem?_eq_none (by simp; omega)] at h
      cases h
theorem Rst.newCell (S : Rst g (Rp R p) al σ ρ om H) (hR : ¬ R p) {c : Cell} (hn : H p ≠ none) (hr : CellR g al (LL (Rp R p) al om σ ρ) H p c) :
    Rst g R (al ++ [p]) σ ρ (om ++ [c]) H ∧ Step al (fun a => Mt al om σ ρ a ∨ a = p) H (al ++ [p]) (Mt (al ++ [p]) (om ++ [c]) σ ρ) H := by
  have len := S.o.len
  have ext : ∀ (i : Nat) (a : Addr), al[i]? = some a → (al ++ [p])[i]? = some a := fun i a h => by
    obtain ⟨hl, _⟩ := List.getElem?_eq_some_iff.mp h
    rw [List.getElem?_append_left hl]
    exact h
  have lv : ∀ a, Lv (al ++ [p]) (om ++ [c]) a → Lv al om a ∨ a = p := fun a ⟨i, ci, h1, h2, h3⟩ => by
    rcases getapp h1 with q | ⟨q, rfl⟩
    · obtain ⟨hl, _⟩ := List.getElem?_eq_some_iff.mp q
      rw [List.getElem?_append_left (by omega)] at h2
      exact .inl ⟨i, ci, q, h2, h3⟩
    · exact .inr rfl
  have np : ¬ Lv al om p := (S.o.rsv p (.inr rfl)).1
  have ll : ∀ a, LL R (al ++ [p]) (om ++ [c]) σ ρ a → LL (Rp R p) al om σ ρ a := fun a m => by
    rcases m with (m | m) | m
    · rcases lv a m with q | q
      · exact .inl (.inl q)
      · exact .inr (.inr q)
    · exact .inl (.inr m)
    · exact .inr (.inl m)
  have cr : Car g al (LL (Rp R p) al om σ ρ) H (al ++ [p]) (LL R (al ++ [p]) (om ++ [c]) σ ρ) H := ⟨fun _ _ h => h, fun a vs e n => ⟨e, fun m => n (ll a m)⟩, fun _ _ h => h, fun a C dx fs e n => ⟨e, fun m => n (ll a m)⟩, ext⟩
  refine ⟨⟨⟨by simp [len], fun i ci a h1 h2 => ?_, fun i j a ci cj h1 h2 h3 h4 n1 n2 => ?_, fun a h => ⟨fun z => ?_, (S.o.rsv a (.inl h)).2⟩⟩, S.sl, fun j d h => ?_, fun j dj h => ?_, S.odj, fun a h => ⟨fun z => ?_, fun z => (S.ocl a h).2 (.inl z)⟩⟩, ext, fun _ _ h _ => h, fun a m => .inl ?_⟩
  · rcases getapp h1 with q | ⟨q, rfl⟩
    · obtain ⟨hl, _⟩ := List.getElem?_eq_some_iff.mp q
      rw [List.getElem?_append_left (by omega)] at h2
      exact (S.o.cel i ci a q h2).car cr (fun _ e _ => e) (fun _ _ _ e _ => e)
    · rcases getapp h2 with q2 | ⟨_, rfl⟩
      · obtain ⟨hl, _⟩ := List.getElem?_eq_some_iff.mp q2
        omega
      · exact hr.car cr (fun _ e _ => e) (fun _ _ _ e _ => e)
  · rcases getapp h3 with q3 | ⟨q3, rfl⟩
    · obtain ⟨l3, _⟩ := List.getElem?_eq_some_iff.mp q3
      rw [List.getElem?_append_left (by omega)] at h1
      rcases getapp h4 with q4 | ⟨q4, rfl⟩
      · obtain ⟨l4, _⟩ := List.getElem?_eq_some_iff.mp q4
        rw [List.getElem?_append_left (by omega)] at h2
        exact S.o.inj i j a ci cj h1 h2 q3 q4 n1 n2
      · rcases getapp h2 with q2 | ⟨_, rfl⟩
        · obtain ⟨l2, _⟩ := List.getElem?_eq_some_iff.mp q2
          omega
        · exact absurd ⟨i, ci, h1, q3, n1⟩ np
    · rcases getapp h1 with q1 | ⟨_, rfl⟩
      · obtain ⟨l1, _⟩ := List.getElem?_eq_some_iff.mp q1
        omega
      · rcases getapp h4 with q4 | ⟨q4, _⟩
        · obtain ⟨l4, _⟩ := List.getElem?_eq_some_iff.mp q4
          rw [List.getElem?_append_left (by omega)] at h2
          exact absurd ⟨j, cj, h2, q4, n2⟩ np
        · omega
  · rcases lv a z with q | rfl
    · exact (S.o.rsv a (.inl h)).1 q
    · exact hR h
  · obtain ⟨v, e, r⟩ := S.val j d h
    exact ⟨v, e, r.car cr⟩
  · obtain ⟨a, vs, e, e2, r⟩ := S.own j dj h
    exact ⟨a, vs, e, e2, r.car cr⟩
  · rcases lv a z with q | rfl
    · exact (S.ocl a h).1 q
    · exact (S.ocl a h).2 (.inr rfl)
  · rcases m with m | m
    · exact (lv a m).imp .inl id
    · exact .inl (.inr m)
variable {e a b c : Expr} {ue ua ub : UE} {uw : UW} {us : UA} {es : List Expr} {tg : Expr} {p0 pos : Pos}
theorem pu_new (h : PE X e (tOw g W uw)) : PE X e (tE g W (uNew uw)) := peImp h fun σ H Q ⟨R, ρ, om, al, S, P⟩ => by
  refine ⟨R, ρ, om, al, S, ?_⟩
  simp only [uNew] at P
  cases e : uw ρ om with
  | ok ds ρ' om' =>
    rw [e] at P
    intro p vs H' al' s S' n hp r
    obtain ⟨S2, s2⟩ := S'.newCell n (c := .lst ds) (by rw [hp]; simp) ⟨vs, hp, r⟩
    exact P _ H' _ (s.trans s2) S2 (.loc (by rw [← S'.o.len]; simp))
  | xc x ρ' om' => rw [e] at P; exact P
  | no => rw [e] at P; exact P
/-! ### ranges, texts, enumerate -/
theorem tIA_of {f : List D → Option (List D)} {σ : St} {H : Hp} {Q : It → Hp → Prop} {Q' : List V → Hp → Prop} (h : tI g W (iFn f us) σ H Q)
    (k : ∀ R ρ om al H vs xs ds, Rst g R al σ ρ om H → RepVs g al (LL R al om σ ρ) H vs xs → f xs = some ds → (∀ J H', Step al (Mt al om σ ρ) H al (Mt al om σ ρ) H' → Rst g R al σ ρ om H' → ItS g J ds R al (Mt al om σ ρ) H' → Q J H') → Q' vs H) : tA g W us σ H Q' := by
  obtain ⟨R, ρ, om, al, S, P⟩ := h
  refine ⟨R, ρ, om, al, S, ?_⟩
  simp only [iFn] at P
  cases e : us ρ om with
  | ok d ρ' om' =>
    rw [e] at P
    intro v H' al' s S' r
    cases ef : f d with
    | none =>
      simp only [Res.bind, ef, liftO] at P
      exact P.elim
    | some ds =>
      simp only [Res.bind, ef, liftO] at P
      exact k R ρ' om' al' H' v d ds S' r ef fun J H2 s2 S2 it => P J H2 al' (s.trans s2) S2 it
  | xc x ρ' om' => rw [e] at P; exact P
  | no => rw [e] at P; exact P
theorem it_range {lo : Int} {n : Nat} {M : Addr → Prop} : ItS g (Itr lo n) (rngN lo n) R al M H := by
  intro R2 σ2 ρ2 om2 al2 H2 i hR2 s S2
  have hl : (rngN lo n).length = n := by simp [rngN]
  refine ⟨fun hi => ⟨by rw [← hl]; exact hi, fun x H3 ⟨e3, hx⟩ => ?_⟩, fun hi => by rw [← hl]; exact hi⟩
  subst e3
  subst hx
  exact ⟨S2, .refl, .int (lo + i), by rw [hl] at hi; simp [rngN, hi], .int⟩
theorem pi_rng1 (hm : X.mg "range" = none) (ha : PA X [a] (tA g W us)) (hg : Gl X "range" := by rfl) (hs : starEach [a] X.env = [(false, eval a X.env)] := by rfl) : PI X tg (.Call (.Name "range" p0) [a] [] pos) (tI g W (iFn fRng1 us)) :=
  ⟨fun pins s σ H Q I h => (pi_range1 hg hm ha hs).run pins s σ H Q I (tIA_of h fun R ρ om al H vs xs ds S r hd k => by
    unfold fRng1 at hd
    split at hd
    · split at hd
      · rename_i j hj
        cases hd
        cases r with
        | cons r r2 =>
          cases r2
          cases r
          exact ⟨j, rfl, by omega, by omega, k _ H .refl S it_range⟩
      · cases hd
    · cases hd)⟩
theorem pi_rng2 (hm : X.mg "range" = none) (ha : PA X [a, b] (tA g W us)) (hg : Gl X "range" := by rfl) (hs : starEach [a, b] X.env = [(false, eval a X.env), (false, eval b X.env)] := by rfl) (hs2 : starEach [b] X.env = [(false, eval b X.env)] := by rfl) :
    PI X tg (.Call (.Name "range" p0) [a, b] [] pos) (tI g W (iFn fRng2 us)) :=
  ⟨fun pins s σ H Q I h => (pi_range2 hg hm ha hs hs2).run pins s σ H Q I (tIA_of h fun R ρ om al H vs xs ds S r hd k => by
    unfold fRng2 at hd
    split at hd
    · split at hd
      · rename_i i j hj
        cases hd
        cases r with
        | cons r r2 =>
          cases r2 with
          | cons r2 r3 =>
            cases r3
            cases r
            cases r2
            exact ⟨i, j, rfl, ⟨by omega, by omega, by omega, by omega⟩, k _ H .refl S it_range⟩
      · cases hd
    · cases hd)⟩
theorem it_rangeD {i : Int} {n : Nat} {M : Addr → Prop} (hn : (i + 1).toNat = n) : ItS g (Itc i (-1) n) ((List.range n).map fun (k : Nat) => D.int (i - (k : Int))) R al M H := by
  intro R2 σ2 ρ2 om2 al2 H2 k hR2 s S2
  refine ⟨fun hi => ⟨by show k < n; simpa using hi, fun x H3 ⟨e3, hx⟩ => ?_⟩, fun hi => by show n ≤ k; simpa using hi⟩
  subst e3
  subst hx
  have e : i + (k : Int) * (-1) = i - k := by omega
  rw [e]
  exact ⟨S2, .refl, .int (i - k), by
    have hi' : k < n := by simpa using hi
    simp [hi'], .int⟩
theorem pi_rngD (hm : X.mg "range" = none) (ha : PA X [a, b, c] (tA g W us)) (hg : Gl X "range" := by rfl) (hs : starEach [a, b, c] X.env = (false, eval a X.env) :: starEach [b, c] X.env := by rfl) (hpl : (backTo pos (starEach [b, c] X.env)).any (·.1) = false := by rfl) :
    PI X tg (.Call (.Name "range" p0) [a, b, c] [] pos) (tI g W (iFn fRngD us)) :=
  ⟨fun pins s σ H Q I h => (pi_range3 hg hm ha hs hpl).run pins s σ H Q I (tIA_of h fun R ρ om al H vs xs ds S r hd k => by
    unfold fRngD at hd
    split at hd
    · split at hd
      · rename_i i j c hj
        obtain ⟨h1, rfl, rfl⟩ := hj
        cases hd
        cases r with
        | cons r r2 =>
          cases r2 with
          | cons r2 r3 =>
            cases r3 with
            | cons r3 r4 =>
              cases r4
              cases r
              cases r2
              cases r3
              have e : (i - -1).toNat = (i + 1).toNat := by congr 1
              exact ⟨i, -1, -1, (i - -1).toNat, rfl, RgC.neg (by omega) (by omega) (by decide) (by decide), by
                have q := it_rangeD (g := g) (R := R) (al := al) (H := H) (M := Mt al om σ ρ) (i := i) e.symm
                rw [e] at q
                exact k _ H .refl S q⟩
      · cases hd
    · cases hd)⟩
theorem it_str {z : Str} {M : Addr → Prop} : ItS g (Its z) (z.cps.toList.map fun c => D.str ⟨#[c]⟩) R al M H := by
  intro R2 σ2 ρ2 om2 al2 H2 i hR2 s S2
  refine ⟨fun hi => ⟨by show i < z.cps.size; simpa using hi, fun x H3 ⟨e3, c, hc, hx⟩ => ?_⟩, fun hi => by show z.cps.size ≤ i; simpa using hi⟩
  subst e3
  subst hx
  refine ⟨S2, .refl, .str ⟨#[c]⟩, ?_, .str⟩
  rw [List.getElem?_map, Array.getElem?_toList, hc]
  rfl
theorem pi_strU (he : PE X e (tE g W ue)) : PI X tg e (tI g W (iStrU ue)) := by
  refine ⟨fun pins s σ H Q I h => (pi_str he).run pins s σ H Q I (tI_of h fun R ρ om al H v d ds S r hd k => ?_)⟩
  cases r with
  | str => cases hd; exact ⟨_, rfl, k _ H .refl S it_str⟩
  | _ => cases hd
theorem it_enum {K : PySem.W.Frag} {a : Addr} {ds : List D} (hK : K = g.K) (S : Rst g R al σ ρ om H) (r : RepV g al (LL R al om σ ρ) H (.ref a) (.lst ds)) :
    ItS g (Ite K a) ((List.range ds.length).map fun (k : Nat) => D.tup [.int (k : Int), ds.getD k .non]) R al (Mt al om σ ρ) H := by
  intro R2 σ2 ρ2 om2 al2 H2 i hR2 s S2
  cases (s.rep2 S hR2 r : RepV g al2 (LL R2 al2 om2 σ2 ρ2) H2 _ _) with
  | @lst _ vs _ h n r2 =>
    refine ⟨fun hi => ?_, fun hi => ⟨vs, SqL.of h, by rw [r2.length]; simpa using hi⟩⟩
    have hi' : i < ds.length := by simpa using hi
    obtain ⟨v0, h0, h1⟩ := r2.get (i := i) (d := ds[i]) (by simp [hi'])
    refine ⟨⟨vs, v0, SqL.of h, h0⟩, fun x H3 ⟨T, y, e1, e2, e3, e4⟩ => ?_⟩
    have e5 := e4 vs (SqL.of h)
    rw [h0] at e5
    cases e5
    subst e1
    subst e3
    obtain ⟨S3, s3⟩ := S2.grow (upd_keep (o := .tup [.int (i : Nat), v0]) e2)
    refine ⟨S3, s3, .tup [.int (i : Int), ds[i]], by simp [hi'], .tup (.inl (.inl upd_same)) (.cons .int (.cons (s3.rep S2 h1) .nil))⟩
theorem pi_enumU {elts : List Expr} {kk : Nat} {tpos : Pos} (hK : X.K = g.K) (hm : X.mg "enumerate" = none) (ha : PA X [e] (tA g W us)) (hg : Gl X "enumerate" := by rfl) (hs : starEach [e] X.env = [(false, eval e X.env)] := by rfl) :
    PI X (.Tuple elts kk tpos) (.Call (.Name "enumerate" p0) [e] [] pos) (tI g W (iFn fEnum us)) :=
  ⟨fun pins s σ H Q I h => (pi_enum hg hm ha hs).run pins s σ H Q I (tIA_of h fun R ρ om al H vs xs ds S r hd k => by
    unfold fEnum at hd
    split at hd
    · cases hd
      cases r with
      | cons r r2 =>
        cases r2
        cases r with
        | lst h n r2 => exact ⟨_, _, rfl, SqL.of h, k _ H .refl S (it_enum hK S (.lst h n r2))⟩
    · cases hd)⟩
/-! ### tuples as targets -/
theorem gset {Q : St → Hp → Prop} {i : Nat} (S : Rst g R al σ ρ om H) (r : RepV g al (LL R al om σ ρ) H v d) (k : ∀ σ', σ' = σ.set i (some v) → Step al (Mt al om σ ρ) H al (Mt al om σ' (ρ.set i (some (.val d)))) H → Rst g R al σ' (ρ.set i (some (.val d))) om H → Q σ' H) : Q (σ.set i (some v)) H := by
  by_cases hl : i < σ.length
  · obtain ⟨S', s'⟩ := S.setVal hl r
    exact k _ rfl s' S'
  · have e : ρ.set i (some (.val d)) = ρ := List.set_eq_of_length_le (by rw [← S.sl.len]; omega)
    have e2 : σ.set i (some v) = σ := List.set_eq_of_length_le (by omega)
    rw [e, e2] at k
    rw [e2]
    exact k σ rfl .refl S
variable {x y z u : Str} {q1 q2 q3 q4 : Pos} {kk : Nat}
theorem pg_tup2 (i j : Nat) (hK : X.K = g.K) (hc : X.calm = true) (h1 : PG X a (gName i)) (h2 : PG X b (gName j)) (hp : (assignEach [a, b] X.env).map (·.2) = assign a X.env :: (assignEach [b] X.env).map (·.2) := by rfl) (hp2 : (assignEach [b] X.env).map (·.2) = assign b X.env :: (assignEach [] X.env).map (·.2) := by rfl)
    (hn : (assignEach [a, b] X.env).length = 2 := by rfl) (hst : (assignEach [a, b] X.env).findIdx? (·.1) = none := by rfl) : PG X (.Tuple [a, b] kk pos) (tG g (gT2 i j)) :=
  ⟨fun pins s σ H v w Q I r ⟨R, ρ, om, al, d, ρ', S, rv, e, k⟩ => (pg_tup hc (pgs_cons h1 (pgs_cons h2 pgs_nil hp2) hp) hn hst).run pins s σ H v w Q I r (by
    simp only [gT2] at e
    split at e
    · cases e
      cases rv with
      | @tup ta vs _ ht rs =>
        cases rs with
        | cons ra rs => cases rs with
          | cons rb rs =>
            cases rs
            refine ⟨ta, _, rfl, by rw [hK]; exact ht, rfl, _, _, rfl, ?_⟩
            refine gset (i := i) (Q := fun σ' H' => (gCons (gName j) gNil) _ σ' H' Q) S ra fun σ1 e1 s1 S1 => ⟨_, _, rfl, ?_⟩
            refine gset (i := j) (Q := fun σ' H' => gNil _ σ' H' Q) S1 (s1.rep S rb) fun σ2 e2 s2 S2 => ⟨rfl, ?_⟩
            exact k σ2 (s1.trans s2) S2
    · cases e)⟩
theorem pg_tup3 (i j l : Nat) (hK : X.K = g.K) (hc : X.calm = true) (h1 : PG X a (gName i)) (h2 : PG X b (gName j)) (h3 : PG X c (gName l)) (hp : (assignEach [a, b, c] X.env).map (·.2) = assign a X.env :: (assignEach [b, c] X.env).map (·.2) := by rfl) (hp2 : (assignEach [b, c] X.env).map (·.2) = assign b X.env :: (assignEach [c] X.env).map (·.2) := by rfl) (hp3 : (assignEach [c] X.env).map (·.2) = assign c X.env :: (assignEach [] X.env).map (·.2) := by rfl)
    (hn : (assignEach [a, b, c] X.env).length = 3 := by rfl) (hst : (assignEach [a, b, c] X.env).findIdx? (·.1) = none := by rfl) : PG X (.Tuple [a, b, c] kk pos) (tG g (gT3 i j l)) :=
  ⟨fun pins s σ H v w Q I r ⟨R, ρ, om, al, d, ρ', S, rv, e, k⟩ => (pg_tup hc (pgs_cons h1 (pgs_cons h2 (pgs_cons h3 pgs_nil hp3) hp2) hp) hn hst).run pins s σ H v w Q I r (by
    simp only [gT3] at e
    split at e
    · cases e
      cases rv with
      | @tup ta vs _ ht rs =>
        cases rs with
        | cons ra rs => cases rs with
          | cons rb rs => cases rs with
            | cons rc rs =>
              cases rs
              refine ⟨ta, _, rfl, by rw [hK]; exact ht, rfl, _, _, rfl, ?_⟩
              refine gset (i := i) (Q := fun σ' H' => (gCons (gName j) (gCons (gName l) gNil)) _ σ' H' Q) S ra fun σ1 e1 s1 S1 => ⟨_, _, rfl, ?_⟩
              refine gset (i := j) (Q := fun σ' H' => (gCons (gName l) gNil) _ σ' H' Q) S1 (s1.rep S rb) fun σ2 e2 s2 S2 => ⟨_, _, rfl, ?_⟩
              refine gset (i := l) (Q := fun σ' H' => gNil _ σ' H' Q) S2 (s2.rep S1 (s1.rep S rc)) fun σ3 e3 s3 S3 => ⟨rfl, ?_⟩
              exact k σ3 ((s1.trans s2).trans s3) S3
    · cases e)⟩
theorem pg_tup4 {e4 : Expr} (i j l m : Nat) (hK : X.K = g.K) (hc : X.calm = true) (h1 : PG X a (gName i)) (h2 : PG X b (gName j)) (h3 : PG X c (gName l)) (h4 : PG X e4 (gName m)) (hp : (assignEach [a, b, c, e4] X.env).map (·.2) = assign a X.env :: (assignEach [b, c, e4] X.env).map (·.2) := by rfl) (hp2 : (assignEach [b, c, e4] X.env).map (·.2) = assign b X.env :: (assignEach [c, e4] X.env).map (·.2) := by rfl) (hp3 : (assignEach [c, e4] X.env).map (·.2) = assign c X.env :: (assignEach [e4] X.env).map (·.2) := by rfl) (hp4 : (assignEach [e4] X.env).map (·.2) = assign e4 X.env :: (assignEach [] X.env).map (·.2) := by rfl)
    (hn : (assignEach [a, b, c, e4] X.env).length = 4 := by rfl) (hst : (assignEach [a, b, c, e4] X.env).findIdx? (·.1) = none := by rfl) : PG X (.Tuple [a, b, c, e4] kk pos) (tG g (gT4 i j l m)) :=
  ⟨fun pins s σ H v w Q I r ⟨R, ρ, om, al, d, ρ', S, rv, e, k⟩ => (pg_tup hc (pgs_cons h1 (pgs_cons h2 (pgs_cons h3 (pgs_cons h4 pgs_nil hp4) hp3) hp2) hp) hn hst).run pins s σ H v w Q I r (by
    simp only [gT4] at e
    split at e
    · cases e
      cases rv with
      | @tup ta vs _ ht rs =>
        cases rs with
        | cons ra rs => cases rs with
          | cons rb rs => cases rs with
            | cons rc rs => cases rs with
              | cons rd rs =>
                cases rs
                refine ⟨ta, _, rfl, by rw [hK]; exact ht, rfl, _, _, rfl, ?_⟩
                refine gset (i := i) (Q := fun σ' H' => (gCons (gName j) (gCons (gName l) (gCons (gName m) gNil))) _ σ' H' Q) S ra fun σ1 e1 s1 S1 => ⟨_, _, rfl, ?_⟩
                refine gset (i := j) (Q := fun σ' H' => (gCons (gName l) (gCons (gName m) gNil)) _ σ' H' Q) S1 (s1.rep S rb) fun σ2 e2 s2 S2 => ⟨_, _, rfl, ?_⟩
                refine gset (i := l) (Q := fun σ' H' => (gCons (gName m) gNil) _ σ' H' Q) S2 (s2.rep S1 (s1.rep S rc)) fun σ3 e3 s3 S3 => ⟨_, _, rfl, ?_⟩
                refine gset (i := m) (Q := fun σ' H' => gNil _ σ' H' Q) S3 (s3.rep S2 (s2.rep S1 (s1.rep S rd))) fun σ4 e4 s4 S4 => ⟨rfl, ?_⟩
                exact k σ4 (((s1.trans s2).trans s3).trans s4) S4
    · cases e)⟩
theorem pg_n (i : Nat) (hN : X.N.Nodup) (hi : X.N[i]? = some x := by rfl) (hx : Loc X.env.scope x := by first | exact Or.inl rfl | exact Or.inr rfl) (hf : X.fn x = true ∨ X.env.scope.names.lookup x = some .local := by first | exact .inl rfl | exact .inr rfl) : PG X (.Name x pos) (gName i) := pg_name hN hi hx hf
/-- a, b = e -/
@[simp] def sAsgG (G : UG) (u : UE) : US := fun ρ ω => RS.of (u ρ ω) fun d ρ ω => match G d ρ with
  | some ρ' => .nx ρ' ω
  | none => .no
theorem ps_asgG {G' : UG} (he : PE X e (tE g W ue)) (hg : PG X tg (tG g G')) (hs : swapsWithSole [tg] e pos.line X.env = pure false := by rfl) (hw : swappedStores [tg] e X.env = pure none := by rfl) (h1 : (assignEach [tg] X.env).map (·.2) = [assign tg X.env] := by rfl) :
    PS X (.Assign [tg] e pos) (tS g W (sAsgG G' ue)) := psImp (ps_asg he hg hs hw h1) fun De σ H ⟨R, ρ, om, al, S, P⟩ =>
  tR_bindS S P fun d ρ1 om1 v H1 al1 s1 S1 r1 P1 => by
    split at P1
    · rename_i ρ' e
      exact ⟨R, ρ1, om1, al1, d, ρ', S1, r1, e, fun σ' s S' => P1 σ' H1 al1 s S'⟩
    · exact P1.elim
end
end Dv

namespace Dv
open PySem PySem.Spec PyProof.Rows L2
@[simp] def fuelI (i : Nat) : Rho → Om → Nat := fun ρ _ => match ρ[i]? with
  | some (some (.val (.int j))) => j.natAbs + 1
  | _ => 0
theorem fnNo {P : Program} {w : World} {K : PySem.W.Frag} {mg : Str → Option Value} {base : Heap} {k : Nat} {f : Addr} {fd : FuncData} {ps : List Str} {g : G} : FnOk P w K mg base (L2.CX P w) k f fd ps (spU g ps.length fun _ _ => .no) :=
  ⟨fun vs H Q E h => h.1, fun A outer s H args us vs Q E hr he hb hv hs => by
    obtain ⟨_, R, ds, om, al, _, _, p⟩ := hs
    exact p.elim⟩
/-- a def as the top has left it -/
def At (K : PySem.W.Frag) (mg : Str → Option Value) (x qual : Str) (st : Stmt) : Prop := ∃ (f : Addr) (fd : FuncData), mg x = some (.ref f) ∧ Fun K x qual st f fd
theorem at_mk {K : PySem.W.Frag} {h : Heap} {mg : Str → Option Value} {x : Str} {st : Stmt} {f : Addr} {od an : Option Addr} {sl : Array (Option Value)} {oc kV dc pm cd ct : Value} (X : K.In h) (G : h.Ns mainGlobals mg)
    (a : PySem.W.nsIn K mainGlobals x = some (some (.ref f))) (l : K.lookup f = some ⟨oc, od, .func (PySem.W.fnOf x x (defArgs st) (defBody st) (defScope st) .none kV dc pm an cd ct), sl⟩) (c : PySem.W.codeIn K cd x = true) (k : PySem.W.keepIn K (.ref f) = true) : At K mg x x st :=
  ⟨f, _, PySem.W.mg_of X G a, fun_mk l c k⟩
theorem At.has {P : Program} {w : World} {K : PySem.W.Frag} {mg : Str → Option Value} {base : Heap} {x : Str} {st : Stmt} {ps : List Str} {k : Nat} {sp : Sp} (a : At K mg x x st)
    (b : ∀ (kV doc pm : Value) (an : Option Addr) (cdv ct : Value) (us : List Value), us.length = ps.length → bindArgs (PySem.W.fnOf x x (defArgs st) (defBody st) (defScope st) .none kV doc pm an cdv ct) ⟨us, []⟩ = pure (ps.zip us))
    (h : ∀ {f : Addr} {fd : FuncData}, mg x = some (.ref f) → Binds K fd ps [] → Fun K x x st f fd → FnOk P w K mg base (L2.CX P w) k f fd ps sp) : Has P w K mg base x ps k sp :=
  let ⟨f, fd, e, F⟩ := a
  ⟨f, fd, e, F.kp, F.binds b, h e (F.binds b) F⟩
/-- the law's promise: nothing is raised -/
def spLaw (S : FN) (K : PySem.W.Frag) : Sp := fun vs H Q _ => ∀ cls : Str → Addr, spU (gK K cls) 1 S vs H Q (fun _ _ _ => False)
theorem to0 {P : Program} {w : World} {K : PySem.W.Frag} {mg : Str → Option Value} {base : Heap} {k : Nat} {f : Addr} {fd : FuncData} {ps : List Str} {S : FN} {cls : Str → Addr} (F : FnOk P w K mg base (L2.CX P w) k f fd ps (spU (gK K cls) 1 S)) : FnOk P w K mg base CX0 k f fd ps (spLaw S K) :=
  ⟨fun vs H Q E h => F.len vs H Q _ (h cls), fun A outer s H args us vs Q E hr he hb hv hs => codeAny_mono (F.run A outer s H args us vs Q (fun _ _ _ => False) hr he hb hv (hs cls)) fun r s' h => by
    cases r with
    | ok fl => cases fl <;> exact h
    | error e =>
      obtain ⟨_, _, _, _, _, _, _, _, _, _, _, _, z⟩ := h
      exact z.elim⟩
theorem law_sp {K : PySem.W.Frag} {cls : Str → Addr} {S : FN} {H : Hp} {a : Addr} {ns : List Int} (hO : Only H) (h : SqL K H a (ns.map V.int)) (hS : ∃ om, S [.frz (ns.map D.int)] [] = .ok (.bl true) om) :
    spU (gK K cls) 1 S [.ref a] H (fun v _ => v = .bl true) (fun _ _ _ => False) := by
  obtain ⟨om, hS⟩ := hS
  refine ⟨rfl, fun _ => False, [.frz (ns.map D.int)], [], [], ⟨rfl, fun i c a h1 => by simp at h1, fun i j a ci cj h1 => by simp at h1, fun a h => h.elim⟩, .cons (.frz ?_ RepVs.of_ints) .nil, ?_⟩
  · rcases h with (h | ⟨o, h⟩) | h
    · rcases hO a with q | ⟨o, xs, q⟩
      · rw [h] at q; cases q
      · rw [h] at q; cases q
    · exact .inl ⟨o, h⟩
    · exact .inr h
  · rw [hS]
    intro v H' al' s o r
    cases r
    rfl
/-! ### the evaluator's equations, for simp only -/
section
variable {τ υ : Type} {t : τ} {r : Rho} {o : Om} {x : DX} {d : D} {ds : List D}
theorem bind_ok (f : τ → Rho → Om → Res υ) : (Res.ok t r o).bind f = f t r o := rfl
theorem bind_xc (f : τ → Rho → Om → Res υ) : (Res.xc x r o : Res τ).bind f = .xc x r o := rfl
theorem of_ok (f : τ → Rho → Om → RS) : RS.of (Res.ok t r o) f = f t r o := rfl
theorem of_xc (f : τ → Rho → Om → RS) : RS.of (Res.xc x r o : Res τ) f = .xc x r o := rfl
def RS.seq (s : RS) (v : US) : RS := match s with
  | .nx ρ ω => v ρ ω
  | .bk ρ ω => .bk ρ ω
  | .ct ρ ω => .ct ρ ω
  | .rt d ω => .rt d ω
  | .rto d ω => .rto d ω
  | .xc x ρ ω => .xc x ρ ω
  | .no => .no
theorem sSeq_eq (u v : US) : sSeq u v r o = (u r o).seq v := rfl
theorem seq_nx (v : US) : (RS.nx r o).seq v = v r o := rfl
theorem seq_rt (v : US) : (RS.rt d o).seq v = .rt d o := rfl
theorem seq_rto (v : US) : (RS.rto ds o).seq v = .rto ds o := rfl
theorem seq_xc (v : US) : (RS.xc x r o).seq v = .xc x r o := rfl
theorem seq_bk (v : US) : (RS.bk r o).seq v = .bk r o := rfl
theorem seq_ct (v : US) : (RS.ct r o).seq v = .ct r o := rfl
theorem seq_ite {c : Prop} [Decidable c] (a b : RS) (v : US) : (if c then a else b).seq v = if c then a.seq v else b.seq v := by split <;> rfl
theorem fr_nx : (RS.nx r o).fr = .ok .non o := rfl
theorem fr_rt : (RS.rt d o).fr = .ok d o := rfl
theorem fr_rto : (RS.rto ds o).fr = .ok (.lst ds) o := rfl
theorem fr_xc : (RS.xc x r o).fr = .xc x o := rfl
theorem fo_rto : (RS.rto ds o).fo = .ok (.lst ds) o := rfl
theorem fo_xc : (RS.xc x r o).fo = .xc x o := rfl
theorem res_ok : (FR.ok d o).res r = .ok d r o := rfl
theorem res_xc : (FR.xc x o).res r = .xc x r o := rfl
theorem res0_ok : (FR.ok d o).res0 r = .ok d r o := rfl
theorem own_ok : (FR.ok (.lst ds) o).own r = .ok ds r o := rfl
theorem own_xc : (FR.xc x o).own r = .xc x r o := rfl
theorem liftO_some : liftO (some t) r o = .ok t r o := rfl
theorem dBool_bl {b : Bool} : dBool (.bl b) = some b := rfl
theorem items_lst : dItems (.lst ds) = some ds := rfl
theorem items_frz : dItems (.frz ds) = some ds := rfl
theorem goL_nil (G : UG) (b : US) : goL G b [] r o = .nx r o := rfl
/-- one turn -/
def RS.turn (s : RS) (k : US) : RS := match s with
  | .nx ρ ω => k ρ ω
  | .ct ρ ω => k ρ ω
  | .bk ρ ω => .nx ρ ω
  | .rt d ω => .rt d ω
  | .rto d ω => .rto d ω
  | .xc x ρ ω => .xc x ρ ω
  | .no => .no
theorem turn_nx (v : US) : (RS.nx r o).turn v = v r o := rfl
theorem turn_ct (v : US) : (RS.ct r o).turn v = v r o := rfl
theorem turn_bk (v : US) : (RS.bk r o).turn v = .nx r o := rfl
theorem turn_rt (v : US) : (RS.rt d o).turn v = .rt d o := rfl
theorem turn_rto (v : US) : (RS.rto ds o).turn v = .rto ds o := rfl
theorem turn_xc (v : US) : (RS.xc x r o).turn v = .xc x r o := rfl
theorem goL_cons (G : UG) (b : US) {ρ1 : Rho} (h : G d r = some ρ1) : goL G b (d :: ds) r o = (b ρ1 o).turn (goL G b ds) := by
  simp only [goL, h]
  cases b ρ1 o <;> rfl
theorem sFor_eq (s : UI) (G : UG) (b : US) : sFor s G b r o = RS.of (s r o) fun t r o => goL G b t r o := rfl
theorem goW_succ (c : UT) (b : US) (n : Nat) : goW c b (n + 1) r o = RS.of (c r o) fun k r o => if k = true then (b r o).turn (goW c b n) else .nx r o := by
  simp only [goW]
  congr 1
theorem sWhile_eq (f : Rho → Om → Nat) (c : UT) (b : US) : sWhile f c b r o = goW c b (f r o) r o := rfl
end
theorem atN_zero {α : Type} (x : α) (r : List α) : atN (x :: r) 0 = some x := rfl
theorem atN_one {α : Type} (x y : α) (r : List α) : atN (x :: y :: r) 1 = some y := rfl
theorem atN_two {α : Type} (x y z : α) (r : List α) : atN (x :: y :: z :: r) 2 = some z := rfl
theorem atN_three {α : Type} (x y z w : α) (r : List α) : atN (x :: y :: z :: w :: r) 3 = some w := rfl
theorem divOk_small {i j : Int} (h : j.natAbs < 1073741824) : divOk i j = true := by
  unfold divOk
  rw [PyProof.noPylong_small h]
  rfl
theorem mulOk_r {i j : Int} (h : j.natAbs < 18446744073709551616) : mulOk i j = true := by
  unfold mulOk
  simp [h]
theorem mulOk_l {i j : Int} (h : i.natAbs < 18446744073709551616) : mulOk i j = true := by
  unfold mulOk
  simp [h]
theorem dMul_int {i j : Int} (h : mulOk i j = true) : dMul (.int i) (.int j) = some (.int (i * j)) := by
  show (if mulOk i j = true then some (D.int (i * j)) else none) = _
  rw [if_pos h]
theorem dDiv_int {i j : Int} (h0 : j ≠ 0) (h : divOk i j = true) : dDiv (.int i) (.int j) = some (.int (i.fdiv j)) := by
  show (if j ≠ 0 ∧ divOk i j = true then some (D.int (i.fdiv j)) else none) = _
  rw [if_pos ⟨h0, h⟩]
theorem dDiv_pos {i j : Int} (h0 : 0 < j) (h : j < 1073741824) : dDiv (.int i) (.int j) = some (.int (i / j)) := by
  rw [dDiv_int (by omega) (divOk_small (by omega)), Int.fdiv_eq_ediv_of_nonneg i (by omega)]
theorem dMod_int {i j : Int} (h0 : j ≠ 0) : dMod (.int i) (.int j) = some (.int (i.fmod j)) := by
  show (if j ≠ 0 then some (D.int (i.fmod j)) else none) = _
  rw [if_pos h0]
theorem dMod_pos {i j : Int} (h0 : 0 < j) : dMod (.int i) (.int j) = some (.int (i % j)) := by
  rw [dMod_int (by omega), Int.fmod_eq_emod_of_nonneg i (by omega)]
theorem dAdd_int {i j : Int} : dAdd (.int i) (.int j) = some (.int (i + j)) := rfl
theorem dSub_int {i j : Int} : dSub (.int i) (.int j) = some (.int (i - j)) := rfl
theorem dNeg_int {i : Int} : dNeg (.int i) = some (.int (-i)) := rfl
theorem dLt_int {i j : Int} : dLt (.int i) (.int j) = some (.bl (decide (i < j))) := rfl
theorem dLe_int {i j : Int} : dLe (.int i) (.int j) = some (.bl (decide (i ≤ j))) := rfl
theorem dGt_int {i j : Int} : dGt (.int i) (.int j) = some (.bl (decide (j < i))) := rfl
theorem dGe_int {i j : Int} : dGe (.int i) (.int j) = some (.bl (decide (j ≤ i))) := rfl
theorem dEq_int {i j : Int} : dEq (.int i) (.int j) = some (.bl (decide (i = j))) := rfl
theorem dNe_int {i j : Int} : dNe (.int i) (.int j) = some (.bl (!decide (i = j))) := rfl
theorem dEq_bl {i j : Bool} : dEq (.bl i) (.bl j) = some (.bl (decide (i = j))) := rfl
theorem dNe_bl {i j : Bool} : dNe (.bl i) (.bl j) = some (.bl (!decide (i = j))) := rfl
theorem dEq_nil {xs : List D} : dEq (.lst xs) (.lst []) = some (.bl (decide (xs.length = 0))) := rfl
theorem dNe_nil {xs : List D} : dNe (.lst xs) (.lst []) = some (.bl (!decide (xs.length = 0))) := rfl
theorem dIx_lst {xs : List D} {i : Int} : dIx (.lst xs) (.int i) = atN xs i := rfl
theorem dIx_tup {xs : List D} {i : Int} : dIx (.tup xs) (.int i) = atN xs i := rfl
theorem fAbs_int {i : Int} : fAbs [.int i] = some (.int (if i < 0 then -i else i)) := rfl
theorem fInt_bl {b : Bool} : fInt [.bl b] = some (.int (if b then 1 else 0)) := rfl
theorem fInt_int {i : Int} : fInt [.int i] = some (.int i) := rfl
theorem fLen_lst {xs : List D} : fLen [.lst xs] = some (.int xs.length) := rfl
theorem fLen_frz {xs : List D} : fLen [.frz xs] = some (.int xs.length) := rfl
theorem fLen_tup {xs : List D} : fLen [.tup xs] = some (.int xs.length) := rfl
theorem big_of {n : Nat} (h : n ≤ 1000) : n ≤ big := Nat.le_trans h (by decide)
end Dv
namespace Dv
open PySem PySem.Spec PyProof.Rows L2
theorem setN_zero {x d : D} {r : List D} : setN (x :: r) 0 d = some (d :: r) := rfl
theorem setN_one {x y d : D} {r : List D} : setN (x :: y :: r) 1 d = some (x :: d :: r) := rfl
theorem popAt_zero {x : D} {r : List D} : mPopAt (x :: r) [.int 0] = some (x, r) := rfl
theorem len_zero {α : Type} : decide (([] : List α).length = 0) = true := rfl
theorem len_succ {α : Type} {x : α} {r : List α} : decide ((x :: r).length = 0) = false := rfl
end Dv
namespace Dv
theorem le_big {n : Nat} (h : n ≤ 1000) : (n ≤ big) = True := eq_true (big_of h)
theorem lt_big {n : Nat} (h : n < 1000) : (n < big) = True := eq_true (Nat.lt_of_lt_of_le h (by decide))
end Dv
namespace Dv
theorem dMul_r {i j : Int} (h1 : -18446744073709551616 < j) (h2 : j < 18446744073709551616) : dMul (.int i) (.int j) = some (.int (i * j)) := dMul_int (mulOk_r (by omega))
theorem dMul_l {i j : Int} (h1 : -18446744073709551616 < i) (h2 : i < 18446744073709551616) : dMul (.int i) (.int j) = some (.int (i * j)) := dMul_int (mulOk_l (by omega))
end Dv

namespace Dv
open PySem PySem.Spec PyProof.Rows L2

/-! ### another caught exception -/
section
variable {K : PySem.W.Frag} {c : Str → Addr} {e e' : Option (Nat × Addr × Str)} {al : List Addr} {L : Addr → Prop} {H : Hp}
mutual
theorem RepV.conv : ∀ {v : V} {d : D}, RepV ⟨K, c, e⟩ al L H v d → RepV ⟨K, c, e'⟩ al L H v d
  | _, _, .non => .non
  | _, _, .bl => .bl
  | _, _, .int => .int
  | _, _, .str => .str
  | _, _, .tup h r => .tup h (RepVs.conv r)
  | _, _, .lst h n r => .lst h n (RepVs.conv r)
  | _, _, .frz h r => .frz h (RepVs.conv r)
  | _, _, .obj h n r => .obj h n (RepFs.conv r)
  | _, _, .loc h => .loc h
theorem RepVs.conv : ∀ {vs : List V} {ds : List D}, RepVs ⟨K, c, e⟩ al L H vs ds → RepVs ⟨K, c, e'⟩ al L H vs ds
  | _, _, .nil => .nil
  | _, _, .cons h r => .cons (RepV.conv h) (RepVs.conv r)
theorem RepFs.conv : ∀ {vs : List (Str × V)} {ds : List (Str × D)}, RepFs ⟨K, c, e⟩ al L H vs ds → RepFs ⟨K, c, e'⟩ al L H vs ds
  | _, _, .nil => .nil
  | _, _, .cons h r => .cons (RepV.conv h) (RepFs.conv r)
end
theorem CellR.conv {a : Addr} : ∀ {x : Cell}, CellR ⟨K, c, e⟩ al L H a x → CellR ⟨K, c, e'⟩ al L H a x
  | .gone, _ => trivial
  | .lst _, ⟨vs, h, r⟩ => ⟨vs, h, r.conv⟩
  | .ins _ _, ⟨dx, fvs, h, r⟩ => ⟨dx, fvs, h, r.conv⟩
theorem Rst.conv {R : Addr → Prop} {σ : St} {ρ : Rho} {om : Om} (S : Rst ⟨K, c, e⟩ R al σ ρ om H) (sl : Sle ⟨K, c, e'⟩ σ ρ) : Rst ⟨K, c, e'⟩ R al σ ρ om H :=
  ⟨⟨S.o.len, fun i x a h1 h2 => (S.o.cel i x a h1 h2).conv, S.o.inj, S.o.rsv⟩, sl, fun i d h => let ⟨v, h1, h2⟩ := S.val i d h; ⟨v, h1, h2.conv⟩, fun i ds h => let ⟨a, vs, h1, h2, h3⟩ := S.own i ds h; ⟨a, vs, h1, h2, h3.conv⟩, S.odj, S.ocl⟩
end
section
variable {g : G} {R : Addr → Prop} {al al' : List Addr} {om om' : Om} {σ σ' : St} {ρ ρ' : Rho} {H H' : Hp} {W : WX} {X : Cx} {M M' : Addr → Prop} {i : Nat} {a : Addr}
/-- slots that hold nothing of note may differ -/
theorem Rst.forget (S : Rst g R al σ ρ om H) (i : Nat) (w : Option V) : Rst g R al (σ.set i w) (ρ.set i none) om H ∧ Step al (Mt al om σ ρ) H al (Mt al om (σ.set i w) (ρ.set i none)) H := by
  have f : ∀ {j : Nat} {s : Sl}, (ρ.set i none)[j]? = some (some s) → j ≠ i ∧ ρ[j]? = some (some s) := fun {j s} h => by
    rcases getset h with ⟨rfl, q⟩ | ⟨n, q⟩
    · cases q
    · exact ⟨n, q⟩
  have fs : ∀ {j : Nat}, j ≠ i → (σ.set i w)[j]? = σ[j]? := fun n => by rw [List.getElem?_set_ne (Ne.symm n)]
  have sub : ∀ b, OwnA (σ.set i w) (ρ.set i none) b → OwnA σ ρ b := fun b ⟨j, dj, h1, h2⟩ => ⟨j, dj, (f h1).2, by rw [fs (f h1).1] at h2; exact h2⟩
  have st : Step al (Mt al om σ ρ) H al (Mt al om (σ.set i w) (ρ.set i none)) H := .grow (fun b o h n => h) fun b m => by
    rcases m with m | m
    · exact .inl (.inl m)
    · exact .inl (.inr (sub b m))
  refine ⟨S.chg st (fun b h => rfl) (S.sl.set2 fun _ z => nomatch z) (fun b h => (S.o.rsv b h).2) (fun j d h => ?_) (fun j dj h => ?_) (fun j k b dj dk h1 h2 h3 h4 => ?_) (fun b h => S.ocl b (sub b h)), st⟩
  · exact .inl ⟨(f h).2, fs (f h).1⟩
  · exact .inl ⟨(f h).2, fs (f h).1, fun _ _ => rfl⟩
  · rw [fs (f h1).1] at h3
    rw [fs (f h2).1] at h4
    exact S.odj j k b _ _ (f h1).2 (f h2).2 h3 h4
/-- the caught one in its slot -/
theorem Rst.caught {K : PySem.W.Frag} {c : Str → Addr} (S : Rst ⟨K, c, none⟩ R al σ ρ om H) (i : Nat) (a : Addr) (x : DX) :
    Rst ⟨K, c, some (i, a, x.c)⟩ R al (σ.set i (some (.ref a))) (ρ.set i (some (.exc x))) om H ∧ Step al (Mt al om σ ρ) H al (Mt al om (σ.set i (some (.ref a))) (ρ.set i (some (.exc x)))) H := by
  obtain ⟨S1, s1⟩ := S.forget i (some (.ref a))
  have f : ∀ {j : Nat}, (∀ d, (ρ.set i (some (.exc x)))[j]? = some (some (.val d)) → (ρ.set i none)[j]? = some (some (.val d))) ∧ ∀ d, (ρ.set i (some (.exc x)))[j]? = some (some (.own d)) → (ρ.set i none)[j]? = some (some (.own d)) := fun {j} => by
    constructor <;> intro d h <;>
    · rcases getset h with ⟨rfl, q⟩ | ⟨n, q⟩
      · cases q
      · rw [List.getElem?_set_ne (Ne.symm n)]; exact q
  have sub : ∀ b, OwnA (σ.set i (some (.ref a))) (ρ.set i (some (.exc x))) b → OwnA (σ.set i (some (.ref a))) (ρ.set i none) b := fun b ⟨j, dj, h1, h2⟩ => ⟨j, dj, f.2 _ h1, h2⟩
  have st : Step al (Mt al om σ ρ) H al (Mt al om (σ.set i (some (.ref a))) (ρ.set i (some (.exc x)))) H := s1.trans (.grow (fun b o h n => h) fun b m => by
    rcases m with m | m
    · exact .inl (.inl m)
    · exact .inl (.inr (sub b m)))
  have ll : ∀ b, LL R al om (σ.set i (some (.ref a))) (ρ.set i (some (.exc x))) b → LL R al om (σ.set i (some (.ref a))) (ρ.set i none) b := fun b m => by
    rcases m with (m | m) | m
    · exact .inl (.inl m)
    · exact .inl (.inr (sub b m))
    · exact .inr m
  have cr : Car (⟨K, c, none⟩ : G) al (LL R al om (σ.set i (some (.ref a))) (ρ.set i none)) H al (LL R al om (σ.set i (some (.ref a))) (ρ.set i (some (.exc x)))) H := carL ll
  refine ⟨⟨⟨S1.o.len, fun j y b h1 h2 => ((S1.o.cel j y b h1 h2).car cr (fun _ e _ => e) (fun _ _ _ e _ => e)).conv, S1.o.inj, S1.o.rsv⟩, ⟨?_, fun j b m y e q => ?_⟩, fun j d h => ?_, fun j ds h => ?_, fun j k b dj dk h1 h2 => S1.odj j k b dj dk (f.2 _ h1) (f.2 _ h2), fun b h => S1.ocl b (sub b h)⟩, st⟩
  · have := S1.sl.len
    rw [List.length_set] at this ⊢
    rw [this, List.length_set, List.length_set]
  · cases e
    have := List.getElem?_eq_some_iff.mp q
    obtain ⟨hl, _⟩ := this
    have e2 := S.sl.len
    rw [List.length_set] at hl
    rw [List.getElem?_set_self hl] at q
    cases q
    refine ⟨?_, rfl⟩
    rw [List.getElem?_set_self]
    omega
  · obtain ⟨v, h1, h2⟩ := S1.val j d (f.1 _ h)
    exact ⟨v, h1, (h2.car cr).conv⟩
  · obtain ⟨b, vs, h1, h2, h3⟩ := S1.own j ds (f.2 _ h)
    exact ⟨b, vs, h1, h2, (h3.car cr).conv⟩
/-- .. and gone -/
theorem Rst.uncaught {K : PySem.W.Frag} {c : Str → Addr} {m : Str} (S : Rst ⟨K, c, some (i, a, m)⟩ R al σ ρ om H) : Rst ⟨K, c, none⟩ R al (σ.set i none) (ρ.set i none) om H ∧ Step al (Mt al om σ ρ) H al (Mt al om (σ.set i none) (ρ.set i none)) H := by
  obtain ⟨S1, s1⟩ := S.forget i none
  exact ⟨S1.conv ⟨S1.sl.len, fun _ _ _ _ e => nomatch e⟩, s1⟩
/-! ### exceptions raised and caught -/
/-- what is known of the classes c: whether each is a sub class of cv -/
def KnOk (K : PySem.W.Frag) (cls : Str → Addr) (cv : Value) : List (Str × Bool) → Prop
  | [] => True
  | (c, b) :: r => PySem.W.subIn K (.ref (cls c)) cv = some b ∧ KnOk K cls cv r
theorem KnOk.get {K : PySem.W.Frag} {cls : Str → Addr} {cv : Value} : ∀ {l : List (Str × Bool)}, KnOk K cls cv l → ∀ {c : Str} {b : Bool}, l.lookup c = some b → PySem.W.subIn K (.ref (cls c)) cv = some b
  | [], _, _, _, h => by cases h
  | (c', b') :: r, h, c, b, e => by
    by_cases q : (c == c') = true
    · simp [List.lookup, q] at e
      subst e
      rw [beq_iff_eq.mp q]
      exact h.1
    · simp only [Bool.not_eq_true] at q
      simp [List.lookup, q] at e
      exact h.2.get e
theorem KnOk.nil {K : PySem.W.Frag} {cls : Str → Addr} {cv : Value} : KnOk K cls cv [] := trivial
theorem KnOk.cons {K : PySem.W.Frag} {cls : Str → Addr} {cv : Value} {c : Str} {b : Bool} {r : List (Str × Bool)} (h : PySem.W.subIn K (.ref (cls c)) cv = some b) (hr : KnOk K cls cv r) : KnOk K cls cv ((c, b) :: r) := ⟨h, hr⟩
/-- an own class of exceptions -/
structure ExF (K : PySem.W.Frag) (mg : Str → Option Value) (cls : Str → Addr) (n : Str) : Prop where
  g : mg n = some (.ref (cls n))
  k : PySem.W.keepIn K (.ref (cls n)) = true
  b : PySem.W.subIn K (.ref (cls n)) (.type "BaseException") = some true
  t : PySem.W.typeIn K (.ref (cls n)) = some (.type "type")
  i : PySem.W.isClsIn K (cls n) = true
/-- .. without an own __init__ -/
structure ExM (K : PySem.W.Frag) (mg : Str → Option Value) (cls : Str → Addr) (n : Str) : Prop extends ExF K mg cls n where
  x : PySem.W.excIn K (cls n) [.type "ValueError", .type "Exception", .type "BaseException", .type "object"] "ValueError.__new__" = true
theorem ExF.exm {K : PySem.W.Frag} {mg : Str → Option Value} {cls : Str → Addr} {n : Str} (F : ExF K mg cls n) {cv : Value} {b : Bool} (h : PySem.W.subIn K cv (.ref (cls n)) = some b) : PySem.W.exmOne K cv (.ref (cls n)) = some b := by
  have e1 : (PySem.W.subIn K (.ref (cls n)) (.type "BaseException") == some true) = true := by rw [F.b] <;> rfl
  have e2 : ((PySem.W.clsIn K (cls n)).isSome && PySem.W.typeIn K (.ref (cls n)) == some (.type "type")) = true := by
    have h2' : (PySem.W.clsIn K (cls n)).isSome = true := F.i
    rw [h2', F.t] <;> rfl
  show (if (PySem.W.subIn K (.ref (cls n)) (.type "BaseException") == some true) = true then (if ((PySem.W.clsIn K (cls n)).isSome && PySem.W.typeIn K (.ref (cls n)) == some (.type "type")) = true then PySem.W.subIn K cv (.ref (cls n)) else none) else none) = some b
  rw [if_pos e1, if_pos e2]
  exact h
theorem ps_raiseU {x m : Str} {j : Nat} {p p2 pos pos' : Pos} (F : ExM X.K X.mg g.cls x) (hc : X.calm = true) (tk : Takes X W) (hg : Gl X x) (hdb : (x == ("__debug__" : Str)) = false := by decide) : PS X (.Raise (some (.Call (.Name x p) [.Constant (.str m) j p2] [] pos)) none pos') (tS g W (sRaise ⟨x, []⟩)) :=
  psImp (ps_raise hc tk (pmk_own PySem.F.excBase_ValueError F.x F.g F.k (raises_own F.b F.t) hg hdb)) fun D σ H ⟨R, ρ, om, al, S, P⟩ => P (.ref (g.cls x)) none σ H al .refl S ⟨rfl, .inl ⟨rfl, rfl⟩⟩
/-- what follows an except suite -/
def RS.clr (i : Nat) : RS → RS
  | .nx r o => .nx (r.set i none) o
  | .bk r o => .bk (r.set i none) o
  | .ct r o => .ct (r.set i none) o
  | .rt d o => .rt d o
  | .rto d o => .rto d o
  | _ => .no
def sTryAs (i : Nat) (kn : List (Str × Bool)) (b h : US) : US := fun ρ ω => match b ρ ω with
  | .xc x ρ ω => match kn.lookup x.c with
    | some true => if x.fs.isEmpty then (h (ρ.set i (some (.exc x))) ω).clr i else .no
    | some false => .xc x ρ ω
    | none => .no
  | r => r
def RS.cln : RS → RS
  | .xc _ _ _ => .no
  | r => r
def sTry (kn : List (Str × Bool)) (b h : US) : US := fun ρ ω => match b ρ ω with
  | .xc x ρ ω => match kn.lookup x.c with
    | some true => (h ρ ω).cln
    | some false => .xc x ρ ω
    | none => .no
  | r => r
abbrev WF : WX := fun _ _ _ _ => False
variable {x n : Str} {body suite : List Stmt} {b₀ : Stmt} {np pos pos' : Pos} {ub us : US} {kn : List (Str × Bool)} {K : PySem.W.Frag} {cls : Str → Addr}
theorem ps_tryAsU (i : Nat) (hs : X.stack = X.env :: X.outer) (hf : X.env.frame = some X.env.locals) (hN : X.N.Nodup) (hi : X.N[i]? = some n) (hln : X.env.kindOf n = some .local) (hK : X.K = K) (F : ExF X.K X.mg cls x) (kn : List (Str × Bool)) (hkn : KnOk X.K cls (.ref (cls x)) kn) (hg : Gl X x) (tk : Takes X W)
    (hb : ∀ (W : WX) (pn : List (Addr × Obj)) (xe : Value → Shared → Prop), Takes (X.tr pn xe) W → PassesOwn (model X.prog X.w) X.A X.env xe → PSs (X.tr pn xe) body (tS (gK K cls) W ub))
    (hsu : ∀ (a : Addr) (oe : Obj) (c : Str) (pn : List (Addr × Obj)), Zc (.ref (cls c)) none oe → (∃ vs, oe.data = .fields vs) → kn.lookup c = some true → PSs (X.suite a ((a, oe) :: pn)) (b₀ :: suite) (tS ⟨K, cls, some (i, a, c)⟩ WF us))
    (hdb : (x == ("__debug__" : Str)) = false := by decide) :
    PS X (.Try body [.ExceptHandler (some (.Name x np)) (some n) (b₀ :: suite) pos'] [] [] pos) (tS (gK K cls) W (sTryAs i kn ub us)) := by
  refine psImp (ps_try_as (i := i) (tb := fun W => tS (gK K cls) W ub) (ts := fun a cv d D σ H => ∃ c, cv = .ref (cls c) ∧ kn.lookup c = some true ∧ d = none ∧ tS ⟨K, cls, some (i, a, c)⟩ WF us D σ H) (Wout := W) (c := .ref (cls x)) hs hf hN hi hln ⟨hg, hdb, .inl F.g⟩ tk hb (fun a oe cv d pn hz hd => ⟨fun pins s σ H D I h => ?_⟩)) ?_
  · obtain ⟨c, rfl, hl, rfl, h⟩ := h
    exact (hsu a oe c pn hz hd hl).run pins s σ H D I h
  · intro D σ H ⟨R, ρ, om, al, S, P⟩
    refine ⟨R, ρ, om, al, S, ?_⟩
    unfold sTryAs at P
    cases e : ub ρ om with
    | nx ρ' om' => rw [e] at P; exact P
    | bk ρ' om' => rw [e] at P; exact P
    | ct ρ' om' => rw [e] at P; exact P
    | rt d om' => rw [e] at P; exact P
    | rto d om' => rw [e] at P; exact P
    | no => rw [e] at P; exact P
    | xc y ρ' om' =>
      rw [e] at P
      dsimp only at P
      intro cv dd σ1 H1 al1 s1 S1 r1
      cases el : kn.lookup y.c with
      | none => rw [el] at P; exact P.elim
      | some b =>
        rw [el] at P
        refine ⟨b, ?_, fun hb1 a ha => ?_, fun hb1 => ?_⟩
        · rw [r1.1]; exact F.exm (hkn.get el)
        · subst hb1
          dsimp only at P
          split at P
          · rename_i he
            have hd : dd = none := by
              rcases r1.2 with q | ⟨_, _, _, q, _⟩
              · exact q.2
              · exact absurd (List.isEmpty_iff.mp he) q
            refine ⟨y.c, r1.1, el, hd, ?_⟩
            obtain ⟨S2, s2⟩ := S1.caught i a y
            refine ⟨R, _, om', al1, S2, ?_⟩
            cases eh : us (ρ'.set i (some (.exc y))) om' with
            | nx ρ3 om3 =>
              rw [eh] at P
              intro σ3 H3 al3 s3 S3
              obtain ⟨S4, s4⟩ := S3.uncaught
              exact P _ H3 al3 (s1.trans (s2.trans (s3.trans s4))) S4
            | bk ρ3 om3 =>
              rw [eh] at P
              intro σ3 H3 al3 s3 S3
              obtain ⟨S4, s4⟩ := S3.uncaught
              exact P _ H3 al3 (s1.trans (s2.trans (s3.trans s4))) S4
            | ct ρ3 om3 =>
              rw [eh] at P
              intro σ3 H3 al3 s3 S3
              obtain ⟨S4, s4⟩ := S3.uncaught
              exact P _ H3 al3 (s1.trans (s2.trans (s3.trans s4))) S4
            | rt d om3 =>
              rw [eh] at P
              intro v σ3 ρ3 H3 al3 s3 S3 r3
              obtain ⟨S4, s4⟩ := S3.uncaught
              refine P v _ _ H3 al3 (s1.trans (s2.trans (s3.trans s4))) S4 ?_
              exact (s4.rep S3 r3).conv
            | rto d om3 =>
              rw [eh] at P
              intro p vs σ3 ρ3 H3 al3 s3 S3 hp1 hp2 r3
              obtain ⟨S4, s4⟩ := S3.uncaught
              refine P p vs _ _ H3 al3 (s1.trans (s2.trans (s3.trans ⟨s4.ext, fun b u h n => s4.keep b u h fun m => n (.inl m), fun b m => ?_⟩))) S4 hp1 hp2 ?_
              · rcases m with m | m
                · exact (s4.fresh b m).imp .inl id
                · exact .inl (.inr m)
              · exact (s4.reps S3 r3).conv
            | xc _ _ _ => rw [eh] at P; exact P.elim
            | no => rw [eh] at P; exact P.elim
          · exact P.elim
        · subst hb1
          exact P cv dd σ1 H1 al1 s1 S1 r1
theorem ps_tryU (hs : X.stack = X.env :: X.outer) (hf : X.env.frame = some X.env.locals) (hK : X.K = K) (F : ExF X.K X.mg cls x) (kn : List (Str × Bool)) (hkn : KnOk X.K cls (.ref (cls x)) kn) (hg : Gl X x) (tk : Takes X W)
    (hb : ∀ (W : WX) (pn : List (Addr × Obj)) (xe : Value → Shared → Prop), Takes (X.tr pn xe) W → PassesOwn (model X.prog X.w) X.A X.env xe → PSs (X.tr pn xe) body (tS (gK K cls) W ub))
    (hsu : ∀ (a : Addr) (oe : Obj) (pn : List (Addr × Obj)), PSs (X.suite a ((a, oe) :: pn)) (b₀ :: suite) (tS (gK K cls) WF us))
    (hdb : (x == ("__debug__" : Str)) = false := by decide) :
    PS X (.Try body [.ExceptHandler (some (.Name x np)) none (b₀ :: suite) pos'] [] [] pos) (tS (gK K cls) W (sTry kn ub us)) := by
  refine psImp (ps_try_only (tb := fun W => tS (gK K cls) W ub) (ts := fun a cv d => tS (gK K cls) WF us) (Wout := W) (c := .ref (cls x)) hs hf ⟨hg, hdb, .inl F.g⟩ tk hb (fun a oe cv d pn hz hd => hsu a oe pn)) ?_
  intro D σ H ⟨R, ρ, om, al, S, P⟩
  refine ⟨R, ρ, om, al, S, ?_⟩
  unfold sTry at P
  cases e : ub ρ om with
  | nx ρ' om' => rw [e] at P; exact P
  | bk ρ' om' => rw [e] at P; exact P
  | ct ρ' om' => rw [e] at P; exact P
  | rt d om' => rw [e] at P; exact P
  | rto d om' => rw [e] at P; exact P
  | no => rw [e] at P; exact P
  | xc y ρ' om' =>
    rw [e] at P
    dsimp only at P
    intro cv dd σ1 H1 al1 s1 S1 r1
    cases el : kn.lookup y.c with
    | none => rw [el] at P; exact P.elim
    | some b =>
      rw [el] at P
      refine ⟨b, ?_, fun hb1 a ha => ?_, fun hb1 => ?_⟩
      · rw [r1.1]; exact F.exm (hkn.get el)
      · subst hb1
        refine ⟨R, _, om', al1, S1, ?_⟩
        have P' := PostS.step s1 P
        dsimp only at P'
        cases eh : us ρ' om' with
        | nx ρ3 om3 => rw [eh] at P'; exact P'
        | bk ρ3 om3 => rw [eh] at P'; exact P'
        | ct ρ3 om3 => rw [eh] at P'; exact P'
        | rt d om3 => rw [eh] at P'; exact P'
        | rto d om3 => rw [eh] at P'; exact P'
        | xc _ _ _ => rw [eh] at P'; exact P'.elim
        | no => rw [eh] at P'; exact P'.elim
      · subst hb1
        exact P cv dd σ1 H1 al1 s1 S1 r1
variable {e : Expr}
/-- isinstance(n, C), n the caught one in slot i -/
def uIsE (i : Nat) (kn : List (Str × Bool)) : UE := fun ρ ω => match ρ[i]? with
  | some (some (.exc x)) => match kn.lookup x.c with
    | some b => .ok (.bl b) ρ ω
    | none => .no
  | _ => .no
theorem kit_of {cv : Value} {b : Bool} {c : Value} (h : PySem.W.subIn K c cv = some b) (hc : PySem.W.kitCls K c cv = PySem.W.subIn K c cv) (hs : PySem.W.subIn K c c = some true) : PySem.W.kitOne K c cv = some b := by
  unfold PySem.W.kitOne
  split
  · rename_i q
    rw [← beq_iff_eq.mp q, hs] at h
    exact h
  · rw [hc]; exact h
theorem pu_isE (i : Nat) (kn : List (Str × Bool)) {a : Addr} {oe : Obj} {c C m : Str} {pn : List (Addr × Obj)} {cv : Value} {vc : V} {p p1 p2 pos : Pos} (hz : Zc (.ref (cls c)) none oe) (hf : ∃ vs, oe.data = .fields vs) (EC : ExcC X.K (cls c)) (hs : PySem.W.subIn X.K (.ref (cls c)) (.ref (cls c)) = some true)
    (hkn : KnOk X.K cls cv kn) (hkc : ∀ t, PySem.W.kitCls X.K t cv = PySem.W.subIn X.K t cv) (hcv : ∀ u, RelV vc u → u = cv) (m1 : X.mg "isinstance" = none) (hg : Gl X "isinstance")
    (hN : X.N[i]? = some m) (hv : Vis X.env.scope m) (hC : PE (X.suite a ((a, oe) :: pn)) (.Name C p2) (tC vc))
    (hd : (m == ("__debug__" : Str)) = false := by decide) (hcd : (m == ("__classdict__" : Str)) = false := by decide) :
    PE (X.suite a ((a, oe) :: pn)) (.Call (.Name "isinstance" p) [.Name m p1, .Name C p2] [] pos) (tE ⟨K, cls, some (i, a, c)⟩ W (uIsE i kn)) := by
  refine peImp (pe_callB (X := X.suite a ((a, oe) :: pn)) (call_isE EC hz hf) hg m1 (by decide +kernel) (pa_cons (X := X.suite a ((a, oe) :: pn)) (pe_var hN hv hd hcd) (pa_cons (X := X.suite a ((a, oe) :: pn)) hC pa_nil))) fun σ H Q ⟨R, ρ, om, al, S, P⟩ => ?_
  unfold uIsE at P
  split at P
  · rename_i x hx
    obtain ⟨h1, h2⟩ := S.sl.exc i a c x rfl hx
    split at P
    · rename_i b hb
      refine ⟨_, h1, vc, cv, b, rfl, hcv, ?_, P _ H al .refl S .bl⟩
      refine kit_of (hkn.get (by rw [← h2]; exact hb)) (hkc _) hs
    · exact P.elim
  · exact P.elim
theorem kitCls_ref {C : Addr} (h2 : PySem.W.isClsIn K C = true) (h3 : PySem.W.typeIn K (.ref C) = some (.type "type")) (t : Value) : PySem.W.kitCls K t (.ref C) = PySem.W.subIn K t (.ref C) := by
  have e2 : ((PySem.W.clsIn K C).isSome && PySem.W.typeIn K (.ref C) == some (.type "type")) = true := by
    have h2' : (PySem.W.clsIn K C).isSome = true := h2
    rw [h2', h3] <;> rfl
  show (if ((PySem.W.clsIn K C).isSome && PySem.W.typeIn K (.ref C) == some (.type "type")) = true then PySem.W.subIn K t (.ref C) else none) = _
  rw [if_pos e2]
theorem kitCls_type {T : String} (h : PySem.W.kitMeta T = true) (t : Value) : PySem.W.kitCls K t (.type T) = PySem.W.subIn K t (.type T) := by
  show (if PySem.W.kitMeta T = true then PySem.W.subIn K t (.type T) else none) = _
  rw [if_pos h]
theorem pu_isEO (i : Nat) (kn : List (Str × Bool)) {a : Addr} {oe : Obj} {c C m : Str} {pn : List (Addr × Obj)} {p p1 p2 pos : Pos} (hz : Zc (.ref (cls c)) none oe) (hf : ∃ vs, oe.data = .fields vs) (EC : ExcC X.K (cls c) ∧ PySem.W.subIn X.K (.ref (cls c)) (.ref (cls c)) = some true)
    (hkn : KnOk X.K cls (.ref (cls C)) kn) (F : ExF X.K X.mg cls C) (m1 : X.mg "isinstance" = none) (hg : Gl X "isinstance") (hgC : Gl X C)
    (hN : X.N[i]? = some m) (hv : Vis X.env.scope m) (hd : (m == ("__debug__" : Str)) = false := by decide) (hcd : (m == ("__classdict__" : Str)) = false := by decide) (hdC : (C == ("__debug__" : Str)) = false := by decide) :
    PE (X.suite a ((a, oe) :: pn)) (.Call (.Name "isinstance" p) [.Name m p1, .Name C p2] [] pos) (tE ⟨K, cls, some (i, a, c)⟩ W (uIsE i kn)) :=
  pu_isE (vc := .ref (cls C)) i kn hz hf EC.1 EC.2 hkn (kitCls_ref F.i F.t) (fun _ h => h) m1 hg hN hv (pe_glob (X := X.suite a ((a, oe) :: pn)) hgC F.g rfl hdC) hd hcd
theorem pu_isEV (i : Nat) (kn : List (Str × Bool)) {a : Addr} {oe : Obj} {c m : Str} {pn : List (Addr × Obj)} {p p1 p2 pos : Pos} (hz : Zc (.ref (cls c)) none oe) (hf : ∃ vs, oe.data = .fields vs) (EC : ExcC X.K (cls c) ∧ PySem.W.subIn X.K (.ref (cls c)) (.ref (cls c)) = some true)
    (hkn : KnOk X.K cls (.type "ValueError") kn) (mV : X.mg "ValueError" = none) (m1 : X.mg "isinstance" = none) (hg : Gl X "isinstance") (hgC : Gl X "ValueError")
    (hN : X.N[i]? = some m) (hv : Vis X.env.scope m) (hd : (m == ("__debug__" : Str)) = false := by decide) (hcd : (m == ("__classdict__" : Str)) = false := by decide) :
    PE (X.suite a ((a, oe) :: pn)) (.Call (.Name "isinstance" p) [.Name m p1, .Name "ValueError" p2] [] pos) (tE ⟨K, cls, some (i, a, c)⟩ W (uIsE i kn)) :=
  pu_isE (vc := .ty "ValueError") i kn hz hf EC.1 EC.2 hkn (kitCls_type (by decide +kernel)) (fun _ h => h) m1 hg hN hv (pe_bltn (X := X.suite a ((a, oe) :: pn)) hgC mV (by decide +kernel) rfl) hd hcd
/-! ### the facts of the top -/
def EcOk (K : PySem.W.Frag) (cls : Str → Addr) : List (Str × Bool) → Prop
  | [] => True
  | (c, b) :: r => (b = true → ExcC K (cls c) ∧ PySem.W.subIn K (.ref (cls c)) (.ref (cls c)) = some true) ∧ EcOk K cls r
theorem EcOk.nil {K : PySem.W.Frag} {cls : Str → Addr} : EcOk K cls [] := trivial
theorem EcOk.cons {K : PySem.W.Frag} {cls : Str → Addr} {c : Str} {r : List (Str × Bool)} (h : ExcC K (cls c) ∧ PySem.W.subIn K (.ref (cls c)) (.ref (cls c)) = some true) (hr : EcOk K cls r) : EcOk K cls ((c, true) :: r) := ⟨fun _ => h, hr⟩
theorem EcOk.skip {K : PySem.W.Frag} {cls : Str → Addr} {c : Str} {r : List (Str × Bool)} (hr : EcOk K cls r) : EcOk K cls ((c, false) :: r) := ⟨fun z => (nomatch z), hr⟩
theorem EcOk.get {K : PySem.W.Frag} {cls : Str → Addr} : ∀ {l : List (Str × Bool)}, EcOk K cls l → ∀ {c : Str}, l.lookup c = some true → ExcC K (cls c) ∧ PySem.W.subIn K (.ref (cls c)) (.ref (cls c)) = some true
  | [], _, _, h => by cases h
  | (c', b') :: r, h, c, e => by
    by_cases q : (c == c') = true
    · simp [List.lookup, q] at e
      subst e
      rw [beq_iff_eq.mp q]
      exact h.1 rfl
    · simp only [Bool.not_eq_true] at q
      simp [List.lookup, q] at e
      exact h.2.get e
def clsOf (mg : Str → Option Value) : Str → Addr := fun x => match mg x with | some (.ref a) => a | _ => 0
theorem clsOf_eq {mg : Str → Option Value} {x : Str} {a : Addr} (h : mg x = some (.ref a)) : clsOf mg x = a := by unfold clsOf; rw [h]
section
variable {h : Heap} {mg : Str → Option Value} {n c C : Str} {A B : Addr}
theorem exf_mk (X : K.In h) (G : h.Ns mainGlobals mg) (a : PySem.W.nsIn K mainGlobals n = some (some (.ref A))) (k : PySem.W.keepIn K (.ref A) = true) (b : PySem.W.subIn K (.ref A) (.type "BaseException") = some true) (t : PySem.W.typeIn K (.ref A) = some (.type "type")) (i : PySem.W.isClsIn K A = true) : ExF K mg (clsOf mg) n := by
  have e := clsOf_eq (PySem.W.mg_of X G a)
  exact ⟨by rw [e]; exact PySem.W.mg_of X G a, by rw [e]; exact k, by rw [e]; exact b, by rw [e]; exact t, by rw [e]; exact i⟩
theorem exm_mk (X : K.In h) (G : h.Ns mainGlobals mg) (a : PySem.W.nsIn K mainGlobals n = some (some (.ref A))) (k : PySem.W.keepIn K (.ref A) = true) (b : PySem.W.subIn K (.ref A) (.type "BaseException") = some true) (t : PySem.W.typeIn K (.ref A) = some (.type "type")) (i : PySem.W.isClsIn K A = true)
    (x : PySem.W.excIn K A [.type "ValueError", .type "Exception", .type "BaseException", .type "object"] "ValueError.__new__" = true) : ExM K mg (clsOf mg) n :=
  ⟨exf_mk X G a k b t i, by rw [clsOf_eq (PySem.W.mg_of X G a)]; exact x⟩
theorem sub_mk {b' : Bool} (X : K.In h) (G : h.Ns mainGlobals mg) (a : PySem.W.nsIn K mainGlobals c = some (some (.ref A))) (b : PySem.W.nsIn K mainGlobals C = some (some (.ref B))) (s : PySem.W.subIn K (.ref A) (.ref B) = some b') : PySem.W.subIn K (.ref (clsOf mg c)) (.ref (clsOf mg C)) = some b' := by
  rw [clsOf_eq (PySem.W.mg_of X G a), clsOf_eq (PySem.W.mg_of X G b)]
  exact s
theorem subT_mk {b' : Bool} {T : String} (X : K.In h) (G : h.Ns mainGlobals mg) (a : PySem.W.nsIn K mainGlobals c = some (some (.ref A))) (s : PySem.W.subIn K (.ref A) (.type T) = some b') : PySem.W.subIn K (.ref (clsOf mg c)) (.type T) = some b' := by
  rw [clsOf_eq (PySem.W.mg_of X G a)]
  exact s
theorem ec_mk (X : K.In h) (G : h.Ns mainGlobals mg) (a : PySem.W.nsIn K mainGlobals c = some (some (.ref A))) (s : PySem.W.subIn K (.ref A) (.ref A) = some true)
    (h1 : PySem.W.findIn K (.ref A) "__getattribute__" = some (some (.builtin "BaseException.__getattribute__"))) (h2 : PySem.W.findIn K (.ref A) "__getattr__" = some none) (h3 : PySem.W.subIn K (.ref A) (.type "BaseException") = some true) (h4 : PySem.W.hasDictIn K A = true)
    (h5 : PySem.W.findIn K (.ref A) "__class__" = some (some (.builtin "object.__class__"))) (h6 : PySem.W.specialIn K (.builtin "object.__class__") "__get__" = some (some (.builtin "getset_descriptor.__get__"))) (h7 : PySem.W.takesIn K (.builtin "object.__class__") = some true) (h8 : PySem.W.mroIn K A (.type "object") = some true) :
    ExcC K (clsOf mg c) ∧ PySem.W.subIn K (.ref (clsOf mg c)) (.ref (clsOf mg c)) = some true := by
  rw [clsOf_eq (PySem.W.mg_of X G a)]
  exact ⟨⟨h1, h2, h3, h4, h5, h6, h7, h8⟩, s⟩
end
end
end Dv

namespace Dv
open PySem PySem.Spec PyProof.Rows L2
section
variable {g : G} {R : Addr → Prop} {al al' : List Addr} {om om' : Om} {σ σ' : St} {ρ ρ' : Rho} {H H' : Hp} {W : WX} {X : Cx} {M M' L : Addr → Prop} {i : Nat} {a p : Addr} {e : Expr} {x : Str} {pos p2 : Pos} {d : D} {lo hi : Option Expr}
/-! ### a module's constants -/
/-- the name x of the module stands for d -/
def ConstOk (K : PySem.W.Frag) (mg : Str → Option Value) (x : Str) (d : D) : Prop := ∃ v u, mg x = some u ∧ RelV v u ∧ ∀ (cls : Str → Addr) (ex : Option (Nat × Addr × Str)) (al : List Addr) (L : Addr → Prop) (H : Hp), RepV ⟨K, cls, ex⟩ al L H v d
theorem pu_globC (hK : X.K = g.K) (h : ConstOk X.K X.mg x d) (hg : Gl X x := by rfl) (hd : (x == ("__debug__" : Str)) = false := by decide) : PE X (.Name x pos) (tE g W (uC d)) := by
  obtain ⟨v, u, hm, r, hr⟩ := h
  refine peImp (pe_glob hg hm r hd) fun σ H Q ⟨R, ρ, om, al, S, P⟩ => ?_
  exact P v H al .refl S (by
    have := hr g.cls g.ex al (LL R al om σ ρ) H
    rw [hK] at this
    exact this)
theorem const_int {K : PySem.W.Frag} {mg : Str → Option Value} {i : Int} {t : Tok} (h : mg x = some (.int i t)) : ConstOk K mg x (.int i) := ⟨.int i, _, h, ⟨t, rfl⟩, fun _ _ _ _ _ => .int⟩
theorem const_str {K : PySem.W.Frag} {mg : Str → Option Value} {i : Str} {t : Tok} (h : mg x = some (.str i t)) : ConstOk K mg x (.str i) := ⟨.str i, _, h, ⟨t, rfl⟩, fun _ _ _ _ _ => .str⟩
/-- a pair of whole numbers, written -/
theorem const_pair {K : PySem.W.Frag} {mg : Str → Option Value} {a : Addr} {i j : Int} {t1 t2 : Tok} {od : Option Addr} {n : Nat} {sl : Array (Option Value)} (h : mg x = some (.ref a)) (hl : K.lookup a = some ⟨.type "tuple", od, .seq #[.int i t1, .int j t2] n, sl⟩) : ConstOk K mg x (.tup [.int i, .int j]) :=
  ⟨.ref a, _, h, rfl, fun _ _ _ _ _ => .tup (vs := [.int i, .int j]) (.inr ⟨_, _, n, hl, rfl, rfl, by show 2 ≤ sizeLine; rw [sizeLine_eq]; omega, .cons ⟨t1, rfl⟩ (.cons ⟨t2, rfl⟩ .nil)⟩) (.cons .int (.cons .int .nil))⟩
/-! ### slices -/
@[simp] def uNoPart : UO := fun ρ ω => .ok none ρ ω
@[simp] def uPart (u : UE) : UO := fun ρ ω => (u ρ ω).bind fun d ρ ω => match d with
  | .int i => .ok (some i) ρ ω
  | _ => .no
theorem po_noneU : PO X none (tO g W uNoPart) := poImp po_none fun σ H Q ⟨R, ρ, om, al, S, P⟩ => P none H al .refl S rfl
theorem po_someU {u : UE} (h : PE X e (tE g W u)) : PO X (some e) (tO g W (uPart u)) := poImp (po_some h) fun σ H Q ⟨R, ρ, om, al, S, P⟩ =>
  tR_bind (rel := relV) S P fun t ρ1 om1 y H1 al1 s1 S1 r1 P1 => by
    cases t with
    | int i =>
      cases (show RepV g al1 (LL R al1 om1 σ ρ1) H1 y (.int i) from r1)
      exact ⟨i, rfl, P1 (some i) H1 al1 .refl S1 rfl⟩
    | _ => exact P1.elim
def cutD (xs : List D) (lo hi : Option Int) : List D := (xs.drop (HT.sIx xs.length 0 lo)).take (HT.sIx xs.length xs.length hi - HT.sIx xs.length 0 lo)
@[simp] def uSlW (u : UE) (l h : UO) : UW := fun ρ ω => (u ρ ω).bind fun d ρ ω => (l ρ ω).bind fun a ρ ω => (h ρ ω).bind fun b ρ ω => match dItems d with
  | some xs => .ok (cutD xs a b) ρ ω
  | none => .no
theorem pu_slW {u : UE} {l h : UO} (hK : X.K = g.K) (he : PE X e (tE g W u)) (hl : PO X lo (tO g W l)) (hh : PO X hi (tO g W h)) : PE X (.Subscript e (.Slice lo hi none p2) pos) (tOw g W (uSlW u l h)) :=
  peImp (pe_slice sl_list he hl hh) fun σ H Q ⟨R, ρ, om, al, S, P⟩ =>
    tR_bindO (rel := relV) S P fun d ρ1 om1 v H1 al1 s1 S1 r1 P1 => tR_bindO (rel := relO) S1 P1 fun a ρ2 om2 y2 H2 al2 s2 S2 r2 P2 => tR_bindO (rel := relO) S2 P2 fun b ρ3 om3 y3 H3 al3 s3 S3 r3 P3 => by
      cases (show y2 = a from r2)
      cases (show y3 = b from r3)
      have r : RepV g al3 (LL R al3 om3 σ ρ3) H3 v d := s3.rep S2 (s2.rep S1 r1)
      have fin : ∀ {c : Addr} {xs : List D} {vs : List V}, v = .ref c → dItems d = some xs → SqL g.K H3 c vs → RepVs g al3 (LL R al3 om3 σ ρ3) H3 vs xs → rSlL X.K v a b H3 Q := fun {c xs vs} ev ed hs rs => by
        rw [ed] at P3
        refine ⟨c, vs, ev, by rw [hK]; exact hs, fun p hp => okOwn S3 P3 hp ?_⟩
        unfold cutV cutD
        rw [rs.length]
        exact (rs.drop _).take _
      cases r with
      | lst h n r9 => exact fin rfl rfl (SqL.of h) r9
      | frz h r9 => exact fin rfl rfl h.sq r9
      | _ => exact P3.elim
@[simp] def uSlS (u : UE) (l h : UO) : UE := fun ρ ω => (u ρ ω).bind fun d ρ ω => (l ρ ω).bind fun a ρ ω => (h ρ ω).bind fun b ρ ω => match d with
  | .str z => if z.length ≤ big then .ok (.str (cutS z a b)) ρ ω else .no
  | _ => .no
theorem pu_slS {u : UE} {l h : UO} (he : PE X e (tE g W u)) (hl : PO X lo (tO g W l)) (hh : PO X hi (tO g W h)) : PE X (.Subscript e (.Slice lo hi none p2) pos) (tE g W (uSlS u l h)) :=
  peImp (pe_slice sl_str he hl hh) fun σ H Q ⟨R, ρ, om, al, S, P⟩ =>
    tR_bind (rel := relV) S P fun d ρ1 om1 v H1 al1 s1 S1 r1 P1 => tR_bind (rel := relO) S1 P1 fun a ρ2 om2 y2 H2 al2 s2 S2 r2 P2 => tR_bind (rel := relO) S2 P2 fun b ρ3 om3 y3 H3 al3 s3 S3 r3 P3 => by
      cases (show y2 = a from r2)
      cases (show y3 = b from r3)
      cases d with
      | str z =>
        cases (show RepV g al1 (LL R al1 om1 σ ρ1) H1 v (.str z) from r1)
        dsimp only at P3
        split at P3
        · rename_i hz
          exact ⟨z, rfl, big_line hz, P3 _ H3 al3 .refl S3 .str⟩
        · exact P3.elim
      | _ => exact P3.elim
/-! ### comprehensions -/
def clrs (ρ : Rho) : List Nat → Rho
  | [] => ρ
  | v :: vs => (clrs ρ vs).set v none
theorem Rst.forgets (S : Rst g R al σ ρ om H) : ∀ vs : List Nat, Rst g R al (wipe σ vs) (clrs ρ vs) om H ∧ Step al (Mt al om σ ρ) H al (Mt al om (wipe σ vs) (clrs ρ vs)) H
  | [] => ⟨S, .refl⟩
  | v :: vs => by
    obtain ⟨S1, s1⟩ := S.forgets vs
    obtain ⟨S2, s2⟩ := S1.forget v none
    exact ⟨S2, s1.trans s2⟩
theorem clrs_get {ρ : Rho} {i : Nat} {s : Sl} : ∀ {vs : List Nat}, (clrs ρ vs)[i]? = some (some s) → i ∉ vs
  | [], _ => by simp
  | v :: vs, h => by
    rcases getset h with ⟨_, q⟩ | ⟨n, q⟩
    · cases q
    · simp only [List.mem_cons, not_or]
      exact ⟨n, clrs_get q⟩
theorem wipe_out {σ : St} {i : Nat} : ∀ {vs : List Nat}, i ∉ vs → (wipe σ vs)[i]? = σ[i]?
  | [], _ => rfl
  | v :: vs, h => by
    simp only [List.mem_cons, not_or] at h
    show ((wipe σ vs).set v none)[i]? = _
    rw [List.getElem?_set_ne (Ne.symm h.1), wipe_out h.2]
theorem wipe_in {σ : St} {i : Nat} : ∀ {vs : List Nat}, i ∈ vs → (wipe σ vs)[i]? = if i < σ.length then some none else none
  | v :: vs, h => by
    show ((wipe σ vs).set v none)[i]? = _
    rw [List.getElem?_set]
    split
    · rename_i e
      subst e
      rw [wipe_length]
    · rename_i n
      rcases List.mem_cons.mp h with q | q
      · exact absurd q.symm n
      · exact wipe_in q
/-- outside of vs the slots are the same -/
def Out (vs : List Nat) (σ σ' : St) : Prop := σ'.length = σ.length ∧ ∀ j, j ∉ vs → σ'[j]? = σ[j]?
theorem Out.wipe {vs : List Nat} {σ σ' : St} (h : Out vs (wipe σ vs) σ') : L2.wipe σ' vs = L2.wipe σ vs := by
  have hl : σ'.length = σ.length := by rw [h.1, wipe_length]
  refine List.ext_getElem? fun j => ?_
  by_cases q : j ∈ vs
  · rw [wipe_in q, wipe_in q, hl]
  · rw [wipe_out q, h.2 j q]
theorem Rst.agree (S : Rst g R al σ ρ om H) (hl : σ'.length = σ.length) (h : ∀ (i : Nat) (s : Sl), ρ[i]? = some (some s) → σ'[i]? = σ[i]?) : Rst g R al σ' ρ om H ∧ (∀ a, Mt al om σ' ρ a ↔ Mt al om σ ρ a) := by
  have o : ∀ a, OwnA σ' ρ a ↔ OwnA σ ρ a := fun a => ⟨fun ⟨i, ds, h1, h2⟩ => ⟨i, ds, h1, by rw [← h i _ h1]; exact h2⟩, fun ⟨i, ds, h1, h2⟩ => ⟨i, ds, h1, by rw [h i _ h1]; exact h2⟩⟩
  have m : ∀ a, Mt al om σ' ρ a ↔ Mt al om σ ρ a := fun a => or_congr Iff.rfl (o a)
  have ll : ∀ a, LL R al om σ' ρ a → LL R al om σ ρ a := fun a q => q.imp (m a).mp id
  have st : Step al (Mt al om σ ρ) H al (Mt al om σ' ρ) H := .grow (fun _ _ h _ => h) fun a q => .inl ((m a).mp q)
  refine ⟨S.chg st (fun b h => rfl) ⟨by rw [hl]; exact S.sl.len, fun j a c x e q => by rw [h j _ q]; exact S.sl.exc j a c x e q⟩ (fun b h => (S.o.rsv b h).2) (fun j d q => .inl ⟨q, h j _ q⟩) (fun j dj q => .inl ⟨q, h j _ q, fun _ _ => rfl⟩) (fun j k b dj dk h1 h2 h3 h4 => S.odj j k b dj dk h1 h2 (by rw [← h j _ h1]; exact h3) (by rw [← h k _ h2]; exact h4)) (fun b q => S.ocl b ((o b).mp q)), m⟩
/-- the reserved list is written -/
theorem Rst.updRes {vs vs' : List V} (S : Rst g (Rp R p) al σ ρ om H) (hp : H p = some (.lst vs)) : Rst g (Rp R p) al σ ρ om (upd H p (.lst vs')) ∧ Car g al (LL (Rp R p) al om σ ρ) H al (LL (Rp R p) al om σ ρ) (upd H p (.lst vs')) := by
  have np : ¬ Mt al om σ ρ p := fun m => by
    rcases m with m | m
    · exact (S.o.rsv p (.inr rfl)).1 m
    · exact (S.ocl p m).2 (.inr rfl)
  have cr : Car g al (LL (Rp R p) al om σ ρ) H al (LL (Rp R p) al om σ ρ) (upd H p (.lst vs')) := by
    have no : ∀ {a : Addr} {o : HO}, H a = some o → (∀ xs, o ≠ .lst xs) → upd H p (.lst vs') a = some o := fun {a o} h n => by
      rw [upd_ne]
      · exact h
      · intro z; rw [z, hp] at h; cases h; exact n _ rfl
    refine ⟨fun a xs h => ?_, fun a xs h n => ⟨?_, n⟩, fun a xs h => ?_, fun a C dx fs h n => ⟨no h fun _ z => (by cases z), n⟩, fun _ _ h => h⟩
    · rcases h with (h | ⟨o, h⟩) | h
      · exact .inl (.inl (no h fun _ z => (by cases z)))
      · exact .inl (.inr ⟨o, no h fun _ z => (by cases z)⟩)
      · exact .inr h
    · rw [upd_ne]
      · exact h
      · intro z; exact n (.inr (.inr z))
    · rcases h with ⟨o, h⟩ | h
      · exact .inl ⟨o, no h fun _ z => (by cases z)⟩
      · exact .inr h
  refine ⟨⟨⟨S.o.len, fun j c b h1 h2 => ?_, S.o.inj, fun b q => ⟨(S.o.rsv b q).1, ?_⟩⟩, S.sl, fun j d h => ?_, fun j dj h => ?_, S.odj, S.ocl⟩, cr⟩
  · refine (S.o.cel j c b h1 h2).car cr (fun xs e n => ?_) (fun C dx fs e n => ?_)
    · rw [upd_ne (fun z => np (.inl ⟨j, c, by rw [← z]; exact h2, h1, n⟩))]; exact e
    · rw [upd_ne (fun z => np (.inl ⟨j, c, by rw [← z]; exact h2, h1, n⟩))]; exact e
  · by_cases z : b = p
    · rw [z, upd_same]; simp
    · rw [upd_ne z]; exact (S.o.rsv b q).2
  · obtain ⟨v, e, r⟩ := S.val j d h
    exact ⟨v, e, r.car cr⟩
  · obtain ⟨b, ws, e, e2, r⟩ := S.own j dj h
    exact ⟨b, ws, e, by rw [upd_ne (fun z => np (.inr ⟨j, dj, h, by rw [← z]; exact e⟩))]; exact e2, r.car cr⟩
def goC (G : UG) (tt : UT) (te : UE) (vs : List Nat) : List D → List D → UW
  | [], acc => fun ρ ω => .ok acc ρ ω
  | d :: r, acc => fun ρ ω => match G d ρ with
    | none => .no
    | some ρ1 => match tt ρ1 ω with
      | .ok b ρ2 ω2 => if b = true then (match te ρ2 ω2 with
        | .ok y ρ3 ω3 => if acc.length < big then goC G tt te vs r (acc ++ [y]) (clrs ρ3 vs) ω3 else .no
        | _ => .no) else goC G tt te vs r acc (clrs ρ2 vs) ω2
      | _ => .no
def uLc (s : UI) (G : UG) (tt : UT) (te : UE) (vs : List Nat) : UW := fun ρ ω => (s ρ ω).bind fun ds ρ ω => goC G tt te vs ds [] (clrs ρ vs) ω
def tGv (g : G) (vs : List Nat) (u : UG) : TG := fun v σ H Q => ∃ R ρ om al d ρ', Rst g R al σ ρ om H ∧ RepV g al (LL R al om σ ρ) H v d ∧ u d ρ = some ρ' ∧ ∀ σ', Out vs σ σ' → Step al (Mt al om σ ρ) H al (Mt al om σ' ρ') H → Rst g R al σ' ρ' om H → Q σ' H
theorem tI_bindO {u : UI} {f : List D → Rho → Om → Res (List D)} {Q : It → Hp → Prop} {Q2 : VK} (S : Rst g R al σ ρ om H)
    (P : PostO g R W al (Mt al om σ ρ) H σ ((u ρ om).bind f) Q2)
    (k : ∀ t ρ' om' J H' al', Step al (Mt al om σ ρ) H al' (Mt al' om' σ ρ') H' → Rst g R al' σ ρ' om' H' → ItS g J t R al' (Mt al' om' σ ρ') H' → PostO g R W al' (Mt al' om' σ ρ') H' σ (f t ρ' om') Q2 → Q J H') : tI g W u σ H Q := by
  refine ⟨R, ρ, om, al, S, ?_⟩
  cases e : u ρ om with
  | ok t ρ' om' =>
    rw [e] at P
    exact fun y H' al' s S' r => k t ρ' om' y H' al' s S' r (PostO.step s P)
  | xc x ρ' om' => rw [e] at P; exact P
  | no => rw [e] at P; exact P
theorem Step.or (s : Step al M H al' M' H') : Step al (fun a => M a ∨ a = p) H al' (fun a => M' a ∨ a = p) H' := ⟨s.ext, fun a o h n => s.keep a o h fun m => n (.inl m), fun a m => m.elim (fun m => (s.fresh a m).imp .inl id) fun z => .inl (.inr z)⟩
@[simp] def uYes : UT := fun ρ ω => .ok true ρ ω
theorem pts_nilU : PTs X [] (tT g W uYes) := ⟨fun pins s σ H Q I ⟨R, ρ, om, al, S, P⟩ => pts_nil.run pins s σ H Q I (P true H al .refl S rfl)⟩
theorem pts_oneU {c : Expr} {u : UT} (h : PT X c (tT g W u)) : PTs X [c] (tT g W u) := pts_one h
theorem tLc_of {us : UI} {G' : UG} {tt : UT} {te : UE} {vs : List Nat} {σ : St} {H : Hp} {Q : VK} (h : tOw g W (uLc us G' tt te vs) σ H Q) : tLc (tI g W us) (tGv g vs G') (tT g WF tt) (tE g WF te) vs σ H Q := by
  obtain ⟨R, ρ, om, al, S, P⟩ := h
  refine tI_bindO S P fun ds ρ1 om1 J H1 al1 s1 S1 it P1 => ?_
  intro D0 hD
  obtain ⟨S2, s2⟩ := S1.forgets vs
  obtain ⟨S3, c3⟩ := S2.newRes (o := .lst []) hD
  have nR : ¬ R D0 := fun z => (S1.o.rsv D0 z).2 hD
  -- behind i turns
  refine ⟨fun i n H' => n + i = ds.length ∧ ∃ ρ' om' al' accV acc, Step al1 (Mt al1 om1 σ ρ1) H1 al' (fun a => Mt al' om' (wipe σ vs) ρ' a ∨ a = D0) H' ∧ Rst g (Rp R D0) al' (wipe σ vs) ρ' om' H' ∧ (∀ i s, ρ'[i]? = some (some s) → i ∉ vs) ∧ H' D0 = some (.lst accV) ∧ RepVs g al' (LL (Rp R D0) al' om' (wipe σ vs) ρ') H' accV acc ∧
      PostO g R W al1 (Mt al1 om1 σ ρ1) H1 σ (goC G' tt te vs (ds.drop i) acc ρ' om') Q,
    ⟨ds.length, rfl, clrs ρ1 vs, om1, al1, [], [], ?_, S3, fun i s h => clrs_get h, upd_same, .nil, P1⟩, ?_⟩
  · refine s2.trans (.grow (fun b o h n => upd_keep hD b o h) fun b m => ?_)
    rcases m with m | m
    · exact .inl m
    · exact .inr (by rw [m]; exact hD)
  rintro i n H2 ⟨hn, ρ2, om2, al2, accV, acc, t2, S4, cl2, hacc, racc, P2⟩
  obtain ⟨S4', c4', n4⟩ := S4.lessp nR
  have w2 : Step al1 (Mt al1 om1 σ ρ1) H1 al2 (Mt al2 om2 (wipe σ vs) ρ2) H2 := ⟨t2.ext, t2.keep, fun a m => t2.fresh a (.inl m)⟩
  have t := it (Rp R D0) (wipe σ vs) ρ2 om2 al2 H2 i (fun a h => h.imp id fun z => by rw [z]; exact hD) w2 S4
  by_cases hi : i < ds.length
  · obtain ⟨go, yl⟩ := t.1 hi
    refine .inr ⟨go, fun H' => ∃ ρ' om' al' accV acc, Step al1 (Mt al1 om1 σ ρ1) H1 al' (fun a => Mt al' om' (wipe σ vs) ρ' a ∨ a = D0) H' ∧ Rst g (Rp R D0) al' (wipe σ vs) ρ' om' H' ∧ (∀ i s, ρ'[i]? = some (some s) → i ∉ vs) ∧ H' D0 = some (.lst accV) ∧ RepVs g al' (LL (Rp R D0) al' om' (wipe σ vs) ρ') H' accV acc ∧
        PostO g R W al1 (Mt al1 om1 σ ρ1) H1 σ (goC G' tt te vs (ds.drop (i + 1)) acc ρ' om') Q, fun H' h => ⟨n - 1, by omega, by omega, h⟩, fun x H3 hy => ?_⟩
    obtain ⟨S5, s5, d, hd, r⟩ := yl x H3 hy
    have e : ds.drop i = d :: ds.drop (i + 1) := by
      obtain ⟨hl, e⟩ := List.getElem?_eq_some_iff.mp hd
      rw [← e]
      exact List.drop_eq_getElem_cons hl
    rw [e] at P2
    unfold goC at P2
    cases eg : G' d ρ2 with
    | none => rw [eg] at P2; exact P2.elim
    | some ρ3 =>
      rw [eg] at P2
      refine ⟨Rp R D0, ρ2, om2, al2, d, ρ3, S5, r, eg, fun σ4 o4 s4 S6 => ⟨o4.wipe, Rp R D0, ρ3, om2, al2, S6, ?_⟩⟩
      dsimp only at P2
      cases et : tt ρ3 om2 with
      | xc _ _ _ => rw [et] at P2; exact P2.elim
      | no => rw [et] at P2; exact P2.elim
      | ok b ρ5 om5 =>
        rw [et] at P2
        dsimp only at P2
        intro y7 H7 al7 s7 S7 e7
        cases (show y7 = b from e7)
        have ns : ∀ {a : Addr}, ¬ Mt al2 om2 (wipe σ vs) ρ2 a → a = D0 → True := fun _ _ => trivial
        have kD : ∀ {al : List Addr} {om : Om} {σ : St} {ρ : Rho} {H : Hp}, Rst g (Rp R D0) al σ ρ om H → ¬ Mt al om σ ρ D0 := fun S m => by
          rcases m with m | m
          · exact (S.o.rsv D0 (.inr rfl)).1 m
          · exact (S.ocl D0 m).2 (.inr rfl)
        have st7 := (s5.trans s4).trans s7
        have hD7 : H7 D0 = some (.lst accV) := st7.keep D0 _ hacc (kD S4)
        have ra7 := st7.reps S4 racc
        cases b with
        | false =>
          simp only [Bool.false_eq_true, if_false] at P2 ⊢
          obtain ⟨S8, s8⟩ := S7.forgets vs
          rw [o4.wipe] at S8 s8
          exact ⟨clrs ρ5 vs, om5, al7, accV, acc, t2.trans (st7.trans s8).or, S8, fun i s h => clrs_get h, by exact hD7, s8.reps S7 ra7, P2⟩
        | true =>
          simp only [if_true] at P2 ⊢
          refine ⟨Rp R D0, ρ5, om5, al7, S7, ?_⟩
          cases ee : te ρ5 om5 with
          | xc _ _ _ => rw [ee] at P2; exact P2.elim
          | no => rw [ee] at P2; exact P2.elim
          | ok y ρ6 om6 =>
            rw [ee] at P2
            dsimp only at P2
            split at P2
            · rename_i hz
              intro yv H9 al9 s9 S9 ry
              have hD9 : H9 D0 = some (.lst accV) := s9.keep D0 _ hD7 (kD S7)
              have ra9 := s9.reps S7 ra7
              have hlen : accV.length < sizeLine := by rw [ra9.length]; exact Nat.lt_of_lt_of_le hz (big_line (Nat.le_refl _))
              refine ⟨accV, hD9, hlen, ?_⟩
              obtain ⟨S10, c10⟩ := S9.updRes (vs' := accV ++ [yv]) hD9
              obtain ⟨S11, s11⟩ := S10.forgets vs
              rw [o4.wipe] at S11 s11
              refine ⟨clrs ρ6 vs, om6, al9, accV ++ [yv], acc ++ [y], t2.trans ((st7.trans s9).or.trans ?_), S11, fun i s h => clrs_get h, upd_same, s11.reps S10 ((ra9.append (.cons ry .nil)).car c10), P2⟩
              refine ⟨fun _ _ h => h, fun b o h n => ?_, fun b m => ?_⟩
              · rw [upd_ne fun z => n (.inr z)]; exact h
              · rcases m with m | m
                · rcases s11.fresh b m with q | q
                  · exact .inl (.inl q)
                  · by_cases z : b = D0
                    · exact .inl (.inr z)
                    · rw [upd_ne z] at q; exact .inr q
                · exact .inl (.inr m)
            · exact P2.elim
  · rw [List.drop_eq_nil_of_le (by omega)] at P2
    refine .inl ⟨t.2 (by omega), ?_⟩
    unfold goC at P2
    have hout : ∀ (j : Nat) (s : Sl), ρ2[j]? = some (some s) → σ[j]? = (wipe σ vs)[j]? := fun j s h => (wipe_out (cl2 j s h)).symm
    obtain ⟨S7, m7⟩ := S4.agree (σ' := σ) (by rw [wipe_length]) hout
    refine P2 D0 accV H2 al2 ⟨t2.ext, t2.keep, fun a m => t2.fresh a (m.imp (m7 a).mp id)⟩ S7 nR hacc (racc.car (carL fun a m => ?_))
    exact m.imp (m7 a).mp id
variable {q1 : Pos} {kk : Nat} {a1 b1 : Expr} {y : Str}
theorem pu_lc {elt tg iter : Expr} {ifs : List Expr} {scope : Scope} {us : UI} {G' : UG} {tt : UT} {te : UE} (own : List (Str × Nat)) (hc : X.calm = true) (hN : X.N.Nodup) (hi : PI X tg iter (tI g W us)) (ok : BlkOk X.N X.env.scope scope own)
    (hg : ∀ (s : Shared) (H : Hp) (C : Addr) (cl : List (Str × Addr)) (fp : List Addr), PG (X.blk s H scope (compEnvC scope cl C X.env) fp) tg (tGv g (own.map (·.2)) G')) (ht : ∀ (s : Shared) (H : Hp) (C : Addr) (cl : List (Str × Addr)) (fp : List Addr), PTs (X.blk s H scope (compEnvC scope cl C X.env) fp) ifs (tT g WF tt))
    (he : ∀ (s : Shared) (H : Hp) (C : Addr) (cl : List (Str × Addr)) (fp : List Addr), PE (X.blk s H scope (compEnvC scope cl C X.env) fp) elt (tE g WF te)) (hs : ∀ x, foldedSetIterable iter X.env x = pure x := by intro _; rfl) :
    PE X (.ListComp elt [⟨tg, iter, ifs, 0⟩] scope pos) (tOw g W (uLc us G' tt te (own.map (·.2)))) :=
  peImp (pe_lc hc hN hi ok hg ht he hs) fun σ H Q h => tLc_of h
/-- name = [..] -/
theorem ps_setLcU (i : Nat) {y : Str} {py : Pos} {elt tg iter : Expr} {ifs : List Expr} {scope : Scope} {pos spos : Pos} {us : UI} {G' : UG} {tt : UT} {te : UE} (own : List (Str × Nat)) (hc : X.calm = true) (hN : X.N.Nodup)
    (hsw : swapsWith (.ListComp elt [⟨tg, iter, ifs, 0⟩] scope pos) (some (.Name y py)) spos.line X.env = pure true) (hi : PI X tg iter (tI g W us)) (ok : BlkOk X.N X.env.scope scope own)
    (hg : ∀ (s : Shared) (H : Hp) (C : Addr) (cl : List (Str × Addr)) (fp : List Addr), PG (X.blk s H scope (compEnvC scope cl C X.env) fp) tg (tGv g (own.map (·.2)) G')) (ht : ∀ (s : Shared) (H : Hp) (C : Addr) (cl : List (Str × Addr)) (fp : List Addr), PTs (X.blk s H scope (compEnvC scope cl C X.env) fp) ifs (tT g WF tt))
    (he : ∀ (s : Shared) (H : Hp) (C : Addr) (cl : List (Str × Addr)) (fp : List Addr), PE (X.blk s H scope (compEnvC scope cl C X.env) fp) elt (tE g WF te)) (hy : X.N[i]? = some y := by rfl) (hyl : X.env.scope.names.lookup y = some .local := by rfl) (hs : ∀ x, foldedSetIterable iter X.env x = pure x := by intro _; rfl) :
    PS X (.Assign [.Name y py] (.ListComp elt [⟨tg, iter, ifs, 0⟩] scope pos) spos) (tS g W (sAsg i (uFz (uLc us G' tt te (own.map (·.2)))))) :=
  psImp (ps_setLc hc hN hy hyl hsw hi ok hg ht he hs) fun De σ H ⟨R, ρ, om, al, S, P⟩ => by
    have P' : PostS g R W al (Mt al om σ ρ) H (RS.of (uLc us G' tt te (own.map (·.2)) ρ om) fun ds ρ ω => .nx (ρ.set i (some (.val (.lst ds)))) ω) De := by
      simp only [sAsg, uFz] at P
      cases e : uLc us G' tt te (own.map (·.2)) ρ om with
      | ok ds ρ' om' => rw [e] at P; exact P
      | xc x ρ' om' => rw [e] at P; exact P
      | no => rw [e] at P; exact P
    refine tLc_of (tOw_bindS S P' fun ds ρ' om' p vs H' al' s S' n hp r P2 => ?_)
    obtain ⟨S2, c, n2⟩ := S'.lessp n
    exact set_of S2 (.lst hp n2 (r.car c)) (PostS.step ⟨fun _ _ h => h, fun _ _ h _ => h, fun a m => .inl (.inl m)⟩ P2)
theorem ps_setLcO (i : Nat) {y : Str} {py : Pos} {elt tg iter : Expr} {ifs : List Expr} {scope : Scope} {pos spos : Pos} {us : UI} {G' : UG} {tt : UT} {te : UE} (own : List (Str × Nat)) (hc : X.calm = true) (hN : X.N.Nodup)
    (hsw : swapsWith (.ListComp elt [⟨tg, iter, ifs, 0⟩] scope pos) (some (.Name y py)) spos.line X.env = pure true) (hi : PI X tg iter (tI g W us)) (ok : BlkOk X.N X.env.scope scope own)
    (hg : ∀ (s : Shared) (H : Hp) (C : Addr) (cl : List (Str × Addr)) (fp : List Addr), PG (X.blk s H scope (compEnvC scope cl C X.env) fp) tg (tGv g (own.map (·.2)) G')) (ht : ∀ (s : Shared) (H : Hp) (C : Addr) (cl : List (Str × Addr)) (fp : List Addr), PTs (X.blk s H scope (compEnvC scope cl C X.env) fp) ifs (tT g WF tt))
    (he : ∀ (s : Shared) (H : Hp) (C : Addr) (cl : List (Str × Addr)) (fp : List Addr), PE (X.blk s H scope (compEnvC scope cl C X.env) fp) elt (tE g WF te)) (hy : X.N[i]? = some y := by rfl) (hyl : X.env.scope.names.lookup y = some .local := by rfl) (hs : ∀ x, foldedSetIterable iter X.env x = pure x := by intro _; rfl) :
    PS X (.Assign [.Name y py] (.ListComp elt [⟨tg, iter, ifs, 0⟩] scope pos) spos) (tS g W (sAsgO i (uLc us G' tt te (own.map (·.2))))) :=
  psImp (ps_setLc hc hN hy hyl hsw hi ok hg ht he hs) fun De σ H ⟨R, ρ, om, al, S, P⟩ =>
    tLc_of (tOw_bindS S P fun ds ρ' om' p vs H' al' s S' n hp r P2 => setO_of S' n hp r P2)
theorem pg_nameC (i : Nat) (hN : X.N.Nodup) (hi : X.N[i]? = some x := by rfl) (hx : Loc X.env.scope x := by first | exact Or.inl rfl | exact Or.inr rfl) (hf : X.fn x = true ∨ X.env.scope.names.lookup x = some .local := by first | exact .inl rfl | exact .inr rfl) : PG X (.Name x pos) (tGv g [i] (gN i)) :=
  ⟨fun pins s σ H v u Q I r ⟨R, ρ, om, al, d, ρ', S, rv, e, k⟩ => (pg_name hN hi hx hf).run pins s σ H v u Q I r (by
    cases e
    refine gset (i := i) (Q := fun σ' H' => Q σ' H') S rv fun σ1 e1 s1 S1 => k σ1 ⟨by rw [e1, List.length_set], fun j hj => ?_⟩ s1 S1
    rw [e1, List.getElem?_set_ne]
    intro z; exact hj (by rw [z]; simp))⟩
theorem pg_tup2C (i j : Nat) (hK : X.K = g.K) (hc : X.calm = true) (h1 : PG X a1 (gName i)) (h2 : PG X b1 (gName j)) (hp : (assignEach [a1, b1] X.env).map (·.2) = assign a1 X.env :: (assignEach [b1] X.env).map (·.2) := by rfl) (hp2 : (assignEach [b1] X.env).map (·.2) = assign b1 X.env :: (assignEach [] X.env).map (·.2) := by rfl)
    (hn : (assignEach [a1, b1] X.env).length = 2 := by rfl) (hst : (assignEach [a1, b1] X.env).findIdx? (·.1) = none := by rfl) : PG X (.Tuple [a1, b1] kk pos) (tGv g [i, j] (gT2 i j)) :=
  ⟨fun pins s σ H v w Q I r ⟨R, ρ, om, al, d, ρ', S, rv, e, k⟩ => (pg_tup hc (pgs_cons h1 (pgs_cons h2 pgs_nil hp2) hp) hn hst).run pins s σ H v w Q I r (by
    simp only [gT2] at e
    split at e
    · cases e
      cases rv with
      | @tup ta vs _ ht rs =>
        cases rs with
        | cons ra rs => cases rs with
          | cons rb rs =>
            cases rs
            refine ⟨ta, _, rfl, by rw [hK]; exact ht, rfl, _, _, rfl, ?_⟩
            refine gset (i := i) (Q := fun σ' H' => (gCons (gName j) gNil) _ σ' H' Q) S ra fun σ1 e1 s1 S1 => ⟨_, _, rfl, ?_⟩
            refine gset (i := j) (Q := fun σ' H' => gNil _ σ' H' Q) S1 (s1.rep S rb) fun σ2 e2 s2 S2 => ⟨rfl, ?_⟩
            refine k σ2 ⟨by rw [e2, e1, List.length_set, List.length_set], fun l hl => ?_⟩ (s1.trans s2) S2
            simp only [List.mem_cons, List.not_mem_nil, or_false, not_or] at hl
            rw [e2, e1, List.getElem?_set_ne (fun z => hl.2 z.symm), List.getElem?_set_ne (fun z => hl.1 z.symm)]
    · cases e)⟩
end
end Dv

set_option maxHeartbeats 4000000
namespace Dv
open PySem PySem.Spec PyProof.Rows L2
local macro_rules | `(tactic| walk_at "ev") => `(tactic| try simp (disch := omega) only [sSeq_eq, seq_nx, seq_rt, seq_rto, seq_xc, seq_bk, seq_ct, seq_ite, sAsg, sAsgO, sExpr, sRet, sRetO, sRetN, sIf, sNext, uVar, uC, uUn, uBin, uB, uNot, uAnd, uOr, uTV, uAndV, uOrV, uNotV, uIf, uChain, uNil, uCons, uTup, uLst, uLstO, uFn, uFnO, uFz, uMv, uNew, uCall, uCallO, uCallN, uBinV, uBinW, uBinL, uMeO, uMeL, uFnV, sSetL, sAsgG, gN, gT2, gT3, gT4, iLst, iFn,   bind_ok, bind_xc, of_ok, of_xc, res_ok, res_xc, res0_ok, own_ok, own_xc, fr_nx, fr_rt, fr_rto, fr_xc, fo_rto, fo_xc, liftO_some, dBool_bl, items_lst, items_frz, ent, defU, defO, List.map_cons, List.map_nil, List.length_cons, List.length_nil, List.cons_append, List.nil_append, List.append_nil, List.replicate, List.getElem?_cons_zero, List.getElem?_cons_succ, List.set_cons_zero, List.set_cons_succ, Nat.zero_add, Nat.reduceAdd, Nat.reduceSub, Nat.reduceLeDiff,   le_big, lt_big, atN_zero, atN_one, atN_two, atN_three, setN_zero, setN_one, popAt_zero, len_zero, len_succ, dMul_r, dMul_l, dDiv_pos, dMod_pos, dAdd_int, dSub_int, dNeg_int, dLt_int, dLe_int, dGt_int, dGe_int, dEq_int, dNe_int, dEq_bl, dNe_bl, dEq_nil, dNe_nil, dIx_lst, dIx_tup, fAbs_int, fInt_bl, fInt_int, fLen_lst, fLen_frz, fLen_tup, ite_true, ite_false, if_true, if_false, Bool.not_true, Bool.not_false, decide_true, decide_false, Bool.true_eq_false, Bool.false_eq_true, reduceIte, reduceCtorEq, turn_nx, turn_ct, turn_bk, turn_rt, turn_rto, turn_xc, sFor_eq, goL_nil, eq_self])
local macro_rules | `(tactic| walk_at "evs") => `(tactic| try simp (disch := omega) only [sSeq_eq, seq_nx, seq_rt, seq_rto, seq_xc, seq_bk, seq_ct, seq_ite, sAsg, sAsgO, sExpr, sRet, sRetO, sRetN, sIf, sNext, uVar, uC, uUn, uBin, uB, uNot, uAnd, uOr, uTV, uAndV, uOrV, uNotV, uIf, uChain, uNil, uCons, uTup, uLst, uLstO, uFn, uFnO, uFz, uMv, uNew, uCall, uCallO, uCallN, uBinV, uBinW, uBinL, uMeO, uMeL, uFnV, sSetL, sAsgG, gN, gT2, gT3, gT4, iLst, iFn,   bind_ok, bind_xc, of_ok, of_xc, res_ok, res_xc, res0_ok, own_ok, own_xc, fr_nx, fr_rt, fr_rto, fr_xc, fo_rto, fo_xc, liftO_some, dBool_bl, items_lst, items_frz, ent, defU, defO, List.map_cons, List.map_nil, List.length_cons, List.length_nil, List.cons_append, List.nil_append, List.append_nil, List.replicate, List.getElem?_cons_zero, List.getElem?_cons_succ, List.set_cons_zero, List.set_cons_succ, Nat.zero_add, Nat.reduceAdd, Nat.reduceSub, Nat.reduceLeDiff,   le_big, lt_big, atN_zero, atN_one, atN_two, atN_three, setN_zero, setN_one, popAt_zero, len_zero, len_succ, dMul_r, dMul_l, dDiv_pos, dMod_pos, dAdd_int, dSub_int, dNeg_int, dLt_int, dLe_int, dGt_int, dGe_int, dEq_int, dNe_int, dEq_bl, dNe_bl, dEq_nil, dNe_nil, dIx_lst, dIx_tup, fAbs_int, fInt_bl, fInt_int, fLen_lst, fLen_frz, fLen_tup, ite_true, ite_false, if_true, if_false, Bool.not_true, Bool.not_false, decide_true, decide_false, Bool.true_eq_false, Bool.false_eq_true, reduceIte, reduceCtorEq, turn_nx, turn_ct, turn_bk, turn_rt, turn_rto, turn_xc, sFor_eq, goL_nil, eq_self, *])
/-! ### draws -/
structure Box where
  ns : List Int
  s : Int
  h : 0 ≤ s ∧ s < 2147483647
def bom (b : Box) (rest : Om) : Om := .lst (b.ns.map .int) :: .lst [.loc 0, .int b.s] :: rest
def tkv (m : Int) (b : Box) : Int := match b.ns with
  | [] => (b.s * 48271 % 2147483647) / 7 % m
  | n :: _ => n % m
def tkn (m : Int) (b : Box) : Box := match b.ns with
  | [] => ⟨[], b.s * 48271 % 2147483647, Int.emod_nonneg _ (by decide), Int.emod_lt_of_pos _ (by decide)⟩
  | n :: r => ⟨if n / m = 0 ∨ n / m = -1 then r else n / m :: r, b.s, b.h⟩
theorem tkv_nn {m : Int} (b : Box) (h : 0 < m) : 0 ≤ tkv m b := by
  unfold tkv
  split <;> exact Int.emod_nonneg _ (by omega)
theorem tkv_lt {m : Int} (b : Box) (h : 0 < m) : tkv m b < m := by
  unfold tkv
  split <;> exact Int.emod_lt_of_pos _ h
theorem begun_loop (F : D) (om : Om) : ∀ (ns : List Int) (st : Int) (r : Option Sl), 0 ≤ st ∧ st < 2147483647 → ∃ st' r', (0 ≤ st' ∧ st' < 2147483647) ∧
    goL (gN 2) (sAsg 1 (uBin dMod (uBin dAdd (uBin dAdd (uBin dMul (uVar 1) (uC (.int 48271))) (uBin dMul (uVar 2) (uC (.int 69621)))) (uC (.int 11))) (uC (.int 2147483647)))) (ns.map D.int) [some (.val F), some (.val (.int st)), r] om = .nx [some (.val F), some (.val (.int st')), r'] om
  | [], st, r, h => ⟨st, r, h, rfl⟩
  | n :: ns, st, r, h => by
    have h2 : 0 ≤ (st * 48271 + n * 69621 + 11) % 2147483647 ∧ (st * 48271 + n * 69621 + 11) % 2147483647 < 2147483647 := ⟨Int.emod_nonneg _ (by decide), Int.emod_lt_of_pos _ (by decide)⟩
    obtain ⟨st', r', h', e⟩ := begun_loop F om ns _ (some (.val (.int n))) h2
    refine ⟨st', r', h', ?_⟩
    rw [List.map_cons, goL_cons (ρ1 := [some (.val F), some (.val (.int st)), some (.val (.int n))]) _ _ rfl]
    walk_at "ev"
    exact e
/-! ### fractions -/
abbrev Fr := Int × Int
@[reducible] def encF (q : Fr) : D := .tup [.int q.1, .int q.2]
def gN' (t b : Int) : Int := if b < 0 then -(Int.gcd t b : Int) else (Int.gcd t b : Int)
def mk (t b : Int) : Fr := (t.fdiv (gN' t b), b.fdiv (gN' t b))
theorem gcd_loop (t c : Option Sl) (om : Om) : ∀ (k : Nat) (n : Nat) (a b : Nat) (r : Option Sl), b ≤ k → b < n → ∃ r',
    goW (uB (uBin dGt (uVar 3) (uC (.int 0)))) (sSeq (sAsg 4 (uBin dMod (uVar 2) (uVar 3))) (sSeq (sAsg 2 (uVar 3)) (sAsg 3 (uVar 4)))) n [t, c, some (.val (.int a)), some (.val (.int b)), r] om = .nx [t, c, some (.val (.int (Nat.gcd a b : Nat))), some (.val (.int 0)), r'] om := by
  intro k
  induction k with
  | zero =>
    intro n a b r hb hn
    obtain rfl : b = 0 := by omega
    obtain ⟨m, rfl⟩ : ∃ m, n = m + 1 := ⟨n - 1, by omega⟩
    refine ⟨r, ?_⟩
    rw [goW_succ]
    walk_at "ev"
    simp
  | succ k ih =>
    intro n a b r hb hn
    by_cases h0 : b = 0
    · subst h0
      obtain ⟨m, rfl⟩ : ∃ m, n = m + 1 := ⟨n - 1, by omega⟩
      refine ⟨r, ?_⟩
      rw [goW_succ]
      walk_at "ev"
      simp
    · obtain ⟨m, rfl⟩ : ∃ m, n = m + 1 := ⟨n - 1, by omega⟩
      have hlt : a % b < b := Nat.mod_lt _ (by omega)
      obtain ⟨r', e⟩ := ih m b (a % b) (some (.val (.int ((a % b : Nat) : Int)))) (by omega) (by omega)
      refine ⟨r', ?_⟩
      rw [goW_succ]
      have hp : (0 : Int) < (b : Int) := by omega
      walk_at "ev"
      simp only [hp, decide_true, if_true]
      walk_at "ev"
      have e2 : ((a : Int) % (b : Int)) = ((a % b : Nat) : Int) := by omega
      rw [e2, e]
      congr 6
      rw [Nat.gcd_comm a b, Nat.gcd_rec b a]
      rw [Nat.gcd_comm]

theorem gcd_pos_of {t b : Int} (hb : b ≠ 0) : 0 < Int.gcd t b := Int.gcd_pos_of_ne_zero_right _ hb
theorem abs_if (i : Int) : (if i < 0 then -i else i) = ((i.natAbs : Nat) : Int) := by
  split <;> omega
theorem divOk_bits {i j : Int} (h : j.natAbs < 2 ^ 9000) : divOk i j = true := by
  unfold divOk
  rw [PyProof.noPylong_of_log2]
  · rfl
  · by_cases h0 : j.natAbs = 0
    · rw [h0]; decide
    · exact (Nat.log2_lt h0).mpr h
theorem gN'_ne {t b : Int} (hb : b ≠ 0) : gN' t b ≠ 0 := by
  have := gcd_pos_of (t := t) hb
  unfold gN'
  split <;> omega
theorem gN'_le {t b : Int} (hb : b ≠ 0) : (gN' t b).natAbs ≤ b.natAbs := by
  have h : Int.gcd t b ≤ b.natAbs := Nat.le_of_dvd (by omega) (Int.gcd_dvd_natAbs_right t b)
  unfold gN'
  split <;> omega
/-! ### alike -/
mutual
def good : Nat → D → Bool
  | _, .non => true
  | _, .bl _ => true
  | _, .int _ => true
  | _, .str _ => true
  | n + 1, .tup ds => decide (ds.length ≤ 1000) && goods n ds
  | n + 1, .lst ds => decide (ds.length ≤ 1000) && goods n ds
  | _, _ => false
def goods : Nat → List D → Bool
  | _, [] => true
  | n, d :: ds => good n d && goods n ds
end

theorem goods_get : ∀ {n : Nat} {ds : List D} {k : Nat} {d : D}, goods n ds = true → ds[k]? = some d → good n d = true
  | n, [], k, d, h, e => by simp at e
  | n, x :: ds, 0, d, h, e => by
    simp at e
    subst e
    unfold goods at h
    exact (Bool.and_eq_true_iff.mp h).1
  | n, x :: ds, k + 1, d, h, e => by
    unfold goods at h
    exact goods_get (Bool.and_eq_true_iff.mp h).2 (by simpa using e)
theorem kb (a b : String) (r : Bool) (h : L2.kitB a b = some r := by decide +kernel) : L2.kitB a b = some r := h
theorem isi_of {T t : String} {d : D} {r : Bool} (h : tyName d = some t) (k : L2.kitB t T = some r) : dIsi T d = some (.bl r) := by
  unfold dIsi
  rw [h]
  show Option.map D.bl (L2.kitB t T) = _
  rw [k]
  rfl
theorem atN_nat {α : Type} {xs : List α} {k : Nat} {x : α} (h : xs[k]? = some x) : atN xs (k : Int) = some x := by
  unfold atN
  rw [if_pos (by omega)]
  simpa using h
theorem alike_loop {rec : FN} {f g : D} {om : Om} : ∀ (l : List Nat) (r : Option Sl), (∀ k ∈ l, ∃ x y, dIx f (.int (k : Int)) = some x ∧ dIx g (.int (k : Int)) = some y ∧ rec [x, y] om = .ok (.bl true) om) →
    ∃ r', goL (gN 2) (sIf (uNot (uB (uCall 2 rec (uCons (uBin dIx (uVar 0) (uVar 2)) (uCons (uBin dIx (uVar 1) (uVar 2)) uNil))))) (sRet (uC (.bl false))) sNext) (l.map fun (k : Nat) => D.int ((0 : Int) + (k : Int))) [some (.val f), some (.val g), r] om = .nx [some (.val f), some (.val g), r'] om
  | [], r, _ => ⟨r, rfl⟩
  | k :: l, r, h => by
    obtain ⟨x, y, e1, e2, e3⟩ := h k (by simp)
    obtain ⟨r', e⟩ := alike_loop (rec := rec) (f := f) (g := g) (om := om) l (some (.val (.int ((0 : Int) + (k : Int))))) fun j hj => h j (by simp [hj])
    refine ⟨r', ?_⟩
    rw [List.map_cons, goL_cons (ρ1 := [some (.val f), some (.val g), some (.val (.int ((0 : Int) + (k : Int))))]) _ _ rfl]
    simp only [Int.zero_add] at *
    walk_at "evs"
theorem mk_spec {t b : Int} (hb : b ≠ 0) : ∃ q r : Int, t = gN' t b * q ∧ b = gN' t b * r ∧ mk t b = (q, r) ∧ 0 < r := by
  have hg := gN'_ne (t := t) hb
  have ht : gN' t b ∣ t := by
    unfold gN'
    split
    · exact Int.neg_dvd.mpr (Int.gcd_dvd_left t b)
    · exact Int.gcd_dvd_left t b
  have hbd : gN' t b ∣ b := by
    unfold gN'
    split
    · exact Int.neg_dvd.mpr (Int.gcd_dvd_right t b)
    · exact Int.gcd_dvd_right t b
  obtain ⟨q, hq⟩ := ht
  obtain ⟨r, hr⟩ := hbd
  refine ⟨q, r, hq, hr, ?_, ?_⟩
  · unfold mk
    generalize gN' t b = g at *
    subst hq
    subst hr
    rw [Int.mul_fdiv_cancel_left _ hg, Int.mul_fdiv_cancel_left _ hg]
  · have hp : (0 : Int) < Int.gcd t b := by have := gcd_pos_of (t := t) hb; omega
    by_cases hn : b < 0
    · have e : gN' t b = -(Int.gcd t b : Int) := by unfold gN'; rw [if_pos hn]
      rw [e] at hr
      rcases Int.lt_trichotomy r 0 with h | h | h
      · have : 0 ≤ -(Int.gcd t b : Int) * r := by
          have := Int.mul_nonneg_of_nonpos_of_nonpos (a := -(Int.gcd t b : Int)) (b := r) (by omega) (by omega)
          exact this
        omega
      · subst h; omega
      · exact h
    · have e : gN' t b = (Int.gcd t b : Int) := by unfold gN'; rw [if_neg hn]
      rw [e] at hr
      rcases Int.lt_trichotomy r 0 with h | h | h
      · have : (Int.gcd t b : Int) * r ≤ 0 := Int.mul_nonpos_of_nonneg_of_nonpos (by omega) (by omega)
        omega
      · subst h; omega
      · exact h
theorem natAbs_le_mul {g q t : Int} (hg : g ≠ 0) (h : t = g * q) : q.natAbs ≤ t.natAbs := by
  subst h
  rw [Int.natAbs_mul]
  exact Nat.le_mul_of_pos_left _ (by omega)
theorem mk_den {t b : Int} (hb : b ≠ 0) : 0 < (mk t b).2 ∧ (mk t b).2.natAbs ≤ b.natAbs ∧ (mk t b).1.natAbs ≤ t.natAbs := by
  obtain ⟨q, r, h1, h2, h3, h4⟩ := mk_spec (t := t) hb
  rw [h3]
  exact ⟨h4, natAbs_le_mul (gN'_ne (t := t) hb) h2, natAbs_le_mul (gN'_ne (t := t) hb) h1⟩
/-- a fraction of less than N bits each -/
structure Bd (N : Nat) (q : Fr) : Prop where
  p : 0 < q.2
  n : q.1.natAbs < 2 ^ N
  d : q.2.natAbs < 2 ^ N
theorem Bd.mono {N M : Nat} {q : Fr} (h : Bd N q) (k : N ≤ M) : Bd M q := ⟨h.p, Nat.lt_of_lt_of_le h.n (Nat.pow_le_pow_right (by decide) k), Nat.lt_of_lt_of_le h.d (Nat.pow_le_pow_right (by decide) k)⟩
theorem bd_mk {N : Nat} {t b : Int} (hb : b ≠ 0) (h1 : t.natAbs < 2 ^ N) (h2 : b.natAbs < 2 ^ N) : Bd N (mk t b) := by
  obtain ⟨h, k, l⟩ := mk_den (t := t) hb
  exact ⟨h, Nat.lt_of_le_of_lt l h1, Nat.lt_of_le_of_lt k h2⟩
theorem bits_mul {i j : Int} {N M : Nat} (h1 : i.natAbs < 2 ^ N) (h2 : j.natAbs < 2 ^ M) : (i * j).natAbs < 2 ^ (N + M) := by
  rw [Int.natAbs_mul, Nat.pow_add]
  exact Nat.mul_lt_mul'' h1 h2
theorem bits_add {i j : Int} {N : Nat} (h1 : i.natAbs < 2 ^ N) (h2 : j.natAbs < 2 ^ N) : (i + j).natAbs < 2 ^ (N + 1) := by
  rw [Nat.pow_succ]
  omega
theorem bits_sub {i j : Int} {N : Nat} (h1 : i.natAbs < 2 ^ N) (h2 : j.natAbs < 2 ^ N) : (i - j).natAbs < 2 ^ (N + 1) := by
  rw [Nat.pow_succ]
  omega
theorem mulOk_bits {i j : Int} {N M : Nat} (h1 : i.natAbs < 2 ^ N) (h2 : j.natAbs < 2 ^ M) (h : N + M ≤ 900000) : mulOk i j = true := by
  have hw := wide_mul (a := N + 1) (b := M + 1) (Nat.lt_of_lt_of_le h1 (Nat.pow_le_pow_right (by decide) (Nat.le_succ _))) (Nat.lt_of_lt_of_le h2 (Nat.pow_le_pow_right (by decide) (Nat.le_succ _))) (Nat.succ_pos _) (Nat.succ_pos _) (by omega)
  unfold CMulW at hw
  unfold mulOk
  rw [Bool.or_eq_true]
  exact .inr (decide_eq_true hw)
theorem pos_mul {a b : Int} (h1 : 0 < a) (h2 : 0 < b) : a * b ≠ 0 := by
  have := Int.mul_pos h1 h2
  omega
theorem pow_9000 {n N : Nat} (h : n < 2 ^ N) (k : N ≤ 9000) : n < 2 ^ 9000 := Nat.lt_of_lt_of_le h (Nat.pow_le_pow_right (by decide) k)
def fsum (a b : Fr) : Fr := mk (a.1 * b.2 + b.1 * a.2) (a.2 * b.2)
def fsub (a b : Fr) : Fr := mk (a.1 * b.2 - b.1 * a.2) (a.2 * b.2)
def fmul (a b : Fr) : Fr := mk (a.1 * b.1) (a.2 * b.2)
def fdv (a b : Fr) : Fr := mk (a.1 * b.2) (a.2 * b.1)
def flt (a b : Fr) : Bool := decide (a.1 * b.2 < b.1 * a.2)
section
variable {N M : Nat} {a b : Fr} (om : Om)
theorem bd_sum (ha : Bd N a) (hb : Bd M b) : Bd (N + M + 1) (fsum a b) :=
  bd_mk (pos_mul ha.p hb.p) (bits_add (bits_mul ha.n hb.d) (by rw [Nat.add_comm]; exact bits_mul hb.n ha.d)) (Nat.lt_of_lt_of_le (bits_mul ha.d hb.d) (Nat.pow_le_pow_right (by decide) (by omega)))
theorem bd_sub (ha : Bd N a) (hb : Bd M b) : Bd (N + M + 1) (fsub a b) :=
  bd_mk (pos_mul ha.p hb.p) (bits_sub (bits_mul ha.n hb.d) (by rw [Nat.add_comm]; exact bits_mul hb.n ha.d)) (Nat.lt_of_lt_of_le (bits_mul ha.d hb.d) (Nat.pow_le_pow_right (by decide) (by omega)))
theorem bd_mul (ha : Bd N a) (hb : Bd M b) : Bd (N + M) (fmul a b) := bd_mk (pos_mul ha.p hb.p) (bits_mul ha.n hb.n) (bits_mul ha.d hb.d)
theorem bd_dv (ha : Bd N a) (hb : Bd M b) (h0 : b.1 ≠ 0) : Bd (N + M) (fdv a b) := bd_mk (by
  have := ha.p
  intro z
  rcases Int.mul_eq_zero.mp z with h | h
  · omega
  · exact h0 h) (bits_mul ha.n hb.d) (bits_mul ha.d hb.n)
end
theorem ne_dv {N M : Nat} {a b : Fr} (ha : Bd N a) (hb : Bd M b) (hz : N + M ≤ 13000) (h0 : b.1 ≠ 0) : a.2 * b.1 ≠ 0 := fun z => by
  have := ha.p
  rcases Int.mul_eq_zero.mp z with h | h
  · omega
  · exact h0 h
theorem divOk_big {i j : Int} (h : i.natAbs < 2 ^ 13400) : divOk i j = true := by
  unfold divOk Builtin.divisionGoesByPylong
  have h1 : (if (i == 0) = true then 0 else i.natAbs.log2 / 30 + 1) ≤ 450 := by
    split
    · exact Nat.zero_le _
    · rename_i c
      have c' : i.natAbs ≠ 0 := fun z => c (by rw [Int.natAbs_eq_zero.mp z]; rfl)
      have := (Nat.log2_lt c').mpr h
      omega
  show (!(decide ((if (j == 0) = true then 0 else j.natAbs.log2 / 30 + 1) > 300) && decide ((if (i == 0) = true then 0 else i.natAbs.log2 / 30 + 1) > (if (j == 0) = true then 0 else j.natAbs.log2 / 30 + 1) + 150))) = true
  generalize (if (i == 0) = true then 0 else i.natAbs.log2 / 30 + 1) = x at *
  generalize (if (j == 0) = true then 0 else j.natAbs.log2 / 30 + 1) = y at *
  by_cases hy : y > 300
  · rw [decide_eq_false (p := x > y + 150) (by omega)]; simp
  · rw [decide_eq_false hy]; rfl
theorem pow_13400 {n N : Nat} (h : n < 2 ^ N) (k : N ≤ 13400) : n < 2 ^ 13400 := Nat.lt_of_lt_of_le h (Nat.pow_le_pow_right (by decide) k)
theorem good_F (q : Fr) : good 10 (encF q) = true := rfl
theorem dIsi_bool (b : Bool) : dIsi "bool" (.bl b) = some (.bl true) := rfl
end Dv

namespace Dv
open PySem PySem.Spec PyProof.Rows L2
/-! ### what a fraction is worth -/
def val (q : Fr) : Rat := (q.1 : Rat) / (q.2 : Rat)
theorem cast_ne {i : Int} (h : i ≠ 0) : (i : Rat) ≠ 0 := fun z => h (Rat.intCast_inj.mp (by rw [z]; rfl))
theorem cast_pos {i : Int} (h : 0 < i) : (0 : Rat) < (i : Rat) := Rat.intCast_lt_intCast.mpr h
theorem val_mk {t b : Int} (hb : b ≠ 0) : val (mk t b) = (t : Rat) / (b : Rat) := by
  obtain ⟨q, r, h1, h2, h3, h4⟩ := mk_spec (t := t) hb
  have hg := cast_ne (gN'_ne (t := t) hb)
  have hr := cast_ne (show r ≠ 0 by omega)
  rw [h3]
  unfold val
  generalize gN' t b = g at *
  subst h1
  subst h2
  rw [Rat.intCast_mul, Rat.intCast_mul]
  grind
section
variable {a b : Fr} (ha : 0 < a.2) (hb : 0 < b.2)
include ha hb
theorem val_sum : val (fsum a b) = val a + val b := by
  have h1 := cast_ne (show a.2 ≠ 0 by omega)
  have h2 := cast_ne (show b.2 ≠ 0 by omega)
  unfold fsum
  rw [val_mk (pos_mul ha hb)]
  unfold val
  rw [Rat.intCast_add, Rat.intCast_mul, Rat.intCast_mul, Rat.intCast_mul]
  grind
theorem val_sub : val (fsub a b) = val a - val b := by
  have h1 := cast_ne (show a.2 ≠ 0 by omega)
  have h2 := cast_ne (show b.2 ≠ 0 by omega)
  unfold fsub
  rw [val_mk (pos_mul ha hb)]
  unfold val
  rw [Rat.intCast_sub, Rat.intCast_mul, Rat.intCast_mul, Rat.intCast_mul]
  grind
theorem val_mul : val (fmul a b) = val a * val b := by
  have h1 := cast_ne (show a.2 ≠ 0 by omega)
  have h2 := cast_ne (show b.2 ≠ 0 by omega)
  unfold fmul
  rw [val_mk (pos_mul ha hb)]
  unfold val
  rw [Rat.intCast_mul, Rat.intCast_mul]
  grind
theorem val_dv (h0 : b.1 ≠ 0) : val (fdv a b) = val a / val b := by
  have h1 := cast_ne (show a.2 ≠ 0 by omega)
  have h2 := cast_ne (show b.2 ≠ 0 by omega)
  have h3 := cast_ne h0
  have h4 : a.2 * b.1 ≠ 0 := fun z => by
    rcases Int.mul_eq_zero.mp z with h | h
    · omega
    · exact h0 h
  unfold fdv
  rw [val_mk h4]
  unfold val
  rw [Rat.intCast_mul, Rat.intCast_mul]
  grind
theorem flt_iff : flt a b = true ↔ val a < val b := by
  have h1 := cast_pos ha
  have h2 := cast_pos hb
  unfold flt val
  rw [decide_eq_true_iff, ← Rat.intCast_lt_intCast, Rat.intCast_mul, Rat.intCast_mul, Rat.div_lt_iff h1]
  rw [show (b.1 : Rat) / (b.2 : Rat) * (a.2 : Rat) = ((b.1 : Rat) * (a.2 : Rat)) / (b.2 : Rat) by grind, Rat.lt_div_iff h2]
theorem flt_false : flt a b = false ↔ val b ≤ val a := by
  rw [← Rat.not_lt, ← flt_iff ha hb, Bool.not_eq_true]
end
theorem val_lt_of {a : Fr} (ha : 0 < a.2) : 0 ≤ val a ↔ 0 ≤ a.1 := by
  have h1 := cast_pos ha
  unfold val
  rw [← Rat.not_lt, Rat.div_lt_iff h1, Rat.zero_mul, Rat.not_lt]
  exact Rat.intCast_le_intCast
theorem val_pos {a : Fr} (ha : 0 < a.2) : 0 < val a ↔ 0 < a.1 := by
  have h1 := cast_pos ha
  unfold val
  rw [Rat.lt_div_iff h1, Rat.zero_mul]
  exact Rat.intCast_lt_intCast
theorem div_pos' {x y : Rat} (h1 : 0 < x) (h2 : 0 < y) : 0 < x / y := by
  rw [Rat.lt_div_iff h2, Rat.zero_mul]
  exact h1
end Dv

namespace Dv
open PySem PySem.Spec PyProof.Rows L2
/-! ### a value is equal to itself -/
mutual
def shp : Nat → D → Bool
  | _, .non => true
  | _, .bl _ => true
  | _, .int _ => true
  | _, .str x => (PyData.str x).canLay0
  | n + 1, .tup ds => shps n ds
  | n + 1, .lst ds => shps n ds
  | _, _ => false
def shps : Nat → List D → Bool
  | _, [] => true
  | n, d :: ds => shp n d && shps n ds
end
mutual
theorem shp_py : ∀ (n : Nat) (d : D), shp n d = true → ∃ p, toPy d = some p ∧ p.canLay0 = true ∧ p.depth ≤ n ∧ PyData.eqv p p = true
  | n, .non, _ => ⟨.none, by unfold toPy; rfl, by unfold PyData.canLay0; rfl, by unfold PyData.depth; omega, by unfold PyData.eqv; rfl⟩
  | n, .bl b, _ => ⟨.bool b, by unfold toPy; rfl, by unfold PyData.canLay0; rfl, by unfold PyData.depth; omega, by unfold PyData.eqv; simp⟩
  | n, .int i, _ => ⟨.int i, by unfold toPy; rfl, by unfold PyData.canLay0; rfl, by unfold PyData.depth; omega, by unfold PyData.eqv; simp⟩
  | n, .str x, h => ⟨.str x, by unfold toPy; rfl, by unfold shp at h; exact h, by unfold PyData.depth; omega, by unfold PyData.eqv; simp⟩
  | n + 1, .tup ds, h => by
    unfold shp at h
    obtain ⟨l, h1, h2, h3, h4⟩ := shps_py n ds h
    exact ⟨.tuple l, by unfold toPy; rw [h1], by unfold PyData.canLay0; exact h2, by unfold PyData.depth; omega, by unfold PyData.eqv; exact h4⟩
  | n + 1, .lst ds, h => by
    unfold shp at h
    obtain ⟨l, h1, h2, h3, h4⟩ := shps_py n ds h
    exact ⟨.list l, by unfold toPy; rw [h1], by unfold PyData.canLay0; exact h2, by unfold PyData.depth; omega, by unfold PyData.eqv; exact h4⟩
  | 0, .tup _, h => by unfold shp at h; cases h
  | 0, .lst _, h => by unfold shp at h; cases h
  | _, .obj _ _, h => by unfold shp at h; cases h
  | _, .loc _, h => by unfold shp at h; cases h
  | _, .frz _, h => by unfold shp at h; cases h
theorem shps_py : ∀ (n : Nat) (ds : List D), shps n ds = true → ∃ l, toPys ds = some l ∧ PyData.canLayAll0 l = true ∧ PyData.depthAll l ≤ n ∧ PyData.eqvAll l l = true
  | n, [], _ => ⟨[], by unfold toPys; rfl, by unfold PyData.canLayAll0; rfl, by unfold PyData.depthAll; omega, by unfold PyData.eqvAll; rfl⟩
  | n, d :: ds, h => by
    unfold shps at h
    obtain ⟨a, b⟩ := Bool.and_eq_true_iff.mp h
    obtain ⟨p, h1, h2, h3, h4⟩ := shp_py n d a
    obtain ⟨l, k1, k2, k3, k4⟩ := shps_py n ds b
    refine ⟨p :: l, by unfold toPys; rw [h1, k1], by unfold PyData.canLayAll0; rw [h2, k2]; rfl, by unfold PyData.depthAll; omega, by unfold PyData.eqvAll; rw [h4, k4]; rfl⟩
end
theorem eqPy_self {d : D} (h : shp 64 d = true) : eqPy d d = some true := by
  obtain ⟨p, h1, h2, h3, h4⟩ := shp_py 64 d h
  have hs : SeqAt.shaped p = true := by unfold SeqAt.shaped; rw [h2, decide_eq_true h3]; rfl
  unfold eqPy
  rw [h1]
  dsimp only
  rw [if_pos ⟨hs, hs⟩, h4]
theorem dEq_self {ds : List D} (h : shp 64 (.lst ds) = true) : dEq (.lst ds) (.lst ds) = some (.bl true) := by
  unfold dEq
  have e : dEqB (.lst ds) (.lst ds) = some true := by
    cases ds with
    | nil => rfl
    | cons d r => exact eqPy_self h
  rw [e]
theorem shps_all {n : Nat} : ∀ {ds : List D}, (∀ d ∈ ds, shp n d = true) → shps n ds = true
  | [], _ => by unfold shps; rfl
  | d :: ds, h => by
    unfold shps
    rw [h d (by simp), shps_all fun x hx => h x (by simp [hx])]
    rfl
theorem goods_all {n : Nat} : ∀ {ds : List D}, (∀ d ∈ ds, good n d = true) → goods n ds = true
  | [], _ => by unfold goods; rfl
  | d :: ds, h => by
    unfold goods
    rw [h d (by simp), goods_all fun x hx => h x (by simp [hx])]
    rfl
/-! ### comprehensions over a row -/
theorem goC_map {te : UE} {i : Nat} {ω : Om} {ρ : Rho} (f : D → D) : ∀ (ds acc : List D), (∀ d ∈ ds, te ((ρ.set i none).set i (some (.val d))) ω = .ok (f d) ((ρ.set i none).set i (some (.val d))) ω) → acc.length + ds.length ≤ big →
    goC (gN i) uYes te [i] ds acc (ρ.set i none) ω = .ok (acc ++ ds.map f) (ρ.set i none) ω
  | [], acc, _, _ => by unfold goC; simp
  | d :: ds, acc, h, hz => by
    unfold goC
    simp only [gN, uYes, if_true]
    rw [h d (by simp)]
    simp only [List.length_cons] at hz
    dsimp only
    rw [if_pos (by omega)]
    have e : clrs ((ρ.set i none).set i (some (.val d))) [i] = ρ.set i none := by
      show ((ρ.set i none).set i (some (.val d))).set i none = _
      rw [List.set_set, List.set_set]
    rw [e, goC_map f ds (acc ++ [f d]) (fun x hx => h x (by simp [hx])) (by simp; omega)]
    simp
/-- .. whose turns draw -/
theorem goC_inv {te : UE} {i : Nat} {ρ : Rho} (I : Om → Prop) (P : D → Prop) (h : ∀ (d : D) (ω : Om), I ω → ∃ y ω', te ((ρ.set i none).set i (some (.val d))) ω = .ok y ((ρ.set i none).set i (some (.val d))) ω' ∧ I ω' ∧ P y) :
    ∀ (ds acc : List D) (ω : Om), I ω → acc.length + ds.length ≤ big → ∃ ys ω', goC (gN i) uYes te [i] ds acc (ρ.set i none) ω = .ok (acc ++ ys) (ρ.set i none) ω' ∧ I ω' ∧ (∀ y ∈ ys, P y) ∧ ys.length = ds.length
  | [], acc, ω, hI, _ => ⟨[], ω, by unfold goC; simp, hI, by simp, rfl⟩
  | d :: ds, acc, ω, hI, hz => by
    obtain ⟨y, ω1, e1, h1, h2⟩ := h d ω hI
    simp only [List.length_cons] at hz
    obtain ⟨ys, ω2, e2, h3, h4, h5⟩ := goC_inv I P h ds (acc ++ [y]) ω1 h1 (by simp; omega)
    refine ⟨y :: ys, ω2, ?_, h3, fun z hz => ?_, by simp [h5]⟩
    · unfold goC
      simp only [gN, uYes, if_true]
      rw [e1]
      dsimp only
      rw [if_pos (by omega)]
      have e : clrs ((ρ.set i none).set i (some (.val d))) [i] = ρ.set i none := by
        show ((ρ.set i none).set i (some (.val d))).set i none = _
        rw [List.set_set, List.set_set]
      rw [e, e2]
      simp
    · rcases List.mem_cons.mp hz with rfl | q
      · exact h2
      · exact h4 z q
end Dv

namespace Dv
open PySem PySem.Spec PyProof.Rows L2
/-! ### lowest terms: equal worth, equal pairs -/
def Cn (q : Fr) : Prop := 0 < q.2 ∧ Int.gcd q.1 q.2 = 1
theorem mk_cn {t b : Int} (hb : b ≠ 0) : Cn (mk t b) := by
  obtain ⟨q, r, h1, h2, h3, h4⟩ := mk_spec (t := t) hb
  rw [h3]
  refine ⟨h4, ?_⟩
  have hg := gcd_pos_of (t := t) hb
  have hn : (gN' t b).natAbs = Int.gcd t b := by unfold gN'; split <;> simp
  have e : Int.gcd t b = (gN' t b).natAbs * Int.gcd q r := by
    rw [show Int.gcd t b = Int.gcd (gN' t b * q) (gN' t b * r) by rw [← h1, ← h2], Int.gcd_mul_left]
  rw [hn] at e
  have : Int.gcd t b * Int.gcd q r = Int.gcd t b * 1 := by omega
  exact Nat.eq_of_mul_eq_mul_left hg this
theorem dvd_cop {k m n : Int} (h : Int.gcd k m = 1) (d : k ∣ m * n) : k ∣ n := by
  rw [← Int.natAbs_dvd_natAbs, Int.natAbs_mul] at d
  rw [← Int.natAbs_dvd_natAbs]
  exact Nat.Coprime.dvd_of_dvd_mul_left h d
theorem cn_ext {a b : Fr} (ha : Cn a) (hb : Cn b) (h : val a = val b) : a = b := by
  obtain ⟨p, q⟩ := a
  obtain ⟨r, s⟩ := b
  obtain ⟨h1, h2⟩ := ha
  obtain ⟨h3, h4⟩ := hb
  dsimp only at h1 h2 h3 h4
  have hc : p * s = r * q := by
    have c1 := cast_ne (show q ≠ 0 by omega)
    have c2 := cast_ne (show s ≠ 0 by omega)
    unfold val at h
    dsimp only at h
    have : ((p * s : Int) : Rat) = ((r * q : Int) : Rat) := by
      rw [Rat.intCast_mul, Rat.intCast_mul]
      grind
    exact Rat.intCast_inj.mp this
  -- q divides s and s divides q
  have d1 : q ∣ s := by
    have : q ∣ p * s := ⟨r, by rw [hc, Int.mul_comm]⟩
    exact dvd_cop (by rw [Int.gcd_comm]; exact h2) this
  have d2 : s ∣ q := by
    have : s ∣ r * q := ⟨p, by rw [← hc, Int.mul_comm]⟩
    exact dvd_cop (by rw [Int.gcd_comm]; exact h4) this
  have e : q = s := Int.dvd_antisymm (by omega) (by omega) d1 d2
  subst e
  have : p = r := Int.eq_of_mul_eq_mul_right (by omega) hc
  rw [this]
theorem cn_01 : Cn ((0, 1) : Fr) := ⟨by decide, by decide⟩
theorem cn_sum {a b : Fr} (ha : 0 < a.2) (hb : 0 < b.2) : Cn (fsum a b) := mk_cn (pos_mul ha hb)
theorem cn_sub {a b : Fr} (ha : 0 < a.2) (hb : 0 < b.2) : Cn (fsub a b) := mk_cn (pos_mul ha hb)
theorem cn_mul {a b : Fr} (ha : 0 < a.2) (hb : 0 < b.2) : Cn (fmul a b) := mk_cn (pos_mul ha hb)
/-! ### fractions compared as pairs -/
theorem dEq_fr (a b : Fr) : dEq (encF a) (encF b) = some (.bl (decide (a = b))) := by
  obtain ⟨a1, a2⟩ := a
  obtain ⟨b1, b2⟩ := b
  have e : eqPy (.tup [.int a1, .int a2]) (.tup [.int b1, .int b2]) = some (decide ((a1, a2) = (b1, b2))) := by
    have hs : ∀ i j : Int, SeqAt.shaped (.tuple [.int i, .int j]) = true := fun i j => by
      simp [SeqAt.shaped, PyData.canLay0, PyData.canLayAll0, PyData.depth, PyData.depthAll]
    have t : ∀ i j : Int, toPy (.tup [.int i, .int j]) = some (.tuple [.int i, .int j]) := fun i j => by simp [toPy, toPys]
    unfold eqPy
    rw [t, t]
    dsimp only
    rw [if_pos ⟨hs _ _, hs _ _⟩]
    congr 1
    simp only [PyData.eqv, PyData.eqvAll, Bool.and_true]
    by_cases h1 : a1 = b1 <;> by_cases h2 : a2 = b2 <;> simp [h1, h2]
  show (match dEqB (.tup [.int a1, .int a2]) (.tup [.int b1, .int b2]) with | some b => some (D.bl b) | none => none) = _
  rw [show dEqB (.tup [.int a1, .int a2]) (.tup [.int b1, .int b2]) = eqPy (.tup [.int a1, .int a2]) (.tup [.int b1, .int b2]) from rfl, e]
theorem dNe_fr (a b : Fr) : dNe (encF a) (encF b) = some (.bl (!decide (a = b))) := by
  have h := dEq_fr a b
  unfold dEq at h
  unfold dNe
  cases e : dEqB (encF a) (encF b) with
  | none => rw [e] at h; cases h
  | some x => rw [e] at h; cases h; rfl
theorem dNe_self {ds : List D} (h : shp 64 (.lst ds) = true) : dNe (.lst ds) (.lst ds) = some (.bl false) := by
  have h := dEq_self h
  unfold dEq at h
  unfold dNe
  cases e : dEqB (.lst ds) (.lst ds) with
  | none => rw [e] at h; cases h
  | some x => rw [e] at h; cases h; rfl
theorem val_int1 (i : Int) : val (i, 1) = (i : Rat) := by
  unfold val
  simp only [Rat.div_def]
  rw [show ((1 : Int) : Rat) = 1 from rfl]
  grind
theorem val_nn_mk {t b : Int} (hb : 0 < b) (ht : 0 ≤ t) : 0 ≤ val (mk t b) := by
  rw [val_mk (by omega)]
  have h1 := cast_pos hb
  rw [← Rat.not_lt, Rat.div_lt_iff h1, Rat.zero_mul, Rat.not_lt]
  exact Rat.intCast_le_intCast.mpr ht
theorem val_pos_mk {t b : Int} (hb : 0 < b) (ht : 0 < t) : 0 < val (mk t b) := by
  rw [val_mk (by omega)]
  have h1 := cast_pos hb
  rw [Rat.lt_div_iff h1, Rat.zero_mul]
  exact cast_pos ht
end Dv

namespace Dv
open PySem PySem.Spec PyProof.Rows L2
/-! ### common denominators -/
structure Dn (D : Nat) (q : Fr) : Prop where
  cn : Cn q
  z : ∃ z : Int, val q * (D : Rat) = (z : Rat)
theorem dn_sum {D : Nat} {a b : Fr} (ha : Dn D a) (hb : Dn D b) : Dn D (fsum a b) := by
  obtain ⟨x, hx⟩ := ha.z
  obtain ⟨y, hy⟩ := hb.z
  refine ⟨cn_sum ha.cn.1 hb.cn.1, x + y, ?_⟩
  rw [val_sum ha.cn.1 hb.cn.1, Rat.add_mul, hx, hy, Rat.intCast_add]
theorem dn_sub {D : Nat} {a b : Fr} (ha : Dn D a) (hb : Dn D b) : Dn D (fsub a b) := by
  obtain ⟨x, hx⟩ := ha.z
  obtain ⟨y, hy⟩ := hb.z
  refine ⟨cn_sub ha.cn.1 hb.cn.1, x - y, ?_⟩
  rw [val_sub ha.cn.1 hb.cn.1, Rat.intCast_sub, ← hx, ← hy]
  grind
theorem cast_mulN (a b : Nat) : ((a * b : Nat) : Rat) = (a : Rat) * (b : Rat) := by
  have : ((a * b : Nat) : Rat) = (((a * b : Nat) : Int) : Rat) := rfl
  rw [this, Int.natCast_mul, Rat.intCast_mul]
  rfl
theorem dn_up {D X : Nat} {a : Fr} (ha : Dn D a) : Dn (D * X) a := by
  obtain ⟨x, hx⟩ := ha.z
  refine ⟨ha.cn, x * (X : Int), ?_⟩
  rw [cast_mulN, ← Rat.mul_assoc, hx, Rat.intCast_mul]
  rfl
theorem dn_mul {D X : Nat} {a p : Fr} (ha : Dn D a) (hp : Dn X p) : Dn (D * X) (fmul a p) := by
  obtain ⟨x, hx⟩ := ha.z
  obtain ⟨y, hy⟩ := hp.z
  refine ⟨cn_mul ha.cn.1 hp.cn.1, x * y, ?_⟩
  rw [val_mul ha.cn.1 hp.cn.1, cast_mulN, Rat.intCast_mul, ← hx, ← hy]
  grind
theorem dn_div {D X : Nat} {a p : Fr} (ha : Dn D a) (hp : 0 < p.2) (p1 : p.1 ≠ 0) (hy : ∃ y : Int, 1 / val p * (X : Rat) = (y : Rat)) : Dn (D * X) (fdv a p) := by
  obtain ⟨x, hx⟩ := ha.z
  obtain ⟨y, hy⟩ := hy
  refine ⟨?_, x * y, ?_⟩
  · unfold fdv
    exact mk_cn (fun z => by
      rcases Int.mul_eq_zero.mp z with q | q
      · have := ha.cn.1; omega
      · exact p1 q)
  · rw [val_dv ha.cn.1 hp p1, cast_mulN, Rat.intCast_mul, ← hx, ← hy]
    simp only [Rat.div_def]
    grind
/-- a fraction of few bits -/
theorem dn_bd {D V N : Nat} {q : Fr} (h : Dn D q) (hD : 0 < D) (h1 : -(V : Rat) ≤ val q) (h2 : val q ≤ (V : Rat)) (hv : (V + 1) * D < 2 ^ N) : Bd N q := by
  obtain ⟨z, hz⟩ := h.z
  have hp := h.cn.1
  have c2 := cast_pos hp
  have c0 := cast_ne (show q.2 ≠ 0 by omega)
  -- the bottom
  have e1 : q.1 * (D : Int) = z * q.2 := by
    have e2 : val q * (q.2 : Rat) = (q.1 : Rat) := by
      unfold val
      rw [Rat.div_def, Rat.mul_assoc, Rat.inv_mul_cancel _ c0]
      grind
    have : ((q.1 * (D : Int) : Int) : Rat) = ((z * q.2 : Int) : Rat) := by
      rw [Rat.intCast_mul, Rat.intCast_mul, ← hz, ← e2]
      have : (((D : Nat) : Int) : Rat) = (D : Rat) := rfl
      rw [this]
      grind
    exact Rat.intCast_inj.mp this
  have dv : q.2 ∣ (D : Int) := by
    have d1 : q.2 ∣ q.1 * (D : Int) := ⟨z, by rw [e1, Int.mul_comm]⟩
    have d2 := Int.natAbs_dvd_natAbs.mpr d1
    rw [Int.natAbs_mul, Int.natAbs_natCast] at d2
    have g : Nat.Coprime q.2.natAbs q.1.natAbs := by
      have := h.cn.2
      unfold Nat.Coprime
      rw [Nat.gcd_comm]
      exact this
    have d3 := Nat.Coprime.dvd_of_dvd_mul_left g d2
    exact Int.natAbs_dvd_natAbs.mp (by rw [Int.natAbs_natCast]; exact d3)
  have le : q.2 ≤ (D : Int) := Int.le_of_dvd (by omega) dv
  -- the top
  have t2 : q.1 ≤ (V : Int) * q.2 := by
    have := h2
    unfold val at this
    rw [← Rat.not_lt, Rat.lt_div_iff c2, Rat.not_lt] at this
    have e : (((V : Int) * q.2 : Int) : Rat) = (V : Rat) * (q.2 : Rat) := by rw [Rat.intCast_mul]; rfl
    rw [← e] at this
    exact Rat.intCast_le_intCast.mp this
  have t1 : -((V : Int) * q.2) ≤ q.1 := by
    have h3 : -(val q) ≤ (V : Rat) := by grind
    have h4 : (-(q.1 : Rat)) / (q.2 : Rat) ≤ (V : Rat) := by
      have : (-(q.1 : Rat)) / (q.2 : Rat) = -(val q) := by unfold val; simp only [Rat.div_def]; grind
      rw [this]; exact h3
    have := h4
    rw [← Rat.not_lt, Rat.lt_div_iff c2, Rat.not_lt] at this
    have e : (((V : Int) * q.2 : Int) : Rat) = (V : Rat) * (q.2 : Rat) := by rw [Rat.intCast_mul]; rfl
    have e3 : ((-q.1 : Int) : Rat) = -(q.1 : Rat) := Rat.intCast_neg q.1
    rw [← e, ← e3] at this
    have := Rat.intCast_le_intCast.mp this
    omega
  have m : (V : Int) * q.2 ≤ (V : Int) * (D : Int) := Int.mul_le_mul_of_nonneg_left le (by omega)
  have m2 : ((V * D : Nat) : Int) = (V : Int) * (D : Int) := by rw [Int.natCast_mul]
  have m3 : (V + 1) * D = V * D + D := by rw [Nat.add_mul, Nat.one_mul]
  refine ⟨hp, ?_, ?_⟩
  · generalize (2 : Nat) ^ N = P at *
    omega
  · generalize (2 : Nat) ^ N = P at *
    omega
theorem dn_of {D : Nat} {q : Fr} (h : Cn q) (hd : q.2 ∣ (D : Int)) : Dn D q := by
  obtain ⟨k, hk⟩ := hd
  refine ⟨h, q.1 * k, ?_⟩
  have c0 := cast_ne (show q.2 ≠ 0 by have := h.1; omega)
  have e : (D : Rat) = (q.2 : Rat) * (k : Rat) := by
    have : ((D : Int) : Rat) = ((q.2 * k : Int) : Rat) := by rw [hk]
    rw [Rat.intCast_mul] at this
    exact this
  rw [e, Rat.intCast_mul]
  unfold val
  rw [Rat.div_def, ← Rat.mul_assoc, Rat.mul_assoc (q.1 : Rat), Rat.inv_mul_cancel _ c0]
  grind
@[reducible] def L30 : Nat := 2329089562800
theorem dvd_30 {d : Int} (h0 : 0 < d) (h1 : d ≤ 30) : d ∣ (L30 : Int) := by
  have : ∀ k : Fin 31, 0 < k.val → ((k.val : Nat) : Int) ∣ (L30 : Int) := by decide
  have := this ⟨d.toNat, by omega⟩ (by show 0 < d.toNat; omega)
  have e : ((d.toNat : Nat) : Int) = d := by omega
  rw [← e]
  exact this
end Dv

namespace Dv
open PySem PySem.Spec PyProof.Rows L2
/-! ### an own list lent to a call: the call tells nothing of it and leaves no list behind -/
mutual
def flat : D → Bool
  | .non => true
  | .bl _ => true
  | .int _ => true
  | .str _ => true
  | .loc _ => true
  | .tup ds => flats ds
  | .frz ds => flats ds
  | .lst _ => false
  | .obj _ _ => false
def flats : List D → Bool
  | [] => true
  | d :: ds => flat d && flats ds
end
def flatFs : List (Str × D) → Bool
  | [] => true
  | (_, d) :: r => flat d && flatFs r
def cellFlat : Cell → Bool
  | .gone => true
  | .lst ds => flats ds
  | .ins _ fs => flatFs fs
def omFlat : Om → Bool
  | [] => true
  | c :: r => cellFlat c && omFlat r
section
variable {g : G} {al : List Addr} {L L' : Addr → Prop} {H : Hp}
mutual
theorem RepV.flt : ∀ {v : V} {d : D}, Dv.flat d = true → RepV g al L H v d → RepV g al L' H v d
  | _, _, _, .non => .non
  | _, _, _, .bl => .bl
  | _, _, _, .int => .int
  | _, _, _, .str => .str
  | _, _, f, .tup h r => .tup h (RepVs.flt (by unfold Dv.flat at f; exact f) r)
  | _, _, f, .lst h n r => by unfold Dv.flat at f; cases f
  | _, _, f, .frz h r => .frz h (RepVs.flt (by unfold Dv.flat at f; exact f) r)
  | _, _, f, .obj h n r => by unfold Dv.flat at f; cases f
  | _, _, _, .loc h => .loc h
theorem RepVs.flt : ∀ {vs : List V} {ds : List D}, flats ds = true → RepVs g al L H vs ds → RepVs g al L' H vs ds
  | _, _, _, .nil => .nil
  | _, _, f, .cons h r => .cons (RepV.flt (by unfold flats at f; exact (Bool.and_eq_true_iff.mp f).1) h) (RepVs.flt (by unfold flats at f; exact (Bool.and_eq_true_iff.mp f).2) r)
end
theorem RepFs.flt : ∀ {vs : List (Str × V)} {ds : List (Str × D)}, flatFs ds = true → RepFs g al L H vs ds → RepFs g al L' H vs ds
  | _, _, _, .nil => .nil
  | _, _, f, .cons h r => .cons (h.flt (by unfold flatFs at f; exact (Bool.and_eq_true_iff.mp f).1)) (RepFs.flt (by unfold flatFs at f; exact (Bool.and_eq_true_iff.mp f).2) r)
theorem CellR.flt {a : Addr} : ∀ {c : Cell}, cellFlat c = true → CellR g al L H a c → CellR g al L' H a c
  | .gone, _, _ => trivial
  | .lst ds, f, ⟨vs, h, r⟩ => ⟨vs, h, r.flt f⟩
  | .ins c fs, f, ⟨dx, fvs, h, r⟩ => ⟨dx, fvs, h, r.flt f⟩
theorem omFlat_get : ∀ {om : Om} {i : Nat} {c : Cell}, omFlat om = true → om[i]? = some c → cellFlat c = true
  | [], i, c, _, h => by simp at h
  | x :: om, 0, c, f, h => by
    simp at h
    subst h
    unfold omFlat at f
    exact (Bool.and_eq_true_iff.mp f).1
  | x :: om, i + 1, c, f, h => by
    unfold omFlat at f
    exact omFlat_get (Bool.and_eq_true_iff.mp f).2 (by simpa using h)
end
section
variable {g : G} {R : Addr → Prop} {al al' : List Addr} {om om' : Om} {σ σ' : St} {ρ ρ' : Rho} {H H' : Hp} {W : WX} {X : Cx} {i : Nat} {v : V} {d : D} {x y : Str} {ps : List Str} {k n : Nat} {S : FN} {p0 p1 pos : Pos} {es : List Expr} {us : UA}
def uCallL (i n : Nat) (S : FN) (us : UA) : UE := fun ρ ω => match ρ[i]? with
  | some (some (.own _)) => (us ρ ω).bind fun ds ρ ω => (match ρ[i]? with
    | some (some (.own xs)) => if ds.length + 1 = n then (match S (.lst xs :: ds) ω with
      | .ok d ω' => if flat d = true ∧ omFlat ω' = true then .ok d ρ ω' else .no
      | _ => .no) else .no
    | _ => .no)
  | _ => .no
theorem pu_callL (i : Nat) (h : Has X.prog X.w X.K X.mg X.base x ps k (spU g n S)) (hr : Room k X.A) (ha : PA X es (tA g W us)) (hN : X.N[i]? = some y := by rfl) (hv : Vis X.env.scope y := by first | exact Or.inl rfl | exact Or.inr (Or.inl rfl) | exact Or.inr (Or.inr rfl)) (hg : Gl X x := by rfl) (hpn : ps.length = n := by rfl)
    (hdb : (x == ("__debug__" : Str)) = false := by decide) (hd : (y == ("__debug__" : Str)) = false := by decide) (hcd : (y == ("__classdict__" : Str)) = false := by decide)
    (he : starEach (.Name y p1 :: es) X.env = (false, eval (.Name y p1) X.env) :: starEach es X.env := by rfl) (hpl : (backTo pos (starEach es X.env)).any (·.1) = false := by rfl) : PE X (.Call (.Name x p0) (.Name y p1 :: es) [] pos) (tE g W (uCallL i n S us)) := by
  subst hpn
  obtain ⟨f, fd, hm, hk, hb, F⟩ := h
  refine peImp (pe_call F hr hg hm hk hb .nil passL (pa_cons (pe_var hN hv hd hcd) ha) hdb he hpl) fun σ H Q ⟨R, ρ, om, al, St, P⟩ => ?_
  unfold uCallL at P
  split at P
  · rename_i xs0 e0
    obtain ⟨a, vs0, q1, q2, q3⟩ := St.own i xs0 e0
    refine ⟨_, q1, tR_bind St P fun ds ρ1 om1 vs H1 al1 s1 S1 r1 P1 => ?_⟩
    split at P1
    · rename_i xs e1
      split at P1
      · rename_i hl
        obtain ⟨a', vx, k1, k2, k3⟩ := S1.own i xs e1
        rw [q1] at k1
        cases k1
        obtain ⟨S', st, hn⟩ := S1.moveOwn e1 q1
        have ll : ∀ b, LL R al1 om1 σ (ρ1.set i none) b → LL R al1 om1 σ ρ1 b := fun b m => by
          rcases m with (m | ⟨j, dj, z1, z2⟩) | m
          · exact .inl (.inl m)
          · rcases getset z1 with ⟨_, q⟩ | ⟨_, q⟩
            · cases q
            · exact .inl (.inr ⟨j, dj, q, z2⟩)
          · exact .inr m
        have r2 : RepVs g al1 (LL R al1 om1 σ (ρ1.set i none)) H1 (.ref a :: vs) (.lst xs :: ds) := .cons (.lst k2 hn (k3.car (carL ll))) (r1.car (carL ll))
        rw [List.append_nil]
        refine ⟨by rw [List.length_cons, RepVs.length r1]; exact hl, RC R σ (ρ1.set i none), .lst xs :: ds, om1, al1, S'.forCall, r2.car (carL fun a h => lf_ll.mp h), ?_⟩
        cases e9 : S (.lst xs :: ds) om1 with
        | xc _ _ => rw [e9] at P1; exact P1.elim
        | no => rw [e9] at P1; exact P1.elim
        | ok d om' =>
          rw [e9] at P1
          dsimp only at P1
          split at P1
          · rename_i hf
            intro v H' al' s o rv
            have T : Step al1 (Mt al1 om1 σ ρ1) H1 al' (Mt al' om' σ ρ1) H' := ⟨s.ext, fun b o h n => s.keep b o h fun m => n (.inl m), fun b m => by
              rcases m with m | m
              · exact (s.fresh b m).imp .inl id
              · exact .inl (.inr m)⟩
            refine P1 v H' al' T ⟨⟨o.len, fun j c b h1 h2 => (o.cel j c b h1 h2).flt (omFlat_get hf.2 h1), o.inj, fun b h => o.rsv b (.inl h)⟩, S1.sl, fun j d h => ?_, fun j dj h => ?_, S1.odj, fun b h => ⟨fun z => ?_, (S1.ocl b h).2⟩⟩ (rv.flt hf.1)
            · obtain ⟨w, h1, h2⟩ := S1.val j d h
              exact ⟨w, h1, T.rep S1 h2⟩
            · obtain ⟨b, ws, h1, h2, h3⟩ := S1.own j dj h
              exact ⟨b, ws, h1, s.keep b _ h2 (S1.ocl b ⟨j, dj, h, h1⟩).1, T.reps S1 h3⟩
            · obtain ⟨j, dj, z1, z2⟩ := id h
              obtain ⟨b', ws, h1, h2, h3⟩ := S1.own j dj z1
              rw [z2] at h1
              cases h1
              rcases s.fresh b z with q | q
              · exact (S1.ocl b h).1 q
              · rw [h2] at q; cases q
          · exact P1.elim
      · exact P1.elim
    · exact P1.elim
  · exact P.elim
end
end Dv

namespace Dv
open PySem PySem.Spec PyProof.Rows L2
/-! ### texts: methods of one argument -/
@[simp] def uM1 (f : Str → D → Option D) (ua ub : UE) : UE := fun ρ ω => (ua ρ ω).bind fun x ρ ω => match x with
  | .str a => (ub ρ ω).bind fun y ρ ω => liftO (f a y) ρ ω
  | _ => .no
def fJoin (a : Str) : D → Option D
  | .lst ys => match asStrs ys with
    | some ss => if (ss.map (·.length)).sum + ss.length * a.length ≤ big then some (.str (Txt.join a ss)) else none
    | none => none
  | _ => none
def fSplit (a : Str) : D → Option D
  | .str b => if (b.length == 0) = false ∧ a.length + 2 ≤ big then some (.lst ((Txt.split a b).map D.str)) else none
  | _ => none
def fPart (a : Str) : D → Option D
  | .str b => if (b.length == 0) = false ∧ a.length ≤ big then some (.tup [.str (Txt.partition a b).1, .str (Txt.partition a b).2.1, .str (Txt.partition a b).2.2]) else none
  | _ => none
def fLstripC (a : Str) : D → Option D
  | .str b => if a.length ≤ big then some (.str (Txt.lstripChars a b)) else none
  | _ => none
/-- x or y, by the truth of a text -/
@[simp] def uOrS (ua ub : UE) : UE := fun ρ ω => (ua ρ ω).bind fun x ρ ω => match x with
  | .str a => if a.length ≤ big then (if a.length = 0 then ub ρ ω else .ok (.str a) ρ ω) else .no
  | _ => .no
def dInS : D → D → Option D
  | .str i, .str j => some (.bl (!(Builtin.Str.occurrences j i 0 j.length 1).isEmpty))
  | _, _ => none
/-- x * n of a text -/
def dMulS : D → D → Option D
  | .str x, .int n => if 1 ≤ n ∧ n ≤ 1000 ∧ 1 ≤ x.length ∧ x.length ≤ 1000 then some (.str ⟨(List.replicate n.toNat x.cps).foldl (· ++ ·) #[]⟩) else none
  | _, _ => none
section
variable {g : G} {R : Addr → Prop} {al : List Addr} {om : Om} {σ : St} {ρ : Rho} {H H' : Hp} {W : WX} {X : Cx} {L : Addr → Prop} {v : V} {d : D}
variable {a b e o : Expr} {ua ub ue : UE} {es : List Expr} {us : UA} {p0 pos p1 apos : Pos} {x : Str} {f : Str → D → Option D} {r : V → List V → Hp → VK → Prop} {id : String} {name : Str}
def M1S (g : G) (r : V → List V → Hp → VK → Prop) (f : Str → D → Option D) : Prop := ∀ (R : Addr → Prop) (W : WX) (al : List Addr) (om : Om) (σ : St) (ρ : Rho) (H : Hp) (Q : VK) (a : Str) (w : V) (y : D), Rst g R al σ ρ om H → RepV g al (LL R al om σ ρ) H w y →
  PostR g R W (relV g) al (Mt al om σ ρ) H σ (liftO (f a y) ρ om) Q → r (.str a) [w] H Q
theorem tM1_of (hf : M1S g r f) {Q : VK} (h : tE g W (uM1 f ua ub) σ H Q) : tM1 r (tE g W ua) (tE g W ub) σ H Q := by
  obtain ⟨R, ρ, om, al, S, P⟩ := h
  refine tR_bind S P fun x ρ1 om1 v H1 al1 s1 S1 r1 P1 => ?_
  cases x <;> first | exact P1.elim | skip
  cases r1
  exact ⟨⟨_, rfl⟩, tR_bind S1 P1 fun y ρ2 om2 w H2 al2 s2 S2 r2 P2 => hf R W al2 om2 σ ρ2 H2 Q _ w y S2 r2 P2⟩
theorem pu_m1 (slot : Slot "str" name id) (ty : typeOf (.builtin id) = pure (.type "method_descriptor")) (rule : MtR X id r) (hf : M1S g r f) (ho : PE X o (tE g W ua)) (he : PE X e (tE g W ub))
    (hs : starEach [e] X.env = [(false, eval e X.env)] := by rfl) (hbase : attributeBase o name X.env (eval o X.env) = eval o X.env := by rfl) (hline : (apos.endLine == pos.line) = true := by rfl) :
    PE X (.Call (.Attribute o name apos) [e] [] pos) (tE g W (uM1 f ua ub)) := peImp (pe_m1 slot ty rule ho he hs hbase hline) fun σ H Q h => tM1_of hf h
theorem s_join {K : PySem.W.Frag} : M1S g (fun x xs H Q => ∃ a p, ∃ ys : List Str, x = .str a ∧ xs = [.ref p] ∧ (SqL K H p (ys.map V.str) ∨ SqT K H p (ys.map V.str)) ∧
    (ys.map (·.length)).sum + ys.length * a.length ≤ 16777216 ∧ Q (.str (Txt.join a ys)) H) fJoin := by
  intro R W al om σ ρ H Q a w y S r P
  cases y <;> first | exact P.elim | skip
  rename_i ds
  unfold fJoin at P
  dsimp only at P
  cases e : asStrs ds with
  | none => rw [e] at P; exact P.elim
  | some ss =>
    rw [e] at P
    dsimp only at P
    split at P
    · rename_i hz
      cases r with
      | lst h1 h2 h3 =>
        rw [asStrs_eq e] at h3
        rw [h3.strs] at h1
        exact ⟨a, _, ss, rfl, rfl, .inl (SqL.of h1), Nat.le_trans hz (by decide), okSame S P .str⟩
    · exact P.elim
theorem s_split : M1S g (fun x xs H Q => ∃ a b, x = .str a ∧ xs = [.str b] ∧ (b.length == 0) = false ∧ a.length + 2 ≤ sizeLine ∧ rNewStrs (Txt.split a b) H Q) fSplit := by
  intro R W al om σ ρ H Q a w y S r P
  cases y <;> first | exact P.elim | skip
  cases r
  unfold fSplit at P
  dsimp only at P
  split at P
  · rename_i hz
    exact ⟨a, _, rfl, rfl, hz.1, big_line hz.2, fun p hp => okNewL S P hp .of_strs⟩
  · exact P.elim
theorem s_part : M1S g (fun x xs H Q => ∃ a b, x = .str a ∧ xs = [.str b] ∧ (b.length == 0) = false ∧ a.length ≤ sizeLine ∧
    ∀ p, H p = none → Q (.ref p) (upd H p (.tup [.str (Txt.partition a b).1, .str (Txt.partition a b).2.1, .str (Txt.partition a b).2.2]))) fPart := by
  intro R W al om σ ρ H Q a w y S r P
  cases y <;> first | exact P.elim | skip
  cases r
  unfold fPart at P
  dsimp only at P
  split at P
  · rename_i hz
    exact ⟨a, _, rfl, rfl, hz.1, big_line hz.2, fun p hp => okNewT S P hp (.cons .str (.cons .str (.cons .str .nil)))⟩
  · exact P.elim
theorem s_lstripC : M1S g (fun x xs H Q => ∃ a b, x = .str a ∧ xs = [.str b] ∧ a.length ≤ sizeLine ∧ Q (.str (Txt.lstripChars a b)) H) fLstripC := by
  intro R W al om σ ρ H Q a w y S r P
  cases y <;> first | exact P.elim | skip
  cases r
  unfold fLstripC at P
  dsimp only at P
  split at P
  · rename_i hz
    exact ⟨a, _, rfl, rfl, big_line hz, okSame S P .str⟩
  · exact P.elim
theorem pu_join (ho : PE X o (tE g W ua)) (he : PE X e (tE g W ub)) (hs : starEach [e] X.env = [(false, eval e X.env)] := by rfl) (hbase : attributeBase o "join" X.env (eval o X.env) = eval o X.env := by rfl) (hline : (apos.endLine == pos.line) = true := by rfl) :
    PE X (.Call (.Attribute o "join" apos) [e] [] pos) (tE g W (uM1 fJoin ua ub)) := pu_m1 F.slot_str_join F.type_str_join mt_join s_join ho he hs hbase hline
theorem pu_split (ho : PE X o (tE g W ua)) (he : PE X e (tE g W ub)) (hs : starEach [e] X.env = [(false, eval e X.env)] := by rfl) (hbase : attributeBase o "split" X.env (eval o X.env) = eval o X.env := by rfl) (hline : (apos.endLine == pos.line) = true := by rfl) :
    PE X (.Call (.Attribute o "split" apos) [e] [] pos) (tE g W (uM1 fSplit ua ub)) := pu_m1 F.slot_str_split F.type_str_split mt_split s_split ho he hs hbase hline
theorem pu_part (ho : PE X o (tE g W ua)) (he : PE X e (tE g W ub)) (hs : starEach [e] X.env = [(false, eval e X.env)] := by rfl) (hbase : attributeBase o "partition" X.env (eval o X.env) = eval o X.env := by rfl) (hline : (apos.endLine == pos.line) = true := by rfl) :
    PE X (.Call (.Attribute o "partition" apos) [e] [] pos) (tE g W (uM1 fPart ua ub)) := pu_m1 F.slot_str_partition F.type_str_partition mt_partition s_part ho he hs hbase hline
theorem pu_lstripC (ho : PE X o (tE g W ua)) (he : PE X e (tE g W ub)) (hs : starEach [e] X.env = [(false, eval e X.env)] := by rfl) (hbase : attributeBase o "lstrip" X.env (eval o X.env) = eval o X.env := by rfl) (hline : (apos.endLine == pos.line) = true := by rfl) :
    PE X (.Call (.Attribute o "lstrip" apos) [e] [] pos) (tE g W (uM1 fLstripC ua ub)) := pu_m1 F.slot_str_lstrip F.type_str_lstrip mt_lstripChars s_lstripC ho he hs hbase hline
theorem pu_orS (ha : PE X a (tE g W ua)) (hb : PE X b (tE g W ub)) : PE X (.BoolOp .Or [a, b] pos) (tE g W (uOrS ua ub)) :=
  peImp (pe_orT ha (pe_one hb)) fun σ H Q ⟨R, ρ, om, al, S, P⟩ => tR_bind S P fun x ρ1 om1 v H1 al1 s1 S1 r1 P1 => by
    cases x <;> first | exact P1.elim | skip
    cases r1
    rename_i y
    dsimp only at P1
    split at P1
    · rename_i hz
      refine ⟨_, ⟨big_line hz, rfl⟩, ?_⟩
      by_cases h0 : y.length = 0
      · rw [if_pos h0] at P1
        have e : (((y.length : Nat) : Int) != 0) = false := by rw [h0]; rfl
        rw [e]
        exact ⟨R, ρ1, om1, al1, S1, P1⟩
      · rw [if_neg h0] at P1
        have e : (((y.length : Nat) : Int) != 0) = true := by
          simp only [bne_iff_ne, ne_eq]
          omega
        rw [e]
        exact okSame S1 P1 .str
    · exact P1.elim
def rNotInS : R2 := fun x y H Q => ∃ i j, x = .str i ∧ y = .str j ∧ Q (.bl (!(!(Builtin.Str.occurrences j i 0 j.length 1).isEmpty))) H
theorem s_notin : OpS g rNotInS dNotIn := by
  intro R W al om σ ρ H Q v w x y S rx ry P
  cases x <;> cases y <;> first | exact P.elim | skip
  cases rx.str; cases ry.str
  exact ⟨_, _, rfl, rfl, okSame S P .bl⟩
theorem s_inS : OpS g (fun x y H Q => ∃ i j, x = .str i ∧ y = .str j ∧ Q (.bl (!(Builtin.Str.occurrences j i 0 j.length 1).isEmpty)) H) dInS := by
  intro R W al om σ ρ H Q v w x y S rx ry P
  cases x <;> cases y <;> first | exact P.elim | skip
  cases rx.str; cases ry.str
  exact ⟨_, _, rfl, rfl, okSame S P .bl⟩
theorem dNotIn_sign (c : Nat) (z : Str) : dNotIn (.str ⟨#[c]⟩) (.str z) = some (.bl (!decide (c ∈ z.cps.toList))) := by
  show some (D.bl (!(!(Builtin.Str.occurrences z ⟨#[c]⟩ 0 z.length 1).isEmpty))) = _
  rw [PySem.StrLaws.found_one z c]
theorem rep_size (x : Array Nat) : ∀ (n : Nat) (acc : Array Nat), ((List.replicate n x).foldl (· ++ ·) acc).size = acc.size + n * x.size
  | 0, acc => by simp
  | n + 1, acc => by
    rw [List.replicate_succ, List.foldl_cons, rep_size x n, Array.size_append, Nat.succ_mul]
    omega
def rMulS : R2 := fun x y H Q => ∃ z n, x = .str z ∧ y = .int n ∧ (1 ≤ n ∧ n ≤ 1000 ∧ 1 ≤ z.length ∧ z.length ≤ 1000) ∧ Q (.str ⟨(List.replicate n.toNat z.cps).foldl (· ++ ·) #[]⟩) H
theorem op_mulS : OpR X (binaryOp .Mult) rMulS := by
  intro pins s σ H x y v u Q I rx ry h
  obtain ⟨z, n, rfl, rfl, ⟨h1, h2, h3, h4⟩, q⟩ := h
  obtain ⟨t, rfl⟩ := rx
  obtain ⟨t', rfl⟩ := ry
  have hz : z.length * n.toNat ≤ 1000 * 1000 := Nat.mul_le_mul h4 (by omega)
  refine PySem.P.mul_str ?_ (fun _ _ => ?_) (fun _ _ => ?_) ?_
  · rw [decide_eq_false (by omega), decide_eq_false (by omega)]; rfl
  · have : (1000 : Int) ≤ (2 ^ 63 - 1) / n := by
      refine (Int.le_ediv_iff_mul_le (by omega)).mpr ?_
      omega
    omega
  · have e : sizeLine = 16777216 := sizeLine_eq
    unfold Builtin.Str.tooLong
    first
      | exact decide_eq_false (by omega)
      | (simp; omega)
  · rw [if_neg (by omega)]
    by_cases hn : n = 1
    · subst hn
      have e : ((1 : Int) == 1 || z.length == 0) = true := rfl
      rw [if_pos e]
      refine ⟨.str z, H, I, ⟨t, rfl⟩, ?_⟩
      have e2 : (⟨(List.replicate (1 : Int).toNat z.cps).foldl (· ++ ·) #[]⟩ : Str) = z := by simp
      rw [e2] at q
      exact q
    · have e : (n == 1 || z.length == 0) = false := by simp; omega
      rw [if_neg (by rw [e]; decide)]
      refine ⟨?_, ?_⟩
      · have e3 : sizeLine = 16777216 := sizeLine_eq
        have e4 := rep_size z.cps n.toNat #[]
        have e5 : z.cps.size = z.length := rfl
        show (⟨(List.replicate n.toNat z.cps).foldl (· ++ ·) #[]⟩ : Str).length ≤ sizeLine
        show ((List.replicate n.toNat z.cps).foldl (· ++ ·) #[]).size ≤ sizeLine
        rw [e4, e5, Nat.mul_comm]
        simp only [List.size_toArray, List.length_nil]
        omega
      · exact ⟨.str _, H, I.tok _, ⟨_, rfl⟩, q⟩
theorem s_mulS : OpS g rMulS dMulS := by
  intro R W al om σ ρ H Q v w x y S rx ry P
  cases x <;> cases y <;> first | exact P.elim | skip
  cases rx.str; cases ry.int
  unfold dMulS at P
  dsimp only at P
  split at P
  · rename_i hz
    exact ⟨_, _, rfl, rfl, hz, okSame S P .str⟩
  · exact P.elim
end
end Dv

namespace Dv
open PySem PySem.Spec PyProof.Rows L2
/-! ### texts as lists of signs -/
abbrev tx (l : List Nat) : D := .str ⟨l.toArray⟩
theorem tx_of (s : String) (l : List Nat) (h : s.toList.map Char.toNat = l) : D.str (Str.ofString s) = tx l := by
  have : Str.ofString s = ⟨l.toArray⟩ := TL.ext_tl (by rw [TL.tl_ofString, h])
  rw [this]
theorem k_colon : D.str (Str.ofString ":") = tx [58] := tx_of _ _ (by decide)
theorem k_blank : D.str (Str.ofString " ") = tx [32] := tx_of _ _ (by decide)
theorem k_line : D.str (Str.ofString "/") = tx [47] := tx_of _ _ (by decide)
theorem k_f : D.str (Str.ofString "f") = tx [102] := tx_of _ _ (by decide)
theorem k_s : D.str (Str.ofString "s") = tx [115] := tx_of _ _ (by decide)
theorem k_0 : D.str (Str.ofString "0") = tx [48] := tx_of _ _ (by decide)
theorem k_empty : D.str (Str.ofString "") = tx [] := tx_of _ _ (by decide)
theorem k_digits : D.str (Str.ofString "0123456789") = tx [48, 49, 50, 51, 52, 53, 54, 55, 56, 57] := tx_of _ _ (by decide)
theorem k_abc : D.str (Str.ofString "abcxyz") = tx [97, 98, 99, 120, 121, 122] := tx_of _ _ (by decide)
theorem k_alpha : D.str (Str.ofString "abcdefghijklmnopqrstuvwxyz") = tx [97, 98, 99, 100, 101, 102, 103, 104, 105, 106, 107, 108, 109, 110, 111, 112, 113, 114, 115, 116, 117, 118, 119, 120, 121, 122] := tx_of _ _ (by decide)
theorem k_cue : D.str (Str.ofString "cue ") = tx [99, 117, 101, 32] := tx_of _ _ (by decide)
theorem k_from : D.str (Str.ofString " from ") = tx [32, 102, 114, 111, 109, 32] := tx_of _ _ (by decide)
theorem k_to : D.str (Str.ofString " to ") = tx [32, 116, 111, 32] := tx_of _ _ (by decide)
theorem k_at : D.str (Str.ofString " at ") = tx [32, 97, 116, 32] := tx_of _ _ (by decide)
theorem k_two : D.str (Str.ofString "  ") = tx [32, 32] := tx_of _ _ (by decide)
theorem k_fto : D.str (Str.ofString "f to ") = tx [102, 32, 116, 111, 32] := tx_of _ _ (by decide)
theorem k_nl : D.str (Str.ofString "\n") = tx [10] := tx_of _ _ (by decide)
theorem k_a1 : D.str (Str.ofString "a") = tx [97] := tx_of _ _ (by decide)
theorem len_tx (l : List Nat) : (⟨l.toArray⟩ : Str).length = l.length := by rw [TL.len_tl]
theorem tx_app (a b : List Nat) : ((⟨a.toArray⟩ : Str) ++ (⟨b.toArray⟩ : Str)) = ⟨(a ++ b).toArray⟩ := TL.ext_tl (by rw [TL.tl_append])
theorem dAdd_tx {a b : List Nat} (h : a.length + b.length ≤ 100000) : dAdd (tx a) (tx b) = some (tx (a ++ b)) := by
  show (if (⟨a.toArray⟩ : Str).length + (⟨b.toArray⟩ : Str).length ≤ big then some (D.str ((⟨a.toArray⟩ : Str) ++ (⟨b.toArray⟩ : Str))) else none) = _
  rw [len_tx, len_tx, if_pos (Nat.le_trans h (by decide)), tx_app]
theorem fLen_tx {l : List Nat} (h : l.length ≤ 100000) : fLen [tx l] = some (.int l.length) := by
  show (if (⟨l.toArray⟩ : Str).length ≤ big then some (D.int (⟨l.toArray⟩ : Str).length) else none) = _
  rw [len_tx, if_pos (Nat.le_trans h (by decide))]
theorem tx_inj {a b : List Nat} : ((⟨a.toArray⟩ : Str) = ⟨b.toArray⟩) ↔ a = b := ⟨fun h => by
  have := congrArg TL.tl h
  simpa using this, fun h => by rw [h]⟩
theorem dEq_tx (a b : List Nat) : dEq (tx a) (tx b) = some (.bl (decide (a = b))) := by
  show some (D.bl (decide ((⟨a.toArray⟩ : Str) = ⟨b.toArray⟩))) = _
  congr 2
  exact decide_eq_decide.mpr tx_inj
theorem dNe_tx (a b : List Nat) : dNe (tx a) (tx b) = some (.bl (!decide (a = b))) := by
  show some (D.bl (!decide ((⟨a.toArray⟩ : Str) = ⟨b.toArray⟩))) = _
  congr 3
  exact decide_eq_decide.mpr tx_inj
theorem dEq_txn (a : List Nat) : dEq (tx a) (tx []) = some (.bl (decide (a = []))) := dEq_tx a []
theorem dNe_txn (a : List Nat) : dNe (tx a) (tx []) = some (.bl (!decide (a = []))) := dNe_tx a []
def nm (i : Int) : List Nat := TL.numL i.toNat
theorem fStr_nat {i : Int} (h0 : 0 ≤ i) (h : i < 1000000000000000000000000000000000000000000) : fStr [.int i] = some (tx (nm i)) := by
  have hl : i.natAbs.log2 < 1920 := by
    by_cases hz : i.natAbs = 0
    · rw [hz]; decide
    · exact Nat.lt_trans ((Nat.log2_lt hz).mpr (show i.natAbs < 2 ^ 140 by omega)) (by decide)
  show (if i.natAbs.log2 < 1920 then some (D.str (Str.ofString (toString i))) else none) = _
  rw [if_pos hl]
  have e : Str.ofString (toString i) = ⟨(nm i).toArray⟩ := TL.ext_tl (by
    have : i = ((i.toNat : Nat) : Int) := by omega
    show TL.tl (Str.ofString (toString i)) = nm i
    unfold nm
    conv => lhs; rw [this]
    rw [TL.tl_num])
  rw [e]
theorem nm_len {i : Int} {k : Nat} (h0 : 0 ≤ i) (hk : 0 < k) (h : i < ((10 ^ k : Nat) : Int)) : (nm i).length ≤ k := TL.numL_len hk (by omega)
theorem nm_len9 {i : Int} (h0 : 0 ≤ i) (h : i < 1000000000) : (nm i).length ≤ 9 := nm_len h0 (by decide) (by simpa using h)
theorem nm_len20 {i : Int} (h0 : 0 ≤ i) (h : i < 10000000000000000000000000000000000000000) : (nm i).length ≤ 40 := nm_len h0 (by decide) (by simpa using h)
theorem dIx_tx0 (c : Nat) {l : List Nat} (h : l.length ≤ 100000) : dIx (tx (c :: l)) (.int 0) = some (tx [c]) := by
  show (if (⟨(c :: l).toArray⟩ : Str).length ≤ big then (match atN (c :: l) 0 with | some c => some (D.str ⟨#[c]⟩) | none => none) else none) = _
  rw [len_tx, if_pos (Nat.le_trans (show (c :: l).length ≤ 100001 by simp; omega) (by decide))]
  rfl
/-- the last sign; all but the last -/
theorem cutS_l1 (l : List Nat) (c : Nat) : cutS ⟨(l ++ [c]).toArray⟩ (some (-1)) none = ⟨[c].toArray⟩ := by
  unfold cutS
  rw [len_tx, HT.sIx_none]
  have e : HT.sIx (l ++ [c]).length 0 (some (-1)) = l.length := by
    have := HT.clip_eq (-1) (l ++ [c]).length 0
    rw [if_pos (by decide)] at this
    have h2 : (l ++ [c]).length = l.length + 1 := by simp
    omega
  rw [e]
  simp
theorem cutS_b1 (l : List Nat) (c : Nat) : cutS ⟨(l ++ [c]).toArray⟩ none (some (-1)) = ⟨l.toArray⟩ := by
  unfold cutS
  rw [len_tx, HT.sIx_none]
  have e : HT.sIx (l ++ [c]).length (l ++ [c]).length (some (-1)) = l.length := by
    have := HT.clip_eq (-1) (l ++ [c]).length (l ++ [c]).length
    rw [if_pos (by decide)] at this
    have h2 : (l ++ [c]).length = l.length + 1 := by simp
    omega
  rw [e]
  simp
theorem cutS_ln : cutS ⟨[].toArray⟩ (some (-1)) none = ⟨[].toArray⟩ := by
  unfold cutS
  simp
theorem cutS_bn : cutS ⟨[].toArray⟩ none (some (-1)) = ⟨[].toArray⟩ := by
  unfold cutS
  simp
/-! ### cut at a sign -/
theorem fPart_tx {l S : List Nat} (hS : S ≠ []) (h : l.length ≤ 100000) : fPart ⟨l.toArray⟩ (tx S) = some (match TL.par S [] l with | some (a, b) => .tup [tx a, tx S, tx b] | none => .tup [tx l, tx [], tx []]) := by
  have hn : ((⟨S.toArray⟩ : Str).length == 0) = false := by
    rw [len_tx]
    cases S with
    | nil => exact absurd rfl hS
    | cons => rfl
  show (if ((⟨S.toArray⟩ : Str).length == 0) = false ∧ (⟨l.toArray⟩ : Str).length ≤ big then some (D.tup [.str (Txt.partition ⟨l.toArray⟩ ⟨S.toArray⟩).1, .str (Txt.partition ⟨l.toArray⟩ ⟨S.toArray⟩).2.1, .str (Txt.partition ⟨l.toArray⟩ ⟨S.toArray⟩).2.2]) else none) = _
  rw [if_pos ⟨hn, by rw [len_tx]; exact Nat.le_trans h (by decide)⟩, TL.partition_par ⟨l.toArray⟩ ⟨S.toArray⟩ hS]
  show some _ = _
  cases e : TL.par S [] l with
  | none => rfl
  | some ab => rfl
/-- what stands before the first s, and behind it -/
theorem par1 (s : Nat) : ∀ (l acc : List Nat), (s ∉ l ∧ TL.par [s] acc l = none) ∨ ∃ a b, s ∉ a ∧ l = a ++ s :: b ∧ TL.par [s] acc l = some (acc ++ a, b)
  | [], acc => .inl ⟨by simp, rfl⟩
  | c :: r, acc => by
    by_cases h : c = s
    · subst h
      refine .inr ⟨[], r, by simp, rfl, ?_⟩
      rw [TL.par_hit (by simp [TL.pre])]
      simp
    · have hp : TL.pre [s] (c :: r) = false := by simp [TL.pre, h]
      rcases par1 s r (acc ++ [c]) with ⟨h1, h2⟩ | ⟨a, b, h1, h2, h3⟩
      · refine .inl ⟨by simp [h1]; exact fun z => h z.symm, ?_⟩
        rw [TL.par_miss hp, h2]
      · refine .inr ⟨c :: a, b, by simp [h1]; exact fun z => h z.symm, by rw [h2]; rfl, ?_⟩
        rw [TL.par_miss hp, h3]
        simp
theorem par1_app {s : Nat} {a b : List Nat} (h : s ∉ a) : TL.par [s] [] (a ++ s :: b) = some (a, b) := TL.par_part1 (S := []) (acc := []) h
theorem par1_none {s : Nat} {a : List Nat} (h : s ∉ a) : TL.par [s] [] a = none := TL.par_none1 h
/-- split at a sign -/
theorem fSplit_tx {l : List Nat} {s : Nat} (hs : s < 256) (h : l.length ≤ 100000) : fSplit ⟨l.toArray⟩ (tx [s]) = some (.lst ((TL.spl [s] 0 [] l).map tx)) := by
  show (if ((⟨[s].toArray⟩ : Str).length == 0) = false ∧ (⟨l.toArray⟩ : Str).length + 2 ≤ big then some (D.lst ((Txt.split ⟨l.toArray⟩ ⟨[s].toArray⟩).map D.str)) else none) = _
  rw [if_pos ⟨rfl, by rw [len_tx]; exact Nat.le_trans (Nat.add_le_add_right h 2) (by decide)⟩]
  have e := TL.split_spl ⟨l.toArray⟩ ⟨[s].toArray⟩ (by simp) (TL.kind_ok (by simp [hs]))
  have e2 : Txt.split ⟨l.toArray⟩ ⟨[s].toArray⟩ = (TL.spl [s] 0 [] l).map fun z => (⟨z.toArray⟩ : Str) := TL.map_tl_inj (by
    rw [e, List.map_map]
    show TL.spl [s] 0 [] l = (TL.spl [s] 0 [] l).map (fun z => z)
    simp)
  rw [e2, List.map_map]
  rfl
theorem asStrs_tx : ∀ ls : List (List Nat), asStrs (ls.map tx) = some (ls.map fun z => (⟨z.toArray⟩ : Str))
  | [] => rfl
  | l :: ls => by
    rw [List.map_cons]
    unfold asStrs
    rw [asStrs_tx ls]
    rfl
def lens (ls : List (List Nat)) : Nat := (ls.map List.length).sum
theorem fJoin_tx {s : List Nat} {ls : List (List Nat)} (h : lens ls + ls.length * s.length ≤ 1000000) : fJoin ⟨s.toArray⟩ (.lst (ls.map tx)) = some (tx (TL.joinL s ls)) := by
  unfold fJoin
  dsimp only
  rw [asStrs_tx]
  dsimp only
  have hl : ((ls.map fun z => (⟨z.toArray⟩ : Str)).map (·.length)).sum = lens ls := by
    unfold lens
    rw [List.map_map]
    congr 1
  rw [if_pos (by rw [hl, List.length_map, len_tx]; exact h), TL.join_eq]
  have : Str.join ⟨s.toArray⟩ (ls.map fun z => (⟨z.toArray⟩ : Str)) = ⟨(TL.joinL s ls).toArray⟩ := TL.ext_tl (by
    rw [TL.tl_join, List.map_map]
    show TL.joinL s (ls.map fun z => z) = TL.joinL s ls
    simp)
  rw [this]
/-! ### numbers -/
def isDig (c : Nat) : Bool := decide (48 ≤ c) && decide (c ≤ 57)
def numV (l : List Nat) : Option Nat := if l.length = 0 ∨ 9 < l.length ∨ (l.head? = some 48 ∧ 1 < l.length) ∨ l.all isDig = false then none else some (NumText.digitsVal l)
theorem dNotIn_dig (c : Nat) : dNotIn (tx [c]) (tx [48, 49, 50, 51, 52, 53, 54, 55, 56, 57]) = some (.bl (!isDig c)) := by
  rw [dNotIn_sign]
  congr 3
  unfold isDig
  rw [← Bool.decide_and]
  refine decide_eq_decide.mpr ?_
  simp only [List.mem_cons, List.not_mem_nil, or_false]
  omega
theorem fIntS_tx {l : List Nat} (h0 : l ≠ []) (h1 : l.length ≤ 600) (h : l.all isDig = true) : fIntS [tx l] = some (.int (NumText.digitsVal l : Nat)) := by
  have hd : NumText.AllDigits l := fun c hc => by
    have := List.all_eq_true.mp h c hc
    unfold isDig at this
    simpa using this
  show (if (⟨l.toArray⟩ : Str).length ≤ 640 then (match PySem.intText? ⟨l.toArray⟩ with | some n => some (D.int n) | none => none) else none) = _
  rw [len_tx, if_pos (by omega), intText_digits (x := ⟨l.toArray⟩) hd h0 (by rw [len_tx]; omega)]
theorem fSigns_tx (l : List Nat) : fSigns (tx l) = some (l.map fun c => tx [c]) := rfl
theorem drop_tw (p : Nat → Bool) : ∀ l : List Nat, l.drop (l.takeWhile p).length = l.dropWhile p
  | [] => rfl
  | c :: l => by
    rw [List.takeWhile_cons, List.dropWhile_cons]
    cases p c
    · simp
    · simp [drop_tw p l]
theorem fLstrip_tx {l : List Nat} (h : l.length ≤ 100000) : fLstripC ⟨l.toArray⟩ (tx [48]) = some (tx (l.dropWhile fun c => decide (c = 48))) := by
  show (if (⟨l.toArray⟩ : Str).length ≤ big then some (D.str (Txt.lstripChars ⟨l.toArray⟩ ⟨[48].toArray⟩)) else none) = _
  rw [len_tx, if_pos (Nat.le_trans h (by decide))]
  have : Txt.lstripChars ⟨l.toArray⟩ ⟨[48].toArray⟩ = ⟨(l.dropWhile fun c => decide (c = 48)).toArray⟩ := TL.ext_tl (by
    show TL.tl (Txt.stripBy _ true false _) = _
    rw [PyProof.Rows.stripBy_eq]
    show TL.tl (Builtin.Str.strSub _ _ (⟨l.toArray⟩ : Str).length) = _
    rw [TL.tl_strSub_end]
    show l.drop (l.takeWhile _).length = l.dropWhile _
    rw [drop_tw]
    congr 1
    funext c
    simp [eq_comm])
  rw [this]
end Dv

namespace Dv
open PySem PySem.Spec PyProof.Rows L2
/-! ### times written, as lists of signs -/
def mixL (q : Fr) : List Nat := if q.1 % q.2 = 0 then nm (q.1 / q.2) else (((nm (q.1 / q.2) ++ [32]) ++ nm (q.1 % q.2)) ++ [47]) ++ nm q.2
def two (n : Int) : List Nat := if n < 10 then [48] ++ nm n else nm n
def clockH (q : Fr) (rate : Int) : List Nat := (((nm (q.1 / q.2 / rate / 3600) ++ [58]) ++ two (q.1 / q.2 / rate / 60 % 60)) ++ [58] ++ two (q.1 / q.2 / rate % 60)) ++ [58] ++ two (q.1 / q.2 % rate)
def clockL (q : Fr) (rate : Int) : List Nat := if q.1 % q.2 = 0 then clockH q rate else (((clockH q rate ++ [32]) ++ nm (q.1 % q.2)) ++ [47]) ++ nm q.2
/-- a time that is written -/
structure Wr (q : Fr) : Prop where
  a : 0 ≤ q.1
  b : q.1 < 10000000000000000000000000000000000000000
  c : 0 < q.2
  d : q.2 < 1073741824
theorem dl {a b N : Int} (h0 : 0 ≤ a) (h1 : a < N) (h2 : 0 < b) : 0 ≤ a / b ∧ a / b < N :=
  ⟨Int.ediv_nonneg h0 (by omega), Int.lt_of_le_of_lt (Int.ediv_le_self b h0) h1⟩
theorem ml {a b : Int} (h2 : 0 < b) : 0 ≤ a % b ∧ a % b < b := ⟨Int.emod_nonneg a (by omega), Int.emod_lt_of_pos a h2⟩
section
variable {q : Fr} (h : Wr q)
include h
theorem Wr.div : 0 ≤ q.1 / q.2 ∧ q.1 / q.2 < 10000000000000000000000000000000000000000 := dl h.a h.b h.c
theorem Wr.md : 0 ≤ q.1 % q.2 ∧ q.1 % q.2 < q.2 := ml h.c
theorem Wr.l1 : (nm (q.1 / q.2)).length ≤ 40 := nm_len20 h.div.1 h.div.2
theorem Wr.l2 : (nm (q.1 % q.2)).length ≤ 40 := nm_len20 h.md.1 (by have := h.md.2; have := h.d; omega)
theorem Wr.l3 : (nm q.2).length ≤ 40 := nm_len20 (by have := h.c; omega) (by have := h.d; omega)
theorem Wr.mix : (mixL q).length ≤ 122 := by
  have h1 := h.l1
  have h2 := h.l2
  have h3 := h.l3
  unfold mixL
  split
  · omega
  · simp only [List.length_append, List.length_cons, List.length_nil]
    omega
end
theorem two_len {n : Int} (h0 : 0 ≤ n) (h : n < 10000000000000000000000000000000000000000) : (two n).length ≤ 41 := by
  have := nm_len20 h0 h
  unfold two
  split
  · simp only [List.length_append, List.length_cons, List.length_nil]; omega
  · omega
theorem clockH_len {q : Fr} {rate : Int} (h : Wr q) (h1 : 0 < rate) (h2 : rate ≤ 1000) : (clockH q rate).length ≤ 166 := by
  have d := h.div
  have e := dl d.1 d.2 h1
  have e2 := dl e.1 e.2 (show (0 : Int) < 3600 by decide)
  have l1 := nm_len20 e2.1 e2.2
  have m1 := ml (a := q.1 / q.2 / rate / 60) (show (0 : Int) < 60 by decide)
  have m2 := ml (a := q.1 / q.2 / rate) (show (0 : Int) < 60 by decide)
  have m3 := ml (a := q.1 / q.2) h1
  have t1 := two_len m1.1 (by omega)
  have t2 := two_len m2.1 (by omega)
  have t3 := two_len m3.1 (by omega)
  unfold clockH
  simp only [List.length_append, List.length_cons, List.length_nil]
  omega
theorem clockL_len {q : Fr} {rate : Int} (h : Wr q) (h1 : 0 < rate) (h2 : rate ≤ 1000) : (clockL q rate).length ≤ 248 := by
  have a := clockH_len h h1 h2
  have b := h.l2
  have c := h.l3
  unfold clockL
  split
  · omega
  · simp only [List.length_append, List.length_cons, List.length_nil]
    omega
end Dv

namespace Dv
open PySem PySem.Spec PyProof.Rows L2
/-! ### what texts are read to -/
def ofN (o : Option Nat) (om : Om) : FR := match o with
  | some n => .ok (.int (n : Int)) om
  | none => .xc ⟨"BadTime", []⟩ om
theorem numV_lt {l : List Nat} {n : Nat} (h : numV l = some n) : n < 1000000000 := by
  unfold numV at h
  split at h
  · cases h
  · rename_i hn
    cases h
    have h9 : l.length ≤ 9 := Nat.le_of_not_lt fun z => hn (.inr (.inl z))
    have hd : ∀ c ∈ l, c ≤ 57 := fun c hc => by
      have ha : l.all isDig = true := by
        cases ha : l.all isDig
        · exact absurd (.inr (.inr (.inr ha))) hn
        · rfl
      have := List.all_eq_true.mp ha c hc
      unfold isDig at this
      simp at this
      exact this.2
    have gen : ∀ (l : List Nat) (a : Nat), (∀ c ∈ l, c ≤ 57) → l.foldl (fun acc c => acc * 10 + (c - 48)) a < (a + 1) * 10 ^ l.length := by
      intro l
      induction l with
      | nil => intro a _; simp
      | cons c r ih =>
        intro a hc
        rw [List.foldl_cons]
        have h1 := ih (a * 10 + (c - 48)) fun x hx => hc x (by simp [hx])
        have h2 := hc c (by simp)
        refine Nat.lt_of_lt_of_le h1 ?_
        rw [List.length_cons, Nat.pow_succ, Nat.mul_comm (10 ^ r.length) 10, ← Nat.mul_assoc]
        exact Nat.mul_le_mul_right _ (by omega)
    have := gen l 0 hd
    refine Nat.lt_of_lt_of_le this ?_
    rw [Nat.zero_add, Nat.one_mul]
    exact Nat.pow_le_pow_right (by decide) h9
def restV (l : List Nat) : Option Fr := match TL.par [47] [] l with
  | none => none
  | some (a, b) => match numV a, numV b with
    | some p, some q => if p = 0 ∨ q ≤ p ∨ mk p q ≠ ((p : Int), (q : Int)) then none else some ((p : Int), (q : Int))
    | _, _ => none
def ofF (o : Option Fr) (om : Om) : FR := match o with
  | some q => .ok (encF q) om
  | none => .xc ⟨"BadTime", []⟩ om
theorem numV_nil : numV [] = none := rfl
theorem par_len {s : Nat} {l a b : List Nat} (h : TL.par [s] [] l = some (a, b)) : a.length + b.length + 1 = l.length := by
  rcases par1 s l [] with ⟨_, h2⟩ | ⟨a', b', _, h2, h3⟩
  · rw [h] at h2; cases h2
  · rw [h] at h3
    injection h3 with h3
    injection h3 with h4 h5
    subst h4 h5
    rw [h2]
    simp
    omega
theorem restV_bd {l : List Nat} {r : Fr} (h : restV l = some r) : Bd 30 r ∧ 0 < r.1 ∧ r.1 < r.2 ∧ r.2 < 1000000000 ∧ mk r.1 r.2 = r := by
  unfold restV at h
  split at h
  · cases h
  · rename_i a b e
    split at h
    · rename_i p q e1 e2
      have hp := numV_lt e1
      have hq := numV_lt e2
      split at h
      · cases h
      · rename_i hn
        cases h
        have p6 : (2 : Nat) ^ 30 = 1073741824 := by decide
        have h0 : p ≠ 0 := fun z => hn (.inl z)
        have h1 : ¬ q ≤ p := fun z => hn (.inr (.inl z))
        have h2 : mk p q = ((p : Int), (q : Int)) := Classical.byContradiction fun z => hn (.inr (.inr z))
        exact ⟨⟨by show (0 : Int) < q; omega, by show (p : Int).natAbs < _; omega, by show (q : Int).natAbs < _; omega⟩, by show (0 : Int) < p; omega, by show (p : Int) < q; omega, by show (q : Int) < _; omega, h2⟩
    · cases h
def mixV (l : List Nat) : Option Fr := match TL.par [32] [] l with
  | none => (numV l).map fun n => ((n : Int), 1)
  | some (a, b) => match numV a, restV b with
    | some n, some r => some (fsum ((n : Int), 1) r)
    | _, _ => none
theorem bd_num {n : Nat} (h : n < 1000000000) : Bd 30 ((n : Int), 1) := by
  have p6 : (2 : Nat) ^ 30 = 1073741824 := by decide
  exact ⟨by show (0 : Int) < 1; omega, by show (n : Int).natAbs < _; omega, by show (1 : Int).natAbs < _; omega⟩
theorem mixV_bd {l : List Nat} {r : Fr} (h : mixV l = some r) : Bd 61 r := by
  unfold mixV at h
  split at h
  · cases en : numV l with
    | none => rw [en] at h; cases h
    | some n => rw [en] at h; cases h; exact (bd_num (numV_lt en)).mono (by decide)
  · split at h
    · rename_i e1 e2
      cases h
      exact (bd_sum (bd_num (numV_lt e1)) (restV_bd e2).1).mono (by decide)
    · cases h
def figV (l : List Nat) : Option Nat := if (2 < l.length ∧ l.head? = some 48) ∨ l.length < 2 then none else numV (if l.dropWhile (fun c => decide (c = 48)) = [] then [48] else l.dropWhile fun c => decide (c = 48))
def clockF (rate : Int) (h m s f : Nat) : Option Int := if 60 ≤ m ∨ 60 ≤ s ∨ rate ≤ (f : Int) then none else some ((((h : Int) * 60 + m) * 60 + s) * rate + f)
def clockP (rate : Int) : List (List Nat) → Option Int
  | [a, b, c, d] => (numV a).bind fun h => (figV b).bind fun m => (figV c).bind fun s => (figV d).bind fun f => clockF rate h m s f
  | _ => none
def clockV (l : List Nat) (rate : Int) : Option Int := clockP rate (TL.spl [58] 0 [] l)
theorem clockP_ne {rate : Int} : ∀ {ps : List (List Nat)}, ps.length ≠ 4 → clockP rate ps = none
  | [], _ => rfl
  | [_], _ => rfl
  | [_, _], _ => rfl
  | [_, _, _], _ => rfl
  | [_, _, _, _], h => absurd rfl h
  | _ :: _ :: _ :: _ :: _ :: _, _ => rfl
theorem clockP_some {rate n : Int} {ps : List (List Nat)} (e : clockP rate ps = some n) : ∃ a b c d h m s f, ps = [a, b, c, d] ∧ numV a = some h ∧ figV b = some m ∧ figV c = some s ∧ figV d = some f ∧ m < 60 ∧ s < 60 ∧ (f : Int) < rate ∧ n = (((h : Int) * 60 + m) * 60 + s) * rate + f := by
  by_cases h4 : ps.length = 4
  · match ps, h4, e with
    | [a, b, c, d], _, e =>
      unfold clockP at e
      obtain ⟨h, e1, e⟩ := Option.bind_eq_some_iff.mp e
      obtain ⟨m, e2, e⟩ := Option.bind_eq_some_iff.mp e
      obtain ⟨s, e3, e⟩ := Option.bind_eq_some_iff.mp e
      obtain ⟨f, e4, e⟩ := Option.bind_eq_some_iff.mp e
      unfold clockF at e
      split at e
      · cases e
      · rename_i hn
        cases e
        exact ⟨a, b, c, d, h, m, s, f, rfl, e1, e2, e3, e4, Nat.lt_of_not_le fun z => hn (.inl z), Nat.lt_of_not_le fun z => hn (.inr (.inl z)), Int.lt_of_not_ge fun z => hn (.inr (.inr z)), rfl⟩
  · rw [clockP_ne h4] at e
    cases e
theorem dw_len (l : List Nat) : (l.dropWhile fun c => decide (c = 48)).length ≤ l.length := by
  induction l with
  | nil => simp
  | cons c r ih =>
    rw [List.dropWhile_cons]
    split
    · simp; omega
    · simp
def ofI (o : Option Int) (om : Om) : FR := match o with
  | some n => .ok (.int n) om
  | none => .xc ⟨"BadTime", []⟩ om
theorem spl_len (s : Nat) : ∀ (l acc p : List Nat), p ∈ TL.spl [s] 0 acc l → p.length ≤ acc.length + l.length
  | [], acc, p, h => by
    rw [TL.spl_nil] at h
    simp only [List.mem_cons, List.not_mem_nil, or_false] at h
    rw [h]; simp
  | c :: r, acc, p, h => by
    cases hp : TL.pre [s] (c :: r)
    · rw [TL.spl_miss hp] at h
      have := spl_len s r (acc ++ [c]) p h
      simp at this ⊢
      omega
    · rw [TL.spl_hit hp] at h
      rcases List.mem_cons.mp h with rfl | h
      · omega
      · have := spl_len s r [] p h
        simp at this ⊢
        omega
theorem figV_lt {p : List Nat} {n : Nat} (h : figV p = some n) : n < 1000000000 := by
  unfold figV at h
  split at h
  · cases h
  · exact numV_lt h
def timeV (l : List Nat) (rate : Int) : Option Fr :=
  if l.getLast? = some 102 then mixV l.dropLast
  else if l.getLast? = some 115 then (mixV l.dropLast).map fun q => fmul q (rate, 1)
  else match TL.par [32] [] l with
    | none => (clockV l rate).map fun n => (n, 1)
    | some (a, b) => match clockV a rate, restV b with
      | some n, some r => some (fsum (n, 1) r)
      | _, _ => none
theorem clockV_lt {l : List Nat} {rate n : Int} (h : clockV l rate = some n) (hr : 0 ≤ rate ∧ rate ≤ 1000) : 0 ≤ n ∧ n < 36000000000000000 := by
  obtain ⟨a, b, c, d, hh, m, s, f, _, e1, e2, e3, e4, k1, k2, k3, rfl⟩ := clockP_some h
  have := numV_lt e1
  have b1 : 0 ≤ ((hh : Int) * 60 + m) * 60 + s := by omega
  have b2 : ((hh : Int) * 60 + m) * 60 + s ≤ 3600000000000 := by omega
  have b3 : 0 ≤ (((hh : Int) * 60 + m) * 60 + s) * rate := Int.mul_nonneg b1 hr.1
  have b4 : (((hh : Int) * 60 + m) * 60 + s) * rate ≤ 3600000000000 * 1000 := Int.mul_le_mul b2 hr.2 hr.1 (by decide)
  omega
theorem last_or (l : List Nat) : l = [] ∨ ∃ a c, l = a ++ [c] := by
  by_cases hn : l = []
  · exact .inl hn
  · exact .inr ⟨l.dropLast, l.getLast hn, (List.dropLast_concat_getLast hn).symm⟩
theorem timeV_snoc (a : List Nat) (c : Nat) (rate : Int) : timeV (a ++ [c]) rate = if c = 102 then mixV a else if c = 115 then (mixV a).map fun q => fmul q (rate, 1) else match TL.par [32] [] (a ++ [c]) with
    | none => (clockV (a ++ [c]) rate).map fun n => (n, 1)
    | some (x, y) => match clockV x rate, restV y with
      | some n, some r => some (fsum (n, 1) r)
      | _, _ => none := by
  unfold timeV
  simp
theorem bd_clk {n : Int} (h : 0 ≤ n ∧ n < 36000000000000000) : Bd 60 (n, 1) := by
  have p6 : (2 : Nat) ^ 60 = 1152921504606846976 := by decide
  exact ⟨by show (0 : Int) < 1; omega, by show n.natAbs < _; omega, by show (1 : Int).natAbs < _; omega⟩
end Dv

namespace Dv
open PySem PySem.Spec PyProof.Rows L2
/-! ### what is written is read -/
theorem nm_dig (n : Int) : (nm n).all isDig = true := List.all_eq_true.mpr fun c hc => by
  have := TL.numL_digits n.toNat c hc
  unfold isDig
  simp only [Bool.and_eq_true, decide_eq_true_eq]
  exact this
theorem nm_ne (n : Int) : nm n ≠ [] := TL.numL_ne _
theorem nm_free {n : Int} {s : Nat} (h : s < 48 ∨ 57 < s) : s ∉ nm n := TL.numL_free h
theorem numL_head {n : Nat} (h : 0 < n) : (TL.numL n).head? ≠ some 48 := by
  induction n using Nat.strongRecOn with
  | _ n ih =>
    by_cases h9 : n < 10
    · rw [TL.numL_lt h9]
      simp
      omega
    · rw [TL.numL_step (by omega)]
      have := ih (n / 10) (by omega) (by omega)
      have hn := TL.numL_ne (n / 10)
      cases e : TL.numL (n / 10) with
      | nil => exact absurd e hn
      | cons c r => rw [e] at this; simpa using this
theorem numV_nm {n : Int} (h0 : 0 ≤ n) (h : n < 1000000000) : numV (nm n) = some n.toNat := by
  have l9 := nm_len9 h0 h
  have hn := nm_ne n
  unfold numV
  rw [if_neg]
  · rw [show NumText.digitsVal (nm n) = n.toNat from TL.numL_val _]
  · rintro (z | z | z | z)
    · exact hn (List.eq_nil_of_length_eq_zero z)
    · omega
    · by_cases h1 : n.toNat < 10
      · have : nm n = [48 + n.toNat] := TL.numL_lt h1
        rw [this] at z
        simp at z
      · exact numL_head (n := n.toNat) (by omega) z.1
    · rw [nm_dig] at z; cases z
theorem two_dig (n : Int) : (two n).all isDig = true := by
  unfold two
  split
  · rw [List.all_append, nm_dig]; rfl
  · exact nm_dig n
theorem two_free {n : Int} {s : Nat} (h : s < 48 ∨ 57 < s) : s ∉ two n := by
  unfold two
  split
  · simp only [List.mem_append, List.mem_cons, List.not_mem_nil, or_false]
    rintro (z | z)
    · omega
    · exact nm_free h z
  · exact nm_free h
theorem dw_head {l : List Nat} (h : l.head? ≠ some 48) : l.dropWhile (fun c => decide (c = 48)) = l := by
  cases l with
  | nil => rfl
  | cons c r =>
    rw [List.dropWhile_cons, if_neg]
    simpa using h
theorem figV_two {n : Int} (h0 : 0 ≤ n) (h : n < 1000000000) : figV (two n) = some n.toNat := by
  unfold two
  by_cases h1 : n < 10
  · rw [if_pos h1]
    have e : nm n = [48 + n.toNat] := TL.numL_lt (by omega)
    rw [e]
    unfold figV
    rw [if_neg (by simp)]
    by_cases hz : n.toNat = 0
    · rw [hz]; rfl
    · have e2 : ([48] ++ [48 + n.toNat]).dropWhile (fun c => decide (c = 48)) = [48 + n.toNat] := by
        show List.dropWhile _ (48 :: [48 + n.toNat]) = _
        rw [List.dropWhile_cons_of_pos (by simp), List.dropWhile_cons_of_neg (by
          rw [decide_eq_true_eq]
          omega)]
      rw [e2, if_neg (by simp), ← e, numV_nm h0 h]
  · rw [if_neg h1]
    have hh := numL_head (n := n.toNat) (by omega)
    have e2 : (nm n).dropWhile (fun c => decide (c = 48)) = nm n := dw_head hh
    have l2 : ¬ (nm n).length < 2 := by
      have : nm n = TL.numL (n.toNat / 10) ++ [48 + n.toNat % 10] := TL.numL_step (by omega)
      rw [this]
      have := TL.numL_ne (n.toNat / 10)
      cases e : TL.numL (n.toNat / 10) with
      | nil => exact absurd e this
      | cons c r => simp
    unfold figV
    rw [if_neg (fun z => z.elim (fun z => hh z.2) l2), e2, if_neg (nm_ne n), numV_nm h0 h]
/-- a fraction that can be written and read -/
structure Rd (q : Fr) : Prop where
  cn : Cn q
  a : 0 ≤ q.1
  b : q.1 / q.2 < 1000000000
  d : q.2 < 1000000000
theorem mk_cop {t b : Int} (hb : 0 < b) (h : Int.gcd t b = 1) : mk t b = (t, b) := by
  unfold mk gN'
  rw [if_neg (by omega), h]
  simp
theorem rest_nm {q : Fr} (h : Rd q) (h0 : q.1 % q.2 ≠ 0) : restV (nm (q.1 % q.2) ++ 47 :: nm q.2) = some (q.1 % q.2, q.2) := by
  have hc := h.cn.1
  have m := ml (a := q.1) hc
  have hd := h.d
  have g : Int.gcd (q.1 % q.2) q.2 = 1 := by
    have d1 : ((Int.gcd (q.1 % q.2) q.2 : Nat) : Int) ∣ q.1 % q.2 := Int.gcd_dvd_left _ _
    have d2 : ((Int.gcd (q.1 % q.2) q.2 : Nat) : Int) ∣ q.2 := Int.gcd_dvd_right _ _
    generalize Int.gcd (q.1 % q.2) q.2 = k at *
    have d3 : (k : Int) ∣ q.1 := by
      rw [← Int.mul_ediv_add_emod q.1 q.2]
      exact Int.dvd_add (Int.dvd_mul_of_dvd_left d2) d1
    have d4 : k ∣ Int.gcd q.1 q.2 := Nat.dvd_gcd (Int.natAbs_dvd_natAbs.mpr d3) (Int.natAbs_dvd_natAbs.mpr d2)
    rw [h.cn.2] at d4
    exact Nat.dvd_one.mp d4
  unfold restV
  rw [par1_app (nm_free (by decide))]
  dsimp only
  rw [numV_nm m.1 (by omega), numV_nm (by omega) hd]
  dsimp only
  have e1 : (((q.1 % q.2).toNat : Nat) : Int) = q.1 % q.2 := by omega
  have e2 : ((q.2.toNat : Nat) : Int) = q.2 := by omega
  rw [e1, e2, mk_cop hc g, if_neg]
  rintro (z | z | z)
  · omega
  · omega
  · exact z rfl
theorem sum_rest {q : Fr} (h : Rd q) : fsum (q.1 / q.2, 1) (q.1 % q.2, q.2) = q := by
  have hc := h.cn.1
  unfold fsum
  have e : (q.1 / q.2) * q.2 + q.1 % q.2 * 1 = q.1 := by rw [Int.mul_one, Int.mul_comm]; exact Int.mul_ediv_add_emod q.1 q.2
  show mk ((q.1 / q.2) * q.2 + q.1 % q.2 * 1) (1 * q.2) = q
  rw [e, Int.one_mul, mk_cop hc h.cn.2]
theorem cn_one {q : Fr} (h : Cn q) (h0 : q.1 % q.2 = 0) : q.2 = 1 := by
  have d : q.2 ∣ q.1 := Int.dvd_of_emod_eq_zero h0
  have g := h.2
  have := h.1
  have e : q.2.natAbs ∣ Int.gcd q.1 q.2 := Nat.dvd_gcd (Int.natAbs_dvd_natAbs.mpr d) (Nat.dvd_refl _)
  rw [g] at e
  have := Nat.dvd_one.mp e
  omega
theorem mixV_mixL {q : Fr} (h : Rd q) : mixV (mixL q) = some q := by
  have hc := h.cn.1
  have v0 : 0 ≤ q.1 / q.2 := Int.ediv_nonneg h.a (by omega)
  unfold mixL mixV
  by_cases h0 : q.1 % q.2 = 0
  · rw [if_pos h0, par1_none (nm_free (by decide))]
    dsimp only
    rw [numV_nm v0 h.b]
    have e := cn_one h.cn h0
    have e1 : (((q.1 / q.2).toNat : Nat) : Int) = q.1 := by rw [e, Int.ediv_one]; have := h.a; omega
    show some ((((q.1 / q.2).toNat : Nat) : Int), (1 : Int)) = some q
    rw [e1, ← e]
  · rw [if_neg h0]
    have e : (((nm (q.1 / q.2) ++ [32]) ++ nm (q.1 % q.2)) ++ [47]) ++ nm q.2 = nm (q.1 / q.2) ++ 32 :: (nm (q.1 % q.2) ++ 47 :: nm q.2) := by simp
    rw [e, par1_app (nm_free (by decide))]
    dsimp only
    rw [numV_nm v0 h.b, rest_nm h h0]
    dsimp only
    have e1 : (((q.1 / q.2).toNat : Nat) : Int) = q.1 / q.2 := by omega
    rw [e1, sum_rest h]
theorem mix_last (q : Fr) (c : Nat) : (mixL q ++ [c]).getLast? = some c ∧ (mixL q ++ [c]).dropLast = mixL q := by simp
theorem timeV_f {q : Fr} (h : Rd q) (rate : Int) : timeV (mixL q ++ [102]) rate = some q := by
  unfold timeV
  rw [(mix_last q 102).1, (mix_last q 102).2, if_pos rfl, mixV_mixL h]
theorem mul_cop {q : Fr} {rate : Int} (h : Cn q) (hr : 0 < rate) : fmul (mk q.1 (q.2 * rate)) (rate, 1) = q := by
  have hc := h.1
  have hm : 0 < q.2 * rate := Int.mul_pos hc hr
  have mp := (mk_den (t := q.1) (b := q.2 * rate) (by omega)).1
  refine cn_ext (cn_mul mp (by show (0 : Int) < 1; decide)) h ?_
  have c1 := cast_ne (show q.2 ≠ 0 by omega)
  have c2 := cast_ne (show rate ≠ 0 by omega)
  rw [val_mul mp (by show (0 : Int) < 1; decide), val_mk (by omega), val_int1]
  unfold val
  rw [Rat.intCast_mul]
  grind
theorem timeV_s {q : Fr} {rate : Int} (hq : Cn q) (hr : 0 < rate) (h : Rd (mk q.1 (q.2 * rate))) : timeV (mixL (mk q.1 (q.2 * rate)) ++ [115]) rate = some q := by
  unfold timeV
  rw [(mix_last _ 115).1, (mix_last _ 115).2, if_neg (by decide), if_pos rfl, mixV_mixL h]
  show some (fmul (mk q.1 (q.2 * rate)) (rate, 1)) = _
  rw [mul_cop hq hr]
/-! clocks -/
theorem clock_parts {q : Fr} {rate : Int} (hr : 0 < rate) (hr2 : rate ≤ 1000) (h : Rd q) : clockV (clockH q rate) rate = some (q.1 / q.2) := by
  have hc := h.cn.1
  have v0 : 0 ≤ q.1 / q.2 := Int.ediv_nonneg h.a (by omega)
  have hb := h.b
  have w := dl v0 hb hr
  have w2 := dl w.1 w.2 (show (0 : Int) < 3600 by decide)
  have m1 := ml (a := q.1 / q.2 / rate / 60) (show (0 : Int) < 60 by decide)
  have m2 := ml (a := q.1 / q.2 / rate) (show (0 : Int) < 60 by decide)
  have m3 := ml (a := q.1 / q.2) hr
  have e : clockH q rate = TL.joinL [58] [nm (q.1 / q.2 / rate / 3600), two (q.1 / q.2 / rate / 60 % 60), two (q.1 / q.2 / rate % 60), two (q.1 / q.2 % rate)] := by
    unfold clockH
    show _ = nm (q.1 / q.2 / rate / 3600) ++ ([58] ++ (two (q.1 / q.2 / rate / 60 % 60) ++ ([58] ++ (two (q.1 / q.2 / rate % 60) ++ ([58] ++ two (q.1 / q.2 % rate))))))
    simp only [List.append_assoc]
  unfold clockV
  rw [e, TL.spl_join (by simp) (by
    intro p hp
    simp only [List.mem_cons, List.not_mem_nil, or_false] at hp
    rcases hp with rfl | rfl | rfl | rfl
    · exact nm_free (by decide)
    · exact two_free (by decide)
    · exact two_free (by decide)
    · exact two_free (by decide))]
  show (numV _).bind _ = _
  rw [numV_nm w2.1 (by omega)]
  show (figV _).bind _ = _
  rw [figV_two m1.1 (by omega)]
  show (figV _).bind _ = _
  rw [figV_two m2.1 (by omega)]
  show (figV _).bind _ = _
  rw [figV_two m3.1 (by omega)]
  show clockF rate _ _ _ _ = _
  unfold clockF
  rw [if_neg (by omega)]
  congr 1
  have e1 : (((q.1 / q.2 / rate / 3600).toNat : Nat) : Int) = q.1 / q.2 / rate / 3600 := by omega
  have e2 : (((q.1 / q.2 / rate / 60 % 60).toNat : Nat) : Int) = q.1 / q.2 / rate / 60 % 60 := by omega
  have e3 : (((q.1 / q.2 / rate % 60).toNat : Nat) : Int) = q.1 / q.2 / rate % 60 := by omega
  have e4 : (((q.1 / q.2 % rate).toNat : Nat) : Int) = q.1 / q.2 % rate := by omega
  rw [e1, e2, e3, e4]
  generalize q.1 / q.2 = F at *
  have k1 : (F / rate / 3600 * 60 + F / rate / 60 % 60) * 60 + F / rate % 60 = F / rate := by omega
  rw [k1]
  rw [Int.mul_comm]
  exact Int.mul_ediv_add_emod F rate
theorem clockH_free {q : Fr} {rate : Int} {s : Nat} (h : s < 48 ∨ 58 < s) : s ∉ clockH q rate := by
  unfold clockH
  simp only [List.mem_append, List.mem_cons, List.not_mem_nil, or_false]
  rintro ((((((z | z) | z) | z) | z) | z) | z)
  all_goals first
    | exact nm_free (by omega) z
    | exact two_free (by omega) z
    | omega
theorem timeV_c {q : Fr} {rate : Int} (hr : 0 < rate) (hr2 : rate ≤ 1000) (h : Rd q) : timeV (clockL q rate) rate = some q := by
  have nl : ∀ (l : List Nat) (d : List Nat), d ≠ [] → (∀ c ∈ d, c ≠ 102 ∧ c ≠ 115) → (l ++ d).getLast? ≠ some 102 ∧ (l ++ d).getLast? ≠ some 115 := by
    intro l d hd hc
    have : (l ++ d).getLast? = d.getLast? := by
      rw [List.getLast?_append]
      cases e : d.getLast? with
      | none => exact absurd (List.getLast?_eq_none_iff.mp e) hd
      | some x => rfl
    rw [this]
    constructor
    · intro z; exact (hc 102 (List.mem_of_getLast? z)).1 rfl
    · intro z; exact (hc 115 (List.mem_of_getLast? z)).2 rfl
  have fr : ∀ n : Int, ∀ c ∈ nm n, c ≠ 102 ∧ c ≠ 115 := fun n c hc => ⟨fun z => nm_free (n := n) (s := 102) (by decide) (z ▸ hc), fun z => nm_free (n := n) (s := 115) (by decide) (z ▸ hc)⟩
  have fr2 : ∀ n : Int, ∀ c ∈ two n, c ≠ 102 ∧ c ≠ 115 := fun n c hc => ⟨fun z => two_free (n := n) (s := 102) (by decide) (z ▸ hc), fun z => two_free (n := n) (s := 115) (by decide) (z ▸ hc)⟩
  have tn : ∀ n : Int, two n ≠ [] := fun n => by unfold two; split <;> simp [nm_ne]
  have cp := clock_parts hr hr2 h
  have v0 : 0 ≤ q.1 / q.2 := Int.ediv_nonneg h.a (by have := h.cn.1; omega)
  unfold timeV clockL
  by_cases h0 : q.1 % q.2 = 0
  · rw [if_pos h0]
    have l : (clockH q rate).getLast? ≠ some 102 ∧ (clockH q rate).getLast? ≠ some 115 := nl (((nm (q.1 / q.2 / rate / 3600) ++ [58]) ++ two (q.1 / q.2 / rate / 60 % 60)) ++ [58] ++ two (q.1 / q.2 / rate % 60) ++ [58]) (two (q.1 / q.2 % rate)) (tn _) (fr2 _)
    rw [if_neg l.1, if_neg l.2, par1_none (clockH_free (by decide))]
    dsimp only
    rw [cp]
    have e := cn_one h.cn h0
    show some (q.1 / q.2, (1 : Int)) = some q
    have : q.1 / q.2 = q.1 := by rw [e, Int.ediv_one]
    rw [this, ← e]
  · rw [if_neg h0]
    have l := nl (((clockH q rate ++ [32]) ++ nm (q.1 % q.2)) ++ [47]) (nm q.2) (nm_ne _) (fr _)
    rw [if_neg l.1, if_neg l.2]
    have e : (((clockH q rate ++ [32]) ++ nm (q.1 % q.2)) ++ [47]) ++ nm q.2 = clockH q rate ++ 32 :: (nm (q.1 % q.2) ++ 47 :: nm q.2) := by simp
    rw [e, par1_app (clockH_free (by decide))]
    dsimp only
    rw [cp, rest_nm h h0]
    dsimp only
    rw [sum_rest h]
end Dv

/-! ### sorted: pairs of an int and a text; texts -/
namespace Dv
open PySem PySem.Spec PyProof.Rows
section
variable {prog : Program} {w : World} {A : Around} {E : Value → Shared → Prop} {s : Shared}
def IsIS (h : Heap) (v : Value) (x : Int) (y : Str) : Prop := ∃ a o t u n, v = .ref a ∧ h.get? a = some o ∧ o.cls = .type "tuple" ∧ o.data = .seq #[.int x t, .str y u] n
theorem IsIS.keeps {h h' : Heap} {v : Value} {x : Int} {y : Str} (p : IsIS h v x y) (k : ∀ b o, h.get? b = some o → o.cls = .type "tuple" → h'.get? b = some o) : IsIS h' v x y := by
  obtain ⟨a, o, t, u, n, e, ho, hc, hd⟩ := p
  exact ⟨a, o, t, u, n, e, k _ _ ho hc, hc, hd⟩
/-- by the int, then by the text -/
def ltIS (p q : Int × Str) : Bool := if p.1 = q.1 then decide (p.2.cps.toList < q.2.cps.toList) else decide (p.1 < q.1)
theorem nlt_irrefl (l : List Nat) : ¬ l < l := List.lt_irrefl l
theorem swo_IS {α : Type} (k : α → Int × Str) : SrtO.Swo fun v u => ltIS (k v) (k u) := by
  have asy : ∀ a b : List Nat, a < b → ¬ b < a := fun a b h => List.lt_asymm h
  have tr : ∀ a b c : List Nat, ¬ b < a → ¬ c < b → ¬ c < a := fun a b c h1 h2 h3 => by
    have h4 : a ≤ b := h1
    have h5 : b ≤ c := h2
    exact (List.le_trans h4 h5) h3
  refine ⟨fun x y h => ?_, fun x y z h1 h2 => ?_⟩
  · unfold ltIS at h ⊢
    by_cases e : (k x).1 = (k y).1
    · rw [if_pos e, decide_eq_true_eq] at h
      rw [if_pos e.symm]
      exact decide_eq_false (asy _ _ h)
    · rw [if_neg e, decide_eq_true_eq] at h
      rw [if_neg (fun z => e z.symm)]
      exact decide_eq_false (by omega)
  · unfold ltIS at h1 h2 ⊢
    by_cases e1 : (k y).1 = (k x).1
    · rw [if_pos e1] at h1
      by_cases e2 : (k z).1 = (k y).1
      · rw [if_pos e2] at h2
        rw [if_pos (e2.trans e1)]
        exact decide_eq_false (tr _ _ _ (of_decide_eq_false h1) (of_decide_eq_false h2))
      · rw [if_neg e2] at h2
        have := of_decide_eq_false h2
        rw [if_neg (fun q => e2 (q.trans e1.symm))]
        exact decide_eq_false (by omega)
    · rw [if_neg e1] at h1
      have := of_decide_eq_false h1
      by_cases e2 : (k z).1 = (k y).1
      · rw [if_neg (fun q => e1 (e2.symm.trans q))]
        exact decide_eq_false (by omega)
      · rw [if_neg e2] at h2
        have := of_decide_eq_false h2
        by_cases e3 : (k z).1 = (k x).1
        · omega
        · rw [if_neg e3]
          exact decide_eq_false (by omega)
theorem is_cmp {vs : List Value} {k : Value → Int × Str} (hp : ∀ v ∈ vs, IsIS s.heap v (k v).1 (k v).2) : SrtO.Cmp prog w A s (tuples' true) (fun p => p.1 ∈ vs) (SrtO.lt2 fun v u => ltIS (k v) (k u)) := by
  intro p q hm hm'
  have h1 := hp _ hm
  have h2 := hp _ hm'
  show wpAny (model prog w) A (keyLt' (tuples' true) p.1 q.1) (fun r s' => s' = s ∧ r = ltIS (k p.1) (k q.1)) (fun _ _ => False) s
  unfold ltIS
  generalize (k p.1).1 = x at h1 ⊢
  generalize (k p.1).2 = y at h1 ⊢
  generalize (k q.1).1 = x' at h2 ⊢
  generalize (k q.1).2 = y' at h2 ⊢
  obtain ⟨a, o, t, u, n, e, ho, hc, hd⟩ := h1
  obtain ⟨a', o', t', u', n', e', ho', hc', hd'⟩ := h2
  rw [e, e']
  refine PySem.W.kat_lt ho hd ho' hd' ?_
  show PySem.W.KatLex prog w A true (decide (2 < 2)) _ [(.int x t, .int x' t'), (.str y u, .str y' u')] 0 s
  refine PySem.W.kat_cons (SeqAt.EqAt.int_int x t x' t' prog w _ _ ?_)
  refine PySem.W.kat_go (fun e1 => ?_) (fun e1 => ?_)
  · have ex : x = x' := by simpa using e1
    refine PySem.W.kat_yes (PySem.W.kat_cons (SeqAt.EqAt.str_str y u y' u' prog w _ _ ?_))
    refine PySem.W.kat_go (fun e2 => ?_) (fun e2 => ?_)
    · have ey : y = y' := by simpa using e2
      have e3 : (if x = x' then decide (y.cps.toList < y'.cps.toList) else decide (x < x')) = false := by
        rw [if_pos ex, ey]
        exact decide_eq_false (nlt_irrefl _)
      exact PySem.W.kat_yes (PySem.W.kat_nil ⟨rfl, e3.symm⟩)
    · have e3 : (if x = x' then decide (y.cps.toList < y'.cps.toList) else decide (x < x')) = decide (y.cps.toList < y'.cps.toList) := if_pos ex
      refine PySem.W.kat_no (PySem.W.kat_one _ _ (PyProof.Rows.lt_str ?_))
      exact (show s = s ∧ decide (y.cps.toList < y'.cps.toList) = (if x = x' then decide (y.cps.toList < y'.cps.toList) else decide (x < x')) from ⟨rfl, e3.symm⟩)
  · have ex : ¬ x = x' := by simpa using e1
    have e3 : (if x = x' then decide (y.cps.toList < y'.cps.toList) else decide (x < x')) = decide (x < x') := if_neg ex
    exact PySem.W.kat_no (oneLt_int ⟨rfl, e3.symm⟩)
theorem is_firsts {h : Heap} : ∀ {vs : List Value}, (∀ v ∈ vs, ∃ x y, IsIS h v x y) → ∃ fs : List Value, PySem.W.KatTups h vs fs ∧ fs.length = vs.length ∧ ∀ f ∈ fs, ∃ x t, f = Value.int x t
  | [], _ => ⟨[], PySem.W.KatTups.nil, rfl, fun _ hm => by simp at hm⟩
  | v :: vs, hp => by
    obtain ⟨fs, h1, h2, h3⟩ := is_firsts (vs := vs) fun v' hm => hp v' (List.mem_cons_of_mem _ hm)
    obtain ⟨x, y, a, o, t, u, n, e, ho, hc, hd⟩ := hp v (List.mem_cons_self ..)
    subst e
    refine ⟨.int x t :: fs, PySem.W.KatTups.cons ho hc hd rfl h1, by rw [List.length_cons, List.length_cons, h2], fun f hm => ?_⟩
    rcases List.mem_cons.mp hm with rfl | hm
    · exact ⟨x, t, rfl⟩
    · exact h3 f hm
theorem is_sortable {a : Addr} {vs : List Value} {k : Value → Int × Str} (h0 : 0 < vs.length) (hp : ∀ v ∈ vs, IsIS s.heap v (k v).1 (k v).2) (ha : ∀ o, s.heap.get? a = some o → o.cls ≠ .type "tuple") : SrtO.SortableO prog w A s a vs fun v u => ltIS (k v) (k u) := by
  intro h' keep
  have hp' : ∀ v ∈ vs, IsIS h' v (k v).1 (k v).2 := fun v hm => (hp v hm).keeps fun b o e c => keep b o (fun z => by subst z; exact ha o e c) e
  obtain ⟨fs, h1, h2, h3⟩ := is_firsts fun v hm => ⟨_, _, hp' v hm⟩
  refine ⟨tuples' true, fun Q E hq => ?_, is_cmp hp'⟩
  refine PySem.W.kat_kind (T := .type "int") h1 (by omega) (fun f hm => ?_) (by rfl) ?_
  · obtain ⟨x, t, rfl⟩ := h3 f hm
    exact PySem.W.Looks.now
  · have e : (Value.type "int" != Value.type "tuple") = true := by first | decide +kernel | rfl | decide
    rw [e]
    exact hq
theorem sorted_IS {l : Addr} {vs : List Value} {k : Value → Int × Str} {Q : Value → Shared → Prop} (hl : s.heap.IsList l vs.toArray) (hz : vs.length ≤ sizeLine) (hp : ∀ v ∈ vs, IsIS s.heap v (k v).1 (k v).2)
    (h : ∀ (h' : Heap) (d : Addr) (out : List Value), SrtO.Srtd (fun v u => ltIS (k v) (k u)) out → SrtO.Stb (fun v u => ltIS (k v) (k u)) out vs → (∀ b o, s.heap.get? b = some o → h'.get? b = some o) → s.heap.objs.size ≤ d → (∃ n, h'.get? d = some (seqObj "list" out.toArray n)) → Q (.ref d) { s with heap := h' }) :
    wpAny (model prog w) A (call (.builtin "sorted") [.ref l]) Q E s := by
  refine SrtO.sorted_ord (swo_IS k) hl hz (fun h2 h₁ a ha kk => ?_) fun out hs hb => ?_
  · refine is_sortable (s := { s with heap := h₁ }) (by omega) (fun v hm => (hp v hm).keeps fun b o e _ => (kk b o e).2) fun o e => ?_
    have e' : some o = some (seqObj "list" vs.toArray 0) := e.symm.trans ha
    cases e'
    intro c
    exact absurd (Value.type.inj c) (by decide)
  · exact h _ _ out hs hb (fun b o e => sortedAll_old e) (Nat.le_succ _) (sortedAll_at s.heap vs out.toArray)
end
open L2
/-! the sorted list -/
section
variable {α β : Type}
def insB (lt : α → α → Bool) (d : α) : List α → List α
  | [] => [d]
  | x :: r => if lt x d = true then x :: insB lt d r else d :: x :: r
def isort (lt : α → α → Bool) : List α → List α
  | [] => []
  | d :: r => insB lt d (isort lt r)
theorem insB_perm (lt : α → α → Bool) (d : α) : ∀ l : List α, (insB lt d l).Perm (d :: l)
  | [] => .refl _
  | x :: r => by
    unfold insB
    split
    · exact ((insB_perm lt d r).cons x).trans (.swap d x r)
    · exact .refl _
theorem isort_perm (lt : α → α → Bool) : ∀ l : List α, (isort lt l).Perm l
  | [] => .refl _
  | d :: r => (insB_perm lt d _).trans ((isort_perm lt r).cons d)
theorem insB_srtd {lt : α → α → Bool} (O : SrtO.Swo lt) (d : α) : ∀ l : List α, SrtO.Srtd lt l → SrtO.Srtd lt (insB lt d l)
  | [], _ => SrtO.srtd_one d
  | x :: r, h => by
    unfold insB
    split
    · rename_i c
      refine List.pairwise_cons.mpr ⟨fun y hy => ?_, insB_srtd O d r (List.pairwise_cons.mp h).2⟩
      rcases List.mem_cons.mp ((insB_perm lt d r).mem_iff.mp hy) with rfl | hy
      · exact O.asym _ _ c
      · exact SrtO.srtd_head h y hy
    · rename_i c
      simp only [Bool.not_eq_true] at c
      refine List.pairwise_cons.mpr ⟨fun y hy => ?_, h⟩
      rcases List.mem_cons.mp hy with rfl | hy
      · exact c
      · exact O.tr d x y c (SrtO.srtd_head h y hy)
theorem isort_srtd {lt : α → α → Bool} (O : SrtO.Swo lt) : ∀ l : List α, SrtO.Srtd lt (isort lt l)
  | [] => .nil
  | d :: r => insB_srtd O d _ (isort_srtd O r)
theorem insB_cls {lt : α → α → Bool} (O : SrtO.Swo lt) (d x : α) : ∀ l : List α, SrtO.Srtd lt l → (insB lt d l).filter (SrtO.eqv lt x) = (d :: l).filter (SrtO.eqv lt x)
  | [], _ => rfl
  | y :: r, h => by
    unfold insB
    split
    · rename_i c
      have ih := insB_cls O d x r (List.pairwise_cons.mp h).2
      rw [List.filter_cons, ih]
      cases e : SrtO.eqv lt x d
      · rw [List.filter_cons (x := d), e, List.filter_cons (x := d), e, List.filter_cons (x := y)]
        simp
      · have e2 : SrtO.eqv lt x y = false := by
          cases e2 : SrtO.eqv lt x y
          · rfl
          · obtain ⟨p1, p2⟩ := SrtO.eqv_iff.mp e
            obtain ⟨q1, q2⟩ := SrtO.eqv_iff.mp e2
            have t2 := O.tr d x y p1 q2
            rw [c] at t2
            cases t2
        rw [e2]
        simp [List.filter_cons, e, e2]
    · rfl
theorem isort_stb {lt : α → α → Bool} (O : SrtO.Swo lt) : ∀ l : List α, SrtO.Stb lt (isort lt l) l
  | [] => .refl _
  | d :: r => ⟨isort_perm lt _, fun x => by
    show (insB lt d (isort lt r)).filter _ = _
    rw [insB_cls O d x _ (isort_srtd O r), List.filter_cons, List.filter_cons, (isort_stb O r).cls x]⟩
theorem insB_map (lt : β → β → Bool) (f : α → β) (d : α) : ∀ l : List α, (insB (fun x y => lt (f x) (f y)) d l).map f = insB lt (f d) (l.map f)
  | [] => rfl
  | x :: r => by
    rw [List.map_cons]
    unfold insB
    split
    · rw [List.map_cons, insB_map lt f d r]
    · rfl
theorem isort_map (lt : β → β → Bool) (f : α → β) : ∀ l : List α, (isort (fun x y => lt (f x) (f y)) l).map f = isort lt (l.map f)
  | [] => rfl
  | d :: r => by
    show (insB _ d (isort _ r)).map f = insB lt (f d) (isort lt (r.map f))
    rw [insB_map, isort_map]
theorem insB_congr {lt lt' : α → α → Bool} {d : α} : ∀ {l : List α}, (∀ x ∈ l, lt x d = lt' x d) → insB lt d l = insB lt' d l
  | [], _ => rfl
  | x :: r, h => by
    unfold insB
    rw [h x (by simp), insB_congr fun y hy => h y (by simp [hy])]
theorem isort_congr {lt lt' : α → α → Bool} : ∀ {l : List α}, (∀ x ∈ l, ∀ y ∈ l, lt x y = lt' x y) → isort lt l = isort lt' l
  | [], _ => rfl
  | d :: r, h => by
    show insB lt d (isort lt r) = insB lt' d (isort lt' r)
    rw [isort_congr fun x hx y hy => h x (by simp [hx]) y (by simp [hy])]
    exact insB_congr fun x hx => h x (by simp [(isort_perm lt' r).mem_iff.mp hx]) d (by simp)
end
/-- sorted(xs), pairs of an int and a text -/
def rSortedIS (K : PySem.W.Frag) : List V → Hp → VK → Prop := fun vs H Q => ∃ (a : Addr) (α : Type) (ts : List α) (fv : α → V) (key : α → Int × Str), vs = [V.ref a] ∧ SqL K H a (ts.map fv) ∧ (∀ x ∈ ts, ∃ t, fv x = V.ref t ∧ SqT K H t [.int (key x).1, .str (key x).2]) ∧
  ∀ p, H p = none → Q (.ref p) (upd H p (.lst ((isort (fun x y => ltIS (key x) (key y)) ts).map fv)))
section
variable {X : Cx}
open Classical in
theorem cr_sortedIS : CallR X (.builtin "sorted") (rSortedIS X.K) := by
  intro pins s σ H vs us Q I r h
  obtain ⟨a, α, ts, fv, key, rfl, hs, hx0, q⟩ := h
  -- the key of a value
  have uq : ∀ x ∈ ts, ∀ y ∈ ts, fv x = fv y → key x = key y := fun x hx y hy e => by
    obtain ⟨t, e1, h1⟩ := hx0 x hx
    obtain ⟨t', e2, h2⟩ := hx0 y hy
    rw [e1, e2] at e
    cases e
    have := I.tuple_inj h1 h2
    injection this with z1 z2
    injection z2 with z2 z3
    injection z1 with z1
    injection z2 with z2
    exact Prod.ext z1 z2
  let k : V → Int × Str := fun v => if h : ∃ x, x ∈ ts ∧ fv x = v then key h.choose else (0, ⟨#[]⟩)
  have hk : ∀ x ∈ ts, k (fv x) = key x := fun x hx => by
    have h : ∃ y, y ∈ ts ∧ fv y = fv x := ⟨x, hx, rfl⟩
    show (if h : ∃ y, y ∈ ts ∧ fv y = fv x then key h.choose else (0, ⟨#[]⟩)) = key x
    rw [dif_pos h]
    exact uq _ h.choose_spec.1 _ hx h.choose_spec.2
  have hx : ∀ x ∈ ts.map fv, ∃ t, x = V.ref t ∧ SqT X.K H t [.int (k x).1, .str (k x).2] := fun x hm => by
    obtain ⟨y, hy, rfl⟩ := List.mem_map.mp hm
    rw [hk y hy]
    exact hx0 y hy
  obtain ⟨its, rv, hl, hz⟩ := I.list hs
  obtain ⟨u, rfl, ru⟩ := vals1 r
  obtain rfl : u = Value.ref a := ru
  obtain ⟨e1, e2⟩ := refs_back rv fun x m => by
    obtain ⟨t, e, _⟩ := hx x m
    exact ⟨t, e⟩
  refine sorted_IS (k := fun u => k (backV u)) hl.isList (by rw [← rv.length]; exact hz) (fun v hv => ?_) fun h' d out h1 h2 kp hd hn => ?_
  · obtain ⟨t, rfl⟩ := e2 v hv
    have hm : V.ref t ∈ ts.map fv := by rw [e1]; exact List.mem_map.mpr ⟨_, hv, rfl⟩
    obtain ⟨t', e, ht⟩ := hx _ hm
    cases e
    obtain ⟨its2, r2, ⟨o, ho, hc, n, hd⟩, hz2⟩ := I.tuple ht
    obtain ⟨u1, u2, rfl, ri, rj⟩ := vals2 r2
    obtain ⟨t1, rfl⟩ := ri
    obtain ⟨t2, rfl⟩ := rj
    exact ⟨t, o, t1, t2, n, rfl, ho, hc, hd⟩
  · have h3 : ∀ u ∈ out, ∃ a, u = Value.ref a := fun u hu => e2 u (h2.perm.mem_iff.mp hu)
    obtain ⟨n, hn⟩ := hn
    have hb : SrtO.Stb (fun v u => ltIS (k v) (k u)) (out.map backV) (ts.map fv) := by
      rw [e1]
      exact SrtO.Stb.map (swo_IS k) backV h2
    have hsr : SrtO.Srtd (fun v u => ltIS (k v) (k u)) (out.map backV) := SrtO.srtd_map h1
    have e3 : out.map backV = isort (fun v u => ltIS (k v) (k u)) (ts.map fv) :=
      SrtO.stb_uniq (swo_IS k) hsr (isort_srtd (swo_IS k) _) (hb.trans ⟨(isort_perm _ _).symm, fun x => ((isort_stb (swo_IS k) _).cls x).symm⟩)
    have e4 : isort (fun v u => ltIS (k v) (k u)) (ts.map fv) = (isort (fun x y => ltIS (key x) (key y)) ts).map fv := by
      rw [← isort_map (fun v u => ltIS (k v) (k u)) fv ts]
      congr 1
      exact isort_congr fun x hx y hy => by rw [hk x hx, hk y hy]
    have e5 := e3.trans e4
    refine ⟨.ref d, upd H d (.lst (out.map backV)), I.laid (t' := s.toks) kp hd ⟨?_, out, n, vals_back h3, hn⟩, rfl, ?_⟩
    · rw [hb.len]
      exact hz
    · rw [e5]
      exact q d (I.hok.fresh hd)
end
/-! ### sorted, as a built-in of the layer -/
def keyIS : D → Option (Int × Str)
  | .tup [.int i, .str x] => some (i, x)
  | _ => none
def keysIS : List D → Option (List ((Int × Str) × D))
  | [] => some []
  | d :: ds => match keyIS d, keysIS ds with
    | some k, some l => some ((k, d) :: l)
    | _, _ => none
def fSortIS : List D → Option D
  | [.lst ds] => (keysIS ds).map fun l => .lst ((isort (fun x y => ltIS x.1 y.1) l).map (·.2))
  | _ => none
section
variable {g : G} {R : Addr → Prop} {al : List Addr} {om : Om} {σ : St} {ρ : Rho} {H : Hp} {W : WX} {L : Addr → Prop}
theorem RepVs.mem_zip : ∀ {vs : List V} {ds : List D}, RepVs g al L H vs ds → ∀ p ∈ vs.zip ds, RepV g al L H p.1 p.2
  | _, _, .nil, p, h => by simp at h
  | _, _, .cons h r, p, hp => by
    rw [List.zip_cons_cons] at hp
    rcases List.mem_cons.mp hp with rfl | hp
    · exact h
    · exact r.mem_zip p hp
theorem RepVs.of_mem {α : Type} {f : α → V} {h : α → D} : ∀ {l : List α}, (∀ x ∈ l, RepV g al L H (f x) (h x)) → RepVs g al L H (l.map f) (l.map h)
  | [], _ => .nil
  | x :: l, k => .cons (k x (by simp)) (RepVs.of_mem fun y hy => k y (by simp [hy]))
/-- values, keys and data side by side -/
theorem keys_rep : ∀ {vs : List V} {ds : List D} {l : List ((Int × Str) × D)}, RepVs g al L H vs ds → keysIS ds = some l → ∃ ts : List (V × ((Int × Str) × D)), ts.map (·.1) = vs ∧ ts.map (·.2) = l ∧ ∀ x ∈ ts, RepV g al L H x.1 x.2.2 ∧ x.2.2 = .tup [.int x.2.1.1, .str x.2.1.2]
  | _, _, l, .nil, e => by cases e; exact ⟨[], rfl, rfl, by simp⟩
  | v :: vs, d :: ds, l, .cons h r, e => by
    unfold keysIS at e
    cases e1 : keyIS d with
    | none => rw [e1] at e; cases e
    | some k =>
      cases e2 : keysIS ds with
      | none => rw [e1, e2] at e; cases e
      | some l' =>
        rw [e1, e2] at e
        cases e
        obtain ⟨ts, h1, h2, h3⟩ := keys_rep r e2
        refine ⟨(v, (k, d)) :: ts, by rw [List.map_cons, h1], by rw [List.map_cons, h2], fun x hx => ?_⟩
        rcases List.mem_cons.mp hx with rfl | hx
        · refine ⟨h, ?_⟩
          unfold keyIS at e1
          split at e1
          · cases e1; rfl
          · cases e1
        · exact h3 x hx
theorem s_sortIS : FnS g (rSortedIS g.K) fSortIS := by
  intro R W al om σ ρ H Q vs xs S r P
  unfold fSortIS at P
  split at P
  · obtain ⟨v, rfl, h⟩ := r.one
    obtain ⟨a, vs, rfl, h1, h2⟩ := h.lst
    rename_i ds
    cases e : keysIS ds with
    | none => rw [e] at P; exact P.elim
    | some l =>
      rw [e] at P
      obtain ⟨ts, k1, k2, k3⟩ := keys_rep h2 e
      refine ⟨a, _, ts, (·.1), (·.2.1), rfl, by rw [k1]; exact SqL.of h1, fun x hx => ?_, fun p hp => ?_⟩
      · obtain ⟨m1, m2⟩ := k3 x hx
        rw [m2] at m1
        generalize ex : x.1 = xv at m1
        cases m1 with
        | tup t1 t2 =>
          rename_i b ws
          have : ws = [.int x.2.1.1, .str x.2.1.2] := by
            cases t2 with
            | cons a1 a2 => cases a1; cases a2 with
              | cons b1 b2 => cases b1; cases b2; rfl
          rw [this] at t1
          exact ⟨b, ex, t1⟩
      · have e9 : (isort (fun x y => ltIS x.1 y.1) l).map (·.2) = (isort (fun (x y : V × ((Int × Str) × D)) => ltIS x.2.1 y.2.1) ts).map (·.2.2) := by
          rw [← k2, ← isort_map (fun (x y : (Int × Str) × D) => ltIS x.1 y.1) (fun x : V × ((Int × Str) × D) => x.2) ts, List.map_map]
          rfl
        have P' : PostR g R W (relV g) al (Mt al om σ ρ) H σ (.ok (.lst ((isort (fun (x y : V × ((Int × Str) × D)) => ltIS x.2.1 y.2.1) ts).map (·.2.2))) ρ om) Q := by
          rw [← e9]; exact P
        exact okNewL S P' hp (RepVs.of_mem fun x hx => (k3 x ((isort_perm _ _).mem_iff.mp hx)).1)
  · exact P.elim
end
/-! ### a sum of lists as an own list -/
@[simp] def uCatV (i : Nat) (ub : UE) : UW := fun ρ ω => match ρ[i]? with
  | some (some (.own _)) => (ub ρ ω).bind fun y ρ ω => (match ρ[i]?, y with
    | some (some (.own xs)), .lst ys => if xs.length + ys.length ≤ big then .ok (xs ++ ys) ρ ω else .no
    | _, _ => .no)
  | _ => .no
section
variable {g : G} {X : Cx} {W : WX} {a b : Expr} {ub : UE} {pos : Pos}
theorem pu_catV (i : Nat) (ha : PE X a (tVar i)) (hb : PE X b (tE g W ub)) : PE X (.BinOp a .Add b pos) (tOw g W (uCatV i ub)) := peImp (pe_op op_cat ha hb) fun σ H Q ⟨R, ρ, om, al, S, P⟩ => by
  simp only [uCatV] at P
  split at P
  · rename_i xs e
    obtain ⟨a, vs, h1, h2, h3⟩ := S.own i xs e
    refine ⟨_, h1, tR_bindO S P fun y ρ1 om1 w H1 al1 s1 S1 r1 P1 => ?_⟩
    split at P1
    · rename_i xs' ys e1
      split at P1
      · rename_i hz
        obtain ⟨a', vs', k1, k2, k3⟩ := S1.own i xs' e1
        rw [h1] at k1
        cases k1
        cases r1 with
        | lst m1 m2 m3 =>
          exact ⟨_, _, _, _, rfl, rfl, k2, m1, big_line (by rw [k3.length, m3.length]; exact hz), fun p hp => okOwn S1 P1 hp (k3.append m3)⟩
      · exact P1.elim
    · exact P1.elim
  · exact P.elim
end
end Dv

namespace Dv
open PySem PySem.Spec PyProof.Rows L2
/-! ### comprehensions, any target -/
theorem goC_gen {G : UG} {te : UE} {vs : List Nat} {ω : Om} {ρ : Rho} (f : D → D) (r : D → Rho) : ∀ (ds acc : List D), (∀ d ∈ ds, G d ρ = some (r d) ∧ te (r d) ω = .ok (f d) (r d) ω ∧ clrs (r d) vs = ρ) → acc.length + ds.length ≤ big → goC G uYes te vs ds acc ρ ω = .ok (acc ++ ds.map f) ρ ω
  | [], acc, _, _ => by unfold goC; simp
  | d :: ds, acc, h, hz => by
    obtain ⟨h1, h2, h3⟩ := h d (by simp)
    simp only [List.length_cons] at hz
    unfold goC
    rw [h1]
    simp only [uYes, if_true]
    rw [h2]
    dsimp only
    rw [if_pos (by omega), h3, goC_gen f r ds (acc ++ [f d]) (fun x hx => h x (by simp [hx])) (by simp; omega)]
    simp
theorem goC_filt {G : UG} {tt : UT} {te : UE} {vs : List Nat} {ω : Om} {ρ : Rho} (f : D → D) (p : D → Bool) (r : D → Rho) : ∀ (ds acc : List D), (∀ d ∈ ds, G d ρ = some (r d) ∧ tt (r d) ω = .ok (p d) (r d) ω ∧ te (r d) ω = .ok (f d) (r d) ω ∧ clrs (r d) vs = ρ) → acc.length + ds.length ≤ big → goC G tt te vs ds acc ρ ω = .ok (acc ++ (ds.filter p).map f) ρ ω
  | [], acc, _, _ => by unfold goC; simp
  | d :: ds, acc, h, hz => by
    obtain ⟨h1, h0, h2, h3⟩ := h d (by simp)
    simp only [List.length_cons] at hz
    unfold goC
    rw [h1]
    dsimp only
    rw [h0]
    dsimp only
    cases e : p d
    · rw [if_neg (by decide), h3, goC_filt f p r ds acc (fun x hx => h x (by simp [hx])) (by omega), List.filter_cons, e]
      simp
    · rw [if_pos rfl, h2]
      dsimp only
      rw [if_pos (by omega), h3, goC_filt f p r ds (acc ++ [f d]) (fun x hx => h x (by simp [hx])) (by simp; omega), List.filter_cons, e]
      simp
/-! ### small fractions -/
structure Sm (q : Fr) : Prop where
  cn : Cn q
  a : 0 ≤ q.1
  b : q.1 < 1000000000000
  d : q.2 < 100000000
theorem Sm.bd {q : Fr} (h : Sm q) : Bd 40 q := by
  have p6 : (2 : Nat) ^ 40 = 1099511627776 := by decide
  have := h.a
  have := h.b
  have := h.d
  have := h.cn.1
  exact ⟨h.cn.1, by omega, by omega⟩
theorem Sm.wr {q : Fr} (h : Sm q) : Wr q := ⟨h.a, by have := h.b; omega, h.cn.1, by have := h.d; omega⟩
theorem val_floor {q : Fr} (hq : 0 < q.2) {n : Int} (h : val q < (n : Rat)) : q.1 / q.2 < n := by
  have h1 := cast_pos hq
  unfold val at h
  rw [Rat.div_lt_iff h1, ← Rat.intCast_mul, Rat.intCast_lt_intCast] at h
  exact Int.ediv_lt_of_lt_mul hq h
theorem Sm.rd {q : Fr} (h : Sm q) (hv : val q < ((1000000000 : Int) : Rat)) : Rd q := ⟨h.cn, h.a, val_floor h.cn.1 hv, by have := h.d; omega⟩
theorem Sm.nn {q : Fr} (h : Sm q) : 0 ≤ val q := (val_lt_of h.cn.1).mpr h.a
/-! ### cues -/
structure Cu where
  n : Int
  b : Fr
  e : Fr
  ws : List (List Nat × Fr)
@[reducible] def encW (w : List Nat × Fr) : D := .tup [tx w.1, encF w.2]
@[reducible] def encCu (c : Cu) : D := .tup [.int c.n, encF c.b, encF c.e, .lst (c.ws.map encW)]
structure Wd (w : List Nat) : Prop where
  l : 1 ≤ w.length
  m : w.length ≤ 20
  a : ∀ c ∈ w, 97 ≤ c ∧ c ≤ 122
structure CuOk (c : Cu) : Prop where
  n0 : 0 ≤ c.n
  n1 : c.n < 1000000000
  b : Sm c.b
  e : Sm c.e
  lt : val c.b < val c.e
  hi : val c.e < ((200000 : Int) : Rat)
  ws : ∀ w ∈ c.ws, Wd w.1 ∧ Sm w.2 ∧ val c.b ≤ val w.2 ∧ val w.2 < val c.e
  srt : c.ws.Pairwise fun x y => val x.2 ≤ val y.2
  len : c.ws.length ≤ 11
/-- the drawn words with their elevenths -/
@[reducible] def encA (x : Int × List Nat) : D := .tup [.int x.1, tx x.2]
def kA (x : Int × List Nat) : Int × Str := (x.1, ⟨x.2.toArray⟩)
theorem keys_A : ∀ l : List (Int × List Nat), keysIS (l.map encA) = some (l.map fun x => (kA x, encA x))
  | [] => rfl
  | x :: l => by
    rw [List.map_cons, List.map_cons]
    unfold keysIS
    rw [keys_A l]
    rfl
theorem fSort_A (l : List (Int × List Nat)) : fSortIS [.lst (l.map encA)] = some (.lst ((isort (fun x y => ltIS (kA x) (kA y)) l).map encA)) := by
  unfold fSortIS
  dsimp only
  rw [keys_A]
  show some (D.lst _) = _
  rw [← isort_map (fun (x y : (Int × Str) × D) => ltIS x.1 y.1) (fun x : Int × List Nat => (kA x, encA x)) l, List.map_map]
  rfl
theorem sort_ats (l : List (Int × List Nat)) : (isort (fun x y => ltIS (kA x) (kA y)) l).Pairwise (fun x y => x.1 ≤ y.1) := by
  refine (isort_srtd (swo_IS kA) l).imp fun {x y} h => ?_
  have h : ltIS (kA y) (kA x) = false := h
  unfold ltIS kA at h
  dsimp only at h
  by_cases e : y.1 = x.1
  · omega
  · rw [if_neg e] at h
    have := of_decide_eq_false h
    omega
/-! texts of drawn letters -/
theorem let_list {ys : List D} (h : ∀ y ∈ ys, ∃ c, y = tx [c] ∧ 97 ≤ c ∧ c ≤ 122) : ∃ cs : List Nat, ys = cs.map (fun c => tx [c]) ∧ cs.length = ys.length ∧ ∀ c ∈ cs, 97 ≤ c ∧ c ≤ 122 := by
  induction ys with
  | nil => exact ⟨[], rfl, rfl, by simp⟩
  | cons y ys ih =>
    obtain ⟨c, rfl, h1⟩ := h y (by simp)
    obtain ⟨cs, e, l, h2⟩ := ih fun z hz => h z (by simp [hz])
    refine ⟨c :: cs, by rw [e]; rfl, by simp [l], fun x hx => ?_⟩
    rcases List.mem_cons.mp hx with rfl | hx
    · exact h1
    · exact h2 x hx
theorem joinL_nil : ∀ cs : List Nat, TL.joinL [] (cs.map fun c => [c]) = cs
  | [] => rfl
  | [_] => rfl
  | a :: b :: r => by
    show [a] ++ ([] ++ TL.joinL [] ((b :: r).map fun c => [c])) = _
    rw [joinL_nil (b :: r)]
    rfl
theorem lens_one : ∀ cs : List Nat, lens (cs.map fun c => [c]) = cs.length
  | [] => rfl
  | c :: cs => by
    have := lens_one cs
    unfold lens at this ⊢
    simp only [List.map_cons, List.sum_cons, List.length_cons, List.length_nil]
    omega
theorem fJoin_let {cs : List Nat} (h : cs.length ≤ 1000) : fJoin ⟨([] : List Nat).toArray⟩ (.lst (cs.map fun c => tx [c])) = some (tx cs) := by
  have := fJoin_tx (s := []) (ls := cs.map fun c => [c]) (by rw [lens_one]; simp; omega)
  rw [List.map_map, joinL_nil] at this
  exact this
theorem dIx_let {l : List Nat} {k : Int} (h0 : 0 ≤ k) (h1 : k < (l.length : Int)) (hl : l.length ≤ 1000) : ∃ c ∈ l, dIx (tx l) (.int k) = some (tx [c]) := by
  have hk : k.toNat < l.length := by omega
  refine ⟨l[k.toNat], List.getElem_mem hk, ?_⟩
  show (if (⟨l.toArray⟩ : Str).length ≤ big then (match atN l k with | some c => some (D.str ⟨#[c]⟩) | none => none) else none) = _
  rw [len_tx, if_pos (Nat.le_trans hl (by decide))]
  have e : atN l k = some l[k.toNat] := by
    unfold atN
    rw [if_pos h0]
    simp [hk]
  rw [e]
end Dv

namespace Dv
open PySem PySem.Spec PyProof.Rows L2
/-! ### bounds in numbers -/
structure Nb (A B : Nat) (q : Fr) : Prop where
  p : 0 < q.2
  n : q.1.natAbs ≤ A
  d : q.2.natAbs ≤ B
theorem nb_mk {A B : Nat} {t b : Int} (hb : b ≠ 0) (h1 : t.natAbs ≤ A) (h2 : b.natAbs ≤ B) : Nb A B (mk t b) := by
  obtain ⟨h, k, l⟩ := mk_den (t := t) hb
  exact ⟨h, Nat.le_trans l h1, Nat.le_trans k h2⟩
section
variable {A B C D : Nat} {p q : Fr} (h : Nb A B p) (k : Nb C D q)
include h k
theorem nb_sum : Nb (A * D + C * B) (B * D) (fsum p q) := nb_mk (pos_mul h.p k.p) (by
  refine Nat.le_trans (Int.natAbs_add_le _ _) ?_
  rw [Int.natAbs_mul, Int.natAbs_mul]
  exact Nat.add_le_add (Nat.mul_le_mul h.n k.d) (Nat.mul_le_mul k.n h.d)) (by rw [Int.natAbs_mul]; exact Nat.mul_le_mul h.d k.d)
theorem nb_sub : Nb (A * D + C * B) (B * D) (fsub p q) := nb_mk (pos_mul h.p k.p) (by
  refine Nat.le_trans (Int.natAbs_sub_le _ _) ?_
  rw [Int.natAbs_mul, Int.natAbs_mul]
  exact Nat.add_le_add (Nat.mul_le_mul h.n k.d) (Nat.mul_le_mul k.n h.d)) (by rw [Int.natAbs_mul]; exact Nat.mul_le_mul h.d k.d)
theorem nb_mul : Nb (A * C) (B * D) (fmul p q) := nb_mk (pos_mul h.p k.p) (by rw [Int.natAbs_mul]; exact Nat.mul_le_mul h.n k.n) (by rw [Int.natAbs_mul]; exact Nat.mul_le_mul h.d k.d)
end
theorem Nb.bd {A B N : Nat} {q : Fr} (h : Nb A B q) (h1 : A < 2 ^ N) (h2 : B < 2 ^ N) : Bd N q := ⟨h.p, Nat.lt_of_le_of_lt h.n h1, Nat.lt_of_le_of_lt h.d h2⟩
theorem Nb.sm {A B : Nat} {q : Fr} (h : Nb A B q) (hc : Cn q) (hv : 0 ≤ val q) (h1 : A < 1000000000000) (h2 : B < 100000000) : Sm q := by
  have a := h.n
  have b := h.d
  have c := (val_lt_of h.p).mp hv
  have d := h.p
  exact ⟨hc, c, by omega, by omega⟩
structure Tg (m : Int) (q : Fr) : Prop where
  cn : Cn q
  a : 0 ≤ q.1
  b : q.1 < m
  d : q.2 ≤ 30
theorem Tg.nb {m : Int} {q : Fr} (h : Tg m q) : Nb m.toNat 30 q := by
  have := h.a
  have := h.b
  have := h.d
  have := h.cn.1
  exact ⟨h.cn.1, by omega, by omega⟩
theorem val_le_top {q : Fr} (h : 0 < q.2) (h0 : 0 ≤ q.1) : val q ≤ (q.1 : Rat) := by
  have h1 := cast_pos h
  have h2 : (1 : Rat) ≤ (q.2 : Rat) := by
    have : (1 : Int) ≤ q.2 := by omega
    exact Rat.intCast_le_intCast.mpr this
  have h3 : (0 : Rat) ≤ (q.1 : Rat) := by exact Rat.intCast_le_intCast.mpr h0
  unfold val
  rw [← Rat.not_lt, Rat.lt_div_iff h1, Rat.not_lt]
  have := Rat.mul_le_mul_of_nonneg_left h2 h3
  grind
structure CuN (b s e far : Fr) : Prop where
  pb : Sm b
  pe : Sm e
  ps : Bd 20 s
  pf : Bd 40 far
  lt : val b < val e
  hi : val e < ((200000 : Int) : Rat)
  w : ∀ a : Int, 0 ≤ a → a < 11 → Bd 20 (mk a 11) ∧ Sm (fsum b (fmul far (mk a 11))) ∧ val b ≤ val (fsum b (fmul far (mk a 11))) ∧ val (fsum b (fmul far (mk a 11))) < val e
  mono : ∀ a c : Int, 0 ≤ a → a ≤ c → c < 11 → val (fsum b (fmul far (mk a 11))) ≤ val (fsum b (fmul far (mk c 11)))
theorem cue_nums {b t : Fr} (hb : Tg 99999 b) (ht : Tg 25 t) : CuN b (fsum (1, 3) t) (fsum b (fsum (1, 3) t)) (fsub (fsum b (fsum (1, 3) t)) b) := by
  have n3 : Nb 1 3 ((1, 3) : Fr) := ⟨by decide, by decide, by decide⟩
  have nb := hb.nb
  have nt := ht.nb
  have ns := nb_sum n3 nt
  have ne := nb_sum nb ns
  have nf := nb_sub ne nb
  have v0 : 0 ≤ val b := (val_lt_of hb.cn.1).mpr hb.a
  have vt : 0 ≤ val t := (val_lt_of ht.cn.1).mpr ht.a
  have v3 : val ((1, 3) : Fr) = 1 / 3 := by unfold val; rfl
  have vs : val (fsum (1, 3) t) = 1 / 3 + val t := by rw [val_sum n3.p nt.p, v3]
  have ve : val (fsum b (fsum (1, 3) t)) = val b + (1 / 3 + val t) := by rw [val_sum nb.p ns.p, vs]
  have vf : val (fsub (fsum b (fsum (1, 3) t)) b) = 1 / 3 + val t := by rw [val_sub ne.p nb.p, ve]; grind
  have tb := val_le_top hb.cn.1 hb.a
  have tt := val_le_top ht.cn.1 ht.a
  have tb2 : (b.1 : Rat) ≤ ((99999 : Int) : Rat) := Rat.intCast_le_intCast.mpr (by have := hb.b; omega)
  have tt2 : (t.1 : Rat) ≤ ((25 : Int) : Rat) := Rat.intCast_le_intCast.mpr (by have := ht.b; omega)
  have c1 : ((99999 : Int) : Rat) = 99999 := rfl
  have c2 : ((25 : Int) : Rat) = 25 := rfl
  have c3 : ((200000 : Int) : Rat) = 200000 := rfl
  have key : ∀ a : Int, 0 ≤ a → a < 11 → Nb 10 11 (mk a 11) ∧ val (mk a 11) = (a : Rat) / 11 := fun a h0 h1 =>
    ⟨nb_mk (by decide) (by omega) (by decide), by rw [val_mk (by decide)]; rfl⟩
  have vw : ∀ a : Int, 0 ≤ a → a < 11 → val (fsum b (fmul (fsub (fsum b (fsum (1, 3) t)) b) (mk a 11))) = val b + (1 / 3 + val t) * ((a : Rat) / 11) := fun a h0 h1 => by
    obtain ⟨k1, k2⟩ := key a h0 h1
    rw [val_sum nb.p (nb_mul nf k1).p, val_mul nf.p k1.p, vf, k2]
  refine ⟨nb.sm hb.cn v0 (by decide) (by decide), ne.sm (cn_sum nb.p ns.p) (by rw [ve]; grind) (by decide) (by decide), ns.bd (by decide) (by decide), nf.bd (by decide) (by decide), by rw [ve]; grind, by rw [ve]; grind, fun a h0 h1 => ?_, fun a c h0 h1 h2 => ?_⟩
  · obtain ⟨k1, k2⟩ := key a h0 h1
    have nw := nb_sum nb (nb_mul nf k1)
    have a0 : (0 : Rat) ≤ (a : Rat) := by
      have : ((0 : Int) : Rat) ≤ (a : Rat) := Rat.intCast_le_intCast.mpr h0
      exact this
    have a1 : (a : Rat) ≤ 10 := by
      have : (a : Rat) ≤ ((10 : Int) : Rat) := Rat.intCast_le_intCast.mpr (by omega)
      exact this
    have f0 : (0 : Rat) < 1 / 3 + val t := by grind
    have g0 : (0 : Rat) ≤ (a : Rat) / 11 := by grind
    have g1 : (a : Rat) / 11 < 1 := by grind
    have m0 := Rat.mul_nonneg (Rat.le_of_lt f0) g0
    have m1 := Rat.mul_lt_mul_of_pos_left g1 f0
    refine ⟨k1.bd (by decide) (by decide), nw.sm (cn_sum nb.p (nb_mul nf k1).p) (by rw [vw a h0 h1]; grind) (by decide) (by decide), by rw [vw a h0 h1]; grind, by rw [vw a h0 h1, ve]; grind⟩
  · rw [vw a h0 (by omega), vw c (by omega) h2]
    have ac : (a : Rat) ≤ (c : Rat) := Rat.intCast_le_intCast.mpr h1
    have f0 : (0 : Rat) ≤ 1 / 3 + val t := by grind
    have g : (a : Rat) / 11 ≤ (c : Rat) / 11 := by grind
    have := Rat.mul_le_mul_of_nonneg_left g f0
    grind
end Dv

namespace Dv
open PySem PySem.Spec PyProof.Rows L2
/-! ### seeing through to a shared list -/
def see (ω : Om) : D → D
  | .loc k => match ω[k]? with
    | some (.lst ds) => .lst ds
    | _ => .loc k
  | d => d
@[simp] def uBinX (f : D → D → Option D) (ua ub : UE) : UE := fun ρ ω => (ua ρ ω).bind fun x ρ ω => (ub ρ ω).bind fun y ρ ω => liftO (f (see ω x) (see ω y)) ρ ω
@[simp] def uUnX (f : D → Option D) (ua : UE) : UE := fun ρ ω => (ua ρ ω).bind fun x ρ ω => liftO (f (see ω x)) ρ ω
@[simp] def uFnX (f : List D → Option D) (u : UA) : UE := fun ρ ω => (u ρ ω).bind fun xs ρ ω => liftO (f (xs.map (see ω))) ρ ω
section
variable {g : G} {R : Addr → Prop} {al : List Addr} {om : Om} {σ : St} {ρ : Rho} {H H' : Hp} {W : WX} {X : Cx} {v : V} {d : D} {a b c e o : Expr} {ua ub uc ue uo : UE} {es : List Expr} {us : UA} {p0 pos p1 apos : Pos} {x : Str} {id : String}
theorem see_rep (S : Rst g R al σ ρ om H) (r : RepV g al (LL R al om σ ρ) H v d) : RepW g al (LL R al om σ ρ) H v (see om d) := by
  cases d with
  | loc k =>
    unfold see
    dsimp only
    split
    · rename_i ds e
      cases r with
      | loc ha =>
        obtain ⟨vs, h2, h3⟩ := cell_lst S e ha
        exact .own h2 h3
    · exact .v r
  | _ => exact .v r
theorem see_reps (S : Rst g R al σ ρ om H) : ∀ {vs : List V} {ds : List D}, RepVs g al (LL R al om σ ρ) H vs ds → RepWs g al (LL R al om σ ρ) H vs (ds.map (see om))
  | _, _, .nil => .nil
  | _, _, .cons h r => .cons (see_rep S h) (see_reps S r)
theorem tOpX {r : R2} {f : D → D → Option D} (hf : OpS g r f) {Q : VK} (h : tE g W (uBinX f ua ub) σ H Q) : tOp r (tE g W ua) (tE g W ub) σ H Q := by
  obtain ⟨R, ρ, om, al, S, P⟩ := h
  refine tR_bind S P fun x ρ1 om1 v H1 al1 s1 S1 r1 P1 => ?_
  refine tR_bind S1 P1 fun y ρ2 om2 w H2 al2 s2 S2 r2 P2 => ?_
  exact hf R W al2 om2 σ ρ2 H2 Q v w _ _ S2 (see_rep S2 (s2.rep S1 r1)) (see_rep S2 r2) P2
theorem pu_binX {op : Operator} {r : R2} {f : D → D → Option D} (ho : OpR X (binaryOp op) r) (hf : OpS g r f) (ha : PE X a (tE g W ua)) (hb : PE X b (tE g W ub)) : PE X (.BinOp a op b pos) (tE g W (uBinX f ua ub)) := peImp (pe_op ho ha hb) fun σ H Q h => tOpX hf h
theorem pu_cmpX {op : CmpOp} {r : R2} {f : D → D → Option D} (ho : OpR X (compareOp op) r) (hf : OpS g r f) (ha : PE X a (tE g W ua)) (hb : PE X b (tE g W ub)) (hm : behindInMarks op b = false) : PE X (.Compare a [op] [b] pos) (tE g W (uBinX f ua ub)) := peImp (pe_cmpR ho ha hb hm) fun σ H Q h => tOpX hf h
theorem pt_cmpX {op : CmpOp} {r : R2} {f : D → D → Option D} (ho : OpR X (compareOp op) r) (hf : OpS g r f) (ha : PE X a (tE g W ua)) (hb : PE X b (tE g W ub)) (hm : behindInMarks op b = false) : PT X (.Compare a [op] [b] pos) (tT g W (uB (uBinX f ua ub))) :=
  ptImp (pt_cmpR ho ha hb hm) fun σ H Q h => by
    obtain ⟨R, ρ, om, al, S, P⟩ := tB_of h
    exact tOpX hf ⟨R, ρ, om, al, S, P⟩
theorem pu_ixX {r : R2} {f : D → D → Option D} (ho : IxR X r) (hf : OpS g r f) (ha : PE X a (tE g W ua)) (hb : PE X b (tE g W ub)) (hs : PlainIx b := by exact fun _ _ => rfl) : PE X (.Subscript a b pos) (tE g W (uBinX f ua ub)) := peImp (pe_ix ho ha hb hs) fun σ H Q h => tOpX hf h
theorem pu_isiX (T : String) {n : Str} (hm : X.mg "isinstance" = none) (hn : X.mg n = none) (hv : bootBuiltins n = some (.type T)) (hK : X.K = g.K) (ha : PE X a (tE g W ua)) (hg : Gl X "isinstance" := by rfl) (hgn : Gl X n := by rfl) (hnn : n ≠ "__name__" := by decide) (hdn : (n == ("__debug__" : Str)) = false := by decide)
    (he : starEach (a :: [.Name n p1]) X.env = (false, eval a X.env) :: starEach [.Name n p1] X.env := by rfl) (he2 : starEach [.Name n p1] X.env = (false, eval (.Name n p1) X.env) :: starEach [] X.env := by rfl) (hpl : (backTo pos (starEach [.Name n p1] X.env)).any (·.1) = false := by rfl) :
    PE X (.Call (.Name "isinstance" p0) [a, .Name n p1] [] pos) (tE g W (uUnX (dIsi T) ua)) :=
  peImp (pe_callB call_isi hg hm boot_isinstance (pa_cons ha (pa_cons (pe_bltn (v := .ty T) hgn hn hv rfl hnn hdn) pa_nil he2) he) (by decide) (by decide) he hpl) fun σ H Q ⟨R, ρ, om, al, S, P⟩ =>
    tR_bind S P fun d ρ1 om1 v H1 al1 s1 S1 r1 P1 => by
      cases e : dIsi T (see om1 d) with
      | none => rw [e] at P1; exact P1.elim
      | some z =>
        rw [e] at P1
        obtain ⟨t, k, e1, e2, rfl⟩ := dIsi_some e
        exact (⟨v, .ty T, .type t, .type T, k, rfl, .ty T, by rw [hK]; exact tyX_of (see_rep S1 r1) e1, kit_ty e2, okSame S1 P1 .bl⟩ : rIsi X.K [v, .ty T] H1 Q)
theorem tCBX_of {f : List D → Option D} {r : List V → Hp → VK → Prop} (hf : FnS g r f) {Q : VK} (h : tE g W (uFnX f us) σ H Q) : tCB r (tA g W us) σ H Q := by
  obtain ⟨R, ρ, om, al, S, P⟩ := h
  exact tR_bind S P fun ds ρ1 om1 vs H1 al1 s1 S1 r1 P1 => hf R W al1 om1 σ ρ1 H1 Q vs _ S1 (see_reps S1 r1) P1
theorem pu_fnX {f : List D → Option D} {r : List V → Hp → VK → Prop} (hc : CallR X (.builtin id) r) (hf : FnS g r f) (hm : X.mg x = none) (hv : bootBuiltins x = some (.builtin id)) (ha : PA X (e :: es) (tA g W us)) (hg : Gl X x := by rfl) (hn : x ≠ "__name__" := by decide) (hdb : (x == ("__debug__" : Str)) = false := by decide)
    (he : starEach (e :: es) X.env = (false, eval e X.env) :: starEach es X.env := by rfl) (hpl : (backTo pos (starEach es X.env)).any (·.1) = false := by rfl) : PE X (.Call (.Name x p0) (e :: es) [] pos) (tE g W (uFnX f us)) :=
  peImp (pe_callB hc hg hm hv ha hn hdb he hpl) fun σ H Q h => tCBX_of hf h
/-! ### a for over a list that may change: asked anew at each turn -/
def goX (G : UG) (b : US) (get : Rho → Om → Option (List D)) : Nat → Nat → US
  | 0, _ => fun _ _ => .no
  | f + 1, i => fun ρ ω => match get ρ ω with
    | none => .no
    | some ds => match ds[i]? with
      | none => .nx ρ ω
      | some d => match G d ρ with
        | none => .no
        | some ρ1 => match b ρ1 ω with
          | .nx ρ ω => goX G b get f (i + 1) ρ ω
          | .ct ρ ω => goX G b get f (i + 1) ρ ω
          | .bk ρ ω => .nx ρ ω
          | .rt d ω => .rt d ω
          | .rto d ω => .rto d ω
          | .xc x ρ ω => .xc x ρ ω
          | .no => .no
def getL (k : Nat) : Rho → Om → Option (List D) := fun _ ω => match ω[k]? with
  | some (.lst ds) => some ds
  | _ => none
def lenG (get : Rho → Om → Option (List D)) : Rho → Om → Nat := fun ρ ω => match get ρ ω with
  | some ds => ds.length + 1
  | none => 0
/-- for .. in e, e a shared list -/
def sForL (u : UE) (G : UG) (b : US) : US := fun ρ ω => RS.of (u ρ ω) fun x ρ ω => match x with
  | .loc k => goX G b (getL k) (lenG (getL k) ρ ω) 0 ρ ω
  | _ => .no
variable {tg iter : Expr} {body : List Stmt} {G' : UG} {u : US}
theorem ps_forL (hp : PassesOwn (model X.prog X.w) X.A X.env X.xe) (hc : X.calm = true) (hK : X.K = g.K) (he : PE X iter (tE g W ue)) (hg : PG X tg (tG g G')) (hb : PSs X body (tS g W u))
    (hs : ∀ x, foldedSetIterable iter X.env x = pure x := by intro _; rfl) : PS X (.For tg iter body [] pos) (tS g W (sForL ue G' u)) := psImp (ps_for hp hc (pi_list he) hg hb hs) fun De σ H ⟨R, ρ, om, al, S, P⟩ => by
  refine tR_bindS S P fun x ρ1 om1 v H1 al1 s1 S1 r1 P1 => ?_
  cases x <;> first | exact P1.elim | skip
  rename_i k
  cases r1 with
  | loc ha =>
  rename_i ad
  dsimp only at P1
  have cell : ∀ {al' : List Addr} {om' : Om} {σ' : St} {ρ' : Rho} {H' : Hp} {ds : List D}, (∀ (i : Nat) (a : Addr), al1[i]? = some a → al'[i]? = some a) → Rst g R al' σ' ρ' om' H' → getL k ρ' om' = some ds → ∃ vs, SqL X.K H' ad vs ∧ H' ad = some (.lst vs) ∧ RepVs g al' (LL R al' om' σ' ρ') H' vs ds := fun {al' om' σ' ρ' H' ds} ext S' e => by
    unfold getL at e
    split at e
    · rename_i ds' e'
      cases e
      obtain ⟨vs, h1, h2⟩ := cell_lst S' e' (ext _ _ ha)
      exact ⟨vs, SqL.of h1, h1, h2⟩
    · cases e
  have first : ∃ vs, SqL X.K H1 ad vs := by
    unfold lenG at P1
    cases e : getL k ρ1 om1 with
    | none => rw [e] at P1; exact P1.elim
    | some ds => obtain ⟨vs, h, _⟩ := cell (fun _ _ h => h) S1 e; exact ⟨vs, h⟩
  refine ⟨ad, rfl, first, ?_⟩
  refine ⟨fun i m σ' H' => ∃ ρ' om' al', Step al1 (Mt al1 om1 σ ρ1) H1 al' (Mt al' om' σ' ρ') H' ∧ Rst g R al' σ' ρ' om' H' ∧ PostS g R W al' (Mt al' om' σ' ρ') H' (goX G' u (getL k) m i ρ' om') De, ⟨_, ρ1, om1, al1, .refl, S1, P1⟩, ?_⟩
  rintro i m σ2 H2 ⟨ρ2, om2, al2, s2, S2, P2⟩
  cases m with
  | zero => exact P2.elim
  | succ m =>
    unfold goX at P2
    cases e : getL k ρ2 om2 with
    | none => rw [e] at P2; exact P2.elim
    | some ds =>
      rw [e] at P2
      dsimp only at P2
      obtain ⟨vs, q0, q1, q2⟩ := cell s2.ext S2 e
      cases ed : ds[i]? with
      | none =>
        rw [ed] at P2
        refine .inl ⟨⟨vs, q0, ?_⟩, P2 σ2 H2 al2 .refl S2⟩
        rw [q2.length]
        exact List.getElem?_eq_none_iff.mp ed
      | some d =>
        rw [ed] at P2
        dsimp only at P2
        obtain ⟨v0, h0, h1⟩ := q2.get ed
        refine .inr ⟨⟨vs, v0, q0, h0⟩, fun σ' H' => ∃ ρ' om' al', Step al1 (Mt al1 om1 σ ρ1) H1 al' (Mt al' om' σ' ρ') H' ∧ Rst g R al' σ' ρ' om' H' ∧ PostS g R W al' (Mt al' om' σ' ρ') H' (goX G' u (getL k) m (i + 1) ρ' om') De, fun σ' H' h => ⟨m, Nat.lt_succ_self m, h⟩, fun x H3 ⟨e3, hx⟩ => ?_⟩
        subst e3
        have h2 := hx vs q0
        rw [h0] at h2
        cases h2
        cases eg : G' d ρ2 with
        | none => rw [eg] at P2; exact P2.elim
        | some ρ3 =>
          rw [eg] at P2
          refine ⟨R, ρ2, om2, al2, d, ρ3, S2, h1, eg, fun σ4 s4 S4 => ?_⟩
          refine ⟨R, ρ3, om2, al2, S4, ?_⟩
          have P4 := PostS.step s4 P2
          dsimp only at P4
          cases eb : u ρ3 om2 with
          | nx ρ5 om5 => rw [eb] at P4; exact fun σ5 H5 al5 s5 S5 => ⟨ρ5, om5, al5, (s2.trans s4).trans s5, S5, PostS.step s5 P4⟩
          | ct ρ5 om5 => rw [eb] at P4; exact fun σ5 H5 al5 s5 S5 => ⟨ρ5, om5, al5, (s2.trans s4).trans s5, S5, PostS.step s5 P4⟩
          | bk ρ5 om5 => rw [eb] at P4; exact P4
          | rt d5 om5 => rw [eb] at P4; exact P4
          | rto d5 om5 => rw [eb] at P4; exact P4
          | xc x5 ρ5 om5 => rw [eb] at P4; exact P4
          | no => rw [eb] at P4; exact P4
theorem goX_end (G : UG) (b : US) (get : Rho → Om → Option (List D)) {f i : Nat} {r : Rho} {o : Om} {ds : List D} (h : get r o = some ds) (hi : ds[i]? = none) : goX G b get (f + 1) i r o = .nx r o := by
  unfold goX
  rw [h]
  dsimp only
  rw [hi]
theorem goX_next (G : UG) (b : US) (get : Rho → Om → Option (List D)) {f i : Nat} {r ρ1 : Rho} {o : Om} {ds : List D} {d : D} (h : get r o = some ds) (hi : ds[i]? = some d) (hg : G d r = some ρ1) : goX G b get (f + 1) i r o = (b ρ1 o).turn (goX G b get f (i + 1)) := by
  conv => lhs; unfold goX
  rw [h]
  dsimp only
  rw [hi]
  dsimp only
  rw [hg]
  dsimp only
  cases b ρ1 o <;> rfl
end
/-! ### instances -/
def isIns (ω : Om) (x : D) (c m : Str) : Bool := match x with
  | .obj c' fs => decide (c' = c) && (fs.lookup m).isNone
  | .loc k => (match ω[k]? with
    | some (.ins c' fs) => decide (c' = c) && (fs.lookup m).isNone
    | _ => false)
  | _ => false
@[simp] def uFld (c f : Str) (ua : UE) : UE := fun ρ ω => (ua ρ ω).bind fun x ρ ω => match x with
  | .obj c' fs => if c' = c then liftO (fs.lookup f) ρ ω else .no
  | .loc k => (match ω[k]? with
    | some (.ins c' fs) => if c' = c then liftO (fs.lookup f) ρ ω else .no
    | _ => .no)
  | _ => .no
@[simp] def sFldU (c f : Str) (uo uv : UE) : US := fun ρ ω => RS.of (uv ρ ω) fun d ρ ω => RS.of (uo ρ ω) fun x ρ ω => match x with
  | .loc k => (match ω[k]? with
    | some (.ins c' fs) => if c' = c ∧ fs.length < 900 then .nx ρ (ω.set k (.ins c' (putD f d fs))) else .no
    | _ => .no)
  | _ => .no
@[simp] def uMeth (c m : Str) (n : Nat) (S : FN) (uo : UE) (us : UA) : UE := fun ρ ω => (uo ρ ω).bind fun x ρ ω => if isIns ω x c m = true then (us ρ ω).bind fun ds ρ ω => if ds.length + 1 = n then (S (x :: ds) ω).res ρ else .no else .no
@[simp] def uMethO (c m : Str) (n : Nat) (S : FN) (uo : UE) (us : UA) : UW := fun ρ ω => (uo ρ ω).bind fun x ρ ω => if isIns ω x c m = true then (us ρ ω).bind fun ds ρ ω => if ds.length + 1 = n then (S (x :: ds) ω).own ρ else .no else .no
/-- a new instance, shared -/
@[simp] def uMake (c : Str) (n : Nat) (S : FN) (us : UA) : UE := fun ρ ω => (us ρ ω).bind fun ds ρ ω => if ds.length + 1 = n then (match S (.loc ω.length :: ds) (ω ++ [.ins c []]) with
  | .ok .non ω' => .ok (.loc ω.length) ρ ω'
  | _ => .no) else .no
/-- a shared instance that stays as it is from now on -/
@[simp] def uFrzI (ua : UE) : UE := fun ρ ω => (ua ρ ω).bind fun x ρ ω => match x with
  | .loc k => (match ω[k]? with
    | some (.ins c fs) => .ok (.obj c fs) ρ (ω.set k .gone)
    | _ => .no)
  | _ => .no
section
variable {g : G} {R : Addr → Prop} {al : List Addr} {om : Om} {σ : St} {ρ : Rho} {H H' : Hp} {W : WX} {X : Cx} {v : V} {d : D} {a b c e o : Expr} {ua ub uc ue uo uv : UE} {es : List Expr} {us : UA} {p0 pos p1 apos pos' : Pos} {x cn f m : Str} {k n : Nat} {S : FN} {ps : List Str}
theorem pu_fld (cn f : Str) (hc : Cls X.K (g.cls cn)) (hn : NoAttr X.K (g.cls cn) f) (ha : PE X a (tE g W ua)) (hb : attributeBase a f X.env (eval a X.env) = eval a X.env := by rfl) : PE X (.Attribute a f pos) (tE g W (uFld cn f ua)) :=
  peImp (pe_fld ha hb) fun σ H Q ⟨R, ρ, om, al, S, P⟩ => tR_bind S P fun x ρ1 om1 v H1 al1 s1 S1 r1 P1 => by
    cases x <;> first | exact P1.elim | skip
    · rename_i c' fs
      dsimp only at P1
      split at P1
      · rename_i ec
        subst ec
        cases e : fs.lookup f with
        | none => rw [e] at P1; exact P1.elim
        | some d =>
          rw [e] at P1
          cases r1 with
          | obj h1 h2 h3 =>
            obtain ⟨w, k1, k2⟩ := h3.lookup e
            exact ⟨_, _, _, _, w, rfl, h1, hc, hn, k1, okSame S1 P1 k2⟩
      · exact P1.elim
    · rename_i k
      dsimp only at P1
      split at P1
      · rename_i c' fs e0
        split at P1
        · rename_i ec
          subst ec
          cases e : fs.lookup f with
          | none => rw [e] at P1; exact P1.elim
          | some d =>
            rw [e] at P1
            cases r1 with
            | loc h1 =>
              obtain ⟨dx, fvs, m1, m2⟩ := S1.o.cel k _ _ e0 h1
              obtain ⟨w, k1, k2⟩ := m2.lookup e
              exact ⟨_, _, _, _, w, rfl, m1, hc, hn, k1, okSame S1 P1 k2⟩
        · exact P1.elim
      · exact P1.elim
theorem ps_fldU (cn f : Str) (hc : Cls X.K (g.cls cn)) (hn : NoAttr X.K (g.cls cn) f) (ho : PE X o (tE g W uo)) (hv : PE X e (tE g W uv)) (hs : swapsWith e (some (.Attribute o f pos')) pos.line X.env = pure false := by rfl) : PS X (.Assign [.Attribute o f pos'] e pos) (tS g W (sFldU cn f uo uv)) :=
  psImp (ps_fld ho hv hs) fun De σ H ⟨R, ρ, om, al, S, P⟩ => tR_bindS S P fun d ρ1 om1 y H1 al1 s1 S1 r1 P1 => tR_bindS S1 P1 fun x ρ2 om2 z H2 al2 s2 S2 r2 P2 => by
    cases x <;> first | exact P2.elim | skip
    rename_i k
    dsimp only at P2
    split at P2
    · rename_i c' fs e0
      split at P2
      · rename_i ec
        obtain ⟨ec, hz⟩ := ec
        subst ec
        cases r2 with
        | loc h1 =>
          rename_i ad
          obtain ⟨dx, fvs, m1, m2⟩ := S2.o.cel k _ _ e0 h1
          have rd : RepV g al2 (LL R al2 om2 σ ρ2) H2 y d := s2.rep S1 r1
          have L : Lv al2 om2 ad := ⟨k, _, h1, e0, by simp⟩
          have cr : Car g al2 (LL R al2 om2 σ ρ2) H2 al2 (LL R al2 om2 σ ρ2) (upd H2 ad (.ins (g.cls c') dx (putF f y fvs))) := by
            refine ⟨fun b vs h => ?_, fun b vs h n => ⟨?_, n⟩, fun b vs h => ?_, fun b C dx' fs' h n => ⟨?_, n⟩, fun _ _ h => h⟩
            · rcases h with (h | ⟨o, h⟩) | h
              · exact .inl (.inl (by rw [upd_ne (ne_of h m1 (by intro z; cases z))]; exact h))
              · exact .inl (.inr ⟨o, by rw [upd_ne (ne_of h m1 (by intro z; cases z))]; exact h⟩)
              · exact .inr h
            · rw [upd_ne (ne_of h m1 (by intro z; cases z))]; exact h
            · exact h.imp (fun ⟨o, h⟩ => ⟨o, by rw [upd_ne (ne_of h m1 (by intro z; cases z))]; exact h⟩) id
            · rw [upd_ne (fun z => n (by rw [z]; exact .inl (.inl L)))]; exact h
          obtain ⟨S3, s3⟩ := S2.setCell (o := .ins (g.cls c') dx (putF f y fvs)) e0 (by simp) (c' := .ins c' (putD f d fs)) (by simp) h1 ⟨dx, putF f y fvs, upd_same, (m2.put rd).car cr⟩
          exact ⟨_, _, _, _, rfl, m1, hc, hn, by rw [m2.length]; omega, P2 σ _ al2 s3 S3⟩
      · exact P2.elim
    · exact P2.elim
/-- an instance of the class -/
theorem ins_at (S : Rst g R al σ ρ om H) {d : D} (r : RepV g al (LL R al om σ ρ) H v d) (h : isIns om d cn m = true) : ∃ ad dx fs, v = .ref ad ∧ H ad = some (.ins (g.cls cn) dx fs) ∧ fs.lookup m = none := by
  cases d <;> first | (cases h; done) | skip
  · rename_i c' fs
    unfold isIns at h
    simp only [Bool.and_eq_true, decide_eq_true_eq, Option.isNone_iff_eq_none] at h
    obtain ⟨rfl, h⟩ := h
    cases r with
    | obj h1 h2 h3 => exact ⟨_, _, _, rfl, h1, h3.lookup_none h⟩
  · rename_i k
    unfold isIns at h
    dsimp only at h
    split at h
    · rename_i c' fs e0
      simp only [Bool.and_eq_true, decide_eq_true_eq, Option.isNone_iff_eq_none] at h
      obtain ⟨rfl, h⟩ := h
      cases r with
      | loc h1 =>
        obtain ⟨dx, fvs, m1, m2⟩ := S.o.cel k _ _ e0 h1
        exact ⟨_, _, _, rfl, m1, m2.lookup_none h⟩
    · cases h
/-! calls of methods -/
def tMethS (C : Addr) (m : Str) (sp : Sp) (E : St → XK) (ta : TE) (t : TA) : TE := fun σ H Q => ta σ H fun x H1 => ∃ a dx fs, x = .ref a ∧ H1 a = some (.ins C dx fs) ∧ fs.lookup m = none ∧ t σ H1 fun vs H2 => sp (x :: vs) H2 Q (E σ)
theorem pe_methS {CX : CXT} {C fa : Addr} {fd : FuncData} {sp : Sp} {E : St → XK} {ta : TE} {t : TA} {pl : Sem Bool} (he : PE X o ta) (c : Cls X.K C) (hm : Meth X.K C m fa) (F : FnOk X.prog X.w X.K X.mg X.base CX k fa fd ps sp) (hr : Room k X.A) (hb : Binds X.K fd ps []) (hx : ∀ σ, PassesAt CX X σ (E σ)) (ha : PA X (e :: es) t)
    (hst : starEach (e :: es) X.env = (false, eval e X.env) :: starEach es X.env := by rfl) (hpl : (backTo pos (starEach es X.env)).any (·.1) = false := by rfl)
    (ht : eval (.Call (.Attribute o m apos) (e :: es) [] pos) X.env = (do
      let ov ← eval o X.env
      standAt apos.atName
      let (f, first) ← holding [ov] (getMethod ov m pl)
      callWith pos f first (backTo pos (starEach (e :: es) X.env)) (backToKw pos (keywordEach [] X.env))) := by rfl) :
    PE X (.Call (.Attribute o m apos) (e :: es) [] pos) (tMethS C m sp E ta t) := by
  refine ⟨fun pins s σ H Q I h => ?_⟩
  refine PySem.W.methodCall_KW (pl := pl) (thn (he.run pins s σ H _ I h) fun u s1 ⟨x, H1, I1, rx, a, dx, fs, ex, ea, l, q⟩ => ?_) ht
  subst ex
  obtain rfl : u = Value.ref a := rx
  refine getmeth_ok I1 ea c hm l ?_
  refine PySem.W.callWith_K (first := [.ref a]) (h₀ := X.base) I.ok.mod.kin hm.kp (thn (ha.run pos pins s1 σ H1 _ I1 q) fun us s2 ⟨vs, H2, I2, r, q2⟩ => ⟨I2.kIn, ?_⟩) hst hpl
  exact run_fnS (us := .ref a :: us) (vs := .ref a :: vs) F hr hb (hx σ) I2 (.cons rfl r) q2
theorem pe_methS0 {CX : CXT} {C fa : Addr} {fd : FuncData} {sp : Sp} {E : St → XK} {ta : TE} {pl : Sem Bool} (he : PE X o ta) (c : Cls X.K C) (hm : Meth X.K C m fa) (F : FnOk X.prog X.w X.K X.mg X.base CX k fa fd ps sp) (hr : Room k X.A) (hb : Binds X.K fd ps []) (hx : ∀ σ, PassesAt CX X σ (E σ))
    (ht : eval (.Call (.Attribute o m apos) [] [] pos) X.env = (do
      let ov ← eval o X.env
      standAt apos.atName
      let (f, first) ← holding [ov] (getMethod ov m pl)
      callWith pos f first (backTo pos (starEach [] X.env)) (backToKw pos (keywordEach [] X.env))) := by rfl) :
    PE X (.Call (.Attribute o m apos) [] [] pos) (tMethS C m sp E ta tNil) := by
  refine ⟨fun pins s σ H Q I h => ?_⟩
  refine PySem.W.methodCall_KW (pl := pl) (thn (he.run pins s σ H _ I h) fun u s1 ⟨x, H1, I1, rx, a, dx, fs, ex, ea, l, q⟩ => ?_) ht
  subst ex
  obtain rfl : u = Value.ref a := rx
  refine getmeth_ok I1 ea c hm l ?_
  exact PySem.W.callWith_K0 (first := [.ref a]) I1.kIn hm.kp (run_fnS (us := [.ref a]) (vs := [.ref a]) F hr hb (hx σ) I1 (.cons rfl .nil) q)
/-- a method as it stands, and its promise -/
def HasM (P : Program) (w : World) (K : PySem.W.Frag) (mg : Str → Option Value) (base : Heap) (C : Addr) (m : Str) (ps : List Str) (k : Nat) (sp : Sp) : Prop :=
  ∃ (f : Addr) (fd : FuncData), Meth K C m f ∧ Binds K fd ps [] ∧ FnOk P w K mg base (L2.CX P w) k f fd ps sp
theorem pu_meth (h : HasM X.prog X.w X.K X.mg X.base (g.cls cn) m ps k (spU g ps.length S)) (hc : Cls X.K (g.cls cn)) (hr : Room k X.A) (tk : Takes X W) (ho : PE X o (tE g W uo)) (ha : PA X (e :: es) (tA g W us)) {pl : Sem Bool}
    (hst : starEach (e :: es) X.env = (false, eval e X.env) :: starEach es X.env := by rfl) (hpl : (backTo pos (starEach es X.env)).any (·.1) = false := by rfl)
    (ht : eval (.Call (.Attribute o m apos) (e :: es) [] pos) X.env = (do
      let ov ← eval o X.env
      standAt apos.atName
      let (f, first) ← holding [ov] (getMethod ov m pl)
      callWith pos f first (backTo pos (starEach (e :: es) X.env)) (backToKw pos (keywordEach [] X.env))) := by rfl) :
    PE X (.Call (.Attribute o m apos) (e :: es) [] pos) (tE g W (uMeth cn m ps.length S uo us)) := by
  obtain ⟨f, fd, hm, hb, F⟩ := h
  refine peImp (pe_methS ho hc hm F hr hb (fun σ => passAt tk σ) ha hst hpl ht) fun σ H Q ⟨R, ρ, om, al, St, P⟩ => ?_
  refine tR_bind St P fun x ρ1 om1 v H1 al1 s1 S1 r1 P1 => ?_
  split at P1
  · rename_i hi
    obtain ⟨ad, dx, fs, rfl, q1, q2⟩ := ins_at S1 r1 hi
    refine ⟨ad, dx, fs, rfl, q1, q2, tR_bind S1 P1 fun ds ρ2 om2 vs H2 al2 s2 S2 r2 P2 => ?_⟩
    split at P2
    · rename_i hl
      exact call_end (ds := x :: ds) S2 (.cons (s2.rep S1 r1) r2) P2 _ (by rw [List.length_cons, RepVs.length r2]; exact hl)
    · exact P2.elim
  · exact P1.elim
theorem pu_meth0 (h : HasM X.prog X.w X.K X.mg X.base (g.cls cn) m ps k (spU g ps.length S)) (hc : Cls X.K (g.cls cn)) (hr : Room k X.A) (tk : Takes X W) (ho : PE X o (tE g W uo)) {pl : Sem Bool}
    (ht : eval (.Call (.Attribute o m apos) [] [] pos) X.env = (do
      let ov ← eval o X.env
      standAt apos.atName
      let (f, first) ← holding [ov] (getMethod ov m pl)
      callWith pos f first (backTo pos (starEach [] X.env)) (backToKw pos (keywordEach [] X.env))) := by rfl) :
    PE X (.Call (.Attribute o m apos) [] [] pos) (tE g W (uMeth cn m ps.length S uo uNil)) := by
  obtain ⟨f, fd, hm, hb, F⟩ := h
  refine peImp (pe_methS0 ho hc hm F hr hb (fun σ => passAt tk σ) ht) fun σ H Q ⟨R, ρ, om, al, St, P⟩ => ?_
  refine tR_bind St P fun x ρ1 om1 v H1 al1 s1 S1 r1 P1 => ?_
  split at P1
  · rename_i hi
    obtain ⟨ad, dx, fs, rfl, q1, q2⟩ := ins_at S1 r1 hi
    refine ⟨ad, dx, fs, rfl, q1, q2, ?_⟩
    simp only [uNil, Res.bind] at P1
    split at P1
    · rename_i hl
      exact call_end (ds := [x]) S1 (.cons r1 .nil) P1 _ hl
    · exact P1.elim
  · exact P1.elim
theorem pu_methO (h : HasM X.prog X.w X.K X.mg X.base (g.cls cn) m ps k (spO g ps.length S)) (hc : Cls X.K (g.cls cn)) (hr : Room k X.A) (tk : Takes X W) (ho : PE X o (tE g W uo)) (ha : PA X (e :: es) (tA g W us)) {pl : Sem Bool}
    (hst : starEach (e :: es) X.env = (false, eval e X.env) :: starEach es X.env := by rfl) (hpl : (backTo pos (starEach es X.env)).any (·.1) = false := by rfl)
    (ht : eval (.Call (.Attribute o m apos) (e :: es) [] pos) X.env = (do
      let ov ← eval o X.env
      standAt apos.atName
      let (f, first) ← holding [ov] (getMethod ov m pl)
      callWith pos f first (backTo pos (starEach (e :: es) X.env)) (backToKw pos (keywordEach [] X.env))) := by rfl) :
    PE X (.Call (.Attribute o m apos) (e :: es) [] pos) (tOw g W (uMethO cn m ps.length S uo us)) := by
  obtain ⟨f, fd, hm, hb, F⟩ := h
  refine peImp (pe_methS ho hc hm F hr hb (fun σ => passAt tk σ) ha hst hpl ht) fun σ H Q ⟨R, ρ, om, al, St, P⟩ => ?_
  refine tR_bindO St P fun x ρ1 om1 v H1 al1 s1 S1 r1 P1 => ?_
  split at P1
  · rename_i hi
    obtain ⟨ad, dx, fs, rfl, q1, q2⟩ := ins_at S1 r1 hi
    refine ⟨ad, dx, fs, rfl, q1, q2, tR_bindO S1 P1 fun ds ρ2 om2 vs H2 al2 s2 S2 r2 P2 => ?_⟩
    split at P2
    · rename_i hl
      exact call_endO (ds := x :: ds) S2 (.cons (s2.rep S1 r1) r2) P2 _ (by rw [List.length_cons, RepVs.length r2]; exact hl)
    · exact P2.elim
  · exact P1.elim
theorem pu_methO0 (h : HasM X.prog X.w X.K X.mg X.base (g.cls cn) m ps k (spO g ps.length S)) (hc : Cls X.K (g.cls cn)) (hr : Room k X.A) (tk : Takes X W) (ho : PE X o (tE g W uo)) {pl : Sem Bool}
    (ht : eval (.Call (.Attribute o m apos) [] [] pos) X.env = (do
      let ov ← eval o X.env
      standAt apos.atName
      let (f, first) ← holding [ov] (getMethod ov m pl)
      callWith pos f first (backTo pos (starEach [] X.env)) (backToKw pos (keywordEach [] X.env))) := by rfl) :
    PE X (.Call (.Attribute o m apos) [] [] pos) (tOw g W (uMethO cn m ps.length S uo uNil)) := by
  obtain ⟨f, fd, hm, hb, F⟩ := h
  refine peImp (pe_methS0 ho hc hm F hr hb (fun σ => passAt tk σ) ht) fun σ H Q ⟨R, ρ, om, al, St, P⟩ => ?_
  refine tR_bindO St P fun x ρ1 om1 v H1 al1 s1 S1 r1 P1 => ?_
  split at P1
  · rename_i hi
    obtain ⟨ad, dx, fs, rfl, q1, q2⟩ := ins_at S1 r1 hi
    refine ⟨ad, dx, fs, rfl, q1, q2, ?_⟩
    simp only [uNil, Res.bind] at P1
    split at P1
    · rename_i hl
      exact call_endO (ds := [x]) S1 (.cons r1 .nil) P1 _ hl
    · exact P1.elim
  · exact P1.elim
/-! making -/
theorem pu_make {fa : Addr} {fd : FuncData} (M : Mk X.K (g.cls x) fa) (F : FnOk X.prog X.w X.K X.mg X.base (L2.CX X.prog X.w) k fa fd ps (spU g ps.length S)) (hb : Binds X.K fd ps []) (hm : X.mg x = some (.ref (g.cls x))) (hr : Room (k + 1) X.A) (ha : PA X (e :: es) (tA g W us)) (hg : Gl X x := by rfl) (hdb : (x == ("__debug__" : Str)) = false := by decide)
    (he : starEach (e :: es) X.env = (false, eval e X.env) :: starEach es X.env := by rfl) (hpl : (backTo pos (starEach es X.env)).any (·.1) = false := by rfl) : PE X (.Call (.Name x p0) (e :: es) [] pos) (tE g W (uMake x ps.length S us)) := by
  refine peImp (pe_make M F hr hg hm hb .nil passL ha hdb he hpl) fun σ H Q ⟨R, ρ, om, al, St, P⟩ => ?_
  refine tR_bind St P fun ds ρ1 om1 vs H1 al1 s1 S1 r1 P1 => ?_
  split at P1
  · rename_i hl
    intro q dx hq hdx ne
    rw [List.append_nil]
    -- the instance's dict, then the instance
    obtain ⟨S2, s2⟩ := S1.grow (H' := upd H1 dx (.own q)) (upd_keep hdx)
    have hq2 : upd H1 dx (.own q) q = none := by rw [upd_ne ne.symm]; exact hq
    obtain ⟨S3, c3⟩ := S2.newRes (o := .ins (g.cls x) dx []) hq2
    have nR : ¬ R q := fun z => (S1.o.rsv q z).2 hq
    obtain ⟨S4, s4⟩ := S3.newCell nR (c := .ins x []) (by rw [upd_same]; simp) ⟨dx, [], upd_same, .nil⟩
    have s34 : Step al1 (Mt al1 om1 σ ρ1) (upd H1 dx (.own q)) al1 (fun a => Mt al1 om1 σ ρ1 a ∨ a = q) (upd (upd H1 dx (.own q)) q (.ins (g.cls x) dx [])) := Rst.grown hq2
    have T := (s2.trans s34).trans s4
    have hlen : al1.length = om1.length := S1.o.len
    have loc : (al1 ++ [q])[om1.length]? = some q := by rw [← hlen]; simp
    have r4 : RepVs g (al1 ++ [q]) (LL R (al1 ++ [q]) (om1 ++ [.ins x []]) σ ρ1) (upd (upd H1 dx (.own q)) q (.ins (g.cls x) dx [])) (.ref q :: vs) (.loc om1.length :: ds) := .cons (.loc loc) (T.reps S1 r1)
    refine call_end (W := fun _ _ _ _ => False) (S := S) S4 r4 ?_ _ (by rw [List.length_cons, RepVs.length r1]; exact hl)
    cases e9 : S (.loc om1.length :: ds) (om1 ++ [.ins x []]) with
    | ok d om' =>
      rw [e9] at P1
      cases d <;> first | exact P1.elim | skip
      intro y H' al' s S' ry
      cases ry
      exact ⟨rfl, P1 _ H' al' (T.trans s) S' (.loc (s.ext _ _ loc))⟩
    | xc y om' => rw [e9] at P1; exact P1.elim
    | no => rw [e9] at P1; exact P1.elim
  · exact P1.elim
theorem Rst.freeze (S : Rst g R al σ ρ om H) {k : Nat} {c : Str} {fs : List (Str × D)} {ad : Addr} (hk : om[k]? = some (.ins c fs)) (ha : al[k]? = some ad) :
    Rst g R al σ ρ (om.set k .gone) H ∧ Step al (Mt al om σ ρ) H al (Mt al (om.set k .gone) σ ρ) H ∧ RepV g al (LL R al (om.set k .gone) σ ρ) H (.ref ad) (.obj c fs) := by
  have lv : ∀ b, Lv al (om.set k .gone) b → Lv al om b ∧ b ≠ ad := fun b ⟨i, ci, h1, h2, h3⟩ => by
    rcases getset h2 with ⟨rfl, q⟩ | ⟨n, q⟩
    · exact absurd q h3
    · refine ⟨⟨i, ci, h1, q, h3⟩, fun z => ?_⟩
      subst z
      exact n (S.o.inj i k b ci _ h1 ha q hk h3 (by simp))
  have L : Lv al om ad := ⟨k, _, ha, hk, by simp⟩
  have ll : ∀ b, LL R al (om.set k .gone) σ ρ b → LL R al om σ ρ b := fun b m => m.imp (fun m => m.imp (fun z => (lv b z).1) id) id
  have cr := carL (g := g) (al := al) (H := H) ll
  have nl : ¬ LL R al (om.set k .gone) σ ρ ad := fun m => by
    rcases m with (m | m) | m
    · exact (lv ad m).2 rfl
    · exact (S.ocl ad m).1 L
    · exact (S.o.rsv ad m).1 L
  obtain ⟨dx, fvs, m1, m2⟩ := S.o.cel k _ _ hk ha
  refine ⟨⟨⟨by rw [List.length_set]; exact S.o.len, fun i ci b h1 h2 => ?_, fun i j b ci cj h1 h2 h3 h4 n1 n2 => ?_, fun b h => ⟨fun z => (S.o.rsv b h).1 (lv b z).1, (S.o.rsv b h).2⟩⟩, S.sl, fun j d h => ?_, fun j dj h => ?_, S.odj, fun b h => ⟨fun z => (S.ocl b h).1 (lv b z).1, (S.ocl b h).2⟩⟩, .grow (fun _ _ h _ => h) fun b m => .inl (m.imp (fun z => (lv b z).1) id), .obj m1 nl (m2.car cr)⟩
  · rcases getset h1 with ⟨rfl, q⟩ | ⟨n, q⟩
    · subst q; trivial
    · exact (S.o.cel i ci b q h2).car cr (fun _ e _ => e) (fun _ _ _ e _ => e)
  · rcases getset h3 with ⟨_, q⟩ | ⟨_, q3⟩
    · exact absurd q n1
    · rcases getset h4 with ⟨_, q⟩ | ⟨_, q4⟩
      · exact absurd q n2
      · exact S.o.inj i j b ci cj h1 h2 q3 q4 n1 n2
  · obtain ⟨v, e, r⟩ := S.val j d h
    exact ⟨v, e, r.car cr⟩
  · obtain ⟨b, vs, e, e2, r⟩ := S.own j dj h
    exact ⟨b, vs, e, e2, r.car cr⟩
theorem pu_frzI (ha : PE X a (tE g W ua)) : PE X a (tE g W (uFrzI ua)) := peImp ha fun σ H Q ⟨R, ρ, om, al, S, P⟩ => by
  refine tR_bind S P fun x ρ1 om1 v H1 al1 s1 S1 r1 P1 => ?_
  cases x <;> first | exact P1.elim | skip
  rename_i k
  dsimp only at P1
  split at P1
  · rename_i c fs e0
    cases r1 with
    | loc h1 =>
      obtain ⟨S2, s2, r2⟩ := S1.freeze e0 h1
      exact P1 _ H1 al1 s2 S2 r2
  · exact P1.elim
end
end Dv

namespace Dv
open PySem PySem.Spec PyProof.Rows L2
/-! ### a sum of two lists, shared ones too, as an own list -/
@[simp] def uCatX (ua ub : UE) : UW := fun ρ ω => (ua ρ ω).bind fun x ρ ω => (ub ρ ω).bind fun y ρ ω => match see ω x, see ω y with
  | .lst xs, .lst ys => if xs.length + ys.length ≤ big then .ok (xs ++ ys) ρ ω else .no
  | _, _ => .no
/-- a suite that is never reached -/
def sNo : US := fun _ _ => .no
theorem pss_noU {g : G} {X : Cx} {W : WX} {b : List Stmt} : PSs X b (tS g W sNo) := ⟨fun pins s σ H D I h => by
  obtain ⟨R, ρ, om, al, S, P⟩ := h
  exact P.elim⟩
/-- for .. in e, e a list as a value or a shared one -/
def sForX (u : UE) (G : UG) (b : US) : US := fun ρ ω => match u ρ ω with
  | .ok (.loc _) _ _ => sForL u G b ρ ω
  | _ => sFor (iLst u) G b ρ ω
theorem forX_lst {u : UE} {G : UG} {b : US} {ρ ρ' : Rho} {ω ω' : Om} {ds : List D} (h : u ρ ω = .ok (.lst ds) ρ' ω') : sForX u G b ρ ω = sFor (iLst u) G b ρ ω := by
  unfold sForX
  rw [h]
theorem forX_loc {u : UE} {G : UG} {b : US} {ρ ρ' : Rho} {ω ω' : Om} {k : Nat} (h : u ρ ω = .ok (.loc k) ρ' ω') : sForX u G b ρ ω = sForL u G b ρ ω := by
  unfold sForX
  rw [h]
section
variable {g : G} {X : Cx} {W : WX} {tg iter : Expr} {body : List Stmt} {ue : UE} {G' : UG} {u : US} {pos : Pos}
theorem ps_forX (hp : PassesOwn (model X.prog X.w) X.A X.env X.xe) (hc : X.calm = true) (hK : X.K = g.K) (he : PE X iter (tE g W ue)) (hg : PG X tg (tG g G')) (hb : PSs X body (tS g W u))
    (hs : ∀ x, foldedSetIterable iter X.env x = pure x := by intro _; rfl) : PS X (.For tg iter body [] pos) (tS g W (sForX ue G' u)) := ⟨fun pins s σ H D I h => by
  obtain ⟨R, ρ, om, al, S, P⟩ := h
  unfold sForX at P
  split at P
  · exact (ps_forL hp hc hK he hg hb hs).run pins s σ H D I ⟨R, ρ, om, al, S, P⟩
  · exact (ps_forU hp hc (pi_listU hK he) hg hb hs).run pins s σ H D I ⟨R, ρ, om, al, S, P⟩⟩
end
/-- a slice of the own list of a slot -/
@[simp] def uSlV (i : Nat) (l h : UO) : UW := fun ρ ω => match ρ[i]? with
  | some (some (.own _)) => (l ρ ω).bind fun a ρ ω => (h ρ ω).bind fun b ρ ω => (match ρ[i]? with
    | some (some (.own xs)) => .ok (cutD xs a b) ρ ω
    | _ => .no)
  | _ => .no
section
variable {g : G} {X : Cx} {W : WX} {e : Expr} {lo hi : Option Expr} {p2 pos : Pos}
theorem pu_slV (i : Nat) {l h : UO} (hK : X.K = g.K) (ha : PE X e (tVar i)) (hl : PO X lo (tO g W l)) (hh : PO X hi (tO g W h)) : PE X (.Subscript e (.Slice lo hi none p2) pos) (tOw g W (uSlV i l h)) :=
  peImp (pe_slice sl_list ha hl hh) fun σ H Q ⟨R, ρ, om, al, S, P⟩ => by
    simp only [uSlV] at P
    split at P
    · rename_i xs e
      obtain ⟨a, vs, h1, h2, h3⟩ := S.own i xs e
      refine ⟨_, h1, tR_bindO (rel := relO) S P fun a' ρ1 om1 y1 H1 al1 s1 S1 r1 P1 => tR_bindO (rel := relO) S1 P1 fun b' ρ2 om2 y2 H2 al2 s2 S2 r2 P2 => ?_⟩
      cases (show y1 = a' from r1)
      cases (show y2 = b' from r2)
      split at P2
      · rename_i xs' e1
        obtain ⟨a2, vs', k1, k2, k3⟩ := S2.own i xs' e1
        rw [h1] at k1
        cases k1
        refine ⟨_, vs', rfl, by rw [hK]; exact SqL.of k2, fun p hp => okOwn S2 P2 hp ?_⟩
        unfold cutV cutD
        rw [k3.length]
        exact (k3.drop _).take _
      · exact P2.elim
    · exact P.elim
end
section
variable {g : G} {R : Addr → Prop} {al : List Addr} {om : Om} {σ : St} {ρ : Rho} {H H' : Hp} {W : WX} {X : Cx} {v : V} {d : D} {a b c e o : Expr} {ua ub uc ue uo : UE} {es : List Expr} {us : UA} {p0 pos p1 apos : Pos} {x cn m : Str} {k n : Nat} {S : FN} {ps : List Str}
theorem pu_catX (ha : PE X a (tE g W ua)) (hb : PE X b (tE g W ub)) : PE X (.BinOp a .Add b pos) (tOw g W (uCatX ua ub)) := peImp (pe_op op_cat ha hb) fun σ H Q ⟨R, ρ, om, al, S, P⟩ => by
  refine tR_bindO S P fun x ρ1 om1 v H1 al1 s1 S1 r1 P1 => tR_bindO S1 P1 fun y ρ2 om2 w H2 al2 s2 S2 r2 P2 => ?_
  have rx := see_rep S2 (s2.rep S1 r1)
  have ry := see_rep S2 r2
  split at P2
  · rename_i xs ys e1 e2
    split at P2
    · rename_i hz
      rw [e1] at rx
      rw [e2] at ry
      obtain ⟨a1, vs, rfl, h1, k1⟩ := rx.lst
      obtain ⟨a2, ws, rfl, h2, k2⟩ := ry.lst
      exact ⟨_, _, _, _, rfl, rfl, h1, h2, big_line (by rw [k1.length, k2.length]; exact hz), fun p hp => okOwn S2 P2 hp (k1.append k2)⟩
    · exact P2.elim
  · exact P2.elim
end
/-! ### classes as the top has left them -/
def AtM (K : PySem.W.Frag) (C : Addr) (m qual : Str) (st : Stmt) : Prop := ∃ (f : Addr) (fd : FuncData), Meth K C m f ∧ Fun K m qual st f fd
def AtI (K : PySem.W.Frag) (mg : Str → Option Value) (C : Addr) (x qual : Str) (st : Stmt) : Prop := ∃ (f : Addr) (fd : FuncData), Mk K C f ∧ Fun K "__init__" qual st f fd ∧ mg x = some (.ref C)
def HasI (P : Program) (w : World) (K : PySem.W.Frag) (mg : Str → Option Value) (base : Heap) (C : Addr) (x : Str) (ps : List Str) (k : Nat) (sp : Sp) : Prop :=
  ∃ (f : Addr) (fd : FuncData), Mk K C f ∧ Binds K fd ps [] ∧ FnOk P w K mg base (L2.CX P w) k f fd ps sp ∧ mg x = some (.ref C)
section
variable {K : PySem.W.Frag} {h : Heap} {mg : Str → Option Value} {cn m qual : Str} {C f : Addr} {st : Stmt} {od an : Option Addr} {sl : Array (Option Value)} {oc kV dc pm cd ct : Value}
theorem atM_mk (X : K.In h) (G : h.Ns mainGlobals mg) (aC : PySem.W.nsIn K mainGlobals cn = some (some (.ref C))) (a : PySem.W.findIn K (.ref C) m = some (some (.ref f))) (i : PySem.W.isFn K (.ref f) = true)
    (l : K.lookup f = some ⟨oc, od, .func (PySem.W.fnOf m qual (defArgs st) (defBody st) (defScope st) .none kV dc pm an cd ct), sl⟩) (c : PySem.W.codeIn K cd qual = true) (k : PySem.W.keepIn K (.ref f) = true) : AtM K (clsOf mg cn) m qual st := by
  rw [clsOf_eq (PySem.W.mg_of X G aC)]
  exact ⟨f, _, ⟨a, i, k⟩, fun_mk l c k⟩
theorem atI_mk (X : K.In h) (G : h.Ns mainGlobals mg) (aC : PySem.W.nsIn K mainGlobals cn = some (some (.ref C))) (a : PySem.W.findIn K (.ref C) "__init__" = some (some (.ref f))) (i : PySem.W.isFn K (.ref f) = true)
    (l : K.lookup f = some ⟨oc, od, .func (PySem.W.fnOf "__init__" qual (defArgs st) (defBody st) (defScope st) .none kV dc pm an cd ct), sl⟩) (c : PySem.W.codeIn K cd qual = true) (k : PySem.W.keepIn K (.ref f) = true)
    (mk : PySem.W.makesIn K C = true) (kc : PySem.W.keepIn K (.ref C) = true) : AtI K mg (clsOf mg cn) cn qual st := by
  have e := PySem.W.mg_of X G aC
  rw [clsOf_eq e]
  exact ⟨f, _, ⟨mk, a, i, kc⟩, fun_mk l c k, e⟩
theorem cls_mk (X : K.In h) (G : h.Ns mainGlobals mg) (aC : PySem.W.nsIn K mainGlobals cn = some (some (.ref C))) (pg : PySem.W.plainGet K C Str.empty = true) (hd : PySem.W.hasDictIn K C = true) (po : PySem.W.plainOver K C = true)
    (sa : PySem.W.findIn K (.ref C) "__setattr__" = some (some (.builtin "object.__setattr__"))) : Cls K (clsOf mg cn) := by
  rw [clsOf_eq (PySem.W.mg_of X G aC)]
  exact ⟨pg, hd, po, sa⟩
theorem na_mk (X : K.In h) (G : h.Ns mainGlobals mg) (aC : PySem.W.nsIn K mainGlobals cn = some (some (.ref C))) (n : PySem.W.findIn K (.ref C) m = some none) : NoAttr K (clsOf mg cn) m := by
  rw [clsOf_eq (PySem.W.mg_of X G aC)]
  exact n
end
theorem AtM.has {P : Program} {w : World} {K : PySem.W.Frag} {mg : Str → Option Value} {base : Heap} {C : Addr} {m qual : Str} {st : Stmt} {ps : List Str} {k : Nat} {sp : Sp} (a : AtM K C m qual st)
    (b : ∀ (kV doc pm : Value) (an : Option Addr) (cdv ct : Value) (us : List Value), us.length = ps.length → bindArgs (PySem.W.fnOf m qual (defArgs st) (defBody st) (defScope st) .none kV doc pm an cdv ct) ⟨us, []⟩ = pure (ps.zip us))
    (h : ∀ {f : Addr} {fd : FuncData}, Fun K m qual st f fd → FnOk P w K mg base (L2.CX P w) k f fd ps sp) : HasM P w K mg base C m ps k sp :=
  let ⟨f, fd, e, F⟩ := a
  ⟨f, fd, e, F.binds b, h F⟩
theorem AtI.has {P : Program} {w : World} {K : PySem.W.Frag} {mg : Str → Option Value} {base : Heap} {C : Addr} {x qual : Str} {st : Stmt} {ps : List Str} {k : Nat} {sp : Sp} (a : AtI K mg C x qual st)
    (b : ∀ (kV doc pm : Value) (an : Option Addr) (cdv ct : Value) (us : List Value), us.length = ps.length → bindArgs (PySem.W.fnOf "__init__" qual (defArgs st) (defBody st) (defScope st) .none kV doc pm an cdv ct) ⟨us, []⟩ = pure (ps.zip us))
    (h : ∀ {f : Addr} {fd : FuncData}, Fun K "__init__" qual st f fd → FnOk P w K mg base (L2.CX P w) k f fd ps sp) : HasI P w K mg base C x ps k sp :=
  let ⟨f, fd, e, F, hm⟩ := a
  ⟨f, fd, e, F.binds b, h F, hm⟩
section
variable {g : G} {W : WX} {X : Cx} {e : Expr} {es : List Expr} {us : UA} {p0 pos : Pos} {x : Str} {k : Nat} {S : FN} {ps : List Str}
theorem pu_makeI {n : Nat} (h : HasI X.prog X.w X.K X.mg X.base (g.cls x) x ps k (spU g n S)) (hr : Room (k + 1) X.A) (ha : PA X (e :: es) (tA g W us)) (hpn : ps.length = n := by rfl) (hg : Gl X x := by rfl) (hdb : (x == ("__debug__" : Str)) = false := by decide)
    (he : starEach (e :: es) X.env = (false, eval e X.env) :: starEach es X.env := by rfl) (hpl : (backTo pos (starEach es X.env)).any (·.1) = false := by rfl) : PE X (.Call (.Name x p0) (e :: es) [] pos) (tE g W (uMake x n S us)) := by
  subst hpn
  obtain ⟨fa, fd, M, hb, F, hm⟩ := h
  exact pu_make M F hb hm hr ha hg hdb he hpl
variable {o : Expr} {uo : UE} {cn m : Str} {apos : Pos} {n : Nat}
theorem pu_mth (h : HasM X.prog X.w X.K X.mg X.base (g.cls cn) m ps k (spU g n S)) (hc : Cls X.K (g.cls cn)) (hr : Room k X.A) (tk : Takes X W) (ho : PE X o (tE g W uo)) (ha : PA X (e :: es) (tA g W us)) {pl : Sem Bool} (hpn : ps.length = n := by rfl)
    (hst : starEach (e :: es) X.env = (false, eval e X.env) :: starEach es X.env := by rfl) (hpl : (backTo pos (starEach es X.env)).any (·.1) = false := by rfl)
    (ht : eval (.Call (.Attribute o m apos) (e :: es) [] pos) X.env = (do
      let ov ← eval o X.env
      standAt apos.atName
      let (f, first) ← holding [ov] (getMethod ov m pl)
      callWith pos f first (backTo pos (starEach (e :: es) X.env)) (backToKw pos (keywordEach [] X.env))) := by rfl) :
    PE X (.Call (.Attribute o m apos) (e :: es) [] pos) (tE g W (uMeth cn m n S uo us)) := by
  subst hpn
  exact pu_meth h hc hr tk ho ha hst hpl ht
theorem pu_mth0 (h : HasM X.prog X.w X.K X.mg X.base (g.cls cn) m ps k (spU g n S)) (hc : Cls X.K (g.cls cn)) (hr : Room k X.A) (tk : Takes X W) (ho : PE X o (tE g W uo)) {pl : Sem Bool} (hpn : ps.length = n := by rfl)
    (ht : eval (.Call (.Attribute o m apos) [] [] pos) X.env = (do
      let ov ← eval o X.env
      standAt apos.atName
      let (f, first) ← holding [ov] (getMethod ov m pl)
      callWith pos f first (backTo pos (starEach [] X.env)) (backToKw pos (keywordEach [] X.env))) := by rfl) :
    PE X (.Call (.Attribute o m apos) [] [] pos) (tE g W (uMeth cn m n S uo uNil)) := by
  subst hpn
  exact pu_meth0 h hc hr tk ho ht
theorem pu_mthO (h : HasM X.prog X.w X.K X.mg X.base (g.cls cn) m ps k (spO g n S)) (hc : Cls X.K (g.cls cn)) (hr : Room k X.A) (tk : Takes X W) (ho : PE X o (tE g W uo)) (ha : PA X (e :: es) (tA g W us)) {pl : Sem Bool} (hpn : ps.length = n := by rfl)
    (hst : starEach (e :: es) X.env = (false, eval e X.env) :: starEach es X.env := by rfl) (hpl : (backTo pos (starEach es X.env)).any (·.1) = false := by rfl)
    (ht : eval (.Call (.Attribute o m apos) (e :: es) [] pos) X.env = (do
      let ov ← eval o X.env
      standAt apos.atName
      let (f, first) ← holding [ov] (getMethod ov m pl)
      callWith pos f first (backTo pos (starEach (e :: es) X.env)) (backToKw pos (keywordEach [] X.env))) := by rfl) :
    PE X (.Call (.Attribute o m apos) (e :: es) [] pos) (tOw g W (uMethO cn m n S uo us)) := by
  subst hpn
  exact pu_methO h hc hr tk ho ha hst hpl ht
theorem pu_mthO0 (h : HasM X.prog X.w X.K X.mg X.base (g.cls cn) m ps k (spO g n S)) (hc : Cls X.K (g.cls cn)) (hr : Room k X.A) (tk : Takes X W) (ho : PE X o (tE g W uo)) {pl : Sem Bool} (hpn : ps.length = n := by rfl)
    (ht : eval (.Call (.Attribute o m apos) [] [] pos) X.env = (do
      let ov ← eval o X.env
      standAt apos.atName
      let (f, first) ← holding [ov] (getMethod ov m pl)
      callWith pos f first (backTo pos (starEach [] X.env)) (backToKw pos (keywordEach [] X.env))) := by rfl) :
    PE X (.Call (.Attribute o m apos) [] [] pos) (tOw g W (uMethO cn m n S uo uNil)) := by
  subst hpn
  exact pu_methO0 h hc hr tk ho ht
end
end Dv

namespace Dv
open PySem PySem.Spec PyProof.Rows L2
variable (om : Om)
theorem see_bl (b : Bool) : see om (.bl b) = .bl b := rfl
theorem see_int (b : Int) : see om (.int b) = .int b := rfl
theorem see_non : see om .non = .non := rfl
theorem see_tup (b : List D) : see om (.tup b) = .tup b := rfl
theorem see_lst (b : List D) : see om (.lst b) = .lst b := rfl
theorem see_str (b : Str) : see om (.str b) = .str b := rfl
theorem see_loc {k : Nat} {ds : List D} (h : om[k]? = some (.lst ds)) : see om (.loc k) = .lst ds := by
  unfold see
  dsimp only
  rw [h]
theorem dIsi_b {T : String} {r : Bool} (b : Bool) (k : L2.kitB "bool" T = some r) : dIsi T (.bl b) = some (.bl r) := isi_of rfl k
/-- seen through the shared lists f is d -/
def seeD (om : Om) : Nat → D → D → Prop
  | _, f, .non => f = .non
  | _, f, .bl b => f = .bl b
  | _, f, .int b => f = .int b
  | _, f, .str b => f = .str b
  | n + 1, f, .tup ds => ∃ fs : List D, f = .tup fs ∧ fs.length = ds.length ∧ ∀ (k : Nat) (x : D), ds[k]? = some x → ∃ y, fs[k]? = some y ∧ seeD om n y x
  | n + 1, f, .lst ds => ∃ fs : List D, see om f = .lst fs ∧ fs.length = ds.length ∧ ∀ (k : Nat) (x : D), ds[k]? = some x → ∃ y, fs[k]? = some y ∧ seeD om n y x
  | _, _, _ => False
theorem seeD_refl : ∀ (n : Nat) (d : D), good n d = true → seeD om n d d
  | n, .non, _ => by unfold seeD; rfl
  | n, .bl b, _ => by unfold seeD; rfl
  | n, .int b, _ => by unfold seeD; rfl
  | n, .str b, _ => by unfold seeD; rfl
  | n + 1, .tup ds, h => by
    unfold good at h
    obtain ⟨h1, h2⟩ := Bool.and_eq_true_iff.mp h
    unfold seeD
    exact ⟨ds, rfl, rfl, fun k x e => ⟨x, e, seeD_refl n x (goods_get h2 e)⟩⟩
  | n + 1, .lst ds, h => by
    unfold good at h
    obtain ⟨h1, h2⟩ := Bool.and_eq_true_iff.mp h
    unfold seeD
    exact ⟨ds, rfl, rfl, fun k x e => ⟨x, e, seeD_refl n x (goods_get h2 e)⟩⟩
  | 0, .tup ds, h => by unfold good at h; cases h
  | 0, .lst ds, h => by unfold good at h; cases h
  | _, .obj _ _, h => by unfold good at h; cases h
  | _, .loc _, h => by unfold good at h; cases h
  | _, .frz _, h => by unfold good at h; cases h
end Dv

namespace Dv
/-! ### levels that never fall, and prices -/
abbrev Wt := Rat × Int
def RD : List Wt → Rat → Int
  | [], _ => 0
  | x :: l, q => (if x.1 ≤ q then x.2 else -x.2) + RD l q
def LD : List Wt → Rat → Int
  | [], _ => 0
  | x :: l, q => (if x.1 < q then x.2 else -x.2) + LD l q
def Wpos (l : List Wt) : Prop := ∀ x ∈ l, 0 < x.2
theorem Wpos.tail {x : Wt} {l : List Wt} (h : Wpos (x :: l)) : Wpos l := fun y hy => h y (by simp [hy])
theorem Wpos.app {a b : List Wt} (h : Wpos (a ++ b)) : Wpos a ∧ Wpos b := ⟨fun y hy => h y (by simp [hy]), fun y hy => h y (by simp [hy])⟩
theorem RD_app (q : Rat) : ∀ a b : List Wt, RD (a ++ b) q = RD a q + RD b q
  | [], b => by show RD b q = 0 + RD b q; omega
  | x :: a, b => by
    have := RD_app q a b
    show _ + RD (a ++ b) q = _ + RD a q + RD b q
    omega
theorem LD_app (q : Rat) : ∀ a b : List Wt, LD (a ++ b) q = LD a q + LD b q
  | [], b => by show LD b q = 0 + LD b q; omega
  | x :: a, b => by
    have := LD_app q a b
    show _ + LD (a ++ b) q = _ + LD a q + LD b q
    omega
theorem LD_le_RD (q : Rat) : ∀ {l : List Wt}, Wpos l → LD l q ≤ RD l q
  | [], _ => Int.le_refl _
  | x :: l, h => by
    have ih := LD_le_RD q h.tail
    have hx := h x (by simp)
    show (if x.1 < q then x.2 else -x.2) + LD l q ≤ (if x.1 ≤ q then x.2 else -x.2) + RD l q
    by_cases c : x.1 < q
    · rw [if_pos c, if_pos (by grind)]; omega
    · rw [if_neg c]; split <;> omega
theorem LD_mono {p q : Rat} (hpq : p ≤ q) : ∀ {l : List Wt}, Wpos l → LD l p ≤ LD l q
  | [], _ => Int.le_refl _
  | x :: l, h => by
    have ih := LD_mono hpq h.tail
    have hx := h x (by simp)
    show (if x.1 < p then x.2 else -x.2) + LD l p ≤ (if x.1 < q then x.2 else -x.2) + LD l q
    by_cases c : x.1 < p
    · rw [if_pos c, if_pos (by grind)]; omega
    · rw [if_neg c]; split <;> omega
theorem RD_mono {p q : Rat} (hpq : p ≤ q) : ∀ {l : List Wt}, Wpos l → RD l p ≤ RD l q
  | [], _ => Int.le_refl _
  | x :: l, h => by
    have ih := RD_mono hpq h.tail
    have hx := h x (by simp)
    show (if x.1 ≤ p then x.2 else -x.2) + RD l p ≤ (if x.1 ≤ q then x.2 else -x.2) + RD l q
    by_cases c : x.1 ≤ p
    · rw [if_pos c, if_pos (by grind)]; omega
    · rw [if_neg c]; split <;> omega
theorem RD_le_LD {p q : Rat} (hpq : p < q) : ∀ {l : List Wt}, Wpos l → RD l p ≤ LD l q
  | [], _ => Int.le_refl _
  | x :: l, h => by
    have ih := RD_le_LD hpq h.tail
    have hx := h x (by simp)
    show (if x.1 ≤ p then x.2 else -x.2) + RD l p ≤ (if x.1 < q then x.2 else -x.2) + LD l q
    by_cases c : x.1 ≤ p
    · rw [if_pos c, if_pos (by grind)]; omega
    · rw [if_neg c]; split <;> omega
/-- a pool at its level -/
structure Gp (l : List Wt) (L : Rat) : Prop where
  ne : l ≠ []
  pos : Wpos l
  pre : ∀ a b, l = a ++ b → a ≠ [] → LD a L < 0
  suf : ∀ a b, l = a ++ b → b ≠ [] → 0 ≤ RD b L
theorem Gp.lo {l : List Wt} {L : Rat} (h : Gp l L) : LD l L < 0 := h.pre l [] (by simp) h.ne
theorem Gp.hi {l : List Wt} {L : Rat} (h : Gp l L) : 0 ≤ RD l L := h.suf [] l rfl h.ne
theorem gp_one {v : Rat} {w : Int} (hw : 0 < w) : Gp [(v, w)] v := by
  refine ⟨by simp, fun x hx => ?_, fun a b h ha => ?_, fun a b h hb => ?_⟩
  · simp only [List.mem_cons, List.not_mem_nil, or_false] at hx
    rw [hx]; exact hw
  · match a, ha, h with
    | x :: a, _, h =>
      simp only [List.cons_append, List.cons.injEq, List.nil_eq, List.append_eq_nil_iff] at h
      obtain ⟨rfl, rfl, rfl⟩ := h
      show (if v < v then w else -w) + 0 < 0
      rw [if_neg Rat.lt_irrefl]; omega
  · match a, h with
    | [], h =>
      simp only [List.nil_append] at h
      rw [← h]
      show 0 ≤ (if v ≤ v then w else -w) + 0
      rw [if_pos Rat.le_refl]; omega
    | x :: a, h =>
      simp only [List.cons_append, List.cons.injEq, List.nil_eq, List.append_eq_nil_iff] at h
      exact absurd h.2.2 hb
theorem gp_merge {A B : List Wt} {a b c : Rat} (hA : Gp A a) (hB : Gp B b) (hab : b < a) (h1 : LD (A ++ B) c < 0) (h2 : 0 ≤ RD (A ++ B) c) : Gp (A ++ B) c ∧ b ≤ c ∧ c ≤ a := by
  have pAB : Wpos (A ++ B) := fun x hx => by
    rcases List.mem_append.mp hx with q | q
    · exact hA.pos x q
    · exact hB.pos x q
  have ca : c ≤ a := by
    by_cases q : c ≤ a
    · exact q
    · exfalso
      have k1 := RD_le_LD (show a < c by grind) pAB
      rw [RD_app] at k1
      have k2 := hA.hi
      have k3 := RD_mono (Rat.le_of_lt hab) hB.pos
      have k4 := hB.hi
      omega
  have bc : b ≤ c := by
    by_cases q : b ≤ c
    · exact q
    · exfalso
      have k1 := RD_le_LD (show c < b by grind) pAB
      rw [LD_app] at k1
      have k2 := LD_mono (Rat.le_of_lt hab) hA.pos
      have k3 := hA.lo
      have k4 := hB.lo
      omega
  refine ⟨⟨fun z => hA.ne (List.append_eq_nil_iff.mp z).1, pAB, fun x y h hx => ?_, fun x y h hy => ?_⟩, bc, ca⟩
  · rcases List.append_eq_append_iff.mp h with ⟨b', e1, e2⟩ | ⟨c', e1, e2⟩
    · -- x = A ++ b', B = b' ++ y
      subst e1
      have k2 := LD_mono ca hA.pos
      have k3 := hA.lo
      by_cases by0 : b' = []
      · subst by0
        rw [List.append_nil]
        omega
      · have pB : Wpos (b' ++ y) := by rw [← e2]; exact hB.pos
        rw [LD_app]
        rcases (show b < c ∨ b = c by grind) with q | q
        · by_cases y0 : y = []
          · subst y0
            rw [List.append_nil] at e2
            rw [e2, LD_app] at h1
            exact h1
          · have s := hB.suf b' y e2 y0
            have m := RD_le_LD q pB.app.2
            rw [e2, LD_app, LD_app] at h1
            omega
        · have m := hB.pre b' y e2 by0
          rw [← q] at k2 ⊢
          omega
    · -- A = x ++ c'
      have m := hA.pre x c' e1 hx
      have pA : Wpos (x ++ c') := by rw [← e1]; exact hA.pos
      have := LD_mono ca pA.app.1
      omega
  · rcases List.append_eq_append_iff.mp h with ⟨b', e1, e2⟩ | ⟨c', e1, e2⟩
    · have s := hB.suf b' y e2 hy
      have pB : Wpos (b' ++ y) := by rw [← e2]; exact hB.pos
      have := RD_mono bc pB.app.2
      omega
    · subst e2
      have pA : Wpos (x ++ c') := by rw [← e1]; exact hA.pos
      have kB := RD_mono bc hB.pos
      have kB2 := hB.hi
      rw [RD_app]
      by_cases c0 : c' = []
      · subst c0
        show 0 ≤ 0 + RD B c
        omega
      · rcases (show c < a ∨ c = a by grind) with q | q
        · by_cases x0 : x = []
          · subst x0
            rw [List.nil_append] at e1
            rw [e1, RD_app] at h2
            exact h2
          · have m := hA.pre x c' e1 x0
            have := RD_le_LD q pA.app.1
            rw [e1, RD_app, RD_app] at h2
            omega
        · have s := hA.suf x c' e1 c0
          rw [q] at kB ⊢
          omega
/-! prices -/
abbrev Sp := Int × Option Int
def reachF (sp : Sp) (tight : Bool) (lo hi : Int) : Option Sp :=
  match sp.2 with
  | none => if tight = true then some (max 0 (sp.1 - hi), none) else if 0 < sp.1 - hi then none else some (0, some 0)
  | some m => if tight = true then (if m - lo < 0 then none else some (max 0 (sp.1 - hi), some (m - lo))) else if 0 < sp.1 - hi ∨ m - lo < 0 then none else some (0, some 0)
abbrev It := Wt × Rat
def nxt (r : List It) (H : Rat) : Rat := match r with
  | [] => H
  | x :: _ => x.2
def spF : Sp → List It → Rat → Option (List Sp)
  | _, [], _ => some []
  | sp, x :: r, H => match reachF sp (decide (x.2 = nxt r H)) (LD [x.1] x.2) (RD [x.1] x.2) with
    | none => none
    | some s => (spF s r H).map (s :: ·)
/-- most may be lowered by all that goes ahead -/
def MO (most : Option Int) (l : List Wt) (F : Rat) : Prop := ∀ m, most = some m → ∀ a b, l = a ++ b → a ≠ [] → 0 ≤ m - LD a F
theorem MO.step {most : Option Int} {x : Wt} {l : List Wt} {F : Rat} (h : MO most (x :: l) F) : MO (most.map (· - LD [x] F)) l F := fun m hm a b e ha => by
  cases most with
  | none => cases hm
  | some m0 =>
    cases hm
    have := h m0 rfl (x :: a) b (by rw [e]; rfl) (by simp)
    have e2 : LD (x :: a) F = LD [x] F + LD a F := by
      show _ + LD a F = _ + 0 + LD a F
      omega
    rw [e2] at this
    show 0 ≤ m0 - LD [x] F - LD a F
    omega
theorem reach_tight {sp : Sp} {lo hi : Int} (h : ∀ m, sp.2 = some m → 0 ≤ m - lo) : reachF sp true lo hi = some (max 0 (sp.1 - hi), sp.2.map (· - lo)) := by
  unfold reachF
  obtain ⟨a, b⟩ := sp
  cases b with
  | none => rfl
  | some m =>
    have := h m rfl
    dsimp only
    rw [if_pos rfl, if_neg (by omega)]
    rfl
theorem reach_free {sp : Sp} {lo hi : Int} (h : ∀ m, sp.2 = some m → 0 ≤ m - lo) (h2 : sp.1 - hi ≤ 0) : reachF sp false lo hi = some (0, some 0) := by
  unfold reachF
  obtain ⟨a, b⟩ := sp
  have h2 : a - hi ≤ 0 := h2
  cases b with
  | none =>
    dsimp only
    rw [if_neg (by simp), if_neg (by omega)]
  | some m =>
    have := h m rfl
    dsimp only
    rw [if_neg (by simp), if_neg (by omega)]
/-- a pool, from whose ends all may be given back -/
theorem pool_lo {F H : Rat} : ∀ (l : List Wt) (least : Int) (most : Option Int) (r : List It), l ≠ [] → 0 ≤ least → MO most l F → least ≤ RD l F → (∀ a b, l = a ++ b → b ≠ [] → a ≠ [] → 0 ≤ RD b F) →
    (F = nxt r H → spF (0, most.map (· - LD l F)) r H ≠ none) → (F ≠ nxt r H → spF (0, some 0) r H ≠ none) → spF (least, most) (l.map (fun x => (x, F)) ++ r) H ≠ none
  | [], _, _, _, h, _, _, _, _, _, _ => absurd rfl h
  | [x], least, most, r, _, h0, hm, hs, _, k1, k2 => by
    have lx : LD [x] F = LD [x] F := rfl
    have m1 : ∀ m, most = some m → 0 ≤ m - LD [x] F := fun m e => hm m e [x] [] rfl (by simp)
    show (match reachF (least, most) (decide (F = nxt r H)) (LD [x] F) (RD [x] F) with
      | none => none
      | some s => (spF s r H).map (s :: ·)) ≠ none
    by_cases c : F = nxt r H
    · rw [decide_eq_true c, reach_tight m1]
      have e : max 0 (least - RD [x] F) = 0 := by omega
      dsimp only
      rw [e]
      have := k1 c
      intro z
      exact this (Option.map_eq_none_iff.mp z)
    · rw [decide_eq_false c, reach_free m1 (by show least - RD [x] F ≤ 0; omega)]
      have := k2 c
      intro z
      exact this (Option.map_eq_none_iff.mp z)
  | x :: y :: l, least, most, r, _, h0, hm, hs, hsf, k1, k2 => by
    have m1 : ∀ m, most = some m → 0 ≤ m - LD [x] F := fun m e => hm m e [x] (y :: l) rfl (by simp)
    have e1 : RD (x :: y :: l) F = RD [x] F + RD (y :: l) F := by
      show _ + RD (y :: l) F = _ + 0 + RD (y :: l) F
      omega
    have e2 : LD (x :: y :: l) F = LD [x] F + LD (y :: l) F := by
      show _ + LD (y :: l) F = _ + 0 + LD (y :: l) F
      omega
    have s1 := hsf [x] (y :: l) rfl (by simp) (by simp)
    have ih := pool_lo (y :: l) (max 0 (least - RD [x] F)) (most.map (· - LD [x] F)) r (by simp) (by omega) hm.step (by rw [e1] at hs; omega) (fun a b e hb ha => hsf (x :: a) b (by rw [e]; rfl) hb (by simp)) (fun c => by
      have := k1 c
      rw [e2] at this
      rw [Option.map_map]
      have e3 : ((fun z : Int => z - LD (y :: l) F) ∘ fun z : Int => z - LD [x] F) = fun z : Int => z - (LD [x] F + LD (y :: l) F) := by
        funext z
        show z - LD [x] F - LD (y :: l) F = _
        omega
      rw [e3]
      exact this) k2
    show (match reachF (least, most) (decide (F = F)) (LD [x] F) (RD [x] F) with
      | none => none
      | some s => (spF s ((y :: l).map (fun x => (x, F)) ++ r) H).map (s :: ·)) ≠ none
    rw [decide_eq_true rfl, reach_tight m1]
    intro z
    exact ih (Option.map_eq_none_iff.mp z)
/-- a pool that goes on in the upper bound -/
theorem pool_hi {F H : Rat} : ∀ (l : List Wt) (least : Int) (most : Option Int) (r : List It), l ≠ [] → 0 ≤ least → MO most l F → F = nxt r H →
    (∀ least', 0 ≤ least' → spF (least', most.map (· - LD l F)) r H ≠ none) → spF (least, most) (l.map (fun x => (x, F)) ++ r) H ≠ none
  | [], _, _, _, h, _, _, _, _ => absurd rfl h
  | [x], least, most, r, _, h0, hm, c, k1 => by
    have m1 : ∀ m, most = some m → 0 ≤ m - LD [x] F := fun m e => hm m e [x] [] rfl (by simp)
    show (match reachF (least, most) (decide (F = nxt r H)) (LD [x] F) (RD [x] F) with
      | none => none
      | some s => (spF s r H).map (s :: ·)) ≠ none
    rw [decide_eq_true c, reach_tight m1]
    have := k1 (max 0 (least - RD [x] F)) (by omega)
    intro z
    exact this (Option.map_eq_none_iff.mp z)
  | x :: y :: l, least, most, r, _, h0, hm, c, k1 => by
    have m1 : ∀ m, most = some m → 0 ≤ m - LD [x] F := fun m e => hm m e [x] (y :: l) rfl (by simp)
    have e2 : LD (x :: y :: l) F = LD [x] F + LD (y :: l) F := by
      show _ + LD (y :: l) F = _ + 0 + LD (y :: l) F
      omega
    have ih := pool_hi (y :: l) (max 0 (least - RD [x] F)) (most.map (· - LD [x] F)) r (by simp) (by omega) hm.step c (fun q hq => by
      have := k1 q hq
      rw [e2] at this
      rw [Option.map_map]
      have e3 : ((fun z : Int => z - LD (y :: l) F) ∘ fun z : Int => z - LD [x] F) = fun z : Int => z - (LD [x] F + LD (y :: l) F) := by
        funext z
        show z - LD [x] F - LD (y :: l) F = _
        omega
      rw [e3]
      exact this)
    show (match reachF (least, most) (decide (F = F)) (LD [x] F) (RD [x] F) with
      | none => none
      | some s => (spF s ((y :: l).map (fun x => (x, F)) ++ r) H).map (s :: ·)) ≠ none
    rw [decide_eq_true rfl, reach_tight m1]
    intro z
    exact ih (Option.map_eq_none_iff.mp z)
/-- a level between the bounds -/
def clp (H q : Rat) : Rat := if H < (if q < 0 then 0 else q) then H else (if q < 0 then 0 else q)
def flatP (H : Rat) : List (List Wt × Rat) → List It
  | [] => []
  | p :: ps => p.1.map (fun x => (x, clp H p.2)) ++ flatP H ps
def Stk (ps : List (List Wt × Rat)) : Prop := (∀ p ∈ ps, Gp p.1 p.2) ∧ ps.Pairwise fun p q => p.2 ≤ q.2
theorem nxt_flat {H : Rat} {p : List Wt × Rat} {ps : List (List Wt × Rat)} (h : p.1 ≠ []) : nxt (flatP H (p :: ps)) H = clp H p.2 := by
  obtain ⟨l, L⟩ := p
  cases l with
  | nil => exact absurd rfl h
  | cons x l => rfl
theorem spans_ok {H : Rat} (hH : 0 ≤ H) : ∀ (ps : List (List Wt × Rat)) (least : Int) (most : Option Int), Stk ps → 0 ≤ least → (∀ p ∈ ps, clp H p.2 < H → least = 0) → (∀ m, most = some m → 0 ≤ m) → (∀ p ∈ ps, clp H p.2 = 0 → most = none) →
    spF (least, most) (flatP H ps) H ≠ none
  | [], _, _, _, _, _, _, _ => by simp [flatP, spF]
  | p :: ps, least, most, hs, h0, hl, hm, hn => by
    have g := hs.1 p (by simp)
    have hs' : Stk ps := ⟨fun q hq => hs.1 q (by simp [hq]), (List.pairwise_cons.mp hs.2).2⟩
    have up := (List.pairwise_cons.mp hs.2).1
    generalize hF : clp H p.2 = F
    have fF : F = if H < (if p.2 < 0 then 0 else p.2) then H else (if p.2 < 0 then 0 else p.2) := by rw [← hF]; rfl
    have F0 : 0 ≤ F := by rw [fF]; split <;> (try split) <;> grind
    have FH : F ≤ H := by rw [fF]; split <;> grind
    have upF : ∀ q ∈ ps, F ≤ clp H q.2 := fun q hq => by
      have := up q hq
      rw [fF]
      unfold clp
      split <;> split <;> (try split) <;> (try split) <;> grind
    -- what goes ahead of a place in the pool
    have mo : MO most p.1 F := fun m e a b hab ha => by
      by_cases c : F = 0
      · have := hn p (by simp) (by rw [hF]; exact c)
        rw [this] at e; cases e
      · have L1 : F ≤ p.2 := by
          have : 0 < F := by grind
          rw [fF] at this ⊢
          split at this <;> split at this <;> grind
        have k1 := g.pre a b hab ha
        have pa : Wpos a := by
          have := g.pos
          rw [hab] at this
          exact this.app.1
        have k2 := LD_mono L1 pa
        have := hm m e
        omega
    show spF (least, most) (p.1.map (fun x => (x, clp H p.2)) ++ flatP H ps) H ≠ none
    rw [hF]
    have nm : ∀ m, most.map (· - LD p.1 F) = some m → 0 ≤ m := fun m e => by
      cases most with
      | none => cases e
      | some m0 =>
        cases e
        exact mo m0 rfl p.1 [] (by simp) g.ne
    by_cases c : F < H
    · have L1 : p.2 ≤ F := by
        rw [fF] at c ⊢
        split <;> rename_i q
        · rw [if_pos q] at c; grind
        · split <;> grind
      have l0 := hl p (by simp) (by rw [hF]; exact c)
      subst l0
      have rd : ∀ a b, p.1 = a ++ b → b ≠ [] → 0 ≤ RD b F := fun a b hab hb => by
        have k := g.suf a b hab hb
        have pb : Wpos b := by
          have := g.pos
          rw [hab] at this
          exact this.app.2
        have := RD_mono L1 pb
        omega
      refine pool_lo p.1 0 most (flatP H ps) g.ne (Int.le_refl _) mo (rd [] p.1 rfl g.ne) (fun a b e hb _ => rd a b e hb) (fun e => ?_) (fun e => ?_)
      · refine spans_ok hH ps 0 _ hs' (Int.le_refl _) (fun _ _ _ => rfl) nm fun q hq z => ?_
        have := upF q hq
        have f0 : F = 0 := by grind
        have := hn p (by simp) (by rw [hF]; exact f0)
        rw [this]
        rfl
      · refine spans_ok hH ps 0 _ hs' (Int.le_refl _) (fun _ _ _ => rfl) (fun m e => by cases e; exact Int.le_refl _) fun q hq z => ?_
        exfalso
        -- a level of 0 behind F: F = 0, and all next ones are 0 or more
        have f0 : F = 0 := by have := upF q hq; grind
        match ps, hq, e, hs', upF, up with
        | q1 :: ps', hq, e, hs', upF, up =>
          rw [nxt_flat (hs'.1 q1 (by simp)).ne] at e
          have k1 := upF q1 (by simp)
          have k2 : clp H q1.2 ≤ clp H q.2 := by
            rcases List.mem_cons.mp hq with rfl | hq
            · exact Rat.le_refl
            · have := (List.pairwise_cons.mp hs'.2).1 q hq
              unfold clp
              split <;> split <;> (try split) <;> (try split) <;> grind
          grind
    · have fe : F = H := by grind
      have all : ∀ q ∈ ps, clp H q.2 = H := fun q hq => by
        have := upF q hq
        have k : clp H q.2 ≤ H := by unfold clp; split <;> grind
        grind
      have nx : F = nxt (flatP H ps) H := by
        cases ps with
        | nil => exact fe
        | cons q1 ps' =>
          rw [nxt_flat (hs'.1 q1 (by simp)).ne, all q1 (by simp)]
          exact fe
      refine pool_hi p.1 least most (flatP H ps) g.ne h0 mo nx fun q hq => ?_
      refine spans_ok hH ps q _ hs' hq (fun z hz hlt => ?_) nm fun z hz ez => ?_
      · rw [all z hz] at hlt
        exact absurd hlt Rat.lt_irrefl
      · have : F = 0 := by rw [fe, ← all z hz]; exact ez
        have := hn p (by simp) (by rw [hF]; exact this)
        rw [this]
        rfl
end Dv

namespace Dv
open PySem PySem.Spec PyProof.Rows L2
theorem cut_lo (A B : List D) {k : Nat} (hk : A.length = k) : cutD (A ++ B) none (some (k : Int)) = A := by
  subst hk
  have e : ¬ ((A.length : Int) < 0) := by omega
  unfold cutD HT.sIx
  dsimp only
  rw [if_neg e]
  simp
theorem cut_hi (A B : List D) {k : Nat} (hk : A.length = k) : cutD (A ++ B) (some (k : Int)) none = B := by
  subst hk
  have e : ¬ ((A.length : Int) < 0) := by omega
  unfold cutD HT.sIx
  dsimp only
  rw [if_neg e]
  simp
end Dv

namespace Dv
open PySem PySem.Spec PyProof.Rows L2
/-- how often a while may turn: the length of an own list -/
@[simp] def fuelL (i : Nat) : Rho → Om → Nat := fun ρ _ => match ρ[i]? with
  | some (some (.own xs)) => xs.length + 1
  | _ => 0
end Dv

/-! ### sorted: texts -/
namespace Dv
open PySem PySem.Spec PyProof.Rows Srt
section
variable {prog : Program} {w : World} {A : Around} {E : Value → Shared → Prop} {s : Shared}
def kS : Value → Str
  | .str x _ => x
  | _ => ⟨#[]⟩
def ltS (x y : Str) : Bool := decide (x.cps.toList < y.cps.toList)
theorem swo_S {α : Type} (k : α → Str) : SrtO.Swo fun v u => ltS (k v) (k u) := by
  refine ⟨fun x y h => ?_, fun x y z h1 h2 => ?_⟩
  · exact decide_eq_false (List.lt_asymm (of_decide_eq_true h))
  · have h4 : (k x).cps.toList ≤ (k y).cps.toList := of_decide_eq_false h1
    have h5 : (k y).cps.toList ≤ (k z).cps.toList := of_decide_eq_false h2
    have h6 : ¬ (k z).cps.toList < (k x).cps.toList := List.le_trans h4 h5
    exact decide_eq_false h6
theorem strs_of : ∀ {vs : List Value}, (∀ v ∈ vs, ∃ x t, v = Value.str x t) → StrsAre vs (vs.map kS)
  | [], _ => .nil
  | v :: vs, h => by
    obtain ⟨x, t, e⟩ := h v (by simp)
    subst e
    exact .cons x t (strs_of fun u hu => h u (by simp [hu]))
theorem str_cmp {vs : List Value} (hI : ∀ v ∈ vs, ∃ x t, v = Value.str x t) : SrtO.Cmp prog w A s oneType' (fun p => p.1 ∈ vs) (SrtO.lt2 fun v u => ltS (kS v) (kS u)) := by
  intro p q hm hm'
  obtain ⟨a, t, e⟩ := hI _ hm
  obtain ⟨b, u, e'⟩ := hI _ hm'
  show wpAny (model prog w) A (keyLt' oneType' p.1 q.1) (fun r s' => s' = s ∧ r = ltS (kS p.1) (kS q.1)) (fun _ _ => False) s
  rw [e, e', keyLt'_oneType]
  exact oneLt_str ⟨rfl, rfl⟩
theorem str_sortable {a : Addr} {vs : List Value} (hI : ∀ v ∈ vs, ∃ x t, v = Value.str x t) (h2 : 2 ≤ vs.length) : SrtO.SortableO prog w A s a vs fun v u => ltS (kS v) (kS u) := by
  intro h' _
  refine ⟨oneType', fun Q E hq => ?_, str_cmp hI⟩
  match vs, hI, h2 with
  | v1 :: v2 :: rest, hI, _ =>
    rw [keyKind_strs (strs_of hI)]
    exact wpAny_pure hq
  | [], _, h => exact absurd h (by decide)
  | [v], _, h => exact absurd h (by simp)
theorem sorted_S {l : Addr} {vs : List Value} {Q : Value → Shared → Prop} (hl : s.heap.IsList l vs.toArray) (hz : vs.length ≤ sizeLine) (hp : ∀ v ∈ vs, ∃ x t, v = Value.str x t)
    (h : ∀ (h' : Heap) (d : Addr) (out : List Value), SrtO.Srtd (fun v u => ltS (kS v) (kS u)) out → SrtO.Stb (fun v u => ltS (kS v) (kS u)) out vs → (∀ b o, s.heap.get? b = some o → h'.get? b = some o) → s.heap.objs.size ≤ d → (∃ n, h'.get? d = some (seqObj "list" out.toArray n)) → Q (.ref d) { s with heap := h' }) :
    wpAny (model prog w) A (call (.builtin "sorted") [.ref l]) Q E s := by
  refine SrtO.sorted_ord (swo_S kS) hl hz (fun h2 h₁ a ha kk => ?_) fun out hs hb => ?_
  · exact str_sortable hp h2
  · exact h _ _ out hs hb (fun b o e => sortedAll_old e) (Nat.le_succ _) (sortedAll_at s.heap vs out.toArray)
end
open L2
def rSortedS (K : PySem.W.Frag) : List V → Hp → VK → Prop := fun vs H Q => ∃ (a : Addr) (xs : List Str), vs = [V.ref a] ∧ SqL K H a (xs.map V.str) ∧
  ∀ p, H p = none → Q (.ref p) (upd H p (.lst ((isort ltS xs).map V.str)))
theorem strs_vals : ∀ {xs : List Str} {us : List Value}, Vals (xs.map V.str) us → us.map kS = xs ∧ ∀ v ∈ us, ∃ x t, v = Value.str x t
  | [], us, r => by
    cases r
    exact ⟨rfl, by simp⟩
  | x :: xs, us, r => by
    rw [List.map_cons] at r
    cases r with
    | cons r1 r2 =>
      obtain ⟨t, rfl⟩ := r1
      obtain ⟨k1, k2⟩ := strs_vals r2
      refine ⟨by rw [List.map_cons, k1]; rfl, fun v hv => ?_⟩
      rcases List.mem_cons.mp hv with rfl | hv
      · exact ⟨x, t, rfl⟩
      · exact k2 v hv
theorem vals_strs : ∀ {us : List Value}, (∀ v ∈ us, ∃ x t, v = Value.str x t) → Vals ((us.map kS).map V.str) us
  | [], _ => .nil
  | u :: us, h => by
    obtain ⟨x, t, rfl⟩ := h u (by simp)
    exact .cons ⟨t, rfl⟩ (vals_strs fun v hv => h v (by simp [hv]))
section
variable {X : Cx}
theorem cr_sortedSt : CallR X (.builtin "sorted") (rSortedS X.K) := by
  intro pins s σ H vs us Q I r h
  obtain ⟨a, xs, rfl, hs, q⟩ := h
  obtain ⟨its, rv, hl, hz⟩ := I.list hs
  obtain ⟨u, rfl, ru⟩ := vals1 r
  obtain rfl : u = Value.ref a := ru
  obtain ⟨e1, e2⟩ := strs_vals rv
  refine sorted_S hl.isList (by rw [← rv.length]; exact hz) e2 fun h' d out h1 h2 kp hd hn => ?_
  have h3 : ∀ u ∈ out, ∃ x t, u = Value.str x t := fun u hu => e2 u (h2.perm.mem_iff.mp hu)
  obtain ⟨n, hn⟩ := hn
  have hb : SrtO.Stb ltS (out.map kS) (its.map kS) := SrtO.Stb.map (swo_S id) kS h2
  have hsr : SrtO.Srtd ltS (out.map kS) := SrtO.srtd_map h1
  rw [e1] at hb
  have e3 : out.map kS = isort ltS xs := SrtO.stb_uniq (swo_S id) hsr (isort_srtd (swo_S id) _) (hb.trans ⟨(isort_perm _ _).symm, fun x => ((isort_stb (swo_S id) _).cls x).symm⟩)
  refine ⟨.ref d, upd H d (.lst ((out.map kS).map V.str)), I.laid (t' := s.toks) kp hd ⟨?_, out, n, vals_strs h3, hn⟩, rfl, ?_⟩
  · have := h2.len
    rw [List.length_map, List.length_map, this, ← rv.length]
    exact hz
  · rw [e3]
    exact q d (I.hok.fresh hd)
end
/-! ### as a built-in of the layer -/
def txsD : List D → Option (List Str)
  | [] => some []
  | .str x :: ds => (txsD ds).map (x :: ·)
  | _ :: _ => none
def fSortS : List D → Option D
  | [.lst ds] => (txsD ds).map fun l => .lst ((isort ltS l).map .str)
  | _ => none
section
variable {g : G} {R : Addr → Prop} {al : List Addr} {om : Om} {σ : St} {ρ : Rho} {H : Hp} {W : WX} {L : Addr → Prop}
theorem txs_rep : ∀ {vs : List V} {ds : List D} {l : List Str}, RepVs g al L H vs ds → txsD ds = some l → vs = l.map V.str ∧ ds = l.map D.str
  | _, _, l, .nil, e => by cases e; exact ⟨rfl, rfl⟩
  | v :: vs, d :: ds, l, .cons h r, e => by
    cases d with
    | str x =>
      unfold txsD at e
      cases e2 : txsD ds with
      | none => rw [e2] at e; cases e
      | some l' =>
        rw [e2] at e
        cases e
        obtain ⟨k1, k2⟩ := txs_rep r e2
        cases h
        exact ⟨by rw [k1]; rfl, by rw [k2]; rfl⟩
    | _ => unfold txsD at e; cases e
theorem s_sortS : FnS g (rSortedS g.K) fSortS := by
  intro R W al om σ ρ H Q vs xs S r P
  unfold fSortS at P
  split at P
  · obtain ⟨v, rfl, h⟩ := r.one
    obtain ⟨a, vs, rfl, h1, h2⟩ := h.lst
    rename_i ds
    cases e : txsD ds with
    | none => rw [e] at P; exact P.elim
    | some l =>
      rw [e] at P
      obtain ⟨k1, k2⟩ := txs_rep h2 e
      refine ⟨a, l, rfl, by rw [← k1]; exact SqL.of h1, fun p hp => ?_⟩
      have P' : PostR g R W (relV g) al (Mt al om σ ρ) H σ (.ok (.lst ((isort ltS l).map D.str)) ρ om) Q := P
      exact okNewL S P' hp (RepVs.of_mem fun x hx => .str)
  · exact P.elim
end
end Dv

set_option maxRecDepth 1000000
/-! ### list(reversed(a list)) -/
namespace Dv
open PySem PySem.Spec PyProof.Rows RT
section
variable {prog : Program} {w : World} {A : Around} {s : Shared} {R : Result → Shared → Prop}
theorem extend_rev {it l : Addr} {items : Array Value} (hh : A.handled = none) (hit : s.heap.IsRevIter it l ((items.size : Int) - 1)) (hl : s.heap.IsList l items) (hne : l ≠ it) (hn : items.size ≤ sizeLine) (S : Addr) (res : Value) (c₀ : Nat) (hSi : S ≠ it) (hSl : S ≠ l)
    (hS : s.heap.get? S = some { cls := .type "list", data := .seq #[] c₀ })
    (hR : ∀ (h' : Heap) (tk : Nat) (acc : Array Value) (c' : Nat), (∀ b o, b ≠ it → b ≠ S → s.heap.get? b = some o → h'.get? b = some o) → h'.get? S = some { cls := .type "list", dict := none, data := .seq acc c', slots := #[] } → ItemsOf (fun i v => items[items.size - 1 - i]? = some v) acc items.size → R (.ok (.ret res)) { s with heap := h', toks := tk }) :
    wpAny (model prog w) A.in1 (Builtin.List.listExtendWith (.ref S) (.ref it) res)
      (fun fin s' => match fin with | .done f => R (.ok f) s' | .again c' => c'.quiet = true ∧ codeAny (model prog w) A c' R s') (fun e s' => R (.error e) s') s := by
  have W := (Walks.listRev (prog := prog) (w := w) (A := A.in1) hh it l hne items).toS
  have hSf : S ∉ [it, l] := by simp only [List.mem_cons, List.not_mem_nil, or_false, not_or]; exact ⟨hSi, hSl⟩
  have hT : s.TypeIs (.ref it) "list_reverseiterator" := hit.typeIs
  have h1 : Builtin.List.listSameRef (.ref S) (.ref it) = false := by simp [Builtin.List.listSameRef, hSi]
  unfold Builtin.List.listExtendWith
  refine wpAny_bind (wpAny_typeOf hT ?_)
  rw [if_neg (by rw [h1]; decide)]
  refine wpAny_bind (wpAny_pyIter_revIter hit ?_)
  refine wpAny_bind (wpAny_holding ?_)
  unfold Builtin.List.listLengthHint
  refine wpAny_bind (wpAny_specialOf hT nolen_lri ?_)
  show wpAny _ A.in1 (specialOf (Value.ref it) (Str.ofString "__length_hint__") >>= _) _ _ _
  refine wpAny_bind (wpAny_specialOf hT hint_lri ?_)
  generalize hid : ("list_reverseiterator.__length_hint__" : String) = id0
  wp_delta
  rw [show splitId id0 = some ("list_reverseiterator", "__length_hint__") from by subst hid; decide +kernel]
  subst hid
  refine wpAny_bind (wpAny_isInstance (b := true) hT (by rw [isSubtype_type]; kernel_rfl) ?_)
  refine wpAny_pure ?_
  rw [if_neg (by decide)]
  have e0 : ((items.size : Nat) : Int) - 1 - ((0 : Nat) : Int) = (items.size : Int) - 1 := by omega
  refine wpAny_pure ⟨plainId_quiet F.plain_extend_loop _, codeAny_extend_loopS W hn _ hSf _ items.size 0 _ _ _ rfl (Nat.zero_le _) ⟨Nat.zero_le _, by rw [e0]; exact hit, hl⟩ hS (ItemsOf.nil _) fun s' acc' c' hm hS' hacc => ?_⟩
  rw [Moved.eq_with hm]
  refine hR s'.heap s'.toks acc' c' (fun b o hb hb2 e => hm.heap b o (fun hmem => ?_) e) hS' hacc
  rcases List.mem_cons.mp hmem with e' | hmem
  · exact hb2 e'
  · exact hb (List.mem_singleton.mp hmem)
theorem list_init_rev {it l : Addr} {items : Array Value} (hh : A.handled = none) (hit : s.heap.IsRevIter it l ((items.size : Int) - 1)) (hl : s.heap.IsList l items) (hne : l ≠ it) (hn : items.size ≤ sizeLine) (S : Addr) (hSi : S ≠ it) (hSl : S ≠ l)
    (hS : s.heap.get? S = some { cls := .type "list", data := .seq #[] })
    (hR : ∀ (h' : Heap) (tk : Nat) (acc : Array Value) (c' : Nat), (∀ b o, b ≠ it → b ≠ S → s.heap.get? b = some o → h'.get? b = some o) → h'.get? S = some { cls := .type "list", dict := none, data := .seq acc c', slots := #[] } → ItemsOf (fun i v => items[items.size - 1 - i]? = some v) acc items.size → R (.ok (.ret .none)) { s with heap := h', toks := tk }) :
    wpAny (model prog w) A.in1 (Builtin.«list.__init__» ⟨[.ref S, .ref it], []⟩)
      (fun fin s' => match fin with | .done f => R (.ok f) s' | .again c' => c'.quiet = true ∧ codeAny (model prog w) A c' R s') (fun e s' => R (.error e) s') s := by
  show wpAny _ A.in1 (do let old ← Builtin.List.listItems (.ref S); Builtin.List.listUpdate (.ref S) (fun _ => #[]); letGo old.toList.reverse; Builtin.List.listExtendWith (.ref S) (.ref it) .none) _ _ s
  refine wpAny_bind ?_
  unfold Builtin.List.listItems
  refine wpAny_bind (wpAny_seqItems hS rfl (wpAny_pure ?_))
  show wpAny _ A.in1 (updateSeq S (fun _ => #[]) >>= fun _ => letGo (#[] : Array Value).toList.reverse >>= fun _ => Builtin.List.listExtendWith (.ref S) (.ref it) .none) _ _ s
  refine wpAny_bind (wpAny_updateSeq hS rfl ?_)
  have hS₂ := Heap.get?_update_self (Obj.mapSeq (fun _ => (#[] : Array Value))) hS rfl
  have oth : ∀ b o, b ≠ S → s.heap.get? b = some o → (s.heap.update S (Obj.mapSeq (fun _ => (#[] : Array Value)))).get? b = some o :=
    fun b o hb e => (Heap.get?_update_other _ _ (Ne.symm hb)).trans e
  obtain ⟨ol, hol, _⟩ := id hl
  refine wpAny_bind (wpAny_letGo ?_)
  refine extend_rev hh (hit.at fun o e => oth it o (Ne.symm hSi) e) (hl.at fun o e => oth l o (Ne.symm hSl) e) hne hn S .none _ hSi hSl hS₂ fun h' tk acc c' hk hS' hacc => ?_
  exact hR h' tk acc c' (fun b o hb hb2 e => hk b o hb hb2 (oth b o hb2 e)) hS' hacc
end
section
variable {prog : Program} {w : World} {A : Around} {E : Value → Shared → Prop} {s : Shared}
theorem call_list_rev {it l : Addr} {items : Array Value} {Q : Value → Shared → Prop} (hh : A.handled = none) (hit : s.heap.IsRevIter it l ((items.size : Int) - 1)) (hl : s.heap.IsList l items) (hne : l ≠ it) (hn : items.size ≤ sizeLine)
    (hQ : ∀ (h' : Heap) (tk : Nat) (acc : Array Value) (c' : Nat), (∀ b o, b ≠ it → s.heap.get? b = some o → h'.get? b = some o) → h'.get? s.heap.objs.size = some { cls := .type "list", dict := none, data := .seq acc c', slots := #[] } → ItemsOf (fun i v => items[items.size - 1 - i]? = some v) acc items.size →
      Q (.ref s.heap.objs.size) { s with heap := h', toks := tk }) :
    wpAny (model prog w) A (call (.type "list") [.ref it]) Q E s := by
  obtain ⟨oi, hoi, _⟩ := id hit
  obtain ⟨ol, hol, _⟩ := id hl
  have hSi : s.heap.objs.size ≠ it := Nat.ne_of_gt (Heap.lt_size hoi)
  have hSl : s.heap.objs.size ≠ l := Nat.ne_of_gt (Heap.lt_size hol)
  refine callType_codes (Q₁ := fun obj s₁ => obj = .ref s.heap.objs.size ∧ s₁ = { s with heap := s.heap.push { cls := .type "list", data := .seq #[] } }) F.called_list (F.typeCall_list_1 _) F.entry_list_init
    (code_list_new _ ⟨rfl, rfl⟩) fun obj s₁ h₁ => ?_
  obtain ⟨rfl, rfl⟩ := h₁
  have hS : (s.heap.push { cls := .type "list", data := .seq #[] }).get? s.heap.objs.size = some { cls := .type "list", data := .seq #[] } := Heap.get?_push_size _ rfl
  refine ⟨⟨_, hS, rfl⟩, F.args_list_init_2 _ _, list_init_rev (A := A.in1) (s := { s with heap := s.heap.push { cls := .type "list", data := .seq #[] } }) hh (hit.at fun o e => Heap.get?_push_of_some _ e) (hl.push _) hne hn s.heap.objs.size hSi hSl hS fun h' tk acc c' hk hS' hacc => ?_⟩
  refine ⟨rfl, hQ h' tk acc c' (fun b o hb e => hk b o hb (Nat.ne_of_lt (Heap.lt_size e)) (Heap.get?_push_of_some _ e)) hS' hacc⟩
end
open L2
/-- list(reversed(x)), x a list: a new list -/
def tLstRev (K : PySem.W.Frag) (te : TE) : TE := fun σ H Q => te σ H fun v H1 => ∃ (a : Addr) (xs : List V), v = .ref a ∧ SqL K H1 a xs ∧ ∀ q, H1 q = none → Q (.ref q) (upd H1 q (.lst xs.reverse))
section
variable {X : Cx}
theorem pe_lstRev {e : Expr} {te : TE} {p p2 pos pos2 : Pos} (hc : X.calm = true) (hg : Gl X "list") (hm : X.mg "list" = none) (hg2 : Gl X "reversed") (hm2 : X.mg "reversed" = none) (he : PE X e te)
    (hs : starEach [e] X.env = (false, eval e X.env) :: starEach [] X.env := by rfl)
    (hs2 : starEach [.Call (.Name "reversed" p2) [e] [] pos2] X.env = (false, eval (.Call (.Name "reversed" p2) [e] [] pos2) X.env) :: starEach [] X.env := by rfl) :
    PE X (.Call (.Name "list" p) [.Call (.Name "reversed" p2) [e] [] pos2] [] pos) (tLstRev X.K te) := by
  refine ⟨fun pins s σ H Q I h => ?_⟩
  refine Call_ (ld_blt I hg hm PyProof.Rows.boot_list (PyProof.Rows.callWith_type1 (args_cons (Call_ (ld_blt I hg2 hm2 PyProof.Rows.boot_reversed (PyProof.Rows.callWith_type1 (args_cons (thn (he.run pins s σ H _ I h) fun u s1 ⟨v, H1, I1, r1, q1⟩ => args_nil ?_) hs) hs rfl))) hs2) hs2 rfl))
  obtain ⟨a, xs, ev, hq, q⟩ := q1
  subst ev
  obtain rfl : u = Value.ref a := r1
  obtain ⟨its, rv, p', hz⟩ := I1.list hq
  refine call_reversed_list p'.isList (args_nil ?_)
  have hl := p'.isList
  obtain ⟨ol, hol, _⟩ := id hl
  have hne : a ≠ s1.heap.objs.size := Nat.ne_of_lt (Heap.lt_size hol)
  have hn : its.toArray.size ≤ sizeLine := by rw [List.size_toArray, ← rv.length]; exact hz
  refine call_list_rev (s := { s1 with heap := s1.heap.push (revObj a ((its.toArray.size : Int) - 1)) }) (I1.ok.hd hc) ⟨_, Heap.get?_push_size _ rfl, rfl, rfl⟩ (hl.push _) hne hn fun h' tk acc c' hk hS hi => ?_
  have kp : ∀ b o, s1.heap.get? b = some o → h'.get? b = some o := fun b o e => hk b o (Nat.ne_of_lt (Heap.lt_size e)) (Heap.get?_push_of_some _ e)
  have hd : s1.heap.objs.size ≤ (s1.heap.push (revObj a ((its.toArray.size : Int) - 1))).objs.size := by
    rw [Heap.size_push]
    exact Nat.le_succ _
  refine ⟨.ref _, upd H1 _ (.lst xs.reverse), I1.laid (t' := tk) kp hd ⟨by rw [List.length_reverse]; exact hz, acc.toList, c', vals_rev rv hi, ?_⟩, rfl, q _ (I1.hok.fresh hd)⟩
  rw [Array.toArray_toList]
  exact hS
end
/-- .. of an own list -/
@[simp] def uRev (i : Nat) : UW := fun ρ ω => match ρ[i]? with
  | some (some (.own xs)) => .ok xs.reverse ρ ω
  | _ => .no
section
variable {g : G} {X : Cx} {W : WX} {e : Expr} {p p2 pos pos2 : Pos}
theorem pu_rev (i : Nat) (hK : X.K = g.K) (hc : X.calm = true) (hm : X.mg "list" = none) (hm2 : X.mg "reversed" = none) (he : PE X e (tVar i)) (hg : Gl X "list" := by rfl) (hg2 : Gl X "reversed" := by rfl)
    (hs : starEach [e] X.env = (false, eval e X.env) :: starEach [] X.env := by rfl)
    (hs2 : starEach [.Call (.Name "reversed" p2) [e] [] pos2] X.env = (false, eval (.Call (.Name "reversed" p2) [e] [] pos2) X.env) :: starEach [] X.env := by rfl) :
    PE X (.Call (.Name "list" p) [.Call (.Name "reversed" p2) [e] [] pos2] [] pos) (tOw g W (uRev i)) := peImp (pe_lstRev hc hg hm hg2 hm2 he hs hs2) fun σ H Q ⟨R, ρ, om, al, S, P⟩ => by
  simp only [uRev] at P
  split at P
  · rename_i xs e
    obtain ⟨a, vs, h1, h2, h3⟩ := S.own i xs e
    exact ⟨_, h1, a, vs, rfl, by rw [hK]; exact SqL.of h2, fun p hp => okOwn S P hp (RepVs.reverse h3)⟩
  · exact P.elim
end
/-! ### a method's call in a comprehension -/
@[simp] def uMethN (c m : Str) (n : Nat) (S : FN) (uo : UE) : UE := fun ρ ω => (uo ρ ω).bind fun x ρ ω => if isIns ω x c m = true then (if 1 = n then (match S [x] ω with
  | .ok d ω' => .ok d ρ ω'
  | _ => .no) else .no) else .no
section
variable {g : G} {W : WX} {X : Cx} {o : Expr} {uo : UE} {pos apos : Pos} {cn m : Str} {k n : Nat} {S : FN} {ps : List Str}
theorem passN {X : Cx} (σ : St) : PassesAt (L2.CX X.prog X.w) X σ (fun _ _ _ => False) := fun _ _ _ e s' I h => by
  obtain ⟨_, _, _, _, _, _, _, _, _, _, _, _, z⟩ := h
  exact z.elim
theorem pu_mth0N (h : HasM X.prog X.w X.K X.mg X.base (g.cls cn) m ps k (spU g n S)) (hc : Cls X.K (g.cls cn)) (hr : Room k X.A) (ho : PE X o (tE g W uo)) {pl : Sem Bool} (hpn : ps.length = n := by rfl)
    (ht : eval (.Call (.Attribute o m apos) [] [] pos) X.env = (do
      let ov ← eval o X.env
      standAt apos.atName
      let (f, first) ← holding [ov] (getMethod ov m pl)
      callWith pos f first (backTo pos (starEach [] X.env)) (backToKw pos (keywordEach [] X.env))) := by rfl) :
    PE X (.Call (.Attribute o m apos) [] [] pos) (tE g W (uMethN cn m n S uo)) := by
  subst hpn
  obtain ⟨f, fd, hm, hb, F⟩ := h
  refine peImp (pe_methS0 (E := fun _ _ _ _ => False) ho hc hm F hr hb (fun σ => passN σ) ht) fun σ H Q ⟨R, ρ, om, al, St, P⟩ => ?_
  refine tR_bind St P fun x ρ1 om1 v H1 al1 s1 S1 r1 P1 => ?_
  split at P1
  · rename_i hi
    obtain ⟨ad, dx, fs, rfl, q1, q2⟩ := ins_at S1 r1 hi
    refine ⟨ad, dx, fs, rfl, q1, q2, ?_⟩
    split at P1
    · rename_i hl
      cases e9 : S [x] om1 with
      | ok d om' =>
        rw [e9] at P1
        obtain ⟨k1, R2, ds2, om2, al2, k2, k3, k4⟩ := call_end (W := fun _ _ _ _ => False) (S := S) (ds := [x]) S1 (.cons r1 .nil) (by rw [e9]; exact P1) _ hl
        exact ⟨k1, R2, ds2, om2, al2, k2, k3, k4⟩
      | xc x om' => rw [e9] at P1; exact P1.elim
      | no => rw [e9] at P1; exact P1.elim
    · exact P1.elim
  · exact P1.elim
end
end Dv

namespace Dv
open PySem PySem.Spec PyProof.Rows L2
/-! ### a comprehension over a shared list, asked anew at each turn -/
def goCX (G : UG) (tt : UT) (te : UE) (vs : List Nat) (get : Rho → Om → Option (List D)) : Nat → Nat → List D → UW
  | 0, _, _ => fun _ _ => .no
  | f + 1, i, acc => fun ρ ω => match get ρ ω with
    | none => .no
    | some ds => match ds[i]? with
      | none => .ok acc ρ ω
      | some d => match G d ρ with
        | none => .no
        | some ρ1 => match tt ρ1 ω with
          | .ok b ρ2 ω2 => if b = true then (match te ρ2 ω2 with
            | .ok y ρ3 ω3 => if acc.length < big then goCX G tt te vs get f (i + 1) (acc ++ [y]) (clrs ρ3 vs) ω3 else .no
            | _ => .no) else goCX G tt te vs get f (i + 1) acc (clrs ρ2 vs) ω2
          | _ => .no
def uLcL (u : UE) (G : UG) (tt : UT) (te : UE) (vs : List Nat) : UW := fun ρ ω => (u ρ ω).bind fun x ρ ω => match x with
  | .loc k => goCX G tt te vs (getL k) (lenG (getL k) ρ ω) 0 [] (clrs ρ vs) ω
  | _ => .no
section
variable {g : G} {R : Addr → Prop} {al : List Addr} {om : Om} {σ : St} {ρ : Rho} {H H' : Hp} {W : WX} {X : Cx} {v : V} {d : D} {a b c e o : Expr} {ua ub uc ue uo : UE} {es : List Expr} {us : UA} {p0 pos p1 apos : Pos} {x : Str} {id : String}
theorem tLcL_of {K : PySem.W.Frag} {G' : UG} {tt : UT} {te : UE} {vs : List Nat} {σ : St} {H : Hp} {Q : VK} (h : tOw g W (uLcL ue G' tt te vs) σ H Q) : tLc (iList K (tE g W ue)) (tGv g vs G') (tT g WF tt) (tE g WF te) vs σ H Q := by
  obtain ⟨R, ρ, om, al, S, P⟩ := h
  refine tR_bindO S P fun x ρ1 om1 v H1 al1 s1 S1 r1 P1 => ?_
  cases x <;> first | exact P1.elim | skip
  rename_i k
  cases r1 with
  | loc ha =>
  rename_i ad
  dsimp only at P1
  have cell : ∀ {R2 : Addr → Prop} {al' : List Addr} {om' : Om} {σ' : St} {ρ' : Rho} {H' : Hp} {ds : List D}, (∀ (i : Nat) (a : Addr), al1[i]? = some a → al'[i]? = some a) → Rst g R2 al' σ' ρ' om' H' → getL k ρ' om' = some ds → ∃ vs, SqL K H' ad vs ∧ H' ad = some (.lst vs) ∧ RepVs g al' (LL R2 al' om' σ' ρ') H' vs ds := fun {R2 al' om' σ' ρ' H' ds} ext S' e => by
    unfold getL at e
    split at e
    · rename_i ds' e'
      cases e
      obtain ⟨vs, h1, h2⟩ := cell_lst S' e' (ext _ _ ha)
      exact ⟨vs, SqL.of h1, h1, h2⟩
    · cases e
  have first : ∃ vs, SqL K H1 ad vs := by
    unfold lenG at P1
    cases e : getL k ρ1 om1 with
    | none => rw [e] at P1; exact P1.elim
    | some ds => obtain ⟨vs, h, _⟩ := cell (fun _ _ h => h) S1 e; exact ⟨vs, h⟩
  refine ⟨ad, rfl, first, ?_⟩
  intro D0 hD
  obtain ⟨S2, s2⟩ := S1.forgets vs
  obtain ⟨S3, c3⟩ := S2.newRes (o := .lst []) hD
  have nR : ¬ R D0 := fun z => (S1.o.rsv D0 z).2 hD
  refine ⟨fun i n H' => ∃ ρ' om' al' accV acc, Step al1 (Mt al1 om1 σ ρ1) H1 al' (fun a => Mt al' om' (wipe σ vs) ρ' a ∨ a = D0) H' ∧ Rst g (Rp R D0) al' (wipe σ vs) ρ' om' H' ∧ (∀ i s, ρ'[i]? = some (some s) → i ∉ vs) ∧ H' D0 = some (.lst accV) ∧ RepVs g al' (LL (Rp R D0) al' om' (wipe σ vs) ρ') H' accV acc ∧
      PostO g R W al1 (Mt al1 om1 σ ρ1) H1 σ (goCX G' tt te vs (getL k) n i acc ρ' om') Q,
    ⟨_, clrs ρ1 vs, om1, al1, [], [], ?_, S3, fun i s h => clrs_get h, upd_same, .nil, P1⟩, ?_⟩
  · refine s2.trans (.grow (fun b o h n => upd_keep hD b o h) fun b m => ?_)
    rcases m with m | m
    · exact .inl m
    · exact .inr (by rw [m]; exact hD)
  rintro i n H2 ⟨ρ2, om2, al2, accV, acc, t2, S4, cl2, hacc, racc, P2⟩
  obtain ⟨S4', c4', n4⟩ := S4.lessp nR
  cases n with
  | zero => exact P2.elim
  | succ n =>
  unfold goCX at P2
  cases eq : getL k ρ2 om2 with
  | none => rw [eq] at P2; exact P2.elim
  | some ds =>
  rw [eq] at P2
  dsimp only at P2
  obtain ⟨vs0, q0, q1, q2⟩ := cell t2.ext S4 eq
  cases ed : ds[i]? with
  | some d =>
    rw [ed] at P2
    dsimp only at P2
    obtain ⟨v0, h0, r⟩ := q2.get ed
    refine .inr ⟨⟨vs0, v0, q0, h0⟩, fun H' => ∃ ρ' om' al' accV acc, Step al1 (Mt al1 om1 σ ρ1) H1 al' (fun a => Mt al' om' (wipe σ vs) ρ' a ∨ a = D0) H' ∧ Rst g (Rp R D0) al' (wipe σ vs) ρ' om' H' ∧ (∀ i s, ρ'[i]? = some (some s) → i ∉ vs) ∧ H' D0 = some (.lst accV) ∧ RepVs g al' (LL (Rp R D0) al' om' (wipe σ vs) ρ') H' accV acc ∧
        PostO g R W al1 (Mt al1 om1 σ ρ1) H1 σ (goCX G' tt te vs (getL k) n (i + 1) acc ρ' om') Q, fun H' h => ⟨n, Nat.lt_succ_self n, h⟩, fun x H3 ⟨e3, hx⟩ => ?_⟩
    subst e3
    have h2 := hx vs0 q0
    rw [h0] at h2
    cases h2
    cases eg : G' d ρ2 with
    | none => rw [eg] at P2; exact P2.elim
    | some ρ3 =>
      rw [eg] at P2
      refine ⟨Rp R D0, ρ2, om2, al2, d, ρ3, S4, r, eg, fun σ4 o4 s4 S6 => ⟨o4.wipe, Rp R D0, ρ3, om2, al2, S6, ?_⟩⟩
      dsimp only at P2
      cases et : tt ρ3 om2 with
      | xc _ _ _ => rw [et] at P2; exact P2.elim
      | no => rw [et] at P2; exact P2.elim
      | ok b ρ5 om5 =>
        rw [et] at P2
        dsimp only at P2
        intro y7 H7 al7 s7 S7 e7
        cases (show y7 = b from e7)
        have kD : ∀ {al : List Addr} {om : Om} {σ : St} {ρ : Rho} {H : Hp}, Rst g (Rp R D0) al σ ρ om H → ¬ Mt al om σ ρ D0 := fun S m => by
          rcases m with m | m
          · exact (S.o.rsv D0 (.inr rfl)).1 m
          · exact (S.ocl D0 m).2 (.inr rfl)
        have st7 := s4.trans s7
        have hD7 : H7 D0 = some (.lst accV) := st7.keep D0 _ hacc (kD S4)
        have ra7 := st7.reps S4 racc
        cases b with
        | false =>
          simp only [Bool.false_eq_true, if_false] at P2 ⊢
          obtain ⟨S8, s8⟩ := S7.forgets vs
          rw [o4.wipe] at S8 s8
          exact ⟨clrs ρ5 vs, om5, al7, accV, acc, t2.trans (st7.trans s8).or, S8, fun i s h => clrs_get h, by exact hD7, s8.reps S7 ra7, P2⟩
        | true =>
          simp only [if_true] at P2 ⊢
          refine ⟨Rp R D0, ρ5, om5, al7, S7, ?_⟩
          cases ee : te ρ5 om5 with
          | xc _ _ _ => rw [ee] at P2; exact P2.elim
          | no => rw [ee] at P2; exact P2.elim
          | ok y ρ6 om6 =>
            rw [ee] at P2
            dsimp only at P2
            split at P2
            · rename_i hz
              intro yv H9 al9 s9 S9 ry
              have hD9 : H9 D0 = some (.lst accV) := s9.keep D0 _ hD7 (kD S7)
              have ra9 := s9.reps S7 ra7
              have hlen : accV.length < sizeLine := by rw [ra9.length]; exact Nat.lt_of_lt_of_le hz (big_line (Nat.le_refl _))
              refine ⟨accV, hD9, hlen, ?_⟩
              obtain ⟨S10, c10⟩ := S9.updRes (vs' := accV ++ [yv]) hD9
              obtain ⟨S11, s11⟩ := S10.forgets vs
              rw [o4.wipe] at S11 s11
              refine ⟨clrs ρ6 vs, om6, al9, accV ++ [yv], acc ++ [y], t2.trans ((st7.trans s9).or.trans ?_), S11, fun i s h => clrs_get h, upd_same, s11.reps S10 ((ra9.append (.cons ry .nil)).car c10), P2⟩
              refine ⟨fun _ _ h => h, fun b o h n => ?_, fun b m => ?_⟩
              · rw [upd_ne fun z => n (.inr z)]; exact h
              · rcases m with m | m
                · rcases s11.fresh b m with q | q
                  · exact .inl (.inl q)
                  · by_cases z : b = D0
                    · exact .inl (.inr z)
                    · rw [upd_ne z] at q; exact .inr q
                · exact .inl (.inr m)
            · exact P2.elim
  | none =>
    rw [ed] at P2
    dsimp only at P2
    refine .inl ⟨⟨vs0, q0, ?_⟩, ?_⟩
    · rw [q2.length]
      exact List.getElem?_eq_none_iff.mp ed
    have hout : ∀ (j : Nat) (s : Sl), ρ2[j]? = some (some s) → σ[j]? = (wipe σ vs)[j]? := fun j s h => (wipe_out (cl2 j s h)).symm
    obtain ⟨S7, m7⟩ := S4.agree (σ' := σ) (by rw [wipe_length]) hout
    refine P2 D0 accV H2 al2 ⟨t2.ext, t2.keep, fun a m => t2.fresh a (m.imp (m7 a).mp id)⟩ S7 nR hacc (racc.car (carL fun a m => ?_))
    exact m.imp (m7 a).mp id
/-- [.. for .. in e ..], e a shared list -/
theorem pu_lcL {elt tg iter : Expr} {ifs : List Expr} {scope : Scope} {G' : UG} {tt : UT} {te : UE} (own : List (Str × Nat)) (hc : X.calm = true) (hN : X.N.Nodup) (hi : PE X iter (tE g W ue)) (ok : BlkOk X.N X.env.scope scope own)
    (hg : ∀ (s : Shared) (H : Hp) (C : Addr) (cl : List (Str × Addr)) (fp : List Addr), PG (X.blk s H scope (compEnvC scope cl C X.env) fp) tg (tGv g (own.map (·.2)) G')) (ht : ∀ (s : Shared) (H : Hp) (C : Addr) (cl : List (Str × Addr)) (fp : List Addr), PTs (X.blk s H scope (compEnvC scope cl C X.env) fp) ifs (tT g WF tt))
    (he : ∀ (s : Shared) (H : Hp) (C : Addr) (cl : List (Str × Addr)) (fp : List Addr), PE (X.blk s H scope (compEnvC scope cl C X.env) fp) elt (tE g WF te)) (hs : ∀ x, foldedSetIterable iter X.env x = pure x := by intro _; rfl) :
    PE X (.ListComp elt [⟨tg, iter, ifs, 0⟩] scope pos) (tOw g W (uLcL ue G' tt te (own.map (·.2)))) :=
  peImp (pe_lc hc hN (pi_list hi) ok hg ht he hs) fun σ H Q h => tLcL_of h
/-! ### list(x), x a shared list or a value -/
@[simp] def uFnOX (f : List D → Option (List D)) (u : UA) : UW := fun ρ ω => (u ρ ω).bind fun xs ρ ω => liftO (f (xs.map (see ω))) ρ ω
theorem pu_listX (hK : X.K = g.K) (hm : X.mg "list" = none) (ha : PA X [e] (tA g W us)) (hg : Gl X "list" := by rfl) (he : starEach [e] X.env = (false, eval e X.env) :: starEach [] X.env := by rfl) (hpl : (backTo pos (starEach [] X.env)).any (·.1) = false := by rfl) :
    PE X (.Call (.Name "list" p0) [e] [] pos) (tOw g W (uFnOX fList us)) :=
  peImp (pe_callTy call_list_of hg hm (by decide +kernel) ha (by decide) (by decide) he hpl) fun σ H Q ⟨R, ρ, om, al, S, P⟩ =>
    tR_bindO S P fun ds ρ1 om1 vs H1 al1 s1 S1 r1 P1 => by
      have r2 := see_reps S1 r1
      generalize ds.map (see om1) = ds' at P1 r2
      unfold fList at P1
      split at P1
      · obtain ⟨v, rfl, h⟩ := r2.one
        obtain ⟨a, vs, rfl, h1, h2⟩ := h.lst
        exact ⟨a, vs, rfl, .inl (SqL.of h1), fun l hl => okOwn S1 P1 hl h2⟩
      · obtain ⟨v, rfl, h⟩ := r2.one
        obtain ⟨a, vs, rfl, h1, h2⟩ := h.frz
        exact ⟨a, vs, rfl, .inl (by rw [hK]; exact h1.sq), fun l hl => okOwn S1 P1 hl h2⟩
      · obtain ⟨v, rfl, h⟩ := r2.one
        obtain ⟨a, vs, rfl, h1, h2⟩ := h.tup
        exact ⟨a, vs, rfl, .inr (by rw [hK]; exact h1), fun l hl => okOwn S1 P1 hl h2⟩
      · exact P1.elim
end
end Dv

namespace Dv
open PySem PySem.Spec PyProof.Rows L2
section
variable {P : Program} {w : World} {K : PySem.W.Frag} {mg : Str → Option Value} {base : Heap} {cls : Str → Addr}
def top (i : Nat) : Stmt := PySem.Challenge.pw_reels_k14_moved_keep_the_rule.main.body.getD i (.Pass ⟨0, 0, 0, 0⟩)
def knl_TooTight : List (Str × Bool) := [("TooTight", true)]
def knl_ValueError : List (Str × Bool) := [("TooTight", true)]
def knl_ReelError : List (Str × Bool) := [("TooTight", true)]
/-! made -/
abbrev t_made : Stmt := top 5
theorem sc_made : FnScope ["top", "bottom", "one", "two", "rest"] ["top", "bottom"] (defScope t_made) := ⟨rfl, rfl, rfl, by decide +kernel, rfl, by decide +kernel, by decide +kernel⟩
def u_made : US :=
    (sSeq (sAsg 2 (uFn fAbs (uCons (uVar 0) uNil)))
    (sSeq (sAsg 3 (uFn fAbs (uCons (uVar 1) uNil)))
    (sSeq (sWhile (fuelI 3) (uB (uBin dGt (uVar 3) (uC (.int 0)))) (sSeq (sAsg 4 (uBin dMod (uVar 2) (uVar 3)))
    (sSeq (sAsg 2 (uVar 3))
    (sAsg 3 (uVar 4)))))
    (sSeq (sIf (uB (uBin dLt (uVar 1) (uC (.int 0)))) (sAsg 2 (uUn dNeg (uVar 2))) sNext)
    (sRet (uTup (uCons (uBin dDiv (uVar 0) (uVar 2)) (uCons (uBin dDiv (uVar 1) (uVar 2)) uNil))))))))
def S_made : FN := defU 5 u_made
theorem ok_made (m_abs : mg "abs" = none) {f : Addr} {fd : FuncData} (F : Fun K "made" "made" t_made f fd) :
    FnOk P w K mg base (L2.CX P w) 1 f fd ["top", "bottom"] (spU (gK K cls) 2 S_made) := by
  refine fnU (N := ["top", "bottom", "one", "two", "rest"]) F sc_made (by decide) fun cdv A outer s H E hr tk => ?_
  exact (pss_consU (ps_asgU 2 sc_made.nd (pu_fn call_abs s_abs m_abs boot_abs (pa_consU (pu_var 0) pa_nilU)))
    (pss_consU (ps_asgU 3 sc_made.nd (pu_fn call_abs s_abs m_abs boot_abs (pa_consU (pu_var 1) pa_nilU)))
    (pss_consU (ps_whileU (fuelI 3) (passes_of rfl) (pt_cmpU op_gt s_gt (pu_var 3) pu_int (nomark _)) (pss_consU (ps_asgU 4 sc_made.nd (pu_bin op_modN s_mod (pu_var 2) (pu_var 3)))
    (pss_consU (ps_asgU 2 sc_made.nd (pu_var 3))
    (pss_oneU (ps_asgU 3 sc_made.nd (pu_var 4))))))
    (pss_consU (ps_ifU (pt_cmpU op_lt s_lt (pu_var 1) pu_int (nomark _)) (pss_oneU (ps_asgU 2 sc_made.nd (pu_un un_neg s_neg (pu_var 2)))) pss_nilU)
    (pss_oneU (ps_retU (pu_tup (pa_consU (pu_bin op_fdivU s_div (pu_var 0) (pu_var 2)) (pa_consU (pu_bin op_fdivU s_div (pu_var 1) (pu_var 2)) pa_nilU)))))))))
/-! added -/
abbrev t_added : Stmt := top 6
theorem sc_added : FnScope ["one", "two"] ["one", "two"] (defScope t_added) := ⟨rfl, rfl, rfl, by decide +kernel, rfl, by decide +kernel, by decide +kernel⟩
def u_added : US :=
    (sRet (uCall 2 S_made (uCons (uBin dAdd (uBin dMul (uBin dIx (uVar 0) (uC (.int 0))) (uBin dIx (uVar 1) (uC (.int 1)))) (uBin dMul (uBin dIx (uVar 1) (uC (.int 0))) (uBin dIx (uVar 0) (uC (.int 1))))) (uCons (uBin dMul (uBin dIx (uVar 0) (uC (.int 1))) (uBin dIx (uVar 1) (uC (.int 1)))) uNil))))
def S_added : FN := defU 2 u_added
theorem ok_added (h_made : Has P w K mg base "made" ["top", "bottom"] 1 (spU (gK K cls) 2 S_made)) {f : Addr} {fd : FuncData} (F : Fun K "added" "added" t_added f fd) :
    FnOk P w K mg base (L2.CX P w) 2 f fd ["one", "two"] (spU (gK K cls) 2 S_added) := by
  refine fnU (N := ["one", "two"]) F sc_added (by decide) fun cdv A outer s H E hr tk => ?_
  exact (pss_oneU (ps_retU (pu_call h_made (hr.mono (by decide)) tk (pa_consU (pu_bin op_addU s_add (pu_bin op_mulU s_mul (pu_ix ix_seq s_ix (pu_var 0) pu_int) (pu_ix ix_seq s_ix (pu_var 1) pu_int)) (pu_bin op_mulU s_mul (pu_ix ix_seq s_ix (pu_var 1) pu_int) (pu_ix ix_seq s_ix (pu_var 0) pu_int))) (pa_consU (pu_bin op_mulU s_mul (pu_ix ix_seq s_ix (pu_var 0) pu_int) (pu_ix ix_seq s_ix (pu_var 1) pu_int)) pa_nilU)))))
/-! less -/
abbrev t_less : Stmt := top 7
theorem sc_less : FnScope ["one", "two"] ["one", "two"] (defScope t_less) := ⟨rfl, rfl, rfl, by decide +kernel, rfl, by decide +kernel, by decide +kernel⟩
def u_less : US :=
    (sRet (uCall 2 S_made (uCons (uBin dSub (uBin dMul (uBin dIx (uVar 0) (uC (.int 0))) (uBin dIx (uVar 1) (uC (.int 1)))) (uBin dMul (uBin dIx (uVar 1) (uC (.int 0))) (uBin dIx (uVar 0) (uC (.int 1))))) (uCons (uBin dMul (uBin dIx (uVar 0) (uC (.int 1))) (uBin dIx (uVar 1) (uC (.int 1)))) uNil))))
def S_less : FN := defU 2 u_less
theorem ok_less (h_made : Has P w K mg base "made" ["top", "bottom"] 1 (spU (gK K cls) 2 S_made)) {f : Addr} {fd : FuncData} (F : Fun K "less" "less" t_less f fd) :
    FnOk P w K mg base (L2.CX P w) 2 f fd ["one", "two"] (spU (gK K cls) 2 S_less) := by
  refine fnU (N := ["one", "two"]) F sc_less (by decide) fun cdv A outer s H E hr tk => ?_
  exact (pss_oneU (ps_retU (pu_call h_made (hr.mono (by decide)) tk (pa_consU (pu_bin op_sub s_sub (pu_bin op_mulU s_mul (pu_ix ix_seq s_ix (pu_var 0) pu_int) (pu_ix ix_seq s_ix (pu_var 1) pu_int)) (pu_bin op_mulU s_mul (pu_ix ix_seq s_ix (pu_var 1) pu_int) (pu_ix ix_seq s_ix (pu_var 0) pu_int))) (pa_consU (pu_bin op_mulU s_mul (pu_ix ix_seq s_ix (pu_var 0) pu_int) (pu_ix ix_seq s_ix (pu_var 1) pu_int)) pa_nilU)))))
/-! timed -/
abbrev t_timed : Stmt := top 8
theorem sc_timed : FnScope ["one", "two"] ["one", "two"] (defScope t_timed) := ⟨rfl, rfl, rfl, by decide +kernel, rfl, by decide +kernel, by decide +kernel⟩
def u_timed : US :=
    (sRet (uCall 2 S_made (uCons (uBin dMul (uBin dIx (uVar 0) (uC (.int 0))) (uBin dIx (uVar 1) (uC (.int 0)))) (uCons (uBin dMul (uBin dIx (uVar 0) (uC (.int 1))) (uBin dIx (uVar 1) (uC (.int 1)))) uNil))))
def S_timed : FN := defU 2 u_timed
theorem ok_timed (h_made : Has P w K mg base "made" ["top", "bottom"] 1 (spU (gK K cls) 2 S_made)) {f : Addr} {fd : FuncData} (F : Fun K "timed" "timed" t_timed f fd) :
    FnOk P w K mg base (L2.CX P w) 2 f fd ["one", "two"] (spU (gK K cls) 2 S_timed) := by
  refine fnU (N := ["one", "two"]) F sc_timed (by decide) fun cdv A outer s H E hr tk => ?_
  exact (pss_oneU (ps_retU (pu_call h_made (hr.mono (by decide)) tk (pa_consU (pu_bin op_mulU s_mul (pu_ix ix_seq s_ix (pu_var 0) pu_int) (pu_ix ix_seq s_ix (pu_var 1) pu_int)) (pa_consU (pu_bin op_mulU s_mul (pu_ix ix_seq s_ix (pu_var 0) pu_int) (pu_ix ix_seq s_ix (pu_var 1) pu_int)) pa_nilU)))))
/-! is_below -/
abbrev t_is_below : Stmt := top 9
theorem sc_is_below : FnScope ["one", "two"] ["one", "two"] (defScope t_is_below) := ⟨rfl, rfl, rfl, by decide +kernel, rfl, by decide +kernel, by decide +kernel⟩
def u_is_below : US :=
    (sRet (uBin dLt (uBin dMul (uBin dIx (uVar 0) (uC (.int 0))) (uBin dIx (uVar 1) (uC (.int 1)))) (uBin dMul (uBin dIx (uVar 1) (uC (.int 0))) (uBin dIx (uVar 0) (uC (.int 1))))))
def S_is_below : FN := defU 2 u_is_below
theorem ok_is_below {f : Addr} {fd : FuncData} (F : Fun K "is_below" "is_below" t_is_below f fd) :
    FnOk P w K mg base (L2.CX P w) 1 f fd ["one", "two"] (spU (gK K cls) 2 S_is_below) := by
  refine fnU (N := ["one", "two"]) F sc_is_below (by decide) fun cdv A outer s H E hr tk => ?_
  exact (pss_oneU (ps_retU (pu_cmp op_lt s_lt (pu_bin op_mulU s_mul (pu_ix ix_seq s_ix (pu_var 0) pu_int) (pu_ix ix_seq s_ix (pu_var 1) pu_int)) (pu_bin op_mulU s_mul (pu_ix ix_seq s_ix (pu_var 1) pu_int) (pu_ix ix_seq s_ix (pu_var 0) pu_int)) (nomark _))))
/-! lesser -/
abbrev t_lesser : Stmt := top 10
theorem sc_lesser : FnScope ["one", "two"] ["one", "two"] (defScope t_lesser) := ⟨rfl, rfl, rfl, by decide +kernel, rfl, by decide +kernel, by decide +kernel⟩
def u_lesser : US :=
    (sRet (uIf (uB (uCall 2 S_is_below (uCons (uVar 1) (uCons (uVar 0) uNil)))) (uVar 1) (uVar 0)))
def S_lesser : FN := defU 2 u_lesser
theorem ok_lesser (h_is_below : Has P w K mg base "is_below" ["one", "two"] 1 (spU (gK K cls) 2 S_is_below)) {f : Addr} {fd : FuncData} (F : Fun K "lesser" "lesser" t_lesser f fd) :
    FnOk P w K mg base (L2.CX P w) 2 f fd ["one", "two"] (spU (gK K cls) 2 S_lesser) := by
  refine fnU (N := ["one", "two"]) F sc_lesser (by decide) fun cdv A outer s H E hr tk => ?_
  exact (pss_oneU (ps_retU (pu_if (pt_of (pu_call h_is_below (hr.mono (by decide)) tk (pa_consU (pu_var 1) (pa_consU (pu_var 0) pa_nilU)))) (pu_var 1) (pu_var 0))))
/-! greater -/
abbrev t_greater : Stmt := top 11
theorem sc_greater : FnScope ["one", "two"] ["one", "two"] (defScope t_greater) := ⟨rfl, rfl, rfl, by decide +kernel, rfl, by decide +kernel, by decide +kernel⟩
def u_greater : US :=
    (sRet (uIf (uB (uCall 2 S_is_below (uCons (uVar 0) (uCons (uVar 1) uNil)))) (uVar 1) (uVar 0)))
def S_greater : FN := defU 2 u_greater
theorem ok_greater (h_is_below : Has P w K mg base "is_below" ["one", "two"] 1 (spU (gK K cls) 2 S_is_below)) {f : Addr} {fd : FuncData} (F : Fun K "greater" "greater" t_greater f fd) :
    FnOk P w K mg base (L2.CX P w) 2 f fd ["one", "two"] (spU (gK K cls) 2 S_greater) := by
  refine fnU (N := ["one", "two"]) F sc_greater (by decide) fun cdv A outer s H E hr tk => ?_
  exact (pss_oneU (ps_retU (pu_if (pt_of (pu_call h_is_below (hr.mono (by decide)) tk (pa_consU (pu_var 0) (pa_consU (pu_var 1) pa_nilU)))) (pu_var 1) (pu_var 0))))
/-! summed -/
abbrev t_summed : Stmt := top 12
theorem sc_summed : FnScope ["some", "whole", "one"] ["some"] (defScope t_summed) := ⟨rfl, rfl, rfl, by decide +kernel, rfl, by decide +kernel, by decide +kernel⟩
def u_summed : US :=
    (sSeq (sAsg 1 (uC (.tup [.int 0, .int 1])))
    (sSeq (sFor (iLst (uVar 0)) (gN 2) (sAsg 1 (uCall 2 S_added (uCons (uVar 1) (uCons (uVar 2) uNil)))))
    (sRet (uVar 1))))
def S_summed : FN := defU 3 u_summed
theorem ok_summed (k_NONE : ConstOk K mg "NONE" (.tup [.int 0, .int 1])) (h_added : Has P w K mg base "added" ["one", "two"] 2 (spU (gK K cls) 2 S_added)) {f : Addr} {fd : FuncData} (F : Fun K "summed" "summed" t_summed f fd) :
    FnOk P w K mg base (L2.CX P w) 3 f fd ["some"] (spU (gK K cls) 1 S_summed) := by
  refine fnU (N := ["some", "whole", "one"]) F sc_summed (by decide) fun cdv A outer s H E hr tk => ?_
  exact (pss_consU (ps_asgU 1 sc_summed.nd (pu_globC rfl k_NONE))
    (pss_consU (ps_forU (passes_of rfl) rfl (pi_listU rfl (pu_var 0)) (pg_nameU 2 sc_summed.nd) (pss_oneU (ps_asgU 1 sc_summed.nd (pu_call h_added (hr.mono (by decide)) tk (pa_consU (pu_var 1) (pa_consU (pu_var 2) pa_nilU))))))
    (pss_oneU (ps_retU (pu_var 1)))))
/-! letters -/
abbrev t_letters : Stmt := top 14
theorem sc_letters : FnScope ["words", "word"] ["words"] (defScope t_letters) := ⟨rfl, rfl, rfl, by decide +kernel, rfl, by decide +kernel, by decide +kernel⟩
def u_letters : US :=
    (sRet (uFn fSum (uCons (uFz (uLc (iLst (uVar 0)) (gN 1) uYes (uFn fLen (uCons (uVar 1) uNil)) [1])) uNil)))
def S_letters : FN := defU 2 u_letters
theorem ok_letters (m_sum : mg "sum" = none) (m_len : mg "len" = none) {f : Addr} {fd : FuncData} (F : Fun K "letters" "letters" t_letters f fd) :
    FnOk P w K mg base (L2.CX P w) 1 f fd ["words"] (spU (gK K cls) 1 S_letters) := by
  refine fnU (N := ["words", "word"]) F sc_letters (by decide) fun cdv A outer s H E hr tk => ?_
  exact (pss_oneU (ps_retU (pu_fn (cr_sum rfl) s_sum m_sum (by decide +kernel) (pa_consU (pu_fz (by exact (pu_lc [("word", 1)] rfl sc_letters.nd (pi_listU rfl (pu_var 0)) (blkOk_by (N := ["words", "word"]) (sc := defScope t_letters) (by decide +kernel)) (fun _ _ _ _ _ => (pg_nameC 1 sc_letters.nd)) (fun _ _ _ _ _ => pts_nilU) (fun _ _ _ _ _ => (pu_fn call_lenU s_len m_len PySem.boot_len (pa_consU (pu_var 1) pa_nilU)))))) pa_nilU))))
/-! distances -/
abbrev t_distances : Stmt := top 15
theorem sc_distances : FnScope ["rows", "rule", "found", "k"] ["rows", "rule"] (defScope t_distances) := ⟨rfl, rfl, rfl, by decide +kernel, rfl, by decide +kernel, by decide +kernel⟩
def u_distances : US :=
    (sSeq (sAsgO 2 (uLstO uNil))
    (sSeq (sFor (iFn fRng1 (uCons (uFn fLen (uCons (uVar 0) uNil)) uNil)) (gN 3) (sSeq (sIf (uB (uBin dGt (uVar 3) (uC (.int 0)))) (sExpr (uMeO 2 mAppend (uCons (uBin dIx (uVar 1) (uC (.int 1))) uNil))) sNext)
    (sExpr (uMeO 2 mAppend (uCons (uCall 2 S_greater (uCons (uCall 2 S_timed (uCons (uTup (uCons (uCall 1 S_letters (uCons (uBin dIx (uBin dIx (uVar 0) (uVar 3)) (uC (.int 3))) uNil)) (uCons (uC (.int 1)) uNil))) (uCons (uBin dIx (uVar 1) (uC (.int 0))) uNil))) (uCons (uBin dIx (uVar 1) (uC (.int 2))) uNil))) uNil)))))
    (sRetO (uMv 2))))
def S_distances : FN := defO 4 u_distances
theorem ok_distances (m_range : mg "range" = none) (m_len : mg "len" = none) (h_letters : Has P w K mg base "letters" ["words"] 1 (spU (gK K cls) 1 S_letters)) (h_timed : Has P w K mg base "timed" ["one", "two"] 2 (spU (gK K cls) 2 S_timed)) (h_greater : Has P w K mg base "greater" ["one", "two"] 2 (spU (gK K cls) 2 S_greater)) {f : Addr} {fd : FuncData} (F : Fun K "distances" "distances" t_distances f fd) :
    FnOk P w K mg base (L2.CX P w) 3 f fd ["rows", "rule"] (spO (gK K cls) 2 S_distances) := by
  refine fnO (N := ["rows", "rule", "found", "k"]) F sc_distances (by decide) fun cdv A outer s H E hr tk => ?_
  exact (pss_consU (ps_asgO 2 sc_distances.nd (pu_lstO pa_nilU))
    (pss_consU (ps_forU (passes_of rfl) rfl (pi_rng1 m_range (pa_consU (pu_fn call_lenU s_len m_len PySem.boot_len (pa_consU (pu_var 0) pa_nilU)) pa_nilU)) (pg_nameU 3 sc_distances.nd) (pss_consU (ps_ifU (pt_cmpU op_gt s_gt (pu_var 3) pu_int (nomark _)) (pss_oneU (ps_exprU (pu_meO 2 PySem.F.slot_list_append PySem.F.type_list_append mt_append u_append (pe_slot 2) (pa_consU (pu_ix ix_seq s_ix (pu_var 1) pu_int) pa_nilU)))) pss_nilU)
    (pss_oneU (ps_exprU (pu_meO 2 PySem.F.slot_list_append PySem.F.type_list_append mt_append u_append (pe_slot 2) (pa_consU (pu_call h_greater (hr.mono (by decide)) tk (pa_consU (pu_call h_timed (hr.mono (by decide)) tk (pa_consU (pu_tup (pa_consU (pu_call h_letters (hr.mono (by decide)) tk (pa_consU (pu_ix ix_seq s_ix (pu_ix ix_seq s_ix (pu_var 0) (pu_var 3)) pu_int) pa_nilU)) (pa_consU pu_int pa_nilU))) (pa_consU (pu_ix ix_seq s_ix (pu_var 1) pu_int) pa_nilU))) (pa_consU (pu_ix ix_seq s_ix (pu_var 1) pu_int) pa_nilU))) pa_nilU))))))
    (pss_oneU (ps_retO (pu_mv 2)))))
/-! Pool.__init__ -/
abbrev t_Pool_init : Stmt := inClass (top 16) 0
theorem sc_Pool_init : FnScope ["self", "wants"] ["self", "wants"] (defScope t_Pool_init) := ⟨rfl, rfl, rfl, by decide +kernel, rfl, by decide +kernel, by decide +kernel⟩
def u_Pool_init : US :=
    (sFldU "Pool" "wants" (uVar 0) (uVar 1))
def S_Pool_init : FN := defU 2 u_Pool_init
theorem ok_Pool_init (c_Pool : Cls K (cls "Pool")) (n_Pool_wants : NoAttr K (cls "Pool") "wants") {f : Addr} {fd : FuncData} (F : Fun K "__init__" "Pool.__init__" t_Pool_init f fd) :
    FnOk P w K mg base (L2.CX P w) 1 f fd ["self", "wants"] (spU (gK K cls) 2 S_Pool_init) := by
  refine fnU (N := ["self", "wants"]) F sc_Pool_init (by decide) fun cdv A outer s H E hr tk => ?_
  exact (pss_oneU (ps_fldU (g := gK K cls) "Pool" "wants" c_Pool n_Pool_wants (pu_var 0) (pu_var 1)))
/-! Pool.level -/
abbrev t_Pool_level : Stmt := inClass (top 16) 1
theorem sc_Pool_level : FnScope ["self", "done", "want", "whole", "many", "place"] ["self"] (defScope t_Pool_level) := ⟨rfl, rfl, rfl, by decide +kernel, rfl, by decide +kernel, by decide +kernel⟩
def u_Pool_level : US :=
    (sSeq (sAsg 1 (uLst uNil))
    (sSeq (sFor (iLst (uFld "Pool" "wants" (uVar 0))) (gN 2) (sSeq (sAsg 5 (uFn fLen (uCons (uVar 1) uNil)))
    (sSeq (sWhile (fuelI 5) (uAnd (uB (uBin dGt (uVar 5) (uC (.int 0)))) (uB (uCall 2 S_is_below (uCons (uBin dIx (uVar 2) (uC (.int 0))) (uCons (uBin dIx (uBin dIx (uVar 1) (uBin dSub (uVar 5) (uC (.int 1)))) (uC (.int 0))) uNil))))) (sAsg 5 (uBin dSub (uVar 5) (uC (.int 1)))))
    (sAsg 1 (uBin dAdd (uBin dAdd (uFz (uSlW (uVar 1) uNoPart (uPart (uVar 5)))) (uLst (uCons (uVar 2) uNil))) (uFz (uSlW (uVar 1) (uPart (uVar 5)) uNoPart)))))))
    (sSeq (sAsg 3 (uFn fSum (uCons (uFz (uLc (iLst (uVar 1)) (gN 2) uYes (uBin dIx (uVar 2) (uC (.int 1))) [2])) uNil)))
    (sSeq (sAsg 4 (uC (.int 0)))
    (sSeq (sFor (iLst (uVar 1)) (gN 2) (sSeq (sAsg 4 (uBin dAdd (uVar 4) (uBin dIx (uVar 2) (uC (.int 1)))))
    (sIf (uB (uBin dGe (uBin dMul (uC (.int 2)) (uVar 4)) (uVar 3))) (sRet (uBin dIx (uVar 2) (uC (.int 0)))) sNext)))
    (sRet (uC (.tup [.int 0, .int 1]))))))))
def S_Pool_level : FN := defU 6 u_Pool_level
theorem ok_Pool_level (m_len : mg "len" = none) (m_sum : mg "sum" = none) (c_Pool : Cls K (cls "Pool")) (n_Pool_wants : NoAttr K (cls "Pool") "wants") (k_NONE : ConstOk K mg "NONE" (.tup [.int 0, .int 1])) (h_is_below : Has P w K mg base "is_below" ["one", "two"] 1 (spU (gK K cls) 2 S_is_below)) {f : Addr} {fd : FuncData} (F : Fun K "level" "Pool.level" t_Pool_level f fd) :
    FnOk P w K mg base (L2.CX P w) 2 f fd ["self"] (spU (gK K cls) 1 S_Pool_level) := by
  refine fnU (N := ["self", "done", "want", "whole", "many", "place"]) F sc_Pool_level (by decide) fun cdv A outer s H E hr tk => ?_
  exact (pss_consU (ps_asgU 1 sc_Pool_level.nd (pu_lst pa_nilU))
    (pss_consU (ps_forU (passes_of rfl) rfl (pi_listU rfl (pu_fld (g := gK K cls) "Pool" "wants" c_Pool n_Pool_wants (pu_var 0))) (pg_nameU 2 sc_Pool_level.nd) (pss_consU (ps_asgU 5 sc_Pool_level.nd (pu_fn call_lenU s_len m_len PySem.boot_len (pa_consU (pu_var 1) pa_nilU)))
    (pss_consU (ps_whileU (fuelI 5) (passes_of rfl) (PW.pt (pw_andU (pt_cmpU op_gt s_gt (pu_var 5) pu_int (nomark _)) (pw_and1U (pt_of (pu_call h_is_below (hr.mono (by decide)) tk (pa_consU (pu_ix ix_seq s_ix (pu_var 2) pu_int) (pa_consU (pu_ix ix_seq s_ix (pu_ix ix_seq s_ix (pu_var 1) (pu_bin op_sub s_sub (pu_var 5) pu_int)) pu_int) pa_nilU))))))) (pss_oneU (ps_asgU 5 sc_Pool_level.nd (pu_bin op_sub s_sub (pu_var 5) pu_int))))
    (pss_oneU (ps_asgU 1 sc_Pool_level.nd (pu_bin op_addU s_add (pu_bin op_addU s_add (pu_fz (pu_slW rfl (pu_var 1) po_noneU (po_someU (pu_var 5)))) (pu_lst (pa_consU (pu_var 2) pa_nilU))) (pu_fz (pu_slW rfl (pu_var 1) (po_someU (pu_var 5)) po_noneU))))))))
    (pss_consU (ps_asgU 3 sc_Pool_level.nd (pu_fn (cr_sum rfl) s_sum m_sum (by decide +kernel) (pa_consU (pu_fz (by exact (pu_lc [("want", 2)] rfl sc_Pool_level.nd (pi_listU rfl (pu_var 1)) (blkOk_by (N := ["self", "done", "want", "whole", "many", "place"]) (sc := defScope t_Pool_level) (by decide +kernel)) (fun _ _ _ _ _ => (pg_nameC 2 sc_Pool_level.nd)) (fun _ _ _ _ _ => pts_nilU) (fun _ _ _ _ _ => (pu_ix ix_seq s_ix (pu_var 2) pu_int))))) pa_nilU)))
    (pss_consU (ps_asgU 4 sc_Pool_level.nd pu_int)
    (pss_consU (ps_forU (passes_of rfl) rfl (pi_listU rfl (pu_var 1)) (pg_nameU 2 sc_Pool_level.nd) (pss_consU (ps_asgU 4 sc_Pool_level.nd (pu_bin op_addU s_add (pu_var 4) (pu_ix ix_seq s_ix (pu_var 2) pu_int)))
    (pss_oneU (ps_ifU (pt_cmpU op_ge s_ge (pu_bin op_mulU s_mul pu_int (pu_var 4)) (pu_var 3) (nomark _)) (pss_oneU (ps_retU (pu_ix ix_seq s_ix (pu_var 2) pu_int))) pss_nilU))))
    (pss_oneU (ps_retU (pu_globC rfl k_NONE))))))))
/-! levels -/
abbrev t_levels : Stmt := top 17
theorem sc_levels : FnScope ["wants", "pools", "want", "found", "pool"] ["wants"] (defScope t_levels) := ⟨rfl, rfl, rfl, by decide +kernel, rfl, by decide +kernel, by decide +kernel⟩
def u_levels : US :=
    (sSeq (sAsgO 1 (uLstO uNil))
    (sSeq (sForL (uVar 0) (gN 2) (sSeq (sAsg 4 (uMake "Pool" 2 S_Pool_init (uCons (uLst (uCons (uVar 2) uNil)) uNil)))
    (sSeq (sWhile (fuelL 1) (uAnd (uB (uBinV dNe 1 (uLst uNil))) (uB (uCall 2 S_is_below (uCons (uMeth "Pool" "level" 1 S_Pool_level (uVar 4) uNil) (uCons (uMeth "Pool" "level" 1 S_Pool_level (uBinV dIx 1 (uUn dNeg (uC (.int 1)))) uNil) uNil))))) (sAsg 4 (uMake "Pool" 2 S_Pool_init (uCons (uBin dAdd (uFld "Pool" "wants" (uMeO 1 mPop uNil)) (uFld "Pool" "wants" (uVar 4))) uNil))))
    (sExpr (uMeO 1 mAppend (uCons (uVar 4) uNil))))))
    (sSeq (sAsgO 3 (uLstO uNil))
    (sSeq (sFor (iLst (uFz (uMv 1))) (gN 4) (sExpr (uMeO 3 mExtend (uCons (uFz (uLc (iLst (uFld "Pool" "wants" (uVar 4))) (gN 2) uYes (uMethN "Pool" "level" 1 S_Pool_level (uVar 4)) [2])) uNil))))
    (sRetO (uMv 3))))))
def S_levels : FN := defO 5 u_levels
theorem ok_levels (c_Pool : Cls K (cls "Pool")) (n_Pool_wants : NoAttr K (cls "Pool") "wants") (h_Pool_init : HasI P w K mg base (cls "Pool") "Pool" ["self", "wants"] 1 (spU (gK K cls) 2 S_Pool_init)) (h_Pool_level : HasM P w K mg base (cls "Pool") "level" ["self"] 2 (spU (gK K cls) 1 S_Pool_level)) (h_is_below : Has P w K mg base "is_below" ["one", "two"] 1 (spU (gK K cls) 2 S_is_below)) {f : Addr} {fd : FuncData} (F : Fun K "levels" "levels" t_levels f fd) :
    FnOk P w K mg base (L2.CX P w) 3 f fd ["wants"] (spO (gK K cls) 1 S_levels) := by
  refine fnO (N := ["wants", "pools", "want", "found", "pool"]) F sc_levels (by decide) fun cdv A outer s H E hr tk => ?_
  exact (pss_consU (ps_asgO 1 sc_levels.nd (pu_lstO pa_nilU))
    (pss_consU (ps_forL (passes_of rfl) rfl rfl (pu_var 0) (pg_nameU 2 sc_levels.nd) (pss_consU (ps_asgU 4 sc_levels.nd (pu_makeI (g := gK K cls) h_Pool_init (hr.mono (by decide)) (pa_consU (pu_lst (pa_consU (pu_var 2) pa_nilU)) pa_nilU)))
    (pss_consU (ps_whileU (fuelL 1) (passes_of rfl) (PW.pt (pw_andU (pt_cmpV 1 (op_neU hr.units) s_ne (pe_slot 1) (pu_lst pa_nilU) (nomark _)) (pw_and1U (pt_of (pu_call h_is_below (hr.mono (by decide)) tk (pa_consU (pu_mth0 (g := gK K cls) h_Pool_level c_Pool (hr.mono (by decide)) tk (pu_var 4)) (pa_consU (pu_mth0 (g := gK K cls) h_Pool_level c_Pool (hr.mono (by decide)) tk (pu_ixV 1 ix_seq s_ix (pe_slot 1) (pu_un un_neg s_neg pu_int))) pa_nilU))))))) (pss_oneU (ps_asgU 4 sc_levels.nd (pu_makeI (g := gK K cls) h_Pool_init (hr.mono (by decide)) (pa_consU (pu_bin op_addU s_add (pu_fld (g := gK K cls) "Pool" "wants" c_Pool n_Pool_wants (pu_meO0 1 PySem.F.slot_list_pop PySem.F.type_list_pop mt_pop u_pop (pe_slot 1))) (pu_fld (g := gK K cls) "Pool" "wants" c_Pool n_Pool_wants (pu_var 4))) pa_nilU)))))
    (pss_oneU (ps_exprU (pu_meO 1 PySem.F.slot_list_append PySem.F.type_list_append mt_append u_append (pe_slot 1) (pa_consU (pu_var 4) pa_nilU)))))))
    (pss_consU (ps_asgO 3 sc_levels.nd (pu_lstO pa_nilU))
    (pss_consU (ps_forU (passes_of rfl) rfl (pi_listU rfl (pu_fz (pu_mv 1))) (pg_nameU 4 sc_levels.nd) (pss_oneU (ps_exprU (pu_meO 3 PySem.F.slot_list_extend PySem.F.type_list_extend mt_extend u_extend (pe_slot 3) (pa_consU (pu_fz (by exact (pu_lc [("want", 2)] rfl sc_levels.nd (pi_listU rfl (pu_fld (g := gK K cls) "Pool" "wants" c_Pool n_Pool_wants (pu_var 4))) (blkOk_by (N := ["wants", "pools", "want", "found", "pool"]) (sc := defScope t_levels) (by decide +kernel)) (fun _ _ _ _ _ => (pg_nameC 2 sc_levels.nd)) (fun _ _ _ _ _ => pts_nilU) (fun _ _ _ _ _ => (pu_mth0N (g := gK K cls) h_Pool_level c_Pool (hr.mono (by decide)) (pu_var 4)))))) pa_nilU)))))
    (pss_oneU (ps_retO (pu_mv 3)))))))
/-! reach -/
abbrev t_reach : Stmt := top 18
theorem sc_reach : FnScope ["spans", "tight", "free", "least", "most"] ["spans", "tight", "free"] (defScope t_reach) := ⟨rfl, rfl, rfl, by decide +kernel, rfl, by decide +kernel, by decide +kernel⟩
def u_reach : US :=
    (sSeq (sAsg 3 (uBin dSub (uBin dIx (uVar 0) (uC (.int 0))) (uBin dIx (uVar 2) (uC (.int 1)))))
    (sSeq (sAsg 4 (uC .non))
    (sSeq (sIf (uB (uBin dIsNot (uBin dIx (uVar 0) (uC (.int 1))) (uC .non))) (sAsg 4 (uBin dSub (uBin dIx (uVar 0) (uC (.int 1))) (uBin dIx (uVar 2) (uC (.int 0))))) sNext)
    (sSeq (sIf (uNot (uB (uVar 1))) (sSeq (sIf (uOr (uB (uBin dGt (uVar 3) (uC (.int 0)))) (uAnd (uB (uBin dIsNot (uVar 4) (uC .non))) (uB (uBin dLt (uVar 4) (uC (.int 0)))))) (sRet (uC .non)) sNext)
    (sRet (uTup (uCons (uC (.int 0)) (uCons (uC (.int 0)) uNil))))) sNext)
    (sSeq (sIf (uAnd (uB (uBin dIsNot (uVar 4) (uC .non))) (uB (uBin dLt (uVar 4) (uC (.int 0))))) (sRet (uC .non)) sNext)
    (sRet (uTup (uCons (uFn fMax2 (uCons (uC (.int 0)) (uCons (uVar 3) uNil))) (uCons (uVar 4) uNil)))))))))
def S_reach : FN := defU 5 u_reach
theorem ok_reach (m_max : mg "max" = none) {f : Addr} {fd : FuncData} (F : Fun K "reach" "reach" t_reach f fd) :
    FnOk P w K mg base (L2.CX P w) 1 f fd ["spans", "tight", "free"] (spU (gK K cls) 3 S_reach) := by
  refine fnU (N := ["spans", "tight", "free", "least", "most"]) F sc_reach (by decide) fun cdv A outer s H E hr tk => ?_
  exact (pss_consU (ps_asgU 3 sc_reach.nd (pu_bin op_sub s_sub (pu_ix ix_seq s_ix (pu_var 0) pu_int) (pu_ix ix_seq s_ix (pu_var 2) pu_int)))
    (pss_consU (ps_asgU 4 sc_reach.nd pu_non)
    (pss_consU (ps_ifU (pt_cmpU op_notN s_isnot (pu_ix ix_seq s_ix (pu_var 0) pu_int) pu_non (nomark _)) (pss_oneU (ps_asgU 4 sc_reach.nd (pu_bin op_sub s_sub (pu_ix ix_seq s_ix (pu_var 0) pu_int) (pu_ix ix_seq s_ix (pu_var 2) pu_int)))) pss_nilU)
    (pss_consU (ps_ifU (pt_notU (pt_of (pu_var 1))) (pss_consU (ps_ifU (PW.pt (pw_orU (pt_cmpU op_gt s_gt (pu_var 3) pu_int (nomark _)) (pw_or1U (PW.pt (pw_andU (pt_cmpU op_notN s_isnot (pu_var 4) pu_non (nomark _)) (pw_and1U (pt_cmpU op_lt s_lt (pu_var 4) pu_int (nomark _)))))))) (pss_oneU (ps_retU pu_non)) pss_nilU)
    (pss_oneU (ps_retU (pu_tup (pa_consU pu_int (pa_consU pu_int pa_nilU)))))) pss_nilU)
    (pss_consU (ps_ifU (PW.pt (pw_andU (pt_cmpU op_notN s_isnot (pu_var 4) pu_non (nomark _)) (pw_and1U (pt_cmpU op_lt s_lt (pu_var 4) pu_int (nomark _))))) (pss_oneU (ps_retU pu_non)) pss_nilU)
    (pss_oneU (ps_retU (pu_tup (pa_consU (pu_fn (call_max2 rfl) s_max2 m_max (by decide +kernel) (pa_consU pu_int (pa_consU (pu_var 3) pa_nilU))) (pa_consU (pu_var 4) pa_nilU))))))))))
/-! slopes -/
abbrev t_slopes : Stmt := top 19
theorem sc_slopes : FnScope ["want", "level"] ["want", "level"] (defScope t_slopes) := ⟨rfl, rfl, rfl, by decide +kernel, rfl, by decide +kernel, by decide +kernel⟩
def u_slopes : US :=
    (sSeq (sIf (uB (uBin dEq (uBin dIx (uVar 0) (uC (.int 0))) (uVar 1))) (sRet (uTup (uCons (uBin dSub (uC (.int 0)) (uBin dIx (uVar 0) (uC (.int 1)))) (uCons (uBin dIx (uVar 0) (uC (.int 1))) uNil)))) sNext)
    (sSeq (sIf (uB (uCall 2 S_is_below (uCons (uBin dIx (uVar 0) (uC (.int 0))) (uCons (uVar 1) uNil)))) (sRet (uTup (uCons (uBin dIx (uVar 0) (uC (.int 1))) (uCons (uBin dIx (uVar 0) (uC (.int 1))) uNil)))) sNext)
    (sRet (uTup (uCons (uBin dSub (uC (.int 0)) (uBin dIx (uVar 0) (uC (.int 1)))) (uCons (uBin dSub (uC (.int 0)) (uBin dIx (uVar 0) (uC (.int 1)))) uNil))))))
def S_slopes : FN := defU 2 u_slopes
theorem ok_slopes (h_is_below : Has P w K mg base "is_below" ["one", "two"] 1 (spU (gK K cls) 2 S_is_below)) {f : Addr} {fd : FuncData} (F : Fun K "slopes" "slopes" t_slopes f fd) :
    FnOk P w K mg base (L2.CX P w) 2 f fd ["want", "level"] (spU (gK K cls) 2 S_slopes) := by
  refine fnU (N := ["want", "level"]) F sc_slopes (by decide) fun cdv A outer s H E hr tk => ?_
  exact (pss_consU (ps_ifU (pt_cmpU (op_eqU hr.units) s_eq (pu_ix ix_seq s_ix (pu_var 0) pu_int) (pu_var 1) (nomark _)) (pss_oneU (ps_retU (pu_tup (pa_consU (pu_bin op_sub s_sub pu_int (pu_ix ix_seq s_ix (pu_var 0) pu_int)) (pa_consU (pu_ix ix_seq s_ix (pu_var 0) pu_int) pa_nilU))))) pss_nilU)
    (pss_consU (ps_ifU (pt_of (pu_call h_is_below (hr.mono (by decide)) tk (pa_consU (pu_ix ix_seq s_ix (pu_var 0) pu_int) (pa_consU (pu_var 1) pa_nilU)))) (pss_oneU (ps_retU (pu_tup (pa_consU (pu_ix ix_seq s_ix (pu_var 0) pu_int) (pa_consU (pu_ix ix_seq s_ix (pu_var 0) pu_int) pa_nilU))))) pss_nilU)
    (pss_oneU (ps_retU (pu_tup (pa_consU (pu_bin op_sub s_sub pu_int (pu_ix ix_seq s_ix (pu_var 0) pu_int)) (pa_consU (pu_bin op_sub s_sub pu_int (pu_ix ix_seq s_ix (pu_var 0) pu_int)) pa_nilU)))))))
/-! prices -/
abbrev t_prices : Stmt := top 20
theorem sc_prices : FnScope ["wants", "found", "low", "high", "many", "tights", "spans", "k", "told", "free"] ["wants", "found", "low", "high"] (defScope t_prices) := ⟨rfl, rfl, rfl, by decide +kernel, rfl, by decide +kernel, by decide +kernel⟩
def u_prices : US :=
    (sSeq (sAsg 4 (uFnX fLen (uCons (uVar 0) uNil)))
    (sSeq (sAsg 5 (uBin dAdd (uBin dAdd (uLst (uCons (uBin dEq (uBin dIx (uVar 1) (uC (.int 0))) (uVar 2)) uNil)) (uFz (uLc (iFn fRng2 (uCons (uC (.int 1)) (uCons (uVar 4) uNil))) (gN 7) uYes (uBin dEq (uBin dIx (uVar 1) (uBin dSub (uVar 7) (uC (.int 1)))) (uBin dIx (uVar 1) (uVar 7))) [7]))) (uLst (uCons (uBin dEq (uBin dIx (uVar 1) (uUn dNeg (uC (.int 1)))) (uVar 3)) uNil))))
    (sSeq (sAsgO 6 (uLstO (uCons (uIf (uB (uBin dIx (uVar 5) (uC (.int 0)))) (uTup (uCons (uC (.int 0)) (uCons (uC .non) uNil))) (uTup (uCons (uC (.int 0)) (uCons (uC (.int 0)) uNil)))) uNil)))
    (sSeq (sFor (iFn fRng1 (uCons (uVar 4) uNil)) (gN 7) (sExpr (uMeO 6 mAppend (uCons (uCall 3 S_reach (uCons (uBinV dIx 6 (uVar 7)) (uCons (uBin dIx (uVar 5) (uBin dAdd (uVar 7) (uC (.int 1)))) (uCons (uCall 2 S_slopes (uCons (uBinL dIx (uVar 0) (uVar 7)) (uCons (uBin dIx (uVar 1) (uVar 7)) uNil))) uNil)))) uNil))))
    (sSeq (sAsgO 8 (uLstO (uCons (uBin dIx (uBinV dIx 6 (uVar 4)) (uC (.int 0))) uNil)))
    (sSeq (sFor (iFn fRngD (uCons (uBin dSub (uVar 4) (uC (.int 1))) (uCons (uUn dNeg (uC (.int 1))) (uCons (uUn dNeg (uC (.int 1))) uNil)))) (gN 7) (sSeq (sAsg 9 (uCall 2 S_slopes (uCons (uBinL dIx (uVar 0) (uVar 7)) (uCons (uBin dIx (uVar 1) (uVar 7)) uNil))))
    (sExpr (uMeO 8 mAppend (uCons (uFn fMax2 (uCons (uBin dIx (uBinV dIx 6 (uVar 7)) (uC (.int 0))) (uCons (uBin dAdd (uBinV dIx 8 (uUn dNeg (uC (.int 1)))) (uBin dIx (uVar 9) (uC (.int 0)))) uNil))) uNil)))))
    (sRetO (uRev 8))))))))
def S_prices : FN := defO 10 u_prices
theorem ok_prices (m_len : mg "len" = none) (m_range : mg "range" = none) (m_max : mg "max" = none) (m_list : mg "list" = none) (m_reversed : mg "reversed" = none) (h_slopes : Has P w K mg base "slopes" ["want", "level"] 2 (spU (gK K cls) 2 S_slopes)) (h_reach : Has P w K mg base "reach" ["spans", "tight", "free"] 1 (spU (gK K cls) 3 S_reach)) {f : Addr} {fd : FuncData} (F : Fun K "prices" "prices" t_prices f fd) :
    FnOk P w K mg base (L2.CX P w) 3 f fd ["wants", "found", "low", "high"] (spO (gK K cls) 4 S_prices) := by
  refine fnO (N := ["wants", "found", "low", "high", "many", "tights", "spans", "k", "told", "free"]) F sc_prices (by decide) fun cdv A outer s H E hr tk => ?_
  exact (pss_consU (ps_asgU 4 sc_prices.nd (pu_fnX call_lenU s_len m_len PySem.boot_len (pa_consU (pu_var 0) pa_nilU)))
    (pss_consU (ps_asgU 5 sc_prices.nd (pu_bin op_addU s_add (pu_bin op_addU s_add (pu_lst (pa_consU (pu_cmp (op_eqU hr.units) s_eq (pu_ix ix_seq s_ix (pu_var 1) pu_int) (pu_var 2) (nomark _)) pa_nilU)) (pu_fz (by exact (pu_lc [("k", 7)] rfl sc_prices.nd (pi_rng2 m_range (pa_consU pu_int (pa_consU (pu_var 4) pa_nilU))) (blkOk_by (N := ["wants", "found", "low", "high", "many", "tights", "spans", "k", "told", "free"]) (sc := defScope t_prices) (by decide +kernel)) (fun _ _ _ _ _ => (pg_nameC 7 sc_prices.nd)) (fun _ _ _ _ _ => pts_nilU) (fun _ _ _ _ _ => (pu_cmp (op_eqU hr.units) s_eq (pu_ix ix_seq s_ix (pu_var 1) (pu_bin op_sub s_sub (pu_var 7) pu_int)) (pu_ix ix_seq s_ix (pu_var 1) (pu_var 7)) (nomark _))))))) (pu_lst (pa_consU (pu_cmp (op_eqU hr.units) s_eq (pu_ix ix_seq s_ix (pu_var 1) (pu_un un_neg s_neg pu_int)) (pu_var 3) (nomark _)) pa_nilU))))
    (pss_consU (ps_asgO 6 sc_prices.nd (pu_lstO (pa_consU (pu_if (pt_of (pu_ix ix_seq s_ix (pu_var 5) pu_int)) (pu_tup (pa_consU pu_int (pa_consU pu_non pa_nilU))) (pu_tup (pa_consU pu_int (pa_consU pu_int pa_nilU)))) pa_nilU)))
    (pss_consU (ps_forU (passes_of rfl) rfl (pi_rng1 m_range (pa_consU (pu_var 4) pa_nilU)) (pg_nameU 7 sc_prices.nd) (pss_oneU (ps_exprU (pu_meO 6 PySem.F.slot_list_append PySem.F.type_list_append mt_append u_append (pe_slot 6) (pa_consU (pu_call h_reach (hr.mono (by decide)) tk (pa_consU (pu_ixV 6 ix_seq s_ix (pe_slot 6) (pu_var 7)) (pa_consU (pu_ix ix_seq s_ix (pu_var 5) (pu_bin op_addU s_add (pu_var 7) pu_int)) (pa_consU (pu_call h_slopes (hr.mono (by decide)) tk (pa_consU (pu_ixL ix_seq s_ix (pu_var 0) (pu_var 7)) (pa_consU (pu_ix ix_seq s_ix (pu_var 1) (pu_var 7)) pa_nilU))) pa_nilU)))) pa_nilU)))))
    (pss_consU (ps_asgO 8 sc_prices.nd (pu_lstO (pa_consU (pu_ix ix_seq s_ix (pu_ixV 6 ix_seq s_ix (pe_slot 6) (pu_var 4)) pu_int) pa_nilU)))
    (pss_consU (ps_forU (passes_of rfl) rfl (pi_rngD m_range (pa_consU (pu_bin op_sub s_sub (pu_var 4) pu_int) (pa_consU (pu_un un_neg s_neg pu_int) (pa_consU (pu_un un_neg s_neg pu_int) pa_nilU)))) (pg_nameU 7 sc_prices.nd) (pss_consU (ps_asgU 9 sc_prices.nd (pu_call h_slopes (hr.mono (by decide)) tk (pa_consU (pu_ixL ix_seq s_ix (pu_var 0) (pu_var 7)) (pa_consU (pu_ix ix_seq s_ix (pu_var 1) (pu_var 7)) pa_nilU))))
    (pss_oneU (ps_exprU (pu_meO 8 PySem.F.slot_list_append PySem.F.type_list_append mt_append u_append (pe_slot 8) (pa_consU (pu_fn (call_max2 rfl) s_max2 m_max (by decide +kernel) (pa_consU (pu_ix ix_seq s_ix (pu_ixV 6 ix_seq s_ix (pe_slot 6) (pu_var 7)) pu_int) (pa_consU (pu_bin op_addU s_add (pu_ixV 8 ix_seq s_ix (pe_slot 8) (pu_un un_neg s_neg pu_int)) (pu_ix ix_seq s_ix (pu_var 9) pu_int)) pa_nilU))) pa_nilU))))))
    (pss_oneU (ps_retO (pu_rev 8 rfl rfl m_list m_reversed (pe_slot 8))))))))))
/-! moved -/
abbrev t_moved : Stmt := top 21
theorem sc_moved : FnScope ["rows", "rule", "end", "gaps", "wants", "shift", "k", "high", "found", "cost", "told", "times", "far", "level"] ["rows", "rule", "end"] (defScope t_moved) := ⟨rfl, rfl, rfl, by decide +kernel, rfl, by decide +kernel, by decide +kernel⟩
def u_moved : US :=
    (sSeq (sAsg 3 (uFz (uCallO 2 S_distances (uCons (uVar 0) (uCons (uVar 1) uNil)))))
    (sSeq (sIf (uB (uCall 2 S_is_below (uCons (uVar 2) (uCons (uCall 1 S_summed (uCons (uVar 3) uNil)) uNil)))) (sRaise ⟨"TooTight", []⟩) sNext)
    (sSeq (sIf (uB (uBin dEq (uVar 0) (uLst uNil))) (sRet (uTup (uCons (uNew (uLstO uNil)) (uCons (uC (.tup [.int 0, .int 1])) (uCons (uNew (uLstO uNil)) uNil))))) sNext)
    (sSeq (sAsg 4 (uNew (uLstO uNil)))
    (sSeq (sAsg 5 (uC (.tup [.int 0, .int 1])))
    (sSeq (sFor (iFn fRng1 (uCons (uBin dMul (uC (.int 2)) (uFn fLen (uCons (uVar 0) uNil))) uNil)) (gN 6) (sSeq (sIf (uB (uBin dGt (uVar 6) (uC (.int 0)))) (sAsg 5 (uCall 2 S_added (uCons (uVar 5) (uCons (uBin dIx (uVar 3) (uBin dSub (uVar 6) (uC (.int 1)))) uNil)))) sNext)
    (sExpr (uMeL (uVar 4) mAppend (uCons (uTup (uCons (uCall 2 S_less (uCons (uBin dIx (uBin dIx (uVar 0) (uBin dDiv (uVar 6) (uC (.int 2)))) (uBin dMod (uVar 6) (uC (.int 2)))) (uCons (uVar 5) uNil))) (uCons (uBin dIx (uVar 1) (uBin dAdd (uC (.int 3)) (uBin dMod (uVar 6) (uC (.int 2))))) uNil))) uNil)))))
    (sSeq (sAsg 7 (uCall 2 S_less (uCons (uVar 2) (uCons (uVar 5) uNil))))
    (sSeq (sAsg 8 (uFz (uLc (iLst (uFz (uCallO 1 S_levels (uCons (uVar 4) uNil)))) (gN 13) uYes (uCallN 2 S_lesser (uCons (uCallN 2 S_greater (uCons (uVar 13) (uCons (uC (.tup [.int 0, .int 1])) uNil))) (uCons (uVar 7) uNil))) [13])))
    (sSeq (sAsg 9 (uC (.tup [.int 0, .int 1])))
    (sSeq (sFor (iFn fRng1 (uCons (uFn fLen (uCons (uVar 8) uNil)) uNil)) (gN 6) (sSeq (sAsg 12 (uCall 2 S_less (uCons (uBin dIx (uVar 8) (uVar 6)) (uCons (uBin dIx (uBinL dIx (uVar 4) (uVar 6)) (uC (.int 0))) uNil))))
    (sAsg 9 (uCall 2 S_added (uCons (uVar 9) (uCons (uCall 2 S_timed (uCons (uTup (uCons (uFn fAbs (uCons (uBin dIx (uVar 12) (uC (.int 0))) uNil)) (uCons (uBin dIx (uVar 12) (uC (.int 1))) uNil))) (uCons (uTup (uCons (uBin dIx (uBinL dIx (uVar 4) (uVar 6)) (uC (.int 1))) (uCons (uC (.int 1)) uNil))) uNil))) uNil))))))
    (sSeq (sAsg 10 (uNew (uCallO 4 S_prices (uCons (uVar 4) (uCons (uVar 8) (uCons (uC (.tup [.int 0, .int 1])) (uCons (uVar 7) uNil)))))))
    (sSeq (sAsgO 11 (uLstO uNil))
    (sSeq (sAsg 5 (uC (.tup [.int 0, .int 1])))
    (sSeq (sFor (iFn fRng1 (uCons (uFn fLen (uCons (uVar 8) uNil)) uNil)) (gN 6) (sSeq (sIf (uB (uBin dGt (uVar 6) (uC (.int 0)))) (sAsg 5 (uCall 2 S_added (uCons (uVar 5) (uCons (uBin dIx (uVar 3) (uBin dSub (uVar 6) (uC (.int 1)))) uNil)))) sNext)
    (sExpr (uMeO 11 mAppend (uCons (uCall 2 S_added (uCons (uBin dIx (uVar 8) (uVar 6)) (uCons (uVar 5) uNil))) uNil)))))
    (sRet (uTup (uCons (uNew (uLc (iFn fRng1 (uCons (uFn fLen (uCons (uVar 0) uNil)) uNil)) (gN 6) uYes (uTup (uCons (uBinV dIx 11 (uBin dMul (uC (.int 2)) (uVar 6))) (uCons (uBinV dIx 11 (uBin dAdd (uBin dMul (uC (.int 2)) (uVar 6)) (uC (.int 1)))) uNil))) [6])) (uCons (uVar 9) (uCons (uVar 10) uNil)))))))))))))))))))
def S_moved : FN := defU 14 u_moved
theorem ok_moved (m_range : mg "range" = none) (m_len : mg "len" = none) (m_abs : mg "abs" = none) (x_TooTight : ExM K mg cls "TooTight") (k_NONE : ConstOk K mg "NONE" (.tup [.int 0, .int 1])) (h_distances : Has P w K mg base "distances" ["rows", "rule"] 3 (spO (gK K cls) 2 S_distances)) (h_summed : Has P w K mg base "summed" ["some"] 3 (spU (gK K cls) 1 S_summed)) (h_is_below : Has P w K mg base "is_below" ["one", "two"] 1 (spU (gK K cls) 2 S_is_below)) (h_added : Has P w K mg base "added" ["one", "two"] 2 (spU (gK K cls) 2 S_added)) (h_less : Has P w K mg base "less" ["one", "two"] 2 (spU (gK K cls) 2 S_less)) (h_levels : Has P w K mg base "levels" ["wants"] 3 (spO (gK K cls) 1 S_levels)) (h_greater : Has P w K mg base "greater" ["one", "two"] 2 (spU (gK K cls) 2 S_greater)) (h_lesser : Has P w K mg base "lesser" ["one", "two"] 2 (spU (gK K cls) 2 S_lesser)) (h_timed : Has P w K mg base "timed" ["one", "two"] 2 (spU (gK K cls) 2 S_timed)) (h_prices : Has P w K mg base "prices" ["wants", "found", "low", "high"] 3 (spO (gK K cls) 4 S_prices)) {f : Addr} {fd : FuncData} (F : Fun K "moved" "moved" t_moved f fd) :
    FnOk P w K mg base (L2.CX P w) 4 f fd ["rows", "rule", "end"] (spU (gK K cls) 3 S_moved) := by
  refine fnU (N := ["rows", "rule", "end", "gaps", "wants", "shift", "k", "high", "found", "cost", "told", "times", "far", "level"]) F sc_moved (by decide) fun cdv A outer s H E hr tk => ?_
  exact (pss_consU (ps_asgU 3 sc_moved.nd (pu_fz (pu_callO h_distances (hr.mono (by decide)) tk (pa_consU (pu_var 0) (pa_consU (pu_var 1) pa_nilU)))))
    (pss_consU (ps_ifU (pt_of (pu_call h_is_below (hr.mono (by decide)) tk (pa_consU (pu_var 2) (pa_consU (pu_call h_summed (hr.mono (by decide)) tk (pa_consU (pu_var 3) pa_nilU)) pa_nilU)))) (pss_oneU (ps_raiseU x_TooTight rfl tk rfl)) pss_nilU)
    (pss_consU (ps_ifU (pt_cmpU (op_eqU hr.units) s_eq (pu_var 0) (pu_lst pa_nilU) (nomark _)) (pss_oneU (ps_retU (pu_tup (pa_consU (pu_new (pu_lstO pa_nilU)) (pa_consU (pu_globC rfl k_NONE) (pa_consU (pu_new (pu_lstO pa_nilU)) pa_nilU)))))) pss_nilU)
    (pss_consU (ps_asgU 4 sc_moved.nd (pu_new (pu_lstO pa_nilU)))
    (pss_consU (ps_asgU 5 sc_moved.nd (pu_globC rfl k_NONE))
    (pss_consU (ps_forU (passes_of rfl) rfl (pi_rng1 m_range (pa_consU (pu_bin op_mulU s_mul pu_int (pu_fn call_lenU s_len m_len PySem.boot_len (pa_consU (pu_var 0) pa_nilU))) pa_nilU)) (pg_nameU 6 sc_moved.nd) (pss_consU (ps_ifU (pt_cmpU op_gt s_gt (pu_var 6) pu_int (nomark _)) (pss_oneU (ps_asgU 5 sc_moved.nd (pu_call h_added (hr.mono (by decide)) tk (pa_consU (pu_var 5) (pa_consU (pu_ix ix_seq s_ix (pu_var 3) (pu_bin op_sub s_sub (pu_var 6) pu_int)) pa_nilU))))) pss_nilU)
    (pss_oneU (ps_exprU (pu_meL PySem.F.slot_list_append PySem.F.type_list_append mt_append u_append (pu_var 4) (pa_consU (pu_tup (pa_consU (pu_call h_less (hr.mono (by decide)) tk (pa_consU (pu_ix ix_seq s_ix (pu_ix ix_seq s_ix (pu_var 0) (pu_bin op_fdivU s_div (pu_var 6) pu_int)) (pu_bin op_modN s_mod (pu_var 6) pu_int)) (pa_consU (pu_var 5) pa_nilU))) (pa_consU (pu_ix ix_seq s_ix (pu_var 1) (pu_bin op_addU s_add pu_int (pu_bin op_modN s_mod (pu_var 6) pu_int))) pa_nilU))) pa_nilU))))))
    (pss_consU (ps_asgU 7 sc_moved.nd (pu_call h_less (hr.mono (by decide)) tk (pa_consU (pu_var 2) (pa_consU (pu_var 5) pa_nilU))))
    (pss_consU (by exact (ps_setLcU 8 [("level", 13)] rfl sc_moved.nd (sw_true rfl rfl rfl (by decide +kernel)) (pi_listU rfl (pu_fz (pu_callO h_levels (hr.mono (by decide)) tk (pa_consU (pu_var 4) pa_nilU)))) (blkOk_by (N := ["rows", "rule", "end", "gaps", "wants", "shift", "k", "high", "found", "cost", "told", "times", "far", "level"]) (sc := defScope t_moved) (by decide +kernel)) (fun _ _ _ _ _ => (pg_nameC 13 sc_moved.nd)) (fun _ _ _ _ _ => pts_nilU) (fun _ _ _ _ _ => (pu_callN h_lesser (hr.mono (by decide)) (pa_consU (pu_callN h_greater (hr.mono (by decide)) (pa_consU (pu_var 13) (pa_consU (pu_globC rfl k_NONE) pa_nilU))) (pa_consU (pu_var 7) pa_nilU))))))
    (pss_consU (ps_asgU 9 sc_moved.nd (pu_globC rfl k_NONE))
    (pss_consU (ps_forU (passes_of rfl) rfl (pi_rng1 m_range (pa_consU (pu_fn call_lenU s_len m_len PySem.boot_len (pa_consU (pu_var 8) pa_nilU)) pa_nilU)) (pg_nameU 6 sc_moved.nd) (pss_consU (ps_asgU 12 sc_moved.nd (pu_call h_less (hr.mono (by decide)) tk (pa_consU (pu_ix ix_seq s_ix (pu_var 8) (pu_var 6)) (pa_consU (pu_ix ix_seq s_ix (pu_ixL ix_seq s_ix (pu_var 4) (pu_var 6)) pu_int) pa_nilU))))
    (pss_oneU (ps_asgU 9 sc_moved.nd (pu_call h_added (hr.mono (by decide)) tk (pa_consU (pu_var 9) (pa_consU (pu_call h_timed (hr.mono (by decide)) tk (pa_consU (pu_tup (pa_consU (pu_fn call_abs s_abs m_abs boot_abs (pa_consU (pu_ix ix_seq s_ix (pu_var 12) pu_int) pa_nilU)) (pa_consU (pu_ix ix_seq s_ix (pu_var 12) pu_int) pa_nilU))) (pa_consU (pu_tup (pa_consU (pu_ix ix_seq s_ix (pu_ixL ix_seq s_ix (pu_var 4) (pu_var 6)) pu_int) (pa_consU pu_int pa_nilU))) pa_nilU))) pa_nilU)))))))
    (pss_consU (ps_asgU 10 sc_moved.nd (pu_new (pu_callO h_prices (hr.mono (by decide)) tk (pa_consU (pu_var 4) (pa_consU (pu_var 8) (pa_consU (pu_globC rfl k_NONE) (pa_consU (pu_var 7) pa_nilU)))))))
    (pss_consU (ps_asgO 11 sc_moved.nd (pu_lstO pa_nilU))
    (pss_consU (ps_asgU 5 sc_moved.nd (pu_globC rfl k_NONE))
    (pss_consU (ps_forU (passes_of rfl) rfl (pi_rng1 m_range (pa_consU (pu_fn call_lenU s_len m_len PySem.boot_len (pa_consU (pu_var 8) pa_nilU)) pa_nilU)) (pg_nameU 6 sc_moved.nd) (pss_consU (ps_ifU (pt_cmpU op_gt s_gt (pu_var 6) pu_int (nomark _)) (pss_oneU (ps_asgU 5 sc_moved.nd (pu_call h_added (hr.mono (by decide)) tk (pa_consU (pu_var 5) (pa_consU (pu_ix ix_seq s_ix (pu_var 3) (pu_bin op_sub s_sub (pu_var 6) pu_int)) pa_nilU))))) pss_nilU)
    (pss_oneU (ps_exprU (pu_meO 11 PySem.F.slot_list_append PySem.F.type_list_append mt_append u_append (pe_slot 11) (pa_consU (pu_call h_added (hr.mono (by decide)) tk (pa_consU (pu_ix ix_seq s_ix (pu_var 8) (pu_var 6)) (pa_consU (pu_var 5) pa_nilU))) pa_nilU))))))
    (pss_oneU (ps_retU (pu_tup (pa_consU (pu_new (by exact (pu_lc [("k", 6)] rfl sc_moved.nd (pi_rng1 m_range (pa_consU (pu_fn call_lenU s_len m_len PySem.boot_len (pa_consU (pu_var 0) pa_nilU)) pa_nilU)) (blkOk_by (N := ["rows", "rule", "end", "gaps", "wants", "shift", "k", "high", "found", "cost", "told", "times", "far", "level"]) (sc := defScope t_moved) (by decide +kernel)) (fun _ _ _ _ _ => (pg_nameC 6 sc_moved.nd)) (fun _ _ _ _ _ => pts_nilU) (fun _ _ _ _ _ => (pu_tup (pa_consU (pu_ixV 11 ix_seq s_ix (pe_slot 11) (pu_bin op_mulU s_mul pu_int (pu_var 6))) (pa_consU (pu_ixV 11 ix_seq s_ix (pe_slot 11) (pu_bin op_addU s_add (pu_bin op_mulU s_mul pu_int (pu_var 6)) pu_int)) pa_nilU))))))) (pa_consU (pu_var 9) (pa_consU (pu_var 10) pa_nilU))))))))))))))))))))
/-! _law_begun -/
abbrev t_law_begun : Stmt := top 23
theorem sc_law_begun : FnScope ["_law_script", "_law_stirred", "_law_cell"] ["_law_script"] (defScope t_law_begun) := ⟨rfl, rfl, rfl, by decide +kernel, rfl, by decide +kernel, by decide +kernel⟩
def u_law_begun : US :=
    (sSeq (sAsg 1 (uC (.int 0)))
    (sSeq (sFor (iLst (uVar 0)) (gN 2) (sAsg 1 (uBin dMod (uBin dAdd (uBin dAdd (uBin dMul (uVar 1) (uC (.int 48271))) (uBin dMul (uVar 2) (uC (.int 69621)))) (uC (.int 11))) (uC (.int 2147483647)))))
    (sRet (uNew (uLstO (uCons (uNew (uFnO fList (uCons (uVar 0) uNil))) (uCons (uBin dMul (uVar 1) (uFn fInt (uCons (uBin dGt (uFn fLen (uCons (uVar 0) uNil)) (uC (.int 2))) uNil))) uNil)))))))
def S_law_begun : FN := defU 3 u_law_begun
theorem ok_law_begun (m_list : mg "list" = none) (m_int : mg "int" = none) (m_len : mg "len" = none) {f : Addr} {fd : FuncData} (F : Fun K "_law_begun" "_law_begun" t_law_begun f fd) :
    FnOk P w K mg base (L2.CX P w) 1 f fd ["_law_script"] (spU (gK K cls) 1 S_law_begun) := by
  refine fnU (N := ["_law_script", "_law_stirred", "_law_cell"]) F sc_law_begun (by decide) fun cdv A outer s H E hr tk => ?_
  exact (pss_consU (ps_asgU 1 sc_law_begun.nd pu_int)
    (pss_consU (ps_forU (passes_of rfl) rfl (pi_listU rfl (pu_var 0)) (pg_nameU 2 sc_law_begun.nd) (pss_oneU (ps_asgU 1 sc_law_begun.nd (pu_bin op_modN s_mod (pu_bin op_addU s_add (pu_bin op_addU s_add (pu_bin op_mulU s_mul (pu_var 1) pu_int) (pu_bin op_mulU s_mul (pu_var 2) pu_int)) pu_int) pu_int))))
    (pss_oneU (ps_retU (pu_new (pu_lstO (pa_consU (pu_new (pu_list rfl m_list (pa_consU (pu_var 0) pa_nilU))) (pa_consU (pu_bin op_mulU s_mul (pu_var 1) (pu_fnT call_int1 s_int m_int (by decide +kernel) (pa_consU (pu_cmp op_gt s_gt (pu_fn call_lenU s_len m_len PySem.boot_len (pa_consU (pu_var 0) pa_nilU)) pu_int (nomark _)) pa_nilU))) pa_nilU))))))))
/-! _law_take -/
abbrev t_law_take : Stmt := top 24
theorem sc_law_take : FnScope ["_law_box", "_law_many", "_law_number"] ["_law_box", "_law_many"] (defScope t_law_take) := ⟨rfl, rfl, rfl, by decide +kernel, rfl, by decide +kernel, by decide +kernel⟩
def u_law_take : US :=
    (sSeq (sIf (uB (uBinL dEq (uBinL dIx (uVar 0) (uC (.int 0))) (uLst uNil))) (sSeq (sSetL (uVar 0) (uC (.int 1)) (uBin dMod (uBin dMul (uBinL dIx (uVar 0) (uC (.int 1))) (uC (.int 48271))) (uC (.int 2147483647))))
    (sRet (uBin dMod (uBin dDiv (uBinL dIx (uVar 0) (uC (.int 1))) (uC (.int 7))) (uVar 1)))) sNext)
    (sSeq (sAsg 2 (uBinL dIx (uBinL dIx (uVar 0) (uC (.int 0))) (uC (.int 0))))
    (sSeq (sSetL (uBinL dIx (uVar 0) (uC (.int 0))) (uC (.int 0)) (uBin dDiv (uVar 2) (uVar 1)))
    (sSeq (sIf (uOr (uB (uBin dEq (uBinL dIx (uBinL dIx (uVar 0) (uC (.int 0))) (uC (.int 0))) (uC (.int 0)))) (uB (uBin dEq (uBinL dIx (uBinL dIx (uVar 0) (uC (.int 0))) (uC (.int 0))) (uUn dNeg (uC (.int 1)))))) (sExpr (uMeL (uBinL dIx (uVar 0) (uC (.int 0))) mPopAt (uCons (uC (.int 0)) uNil))) sNext)
    (sRet (uBin dMod (uVar 2) (uVar 1)))))))
def S_law_take : FN := defU 3 u_law_take
theorem ok_law_take {f : Addr} {fd : FuncData} (F : Fun K "_law_take" "_law_take" t_law_take f fd) :
    FnOk P w K mg base (L2.CX P w) 1 f fd ["_law_box", "_law_many"] (spU (gK K cls) 2 S_law_take) := by
  refine fnU (N := ["_law_box", "_law_many", "_law_number"]) F sc_law_take (by decide) fun cdv A outer s H E hr tk => ?_
  exact (pss_consU (ps_ifU (pt_cmpL (op_eqU hr.units) s_eq (pu_ixL ix_seq s_ix (pu_var 0) pu_int) (pu_lst pa_nilU) (nomark _)) (pss_consU (ps_setL (pu_bin op_modN s_mod (pu_bin op_mulU s_mul (pu_ixL ix_seq s_ix (pu_var 0) pu_int) pu_int) pu_int) (pu_var 0) pu_int)
    (pss_oneU (ps_retU (pu_bin op_modN s_mod (pu_bin op_fdivU s_div (pu_ixL ix_seq s_ix (pu_var 0) pu_int) pu_int) (pu_var 1))))) pss_nilU)
    (pss_consU (ps_asgU 2 sc_law_take.nd (pu_ixL ix_seq s_ix (pu_ixL ix_seq s_ix (pu_var 0) pu_int) pu_int))
    (pss_consU (ps_setL (pu_bin op_fdivU s_div (pu_var 2) (pu_var 1)) (pu_ixL ix_seq s_ix (pu_var 0) pu_int) pu_int)
    (pss_consU (ps_ifU (PW.pt (pw_orU (pt_cmpU (op_eqU hr.units) s_eq (pu_ixL ix_seq s_ix (pu_ixL ix_seq s_ix (pu_var 0) pu_int) pu_int) pu_int (nomark _)) (pw_or1U (pt_cmpU (op_eqU hr.units) s_eq (pu_ixL ix_seq s_ix (pu_ixL ix_seq s_ix (pu_var 0) pu_int) pu_int) (pu_un un_neg s_neg pu_int) (nomark _))))) (pss_oneU (ps_exprU (pu_meL PySem.F.slot_list_pop PySem.F.type_list_pop mt_popAt u_popAt (pu_ixL ix_seq s_ix (pu_var 0) pu_int) (pa_consU pu_int pa_nilU)))) pss_nilU)
    (pss_oneU (ps_retU (pu_bin op_modN s_mod (pu_var 2) (pu_var 1))))))))
/-! _law_alike -/
abbrev t_law_alike : Stmt := top 25
theorem sc_law_alike : FnScope ["_law_found", "_law_due", "_law_k"] ["_law_found", "_law_due"] (defScope t_law_alike) := ⟨rfl, rfl, rfl, by decide +kernel, rfl, by decide +kernel, by decide +kernel⟩
def u_law_alike (rec : FN) : US :=
    (sSeq (sIf (uB (uBin dIs (uVar 1) (uC .non))) (sRet (uBin dIs (uVar 0) (uC .non))) sNext)
    (sSeq (sIf (uB (uUn (dIsi "bool") (uVar 1))) (sRet (uAndV (uUn (dIsi "bool") (uVar 0)) (uBin dEq (uVar 0) (uVar 1)))) sNext)
    (sSeq (sIf (uB (uUn (dIsi "int") (uVar 1))) (sRet (uAndV (uUn (dIsi "int") (uVar 0)) (uAndV (uNotV (uUn (dIsi "bool") (uVar 0))) (uBin dEq (uVar 0) (uVar 1))))) sNext)
    (sSeq (sIf (uB (uUn (dIsi "str") (uVar 1))) (sRet (uAndV (uUn (dIsi "str") (uVar 0)) (uBin dEq (uVar 0) (uVar 1)))) sNext)
    (sSeq (sIf (uOr (uB (uBin dNe (uUn (dIsi "tuple") (uVar 1)) (uUn (dIsi "tuple") (uVar 0)))) (uB (uBin dNe (uUn (dIsi "list") (uVar 1)) (uUn (dIsi "list") (uVar 0))))) (sRet (uC (.bl false))) sNext)
    (sSeq (sIf (uB (uBin dNe (uFn fLen (uCons (uVar 0) uNil)) (uFn fLen (uCons (uVar 1) uNil)))) (sRet (uC (.bl false))) sNext)
    (sSeq (sFor (iFn fRng1 (uCons (uFn fLen (uCons (uVar 1) uNil)) uNil)) (gN 2) (sIf (uNot (uB (uCall 2 rec (uCons (uBin dIx (uVar 0) (uVar 2)) (uCons (uBin dIx (uVar 1) (uVar 2)) uNil))))) (sRet (uC (.bl false))) sNext))
    (sRet (uC (.bl true))))))))))
def R_law_alike : Nat → FN
  | 0 => fun _ _ => .no
  | n + 1 => defU 3 (u_law_alike (R_law_alike n))
def S_law_alike : FN := R_law_alike 11
theorem ok_law_alike (m_isinstance : mg "isinstance" = none) (m_bool : mg "bool" = none) (m_int : mg "int" = none) (m_str : mg "str" = none) (m_tuple : mg "tuple" = none) (m_list : mg "list" = none) (m_len : mg "len" = none) (m_range : mg "range" = none) {f : Addr} {fd : FuncData} (F : Fun K "_law_alike" "_law_alike" t_law_alike f fd) (hm : mg "_law_alike" = some (.ref f)) (hb : Binds K fd ["_law_found", "_law_due"] []) :
    ∀ n : Nat, FnOk P w K mg base (L2.CX P w) (n + 1) f fd ["_law_found", "_law_due"] (spU (gK K cls) 2 (R_law_alike n))
  | 0 => fnNo
  | n + 1 => by
    have h_rec : Has P w K mg base "_law_alike" ["_law_found", "_law_due"] (n + 1) (spU (gK K cls) 2 (R_law_alike n)) := ⟨f, fd, hm, F.kp, hb, ok_law_alike m_isinstance m_bool m_int m_str m_tuple m_list m_len m_range F hm hb n⟩
    refine fnU (N := ["_law_found", "_law_due", "_law_k"]) F sc_law_alike (by decide) fun cdv A outer s H E hr tk => ?_
    exact (pss_consU (ps_ifU (pt_cmpU op_isN s_is (pu_var 1) pu_non (nomark _)) (pss_oneU (ps_retU (pu_cmp op_isN s_is (pu_var 0) pu_non (nomark _)))) pss_nilU)
    (pss_consU (ps_ifU (pt_of (pu_isi "bool" m_isinstance m_bool (by decide +kernel) rfl (pu_var 1))) (pss_oneU (ps_retU (pu_and (pu_isi "bool" m_isinstance m_bool (by decide +kernel) rfl (pu_var 0)) (pu_one (pu_cmp (op_eqU hr.units) s_eq (pu_var 0) (pu_var 1) (nomark _)))))) pss_nilU)
    (pss_consU (ps_ifU (pt_of (pu_isi "int" m_isinstance m_int (by decide +kernel) rfl (pu_var 1))) (pss_oneU (ps_retU (pu_and (pu_isi "int" m_isinstance m_int (by decide +kernel) rfl (pu_var 0)) (pu_and (pu_not (pu_isi "bool" m_isinstance m_bool (by decide +kernel) rfl (pu_var 0))) (pu_one (pu_cmp (op_eqU hr.units) s_eq (pu_var 0) (pu_var 1) (nomark _))))))) pss_nilU)
    (pss_consU (ps_ifU (pt_of (pu_isi "str" m_isinstance m_str (by decide +kernel) rfl (pu_var 1))) (pss_oneU (ps_retU (pu_and (pu_isi "str" m_isinstance m_str (by decide +kernel) rfl (pu_var 0)) (pu_one (pu_cmp (op_eqU hr.units) s_eq (pu_var 0) (pu_var 1) (nomark _)))))) pss_nilU)
    (pss_consU (ps_ifU (PW.pt (pw_orU (pt_cmpU (op_neU hr.units) s_ne (pu_isi "tuple" m_isinstance m_tuple (by decide +kernel) rfl (pu_var 1)) (pu_isi "tuple" m_isinstance m_tuple (by decide +kernel) rfl (pu_var 0)) (nomark _)) (pw_or1U (pt_cmpU (op_neU hr.units) s_ne (pu_isi "list" m_isinstance m_list (by decide +kernel) rfl (pu_var 1)) (pu_isi "list" m_isinstance m_list (by decide +kernel) rfl (pu_var 0)) (nomark _))))) (pss_oneU (ps_retU pu_bl)) pss_nilU)
    (pss_consU (ps_ifU (pt_cmpU (op_neU hr.units) s_ne (pu_fn call_lenU s_len m_len PySem.boot_len (pa_consU (pu_var 0) pa_nilU)) (pu_fn call_lenU s_len m_len PySem.boot_len (pa_consU (pu_var 1) pa_nilU)) (nomark _)) (pss_oneU (ps_retU pu_bl)) pss_nilU)
    (pss_consU (ps_forU (passes_of rfl) rfl (pi_rng1 m_range (pa_consU (pu_fn call_lenU s_len m_len PySem.boot_len (pa_consU (pu_var 1) pa_nilU)) pa_nilU)) (pg_nameU 2 sc_law_alike.nd) (pss_oneU (ps_ifU (pt_notU (pt_of (pu_call h_rec (hr.mono (by omega)) tk (pa_consU (pu_ix ix_seq s_ix (pu_var 0) (pu_var 2)) (pa_consU (pu_ix ix_seq s_ix (pu_var 1) (pu_var 2)) pa_nilU))))) (pss_oneU (ps_retU pu_bl)) pss_nilU)))
    (pss_oneU (ps_retU pu_bl)))))))))
/-! _law_fr -/
abbrev t_law_fr : Stmt := top 26
theorem sc_law_fr : FnScope ["_law_top", "_law_bottom", "_law_one", "_law_two", "_law_rest"] ["_law_top", "_law_bottom"] (defScope t_law_fr) := ⟨rfl, rfl, rfl, by decide +kernel, rfl, by decide +kernel, by decide +kernel⟩
def u_law_fr : US :=
    (sSeq (sAsg 2 (uFn fAbs (uCons (uVar 0) uNil)))
    (sSeq (sAsg 3 (uFn fAbs (uCons (uVar 1) uNil)))
    (sSeq (sWhile (fuelI 3) (uB (uBin dGt (uVar 3) (uC (.int 0)))) (sSeq (sAsg 4 (uBin dMod (uVar 2) (uVar 3)))
    (sSeq (sAsg 2 (uVar 3))
    (sAsg 3 (uVar 4)))))
    (sSeq (sIf (uB (uBin dLt (uVar 1) (uC (.int 0)))) (sAsg 2 (uBin dSub (uC (.int 0)) (uVar 2))) sNext)
    (sRet (uTup (uCons (uBin dDiv (uVar 0) (uVar 2)) (uCons (uBin dDiv (uVar 1) (uVar 2)) uNil))))))))
def S_law_fr : FN := defU 5 u_law_fr
theorem ok_law_fr (m_abs : mg "abs" = none) {f : Addr} {fd : FuncData} (F : Fun K "_law_fr" "_law_fr" t_law_fr f fd) :
    FnOk P w K mg base (L2.CX P w) 1 f fd ["_law_top", "_law_bottom"] (spU (gK K cls) 2 S_law_fr) := by
  refine fnU (N := ["_law_top", "_law_bottom", "_law_one", "_law_two", "_law_rest"]) F sc_law_fr (by decide) fun cdv A outer s H E hr tk => ?_
  exact (pss_consU (ps_asgU 2 sc_law_fr.nd (pu_fn call_abs s_abs m_abs boot_abs (pa_consU (pu_var 0) pa_nilU)))
    (pss_consU (ps_asgU 3 sc_law_fr.nd (pu_fn call_abs s_abs m_abs boot_abs (pa_consU (pu_var 1) pa_nilU)))
    (pss_consU (ps_whileU (fuelI 3) (passes_of rfl) (pt_cmpU op_gt s_gt (pu_var 3) pu_int (nomark _)) (pss_consU (ps_asgU 4 sc_law_fr.nd (pu_bin op_modN s_mod (pu_var 2) (pu_var 3)))
    (pss_consU (ps_asgU 2 sc_law_fr.nd (pu_var 3))
    (pss_oneU (ps_asgU 3 sc_law_fr.nd (pu_var 4))))))
    (pss_consU (ps_ifU (pt_cmpU op_lt s_lt (pu_var 1) pu_int (nomark _)) (pss_oneU (ps_asgU 2 sc_law_fr.nd (pu_bin op_sub s_sub pu_int (pu_var 2)))) pss_nilU)
    (pss_oneU (ps_retU (pu_tup (pa_consU (pu_bin op_fdivU s_div (pu_var 0) (pu_var 2)) (pa_consU (pu_bin op_fdivU s_div (pu_var 1) (pu_var 2)) pa_nilU)))))))))
/-! _law_sum -/
abbrev t_law_sum : Stmt := top 27
theorem sc_law_sum : FnScope ["_law_one", "_law_two"] ["_law_one", "_law_two"] (defScope t_law_sum) := ⟨rfl, rfl, rfl, by decide +kernel, rfl, by decide +kernel, by decide +kernel⟩
def u_law_sum : US :=
    (sRet (uCall 2 S_law_fr (uCons (uBin dAdd (uBin dMul (uBin dIx (uVar 0) (uC (.int 0))) (uBin dIx (uVar 1) (uC (.int 1)))) (uBin dMul (uBin dIx (uVar 1) (uC (.int 0))) (uBin dIx (uVar 0) (uC (.int 1))))) (uCons (uBin dMul (uBin dIx (uVar 0) (uC (.int 1))) (uBin dIx (uVar 1) (uC (.int 1)))) uNil))))
def S_law_sum : FN := defU 2 u_law_sum
theorem ok_law_sum (h_law_fr : Has P w K mg base "_law_fr" ["_law_top", "_law_bottom"] 1 (spU (gK K cls) 2 S_law_fr)) {f : Addr} {fd : FuncData} (F : Fun K "_law_sum" "_law_sum" t_law_sum f fd) :
    FnOk P w K mg base (L2.CX P w) 2 f fd ["_law_one", "_law_two"] (spU (gK K cls) 2 S_law_sum) := by
  refine fnU (N := ["_law_one", "_law_two"]) F sc_law_sum (by decide) fun cdv A outer s H E hr tk => ?_
  exact (pss_oneU (ps_retU (pu_call h_law_fr (hr.mono (by decide)) tk (pa_consU (pu_bin op_addU s_add (pu_bin op_mulU s_mul (pu_ix ix_seq s_ix (pu_var 0) pu_int) (pu_ix ix_seq s_ix (pu_var 1) pu_int)) (pu_bin op_mulU s_mul (pu_ix ix_seq s_ix (pu_var 1) pu_int) (pu_ix ix_seq s_ix (pu_var 0) pu_int))) (pa_consU (pu_bin op_mulU s_mul (pu_ix ix_seq s_ix (pu_var 0) pu_int) (pu_ix ix_seq s_ix (pu_var 1) pu_int)) pa_nilU)))))
/-! _law_minus -/
abbrev t_law_minus : Stmt := top 28
theorem sc_law_minus : FnScope ["_law_one", "_law_two"] ["_law_one", "_law_two"] (defScope t_law_minus) := ⟨rfl, rfl, rfl, by decide +kernel, rfl, by decide +kernel, by decide +kernel⟩
def u_law_minus : US :=
    (sRet (uCall 2 S_law_fr (uCons (uBin dSub (uBin dMul (uBin dIx (uVar 0) (uC (.int 0))) (uBin dIx (uVar 1) (uC (.int 1)))) (uBin dMul (uBin dIx (uVar 1) (uC (.int 0))) (uBin dIx (uVar 0) (uC (.int 1))))) (uCons (uBin dMul (uBin dIx (uVar 0) (uC (.int 1))) (uBin dIx (uVar 1) (uC (.int 1)))) uNil))))
def S_law_minus : FN := defU 2 u_law_minus
theorem ok_law_minus (h_law_fr : Has P w K mg base "_law_fr" ["_law_top", "_law_bottom"] 1 (spU (gK K cls) 2 S_law_fr)) {f : Addr} {fd : FuncData} (F : Fun K "_law_minus" "_law_minus" t_law_minus f fd) :
    FnOk P w K mg base (L2.CX P w) 2 f fd ["_law_one", "_law_two"] (spU (gK K cls) 2 S_law_minus) := by
  refine fnU (N := ["_law_one", "_law_two"]) F sc_law_minus (by decide) fun cdv A outer s H E hr tk => ?_
  exact (pss_oneU (ps_retU (pu_call h_law_fr (hr.mono (by decide)) tk (pa_consU (pu_bin op_sub s_sub (pu_bin op_mulU s_mul (pu_ix ix_seq s_ix (pu_var 0) pu_int) (pu_ix ix_seq s_ix (pu_var 1) pu_int)) (pu_bin op_mulU s_mul (pu_ix ix_seq s_ix (pu_var 1) pu_int) (pu_ix ix_seq s_ix (pu_var 0) pu_int))) (pa_consU (pu_bin op_mulU s_mul (pu_ix ix_seq s_ix (pu_var 0) pu_int) (pu_ix ix_seq s_ix (pu_var 1) pu_int)) pa_nilU)))))
/-! _law_times -/
abbrev t_law_times : Stmt := top 29
theorem sc_law_times : FnScope ["_law_one", "_law_two"] ["_law_one", "_law_two"] (defScope t_law_times) := ⟨rfl, rfl, rfl, by decide +kernel, rfl, by decide +kernel, by decide +kernel⟩
def u_law_times : US :=
    (sRet (uCall 2 S_law_fr (uCons (uBin dMul (uBin dIx (uVar 0) (uC (.int 0))) (uBin dIx (uVar 1) (uC (.int 0)))) (uCons (uBin dMul (uBin dIx (uVar 0) (uC (.int 1))) (uBin dIx (uVar 1) (uC (.int 1)))) uNil))))
def S_law_times : FN := defU 2 u_law_times
theorem ok_law_times (h_law_fr : Has P w K mg base "_law_fr" ["_law_top", "_law_bottom"] 1 (spU (gK K cls) 2 S_law_fr)) {f : Addr} {fd : FuncData} (F : Fun K "_law_times" "_law_times" t_law_times f fd) :
    FnOk P w K mg base (L2.CX P w) 2 f fd ["_law_one", "_law_two"] (spU (gK K cls) 2 S_law_times) := by
  refine fnU (N := ["_law_one", "_law_two"]) F sc_law_times (by decide) fun cdv A outer s H E hr tk => ?_
  exact (pss_oneU (ps_retU (pu_call h_law_fr (hr.mono (by decide)) tk (pa_consU (pu_bin op_mulU s_mul (pu_ix ix_seq s_ix (pu_var 0) pu_int) (pu_ix ix_seq s_ix (pu_var 1) pu_int)) (pa_consU (pu_bin op_mulU s_mul (pu_ix ix_seq s_ix (pu_var 0) pu_int) (pu_ix ix_seq s_ix (pu_var 1) pu_int)) pa_nilU)))))
/-! _law_low -/
abbrev t_law_low : Stmt := top 31
theorem sc_law_low : FnScope ["_law_one", "_law_two"] ["_law_one", "_law_two"] (defScope t_law_low) := ⟨rfl, rfl, rfl, by decide +kernel, rfl, by decide +kernel, by decide +kernel⟩
def u_law_low : US :=
    (sRet (uBin dLt (uBin dMul (uBin dIx (uVar 0) (uC (.int 0))) (uBin dIx (uVar 1) (uC (.int 1)))) (uBin dMul (uBin dIx (uVar 1) (uC (.int 0))) (uBin dIx (uVar 0) (uC (.int 1))))))
def S_law_low : FN := defU 2 u_law_low
theorem ok_law_low {f : Addr} {fd : FuncData} (F : Fun K "_law_low" "_law_low" t_law_low f fd) :
    FnOk P w K mg base (L2.CX P w) 1 f fd ["_law_one", "_law_two"] (spU (gK K cls) 2 S_law_low) := by
  refine fnU (N := ["_law_one", "_law_two"]) F sc_law_low (by decide) fun cdv A outer s H E hr tk => ?_
  exact (pss_oneU (ps_retU (pu_cmp op_lt s_lt (pu_bin op_mulU s_mul (pu_ix ix_seq s_ix (pu_var 0) pu_int) (pu_ix ix_seq s_ix (pu_var 1) pu_int)) (pu_bin op_mulU s_mul (pu_ix ix_seq s_ix (pu_var 1) pu_int) (pu_ix ix_seq s_ix (pu_var 0) pu_int)) (nomark _))))
/-! _law_time -/
abbrev t_law_time : Stmt := top 32
theorem sc_law_time : FnScope ["_law_box", "_law_most", "_law_top", "_law_bottom"] ["_law_box", "_law_most"] (defScope t_law_time) := ⟨rfl, rfl, rfl, by decide +kernel, rfl, by decide +kernel, by decide +kernel⟩
def u_law_time : US :=
    (sSeq (sAsg 2 (uCall 2 S_law_take (uCons (uVar 0) (uCons (uVar 1) uNil))))
    (sSeq (sIf (uB (uBin dEq (uCall 2 S_law_take (uCons (uVar 0) (uCons (uC (.int 2)) uNil))) (uC (.int 0)))) (sRet (uTup (uCons (uVar 2) (uCons (uC (.int 1)) uNil)))) sNext)
    (sSeq (sAsg 3 (uBin dAdd (uC (.int 1)) (uCall 2 S_law_take (uCons (uVar 0) (uCons (uBin dIx (uLst (uCons (uC (.int 6)) (uCons (uC (.int 30)) uNil))) (uFn fInt (uCons (uBin dEq (uCall 2 S_law_take (uCons (uVar 0) (uCons (uC (.int 6)) uNil))) (uC (.int 1))) uNil))) uNil)))))
    (sRet (uCall 2 S_law_fr (uCons (uVar 2) (uCons (uVar 3) uNil)))))))
def S_law_time : FN := defU 4 u_law_time
theorem ok_law_time (m_int : mg "int" = none) (h_law_take : Has P w K mg base "_law_take" ["_law_box", "_law_many"] 1 (spU (gK K cls) 2 S_law_take)) (h_law_fr : Has P w K mg base "_law_fr" ["_law_top", "_law_bottom"] 1 (spU (gK K cls) 2 S_law_fr)) {f : Addr} {fd : FuncData} (F : Fun K "_law_time" "_law_time" t_law_time f fd) :
    FnOk P w K mg base (L2.CX P w) 2 f fd ["_law_box", "_law_most"] (spU (gK K cls) 2 S_law_time) := by
  refine fnU (N := ["_law_box", "_law_most", "_law_top", "_law_bottom"]) F sc_law_time (by decide) fun cdv A outer s H E hr tk => ?_
  exact (pss_consU (ps_asgU 2 sc_law_time.nd (pu_call h_law_take (hr.mono (by decide)) tk (pa_consU (pu_var 0) (pa_consU (pu_var 1) pa_nilU))))
    (pss_consU (ps_ifU (pt_cmpU (op_eqU hr.units) s_eq (pu_call h_law_take (hr.mono (by decide)) tk (pa_consU (pu_var 0) (pa_consU pu_int pa_nilU))) pu_int (nomark _)) (pss_oneU (ps_retU (pu_tup (pa_consU (pu_var 2) (pa_consU pu_int pa_nilU))))) pss_nilU)
    (pss_consU (ps_asgU 3 sc_law_time.nd (pu_bin op_addU s_add pu_int (pu_call h_law_take (hr.mono (by decide)) tk (pa_consU (pu_var 0) (pa_consU (pu_ix ix_seq s_ix (pu_lst (pa_consU pu_int (pa_consU pu_int pa_nilU))) (pu_fnT call_int1 s_int m_int (by decide +kernel) (pa_consU (pu_cmp (op_eqU hr.units) s_eq (pu_call h_law_take (hr.mono (by decide)) tk (pa_consU (pu_var 0) (pa_consU pu_int pa_nilU))) pu_int (nomark _)) pa_nilU))) pa_nilU)))))
    (pss_oneU (ps_retU (pu_call h_law_fr (hr.mono (by decide)) tk (pa_consU (pu_var 2) (pa_consU (pu_var 3) pa_nilU))))))))
/-! _law_rows -/
abbrev t_law_rows : Stmt := top 33
theorem sc_law_rows : FnScope ["_law_box", "_law_rows_here", "_law_begin", "_law_k", "_law_words", "_law_end_here", "_law_j"] ["_law_box"] (defScope t_law_rows) := ⟨rfl, rfl, rfl, by decide +kernel, rfl, by decide +kernel, by decide +kernel⟩
def u_law_rows : US :=
    (sSeq (sAsgO 1 (uLstO uNil))
    (sSeq (sAsg 2 (uTup (uCons (uC (.int 0)) (uCons (uC (.int 1)) uNil))))
    (sSeq (sFor (iFn fRng1 (uCons (uBin dIx (uLst (uCons (uCall 2 S_law_take (uCons (uVar 0) (uCons (uC (.int 4)) uNil))) (uCons (uCall 2 S_law_take (uCons (uVar 0) (uCons (uC (.int 21)) uNil))) uNil))) (uFn fInt (uCons (uBin dEq (uCall 2 S_law_take (uCons (uVar 0) (uCons (uC (.int 6)) uNil))) (uC (.int 1))) uNil))) uNil)) (gN 3) (sSeq (sAsg 2 (uCall 2 S_law_sum (uCons (uVar 2) (uCons (uCall 2 S_law_fr (uCons (uBin dSub (uCall 2 S_law_take (uCons (uVar 0) (uCons (uC (.int 40)) uNil))) (uC (.int 8))) (uCons (uBin dAdd (uC (.int 1)) (uCall 2 S_law_take (uCons (uVar 0) (uCons (uC (.int 4)) uNil)))) uNil))) uNil))))
    (sSeq (sIf (uB (uBin dLt (uBin dIx (uVar 2) (uC (.int 0))) (uC (.int 0)))) (sAsg 2 (uTup (uCons (uC (.int 0)) (uCons (uC (.int 1)) uNil)))) sNext)
    (sSeq (sAsg 4 (uFz (uLc (iFn fRng1 (uCons (uCall 2 S_law_take (uCons (uVar 0) (uCons (uC (.int 4)) uNil))) uNil)) (gN 6) uYes (uBin dMulS (uC (.str (Str.ofString "a"))) (uBin dAdd (uC (.int 1)) (uCallN 2 S_law_take (uCons (uVar 0) (uCons (uC (.int 9)) uNil))))) [6])))
    (sSeq (sAsg 5 (uCall 2 S_law_sum (uCons (uVar 2) (uCons (uCall 2 S_law_time (uCons (uVar 0) (uCons (uC (.int 20)) uNil))) uNil))))
    (sIf (uB (uBin dEq (uCall 2 S_law_take (uCons (uVar 0) (uCons (uC (.int 6)) uNil))) (uC (.int 1)))) (sExpr (uMeO 1 mAppend (uCons (uTup (uCons (uVar 5) (uCons (uVar 2) (uCons (uVar 3) (uCons (uVar 4) uNil))))) uNil))) (sExpr (uMeO 1 mAppend (uCons (uTup (uCons (uVar 2) (uCons (uVar 5) (uCons (uVar 3) (uCons (uVar 4) uNil))))) uNil)))))))))
    (sRetO (uMv 1)))))
def S_law_rows : FN := defU 7 u_law_rows
theorem ok_law_rows (m_range : mg "range" = none) (m_int : mg "int" = none) (h_law_take : Has P w K mg base "_law_take" ["_law_box", "_law_many"] 1 (spU (gK K cls) 2 S_law_take)) (h_law_fr : Has P w K mg base "_law_fr" ["_law_top", "_law_bottom"] 1 (spU (gK K cls) 2 S_law_fr)) (h_law_sum : Has P w K mg base "_law_sum" ["_law_one", "_law_two"] 2 (spU (gK K cls) 2 S_law_sum)) (h_law_time : Has P w K mg base "_law_time" ["_law_box", "_law_most"] 2 (spU (gK K cls) 2 S_law_time)) {f : Addr} {fd : FuncData} (F : Fun K "_law_rows" "_law_rows" t_law_rows f fd) :
    FnOk P w K mg base (L2.CX P w) 3 f fd ["_law_box"] (spU (gK K cls) 1 S_law_rows) := by
  refine fnU (N := ["_law_box", "_law_rows_here", "_law_begin", "_law_k", "_law_words", "_law_end_here", "_law_j"]) F sc_law_rows (by decide) fun cdv A outer s H E hr tk => ?_
  exact (pss_consU (ps_asgO 1 sc_law_rows.nd (pu_lstO pa_nilU))
    (pss_consU (ps_asgU 2 sc_law_rows.nd (pu_tup (pa_consU pu_int (pa_consU pu_int pa_nilU))))
    (pss_consU (ps_forU (passes_of rfl) rfl (pi_rng1 m_range (pa_consU (pu_ix ix_seq s_ix (pu_lst (pa_consU (pu_call h_law_take (hr.mono (by decide)) tk (pa_consU (pu_var 0) (pa_consU pu_int pa_nilU))) (pa_consU (pu_call h_law_take (hr.mono (by decide)) tk (pa_consU (pu_var 0) (pa_consU pu_int pa_nilU))) pa_nilU))) (pu_fnT call_int1 s_int m_int (by decide +kernel) (pa_consU (pu_cmp (op_eqU hr.units) s_eq (pu_call h_law_take (hr.mono (by decide)) tk (pa_consU (pu_var 0) (pa_consU pu_int pa_nilU))) pu_int (nomark _)) pa_nilU))) pa_nilU)) (pg_nameU 3 sc_law_rows.nd) (pss_consU (ps_asgU 2 sc_law_rows.nd (pu_call h_law_sum (hr.mono (by decide)) tk (pa_consU (pu_var 2) (pa_consU (pu_call h_law_fr (hr.mono (by decide)) tk (pa_consU (pu_bin op_sub s_sub (pu_call h_law_take (hr.mono (by decide)) tk (pa_consU (pu_var 0) (pa_consU pu_int pa_nilU))) pu_int) (pa_consU (pu_bin op_addU s_add pu_int (pu_call h_law_take (hr.mono (by decide)) tk (pa_consU (pu_var 0) (pa_consU pu_int pa_nilU)))) pa_nilU))) pa_nilU))))
    (pss_consU (ps_ifU (pt_cmpU op_lt s_lt (pu_ix ix_seq s_ix (pu_var 2) pu_int) pu_int (nomark _)) (pss_oneU (ps_asgU 2 sc_law_rows.nd (pu_tup (pa_consU pu_int (pa_consU pu_int pa_nilU))))) pss_nilU)
    (pss_consU (by exact (ps_setLcU 4 [("_law_j", 6)] rfl sc_law_rows.nd (sw_true rfl rfl rfl (by decide +kernel)) (pi_rng1 m_range (pa_consU (pu_call h_law_take (hr.mono (by decide)) tk (pa_consU (pu_var 0) (pa_consU pu_int pa_nilU))) pa_nilU)) (blkOk_by (N := ["_law_box", "_law_rows_here", "_law_begin", "_law_k", "_law_words", "_law_end_here", "_law_j"]) (sc := defScope t_law_rows) (by decide +kernel)) (fun _ _ _ _ _ => (pg_nameC 6 sc_law_rows.nd)) (fun _ _ _ _ _ => pts_nilU) (fun _ _ _ _ _ => (pu_bin op_mulS s_mulS pu_str (pu_bin op_addU s_add pu_int (pu_callN h_law_take (hr.mono (by decide)) (pa_consU (pu_var 0) (pa_consU pu_int pa_nilU))))))))
    (pss_consU (ps_asgU 5 sc_law_rows.nd (pu_call h_law_sum (hr.mono (by decide)) tk (pa_consU (pu_var 2) (pa_consU (pu_call h_law_time (hr.mono (by decide)) tk (pa_consU (pu_var 0) (pa_consU pu_int pa_nilU))) pa_nilU))))
    (pss_oneU (ps_ifU (pt_cmpU (op_eqU hr.units) s_eq (pu_call h_law_take (hr.mono (by decide)) tk (pa_consU (pu_var 0) (pa_consU pu_int pa_nilU))) pu_int (nomark _)) (pss_oneU (ps_exprU (pu_meO 1 PySem.F.slot_list_append PySem.F.type_list_append mt_append u_append (pe_slot 1) (pa_consU (pu_tup (pa_consU (pu_var 5) (pa_consU (pu_var 2) (pa_consU (pu_var 3) (pa_consU (pu_var 4) pa_nilU))))) pa_nilU)))) (pss_oneU (ps_exprU (pu_meO 1 PySem.F.slot_list_append PySem.F.type_list_append mt_append u_append (pe_slot 1) (pa_consU (pu_tup (pa_consU (pu_var 2) (pa_consU (pu_var 5) (pa_consU (pu_var 3) (pa_consU (pu_var 4) pa_nilU))))) pa_nilU)))))))))))
    (pss_oneU (ps_retO (pu_mv 1))))))
/-! _law_rule -/
abbrev t_law_rule : Stmt := top 34
theorem sc_law_rule : FnScope ["_law_box", "_law_each", "_law_gap"] ["_law_box"] (defScope t_law_rule) := ⟨rfl, rfl, rfl, by decide +kernel, rfl, by decide +kernel, by decide +kernel⟩
def u_law_rule : US :=
    (sSeq (sAsg 1 (uCall 2 S_law_fr (uCons (uCall 2 S_law_take (uCons (uVar 0) (uCons (uC (.int 8)) uNil))) (uCons (uBin dAdd (uC (.int 1)) (uCall 2 S_law_take (uCons (uVar 0) (uCons (uC (.int 3)) uNil)))) uNil))))
    (sSeq (sAsg 2 (uCall 2 S_law_fr (uCons (uCall 2 S_law_take (uCons (uVar 0) (uCons (uC (.int 6)) uNil))) (uCons (uBin dAdd (uC (.int 1)) (uCall 2 S_law_take (uCons (uVar 0) (uCons (uC (.int 3)) uNil)))) uNil))))
    (sRet (uTup (uCons (uVar 1) (uCons (uVar 2) (uCons (uCall 2 S_law_time (uCons (uVar 0) (uCons (uC (.int 6)) uNil))) (uCons (uBin dAdd (uC (.int 1)) (uCall 2 S_law_take (uCons (uVar 0) (uCons (uC (.int 9)) uNil)))) (uCons (uBin dAdd (uC (.int 1)) (uCall 2 S_law_take (uCons (uVar 0) (uCons (uC (.int 9)) uNil)))) uNil)))))))))
def S_law_rule : FN := defU 3 u_law_rule
theorem ok_law_rule (h_law_take : Has P w K mg base "_law_take" ["_law_box", "_law_many"] 1 (spU (gK K cls) 2 S_law_take)) (h_law_fr : Has P w K mg base "_law_fr" ["_law_top", "_law_bottom"] 1 (spU (gK K cls) 2 S_law_fr)) (h_law_time : Has P w K mg base "_law_time" ["_law_box", "_law_most"] 2 (spU (gK K cls) 2 S_law_time)) {f : Addr} {fd : FuncData} (F : Fun K "_law_rule" "_law_rule" t_law_rule f fd) :
    FnOk P w K mg base (L2.CX P w) 3 f fd ["_law_box"] (spU (gK K cls) 1 S_law_rule) := by
  refine fnU (N := ["_law_box", "_law_each", "_law_gap"]) F sc_law_rule (by decide) fun cdv A outer s H E hr tk => ?_
  exact (pss_consU (ps_asgU 1 sc_law_rule.nd (pu_call h_law_fr (hr.mono (by decide)) tk (pa_consU (pu_call h_law_take (hr.mono (by decide)) tk (pa_consU (pu_var 0) (pa_consU pu_int pa_nilU))) (pa_consU (pu_bin op_addU s_add pu_int (pu_call h_law_take (hr.mono (by decide)) tk (pa_consU (pu_var 0) (pa_consU pu_int pa_nilU)))) pa_nilU))))
    (pss_consU (ps_asgU 2 sc_law_rule.nd (pu_call h_law_fr (hr.mono (by decide)) tk (pa_consU (pu_call h_law_take (hr.mono (by decide)) tk (pa_consU (pu_var 0) (pa_consU pu_int pa_nilU))) (pa_consU (pu_bin op_addU s_add pu_int (pu_call h_law_take (hr.mono (by decide)) tk (pa_consU (pu_var 0) (pa_consU pu_int pa_nilU)))) pa_nilU))))
    (pss_oneU (ps_retU (pu_tup (pa_consU (pu_var 1) (pa_consU (pu_var 2) (pa_consU (pu_call h_law_time (hr.mono (by decide)) tk (pa_consU (pu_var 0) (pa_consU pu_int pa_nilU))) (pa_consU (pu_bin op_addU s_add pu_int (pu_call h_law_take (hr.mono (by decide)) tk (pa_consU (pu_var 0) (pa_consU pu_int pa_nilU)))) (pa_consU (pu_bin op_addU s_add pu_int (pu_call h_law_take (hr.mono (by decide)) tk (pa_consU (pu_var 0) (pa_consU pu_int pa_nilU)))) pa_nilU))))))))))
/-! _law_far -/
abbrev t_law_far : Stmt := top 35
theorem sc_law_far : FnScope ["_law_rows_here", "_law_rule_here", "_law_found", "_law_row", "_law_one", "_law_word"] ["_law_rows_here", "_law_rule_here"] (defScope t_law_far) := ⟨rfl, rfl, rfl, by decide +kernel, rfl, by decide +kernel, by decide +kernel⟩
def u_law_far : US :=
    (sSeq (sAsgO 2 (uLstO uNil))
    (sSeq (sFor (iLst (uVar 0)) (gN 3) (sSeq (sIf (uB (uBinV dNe 2 (uLst uNil))) (sExpr (uMeO 2 mAppend (uCons (uBin dIx (uVar 1) (uC (.int 1))) uNil))) sNext)
    (sSeq (sAsg 4 (uCall 2 S_law_times (uCons (uTup (uCons (uFn fSum (uCons (uFz (uLc (iLst (uBin dIx (uVar 3) (uC (.int 3)))) (gN 5) uYes (uFn fLen (uCons (uVar 5) uNil)) [5])) uNil)) (uCons (uC (.int 1)) uNil))) (uCons (uBin dIx (uVar 1) (uC (.int 0))) uNil))))
    (sExpr (uMeO 2 mAppend (uCons (uIf (uB (uCall 2 S_law_low (uCons (uVar 4) (uCons (uBin dIx (uVar 1) (uC (.int 2))) uNil)))) (uBin dIx (uVar 1) (uC (.int 2))) (uVar 4)) uNil))))))
    (sRetO (uMv 2))))
def S_law_far : FN := defU 6 u_law_far
theorem ok_law_far (m_sum : mg "sum" = none) (m_len : mg "len" = none) (h_law_times : Has P w K mg base "_law_times" ["_law_one", "_law_two"] 2 (spU (gK K cls) 2 S_law_times)) (h_law_low : Has P w K mg base "_law_low" ["_law_one", "_law_two"] 1 (spU (gK K cls) 2 S_law_low)) {f : Addr} {fd : FuncData} (F : Fun K "_law_far" "_law_far" t_law_far f fd) :
    FnOk P w K mg base (L2.CX P w) 3 f fd ["_law_rows_here", "_law_rule_here"] (spU (gK K cls) 2 S_law_far) := by
  refine fnU (N := ["_law_rows_here", "_law_rule_here", "_law_found", "_law_row", "_law_one", "_law_word"]) F sc_law_far (by decide) fun cdv A outer s H E hr tk => ?_
  exact (pss_consU (ps_asgO 2 sc_law_far.nd (pu_lstO pa_nilU))
    (pss_consU (ps_forU (passes_of rfl) rfl (pi_listU rfl (pu_var 0)) (pg_nameU 3 sc_law_far.nd) (pss_consU (ps_ifU (pt_cmpV 2 (op_neU hr.units) s_ne (pe_slot 2) (pu_lst pa_nilU) (nomark _)) (pss_oneU (ps_exprU (pu_meO 2 PySem.F.slot_list_append PySem.F.type_list_append mt_append u_append (pe_slot 2) (pa_consU (pu_ix ix_seq s_ix (pu_var 1) pu_int) pa_nilU)))) pss_nilU)
    (pss_consU (ps_asgU 4 sc_law_far.nd (pu_call h_law_times (hr.mono (by decide)) tk (pa_consU (pu_tup (pa_consU (pu_fn (cr_sum rfl) s_sum m_sum (by decide +kernel) (pa_consU (pu_fz (by exact (pu_lc [("_law_word", 5)] rfl sc_law_far.nd (pi_listU rfl (pu_ix ix_seq s_ix (pu_var 3) pu_int)) (blkOk_by (N := ["_law_rows_here", "_law_rule_here", "_law_found", "_law_row", "_law_one", "_law_word"]) (sc := defScope t_law_far) (by decide +kernel)) (fun _ _ _ _ _ => (pg_nameC 5 sc_law_far.nd)) (fun _ _ _ _ _ => pts_nilU) (fun _ _ _ _ _ => (pu_fn call_lenU s_len m_len PySem.boot_len (pa_consU (pu_var 5) pa_nilU)))))) pa_nilU)) (pa_consU pu_int pa_nilU))) (pa_consU (pu_ix ix_seq s_ix (pu_var 1) pu_int) pa_nilU))))
    (pss_oneU (ps_exprU (pu_meO 2 PySem.F.slot_list_append PySem.F.type_list_append mt_append u_append (pe_slot 2) (pa_consU (pu_if (pt_of (pu_call h_law_low (hr.mono (by decide)) tk (pa_consU (pu_var 4) (pa_consU (pu_ix ix_seq s_ix (pu_var 1) pu_int) pa_nilU)))) (pu_ix ix_seq s_ix (pu_var 1) pu_int) (pu_var 4)) pa_nilU)))))))
    (pss_oneU (ps_retO (pu_mv 2)))))
/-! _law_end -/
abbrev t_law_end : Stmt := top 36
theorem sc_law_end : FnScope ["_law_box", "_law_gaps", "_law_whole", "_law_one", "_law_way"] ["_law_box", "_law_gaps"] (defScope t_law_end) := ⟨rfl, rfl, rfl, by decide +kernel, rfl, by decide +kernel, by decide +kernel⟩
def u_law_end : US :=
    (sSeq (sAsg 2 (uTup (uCons (uC (.int 0)) (uCons (uC (.int 1)) uNil))))
    (sSeq (sFor (iLst (uVar 1)) (gN 3) (sAsg 2 (uCall 2 S_law_sum (uCons (uVar 2) (uCons (uVar 3) uNil)))))
    (sSeq (sAsg 4 (uCall 2 S_law_take (uCons (uVar 0) (uCons (uC (.int 8)) uNil))))
    (sSeq (sIf (uB (uBin dEq (uVar 4) (uC (.int 0)))) (sRet (uVar 2)) sNext)
    (sSeq (sIf (uAnd (uB (uBin dEq (uVar 4) (uC (.int 1)))) (uB (uBin dGt (uBin dIx (uVar 2) (uC (.int 0))) (uC (.int 0))))) (sRet (uCall 2 S_law_times (uCons (uVar 2) (uCons (uCall 2 S_law_fr (uCons (uCall 2 S_law_take (uCons (uVar 0) (uCons (uC (.int 10)) uNil))) (uCons (uC (.int 10)) uNil))) uNil)))) sNext)
    (sRet (uCall 2 S_law_sum (uCons (uVar 2) (uCons (uCall 2 S_law_time (uCons (uVar 0) (uCons (uBin dIx (uLst (uCons (uC (.int 10)) (uCons (uC (.int 200)) uNil))) (uBin dMod (uVar 4) (uC (.int 2)))) uNil))) uNil)))))))))
def S_law_end : FN := defU 5 u_law_end
theorem ok_law_end (h_law_sum : Has P w K mg base "_law_sum" ["_law_one", "_law_two"] 2 (spU (gK K cls) 2 S_law_sum)) (h_law_take : Has P w K mg base "_law_take" ["_law_box", "_law_many"] 1 (spU (gK K cls) 2 S_law_take)) (h_law_fr : Has P w K mg base "_law_fr" ["_law_top", "_law_bottom"] 1 (spU (gK K cls) 2 S_law_fr)) (h_law_times : Has P w K mg base "_law_times" ["_law_one", "_law_two"] 2 (spU (gK K cls) 2 S_law_times)) (h_law_time : Has P w K mg base "_law_time" ["_law_box", "_law_most"] 2 (spU (gK K cls) 2 S_law_time)) {f : Addr} {fd : FuncData} (F : Fun K "_law_end" "_law_end" t_law_end f fd) :
    FnOk P w K mg base (L2.CX P w) 3 f fd ["_law_box", "_law_gaps"] (spU (gK K cls) 2 S_law_end) := by
  refine fnU (N := ["_law_box", "_law_gaps", "_law_whole", "_law_one", "_law_way"]) F sc_law_end (by decide) fun cdv A outer s H E hr tk => ?_
  exact (pss_consU (ps_asgU 2 sc_law_end.nd (pu_tup (pa_consU pu_int (pa_consU pu_int pa_nilU))))
    (pss_consU (ps_forU (passes_of rfl) rfl (pi_listU rfl (pu_var 1)) (pg_nameU 3 sc_law_end.nd) (pss_oneU (ps_asgU 2 sc_law_end.nd (pu_call h_law_sum (hr.mono (by decide)) tk (pa_consU (pu_var 2) (pa_consU (pu_var 3) pa_nilU))))))
    (pss_consU (ps_asgU 4 sc_law_end.nd (pu_call h_law_take (hr.mono (by decide)) tk (pa_consU (pu_var 0) (pa_consU pu_int pa_nilU))))
    (pss_consU (ps_ifU (pt_cmpU (op_eqU hr.units) s_eq (pu_var 4) pu_int (nomark _)) (pss_oneU (ps_retU (pu_var 2))) pss_nilU)
    (pss_consU (ps_ifU (PW.pt (pw_andU (pt_cmpU (op_eqU hr.units) s_eq (pu_var 4) pu_int (nomark _)) (pw_and1U (pt_cmpU op_gt s_gt (pu_ix ix_seq s_ix (pu_var 2) pu_int) pu_int (nomark _))))) (pss_oneU (ps_retU (pu_call h_law_times (hr.mono (by decide)) tk (pa_consU (pu_var 2) (pa_consU (pu_call h_law_fr (hr.mono (by decide)) tk (pa_consU (pu_call h_law_take (hr.mono (by decide)) tk (pa_consU (pu_var 0) (pa_consU pu_int pa_nilU))) (pa_consU pu_int pa_nilU))) pa_nilU))))) pss_nilU)
    (pss_oneU (ps_retU (pu_call h_law_sum (hr.mono (by decide)) tk (pa_consU (pu_var 2) (pa_consU (pu_call h_law_time (hr.mono (by decide)) tk (pa_consU (pu_var 0) (pa_consU (pu_ix ix_seq s_ix (pu_lst (pa_consU pu_int (pa_consU pu_int pa_nilU))) (pu_bin op_modN s_mod (pu_var 4) pu_int)) pa_nilU))) pa_nilU))))))))))
/-! _law_wanted -/
abbrev t_law_wanted : Stmt := top 37
theorem sc_law_wanted : FnScope ["_law_rows_here", "_law_found", "_law_row"] ["_law_rows_here"] (defScope t_law_wanted) := ⟨rfl, rfl, rfl, by decide +kernel, rfl, by decide +kernel, by decide +kernel⟩
def u_law_wanted : US :=
    (sSeq (sAsg 1 (uLst uNil))
    (sSeq (sForX (uVar 0) (gN 2) (sAsg 1 (uBin dAdd (uVar 1) (uLst (uCons (uBin dIx (uVar 2) (uC (.int 0))) (uCons (uBin dIx (uVar 2) (uC (.int 1))) uNil))))))
    (sRet (uVar 1))))
def S_law_wanted : FN := defU 3 u_law_wanted
theorem ok_law_wanted {f : Addr} {fd : FuncData} (F : Fun K "_law_wanted" "_law_wanted" t_law_wanted f fd) :
    FnOk P w K mg base (L2.CX P w) 1 f fd ["_law_rows_here"] (spU (gK K cls) 1 S_law_wanted) := by
  refine fnU (N := ["_law_rows_here", "_law_found", "_law_row"]) F sc_law_wanted (by decide) fun cdv A outer s H E hr tk => ?_
  exact (pss_consU (ps_asgU 1 sc_law_wanted.nd (pu_lst pa_nilU))
    (pss_consU (ps_forX (passes_of rfl) rfl rfl (pu_var 0) (pg_nameU 2 sc_law_wanted.nd) (pss_oneU (ps_asgU 1 sc_law_wanted.nd (pu_bin op_addU s_add (pu_var 1) (pu_lst (pa_consU (pu_ix ix_seq s_ix (pu_var 2) pu_int) (pa_consU (pu_ix ix_seq s_ix (pu_var 2) pu_int) pa_nilU)))))))
    (pss_oneU (ps_retU (pu_var 1)))))
/-! _law_cost -/
abbrev t_law_cost : Stmt := top 38
theorem sc_law_cost : FnScope ["_law_wanted_here", "_law_times_here", "_law_rule_here", "_law_whole", "_law_k", "_law_far_here"] ["_law_wanted_here", "_law_times_here", "_law_rule_here"] (defScope t_law_cost) := ⟨rfl, rfl, rfl, by decide +kernel, rfl, by decide +kernel, by decide +kernel⟩
def u_law_cost : US :=
    (sSeq (sAsg 3 (uTup (uCons (uC (.int 0)) (uCons (uC (.int 1)) uNil))))
    (sSeq (sFor (iFn fRng1 (uCons (uFn fLen (uCons (uVar 0) uNil)) uNil)) (gN 4) (sSeq (sAsg 5 (uCall 2 S_law_minus (uCons (uBin dIx (uVar 1) (uVar 4)) (uCons (uBin dIx (uVar 0) (uVar 4)) uNil))))
    (sAsg 3 (uCall 2 S_law_sum (uCons (uVar 3) (uCons (uCall 2 S_law_times (uCons (uTup (uCons (uFn fAbs (uCons (uBin dIx (uVar 5) (uC (.int 0))) uNil)) (uCons (uBin dIx (uVar 5) (uC (.int 1))) uNil))) (uCons (uTup (uCons (uBin dIx (uVar 2) (uBin dAdd (uC (.int 3)) (uBin dMod (uVar 4) (uC (.int 2))))) (uCons (uC (.int 1)) uNil))) uNil))) uNil))))))
    (sRet (uVar 3))))
def S_law_cost : FN := defU 6 u_law_cost
theorem ok_law_cost (m_range : mg "range" = none) (m_len : mg "len" = none) (m_abs : mg "abs" = none) (h_law_minus : Has P w K mg base "_law_minus" ["_law_one", "_law_two"] 2 (spU (gK K cls) 2 S_law_minus)) (h_law_times : Has P w K mg base "_law_times" ["_law_one", "_law_two"] 2 (spU (gK K cls) 2 S_law_times)) (h_law_sum : Has P w K mg base "_law_sum" ["_law_one", "_law_two"] 2 (spU (gK K cls) 2 S_law_sum)) {f : Addr} {fd : FuncData} (F : Fun K "_law_cost" "_law_cost" t_law_cost f fd) :
    FnOk P w K mg base (L2.CX P w) 3 f fd ["_law_wanted_here", "_law_times_here", "_law_rule_here"] (spU (gK K cls) 3 S_law_cost) := by
  refine fnU (N := ["_law_wanted_here", "_law_times_here", "_law_rule_here", "_law_whole", "_law_k", "_law_far_here"]) F sc_law_cost (by decide) fun cdv A outer s H E hr tk => ?_
  exact (pss_consU (ps_asgU 3 sc_law_cost.nd (pu_tup (pa_consU pu_int (pa_consU pu_int pa_nilU))))
    (pss_consU (ps_forU (passes_of rfl) rfl (pi_rng1 m_range (pa_consU (pu_fn call_lenU s_len m_len PySem.boot_len (pa_consU (pu_var 0) pa_nilU)) pa_nilU)) (pg_nameU 4 sc_law_cost.nd) (pss_consU (ps_asgU 5 sc_law_cost.nd (pu_call h_law_minus (hr.mono (by decide)) tk (pa_consU (pu_ix ix_seq s_ix (pu_var 1) (pu_var 4)) (pa_consU (pu_ix ix_seq s_ix (pu_var 0) (pu_var 4)) pa_nilU))))
    (pss_oneU (ps_asgU 3 sc_law_cost.nd (pu_call h_law_sum (hr.mono (by decide)) tk (pa_consU (pu_var 3) (pa_consU (pu_call h_law_times (hr.mono (by decide)) tk (pa_consU (pu_tup (pa_consU (pu_fn call_abs s_abs m_abs boot_abs (pa_consU (pu_ix ix_seq s_ix (pu_var 5) pu_int) pa_nilU)) (pa_consU (pu_ix ix_seq s_ix (pu_var 5) pu_int) pa_nilU))) (pa_consU (pu_tup (pa_consU (pu_ix ix_seq s_ix (pu_var 2) (pu_bin op_addU s_add pu_int (pu_bin op_modN s_mod (pu_var 4) pu_int))) (pa_consU pu_int pa_nilU))) pa_nilU))) pa_nilU)))))))
    (pss_oneU (ps_retU (pu_var 3)))))
/-! _law_moved -/
abbrev t_law_moved : Stmt := top 39
theorem sc_law_moved : FnScope ["_law_rows_here", "_law_rule_here", "_law_end_here", "e"] ["_law_rows_here", "_law_rule_here", "_law_end_here"] (defScope t_law_moved) := ⟨rfl, rfl, rfl, by decide +kernel, rfl, by decide +kernel, by decide +kernel⟩
def u_law_moved : US :=
    (sTryAs 3 knl_ReelError (sRet (uCall 3 S_moved (uCons (uVar 0) (uCons (uVar 1) (uCons (uVar 2) uNil))))) (sRet (uTup (uCons (uC (.str (Str.ofString "tight"))) (uCons (uAndV (uIsE 3 knl_TooTight) (uIsE 3 knl_ValueError)) uNil)))))
def S_law_moved : FN := defU 4 u_law_moved
theorem ok_law_moved (m_isinstance : mg "isinstance" = none) (m_ValueError : mg "ValueError" = none) (kn_TooTight : KnOk K cls (.ref (cls "TooTight")) knl_TooTight) (ec_ReelError : EcOk K cls knl_ReelError) (f_TooTight : ExF K mg cls "TooTight") (kn_ValueError : KnOk K cls (.type "ValueError") knl_ValueError) (f_ReelError : ExF K mg cls "ReelError") (kn_ReelError : KnOk K cls (.ref (cls "ReelError")) knl_ReelError) (h_moved : Has P w K mg base "moved" ["rows", "rule", "end"] 4 (spU (gK K cls) 3 S_moved)) {f : Addr} {fd : FuncData} (F : Fun K "_law_moved" "_law_moved" t_law_moved f fd) :
    FnOk P w K mg base (L2.CX P w) 5 f fd ["_law_rows_here", "_law_rule_here", "_law_end_here"] (spU (gK K cls) 3 S_law_moved) := by
  refine fnU (N := ["_law_rows_here", "_law_rule_here", "_law_end_here", "e"]) F sc_law_moved (by decide) fun cdv A outer s H E hr tk => ?_
  exact (pss_oneU (ps_tryAsU 3 rfl rfl sc_law_moved.nd rfl rfl rfl f_ReelError knl_ReelError kn_ReelError rfl tk (fun W pn xe tk _ => (pss_oneU (ps_retU (pu_call h_moved (hr.mono (by decide)) tk (pa_consU (pu_var 0) (pa_consU (pu_var 1) (pa_consU (pu_var 2) pa_nilU))))))) (fun a oe c pn hz hd hl => (pss_oneU (ps_retU (pu_tup (pa_consU pu_str (pa_consU (pu_and (pu_isEO 3 knl_TooTight hz hd (ec_ReelError.get hl) kn_TooTight f_TooTight m_isinstance rfl rfl rfl (by first | exact Or.inl rfl | exact Or.inr (Or.inl rfl) | exact Or.inr (Or.inr rfl))) (pu_one (pu_isEV 3 knl_ValueError hz hd (ec_ReelError.get hl) kn_ValueError m_ValueError m_isinstance rfl rfl rfl (by first | exact Or.inl rfl | exact Or.inr (Or.inl rfl) | exact Or.inr (Or.inr rfl))))) pa_nilU))))))))
/-! law -/
abbrev t_law : Stmt := top 40
theorem sc_law : FnScope ["_law_script", "_law_box", "_law_rows_here", "_law_rule_here", "_law_gaps", "_law_end_here", "_law_handed", "_law_found", "_law_left", "_law_one", "_law_times_here", "_law_k", "_law_kept", "_law_cost_here", "_law_row", "_law_pair", "_law_time_here"] ["_law_script"] (defScope t_law) := ⟨rfl, rfl, rfl, by decide +kernel, rfl, by decide +kernel, by decide +kernel⟩
def u_law : US :=
    (sSeq (sAsg 1 (uCall 1 S_law_begun (uCons (uVar 0) uNil)))
    (sSeq (sAsg 2 (uCall 1 S_law_rows (uCons (uVar 1) uNil)))
    (sSeq (sAsg 3 (uCall 1 S_law_rule (uCons (uVar 1) uNil)))
    (sSeq (sAsg 4 (uCall 2 S_law_far (uCons (uVar 2) (uCons (uVar 3) uNil))))
    (sSeq (sAsg 5 (uCall 2 S_law_end (uCons (uVar 1) (uCons (uVar 4) uNil))))
    (sSeq (sAsg 6 (uFz (uLc (iLst (uVar 2)) (gN 14) uYes (uTup (uCons (uBinX dIx (uVar 14) (uC (.int 0))) (uCons (uBinX dIx (uVar 14) (uC (.int 1))) (uCons (uBinX dIx (uVar 14) (uC (.int 2))) (uCons (uFz (uFnOX fList (uCons (uBinX dIx (uVar 14) (uC (.int 3))) uNil))) uNil))))) [14])))
    (sSeq (sAsg 7 (uCall 3 S_law_moved (uCons (uVar 6) (uCons (uVar 3) (uCons (uVar 5) uNil)))))
    (sSeq (sAsg 8 (uVar 5))
    (sSeq (sFor (iLst (uVar 4)) (gN 9) (sAsg 8 (uCall 2 S_law_minus (uCons (uVar 8) (uCons (uVar 9) uNil)))))
    (sSeq (sIf (uB (uBinX dLt (uBinX dIx (uVar 8) (uC (.int 0))) (uC (.int 0)))) (sRet (uAndV (uBinX dEq (uVar 7) (uTup (uCons (uC (.str (Str.ofString "tight"))) (uCons (uC (.bl true)) uNil)))) (uBinX dEq (uVar 6) (uVar 2)))) sNext)
    (sSeq (sIf (uOr (uNot (uB (uUnX (dIsi "tuple") (uVar 7)))) (uOr (uB (uBinX dNe (uFnX fLen (uCons (uVar 7) uNil)) (uC (.int 3)))) (uNot (uB (uUnX (dIsi "list") (uBinX dIx (uVar 7) (uC (.int 0)))))))) (sRet (uC (.bl false))) sNext)
    (sSeq (sIf (uB (uBinX dNe (uFnX fLen (uCons (uBinX dIx (uVar 7) (uC (.int 0))) uNil)) (uFnX fLen (uCons (uVar 2) uNil)))) (sRet (uC (.bl false))) sNext)
    (sSeq (sIf (uB (uBinX dNe (uVar 6) (uVar 2))) (sRet (uC (.bl false))) sNext)
    (sSeq (sIf (uB (uBinX dNe (uFz (uLcL (uBinX dIx (uVar 7) (uC (.int 0))) (gN 15) (uOr (uNot (uB (uUnX (dIsi "tuple") (uVar 15)))) (uB (uBinX dNe (uFnX fLen (uCons (uVar 15) uNil)) (uC (.int 2))))) (uVar 15) [15])) (uLst uNil))) (sRet (uC (.bl false))) sNext)
    (sSeq (sAsg 10 (uCall 1 S_law_wanted (uCons (uBinX dIx (uVar 7) (uC (.int 0))) uNil)))
    (sSeq (sIf (uB (uBinX dNe (uFz (uLc (iLst (uVar 10)) (gN 16) (uNot (uB (uCallN 2 S_law_alike (uCons (uVar 16) (uCons (uCallN 2 S_law_fr (uCons (uBinX dIx (uVar 16) (uC (.int 0))) (uCons (uBinX dIx (uVar 16) (uC (.int 1))) uNil))) uNil))))) (uVar 16) [16])) (uLst uNil))) (sRet (uC (.bl false))) sNext)
    (sSeq (sFor (iFn fRng2 (uCons (uC (.int 1)) (uCons (uFnX fLen (uCons (uVar 10) uNil)) uNil))) (gN 11) (sIf (uB (uCall 2 S_law_low (uCons (uBinX dIx (uVar 10) (uVar 11)) (uCons (uCall 2 S_law_sum (uCons (uBinX dIx (uVar 10) (uBinX dSub (uVar 11) (uC (.int 1)))) (uCons (uBinX dIx (uVar 4) (uBinX dSub (uVar 11) (uC (.int 1)))) uNil))) uNil)))) (sRet (uC (.bl false))) sNext))
    (sSeq (sIf (uAnd (uB (uBinX dNe (uVar 10) (uLst uNil))) (uOr (uB (uBinX dLt (uBinX dIx (uBinX dIx (uVar 10) (uC (.int 0))) (uC (.int 0))) (uC (.int 0)))) (uB (uCall 2 S_law_low (uCons (uVar 5) (uCons (uBinX dIx (uVar 10) (uUn dNeg (uC (.int 1)))) uNil)))))) (sRet (uC (.bl false))) sNext)
    (sSeq (sAsg 12 (uFz (uFnOX fList (uCons (uBinX dIx (uVar 7) (uC (.int 0))) uNil))))
    (sSeq (sExpr (uMeL (uBinX dIx (uVar 7) (uC (.int 0))) mClear uNil))
    (sSeq (sExpr (uMeL (uBinX dIx (uVar 7) (uC (.int 2))) mClear uNil))
    (sSeq (sAsg 13 (uCall 3 S_law_cost (uCons (uCall 1 S_law_wanted (uCons (uVar 2) uNil)) (uCons (uVar 10) (uCons (uVar 3) uNil)))))
    (sRet (uAndV (uCall 2 S_law_alike (uCons (uBinX dIx (uVar 7) (uC (.int 1))) (uCons (uVar 13) uNil))) (uBinX dEq (uBinX dIx (uCall 3 S_law_moved (uCons (uVar 6) (uCons (uVar 3) (uCons (uVar 5) uNil)))) (uC (.int 0))) (uVar 12))))))))))))))))))))))))))
def S_law : FN := defU 17 u_law
theorem ok_law (m_list : mg "list" = none) (m_isinstance : mg "isinstance" = none) (m_tuple : mg "tuple" = none) (m_len : mg "len" = none) (m_range : mg "range" = none) (h_law_begun : Has P w K mg base "_law_begun" ["_law_script"] 1 (spU (gK K cls) 1 S_law_begun)) (h_law_rows : Has P w K mg base "_law_rows" ["_law_box"] 3 (spU (gK K cls) 1 S_law_rows)) (h_law_rule : Has P w K mg base "_law_rule" ["_law_box"] 3 (spU (gK K cls) 1 S_law_rule)) (h_law_far : Has P w K mg base "_law_far" ["_law_rows_here", "_law_rule_here"] 3 (spU (gK K cls) 2 S_law_far)) (h_law_end : Has P w K mg base "_law_end" ["_law_box", "_law_gaps"] 3 (spU (gK K cls) 2 S_law_end)) (h_law_moved : Has P w K mg base "_law_moved" ["_law_rows_here", "_law_rule_here", "_law_end_here"] 5 (spU (gK K cls) 3 S_law_moved)) (h_law_minus : Has P w K mg base "_law_minus" ["_law_one", "_law_two"] 2 (spU (gK K cls) 2 S_law_minus)) (h_law_wanted : Has P w K mg base "_law_wanted" ["_law_rows_here"] 1 (spU (gK K cls) 1 S_law_wanted)) (h_law_fr : Has P w K mg base "_law_fr" ["_law_top", "_law_bottom"] 1 (spU (gK K cls) 2 S_law_fr)) (h_law_alike : Has P w K mg base "_law_alike" ["_law_found", "_law_due"] 12 (spU (gK K cls) 2 S_law_alike)) (h_law_sum : Has P w K mg base "_law_sum" ["_law_one", "_law_two"] 2 (spU (gK K cls) 2 S_law_sum)) (h_law_low : Has P w K mg base "_law_low" ["_law_one", "_law_two"] 1 (spU (gK K cls) 2 S_law_low)) (h_law_cost : Has P w K mg base "_law_cost" ["_law_wanted_here", "_law_times_here", "_law_rule_here"] 3 (spU (gK K cls) 3 S_law_cost)) {f : Addr} {fd : FuncData} (F : Fun K "law" "law" t_law f fd) :
    FnOk P w K mg base (L2.CX P w) 13 f fd ["_law_script"] (spU (gK K cls) 1 S_law) := by
  refine fnU (N := ["_law_script", "_law_box", "_law_rows_here", "_law_rule_here", "_law_gaps", "_law_end_here", "_law_handed", "_law_found", "_law_left", "_law_one", "_law_times_here", "_law_k", "_law_kept", "_law_cost_here", "_law_row", "_law_pair", "_law_time_here"]) F sc_law (by decide) fun cdv A outer s H E hr tk => ?_
  exact (pss_consU (ps_asgU 1 sc_law.nd (pu_call h_law_begun (hr.mono (by decide)) tk (pa_consU (pu_var 0) pa_nilU)))
    (pss_consU (ps_asgU 2 sc_law.nd (pu_call h_law_rows (hr.mono (by decide)) tk (pa_consU (pu_var 1) pa_nilU)))
    (pss_consU (ps_asgU 3 sc_law.nd (pu_call h_law_rule (hr.mono (by decide)) tk (pa_consU (pu_var 1) pa_nilU)))
    (pss_consU (ps_asgU 4 sc_law.nd (pu_call h_law_far (hr.mono (by decide)) tk (pa_consU (pu_var 2) (pa_consU (pu_var 3) pa_nilU))))
    (pss_consU (ps_asgU 5 sc_law.nd (pu_call h_law_end (hr.mono (by decide)) tk (pa_consU (pu_var 1) (pa_consU (pu_var 4) pa_nilU))))
    (pss_consU (by exact (ps_setLcU 6 [("_law_row", 14)] rfl sc_law.nd (sw_true rfl rfl rfl (by decide +kernel)) (pi_listU rfl (pu_var 2)) (blkOk_by (N := ["_law_script", "_law_box", "_law_rows_here", "_law_rule_here", "_law_gaps", "_law_end_here", "_law_handed", "_law_found", "_law_left", "_law_one", "_law_times_here", "_law_k", "_law_kept", "_law_cost_here", "_law_row", "_law_pair", "_law_time_here"]) (sc := defScope t_law) (by decide +kernel)) (fun _ _ _ _ _ => (pg_nameC 14 sc_law.nd)) (fun _ _ _ _ _ => pts_nilU) (fun _ _ _ _ _ => (pu_tup (pa_consU (pu_ixX ix_seq s_ix (pu_var 14) pu_int) (pa_consU (pu_ixX ix_seq s_ix (pu_var 14) pu_int) (pa_consU (pu_ixX ix_seq s_ix (pu_var 14) pu_int) (pa_consU (pu_fz (pu_listX rfl m_list (pa_consU (pu_ixX ix_seq s_ix (pu_var 14) pu_int) pa_nilU))) pa_nilU))))))))
    (pss_consU (ps_asgU 7 sc_law.nd (pu_call h_law_moved (hr.mono (by decide)) tk (pa_consU (pu_var 6) (pa_consU (pu_var 3) (pa_consU (pu_var 5) pa_nilU)))))
    (pss_consU (ps_asgU 8 sc_law.nd (pu_var 5))
    (pss_consU (ps_forU (passes_of rfl) rfl (pi_listU rfl (pu_var 4)) (pg_nameU 9 sc_law.nd) (pss_oneU (ps_asgU 8 sc_law.nd (pu_call h_law_minus (hr.mono (by decide)) tk (pa_consU (pu_var 8) (pa_consU (pu_var 9) pa_nilU))))))
    (pss_consU (ps_ifU (pt_cmpX op_lt s_lt (pu_ixX ix_seq s_ix (pu_var 8) pu_int) pu_int (nomark _)) (pss_oneU (ps_retU (pu_and (pu_cmpX (op_eqU hr.units) s_eq (pu_var 7) (pu_tup (pa_consU pu_str (pa_consU pu_bl pa_nilU))) (nomark _)) (pu_one (pu_cmpX (op_eqU hr.units) s_eq (pu_var 6) (pu_var 2) (nomark _)))))) pss_nilU)
    (pss_consU (ps_ifU (PW.pt (pw_orU (pt_notU (pt_of (pu_isiX "tuple" m_isinstance m_tuple (by decide +kernel) rfl (pu_var 7)))) (pw_orU (pt_cmpX (op_neU hr.units) s_ne (pu_fnX call_lenU s_len m_len PySem.boot_len (pa_consU (pu_var 7) pa_nilU)) pu_int (nomark _)) (pw_or1U (pt_notU (pt_of (pu_isiX "list" m_isinstance m_list (by decide +kernel) rfl (pu_ixX ix_seq s_ix (pu_var 7) pu_int)))))))) (pss_oneU (ps_retU pu_bl)) pss_nilU)
    (pss_consU (ps_ifU (pt_cmpX (op_neU hr.units) s_ne (pu_fnX call_lenU s_len m_len PySem.boot_len (pa_consU (pu_ixX ix_seq s_ix (pu_var 7) pu_int) pa_nilU)) (pu_fnX call_lenU s_len m_len PySem.boot_len (pa_consU (pu_var 2) pa_nilU)) (nomark _)) (pss_oneU (ps_retU pu_bl)) pss_nilU)
    (pss_consU (ps_ifU (pt_cmpX (op_neU hr.units) s_ne (pu_var 6) (pu_var 2) (nomark _)) (pss_oneU (ps_retU pu_bl)) pss_nilU)
    (pss_consU (ps_ifU (pt_cmpX (op_neU hr.units) s_ne (pu_fz (by exact (pu_lcL [("_law_pair", 15)] rfl sc_law.nd (pu_ixX ix_seq s_ix (pu_var 7) pu_int) (blkOk_by (N := ["_law_script", "_law_box", "_law_rows_here", "_law_rule_here", "_law_gaps", "_law_end_here", "_law_handed", "_law_found", "_law_left", "_law_one", "_law_times_here", "_law_k", "_law_kept", "_law_cost_here", "_law_row", "_law_pair", "_law_time_here"]) (sc := defScope t_law) (by decide +kernel)) (fun _ _ _ _ _ => (pg_nameC 15 sc_law.nd)) (fun _ _ _ _ _ => (pts_oneU (PW.pt (pw_orU (pt_notU (pt_of (pu_isiX "tuple" m_isinstance m_tuple (by decide +kernel) rfl (pu_var 15)))) (pw_or1U (pt_cmpX (op_neU hr.units) s_ne (pu_fnX call_lenU s_len m_len PySem.boot_len (pa_consU (pu_var 15) pa_nilU)) pu_int (nomark _))))))) (fun _ _ _ _ _ => (pu_var 15))))) (pu_lst pa_nilU) (nomark _)) (pss_oneU (ps_retU pu_bl)) pss_nilU)
    (pss_consU (ps_asgU 10 sc_law.nd (pu_call h_law_wanted (hr.mono (by decide)) tk (pa_consU (pu_ixX ix_seq s_ix (pu_var 7) pu_int) pa_nilU)))
    (pss_consU (ps_ifU (pt_cmpX (op_neU hr.units) s_ne (pu_fz (by exact (pu_lc [("_law_time_here", 16)] rfl sc_law.nd (pi_listU rfl (pu_var 10)) (blkOk_by (N := ["_law_script", "_law_box", "_law_rows_here", "_law_rule_here", "_law_gaps", "_law_end_here", "_law_handed", "_law_found", "_law_left", "_law_one", "_law_times_here", "_law_k", "_law_kept", "_law_cost_here", "_law_row", "_law_pair", "_law_time_here"]) (sc := defScope t_law) (by decide +kernel)) (fun _ _ _ _ _ => (pg_nameC 16 sc_law.nd)) (fun _ _ _ _ _ => (pts_oneU (pt_notU (pt_of (pu_callN h_law_alike (hr.mono (by decide)) (pa_consU (pu_var 16) (pa_consU (pu_callN h_law_fr (hr.mono (by decide)) (pa_consU (pu_ixX ix_seq s_ix (pu_var 16) pu_int) (pa_consU (pu_ixX ix_seq s_ix (pu_var 16) pu_int) pa_nilU))) pa_nilU))))))) (fun _ _ _ _ _ => (pu_var 16))))) (pu_lst pa_nilU) (nomark _)) (pss_oneU (ps_retU pu_bl)) pss_nilU)
    (pss_consU (ps_forU (passes_of rfl) rfl (pi_rng2 m_range (pa_consU pu_int (pa_consU (pu_fnX call_lenU s_len m_len PySem.boot_len (pa_consU (pu_var 10) pa_nilU)) pa_nilU))) (pg_nameU 11 sc_law.nd) (pss_oneU (ps_ifU (pt_of (pu_call h_law_low (hr.mono (by decide)) tk (pa_consU (pu_ixX ix_seq s_ix (pu_var 10) (pu_var 11)) (pa_consU (pu_call h_law_sum (hr.mono (by decide)) tk (pa_consU (pu_ixX ix_seq s_ix (pu_var 10) (pu_binX op_sub s_sub (pu_var 11) pu_int)) (pa_consU (pu_ixX ix_seq s_ix (pu_var 4) (pu_binX op_sub s_sub (pu_var 11) pu_int)) pa_nilU))) pa_nilU)))) (pss_oneU (ps_retU pu_bl)) pss_nilU)))
    (pss_consU (ps_ifU (PW.pt (pw_andU (pt_cmpX (op_neU hr.units) s_ne (pu_var 10) (pu_lst pa_nilU) (nomark _)) (pw_and1U (PW.pt (pw_orU (pt_cmpX op_lt s_lt (pu_ixX ix_seq s_ix (pu_ixX ix_seq s_ix (pu_var 10) pu_int) pu_int) pu_int (nomark _)) (pw_or1U (pt_of (pu_call h_law_low (hr.mono (by decide)) tk (pa_consU (pu_var 5) (pa_consU (pu_ixX ix_seq s_ix (pu_var 10) (pu_un un_neg s_neg pu_int)) pa_nilU)))))))))) (pss_oneU (ps_retU pu_bl)) pss_nilU)
    (pss_consU (ps_asgU 12 sc_law.nd (pu_fz (pu_listX rfl m_list (pa_consU (pu_ixX ix_seq s_ix (pu_var 7) pu_int) pa_nilU))))
    (pss_consU (ps_exprU (pu_meL0 PySem.F.slot_list_clear PySem.F.type_list_clear mt_clear u_clear (pu_ixX ix_seq s_ix (pu_var 7) pu_int)))
    (pss_consU (ps_exprU (pu_meL0 PySem.F.slot_list_clear PySem.F.type_list_clear mt_clear u_clear (pu_ixX ix_seq s_ix (pu_var 7) pu_int)))
    (pss_consU (ps_asgU 13 sc_law.nd (pu_call h_law_cost (hr.mono (by decide)) tk (pa_consU (pu_call h_law_wanted (hr.mono (by decide)) tk (pa_consU (pu_var 2) pa_nilU)) (pa_consU (pu_var 10) (pa_consU (pu_var 3) pa_nilU)))))
    (pss_oneU (ps_retU (pu_and (pu_call h_law_alike (hr.mono (by decide)) tk (pa_consU (pu_ixX ix_seq s_ix (pu_var 7) pu_int) (pa_consU (pu_var 13) pa_nilU))) (pu_one (pu_cmpX (op_eqU hr.units) s_eq (pu_ixX ix_seq s_ix (pu_call h_law_moved (hr.mono (by decide)) tk (pa_consU (pu_var 6) (pa_consU (pu_var 3) (pa_consU (pu_var 5) pa_nilU)))) pu_int) (pu_var 12) (nomark _))))))))))))))))))))))))))))
end
/-- what the top has left -/
abbrev clsL (mg : Str → Option Value) : Str → Addr := clsOf mg
structure Tx (K : PySem.W.Frag) (mg : Str → Option Value) : Prop where
  a_made : At K mg "made" "made" t_made
  a_added : At K mg "added" "added" t_added
  a_less : At K mg "less" "less" t_less
  a_timed : At K mg "timed" "timed" t_timed
  a_is_below : At K mg "is_below" "is_below" t_is_below
  a_lesser : At K mg "lesser" "lesser" t_lesser
  a_greater : At K mg "greater" "greater" t_greater
  a_summed : At K mg "summed" "summed" t_summed
  a_letters : At K mg "letters" "letters" t_letters
  a_distances : At K mg "distances" "distances" t_distances
  a_Pool_init : AtI K mg (clsOf mg "Pool") "Pool" "Pool.__init__" t_Pool_init
  a_Pool_level : AtM K (clsOf mg "Pool") "level" "Pool.level" t_Pool_level
  a_levels : At K mg "levels" "levels" t_levels
  a_reach : At K mg "reach" "reach" t_reach
  a_slopes : At K mg "slopes" "slopes" t_slopes
  a_prices : At K mg "prices" "prices" t_prices
  a_moved : At K mg "moved" "moved" t_moved
  a_law_begun : At K mg "_law_begun" "_law_begun" t_law_begun
  a_law_take : At K mg "_law_take" "_law_take" t_law_take
  a_law_alike : At K mg "_law_alike" "_law_alike" t_law_alike
  a_law_fr : At K mg "_law_fr" "_law_fr" t_law_fr
  a_law_sum : At K mg "_law_sum" "_law_sum" t_law_sum
  a_law_minus : At K mg "_law_minus" "_law_minus" t_law_minus
  a_law_times : At K mg "_law_times" "_law_times" t_law_times
  a_law_low : At K mg "_law_low" "_law_low" t_law_low
  a_law_time : At K mg "_law_time" "_law_time" t_law_time
  a_law_rows : At K mg "_law_rows" "_law_rows" t_law_rows
  a_law_rule : At K mg "_law_rule" "_law_rule" t_law_rule
  a_law_far : At K mg "_law_far" "_law_far" t_law_far
  a_law_end : At K mg "_law_end" "_law_end" t_law_end
  a_law_wanted : At K mg "_law_wanted" "_law_wanted" t_law_wanted
  a_law_cost : At K mg "_law_cost" "_law_cost" t_law_cost
  a_law_moved : At K mg "_law_moved" "_law_moved" t_law_moved
  a_law : At K mg "law" "law" t_law
  m_abs : mg "abs" = none
  m_sum : mg "sum" = none
  m_len : mg "len" = none
  m_range : mg "range" = none
  m_max : mg "max" = none
  m_list : mg "list" = none
  m_reversed : mg "reversed" = none
  m_int : mg "int" = none
  m_isinstance : mg "isinstance" = none
  m_bool : mg "bool" = none
  m_str : mg "str" = none
  m_tuple : mg "tuple" = none
  m_ValueError : mg "ValueError" = none
  k_NONE : ConstOk K mg "NONE" (.tup [.int 0, .int 1])
  c_Pool : Cls K (clsOf mg "Pool")
  n_Pool_wants : NoAttr K (clsOf mg "Pool") "wants"
  x_TooTight : ExM K mg (clsOf mg) "TooTight"
  kn_TooTight : KnOk K (clsOf mg) (.ref (clsOf mg "TooTight")) knl_TooTight
  ec_ReelError : EcOk K (clsOf mg) knl_ReelError
  f_TooTight : ExF K mg (clsOf mg) "TooTight"
  kn_ValueError : KnOk K (clsOf mg) (.type "ValueError") knl_ValueError
  f_ReelError : ExF K mg (clsOf mg) "ReelError"
  kn_ReelError : KnOk K (clsOf mg) (.ref (clsOf mg "ReelError")) knl_ReelError
theorem law_ok {P : Program} {w : World} {K : PySem.W.Frag} {mg : Str → Option Value} {base : Heap} {f : Addr} {fd : FuncData} (T : Tx K mg) (F : Fun K "law" "law" t_law f fd) : FnOk P w K mg base (L2.CX P w) 13 f fd ["_law_script"] (spU (gK K (clsOf mg)) 1 S_law) := by
  have h_made : Has P w K mg base "made" ["top", "bottom"] 1 (spU (gK K (clsOf mg)) 2 S_made) := T.a_made.has (fun _ _ _ _ _ _ us hl => match us, hl with | [_, _], _ => rfl) fun hm hb F => ok_made T.m_abs F
  have h_added : Has P w K mg base "added" ["one", "two"] 2 (spU (gK K (clsOf mg)) 2 S_added) := T.a_added.has (fun _ _ _ _ _ _ us hl => match us, hl with | [_, _], _ => rfl) fun hm hb F => ok_added h_made F
  have h_less : Has P w K mg base "less" ["one", "two"] 2 (spU (gK K (clsOf mg)) 2 S_less) := T.a_less.has (fun _ _ _ _ _ _ us hl => match us, hl with | [_, _], _ => rfl) fun hm hb F => ok_less h_made F
  have h_timed : Has P w K mg base "timed" ["one", "two"] 2 (spU (gK K (clsOf mg)) 2 S_timed) := T.a_timed.has (fun _ _ _ _ _ _ us hl => match us, hl with | [_, _], _ => rfl) fun hm hb F => ok_timed h_made F
  have h_is_below : Has P w K mg base "is_below" ["one", "two"] 1 (spU (gK K (clsOf mg)) 2 S_is_below) := T.a_is_below.has (fun _ _ _ _ _ _ us hl => match us, hl with | [_, _], _ => rfl) fun hm hb F => ok_is_below  F
  have h_lesser : Has P w K mg base "lesser" ["one", "two"] 2 (spU (gK K (clsOf mg)) 2 S_lesser) := T.a_lesser.has (fun _ _ _ _ _ _ us hl => match us, hl with | [_, _], _ => rfl) fun hm hb F => ok_lesser h_is_below F
  have h_greater : Has P w K mg base "greater" ["one", "two"] 2 (spU (gK K (clsOf mg)) 2 S_greater) := T.a_greater.has (fun _ _ _ _ _ _ us hl => match us, hl with | [_, _], _ => rfl) fun hm hb F => ok_greater h_is_below F
  have h_summed : Has P w K mg base "summed" ["some"] 3 (spU (gK K (clsOf mg)) 1 S_summed) := T.a_summed.has (fun _ _ _ _ _ _ us hl => match us, hl with | [_], _ => rfl) fun hm hb F => ok_summed T.k_NONE h_added F
  have h_letters : Has P w K mg base "letters" ["words"] 1 (spU (gK K (clsOf mg)) 1 S_letters) := T.a_letters.has (fun _ _ _ _ _ _ us hl => match us, hl with | [_], _ => rfl) fun hm hb F => ok_letters T.m_sum T.m_len F
  have h_distances : Has P w K mg base "distances" ["rows", "rule"] 3 (spO (gK K (clsOf mg)) 2 S_distances) := T.a_distances.has (fun _ _ _ _ _ _ us hl => match us, hl with | [_, _], _ => rfl) fun hm hb F => ok_distances T.m_range T.m_len h_letters h_timed h_greater F
  have h_Pool_init : HasI P w K mg base (clsOf mg "Pool") "Pool" ["self", "wants"] 1 (spU (gK K (clsOf mg)) 2 S_Pool_init) := T.a_Pool_init.has (fun _ _ _ _ _ _ us hl => match us, hl with | [_, _], _ => rfl) fun F => ok_Pool_init T.c_Pool T.n_Pool_wants F
  have h_Pool_level : HasM P w K mg base (clsOf mg "Pool") "level" ["self"] 2 (spU (gK K (clsOf mg)) 1 S_Pool_level) := T.a_Pool_level.has (fun _ _ _ _ _ _ us hl => match us, hl with | [_], _ => rfl) fun F => ok_Pool_level T.m_len T.m_sum T.c_Pool T.n_Pool_wants T.k_NONE h_is_below F
  have h_levels : Has P w K mg base "levels" ["wants"] 3 (spO (gK K (clsOf mg)) 1 S_levels) := T.a_levels.has (fun _ _ _ _ _ _ us hl => match us, hl with | [_], _ => rfl) fun hm hb F => ok_levels T.c_Pool T.n_Pool_wants h_Pool_init h_Pool_level h_is_below F
  have h_reach : Has P w K mg base "reach" ["spans", "tight", "free"] 1 (spU (gK K (clsOf mg)) 3 S_reach) := T.a_reach.has (fun _ _ _ _ _ _ us hl => match us, hl with | [_, _, _], _ => rfl) fun hm hb F => ok_reach T.m_max F
  have h_slopes : Has P w K mg base "slopes" ["want", "level"] 2 (spU (gK K (clsOf mg)) 2 S_slopes) := T.a_slopes.has (fun _ _ _ _ _ _ us hl => match us, hl with | [_, _], _ => rfl) fun hm hb F => ok_slopes h_is_below F
  have h_prices : Has P w K mg base "prices" ["wants", "found", "low", "high"] 3 (spO (gK K (clsOf mg)) 4 S_prices) := T.a_prices.has (fun _ _ _ _ _ _ us hl => match us, hl with | [_, _, _, _], _ => rfl) fun hm hb F => ok_prices T.m_len T.m_range T.m_max T.m_list T.m_reversed h_slopes h_reach F
  have h_moved : Has P w K mg base "moved" ["rows", "rule", "end"] 4 (spU (gK K (clsOf mg)) 3 S_moved) := T.a_moved.has (fun _ _ _ _ _ _ us hl => match us, hl with | [_, _, _], _ => rfl) fun hm hb F => ok_moved T.m_range T.m_len T.m_abs T.x_TooTight T.k_NONE h_distances h_summed h_is_below h_added h_less h_levels h_greater h_lesser h_timed h_prices F
  have h_law_begun : Has P w K mg base "_law_begun" ["_law_script"] 1 (spU (gK K (clsOf mg)) 1 S_law_begun) := T.a_law_begun.has (fun _ _ _ _ _ _ us hl => match us, hl with | [_], _ => rfl) fun hm hb F => ok_law_begun T.m_list T.m_int T.m_len F
  have h_law_take : Has P w K mg base "_law_take" ["_law_box", "_law_many"] 1 (spU (gK K (clsOf mg)) 2 S_law_take) := T.a_law_take.has (fun _ _ _ _ _ _ us hl => match us, hl with | [_, _], _ => rfl) fun hm hb F => ok_law_take  F
  have h_law_alike : Has P w K mg base "_law_alike" ["_law_found", "_law_due"] 12 (spU (gK K (clsOf mg)) 2 S_law_alike) := T.a_law_alike.has (fun _ _ _ _ _ _ us hl => match us, hl with | [_, _], _ => rfl) fun hm hb F => ok_law_alike T.m_isinstance T.m_bool T.m_int T.m_str T.m_tuple T.m_list T.m_len T.m_range F hm hb 11
  have h_law_fr : Has P w K mg base "_law_fr" ["_law_top", "_law_bottom"] 1 (spU (gK K (clsOf mg)) 2 S_law_fr) := T.a_law_fr.has (fun _ _ _ _ _ _ us hl => match us, hl with | [_, _], _ => rfl) fun hm hb F => ok_law_fr T.m_abs F
  have h_law_sum : Has P w K mg base "_law_sum" ["_law_one", "_law_two"] 2 (spU (gK K (clsOf mg)) 2 S_law_sum) := T.a_law_sum.has (fun _ _ _ _ _ _ us hl => match us, hl with | [_, _], _ => rfl) fun hm hb F => ok_law_sum h_law_fr F
  have h_law_minus : Has P w K mg base "_law_minus" ["_law_one", "_law_two"] 2 (spU (gK K (clsOf mg)) 2 S_law_minus) := T.a_law_minus.has (fun _ _ _ _ _ _ us hl => match us, hl with | [_, _], _ => rfl) fun hm hb F => ok_law_minus h_law_fr F
  have h_law_times : Has P w K mg base "_law_times" ["_law_one", "_law_two"] 2 (spU (gK K (clsOf mg)) 2 S_law_times) := T.a_law_times.has (fun _ _ _ _ _ _ us hl => match us, hl with | [_, _], _ => rfl) fun hm hb F => ok_law_times h_law_fr F
  have h_law_low : Has P w K mg base "_law_low" ["_law_one", "_law_two"] 1 (spU (gK K (clsOf mg)) 2 S_law_low) := T.a_law_low.has (fun _ _ _ _ _ _ us hl => match us, hl with | [_, _], _ => rfl) fun hm hb F => ok_law_low  F
  have h_law_time : Has P w K mg base "_law_time" ["_law_box", "_law_most"] 2 (spU (gK K (clsOf mg)) 2 S_law_time) := T.a_law_time.has (fun _ _ _ _ _ _ us hl => match us, hl with | [_, _], _ => rfl) fun hm hb F => ok_law_time T.m_int h_law_take h_law_fr F
  have h_law_rows : Has P w K mg base "_law_rows" ["_law_box"] 3 (spU (gK K (clsOf mg)) 1 S_law_rows) := T.a_law_rows.has (fun _ _ _ _ _ _ us hl => match us, hl with | [_], _ => rfl) fun hm hb F => ok_law_rows T.m_range T.m_int h_law_take h_law_fr h_law_sum h_law_time F
  have h_law_rule : Has P w K mg base "_law_rule" ["_law_box"] 3 (spU (gK K (clsOf mg)) 1 S_law_rule) := T.a_law_rule.has (fun _ _ _ _ _ _ us hl => match us, hl with | [_], _ => rfl) fun hm hb F => ok_law_rule h_law_take h_law_fr h_law_time F
  have h_law_far : Has P w K mg base "_law_far" ["_law_rows_here", "_law_rule_here"] 3 (spU (gK K (clsOf mg)) 2 S_law_far) := T.a_law_far.has (fun _ _ _ _ _ _ us hl => match us, hl with | [_, _], _ => rfl) fun hm hb F => ok_law_far T.m_sum T.m_len h_law_times h_law_low F
  have h_law_end : Has P w K mg base "_law_end" ["_law_box", "_law_gaps"] 3 (spU (gK K (clsOf mg)) 2 S_law_end) := T.a_law_end.has (fun _ _ _ _ _ _ us hl => match us, hl with | [_, _], _ => rfl) fun hm hb F => ok_law_end h_law_sum h_law_take h_law_fr h_law_times h_law_time F
  have h_law_wanted : Has P w K mg base "_law_wanted" ["_law_rows_here"] 1 (spU (gK K (clsOf mg)) 1 S_law_wanted) := T.a_law_wanted.has (fun _ _ _ _ _ _ us hl => match us, hl with | [_], _ => rfl) fun hm hb F => ok_law_wanted  F
  have h_law_cost : Has P w K mg base "_law_cost" ["_law_wanted_here", "_law_times_here", "_law_rule_here"] 3 (spU (gK K (clsOf mg)) 3 S_law_cost) := T.a_law_cost.has (fun _ _ _ _ _ _ us hl => match us, hl with | [_, _, _], _ => rfl) fun hm hb F => ok_law_cost T.m_range T.m_len T.m_abs h_law_minus h_law_times h_law_sum F
  have h_law_moved : Has P w K mg base "_law_moved" ["_law_rows_here", "_law_rule_here", "_law_end_here"] 5 (spU (gK K (clsOf mg)) 3 S_law_moved) := T.a_law_moved.has (fun _ _ _ _ _ _ us hl => match us, hl with | [_, _, _], _ => rfl) fun hm hb F => ok_law_moved T.m_isinstance T.m_ValueError T.kn_TooTight T.ec_ReelError T.f_TooTight T.kn_ValueError T.f_ReelError T.kn_ReelError h_moved F
  exact ok_law T.m_list T.m_isinstance T.m_tuple T.m_len T.m_range h_law_begun h_law_rows h_law_rule h_law_far h_law_end h_law_moved h_law_minus h_law_wanted h_law_fr h_law_alike h_law_sum h_law_low h_law_cost F
theorem fin {P : Program} {w : World} {K : PySem.W.Frag} {h : Heap} {mg : Str → Option Value} {fa : Addr} (X : K.In h) (hmg : mg "law" = some (.ref fa)) (T : Tx K mg) :
    ∃ fd : FuncData, (∀ (s : Shared) (u : Value), BindsTo s fd ⟨[u], []⟩ [("_law_script", u)]) ∧ ∀ base : Heap, K.In base → base.Ns mainGlobals mg → FnOk P w K mg base CX0 13 fa fd ["_law_script"] (spLaw S_law K) := by
  obtain ⟨f, fd, e, F⟩ := T.a_law
  have e2 := hmg.symm.trans e
  cases e2
  refine ⟨fd, fun s v => ?_, fun base hK hG => to0 (law_ok T F)⟩
  obtain ⟨oc, od, kV, doc, pm, an, cdv, ct, osl, rfl, lk, hcd⟩ := F.ex
  exact .of_eq rfl
end Dv

namespace Dv
open PySem PySem.Spec PyProof.Rows L2
local macro_rules | `(tactic| walk_at "ev") => `(tactic| try simp (disch := omega) only [sSeq_eq, seq_nx, seq_rt, seq_rto, seq_xc, seq_bk, seq_ct, seq_ite, sAsg, sAsgO, sExpr, sRet, sRetO, sRetN, sIf, sNext, uVar, uC, uUn, uBin, uB, uNot, uAnd, uOr, uTV, uAndV, uOrV, uNotV, uIf, uChain, uNil, uCons, uTup, uLst, uLstO, uFn, uFnO, uFz, uMv, uNew, uCall, uCallO, uCallN, uBinV, uBinW, uBinL, uMeO, uMeL, uFnV, sSetL, sAsgG, gN, gT2, gT3, gT4, iLst, iFn,   bind_ok, bind_xc, of_ok, of_xc, res_ok, res_xc, res0_ok, own_ok, own_xc, fr_nx, fr_rt, fr_rto, fr_xc, fo_rto, fo_xc, liftO_some, dBool_bl, items_lst, items_frz, ent, defU, defO, List.map_cons, List.map_nil, List.length_cons, List.length_nil, List.cons_append, List.nil_append, List.append_nil, List.replicate, List.getElem?_cons_zero, List.getElem?_cons_succ, List.set_cons_zero, List.set_cons_succ, Nat.zero_add, Nat.reduceAdd, Nat.reduceSub, Nat.reduceLeDiff,   le_big, lt_big, atN_zero, atN_one, atN_two, atN_three, setN_zero, setN_one, popAt_zero, len_zero, len_succ, dMul_r, dMul_l, dDiv_pos, dMod_pos, dAdd_int, dSub_int, dNeg_int, dLt_int, dLe_int, dGt_int, dGe_int, dEq_int, dNe_int, dEq_bl, dNe_bl, dEq_nil, dNe_nil, dIx_lst, dIx_tup, fAbs_int, fInt_bl, fInt_int, fLen_lst, fLen_frz, fLen_tup, ite_true, ite_false, if_true, if_false, Bool.not_true, Bool.not_false, decide_true, decide_false, Bool.true_eq_false, Bool.false_eq_true, reduceIte, reduceCtorEq, turn_nx, turn_ct, turn_bk, turn_rt, turn_rto, turn_xc, sFor_eq, goL_nil, eq_self])
local macro_rules | `(tactic| walk_at "evs") => `(tactic| try simp (disch := omega) only [sSeq_eq, seq_nx, seq_rt, seq_rto, seq_xc, seq_bk, seq_ct, seq_ite, sAsg, sAsgO, sExpr, sRet, sRetO, sRetN, sIf, sNext, uVar, uC, uUn, uBin, uB, uNot, uAnd, uOr, uTV, uAndV, uOrV, uNotV, uIf, uChain, uNil, uCons, uTup, uLst, uLstO, uFn, uFnO, uFz, uMv, uNew, uCall, uCallO, uCallN, uBinV, uBinW, uBinL, uMeO, uMeL, uFnV, sSetL, sAsgG, gN, gT2, gT3, gT4, iLst, iFn,   bind_ok, bind_xc, of_ok, of_xc, res_ok, res_xc, res0_ok, own_ok, own_xc, fr_nx, fr_rt, fr_rto, fr_xc, fo_rto, fo_xc, liftO_some, dBool_bl, items_lst, items_frz, ent, defU, defO, List.map_cons, List.map_nil, List.length_cons, List.length_nil, List.cons_append, List.nil_append, List.append_nil, List.replicate, List.getElem?_cons_zero, List.getElem?_cons_succ, List.set_cons_zero, List.set_cons_succ, Nat.zero_add, Nat.reduceAdd, Nat.reduceSub, Nat.reduceLeDiff,   le_big, lt_big, atN_zero, atN_one, atN_two, atN_three, setN_zero, setN_one, popAt_zero, len_zero, len_succ, dMul_r, dMul_l, dDiv_pos, dMod_pos, dAdd_int, dSub_int, dNeg_int, dLt_int, dLe_int, dGt_int, dGe_int, dEq_int, dNe_int, dEq_bl, dNe_bl, dEq_nil, dNe_nil, dIx_lst, dIx_tup, fAbs_int, fInt_bl, fInt_int, fLen_lst, fLen_frz, fLen_tup, ite_true, ite_false, if_true, if_false, Bool.not_true, Bool.not_false, decide_true, decide_false, Bool.true_eq_false, Bool.false_eq_true, reduceIte, reduceCtorEq, turn_nx, turn_ct, turn_bk, turn_rt, turn_rto, turn_xc, sFor_eq, goL_nil, eq_self, *])
theorem take_eq {m : Int} (b : Box) (rest : Om) (h : 0 < m) (h2 : m < 1073741824) : S_law_take [.loc 1, .int m] (bom b rest) = .ok (.int (tkv m b)) (bom (tkn m b) rest) := by
  obtain ⟨ns, s, hs⟩ := b
  cases ns with
  | nil =>
    unfold S_law_take u_law_take bom tkv tkn
    walk_at "ev"
  | cons n r =>
    unfold S_law_take u_law_take bom tkv tkn
    walk_at "ev"
    by_cases h0 : n / m = 0
    · simp only [h0, decide_true, true_or, if_true]
      walk_at "ev"
    · by_cases h1 : n / m = -1
      · simp only [h0, h1, decide_true, decide_false, or_true, if_true]
        walk_at "ev"
      · simp only [h0, h1, decide_false, or_self, if_false]
        walk_at "ev"

theorem begun_eq (ns : List Int) : ∃ b : Box, S_law_begun [.frz (ns.map D.int)] [] = .ok (.loc 1) (bom b []) := by
  obtain ⟨st, r, h, e⟩ := begun_loop (.frz (ns.map D.int)) [] ns 0 none ⟨by decide, by decide⟩
  unfold S_law_begun u_law_begun
  walk_at "ev"
  rw [e]
  walk_at "ev"
  simp only [fList]
  walk_at "ev"
  by_cases hl : (2 : Int) < ((ns.map D.int).length : Int)
  · simp only [hl, decide_true, if_true, Int.mul_one]
    exact ⟨⟨ns, st, h⟩, rfl⟩
  · simp only [hl, decide_false, if_false, Int.mul_zero, Bool.false_eq_true]
    exact ⟨⟨ns, 0, by decide, by decide⟩, rfl⟩
theorem made_gen {t b : Int} (om : Om) (hb : b ≠ 0) (ok1 : divOk t (gN' t b) = true) (ok2 : divOk b (gN' t b) = true) : S_made [.int t, .int b] om = .ok (encF (mk t b)) om := by
  obtain ⟨r', e⟩ := gcd_loop (some (.val (.int t))) (some (.val (.int b))) om b.natAbs (b.natAbs + 1) t.natAbs b.natAbs none (Nat.le_refl _) (Nat.lt_succ_self _)
  have hne := gN'_ne (t := t) hb
  have hle := gN'_le (t := t) hb
  have d1 := dDiv_int (i := t) hne ok1
  have d2 := dDiv_int (i := b) hne ok2
  unfold S_made u_made
  walk_at "ev"
  rw [sWhile_eq, abs_if, abs_if]
  simp only [fuelI, List.getElem?_cons_succ, List.getElem?_cons_zero, Int.natAbs_natCast]
  rw [e]
  have hg : (Nat.gcd t.natAbs b.natAbs : Nat) = Int.gcd t b := rfl
  rw [hg]
  walk_at "ev"
  by_cases hn : b < 0
  · have eg : gN' t b = -(Int.gcd t b : Int) := by unfold gN'; rw [if_pos hn]
    simp only [hn, decide_true, if_true]
    walk_at "ev"
    rw [eg] at d1 d2
    clear hne hle ok1 ok2 hn
    walk_at "evs"
    unfold mk
    rw [eg]
  · have eg : gN' t b = (Int.gcd t b : Int) := by unfold gN'; rw [if_neg hn]
    simp only [hn, decide_false, if_false, Bool.false_eq_true]
    walk_at "ev"
    rw [eg] at d1 d2
    clear hne hle ok1 ok2 hn
    walk_at "evs"
    unfold mk
    rw [eg]
theorem made_eq {t b : Int} (om : Om) (hb : b ≠ 0) (hs : b.natAbs < 2 ^ 9000) : S_made [.int t, .int b] om = .ok (encF (mk t b)) om :=
  made_gen om hb (divOk_bits (Nat.lt_of_le_of_lt (gN'_le hb) hs)) (divOk_bits (Nat.lt_of_le_of_lt (gN'_le hb) hs))
theorem lfr_gen {t b : Int} (om : Om) (hb : b ≠ 0) (ok1 : divOk t (gN' t b) = true) (ok2 : divOk b (gN' t b) = true) : S_law_fr [.int t, .int b] om = .ok (encF (mk t b)) om := by
  obtain ⟨r', e⟩ := gcd_loop (some (.val (.int t))) (some (.val (.int b))) om b.natAbs (b.natAbs + 1) t.natAbs b.natAbs none (Nat.le_refl _) (Nat.lt_succ_self _)
  have hne := gN'_ne (t := t) hb
  have hle := gN'_le (t := t) hb
  have d1 := dDiv_int (i := t) hne ok1
  have d2 := dDiv_int (i := b) hne ok2
  unfold S_law_fr u_law_fr
  walk_at "ev"
  rw [sWhile_eq, abs_if, abs_if]
  simp only [fuelI, List.getElem?_cons_succ, List.getElem?_cons_zero, Int.natAbs_natCast]
  rw [e]
  have hg : (Nat.gcd t.natAbs b.natAbs : Nat) = Int.gcd t b := rfl
  rw [hg]
  walk_at "ev"
  by_cases hn : b < 0
  · have eg : gN' t b = -(Int.gcd t b : Int) := by unfold gN'; rw [if_pos hn]
    simp only [hn, decide_true, if_true]
    walk_at "ev"
    rw [eg] at d1 d2
    rw [Int.zero_sub]
    clear hne hle ok1 ok2 hn
    walk_at "evs"
    unfold mk
    rw [eg]
  · have eg : gN' t b = (Int.gcd t b : Int) := by unfold gN'; rw [if_neg hn]
    simp only [hn, decide_false, if_false, Bool.false_eq_true]
    walk_at "ev"
    rw [eg] at d1 d2
    clear hne hle ok1 ok2 hn
    walk_at "evs"
    unfold mk
    rw [eg]
theorem lfr_eq {t b : Int} (om : Om) (hb : b ≠ 0) (hs : b.natAbs < 2 ^ 9000) : S_law_fr [.int t, .int b] om = .ok (encF (mk t b)) om :=
  lfr_gen om hb (divOk_bits (Nat.lt_of_le_of_lt (gN'_le hb) hs)) (divOk_bits (Nat.lt_of_le_of_lt (gN'_le hb) hs))
theorem alike_seq (n : Nat) (d : D) (ds : List D) (om : Om) (hz : ds.length ≤ 1000) (b1 : dIs d .non = some (.bl false)) (b2 : dIsi "bool" d = some (.bl false)) (b3 : dIsi "int" d = some (.bl false)) (b4 : dIsi "str" d = some (.bl false)) {p q : Bool} (b5 : dIsi "tuple" d = some (.bl p)) (b6 : dIsi "list" d = some (.bl q))
    (b7 : fLen [d] = some (.int ds.length)) (hd : ∀ (k : Nat) (x : D), ds[k]? = some x → dIx d (.int (k : Int)) = some x ∧ R_law_alike n [x, x] om = .ok (.bl true) om) : R_law_alike (n + 1) [d, d] om = .ok (.bl true) om := by
  obtain ⟨r', e⟩ := alike_loop (rec := R_law_alike n) (f := d) (g := d) (om := om) (List.range ds.length) none fun k hk => by
    have hk' : k < ds.length := by simpa using hk
    obtain ⟨e1, e2⟩ := hd k ds[k] (by simp [hk'])
    exact ⟨_, _, e1, e1, e2⟩
  have e9 : fRng1 [.int (ds.length : Int)] = some ((List.range ds.length).map fun (k : Nat) => D.int ((0 : Int) + (k : Int))) := by
    rw [fRng1_eq (by omega)]
    rfl
  clear hd hz
  unfold R_law_alike u_law_alike
  walk_at "evs"
theorem alike_refl : ∀ (n : Nat) (d : D) (om : Om), good n d = true → R_law_alike (n + 1) [d, d] om = .ok (.bl true) om := by
  have prim : ∀ (n : Nat) (d : D) (om : Om), good 0 d = true → R_law_alike (n + 1) [d, d] om = .ok (.bl true) om := by
    intro n d om h
    unfold R_law_alike u_law_alike
    cases d with
    | non =>
      have e1 : dIs .non .non = some (.bl true) := rfl
      walk_at "evs"
    | bl b =>
      have e1 : dIs (.bl b) .non = some (.bl false) := rfl
      have e2 : dIsi "bool" (.bl b) = some (.bl true) := isi_of rfl (kb _ _ _)
      walk_at "evs"
    | int i =>
      have e1 : dIs (.int i) .non = some (.bl false) := rfl
      have e2 : dIsi "bool" (.int i) = some (.bl false) := isi_of rfl (kb _ _ _)
      have e3 : dIsi "int" (.int i) = some (.bl true) := isi_of rfl (kb _ _ _)
      walk_at "evs"
    | str x =>
      have e1 : dIs (.str x) .non = some (.bl false) := rfl
      have e2 : dIsi "bool" (.str x) = some (.bl false) := isi_of rfl (kb _ _ _)
      have e3 : dIsi "int" (.str x) = some (.bl false) := isi_of rfl (kb _ _ _)
      have e4 : dIsi "str" (.str x) = some (.bl true) := isi_of rfl (kb _ _ _)
      have e5 : dEq (.str x) (.str x) = some (.bl true) := by show some (D.bl (decide (x = x))) = _; simp
      walk_at "evs"
    | _ => cases h
  intro n
  induction n with
  | zero => exact prim 0
  | succ n ih =>
    intro d om h
    cases d with
    | tup ds =>
      unfold good at h
      obtain ⟨h1, h2⟩ := Bool.and_eq_true_iff.mp h
      exact alike_seq (n + 1) _ ds om (of_decide_eq_true h1) rfl (isi_of rfl (kb _ _ _)) (isi_of rfl (kb _ _ _)) (isi_of rfl (kb _ _ _)) (isi_of rfl (kb "tuple" "tuple" true)) (isi_of rfl (kb "tuple" "list" false)) rfl fun k x e => ⟨atN_nat e, ih x om (goods_get h2 e)⟩
    | lst ds =>
      unfold good at h
      obtain ⟨h1, h2⟩ := Bool.and_eq_true_iff.mp h
      exact alike_seq (n + 1) _ ds om (of_decide_eq_true h1) rfl (isi_of rfl (kb _ _ _)) (isi_of rfl (kb _ _ _)) (isi_of rfl (kb _ _ _)) (isi_of rfl (kb "list" "tuple" false)) (isi_of rfl (kb "list" "list" true)) rfl fun k x e => ⟨atN_nat e, ih x om (goods_get h2 e)⟩
    | non => exact prim _ _ om rfl
    | bl b => exact prim _ _ om rfl
    | int b => exact prim _ _ om rfl
    | str b => exact prim _ _ om rfl
    | _ => cases h
theorem alike_eq {d : D} (om : Om) (h : good 10 d = true) : S_law_alike [d, d] om = .ok (.bl true) om := alike_refl 10 d om h
section
variable {N M : Nat} {a b : Fr} (om : Om) (ha : Bd N a) (hb : Bd M b) (hz : N + M ≤ 13000)
include ha hb hz
theorem added_eq : S_added [encF a, encF b] om = .ok (encF (fsum a b)) om := by
  have m1 := dMul_int (mulOk_bits ha.n hb.d (by omega))
  have m2 := dMul_int (mulOk_bits hb.n ha.d (by omega))
  have m3 := dMul_int (mulOk_bits ha.d hb.d (by omega))
  have e := made_gen (t := a.1 * b.2 + b.1 * a.2) om (pos_mul ha.p hb.p) (divOk_big (pow_13400 (bits_add (bits_mul ha.n hb.d) (by rw [Nat.add_comm]; exact bits_mul hb.n ha.d)) (by omega))) (divOk_big (pow_13400 (bits_mul ha.d hb.d) (by omega)))
  unfold S_added u_added
  walk_at "evs"
  rfl
theorem lsum_eq : S_law_sum [encF a, encF b] om = .ok (encF (fsum a b)) om := by
  have m1 := dMul_int (mulOk_bits ha.n hb.d (by omega))
  have m2 := dMul_int (mulOk_bits hb.n ha.d (by omega))
  have m3 := dMul_int (mulOk_bits ha.d hb.d (by omega))
  have e := lfr_gen (t := a.1 * b.2 + b.1 * a.2) om (pos_mul ha.p hb.p) (divOk_big (pow_13400 (bits_add (bits_mul ha.n hb.d) (by rw [Nat.add_comm]; exact bits_mul hb.n ha.d)) (by omega))) (divOk_big (pow_13400 (bits_mul ha.d hb.d) (by omega)))
  unfold S_law_sum u_law_sum
  walk_at "evs"
  rfl
theorem less_eq : S_less [encF a, encF b] om = .ok (encF (fsub a b)) om := by
  have m1 := dMul_int (mulOk_bits ha.n hb.d (by omega))
  have m2 := dMul_int (mulOk_bits hb.n ha.d (by omega))
  have m3 := dMul_int (mulOk_bits ha.d hb.d (by omega))
  have e := made_gen (t := a.1 * b.2 - b.1 * a.2) om (pos_mul ha.p hb.p) (divOk_big (pow_13400 (bits_sub (bits_mul ha.n hb.d) (by rw [Nat.add_comm]; exact bits_mul hb.n ha.d)) (by omega))) (divOk_big (pow_13400 (bits_mul ha.d hb.d) (by omega)))
  unfold S_less u_less
  walk_at "evs"
  rfl
theorem lminus_eq : S_law_minus [encF a, encF b] om = .ok (encF (fsub a b)) om := by
  have m1 := dMul_int (mulOk_bits ha.n hb.d (by omega))
  have m2 := dMul_int (mulOk_bits hb.n ha.d (by omega))
  have m3 := dMul_int (mulOk_bits ha.d hb.d (by omega))
  have e := lfr_gen (t := a.1 * b.2 - b.1 * a.2) om (pos_mul ha.p hb.p) (divOk_big (pow_13400 (bits_sub (bits_mul ha.n hb.d) (by rw [Nat.add_comm]; exact bits_mul hb.n ha.d)) (by omega))) (divOk_big (pow_13400 (bits_mul ha.d hb.d) (by omega)))
  unfold S_law_minus u_law_minus
  walk_at "evs"
  rfl
theorem timed_eq : S_timed [encF a, encF b] om = .ok (encF (fmul a b)) om := by
  have m1 := dMul_int (mulOk_bits ha.n hb.n (by omega))
  have m3 := dMul_int (mulOk_bits ha.d hb.d (by omega))
  have e := made_gen (t := a.1 * b.1) om (pos_mul ha.p hb.p) (divOk_big (pow_13400 (bits_mul ha.n hb.n) (by omega))) (divOk_big (pow_13400 (bits_mul ha.d hb.d) (by omega)))
  unfold S_timed u_timed
  walk_at "evs"
  rfl
theorem ltimes_eq : S_law_times [encF a, encF b] om = .ok (encF (fmul a b)) om := by
  have m1 := dMul_int (mulOk_bits ha.n hb.n (by omega))
  have m3 := dMul_int (mulOk_bits ha.d hb.d (by omega))
  have e := lfr_gen (t := a.1 * b.1) om (pos_mul ha.p hb.p) (divOk_big (pow_13400 (bits_mul ha.n hb.n) (by omega))) (divOk_big (pow_13400 (bits_mul ha.d hb.d) (by omega)))
  unfold S_law_times u_law_times
  walk_at "evs"
  rfl
theorem below_eq : S_is_below [encF a, encF b] om = .ok (.bl (flt a b)) om := by
  have m1 := dMul_int (mulOk_bits ha.n hb.d (by omega))
  have m2 := dMul_int (mulOk_bits hb.n ha.d (by omega))
  unfold S_is_below u_is_below
  walk_at "evs"
  rfl
theorem llow_eq : S_law_low [encF a, encF b] om = .ok (.bl (flt a b)) om := by
  have m1 := dMul_int (mulOk_bits ha.n hb.d (by omega))
  have m2 := dMul_int (mulOk_bits hb.n ha.d (by omega))
  unfold S_law_low u_law_low
  walk_at "evs"
  rfl
end
end Dv

namespace Dv
open PySem PySem.Spec PyProof.Rows L2
local macro_rules | `(tactic| walk_at "ev") => `(tactic| try simp (disch := omega) only [sSeq_eq, seq_nx, seq_rt, seq_rto, seq_xc, seq_bk, seq_ct, seq_ite, sAsg, sAsgO, sExpr, sRet, sRetO, sRetN, sIf, sNext, uVar, uC, uUn, uBin, uB, uNot, uAnd, uOr, uTV, uAndV, uOrV, uNotV, uIf, uChain, uNil, uCons, uTup, uLst, uLstO, uFn, uFnO, uFz, uMv, uNew, uCall, uCallO, uCallN, uBinV, uBinW, uBinL, uMeO, uMeL, uFnV, sSetL, sAsgG, gN, gT2, gT3, gT4, iLst, iFn,   bind_ok, bind_xc, of_ok, of_xc, res_ok, res_xc, res0_ok, own_ok, own_xc, fr_nx, fr_rt, fr_rto, fr_xc, fo_rto, fo_xc, liftO_some, dBool_bl, items_lst, items_frz, ent, defU, defO, List.map_cons, List.map_nil, List.length_cons, List.length_nil, List.cons_append, List.nil_append, List.append_nil, List.replicate, List.getElem?_cons_zero, List.getElem?_cons_succ, List.set_cons_zero, List.set_cons_succ, Nat.zero_add, Nat.reduceAdd, Nat.reduceSub, Nat.reduceLeDiff,   le_big, lt_big, atN_zero, atN_one, atN_two, atN_three, setN_zero, setN_one, popAt_zero, len_zero, len_succ, dMul_r, dMul_l, dDiv_pos, dMod_pos, dAdd_int, dSub_int, dNeg_int, dLt_int, dLe_int, dGt_int, dGe_int, dEq_int, dNe_int, dEq_bl, dNe_bl, dEq_nil, dNe_nil, dIx_lst, dIx_tup, fAbs_int, fInt_bl, fInt_int, fLen_lst, fLen_frz, fLen_tup, ite_true, ite_false, if_true, if_false, Bool.not_true, Bool.not_false, decide_true, decide_false, Bool.true_eq_false, Bool.false_eq_true, reduceIte, reduceCtorEq, turn_nx, turn_ct, turn_bk, turn_rt, turn_rto, turn_xc, sFor_eq, goL_nil, eq_self])
local macro_rules | `(tactic| walk_at "evs") => `(tactic| try simp (disch := omega) only [sSeq_eq, seq_nx, seq_rt, seq_rto, seq_xc, seq_bk, seq_ct, seq_ite, sAsg, sAsgO, sExpr, sRet, sRetO, sRetN, sIf, sNext, uVar, uC, uUn, uBin, uB, uNot, uAnd, uOr, uTV, uAndV, uOrV, uNotV, uIf, uChain, uNil, uCons, uTup, uLst, uLstO, uFn, uFnO, uFz, uMv, uNew, uCall, uCallO, uCallN, uBinV, uBinW, uBinL, uMeO, uMeL, uFnV, sSetL, sAsgG, gN, gT2, gT3, gT4, iLst, iFn,   bind_ok, bind_xc, of_ok, of_xc, res_ok, res_xc, res0_ok, own_ok, own_xc, fr_nx, fr_rt, fr_rto, fr_xc, fo_rto, fo_xc, liftO_some, dBool_bl, items_lst, items_frz, ent, defU, defO, List.map_cons, List.map_nil, List.length_cons, List.length_nil, List.cons_append, List.nil_append, List.append_nil, List.replicate, List.getElem?_cons_zero, List.getElem?_cons_succ, List.set_cons_zero, List.set_cons_succ, Nat.zero_add, Nat.reduceAdd, Nat.reduceSub, Nat.reduceLeDiff,   le_big, lt_big, atN_zero, atN_one, atN_two, atN_three, setN_zero, setN_one, popAt_zero, len_zero, len_succ, dMul_r, dMul_l, dDiv_pos, dMod_pos, dAdd_int, dSub_int, dNeg_int, dLt_int, dLe_int, dGt_int, dGe_int, dEq_int, dNe_int, dEq_bl, dNe_bl, dEq_nil, dNe_nil, dIx_lst, dIx_tup, fAbs_int, fInt_bl, fInt_int, fLen_lst, fLen_frz, fLen_tup, ite_true, ite_false, if_true, if_false, Bool.not_true, Bool.not_false, decide_true, decide_false, Bool.true_eq_false, Bool.false_eq_true, reduceIte, reduceCtorEq, turn_nx, turn_ct, turn_bk, turn_rt, turn_rto, turn_xc, sFor_eq, goL_nil, eq_self, *])
local macro_rules | `(tactic| walk_at "evt") => `(tactic| try simp (disch := first | omega | (simp only [List.length_append, List.length_cons, List.length_nil, List.length_map]; omega)) only [sSeq_eq, seq_nx, seq_rt, seq_rto, seq_xc, seq_bk, seq_ct, seq_ite, sAsg, sAsgO, sExpr, sRet, sRetO, sRetN, sIf, sNext, uVar, uC, uUn, uBin, uB, uNot, uAnd, uOr, uTV, uAndV, uOrV, uNotV, uIf, uChain, uNil, uCons, uTup, uLst, uLstO, uFn, uFnO, uFz, uMv, uNew, uCall, uCallO, uCallN, uBinV, uBinW, uBinL, uMeO, uMeL, uFnV, sSetL, sAsgG, gN, gT2, gT3, gT4, iLst, iFn,   bind_ok, bind_xc, of_ok, of_xc, res_ok, res_xc, res0_ok, own_ok, own_xc, fr_nx, fr_rt, fr_rto, fr_xc, fo_rto, fo_xc, liftO_some, dBool_bl, items_lst, items_frz, ent, defU, defO, List.map_cons, List.map_nil, List.length_cons, List.length_nil, List.cons_append, List.nil_append, List.append_nil, List.replicate, List.getElem?_cons_zero, List.getElem?_cons_succ, List.set_cons_zero, List.set_cons_succ, Nat.zero_add, Nat.reduceAdd, Nat.reduceSub, Nat.reduceLeDiff,   le_big, lt_big, atN_zero, atN_one, atN_two, atN_three, setN_zero, setN_one, popAt_zero, len_zero, len_succ, dMul_r, dMul_l, dDiv_pos, dMod_pos, dAdd_int, dSub_int, dNeg_int, dLt_int, dLe_int, dGt_int, dGe_int, dEq_int, dNe_int, dEq_bl, dNe_bl, dEq_nil, dNe_nil, dIx_lst, dIx_tup, fAbs_int, fInt_bl, fInt_int, fLen_lst, fLen_frz, fLen_tup, ite_true, ite_false, if_true, if_false, Bool.not_true, Bool.not_false, decide_true, decide_false, Bool.true_eq_false, Bool.false_eq_true, reduceIte, reduceCtorEq, turn_nx, turn_ct, turn_bk, turn_rt, turn_rto, turn_xc, sFor_eq, goL_nil, eq_self, sRaise, gT2, gT3, gT4, sAsgG, uM1, uOrS, uSlS, uSlW, uCatV, uPart, uNoPart, iStrU, k_colon, k_blank, k_line, k_f, k_s, k_0, k_empty, k_digits, k_abc, k_alpha, k_cue, k_from, k_to, k_at, k_two, k_fto, k_nl, k_a1, dAdd_tx, fLen_tx, fStr_nat, dEq_tx, dNe_tx, dEq_txn, dNe_txn, len_tx, cutS_l1, cutS_b1, cutS_ln, cutS_bn, dIx_tx0, *])
local macro_rules | `(tactic| walk_at "evx") => `(tactic| try simp (disch := first | omega | (simp only [List.length_append, List.length_cons, List.length_nil, List.length_map]; omega)) only [sSeq_eq, seq_nx, seq_rt, seq_rto, seq_xc, seq_bk, seq_ct, seq_ite, sAsg, sAsgO, sExpr, sRet, sRetO, sRetN, sIf, sNext, uVar, uC, uUn, uBin, uB, uNot, uAnd, uOr, uTV, uAndV, uOrV, uNotV, uIf, uChain, uNil, uCons, uTup, uLst, uLstO, uFn, uFnO, uFz, uMv, uNew, uCall, uCallO, uCallN, uBinV, uBinW, uBinL, uMeO, uMeL, uFnV, sSetL, sAsgG, gN, gT2, gT3, gT4, iLst, iFn,   bind_ok, bind_xc, of_ok, of_xc, res_ok, res_xc, res0_ok, own_ok, own_xc, fr_nx, fr_rt, fr_rto, fr_xc, fo_rto, fo_xc, liftO_some, dBool_bl, items_lst, items_frz, ent, defU, defO, List.map_cons, List.map_nil, List.length_cons, List.length_nil, List.cons_append, List.nil_append, List.append_nil, List.replicate, List.getElem?_cons_zero, List.getElem?_cons_succ, List.set_cons_zero, List.set_cons_succ, Nat.zero_add, Nat.reduceAdd, Nat.reduceSub, Nat.reduceLeDiff,   le_big, lt_big, atN_zero, atN_one, atN_two, atN_three, setN_zero, setN_one, popAt_zero, len_zero, len_succ, dMul_r, dMul_l, dDiv_pos, dMod_pos, dAdd_int, dSub_int, dNeg_int, dLt_int, dLe_int, dGt_int, dGe_int, dEq_int, dNe_int, dEq_bl, dNe_bl, dEq_nil, dNe_nil, dIx_lst, dIx_tup, fAbs_int, fInt_bl, fInt_int, fLen_lst, fLen_frz, fLen_tup, ite_true, ite_false, if_true, if_false, Bool.not_true, Bool.not_false, decide_true, decide_false, Bool.true_eq_false, Bool.false_eq_true, reduceIte, reduceCtorEq, turn_nx, turn_ct, turn_bk, turn_rt, turn_rto, turn_xc, sFor_eq, goL_nil, eq_self, sRaise, gT2, gT3, gT4, sAsgG, see_bl, see_int, see_non, see_tup, see_lst, see_str, uBinX, uUnX, uFnX, uFld, sFldU, uMeth, uMethO, uMake, uCatX, uRev, uMethN, uFrzI, uSlV, uM1, uOrS, uSlS, uSlW, uCatV, uPart, uNoPart, iStrU, k_colon, k_blank, k_line, k_f, k_s, k_0, k_empty, k_digits, k_abc, k_alpha, k_cue, k_from, k_to, k_at, k_two, k_fto, k_nl, k_a1, dAdd_tx, fLen_tx, fStr_nat, dEq_tx, dNe_tx, dEq_txn, dNe_txn, len_tx, cutS_l1, cutS_b1, cutS_ln, cutS_bn, dIx_tx0, *])
/-! ### numbers -/
@[reducible] def DM : Nat := L30 * 10
structure Nm (x : Fr) : Prop where
  d : Dn DM x
  lo : -100000000 ≤ val x
  hi : val x ≤ 100000000
theorem Nm.bd {x : Fr} (h : Nm x) : Bd 80 x := by
  have e : ((100000000 : Nat) : Rat) = 100000000 := rfl
  exact dn_bd (V := 100000000) h.d (by decide) (by rw [e]; exact h.lo) (by rw [e]; exact h.hi) (by decide)
theorem Nm.p {x : Fr} (h : Nm x) : 0 < x.2 := h.d.cn.1
theorem v01 : val ((0, 1) : Fr) = 0 := by rw [val_int1]; rfl
theorem nm_01 : Nm ((0, 1) : Fr) := ⟨dn_of ⟨by decide, by decide⟩ ⟨_, (Int.one_mul _).symm⟩, by rw [v01]; decide, by rw [v01]; decide⟩
def gr (b at_ : Fr) : Fr := if flt b at_ = true then at_ else b
def ls (e h : Fr) : Fr := if flt h e = true then h else e
theorem gr_val {b a : Fr} (h : 0 < b.2) (k : 0 < a.2) : val (gr b a) = if val b < val a then val a else val b := by
  unfold gr
  cases c : flt b a
  · rw [if_neg (by simp), if_neg (by have := (flt_false h k).mp c; grind)]
  · rw [if_pos rfl, if_pos ((flt_iff h k).mp c)]
theorem ls_val {e h : Fr} (k1 : 0 < e.2) (k2 : 0 < h.2) : val (ls e h) = if val h < val e then val h else val e := by
  unfold ls
  cases c : flt h e
  · rw [if_neg (by simp), if_neg (by have := (flt_false k2 k1).mp c; grind)]
  · rw [if_pos rfl, if_pos ((flt_iff k2 k1).mp c)]
section
variable (om : Om)
theorem greater_eq {b a : Fr} (h : Bd 100 b) (k : Bd 100 a) : S_greater [encF b, encF a] om = .ok (encF (gr b a)) om := by
  have e := below_eq om h k (by decide)
  unfold S_greater u_greater gr
  clear h k
  cases c : flt b a <;> rw [c] at e <;> clear c <;> walk_at "evs"
theorem lesser_eq {e h : Fr} (k1 : Bd 100 e) (k2 : Bd 100 h) : S_lesser [encF e, encF h] om = .ok (encF (ls e h)) om := by
  have e9 := below_eq om k2 k1 (by decide)
  unfold S_lesser u_lesser ls
  clear k1 k2
  cases c : flt h e <;> rw [c] at e9 <;> clear c <;> walk_at "evs"
end
/-! loops by number, by item -/
theorem goL_rng {i : Nat} {body : US} (Inv : Nat → Rho → Om → Prop) (n : Nat) (h : ∀ k ρ om, k < n → Inv k ρ om → ∃ ρ' om', body (ρ.set i (some (.val (.int (k : Int))))) om = .nx ρ' om' ∧ Inv (k + 1) ρ' om') :
    ∀ (m j : Nat) (ρ : Rho) (om : Om), n = j + m → Inv j ρ om → ∃ ρ' om', goL (gN i) body ((List.range' j m).map fun (k : Nat) => D.int ((0 : Int) + (k : Int))) ρ om = .nx ρ' om' ∧ Inv n ρ' om'
  | 0, j, ρ, om, e, hi => ⟨ρ, om, rfl, by rw [e, Nat.add_zero]; exact hi⟩
  | m + 1, j, ρ, om, e, hi => by
    obtain ⟨ρ1, om1, e1, h1⟩ := h j ρ om (by omega) hi
    obtain ⟨ρ2, om2, e2, h2⟩ := goL_rng Inv n h m (j + 1) ρ1 om1 (by omega) h1
    refine ⟨ρ2, om2, ?_, h2⟩
    have er : List.range' j (m + 1) = j :: List.range' (j + 1) m := List.range'_succ ..
    rw [er, List.map_cons, goL_cons (ρ1 := ρ.set i (some (.val (.int (j : Int))))) _ _ (by rw [Int.zero_add]; rfl), e1, turn_nx, e2]
theorem goL_range {i : Nat} {body : US} (Inv : Nat → Rho → Om → Prop) (n : Nat) {ρ : Rho} {om : Om} (h0 : Inv 0 ρ om) (h : ∀ k ρ om, k < n → Inv k ρ om → ∃ ρ' om', body (ρ.set i (some (.val (.int (k : Int))))) om = .nx ρ' om' ∧ Inv (k + 1) ρ' om') :
    ∃ ρ' om', goL (gN i) body (rngN 0 n) ρ om = .nx ρ' om' ∧ Inv n ρ' om' := by
  have := goL_rng Inv n h n 0 ρ om (by omega) h0
  unfold rngN
  rw [List.range_eq_range']
  exact this
theorem goL_item {α : Type} {i : Nat} {body : US} (f : α → D) (Inv : List α → Rho → Om → Prop) : ∀ (l pre : List α) (ρ : Rho) (om : Om), (∀ p x q ρ om, pre ++ l = p ++ x :: q → Inv p ρ om → ∃ ρ' om', body (ρ.set i (some (.val (f x)))) om = .nx ρ' om' ∧ Inv (p ++ [x]) ρ' om') → Inv pre ρ om →
    ∃ ρ' om', goL (gN i) body (l.map f) ρ om = .nx ρ' om' ∧ Inv (pre ++ l) ρ' om'
  | [], pre, ρ, om, _, hi => ⟨ρ, om, rfl, by rw [List.append_nil]; exact hi⟩
  | x :: l, pre, ρ, om, h, hi => by
    obtain ⟨ρ1, om1, e1, h1⟩ := h pre x l ρ om rfl hi
    obtain ⟨ρ2, om2, e2, h2⟩ := goL_item f Inv l (pre ++ [x]) ρ1 om1 (fun p y q ρ om e => h p y q ρ om (by rw [← e]; simp)) h1
    refine ⟨ρ2, om2, ?_, by rw [List.append_assoc] at h2; exact h2⟩
    rw [List.map_cons, goL_cons (ρ1 := ρ.set i (some (.val (f x)))) _ _ rfl, e1, turn_nx, e2]
theorem goW_true {c : UT} {b : US} {n : Nat} {r : Rho} {o : Om} (h : c r o = .ok true r o) : goW c b (n + 1) r o = (b r o).turn (goW c b n) := by
  rw [goW_succ, h]
  rfl
theorem goW_false {c : UT} {b : US} {n : Nat} {r : Rho} {o : Om} (h : c r o = .ok false r o) : goW c b (n + 1) r o = .nx r o := by
  rw [goW_succ, h]
  rfl
/-! ### rows and rules -/
structure Rr where
  b : Fr
  e : Fr
  k : Int
  ws : List Nat
structure Ru where
  each : Fr
  gap : Fr
  least : Fr
  w0 : Int
  w1 : Int
def wd (n : Nat) : D := tx (List.replicate n 97)
@[reducible] def encR (r : Rr) : D := .tup [encF r.b, encF r.e, .int r.k, .lst (r.ws.map wd)]
@[reducible] def encU (u : Ru) : D := .tup [encF u.each, encF u.gap, encF u.least, .int u.w0, .int u.w1]
def lets (ws : List Nat) : Int := (ws.map fun n : Nat => (n : Int)).sum
structure RrOk (r : Rr) : Prop where
  b : Nm r.b
  e : Nm r.e
  b0 : 0 ≤ val r.b ∧ val r.b ≤ 2000
  e0 : 0 ≤ val r.e ∧ val r.e ≤ 2000
  l : r.ws.length ≤ 3
  w : ∀ n ∈ r.ws, 1 ≤ n ∧ n ≤ 9
structure RuOk (u : Ru) : Prop where
  each : Nm u.each
  e0 : 0 ≤ val u.each ∧ val u.each ≤ 7
  gap : Nm u.gap
  g0 : 0 ≤ val u.gap ∧ val u.gap ≤ 7
  least : Nm u.least
  l0 : 0 ≤ val u.least ∧ val u.least ≤ 7
  w0 : 1 ≤ u.w0 ∧ u.w0 ≤ 9
  w1 : 1 ≤ u.w1 ∧ u.w1 ≤ 9
  e30 : Dn L30 u.each
  g30 : Dn L30 u.gap
  l30 : Dn L30 u.least
theorem asInts_map : ∀ l : List Int, asInts (l.map D.int) = some l
  | [] => rfl
  | i :: l => by
    rw [List.map_cons]
    unfold asInts
    rw [asInts_map l]
    rfl
theorem lets_le {ws : List Nat} (hl : ws.length ≤ 3) (hw : ∀ n ∈ ws, 1 ≤ n ∧ n ≤ 9) : 0 ≤ lets ws ∧ lets ws ≤ 27 := by
  have : ∀ ws : List Nat, (∀ n ∈ ws, 1 ≤ n ∧ n ≤ 9) → 0 ≤ lets ws ∧ lets ws ≤ 9 * (ws.length : Int) := by
    intro ws
    induction ws with
    | nil => intro _; unfold lets; simp
    | cons n ws ih =>
      intro h
      have k := ih fun m hm => h m (by simp [hm])
      have := h n (by simp)
      unfold lets at k ⊢
      rw [List.map_cons, List.sum_cons, List.length_cons]
      omega
  have := this ws hw
  omega
theorem fLen_wd (n : Nat) (h : n ≤ 9) : fLen [wd n] = some (.int (n : Int)) := by
  unfold wd
  have := fLen_tx (l := List.replicate n 97) (by simp; omega)
  rw [List.length_replicate] at this
  exact this
theorem lens_goC (om : Om) (i : Nat) (ρ : Rho) (ws : List Nat) (hw : ∀ n ∈ ws, 1 ≤ n ∧ n ≤ 9) (hl : ws.length ≤ 3) (hi : i < ρ.length) :
    goC (gN i) uYes (uFn fLen (uCons (uVar i) uNil)) [i] (ws.map wd) [] (ρ.set i none) om = .ok ((ws.map fun n : Nat => (n : Int)).map D.int) (ρ.set i none) om := by
  have g := goC_map (te := uFn fLen (uCons (uVar i) uNil)) (i := i) (ω := om) (ρ := ρ) (fun d => match fLen [d] with | some x => x | none => .non) (ws.map wd) [] (fun d hd => by
    obtain ⟨n, hn, rfl⟩ := List.mem_map.mp hd
    have e := fLen_wd n (hw n hn).2
    have q : ((ρ.set i none).set i (some (Sl.val (wd n))))[i]? = some (some (Sl.val (wd n))) := by
      rw [List.getElem?_set_self (by rw [List.length_set]; exact hi)]
    simp only [uFn, uCons, uNil, uVar, q, Res.bind, e, liftO]) (by rw [List.length_map]; simp; exact Nat.le_trans (show ws.length ≤ 1000 by omega) (by decide))
  rw [g, List.nil_append, List.map_map, List.map_map]
  congr 1
  exact List.map_congr_left fun n hn => by
    show (match fLen [wd n] with | some x => x | none => D.non) = D.int (n : Int)
    rw [fLen_wd n (hw n hn).2]
theorem fSum_lets (ws : List Nat) : fSum [.lst ((ws.map fun n : Nat => (n : Int)).map D.int)] = some (.int (lets ws)) := by
  unfold fSum
  dsimp only
  rw [asInts_map]
  rfl
theorem letters_eq (om : Om) {ws : List Nat} (hl : ws.length ≤ 3) (hw : ∀ n ∈ ws, 1 ≤ n ∧ n ≤ 9) : S_letters [.lst (ws.map wd)] om = .ok (.int (lets ws)) om := by
  have g := lens_goC om 1 [some (.val (.lst (ws.map wd))), none] ws hw hl (by simp)
  have f := fSum_lets ws
  clear hl hw
  unfold S_letters u_letters uLc
  simp only [clrs, List.set_cons_succ, List.set_cons_zero] at *
  generalize (ws.map fun n : Nat => (n : Int)).map D.int = Y at *
  generalize ws.map wd = X at *
  walk_at "evx"
def gapOf (u : Ru) (r : Rr) : Fr := gr (fmul (lets r.ws, 1) u.each) u.least
theorem cn_i (i : Int) : Cn (i, 1) := ⟨by show (0 : Int) < 1; decide, by show Int.gcd i 1 = 1; exact Int.gcd_one_right i⟩
theorem dn_int {D : Nat} (i : Int) : Dn D (i, 1) := dn_of (cn_i i) ⟨_, (Int.one_mul _).symm⟩
theorem v_int (i : Int) : val (i, 1) = (i : Rat) := val_int1 i
theorem gap_num {u : Ru} (hu : RuOk u) {r : Rr} (hr : RrOk r) : Nm (fmul (lets r.ws, 1) u.each) ∧ Nm (gapOf u r) ∧ 0 ≤ val (gapOf u r) ∧ val (gapOf u r) ≤ 200 ∧ Bd 10 ((lets r.ws, 1) : Fr) := by
  obtain ⟨l0, l1⟩ := lets_le hr.l hr.w
  have d : Dn DM (fmul (lets r.ws, 1) u.each) := by
    have := dn_mul (dn_int (D := 1) (lets r.ws)) hu.each.d
    rw [Nat.one_mul] at this
    exact this
  have v : val (fmul (lets r.ws, 1) u.each) = (lets r.ws : Rat) * val u.each := by rw [val_mul (cn_i _).1 hu.each.p, v_int]
  have q0 : (0 : Rat) ≤ (lets r.ws : Rat) := by
    have : ((0 : Int) : Rat) ≤ (lets r.ws : Rat) := Rat.intCast_le_intCast.mpr l0
    exact this
  have q1 : (lets r.ws : Rat) ≤ 27 := by
    have : (lets r.ws : Rat) ≤ ((27 : Int) : Rat) := Rat.intCast_le_intCast.mpr l1
    exact this
  have m0 := Rat.mul_nonneg q0 hu.e0.1
  have m1 : (lets r.ws : Rat) * val u.each ≤ 27 * 7 := by
    have a := Rat.mul_le_mul_of_nonneg_right q1 hu.e0.1
    have b := Rat.mul_le_mul_of_nonneg_left hu.e0.2 (show (0 : Rat) ≤ 27 by decide)
    grind
  have n1 : Nm (fmul (lets r.ws, 1) u.each) := ⟨d, by rw [v]; grind, by rw [v]; grind⟩
  have gv := gr_val d.cn.1 hu.least.p
  have gd : Dn DM (gapOf u r) := by unfold gapOf gr; split; exact hu.least.d; exact d
  have l := hu.l0
  have g0 : 0 ≤ val (gapOf u r) ∧ val (gapOf u r) ≤ 200 := by
    show 0 ≤ val (gr _ _) ∧ val (gr _ _) ≤ 200
    rw [gv, v]
    split <;> constructor <;> grind
  refine ⟨n1, ⟨gd, by grind, by grind⟩, g0.1, g0.2, ⟨show (0 : Int) < 1 by decide, ?_, show (1 : Int).natAbs < 2 ^ 10 by decide⟩⟩
  show (lets r.ws).natAbs < 2 ^ 10
  have : (2 : Nat) ^ 10 = 1024 := by decide
  omega
/-! slopes, and what a price may be -/
structure Wn where
  v : Fr
  w : Int
@[reducible] def encN (x : Wn) : D := .tup [encF x.v, .int x.w]
@[reducible] def vN (x : Wn) : Wt := (val x.v, x.w)
structure WnOk (x : Wn) : Prop where
  v : Nm x.v
  w : 1 ≤ x.w ∧ x.w ≤ 9
theorem slopes_eq (om : Om) {x : Wn} (hx : WnOk x) {f : Fr} (hf : Nm f) : S_slopes [encN x, encF f] om = .ok (.tup [.int (LD [vN x] (val f)), .int (RD [vN x] (val f))]) om := by
  have e1 := dEq_fr x.v f
  have e2 := below_eq om hx.v.bd hf.bd (by decide)
  have l : LD [vN x] (val f) = if val x.v < val f then x.w else -x.w := by show (if val x.v < val f then x.w else -x.w) + 0 = _; omega
  have r : RD [vN x] (val f) = if val x.v ≤ val f then x.w else -x.w := by show (if val x.v ≤ val f then x.w else -x.w) + 0 = _; omega
  have z : (0 : Int) - x.w = -x.w := by omega
  by_cases c : x.v = f
  · rw [decide_eq_true c] at e1
    have vv : val x.v = val f := by rw [c]
    rw [vv, if_neg Rat.lt_irrefl] at l
    rw [vv, if_pos Rat.le_refl] at r
    rw [l, r]
    clear e2 hx hf l r vv c
    unfold S_slopes u_slopes
    walk_at "evx"
  · rw [decide_eq_false c] at e1
    have vv : val x.v ≠ val f := fun h => c (cn_ext hx.v.d.cn hf.d.cn h)
    cases c2 : flt x.v f
    · have := (flt_false hx.v.p hf.p).mp c2
      rw [if_neg (by grind)] at l
      rw [if_neg (by grind)] at r
      rw [l, r]
      rw [c2] at e2
      clear hx hf l r vv c this c2
      unfold S_slopes u_slopes
      walk_at "evx"
    · have := (flt_iff hx.v.p hf.p).mp c2
      rw [if_pos this] at l
      rw [if_pos (by grind)] at r
      rw [l, r]
      rw [c2] at e2
      clear hx hf l r vv c this c2
      unfold S_slopes u_slopes
      walk_at "evx"
def optI : Option Int → D
  | none => .non
  | some m => .int m
@[reducible] def spD (s : Sp) : D := .tup [.int s.1, optI s.2]
def rsD : Option Sp → D
  | none => .non
  | some s => spD s
theorem reach_eq (om : Om) (sp : Sp) (t : Bool) (lo hi : Int) : S_reach [spD sp, .bl t, .tup [.int lo, .int hi]] om = .ok (rsD (reachF sp t lo hi)) om := by
  obtain ⟨a, m⟩ := sp
  have q1 : dIsNot .non .non = some (.bl false) := rfl
  have q2 : ∀ i : Int, dIsNot (.int i) .non = some (.bl true) := fun i => rfl
  have mx : fMax2 [.int 0, .int (a - hi)] = some (.int (max 0 (a - hi))) := by
    unfold fMax2
    dsimp only
    congr 2
    split <;> omega
  cases m with
  | none =>
    have r1 : reachF (a, none) t lo hi = if t = true then some (max 0 (a - hi), none) else if 0 < a - hi then none else some (0, some 0) := rfl
    rw [r1]
    unfold S_reach u_reach
    unfold spD optI
    cases t
    · by_cases c : 0 < a - hi
      · have d1 : decide (0 < a - hi) = true := decide_eq_true c
        simp only [c, Bool.false_eq_true, if_false, if_true, rsD]
        walk_at "evx"
      · have d1 : decide (0 < a - hi) = false := decide_eq_false c
        simp only [c, Bool.false_eq_true, if_false, rsD, optI]
        walk_at "evx"
        rfl
    · simp only [if_true, rsD, optI]
      walk_at "evx"
      rfl
  | some m =>
    have r1 : reachF (a, some m) t lo hi = if t = true then (if m - lo < 0 then none else some (max 0 (a - hi), some (m - lo))) else if 0 < a - hi ∨ m - lo < 0 then none else some (0, some 0) := rfl
    rw [r1]
    unfold S_reach u_reach
    unfold spD optI
    by_cases c2 : m - lo < 0
    · have d2 : decide (m - lo < 0) = true := decide_eq_true c2
      cases t
      · simp only [c2, Bool.false_eq_true, if_false, if_true, or_true, rsD]
        by_cases c : 0 < a - hi
        · have d1 : decide (0 < a - hi) = true := decide_eq_true c
          walk_at "evx"
        · have d1 : decide (0 < a - hi) = false := decide_eq_false c
          walk_at "evx"
      · simp only [c2, if_true, rsD]
        walk_at "evx"
    · have d2 : decide (m - lo < 0) = false := decide_eq_false c2
      cases t
      · by_cases c : 0 < a - hi
        · have d1 : decide (0 < a - hi) = true := decide_eq_true c
          simp only [c, c2, Bool.false_eq_true, if_false, if_true, true_or, rsD]
          walk_at "evx"
        · have d1 : decide (0 < a - hi) = false := decide_eq_false c
          simp only [c, c2, Bool.false_eq_true, if_false, or_self, rsD, optI]
          walk_at "evx"
          rfl
      · simp only [c2, if_true, if_false, rsD, optI]
        walk_at "evx"
        rfl
end Dv

namespace Dv
open PySem PySem.Spec PyProof.Rows L2
local macro_rules | `(tactic| walk_at "ev") => `(tactic| try simp (disch := omega) only [sSeq_eq, seq_nx, seq_rt, seq_rto, seq_xc, seq_bk, seq_ct, seq_ite, sAsg, sAsgO, sExpr, sRet, sRetO, sRetN, sIf, sNext, uVar, uC, uUn, uBin, uB, uNot, uAnd, uOr, uTV, uAndV, uOrV, uNotV, uIf, uChain, uNil, uCons, uTup, uLst, uLstO, uFn, uFnO, uFz, uMv, uNew, uCall, uCallO, uCallN, uBinV, uBinW, uBinL, uMeO, uMeL, uFnV, sSetL, sAsgG, gN, gT2, gT3, gT4, iLst, iFn,   bind_ok, bind_xc, of_ok, of_xc, res_ok, res_xc, res0_ok, own_ok, own_xc, fr_nx, fr_rt, fr_rto, fr_xc, fo_rto, fo_xc, liftO_some, dBool_bl, items_lst, items_frz, ent, defU, defO, List.map_cons, List.map_nil, List.length_cons, List.length_nil, List.cons_append, List.nil_append, List.append_nil, List.replicate, List.getElem?_cons_zero, List.getElem?_cons_succ, List.set_cons_zero, List.set_cons_succ, Nat.zero_add, Nat.reduceAdd, Nat.reduceSub, Nat.reduceLeDiff,   le_big, lt_big, atN_zero, atN_one, atN_two, atN_three, setN_zero, setN_one, popAt_zero, len_zero, len_succ, dMul_r, dMul_l, dDiv_pos, dMod_pos, dAdd_int, dSub_int, dNeg_int, dLt_int, dLe_int, dGt_int, dGe_int, dEq_int, dNe_int, dEq_bl, dNe_bl, dEq_nil, dNe_nil, dIx_lst, dIx_tup, fAbs_int, fInt_bl, fInt_int, fLen_lst, fLen_frz, fLen_tup, ite_true, ite_false, if_true, if_false, Bool.not_true, Bool.not_false, decide_true, decide_false, Bool.true_eq_false, Bool.false_eq_true, reduceIte, reduceCtorEq, turn_nx, turn_ct, turn_bk, turn_rt, turn_rto, turn_xc, sFor_eq, goL_nil, eq_self])
local macro_rules | `(tactic| walk_at "evs") => `(tactic| try simp (disch := omega) only [sSeq_eq, seq_nx, seq_rt, seq_rto, seq_xc, seq_bk, seq_ct, seq_ite, sAsg, sAsgO, sExpr, sRet, sRetO, sRetN, sIf, sNext, uVar, uC, uUn, uBin, uB, uNot, uAnd, uOr, uTV, uAndV, uOrV, uNotV, uIf, uChain, uNil, uCons, uTup, uLst, uLstO, uFn, uFnO, uFz, uMv, uNew, uCall, uCallO, uCallN, uBinV, uBinW, uBinL, uMeO, uMeL, uFnV, sSetL, sAsgG, gN, gT2, gT3, gT4, iLst, iFn,   bind_ok, bind_xc, of_ok, of_xc, res_ok, res_xc, res0_ok, own_ok, own_xc, fr_nx, fr_rt, fr_rto, fr_xc, fo_rto, fo_xc, liftO_some, dBool_bl, items_lst, items_frz, ent, defU, defO, List.map_cons, List.map_nil, List.length_cons, List.length_nil, List.cons_append, List.nil_append, List.append_nil, List.replicate, List.getElem?_cons_zero, List.getElem?_cons_succ, List.set_cons_zero, List.set_cons_succ, Nat.zero_add, Nat.reduceAdd, Nat.reduceSub, Nat.reduceLeDiff,   le_big, lt_big, atN_zero, atN_one, atN_two, atN_three, setN_zero, setN_one, popAt_zero, len_zero, len_succ, dMul_r, dMul_l, dDiv_pos, dMod_pos, dAdd_int, dSub_int, dNeg_int, dLt_int, dLe_int, dGt_int, dGe_int, dEq_int, dNe_int, dEq_bl, dNe_bl, dEq_nil, dNe_nil, dIx_lst, dIx_tup, fAbs_int, fInt_bl, fInt_int, fLen_lst, fLen_frz, fLen_tup, ite_true, ite_false, if_true, if_false, Bool.not_true, Bool.not_false, decide_true, decide_false, Bool.true_eq_false, Bool.false_eq_true, reduceIte, reduceCtorEq, turn_nx, turn_ct, turn_bk, turn_rt, turn_rto, turn_xc, sFor_eq, goL_nil, eq_self, *])
local macro_rules | `(tactic| walk_at "evt") => `(tactic| try simp (disch := first | omega | (simp only [List.length_append, List.length_cons, List.length_nil, List.length_map]; omega)) only [sSeq_eq, seq_nx, seq_rt, seq_rto, seq_xc, seq_bk, seq_ct, seq_ite, sAsg, sAsgO, sExpr, sRet, sRetO, sRetN, sIf, sNext, uVar, uC, uUn, uBin, uB, uNot, uAnd, uOr, uTV, uAndV, uOrV, uNotV, uIf, uChain, uNil, uCons, uTup, uLst, uLstO, uFn, uFnO, uFz, uMv, uNew, uCall, uCallO, uCallN, uBinV, uBinW, uBinL, uMeO, uMeL, uFnV, sSetL, sAsgG, gN, gT2, gT3, gT4, iLst, iFn,   bind_ok, bind_xc, of_ok, of_xc, res_ok, res_xc, res0_ok, own_ok, own_xc, fr_nx, fr_rt, fr_rto, fr_xc, fo_rto, fo_xc, liftO_some, dBool_bl, items_lst, items_frz, ent, defU, defO, List.map_cons, List.map_nil, List.length_cons, List.length_nil, List.cons_append, List.nil_append, List.append_nil, List.replicate, List.getElem?_cons_zero, List.getElem?_cons_succ, List.set_cons_zero, List.set_cons_succ, Nat.zero_add, Nat.reduceAdd, Nat.reduceSub, Nat.reduceLeDiff,   le_big, lt_big, atN_zero, atN_one, atN_two, atN_three, setN_zero, setN_one, popAt_zero, len_zero, len_succ, dMul_r, dMul_l, dDiv_pos, dMod_pos, dAdd_int, dSub_int, dNeg_int, dLt_int, dLe_int, dGt_int, dGe_int, dEq_int, dNe_int, dEq_bl, dNe_bl, dEq_nil, dNe_nil, dIx_lst, dIx_tup, fAbs_int, fInt_bl, fInt_int, fLen_lst, fLen_frz, fLen_tup, ite_true, ite_false, if_true, if_false, Bool.not_true, Bool.not_false, decide_true, decide_false, Bool.true_eq_false, Bool.false_eq_true, reduceIte, reduceCtorEq, turn_nx, turn_ct, turn_bk, turn_rt, turn_rto, turn_xc, sFor_eq, goL_nil, eq_self, sRaise, gT2, gT3, gT4, sAsgG, uM1, uOrS, uSlS, uSlW, uCatV, uPart, uNoPart, iStrU, k_colon, k_blank, k_line, k_f, k_s, k_0, k_empty, k_digits, k_abc, k_alpha, k_cue, k_from, k_to, k_at, k_two, k_fto, k_nl, k_a1, dAdd_tx, fLen_tx, fStr_nat, dEq_tx, dNe_tx, dEq_txn, dNe_txn, len_tx, cutS_l1, cutS_b1, cutS_ln, cutS_bn, dIx_tx0, *])
local macro_rules | `(tactic| walk_at "evx") => `(tactic| try simp (disch := first | omega | (simp only [List.length_append, List.length_cons, List.length_nil, List.length_map]; omega)) only [sSeq_eq, seq_nx, seq_rt, seq_rto, seq_xc, seq_bk, seq_ct, seq_ite, sAsg, sAsgO, sExpr, sRet, sRetO, sRetN, sIf, sNext, uVar, uC, uUn, uBin, uB, uNot, uAnd, uOr, uTV, uAndV, uOrV, uNotV, uIf, uChain, uNil, uCons, uTup, uLst, uLstO, uFn, uFnO, uFz, uMv, uNew, uCall, uCallO, uCallN, uBinV, uBinW, uBinL, uMeO, uMeL, uFnV, sSetL, sAsgG, gN, gT2, gT3, gT4, iLst, iFn,   bind_ok, bind_xc, of_ok, of_xc, res_ok, res_xc, res0_ok, own_ok, own_xc, fr_nx, fr_rt, fr_rto, fr_xc, fo_rto, fo_xc, liftO_some, dBool_bl, items_lst, items_frz, ent, defU, defO, List.map_cons, List.map_nil, List.length_cons, List.length_nil, List.cons_append, List.nil_append, List.append_nil, List.replicate, List.getElem?_cons_zero, List.getElem?_cons_succ, List.set_cons_zero, List.set_cons_succ, Nat.zero_add, Nat.reduceAdd, Nat.reduceSub, Nat.reduceLeDiff,   le_big, lt_big, atN_zero, atN_one, atN_two, atN_three, setN_zero, setN_one, popAt_zero, len_zero, len_succ, dMul_r, dMul_l, dDiv_pos, dMod_pos, dAdd_int, dSub_int, dNeg_int, dLt_int, dLe_int, dGt_int, dGe_int, dEq_int, dNe_int, dEq_bl, dNe_bl, dEq_nil, dNe_nil, dIx_lst, dIx_tup, fAbs_int, fInt_bl, fInt_int, fLen_lst, fLen_frz, fLen_tup, ite_true, ite_false, if_true, if_false, Bool.not_true, Bool.not_false, decide_true, decide_false, Bool.true_eq_false, Bool.false_eq_true, reduceIte, reduceCtorEq, turn_nx, turn_ct, turn_bk, turn_rt, turn_rto, turn_xc, sFor_eq, goL_nil, eq_self, sRaise, gT2, gT3, gT4, sAsgG, see_bl, see_int, see_non, see_tup, see_lst, see_str, uBinX, uUnX, uFnX, uFld, sFldU, uMeth, uMethO, uMake, uCatX, uRev, uMethN, uFrzI, uSlV, uM1, uOrS, uSlS, uSlW, uCatV, uPart, uNoPart, iStrU, k_colon, k_blank, k_line, k_f, k_s, k_0, k_empty, k_digits, k_abc, k_alpha, k_cue, k_from, k_to, k_at, k_two, k_fto, k_nl, k_a1, dAdd_tx, fLen_tx, fStr_nat, dEq_tx, dNe_tx, dEq_txn, dNe_txn, len_tx, cutS_l1, cutS_b1, cutS_ln, cutS_bn, dIx_tx0, *])
def v_c : UT := (uAnd (uB (uBin dGt (uVar 5) (uC (.int 0)))) (uB (uCall 2 S_is_below (uCons (uBin dIx (uVar 2) (uC (.int 0))) (uCons (uBin dIx (uBin dIx (uVar 1) (uBin dSub (uVar 5) (uC (.int 1)))) (uC (.int 0))) uNil)))))
def v_b : US := (sAsg 5 (uBin dSub (uVar 5) (uC (.int 1))))
def v_ins : US := (sAsg 1 (uBin dAdd (uBin dAdd (uFz (uSlW (uVar 1) uNoPart (uPart (uVar 5)))) (uLst (uCons (uVar 2) uNil))) (uFz (uSlW (uVar 1) (uPart (uVar 5)) uNoPart))))
def v_turn : US := (sSeq (sAsg 5 (uFn fLen (uCons (uVar 1) uNil))) (sSeq (sWhile (fuelI 5) v_c v_b) v_ins))
def v_pick : US := (sSeq (sAsg 4 (uBin dAdd (uVar 4) (uBin dIx (uVar 2) (uC (.int 1)))))
    (sIf (uB (uBin dGe (uBin dMul (uC (.int 2)) (uVar 4)) (uVar 3))) (sRet (uBin dIx (uVar 2) (uC (.int 0)))) sNext))
theorem v_top : u_Pool_level = (sSeq (sAsg 1 (uLst uNil)) (sSeq (sFor (iLst (uFld "Pool" "wants" (uVar 0))) (gN 2) v_turn) (sSeq (sAsg 3 (uFn fSum (uCons (uFz (uLc (iLst (uVar 1)) (gN 2) uYes (uBin dIx (uVar 2) (uC (.int 1))) [2])) uNil))) (sSeq (sAsg 4 (uC (.int 0))) (sSeq (sFor (iLst (uVar 1)) (gN 2) v_pick) (sRet (uC (.tup [.int 0, .int 1])))))))) := rfl
/-! ### the level of a pool -/
def lat (x : Wn) (y : Wn) : Bool := flt x.v y.v
/-- put in ahead of all at the end that are later -/
def insP (done : List Wn) (x : Wn) : List Wn := (done.reverse.dropWhile (lat x)).reverse ++ x :: (done.reverse.takeWhile (lat x)).reverse
def sortP (ws : List Wn) : List Wn := ws.foldl insP []
theorem insP_split (done : List Wn) (x : Wn) : (done.reverse.dropWhile (lat x)).reverse ++ (done.reverse.takeWhile (lat x)).reverse = done := by
  rw [← List.reverse_append, List.takeWhile_append_dropWhile, List.reverse_reverse]
theorem insP_perm (done : List Wn) (x : Wn) : (insP done x).Perm (x :: done) := by
  have e := insP_split done x
  unfold insP
  refine (List.perm_middle).trans ?_
  rw [e]
theorem sortP_perm : ∀ (ws acc : List Wn), (ws.foldl insP acc).Perm (acc ++ ws)
  | [], acc => by simp
  | x :: ws, acc => by
    rw [List.foldl_cons]
    refine (sortP_perm ws _).trans ?_
    refine ((insP_perm acc x).append_right ws).trans ?_
    exact List.perm_middle.symm
def SrtP (l : List Wn) : Prop := l.Pairwise fun x y => val x.v ≤ val y.v
theorem insP_srt {done : List Wn} {x : Wn} (hx : WnOk x) (hd : ∀ y ∈ done, WnOk y) (h : SrtP done) : SrtP (insP done x) := by
  have e := insP_split done x
  generalize hB : (done.reverse.dropWhile (lat x)).reverse = A at *
  generalize hC : (done.reverse.takeWhile (lat x)).reverse = C at *
  have hc : ∀ y ∈ C, val x.v < val y.v := fun y hy => by
    rw [← hC, List.mem_reverse] at hy
    have k : lat x y = true := List.all_eq_true.mp List.all_takeWhile y hy
    have yd : y ∈ done := by rw [← e, ← hC]; exact List.mem_append_right _ (List.mem_reverse.mpr hy)
    exact (flt_iff hx.v.p (hd y yd).v.p).mp k
  have ha : ∀ y ∈ A, val y.v ≤ val x.v := fun y hy => by
    -- A ends with one that is not later; all ahead of it are no later than that one
    have pw : SrtP A := by
      have := h
      rw [← e] at this
      exact (List.pairwise_append.mp this).1
    cases q : done.reverse.dropWhile (lat x) with
    | nil => rw [← hB, q] at hy; cases hy
    | cons z r =>
      have hz : lat x z = false := by
        have := List.head_dropWhile_not (lat x) (l := done.reverse) (by rw [q]; simp)
        simpa [q] using this
      have zd : z ∈ done := by
        have : z ∈ A := by rw [← hB, q]; simp
        rw [← e]
        exact List.mem_append_left _ this
      have hz' := (flt_false hx.v.p (hd z zd).v.p).mp hz
      have eA : A = r.reverse ++ [z] := by rw [← hB, q]; simp
      rw [eA] at hy pw
      rcases List.mem_append.mp hy with k | k
      · have := (List.pairwise_append.mp pw).2.2 y k z (by simp)
        grind
      · simp only [List.mem_cons, List.not_mem_nil, or_false] at k
        rw [k]; exact hz'
  have h' := h
  rw [← e] at h'
  obtain ⟨p1, p2, p3⟩ := List.pairwise_append.mp h'
  unfold insP
  rw [hB, hC]
  refine List.pairwise_append.mpr ⟨p1, List.pairwise_cons.mpr ⟨fun y hy => Rat.le_of_lt (hc y hy), p2⟩, fun y hy z hz => ?_⟩
  rcases List.mem_cons.mp hz with rfl | hz
  · exact ha y hy
  · exact p3 y hy z hz
theorem sortP_srt : ∀ (ws acc : List Wn), (∀ y ∈ ws, WnOk y) → (∀ y ∈ acc, WnOk y) → SrtP acc → SrtP (ws.foldl insP acc)
  | [], acc, _, _, h => h
  | x :: ws, acc, hw, ha, h => by
    have hx := hw x (by simp)
    exact sortP_srt ws (insP acc x) (fun y hy => hw y (by simp [hy])) (fun y hy => by
      rcases List.mem_cons.mp ((insP_perm acc x).mem_iff.mp hy) with rfl | q
      · exact hx
      · exact ha y q) (insP_srt hx ha h)
/-- the first at which half of the weight is reached -/
def pickP (whole : Int) : Int → List Wn → Fr
  | _, [] => (0, 1)
  | many, x :: l => if 2 * (many + x.w) ≥ whole then x.v else pickP whole (many + x.w) l
def wsum (l : List Wn) : Int := (l.map (·.w)).sum
def levF (ws : List Wn) : Fr := pickP (wsum (sortP ws)) 0 (sortP ws)
theorem wsum_cons (x : Wn) (l : List Wn) : wsum (x :: l) = x.w + wsum l := by unfold wsum; simp
theorem wsum_app (a b : List Wn) : wsum (a ++ b) = wsum a + wsum b := by unfold wsum; simp
theorem wsum_nn : ∀ {l : List Wn}, (∀ y ∈ l, 1 ≤ y.w) → 0 ≤ wsum l
  | [], _ => Int.le_refl 0
  | x :: l, h => by
    have := wsum_nn (l := l) fun y hy => h y (by simp [hy])
    have := h x (by simp)
    rw [wsum_cons]
    omega
theorem rd_all {q : Rat} : ∀ {l : List Wn}, (∀ y ∈ l, val y.v ≤ q) → RD (l.map vN) q = wsum l
  | [], _ => rfl
  | x :: l, h => by
    have ih := rd_all (l := l) fun y hy => h y (by simp [hy])
    show (if val x.v ≤ q then x.w else -x.w) + RD (l.map vN) q = _
    rw [if_pos (h x (by simp)), ih, wsum_cons]
theorem rd_ge {q : Rat} : ∀ {l : List Wn}, (∀ y ∈ l, 1 ≤ y.w) → -wsum l ≤ RD (l.map vN) q
  | [], _ => by show -(0 : Int) ≤ 0; omega
  | x :: l, h => by
    have ih := rd_ge (q := q) (l := l) fun y hy => h y (by simp [hy])
    have := h x (by simp)
    rw [wsum_cons]
    show _ ≤ (if val x.v ≤ q then x.w else -x.w) + RD (l.map vN) q
    split <;> omega
theorem ld_all {q : Rat} : ∀ {l : List Wn}, (∀ y ∈ l, q ≤ val y.v) → LD (l.map vN) q = -wsum l
  | [], _ => rfl
  | x :: l, h => by
    have ih := ld_all (l := l) fun y hy => h y (by simp [hy])
    have := h x (by simp)
    show (if val x.v < q then x.w else -x.w) + LD (l.map vN) q = _
    rw [if_neg (by grind), ih, wsum_cons]
    omega
theorem ld_le {q : Rat} : ∀ {l : List Wn}, (∀ y ∈ l, 1 ≤ y.w) → LD (l.map vN) q ≤ wsum l
  | [], _ => by show (0 : Int) ≤ 0; omega
  | x :: l, h => by
    have ih := ld_le (q := q) (l := l) fun y hy => h y (by simp [hy])
    have := h x (by simp)
    rw [wsum_cons]
    show (if val x.v < q then x.w else -x.w) + LD (l.map vN) q ≤ _
    split <;> omega
theorem rd_perm {q : Rat} {a b : List Wn} (h : a.Perm b) : RD (a.map vN) q = RD (b.map vN) q := by
  induction h with
  | nil => rfl
  | cons x _ ih => show _ + RD _ q = _ + RD _ q; rw [ih]
  | swap x y l =>
    show (if val y.v ≤ q then y.w else -y.w) + ((if val x.v ≤ q then x.w else -x.w) + RD (l.map vN) q) = (if val x.v ≤ q then x.w else -x.w) + ((if val y.v ≤ q then y.w else -y.w) + RD (l.map vN) q)
    omega
  | trans _ _ i1 i2 => rw [i1, i2]
theorem ld_perm {q : Rat} {a b : List Wn} (h : a.Perm b) : LD (a.map vN) q = LD (b.map vN) q := by
  induction h with
  | nil => rfl
  | cons x _ ih => show _ + LD _ q = _ + LD _ q; rw [ih]
  | swap x y l =>
    show (if val y.v < q then y.w else -y.w) + ((if val x.v < q then x.w else -x.w) + LD (l.map vN) q) = (if val x.v < q then x.w else -x.w) + ((if val y.v < q then y.w else -y.w) + LD (l.map vN) q)
    omega
  | trans _ _ i1 i2 => rw [i1, i2]
theorem pick_ok : ∀ (l a : List Wn) (whole : Int), SrtP (a ++ l) → (∀ y ∈ a ++ l, 1 ≤ y.w) → whole = wsum (a ++ l) → 2 * wsum a < whole → l ≠ [] →
    (∃ x ∈ l, pickP whole (wsum a) l = x.v) ∧ LD ((a ++ l).map vN) (val (pickP whole (wsum a) l)) < 0 ∧ 0 ≤ RD ((a ++ l).map vN) (val (pickP whole (wsum a) l))
  | [], _, _, _, _, _, _, h => absurd rfl h
  | x :: l, a, whole, hs, hw, hW, ha, _ => by
    unfold pickP
    obtain ⟨p1, p2, p3⟩ := List.pairwise_append.mp hs
    have p4 := List.pairwise_cons.mp p2
    have wx := hw x (by simp)
    rw [wsum_app, wsum_cons] at hW
    by_cases c : 2 * (wsum a + x.w) ≥ whole
    · rw [if_pos c]
      refine ⟨⟨x, by simp, rfl⟩, ?_, ?_⟩
      · rw [List.map_append, LD_app, ld_all (l := x :: l) (fun y hy => by
          rcases List.mem_cons.mp hy with rfl | q
          · exact Rat.le_refl
          · exact p4.1 y q), wsum_cons]
        have := ld_le (q := val x.v) (l := a) fun y hy => hw y (by simp [hy])
        omega
      · rw [List.map_append, RD_app, rd_all (l := a) (fun y hy => p3 y hy x (by simp))]
        have k := rd_ge (q := val x.v) (l := l) fun y hy => hw y (by simp [hy])
        show 0 ≤ wsum a + ((if val x.v ≤ val x.v then x.w else -x.w) + RD (l.map vN) (val x.v))
        rw [if_pos Rat.le_refl]
        omega
    · rw [if_neg c]
      have e : a ++ x :: l = (a ++ [x]) ++ l := by simp
      have wa : wsum (a ++ [x]) = wsum a + x.w := by rw [wsum_app, wsum_cons]; have : wsum ([] : List Wn) = 0 := rfl; omega
      have ln : l ≠ [] := fun z => by
        subst z
        have : wsum ([] : List Wn) = 0 := rfl
        have := wsum_nn (l := a) fun y hy => hw y (by simp [hy])
        omega
      have ih := pick_ok l (a ++ [x]) whole (by rw [← e]; exact hs) (by rw [← e]; exact hw) (by rw [wsum_app, wa]; omega) (by rw [wa]; omega) ln
      rw [wa] at ih
      rw [e]
      obtain ⟨⟨y, hy, ey⟩, i2, i3⟩ := ih
      exact ⟨⟨y, by simp [hy], ey⟩, i2, i3⟩
/-- a level lies at one of those wanted, with less than half ahead of it -/
theorem lev_ok {ws : List Wn} (hw : ∀ y ∈ ws, WnOk y) (hn : ws ≠ []) : (∃ x ∈ ws, levF ws = x.v) ∧ LD (ws.map vN) (val (levF ws)) < 0 ∧ 0 ≤ RD (ws.map vN) (val (levF ws)) := by
  have pm : (sortP ws).Perm ws := by have := sortP_perm ws []; rw [List.nil_append] at this; exact this
  have st := sortP_srt ws [] hw (fun y hy => nomatch hy) .nil
  have sn : sortP ws ≠ [] := fun z => hn (by
    have := pm.length_eq
    rw [z] at this
    exact List.eq_nil_of_length_eq_zero this.symm)
  have hw' : ∀ y ∈ sortP ws, 1 ≤ y.w := fun y hy => (hw y (pm.mem_iff.mp hy)).w.1
  have w0 : 2 * wsum ([] : List Wn) < wsum (sortP ws) := by
    have : ∀ l : List Wn, (∀ y ∈ l, 1 ≤ y.w) → l ≠ [] → 0 < wsum l := by
      intro l
      induction l with
      | nil => intro _ h; exact absurd rfl h
      | cons x l ih =>
        intro h _
        rw [wsum_cons]
        have := h x (by simp)
        by_cases z : l = []
        · subst z; show 0 < x.w + 0; omega
        · have := ih (fun y hy => h y (by simp [hy])) z; omega
    exact this _ hw' sn
  obtain ⟨⟨x, hx, ex⟩, k1, k2⟩ := pick_ok (sortP ws) [] (wsum (sortP ws)) st hw' rfl w0 sn
  rw [List.nil_append] at k1 k2
  rw [ld_perm pm] at k1
  rw [rd_perm pm] at k2
  exact ⟨⟨x, pm.mem_iff.mp hx, ex⟩, k1, k2⟩
/-! its walk -/
@[reducible] def plC (ws : List Wn) : Cell := .ins "Pool" [("wants", .lst (ws.map encN))]
section
variable (om : Om)
theorem v_while (x0 x2 x3 x4 : Option Sl) {x : Wn} (hx : WnOk x) : ∀ (r a : List Wn) (f : Nat), (∀ y ∈ a ++ r, WnOk y) → (a ++ r).length ≤ 500 → r.reverse = r.reverse → a.length + 1 ≤ f →
    goW v_c v_b f [x0, some (.val (.lst ((a ++ r).map encN))), some (.val (encN x)), x3, x4, some (.val (.int (a.length : Int)))] om = .nx [x0, some (.val (.lst ((a ++ r).map encN))), some (.val (encN x)), x3, x4, some (.val (.int ((a.reverse.dropWhile (lat x)).length : Int)))] om := by
  intro r a
  generalize hn : a.length = n
  induction n generalizing a r with
  | zero =>
    intro f hd hl _ hf
    obtain rfl : a = [] := List.eq_nil_of_length_eq_zero hn
    obtain ⟨g, rfl⟩ : ∃ g, f = g + 1 := ⟨f - 1, by omega⟩
    have c1 : v_c [x0, some (.val (.lst (([] ++ r).map encN))), some (.val (encN x)), x3, x4, some (.val (.int 0))] om = .ok false [x0, some (.val (.lst (([] ++ r).map encN))), some (.val (encN x)), x3, x4, some (.val (.int 0))] om := by
      clear hx hd hl hf hn
      unfold v_c
      generalize ([] ++ r).map encN = X at *
      walk_at "evx"
      rfl
    exact goW_false c1
  | succ n ih =>
    intro f hd hl _ hf
    obtain ⟨g, rfl⟩ : ∃ g, f = g + 1 := ⟨f - 1, by omega⟩
    obtain ⟨a', y, rfl⟩ : ∃ a' y, a = a' ++ [y] := ⟨a.dropLast, a.getLast (fun z => by rw [z] at hn; cases hn), (List.dropLast_concat_getLast _).symm⟩
    have hn' : a'.length = n := by simp at hn; omega
    have hy := hd y (by simp)
    have e : a' ++ [y] ++ r = a' ++ (y :: r) := by simp
    have at1 : atN ((a' ++ [y] ++ r).map encN) ((n : Int)) = some (encN y) := by
      refine atN_nat ?_
      rw [e, List.getElem?_map, List.getElem?_append_right (by omega), hn', Nat.sub_self]
      rfl
    have b1 := below_eq om hx.v.bd hy.v.bd (by decide)
    have d0 : ((n + 1 : Nat) : Int) - 1 = (n : Int) := by omega
    have d1 : decide ((0 : Int) < ((n + 1 : Nat) : Int)) = true := decide_eq_true (by omega)
    have rv : (a' ++ [y]).reverse = y :: a'.reverse := by simp
    rw [rv, List.dropWhile_cons]
    by_cases c : lat x y = true
    · rw [if_pos c]
      have cc : flt x.v y.v = true := c
      rw [cc] at b1
      have ih' := ih (y :: r) a' hn' g (by rw [← e]; exact hd) (by rw [← e]; exact hl) rfl (by omega)
      rw [← e] at ih'
      have c1 : v_c [x0, some (.val (.lst ((a' ++ [y] ++ r).map encN))), some (.val (encN x)), x3, x4, some (.val (.int ((n + 1 : Nat) : Int)))] om = .ok true [x0, some (.val (.lst ((a' ++ [y] ++ r).map encN))), some (.val (encN x)), x3, x4, some (.val (.int ((n + 1 : Nat) : Int)))] om := by
        clear hx hd hl hf hn ih' hy c ih e cc
        unfold v_c
        generalize (a' ++ [y] ++ r).map encN = X at *
        generalize ((n + 1 : Nat) : Int) = N1 at *
        generalize (n : Int) = N0 at *
        walk_at "evx"
      have c2 : v_b [x0, some (.val (.lst ((a' ++ [y] ++ r).map encN))), some (.val (encN x)), x3, x4, some (.val (.int ((n + 1 : Nat) : Int)))] om = .nx [x0, some (.val (.lst ((a' ++ [y] ++ r).map encN))), some (.val (encN x)), x3, x4, some (.val (.int (n : Int)))] om := by
        clear hx hd hl hf hn ih' hy c ih e c1 b1 at1 cc
        unfold v_b
        generalize (a' ++ [y] ++ r).map encN = X at *
        generalize ((n + 1 : Nat) : Int) = N1 at *
        generalize (n : Int) = N0 at *
        walk_at "evx"
      rw [goW_true c1, c2, turn_nx, ih']
    · rw [if_neg c]
      have c' : lat x y = false := by simpa using c
      have cc : flt x.v y.v = false := c'
      rw [cc] at b1
      have c1 : v_c [x0, some (.val (.lst ((a' ++ [y] ++ r).map encN))), some (.val (encN x)), x3, x4, some (.val (.int ((n + 1 : Nat) : Int)))] om = .ok false [x0, some (.val (.lst ((a' ++ [y] ++ r).map encN))), some (.val (encN x)), x3, x4, some (.val (.int ((n + 1 : Nat) : Int)))] om := by
        clear hx hd hl hf hn hy c ih e c' cc
        unfold v_c
        generalize (a' ++ [y] ++ r).map encN = X at *
        generalize ((n + 1 : Nat) : Int) = N1 at *
        generalize (n : Int) = N0 at *
        walk_at "evx"
      rw [goW_false c1]
      have : (y :: a'.reverse).length = n + 1 := by simp [hn']
      rw [this]
theorem v_turn_eq (x0 x3 x4 x5 : Option Sl) {x : Wn} (hx : WnOk x) (done : List Wn) (hd : ∀ y ∈ done, WnOk y) (hl : done.length ≤ 400) : ∃ y5,
    v_turn [x0, some (.val (.lst (done.map encN))), some (.val (encN x)), x3, x4, x5] om = .nx [x0, some (.val (.lst ((insP done x).map encN))), some (.val (encN x)), x3, x4, y5] om := by
  have w := v_while om x0 none x3 x4 hx [] done (done.length + 1) (by rw [List.append_nil]; exact hd) (by rw [List.append_nil]; omega) rfl (Nat.le_refl _)
  rw [List.append_nil] at w
  have e := insP_split done x
  generalize hA : (done.reverse.dropWhile (lat x)).reverse = A at *
  generalize hC : (done.reverse.takeWhile (lat x)).reverse = C at *
  have lA : (done.reverse.dropWhile (lat x)).length = A.length := by rw [← hA, List.length_reverse]
  rw [lA] at w
  have lo := cut_lo (A.map encN) (C.map encN) (k := A.length) (by simp)
  have hi := cut_hi (A.map encN) (C.map encN) (k := A.length) (by simp)
  rw [← List.map_append, e] at lo hi
  have ll : A.length + C.length = done.length := by rw [← e, List.length_append]
  have ad : dAdd (.lst (A.map encN)) (.lst [encN x]) = some (.lst ((A ++ [x]).map encN)) := by
    unfold dAdd
    dsimp only
    rw [if_pos (Nat.le_trans (m := 1000) (by simp only [List.length_map, List.length_cons, List.length_nil]; omega) (by decide)), List.map_append]
    rfl
  have ix : insP done x = (A ++ [x]) ++ C := by unfold insP; rw [hA, hC]; simp
  rw [ix]
  have ad2 : dAdd (.lst ((A ++ [x]).map encN)) (.lst (C.map encN)) = some (.lst (((A ++ [x]) ++ C).map encN)) := by
    unfold dAdd
    dsimp only
    rw [if_pos (Nat.le_trans (m := 1000) (by simp only [List.length_map, List.length_append, List.length_cons, List.length_nil]; omega) (by decide)), ← List.map_append]
  have wf : sWhile (fuelI 5) v_c v_b [x0, some (.val (.lst (done.map encN))), some (.val (encN x)), x3, x4, some (.val (.int (done.length : Int)))] om = .nx [x0, some (.val (.lst (done.map encN))), some (.val (encN x)), x3, x4, some (.val (.int (A.length : Int)))] om := by
    rw [sWhile_eq]
    have : fuelI 5 [x0, some (.val (.lst (done.map encN))), some (.val (encN x)), x3, x4, some (.val (.int (done.length : Int)))] om = done.length + 1 := by
      show (done.length : Int).natAbs + 1 = _
      omega
    rw [this]
    exact w
  have fl : fLen [.lst (done.map encN)] = some (.int (done.length : Int)) := by rw [fLen_lst, List.length_map]
  refine ⟨some (.val (.int (A.length : Int))), ?_⟩
  have ins : v_ins [x0, some (.val (.lst (done.map encN))), some (.val (encN x)), x3, x4, some (.val (.int (A.length : Int)))] om = .nx [x0, some (.val (.lst (((A ++ [x]) ++ C).map encN))), some (.val (encN x)), x3, x4, some (.val (.int (A.length : Int)))] om := by
    have di : ∀ xs : List D, dItems (.lst xs) = some xs := fun xs => rfl
    clear w hd hl hx e hA hC lA ix wf fl ll
    unfold v_ins
    generalize ((A ++ [x]) ++ C).map encN = X5 at *
    generalize (A ++ [x]).map encN = X2 at *
    generalize done.map encN = X at *
    generalize A.map encN = X3 at *
    generalize C.map encN = X4 at *
    walk_at "evx"
  clear w hd hl hx e hA hC lA lo hi ix ll ad ad2
  unfold v_turn
  generalize v_ins = VI at *
  generalize v_c = VC at *
  generalize v_b = VB at *
  generalize ((A ++ [x]) ++ C).map encN = X2 at *
  generalize done.map encN = X at *
  walk_at "evx"
theorem pick_loop (x0 x1 : Option Sl) (whole : Int) : ∀ (l : List Wn) (many : Int) (x2 x5 : Option Sl), (∃ q, goL (gN 2) v_pick (l.map encN) [x0, x1, x2, some (.val (.int whole)), some (.val (.int many)), x5] om = .rt (encF q) om ∧ q = pickP whole many l) ∨ ((∃ ρ', goL (gN 2) v_pick (l.map encN) [x0, x1, x2, some (.val (.int whole)), some (.val (.int many)), x5] om = .nx ρ' om) ∧ 2 * (many + wsum l) < whole ∨ l = [])
  | [], many, x2, x5 => .inr (.inr rfl)
  | x :: l, many, x2, x5 => by
    rw [List.map_cons, goL_cons (ρ1 := [x0, x1, some (.val (encN x)), some (.val (.int whole)), some (.val (.int many)), x5]) _ _ rfl]
    unfold pickP
    have mo : mulOk 2 (many + x.w) = true := by unfold mulOk; rfl
    have ml := dMul_int mo
    by_cases c : 2 * (many + x.w) ≥ whole
    · rw [if_pos c]
      have c1 : decide (whole ≤ 2 * (many + x.w)) = true := decide_eq_true c
      refine .inl ⟨x.v, ?_, rfl⟩
      have st : v_pick [x0, x1, some (.val (encN x)), some (.val (.int whole)), some (.val (.int many)), x5] om = .rt (encF x.v) om := by
        clear c
        unfold v_pick
        walk_at "evx"
      rw [st, turn_rt]
    · rw [if_neg c]
      have c1 : decide (whole ≤ 2 * (many + x.w)) = false := decide_eq_false c
      have st : v_pick [x0, x1, some (.val (encN x)), some (.val (.int whole)), some (.val (.int many)), x5] om = .nx [x0, x1, some (.val (encN x)), some (.val (.int whole)), some (.val (.int (many + x.w))), x5] om := by
        clear c
        unfold v_pick
        walk_at "evx"
      rw [st, turn_nx, wsum_cons]
      rcases pick_loop x0 x1 whole l (many + x.w) (some (.val (encN x))) x5 with ⟨q, h1, h2⟩ | (⟨⟨ρ', h1⟩, h2⟩ | h)
      · exact .inl ⟨q, h1, h2⟩
      · exact .inr (.inl ⟨⟨ρ', h1⟩, by omega⟩)
      · subst h
        exact .inr (.inl ⟨⟨_, rfl⟩, by have : wsum ([] : List Wn) = 0 := rfl; omega⟩)
theorem level_eq {k : Nat} {ws : List Wn} (hk : om[k]? = some (plC ws)) (hw : ∀ y ∈ ws, WnOk y) (hn : ws ≠ []) (hl : ws.length ≤ 60) : S_Pool_level [.loc k] om = .ok (encF (levF ws)) om := by
  obtain ⟨ρ1, om1, g1, y5, z2, hq1, hq2⟩ := goL_item (i := 2) (body := v_turn) encN (fun pre ρ om' => ∃ (y5 z2 : Option Sl), ρ = [some (.val (.loc k)), some (.val (.lst ((sortP pre).map encN))), z2, none, none, y5] ∧ om' = om) ws [] [some (.val (.loc k)), some (.val (.lst [])), none, none, none, none] om
    (fun p x q ρ om' e ⟨y5, z2, h1, h2⟩ => by
      subst h1 h2
      rw [List.nil_append] at e
      have hp : ∀ y ∈ p, WnOk y := fun y hy => hw y (by rw [e]; simp [hy])
      have pm : (sortP p).Perm p := by have := sortP_perm p []; rw [List.nil_append] at this; exact this
      have lp : p.length ≤ 60 := by rw [e] at hl; simp at hl; omega
      obtain ⟨w5, h⟩ := v_turn_eq om' (some (.val (.loc k))) none none y5 (hw x (by rw [e]; simp)) (sortP p) (fun y hy => hp y (pm.mem_iff.mp hy)) (by rw [pm.length_eq]; omega)
      refine ⟨_, _, h, w5, some (.val (encN x)), ?_, rfl⟩
      have : sortP (p ++ [x]) = insP (sortP p) x := by unfold sortP; rw [List.foldl_append]; rfl
      rw [this]) ⟨none, none, rfl, rfl⟩
  subst hq1
  rw [hq2, List.nil_append] at g1
  clear hq2
  have pm : (sortP ws).Perm ws := by have := sortP_perm ws []; rw [List.nil_append] at this; exact this
  have lc := goC_map (te := uBin dIx (uVar 2) (uC (.int 1))) (i := 2) (ω := om) (ρ := [some (.val (.loc k)), some (.val (.lst ((sortP ws).map encN))), z2, none, none, y5]) (fun d => match d with | .tup [_, y] => y | _ => .non) ((sortP ws).map encN) [] (fun d hd => by
    obtain ⟨x, hx, rfl⟩ := List.mem_map.mp hd
    rfl) (by rw [List.length_map, pm.length_eq]; simp; exact Nat.le_trans (show ws.length ≤ 1000 by omega) (by decide))
  rw [List.nil_append, List.map_map] at lc
  have em : (sortP ws).map ((fun d => match d with | .tup [_, y] => y | _ => .non) ∘ encN) = ((sortP ws).map (·.w)).map D.int := by
    rw [List.map_map]
    rfl
  rw [em] at lc
  have fs : fSum [.lst (((sortP ws).map (·.w)).map D.int)] = some (.int (wsum (sortP ws))) := by
    unfold fSum
    dsimp only
    rw [asInts_map]
    rfl
  have w0 : sortP ws ≠ [] := fun z => hn (by
    have := pm.length_eq
    rw [z] at this
    exact List.eq_nil_of_length_eq_zero this.symm)
  have pk : ∃ q, goL (gN 2) v_pick ((sortP ws).map encN) [some (.val (.loc k)), some (.val (.lst ((sortP ws).map encN))), none, some (.val (.int (wsum (sortP ws)))), some (.val (.int 0)), y5] om = .rt (encF q) om ∧ q = levF ws := by
    rcases pick_loop om (some (.val (.loc k))) (some (.val (.lst ((sortP ws).map encN)))) (wsum (sortP ws)) (sortP ws) 0 none y5 with ⟨q, h1, h2⟩ | (⟨_, h2⟩ | h)
    · exact ⟨q, h1, h2⟩
    · exfalso
      have : ∀ l : List Wn, (∀ y ∈ l, 1 ≤ y.w) → 0 ≤ wsum l := by
        intro l
        induction l with
        | nil => intro _; show (0 : Int) ≤ 0; omega
        | cons x l ih =>
          intro h
          rw [wsum_cons]
          have := h x (by simp)
          have := ih fun y hy => h y (by simp [hy])
          omega
      have := this (sortP ws) fun y hy => (hw y (pm.mem_iff.mp hy)).w.1
      omega
    · exact absurd h w0
  obtain ⟨q, g2, rfl⟩ := pk
  clear hw hn hl pm em w0
  have lk : List.lookup ("wants" : Str) [(("wants" : Str), D.lst (ws.map encN))] = some (.lst (ws.map encN)) := rfl
  simp only [List.set_cons_succ, List.set_cons_zero] at lc
  unfold S_Pool_level
  rw [v_top]
  unfold uLc
  unfold plC at hk
  generalize v_turn = VT at *
  generalize v_pick = VP at *
  generalize ws.map encN = X at *
  generalize ((sortP ws).map (·.w)).map D.int = X2 at *
  generalize (sortP ws).map encN = X3 at *
  generalize levF ws = LV at *
  generalize wsum (sortP ws) = WS at *
  simp only [clrs] at *
  walk_at "evx"
end
end Dv

namespace Dv
open PySem PySem.Spec PyProof.Rows L2
local macro_rules | `(tactic| walk_at "ev") => `(tactic| try simp (disch := omega) only [sSeq_eq, seq_nx, seq_rt, seq_rto, seq_xc, seq_bk, seq_ct, seq_ite, sAsg, sAsgO, sExpr, sRet, sRetO, sRetN, sIf, sNext, uVar, uC, uUn, uBin, uB, uNot, uAnd, uOr, uTV, uAndV, uOrV, uNotV, uIf, uChain, uNil, uCons, uTup, uLst, uLstO, uFn, uFnO, uFz, uMv, uNew, uCall, uCallO, uCallN, uBinV, uBinW, uBinL, uMeO, uMeL, uFnV, sSetL, sAsgG, gN, gT2, gT3, gT4, iLst, iFn,   bind_ok, bind_xc, of_ok, of_xc, res_ok, res_xc, res0_ok, own_ok, own_xc, fr_nx, fr_rt, fr_rto, fr_xc, fo_rto, fo_xc, liftO_some, dBool_bl, items_lst, items_frz, ent, defU, defO, List.map_cons, List.map_nil, List.length_cons, List.length_nil, List.cons_append, List.nil_append, List.append_nil, List.replicate, List.getElem?_cons_zero, List.getElem?_cons_succ, List.set_cons_zero, List.set_cons_succ, Nat.zero_add, Nat.reduceAdd, Nat.reduceSub, Nat.reduceLeDiff,   le_big, lt_big, atN_zero, atN_one, atN_two, atN_three, setN_zero, setN_one, popAt_zero, len_zero, len_succ, dMul_r, dMul_l, dDiv_pos, dMod_pos, dAdd_int, dSub_int, dNeg_int, dLt_int, dLe_int, dGt_int, dGe_int, dEq_int, dNe_int, dEq_bl, dNe_bl, dEq_nil, dNe_nil, dIx_lst, dIx_tup, fAbs_int, fInt_bl, fInt_int, fLen_lst, fLen_frz, fLen_tup, ite_true, ite_false, if_true, if_false, Bool.not_true, Bool.not_false, decide_true, decide_false, Bool.true_eq_false, Bool.false_eq_true, reduceIte, reduceCtorEq, turn_nx, turn_ct, turn_bk, turn_rt, turn_rto, turn_xc, sFor_eq, goL_nil, eq_self])
local macro_rules | `(tactic| walk_at "evs") => `(tactic| try simp (disch := omega) only [sSeq_eq, seq_nx, seq_rt, seq_rto, seq_xc, seq_bk, seq_ct, seq_ite, sAsg, sAsgO, sExpr, sRet, sRetO, sRetN, sIf, sNext, uVar, uC, uUn, uBin, uB, uNot, uAnd, uOr, uTV, uAndV, uOrV, uNotV, uIf, uChain, uNil, uCons, uTup, uLst, uLstO, uFn, uFnO, uFz, uMv, uNew, uCall, uCallO, uCallN, uBinV, uBinW, uBinL, uMeO, uMeL, uFnV, sSetL, sAsgG, gN, gT2, gT3, gT4, iLst, iFn,   bind_ok, bind_xc, of_ok, of_xc, res_ok, res_xc, res0_ok, own_ok, own_xc, fr_nx, fr_rt, fr_rto, fr_xc, fo_rto, fo_xc, liftO_some, dBool_bl, items_lst, items_frz, ent, defU, defO, List.map_cons, List.map_nil, List.length_cons, List.length_nil, List.cons_append, List.nil_append, List.append_nil, List.replicate, List.getElem?_cons_zero, List.getElem?_cons_succ, List.set_cons_zero, List.set_cons_succ, Nat.zero_add, Nat.reduceAdd, Nat.reduceSub, Nat.reduceLeDiff,   le_big, lt_big, atN_zero, atN_one, atN_two, atN_three, setN_zero, setN_one, popAt_zero, len_zero, len_succ, dMul_r, dMul_l, dDiv_pos, dMod_pos, dAdd_int, dSub_int, dNeg_int, dLt_int, dLe_int, dGt_int, dGe_int, dEq_int, dNe_int, dEq_bl, dNe_bl, dEq_nil, dNe_nil, dIx_lst, dIx_tup, fAbs_int, fInt_bl, fInt_int, fLen_lst, fLen_frz, fLen_tup, ite_true, ite_false, if_true, if_false, Bool.not_true, Bool.not_false, decide_true, decide_false, Bool.true_eq_false, Bool.false_eq_true, reduceIte, reduceCtorEq, turn_nx, turn_ct, turn_bk, turn_rt, turn_rto, turn_xc, sFor_eq, goL_nil, eq_self, *])
local macro_rules | `(tactic| walk_at "evt") => `(tactic| try simp (disch := first | omega | (simp only [List.length_append, List.length_cons, List.length_nil, List.length_map]; omega)) only [sSeq_eq, seq_nx, seq_rt, seq_rto, seq_xc, seq_bk, seq_ct, seq_ite, sAsg, sAsgO, sExpr, sRet, sRetO, sRetN, sIf, sNext, uVar, uC, uUn, uBin, uB, uNot, uAnd, uOr, uTV, uAndV, uOrV, uNotV, uIf, uChain, uNil, uCons, uTup, uLst, uLstO, uFn, uFnO, uFz, uMv, uNew, uCall, uCallO, uCallN, uBinV, uBinW, uBinL, uMeO, uMeL, uFnV, sSetL, sAsgG, gN, gT2, gT3, gT4, iLst, iFn,   bind_ok, bind_xc, of_ok, of_xc, res_ok, res_xc, res0_ok, own_ok, own_xc, fr_nx, fr_rt, fr_rto, fr_xc, fo_rto, fo_xc, liftO_some, dBool_bl, items_lst, items_frz, ent, defU, defO, List.map_cons, List.map_nil, List.length_cons, List.length_nil, List.cons_append, List.nil_append, List.append_nil, List.replicate, List.getElem?_cons_zero, List.getElem?_cons_succ, List.set_cons_zero, List.set_cons_succ, Nat.zero_add, Nat.reduceAdd, Nat.reduceSub, Nat.reduceLeDiff,   le_big, lt_big, atN_zero, atN_one, atN_two, atN_three, setN_zero, setN_one, popAt_zero, len_zero, len_succ, dMul_r, dMul_l, dDiv_pos, dMod_pos, dAdd_int, dSub_int, dNeg_int, dLt_int, dLe_int, dGt_int, dGe_int, dEq_int, dNe_int, dEq_bl, dNe_bl, dEq_nil, dNe_nil, dIx_lst, dIx_tup, fAbs_int, fInt_bl, fInt_int, fLen_lst, fLen_frz, fLen_tup, ite_true, ite_false, if_true, if_false, Bool.not_true, Bool.not_false, decide_true, decide_false, Bool.true_eq_false, Bool.false_eq_true, reduceIte, reduceCtorEq, turn_nx, turn_ct, turn_bk, turn_rt, turn_rto, turn_xc, sFor_eq, goL_nil, eq_self, sRaise, gT2, gT3, gT4, sAsgG, uM1, uOrS, uSlS, uSlW, uCatV, uPart, uNoPart, iStrU, k_colon, k_blank, k_line, k_f, k_s, k_0, k_empty, k_digits, k_abc, k_alpha, k_cue, k_from, k_to, k_at, k_two, k_fto, k_nl, k_a1, dAdd_tx, fLen_tx, fStr_nat, dEq_tx, dNe_tx, dEq_txn, dNe_txn, len_tx, cutS_l1, cutS_b1, cutS_ln, cutS_bn, dIx_tx0, *])
local macro_rules | `(tactic| walk_at "evx") => `(tactic| try simp (disch := first | omega | (simp only [List.length_append, List.length_cons, List.length_nil, List.length_map]; omega)) only [sSeq_eq, seq_nx, seq_rt, seq_rto, seq_xc, seq_bk, seq_ct, seq_ite, sAsg, sAsgO, sExpr, sRet, sRetO, sRetN, sIf, sNext, uVar, uC, uUn, uBin, uB, uNot, uAnd, uOr, uTV, uAndV, uOrV, uNotV, uIf, uChain, uNil, uCons, uTup, uLst, uLstO, uFn, uFnO, uFz, uMv, uNew, uCall, uCallO, uCallN, uBinV, uBinW, uBinL, uMeO, uMeL, uFnV, sSetL, sAsgG, gN, gT2, gT3, gT4, iLst, iFn,   bind_ok, bind_xc, of_ok, of_xc, res_ok, res_xc, res0_ok, own_ok, own_xc, fr_nx, fr_rt, fr_rto, fr_xc, fo_rto, fo_xc, liftO_some, dBool_bl, items_lst, items_frz, ent, defU, defO, List.map_cons, List.map_nil, List.length_cons, List.length_nil, List.cons_append, List.nil_append, List.append_nil, List.replicate, List.getElem?_cons_zero, List.getElem?_cons_succ, List.set_cons_zero, List.set_cons_succ, Nat.zero_add, Nat.reduceAdd, Nat.reduceSub, Nat.reduceLeDiff,   le_big, lt_big, atN_zero, atN_one, atN_two, atN_three, setN_zero, setN_one, popAt_zero, len_zero, len_succ, dMul_r, dMul_l, dDiv_pos, dMod_pos, dAdd_int, dSub_int, dNeg_int, dLt_int, dLe_int, dGt_int, dGe_int, dEq_int, dNe_int, dEq_bl, dNe_bl, dEq_nil, dNe_nil, dIx_lst, dIx_tup, fAbs_int, fInt_bl, fInt_int, fLen_lst, fLen_frz, fLen_tup, ite_true, ite_false, if_true, if_false, Bool.not_true, Bool.not_false, decide_true, decide_false, Bool.true_eq_false, Bool.false_eq_true, reduceIte, reduceCtorEq, turn_nx, turn_ct, turn_bk, turn_rt, turn_rto, turn_xc, sFor_eq, goL_nil, eq_self, sRaise, gT2, gT3, gT4, sAsgG, see_bl, see_int, see_non, see_tup, see_lst, see_str, uBinX, uUnX, uFnX, uFld, sFldU, uMeth, uMethO, uMake, uCatX, uRev, uMethN, uFrzI, uSlV, uM1, uOrS, uSlS, uSlW, uCatV, uPart, uNoPart, iStrU, k_colon, k_blank, k_line, k_f, k_s, k_0, k_empty, k_digits, k_abc, k_alpha, k_cue, k_from, k_to, k_at, k_two, k_fto, k_nl, k_a1, dAdd_tx, fLen_tx, fStr_nat, dEq_tx, dNe_tx, dEq_txn, dNe_txn, len_tx, cutS_l1, cutS_b1, cutS_ln, cutS_bn, dIx_tx0, *])
def w_c : UT := (uAnd (uB (uBinV dNe 1 (uLst uNil))) (uB (uCall 2 S_is_below (uCons (uMeth "Pool" "level" 1 S_Pool_level (uVar 4) uNil) (uCons (uMeth "Pool" "level" 1 S_Pool_level (uBinV dIx 1 (uUn dNeg (uC (.int 1)))) uNil) uNil)))))
def w_b : US := (sAsg 4 (uMake "Pool" 2 S_Pool_init (uCons (uBin dAdd (uFld "Pool" "wants" (uMeO 1 mPop uNil)) (uFld "Pool" "wants" (uVar 4))) uNil)))
def w_turn : US := (sSeq (sAsg 4 (uMake "Pool" 2 S_Pool_init (uCons (uLst (uCons (uVar 2) uNil)) uNil))) (sSeq (sWhile (fuelL 1) w_c w_b) (sExpr (uMeO 1 mAppend (uCons (uVar 4) uNil)))))
def x_turn : US := (sExpr (uMeO 3 mExtend (uCons (uFz (uLc (iLst (uFld "Pool" "wants" (uVar 4))) (gN 2) uYes (uMethN "Pool" "level" 1 S_Pool_level (uVar 4)) [2])) uNil)))
theorem w_top : u_levels = (sSeq (sAsgO 1 (uLstO uNil)) (sSeq (sForL (uVar 0) (gN 2) w_turn) (sSeq (sAsgO 3 (uLstO uNil)) (sSeq (sFor (iLst (uFz (uMv 1))) (gN 4) x_turn) (sRetO (uMv 3)))))) := rfl
/-! ### pools in a row -/
theorem set_end {α : Type} (l : List α) (x y : α) : (l ++ [x]).set l.length y = l ++ [y] := by
  rw [List.set_append_right (h := Nat.le_refl _)]
  simp
theorem get_end {α : Type} (l : List α) (x : α) : (l ++ [x])[l.length]? = some x := by simp
theorem app_D {α : Type} (f : α → D) {d : List α} (s : α) (h : d.length ≤ 1000) : mAppend (d.map f) [f s] = some (.non, (d ++ [s]).map f) := by
  unfold mAppend
  dsimp only
  rw [if_pos (by rw [List.length_map]; exact Nat.lt_of_le_of_lt h (by decide))]
  simp
theorem pop_D {α : Type} (f : α → D) (d0 : List α) (l : α) : mPop ((d0 ++ [l]).map f) [] = some (f l, d0.map f) := by
  unfold mPop
  simp
theorem p_nil_or {α : Type} (done : List α) : done = [] ∨ ∃ d0 l, done = d0 ++ [l] := by
  by_cases hn : done = []
  · exact .inl hn
  · exact .inr ⟨done.dropLast, done.getLast hn, (List.dropLast_concat_getLast hn).symm⟩
theorem atN_last {α : Type} {xs : List α} {x : α} : atN (xs ++ [x]) (-1) = some x := by
  unfold atN
  rw [if_neg (by omega), if_pos (by simp only [List.length_append, List.length_cons, List.length_nil]; omega)]
  have : (-1 + ((xs ++ [x]).length : Int)).toNat = xs.length := by simp only [List.length_append, List.length_cons, List.length_nil]; omega
  rw [this]
  simp
@[reducible] def encL (p : List Wn × Nat) : D := .loc p.2
def gpL (ws : List Wn) : List Wt × Rat := (ws.map vN, val (levF ws))
structure PlOk (om : Om) (p : List Wn × Nat) : Prop where
  c : om[p.2]? = some (plC p.1)
  w : ∀ y ∈ p.1, WnOk y
  n : p.1 ≠ []
  l : p.1.length ≤ 60
  g : Gp (p.1.map vN) (val (levF p.1))
theorem PlOk.grow {om : Om} {p : List Wn × Nat} (h : PlOk om p) (e : Om) : PlOk (om ++ e) p := ⟨by rw [List.getElem?_append_left (List.getElem?_eq_some_iff.mp h.c).1]; exact h.c, h.w, h.n, h.l, h.g⟩
theorem PlOk.lev {om : Om} {p : List Wn × Nat} (h : PlOk om p) : S_Pool_level [.loc p.2] om = .ok (encF (levF p.1)) om ∧ WnOk ⟨levF p.1, 1⟩ := by
  refine ⟨level_eq om h.c h.w h.n h.l, ?_⟩
  obtain ⟨⟨x, hx, ex⟩, _⟩ := lev_ok h.w h.n
  rw [ex]
  exact ⟨(h.w x hx).v, ⟨Int.le_refl 1, show (1 : Int) ≤ 9 by decide⟩⟩
theorem PlOk.isi {om : Om} {p : List Wn × Nat} (h : PlOk om p) : isIns om (.loc p.2) "Pool" "level" = true := by
  unfold isIns
  dsimp only
  rw [h.c]
  rfl
theorem PlOk.fld {om : Om} {p : List Wn × Nat} (h : PlOk om p) {ρ ρ' : Rho} {om0 : Om} {u : UE} (e : u ρ om0 = .ok (.loc p.2) ρ' om) : uFld "Pool" "wants" u ρ om0 = .ok (.lst (p.1.map encN)) ρ' om := by
  have g := h.c
  simp only [uFld, e, Res.bind, g]
  rfl
theorem pinit_eq (om : Om) (X : D) : S_Pool_init [.loc om.length, X] (om ++ [.ins "Pool" []]) = .ok .non (om ++ [.ins "Pool" [("wants", X)]]) := by
  have p1 : putD "wants" X [] = [(("wants" : Str), X)] := rfl
  have l1 : ∀ c, (om ++ [c])[om.length]? = some c := fun c => get_end om c
  have l2 : ∀ c d, (om ++ [c]).set om.length d = om ++ [d] := fun c d => set_end om c d
  have g0 : ((0 : Nat) < 900) = True := by simp
  have tt : (True ∧ True) = True := by simp
  unfold S_Pool_init u_Pool_init
  walk_at "evx"
theorem make_eq {u : UE} {ρ ρ' : Rho} {om0 om : Om} {X : D} (h : u ρ om0 = .ok X ρ' om) : uMake "Pool" 2 S_Pool_init (uCons u uNil) ρ om0 = .ok (.loc om.length) ρ' (om ++ [.ins "Pool" [("wants", X)]]) := by
  have e := pinit_eq om X
  simp only [uMake, uCons, uNil, h, Res.bind, List.length_cons, List.length_nil, if_true, Nat.zero_add, Nat.reduceAdd, e]
def totL (ps : List (List Wn × Nat)) : List Wn := ps.flatMap (·.1)
structure Stq (om : Om) (ps : List (List Wn × Nat)) : Prop where
  ok : ∀ p ∈ ps, PlOk om p
  up : ps.Pairwise fun p q => val (levF p.1) ≤ val (levF q.1)
/-- pools merged, as a function -/
def mrg : Nat → List (List Wn) → List Wn → List (List Wn)
  | 0, ps, new => ps ++ [new]
  | n + 1, ps, new => match ps.getLast? with
    | none => [new]
    | some A => if flt (levF new) (levF A) = true then mrg n ps.dropLast (A ++ new) else ps ++ [new]
theorem mrg_snoc (n : Nat) (st : List (List Wn)) (A new : List Wn) : mrg (n + 1) (st ++ [A]) new = if flt (levF new) (levF A) = true then mrg n st (A ++ new) else st ++ [A] ++ [new] := by
  conv => lhs; unfold mrg
  rw [List.getLast?_concat]
  dsimp only
  rw [List.dropLast_concat]
def pavaF (ws : List Wn) : List (List Wn) := ws.foldl (fun st x => mrg st.length st [x]) []
theorem pavaF_app (ws : List Wn) (x : Wn) : pavaF (ws ++ [x]) = mrg (pavaF ws).length (pavaF ws) [x] := by unfold pavaF; rw [List.foldl_append]; rfl
theorem w_while (x0 x2 x3 : Option Sl) : ∀ (n : Nat) (ps : List (List Wn × Nat)) (new : List Wn × Nat) (om : Om) (f : Nat), ps.length = n → n + 1 ≤ f → Stq om ps → PlOk om new → (totL ps ++ new.1).length ≤ 60 →
    ∃ (ps' : List (List Wn × Nat)) (new' : List Wn × Nat) (e : Om), goW w_c w_b f [x0, some (.own (ps.map encL)), x2, x3, some (.val (encL new))] om = .nx [x0, some (.own (ps'.map encL)), x2, x3, some (.val (encL new'))] (om ++ e) ∧
      Stq (om ++ e) (ps' ++ [new']) ∧ totL (ps' ++ [new']) = totL ps ++ new.1 ∧ (ps' ++ [new']).map (·.1) = mrg n (ps.map (·.1)) new.1
  | 0, ps, new, om, f, hn, hf, hs, hw, hl => by
    obtain rfl : ps = [] := List.eq_nil_of_length_eq_zero hn
    obtain ⟨g, rfl⟩ : ∃ g, f = g + 1 := ⟨f - 1, by omega⟩
    have c1 : w_c [x0, some (.own ([].map encL)), x2, x3, some (.val (encL new))] om = .ok false [x0, some (.own ([].map encL)), x2, x3, some (.val (encL new))] om := by
      have d0 : decide ((List.map encL []).length = 0) = true := rfl
      clear hs hw hl hf hn
      unfold w_c
      generalize [].map encL = X at *
      walk_at "evx"
    refine ⟨[], new, [], ?_, ?_, by simp [totL], rfl⟩
    · rw [goW_false c1, List.append_nil]
    · rw [List.append_nil]
      exact ⟨fun p hp => by simp at hp; rw [hp]; exact hw, by simp⟩
  | n + 1, ps, new, om, f, hn, hf, hs, hw, hl => by
    obtain ⟨g, rfl⟩ : ∃ g, f = g + 1 := ⟨f - 1, by omega⟩
    rcases p_nil_or ps with rfl | ⟨p0, A, rfl⟩
    · cases hn
    have hA := hs.ok A (by simp)
    obtain ⟨lA, nA⟩ := hA.lev
    obtain ⟨lN, nN⟩ := hw.lev
    have iA := hA.isi
    have iN := hw.isi
    have b1 := below_eq om nN.v.bd nA.v.bd (by decide)
    have at1 : atN ((p0 ++ [A]).map encL) (-1) = some (encL A) := by rw [List.map_append]; exact atN_last
    have d0 : decide (((p0 ++ [A]).map encL).length = 0) = false := by simp
    cases c : flt (levF new.1) (levF A.1)
    · have c' := (flt_false nN.v.p nA.v.p).mp c
      have c1 : w_c [x0, some (.own ((p0 ++ [A]).map encL)), x2, x3, some (.val (encL new))] om = .ok false [x0, some (.own ((p0 ++ [A]).map encL)), x2, x3, some (.val (encL new))] om := by
        rw [c] at b1
        clear hs hw hl hf hn hA nA nN c c'
        unfold w_c
        generalize (p0 ++ [A]).map encL = X at *
        unfold encL at *
        walk_at "evx"
      have pa : (p0 ++ [A]).map (·.1) = p0.map (·.1) ++ [A.1] := by simp
      have ml : mrg (n + 1) ((p0 ++ [A]).map (·.1)) new.1 = (p0 ++ [A]).map (·.1) ++ [new.1] := by
        rw [pa, mrg_snoc, if_neg (by rw [c]; simp)]
      refine ⟨p0 ++ [A], new, [], ?_, ?_, by simp [totL], by rw [ml, List.map_append (l₁ := p0 ++ [A])]; rfl⟩
      · rw [goW_false c1, List.append_nil]
      · rw [List.append_nil]
        refine ⟨fun p hp => ?_, ?_⟩
        · rcases List.mem_append.mp hp with q | q
          · exact hs.ok p q
          · simp at q; rw [q]; exact hw
        · refine List.pairwise_append.mpr ⟨hs.up, by simp, fun p hp q hq => ?_⟩
          simp at hq
          rw [hq]
          rcases List.mem_append.mp hp with z | z
          · have := (List.pairwise_append.mp hs.up).2.2 p z A (by simp)
            grind
          · simp at z; rw [z]; exact c'
    · have c' := (flt_iff nN.v.p nA.v.p).mp c
      rw [c] at b1
      have c1 : w_c [x0, some (.own ((p0 ++ [A]).map encL)), x2, x3, some (.val (encL new))] om = .ok true [x0, some (.own ((p0 ++ [A]).map encL)), x2, x3, some (.val (encL new))] om := by
        clear hs hw hl hf hn hA nA nN c c'
        unfold w_c
        generalize (p0 ++ [A]).map encL = X at *
        unfold encL at *
        walk_at "evx"
      have et : totL (p0 ++ [A]) ++ new.1 = totL p0 ++ (A.1 ++ new.1) := by simp [totL]
      have lAN : (A.1 ++ new.1).length ≤ 60 := by rw [et, List.length_append] at hl; omega
      have pop := pop_D encL p0 A
      have ad : dAdd (.lst (A.1.map encN)) (.lst (new.1.map encN)) = some (.lst ((A.1 ++ new.1).map encN)) := by
        unfold dAdd
        dsimp only
        rw [if_pos (Nat.le_trans (m := 1000) (by rw [List.length_append] at lAN; simp only [List.length_map]; omega) (by decide)), List.map_append]
      have nw : ∀ y ∈ A.1 ++ new.1, WnOk y := fun y hy => by
        rcases List.mem_append.mp hy with q | q
        · exact hA.w y q
        · exact hw.w y q
      have nn : A.1 ++ new.1 ≠ [] := fun z => hA.n (List.append_eq_nil_iff.mp z).1
      obtain ⟨_, l1, l2⟩ := lev_ok nw nn
      rw [List.map_append] at l1 l2
      have gm := gp_merge hA.g hw.g c' l1 l2
      rw [← List.map_append] at gm
      have hnew : PlOk (om ++ [plC (A.1 ++ new.1)]) (A.1 ++ new.1, om.length) := ⟨get_end _ _, nw, nn, lAN, gm.1⟩
      have hp0 : Stq (om ++ [plC (A.1 ++ new.1)]) p0 := ⟨fun p hp => (hs.ok p (by simp [hp])).grow _, (List.pairwise_append.mp hs.up).1⟩
      have c2 : w_b [x0, some (.own ((p0 ++ [A]).map encL)), x2, x3, some (.val (encL new))] om = .nx [x0, some (.own (p0.map encL)), x2, x3, some (.val (encL (A.1 ++ new.1, om.length)))] (om ++ [plC (A.1 ++ new.1)]) := by
        have f1 : uFld "Pool" "wants" (uMeO 1 mPop uNil) [x0, some (.own ((p0 ++ [A]).map encL)), x2, x3, some (.val (encL new))] om = .ok (.lst (A.1.map encN)) [x0, some (.own (p0.map encL)), x2, x3, some (.val (encL new))] om := by
          refine hA.fld ?_
          clear hs hw hl hf hn hA nA nN c c' c1 iA iN lA lN b1 at1 d0 et lAN ad nw nn l1 l2 gm hnew hp0
          generalize (p0 ++ [A]).map encL = X at *
          generalize p0.map encL = X2 at *
          unfold encL at *
          walk_at "evx"
        have f2 : uFld "Pool" "wants" (uVar 4) [x0, some (.own (p0.map encL)), x2, x3, some (.val (encL new))] om = .ok (.lst (new.1.map encN)) [x0, some (.own (p0.map encL)), x2, x3, some (.val (encL new))] om := hw.fld rfl
        have f3 : uBin dAdd (uFld "Pool" "wants" (uMeO 1 mPop uNil)) (uFld "Pool" "wants" (uVar 4)) [x0, some (.own ((p0 ++ [A]).map encL)), x2, x3, some (.val (encL new))] om = .ok (.lst ((A.1 ++ new.1).map encN)) [x0, some (.own (p0.map encL)), x2, x3, some (.val (encL new))] om := by
          simp only [uBin, f1, Res.bind, f2, ad, liftO]
        have f4 := make_eq f3
        unfold w_b sAsg
        rw [f4]
        rfl
      have pa : (p0 ++ [A]).map (·.1) = p0.map (·.1) ++ [A.1] := by simp
      have ml : mrg (n + 1) ((p0 ++ [A]).map (·.1)) new.1 = mrg n (p0.map (·.1)) (A.1 ++ new.1) := by
        rw [pa, mrg_snoc, if_pos c]
      obtain ⟨ps', new', e, e1, e2, e3, e4⟩ := w_while x0 x2 x3 n p0 (A.1 ++ new.1, om.length) (om ++ [plC (A.1 ++ new.1)]) g (by simp at hn; exact hn) (by omega) hp0 hnew (by rw [← et]; exact hl)
      refine ⟨ps', new', [plC (A.1 ++ new.1)] ++ e, ?_, ?_, ?_, by rw [ml, e4]⟩
      · rw [goW_true c1, c2, turn_nx, e1, List.append_assoc]
      · rw [← List.append_assoc]; exact e2
      · rw [e3, et]
theorem w_turn_eq (x0 x3 x4 : Option Sl) (ps : List (List Wn × Nat)) {x : Wn} (hx : WnOk x) (om : Om) (hs : Stq om ps) (hl : (totL ps).length ≤ 59) (hp : ps.length ≤ 59) : ∃ (ps' : List (List Wn × Nat)) (e : Om) (y4 : Option Sl),
    w_turn [x0, some (.own (ps.map encL)), some (.val (encN x)), x3, x4] om = .nx [x0, some (.own (ps'.map encL)), some (.val (encN x)), x3, y4] (om ++ e) ∧ Stq (om ++ e) ps' ∧ totL ps' = totL ps ++ [x] ∧ ps'.length ≤ (totL ps').length ∧ ps'.map (·.1) = mrg ps.length (ps.map (·.1)) [x] := by
  have m1 : uMake "Pool" 2 S_Pool_init (uCons (uLst (uCons (uVar 2) uNil)) uNil) [x0, some (.own (ps.map encL)), some (.val (encN x)), x3, x4] om = .ok (.loc om.length) [x0, some (.own (ps.map encL)), some (.val (encN x)), x3, x4] (om ++ [plC [x]]) := make_eq rfl
  have lx : levF [x] = x.v := by
    obtain ⟨⟨y, hy, ey⟩, _⟩ := lev_ok (ws := [x]) (fun y hy => by simp at hy; rw [hy]; exact hx) (by simp)
    simp at hy
    rw [ey, hy]
  have hnew : PlOk (om ++ [plC [x]]) ([x], om.length) := ⟨get_end _ _, fun y hy => by simp at hy; rw [hy]; exact hx, by simp, by simp, by
    show Gp [(val x.v, x.w)] (val (levF [x]))
    rw [lx]
    exact gp_one (by have := hx.w.1; omega)⟩
  have hs1 : Stq (om ++ [plC [x]]) ps := ⟨fun p hp => (hs.ok p hp).grow _, hs.up⟩
  obtain ⟨ps', new', e, e1, e2, e3, e4⟩ := w_while x0 (some (.val (encN x))) x3 ps.length ps ([x], om.length) (om ++ [plC [x]]) (ps.length + 1) rfl (Nat.le_refl _) hs1 hnew (by rw [List.length_append]; simp; omega)
  have ln : ∀ (l : List (List Wn × Nat)), (∀ p ∈ l, p.1 ≠ []) → l.length ≤ (totL l).length := by
    intro l
    induction l with
    | nil => intro _; simp
    | cons p l ih =>
      intro h
      have := ih fun q hq => h q (by simp [hq])
      have h1 := h p (by simp)
      have h2 : 1 ≤ p.1.length := by
        cases q : p.1 with
        | nil => exact absurd q h1
        | cons _ _ => simp
      unfold totL at this ⊢
      rw [List.flatMap_cons, List.length_append, List.length_cons]
      omega
  have l1 := ln (ps' ++ [new']) fun p hp => (e2.ok p hp).n
  have l2 : (totL (ps' ++ [new'])).length ≤ 60 := by rw [e3, List.length_append]; simp; omega
  refine ⟨ps' ++ [new'], [plC [x]] ++ e, some (.val (encL new')), ?_, by rw [← List.append_assoc]; exact e2, e3, l1, e4⟩
  have wf : sWhile (fuelL 1) w_c w_b [x0, some (.own (ps.map encL)), some (.val (encN x)), x3, some (.val (.loc om.length))] (om ++ [plC [x]]) = .nx [x0, some (.own (ps'.map encL)), some (.val (encN x)), x3, some (.val (encL new'))] (om ++ ([plC [x]] ++ e)) := by
    rw [sWhile_eq]
    have : fuelL 1 [x0, some (.own (ps.map encL)), some (.val (encN x)), x3, some (.val (.loc om.length))] (om ++ [plC [x]]) = ps.length + 1 := by
      show (ps.map encL).length + 1 = _
      rw [List.length_map]
    rw [this, ← List.append_assoc]
    exact e1
  have ap := app_D encL (d := ps') new' (by rw [List.length_append] at l1; simp at l1; omega)
  have s1 : (sAsg 4 (uMake "Pool" 2 S_Pool_init (uCons (uLst (uCons (uVar 2) uNil)) uNil))) [x0, some (.own (ps.map encL)), some (.val (encN x)), x3, x4] om = .nx [x0, some (.own (ps.map encL)), some (.val (encN x)), x3, some (.val (.loc om.length))] (om ++ [plC [x]]) := by
    unfold sAsg
    rw [m1]
    rfl
  unfold w_turn
  rw [sSeq_eq, s1, seq_nx, sSeq_eq, wf, seq_nx]
  clear wf s1 e1 e2 e3 e4 l1 l2 ln hs1 hnew lx m1 hs hl hp hx
  generalize (ps' ++ [new']).map encL = X at *
  generalize ps'.map encL = X2 at *
  generalize om ++ ([plC [x]] ++ e) = om2 at *
  unfold encL at *
  walk_at "evx"
def levsF (ps : List (List Wn)) : List Fr := ps.flatMap fun p => p.map fun _ => levF p
theorem x_loop (om : Om) (x0 : Option Sl) : ∀ (ps : List (List Wn × Nat)) (acc : List Fr) (x2 x4 : Option Sl), (∀ p ∈ ps, PlOk om p) → acc.length + (totL ps).length ≤ 900 → ∃ x2' x4',
    goL (gN 4) x_turn (ps.map encL) [x0, none, x2, some (.own (acc.map encF)), x4] om = .nx [x0, none, x2', some (.own ((acc ++ levsF (ps.map (·.1))).map encF)), x4'] om
  | [], acc, x2, x4, _, _ => ⟨x2, x4, by show _ = RS.nx [x0, none, x2, some (.own ((acc ++ []).map encF)), x4] om; rw [List.append_nil]; rfl⟩
  | p :: ps, acc, x2, x4, h, hz => by
    have hp := h p (by simp)
    obtain ⟨lv, _⟩ := hp.lev
    have et : totL (p :: ps) = p.1 ++ totL ps := by simp [totL]
    rw [et, List.length_append] at hz
    have el : levsF ((p :: ps).map (·.1)) = (p.1.map fun _ => levF p.1) ++ levsF (ps.map (·.1)) := by simp [levsF]
    obtain ⟨y2, y4, ih⟩ := x_loop om x0 ps (acc ++ p.1.map fun _ => levF p.1) none (some (.val (encL p))) (fun q hq => h q (by simp [hq])) (by rw [List.length_append, List.length_map]; omega)
    refine ⟨y2, y4, ?_⟩
    rw [List.map_cons, goL_cons (ρ1 := [x0, none, x2, some (.own (acc.map encF)), some (.val (encL p))]) _ _ rfl, el, ← List.append_assoc]
    have is := hp.isi
    have lc := goC_map (te := uMethN "Pool" "level" 1 S_Pool_level (uVar 4)) (i := 2) (ω := om) (ρ := [x0, none, x2, some (.own (acc.map encF)), some (.val (encL p))]) (fun _ => encF (levF p.1)) (p.1.map encN) [] (fun d hd => by
      clear h hz ih hd hp
      simp only [List.set_cons_succ, List.set_cons_zero]
      unfold encL at *
      generalize acc.map encF = X at *
      simp only [uMethN, uVar, List.getElem?_cons_succ, List.getElem?_cons_zero, Res.bind, is, lv, if_true]) (by rw [List.length_map]; simp; exact Nat.le_trans (show p.1.length ≤ 1000 by have := hp.l; omega) (by decide))
    rw [List.nil_append, List.map_map] at lc
    simp only [List.set_cons_succ, List.set_cons_zero] at lc
    have em : p.1.map ((fun _ => encF (levF p.1)) ∘ encN) = (p.1.map fun _ => levF p.1).map encF := by rw [List.map_map]; rfl
    rw [em] at lc
    have ex : mExtend (acc.map encF) [.lst ((p.1.map fun _ => levF p.1).map encF)] = some (.non, (acc ++ p.1.map fun _ => levF p.1).map encF) := by
      unfold mExtend
      dsimp only
      rw [if_pos (Nat.le_trans (m := 1000) (by rw [List.length_map, List.length_map, List.length_map]; omega) (by decide)), List.map_append]
    have fl : uFld "Pool" "wants" (uVar 4) [x0, none, x2, some (.own (acc.map encF)), some (.val (encL p))] om = .ok (.lst (p.1.map encN)) [x0, none, x2, some (.own (acc.map encF)), some (.val (encL p))] om := hp.fld rfl
    have st : x_turn [x0, none, x2, some (.own (acc.map encF)), some (.val (encL p))] om = .nx [x0, none, none, some (.own ((acc ++ p.1.map fun _ => levF p.1).map encF)), some (.val (encL p))] om := by
      have il : iLst (uFld "Pool" "wants" (uVar 4)) [x0, none, x2, some (.own (acc.map encF)), some (.val (encL p))] om = .ok (p.1.map encN) [x0, none, x2, some (.own (acc.map encF)), some (.val (encL p))] om := by
        simp only [iLst, fl, Res.bind, items_lst, liftO_some]
      clear h hz ih hp is lv em fl el et
      unfold x_turn uLc
      simp only [clrs] at *
      generalize ((acc ++ p.1.map fun _ => levF p.1).map encF) = Z1 at *
      generalize (p.1.map fun _ => levF p.1).map encF = Z2 at *
      generalize acc.map encF = Z3 at *
      generalize p.1.map encN = Z4 at *
      generalize (uFld "Pool" "wants" (uVar 4)) = UF at *
      generalize (uMethN "Pool" "level" 1 S_Pool_level (uVar 4)) = UM at *
      simp only [sExpr, uMeO, List.getElem?_cons_succ, List.getElem?_cons_zero, uCons, uNil, uFz, il, Res.bind, List.set_cons_succ, List.set_cons_zero, lc, ex, RS.of, liftO_some]
    rw [st, turn_nx, ih]
theorem levels_eq {w : Nat} {ws : List Wn} (om : Om) (hk : om[w]? = some (.lst (ws.map encN))) (hw : ∀ y ∈ ws, WnOk y) (hl : ws.length ≤ 50) : ∃ (ps : List (List Wn)) (e : Om), S_levels [.loc w] om = .ok (.lst ((levsF ps).map encF)) (om ++ e) ∧ ps.flatten = ws ∧ Stk (ps.map gpL) ∧ (∀ p ∈ ps, ∀ y ∈ p, WnOk y) ∧ (∀ p ∈ ps, p ≠ []) ∧ ps = pavaF ws := by
  have lp : ∀ (m j : Nat) (ps : List (List Wn × Nat)) (e : Om) (x2 x3 x4 : Option Sl), ws.length = j + m → Stq (om ++ e) ps → totL ps = ws.take j → ps.length ≤ (totL ps).length → ps.map (·.1) = pavaF (ws.take j) → ∃ (ps' : List (List Wn × Nat)) (e' : Om) (y2 y4 : Option Sl),
      goX (gN 2) w_turn (getL w) (m + 1) j [some (.val (.loc w)), some (.own (ps.map encL)), x2, x3, x4] (om ++ e) = .nx [some (.val (.loc w)), some (.own (ps'.map encL)), y2, x3, y4] (om ++ e') ∧ Stq (om ++ e') ps' ∧ totL ps' = ws ∧ ps'.map (·.1) = pavaF ws := by
    intro m
    induction m with
    | zero =>
      intro j ps e x2 x3 x4 hj hs ht _ hm
      refine ⟨ps, e, x2, x4, ?_, hs, by rw [ht]; exact List.take_of_length_le (by omega), by rw [hm, List.take_of_length_le (by omega)]⟩
      exact goX_end (ds := ws.map encN) _ _ _ (by unfold getL; rw [List.getElem?_append_left (List.getElem?_eq_some_iff.mp hk).1, hk]) (by simp; omega)
    | succ m ih =>
      intro j ps e x2 x3 x4 hj hs ht hp hm
      have jl : j < ws.length := by omega
      have lt : (totL ps).length = j := by rw [ht, List.length_take]; omega
      obtain ⟨ps1, e1, y4, k1, k2, k3, k4, k5⟩ := w_turn_eq (some (.val (.loc w))) x3 x4 ps (hw ws[j] (List.getElem_mem jl)) (om ++ e) hs (by omega) (by omega)
      rw [List.append_assoc] at k1 k2
      obtain ⟨ps', e', z2, z4, h1, h2, h3, h4⟩ := ih (j + 1) ps1 (e ++ e1) (some (.val (encN ws[j]))) x3 y4 (by omega) k2 (by rw [k3, ht, List.take_append_getElem]) k4 (by
          have tl : ps.length = (pavaF (ws.take j)).length := by rw [← hm, List.length_map]
          rw [k5, hm, tl, ← pavaF_app, List.take_append_getElem])
      refine ⟨ps', e', z2, z4, ?_, h2, h3, h4⟩
      rw [goX_next (ds := ws.map encN) (d := encN ws[j]) (ρ1 := [some (.val (.loc w)), some (.own (ps.map encL)), some (.val (encN ws[j])), x3, x4]) _ _ _ (by unfold getL; rw [List.getElem?_append_left (List.getElem?_eq_some_iff.mp hk).1, hk]) (by simp [jl]) rfl, k1, turn_nx, h1]
  obtain ⟨ps, e, y2, y4, g1, g2, g3, g5⟩ := lp ws.length 0 [] [] none none none (by omega) ⟨fun p hp => (nomatch hp), List.Pairwise.nil⟩ rfl (Nat.le_refl _) rfl
  obtain ⟨z2, z4, g4⟩ := x_loop (om ++ e) (some (.val (.loc w))) ps [] y2 y4 g2.ok (by rw [g3]; simp; omega)
  rw [List.nil_append] at g4
  rw [List.append_nil] at g1
  refine ⟨ps.map (·.1), e, ?_, ?_, ⟨fun q hq => ?_, ?_⟩, fun p hp => ?_, fun p hp => ?_, g5⟩
  · have lg : lenG (getL w) [some (.val (.loc w)), some (.own []), none, none, none] om = ws.length + 1 := by
      unfold lenG getL
      rw [hk]
      simp
    have fl : sForL (uVar 0) (gN 2) w_turn [some (.val (.loc w)), some (.own []), none, none, none] om = .nx [some (.val (.loc w)), some (.own (ps.map encL)), y2, none, y4] (om ++ e) := by
      unfold sForL
      show goX (gN 2) w_turn (getL w) (lenG (getL w) [some (.val (.loc w)), some (.own []), none, none, none] om) 0 [some (.val (.loc w)), some (.own []), none, none, none] om = _
      rw [lg]
      exact g1
    clear lp g1 g2 g3 hw hl lg hk
    unfold S_levels
    rw [w_top]
    generalize w_turn = WT at *
    generalize x_turn = XT at *
    generalize (levsF (ps.map (·.1))).map encF = X1 at *
    generalize ps.map encL = X2 at *
    generalize om ++ e = om1 at *
    simp only [defO, ent, sRetO, List.map_nil] at *
    walk_at "evx"
  · rw [← g3]
    unfold totL
    rw [List.flatMap_def]
  · obtain ⟨ws', hws, rfl⟩ := List.mem_map.mp hq
    obtain ⟨p, hp, rfl⟩ := List.mem_map.mp hws
    exact (g2.ok p hp).g
  · rw [List.map_map]
    exact List.pairwise_map.mpr g2.up
  · obtain ⟨q, hq, rfl⟩ := List.mem_map.mp hp
    exact (g2.ok q hq).w
  · obtain ⟨q, hq, rfl⟩ := List.mem_map.mp hp
    exact (g2.ok q hq).n
end Dv

namespace Dv
open PySem PySem.Spec PyProof.Rows L2
local macro_rules | `(tactic| walk_at "ev") => `(tactic| try simp (disch := omega) only [sSeq_eq, seq_nx, seq_rt, seq_rto, seq_xc, seq_bk, seq_ct, seq_ite, sAsg, sAsgO, sExpr, sRet, sRetO, sRetN, sIf, sNext, uVar, uC, uUn, uBin, uB, uNot, uAnd, uOr, uTV, uAndV, uOrV, uNotV, uIf, uChain, uNil, uCons, uTup, uLst, uLstO, uFn, uFnO, uFz, uMv, uNew, uCall, uCallO, uCallN, uBinV, uBinW, uBinL, uMeO, uMeL, uFnV, sSetL, sAsgG, gN, gT2, gT3, gT4, iLst, iFn,   bind_ok, bind_xc, of_ok, of_xc, res_ok, res_xc, res0_ok, own_ok, own_xc, fr_nx, fr_rt, fr_rto, fr_xc, fo_rto, fo_xc, liftO_some, dBool_bl, items_lst, items_frz, ent, defU, defO, List.map_cons, List.map_nil, List.length_cons, List.length_nil, List.cons_append, List.nil_append, List.append_nil, List.replicate, List.getElem?_cons_zero, List.getElem?_cons_succ, List.set_cons_zero, List.set_cons_succ, Nat.zero_add, Nat.reduceAdd, Nat.reduceSub, Nat.reduceLeDiff,   le_big, lt_big, atN_zero, atN_one, atN_two, atN_three, setN_zero, setN_one, popAt_zero, len_zero, len_succ, dMul_r, dMul_l, dDiv_pos, dMod_pos, dAdd_int, dSub_int, dNeg_int, dLt_int, dLe_int, dGt_int, dGe_int, dEq_int, dNe_int, dEq_bl, dNe_bl, dEq_nil, dNe_nil, dIx_lst, dIx_tup, fAbs_int, fInt_bl, fInt_int, fLen_lst, fLen_frz, fLen_tup, ite_true, ite_false, if_true, if_false, Bool.not_true, Bool.not_false, decide_true, decide_false, Bool.true_eq_false, Bool.false_eq_true, reduceIte, reduceCtorEq, turn_nx, turn_ct, turn_bk, turn_rt, turn_rto, turn_xc, sFor_eq, goL_nil, eq_self])
local macro_rules | `(tactic| walk_at "evs") => `(tactic| try simp (disch := omega) only [sSeq_eq, seq_nx, seq_rt, seq_rto, seq_xc, seq_bk, seq_ct, seq_ite, sAsg, sAsgO, sExpr, sRet, sRetO, sRetN, sIf, sNext, uVar, uC, uUn, uBin, uB, uNot, uAnd, uOr, uTV, uAndV, uOrV, uNotV, uIf, uChain, uNil, uCons, uTup, uLst, uLstO, uFn, uFnO, uFz, uMv, uNew, uCall, uCallO, uCallN, uBinV, uBinW, uBinL, uMeO, uMeL, uFnV, sSetL, sAsgG, gN, gT2, gT3, gT4, iLst, iFn,   bind_ok, bind_xc, of_ok, of_xc, res_ok, res_xc, res0_ok, own_ok, own_xc, fr_nx, fr_rt, fr_rto, fr_xc, fo_rto, fo_xc, liftO_some, dBool_bl, items_lst, items_frz, ent, defU, defO, List.map_cons, List.map_nil, List.length_cons, List.length_nil, List.cons_append, List.nil_append, List.append_nil, List.replicate, List.getElem?_cons_zero, List.getElem?_cons_succ, List.set_cons_zero, List.set_cons_succ, Nat.zero_add, Nat.reduceAdd, Nat.reduceSub, Nat.reduceLeDiff,   le_big, lt_big, atN_zero, atN_one, atN_two, atN_three, setN_zero, setN_one, popAt_zero, len_zero, len_succ, dMul_r, dMul_l, dDiv_pos, dMod_pos, dAdd_int, dSub_int, dNeg_int, dLt_int, dLe_int, dGt_int, dGe_int, dEq_int, dNe_int, dEq_bl, dNe_bl, dEq_nil, dNe_nil, dIx_lst, dIx_tup, fAbs_int, fInt_bl, fInt_int, fLen_lst, fLen_frz, fLen_tup, ite_true, ite_false, if_true, if_false, Bool.not_true, Bool.not_false, decide_true, decide_false, Bool.true_eq_false, Bool.false_eq_true, reduceIte, reduceCtorEq, turn_nx, turn_ct, turn_bk, turn_rt, turn_rto, turn_xc, sFor_eq, goL_nil, eq_self, *])
local macro_rules | `(tactic| walk_at "evt") => `(tactic| try simp (disch := first | omega | (simp only [List.length_append, List.length_cons, List.length_nil, List.length_map]; omega)) only [sSeq_eq, seq_nx, seq_rt, seq_rto, seq_xc, seq_bk, seq_ct, seq_ite, sAsg, sAsgO, sExpr, sRet, sRetO, sRetN, sIf, sNext, uVar, uC, uUn, uBin, uB, uNot, uAnd, uOr, uTV, uAndV, uOrV, uNotV, uIf, uChain, uNil, uCons, uTup, uLst, uLstO, uFn, uFnO, uFz, uMv, uNew, uCall, uCallO, uCallN, uBinV, uBinW, uBinL, uMeO, uMeL, uFnV, sSetL, sAsgG, gN, gT2, gT3, gT4, iLst, iFn,   bind_ok, bind_xc, of_ok, of_xc, res_ok, res_xc, res0_ok, own_ok, own_xc, fr_nx, fr_rt, fr_rto, fr_xc, fo_rto, fo_xc, liftO_some, dBool_bl, items_lst, items_frz, ent, defU, defO, List.map_cons, List.map_nil, List.length_cons, List.length_nil, List.cons_append, List.nil_append, List.append_nil, List.replicate, List.getElem?_cons_zero, List.getElem?_cons_succ, List.set_cons_zero, List.set_cons_succ, Nat.zero_add, Nat.reduceAdd, Nat.reduceSub, Nat.reduceLeDiff,   le_big, lt_big, atN_zero, atN_one, atN_two, atN_three, setN_zero, setN_one, popAt_zero, len_zero, len_succ, dMul_r, dMul_l, dDiv_pos, dMod_pos, dAdd_int, dSub_int, dNeg_int, dLt_int, dLe_int, dGt_int, dGe_int, dEq_int, dNe_int, dEq_bl, dNe_bl, dEq_nil, dNe_nil, dIx_lst, dIx_tup, fAbs_int, fInt_bl, fInt_int, fLen_lst, fLen_frz, fLen_tup, ite_true, ite_false, if_true, if_false, Bool.not_true, Bool.not_false, decide_true, decide_false, Bool.true_eq_false, Bool.false_eq_true, reduceIte, reduceCtorEq, turn_nx, turn_ct, turn_bk, turn_rt, turn_rto, turn_xc, sFor_eq, goL_nil, eq_self, sRaise, gT2, gT3, gT4, sAsgG, uM1, uOrS, uSlS, uSlW, uCatV, uPart, uNoPart, iStrU, k_colon, k_blank, k_line, k_f, k_s, k_0, k_empty, k_digits, k_abc, k_alpha, k_cue, k_from, k_to, k_at, k_two, k_fto, k_nl, k_a1, dAdd_tx, fLen_tx, fStr_nat, dEq_tx, dNe_tx, dEq_txn, dNe_txn, len_tx, cutS_l1, cutS_b1, cutS_ln, cutS_bn, dIx_tx0, *])
local macro_rules | `(tactic| walk_at "evx") => `(tactic| try simp (disch := first | omega | (simp only [List.length_append, List.length_cons, List.length_nil, List.length_map]; omega)) only [sSeq_eq, seq_nx, seq_rt, seq_rto, seq_xc, seq_bk, seq_ct, seq_ite, sAsg, sAsgO, sExpr, sRet, sRetO, sRetN, sIf, sNext, uVar, uC, uUn, uBin, uB, uNot, uAnd, uOr, uTV, uAndV, uOrV, uNotV, uIf, uChain, uNil, uCons, uTup, uLst, uLstO, uFn, uFnO, uFz, uMv, uNew, uCall, uCallO, uCallN, uBinV, uBinW, uBinL, uMeO, uMeL, uFnV, sSetL, sAsgG, gN, gT2, gT3, gT4, iLst, iFn,   bind_ok, bind_xc, of_ok, of_xc, res_ok, res_xc, res0_ok, own_ok, own_xc, fr_nx, fr_rt, fr_rto, fr_xc, fo_rto, fo_xc, liftO_some, dBool_bl, items_lst, items_frz, ent, defU, defO, List.map_cons, List.map_nil, List.length_cons, List.length_nil, List.cons_append, List.nil_append, List.append_nil, List.replicate, List.getElem?_cons_zero, List.getElem?_cons_succ, List.set_cons_zero, List.set_cons_succ, Nat.zero_add, Nat.reduceAdd, Nat.reduceSub, Nat.reduceLeDiff,   le_big, lt_big, atN_zero, atN_one, atN_two, atN_three, setN_zero, setN_one, popAt_zero, len_zero, len_succ, dMul_r, dMul_l, dDiv_pos, dMod_pos, dAdd_int, dSub_int, dNeg_int, dLt_int, dLe_int, dGt_int, dGe_int, dEq_int, dNe_int, dEq_bl, dNe_bl, dEq_nil, dNe_nil, dIx_lst, dIx_tup, fAbs_int, fInt_bl, fInt_int, fLen_lst, fLen_frz, fLen_tup, ite_true, ite_false, if_true, if_false, Bool.not_true, Bool.not_false, decide_true, decide_false, Bool.true_eq_false, Bool.false_eq_true, reduceIte, reduceCtorEq, turn_nx, turn_ct, turn_bk, turn_rt, turn_rto, turn_xc, sFor_eq, goL_nil, eq_self, sRaise, gT2, gT3, gT4, sAsgG, see_bl, see_int, see_non, see_tup, see_lst, see_str, uBinX, uUnX, uFnX, uFld, sFldU, uMeth, uMethO, uMake, uCatX, uRev, uMethN, uFrzI, uSlV, uM1, uOrS, uSlS, uSlW, uCatV, uPart, uNoPart, iStrU, k_colon, k_blank, k_line, k_f, k_s, k_0, k_empty, k_digits, k_abc, k_alpha, k_cue, k_from, k_to, k_at, k_two, k_fto, k_nl, k_a1, dAdd_tx, fLen_tx, fStr_nat, dEq_tx, dNe_tx, dEq_txn, dNe_txn, len_tx, cutS_l1, cutS_b1, cutS_ln, cutS_bn, dIx_tx0, *])
def s_turn : US := (sExpr (uMeO 6 mAppend (uCons (uCall 3 S_reach (uCons (uBinV dIx 6 (uVar 7)) (uCons (uBin dIx (uVar 5) (uBin dAdd (uVar 7) (uC (.int 1)))) (uCons (uCall 2 S_slopes (uCons (uBinL dIx (uVar 0) (uVar 7)) (uCons (uBin dIx (uVar 1) (uVar 7)) uNil))) uNil)))) uNil)))
def q_turn : US := (sSeq (sAsg 9 (uCall 2 S_slopes (uCons (uBinL dIx (uVar 0) (uVar 7)) (uCons (uBin dIx (uVar 1) (uVar 7)) uNil))))
    (sExpr (uMeO 8 mAppend (uCons (uFn fMax2 (uCons (uBin dIx (uBinV dIx 6 (uVar 7)) (uC (.int 0))) (uCons (uBin dAdd (uBinV dIx 8 (uUn dNeg (uC (.int 1)))) (uBin dIx (uVar 9) (uC (.int 0)))) uNil))) uNil))))
def t_el : UE := (uBin dEq (uBin dIx (uVar 1) (uBin dSub (uVar 7) (uC (.int 1)))) (uBin dIx (uVar 1) (uVar 7)))
theorem p_top : u_prices = (sSeq (sAsg 4 (uFnX fLen (uCons (uVar 0) uNil))) (sSeq (sAsg 5 (uBin dAdd (uBin dAdd (uLst (uCons (uBin dEq (uBin dIx (uVar 1) (uC (.int 0))) (uVar 2)) uNil)) (uFz (uLc (iFn fRng2 (uCons (uC (.int 1)) (uCons (uVar 4) uNil))) (gN 7) uYes t_el [7]))) (uLst (uCons (uBin dEq (uBin dIx (uVar 1) (uUn dNeg (uC (.int 1)))) (uVar 3)) uNil)))) (sSeq (sAsgO 6 (uLstO (uCons (uIf (uB (uBin dIx (uVar 5) (uC (.int 0)))) (uTup (uCons (uC (.int 0)) (uCons (uC .non) uNil))) (uTup (uCons (uC (.int 0)) (uCons (uC (.int 0)) uNil)))) uNil))) (sSeq (sFor (iFn fRng1 (uCons (uVar 4) uNil)) (gN 7) s_turn) (sSeq (sAsgO 8 (uLstO (uCons (uBin dIx (uBinV dIx 6 (uVar 4)) (uC (.int 0))) uNil))) (sSeq (sFor (iFn fRngD (uCons (uBin dSub (uVar 4) (uC (.int 1))) (uCons (uUn dNeg (uC (.int 1))) (uCons (uUn dNeg (uC (.int 1))) uNil)))) (gN 7) q_turn) (sRetO (uRev 8)))))))) := rfl
/-! ### prices -/
theorem reach_some {sp s : Sp} {t : Bool} {lo hi : Int} (h : reachF sp t lo hi = some s) :
    (t = true ∧ s = (max 0 (sp.1 - hi), sp.2.map (· - lo)) ∧ ∀ m, sp.2 = some m → 0 ≤ m - lo) ∨ (t = false ∧ s = (0, some 0) ∧ sp.1 - hi ≤ 0 ∧ ∀ m, sp.2 = some m → 0 ≤ m - lo) := by
  obtain ⟨a, b⟩ := sp
  unfold reachF at h
  cases t
  · refine .inr ⟨rfl, ?_⟩
    cases b with
    | none =>
      simp only [Bool.false_eq_true, if_false] at h
      split at h
      · cases h
      · cases h; exact ⟨rfl, by show a - hi ≤ 0; omega, fun m e => nomatch e⟩
    | some m =>
      simp only [Bool.false_eq_true, if_false] at h
      split at h
      · cases h
      · cases h; exact ⟨rfl, by show a - hi ≤ 0; omega, fun m' e => by cases e; omega⟩
  · refine .inl ⟨rfl, ?_⟩
    cases b with
    | none =>
      simp only [if_true] at h
      cases h; exact ⟨rfl, fun m e => nomatch e⟩
    | some m =>
      simp only [if_true] at h
      split at h
      · cases h
      · cases h; exact ⟨rfl, fun m' e => by cases e; omega⟩
def prS : List Sp → List Int → List Int
  | [], _ => []
  | [s], _ => [s.1]
  | s :: s' :: S, d :: ds => match prS (s' :: S) ds with
    | q :: qs => max s.1 (q + d) :: q :: qs
    | [] => []
  | _ :: _ :: _, [] => []
def PrR : List It → Int → List Int → Rat → Prop
  | [], _, [], _ => True
  | x :: r, p, q :: qs, H => LD [x.1] x.2 ≤ p - q ∧ p - q ≤ RD [x.1] x.2 ∧ 0 ≤ q ∧ (x.2 ≠ nxt r H → q = 0) ∧ PrR r q qs H
  | _, _, _, _ => False
theorem pr_ok {H : Rat} : ∀ (its : List It) (sp : Sp) (l : List Sp), spF sp its H = some l → (∀ x ∈ its, 0 < x.1.2) → 0 ≤ sp.1 → (∀ m, sp.2 = some m → sp.1 ≤ m) →
    ∃ p qs, prS (sp :: l) (its.map fun x => LD [x.1] x.2) = p :: qs ∧ sp.1 ≤ p ∧ (∀ m, sp.2 = some m → p ≤ m) ∧ PrR its p qs H ∧ qs.length = its.length ∧ l.length = its.length ∧ ((∀ x ∈ its, x.1.2 ≤ 9) → ∀ y ∈ p :: qs, 0 ≤ y ∧ y ≤ sp.1 + 18 * (its.length : Int))
  | [], sp, l, h, _, h0, hm => by
    unfold spF at h
    cases h
    exact ⟨sp.1, [], rfl, Int.le_refl _, hm, trivial, rfl, rfl, fun _ y hy => by simp at hy; subst hy; simp; exact h0⟩
  | x :: r, sp, l, h, hw, h0, hm => by
    unfold spF at h
    cases e : reachF sp (decide (x.2 = nxt r H)) (LD [x.1] x.2) (RD [x.1] x.2) with
    | none => rw [e] at h; cases h
    | some s =>
      rw [e] at h
      cases e2 : spF s r H with
      | none => simp only [e2] at h; cases h
      | some l' =>
        simp only [e2] at h
        cases h
        have lohi := LD_le_RD x.2 (l := [x.1]) (fun y hy => by simp at hy; rw [hy]; exact hw x (by simp))
        have key : 0 ≤ s.1 ∧ (∀ m, s.2 = some m → s.1 ≤ m) := by
          rcases reach_some e with ⟨_, rfl, k⟩ | ⟨_, rfl, _, _⟩
          · refine ⟨by show 0 ≤ max 0 _; omega, fun m em => ?_⟩
            cases q : sp.2 with
            | none => rw [q] at em; cases em
            | some m0 =>
              rw [q] at em
              cases em
              have := k m0 q
              have := hm m0 q
              show max 0 (sp.1 - _) ≤ m0 - _
              omega
          · exact ⟨Int.le_refl 0, fun m em => by cases em; exact Int.le_refl 0⟩
        have sle : s.1 ≤ sp.1 + x.1.2 := by
          have hx := hw x (by simp)
          have rl : RD [x.1] x.2 = (if x.1.1 ≤ x.2 then x.1.2 else -x.1.2) + 0 := rfl
          rcases reach_some e with ⟨_, rfl, k⟩ | ⟨_, rfl, _, _⟩
          · show max 0 (sp.1 - _) ≤ _
            split at rl <;> omega
          · show (0 : Int) ≤ _
            omega
        have lle : LD [x.1] x.2 ≤ x.1.2 := by
          have hx := hw x (by simp)
          have rl : LD [x.1] x.2 = (if x.1.1 < x.2 then x.1.2 else -x.1.2) + 0 := rfl
          split at rl <;> omega
        obtain ⟨q, qs, i1, i2, i3, i4, i5, i6, i7⟩ := pr_ok r s l' e2 (fun y hy => hw y (by simp [hy])) key.1 key.2
        refine ⟨max sp.1 (q + LD [x.1] x.2), q :: qs, ?_, by omega, fun m em => ?_, ⟨by omega, ?_, ?_, fun c => ?_, i4⟩, by simp [i5], by simp [i6], fun h9 y hy => ?_⟩
        · rw [List.map_cons]
          unfold prS
          rw [i1]
        · rcases reach_some e with ⟨_, rfl, k⟩ | ⟨_, rfl, _, k⟩
          · have k1 := k m em
            have k2 := hm m em
            have k3 := i3 (m - LD [x.1] x.2) (by show sp.2.map _ = _; rw [em]; rfl)
            omega
          · have k1 := k m em
            have k2 := hm m em
            have k3 := i3 0 rfl
            omega
        · rcases reach_some e with ⟨_, rfl, k⟩ | ⟨_, rfl, k, _⟩
          · have i2 : max 0 (sp.1 - RD [x.1] x.2) ≤ q := i2
            omega
          · have i2 : 0 ≤ q := i2
            omega
        · have := key.1; omega
        · rcases reach_some e with ⟨z, _⟩ | ⟨_, rfl, k, _⟩
          · exact absurd (of_decide_eq_true z) c
          · have i2 : 0 ≤ q := i2
            have k3 := i3 0 rfl
            omega
        · have i8 := i7 fun z hz => h9 z (by simp [hz])
          have x9 := h9 x (by simp)
          rw [List.length_cons]
          rcases List.mem_cons.mp hy with rfl | hy
          · have := i8 q (by simp)
            omega
          · have := i8 y hy
            omega
theorem spF_get {H : Rat} : ∀ (its : List It) (sp : Sp) (l : List Sp), spF sp its H = some l → ∀ k (x : It), its[k]? = some x → ∃ a b, (sp :: l)[k]? = some a ∧ (sp :: l)[k + 1]? = some b ∧ reachF a (decide (x.2 = nxt (its.drop (k + 1)) H)) (LD [x.1] x.2) (RD [x.1] x.2) = some b
  | [], sp, l, h, k, x, hx => by simp at hx
  | y :: r, sp, l, h, k, x, hx => by
    unfold spF at h
    cases e : reachF sp (decide (y.2 = nxt r H)) (LD [y.1] y.2) (RD [y.1] y.2) with
    | none => rw [e] at h; cases h
    | some s =>
      rw [e] at h
      cases e2 : spF s r H with
      | none => simp only [e2] at h; cases h
      | some l' =>
        simp only [e2] at h
        cases h
        cases k with
        | zero =>
          simp at hx
          subst hx
          exact ⟨sp, s, rfl, rfl, e⟩
        | succ k => exact spF_get r s l' e2 k x (by simpa using hx)
theorem prS_drop : ∀ (S : List Sp) (ds : List Int) (k : Nat) (s : Sp) (d : Int) (q : Int) (qs : List Int), S[k]? = some s → ds[k]? = some d → prS (S.drop (k + 1)) (ds.drop (k + 1)) = q :: qs → prS (S.drop k) (ds.drop k) = max s.1 (q + d) :: q :: qs
  | S, ds, k, s, d, q, qs, h1, h2, h3 => by
    have e1 : S.drop k = s :: S.drop (k + 1) := by
      obtain ⟨hk, e⟩ := List.getElem?_eq_some_iff.mp h1
      rw [List.drop_eq_getElem_cons hk, e]
    have e2 : ds.drop k = d :: ds.drop (k + 1) := by
      obtain ⟨hk, e⟩ := List.getElem?_eq_some_iff.mp h2
      rw [List.drop_eq_getElem_cons hk, e]
    rw [e1, e2]
    cases q3 : S.drop (k + 1) with
    | nil => rw [q3] at h3; cases h3
    | cons a b =>
      rw [q3] at h3
      unfold prS
      rw [h3]
/-! the walk -/
def itOf (x : Wn × Fr) : It := (vN x.1, val x.2)
structure PcOk (om : Om) (w : Nat) (xs : List (Wn × Fr)) (H : Fr) (l : List Sp) (sp : Sp) : Prop where
  c : om[w]? = some (.lst ((xs.map (·.1)).map encN))
  ok : ∀ x ∈ xs, WnOk x.1 ∧ Nm x.2
  h : Nm H
  n : xs ≠ []
  len : xs.length ≤ 60
  s : spF sp (xs.map itOf) (val H) = some l
  s0 : sp = if (xs.map (·.2)).head? = some (0, 1) then (0, none) else (0, some 0)
def tgt (fs : List Fr) (H : Fr) (k : Nat) : Bool := if k < fs.length then decide (fs.getD (k - 1) (0, 1) = fs.getD k (0, 1)) else decide (fs.getD (fs.length - 1) (0, 1) = H)
def tgs (fs : List Fr) (H : Fr) : List Bool := decide (fs.getD 0 (0, 1) = (0, 1)) :: (List.range fs.length).map fun k => tgt fs H (k + 1)
section
variable {om : Om} {w : Nat} {xs : List (Wn × Fr)} {H : Fr} {l : List Sp} {sp : Sp} (h : PcOk om w xs H l sp)
include h
theorem tg_reach {k : Nat} {x : Wn × Fr} (hx : xs[k]? = some x) : tgt (xs.map (·.2)) H (k + 1) = decide ((itOf x).2 = nxt ((xs.map itOf).drop (k + 1)) (val H)) := by
  have hm : x ∈ xs := List.mem_of_getElem? hx
  obtain ⟨hk, ex⟩ := List.getElem?_eq_some_iff.mp hx
  have g0 : (xs.map (·.2)).getD k (0, 1) = x.2 := by
    rw [List.getD_eq_getElem?_getD, List.getElem?_map, hx]
    rfl
  unfold tgt
  rw [List.length_map, Nat.add_sub_cancel]
  by_cases c : k + 1 < xs.length
  · rw [if_pos c]
    have hy : xs[k + 1]? = some xs[k + 1] := List.getElem?_eq_getElem c
    have g1 : (xs.map (·.2)).getD (k + 1) (0, 1) = xs[k + 1].2 := by
      rw [List.getD_eq_getElem?_getD, List.getElem?_map, hy]
      rfl
    have nx : nxt ((xs.map itOf).drop (k + 1)) (val H) = val xs[k + 1].2 := by
      rw [List.drop_eq_getElem_cons (by rw [List.length_map]; exact c), List.getElem_map]
      rfl
    rw [g0, g1, nx]
    have e : x.2 = xs[k + 1].2 ↔ val x.2 = val xs[k + 1].2 := ⟨fun z => by rw [z], fun z => cn_ext (h.ok x hm).2.d.cn (h.ok _ (List.getElem_mem c)).2.d.cn z⟩
    exact decide_eq_decide.mpr e
  · rw [if_neg c]
    have g1 : (xs.map (·.2)).getD (xs.length - 1) (0, 1) = x.2 := by
      have : xs.length - 1 = k := by omega
      rw [this, g0]
    have nx : nxt ((xs.map itOf).drop (k + 1)) (val H) = val H := by
      rw [List.drop_of_length_le (by rw [List.length_map]; omega)]
      rfl
    rw [g1, nx]
    have e : x.2 = H ↔ val x.2 = val H := ⟨fun z => by rw [z], fun z => cn_ext (h.ok x hm).2.d.cn h.h.d.cn z⟩
    exact decide_eq_decide.mpr e
theorem s_turn_eq (x2 x3 x4 x8 x9 : Option Sl) {k : Nat} (hk : k < xs.length) : s_turn [some (.val (.loc w)), some (.val (.lst ((xs.map (·.2)).map encF))), x2, x3, x4, some (.val (.lst ((tgs (xs.map (·.2)) H).map D.bl))), some (.own (((sp :: l).take (k + 1)).map spD)), some (.val (.int (k : Int))), x8, x9] om =
    .nx [some (.val (.loc w)), some (.val (.lst ((xs.map (·.2)).map encF))), x2, x3, x4, some (.val (.lst ((tgs (xs.map (·.2)) H).map D.bl))), some (.own (((sp :: l).take (k + 1 + 1)).map spD)), some (.val (.int (k : Int))), x8, x9] om := by
  obtain ⟨X, hx⟩ : ∃ X, xs[k]? = some X := ⟨_, List.getElem?_eq_getElem hk⟩
  have tr := tg_reach h hx
  obtain ⟨wo, fo⟩ := h.ok X (List.mem_of_getElem? hx)
  obtain ⟨a, b, k1, k2, k3⟩ := spF_get _ sp l h.s k (itOf X) (by rw [List.getElem?_map, hx]; rfl)
  rw [← tr] at k3
  have e1 := slopes_eq om wo fo
  have e2 := reach_eq om a (tgt (xs.map (·.2)) H (k + 1)) (LD [vN X.1] (val X.2)) (RD [vN X.1] (val X.2))
  replace k3 : reachF a (tgt (xs.map (·.2)) H (k + 1)) (LD [vN X.1] (val X.2)) (RD [vN X.1] (val X.2)) = some b := k3
  rw [k3] at e2
  replace e2 : S_reach [spD a, .bl (tgt (xs.map (·.2)) H (k + 1)), .tup [.int (LD [vN X.1] (val X.2)), .int (RD [vN X.1] (val X.2))]] om = .ok (spD b) om := e2
  have a1 : atN ((xs.map (·.2)).map encF) (k : Int) = some (encF X.2) := atN_nat (by rw [List.getElem?_map, List.getElem?_map, hx]; rfl)
  have a2 : atN ((xs.map (·.1)).map encN) (k : Int) = some (encN X.1) := atN_nat (by rw [List.getElem?_map, List.getElem?_map, hx]; rfl)
  have a3 : atN ((tgs (xs.map (·.2)) H).map D.bl) ((k : Int) + 1) = some (.bl (tgt (xs.map (·.2)) H (k + 1))) := by
    have : ((k : Int) + 1) = ((k + 1 : Nat) : Int) := by omega
    rw [this]
    refine atN_nat ?_
    rw [List.getElem?_map]
    unfold tgs
    rw [List.getElem?_cons_succ, List.getElem?_map, List.getElem?_range (by rw [List.length_map]; exact hk)]
    rfl
  have a4 : atN (((sp :: l).take (k + 1)).map spD) (k : Int) = some (spD a) := atN_nat (by rw [List.getElem?_map, List.getElem?_take, if_pos (by omega), k1]; rfl)
  have ap : mAppend (((sp :: l).take (k + 1)).map spD) [spD b] = some (.non, ((sp :: l).take (k + 1 + 1)).map spD) := by
    have ez : (sp :: l).take (k + 1 + 1) = (sp :: l).take (k + 1) ++ [b] := by
      rw [List.take_succ, k2]
      rfl
    rw [ez]
    exact app_D spD (d := (sp :: l).take (k + 1)) b (by rw [List.length_take]; have := h.len; omega)
  have hc := h.c
  clear h hk hx tr wo fo k1 k2 k3
  unfold s_turn
  generalize ((sp :: l).take (k + 1 + 1)).map spD = Z1 at *
  generalize ((sp :: l).take (k + 1)).map spD = Z2 at *
  generalize (tgs (xs.map (·.2)) H).map D.bl = Z3 at *
  generalize (xs.map (·.1)).map encN = Z4 at *
  generalize (xs.map (·.2)).map encF = Z5 at *
  generalize tgt (xs.map (·.2)) H (k + 1) = TT at *
  generalize spD a = SA at *
  generalize spD b = SB at *
  generalize (k : Int) = KK at *
  walk_at "evx"
theorem q_turn_eq (x2 x3 x4 x5 x9 : Option Sl) {k : Nat} (hk : k < xs.length) (S : List Sp) (hS : S = sp :: l) (ds : List Int) (hds : ds = (xs.map itOf).map fun x => LD [x.1] x.2) {q : Int} {qs : List Int} (hq : prS (S.drop (k + 1)) (ds.drop (k + 1)) = q :: qs) (ql : (q :: qs).length ≤ 100) : ∃ y9,
    q_turn [some (.val (.loc w)), some (.val (.lst ((xs.map (·.2)).map encF))), x2, x3, x4, x5, some (.own (S.map spD)), some (.val (.int (k : Int))), some (.own ((prS (S.drop (k + 1)) (ds.drop (k + 1))).reverse.map D.int)), x9] om =
    .nx [some (.val (.loc w)), some (.val (.lst ((xs.map (·.2)).map encF))), x2, x3, x4, x5, some (.own (S.map spD)), some (.val (.int (k : Int))), some (.own ((prS (S.drop k) (ds.drop k)).reverse.map D.int)), y9] om := by
  obtain ⟨X, hx⟩ : ∃ X, xs[k]? = some X := ⟨_, List.getElem?_eq_getElem hk⟩
  obtain ⟨wo, fo⟩ := h.ok X (List.mem_of_getElem? hx)
  obtain ⟨a, b, k1, k2, k3⟩ := spF_get _ sp l h.s k (itOf X) (by rw [List.getElem?_map, hx]; rfl)
  rw [← hS] at k1
  have dk : ds[k]? = some (LD [vN X.1] (val X.2)) := by rw [hds, List.getElem?_map, List.getElem?_map, hx]; rfl
  have e0 := prS_drop S ds k a _ q qs k1 dk hq
  have e1 := slopes_eq om wo fo
  have a1 : atN ((xs.map (·.2)).map encF) (k : Int) = some (encF X.2) := atN_nat (by rw [List.getElem?_map, List.getElem?_map, hx]; rfl)
  have a2 : atN ((xs.map (·.1)).map encN) (k : Int) = some (encN X.1) := atN_nat (by rw [List.getElem?_map, List.getElem?_map, hx]; rfl)
  have a4 : atN (S.map spD) (k : Int) = some (spD a) := atN_nat (by rw [List.getElem?_map, k1]; rfl)
  have a5 : atN ((q :: qs).reverse.map D.int) (-1) = some (.int q) := by
    rw [List.reverse_cons, List.map_append]
    exact atN_last
  rw [hq, e0]
  generalize hlo : LD [vN X.1] (val X.2) = lo at *
  have mx : fMax2 [.int a.1, .int (q + lo)] = some (.int (max a.1 (q + lo))) := by
    unfold fMax2
    dsimp only
    congr 2
    split <;> omega
  have ap : mAppend ((q :: qs).reverse.map D.int) [.int (max a.1 (q + lo))] = some (.non, (max a.1 (q + lo) :: q :: qs).reverse.map D.int) := by
    rw [List.reverse_cons (a := max a.1 (q + lo))]
    exact app_D D.int (d := (q :: qs).reverse) _ (by rw [List.length_reverse]; omega)
  have hc := h.c
  refine ⟨some (.val (.tup [.int lo, .int (RD [vN X.1] (val X.2))])), ?_⟩
  clear h hk hx wo fo k1 k2 k3 hS hds hq dk e0 ql hlo
  unfold q_turn
  generalize (max a.1 (q + lo) :: q :: qs).reverse.map D.int = Z1 at *
  generalize (q :: qs).reverse.map D.int = Z2 at *
  generalize S.map spD = Z3 at *
  generalize (xs.map (·.1)).map encN = Z4 at *
  generalize (xs.map (·.2)).map encF = Z5 at *
  unfold spD at a4
  generalize (k : Int) = KK at *
  walk_at "evx"
end
theorem prices_eq {om : Om} {w : Nat} {xs : List (Wn × Fr)} {H : Fr} {l : List Sp} {sp : Sp} (h : PcOk om w xs H l sp) : ∃ p qs, S_prices [.loc w, .lst ((xs.map (·.2)).map encF), encF (0, 1), encF H] om = .ok (.lst ((p :: qs).map D.int)) om ∧ 0 ≤ p ∧ ((xs.map (·.2)).head? ≠ some (0, 1) → p = 0) ∧ PrR (xs.map itOf) p qs (val H) ∧ qs.length = xs.length ∧ ∀ y ∈ p :: qs, 0 ≤ y ∧ y ≤ 18 * (xs.length : Int) := by
  have sp0 : 0 ≤ sp.1 ∧ ∀ m, sp.2 = some m → sp.1 ≤ m := by
    rw [h.s0]
    split
    · exact ⟨Int.le_refl 0, fun m e => nomatch e⟩
    · exact ⟨Int.le_refl 0, fun m e => by cases e; exact Int.le_refl 0⟩
  obtain ⟨p, qs, r1, r2, r3, r4, r5, r6, r7⟩ := pr_ok (xs.map itOf) sp l h.s (fun x hx => by
    obtain ⟨y, hy, rfl⟩ := List.mem_map.mp hx
    have := (h.ok y hy).1.w.1
    show 0 < y.1.w
    omega) sp0.1 sp0.2
  rw [List.length_map] at r5 r6
  replace r7 := r7 fun x hx => by
    obtain ⟨y, hy, rfl⟩ := List.mem_map.mp hx
    exact (h.ok y hy).1.w.2
  have spz : sp.1 = 0 := by rw [h.s0]; split <;> rfl
  rw [List.length_map, spz, Int.zero_add] at r7
  clear spz
  refine ⟨p, qs, ?_, by have := sp0.1; omega, fun hne => ?_, r4, r5, r7⟩
  · have xl := h.len
    have xn : 0 < xs.length := List.length_pos_iff.mpr h.n
    -- the bounds that are tight
    have tl : uLc (iFn fRng2 (uCons (uC (.int 1)) (uCons (uVar 4) uNil))) (gN 7) uYes t_el [7] [some (.val (.loc w)), some (.val (.lst ((xs.map (·.2)).map encF))), some (.val (encF (0, 1))), some (.val (encF H)), some (.val (.int (xs.length : Int))), none, none, none, none, none] om =
        .ok (((List.range (xs.length - 1)).map fun k => tgt (xs.map (·.2)) H (k + 1)).map D.bl) [some (.val (.loc w)), some (.val (.lst ((xs.map (·.2)).map encF))), some (.val (encF (0, 1))), some (.val (encF H)), some (.val (.int (xs.length : Int))), none, none, none, none, none] om := by
      have f2 : fRng2 [.int 1, .int (xs.length : Int)] = some (rngN 1 (xs.length - 1)) := by
        unfold fRng2
        dsimp only
        rw [if_pos (by constructor <;> omega)]
        congr 2
        omega
      have g := goC_map (te := t_el) (i := 7) (ω := om) (ρ := [some (.val (.loc w)), some (.val (.lst ((xs.map (·.2)).map encF))), some (.val (encF (0, 1))), some (.val (encF H)), some (.val (.int (xs.length : Int))), none, none, none, none, none]) (fun d => match d with | .int k => .bl (tgt (xs.map (·.2)) H k.toNat) | _ => .non) (rngN 1 (xs.length - 1)) [] (fun d hd => by
        unfold rngN at hd
        obtain ⟨k, hk, rfl⟩ := List.mem_map.mp hd
        have hk := List.mem_range.mp hk
        have k1 : k < xs.length := by omega
        have k2 : k + 1 < xs.length := by omega
        have a1 : atN ((xs.map (·.2)).map encF) (1 + (k : Int) - 1) = some (encF xs[k].2) := by
          have : (1 + (k : Int) - 1) = (k : Int) := by omega
          rw [this]
          exact atN_nat (by rw [List.getElem?_map, List.getElem?_map, List.getElem?_eq_getElem k1]; rfl)
        have a2 : atN ((xs.map (·.2)).map encF) (1 + (k : Int)) = some (encF xs[k + 1].2) := by
          have : (1 + (k : Int)) = ((k + 1 : Nat) : Int) := by omega
          rw [this]
          exact atN_nat (by rw [List.getElem?_map, List.getElem?_map, List.getElem?_eq_getElem k2]; rfl)
        have q := dEq_fr xs[k].2 xs[k + 1].2
        have et : tgt (xs.map (·.2)) H (1 + (k : Int)).toNat = decide (xs[k].2 = xs[k + 1].2) := by
          have : (1 + (k : Int)).toNat = k + 1 := by omega
          rw [this]
          unfold tgt
          rw [List.length_map, if_pos k2, Nat.add_sub_cancel, List.getD_eq_getElem?_getD, List.getD_eq_getElem?_getD, List.getElem?_map, List.getElem?_map, List.getElem?_eq_getElem k1, List.getElem?_eq_getElem k2]
          rfl
        show _ = Res.ok (D.bl (tgt (xs.map (·.2)) H (1 + (k : Int)).toNat)) _ _
        rw [et]
        clear et hd hk r1 r2 r3 r4 r5 r6 r7 f2 h xl xn sp0
        simp only [List.set_cons_succ, List.set_cons_zero]
        generalize (xs.map (·.2)).map encF = Z5 at *
        generalize xs[k] = X at *
        generalize xs[k + 1] = Y at *
        generalize (xs.length : Int) = N at *
        generalize (k : Int) = KK at *
        unfold t_el
        walk_at "evx") (by unfold rngN; rw [List.length_map, List.length_range, List.length_nil, Nat.zero_add]; exact Nat.le_trans (show xs.length - 1 ≤ 1000 by omega) (by decide))
      rw [List.nil_append] at g
      have em : (rngN 1 (xs.length - 1)).map (fun d => match d with | .int k => D.bl (tgt (xs.map (·.2)) H k.toNat) | _ => .non) = ((List.range (xs.length - 1)).map fun k => tgt (xs.map (·.2)) H (k + 1)).map D.bl := by
        unfold rngN
        rw [List.map_map, List.map_map]
        refine List.map_congr_left fun k _ => ?_
        show D.bl (tgt _ H (1 + (k : Int)).toNat) = D.bl (tgt _ H (k + 1))
        have : (1 + (k : Int)).toNat = k + 1 := by omega
        rw [this]
      rw [em] at g
      clear h r1 r2 r3 r4 r5 r6 r7 sp0 em
      unfold uLc
      generalize ((List.range (xs.length - 1)).map fun k => tgt (xs.map (·.2)) H (k + 1)).map D.bl = TB at *
      generalize (xs.map (·.2)).map encF = Z5 at *
      generalize t_el = TE at *
      generalize hN : (xs.length : Int) = N at *
      generalize rngN 1 (xs.length - 1) = RR at *
      simp only [clrs, List.set_cons_succ, List.set_cons_zero] at *
      walk_at "evx"
    obtain ⟨X0, h0⟩ : ∃ X, xs[0]? = some X := ⟨_, List.getElem?_eq_getElem xn⟩
    obtain ⟨XN, hn1⟩ : ∃ X, xs[xs.length - 1]? = some X := ⟨_, List.getElem?_eq_getElem (show xs.length - 1 < xs.length by omega)⟩
    have a0 : atN ((xs.map (·.2)).map encF) 0 = some (encF X0.2) := by
      have := atN_nat (xs := (xs.map (·.2)).map encF) (k := 0) (x := encF X0.2) (by rw [List.getElem?_map, List.getElem?_map, h0]; rfl)
      exact this
    have a1 : atN ((xs.map (·.2)).map encF) (-1) = some (encF XN.2) := by
      have : (xs.map (·.2)).map encF = ((xs.map (·.2)).map encF).dropLast ++ [encF XN.2] := by
        have hne : (xs.map (·.2)).map encF ≠ [] := fun z => h.n (List.map_eq_nil_iff.mp (List.map_eq_nil_iff.mp z))
        have := (List.dropLast_concat_getLast hne).symm
        have gl : ((xs.map (·.2)).map encF).getLast hne = encF XN.2 := by
          rw [List.getLast_eq_getElem]
          have := (List.getElem?_eq_some_iff.mp hn1).2
          simp [this]
        rw [gl] at this
        exact this
      rw [this]
      exact atN_last
    have d0 := dEq_fr X0.2 (0, 1)
    have d1 := dEq_fr XN.2 H
    have g0 : (xs.map (·.2)).getD 0 (0, 1) = X0.2 := by rw [List.getD_eq_getElem?_getD, List.getElem?_map, h0]; rfl
    have tlast : tgt (xs.map (·.2)) H xs.length = decide (XN.2 = H) := by
      unfold tgt
      rw [List.length_map, if_neg (by omega), List.getD_eq_getElem?_getD, List.getElem?_map, hn1]
      rfl
    have tall : dAdd (.lst [.bl (decide (X0.2 = (0, 1)))]) (.lst (((List.range (xs.length - 1)).map fun k => tgt (xs.map (·.2)) H (k + 1)).map D.bl)) = some (.lst ((decide (X0.2 = (0, 1)) :: (List.range (xs.length - 1)).map fun k => tgt (xs.map (·.2)) H (k + 1)).map D.bl)) := by
      unfold dAdd
      dsimp only
      rw [if_pos (Nat.le_trans (m := 1000) (by simp; omega) (by decide))]
      rfl
    have tall2 : dAdd (.lst ((decide (X0.2 = (0, 1)) :: (List.range (xs.length - 1)).map fun k => tgt (xs.map (·.2)) H (k + 1)).map D.bl)) (.lst [.bl (decide (XN.2 = H))]) = some (.lst ((tgs (xs.map (·.2)) H).map D.bl)) := by
      unfold dAdd
      dsimp only
      rw [if_pos (Nat.le_trans (m := 1000) (by simp; omega) (by decide))]
      unfold tgs
      rw [g0, List.length_map]
      have : List.range xs.length = List.range (xs.length - 1) ++ [xs.length - 1] := by
        have e : xs.length = (xs.length - 1) + 1 := by omega
        conv => lhs; rw [e]
        exact List.range_succ
      rw [this, List.map_append, ← tlast]
      simp
      have : xs.length - 1 + 1 = xs.length := by omega
      rw [this]
    have s0D : (if decide (X0.2 = (0, 1)) = true then D.tup [.int 0, .non] else D.tup [.int 0, .int 0]) = spD sp := by
      rw [h.s0, List.head?_map, List.head?_eq_getElem?, h0]
      by_cases c : X0.2 = (0, 1)
      · rw [decide_eq_true c, if_pos rfl, if_pos (by show some X0.2 = _; rw [c])]
        rfl
      · rw [decide_eq_false c, if_neg (by simp), if_neg (fun z => c (by injection z))]
        rfl
    -- the spans
    obtain ⟨ρ1, om1, l1, x7, q1, q2⟩ := goL_range (i := 7) (body := s_turn) (fun k ρ om' => ∃ x7, ρ = [some (.val (.loc w)), some (.val (.lst ((xs.map (·.2)).map encF))), some (.val (encF (0, 1))), some (.val (encF H)), some (.val (.int (xs.length : Int))), some (.val (.lst ((tgs (xs.map (·.2)) H).map D.bl))), some (.own (((sp :: l).take (k + 1)).map spD)), x7, none, none] ∧ om' = om) xs.length (ρ := [some (.val (.loc w)), some (.val (.lst ((xs.map (·.2)).map encF))), some (.val (encF (0, 1))), some (.val (encF H)), some (.val (.int (xs.length : Int))), some (.val (.lst ((tgs (xs.map (·.2)) H).map D.bl))), some (.own [spD sp]), none, none, none]) (om := om) ⟨none, rfl, rfl⟩ (fun k ρ om' hk ⟨x7, z1, z2⟩ => by
      subst z1 z2
      exact ⟨_, _, s_turn_eq h (some (.val (encF (0, 1)))) (some (.val (encF H))) (some (.val (.int (xs.length : Int)))) none none hk, some (.val (.int (k : Int))), rfl, rfl⟩)
    have tk : (sp :: l).take (xs.length + 1) = sp :: l := List.take_of_length_le (by simp [r6])
    rw [tk] at q1
    subst q1
    rw [q2] at l1
    clear q2
    -- back
    generalize hS : sp :: l = S at *
    generalize hds : ((xs.map itOf).map fun x : It => LD [x.1] x.2) = ds at *
    have lS : S.length = xs.length + 1 := by rw [← hS]; simp [r6]
    have lds : ds.length = xs.length := by rw [← hds]; simp
    have prl : ∀ j, j ≤ xs.length → ∃ q qs', prS (S.drop (xs.length - j)) (ds.drop (xs.length - j)) = q :: qs' ∧ (q :: qs').length = j + 1 := by
      intro j
      induction j with
      | zero =>
        intro _
        have e : S.drop (xs.length - 0) = [S[xs.length]'(by omega)] := by
          rw [Nat.sub_zero, List.drop_eq_getElem_cons (by omega), List.drop_of_length_le (by omega)]
        rw [e]
        exact ⟨_, [], rfl, rfl⟩
      | succ j ih =>
        intro hj
        obtain ⟨q, qs', i1, i2⟩ := ih (by omega)
        have k1 : xs.length - (j + 1) < S.length := by omega
        have k2 : xs.length - (j + 1) < ds.length := by omega
        have e : xs.length - (j + 1) + 1 = xs.length - j := by omega
        have := prS_drop S ds (xs.length - (j + 1)) _ _ q qs' (List.getElem?_eq_getElem k1) (List.getElem?_eq_getElem k2) (by rw [e]; exact i1)
        exact ⟨_, _, this, by simp only [List.length_cons] at i2 ⊢; omega⟩
    have fd : fRngD [.int ((xs.length : Int) - 1), .int (-1), .int (-1)] = some ((List.range xs.length).map fun (k : Nat) => .int ((xs.length : Int) - 1 - (k : Int))) := by
      unfold fRngD
      dsimp only
      rw [if_pos ⟨by omega, rfl, rfl⟩]
      congr 3
      omega
    have aS : atN (S.map spD) (xs.length : Int) = some (spD (S[xs.length]'(by omega))) := atN_nat (by rw [List.getElem?_map, List.getElem?_eq_getElem (by omega)]; rfl)
    obtain ⟨ρ2, om2, l2, y7, y9, q3, q4⟩ := goL_item (α := Nat) (i := 7) (body := q_turn) (fun (k : Nat) => D.int ((xs.length : Int) - 1 - (k : Int))) (fun pre ρ om' => ∃ x7 x9, ρ = [some (.val (.loc w)), some (.val (.lst ((xs.map (·.2)).map encF))), some (.val (encF (0, 1))), some (.val (encF H)), some (.val (.int (xs.length : Int))), some (.val (.lst ((tgs (xs.map (·.2)) H).map D.bl))), some (.own (S.map spD)), x7, some (.own ((prS (S.drop (xs.length - pre.length)) (ds.drop (xs.length - pre.length))).reverse.map D.int)), x9] ∧ om' = om) (List.range xs.length) []
      [some (.val (.loc w)), some (.val (.lst ((xs.map (·.2)).map encF))), some (.val (encF (0, 1))), some (.val (encF H)), some (.val (.int (xs.length : Int))), some (.val (.lst ((tgs (xs.map (·.2)) H).map D.bl))), some (.own (S.map spD)), x7, some (.own [.int (S[xs.length]'(by omega)).1]), none] om (fun pre x post ρ om' e ⟨z7, z9, z1, z2⟩ => by
        subst z1 z2
        rw [List.nil_append] at e
        have ex : x = pre.length := by
          have k1 : (List.range xs.length)[pre.length]? = some x := by rw [e]; simp
          have k2 := (List.getElem?_eq_some_iff.mp k1).1
          rw [List.length_range] at k2
          rw [List.getElem?_range k2] at k1
          injection k1 with k1
          exact k1.symm
        have hl : pre.length < xs.length := by
          have := congrArg List.length e
          simp at this; omega
        subst ex
        obtain ⟨q, qs', i1, i2⟩ := prl pre.length (by omega)
        have ek : xs.length - (pre.length + 1) + 1 = xs.length - pre.length := by omega
        have kk : ((xs.length : Int) - 1 - (pre.length : Int)) = ((xs.length - (pre.length + 1) : Nat) : Int) := by omega
        obtain ⟨y9, t⟩ := q_turn_eq h (some (.val (encF (0, 1)))) (some (.val (encF H))) (some (.val (.int (xs.length : Int)))) (some (.val (.lst ((tgs (xs.map (·.2)) H).map D.bl)))) z9 (k := xs.length - (pre.length + 1)) (by omega) S hS.symm ds hds.symm (q := q) (qs := qs') (by rw [ek]; exact i1) (by rw [i2]; omega)
        rw [ek, ← kk] at t
        exact ⟨_, _, t, some (.val (.int ((xs.length : Int) - 1 - (pre.length : Int)))), y9, by rw [List.length_append]; rfl, rfl⟩) ⟨x7, none, by
          have e : S.drop (xs.length - ([] : List Nat).length) = [S[xs.length]'(by omega)] := by
            rw [List.length_nil, Nat.sub_zero, List.drop_eq_getElem_cons (by omega), List.drop_of_length_le (by omega)]
          rw [e]
          rfl, rfl⟩
    rw [List.nil_append, List.length_range, Nat.sub_self, List.drop_zero, List.drop_zero, r1] at q3
    subst q3
    rw [q4] at l2
    clear q4
    have f1 := fRng1_eq (j := (xs.length : Int)) (by omega)
    have tn : ((xs.length : Int)).toNat = xs.length := by omega
    rw [tn] at f1
    have fl : fLen [.lst ((xs.map (·.1)).map encN)] = some (.int (xs.length : Int)) := by rw [fLen_lst, List.length_map, List.length_map]
    have sc := see_loc om h.c
    generalize hsx : S[xs.length]'(by omega) = SX at *
    have at0 : atN ((tgs (xs.map (·.2)) H).map D.bl) 0 = some (.bl (decide (X0.2 = (0, 1)))) := by
      unfold tgs
      rw [g0]
      rfl
    clear h r1 r2 r3 r4 r5 r6 r7 tk lS lds prl sp0 hS hds h0 hn1 g0 tlast hsx
    unfold S_prices
    rw [p_top]
    have rr : ((p :: qs).reverse.map D.int).reverse = (p :: qs).map D.int := by rw [← List.map_reverse, List.reverse_reverse]
    generalize (p :: qs).reverse.map D.int = PP1 at *
    generalize (p :: qs).map D.int = PP2 at *
    generalize s_turn = ST at *
    generalize q_turn = QT at *
    generalize t_el = TE at *
    generalize (tgs (xs.map (·.2)) H).map D.bl = Z3 at *
    generalize ((decide (X0.2 = (0, 1)) :: (List.range (xs.length - 1)).map fun k => tgt (xs.map (·.2)) H (k + 1)).map D.bl) = Z6 at *
    generalize ((List.range (xs.length - 1)).map fun k => tgt (xs.map (·.2)) H (k + 1)).map D.bl = Z7 at *
    generalize (xs.map (·.1)).map encN = Z4 at *
    generalize (xs.map (·.2)).map encF = Z5 at *
    generalize S.map spD = Z8 at *
    generalize rngN 0 xs.length = R1 at *
    generalize ((List.range xs.length).map fun (k : Nat) => D.int ((xs.length : Int) - 1 - (k : Int))) = R2 at *
    generalize (xs.length : Int) = N at *
    generalize decide (X0.2 = (0, 1)) = B at *
    cases B
    · rw [if_neg (by simp)] at s0D
      rw [← s0D] at l1
      clear s0D
      walk_at "evx"
    · rw [if_pos rfl] at s0D
      rw [← s0D] at l1
      clear s0D
      walk_at "evx"
  · have := r3
    rw [h.s0, if_neg hne] at r2 r3
    have k1 : (0 : Int) ≤ p := r2
    have k2 := r3 0 rfl
    omega
end Dv

namespace Dv
open PySem PySem.Spec PyProof.Rows L2
local macro_rules | `(tactic| walk_at "ev") => `(tactic| try simp (disch := omega) only [sSeq_eq, seq_nx, seq_rt, seq_rto, seq_xc, seq_bk, seq_ct, seq_ite, sAsg, sAsgO, sExpr, sRet, sRetO, sRetN, sIf, sNext, uVar, uC, uUn, uBin, uB, uNot, uAnd, uOr, uTV, uAndV, uOrV, uNotV, uIf, uChain, uNil, uCons, uTup, uLst, uLstO, uFn, uFnO, uFz, uMv, uNew, uCall, uCallO, uCallN, uBinV, uBinW, uBinL, uMeO, uMeL, uFnV, sSetL, sAsgG, gN, gT2, gT3, gT4, iLst, iFn,   bind_ok, bind_xc, of_ok, of_xc, res_ok, res_xc, res0_ok, own_ok, own_xc, fr_nx, fr_rt, fr_rto, fr_xc, fo_rto, fo_xc, liftO_some, dBool_bl, items_lst, items_frz, ent, defU, defO, List.map_cons, List.map_nil, List.length_cons, List.length_nil, List.cons_append, List.nil_append, List.append_nil, List.replicate, List.getElem?_cons_zero, List.getElem?_cons_succ, List.set_cons_zero, List.set_cons_succ, Nat.zero_add, Nat.reduceAdd, Nat.reduceSub, Nat.reduceLeDiff,   le_big, lt_big, atN_zero, atN_one, atN_two, atN_three, setN_zero, setN_one, popAt_zero, len_zero, len_succ, dMul_r, dMul_l, dDiv_pos, dMod_pos, dAdd_int, dSub_int, dNeg_int, dLt_int, dLe_int, dGt_int, dGe_int, dEq_int, dNe_int, dEq_bl, dNe_bl, dEq_nil, dNe_nil, dIx_lst, dIx_tup, fAbs_int, fInt_bl, fInt_int, fLen_lst, fLen_frz, fLen_tup, ite_true, ite_false, if_true, if_false, Bool.not_true, Bool.not_false, decide_true, decide_false, Bool.true_eq_false, Bool.false_eq_true, reduceIte, reduceCtorEq, turn_nx, turn_ct, turn_bk, turn_rt, turn_rto, turn_xc, sFor_eq, goL_nil, eq_self])
local macro_rules | `(tactic| walk_at "evs") => `(tactic| try simp (disch := omega) only [sSeq_eq, seq_nx, seq_rt, seq_rto, seq_xc, seq_bk, seq_ct, seq_ite, sAsg, sAsgO, sExpr, sRet, sRetO, sRetN, sIf, sNext, uVar, uC, uUn, uBin, uB, uNot, uAnd, uOr, uTV, uAndV, uOrV, uNotV, uIf, uChain, uNil, uCons, uTup, uLst, uLstO, uFn, uFnO, uFz, uMv, uNew, uCall, uCallO, uCallN, uBinV, uBinW, uBinL, uMeO, uMeL, uFnV, sSetL, sAsgG, gN, gT2, gT3, gT4, iLst, iFn,   bind_ok, bind_xc, of_ok, of_xc, res_ok, res_xc, res0_ok, own_ok, own_xc, fr_nx, fr_rt, fr_rto, fr_xc, fo_rto, fo_xc, liftO_some, dBool_bl, items_lst, items_frz, ent, defU, defO, List.map_cons, List.map_nil, List.length_cons, List.length_nil, List.cons_append, List.nil_append, List.append_nil, List.replicate, List.getElem?_cons_zero, List.getElem?_cons_succ, List.set_cons_zero, List.set_cons_succ, Nat.zero_add, Nat.reduceAdd, Nat.reduceSub, Nat.reduceLeDiff,   le_big, lt_big, atN_zero, atN_one, atN_two, atN_three, setN_zero, setN_one, popAt_zero, len_zero, len_succ, dMul_r, dMul_l, dDiv_pos, dMod_pos, dAdd_int, dSub_int, dNeg_int, dLt_int, dLe_int, dGt_int, dGe_int, dEq_int, dNe_int, dEq_bl, dNe_bl, dEq_nil, dNe_nil, dIx_lst, dIx_tup, fAbs_int, fInt_bl, fInt_int, fLen_lst, fLen_frz, fLen_tup, ite_true, ite_false, if_true, if_false, Bool.not_true, Bool.not_false, decide_true, decide_false, Bool.true_eq_false, Bool.false_eq_true, reduceIte, reduceCtorEq, turn_nx, turn_ct, turn_bk, turn_rt, turn_rto, turn_xc, sFor_eq, goL_nil, eq_self, *])
local macro_rules | `(tactic| walk_at "evt") => `(tactic| try simp (disch := first | omega | (simp only [List.length_append, List.length_cons, List.length_nil, List.length_map]; omega)) only [sSeq_eq, seq_nx, seq_rt, seq_rto, seq_xc, seq_bk, seq_ct, seq_ite, sAsg, sAsgO, sExpr, sRet, sRetO, sRetN, sIf, sNext, uVar, uC, uUn, uBin, uB, uNot, uAnd, uOr, uTV, uAndV, uOrV, uNotV, uIf, uChain, uNil, uCons, uTup, uLst, uLstO, uFn, uFnO, uFz, uMv, uNew, uCall, uCallO, uCallN, uBinV, uBinW, uBinL, uMeO, uMeL, uFnV, sSetL, sAsgG, gN, gT2, gT3, gT4, iLst, iFn,   bind_ok, bind_xc, of_ok, of_xc, res_ok, res_xc, res0_ok, own_ok, own_xc, fr_nx, fr_rt, fr_rto, fr_xc, fo_rto, fo_xc, liftO_some, dBool_bl, items_lst, items_frz, ent, defU, defO, List.map_cons, List.map_nil, List.length_cons, List.length_nil, List.cons_append, List.nil_append, List.append_nil, List.replicate, List.getElem?_cons_zero, List.getElem?_cons_succ, List.set_cons_zero, List.set_cons_succ, Nat.zero_add, Nat.reduceAdd, Nat.reduceSub, Nat.reduceLeDiff,   le_big, lt_big, atN_zero, atN_one, atN_two, atN_three, setN_zero, setN_one, popAt_zero, len_zero, len_succ, dMul_r, dMul_l, dDiv_pos, dMod_pos, dAdd_int, dSub_int, dNeg_int, dLt_int, dLe_int, dGt_int, dGe_int, dEq_int, dNe_int, dEq_bl, dNe_bl, dEq_nil, dNe_nil, dIx_lst, dIx_tup, fAbs_int, fInt_bl, fInt_int, fLen_lst, fLen_frz, fLen_tup, ite_true, ite_false, if_true, if_false, Bool.not_true, Bool.not_false, decide_true, decide_false, Bool.true_eq_false, Bool.false_eq_true, reduceIte, reduceCtorEq, turn_nx, turn_ct, turn_bk, turn_rt, turn_rto, turn_xc, sFor_eq, goL_nil, eq_self, sRaise, gT2, gT3, gT4, sAsgG, uM1, uOrS, uSlS, uSlW, uCatV, uPart, uNoPart, iStrU, k_colon, k_blank, k_line, k_f, k_s, k_0, k_empty, k_digits, k_abc, k_alpha, k_cue, k_from, k_to, k_at, k_two, k_fto, k_nl, k_a1, dAdd_tx, fLen_tx, fStr_nat, dEq_tx, dNe_tx, dEq_txn, dNe_txn, len_tx, cutS_l1, cutS_b1, cutS_ln, cutS_bn, dIx_tx0, *])
local macro_rules | `(tactic| walk_at "evx") => `(tactic| try simp (disch := first | omega | (simp only [List.length_append, List.length_cons, List.length_nil, List.length_map]; omega)) only [sSeq_eq, seq_nx, seq_rt, seq_rto, seq_xc, seq_bk, seq_ct, seq_ite, sAsg, sAsgO, sExpr, sRet, sRetO, sRetN, sIf, sNext, uVar, uC, uUn, uBin, uB, uNot, uAnd, uOr, uTV, uAndV, uOrV, uNotV, uIf, uChain, uNil, uCons, uTup, uLst, uLstO, uFn, uFnO, uFz, uMv, uNew, uCall, uCallO, uCallN, uBinV, uBinW, uBinL, uMeO, uMeL, uFnV, sSetL, sAsgG, gN, gT2, gT3, gT4, iLst, iFn,   bind_ok, bind_xc, of_ok, of_xc, res_ok, res_xc, res0_ok, own_ok, own_xc, fr_nx, fr_rt, fr_rto, fr_xc, fo_rto, fo_xc, liftO_some, dBool_bl, items_lst, items_frz, ent, defU, defO, List.map_cons, List.map_nil, List.length_cons, List.length_nil, List.cons_append, List.nil_append, List.append_nil, List.replicate, List.getElem?_cons_zero, List.getElem?_cons_succ, List.set_cons_zero, List.set_cons_succ, Nat.zero_add, Nat.reduceAdd, Nat.reduceSub, Nat.reduceLeDiff,   le_big, lt_big, atN_zero, atN_one, atN_two, atN_three, setN_zero, setN_one, popAt_zero, len_zero, len_succ, dMul_r, dMul_l, dDiv_pos, dMod_pos, dAdd_int, dSub_int, dNeg_int, dLt_int, dLe_int, dGt_int, dGe_int, dEq_int, dNe_int, dEq_bl, dNe_bl, dEq_nil, dNe_nil, dIx_lst, dIx_tup, fAbs_int, fInt_bl, fInt_int, fLen_lst, fLen_frz, fLen_tup, ite_true, ite_false, if_true, if_false, Bool.not_true, Bool.not_false, decide_true, decide_false, Bool.true_eq_false, Bool.false_eq_true, reduceIte, reduceCtorEq, turn_nx, turn_ct, turn_bk, turn_rt, turn_rto, turn_xc, sFor_eq, goL_nil, eq_self, sRaise, gT2, gT3, gT4, sAsgG, see_bl, see_int, see_non, see_tup, see_lst, see_str, uBinX, uUnX, uFnX, uFld, sFldU, uMeth, uMethO, uMake, uCatX, uRev, uMethN, uFrzI, uSlV, uM1, uOrS, uSlS, uSlW, uCatV, uPart, uNoPart, iStrU, k_colon, k_blank, k_line, k_f, k_s, k_0, k_empty, k_digits, k_abc, k_alpha, k_cue, k_from, k_to, k_at, k_two, k_fto, k_nl, k_a1, dAdd_tx, fLen_tx, fStr_nat, dEq_tx, dNe_tx, dEq_txn, dNe_txn, len_tx, cutS_l1, cutS_b1, cutS_ln, cutS_bn, dIx_tx0, *])
def g_turn : US := (sSeq (sIf (uB (uBin dGt (uVar 3) (uC (.int 0)))) (sExpr (uMeO 2 mAppend (uCons (uBin dIx (uVar 1) (uC (.int 1))) uNil))) sNext)
    (sExpr (uMeO 2 mAppend (uCons (uCall 2 S_greater (uCons (uCall 2 S_timed (uCons (uTup (uCons (uCall 1 S_letters (uCons (uBin dIx (uBin dIx (uVar 0) (uVar 3)) (uC (.int 3))) uNil)) (uCons (uC (.int 1)) uNil))) (uCons (uBin dIx (uVar 1) (uC (.int 0))) uNil))) (uCons (uBin dIx (uVar 1) (uC (.int 2))) uNil))) uNil))))
theorem g_top : u_distances = (sSeq (sAsgO 2 (uLstO uNil)) (sSeq (sFor (iFn fRng1 (uCons (uFn fLen (uCons (uVar 0) uNil)) uNil)) (gN 3) g_turn) (sRetO (uMv 2)))) := rfl
def m_want : US := (sSeq (sIf (uB (uBin dGt (uVar 6) (uC (.int 0)))) (sAsg 5 (uCall 2 S_added (uCons (uVar 5) (uCons (uBin dIx (uVar 3) (uBin dSub (uVar 6) (uC (.int 1)))) uNil)))) sNext)
    (sExpr (uMeL (uVar 4) mAppend (uCons (uTup (uCons (uCall 2 S_less (uCons (uBin dIx (uBin dIx (uVar 0) (uBin dDiv (uVar 6) (uC (.int 2)))) (uBin dMod (uVar 6) (uC (.int 2)))) (uCons (uVar 5) uNil))) (uCons (uBin dIx (uVar 1) (uBin dAdd (uC (.int 3)) (uBin dMod (uVar 6) (uC (.int 2))))) uNil))) uNil))))
def m_cost : US := (sSeq (sAsg 12 (uCall 2 S_less (uCons (uBin dIx (uVar 8) (uVar 6)) (uCons (uBin dIx (uBinL dIx (uVar 4) (uVar 6)) (uC (.int 0))) uNil))))
    (sAsg 9 (uCall 2 S_added (uCons (uVar 9) (uCons (uCall 2 S_timed (uCons (uTup (uCons (uFn fAbs (uCons (uBin dIx (uVar 12) (uC (.int 0))) uNil)) (uCons (uBin dIx (uVar 12) (uC (.int 1))) uNil))) (uCons (uTup (uCons (uBin dIx (uBinL dIx (uVar 4) (uVar 6)) (uC (.int 1))) (uCons (uC (.int 1)) uNil))) uNil))) uNil)))))
def m_time : US := (sSeq (sIf (uB (uBin dGt (uVar 6) (uC (.int 0)))) (sAsg 5 (uCall 2 S_added (uCons (uVar 5) (uCons (uBin dIx (uVar 3) (uBin dSub (uVar 6) (uC (.int 1)))) uNil)))) sNext)
    (sExpr (uMeO 11 mAppend (uCons (uCall 2 S_added (uCons (uBin dIx (uVar 8) (uVar 6)) (uCons (uVar 5) uNil))) uNil))))
def m_found : UE := (uFz (uLc (iLst (uFz (uCallO 1 S_levels (uCons (uVar 4) uNil)))) (gN 13) uYes (uCallN 2 S_lesser (uCons (uCallN 2 S_greater (uCons (uVar 13) (uCons (uC (.tup [.int 0, .int 1])) uNil))) (uCons (uVar 7) uNil))) [13]))
def m_ret : UE := (uTup (uCons (uNew (uLc (iFn fRng1 (uCons (uFn fLen (uCons (uVar 0) uNil)) uNil)) (gN 6) uYes (uTup (uCons (uBinV dIx 11 (uBin dMul (uC (.int 2)) (uVar 6))) (uCons (uBinV dIx 11 (uBin dAdd (uBin dMul (uC (.int 2)) (uVar 6)) (uC (.int 1)))) uNil))) [6])) (uCons (uVar 9) (uCons (uVar 10) uNil))))
def m_pel : UE := (uTup (uCons (uBinV dIx 11 (uBin dMul (uC (.int 2)) (uVar 6))) (uCons (uBinV dIx 11 (uBin dAdd (uBin dMul (uC (.int 2)) (uVar 6)) (uC (.int 1)))) uNil)))
theorem m_ret_eq : m_ret = (uTup (uCons (uNew (uLc (iFn fRng1 (uCons (uFn fLen (uCons (uVar 0) uNil)) uNil)) (gN 6) uYes m_pel [6])) (uCons (uVar 9) (uCons (uVar 10) uNil)))) := rfl
def m_tail : US := (sSeq (sAsg 4 (uNew (uLstO uNil))) (sSeq (sAsg 5 (uC (.tup [.int 0, .int 1]))) (sSeq (sFor (iFn fRng1 (uCons (uBin dMul (uC (.int 2)) (uFn fLen (uCons (uVar 0) uNil))) uNil)) (gN 6) m_want) (sSeq (sAsg 7 (uCall 2 S_less (uCons (uVar 2) (uCons (uVar 5) uNil)))) (sSeq (sAsg 8 m_found) (sSeq (sAsg 9 (uC (.tup [.int 0, .int 1]))) (sSeq (sFor (iFn fRng1 (uCons (uFn fLen (uCons (uVar 8) uNil)) uNil)) (gN 6) m_cost) (sSeq (sAsg 10 (uNew (uCallO 4 S_prices (uCons (uVar 4) (uCons (uVar 8) (uCons (uC (.tup [.int 0, .int 1])) (uCons (uVar 7) uNil))))))) (sSeq (sAsgO 11 (uLstO uNil)) (sSeq (sAsg 5 (uC (.tup [.int 0, .int 1]))) (sSeq (sFor (iFn fRng1 (uCons (uFn fLen (uCons (uVar 8) uNil)) uNil)) (gN 6) m_time) (sRet m_ret))))))))))))
theorem m_top : u_moved = (sSeq (sAsg 3 (uFz (uCallO 2 S_distances (uCons (uVar 0) (uCons (uVar 1) uNil))))) (sSeq (sIf (uB (uCall 2 S_is_below (uCons (uVar 2) (uCons (uCall 1 S_summed (uCons (uVar 3) uNil)) uNil)))) (sRaise ⟨"TooTight", []⟩) sNext) (sSeq (sIf (uB (uBin dEq (uVar 0) (uLst uNil))) (sRet (uTup (uCons (uNew (uLstO uNil)) (uCons (uC (.tup [.int 0, .int 1])) (uCons (uNew (uLstO uNil)) uNil))))) sNext) m_tail))) := rfl
/-! ### distances, shifts, wants -/
def gstep (u : Ru) (acc : List Fr) (r : Rr) : List Fr := (if acc = [] then acc else acc ++ [u.gap]) ++ [gapOf u r]
def gapsF (u : Ru) (rows : List Rr) : List Fr := rows.foldl (gstep u) []
theorem gapsF_app (u : Ru) (rows : List Rr) (r : Rr) : gapsF u (rows ++ [r]) = gstep u (gapsF u rows) r := by unfold gapsF; rw [List.foldl_append]; rfl
theorem gstep_ne (u : Ru) (acc : List Fr) (r : Rr) : gstep u acc r ≠ [] := by unfold gstep; simp
theorem snoc_ind {α : Type} {P : List α → Prop} (h0 : P []) (h1 : ∀ l x, P l → P (l ++ [x])) : ∀ l, P l := by
  intro l
  generalize hn : l.length = n
  induction n generalizing l with
  | zero => rw [List.eq_nil_of_length_eq_zero hn]; exact h0
  | succ n ih =>
    rcases p_nil_or l with rfl | ⟨d, x, rfl⟩
    · cases hn
    · exact h1 d x (ih d (by simp at hn; exact hn))
theorem gapsF_len (u : Ru) : ∀ rows : List Rr, (gapsF u rows).length = 2 * rows.length - 1 ∧ (gapsF u rows = [] ↔ rows = []) := by
  refine snoc_ind ⟨rfl, by simp [gapsF]⟩ fun rows r ih => ?_
  rw [gapsF_app]
  refine ⟨?_, by constructor; exact fun z => absurd z (gstep_ne _ _ _); intro z; simp at z⟩
  unfold gstep
  split
  · rename_i h
    have := ih.2.mp h
    rw [h, this]
    rfl
  · rename_i h
    have : rows.length ≠ 0 := fun z => h (ih.2.mpr (List.eq_nil_of_length_eq_zero z))
    simp only [List.length_append, List.length_cons, List.length_nil, ih.1]
    omega
structure GapOk (g : Fr) : Prop where
  n : Nm g
  v : 0 ≤ val g ∧ val g ≤ 200
  d : Dn L30 g
theorem gapOf_ok {u : Ru} (hu : RuOk u) {r : Rr} (hr : RrOk r) : GapOk (gapOf u r) := by
  obtain ⟨_, k2, k3, k4, _⟩ := gap_num hu hr
  refine ⟨k2, ⟨k3, k4⟩, ?_⟩
  unfold gapOf gr
  split
  · exact hu.l30
  · have := dn_mul (dn_int (D := 1) (lets r.ws)) hu.e30
    rw [Nat.one_mul] at this
    exact this
theorem gapsF_ok {u : Ru} (hu : RuOk u) : ∀ rows : List Rr, (∀ r ∈ rows, RrOk r) → ∀ g ∈ gapsF u rows, GapOk g := by
  refine snoc_ind (fun _ g hg => by simp [gapsF] at hg) fun rows r ih h g hg => ?_
  rw [gapsF_app] at hg
  unfold gstep at hg
  have hg0 : GapOk u.gap := ⟨hu.gap, ⟨hu.g0.1, by have := hu.g0.2; grind⟩, hu.g30⟩
  rcases List.mem_append.mp hg with q | q
  · split at q
    · exact ih (fun x hx => h x (by simp [hx])) g q
    · rcases List.mem_append.mp q with z | z
      · exact ih (fun x hx => h x (by simp [hx])) g z
      · simp at z; rw [z]; exact hg0
  · simp at q; rw [q]; exact gapOf_ok hu (h r (by simp))
theorem distances_eq (om : Om) {u : Ru} (hu : RuOk u) {rows : List Rr} (h : ∀ r ∈ rows, RrOk r) (hl : rows.length ≤ 21) : S_distances [.lst (rows.map encR), encU u] om = .ok (.lst ((gapsF u rows).map encF)) om := by
  obtain ⟨ρ1, om1, g1, x3, q1, q2⟩ := goL_range (i := 3) (body := g_turn) (fun k ρ om' => ∃ x3, ρ = [some (.val (.lst (rows.map encR))), some (.val (encU u)), some (.own ((gapsF u (rows.take k)).map encF)), x3] ∧ om' = om) rows.length (ρ := [some (.val (.lst (rows.map encR))), some (.val (encU u)), some (.own []), none]) (om := om) ⟨none, rfl, rfl⟩ (fun k ρ om' hk ⟨x3, z1, z2⟩ => by
    subst z1 z2
    obtain ⟨r, hr⟩ : ∃ r, rows[k]? = some r := ⟨_, List.getElem?_eq_getElem hk⟩
    have rm := List.mem_of_getElem? hr
    have ro := h r rm
    obtain ⟨k1, k2, k3, k4, k5⟩ := gap_num hu ro
    have e1 := letters_eq om' ro.l ro.w
    have e2 := timed_eq om' k5 hu.each.bd (by decide)
    have e3 := greater_eq om' (k1.bd.mono (by decide)) (hu.least.bd.mono (by decide))
    have et : rows.take (k + 1) = rows.take k ++ [r] := by rw [List.take_succ, hr]; rfl
    obtain ⟨gl, gn⟩ := gapsF_len u (rows.take k)
    have gl2 : (gapsF u (rows.take k)).length ≤ 60 := by rw [gl, List.length_take]; omega
    have a0 : atN (rows.map encR) (k : Int) = some (encR r) := atN_nat (by rw [List.getElem?_map, hr]; rfl)
    refine ⟨[some (.val (.lst (rows.map encR))), some (.val (encU u)), some (.own ((gapsF u (rows.take (k + 1))).map encF)), some (.val (.int (k : Int)))], om', ?_, some (.val (.int (k : Int))), rfl, rfl⟩
    rw [et, gapsF_app]
    unfold gstep
    have gq : gapOf u r = gr (fmul (lets r.ws, 1) u.each) u.least := rfl
    by_cases c : k = 0
    · subst c
      have : gapsF u (rows.take 0) = [] := rfl
      rw [this, if_pos rfl, List.nil_append]
      have d0 : decide (0 < ((0 : Nat) : Int)) = false := rfl
      have ap := app_D encF (d := []) (gapOf u r) (by simp)
      rw [gq] at ap ⊢
      rw [List.nil_append] at ap
      clear h hu hl hr rm ro k1 k2 k3 k4 k5 et gl gn gl2 this gq hk
      unfold g_turn
      generalize rows.map encR = X at *
      generalize [gr (fmul (lets r.ws, 1) u.each) u.least].map encF = Y at *
      generalize gr (fmul (lets r.ws, 1) u.each) u.least = GG at *
      unfold encR at *
      generalize r.ws.map wd = W at *
      simp only [List.map_nil, List.set_cons_succ, List.set_cons_zero] at *
      generalize ((0 : Nat) : Int) = K0 at *
      walk_at "evx"
    · have gne : gapsF u (rows.take k) ≠ [] := fun z => by
        have q := congrArg List.length (gn.mp z)
        rw [List.length_take, List.length_nil] at q
        omega
      rw [if_neg gne]
      have d0 : decide (0 < (k : Int)) = true := decide_eq_true (by omega)
      have ap1 := app_D encF (d := gapsF u (rows.take k)) u.gap (by omega)
      have ap2 := app_D encF (d := gapsF u (rows.take k) ++ [u.gap]) (gapOf u r) (by simp; omega)
      rw [gq] at ap2 ⊢
      clear h hu hl hr rm ro k1 k2 k3 k4 k5 et gl gn gl2 gq gne hk c
      unfold g_turn
      generalize rows.map encR = X at *
      generalize (gapsF u (rows.take k) ++ [u.gap] ++ [gr (fmul (lets r.ws, 1) u.each) u.least]).map encF = Y at *
      generalize (gapsF u (rows.take k) ++ [u.gap]).map encF = Y2 at *
      generalize (gapsF u (rows.take k)).map encF = Y3 at *
      generalize gr (fmul (lets r.ws, 1) u.each) u.least = GG at *
      unfold encR at *
      generalize r.ws.map wd = W at *
      simp only [List.set_cons_succ, List.set_cons_zero] at *
      generalize (k : Int) = KK at *
      walk_at "evx")
  rw [List.take_length] at q1
  subst q1
  rw [q2] at g1
  clear q2
  have f1 := fRng1_eq (j := (rows.length : Int)) (by omega)
  have tn : ((rows.length : Int)).toNat = rows.length := by omega
  rw [tn] at f1
  have fl : fLen [.lst (rows.map encR)] = some (.int (rows.length : Int)) := by rw [fLen_lst, List.length_map]
  clear h hu hl tn
  unfold S_distances
  rw [g_top]
  generalize g_turn = GT at *
  generalize (gapsF u rows).map encF = Y at *
  generalize rows.map encR = X at *
  generalize rngN 0 rows.length = RR at *
  generalize (rows.length : Int) = N at *
  simp only [defO, ent, sRetO] at *
  walk_at "evx"
/-- what stands ahead of a time -/
def shK (gs : List Fr) : Nat → Fr
  | 0 => (0, 1)
  | k + 1 => fsum (shK gs k) (gs.getD k (0, 1))
theorem natCast_le {a b : Nat} (h : a ≤ b) : (a : Rat) ≤ (b : Rat) := by
  have : ((a : Int) : Rat) ≤ ((b : Int) : Rat) := Rat.intCast_le_intCast.mpr (by omega)
  exact this
theorem natCast_succ (k : Nat) : ((k + 1 : Nat) : Rat) = (k : Rat) + 1 := by
  have : (((k + 1 : Nat) : Int) : Rat) = (((k : Nat) : Int) : Rat) + ((1 : Int) : Rat) := by rw [← Rat.intCast_add]; rfl
  exact this
theorem sh_ok {gs : List Fr} (h : ∀ g ∈ gs, GapOk g) : ∀ k, k ≤ gs.length → Dn L30 (shK gs k) ∧ Dn DM (shK gs k) ∧ 0 ≤ val (shK gs k) ∧ val (shK gs k) ≤ 200 * (k : Rat)
  | 0, _ => ⟨dn_int (D := L30) 0, nm_01.d, by show 0 ≤ val (0, 1); rw [v01]; exact Rat.le_refl, by show val (0, 1) ≤ 200 * ((0 : Nat) : Rat); rw [v01]; have : ((0 : Nat) : Rat) = 0 := rfl; rw [this]; grind⟩
  | k + 1, hk => by
    obtain ⟨a0, a, b, c⟩ := sh_ok h k (by omega)
    have gk : gs.getD k (0, 1) = gs[k]'(by omega) := by rw [List.getD_eq_getElem?_getD, List.getElem?_eq_getElem (by omega)]; rfl
    have g := h _ (List.getElem_mem (show k < gs.length by omega))
    have v := val_sum a.cn.1 g.n.p
    refine ⟨?_, ?_, ?_, ?_⟩
    · show Dn L30 (fsum _ _); rw [gk]; exact dn_sum a0 g.d
    · show Dn DM (fsum _ _); rw [gk]; exact dn_sum a g.n.d
    · show 0 ≤ val (fsum _ _); rw [gk, v]; have := g.v; grind
    · show val (fsum _ _) ≤ _; rw [gk, v, natCast_succ]; have := g.v; grind
theorem sh_val {gs : List Fr} (h : ∀ g ∈ gs, GapOk g) {k : Nat} (hk : k < gs.length) : val (shK gs (k + 1)) = val (shK gs k) + val gs[k] := by
  have a := (sh_ok h k (by omega)).2.1
  have gk : gs.getD k (0, 1) = gs[k] := by rw [List.getD_eq_getElem?_getD, List.getElem?_eq_getElem hk]; rfl
  show val (fsum _ _) = _
  rw [gk, val_sum a.cn.1 (h _ (List.getElem_mem hk)).n.p]
theorem sh_nm {gs : List Fr} (h : ∀ g ∈ gs, GapOk g) (hl : gs.length ≤ 60) {k : Nat} (hk : k ≤ gs.length) : Nm (shK gs k) := by
  obtain ⟨_, a, b, c⟩ := sh_ok h k hk
  have := natCast_le (show k ≤ 60 by omega)
  have e : ((60 : Nat) : Rat) = 60 := rfl
  rw [e] at this
  exact ⟨a, by grind, by grind⟩
theorem summed_eq (om : Om) {gs : List Fr} (h : ∀ g ∈ gs, GapOk g) (hl : gs.length ≤ 60) : S_summed [.lst (gs.map encF)] om = .ok (encF (shK gs gs.length)) om := by
  obtain ⟨ρ1, om1, g1, x2, q1, q2⟩ := goL_item (i := 2) (body := (sAsg 1 (uCall 2 S_added (uCons (uVar 1) (uCons (uVar 2) uNil))))) encF (fun pre ρ om' => ∃ x2, ρ = [some (.val (.lst (gs.map encF))), some (.val (encF (shK gs pre.length))), x2] ∧ om' = om) gs [] [some (.val (.lst (gs.map encF))), some (.val (encF (0, 1))), none] om (fun p x q ρ om' e ⟨x2, z1, z2⟩ => by
    subst z1 z2
    rw [List.nil_append] at e
    have hx := h x (by rw [e]; simp)
    have lp : p.length < gs.length := by rw [e]; simp
    have s := sh_nm h hl (k := p.length) (by omega)
    have e1 := added_eq om' s.bd hx.n.bd (by decide)
    have gk : gs.getD p.length (0, 1) = x := by rw [List.getD_eq_getElem?_getD, e]; simp
    refine ⟨[some (.val (.lst (gs.map encF))), some (.val (encF (shK gs (p ++ [x]).length))), some (.val (encF x))], om', ?_, some (.val (encF x)), rfl, rfl⟩
    have : shK gs (p ++ [x]).length = fsum (shK gs p.length) x := by
      rw [List.length_append]
      show fsum _ (gs.getD p.length (0, 1)) = _
      rw [gk]
    rw [this]
    clear h hl hx lp s gk this e
    generalize gs.map encF = X at *
    walk_at "evx") ⟨none, rfl, rfl⟩
  rw [List.nil_append] at q1
  subst q1
  rw [q2] at g1
  clear h hl q2
  unfold S_summed u_summed
  generalize gs.map encF = X at *
  walk_at "evx"
/-- what is wanted -/
def twK (rows : List Rr) (k : Nat) : Fr := match rows[k / 2]? with
  | some r => if k % 2 = 0 then r.b else r.e
  | none => (0, 1)
def wtK (u : Ru) (k : Nat) : Int := if k % 2 = 0 then u.w0 else u.w1
def wnK (u : Ru) (rows : List Rr) (gs : List Fr) (k : Nat) : Wn := ⟨fsub (twK rows k) (shK gs k), wtK u k⟩
def wnL (u : Ru) (rows : List Rr) (gs : List Fr) (N : Nat) : List Wn := (List.range N).map (wnK u rows gs)
structure MvIn (u : Ru) (rows : List Rr) (gs : List Fr) (N : Nat) : Prop where
  uo : RuOk u
  ro : ∀ r ∈ rows, RrOk r
  l : rows.length ≤ 20
  n : N = 2 * rows.length
  p : 0 < rows.length
  ge : gs = gapsF u rows
section
variable {u : Ru} {rows : List Rr} {gs : List Fr} {N : Nat} (m : MvIn u rows gs N)
include m
theorem mv_gs : (∀ g ∈ gs, GapOk g) ∧ gs.length + 1 = N := by
  rw [m.ge]
  refine ⟨gapsF_ok m.uo rows m.ro, ?_⟩
  have := (gapsF_len u rows).1
  have := m.p
  have := m.n
  omega
theorem mv_tw {k : Nat} (hk : k < N) : Nm (twK rows k) ∧ 0 ≤ val (twK rows k) ∧ val (twK rows k) ≤ 2000 ∧ ∃ r, rows[k / 2]? = some r ∧ twK rows k = if k % 2 = 0 then r.b else r.e := by
  have hn := m.n
  obtain ⟨r, hr⟩ : ∃ r, rows[k / 2]? = some r := ⟨_, List.getElem?_eq_getElem (by omega)⟩
  have ro := m.ro r (List.mem_of_getElem? hr)
  have e : twK rows k = if k % 2 = 0 then r.b else r.e := by unfold twK; rw [hr]
  rw [e]
  refine ⟨?_, ?_, ?_, r, hr, rfl⟩ <;> split <;> first | exact ro.b | exact ro.e | exact ro.b0.1 | exact ro.e0.1 | exact ro.b0.2 | exact ro.e0.2
theorem mv_wn {k : Nat} (hk : k < N) : WnOk (wnK u rows gs k) ∧ val (wnK u rows gs k).v = val (twK rows k) - val (shK gs k) := by
  obtain ⟨g1, g2⟩ := mv_gs m
  obtain ⟨t1, t2, t3, _⟩ := mv_tw m hk
  obtain ⟨_, s1, s2, s3⟩ := sh_ok g1 k (by omega)
  have v := val_sub t1.p s1.cn.1
  have kn := natCast_le (show k ≤ 60 by have := m.l; have := m.n; omega)
  have e : ((60 : Nat) : Rat) = 60 := rfl
  rw [e] at kn
  refine ⟨⟨⟨dn_sub t1.d s1, ?_, ?_⟩, ?_⟩, v⟩
  · show -100000000 ≤ val (fsub _ _); rw [v]; grind
  · show val (fsub _ _) ≤ 100000000; rw [v]; grind
  · show 1 ≤ wtK u k ∧ wtK u k ≤ 9
    unfold wtK
    split
    · exact m.uo.w0
    · exact m.uo.w1
theorem want_turn (om0 : Om) (x2 x7 x8 x9 x10 x11 x12 x13 : Option Sl) {k : Nat} (hk : k < N) : m_want [some (.val (.lst (rows.map encR))), some (.val (encU u)), x2, some (.val (.lst (gs.map encF))), some (.val (.loc om0.length)), some (.val (encF (shK gs (k - 1)))), some (.val (.int (k : Int))), x7, x8, x9, x10, x11, x12, x13] (om0 ++ [.lst ((wnL u rows gs k).map encN)]) =
    .nx [some (.val (.lst (rows.map encR))), some (.val (encU u)), x2, some (.val (.lst (gs.map encF))), some (.val (.loc om0.length)), some (.val (encF (shK gs k))), some (.val (.int (k : Int))), x7, x8, x9, x10, x11, x12, x13] (om0 ++ [.lst ((wnL u rows gs (k + 1)).map encN)]) := by
  obtain ⟨g1, g2⟩ := mv_gs m
  obtain ⟨t1, t2, t3, r, hr, te⟩ := mv_tw m hk
  have gl : gs.length ≤ 60 := by have := m.l; have := m.n; omega
  have sk := sh_nm g1 gl (k := k) (by omega)
  have sk1 := sh_nm g1 gl (k := k - 1) (by omega)
  have e2 : wnL u rows gs (k + 1) = wnL u rows gs k ++ [wnK u rows gs k] := by unfold wnL; rw [List.range_succ, List.map_append]; rfl
  have ap := app_D encN (d := wnL u rows gs k) (wnK u rows gs k) (by unfold wnL; rw [List.length_map, List.length_range]; omega)
  rw [← e2] at ap
  generalize hom : om0 ++ [Cell.lst ((wnL u rows gs k).map encN)] = om1 at *
  have c1 : om1[om0.length]? = some (.lst ((wnL u rows gs k).map encN)) := by rw [← hom]; exact get_end _ _
  have c2 : ∀ d, om1.set om0.length d = om0 ++ [d] := fun d => by rw [← hom]; exact set_end _ _ _
  have e1 := less_eq om1 t1.bd sk.bd (by decide)
  have kd : ((k : Int) / 2) = ((k / 2 : Nat) : Int) := by omega
  have km : ((k : Int) % 2) = ((k % 2 : Nat) : Int) := by omega
  have a0 : atN (rows.map encR) ((k : Int) / 2) = some (encR r) := by rw [kd]; exact atN_nat (by rw [List.getElem?_map, hr]; rfl)
  have a1 : dIx (encR r) (.int ((k : Int) % 2)) = some (encF (twK rows k)) := by
    rw [te]
    rcases (show k % 2 = 0 ∨ k % 2 = 1 by omega) with z | z
    · rw [km, z]; rfl
    · rw [km, z]; rfl
  have a2 : dIx (encU u) (.int (3 + (k : Int) % 2)) = some (.int (wtK u k)) := by
    unfold wtK
    rcases (show k % 2 = 0 ∨ k % 2 = 1 by omega) with z | z
    · rw [km, z]; rfl
    · rw [km, z]; rfl
  have dv := dDiv_pos (i := (k : Int)) (j := 2) (by decide) (by decide)
  have md := dMod_pos (i := (k : Int)) (j := 2) (by decide)
  have wv : wnK u rows gs k = ⟨fsub (twK rows k) (shK gs k), wtK u k⟩ := rfl
  rw [wv] at ap
  by_cases c : k = 0
  · subst c
    have d0 : decide (0 < ((0 : Nat) : Int)) = false := rfl
    have s0 : shK gs (0 - 1) = shK gs 0 := rfl
    rw [s0]
    clear m g1 g2 t1 t2 t3 hr te gl sk sk1 e2 hom kd km hk wv s0
    unfold m_want
    generalize rows.map encR = X at *
    generalize gs.map encF = Y at *
    generalize (wnL u rows gs (0 + 1)).map encN = Z1 at *
    generalize (wnL u rows gs 0).map encN = Z2 at *
    generalize twK rows 0 = TW at *
    generalize shK gs 0 = SH at *
    generalize wtK u 0 = WT at *
    generalize ((0 : Nat) : Int) = K0 at *
    generalize encR r = RR at *
    generalize encU u = UU at *
    walk_at "evx"
  · have d0 : decide (0 < (k : Int)) = true := decide_eq_true (by omega)
    have gk : k - 1 < gs.length := by omega
    have a3 : atN (gs.map encF) ((k : Int) - 1) = some (encF gs[k - 1]) := by
      have : ((k : Int) - 1) = ((k - 1 : Nat) : Int) := by omega
      rw [this]
      exact atN_nat (by rw [List.getElem?_map, List.getElem?_eq_getElem gk]; rfl)
    have e3 := added_eq om1 sk1.bd (g1 _ (List.getElem_mem gk)).n.bd (by decide)
    have sv : fsum (shK gs (k - 1)) gs[k - 1] = shK gs k := by
      obtain ⟨j, rfl⟩ : ∃ j, k = j + 1 := ⟨k - 1, by omega⟩
      show _ = fsum (shK gs j) (gs.getD j (0, 1))
      have jl : j < gs.length := by omega
      have : gs.getD j (0, 1) = gs[j] := by rw [List.getD_eq_getElem?_getD, List.getElem?_eq_getElem jl]; rfl
      rw [this]
      rfl
    rw [sv] at e3
    generalize gs[k - 1] = GK at *
    clear m g1 g2 t1 t2 t3 hr te gl sk sk1 e2 hom kd km hk wv sv gk c
    unfold m_want
    generalize rows.map encR = X at *
    generalize gs.map encF = Y at *
    generalize (wnL u rows gs (k + 1)).map encN = Z1 at *
    generalize (wnL u rows gs k).map encN = Z2 at *
    generalize twK rows k = TW at *
    generalize shK gs k = SH at *
    generalize shK gs (k - 1) = SH1 at *
    generalize wtK u k = WT at *
    generalize (k : Int) = KK at *
    generalize encR r = RR at *
    generalize encU u = UU at *
    walk_at "evx"
end
end Dv

namespace Dv
open PySem PySem.Spec PyProof.Rows L2
local macro_rules | `(tactic| walk_at "ev") => `(tactic| try simp (disch := omega) only [sSeq_eq, seq_nx, seq_rt, seq_rto, seq_xc, seq_bk, seq_ct, seq_ite, sAsg, sAsgO, sExpr, sRet, sRetO, sRetN, sIf, sNext, uVar, uC, uUn, uBin, uB, uNot, uAnd, uOr, uTV, uAndV, uOrV, uNotV, uIf, uChain, uNil, uCons, uTup, uLst, uLstO, uFn, uFnO, uFz, uMv, uNew, uCall, uCallO, uCallN, uBinV, uBinW, uBinL, uMeO, uMeL, uFnV, sSetL, sAsgG, gN, gT2, gT3, gT4, iLst, iFn,   bind_ok, bind_xc, of_ok, of_xc, res_ok, res_xc, res0_ok, own_ok, own_xc, fr_nx, fr_rt, fr_rto, fr_xc, fo_rto, fo_xc, liftO_some, dBool_bl, items_lst, items_frz, ent, defU, defO, List.map_cons, List.map_nil, List.length_cons, List.length_nil, List.cons_append, List.nil_append, List.append_nil, List.replicate, List.getElem?_cons_zero, List.getElem?_cons_succ, List.set_cons_zero, List.set_cons_succ, Nat.zero_add, Nat.reduceAdd, Nat.reduceSub, Nat.reduceLeDiff,   le_big, lt_big, atN_zero, atN_one, atN_two, atN_three, setN_zero, setN_one, popAt_zero, len_zero, len_succ, dMul_r, dMul_l, dDiv_pos, dMod_pos, dAdd_int, dSub_int, dNeg_int, dLt_int, dLe_int, dGt_int, dGe_int, dEq_int, dNe_int, dEq_bl, dNe_bl, dEq_nil, dNe_nil, dIx_lst, dIx_tup, fAbs_int, fInt_bl, fInt_int, fLen_lst, fLen_frz, fLen_tup, ite_true, ite_false, if_true, if_false, Bool.not_true, Bool.not_false, decide_true, decide_false, Bool.true_eq_false, Bool.false_eq_true, reduceIte, reduceCtorEq, turn_nx, turn_ct, turn_bk, turn_rt, turn_rto, turn_xc, sFor_eq, goL_nil, eq_self])
local macro_rules | `(tactic| walk_at "evs") => `(tactic| try simp (disch := omega) only [sSeq_eq, seq_nx, seq_rt, seq_rto, seq_xc, seq_bk, seq_ct, seq_ite, sAsg, sAsgO, sExpr, sRet, sRetO, sRetN, sIf, sNext, uVar, uC, uUn, uBin, uB, uNot, uAnd, uOr, uTV, uAndV, uOrV, uNotV, uIf, uChain, uNil, uCons, uTup, uLst, uLstO, uFn, uFnO, uFz, uMv, uNew, uCall, uCallO, uCallN, uBinV, uBinW, uBinL, uMeO, uMeL, uFnV, sSetL, sAsgG, gN, gT2, gT3, gT4, iLst, iFn,   bind_ok, bind_xc, of_ok, of_xc, res_ok, res_xc, res0_ok, own_ok, own_xc, fr_nx, fr_rt, fr_rto, fr_xc, fo_rto, fo_xc, liftO_some, dBool_bl, items_lst, items_frz, ent, defU, defO, List.map_cons, List.map_nil, List.length_cons, List.length_nil, List.cons_append, List.nil_append, List.append_nil, List.replicate, List.getElem?_cons_zero, List.getElem?_cons_succ, List.set_cons_zero, List.set_cons_succ, Nat.zero_add, Nat.reduceAdd, Nat.reduceSub, Nat.reduceLeDiff,   le_big, lt_big, atN_zero, atN_one, atN_two, atN_three, setN_zero, setN_one, popAt_zero, len_zero, len_succ, dMul_r, dMul_l, dDiv_pos, dMod_pos, dAdd_int, dSub_int, dNeg_int, dLt_int, dLe_int, dGt_int, dGe_int, dEq_int, dNe_int, dEq_bl, dNe_bl, dEq_nil, dNe_nil, dIx_lst, dIx_tup, fAbs_int, fInt_bl, fInt_int, fLen_lst, fLen_frz, fLen_tup, ite_true, ite_false, if_true, if_false, Bool.not_true, Bool.not_false, decide_true, decide_false, Bool.true_eq_false, Bool.false_eq_true, reduceIte, reduceCtorEq, turn_nx, turn_ct, turn_bk, turn_rt, turn_rto, turn_xc, sFor_eq, goL_nil, eq_self, *])
local macro_rules | `(tactic| walk_at "evt") => `(tactic| try simp (disch := first | omega | (simp only [List.length_append, List.length_cons, List.length_nil, List.length_map]; omega)) only [sSeq_eq, seq_nx, seq_rt, seq_rto, seq_xc, seq_bk, seq_ct, seq_ite, sAsg, sAsgO, sExpr, sRet, sRetO, sRetN, sIf, sNext, uVar, uC, uUn, uBin, uB, uNot, uAnd, uOr, uTV, uAndV, uOrV, uNotV, uIf, uChain, uNil, uCons, uTup, uLst, uLstO, uFn, uFnO, uFz, uMv, uNew, uCall, uCallO, uCallN, uBinV, uBinW, uBinL, uMeO, uMeL, uFnV, sSetL, sAsgG, gN, gT2, gT3, gT4, iLst, iFn,   bind_ok, bind_xc, of_ok, of_xc, res_ok, res_xc, res0_ok, own_ok, own_xc, fr_nx, fr_rt, fr_rto, fr_xc, fo_rto, fo_xc, liftO_some, dBool_bl, items_lst, items_frz, ent, defU, defO, List.map_cons, List.map_nil, List.length_cons, List.length_nil, List.cons_append, List.nil_append, List.append_nil, List.replicate, List.getElem?_cons_zero, List.getElem?_cons_succ, List.set_cons_zero, List.set_cons_succ, Nat.zero_add, Nat.reduceAdd, Nat.reduceSub, Nat.reduceLeDiff,   le_big, lt_big, atN_zero, atN_one, atN_two, atN_three, setN_zero, setN_one, popAt_zero, len_zero, len_succ, dMul_r, dMul_l, dDiv_pos, dMod_pos, dAdd_int, dSub_int, dNeg_int, dLt_int, dLe_int, dGt_int, dGe_int, dEq_int, dNe_int, dEq_bl, dNe_bl, dEq_nil, dNe_nil, dIx_lst, dIx_tup, fAbs_int, fInt_bl, fInt_int, fLen_lst, fLen_frz, fLen_tup, ite_true, ite_false, if_true, if_false, Bool.not_true, Bool.not_false, decide_true, decide_false, Bool.true_eq_false, Bool.false_eq_true, reduceIte, reduceCtorEq, turn_nx, turn_ct, turn_bk, turn_rt, turn_rto, turn_xc, sFor_eq, goL_nil, eq_self, sRaise, gT2, gT3, gT4, sAsgG, uM1, uOrS, uSlS, uSlW, uCatV, uPart, uNoPart, iStrU, k_colon, k_blank, k_line, k_f, k_s, k_0, k_empty, k_digits, k_abc, k_alpha, k_cue, k_from, k_to, k_at, k_two, k_fto, k_nl, k_a1, dAdd_tx, fLen_tx, fStr_nat, dEq_tx, dNe_tx, dEq_txn, dNe_txn, len_tx, cutS_l1, cutS_b1, cutS_ln, cutS_bn, dIx_tx0, *])
local macro_rules | `(tactic| walk_at "evx") => `(tactic| try simp (disch := first | omega | (simp only [List.length_append, List.length_cons, List.length_nil, List.length_map]; omega)) only [sSeq_eq, seq_nx, seq_rt, seq_rto, seq_xc, seq_bk, seq_ct, seq_ite, sAsg, sAsgO, sExpr, sRet, sRetO, sRetN, sIf, sNext, uVar, uC, uUn, uBin, uB, uNot, uAnd, uOr, uTV, uAndV, uOrV, uNotV, uIf, uChain, uNil, uCons, uTup, uLst, uLstO, uFn, uFnO, uFz, uMv, uNew, uCall, uCallO, uCallN, uBinV, uBinW, uBinL, uMeO, uMeL, uFnV, sSetL, sAsgG, gN, gT2, gT3, gT4, iLst, iFn,   bind_ok, bind_xc, of_ok, of_xc, res_ok, res_xc, res0_ok, own_ok, own_xc, fr_nx, fr_rt, fr_rto, fr_xc, fo_rto, fo_xc, liftO_some, dBool_bl, items_lst, items_frz, ent, defU, defO, List.map_cons, List.map_nil, List.length_cons, List.length_nil, List.cons_append, List.nil_append, List.append_nil, List.replicate, List.getElem?_cons_zero, List.getElem?_cons_succ, List.set_cons_zero, List.set_cons_succ, Nat.zero_add, Nat.reduceAdd, Nat.reduceSub, Nat.reduceLeDiff,   le_big, lt_big, atN_zero, atN_one, atN_two, atN_three, setN_zero, setN_one, popAt_zero, len_zero, len_succ, dMul_r, dMul_l, dDiv_pos, dMod_pos, dAdd_int, dSub_int, dNeg_int, dLt_int, dLe_int, dGt_int, dGe_int, dEq_int, dNe_int, dEq_bl, dNe_bl, dEq_nil, dNe_nil, dIx_lst, dIx_tup, fAbs_int, fInt_bl, fInt_int, fLen_lst, fLen_frz, fLen_tup, ite_true, ite_false, if_true, if_false, Bool.not_true, Bool.not_false, decide_true, decide_false, Bool.true_eq_false, Bool.false_eq_true, reduceIte, reduceCtorEq, turn_nx, turn_ct, turn_bk, turn_rt, turn_rto, turn_xc, sFor_eq, goL_nil, eq_self, sRaise, gT2, gT3, gT4, sAsgG, see_bl, see_int, see_non, see_tup, see_lst, see_str, uBinX, uUnX, uFnX, uFld, sFldU, uMeth, uMethO, uMake, uCatX, uRev, uMethN, uFrzI, uSlV, uM1, uOrS, uSlS, uSlW, uCatV, uPart, uNoPart, iStrU, k_colon, k_blank, k_line, k_f, k_s, k_0, k_empty, k_digits, k_abc, k_alpha, k_cue, k_from, k_to, k_at, k_two, k_fto, k_nl, k_a1, dAdd_tx, fLen_tx, fStr_nat, dEq_tx, dNe_tx, dEq_txn, dNe_txn, len_tx, cutS_l1, cutS_b1, cutS_ln, cutS_bn, dIx_tx0, *])
/-! ### moved -/
theorem dn_mulint {D : Nat} {a : Fr} (ha : Dn D a) (i : Int) : Dn D (fmul a (i, 1)) := by
  have := dn_mul ha (dn_int (D := 1) i)
  rw [Nat.mul_one] at this
  exact this
structure EndOk (e : Fr) : Prop where
  n : Nm e
  lo : 0 ≤ val e
  hi : val e ≤ 20000
def fnd (H l : Fr) : Fr := ls (gr l (0, 1)) H
theorem fnd_ok {H l : Fr} (hH : Nm H) (h0 : 0 ≤ val H) (hl : Nm l) : Nm (fnd H l) ∧ val (fnd H l) = clp (val H) (val l) ∧ 0 ≤ val (fnd H l) ∧ val (fnd H l) ≤ val H := by
  have g := gr_val (b := l) (a := (0, 1)) hl.p nm_01.p
  have gp : 0 < (gr l (0, 1)).2 := by unfold gr; split; exact nm_01.p; exact hl.p
  have k := ls_val (e := gr l (0, 1)) (h := H) gp hH.p
  have v : val (fnd H l) = clp (val H) (val l) := by
    show val (ls _ _) = _
    rw [k, g, v01]
    rfl
  have dg : Dn DM (gr l (0, 1)) := by
    unfold gr
    split
    · exact nm_01.d
    · exact hl.d
  have d : Dn DM (fnd H l) := by
    unfold fnd
    generalize gr l (0, 1) = G at *
    unfold ls
    split
    · exact hH.d
    · exact dg
  have b : 0 ≤ val (fnd H l) ∧ val (fnd H l) ≤ val H := by
    rw [v]
    unfold clp
    split <;> (try split) <;> constructor <;> grind
  exact ⟨⟨d, by have := hH.lo; grind, by have := hH.hi; grind⟩, v, b.1, b.2⟩
def xsOf (H : Fr) (ps : List (List Wn)) : List (Wn × Fr) := ps.flatMap fun p => p.map fun y => (y, fnd H (levF p))
theorem xs_fst (H : Fr) : ∀ ps, (xsOf H ps).map (·.1) = ps.flatten
  | [] => rfl
  | p :: ps => by
    have := xs_fst H ps
    unfold xsOf at this ⊢
    rw [List.flatMap_cons, List.map_append, this, List.map_map, List.flatten_cons]
    congr 1
    exact List.map_id'' (fun _ => rfl) p
theorem xs_snd (H : Fr) : ∀ ps, (xsOf H ps).map (·.2) = (levsF ps).map (fnd H)
  | [] => rfl
  | p :: ps => by
    have := xs_snd H ps
    unfold xsOf levsF at this ⊢
    rw [List.flatMap_cons, List.map_append, this, List.flatMap_cons, List.map_append, List.map_map, List.map_map]
    rfl
theorem lev_nm {p : List Wn} (hw : ∀ y ∈ p, WnOk y) (hn : p ≠ []) : Nm (levF p) := by
  obtain ⟨⟨x, hx, ex⟩, _⟩ := lev_ok hw hn
  rw [ex]
  exact (hw x hx).v
theorem xs_it {H : Fr} (hH : Nm H) (h0 : 0 ≤ val H) : ∀ ps : List (List Wn), (∀ p ∈ ps, ∀ y ∈ p, WnOk y) → (∀ p ∈ ps, p ≠ []) → (xsOf H ps).map itOf = flatP (val H) (ps.map gpL)
  | [], _, _ => rfl
  | p :: ps, h1, h2 => by
    have ih := xs_it hH h0 ps (fun q hq => h1 q (by simp [hq])) (fun q hq => h2 q (by simp [hq]))
    have := (fnd_ok hH h0 (lev_nm (h1 p (by simp)) (h2 p (by simp)))).2.1
    unfold xsOf at ih ⊢
    rw [List.flatMap_cons, List.map_append, ih, List.map_map, List.map_cons]
    show _ = (gpL p).1.map (fun x => (x, clp (val H) (gpL p).2)) ++ flatP (val H) (ps.map gpL)
    congr 1
    show _ = (p.map vN).map _
    rw [List.map_map]
    refine List.map_congr_left fun y _ => ?_
    show (vN y, val (fnd H (levF p))) = (vN y, clp (val H) (val (levF p)))
    rw [this]
theorem xs_ok {H : Fr} (hH : Nm H) (h0 : 0 ≤ val H) {ps : List (List Wn)} (h1 : ∀ p ∈ ps, ∀ y ∈ p, WnOk y) (h2 : ∀ p ∈ ps, p ≠ []) : ∀ x ∈ xsOf H ps, WnOk x.1 ∧ Nm x.2 ∧ 0 ≤ val x.2 ∧ val x.2 ≤ val H := by
  intro x hx
  unfold xsOf at hx
  obtain ⟨p, hp, hx⟩ := List.mem_flatMap.mp hx
  obtain ⟨y, hy, rfl⟩ := List.mem_map.mp hx
  obtain ⟨a, b, c, d⟩ := fnd_ok hH h0 (lev_nm (h1 p hp) (h2 p hp))
  exact ⟨h1 p hp y hy, a, c, d⟩
theorem pc_ok {om : Om} {w : Nat} {H : Fr} (hH : Nm H) (h0 : 0 ≤ val H) {ps : List (List Wn)} (hs : Stk (ps.map gpL)) (h1 : ∀ p ∈ ps, ∀ y ∈ p, WnOk y) (h2 : ∀ p ∈ ps, p ≠ []) (hn : ps ≠ []) (hl : ps.flatten.length ≤ 60) (hc : om[w]? = some (.lst (ps.flatten.map encN))) : ∃ l sp, PcOk om w (xsOf H ps) H l sp := by
  have hx := xs_ok hH h0 h1 h2
  have key := spans_ok (H := val H) h0 (ps.map gpL) (if ((xsOf H ps).map (·.2)).head? = some (0, 1) then ((0, none) : Sp) else (0, some 0)).1 (if ((xsOf H ps).map (·.2)).head? = some (0, 1) then ((0, none) : Sp) else (0, some 0)).2 hs (by split <;> exact Int.le_refl 0) (fun _ _ _ => by split <;> rfl) (fun m e => by
    split at e
    · cases e
    · cases e; exact Int.le_refl 0) (fun p hp ez => by
    rw [if_pos]
    match ps, hn, hs, h1, h2, hp with
    | q :: ps', hn, hs, h1, h2, hp =>
      have fq := fnd_ok hH h0 (lev_nm (h1 q (by simp)) (h2 q (by simp)))
      have qn := h2 q (by simp)
      have hd : ((xsOf H (q :: ps')).map (·.2)).head? = some (fnd H (levF q)) := by
        match q, qn with
        | y :: q', _ => rfl
      rw [hd]
      have : clp (val H) (val (levF q)) ≤ clp (val H) p.2 := by
        rw [List.map_cons] at hp hs
        rcases List.mem_cons.mp hp with rfl | hp
        · exact Rat.le_refl
        · have := (List.pairwise_cons.mp hs.2).1 p hp
          have this : val (levF q) ≤ p.2 := this
          unfold clp
          split <;> split <;> (try split) <;> (try split) <;> grind
      have z : val (fnd H (levF q)) = val (0, 1) := by rw [v01]; have := fq.2.1; have := fq.2.2.1; grind
      rw [cn_ext fq.1.d.cn nm_01.d.cn z])
  obtain ⟨l, hl2⟩ := Option.ne_none_iff_exists'.mp key
  refine ⟨l, _, ⟨by rw [xs_fst]; exact hc, fun x hm => ⟨(hx x hm).1, (hx x hm).2.1⟩, hH, fun z => ?_, ?_, by rw [xs_it hH h0 ps h1 h2]; exact hl2, rfl⟩⟩
  · match ps, hn with
    | q :: ps', _ =>
      have := congrArg (List.map (·.1)) z
      rw [xs_fst] at this
      have qn := h2 q (by simp)
      simp at this
      exact qn this.1
  · have := congrArg List.length (xs_fst H ps)
    rw [List.length_map] at this
    omega
/-- what it costs -/
def cst (x : Wn × Fr) : Fr := fmul (((fsub x.2 x.1.v).1.natAbs : Int), (fsub x.2 x.1.v).2) (x.1.w, 1)
def costF (xs : List (Wn × Fr)) : Fr := xs.foldl (fun a x => fsum a (cst x)) (0, 1)
theorem costF_app (xs : List (Wn × Fr)) (x : Wn × Fr) : costF (xs ++ [x]) = fsum (costF xs) (cst x) := by unfold costF; rw [List.foldl_append]; rfl
def rabs (q : Rat) : Rat := if q < 0 then -q else q
theorem val_abs {q : Fr} (h : 0 < q.2) : val ((q.1.natAbs : Int), q.2) = rabs (val q) := by
  unfold rabs
  by_cases c : q.1 < 0
  · have n : ((q.1.natAbs : Int)) = -q.1 := by omega
    have e : val (-q.1, q.2) = -val q := by
      unfold val
      rw [Rat.intCast_neg]
      simp only [Rat.div_def]
      grind
    have : val q < 0 := by
      have := (flt_iff h (b := (0, 1)) (by show (0 : Int) < 1; decide)).mp (by unfold flt; exact decide_eq_true (by show q.1 * 1 < 0 * q.2; omega))
      rw [v01] at this
      exact this
    rw [n, e, if_pos this]
  · have n : ((q.1.natAbs : Int)) = q.1 := by omega
    have : ¬ val q < 0 := by
      have := (flt_false h (b := (0, 1)) (by show (0 : Int) < 1; decide)).mp (by unfold flt; exact decide_eq_false (by show ¬ q.1 * 1 < 0 * q.2; omega))
      rw [v01] at this
      grind
    rw [n, if_neg this]
theorem cn_abs {q : Fr} (h : Cn q) : Cn ((q.1.natAbs : Int), q.2) := ⟨h.1, by
  have := h.2
  show Int.gcd (q.1.natAbs : Int) q.2 = 1
  unfold Int.gcd at this ⊢
  rw [Int.natAbs_natCast]
  exact this⟩
theorem dn_abs {D : Nat} {q : Fr} (h : Dn D q) : Dn D ((q.1.natAbs : Int), q.2) := by
  obtain ⟨z, hz⟩ := h.z
  refine ⟨cn_abs h.cn, ?_⟩
  rw [val_abs h.cn.1]
  unfold rabs
  split
  · exact ⟨-z, by rw [Rat.intCast_neg, ← hz]; grind⟩
  · exact ⟨z, hz⟩
structure XOk (x : Wn × Fr) : Prop where
  w : WnOk x.1
  f : Nm x.2
  a : -100000 ≤ val x.2 - val x.1.v
  b : val x.2 - val x.1.v ≤ 100000
theorem XOk.far {x : Wn × Fr} (h : XOk x) : Nm (fsub x.2 x.1.v) ∧ val (fsub x.2 x.1.v) = val x.2 - val x.1.v := by
  have v := val_sub h.f.p h.w.v.p
  exact ⟨⟨dn_sub h.f.d h.w.v.d, by rw [v]; have := h.a; grind, by rw [v]; have := h.b; grind⟩, v⟩
theorem XOk.abs {x : Wn × Fr} (h : XOk x) : Nm (((fsub x.2 x.1.v).1.natAbs : Int), (fsub x.2 x.1.v).2) ∧ val (((fsub x.2 x.1.v).1.natAbs : Int), (fsub x.2 x.1.v).2) = rabs (val x.2 - val x.1.v) := by
  obtain ⟨n, v⟩ := h.far
  have e := val_abs n.p
  rw [v] at e
  have := h.a
  have := h.b
  refine ⟨⟨dn_abs n.d, ?_, ?_⟩, e⟩ <;> rw [e] <;> unfold rabs <;> split <;> grind
theorem rat_w {w : Int} (h : 1 ≤ w ∧ w ≤ 9) : (1 : Rat) ≤ (w : Rat) ∧ (w : Rat) ≤ 9 := by
  have a : ((1 : Int) : Rat) ≤ (w : Rat) := Rat.intCast_le_intCast.mpr h.1
  have b : (w : Rat) ≤ ((9 : Int) : Rat) := Rat.intCast_le_intCast.mpr h.2
  exact ⟨a, b⟩
theorem XOk.cst {x : Wn × Fr} (h : XOk x) : Nm (cst x) ∧ val (cst x) = rabs (val x.2 - val x.1.v) * (x.1.w : Rat) ∧ 0 ≤ val (cst x) ∧ val (cst x) ≤ 900000 := by
  obtain ⟨n, v⟩ := h.abs
  have e : val (Dv.cst x) = rabs (val x.2 - val x.1.v) * (x.1.w : Rat) := by
    show val (fmul _ _) = _
    rw [val_mul n.p (cn_i _).1, v, v_int]
  obtain ⟨w1, w2⟩ := rat_w h.w.w
  have r : 0 ≤ rabs (val x.2 - val x.1.v) ∧ rabs (val x.2 - val x.1.v) ≤ 100000 := by
    have := h.a
    have := h.b
    unfold rabs
    split <;> constructor <;> grind
  have m0 := Rat.mul_nonneg r.1 (show (0 : Rat) ≤ (x.1.w : Rat) by grind)
  have m1 := Rat.mul_le_mul_of_nonneg_left w2 r.1
  have b : val (Dv.cst x) ≤ 900000 := by rw [e]; have := r.2; grind
  exact ⟨⟨dn_mulint n.d _, by rw [e]; grind, by grind⟩, e, by rw [e]; exact m0, b⟩
theorem cost_ok : ∀ xs : List (Wn × Fr), (∀ x ∈ xs, XOk x) → Dn DM (costF xs) ∧ 0 ≤ val (costF xs) ∧ val (costF xs) ≤ 900000 * (xs.length : Rat) ∧ val (costF xs) = (xs.map fun x => rabs (val x.2 - val x.1.v) * (x.1.w : Rat)).sum := by
  refine snoc_ind (fun _ => ⟨nm_01.d, by show 0 ≤ val (0, 1); rw [v01]; exact Rat.le_refl, by show val (0, 1) ≤ 900000 * ((0 : Nat) : Rat); rw [v01]; have : ((0 : Nat) : Rat) = 0 := rfl; rw [this]; grind, by show val (0, 1) = _; rw [v01]; rfl⟩) fun xs x ih h => ?_
  obtain ⟨a, b, c, d⟩ := ih fun y hy => h y (by simp [hy])
  obtain ⟨k1, k2, k3, k4⟩ := (h x (by simp)).cst
  have v := val_sum a.cn.1 k1.p
  rw [costF_app]
  refine ⟨dn_sum a k1.d, by rw [v]; grind, ?_, ?_⟩
  · rw [v, List.length_append]
    show _ ≤ 900000 * ((xs.length + 1 : Nat) : Rat)
    rw [natCast_succ]
    grind
  · rw [v, d, k2, List.map_append, List.sum_append]
    show _ = _ + (rabs (val x.2 - val x.1.v) * (x.1.w : Rat) + 0)
    grind
theorem cost_nm {xs : List (Wn × Fr)} (h : ∀ x ∈ xs, XOk x) (hl : xs.length ≤ 60) : Nm (costF xs) := by
  obtain ⟨a, b, c, _⟩ := cost_ok xs h
  have := natCast_le hl
  have e : ((60 : Nat) : Rat) = 60 := rfl
  rw [e] at this
  exact ⟨a, by grind, by grind⟩
theorem cost_turn {w : Nat} {xs : List (Wn × Fr)} (om : Om) (hc : om[w]? = some (.lst ((xs.map (·.1)).map encN))) (h : ∀ x ∈ xs, XOk x) (hl : xs.length ≤ 60) (x0 x1 x2 x3 x5 x7 x10 x11 x12 x13 : Option Sl) {k : Nat} (hk : k < xs.length) : ∃ y12, m_cost [x0, x1, x2, x3, some (.val (.loc w)), x5, some (.val (.int (k : Int))), x7, some (.val (.lst ((xs.map (·.2)).map encF))), some (.val (encF (costF (xs.take k)))), x10, x11, x12, x13] om =
    .nx [x0, x1, x2, x3, some (.val (.loc w)), x5, some (.val (.int (k : Int))), x7, some (.val (.lst ((xs.map (·.2)).map encF))), some (.val (encF (costF (xs.take (k + 1))))), x10, x11, y12, x13] om := by
  obtain ⟨X, hx⟩ : ∃ X, xs[k]? = some X := ⟨_, List.getElem?_eq_getElem hk⟩
  have xo := h X (List.mem_of_getElem? hx)
  have et : xs.take (k + 1) = xs.take k ++ [X] := by rw [List.take_succ, hx]; rfl
  rw [et, costF_app]
  have cn := cost_nm (xs := xs.take k) (fun y hy => h y (List.mem_of_mem_take hy)) (by rw [List.length_take]; omega)
  have e1 := less_eq om xo.f.bd xo.w.v.bd (by decide)
  have w9 : Bd 10 ((X.1.w, 1) : Fr) := ⟨show (0 : Int) < 1 by decide, by
    show X.1.w.natAbs < 2 ^ 10
    have := xo.w.w
    have e : (2 : Nat) ^ 10 = 1024 := by decide
    omega, show (1 : Int).natAbs < 2 ^ 10 by decide⟩
  have e2 := timed_eq om xo.abs.1.bd w9 (by decide)
  have e3 := added_eq om cn.bd xo.cst.1.bd (by decide)
  have a1 : atN ((xs.map (·.2)).map encF) (k : Int) = some (encF X.2) := atN_nat (by rw [List.getElem?_map, List.getElem?_map, hx]; rfl)
  have a2 : atN ((xs.map (·.1)).map encN) (k : Int) = some (encN X.1) := atN_nat (by rw [List.getElem?_map, List.getElem?_map, hx]; rfl)
  unfold cst at e3 ⊢
  refine ⟨some (.val (encF (fsub X.2 X.1.v))), ?_⟩
  clear h hl hk hx xo et cn w9
  unfold m_cost
  generalize (xs.map (·.1)).map encN = Z1 at *
  generalize (xs.map (·.2)).map encF = Z2 at *
  generalize costF (xs.take k) = C at *
  generalize fsub X.2 X.1.v = FV at *
  have ab : (FV.1.natAbs : Int) = if FV.1 < 0 then -FV.1 else FV.1 := by split <;> omega
  rw [ab] at e2 e3 ⊢
  clear ab
  generalize (k : Int) = KK at *
  walk_at "evx"
/-- the times -/
def tmK (xs : List (Wn × Fr)) (gs : List Fr) (k : Nat) : Fr := fsum ((xs.map (·.2)).getD k (0, 1)) (shK gs k)
def tmL (xs : List (Wn × Fr)) (gs : List Fr) (n : Nat) : List Fr := (List.range n).map (tmK xs gs)
theorem time_turn {xs : List (Wn × Fr)} {gs : List Fr} (om : Om) (h : ∀ x ∈ xs, Nm x.2) (g1 : ∀ g ∈ gs, GapOk g) (g2 : gs.length + 1 = xs.length) (hl : xs.length ≤ 60) (x0 x1 x2 x4 x7 x9 x10 x12 x13 : Option Sl) {k : Nat} (hk : k < xs.length) :
    m_time [x0, x1, x2, some (.val (.lst (gs.map encF))), x4, some (.val (encF (shK gs (k - 1)))), some (.val (.int (k : Int))), x7, some (.val (.lst ((xs.map (·.2)).map encF))), x9, x10, some (.own ((tmL xs gs k).map encF)), x12, x13] om =
    .nx [x0, x1, x2, some (.val (.lst (gs.map encF))), x4, some (.val (encF (shK gs k))), some (.val (.int (k : Int))), x7, some (.val (.lst ((xs.map (·.2)).map encF))), x9, x10, some (.own ((tmL xs gs (k + 1)).map encF)), x12, x13] om := by
  obtain ⟨X, hx⟩ : ∃ X, xs[k]? = some X := ⟨_, List.getElem?_eq_getElem hk⟩
  have xo := h X (List.mem_of_getElem? hx)
  have gl : gs.length ≤ 60 := by omega
  have sk := sh_nm g1 gl (k := k) (by omega)
  have sk1 := sh_nm g1 gl (k := k - 1) (by omega)
  have e2 : tmL xs gs (k + 1) = tmL xs gs k ++ [tmK xs gs k] := by unfold tmL; rw [List.range_succ, List.map_append]; rfl
  have ap := app_D encF (d := tmL xs gs k) (tmK xs gs k) (by unfold tmL; rw [List.length_map, List.length_range]; omega)
  rw [← e2] at ap
  have a1 : atN ((xs.map (·.2)).map encF) (k : Int) = some (encF X.2) := atN_nat (by rw [List.getElem?_map, List.getElem?_map, hx]; rfl)
  have e1 := added_eq om xo.bd sk.bd (by decide)
  have tv : tmK xs gs k = fsum X.2 (shK gs k) := by
    unfold tmK
    rw [List.getD_eq_getElem?_getD, List.getElem?_map, hx]
    rfl
  rw [tv] at ap
  by_cases c : k = 0
  · subst c
    have d0 : decide (0 < ((0 : Nat) : Int)) = false := rfl
    have s0 : shK gs (0 - 1) = shK gs 0 := rfl
    rw [s0]
    clear h g1 g2 hl hk hx xo gl sk sk1 e2 tv s0
    unfold m_time
    generalize (xs.map (·.2)).map encF = X1 at *
    generalize gs.map encF = Y at *
    generalize (tmL xs gs (0 + 1)).map encF = Z1 at *
    generalize (tmL xs gs 0).map encF = Z2 at *
    generalize shK gs 0 = SH at *
    generalize ((0 : Nat) : Int) = K0 at *
    walk_at "evx"
  · have d0 : decide (0 < (k : Int)) = true := decide_eq_true (by omega)
    have gk : k - 1 < gs.length := by omega
    have a3 : atN (gs.map encF) ((k : Int) - 1) = some (encF gs[k - 1]) := by
      have : ((k : Int) - 1) = ((k - 1 : Nat) : Int) := by omega
      rw [this]
      exact atN_nat (by rw [List.getElem?_map, List.getElem?_eq_getElem gk]; rfl)
    have e3 := added_eq om sk1.bd (g1 _ (List.getElem_mem gk)).n.bd (by decide)
    have sv : fsum (shK gs (k - 1)) gs[k - 1] = shK gs k := by
      obtain ⟨j, rfl⟩ : ∃ j, k = j + 1 := ⟨k - 1, by omega⟩
      show _ = fsum (shK gs j) (gs.getD j (0, 1))
      have jl : j < gs.length := by omega
      have : gs.getD j (0, 1) = gs[j] := by rw [List.getD_eq_getElem?_getD, List.getElem?_eq_getElem jl]; rfl
      rw [this]
      rfl
    rw [sv] at e3
    generalize gs[k - 1] = GK at *
    clear h g1 g2 hl hk hx xo gl sk sk1 e2 tv sv gk c
    unfold m_time
    generalize (xs.map (·.2)).map encF = X1 at *
    generalize gs.map encF = Y at *
    generalize (tmL xs gs (k + 1)).map encF = Z1 at *
    generalize (tmL xs gs k).map encF = Z2 at *
    generalize shK gs k = SH at *
    generalize shK gs (k - 1) = SH1 at *
    generalize (k : Int) = KK at *
    walk_at "evx"
end Dv

namespace Dv
open PySem PySem.Spec PyProof.Rows L2
local macro_rules | `(tactic| walk_at "ev") => `(tactic| try simp (disch := omega) only [sSeq_eq, seq_nx, seq_rt, seq_rto, seq_xc, seq_bk, seq_ct, seq_ite, sAsg, sAsgO, sExpr, sRet, sRetO, sRetN, sIf, sNext, uVar, uC, uUn, uBin, uB, uNot, uAnd, uOr, uTV, uAndV, uOrV, uNotV, uIf, uChain, uNil, uCons, uTup, uLst, uLstO, uFn, uFnO, uFz, uMv, uNew, uCall, uCallO, uCallN, uBinV, uBinW, uBinL, uMeO, uMeL, uFnV, sSetL, sAsgG, gN, gT2, gT3, gT4, iLst, iFn,   bind_ok, bind_xc, of_ok, of_xc, res_ok, res_xc, res0_ok, own_ok, own_xc, fr_nx, fr_rt, fr_rto, fr_xc, fo_rto, fo_xc, liftO_some, dBool_bl, items_lst, items_frz, ent, defU, defO, List.map_cons, List.map_nil, List.length_cons, List.length_nil, List.cons_append, List.nil_append, List.append_nil, List.replicate, List.getElem?_cons_zero, List.getElem?_cons_succ, List.set_cons_zero, List.set_cons_succ, Nat.zero_add, Nat.reduceAdd, Nat.reduceSub, Nat.reduceLeDiff,   le_big, lt_big, atN_zero, atN_one, atN_two, atN_three, setN_zero, setN_one, popAt_zero, len_zero, len_succ, dMul_r, dMul_l, dDiv_pos, dMod_pos, dAdd_int, dSub_int, dNeg_int, dLt_int, dLe_int, dGt_int, dGe_int, dEq_int, dNe_int, dEq_bl, dNe_bl, dEq_nil, dNe_nil, dIx_lst, dIx_tup, fAbs_int, fInt_bl, fInt_int, fLen_lst, fLen_frz, fLen_tup, ite_true, ite_false, if_true, if_false, Bool.not_true, Bool.not_false, decide_true, decide_false, Bool.true_eq_false, Bool.false_eq_true, reduceIte, reduceCtorEq, turn_nx, turn_ct, turn_bk, turn_rt, turn_rto, turn_xc, sFor_eq, goL_nil, eq_self])
local macro_rules | `(tactic| walk_at "evs") => `(tactic| try simp (disch := omega) only [sSeq_eq, seq_nx, seq_rt, seq_rto, seq_xc, seq_bk, seq_ct, seq_ite, sAsg, sAsgO, sExpr, sRet, sRetO, sRetN, sIf, sNext, uVar, uC, uUn, uBin, uB, uNot, uAnd, uOr, uTV, uAndV, uOrV, uNotV, uIf, uChain, uNil, uCons, uTup, uLst, uLstO, uFn, uFnO, uFz, uMv, uNew, uCall, uCallO, uCallN, uBinV, uBinW, uBinL, uMeO, uMeL, uFnV, sSetL, sAsgG, gN, gT2, gT3, gT4, iLst, iFn,   bind_ok, bind_xc, of_ok, of_xc, res_ok, res_xc, res0_ok, own_ok, own_xc, fr_nx, fr_rt, fr_rto, fr_xc, fo_rto, fo_xc, liftO_some, dBool_bl, items_lst, items_frz, ent, defU, defO, List.map_cons, List.map_nil, List.length_cons, List.length_nil, List.cons_append, List.nil_append, List.append_nil, List.replicate, List.getElem?_cons_zero, List.getElem?_cons_succ, List.set_cons_zero, List.set_cons_succ, Nat.zero_add, Nat.reduceAdd, Nat.reduceSub, Nat.reduceLeDiff,   le_big, lt_big, atN_zero, atN_one, atN_two, atN_three, setN_zero, setN_one, popAt_zero, len_zero, len_succ, dMul_r, dMul_l, dDiv_pos, dMod_pos, dAdd_int, dSub_int, dNeg_int, dLt_int, dLe_int, dGt_int, dGe_int, dEq_int, dNe_int, dEq_bl, dNe_bl, dEq_nil, dNe_nil, dIx_lst, dIx_tup, fAbs_int, fInt_bl, fInt_int, fLen_lst, fLen_frz, fLen_tup, ite_true, ite_false, if_true, if_false, Bool.not_true, Bool.not_false, decide_true, decide_false, Bool.true_eq_false, Bool.false_eq_true, reduceIte, reduceCtorEq, turn_nx, turn_ct, turn_bk, turn_rt, turn_rto, turn_xc, sFor_eq, goL_nil, eq_self, *])
local macro_rules | `(tactic| walk_at "evt") => `(tactic| try simp (disch := first | omega | (simp only [List.length_append, List.length_cons, List.length_nil, List.length_map]; omega)) only [sSeq_eq, seq_nx, seq_rt, seq_rto, seq_xc, seq_bk, seq_ct, seq_ite, sAsg, sAsgO, sExpr, sRet, sRetO, sRetN, sIf, sNext, uVar, uC, uUn, uBin, uB, uNot, uAnd, uOr, uTV, uAndV, uOrV, uNotV, uIf, uChain, uNil, uCons, uTup, uLst, uLstO, uFn, uFnO, uFz, uMv, uNew, uCall, uCallO, uCallN, uBinV, uBinW, uBinL, uMeO, uMeL, uFnV, sSetL, sAsgG, gN, gT2, gT3, gT4, iLst, iFn,   bind_ok, bind_xc, of_ok, of_xc, res_ok, res_xc, res0_ok, own_ok, own_xc, fr_nx, fr_rt, fr_rto, fr_xc, fo_rto, fo_xc, liftO_some, dBool_bl, items_lst, items_frz, ent, defU, defO, List.map_cons, List.map_nil, List.length_cons, List.length_nil, List.cons_append, List.nil_append, List.append_nil, List.replicate, List.getElem?_cons_zero, List.getElem?_cons_succ, List.set_cons_zero, List.set_cons_succ, Nat.zero_add, Nat.reduceAdd, Nat.reduceSub, Nat.reduceLeDiff,   le_big, lt_big, atN_zero, atN_one, atN_two, atN_three, setN_zero, setN_one, popAt_zero, len_zero, len_succ, dMul_r, dMul_l, dDiv_pos, dMod_pos, dAdd_int, dSub_int, dNeg_int, dLt_int, dLe_int, dGt_int, dGe_int, dEq_int, dNe_int, dEq_bl, dNe_bl, dEq_nil, dNe_nil, dIx_lst, dIx_tup, fAbs_int, fInt_bl, fInt_int, fLen_lst, fLen_frz, fLen_tup, ite_true, ite_false, if_true, if_false, Bool.not_true, Bool.not_false, decide_true, decide_false, Bool.true_eq_false, Bool.false_eq_true, reduceIte, reduceCtorEq, turn_nx, turn_ct, turn_bk, turn_rt, turn_rto, turn_xc, sFor_eq, goL_nil, eq_self, sRaise, gT2, gT3, gT4, sAsgG, uM1, uOrS, uSlS, uSlW, uCatV, uPart, uNoPart, iStrU, k_colon, k_blank, k_line, k_f, k_s, k_0, k_empty, k_digits, k_abc, k_alpha, k_cue, k_from, k_to, k_at, k_two, k_fto, k_nl, k_a1, dAdd_tx, fLen_tx, fStr_nat, dEq_tx, dNe_tx, dEq_txn, dNe_txn, len_tx, cutS_l1, cutS_b1, cutS_ln, cutS_bn, dIx_tx0, *])
local macro_rules | `(tactic| walk_at "evx") => `(tactic| try simp (disch := first | omega | (simp only [List.length_append, List.length_cons, List.length_nil, List.length_map]; omega)) only [sSeq_eq, seq_nx, seq_rt, seq_rto, seq_xc, seq_bk, seq_ct, seq_ite, sAsg, sAsgO, sExpr, sRet, sRetO, sRetN, sIf, sNext, uVar, uC, uUn, uBin, uB, uNot, uAnd, uOr, uTV, uAndV, uOrV, uNotV, uIf, uChain, uNil, uCons, uTup, uLst, uLstO, uFn, uFnO, uFz, uMv, uNew, uCall, uCallO, uCallN, uBinV, uBinW, uBinL, uMeO, uMeL, uFnV, sSetL, sAsgG, gN, gT2, gT3, gT4, iLst, iFn,   bind_ok, bind_xc, of_ok, of_xc, res_ok, res_xc, res0_ok, own_ok, own_xc, fr_nx, fr_rt, fr_rto, fr_xc, fo_rto, fo_xc, liftO_some, dBool_bl, items_lst, items_frz, ent, defU, defO, List.map_cons, List.map_nil, List.length_cons, List.length_nil, List.cons_append, List.nil_append, List.append_nil, List.replicate, List.getElem?_cons_zero, List.getElem?_cons_succ, List.set_cons_zero, List.set_cons_succ, Nat.zero_add, Nat.reduceAdd, Nat.reduceSub, Nat.reduceLeDiff,   le_big, lt_big, atN_zero, atN_one, atN_two, atN_three, setN_zero, setN_one, popAt_zero, len_zero, len_succ, dMul_r, dMul_l, dDiv_pos, dMod_pos, dAdd_int, dSub_int, dNeg_int, dLt_int, dLe_int, dGt_int, dGe_int, dEq_int, dNe_int, dEq_bl, dNe_bl, dEq_nil, dNe_nil, dIx_lst, dIx_tup, fAbs_int, fInt_bl, fInt_int, fLen_lst, fLen_frz, fLen_tup, ite_true, ite_false, if_true, if_false, Bool.not_true, Bool.not_false, decide_true, decide_false, Bool.true_eq_false, Bool.false_eq_true, reduceIte, reduceCtorEq, turn_nx, turn_ct, turn_bk, turn_rt, turn_rto, turn_xc, sFor_eq, goL_nil, eq_self, sRaise, gT2, gT3, gT4, sAsgG, see_bl, see_int, see_non, see_tup, see_lst, see_str, uBinX, uUnX, uFnX, uFld, sFldU, uMeth, uMethO, uMake, uCatX, uRev, uMethN, uFrzI, uSlV, uM1, uOrS, uSlS, uSlW, uCatV, uPart, uNoPart, iStrU, k_colon, k_blank, k_line, k_f, k_s, k_0, k_empty, k_digits, k_abc, k_alpha, k_cue, k_from, k_to, k_at, k_two, k_fto, k_nl, k_a1, dAdd_tx, fLen_tx, fStr_nat, dEq_tx, dNe_tx, dEq_txn, dNe_txn, len_tx, cutS_l1, cutS_b1, cutS_ln, cutS_bn, dIx_tx0, *])
/-! ### moved, the whole -/
section
variable {u : Ru} {rows : List Rr} {gs : List Fr} {N : Nat} (m : MvIn u rows gs N)
include m
theorem want_loop (om0 : Om) (x2 x7 x8 x9 x10 x11 x12 x13 : Option Sl) : ∃ x6, goL (gN 6) m_want (rngN 0 N) [some (.val (.lst (rows.map encR))), some (.val (encU u)), x2, some (.val (.lst (gs.map encF))), some (.val (.loc om0.length)), some (.val (encF (0, 1))), none, x7, x8, x9, x10, x11, x12, x13] (om0 ++ [.lst []]) =
    .nx [some (.val (.lst (rows.map encR))), some (.val (encU u)), x2, some (.val (.lst (gs.map encF))), some (.val (.loc om0.length)), some (.val (encF (shK gs (N - 1)))), x6, x7, x8, x9, x10, x11, x12, x13] (om0 ++ [.lst ((wnL u rows gs N).map encN)]) := by
  obtain ⟨ρ1, om1, q, x6, z1, z2⟩ := goL_range (i := 6) (body := m_want) (fun k ρ om => ∃ x6, ρ = [some (.val (.lst (rows.map encR))), some (.val (encU u)), x2, some (.val (.lst (gs.map encF))), some (.val (.loc om0.length)), some (.val (encF (shK gs (k - 1)))), x6, x7, x8, x9, x10, x11, x12, x13] ∧ om = om0 ++ [.lst ((wnL u rows gs k).map encN)]) N (ρ := [some (.val (.lst (rows.map encR))), some (.val (encU u)), x2, some (.val (.lst (gs.map encF))), some (.val (.loc om0.length)), some (.val (encF (0, 1))), none, x7, x8, x9, x10, x11, x12, x13]) (om := om0 ++ [.lst []]) ⟨none, rfl, rfl⟩ (fun k ρ om hk ⟨x6, z1, z2⟩ => by
    subst z1 z2
    exact ⟨_, _, want_turn m om0 x2 x7 x8 x9 x10 x11 x12 x13 hk, _, rfl, rfl⟩)
  rw [z1, z2] at q
  exact ⟨x6, q⟩
theorem wnL_ok : ∀ y ∈ wnL u rows gs N, WnOk y := by
  intro y hy
  unfold wnL at hy
  obtain ⟨k, hk, rfl⟩ := List.mem_map.mp hy
  exact (mv_wn m (List.mem_range.mp hk)).1
end
theorem found_eq {om om' : Om} {w : Nat} {ls' : List Fr} {H : Fr} (hH : Nm H) (hn : ∀ l ∈ ls', Nm l) (hl : ls'.length ≤ 60) (e : S_levels [.loc w] om = .ok (.lst (ls'.map encF)) om') (x0 x1 x2 x3 x5 x6 x8 x9 x10 x11 x12 : Option Sl) :
    m_found [x0, x1, x2, x3, some (.val (.loc w)), x5, x6, some (.val (encF H)), x8, x9, x10, x11, x12, none] om = .ok (.lst ((ls'.map (fnd H)).map encF)) [x0, x1, x2, x3, some (.val (.loc w)), x5, x6, some (.val (encF H)), x8, x9, x10, x11, x12, none] om' := by
  have g := goC_map (te := uCallN 2 S_lesser (uCons (uCallN 2 S_greater (uCons (uVar 13) (uCons (uC (.tup [.int 0, .int 1])) uNil))) (uCons (uVar 7) uNil))) (i := 13) (ω := om') (ρ := [x0, x1, x2, x3, some (.val (.loc w)), x5, x6, some (.val (encF H)), x8, x9, x10, x11, x12, none]) (fun d => match d with | .tup [.int a, .int b] => encF (fnd H (a, b)) | _ => .non) (ls'.map encF) [] (fun d hd => by
    obtain ⟨l, hl', rfl⟩ := List.mem_map.mp hd
    have nl := hn l hl'
    have e1 := greater_eq om' (b := l) (a := (0, 1)) (nl.bd.mono (by decide)) (nm_01.bd.mono (by decide))
    have gd : Nm (gr l (0, 1)) := by unfold gr; split; exact nm_01; exact nl
    have e2 := lesser_eq om' (e := gr l (0, 1)) (h := H) (gd.bd.mono (by decide)) (hH.bd.mono (by decide))
    show _ = Res.ok (encF (fnd H l)) _ _
    unfold fnd
    clear hn hl hd hl' nl gd hH e
    generalize gr l (0, 1) = G at *
    generalize ls G H = G2 at *
    simp only [List.set_cons_succ, List.set_cons_zero]
    walk_at "evx") (by rw [List.length_map, List.length_nil, Nat.zero_add]; exact Nat.le_trans (show ls'.length ≤ 1000 by omega) (by decide))
  rw [List.nil_append, List.map_map] at g
  have em : ls'.map ((fun d => match d with | .tup [.int a, .int b] => encF (fnd H (a, b)) | _ => D.non) ∘ encF) = (ls'.map (fnd H)).map encF := by
    rw [List.map_map]
    rfl
  rw [em] at g
  clear em hn hl hH
  unfold m_found uLc
  simp only [clrs, List.set_cons_succ, List.set_cons_zero] at *
  generalize (ls'.map (fnd H)).map encF = Y at *
  generalize ls'.map encF = X at *
  generalize (uCallN 2 S_lesser (uCons (uCallN 2 S_greater (uCons (uVar 13) (uCons (uC (.tup [.int 0, .int 1])) uNil))) (uCons (uVar 7) uNil))) = TE at *
  walk_at "evx"
theorem cost_loop {w : Nat} {xs : List (Wn × Fr)} (om : Om) (hc : om[w]? = some (.lst ((xs.map (·.1)).map encN))) (h : ∀ x ∈ xs, XOk x) (hl : xs.length ≤ 60) (x0 x1 x2 x3 x5 x6 x7 x10 x11 x13 : Option Sl) : ∃ y6 y12, goL (gN 6) m_cost (rngN 0 xs.length) [x0, x1, x2, x3, some (.val (.loc w)), x5, x6, x7, some (.val (.lst ((xs.map (·.2)).map encF))), some (.val (encF (0, 1))), x10, x11, none, x13] om =
    .nx [x0, x1, x2, x3, some (.val (.loc w)), x5, y6, x7, some (.val (.lst ((xs.map (·.2)).map encF))), some (.val (encF (costF xs))), x10, x11, y12, x13] om := by
  obtain ⟨ρ1, om1, q, y6, y12, z1, z2⟩ := goL_range (i := 6) (body := m_cost) (fun k ρ om' => ∃ y6 y12, ρ = [x0, x1, x2, x3, some (.val (.loc w)), x5, y6, x7, some (.val (.lst ((xs.map (·.2)).map encF))), some (.val (encF (costF (xs.take k)))), x10, x11, y12, x13] ∧ om' = om) xs.length (ρ := [x0, x1, x2, x3, some (.val (.loc w)), x5, x6, x7, some (.val (.lst ((xs.map (·.2)).map encF))), some (.val (encF (0, 1))), x10, x11, none, x13]) (om := om) ⟨x6, none, rfl, rfl⟩ (fun k ρ om' hk ⟨y6, y12, z1, z2⟩ => by
    subst z1 z2
    obtain ⟨z12, t⟩ := cost_turn om' hc h hl x0 x1 x2 x3 x5 x7 x10 x11 y12 x13 hk
    exact ⟨_, _, t, _, z12, rfl, rfl⟩)
  rw [z1, z2, List.take_length] at q
  exact ⟨y6, y12, q⟩
theorem time_loop {xs : List (Wn × Fr)} {gs : List Fr} (om : Om) (h : ∀ x ∈ xs, Nm x.2) (g1 : ∀ g ∈ gs, GapOk g) (g2 : gs.length + 1 = xs.length) (hl : xs.length ≤ 60) (x0 x1 x2 x4 x6 x7 x9 x10 x12 x13 : Option Sl) : ∃ y6, goL (gN 6) m_time (rngN 0 xs.length) [x0, x1, x2, some (.val (.lst (gs.map encF))), x4, some (.val (encF (0, 1))), x6, x7, some (.val (.lst ((xs.map (·.2)).map encF))), x9, x10, some (.own []), x12, x13] om =
    .nx [x0, x1, x2, some (.val (.lst (gs.map encF))), x4, some (.val (encF (shK gs (xs.length - 1)))), y6, x7, some (.val (.lst ((xs.map (·.2)).map encF))), x9, x10, some (.own ((tmL xs gs xs.length).map encF)), x12, x13] om := by
  obtain ⟨ρ1, om1, q, y6, z1, z2⟩ := goL_range (i := 6) (body := m_time) (fun k ρ om' => ∃ y6, ρ = [x0, x1, x2, some (.val (.lst (gs.map encF))), x4, some (.val (encF (shK gs (k - 1)))), y6, x7, some (.val (.lst ((xs.map (·.2)).map encF))), x9, x10, some (.own ((tmL xs gs k).map encF)), x12, x13] ∧ om' = om) xs.length (ρ := [x0, x1, x2, some (.val (.lst (gs.map encF))), x4, some (.val (encF (0, 1))), x6, x7, some (.val (.lst ((xs.map (·.2)).map encF))), x9, x10, some (.own []), x12, x13]) (om := om) ⟨x6, rfl, rfl⟩ (fun k ρ om' hk ⟨y6, z1, z2⟩ => by
    subst z1 z2
    exact ⟨_, _, time_turn om' h g1 g2 hl x0 x1 x2 x4 x7 x9 x10 x12 x13 hk, _, rfl, rfl⟩)
  rw [z1, z2] at q
  exact ⟨y6, q⟩
/-- pairs of times -/
def prL (xs : List (Wn × Fr)) (gs : List Fr) (n : Nat) : List D := (List.range n).map fun k => .tup [encF (tmK xs gs (2 * k)), encF (tmK xs gs (2 * k + 1))]
theorem pair_eq (om : Om) {xs : List (Wn × Fr)} {gs : List Fr} {n N : Nat} (hN : N = 2 * n) (hn : n ≤ 30) (x0 x1 x2 x3 x4 x5 x7 x8 x9 x10 x12 x13 : Option Sl) :
    goC (gN 6) uYes m_pel [6] (rngN 0 n) [] [x0, x1, x2, x3, x4, x5, none, x7, x8, x9, x10, some (.own ((tmL xs gs N).map encF)), x12, x13] om = .ok (prL xs gs n) [x0, x1, x2, x3, x4, x5, none, x7, x8, x9, x10, some (.own ((tmL xs gs N).map encF)), x12, x13] om := by
  have g := goC_map (te := m_pel) (i := 6) (ω := om) (ρ := [x0, x1, x2, x3, x4, x5, none, x7, x8, x9, x10, some (.own ((tmL xs gs N).map encF)), x12, x13]) (fun d => match d with | .int k => .tup [encF (tmK xs gs (2 * k.toNat)), encF (tmK xs gs (2 * k.toNat + 1))] | _ => .non) (rngN 0 n) [] (fun d hd => by
    unfold rngN at hd
    obtain ⟨k, hk, rfl⟩ := List.mem_map.mp hd
    have hk := List.mem_range.mp hk
    have a1 : atN ((tmL xs gs N).map encF) (2 * (0 + (k : Int))) = some (encF (tmK xs gs (2 * k))) := by
      have : (2 * (0 + (k : Int))) = ((2 * k : Nat) : Int) := by omega
      rw [this]
      refine atN_nat ?_
      unfold tmL
      rw [List.getElem?_map, List.getElem?_map, List.getElem?_range (by omega)]
      rfl
    have a2 : atN ((tmL xs gs N).map encF) (2 * (0 + (k : Int)) + 1) = some (encF (tmK xs gs (2 * k + 1))) := by
      have : (2 * (0 + (k : Int)) + 1) = ((2 * k + 1 : Nat) : Int) := by omega
      rw [this]
      refine atN_nat ?_
      unfold tmL
      rw [List.getElem?_map, List.getElem?_map, List.getElem?_range (by omega)]
      rfl
    have tn : (0 + (k : Int)).toNat = k := by omega
    show _ = Res.ok (D.tup [encF (tmK xs gs (2 * (0 + (k : Int)).toNat)), encF (tmK xs gs (2 * (0 + (k : Int)).toNat + 1))]) _ _
    rw [tn]
    clear hd hk tn
    simp only [List.set_cons_succ, List.set_cons_zero]
    generalize (tmL xs gs N).map encF = TL at *
    generalize tmK xs gs (2 * k) = T1 at *
    generalize tmK xs gs (2 * k + 1) = T2 at *
    generalize (0 + (k : Int)) = KK at *
    unfold m_pel
    walk_at "evx") (by unfold rngN; rw [List.length_map, List.length_range, List.length_nil, Nat.zero_add]; exact Nat.le_trans (show n ≤ 1000 by omega) (by decide))
  rw [List.nil_append] at g
  simp only [List.set_cons_succ, List.set_cons_zero] at g
  rw [g]
  congr 1
  unfold rngN prL
  rw [List.map_map]
  refine List.map_congr_left fun k _ => ?_
  show D.tup [encF (tmK xs gs (2 * (0 + (k : Int)).toNat)), encF (tmK xs gs (2 * (0 + (k : Int)).toNat + 1))] = _
  have : (0 + (k : Int)).toNat = k := by omega
  rw [this]
structure MvOut (u : Ru) (rows : List Rr) (gs : List Fr) (N : Nat) (e : Fr) (xs : List (Wn × Fr)) (p : Int) (qs : List Int) : Prop where
  l : xs.length = N
  w : xs.map (·.1) = wnL u rows gs N
  ok : ∀ x ∈ xs, XOk x ∧ 0 ≤ val x.2 ∧ val x.2 ≤ val e - val (shK gs (N - 1))
  p0 : 0 ≤ p
  pz : (xs.map (·.2)).head? ≠ some (0, 1) → p = 0
  pr : PrR (xs.map itOf) p qs (val e - val (shK gs (N - 1)))
  ql : qs.length = N
  pb : ∀ y ∈ p :: qs, 0 ≤ y ∧ y ≤ 800
  so : (xs.map (·.2)).Pairwise fun a b => val a ≤ val b
  dt : xs = xsOf (fsub e (shK gs (N - 1))) (pavaF (wnL u rows gs N))
section
variable {u : Ru} {rows : List Rr} {gs : List Fr} {N : Nat} (m : MvIn u rows gs N)
include m
theorem high_ok {e : Fr} (he : EndOk e) (hf : flt e (shK gs (N - 1)) = false) : Nm (fsub e (shK gs (N - 1))) ∧ val (fsub e (shK gs (N - 1))) = val e - val (shK gs (N - 1)) ∧ 0 ≤ val (fsub e (shK gs (N - 1))) ∧ val (fsub e (shK gs (N - 1))) ≤ 20000 := by
  obtain ⟨g1, g2⟩ := mv_gs m
  obtain ⟨_, s1, s2, s3⟩ := sh_ok g1 (N - 1) (by omega)
  have v := val_sub he.n.p s1.cn.1
  have f := (flt_false he.n.p s1.cn.1).mp hf
  have := he.hi
  exact ⟨⟨dn_sub he.n.d s1, by rw [v]; grind, by rw [v]; grind⟩, v, by rw [v]; grind, by rw [v]; grind⟩
theorem flat_sorted {H : Rat} : ∀ ps : List (List Wt × Rat), ps.Pairwise (fun p q => p.2 ≤ q.2) → ((flatP H ps).map (·.2)).Pairwise fun a b => a ≤ b := by
  clear m
  intro ps
  induction ps with
  | nil => intro _; exact List.Pairwise.nil
  | cons p ps ih =>
    intro h
    obtain ⟨h1, h2⟩ := List.pairwise_cons.mp h
    show ((p.1.map (fun x => (x, clp H p.2)) ++ flatP H ps).map (·.2)).Pairwise _
    rw [List.map_append, List.map_map]
    refine List.pairwise_append.mpr ⟨?_, ih h2, fun a ha b hb => ?_⟩
    · refine List.pairwise_of_forall_mem_list fun a ha b hb => ?_
      obtain ⟨_, _, rfl⟩ := List.mem_map.mp ha
      obtain ⟨_, _, rfl⟩ := List.mem_map.mp hb
      exact Rat.le_refl
    · obtain ⟨_, _, rfl⟩ := List.mem_map.mp ha
      have key : ∀ ps : List (List Wt × Rat), (∀ q ∈ ps, p.2 ≤ q.2) → ∀ b ∈ (flatP H ps).map (·.2), clp H p.2 ≤ b := by
        intro ps
        induction ps with
        | nil => intro _ b hb; simp [flatP] at hb
        | cons q ps ih =>
          intro h b hb
          have e : flatP H (q :: ps) = q.1.map (fun x => (x, clp H q.2)) ++ flatP H ps := rfl
          rw [e, List.map_append] at hb
          rcases List.mem_append.mp hb with hb | hb
          · rw [List.map_map] at hb
            obtain ⟨_, _, rfl⟩ := List.mem_map.mp hb
            have := h q (by simp)
            show clp H p.2 ≤ clp H q.2
            unfold clp
            split <;> split <;> (try split) <;> (try split) <;> grind
          · exact ih (fun q hq => h q (by simp [hq])) b hb
      exact key ps h1 b hb
/-- what the walk leaves -/
theorem moved_core (om : Om) {e : Fr} (he : EndOk e) (hf : flt e (shK gs (N - 1)) = false) : ∃ (xs : List (Wn × Fr)) (p : Int) (qs : List Int) (ps : List (List Wn)) (ex : Om), MvOut u rows gs N e xs p qs ∧
    S_levels [.loc om.length] (om ++ [.lst ((wnL u rows gs N).map encN)]) = .ok (.lst ((levsF ps).map encF)) (om ++ [.lst ((wnL u rows gs N).map encN)] ++ ex) ∧ (levsF ps).map (fnd (fsub e (shK gs (N - 1)))) = xs.map (·.2) ∧ (∀ l ∈ levsF ps, Nm l) ∧ (levsF ps).length ≤ 60 ∧
    S_prices [.loc om.length, .lst ((xs.map (·.2)).map encF), encF (0, 1), encF (fsub e (shK gs (N - 1)))] (om ++ [.lst ((wnL u rows gs N).map encN)] ++ ex) = .ok (.lst ((p :: qs).map D.int)) (om ++ [.lst ((wnL u rows gs N).map encN)] ++ ex) := by
  have hl := wnL_ok m
  have ll : (wnL u rows gs N).length = N := by unfold wnL; rw [List.length_map, List.length_range]
  have nn : N ≤ 40 ∧ 0 < N := by have := m.n; have := m.l; have := m.p; omega
  obtain ⟨ps, ex, e1, e2, e3, e4, e5, e6⟩ := levels_eq (om ++ [.lst ((wnL u rows gs N).map encN)]) (get_end _ _) hl (by omega)
  obtain ⟨hn, hv, h0, h1⟩ := high_ok m he hf
  have pn : ps ≠ [] := fun z => by
    rw [z] at e2
    have := congrArg List.length e2
    rw [ll] at this
    simp at this
    omega
  have cl : (om ++ [.lst ((wnL u rows gs N).map encN)] ++ ex)[om.length]? = some (.lst (ps.flatten.map encN)) := by
    rw [e2, List.getElem?_append_left (by simp), get_end]
  obtain ⟨l, sp, pc⟩ := pc_ok hn h0 e3 e4 e5 pn (by rw [e2, ll]; omega) cl
  obtain ⟨p, qs, r1, r2, r3, r4, r5, r6⟩ := prices_eq pc
  have xl : (xsOf (fsub e (shK gs (N - 1))) ps).length = N := by
    have := congrArg List.length (xs_fst (fsub e (shK gs (N - 1))) ps)
    rw [List.length_map, e2, ll] at this
    exact this
  have xk := xs_ok hn h0 e4 e5
  have xw : (xsOf (fsub e (shK gs (N - 1))) ps).map (·.1) = wnL u rows gs N := by rw [xs_fst, e2]
  refine ⟨xsOf (fsub e (shK gs (N - 1))) ps, p, qs, ps, ex, ⟨xl, xw, fun x hx => ?_, r2, r3, by rw [← hv]; exact r4, by rw [r5, xl], fun y hy => ?_, ?_, by rw [e6]⟩, e1, (xs_snd _ _).symm, fun l hl' => ?_, ?_, r1⟩
  · obtain ⟨k1, k2, k3, k4⟩ := xk x hx
    refine ⟨⟨k1, k2, ?_, ?_⟩, k3, by rw [← hv]; exact k4⟩
    all_goals
      have hm : x.1 ∈ wnL u rows gs N := by rw [← xw]; exact List.mem_map_of_mem hx
      unfold wnL at hm
      obtain ⟨k, hk, ek⟩ := List.mem_map.mp hm
      have hk := List.mem_range.mp hk
      have wv := (mv_wn m hk).2
      obtain ⟨g1, g2⟩ := mv_gs m
      obtain ⟨_, t2, t3, _⟩ := mv_tw m hk
      obtain ⟨_, _, s2, s3⟩ := sh_ok g1 k (by omega)
      have kn := natCast_le (show k ≤ 60 by omega)
      have ec : ((60 : Nat) : Rat) = 60 := rfl
      rw [ec] at kn
      rw [← ek, wv]
      grind
  · have := r6 y hy
    rw [xl] at this
    omega
  · have := flat_sorted m (H := val (fsub e (shK gs (N - 1)))) (ps.map gpL) e3.2
    rw [← xs_it hn h0 ps e4 e5, List.map_map] at this
    have e9 : (xsOf (fsub e (shK gs (N - 1))) ps).map ((·.2) ∘ itOf) = ((xsOf (fsub e (shK gs (N - 1))) ps).map (·.2)).map val := by rw [List.map_map]; rfl
    rw [e9] at this
    exact List.pairwise_map.mp this
  · unfold levsF at hl'
    obtain ⟨q, hq, hl'⟩ := List.mem_flatMap.mp hl'
    obtain ⟨_, _, rfl⟩ := List.mem_map.mp hl'
    exact lev_nm (e4 q hq) (e5 q hq)
  · have := congrArg List.length (xs_snd (fsub e (shK gs (N - 1))) ps)
    rw [List.length_map, List.length_map, xl] at this
    omega
end
end Dv

namespace Dv
open PySem PySem.Spec PyProof.Rows L2
local macro_rules | `(tactic| walk_at "ev") => `(tactic| try simp (disch := omega) only [sSeq_eq, seq_nx, seq_rt, seq_rto, seq_xc, seq_bk, seq_ct, seq_ite, sAsg, sAsgO, sExpr, sRet, sRetO, sRetN, sIf, sNext, uVar, uC, uUn, uBin, uB, uNot, uAnd, uOr, uTV, uAndV, uOrV, uNotV, uIf, uChain, uNil, uCons, uTup, uLst, uLstO, uFn, uFnO, uFnOX, uFz, uMv, uNew, uCall, uCallO, uCallN, uBinV, uBinW, uBinL, uMeO, uMeL, uFnV, sSetL, sAsgG, gN, gT2, gT3, gT4, iLst, iFn,   bind_ok, bind_xc, of_ok, of_xc, res_ok, res_xc, res0_ok, own_ok, own_xc, fr_nx, fr_rt, fr_rto, fr_xc, fo_rto, fo_xc, liftO_some, dBool_bl, items_lst, items_frz, ent, defU, defO, List.map_cons, List.map_nil, List.length_cons, List.length_nil, List.cons_append, List.nil_append, List.append_nil, List.replicate, List.getElem?_cons_zero, List.getElem?_cons_succ, List.set_cons_zero, List.set_cons_succ, Nat.zero_add, Nat.reduceAdd, Nat.reduceSub, Nat.reduceLeDiff,   le_big, lt_big, atN_zero, atN_one, atN_two, atN_three, setN_zero, setN_one, popAt_zero, len_zero, len_succ, dMul_r, dMul_l, dDiv_pos, dMod_pos, dAdd_int, dSub_int, dNeg_int, dLt_int, dLe_int, dGt_int, dGe_int, dEq_int, dNe_int, dEq_bl, dNe_bl, dEq_nil, dNe_nil, dIx_lst, dIx_tup, fAbs_int, fInt_bl, fInt_int, fLen_lst, fLen_frz, fLen_tup, ite_true, ite_false, if_true, if_false, Bool.not_true, Bool.not_false, decide_true, decide_false, Bool.true_eq_false, Bool.false_eq_true, reduceIte, reduceCtorEq, turn_nx, turn_ct, turn_bk, turn_rt, turn_rto, turn_xc, sFor_eq, goL_nil, eq_self])
local macro_rules | `(tactic| walk_at "evs") => `(tactic| try simp (disch := omega) only [sSeq_eq, seq_nx, seq_rt, seq_rto, seq_xc, seq_bk, seq_ct, seq_ite, sAsg, sAsgO, sExpr, sRet, sRetO, sRetN, sIf, sNext, uVar, uC, uUn, uBin, uB, uNot, uAnd, uOr, uTV, uAndV, uOrV, uNotV, uIf, uChain, uNil, uCons, uTup, uLst, uLstO, uFn, uFnO, uFnOX, uFz, uMv, uNew, uCall, uCallO, uCallN, uBinV, uBinW, uBinL, uMeO, uMeL, uFnV, sSetL, sAsgG, gN, gT2, gT3, gT4, iLst, iFn,   bind_ok, bind_xc, of_ok, of_xc, res_ok, res_xc, res0_ok, own_ok, own_xc, fr_nx, fr_rt, fr_rto, fr_xc, fo_rto, fo_xc, liftO_some, dBool_bl, items_lst, items_frz, ent, defU, defO, List.map_cons, List.map_nil, List.length_cons, List.length_nil, List.cons_append, List.nil_append, List.append_nil, List.replicate, List.getElem?_cons_zero, List.getElem?_cons_succ, List.set_cons_zero, List.set_cons_succ, Nat.zero_add, Nat.reduceAdd, Nat.reduceSub, Nat.reduceLeDiff,   le_big, lt_big, atN_zero, atN_one, atN_two, atN_three, setN_zero, setN_one, popAt_zero, len_zero, len_succ, dMul_r, dMul_l, dDiv_pos, dMod_pos, dAdd_int, dSub_int, dNeg_int, dLt_int, dLe_int, dGt_int, dGe_int, dEq_int, dNe_int, dEq_bl, dNe_bl, dEq_nil, dNe_nil, dIx_lst, dIx_tup, fAbs_int, fInt_bl, fInt_int, fLen_lst, fLen_frz, fLen_tup, ite_true, ite_false, if_true, if_false, Bool.not_true, Bool.not_false, decide_true, decide_false, Bool.true_eq_false, Bool.false_eq_true, reduceIte, reduceCtorEq, turn_nx, turn_ct, turn_bk, turn_rt, turn_rto, turn_xc, sFor_eq, goL_nil, eq_self, *])
local macro_rules | `(tactic| walk_at "evt") => `(tactic| try simp (disch := first | omega | (simp only [List.length_append, List.length_cons, List.length_nil, List.length_map]; omega)) only [sSeq_eq, seq_nx, seq_rt, seq_rto, seq_xc, seq_bk, seq_ct, seq_ite, sAsg, sAsgO, sExpr, sRet, sRetO, sRetN, sIf, sNext, uVar, uC, uUn, uBin, uB, uNot, uAnd, uOr, uTV, uAndV, uOrV, uNotV, uIf, uChain, uNil, uCons, uTup, uLst, uLstO, uFn, uFnO, uFnOX, uFz, uMv, uNew, uCall, uCallO, uCallN, uBinV, uBinW, uBinL, uMeO, uMeL, uFnV, sSetL, sAsgG, gN, gT2, gT3, gT4, iLst, iFn,   bind_ok, bind_xc, of_ok, of_xc, res_ok, res_xc, res0_ok, own_ok, own_xc, fr_nx, fr_rt, fr_rto, fr_xc, fo_rto, fo_xc, liftO_some, dBool_bl, items_lst, items_frz, ent, defU, defO, List.map_cons, List.map_nil, List.length_cons, List.length_nil, List.cons_append, List.nil_append, List.append_nil, List.replicate, List.getElem?_cons_zero, List.getElem?_cons_succ, List.set_cons_zero, List.set_cons_succ, Nat.zero_add, Nat.reduceAdd, Nat.reduceSub, Nat.reduceLeDiff,   le_big, lt_big, atN_zero, atN_one, atN_two, atN_three, setN_zero, setN_one, popAt_zero, len_zero, len_succ, dMul_r, dMul_l, dDiv_pos, dMod_pos, dAdd_int, dSub_int, dNeg_int, dLt_int, dLe_int, dGt_int, dGe_int, dEq_int, dNe_int, dEq_bl, dNe_bl, dEq_nil, dNe_nil, dIx_lst, dIx_tup, fAbs_int, fInt_bl, fInt_int, fLen_lst, fLen_frz, fLen_tup, ite_true, ite_false, if_true, if_false, Bool.not_true, Bool.not_false, decide_true, decide_false, Bool.true_eq_false, Bool.false_eq_true, reduceIte, reduceCtorEq, turn_nx, turn_ct, turn_bk, turn_rt, turn_rto, turn_xc, sFor_eq, goL_nil, eq_self, sRaise, gT2, gT3, gT4, sAsgG, uM1, uOrS, uSlS, uSlW, uCatV, uPart, uNoPart, iStrU, k_colon, k_blank, k_line, k_f, k_s, k_0, k_empty, k_digits, k_abc, k_alpha, k_cue, k_from, k_to, k_at, k_two, k_fto, k_nl, k_a1, dAdd_tx, fLen_tx, fStr_nat, dEq_tx, dNe_tx, dEq_txn, dNe_txn, len_tx, cutS_l1, cutS_b1, cutS_ln, cutS_bn, dIx_tx0, *])
local macro_rules | `(tactic| walk_at "evx") => `(tactic| try simp (disch := first | omega | (simp only [List.length_append, List.length_cons, List.length_nil, List.length_map]; omega)) only [sSeq_eq, seq_nx, seq_rt, seq_rto, seq_xc, seq_bk, seq_ct, seq_ite, sAsg, sAsgO, sExpr, sRet, sRetO, sRetN, sIf, sNext, uVar, uC, uUn, uBin, uB, uNot, uAnd, uOr, uTV, uAndV, uOrV, uNotV, uIf, uChain, uNil, uCons, uTup, uLst, uLstO, uFn, uFnO, uFnOX, uFz, uMv, uNew, uCall, uCallO, uCallN, uBinV, uBinW, uBinL, uMeO, uMeL, uFnV, sSetL, sAsgG, gN, gT2, gT3, gT4, iLst, iFn,   bind_ok, bind_xc, of_ok, of_xc, res_ok, res_xc, res0_ok, own_ok, own_xc, fr_nx, fr_rt, fr_rto, fr_xc, fo_rto, fo_xc, liftO_some, dBool_bl, items_lst, items_frz, ent, defU, defO, List.map_cons, List.map_nil, List.length_cons, List.length_nil, List.cons_append, List.nil_append, List.append_nil, List.replicate, List.getElem?_cons_zero, List.getElem?_cons_succ, List.set_cons_zero, List.set_cons_succ, Nat.zero_add, Nat.reduceAdd, Nat.reduceSub, Nat.reduceLeDiff,   le_big, lt_big, atN_zero, atN_one, atN_two, atN_three, setN_zero, setN_one, popAt_zero, len_zero, len_succ, dMul_r, dMul_l, dDiv_pos, dMod_pos, dAdd_int, dSub_int, dNeg_int, dLt_int, dLe_int, dGt_int, dGe_int, dEq_int, dNe_int, dEq_bl, dNe_bl, dEq_nil, dNe_nil, dIx_lst, dIx_tup, fAbs_int, fInt_bl, fInt_int, fLen_lst, fLen_frz, fLen_tup, ite_true, ite_false, if_true, if_false, Bool.not_true, Bool.not_false, decide_true, decide_false, Bool.true_eq_false, Bool.false_eq_true, reduceIte, reduceCtorEq, turn_nx, turn_ct, turn_bk, turn_rt, turn_rto, turn_xc, sFor_eq, goL_nil, eq_self, sRaise, gT2, gT3, gT4, sAsgG, see_bl, see_int, see_non, see_tup, see_lst, see_str, uBinX, uUnX, uFnX, uFld, sFldU, uMeth, uMethO, uMake, uCatX, uRev, uMethN, uFrzI, uSlV, uM1, uOrS, uSlS, uSlW, uCatV, uPart, uNoPart, iStrU, k_colon, k_blank, k_line, k_f, k_s, k_0, k_empty, k_digits, k_abc, k_alpha, k_cue, k_from, k_to, k_at, k_two, k_fto, k_nl, k_a1, dAdd_tx, fLen_tx, fStr_nat, dEq_tx, dNe_tx, dEq_txn, dNe_txn, len_tx, cutS_l1, cutS_b1, cutS_ln, cutS_bn, dIx_tx0, *])
/-! ### moved: what it answers -/
theorem ends_ok {u : Ru} (hu : RuOk u) {rows : List Rr} (h : ∀ r ∈ rows, RrOk r) (hl : rows.length ≤ 20) : (∀ g ∈ gapsF u rows, GapOk g) ∧ (gapsF u rows).length ≤ 60 ∧ Nm (shK (gapsF u rows) (gapsF u rows).length) := by
  have g := gapsF_ok hu rows h
  have l := (gapsF_len u rows).1
  have l2 : (gapsF u rows).length ≤ 60 := by omega
  exact ⟨g, l2, sh_nm g l2 (Nat.le_refl _)⟩
theorem moved_tight (om : Om) {u : Ru} (hu : RuOk u) {rows : List Rr} (h : ∀ r ∈ rows, RrOk r) (hl : rows.length ≤ 20) {e : Fr} (he : EndOk e) (hf : flt e (shK (gapsF u rows) (gapsF u rows).length) = true) : S_moved [.lst (rows.map encR), encU u, encF e] om = .xc ⟨"TooTight", []⟩ om := by
  obtain ⟨g, l2, n⟩ := ends_ok hu h hl
  have e1 := distances_eq om hu h (by omega)
  have e2 := summed_eq om g l2
  have e3 := below_eq om he.n.bd n.bd (by decide)
  rw [hf] at e3
  clear hu h hl he hf g l2 n
  unfold S_moved
  rw [m_top]
  generalize m_tail = MT at *
  generalize (gapsF u rows).map encF = Y at *
  generalize rows.map encR = X at *
  walk_at "evx"
theorem moved_nil (om : Om) {u : Ru} (hu : RuOk u) {e : Fr} (he : EndOk e) : S_moved [.lst [], encU u, encF e] om = .ok (.tup [.loc om.length, encF (0, 1), .loc (om ++ [Cell.lst []]).length]) (om ++ [.lst []] ++ [.lst []]) := by
  have e1 := distances_eq om hu (rows := []) (fun r hr => nomatch hr) (by simp)
  have e2 := summed_eq om (gs := []) (fun r hr => nomatch hr) (by simp)
  have e3 := below_eq om he.n.bd (nm_01).bd (by decide)
  have hf : flt e (0, 1) = false := (flt_false he.n.p nm_01.p).mpr (by rw [v01]; exact he.lo)
  rw [hf] at e3
  have e4 : (gapsF u []).map encF = [] := rfl
  rw [e4] at e1
  clear hu he hf e4
  unfold S_moved
  rw [m_top]
  generalize m_tail = MT at *
  simp only [List.map_nil, shK, List.length_nil] at *
  walk_at "evx"
section
variable {u : Ru} {rows : List Rr} {gs : List Fr} {N : Nat} (m : MvIn u rows gs N)
include m
theorem moved_eq (om : Om) {e : Fr} (he : EndOk e) (hf : flt e (shK gs (N - 1)) = false) : ∃ (xs : List (Wn × Fr)) (p : Int) (qs : List Int) (ex : Om), MvOut u rows gs N e xs p qs ∧
    S_moved [.lst (rows.map encR), encU u, encF e] om = .ok (.tup [.loc (om ++ ex ++ [Cell.lst ((p :: qs).map D.int)]).length, encF (costF xs), .loc (om ++ ex).length]) (om ++ ex ++ [.lst ((p :: qs).map D.int)] ++ [.lst (prL xs gs rows.length)]) := by
  obtain ⟨xs, p, qs, ps, ex, mo, s1, s2, s3, s4, s5⟩ := moved_core m om he hf
  obtain ⟨g1, g2⟩ := mv_gs m
  have gl : gs.length ≤ 60 := by have := m.l; have := m.n; omega
  have lN : gs.length = N - 1 := by omega
  have xl := mo.l
  have xl60 : xs.length ≤ 60 := by have := m.l; have := m.n; omega
  have e1 := distances_eq om m.uo m.ro (by have := m.l; omega)
  rw [← m.ge] at e1
  have e2 := summed_eq om g1 gl
  rw [lN] at e2
  have n1 := sh_nm g1 gl (k := N - 1) (by omega)
  have e3 := below_eq om he.n.bd n1.bd (by decide)
  rw [hf] at e3
  obtain ⟨hn, hv, h0, h1⟩ := high_ok m he hf
  obtain ⟨x6, w1⟩ := want_loop m om (some (.val (encF e))) none none none none none none none
  have e4 := less_eq (om ++ [.lst ((wnL u rows gs N).map encN)]) he.n.bd n1.bd (by decide)
  have f1 := found_eq hn s3 s4 s1 (some (.val (.lst (rows.map encR)))) (some (.val (encU u))) (some (.val (encF e))) (some (.val (.lst (gs.map encF)))) (some (.val (encF (shK gs (N - 1))))) x6 none none none none none
  rw [s2] at f1
  generalize hom2 : om ++ [.lst ((wnL u rows gs N).map encN)] ++ ex = om2 at *
  have cl : om2[om.length]? = some (.lst ((xs.map (·.1)).map encN)) := by rw [← hom2, mo.w, List.getElem?_append_left (by simp), get_end]
  obtain ⟨y6, y12, c1⟩ := cost_loop om2 cl (fun x hx => (mo.ok x hx).1) xl60 (some (.val (.lst (rows.map encR)))) (some (.val (encU u))) (some (.val (encF e))) (some (.val (.lst (gs.map encF)))) (some (.val (encF (shK gs (N - 1))))) x6 (some (.val (encF (fsub e (shK gs (N - 1)))))) none none none
  obtain ⟨om3, h3⟩ : ∃ om3, om3 = om2 ++ [.lst ((p :: qs).map D.int)] := ⟨_, rfl⟩
  obtain ⟨z6, t1⟩ := time_loop om3 (fun x hx => (mo.ok x hx).1.f) g1 (by omega) xl60 (some (.val (.lst (rows.map encR)))) (some (.val (encU u))) (some (.val (encF e))) (some (.val (.loc om.length))) y6 (some (.val (encF (fsub e (shK gs (N - 1)))))) (some (.val (encF (costF xs)))) (some (.val (.loc om2.length))) y12 none
  have r1 := pair_eq om3 (xs := xs) (gs := gs) (n := rows.length) (N := xs.length) (by rw [xl]; exact m.n) (by have := m.l; omega) (some (.val (.lst (rows.map encR)))) (some (.val (encU u))) (some (.val (encF e))) (some (.val (.lst (gs.map encF)))) (some (.val (.loc om.length))) (some (.val (encF (shK gs (xs.length - 1))))) (some (.val (encF (fsub e (shK gs (N - 1)))))) (some (.val (.lst ((xs.map (·.2)).map encF)))) (some (.val (encF (costF xs)))) (some (.val (.loc om2.length))) y12 none
  have ra := fRng1_eq (j := 2 * (rows.length : Int)) (by have := m.l; omega)
  have tn : (2 * (rows.length : Int)).toNat = N := by have := m.n; omega
  rw [tn] at ra
  have rb := fRng1_eq (j := (xs.length : Int)) (by omega)
  have tn2 : ((xs.length : Int)).toNat = xs.length := by omega
  rw [tn2] at rb
  have rc := fRng1_eq (j := (rows.length : Int)) (by have := m.l; omega)
  have tn3 : ((rows.length : Int)).toNat = rows.length := by omega
  rw [tn3] at rc
  have fl : fLen [.lst (rows.map encR)] = some (.int (rows.length : Int)) := by rw [fLen_lst, List.length_map]
  have fl2 : fLen [.lst ((xs.map (·.2)).map encF)] = some (.int (xs.length : Int)) := by rw [fLen_lst, List.length_map, List.length_map]
  have ne : dEq (.lst (rows.map encR)) (.lst []) = some (.bl false) := by
    have := m.p
    match rows, this with
    | r :: rs, _ => rfl
  have ml : (2 : Int) * (rows.length : Int) = 2 * (rows.length : Int) := rfl
  refine ⟨xs, p, qs, .lst ((wnL u rows gs N).map encN) :: ex, mo, ?_⟩
  have omx : om ++ .lst ((wnL u rows gs N).map encN) :: ex = om2 := by rw [← hom2]; simp
  rw [omx, ← h3]
  clear omx hom2 cl mo s1 s2 s3 s4 g1 g2 gl lN xl60 n1 hn hv h0 h1 he hf tn tn2 tn3 m
  unfold S_moved
  rw [m_top]
  unfold m_tail
  rw [m_ret_eq]
  unfold uLc
  rw [xl] at *
  generalize m_want = M1 at *
  generalize m_found = M2 at *
  generalize m_cost = M3 at *
  generalize m_time = M4 at *
  generalize m_pel = M5 at *
  generalize (xs.map (·.2)).map encF = X1 at *
  generalize gs.map encF = Y at *
  generalize rows.map encR = X at *
  generalize (wnL u rows gs N).map encN = X3 at *
  generalize (p :: qs).map D.int = X4 at *
  replace h3 := h3.symm
  generalize (tmL xs gs N).map encF = X5 at *
  generalize prL xs gs rows.length = X6 at *
  generalize shK gs (N - 1) = SH at *
  generalize fsub e SH = HH at *
  generalize costF xs = CC at *
  generalize rngN 0 rows.length = R1 at *
  generalize rngN 0 N = R2 at *
  generalize (rows.length : Int) = L1 at *
  generalize (N : Int) = L2 at *
  simp only [clrs, List.set_cons_succ, List.set_cons_zero] at *
  generalize om ++ [Cell.lst X3] = om1 at *
  walk_at "evx"
end
end Dv

namespace Dv
/-! ### prices show the least -/
def PrQ : List It → Int → List Int → Rat → Prop
  | [], _, [], _ => True
  | x :: r, p, q :: qs, H => LD [x.1] x.2 ≤ p - q ∧ p - q ≤ RD [x.1] x.2 ∧ 0 ≤ q ∧ (x.2 ≠ nxt r H → q = 0) ∧ PrQ r q qs H
  | _, _, _, _ => False
def rab (q : Rat) : Rat := if q < 0 then -q else q
def Cv : List It → Rat
  | [] => 0
  | x :: r => rab (x.2 - x.1.1) * (x.1.2 : Rat) + Cv r
def DS : List It → Int → List Int → Rat
  | x :: r, p, q :: qs => ((q - p : Int) : Rat) * x.1.1 + DS r q qs
  | _, _, _ => 0
def FS : List It → Int → List Int → Rat
  | x :: r, p, q :: qs => ((p - q : Int) : Rat) * x.2 + FS r q qs
  | _, _, _ => 0
def lst (p : Int) : List Int → Int
  | [] => p
  | q :: qs => lst q qs
theorem fs_eq {H : Rat} : ∀ (its : List It) (p : Int) (qs : List Int), PrQ its p qs H → FS its p qs = (p : Rat) * nxt its H - (lst p qs : Rat) * H
  | [], p, [], _ => by
    show (0 : Rat) = (p : Rat) * H - (p : Rat) * H
    grind
  | x :: r, p, q :: qs, h => by
    obtain ⟨_, _, _, h4, h5⟩ := h
    have ih := fs_eq r q qs h5
    show ((p - q : Int) : Rat) * x.2 + FS r q qs = (p : Rat) * x.2 - (lst q qs : Rat) * H
    rw [ih, Rat.intCast_sub]
    by_cases c : x.2 = nxt r H
    · rw [← c]; grind
    · have z := h4 c
      subst z
      have : ((0 : Int) : Rat) = 0 := rfl
      rw [this]
      grind
  | [], _, _ :: _, h => h.elim
  | _ :: _, _, [], h => h.elim
theorem one_eq {x : It} {s : Int} (h1 : LD [x.1] x.2 ≤ s) (h2 : s ≤ RD [x.1] x.2) : rab (x.2 - x.1.1) * (x.1.2 : Rat) = (s : Rat) * (x.2 - x.1.1) := by
  have l : LD [x.1] x.2 = (if x.1.1 < x.2 then x.1.2 else -x.1.2) + 0 := rfl
  have r : RD [x.1] x.2 = (if x.1.1 ≤ x.2 then x.1.2 else -x.1.2) + 0 := rfl
  unfold rab
  by_cases c : x.1.1 < x.2
  · rw [if_pos c] at l
    rw [if_pos (by grind)] at r
    have : s = x.1.2 := by omega
    rw [if_neg (by grind), this]
    grind
  · rw [if_neg c] at l
    by_cases d : x.1.1 ≤ x.2
    · have e : x.2 = x.1.1 := by grind
      rw [e]
      have z : x.1.1 - x.1.1 = 0 := by grind
      rw [z, if_neg Rat.lt_irrefl]
      grind
    · rw [if_neg d] at r
      have : s = -x.1.2 := by omega
      rw [if_pos (by grind), this, Rat.intCast_neg]
      grind
theorem cv_eq {H : Rat} : ∀ (its : List It) (p : Int) (qs : List Int), PrQ its p qs H → Cv its = DS its p qs + FS its p qs
  | [], p, [], _ => by show (0 : Rat) = 0 + 0; grind
  | x :: r, p, q :: qs, h => by
    obtain ⟨h1, h2, _, _, h5⟩ := h
    have ih := cv_eq r q qs h5
    show rab (x.2 - x.1.1) * (x.1.2 : Rat) + Cv r = (((q - p : Int) : Rat) * x.1.1 + DS r q qs) + (((p - q : Int) : Rat) * x.2 + FS r q qs)
    rw [ih, one_eq h1 h2, Rat.intCast_sub, Rat.intCast_sub]
    grind
  | [], _, _ :: _, h => h.elim
  | _ :: _, _, [], h => h.elim
/-- the cost told by the prices -/
theorem dual_eq {H : Rat} {its : List It} {p : Int} {qs : List Int} (h : PrQ its p qs H) (hp : nxt its H = 0 ∨ p = 0) : Cv its = DS its p qs - (lst p qs : Rat) * H := by
  rw [cv_eq its p qs h, fs_eq its p qs h]
  have : (p : Rat) * nxt its H = 0 := by
    rcases hp with z | z
    · rw [z]; grind
    · rw [z]; have : ((0 : Int) : Rat) = 0 := rfl; rw [this]; grind
  rw [this]
  grind
/-- what any other times cost: levels y that never fall, from 0 on, up to H -/
def Cy : List It → List Rat → Rat
  | x :: r, y :: ys => rab (y - x.1.1) * (x.1.2 : Rat) + Cy r ys
  | _, _ => 0
def Fy : List Int → Int → List Rat → Rat
  | q :: qs, p, y :: ys => ((p - q : Int) : Rat) * y + Fy qs q ys
  | _, _, _ => 0
theorem one_le {x : It} {s : Int} {y : Rat} (h1 : -x.1.2 ≤ s) (h2 : s ≤ x.1.2) : (s : Rat) * (y - x.1.1) ≤ rab (y - x.1.1) * (x.1.2 : Rat) := by
  have a : ((-x.1.2 : Int) : Rat) ≤ (s : Rat) := Rat.intCast_le_intCast.mpr h1
  have b : (s : Rat) ≤ (x.1.2 : Rat) := Rat.intCast_le_intCast.mpr h2
  rw [Rat.intCast_neg] at a
  unfold rab
  split
  · rename_i c
    have := Rat.mul_le_mul_of_nonneg_right a (show 0 ≤ -(y - x.1.1) by grind)
    grind
  · rename_i c
    have := Rat.mul_le_mul_of_nonneg_right b (show 0 ≤ y - x.1.1 by grind)
    grind
theorem cy_le {H : Rat} : ∀ (its : List It) (p : Int) (qs : List Int) (ys : List Rat), PrQ its p qs H → (∀ x ∈ its, 0 < x.1.2) → ys.length = its.length → DS its p qs + Fy qs p ys ≤ Cy its ys
  | [], p, [], ys, _, _, hl => by
    match ys, hl with
    | [], _ => show (0 : Rat) + 0 ≤ 0; grind
  | x :: r, p, q :: qs, y :: ys, h, hw, hl => by
    obtain ⟨h1, h2, _, _, h5⟩ := h
    have ih := cy_le r q qs ys h5 (fun z hz => hw z (by simp [hz])) (by simpa using hl)
    have l : LD [x.1] x.2 = (if x.1.1 < x.2 then x.1.2 else -x.1.2) + 0 := rfl
    have r' : RD [x.1] x.2 = (if x.1.1 ≤ x.2 then x.1.2 else -x.1.2) + 0 := rfl
    have w0 := hw x (by simp)
    have o := one_le (x := x) (s := p - q) (y := y) (by split at l <;> omega) (by split at r' <;> omega)
    show (((q - p : Int) : Rat) * x.1.1 + DS r q qs) + (((p - q : Int) : Rat) * y + Fy qs q ys) ≤ rab (y - x.1.1) * (x.1.2 : Rat) + Cy r ys
    rw [Rat.intCast_sub] at o ⊢
    rw [Rat.intCast_sub]
    grind
  | [], _, _ :: _, _, h, _, _ => h.elim
  | _ :: _, _, [], _, h, _, _ => h.elim
  | _ :: _, _, _ :: _, [], _, _, hl => by cases hl
/-- rising levels: what the prices take -/
def Ris (H : Rat) : Rat → List Rat → Prop
  | a, [] => a ≤ H
  | a, y :: ys => a ≤ y ∧ Ris H y ys
theorem fy_ge {H : Rat} : ∀ (its : List It) (qs : List Int) (p : Int) (ys : List Rat) (a : Rat), PrQ its p qs H → 0 ≤ p → Ris H a ys → ys.length = its.length → (p : Rat) * a - (lst p qs : Rat) * H ≤ Fy qs p ys
  | [], [], p, ys, a, _, h0, hr, hl => by
    match ys, hl with
    | [], _ =>
      show (p : Rat) * a - (p : Rat) * H ≤ 0
      have p0 : ((0 : Int) : Rat) ≤ (p : Rat) := Rat.intCast_le_intCast.mpr h0
      have p0 : (0 : Rat) ≤ (p : Rat) := p0
      have hr : a ≤ H := hr
      have := Rat.mul_le_mul_of_nonneg_left hr p0
      grind
  | x :: r, q :: qs, p, y :: ys, a, h, h0, hr, hl => by
    obtain ⟨_, _, h3, _, h5⟩ := h
    have hr1 : a ≤ y := hr.1
    have ih := fy_ge r qs q ys y h5 h3 hr.2 (by simpa using hl)
    have p0 : ((0 : Int) : Rat) ≤ (p : Rat) := Rat.intCast_le_intCast.mpr h0
    have p0 : (0 : Rat) ≤ (p : Rat) := p0
    have := Rat.mul_le_mul_of_nonneg_left hr1 p0
    show (p : Rat) * a - (lst q qs : Rat) * H ≤ ((p - q : Int) : Rat) * y + Fy qs q ys
    rw [Rat.intCast_sub]
    grind
  | [], _ :: _, _, _, _, h, _, _, _ => h.elim
  | _ :: _, [], _, _, _, h, _, _, _ => h.elim
  | _ :: _, _ :: _, _, [], _, _, _, _, hl => by cases hl
/-- no times that keep the rule cost less -/
theorem none_less {H : Rat} {its : List It} {p : Int} {qs : List Int} {ys : List Rat} (h : PrQ its p qs H) (h0 : 0 ≤ p) (hp : nxt its H = 0 ∨ p = 0) (hw : ∀ x ∈ its, 0 < x.1.2) (hr : Ris H 0 ys) (hl : ys.length = its.length) : Cv its ≤ Cy its ys := by
  have a := dual_eq h hp
  have b := cy_le its p qs ys h hw hl
  have c := fy_ge its qs p ys 0 h h0 hr hl
  grind
end Dv

namespace Dv
open PySem PySem.Spec PyProof.Rows L2
local macro_rules | `(tactic| walk_at "ev") => `(tactic| try simp (disch := omega) only [sSeq_eq, seq_nx, seq_rt, seq_rto, seq_xc, seq_bk, seq_ct, seq_ite, sAsg, sAsgO, sExpr, sRet, sRetO, sRetN, sIf, sNext, uVar, uC, uUn, uBin, uB, uNot, uAnd, uOr, uTV, uAndV, uOrV, uNotV, uIf, uChain, uNil, uCons, uTup, uLst, uLstO, uFn, uFnO, uFz, uMv, uNew, uCall, uCallO, uCallN, uBinV, uBinW, uBinL, uMeO, uMeL, uFnV, sSetL, sAsgG, gN, gT2, gT3, gT4, iLst, iFn,   bind_ok, bind_xc, of_ok, of_xc, res_ok, res_xc, res0_ok, own_ok, own_xc, fr_nx, fr_rt, fr_rto, fr_xc, fo_rto, fo_xc, liftO_some, dBool_bl, items_lst, items_frz, ent, defU, defO, List.map_cons, List.map_nil, List.length_cons, List.length_nil, List.cons_append, List.nil_append, List.append_nil, List.replicate, List.getElem?_cons_zero, List.getElem?_cons_succ, List.set_cons_zero, List.set_cons_succ, Nat.zero_add, Nat.reduceAdd, Nat.reduceSub, Nat.reduceLeDiff,   le_big, lt_big, atN_zero, atN_one, atN_two, atN_three, setN_zero, setN_one, popAt_zero, len_zero, len_succ, dMul_r, dMul_l, dDiv_pos, dMod_pos, dAdd_int, dSub_int, dNeg_int, dLt_int, dLe_int, dGt_int, dGe_int, dEq_int, dNe_int, dEq_bl, dNe_bl, dEq_nil, dNe_nil, dIx_lst, dIx_tup, fAbs_int, fInt_bl, fInt_int, fLen_lst, fLen_frz, fLen_tup, ite_true, ite_false, if_true, if_false, Bool.not_true, Bool.not_false, decide_true, decide_false, Bool.true_eq_false, Bool.false_eq_true, reduceIte, reduceCtorEq, turn_nx, turn_ct, turn_bk, turn_rt, turn_rto, turn_xc, sFor_eq, goL_nil, eq_self])
local macro_rules | `(tactic| walk_at "evs") => `(tactic| try simp (disch := omega) only [sSeq_eq, seq_nx, seq_rt, seq_rto, seq_xc, seq_bk, seq_ct, seq_ite, sAsg, sAsgO, sExpr, sRet, sRetO, sRetN, sIf, sNext, uVar, uC, uUn, uBin, uB, uNot, uAnd, uOr, uTV, uAndV, uOrV, uNotV, uIf, uChain, uNil, uCons, uTup, uLst, uLstO, uFn, uFnO, uFz, uMv, uNew, uCall, uCallO, uCallN, uBinV, uBinW, uBinL, uMeO, uMeL, uFnV, sSetL, sAsgG, gN, gT2, gT3, gT4, iLst, iFn,   bind_ok, bind_xc, of_ok, of_xc, res_ok, res_xc, res0_ok, own_ok, own_xc, fr_nx, fr_rt, fr_rto, fr_xc, fo_rto, fo_xc, liftO_some, dBool_bl, items_lst, items_frz, ent, defU, defO, List.map_cons, List.map_nil, List.length_cons, List.length_nil, List.cons_append, List.nil_append, List.append_nil, List.replicate, List.getElem?_cons_zero, List.getElem?_cons_succ, List.set_cons_zero, List.set_cons_succ, Nat.zero_add, Nat.reduceAdd, Nat.reduceSub, Nat.reduceLeDiff,   le_big, lt_big, atN_zero, atN_one, atN_two, atN_three, setN_zero, setN_one, popAt_zero, len_zero, len_succ, dMul_r, dMul_l, dDiv_pos, dMod_pos, dAdd_int, dSub_int, dNeg_int, dLt_int, dLe_int, dGt_int, dGe_int, dEq_int, dNe_int, dEq_bl, dNe_bl, dEq_nil, dNe_nil, dIx_lst, dIx_tup, fAbs_int, fInt_bl, fInt_int, fLen_lst, fLen_frz, fLen_tup, ite_true, ite_false, if_true, if_false, Bool.not_true, Bool.not_false, decide_true, decide_false, Bool.true_eq_false, Bool.false_eq_true, reduceIte, reduceCtorEq, turn_nx, turn_ct, turn_bk, turn_rt, turn_rto, turn_xc, sFor_eq, goL_nil, eq_self, *])
local macro_rules | `(tactic| walk_at "evt") => `(tactic| try simp (disch := first | omega | (simp only [List.length_append, List.length_cons, List.length_nil, List.length_map]; omega)) only [sSeq_eq, seq_nx, seq_rt, seq_rto, seq_xc, seq_bk, seq_ct, seq_ite, sAsg, sAsgO, sExpr, sRet, sRetO, sRetN, sIf, sNext, uVar, uC, uUn, uBin, uB, uNot, uAnd, uOr, uTV, uAndV, uOrV, uNotV, uIf, uChain, uNil, uCons, uTup, uLst, uLstO, uFn, uFnO, uFz, uMv, uNew, uCall, uCallO, uCallN, uBinV, uBinW, uBinL, uMeO, uMeL, uFnV, sSetL, sAsgG, gN, gT2, gT3, gT4, iLst, iFn,   bind_ok, bind_xc, of_ok, of_xc, res_ok, res_xc, res0_ok, own_ok, own_xc, fr_nx, fr_rt, fr_rto, fr_xc, fo_rto, fo_xc, liftO_some, dBool_bl, items_lst, items_frz, ent, defU, defO, List.map_cons, List.map_nil, List.length_cons, List.length_nil, List.cons_append, List.nil_append, List.append_nil, List.replicate, List.getElem?_cons_zero, List.getElem?_cons_succ, List.set_cons_zero, List.set_cons_succ, Nat.zero_add, Nat.reduceAdd, Nat.reduceSub, Nat.reduceLeDiff,   le_big, lt_big, atN_zero, atN_one, atN_two, atN_three, setN_zero, setN_one, popAt_zero, len_zero, len_succ, dMul_r, dMul_l, dDiv_pos, dMod_pos, dAdd_int, dSub_int, dNeg_int, dLt_int, dLe_int, dGt_int, dGe_int, dEq_int, dNe_int, dEq_bl, dNe_bl, dEq_nil, dNe_nil, dIx_lst, dIx_tup, fAbs_int, fInt_bl, fInt_int, fLen_lst, fLen_frz, fLen_tup, ite_true, ite_false, if_true, if_false, Bool.not_true, Bool.not_false, decide_true, decide_false, Bool.true_eq_false, Bool.false_eq_true, reduceIte, reduceCtorEq, turn_nx, turn_ct, turn_bk, turn_rt, turn_rto, turn_xc, sFor_eq, goL_nil, eq_self, sRaise, gT2, gT3, gT4, sAsgG, uM1, uOrS, uSlS, uSlW, uCatV, uPart, uNoPart, iStrU, k_colon, k_blank, k_line, k_f, k_s, k_0, k_empty, k_digits, k_abc, k_alpha, k_cue, k_from, k_to, k_at, k_two, k_fto, k_nl, k_a1, dAdd_tx, fLen_tx, fStr_nat, dEq_tx, dNe_tx, dEq_txn, dNe_txn, len_tx, cutS_l1, cutS_b1, cutS_ln, cutS_bn, dIx_tx0, *])
local macro_rules | `(tactic| walk_at "evx") => `(tactic| try simp (disch := first | omega | (simp only [List.length_append, List.length_cons, List.length_nil, List.length_map]; omega)) only [sSeq_eq, seq_nx, seq_rt, seq_rto, seq_xc, seq_bk, seq_ct, seq_ite, sAsg, sAsgO, sExpr, sRet, sRetO, sRetN, sIf, sNext, uVar, uC, uUn, uBin, uB, uNot, uAnd, uOr, uTV, uAndV, uOrV, uNotV, uIf, uChain, uNil, uCons, uTup, uLst, uLstO, uFn, uFnO, uFz, uMv, uNew, uCall, uCallO, uCallN, uBinV, uBinW, uBinL, uMeO, uMeL, uFnV, sSetL, sAsgG, gN, gT2, gT3, gT4, iLst, iFn,   bind_ok, bind_xc, of_ok, of_xc, res_ok, res_xc, res0_ok, own_ok, own_xc, fr_nx, fr_rt, fr_rto, fr_xc, fo_rto, fo_xc, liftO_some, dBool_bl, items_lst, items_frz, ent, defU, defO, List.map_cons, List.map_nil, List.length_cons, List.length_nil, List.cons_append, List.nil_append, List.append_nil, List.replicate, List.getElem?_cons_zero, List.getElem?_cons_succ, List.set_cons_zero, List.set_cons_succ, Nat.zero_add, Nat.reduceAdd, Nat.reduceSub, Nat.reduceLeDiff,   le_big, lt_big, atN_zero, atN_one, atN_two, atN_three, setN_zero, setN_one, popAt_zero, len_zero, len_succ, dMul_r, dMul_l, dDiv_pos, dMod_pos, dAdd_int, dSub_int, dNeg_int, dLt_int, dLe_int, dGt_int, dGe_int, dEq_int, dNe_int, dEq_bl, dNe_bl, dEq_nil, dNe_nil, dIx_lst, dIx_tup, fAbs_int, fInt_bl, fInt_int, fLen_lst, fLen_frz, fLen_tup, ite_true, ite_false, if_true, if_false, Bool.not_true, Bool.not_false, decide_true, decide_false, Bool.true_eq_false, Bool.false_eq_true, reduceIte, reduceCtorEq, turn_nx, turn_ct, turn_bk, turn_rt, turn_rto, turn_xc, sFor_eq, goL_nil, eq_self, sRaise, gT2, gT3, gT4, sAsgG, see_bl, see_int, see_non, see_tup, see_lst, see_str, uBinX, uUnX, uFnX, uFld, sFldU, uMeth, uMethO, uMake, uCatX, uRev, uMethN, uFrzI, uSlV, uM1, uOrS, uSlS, uSlW, uCatV, uPart, uNoPart, iStrU, k_colon, k_blank, k_line, k_f, k_s, k_0, k_empty, k_digits, k_abc, k_alpha, k_cue, k_from, k_to, k_at, k_two, k_fto, k_nl, k_a1, dAdd_tx, fLen_tx, fStr_nat, dEq_tx, dNe_tx, dEq_txn, dNe_txn, len_tx, cutS_l1, cutS_b1, cutS_ln, cutS_bn, dIx_tx0, *])
def r_el : UE := (uBin dMulS (uC (.str (Str.ofString "a"))) (uBin dAdd (uC (.int 1)) (uCallN 2 S_law_take (uCons (uVar 0) (uCons (uC (.int 9)) uNil)))))
def r_turn : US := (sSeq (sAsg 2 (uCall 2 S_law_sum (uCons (uVar 2) (uCons (uCall 2 S_law_fr (uCons (uBin dSub (uCall 2 S_law_take (uCons (uVar 0) (uCons (uC (.int 40)) uNil))) (uC (.int 8))) (uCons (uBin dAdd (uC (.int 1)) (uCall 2 S_law_take (uCons (uVar 0) (uCons (uC (.int 4)) uNil)))) uNil))) uNil))))
    (sSeq (sIf (uB (uBin dLt (uBin dIx (uVar 2) (uC (.int 0))) (uC (.int 0)))) (sAsg 2 (uTup (uCons (uC (.int 0)) (uCons (uC (.int 1)) uNil)))) sNext)
    (sSeq (sAsg 4 (uFz (uLc (iFn fRng1 (uCons (uCall 2 S_law_take (uCons (uVar 0) (uCons (uC (.int 4)) uNil))) uNil)) (gN 6) uYes r_el [6])))
    (sSeq (sAsg 5 (uCall 2 S_law_sum (uCons (uVar 2) (uCons (uCall 2 S_law_time (uCons (uVar 0) (uCons (uC (.int 20)) uNil))) uNil))))
    (sIf (uB (uBin dEq (uCall 2 S_law_take (uCons (uVar 0) (uCons (uC (.int 6)) uNil))) (uC (.int 1)))) (sExpr (uMeO 1 mAppend (uCons (uTup (uCons (uVar 5) (uCons (uVar 2) (uCons (uVar 3) (uCons (uVar 4) uNil))))) uNil))) (sExpr (uMeO 1 mAppend (uCons (uTup (uCons (uVar 2) (uCons (uVar 5) (uCons (uVar 3) (uCons (uVar 4) uNil))))) uNil))))))))
theorem r_turn_top : u_law_rows = (sSeq (sAsgO 1 (uLstO uNil)) (sSeq (sAsg 2 (uTup (uCons (uC (.int 0)) (uCons (uC (.int 1)) uNil)))) (sSeq (sFor (iFn fRng1 (uCons (uBin dIx (uLst (uCons (uCall 2 S_law_take (uCons (uVar 0) (uCons (uC (.int 4)) uNil))) (uCons (uCall 2 S_law_take (uCons (uVar 0) (uCons (uC (.int 21)) uNil))) uNil))) (uFn fInt (uCons (uBin dEq (uCall 2 S_law_take (uCons (uVar 0) (uCons (uC (.int 6)) uNil))) (uC (.int 1))) uNil))) uNil)) (gN 3) r_turn) (sRetO (uMv 1))))) := rfl
def f_turn : US := (sSeq (sIf (uB (uBinV dNe 2 (uLst uNil))) (sExpr (uMeO 2 mAppend (uCons (uBin dIx (uVar 1) (uC (.int 1))) uNil))) sNext)
    (sSeq (sAsg 4 (uCall 2 S_law_times (uCons (uTup (uCons (uFn fSum (uCons (uFz (uLc (iLst (uBin dIx (uVar 3) (uC (.int 3)))) (gN 5) uYes (uFn fLen (uCons (uVar 5) uNil)) [5])) uNil)) (uCons (uC (.int 1)) uNil))) (uCons (uBin dIx (uVar 1) (uC (.int 0))) uNil))))
    (sExpr (uMeO 2 mAppend (uCons (uIf (uB (uCall 2 S_law_low (uCons (uVar 4) (uCons (uBin dIx (uVar 1) (uC (.int 2))) uNil)))) (uBin dIx (uVar 1) (uC (.int 2))) (uVar 4)) uNil)))))
theorem f_turn_top : u_law_far = (sSeq (sAsgO 2 (uLstO uNil)) (sSeq (sFor (iLst (uVar 0)) (gN 3) f_turn) (sRetO (uMv 2)))) := rfl
def e_turn : US := (sAsg 2 (uCall 2 S_law_sum (uCons (uVar 2) (uCons (uVar 3) uNil))))
theorem e_turn_top : u_law_end = (sSeq (sAsg 2 (uTup (uCons (uC (.int 0)) (uCons (uC (.int 1)) uNil)))) (sSeq (sFor (iLst (uVar 1)) (gN 3) e_turn) (sSeq (sAsg 4 (uCall 2 S_law_take (uCons (uVar 0) (uCons (uC (.int 8)) uNil)))) (sSeq (sIf (uB (uBin dEq (uVar 4) (uC (.int 0)))) (sRet (uVar 2)) sNext) (sSeq (sIf (uAnd (uB (uBin dEq (uVar 4) (uC (.int 1)))) (uB (uBin dGt (uBin dIx (uVar 2) (uC (.int 0))) (uC (.int 0))))) (sRet (uCall 2 S_law_times (uCons (uVar 2) (uCons (uCall 2 S_law_fr (uCons (uCall 2 S_law_take (uCons (uVar 0) (uCons (uC (.int 10)) uNil))) (uCons (uC (.int 10)) uNil))) uNil)))) sNext) (sRet (uCall 2 S_law_sum (uCons (uVar 2) (uCons (uCall 2 S_law_time (uCons (uVar 0) (uCons (uBin dIx (uLst (uCons (uC (.int 10)) (uCons (uC (.int 200)) uNil))) (uBin dMod (uVar 4) (uC (.int 2)))) uNil))) uNil))))))))) := rfl
def n_turn : US := (sAsg 1 (uBin dAdd (uVar 1) (uLst (uCons (uBin dIx (uVar 2) (uC (.int 0))) (uCons (uBin dIx (uVar 2) (uC (.int 1))) uNil)))))
theorem n_turn_top : u_law_wanted = (sSeq (sAsg 1 (uLst uNil)) (sSeq (sForX (uVar 0) (gN 2) n_turn) (sRet (uVar 1)))) := rfl
/-! ### what is drawn -/
theorem val_mk_le {t d A : Int} (hd : 0 < d) (h : t ≤ A) (h0 : 0 ≤ A) : val (mk t d) ≤ (A : Rat) := by
  rw [val_mk (by omega), ← Rat.not_lt, Rat.lt_div_iff (cast_pos hd), Rat.not_lt, ← Rat.intCast_mul]
  exact Rat.intCast_le_intCast.mpr (Int.le_trans h (by
    have := Int.mul_le_mul_of_nonneg_left (show 1 ≤ d by omega) h0
    omega))
theorem val_mk_ge {t d A : Int} (hd : 0 < d) (h : -A ≤ t) (h0 : 0 ≤ A) : -(A : Rat) ≤ val (mk t d) := by
  have e : val (mk (-t) d) = -val (mk t d) := by
    rw [val_mk (by omega), val_mk (by omega), Rat.intCast_neg]
    simp only [Rat.div_def]
    grind
  have := val_mk_le (t := -t) hd (by omega) h0
  rw [e] at this
  grind
theorem dn30_mk {t d : Int} (h1 : 0 < d) (h2 : d ≤ 30) : Dn L30 (mk t d) := by
  obtain ⟨k, hk⟩ := dvd_30 h1 h2
  refine ⟨mk_cn (by omega), t * k, ?_⟩
  have c0 := cast_ne (show d ≠ 0 by omega)
  have e : (L30 : Rat) = (d : Rat) * (k : Rat) := by
    have : ((L30 : Int) : Rat) = ((d * k : Int) : Rat) := by rw [hk]
    rw [Rat.intCast_mul] at this
    exact this
  rw [val_mk (by omega), e, Rat.intCast_mul, Rat.div_def, ← Rat.mul_assoc, Rat.mul_assoc (t : Rat), Rat.inv_mul_cancel _ c0]
  grind
theorem nm_of {q : Fr} (h : Dn L30 q) (h1 : -100000000 ≤ val q) (h2 : val q ≤ 100000000) : Nm q := ⟨dn_up h, h1, h2⟩
/-- a drawn time -/
structure Tq (m : Int) (q : Fr) : Prop where
  d : Dn L30 q
  lo : 0 ≤ val q
  hi : val q ≤ (m : Rat)
theorem tq_mk {m t d : Int} (h0 : 0 ≤ t) (h1 : t ≤ m) (h2 : 0 < d) (h3 : d ≤ 30) : Tq m (mk t d) := ⟨dn30_mk h2 h3, by have := val_mk_ge (t := t) (A := 0) h2 (by omega) (by omega); have e : ((0 : Int) : Rat) = 0 := rfl; rw [e] at this; grind, val_mk_le h2 h1 (by omega)⟩
theorem tq_int {m t : Int} (h0 : 0 ≤ t) (h1 : t ≤ m) : Tq m (t, 1) := ⟨dn_int t, by rw [v_int]; exact Rat.intCast_le_intCast.mpr h0, by rw [v_int]; exact Rat.intCast_le_intCast.mpr h1⟩
theorem p9k (h : Int) (h2 : h.natAbs < 1000) : h.natAbs < 2 ^ 9000 := Nat.lt_of_lt_of_le h2 (Nat.le_trans (show 1000 ≤ 2 ^ 10 by decide) (Nat.pow_le_pow_right (by decide) (by decide)))
theorem rle {a b : Int} (h : a ≤ b) : (a : Rat) ≤ (b : Rat) := Rat.intCast_le_intCast.mpr h
section
variable (rest : Om)
theorem ltime_eq {m : Int} (b : Box) (h : 0 < m) (h2 : m ≤ 1000) : ∃ q b', S_law_time [.loc 1, .int m] (bom b rest) = .ok (encF q) (bom b' rest) ∧ Tq m q := by
  have e1 := take_eq (m := m) b rest h (by omega)
  have e2 := take_eq (m := 2) (tkn m b) rest (by decide) (by decide)
  have e3 := take_eq (m := 6) (tkn 2 (tkn m b)) rest (by decide) (by decide)
  have e4 := take_eq (m := 30) (tkn 6 (tkn 2 (tkn m b))) rest (by decide) (by decide)
  have e5 := take_eq (m := 6) (tkn 6 (tkn 2 (tkn m b))) rest (by decide) (by decide)
  have b1 := tkv_nn (m := m) b h
  have c1 := tkv_lt (m := m) b h
  have b4 := tkv_nn (m := 30) (tkn 6 (tkn 2 (tkn m b))) (by decide)
  have c4 := tkv_lt (m := 30) (tkn 6 (tkn 2 (tkn m b))) (by decide)
  have b5 := tkv_nn (m := 6) (tkn 6 (tkn 2 (tkn m b))) (by decide)
  have c5 := tkv_lt (m := 6) (tkn 6 (tkn 2 (tkn m b))) (by decide)
  have e6 := lfr_eq (t := tkv m b) (b := 1 + tkv 30 (tkn 6 (tkn 2 (tkn m b)))) (bom (tkn 30 (tkn 6 (tkn 2 (tkn m b)))) rest) (by omega) (p9k _ (by omega))
  have e7 := lfr_eq (t := tkv m b) (b := 1 + tkv 6 (tkn 6 (tkn 2 (tkn m b)))) (bom (tkn 6 (tkn 6 (tkn 2 (tkn m b)))) rest) (by omega) (p9k _ (by omega))
  by_cases h0 : tkv 2 (tkn m b) = 0
  · refine ⟨(tkv m b, 1), tkn 2 (tkn m b), ?_, tq_int b1 (by omega)⟩
    unfold S_law_time u_law_time
    clear b1 c1 b4 c4 b5 c5 e6 e7 h2
    walk_at "evs"
  · have g1 := tq_mk (m := m) b1 (by omega) (show 0 < 1 + tkv 30 (tkn 6 (tkn 2 (tkn m b))) by omega) (by omega)
    have g2 := tq_mk (m := m) b1 (by omega) (show 0 < 1 + tkv 6 (tkn 6 (tkn 2 (tkn m b))) by omega) (by omega)
    by_cases h1 : tkv 6 (tkn 2 (tkn m b)) = 1
    · refine ⟨_, tkn 30 (tkn 6 (tkn 2 (tkn m b))), ?_, g1⟩
      unfold S_law_time u_law_time
      clear b1 c1 b4 c4 b5 c5 e7 h2 g1 g2
      walk_at "evs"
    · refine ⟨_, tkn 6 (tkn 6 (tkn 2 (tkn m b))), ?_, g2⟩
      unfold S_law_time u_law_time
      clear b1 c1 b4 c4 b5 c5 e6 h2 g1 g2
      walk_at "evs"
theorem drawn_eq {m d : Int} (b : Box) (h : 0 < m) (h2 : m ≤ 100) (hd : 0 < d) (hd2 : d ≤ 30) : ∃ q b', (S_law_take [.loc 1, .int m] (bom b rest) = .ok (.int (tkv m b)) (bom (tkn m b) rest) ∧ S_law_take [.loc 1, .int d] (bom (tkn m b) rest) = .ok (.int (tkv d (tkn m b))) (bom b' rest) ∧ S_law_fr [.int (tkv m b), .int (1 + tkv d (tkn m b))] (bom b' rest) = .ok (encF q) (bom b' rest)) ∧ Tq (m - 1) q := by
  have b1 := tkv_nn (m := m) b h
  have c1 := tkv_lt (m := m) b h
  have b2 := tkv_nn (m := d) (tkn m b) hd
  have c2 := tkv_lt (m := d) (tkn m b) hd
  exact ⟨mk (tkv m b) (1 + tkv d (tkn m b)), tkn d (tkn m b), ⟨take_eq b rest h (by omega), take_eq _ rest hd (by omega), lfr_eq _ (by omega) (p9k _ (by omega))⟩, tq_mk b1 (by omega) (by omega) (by omega)⟩
theorem rule_eq (b : Box) : ∃ u b', S_law_rule [.loc 1] (bom b rest) = .ok (encU u) (bom b' rest) ∧ RuOk u := by
  obtain ⟨q1, b1, ⟨e1, e2, e3⟩, t1⟩ := drawn_eq rest (m := 8) (d := 3) b (by decide) (by decide) (by decide) (by decide)
  obtain ⟨q2, b2, ⟨e4, e5, e6⟩, t2⟩ := drawn_eq rest (m := 6) (d := 3) b1 (by decide) (by decide) (by decide) (by decide)
  obtain ⟨q3, b3, e7, t3⟩ := ltime_eq rest (m := 6) b2 (by decide) (by decide)
  have e8 := take_eq (m := 9) b3 rest (by decide) (by decide)
  have e9 := take_eq (m := 9) (tkn 9 b3) rest (by decide) (by decide)
  have k1 := tkv_nn (m := 9) b3 (by decide)
  have k2 := tkv_lt (m := 9) b3 (by decide)
  have k3 := tkv_nn (m := 9) (tkn 9 b3) (by decide)
  have k4 := tkv_lt (m := 9) (tkn 9 b3) (by decide)
  have nm : ∀ {m : Int} {q : Fr}, m ≤ 7 → Tq m q → Nm q ∧ 0 ≤ val q ∧ val q ≤ 7 := fun {m q} hm t => by
    have := rle hm
    have e : ((7 : Int) : Rat) = 7 := rfl
    rw [e] at this
    have a := t.lo
    have b := t.hi
    exact ⟨nm_of t.d (by grind) (by grind), a, by grind⟩
  obtain ⟨n1, n1'⟩ := nm (by decide) t1
  obtain ⟨n2, n2'⟩ := nm (by decide) t2
  obtain ⟨n3, n3'⟩ := nm (by decide) t3
  refine ⟨⟨q1, q2, q3, 1 + tkv 9 b3, 1 + tkv 9 (tkn 9 b3)⟩, tkn 9 (tkn 9 b3), ?_, ⟨n1, n1', n2, n2', n3, n3', by constructor <;> show _ ≤ _ <;> dsimp only <;> omega, by constructor <;> show _ ≤ _ <;> dsimp only <;> omega, t1.d, t2.d, t3.d⟩⟩
  clear t1 t2 t3 k1 k2 k3 k4 nm n1 n1' n2 n2' n3 n3'
  unfold S_law_rule u_law_rule
  walk_at "evx"
/-- words of "a" -/
theorem a_times {n : Int} (h : 1 ≤ n) (h2 : n ≤ 9) : dMulS (tx [97]) (.int n) = some (wd n.toNat) := by
  have : ∀ k : Fin 10, 1 ≤ k.val → dMulS (tx [97]) (.int (k.val : Int)) = some (wd k.val) := by
    intro k
    match k with
    | ⟨0, _⟩ => intro h; cases h
    | ⟨1, _⟩ => intro _; rfl
    | ⟨2, _⟩ => intro _; rfl
    | ⟨3, _⟩ => intro _; rfl
    | ⟨4, _⟩ => intro _; rfl
    | ⟨5, _⟩ => intro _; rfl
    | ⟨6, _⟩ => intro _; rfl
    | ⟨7, _⟩ => intro _; rfl
    | ⟨8, _⟩ => intro _; rfl
    | ⟨9, _⟩ => intro _; rfl
  have := this ⟨n.toNat, by omega⟩ (by show 1 ≤ n.toNat; omega)
  have e : ((n.toNat : Nat) : Int) = n := by omega
  dsimp only at this
  rw [e] at this
  exact this
theorem wd_list : ∀ {ys : List D}, (∀ y ∈ ys, ∃ n : Nat, y = wd n ∧ 1 ≤ n ∧ n ≤ 9) → ∃ ws : List Nat, ys = ws.map wd ∧ ws.length = ys.length ∧ ∀ n ∈ ws, 1 ≤ n ∧ n ≤ 9
  | [], _ => ⟨[], rfl, rfl, fun _ h => nomatch h⟩
  | y :: ys, h => by
    obtain ⟨n, rfl, hn⟩ := h y (by simp)
    obtain ⟨ws, rfl, e, hw⟩ := wd_list fun y hy => h y (List.mem_cons_of_mem _ hy)
    exact ⟨n :: ws, rfl, by simp, fun m hm => by
      rcases List.mem_cons.mp hm with rfl | hm
      · exact hn
      · exact hw m hm⟩
theorem words_eq (n : Nat) (hn : n ≤ 3) (v1 v2 v3 v4 v5 : Option Sl) (b : Box) : ∃ (ws : List Nat) (b' : Box), goC (gN 6) uYes r_el [6] (rngN 0 n) [] [some (.val (.loc 1)), v1, v2, v3, v4, v5, none] (bom b rest) = .ok (ws.map wd) [some (.val (.loc 1)), v1, v2, v3, v4, v5, none] (bom b' rest) ∧ ws.length = n ∧ ∀ w ∈ ws, 1 ≤ w ∧ w ≤ 9 := by
  obtain ⟨ys, ω', g, ⟨b', rfl⟩, hP, hlen⟩ := goC_inv (te := r_el) (i := 6) (ρ := [some (.val (.loc 1)), v1, v2, v3, v4, v5, none]) (fun ω => ∃ b, ω = bom b rest) (fun y => ∃ n : Nat, y = wd n ∧ 1 ≤ n ∧ n ≤ 9)
    (fun d ω ⟨b, hb⟩ => by
      subst hb
      have e1 := take_eq (m := 9) b rest (by decide) (by decide)
      have k1 := tkv_nn (m := 9) b (by decide)
      have k2 := tkv_lt (m := 9) b (by decide)
      have e2 := a_times (n := 1 + tkv 9 b) (by omega) (by omega)
      refine ⟨_, _, ?_, ⟨tkn 9 b, rfl⟩, ⟨(1 + tkv 9 b).toNat, rfl, by omega, by omega⟩⟩
      simp only [List.set_cons_succ, List.set_cons_zero]
      clear k1 k2
      generalize wd (1 + tkv 9 b).toNat = W at *
      unfold r_el
      walk_at "evx") (rngN 0 n) [] (bom b rest) ⟨b, rfl⟩ (by unfold rngN; simp; exact Nat.le_trans hn (by decide))
  obtain ⟨ws, rfl, k1, k2⟩ := wd_list hP
  refine ⟨ws, b', g, ?_, k2⟩
  rw [k1, hlen]
  unfold rngN
  simp
theorem fst_neg {q : Fr} (h : 0 < q.2) : q.1 < 0 ↔ val q < 0 := by
  have := flt_iff h (b := (0, 1)) (by show (0 : Int) < 1; decide)
  rw [v01] at this
  rw [← this]
  unfold flt
  rw [decide_eq_true_iff]
  constructor <;> intro z <;> omega
structure BgOk (k : Nat) (q : Fr) : Prop where
  d : Dn L30 q
  lo : 0 ≤ val q
  hi : val q ≤ 31 * (k : Rat)
theorem row_turn (b : Box) {rs : List Rr} (hl : rs.length < 20) {q : Fr} (hq : BgOk rs.length q) (x4 x5 : Option Sl) : ∃ (r : Rr) (b' : Box) (q' : Fr) (y4 y5 : Option Sl), r_turn [some (.val (.loc 1)), some (.own (rs.map encR)), some (.val (encF q)), some (.val (.int (rs.length : Int))), x4, x5, none] (bom b rest) =
    .nx [some (.val (.loc 1)), some (.own ((rs ++ [r]).map encR)), some (.val (encF q')), some (.val (.int (rs.length : Int))), y4, y5, none] (bom b' rest) ∧ RrOk r ∧ BgOk (rs.length + 1) q' := by
  have e1 := take_eq (m := 40) b rest (by decide) (by decide)
  have e2 := take_eq (m := 4) (tkn 40 b) rest (by decide) (by decide)
  have b1 := tkv_nn (m := 40) b (by decide)
  have c1 := tkv_lt (m := 40) b (by decide)
  have b2 := tkv_nn (m := 4) (tkn 40 b) (by decide)
  have c2 := tkv_lt (m := 4) (tkn 40 b) (by decide)
  generalize hbb : tkn 4 (tkn 40 b) = bb at *
  have e3 := lfr_eq (t := tkv 40 b - 8) (b := 1 + tkv 4 (tkn 40 b)) (bom bb rest) (by omega) (p9k _ (by omega))
  have sd := dn30_mk (t := tkv 40 b - 8) (d := 1 + tkv 4 (tkn 40 b)) (by omega) (by omega)
  have s1 := val_mk_le (t := tkv 40 b - 8) (d := 1 + tkv 4 (tkn 40 b)) (A := 31) (by omega) (by omega) (by decide)
  have s2 := val_mk_ge (t := tkv 40 b - 8) (d := 1 + tkv 4 (tkn 40 b)) (A := 31) (by omega) (by omega) (by decide)
  have c31 : ((31 : Int) : Rat) = 31 := rfl
  rw [c31] at s1 s2
  generalize hst : mk (tkv 40 b - 8) (1 + tkv 4 (tkn 40 b)) = st at *
  have kn := natCast_le (show rs.length ≤ 20 by omega)
  have k20 : ((20 : Nat) : Rat) = 20 := rfl
  rw [k20] at kn
  have q1 := hq.lo
  have q2 := hq.hi
  have qn : Nm q := nm_of hq.d (by grind) (by grind)
  have sn : Nm st := nm_of sd (by grind) (by grind)
  have e4 := lsum_eq (bom bb rest) qn.bd sn.bd (by decide)
  have v4 := val_sum qn.p sn.p
  have d4 := dn_sum hq.d sd
  generalize hq1 : fsum q st = p at *
  have pp := d4.cn.1
  -- the begin
  have beg : ∃ q', (if p.1 < 0 then ((0, 1) : Fr) else p) = q' ∧ BgOk (rs.length + 1) q' := by
    refine ⟨_, rfl, ?_⟩
    by_cases c : p.1 < 0
    · rw [if_pos c]
      have k0 : ((0 : Nat) : Rat) ≤ ((rs.length + 1 : Nat) : Rat) := natCast_le (by omega)
      have : ((0 : Nat) : Rat) = 0 := rfl
      rw [this] at k0
      exact ⟨dn_int 0, by rw [v01]; exact Rat.le_refl, by rw [v01]; grind⟩
    · rw [if_neg c]
      have : ¬ val p < 0 := fun z => c ((fst_neg pp).mpr z)
      exact ⟨d4, by grind, by rw [v4, natCast_succ]; grind⟩
  obtain ⟨q', hq', bq⟩ := beg
  have r1 := bq.lo
  have r2 := bq.hi
  rw [natCast_succ] at r2
  have qn' : Nm q' := nm_of bq.d (by grind) (by grind)
  have e5 := take_eq (m := 4) bb rest (by decide) (by decide)
  have b5 := tkv_nn (m := 4) bb (by decide)
  have c5 := tkv_lt (m := 4) bb (by decide)
  obtain ⟨ws, b6, e6, wl, wo⟩ := words_eq rest (tkv 4 bb).toNat (by omega) (some (.own (rs.map encR))) (some (.val (encF q'))) (some (.val (.int (rs.length : Int)))) x4 x5 (tkn 4 bb)
  have f6 := fRng1_eq (j := tkv 4 bb) (by omega)
  obtain ⟨t, b7, e7, tt⟩ := ltime_eq rest (m := 20) b6 (by decide) (by decide)
  have t1 := tt.lo
  have t2 := tt.hi
  have c20 : ((20 : Int) : Rat) = 20 := rfl
  rw [c20] at t2
  have tn : Nm t := nm_of tt.d (by grind) (by grind)
  have e8 := lsum_eq (bom b7 rest) qn'.bd tn.bd (by decide)
  have v8 := val_sum qn'.p tn.p
  have d8 := dn_sum bq.d tt.d
  have e9 := take_eq (m := 6) b7 rest (by decide) (by decide)
  have en : Nm (fsum q' t) := nm_of d8 (by rw [v8]; grind) (by rw [v8]; grind)
  have x1 : 0 ≤ val (fsum q' t) ∧ val (fsum q' t) ≤ 2000 := by rw [v8]; constructor <;> grind
  have x2 : 0 ≤ val q' ∧ val q' ≤ 2000 := by constructor <;> grind
  have wl3 : ws.length ≤ 3 := by omega
  generalize hE : fsum q' t = E at *
  by_cases cw : tkv 6 b7 = 1
  · have ap := app_D encR (d := rs) ⟨E, q', rs.length, ws⟩ (by omega)
    refine ⟨⟨E, q', rs.length, ws⟩, tkn 6 b7, q', some (.val (.lst (ws.map wd))), some (.val (encF E)), ?_, ⟨en, qn', x1, x2, wl3, wo⟩, bq⟩
    generalize (rs ++ [(⟨E, q', (rs.length : Int), ws⟩ : Rr)]).map encR = RS at *
    unfold encR at ap
    dsimp only at ap
    clear b1 c1 b2 c2 hbb sd s1 s2 c31 hst kn k20 q1 q2 qn sn v4 d4 hq1 pp bq r1 r2 qn' b5 c5 wl wo tt t1 t2 c20 tn v8 d8 en x1 x2 wl3 hE hq hl
    unfold r_turn uLc
    simp only [clrs, List.set_cons_succ, List.set_cons_zero] at *
    generalize rs.map encR = R0 at *
    generalize (rs.length : Int) = K0 at *
    generalize ws.map wd = WS at *
    generalize r_el = RE at *
    by_cases c : p.1 < 0
    · rw [if_pos c] at hq'
      subst hq'
      have dc : decide (p.1 < 0) = true := decide_eq_true c
      clear c
      walk_at "evx"
    · rw [if_neg c] at hq'
      subst hq'
      have dc : decide (p.1 < 0) = false := decide_eq_false c
      clear c
      walk_at "evx"
  · have ap := app_D encR (d := rs) ⟨q', E, rs.length, ws⟩ (by omega)
    refine ⟨⟨q', E, rs.length, ws⟩, tkn 6 b7, q', some (.val (.lst (ws.map wd))), some (.val (encF E)), ?_, ⟨qn', en, x2, x1, wl3, wo⟩, bq⟩
    generalize (rs ++ [(⟨q', E, (rs.length : Int), ws⟩ : Rr)]).map encR = RS at *
    unfold encR at ap
    dsimp only at ap
    clear b1 c1 b2 c2 hbb sd s1 s2 c31 hst kn k20 q1 q2 qn sn v4 d4 hq1 pp bq r1 r2 qn' b5 c5 wl wo tt t1 t2 c20 tn v8 d8 en x1 x2 wl3 hE hq hl
    unfold r_turn uLc
    simp only [clrs, List.set_cons_succ, List.set_cons_zero] at *
    generalize rs.map encR = R0 at *
    generalize (rs.length : Int) = K0 at *
    generalize ws.map wd = WS at *
    generalize r_el = RE at *
    by_cases c : p.1 < 0
    · rw [if_pos c] at hq'
      subst hq'
      have dc : decide (p.1 < 0) = true := decide_eq_true c
      clear c
      walk_at "evx"
    · rw [if_neg c] at hq'
      subst hq'
      have dc : decide (p.1 < 0) = false := decide_eq_false c
      clear c
      walk_at "evx"
theorem rows_eq (b : Box) : ∃ (rs : List Rr) (b' : Box), S_law_rows [.loc 1] (bom b rest) = .ok (.lst (rs.map encR)) (bom b' rest) ∧ rs.length ≤ 20 ∧ ∀ r ∈ rs, RrOk r := by
  have e1 := take_eq (m := 4) b rest (by decide) (by decide)
  have e2 := take_eq (m := 21) (tkn 4 b) rest (by decide) (by decide)
  have e3 := take_eq (m := 6) (tkn 21 (tkn 4 b)) rest (by decide) (by decide)
  have b1 := tkv_nn (m := 4) b (by decide)
  have c1 := tkv_lt (m := 4) b (by decide)
  have b2 := tkv_nn (m := 21) (tkn 4 b) (by decide)
  have c2 := tkv_lt (m := 21) (tkn 4 b) (by decide)
  have key : ∀ n : Nat, n ≤ 20 → ∃ (rs : List Rr) (b' : Box) (y2 y3 y4 y5 : Option Sl), goL (gN 3) r_turn (rngN 0 n) [some (.val (.loc 1)), some (.own []), some (.val (encF (0, 1))), none, none, none, none] (bom (tkn 6 (tkn 21 (tkn 4 b))) rest) = .nx [some (.val (.loc 1)), some (.own (rs.map encR)), y2, y3, y4, y5, none] (bom b' rest) ∧ rs.length = n ∧ ∀ r ∈ rs, RrOk r := by
    intro n hn
    obtain ⟨ρ1, om1, q, rs, b', q', x3, x4, x5, z1, z2, z3, z4, z5⟩ := goL_range (i := 3) (body := r_turn) (fun k ρ om' => ∃ (rs : List Rr) (b' : Box) (q : Fr) (x3 x4 x5 : Option Sl), ρ = [some (.val (.loc 1)), some (.own (rs.map encR)), some (.val (encF q)), x3, x4, x5, none] ∧ om' = bom b' rest ∧ rs.length = k ∧ (∀ r ∈ rs, RrOk r) ∧ BgOk k q) n (ρ := [some (.val (.loc 1)), some (.own []), some (.val (encF (0, 1))), none, none, none, none]) (om := bom (tkn 6 (tkn 21 (tkn 4 b))) rest) ⟨[], _, (0, 1), none, none, none, rfl, rfl, rfl, (fun r hr => nomatch hr), ⟨dn_int 0, by rw [v01]; exact Rat.le_refl, by rw [v01]; have : ((0 : Nat) : Rat) = 0 := rfl; rw [this]; grind⟩⟩ (fun k ρ om' hk ⟨rs, b', q, x3, x4, x5, z1, z2, z3, z4, z5⟩ => by
      subst z1 z2 z3
      obtain ⟨r, b2, q2, y4, y5, t, ro, bo⟩ := row_turn rest b' (by omega) z5 x4 x5
      refine ⟨_, _, t, rs ++ [r], b2, q2, _, y4, y5, rfl, rfl, by simp, fun y hy => ?_, bo⟩
      rcases List.mem_append.mp hy with hy | hy
      · exact z4 y hy
      · simp at hy; rw [hy]; exact ro)
    rw [z1, z2] at q
    exact ⟨rs, b', _, x3, x4, x5, q, z3, z4⟩
  have nn : (0, 1) = ((0, 1) : Fr) := rfl
  by_cases c : tkv 6 (tkn 21 (tkn 4 b)) = 1
  · obtain ⟨rs, b', y2, y3, y4, y5, g, hl, ho⟩ := key (tkv 21 (tkn 4 b)).toNat (by omega)
    have f1 := fRng1_eq (j := tkv 21 (tkn 4 b)) (by omega)
    refine ⟨rs, b', ?_, by omega, ho⟩
    clear b1 c1 b2 c2 key hl ho
    unfold S_law_rows
    rw [r_turn_top]
    generalize r_turn = RT at *
    generalize rs.map encR = RS at *
    simp only [List.map_nil] at *
    walk_at "evx"
  · obtain ⟨rs, b', y2, y3, y4, y5, g, hl, ho⟩ := key (tkv 4 b).toNat (by omega)
    have f1 := fRng1_eq (j := tkv 4 b) (by omega)
    refine ⟨rs, b', ?_, by omega, ho⟩
    clear b1 c1 b2 c2 key hl ho
    unfold S_law_rows
    rw [r_turn_top]
    generalize r_turn = RT at *
    generalize rs.map encR = RS at *
    simp only [List.map_nil] at *
    walk_at "evx"
end
end Dv

namespace Dv
open PySem PySem.Spec PyProof.Rows L2
local macro_rules | `(tactic| walk_at "ev") => `(tactic| try simp (disch := omega) only [sSeq_eq, seq_nx, seq_rt, seq_rto, seq_xc, seq_bk, seq_ct, seq_ite, sAsg, sAsgO, sExpr, sRet, sRetO, sRetN, sIf, sNext, uVar, uC, uUn, uBin, uB, uNot, uAnd, uOr, uTV, uAndV, uOrV, uNotV, uIf, uChain, uNil, uCons, uTup, uLst, uLstO, uFn, uFnO, uFnOX, uFz, uMv, uNew, uCall, uCallO, uCallN, uBinV, uBinW, uBinL, uMeO, uMeL, uFnV, sSetL, sAsgG, gN, gT2, gT3, gT4, iLst, iFn,   bind_ok, bind_xc, of_ok, of_xc, res_ok, res_xc, res0_ok, own_ok, own_xc, fr_nx, fr_rt, fr_rto, fr_xc, fo_rto, fo_xc, liftO_some, dBool_bl, items_lst, items_frz, ent, defU, defO, List.map_cons, List.map_nil, List.length_cons, List.length_nil, List.cons_append, List.nil_append, List.append_nil, List.replicate, List.getElem?_cons_zero, List.getElem?_cons_succ, List.set_cons_zero, List.set_cons_succ, Nat.zero_add, Nat.reduceAdd, Nat.reduceSub, Nat.reduceLeDiff,   le_big, lt_big, atN_zero, atN_one, atN_two, atN_three, setN_zero, setN_one, popAt_zero, len_zero, len_succ, dMul_r, dMul_l, dDiv_pos, dMod_pos, dAdd_int, dSub_int, dNeg_int, dLt_int, dLe_int, dGt_int, dGe_int, dEq_int, dNe_int, dEq_bl, dNe_bl, dEq_nil, dNe_nil, dIx_lst, dIx_tup, fAbs_int, fInt_bl, fInt_int, fLen_lst, fLen_frz, fLen_tup, ite_true, ite_false, if_true, if_false, Bool.not_true, Bool.not_false, decide_true, decide_false, Bool.true_eq_false, Bool.false_eq_true, reduceIte, reduceCtorEq, turn_nx, turn_ct, turn_bk, turn_rt, turn_rto, turn_xc, sFor_eq, goL_nil, eq_self])
local macro_rules | `(tactic| walk_at "evs") => `(tactic| try simp (disch := omega) only [sSeq_eq, seq_nx, seq_rt, seq_rto, seq_xc, seq_bk, seq_ct, seq_ite, sAsg, sAsgO, sExpr, sRet, sRetO, sRetN, sIf, sNext, uVar, uC, uUn, uBin, uB, uNot, uAnd, uOr, uTV, uAndV, uOrV, uNotV, uIf, uChain, uNil, uCons, uTup, uLst, uLstO, uFn, uFnO, uFnOX, uFz, uMv, uNew, uCall, uCallO, uCallN, uBinV, uBinW, uBinL, uMeO, uMeL, uFnV, sSetL, sAsgG, gN, gT2, gT3, gT4, iLst, iFn,   bind_ok, bind_xc, of_ok, of_xc, res_ok, res_xc, res0_ok, own_ok, own_xc, fr_nx, fr_rt, fr_rto, fr_xc, fo_rto, fo_xc, liftO_some, dBool_bl, items_lst, items_frz, ent, defU, defO, List.map_cons, List.map_nil, List.length_cons, List.length_nil, List.cons_append, List.nil_append, List.append_nil, List.replicate, List.getElem?_cons_zero, List.getElem?_cons_succ, List.set_cons_zero, List.set_cons_succ, Nat.zero_add, Nat.reduceAdd, Nat.reduceSub, Nat.reduceLeDiff,   le_big, lt_big, atN_zero, atN_one, atN_two, atN_three, setN_zero, setN_one, popAt_zero, len_zero, len_succ, dMul_r, dMul_l, dDiv_pos, dMod_pos, dAdd_int, dSub_int, dNeg_int, dLt_int, dLe_int, dGt_int, dGe_int, dEq_int, dNe_int, dEq_bl, dNe_bl, dEq_nil, dNe_nil, dIx_lst, dIx_tup, fAbs_int, fInt_bl, fInt_int, fLen_lst, fLen_frz, fLen_tup, ite_true, ite_false, if_true, if_false, Bool.not_true, Bool.not_false, decide_true, decide_false, Bool.true_eq_false, Bool.false_eq_true, reduceIte, reduceCtorEq, turn_nx, turn_ct, turn_bk, turn_rt, turn_rto, turn_xc, sFor_eq, goL_nil, eq_self, *])
local macro_rules | `(tactic| walk_at "evt") => `(tactic| try simp (disch := first | omega | (simp only [List.length_append, List.length_cons, List.length_nil, List.length_map]; omega)) only [sSeq_eq, seq_nx, seq_rt, seq_rto, seq_xc, seq_bk, seq_ct, seq_ite, sAsg, sAsgO, sExpr, sRet, sRetO, sRetN, sIf, sNext, uVar, uC, uUn, uBin, uB, uNot, uAnd, uOr, uTV, uAndV, uOrV, uNotV, uIf, uChain, uNil, uCons, uTup, uLst, uLstO, uFn, uFnO, uFnOX, uFz, uMv, uNew, uCall, uCallO, uCallN, uBinV, uBinW, uBinL, uMeO, uMeL, uFnV, sSetL, sAsgG, gN, gT2, gT3, gT4, iLst, iFn,   bind_ok, bind_xc, of_ok, of_xc, res_ok, res_xc, res0_ok, own_ok, own_xc, fr_nx, fr_rt, fr_rto, fr_xc, fo_rto, fo_xc, liftO_some, dBool_bl, items_lst, items_frz, ent, defU, defO, List.map_cons, List.map_nil, List.length_cons, List.length_nil, List.cons_append, List.nil_append, List.append_nil, List.replicate, List.getElem?_cons_zero, List.getElem?_cons_succ, List.set_cons_zero, List.set_cons_succ, Nat.zero_add, Nat.reduceAdd, Nat.reduceSub, Nat.reduceLeDiff,   le_big, lt_big, atN_zero, atN_one, atN_two, atN_three, setN_zero, setN_one, popAt_zero, len_zero, len_succ, dMul_r, dMul_l, dDiv_pos, dMod_pos, dAdd_int, dSub_int, dNeg_int, dLt_int, dLe_int, dGt_int, dGe_int, dEq_int, dNe_int, dEq_bl, dNe_bl, dEq_nil, dNe_nil, dIx_lst, dIx_tup, fAbs_int, fInt_bl, fInt_int, fLen_lst, fLen_frz, fLen_tup, ite_true, ite_false, if_true, if_false, Bool.not_true, Bool.not_false, decide_true, decide_false, Bool.true_eq_false, Bool.false_eq_true, reduceIte, reduceCtorEq, turn_nx, turn_ct, turn_bk, turn_rt, turn_rto, turn_xc, sFor_eq, goL_nil, eq_self, sRaise, gT2, gT3, gT4, sAsgG, uM1, uOrS, uSlS, uSlW, uCatV, uPart, uNoPart, iStrU, k_colon, k_blank, k_line, k_f, k_s, k_0, k_empty, k_digits, k_abc, k_alpha, k_cue, k_from, k_to, k_at, k_two, k_fto, k_nl, k_a1, dAdd_tx, fLen_tx, fStr_nat, dEq_tx, dNe_tx, dEq_txn, dNe_txn, len_tx, cutS_l1, cutS_b1, cutS_ln, cutS_bn, dIx_tx0, *])
local macro_rules | `(tactic| walk_at "evx") => `(tactic| try simp (disch := first | omega | (simp only [List.length_append, List.length_cons, List.length_nil, List.length_map]; omega)) only [sSeq_eq, seq_nx, seq_rt, seq_rto, seq_xc, seq_bk, seq_ct, seq_ite, sAsg, sAsgO, sExpr, sRet, sRetO, sRetN, sIf, sNext, uVar, uC, uUn, uBin, uB, uNot, uAnd, uOr, uTV, uAndV, uOrV, uNotV, uIf, uChain, uNil, uCons, uTup, uLst, uLstO, uFn, uFnO, uFnOX, uFz, uMv, uNew, uCall, uCallO, uCallN, uBinV, uBinW, uBinL, uMeO, uMeL, uFnV, sSetL, sAsgG, gN, gT2, gT3, gT4, iLst, iFn,   bind_ok, bind_xc, of_ok, of_xc, res_ok, res_xc, res0_ok, own_ok, own_xc, fr_nx, fr_rt, fr_rto, fr_xc, fo_rto, fo_xc, liftO_some, dBool_bl, items_lst, items_frz, ent, defU, defO, List.map_cons, List.map_nil, List.length_cons, List.length_nil, List.cons_append, List.nil_append, List.append_nil, List.replicate, List.getElem?_cons_zero, List.getElem?_cons_succ, List.set_cons_zero, List.set_cons_succ, Nat.zero_add, Nat.reduceAdd, Nat.reduceSub, Nat.reduceLeDiff,   le_big, lt_big, atN_zero, atN_one, atN_two, atN_three, setN_zero, setN_one, popAt_zero, len_zero, len_succ, dMul_r, dMul_l, dDiv_pos, dMod_pos, dAdd_int, dSub_int, dNeg_int, dLt_int, dLe_int, dGt_int, dGe_int, dEq_int, dNe_int, dEq_bl, dNe_bl, dEq_nil, dNe_nil, dIx_lst, dIx_tup, fAbs_int, fInt_bl, fInt_int, fLen_lst, fLen_frz, fLen_tup, ite_true, ite_false, if_true, if_false, Bool.not_true, Bool.not_false, decide_true, decide_false, Bool.true_eq_false, Bool.false_eq_true, reduceIte, reduceCtorEq, turn_nx, turn_ct, turn_bk, turn_rt, turn_rto, turn_xc, sFor_eq, goL_nil, eq_self, sRaise, gT2, gT3, gT4, sAsgG, see_bl, see_int, see_non, see_tup, see_lst, see_str, uBinX, uUnX, uFnX, uFld, sFldU, uMeth, uMethO, uMake, uCatX, uRev, uMethN, uFrzI, uSlV, uM1, uOrS, uSlS, uSlW, uCatV, uPart, uNoPart, iStrU, k_colon, k_blank, k_line, k_f, k_s, k_0, k_empty, k_digits, k_abc, k_alpha, k_cue, k_from, k_to, k_at, k_two, k_fto, k_nl, k_a1, dAdd_tx, fLen_tx, fStr_nat, dEq_tx, dNe_tx, dEq_txn, dNe_txn, len_tx, cutS_l1, cutS_b1, cutS_ln, cutS_bn, dIx_tx0, *])
/-! ### the law's own gaps, end, times wanted -/
section
variable (om : Om)
theorem far_turn {u : Ru} (hu : RuOk u) {acc : List Fr} (hl : acc.length ≤ 100) {r : Rr} (hr : RrOk r) (x0 x4 : Option Sl) : ∃ y4, f_turn [x0, some (.val (encU u)), some (.own (acc.map encF)), some (.val (encR r)), x4, none] om = .nx [x0, some (.val (encU u)), some (.own ((gstep u acc r).map encF)), some (.val (encR r)), y4, none] om := by
  obtain ⟨k1, k2, k3, k4, k5⟩ := gap_num hu hr
  have g := lens_goC om 5 [x0, some (.val (encU u)), some (.own ((if acc = [] then acc else acc ++ [u.gap]).map encF)), some (.val (encR r)), x4, none] r.ws hr.w hr.l (by simp)
  have f := fSum_lets r.ws
  have e2 := ltimes_eq om k5 hu.each.bd (by decide)
  have e3 := llow_eq om k1.bd hu.least.bd (by decide)
  have ga : gapOf u r = if flt (fmul (lets r.ws, 1) u.each) u.least = true then u.least else fmul (lets r.ws, 1) u.each := rfl
  refine ⟨some (.val (encF (fmul (lets r.ws, 1) u.each))), ?_⟩
  unfold gstep
  simp only [List.set_cons_succ, List.set_cons_zero] at g
  by_cases c : acc = []
  · subst c
    rw [if_pos rfl] at g ⊢
    have ap := app_D encF (d := []) (gapOf u r) (by simp)
    rw [List.nil_append] at ap ⊢
    rw [ga] at ap ⊢
    clear k1 k2 k3 k4 k5 hl hu hr ga
    simp only [List.map_nil] at *
    generalize fmul (lets r.ws, 1) u.each = FM at *
    cases cf : flt FM u.least
    · rw [cf] at e3 ap
      rw [if_neg (by simp)] at ap ⊢
      clear cf
      generalize [FM].map encF = Y at *
      unfold f_turn uLc
      unfold encR encU at *
      generalize (r.ws.map fun n : Nat => (n : Int)).map D.int = YI at *
      generalize r.ws.map wd = W at *
      simp only [clrs, List.set_cons_succ, List.set_cons_zero] at *
      walk_at "evx"
    · rw [cf] at e3 ap
      rw [if_pos rfl] at ap ⊢
      clear cf
      generalize [u.least].map encF = Y at *
      unfold f_turn uLc
      unfold encR encU at *
      generalize (r.ws.map fun n : Nat => (n : Int)).map D.int = YI at *
      generalize r.ws.map wd = W at *
      simp only [clrs, List.set_cons_succ, List.set_cons_zero] at *
      walk_at "evx"
  · rw [if_neg c] at g ⊢
    have ap1 := app_D encF (d := acc) u.gap (by omega)
    have ap2 := app_D encF (d := acc ++ [u.gap]) (gapOf u r) (by simp; omega)
    have dn : dNe (.lst (acc.map encF)) (.lst []) = some (.bl true) := by
      match acc, c with
      | a :: acc', _ => rfl
    rw [ga] at ap2 ⊢
    clear k1 k2 k3 k4 k5 hl hu hr ga c
    generalize fmul (lets r.ws, 1) u.each = FM at *
    cases cf : flt FM u.least
    · rw [cf] at e3 ap2
      rw [if_neg (by simp)] at ap2 ⊢
      clear cf
      generalize (acc ++ [u.gap] ++ [FM]).map encF = Y at *
      generalize (acc ++ [u.gap]).map encF = Y1 at *
      generalize acc.map encF = Y0 at *
      unfold f_turn uLc
      unfold encR encU at *
      generalize (r.ws.map fun n : Nat => (n : Int)).map D.int = YI at *
      generalize r.ws.map wd = W at *
      simp only [clrs, List.set_cons_succ, List.set_cons_zero] at *
      walk_at "evx"
    · rw [cf] at e3 ap2
      rw [if_pos rfl] at ap2 ⊢
      clear cf
      generalize (acc ++ [u.gap] ++ [u.least]).map encF = Y at *
      generalize (acc ++ [u.gap]).map encF = Y1 at *
      generalize acc.map encF = Y0 at *
      unfold f_turn uLc
      unfold encR encU at *
      generalize (r.ws.map fun n : Nat => (n : Int)).map D.int = YI at *
      generalize r.ws.map wd = W at *
      simp only [clrs, List.set_cons_succ, List.set_cons_zero] at *
      walk_at "evx"
theorem far_eq {u : Ru} (hu : RuOk u) {rows : List Rr} (h : ∀ r ∈ rows, RrOk r) (hl : rows.length ≤ 20) : S_law_far [.lst (rows.map encR), encU u] om = .ok (.lst ((gapsF u rows).map encF)) om := by
  obtain ⟨ρ1, om1, g1, x3, x4, q1, q2⟩ := goL_item (i := 3) (body := f_turn) encR (fun p ρ om' => ∃ x3 x4, ρ = [some (.val (.lst (rows.map encR))), some (.val (encU u)), some (.own ((gapsF u p).map encF)), x3, x4, none] ∧ om' = om) rows [] [some (.val (.lst (rows.map encR))), some (.val (encU u)), some (.own []), none, none, none] om (fun p x q ρ om' e ⟨x3, x4, z1, z2⟩ => by
    subst z1 z2
    rw [List.nil_append] at e
    have hx := h x (by rw [e]; simp)
    have lp : p.length < rows.length := by rw [e]; simp
    have gl := (gapsF_len u p).1
    obtain ⟨y4, t⟩ := far_turn om' hu (acc := gapsF u p) (by omega) hx (some (.val (.lst (rows.map encR)))) x4
    rw [gapsF_app]
    exact ⟨_, _, t, _, y4, rfl, rfl⟩) ⟨none, none, rfl, rfl⟩
  rw [List.nil_append] at q1
  subst q1
  rw [q2] at g1
  clear q2 h hl hu
  unfold S_law_far
  rw [f_turn_top]
  generalize f_turn = FT at *
  generalize (gapsF u rows).map encF = Y at *
  generalize rows.map encR = X at *
  simp only [defU, ent, sRetO] at *
  walk_at "evx"
theorem whole_loop {gs : List Fr} (h : ∀ g ∈ gs, GapOk g) (hl : gs.length ≤ 60) (x0 x4 : Option Sl) : ∃ y3, goL (gN 3) e_turn (gs.map encF) [x0, some (.val (.lst (gs.map encF))), some (.val (encF (0, 1))), none, x4] om = .nx [x0, some (.val (.lst (gs.map encF))), some (.val (encF (shK gs gs.length))), y3, x4] om := by
  obtain ⟨ρ1, om1, g1, x3, q1, q2⟩ := goL_item (i := 3) (body := e_turn) encF (fun pre ρ om' => ∃ x3, ρ = [x0, some (.val (.lst (gs.map encF))), some (.val (encF (shK gs pre.length))), x3, x4] ∧ om' = om) gs [] [x0, some (.val (.lst (gs.map encF))), some (.val (encF (0, 1))), none, x4] om (fun p x q ρ om' e ⟨x3, z1, z2⟩ => by
    subst z1 z2
    rw [List.nil_append] at e
    have hx := h x (by rw [e]; simp)
    have lp : p.length < gs.length := by rw [e]; simp
    have s := sh_nm h hl (k := p.length) (by omega)
    have e1 := lsum_eq om' s.bd hx.n.bd (by decide)
    have gk : gs.getD p.length (0, 1) = x := by rw [List.getD_eq_getElem?_getD, e]; simp
    refine ⟨[x0, some (.val (.lst (gs.map encF))), some (.val (encF (shK gs (p ++ [x]).length))), some (.val (encF x)), x4], om', ?_, some (.val (encF x)), rfl, rfl⟩
    have : shK gs (p ++ [x]).length = fsum (shK gs p.length) x := by
      rw [List.length_append]
      show fsum _ (gs.getD p.length (0, 1)) = _
      rw [gk]
    rw [this]
    clear h hl hx lp s gk this e
    generalize gs.map encF = X at *
    unfold e_turn
    walk_at "evx") ⟨none, rfl, rfl⟩
  rw [List.nil_append] at q1
  subst q1
  rw [q2] at g1
  exact ⟨x3, g1⟩
end
theorem end_eq (rest : Om) (b : Box) {gs : List Fr} (h : ∀ g ∈ gs, GapOk g) (hl : gs.length ≤ 60) : ∃ e b', S_law_end [.loc 1, .lst (gs.map encF)] (bom b rest) = .ok (encF e) (bom b' rest) ∧ EndOk e := by
  obtain ⟨s0, s1, s2, s3⟩ := sh_ok h gs.length (Nat.le_refl _)
  have sn := sh_nm h hl (k := gs.length) (Nat.le_refl _)
  have kn := natCast_le hl
  have k60 : ((60 : Nat) : Rat) = 60 := rfl
  rw [k60] at kn
  obtain ⟨y3, g1⟩ := whole_loop (bom b rest) h hl (some (.val (.loc 1))) none
  generalize hw : shK gs gs.length = w at *
  have e1 := take_eq (m := 8) b rest (by decide) (by decide)
  have b1 := tkv_nn (m := 8) b (by decide)
  have c1 := tkv_lt (m := 8) b (by decide)
  have fin : ∀ q : Fr, Nm q → 0 ≤ val q → val q ≤ 20000 → EndOk q := fun q a b c => ⟨a, b, c⟩
  by_cases c0 : tkv 8 b = 0
  · refine ⟨w, tkn 8 b, ?_, fin w sn s2 (by grind)⟩
    clear s0 s1 s2 s3 sn kn k60 hw b1 c1 fin h hl
    unfold S_law_end
    rw [e_turn_top]
    generalize e_turn = ET at *
    generalize gs.map encF = X at *
    walk_at "evx"
  · by_cases c2 : tkv 8 b = 1 ∧ 0 < w.1
    · have e2 := take_eq (m := 10) (tkn 8 b) rest (by decide) (by decide)
      have b2 := tkv_nn (m := 10) (tkn 8 b) (by decide)
      have c3 := tkv_lt (m := 10) (tkn 8 b) (by decide)
      have e3 := lfr_eq (t := tkv 10 (tkn 8 b)) (b := 10) (bom (tkn 10 (tkn 8 b)) rest) (by decide) (p9k _ (by decide))
      have kt := tq_mk (m := 10) (d := 10) b2 (by omega) (by decide) (by decide)
      have d10 : Dn 10 (mk (tkv 10 (tkn 8 b)) 10) := by
        refine ⟨mk_cn (by decide), tkv 10 (tkn 8 b), ?_⟩
        rw [val_mk (by decide)]
        have : ((10 : Nat) : Rat) = ((10 : Int) : Rat) := rfl
        rw [this, Rat.div_def, Rat.mul_assoc, Rat.inv_mul_cancel _ (by decide)]
        grind
      have hv : val (mk (tkv 10 (tkn 8 b)) 10) ≤ 1 := by
        rw [val_mk (by decide), ← Rat.not_lt, Rat.lt_div_iff (by decide), Rat.not_lt]
        have := rle (show tkv 10 (tkn 8 b) ≤ 10 by omega)
        have e10 : ((10 : Int) : Rat) = 10 := rfl
        rw [e10] at this ⊢
        grind
      generalize mk (tkv 10 (tkn 8 b)) 10 = q at *
      have qn : Nm q := nm_of kt.d (by have := kt.lo; grind) (by grind)
      have e4 := ltimes_eq (bom (tkn 10 (tkn 8 b)) rest) sn.bd qn.bd (by decide)
      have v4 := val_mul sn.p qn.p
      have d4 := dn_mul s0 d10
      have m0 := Rat.mul_nonneg s2 kt.lo
      have m1 := Rat.mul_le_mul_of_nonneg_left hv s2
      refine ⟨fmul w q, tkn 10 (tkn 8 b), ?_, fin _ ⟨d4, by rw [v4]; grind, by rw [v4]; grind⟩ (by rw [v4]; exact m0) (by rw [v4]; grind)⟩
      obtain ⟨c2, w1⟩ := c2
      have d1 : decide (0 < w.1) = true := decide_eq_true w1
      have d0 : decide ((1 : Int) = 0) = false := rfl
      clear s0 s1 s2 s3 sn kn k60 hw b1 c1 fin h hl kt d10 hv qn v4 d4 m0 m1 b2 c3 w1
      unfold S_law_end
      rw [e_turn_top]
      generalize e_turn = ET at *
      generalize gs.map encF = X at *
      walk_at "evx"
    · have way : ∃ m : Int, dIx (.lst [.int 10, .int 200]) (.int (tkv 8 b % 2)) = some (.int m) ∧ 0 < m ∧ m ≤ 200 := by
        rcases (show tkv 8 b % 2 = 0 ∨ tkv 8 b % 2 = 1 by omega) with z | z
        · exact ⟨10, by rw [z]; rfl, by decide, by decide⟩
        · exact ⟨200, by rw [z]; rfl, by decide, by decide⟩
      obtain ⟨m, w1, w2, w3⟩ := way
      have md := dMod_pos (i := tkv 8 b) (j := 2) (by decide)
      obtain ⟨t, b', e2, tt⟩ := ltime_eq rest (m := m) (tkn 8 b) w2 (by omega)
      have t1 := tt.lo
      have t2 := tt.hi
      have t3 := rle w3
      have c200 : ((200 : Int) : Rat) = 200 := rfl
      rw [c200] at t3
      have tn : Nm t := nm_of tt.d (by grind) (by grind)
      have e4 := lsum_eq (bom b' rest) sn.bd tn.bd (by decide)
      have v4 := val_sum sn.p tn.p
      refine ⟨fsum w t, b', ?_, fin _ ⟨dn_sum s1 tn.d, by rw [v4]; grind, by rw [v4]; grind⟩ (by rw [v4]; grind) (by rw [v4]; grind)⟩
      have c3 : decide (tkv 8 b = 0) = false := decide_eq_false c0
      by_cases c4 : tkv 8 b = 1
      · have d1 : decide (0 < w.1) = false := decide_eq_false fun z => c2 ⟨c4, z⟩
        have d0 : decide ((1 : Int) = 0) = false := rfl
        clear s0 s1 s2 s3 sn kn k60 hw b1 c1 fin h hl w2 w3 tt t1 t2 t3 c200 tn v4 c2
        unfold S_law_end
        rw [e_turn_top]
        generalize e_turn = ET at *
        generalize gs.map encF = X at *
        rw [c4] at md w1
        walk_at "evx"
      · have d1 : decide (tkv 8 b = 1) = false := decide_eq_false c4
        clear s0 s1 s2 s3 sn kn k60 hw b1 c1 fin h hl w2 w3 tt t1 t2 t3 c200 tn v4 c2
        unfold S_law_end
        rw [e_turn_top]
        generalize e_turn = ET at *
        generalize gs.map encF = X at *
        walk_at "evx"
def wantL (rows : List Rr) (n : Nat) : List Fr := (List.range n).map (twK rows)
theorem wantL_two {rows : List Rr} {k : Nat} {r : Rr} (hr : rows[k]? = some r) : wantL rows (2 * (k + 1)) = wantL rows (2 * k) ++ [r.b, r.e] := by
  have e : 2 * (k + 1) = 2 * k + 1 + 1 := by omega
  unfold wantL
  rw [e, List.range_succ, List.range_succ, List.map_append, List.map_append, List.append_assoc]
  congr 1
  have h1 : 2 * k / 2 = k := by omega
  have h2 : (2 * k + 1) / 2 = k := by omega
  have h3 : 2 * k % 2 = 0 := by omega
  have h4 : (2 * k + 1) % 2 = 1 := by omega
  have t1 : twK rows (2 * k) = r.b := by unfold twK; rw [h1, hr]; dsimp only; rw [if_pos h3]
  have t2 : twK rows (2 * k + 1) = r.e := by unfold twK; rw [h2, hr]; dsimp only; rw [if_neg (by omega)]
  show [twK rows (2 * k), twK rows (2 * k + 1)] = _
  rw [t1, t2]
theorem wanted_eq (om : Om) {rows : List Rr} (hl : rows.length ≤ 20) : S_law_wanted [.lst (rows.map encR)] om = .ok (.lst ((wantL rows (2 * rows.length)).map encF)) om := by
  obtain ⟨ρ1, om1, g1, x2, q1, q2⟩ := goL_item (i := 2) (body := n_turn) encR (fun p ρ om' => ∃ x2, ρ = [some (.val (.lst (rows.map encR))), some (.val (.lst ((wantL rows (2 * p.length)).map encF))), x2] ∧ om' = om) rows [] [some (.val (.lst (rows.map encR))), some (.val (.lst [])), none] om (fun p x q ρ om' e ⟨x2, z1, z2⟩ => by
    subst z1 z2
    rw [List.nil_append] at e
    have hx : rows[p.length]? = some x := by rw [e]; simp
    have lp : p.length < rows.length := by rw [e]; simp
    have w := wantL_two hx
    have ad : dAdd (.lst ((wantL rows (2 * p.length)).map encF)) (.lst [encF x.b, encF x.e]) = some (.lst ((wantL rows (2 * (p.length + 1))).map encF)) := by
      rw [w]
      unfold dAdd
      dsimp only
      rw [if_pos (Nat.le_trans (m := 1000) (by unfold wantL; simp; omega) (by decide))]
      simp
    refine ⟨_, _, ?_, some (.val (encR x)), rfl, rfl⟩
    rw [List.length_append]
    show _ = RS.nx [_, some (.val (.lst ((wantL rows (2 * (p.length + 1))).map encF))), _] om'
    clear hx lp w e hl
    generalize (wantL rows (2 * p.length)).map encF = Y1 at *
    generalize (wantL rows (2 * (p.length + 1))).map encF = Y2 at *
    generalize rows.map encR = X at *
    unfold n_turn
    unfold encR
    generalize x.ws.map wd = W at *
    walk_at "evx") ⟨none, rfl, rfl⟩
  rw [List.nil_append] at q1
  subst q1
  rw [q2] at g1
  have fx := forX_lst (G := gN 2) (b := n_turn) (u := uVar 0) (ρ := [some (.val (.lst (rows.map encR))), some (.val (.lst [])), none]) (ω := om) rfl
  clear q2 hl
  unfold S_law_wanted
  rw [n_turn_top]
  generalize n_turn = NT at *
  generalize (wantL rows (2 * rows.length)).map encF = Y at *
  generalize rows.map encR = X at *
  walk_at "evx"

theorem goX_item {α : Type} {i : Nat} {body : US} (f : α → D) {k : Nat} {om : Om} {l : List α} (hk : om[k]? = some (.lst (l.map f))) (Inv : List α → Rho → Prop) (h : ∀ p x q ρ, l = p ++ x :: q → Inv p ρ → ∃ ρ', body (ρ.set i (some (.val (f x)))) om = .nx ρ' om ∧ Inv (p ++ [x]) ρ') : ∀ (q p : List α) (ρ : Rho), l = p ++ q → Inv p ρ →
    ∃ ρ', goX (gN i) body (getL k) (q.length + 1) p.length ρ om = .nx ρ' om ∧ Inv l ρ'
  | [], p, ρ, e, hi => by
    rw [List.append_nil] at e
    subst e
    exact ⟨ρ, goX_end (ds := l.map f) _ _ _ (by unfold getL; rw [hk]) (by simp), hi⟩
  | x :: q, p, ρ, e, hi => by
    obtain ⟨ρ1, e1, h1⟩ := h p x q ρ e hi
    obtain ⟨ρ2, e2, h2⟩ := goX_item f hk Inv h q (p ++ [x]) ρ1 (by rw [e]; simp) h1
    refine ⟨ρ2, ?_, h2⟩
    rw [List.length_append] at e2
    rw [List.length_cons, goX_next (ds := l.map f) (d := f x) (ρ1 := ρ.set i (some (.val (f x)))) _ _ _ (by unfold getL; rw [hk]) (by rw [e]; simp) rfl, e1, turn_nx]
    exact e2
theorem forL_item {α : Type} {i : Nat} {u : UE} {body : US} (f : α → D) {k : Nat} {om : Om} {ρ : Rho} {l : List α} (hu : u ρ om = .ok (.loc k) ρ om) (hk : om[k]? = some (.lst (l.map f))) (Inv : List α → Rho → Prop) (h : ∀ p x q ρ, l = p ++ x :: q → Inv p ρ → ∃ ρ', body (ρ.set i (some (.val (f x)))) om = .nx ρ' om ∧ Inv (p ++ [x]) ρ') (h0 : Inv [] ρ) : ∃ ρ', sForL u (gN i) body ρ om = .nx ρ' om ∧ Inv l ρ' := by
  obtain ⟨ρ', e, h'⟩ := goX_item f hk Inv h l [] ρ rfl h0
  refine ⟨ρ', ?_, h'⟩
  unfold sForL
  rw [hu]
  have lg : lenG (getL k) ρ om = l.length + 1 := by
    unfold lenG getL
    rw [hk]
    simp
  show goX (gN i) body (getL k) (lenG (getL k) ρ om) 0 ρ om = _
  rw [lg]
  exact e
theorem tmL_two {xs : List (Wn × Fr)} {gs : List Fr} {k : Nat} : tmL xs gs (2 * (k + 1)) = tmL xs gs (2 * k) ++ [tmK xs gs (2 * k), tmK xs gs (2 * k + 1)] := by
  have e : 2 * (k + 1) = 2 * k + 1 + 1 := by omega
  unfold tmL
  rw [e, List.range_succ, List.range_succ, List.map_append, List.map_append, List.append_assoc]
  rfl
theorem wanted_loc (om : Om) {k : Nat} (xs : List (Wn × Fr)) (gs : List Fr) {n : Nat} (hl : n ≤ 20) (hk : om[k]? = some (.lst (prL xs gs n))) : S_law_wanted [.loc k] om = .ok (.lst ((tmL xs gs (2 * n)).map encF)) om := by
  obtain ⟨ρ1, g1, x2, q1⟩ := forL_item (i := 2) (u := uVar 0) (body := n_turn) (fun k : Nat => D.tup [encF (tmK xs gs (2 * k)), encF (tmK xs gs (2 * k + 1))]) (k := k) (om := om) (l := List.range n) (ρ := [some (.val (.loc k)), some (.val (.lst [])), none]) rfl hk (fun p ρ => ∃ x2, ρ = [some (.val (.loc k)), some (.val (.lst ((tmL xs gs (2 * p.length)).map encF))), x2]) (fun p x q ρ e ⟨x2, z1⟩ => by
    subst z1
    have lp : p.length < n := by
      have := congrArg List.length e
      rw [List.length_range] at this
      simp at this
      omega
    have hx : x = p.length := by
      have h1 : (List.range n)[p.length]? = some x := by rw [e]; simp
      rw [List.getElem?_range lp] at h1
      injection h1 with h1
      exact h1.symm
    subst hx
    have w := tmL_two (xs := xs) (gs := gs) (k := p.length)
    have ad : dAdd (.lst ((tmL xs gs (2 * p.length)).map encF)) (.lst [encF (tmK xs gs (2 * p.length)), encF (tmK xs gs (2 * p.length + 1))]) = some (.lst ((tmL xs gs (2 * (p.length + 1))).map encF)) := by
      rw [w]
      unfold dAdd
      dsimp only
      rw [if_pos (Nat.le_trans (m := 1000) (by unfold tmL; simp; omega) (by decide))]
      simp
    refine ⟨_, ?_, some (.val (.tup [encF (tmK xs gs (2 * p.length)), encF (tmK xs gs (2 * p.length + 1))])), rfl⟩
    rw [List.length_append]
    show _ = RS.nx [_, some (.val (.lst ((tmL xs gs (2 * (p.length + 1))).map encF))), _] om
    clear lp w e hl hk
    generalize (tmL xs gs (2 * p.length)).map encF = Y1 at *
    generalize (tmL xs gs (2 * (p.length + 1))).map encF = Y2 at *
    generalize tmK xs gs (2 * p.length) = T1 at *
    generalize tmK xs gs (2 * p.length + 1) = T2 at *
    unfold n_turn
    walk_at "evx") ⟨none, rfl⟩
  rw [q1, List.length_range] at g1
  have fx := forX_loc (G := gN 2) (b := n_turn) (u := uVar 0) (ρ := [some (.val (.loc k)), some (.val (.lst [])), none]) (ω := om) (k := k) rfl
  rw [g1] at fx
  clear q1 hl hk g1
  unfold S_law_wanted
  rw [n_turn_top]
  generalize n_turn = NT at *
  generalize (tmL xs gs (2 * n)).map encF = Y at *
  walk_at "evx"
end Dv

namespace Dv
open PySem PySem.Spec PyProof.Rows L2
local macro_rules | `(tactic| walk_at "ev") => `(tactic| try simp (disch := omega) only [sSeq_eq, seq_nx, seq_rt, seq_rto, seq_xc, seq_bk, seq_ct, seq_ite, sAsg, sAsgO, sExpr, sRet, sRetO, sRetN, sIf, sNext, uVar, uC, uUn, uBin, uB, uNot, uAnd, uOr, uTV, uAndV, uOrV, uNotV, uIf, uChain, uNil, uCons, uTup, uLst, uLstO, uFn, uFnO, uFz, uMv, uNew, uCall, uCallO, uCallN, uBinV, uBinW, uBinL, uMeO, uMeL, uFnV, sSetL, sAsgG, gN, gT2, gT3, gT4, iLst, iFn,   bind_ok, bind_xc, of_ok, of_xc, res_ok, res_xc, res0_ok, own_ok, own_xc, fr_nx, fr_rt, fr_rto, fr_xc, fo_rto, fo_xc, liftO_some, dBool_bl, items_lst, items_frz, ent, defU, defO, List.map_cons, List.map_nil, List.length_cons, List.length_nil, List.cons_append, List.nil_append, List.append_nil, List.replicate, List.getElem?_cons_zero, List.getElem?_cons_succ, List.set_cons_zero, List.set_cons_succ, Nat.zero_add, Nat.reduceAdd, Nat.reduceSub, Nat.reduceLeDiff,   le_big, lt_big, atN_zero, atN_one, atN_two, atN_three, setN_zero, setN_one, popAt_zero, len_zero, len_succ, dMul_r, dMul_l, dDiv_pos, dMod_pos, dAdd_int, dSub_int, dNeg_int, dLt_int, dLe_int, dGt_int, dGe_int, dEq_int, dNe_int, dEq_bl, dNe_bl, dEq_nil, dNe_nil, dIx_lst, dIx_tup, fAbs_int, fInt_bl, fInt_int, fLen_lst, fLen_frz, fLen_tup, ite_true, ite_false, if_true, if_false, Bool.not_true, Bool.not_false, decide_true, decide_false, Bool.true_eq_false, Bool.false_eq_true, reduceIte, reduceCtorEq, turn_nx, turn_ct, turn_bk, turn_rt, turn_rto, turn_xc, sFor_eq, goL_nil, eq_self])
local macro_rules | `(tactic| walk_at "evs") => `(tactic| try simp (disch := omega) only [sSeq_eq, seq_nx, seq_rt, seq_rto, seq_xc, seq_bk, seq_ct, seq_ite, sAsg, sAsgO, sExpr, sRet, sRetO, sRetN, sIf, sNext, uVar, uC, uUn, uBin, uB, uNot, uAnd, uOr, uTV, uAndV, uOrV, uNotV, uIf, uChain, uNil, uCons, uTup, uLst, uLstO, uFn, uFnO, uFz, uMv, uNew, uCall, uCallO, uCallN, uBinV, uBinW, uBinL, uMeO, uMeL, uFnV, sSetL, sAsgG, gN, gT2, gT3, gT4, iLst, iFn,   bind_ok, bind_xc, of_ok, of_xc, res_ok, res_xc, res0_ok, own_ok, own_xc, fr_nx, fr_rt, fr_rto, fr_xc, fo_rto, fo_xc, liftO_some, dBool_bl, items_lst, items_frz, ent, defU, defO, List.map_cons, List.map_nil, List.length_cons, List.length_nil, List.cons_append, List.nil_append, List.append_nil, List.replicate, List.getElem?_cons_zero, List.getElem?_cons_succ, List.set_cons_zero, List.set_cons_succ, Nat.zero_add, Nat.reduceAdd, Nat.reduceSub, Nat.reduceLeDiff,   le_big, lt_big, atN_zero, atN_one, atN_two, atN_three, setN_zero, setN_one, popAt_zero, len_zero, len_succ, dMul_r, dMul_l, dDiv_pos, dMod_pos, dAdd_int, dSub_int, dNeg_int, dLt_int, dLe_int, dGt_int, dGe_int, dEq_int, dNe_int, dEq_bl, dNe_bl, dEq_nil, dNe_nil, dIx_lst, dIx_tup, fAbs_int, fInt_bl, fInt_int, fLen_lst, fLen_frz, fLen_tup, ite_true, ite_false, if_true, if_false, Bool.not_true, Bool.not_false, decide_true, decide_false, Bool.true_eq_false, Bool.false_eq_true, reduceIte, reduceCtorEq, turn_nx, turn_ct, turn_bk, turn_rt, turn_rto, turn_xc, sFor_eq, goL_nil, eq_self, *])
local macro_rules | `(tactic| walk_at "evt") => `(tactic| try simp (disch := first | omega | (simp only [List.length_append, List.length_cons, List.length_nil, List.length_map]; omega)) only [sSeq_eq, seq_nx, seq_rt, seq_rto, seq_xc, seq_bk, seq_ct, seq_ite, sAsg, sAsgO, sExpr, sRet, sRetO, sRetN, sIf, sNext, uVar, uC, uUn, uBin, uB, uNot, uAnd, uOr, uTV, uAndV, uOrV, uNotV, uIf, uChain, uNil, uCons, uTup, uLst, uLstO, uFn, uFnO, uFz, uMv, uNew, uCall, uCallO, uCallN, uBinV, uBinW, uBinL, uMeO, uMeL, uFnV, sSetL, sAsgG, gN, gT2, gT3, gT4, iLst, iFn,   bind_ok, bind_xc, of_ok, of_xc, res_ok, res_xc, res0_ok, own_ok, own_xc, fr_nx, fr_rt, fr_rto, fr_xc, fo_rto, fo_xc, liftO_some, dBool_bl, items_lst, items_frz, ent, defU, defO, List.map_cons, List.map_nil, List.length_cons, List.length_nil, List.cons_append, List.nil_append, List.append_nil, List.replicate, List.getElem?_cons_zero, List.getElem?_cons_succ, List.set_cons_zero, List.set_cons_succ, Nat.zero_add, Nat.reduceAdd, Nat.reduceSub, Nat.reduceLeDiff,   le_big, lt_big, atN_zero, atN_one, atN_two, atN_three, setN_zero, setN_one, popAt_zero, len_zero, len_succ, dMul_r, dMul_l, dDiv_pos, dMod_pos, dAdd_int, dSub_int, dNeg_int, dLt_int, dLe_int, dGt_int, dGe_int, dEq_int, dNe_int, dEq_bl, dNe_bl, dEq_nil, dNe_nil, dIx_lst, dIx_tup, fAbs_int, fInt_bl, fInt_int, fLen_lst, fLen_frz, fLen_tup, ite_true, ite_false, if_true, if_false, Bool.not_true, Bool.not_false, decide_true, decide_false, Bool.true_eq_false, Bool.false_eq_true, reduceIte, reduceCtorEq, turn_nx, turn_ct, turn_bk, turn_rt, turn_rto, turn_xc, sFor_eq, goL_nil, eq_self, sRaise, gT2, gT3, gT4, sAsgG, uM1, uOrS, uSlS, uSlW, uCatV, uPart, uNoPart, iStrU, k_colon, k_blank, k_line, k_f, k_s, k_0, k_empty, k_digits, k_abc, k_alpha, k_cue, k_from, k_to, k_at, k_two, k_fto, k_nl, k_a1, dAdd_tx, fLen_tx, fStr_nat, dEq_tx, dNe_tx, dEq_txn, dNe_txn, len_tx, cutS_l1, cutS_b1, cutS_ln, cutS_bn, dIx_tx0, *])
local macro_rules | `(tactic| walk_at "evx") => `(tactic| try simp (disch := first | omega | (simp only [List.length_append, List.length_cons, List.length_nil, List.length_map]; omega)) only [sSeq_eq, seq_nx, seq_rt, seq_rto, seq_xc, seq_bk, seq_ct, seq_ite, sAsg, sAsgO, sExpr, sRet, sRetO, sRetN, sIf, sNext, uVar, uC, uUn, uBin, uB, uNot, uAnd, uOr, uTV, uAndV, uOrV, uNotV, uIf, uChain, uNil, uCons, uTup, uLst, uLstO, uFn, uFnO, uFz, uMv, uNew, uCall, uCallO, uCallN, uBinV, uBinW, uBinL, uMeO, uMeL, uFnV, sSetL, sAsgG, gN, gT2, gT3, gT4, iLst, iFn,   bind_ok, bind_xc, of_ok, of_xc, res_ok, res_xc, res0_ok, own_ok, own_xc, fr_nx, fr_rt, fr_rto, fr_xc, fo_rto, fo_xc, liftO_some, dBool_bl, items_lst, items_frz, ent, defU, defO, List.map_cons, List.map_nil, List.length_cons, List.length_nil, List.cons_append, List.nil_append, List.append_nil, List.replicate, List.getElem?_cons_zero, List.getElem?_cons_succ, List.set_cons_zero, List.set_cons_succ, Nat.zero_add, Nat.reduceAdd, Nat.reduceSub, Nat.reduceLeDiff,   le_big, lt_big, atN_zero, atN_one, atN_two, atN_three, setN_zero, setN_one, popAt_zero, len_zero, len_succ, dMul_r, dMul_l, dDiv_pos, dMod_pos, dAdd_int, dSub_int, dNeg_int, dLt_int, dLe_int, dGt_int, dGe_int, dEq_int, dNe_int, dEq_bl, dNe_bl, dEq_nil, dNe_nil, dIx_lst, dIx_tup, fAbs_int, fInt_bl, fInt_int, fLen_lst, fLen_frz, fLen_tup, ite_true, ite_false, if_true, if_false, Bool.not_true, Bool.not_false, decide_true, decide_false, Bool.true_eq_false, Bool.false_eq_true, reduceIte, reduceCtorEq, turn_nx, turn_ct, turn_bk, turn_rt, turn_rto, turn_xc, sFor_eq, goL_nil, eq_self, sRaise, gT2, gT3, gT4, sAsgG, see_bl, see_int, see_non, see_tup, see_lst, see_str, uBinX, uUnX, uFnX, uFld, sFldU, uMeth, uMethO, uMake, uCatX, uRev, uMethN, uFrzI, uSlV, uM1, uOrS, uSlS, uSlW, uCatV, uPart, uNoPart, iStrU, k_colon, k_blank, k_line, k_f, k_s, k_0, k_empty, k_digits, k_abc, k_alpha, k_cue, k_from, k_to, k_at, k_two, k_fto, k_nl, k_a1, dAdd_tx, fLen_tx, fStr_nat, dEq_tx, dNe_tx, dEq_txn, dNe_txn, len_tx, cutS_l1, cutS_b1, cutS_ln, cutS_bn, dIx_tx0, *])
/-! ### the law's moved -/
theorem sTryAs_xc {i : Nat} {kn : List (Str × Bool)} {b h : US} {ρ ρ' : Rho} {ω ω' : Om} {c : Str} (e : b ρ ω = .xc ⟨c, []⟩ ρ' ω') (hk : kn.lookup c = some true) : sTryAs i kn b h ρ ω = (h (ρ'.set i (some (.exc ⟨c, []⟩))) ω').clr i := by
  unfold sTryAs
  rw [e]
  dsimp only
  rw [hk]
  rfl
theorem sTryAs_rt {i : Nat} {kn : List (Str × Bool)} {b h : US} {ρ : Rho} {ω ω' : Om} {d : D} (e : b ρ ω = .rt d ω') : sTryAs i kn b h ρ ω = .rt d ω' := by
  unfold sTryAs
  rw [e]
theorem uIsE_eq {i : Nat} {kn : List (Str × Bool)} {ρ : Rho} {ω : Om} {x : DX} {b : Bool} (e : ρ[i]? = some (some (.exc x))) (hk : kn.lookup x.c = some b) : uIsE i kn ρ ω = .ok (.bl b) ρ ω := by
  unfold uIsE
  rw [e]
  dsimp only
  rw [hk]
def tightD : D := .tup [.str (Str.ofString "tight"), .bl true]
theorem lmoved_ok {om om' : Om} {x y z d : D} (e : S_moved [x, y, z] om = .ok d om') : S_law_moved [x, y, z] om = .ok d om' := by
  have t : sTryAs 3 knl_ReelError (sRet (uCall 3 S_moved (uCons (uVar 0) (uCons (uVar 1) (uCons (uVar 2) uNil))))) (sRet (uTup (uCons (uC (.str (Str.ofString "tight"))) (uCons (uAndV (uIsE 3 knl_TooTight) (uIsE 3 knl_ValueError)) uNil)))) [some (.val x), some (.val y), some (.val z), none] om = .rt d om' := sTryAs_rt (by walk_at "evx")
  unfold S_law_moved u_law_moved
  show ((sTryAs 3 knl_ReelError _ _ [some (.val x), some (.val y), some (.val z), none] om)).fr = _
  rw [t]
  rfl
theorem lmoved_tight {om om' : Om} {x y z : D} (e : S_moved [x, y, z] om = .xc ⟨"TooTight", []⟩ om') : S_law_moved [x, y, z] om = .ok tightD om' := by
  have b : (sRet (uCall 3 S_moved (uCons (uVar 0) (uCons (uVar 1) (uCons (uVar 2) uNil))))) [some (.val x), some (.val y), some (.val z), none] om = .xc ⟨"TooTight", []⟩ [some (.val x), some (.val y), some (.val z), none] om' := by walk_at "evx"
  have t := sTryAs_xc (i := 3) (kn := knl_ReelError) (h := sRet (uTup (uCons (uC (.str (Str.ofString "tight"))) (uCons (uAndV (uIsE 3 knl_TooTight) (uIsE 3 knl_ValueError)) uNil)))) b rfl
  unfold S_law_moved u_law_moved
  show ((sTryAs 3 knl_ReelError _ _ [some (.val x), some (.val y), some (.val z), none] om)).fr = _
  rw [t]
  have i1 : uIsE 3 knl_TooTight [some (.val x), some (.val y), some (.val z), some (.exc ⟨"TooTight", []⟩)] om' = .ok (.bl true) [some (.val x), some (.val y), some (.val z), some (.exc ⟨"TooTight", []⟩)] om' := uIsE_eq rfl rfl
  have i2 : uIsE 3 knl_ValueError [some (.val x), some (.val y), some (.val z), some (.exc ⟨"TooTight", []⟩)] om' = .ok (.bl true) [some (.val x), some (.val y), some (.val z), some (.exc ⟨"TooTight", []⟩)] om' := uIsE_eq rfl rfl
  have hh : (sRet (uTup (uCons (uC (.str (Str.ofString "tight"))) (uCons (uAndV (uIsE 3 knl_TooTight) (uIsE 3 knl_ValueError)) uNil)))) [some (.val x), some (.val y), some (.val z), some (.exc ⟨"TooTight", []⟩)] om' = .rt tightD om' := by
    clear e b t
    unfold tightD
    generalize Str.ofString "tight" = TI
    walk_at "evx"
  simp only [List.set_cons_succ, List.set_cons_zero]
  rw [hh]
  rfl
theorem eq_tight : dEq tightD tightD = some (.bl true) := by
  have e : eqPy tightD tightD = some true := eqPy_self (by decide +kernel)
  unfold dEq
  have : dEqB tightD tightD = eqPy tightD tightD := rfl
  rw [this, e]
theorem ne_tight {a b c : D} (h : shp 64 (.tup [a, b, c]) = true) : dEq (.tup [a, b, c]) tightD = some (.bl false) := by
  obtain ⟨p, h1, h2, h3, h4⟩ := shp_py 64 _ h
  obtain ⟨q, k1, k2, k3, k4⟩ := shp_py 64 tightD (by decide +kernel)
  have hs : SeqAt.shaped p = true := by unfold SeqAt.shaped; rw [h2, decide_eq_true h3]; rfl
  have ks : SeqAt.shaped q = true := by unfold SeqAt.shaped; rw [k2, decide_eq_true k3]; rfl
  have e : eqPy (.tup [a, b, c]) tightD = some false := by
    unfold eqPy
    rw [h1, k1]
    dsimp only
    rw [if_pos ⟨hs, ks⟩]
    congr 1
    unfold tightD at k1
    simp only [toPy, toPys] at h1 k1
    cases ha : toPy a <;> rw [ha] at h1 <;> try simp at h1
    cases hb : toPy b <;> rw [hb] at h1 <;> try simp at h1
    cases hc : toPy c <;> rw [hc] at h1 <;> try simp at h1
    simp at k1
    subst h1
    subst k1
    simp [PyData.eqv, PyData.eqvAll]
  unfold dEq
  have : dEqB (.tup [a, b, c]) tightD = eqPy (.tup [a, b, c]) tightD := rfl
  rw [this, e]
/-! ### the cost by the prices -/
theorem prq_of {H : Rat} : ∀ (its : List It) (p : Int) (qs : List Int), PrR its p qs H → PrQ its p qs H
  | [], _, [], _ => trivial
  | x :: r, p, q :: qs, h => ⟨h.1, h.2.1, h.2.2.1, h.2.2.2.1, prq_of r q qs h.2.2.2.2⟩
  | [], _, _ :: _, h => h.elim
  | _ :: _, _, [], h => h.elim
theorem pr_rise {H : Rat} : ∀ (its : List It) (p : Int) (qs : List Int), PrQ its p qs H → (∀ x ∈ its, 0 < x.1.2) → ∀ (k : Nat) (x : It), its[k]? = some x → -x.1.2 ≤ (p :: qs).getD (k + 1) 0 - (p :: qs).getD k 0 ∧ (p :: qs).getD (k + 1) 0 - (p :: qs).getD k 0 ≤ x.1.2
  | [], _, _, _, _, k, x, hx => by simp at hx
  | y :: r, p, q :: qs, h, hw, 0, x, hx => by
    simp at hx
    subst hx
    obtain ⟨h1, h2, _⟩ := h
    have l : LD [y.1] y.2 = (if y.1.1 < y.2 then y.1.2 else -y.1.2) + 0 := rfl
    have r' : RD [y.1] y.2 = (if y.1.1 ≤ y.2 then y.1.2 else -y.1.2) + 0 := rfl
    have w0 := hw y (by simp)
    show -y.1.2 ≤ q - p ∧ q - p ≤ y.1.2
    constructor
    · split at r' <;> omega
    · split at l <;> omega
  | y :: r, p, q :: qs, h, hw, k + 1, x, hx => pr_rise r q qs h.2.2.2.2 (fun z hz => hw z (by simp [hz])) k x (by simpa using hx)
  | _ :: _, _, [], h, _, _, _, _ => h.elim
theorem ds_step : ∀ (its : List It) (p : Int) (qs : List Int) (k : Nat) (x : It), its[k]? = some x → k < qs.length →
    DS (its.take (k + 1)) p (qs.take (k + 1)) = DS (its.take k) p (qs.take k) + (((p :: qs).getD (k + 1) 0 - (p :: qs).getD k 0 : Int) : Rat) * x.1.1
  | [], _, _, _, _, hx, _ => by simp at hx
  | y :: r, p, [], _, _, _, hl => by simp at hl
  | y :: r, p, q :: qs, 0, x, hx, _ => by
    simp at hx
    subst hx
    show ((q - p : Int) : Rat) * y.1.1 + DS (r.take 0) q (qs.take 0) = (0 : Rat) + ((q - p : Int) : Rat) * y.1.1
    have : DS (r.take 0) q (qs.take 0) = 0 := by simp [DS]
    rw [this]
    grind
  | y :: r, p, q :: qs, k + 1, x, hx, hl => by
    have ih := ds_step r q qs k x (by simpa using hx) (by simpa using hl)
    show ((q - p : Int) : Rat) * y.1.1 + DS (r.take (k + 1)) q (qs.take (k + 1)) = (((q - p : Int) : Rat) * y.1.1 + DS (r.take k) q (qs.take k)) + (((q :: qs).getD (k + 1) 0 - (q :: qs).getD k 0 : Int) : Rat) * x.1.1
    rw [ih]
    grind
theorem lst_get : ∀ (qs : List Int) (p : Int), lst p qs = (p :: qs).getD qs.length 0
  | [], p => rfl
  | q :: qs, p => lst_get qs q
theorem cv_sum : ∀ xs : List (Wn × Fr), (xs.map fun x => rabs (val x.2 - val x.1.v) * (x.1.w : Rat)).sum = Cv (xs.map itOf)
  | [] => rfl
  | x :: xs => by
    rw [List.map_cons, List.sum_cons, cv_sum xs]
    rfl
theorem imul {i A : Int} {x : Fr} {B : Rat} (hx : Nm x) (h0 : 0 ≤ val x) (hB : val x ≤ B) (h1 : -A ≤ i) (h2 : i ≤ A) : Dn DM (fmul (i, 1) x) ∧ val (fmul (i, 1) x) = (i : Rat) * val x ∧ -((A : Rat) * B) ≤ val (fmul (i, 1) x) ∧ val (fmul (i, 1) x) ≤ (A : Rat) * B := by
  have d := dn_mul (dn_int (D := 1) i) hx.d
  rw [Nat.one_mul] at d
  have v : val (fmul (i, 1) x) = (i : Rat) * val x := by rw [val_mul (cn_i _).1 hx.p, v_int]
  have r1 := rle h1
  have r2 := rle h2
  rw [Rat.intCast_neg] at r1
  have a0 : (0 : Rat) ≤ (A : Rat) := by grind
  have m1 := Rat.mul_le_mul_of_nonneg_right r1 h0
  have m2 := Rat.mul_le_mul_of_nonneg_right r2 h0
  have m3 := Rat.mul_le_mul_of_nonneg_left hB a0
  exact ⟨d, v, by rw [v]; grind, by rw [v]; grind⟩
theorem ibd {i : Int} (h1 : -1000 ≤ i) (h2 : i ≤ 1000) : Bd 10 ((i, 1) : Fr) := ⟨show (0 : Int) < 1 by decide, by
    show i.natAbs < 2 ^ 10
    have e : (2 : Nat) ^ 10 = 1024 := by decide
    omega, show (1 : Int).natAbs < 2 ^ 10 by decide⟩
section
variable {u : Ru} {rows : List Rr} {gs : List Fr} {N : Nat} (m : MvIn u rows gs N) {e : Fr} (he : EndOk e) {xs : List (Wn × Fr)} {p : Int} {qs : List Int} (mo : MvOut u rows gs N e xs p qs)
include m he mo
theorem pk_ok {k : Nat} (hk : k ≤ N) : 0 ≤ (p :: qs).getD k 0 ∧ (p :: qs).getD k 0 ≤ 800 := by
  have : k < (p :: qs).length := by simp [mo.ql]; omega
  rw [List.getD_eq_getElem?_getD, List.getElem?_eq_getElem this]
  exact mo.pb _ (List.getElem_mem this)
theorem it_get {k : Nat} (hk : k < N) : ∃ X, (xs.map itOf)[k]? = some X ∧ X.1.1 = val (twK rows k) - val (shK gs k) ∧ X.1.2 = wtK u k := by
  have h1 : (xs.map (·.1))[k]? = some (wnK u rows gs k) := by
    rw [mo.w]
    unfold wnL
    rw [List.getElem?_map, List.getElem?_range hk]
    rfl
  rw [List.getElem?_map] at h1
  cases hx : xs[k]? with
  | none => rw [hx] at h1; cases h1
  | some x =>
    rw [hx] at h1
    have h2 : x.1 = wnK u rows gs k := by injection h1
    refine ⟨itOf x, by rw [List.getElem?_map, hx]; rfl, ?_, ?_⟩
    · show val x.1.v = _
      rw [h2]
      exact (mv_wn m hk).2
    · show x.1.w = _
      rw [h2]
      rfl
theorem wts_pos : ∀ x ∈ xs.map itOf, 0 < x.1.2 := by
  intro x hx
  obtain ⟨y, hy, rfl⟩ := List.mem_map.mp hx
  have := (mo.ok y hy).1.w.w
  show 0 < y.1.w
  omega
theorem rise_ok {k : Nat} (hk : k < N) : -(wtK u k) ≤ (p :: qs).getD (k + 1) 0 - (p :: qs).getD k 0 ∧ (p :: qs).getD (k + 1) 0 - (p :: qs).getD k 0 ≤ wtK u k ∧ wtK u k ≤ 9 := by
  obtain ⟨X, x1, x2, x3⟩ := it_get m he mo hk
  have := pr_rise _ p qs (prq_of _ p qs mo.pr) (wts_pos m he mo) k X x1
  rw [x3] at this
  refine ⟨this.1, this.2, ?_⟩
  have w0 := m.uo.w0
  have w1 := m.uo.w1
  unfold wtK
  split <;> omega
theorem gap_get {k : Nat} (hk : k < N) (h0 : k ≠ 0) : ∃ g, gs[k - 1]? = some g ∧ gs.getD (k - 1) (0, 1) = g ∧ GapOk g ∧ val (shK gs k) = val (shK gs (k - 1)) + val g := by
  obtain ⟨g1, g2⟩ := mv_gs m
  have hl : k - 1 < gs.length := by omega
  refine ⟨gs[k - 1], List.getElem?_eq_getElem hl, by rw [List.getD_eq_getElem?_getD, List.getElem?_eq_getElem hl]; rfl, g1 _ (List.getElem_mem hl), ?_⟩
  have := sh_val g1 hl
  have e1 : k - 1 + 1 = k := by omega
  rw [e1] at this
  exact this
end
end Dv

namespace Dv
open PySem PySem.Spec PyProof.Rows L2
local macro_rules | `(tactic| walk_at "ev") => `(tactic| try simp (disch := omega) only [sSeq_eq, seq_nx, seq_rt, seq_rto, seq_xc, seq_bk, seq_ct, seq_ite, sAsg, sAsgO, sExpr, sRet, sRetO, sRetN, sIf, sNext, uVar, uC, uUn, uBin, uB, uNot, uAnd, uOr, uTV, uAndV, uOrV, uNotV, uIf, uChain, uNil, uCons, uTup, uLst, uLstO, uFn, uFnO, uFz, uMv, uNew, uCall, uCallO, uCallN, uBinV, uBinW, uBinL, uMeO, uMeL, uFnV, sSetL, sAsgG, gN, gT2, gT3, gT4, iLst, iFn,   bind_ok, bind_xc, of_ok, of_xc, res_ok, res_xc, res0_ok, own_ok, own_xc, fr_nx, fr_rt, fr_rto, fr_xc, fo_rto, fo_xc, liftO_some, dBool_bl, items_lst, items_frz, ent, defU, defO, List.map_cons, List.map_nil, List.length_cons, List.length_nil, List.cons_append, List.nil_append, List.append_nil, List.replicate, List.getElem?_cons_zero, List.getElem?_cons_succ, List.set_cons_zero, List.set_cons_succ, Nat.zero_add, Nat.reduceAdd, Nat.reduceSub, Nat.reduceLeDiff,   le_big, lt_big, atN_zero, atN_one, atN_two, atN_three, setN_zero, setN_one, popAt_zero, len_zero, len_succ, dMul_r, dMul_l, dDiv_pos, dMod_pos, dAdd_int, dSub_int, dNeg_int, dLt_int, dLe_int, dGt_int, dGe_int, dEq_int, dNe_int, dEq_bl, dNe_bl, dEq_nil, dNe_nil, dIx_lst, dIx_tup, fAbs_int, fInt_bl, fInt_int, fLen_lst, fLen_frz, fLen_tup, ite_true, ite_false, if_true, if_false, Bool.not_true, Bool.not_false, decide_true, decide_false, Bool.true_eq_false, Bool.false_eq_true, reduceIte, reduceCtorEq, turn_nx, turn_ct, turn_bk, turn_rt, turn_rto, turn_xc, sFor_eq, goL_nil, eq_self])
local macro_rules | `(tactic| walk_at "evs") => `(tactic| try simp (disch := omega) only [sSeq_eq, seq_nx, seq_rt, seq_rto, seq_xc, seq_bk, seq_ct, seq_ite, sAsg, sAsgO, sExpr, sRet, sRetO, sRetN, sIf, sNext, uVar, uC, uUn, uBin, uB, uNot, uAnd, uOr, uTV, uAndV, uOrV, uNotV, uIf, uChain, uNil, uCons, uTup, uLst, uLstO, uFn, uFnO, uFz, uMv, uNew, uCall, uCallO, uCallN, uBinV, uBinW, uBinL, uMeO, uMeL, uFnV, sSetL, sAsgG, gN, gT2, gT3, gT4, iLst, iFn,   bind_ok, bind_xc, of_ok, of_xc, res_ok, res_xc, res0_ok, own_ok, own_xc, fr_nx, fr_rt, fr_rto, fr_xc, fo_rto, fo_xc, liftO_some, dBool_bl, items_lst, items_frz, ent, defU, defO, List.map_cons, List.map_nil, List.length_cons, List.length_nil, List.cons_append, List.nil_append, List.append_nil, List.replicate, List.getElem?_cons_zero, List.getElem?_cons_succ, List.set_cons_zero, List.set_cons_succ, Nat.zero_add, Nat.reduceAdd, Nat.reduceSub, Nat.reduceLeDiff,   le_big, lt_big, atN_zero, atN_one, atN_two, atN_three, setN_zero, setN_one, popAt_zero, len_zero, len_succ, dMul_r, dMul_l, dDiv_pos, dMod_pos, dAdd_int, dSub_int, dNeg_int, dLt_int, dLe_int, dGt_int, dGe_int, dEq_int, dNe_int, dEq_bl, dNe_bl, dEq_nil, dNe_nil, dIx_lst, dIx_tup, fAbs_int, fInt_bl, fInt_int, fLen_lst, fLen_frz, fLen_tup, ite_true, ite_false, if_true, if_false, Bool.not_true, Bool.not_false, decide_true, decide_false, Bool.true_eq_false, Bool.false_eq_true, reduceIte, reduceCtorEq, turn_nx, turn_ct, turn_bk, turn_rt, turn_rto, turn_xc, sFor_eq, goL_nil, eq_self, *])
local macro_rules | `(tactic| walk_at "evt") => `(tactic| try simp (disch := first | omega | (simp only [List.length_append, List.length_cons, List.length_nil, List.length_map]; omega)) only [sSeq_eq, seq_nx, seq_rt, seq_rto, seq_xc, seq_bk, seq_ct, seq_ite, sAsg, sAsgO, sExpr, sRet, sRetO, sRetN, sIf, sNext, uVar, uC, uUn, uBin, uB, uNot, uAnd, uOr, uTV, uAndV, uOrV, uNotV, uIf, uChain, uNil, uCons, uTup, uLst, uLstO, uFn, uFnO, uFz, uMv, uNew, uCall, uCallO, uCallN, uBinV, uBinW, uBinL, uMeO, uMeL, uFnV, sSetL, sAsgG, gN, gT2, gT3, gT4, iLst, iFn,   bind_ok, bind_xc, of_ok, of_xc, res_ok, res_xc, res0_ok, own_ok, own_xc, fr_nx, fr_rt, fr_rto, fr_xc, fo_rto, fo_xc, liftO_some, dBool_bl, items_lst, items_frz, ent, defU, defO, List.map_cons, List.map_nil, List.length_cons, List.length_nil, List.cons_append, List.nil_append, List.append_nil, List.replicate, List.getElem?_cons_zero, List.getElem?_cons_succ, List.set_cons_zero, List.set_cons_succ, Nat.zero_add, Nat.reduceAdd, Nat.reduceSub, Nat.reduceLeDiff,   le_big, lt_big, atN_zero, atN_one, atN_two, atN_three, setN_zero, setN_one, popAt_zero, len_zero, len_succ, dMul_r, dMul_l, dDiv_pos, dMod_pos, dAdd_int, dSub_int, dNeg_int, dLt_int, dLe_int, dGt_int, dGe_int, dEq_int, dNe_int, dEq_bl, dNe_bl, dEq_nil, dNe_nil, dIx_lst, dIx_tup, fAbs_int, fInt_bl, fInt_int, fLen_lst, fLen_frz, fLen_tup, ite_true, ite_false, if_true, if_false, Bool.not_true, Bool.not_false, decide_true, decide_false, Bool.true_eq_false, Bool.false_eq_true, reduceIte, reduceCtorEq, turn_nx, turn_ct, turn_bk, turn_rt, turn_rto, turn_xc, sFor_eq, goL_nil, eq_self, sRaise, gT2, gT3, gT4, sAsgG, uM1, uOrS, uSlS, uSlW, uCatV, uPart, uNoPart, iStrU, k_colon, k_blank, k_line, k_f, k_s, k_0, k_empty, k_digits, k_abc, k_alpha, k_cue, k_from, k_to, k_at, k_two, k_fto, k_nl, k_a1, dAdd_tx, fLen_tx, fStr_nat, dEq_tx, dNe_tx, dEq_txn, dNe_txn, len_tx, cutS_l1, cutS_b1, cutS_ln, cutS_bn, dIx_tx0, *])
local macro_rules | `(tactic| walk_at "evx") => `(tactic| try simp (disch := first | omega | (simp only [List.length_append, List.length_cons, List.length_nil, List.length_map]; omega)) only [sSeq_eq, seq_nx, seq_rt, seq_rto, seq_xc, seq_bk, seq_ct, seq_ite, sAsg, sAsgO, sExpr, sRet, sRetO, sRetN, sIf, sNext, uVar, uC, uUn, uBin, uB, uNot, uAnd, uOr, uTV, uAndV, uOrV, uNotV, uIf, uChain, uNil, uCons, uTup, uLst, uLstO, uFn, uFnO, uFz, uMv, uNew, uCall, uCallO, uCallN, uBinV, uBinW, uBinL, uMeO, uMeL, uFnV, sSetL, sAsgG, gN, gT2, gT3, gT4, iLst, iFn,   bind_ok, bind_xc, of_ok, of_xc, res_ok, res_xc, res0_ok, own_ok, own_xc, fr_nx, fr_rt, fr_rto, fr_xc, fo_rto, fo_xc, liftO_some, dBool_bl, items_lst, items_frz, ent, defU, defO, List.map_cons, List.map_nil, List.length_cons, List.length_nil, List.cons_append, List.nil_append, List.append_nil, List.replicate, List.getElem?_cons_zero, List.getElem?_cons_succ, List.set_cons_zero, List.set_cons_succ, Nat.zero_add, Nat.reduceAdd, Nat.reduceSub, Nat.reduceLeDiff,   le_big, lt_big, atN_zero, atN_one, atN_two, atN_three, setN_zero, setN_one, popAt_zero, len_zero, len_succ, dMul_r, dMul_l, dDiv_pos, dMod_pos, dAdd_int, dSub_int, dNeg_int, dLt_int, dLe_int, dGt_int, dGe_int, dEq_int, dNe_int, dEq_bl, dNe_bl, dEq_nil, dNe_nil, dIx_lst, dIx_tup, fAbs_int, fInt_bl, fInt_int, fLen_lst, fLen_frz, fLen_tup, ite_true, ite_false, if_true, if_false, Bool.not_true, Bool.not_false, decide_true, decide_false, Bool.true_eq_false, Bool.false_eq_true, reduceIte, reduceCtorEq, turn_nx, turn_ct, turn_bk, turn_rt, turn_rto, turn_xc, sFor_eq, goL_nil, eq_self, sRaise, gT2, gT3, gT4, sAsgG, see_bl, see_int, see_non, see_tup, see_lst, see_str, uBinX, uUnX, uFnX, uFld, sFldU, uMeth, uMethO, uMake, uCatX, uRev, uMethN, uFrzI, uSlV, uM1, uOrS, uSlS, uSlW, uCatV, uPart, uNoPart, iStrU, k_colon, k_blank, k_line, k_f, k_s, k_0, k_empty, k_digits, k_abc, k_alpha, k_cue, k_from, k_to, k_at, k_two, k_fto, k_nl, k_a1, dAdd_tx, fLen_tx, fStr_nat, dEq_tx, dNe_tx, dEq_txn, dNe_txn, len_tx, cutS_l1, cutS_b1, cutS_ln, cutS_bn, dIx_tx0, *])
def c_turn : US := (sSeq (sAsg 5 (uCall 2 S_law_minus (uCons (uBin dIx (uVar 1) (uVar 4)) (uCons (uBin dIx (uVar 0) (uVar 4)) uNil))))
    (sAsg 3 (uCall 2 S_law_sum (uCons (uVar 3) (uCons (uCall 2 S_law_times (uCons (uTup (uCons (uFn fAbs (uCons (uBin dIx (uVar 5) (uC (.int 0))) uNil)) (uCons (uBin dIx (uVar 5) (uC (.int 1))) uNil))) (uCons (uTup (uCons (uBin dIx (uVar 2) (uBin dAdd (uC (.int 3)) (uBin dMod (uVar 4) (uC (.int 2))))) (uCons (uC (.int 1)) uNil))) uNil))) uNil)))))
theorem c_top : u_law_cost = (sSeq (sAsg 3 (uTup (uCons (uC (.int 0)) (uCons (uC (.int 1)) uNil)))) (sSeq (sFor (iFn fRng1 (uCons (uFn fLen (uCons (uVar 0) uNil)) uNil)) (gN 4) c_turn) (sRet (uVar 3)))) := rfl
/-! ### other times -/
structure Nd (D : Nat) (x : Fr) : Prop where
  d : Dn D x
  lo : -100000000 ≤ val x
  hi : val x ≤ 100000000
@[reducible] def DB : Nat := 2 ^ 60
theorem Nd.bd {D : Nat} {x : Fr} (h : Nd D x) (h0 : 0 < D) (h1 : D ≤ DB) : Bd 100 x := by
  have e : ((100000000 : Nat) : Rat) = 100000000 := rfl
  have m : (100000000 + 1) * D ≤ (100000000 + 1) * DB := Nat.mul_le_mul_left _ h1
  exact dn_bd (V := 100000000) h.d h0 (by rw [e]; exact h.lo) (by rw [e]; exact h.hi) (Nat.lt_of_le_of_lt m (by decide))
theorem Nd.p {D : Nat} {x : Fr} (h : Nd D x) : 0 < x.2 := h.d.cn.1
theorem Nm.nd {x : Fr} (h : Nm x) (W : Nat) : Nd (DM * W) x := ⟨dn_up h.d, h.lo, h.hi⟩
def lfK (e : Fr) (gs : List Fr) : Nat → Fr
  | 0 => e
  | k + 1 => fsub (lfK e gs k) (gs.getD k (0, 1))
theorem lf_ok {e : Fr} (he : EndOk e) {gs : List Fr} (h : ∀ g ∈ gs, GapOk g) : ∀ k, k ≤ gs.length → Dn DM (lfK e gs k) ∧ val (lfK e gs k) = val e - val (shK gs k)
  | 0, _ => ⟨he.n.d, by show val e = val e - val (0, 1); rw [v01]; grind⟩
  | k + 1, hk => by
    obtain ⟨a, b⟩ := lf_ok he h k (by omega)
    have gk : gs.getD k (0, 1) = gs[k]'(by omega) := by rw [List.getD_eq_getElem?_getD, List.getElem?_eq_getElem (by omega)]; rfl
    have g := h _ (List.getElem_mem (show k < gs.length by omega))
    have v := val_sub a.cn.1 g.n.p
    have s := sh_val h (show k < gs.length by omega)
    refine ⟨by show Dn DM (fsub _ _); rw [gk]; exact dn_sub a g.n.d, ?_⟩
    show val (fsub _ _) = _
    rw [gk, v, b, s]
    grind
structure Fe (gs : List Fr) (H : Rat) (n : Nat) (yF : Nat → Fr) : Prop where
  lo : 0 ≤ val (yF 0) - val (shK gs 0)
  up : ∀ k, k + 1 < n → val (yF k) - val (shK gs k) ≤ val (yF (k + 1)) - val (shK gs (k + 1))
  hi : val (yF (n - 1)) - val (shK gs (n - 1)) ≤ H
structure Oth (gs : List Fr) (H : Rat) (n : Nat) (yF : Nat → Fr) (D : Nat) : Prop where
  D0 : 0 < D
  D1 : D ≤ DB
  X : ∃ X, D = DM * X
  y : ∀ k, k < n → Dn D (yF k) ∧ 0 ≤ val (yF k) ∧ val (yF k) ≤ 40000
  f : Fe gs H n yF
/-! ### what they cost -/
def cK (u : Ru) (rows : List Rr) (yF : Nat → Fr) : Nat → Fr
  | 0 => (0, 1)
  | k + 1 => fsum (cK u rows yF k) (fmul (((fsub (yF k) (twK rows k)).1.natAbs : Int), (fsub (yF k) (twK rows k)).2) (wtK u k, 1))
theorem cy_step : ∀ (its : List It) (zs : List Rat) (k : Nat) (x : It) (z : Rat), its[k]? = some x → zs[k]? = some z → Cy (its.take (k + 1)) (zs.take (k + 1)) = Cy (its.take k) (zs.take k) + rab (z - x.1.1) * (x.1.2 : Rat)
  | [], _, _, _, _, h, _ => by simp at h
  | _ :: _, [], _, _, _, _, h => by simp at h
  | y :: r, w :: zs, 0, x, z, h1, h2 => by
    simp at h1 h2
    subst h1 h2
    show rab (w - y.1.1) * (y.1.2 : Rat) + Cy (r.take 0) (zs.take 0) = 0 + _
    have : Cy (r.take 0) (zs.take 0) = 0 := by simp [Cy]
    rw [this]
    grind
  | y :: r, w :: zs, k + 1, x, z, h1, h2 => by
    have ih := cy_step r zs k x z (by simpa using h1) (by simpa using h2)
    show rab (w - y.1.1) * (y.1.2 : Rat) + Cy (r.take (k + 1)) (zs.take (k + 1)) = (rab (w - y.1.1) * (y.1.2 : Rat) + Cy (r.take k) (zs.take k)) + _
    rw [ih]
    grind
section
variable {u : Ru} {rows : List Rr} {gs : List Fr} {N : Nat} (m : MvIn u rows gs N) {e : Fr} (he : EndOk e) {xs : List (Wn × Fr)} {p : Int} {qs : List Int} (mo : MvOut u rows gs N e xs p qs)
  {D : Nat} {yF : Nat → Fr} (o : Oth gs (val e - val (shK gs (N - 1))) N yF D)
include m he mo o
theorem term_ok {k : Nat} (hk : k < N) : Nd D (fsub (yF k) (twK rows k)) ∧ Nd D (((fsub (yF k) (twK rows k)).1.natAbs : Int), (fsub (yF k) (twK rows k)).2) ∧ Nd D (fmul (((fsub (yF k) (twK rows k)).1.natAbs : Int), (fsub (yF k) (twK rows k)).2) (wtK u k, 1)) ∧
    val (fmul (((fsub (yF k) (twK rows k)).1.natAbs : Int), (fsub (yF k) (twK rows k)).2) (wtK u k, 1)) = rab (val (yF k) - val (twK rows k)) * (wtK u k : Rat) ∧ 0 ≤ rab (val (yF k) - val (twK rows k)) * (wtK u k : Rat) ∧ rab (val (yF k) - val (twK rows k)) * (wtK u k : Rat) ≤ 400000 ∧ Nd D (twK rows k) ∧ 1 ≤ wtK u k ∧ wtK u k ≤ 9 := by
  obtain ⟨t1, t2, t3, _⟩ := mv_tw m hk
  obtain ⟨y1, y2, y3⟩ := o.y k hk
  obtain ⟨X, hX⟩ := o.X
  have td : Dn D (twK rows k) := by rw [hX]; exact dn_up t1.d
  have vs := val_sub y1.cn.1 td.cn.1
  have n1 : Nd D (fsub (yF k) (twK rows k)) := ⟨dn_sub y1 td, by rw [vs]; grind, by rw [vs]; grind⟩
  have va := val_abs n1.p
  rw [vs] at va
  have r : 0 ≤ rab (val (yF k) - val (twK rows k)) ∧ rab (val (yF k) - val (twK rows k)) ≤ 42000 := by
    unfold rab
    split <;> constructor <;> grind
  replace va : val (((fsub (yF k) (twK rows k)).1.natAbs : Int), (fsub (yF k) (twK rows k)).2) = rab (val (yF k) - val (twK rows k)) := va
  have n2 : Nd D (((fsub (yF k) (twK rows k)).1.natAbs : Int), (fsub (yF k) (twK rows k)).2) := ⟨dn_abs n1.d, by rw [va]; grind, by rw [va]; grind⟩
  have w : 1 ≤ wtK u k ∧ wtK u k ≤ 9 := by
    unfold wtK
    have w0 := m.uo.w0
    have w1 := m.uo.w1
    split <;> omega
  obtain ⟨w1, w2⟩ := rat_w w
  have vm := val_mul (b := (wtK u k, 1)) n2.p (cn_i _).1
  rw [va, v_int] at vm
  have m0 := Rat.mul_nonneg r.1 (show (0 : Rat) ≤ (wtK u k : Rat) by grind)
  have m1 := Rat.mul_le_mul_of_nonneg_left w2 r.1
  have up : rab (val (yF k) - val (twK rows k)) * (wtK u k : Rat) ≤ 400000 := by have := r.2; grind
  exact ⟨n1, n2, ⟨dn_mulint n2.d _, by rw [vm]; grind, by rw [vm]; grind⟩, vm, m0, up, ⟨td, by grind, by grind⟩, w.1, w.2⟩
theorem ck_ok : ∀ k, k ≤ N → Nd D (cK u rows yF k) ∧ 0 ≤ val (cK u rows yF k) ∧ val (cK u rows yF k) ≤ 400000 * (k : Rat) ∧ val (cK u rows yF k) = Cy ((xs.map itOf).take k) (((List.range N).map fun k => val (yF k) - val (shK gs k)).take k)
  | 0, _ => by
    have z : ((0 : Nat) : Rat) = 0 := rfl
    refine ⟨⟨dn_int 0, ?_, ?_⟩, ?_, ?_, ?_⟩
    all_goals show _
    · show _ ≤ val (0, 1); rw [v01]; decide
    · show val (0, 1) ≤ _; rw [v01]; decide
    · show _ ≤ val (0, 1); rw [v01]; exact Rat.le_refl
    · show val (0, 1) ≤ _; rw [v01, z]; grind
    · show val (0, 1) = _; rw [v01]; simp [Cy]
  | k + 1, hk => by
    obtain ⟨a, b, c, d⟩ := ck_ok k (by omega)
    obtain ⟨_, _, n3, v3, r0, r1, _⟩ := term_ok m he mo o (show k < N by omega)
    have v := val_sum a.p n3.p
    have kn := natCast_le (show k ≤ 60 by have := m.n; have := m.l; omega)
    have k60 : ((60 : Nat) : Rat) = 60 := rfl
    rw [k60] at kn
    obtain ⟨X, x1, x2, x3⟩ := it_get m he mo (show k < N by omega)
    have st := cy_step (xs.map itOf) ((List.range N).map fun k => val (yF k) - val (shK gs k)) k X (val (yF k) - val (shK gs k)) x1 (by rw [List.getElem?_map, List.getElem?_range (by omega)]; rfl)
    have ar : val (yF k) - val (shK gs k) - X.1.1 = val (yF k) - val (twK rows k) := by rw [x2]; grind
    rw [ar, x3] at st
    have e1 : cK u rows yF (k + 1) = fsum (cK u rows yF k) (fmul (((fsub (yF k) (twK rows k)).1.natAbs : Int), (fsub (yF k) (twK rows k)).2) (wtK u k, 1)) := rfl
    rw [e1, natCast_succ]
    refine ⟨⟨dn_sum a.d n3.d, by rw [v, v3]; grind, by rw [v, v3]; grind⟩, by rw [v, v3]; grind, by rw [v, v3]; grind, ?_⟩
    rw [v, v3, d, st]
theorem c_turn_eq (om : Om) (x5 : Option Sl) {k : Nat} (hk : k < N) : ∃ y5, c_turn [some (.val (.lst ((wantL rows N).map encF))), some (.val (.lst (((List.range N).map yF).map encF))), some (.val (encU u)), some (.val (encF (cK u rows yF k))), some (.val (.int (k : Int))), x5] om =
    .nx [some (.val (.lst ((wantL rows N).map encF))), some (.val (.lst (((List.range N).map yF).map encF))), some (.val (encU u)), some (.val (encF (cK u rows yF (k + 1)))), some (.val (.int (k : Int))), y5] om := by
  obtain ⟨n1, n2, n3, _, _, _, n4, w1, w2⟩ := term_ok m he mo o hk
  obtain ⟨c1, _⟩ := ck_ok m he mo o k (by omega)
  obtain ⟨y1, y2, y3⟩ := o.y k hk
  have ny : Nd D (yF k) := ⟨y1, by grind, by grind⟩
  have e1 := lminus_eq om (ny.bd o.D0 o.D1) (n4.bd o.D0 o.D1) (by decide)
  have w9 : Bd 10 ((wtK u k, 1) : Fr) := ⟨show (0 : Int) < 1 by decide, by
    show (wtK u k).natAbs < 2 ^ 10
    have e : (2 : Nat) ^ 10 = 1024 := by decide
    omega, show (1 : Int).natAbs < 2 ^ 10 by decide⟩
  have e2 := ltimes_eq om (n2.bd o.D0 o.D1) w9 (by decide)
  have e3 := lsum_eq om (c1.bd o.D0 o.D1) (n3.bd o.D0 o.D1) (by decide)
  have a1 : atN (((List.range N).map yF).map encF) (k : Int) = some (encF (yF k)) := atN_nat (by rw [List.getElem?_map, List.getElem?_map, List.getElem?_range hk]; rfl)
  have a2 : atN ((wantL rows N).map encF) (k : Int) = some (encF (twK rows k)) := by
    refine atN_nat ?_
    unfold wantL
    rw [List.getElem?_map, List.getElem?_map, List.getElem?_range hk]
    rfl
  have km : ((k : Int) % 2) = ((k % 2 : Nat) : Int) := by omega
  have a4 : dIx (encU u) (.int (3 + (k : Int) % 2)) = some (.int (wtK u k)) := by
    unfold wtK
    rcases (show k % 2 = 0 ∨ k % 2 = 1 by omega) with z | z
    · rw [km, z]; rfl
    · rw [km, z]; rfl
  have md := dMod_pos (i := (k : Int)) (j := 2) (by decide)
  have ce : cK u rows yF (k + 1) = fsum (cK u rows yF k) (fmul (((fsub (yF k) (twK rows k)).1.natAbs : Int), (fsub (yF k) (twK rows k)).2) (wtK u k, 1)) := rfl
  rw [ce]
  refine ⟨some (.val (encF (fsub (yF k) (twK rows k)))), ?_⟩
  clear m he mo o n1 n2 n3 n4 w1 w2 c1 y1 y2 y3 ny w9 km ce hk
  unfold c_turn
  generalize (wantL rows N).map encF = WL at *
  generalize ((List.range N).map yF).map encF = YL at *
  generalize encU u = UU at *
  generalize cK u rows yF k = CK at *
  generalize wtK u k = WT at *
  generalize fsub (yF k) (twK rows k) = FV at *
  generalize yF k = YK at *
  generalize twK rows k = TW at *
  generalize (k : Int) = KK at *
  have ab : (FV.1.natAbs : Int) = if FV.1 < 0 then -FV.1 else FV.1 := by split <;> omega
  rw [ab] at e2 e3 ⊢
  clear ab
  walk_at "evx"
theorem lcost_eq (om : Om) : S_law_cost [.lst ((wantL rows N).map encF), .lst (((List.range N).map yF).map encF), encU u] om = .ok (encF (cK u rows yF N)) om := by
  obtain ⟨ρ1, om1, q, y4, y5, z1, z2⟩ := goL_range (i := 4) (body := c_turn) (fun k ρ om' => ∃ y4 y5, ρ = [some (.val (.lst ((wantL rows N).map encF))), some (.val (.lst (((List.range N).map yF).map encF))), some (.val (encU u)), some (.val (encF (cK u rows yF k))), y4, y5] ∧ om' = om) N (ρ := [some (.val (.lst ((wantL rows N).map encF))), some (.val (.lst (((List.range N).map yF).map encF))), some (.val (encU u)), some (.val (encF (0, 1))), none, none]) (om := om) ⟨none, none, rfl, rfl⟩ (fun k ρ om' hk ⟨y4, y5, z1, z2⟩ => by
    subst z1 z2
    obtain ⟨z5, t⟩ := c_turn_eq m he mo o om' y5 hk
    exact ⟨_, _, t, _, z5, rfl, rfl⟩)
  rw [z1, z2] at q
  have fl : fLen [.lst ((wantL rows N).map encF)] = some (.int (N : Int)) := by rw [fLen_lst, List.length_map]; unfold wantL; rw [List.length_map, List.length_range]
  have r1 := fRng1_eq (j := (N : Int)) (by have := m.n; have := m.l; omega)
  have t1 : ((N : Int)).toNat = N := by omega
  rw [t1] at r1
  clear m he mo o z1 z2 t1
  unfold S_law_cost
  rw [c_top]
  generalize c_turn = CT at *
  generalize (wantL rows N).map encF = WL at *
  generalize ((List.range N).map yF).map encF = YL at *
  generalize encU u = UU at *
  generalize cK u rows yF N = CK at *
  generalize rngN 0 N = RR at *
  generalize (N : Int) = NN at *
  walk_at "evx"
end
section
variable {u : Ru} {rows : List Rr} {gs : List Fr} {N : Nat} (m : MvIn u rows gs N) {e : Fr} (he : EndOk e) {xs : List (Wn × Fr)} {p : Int} {qs : List Int} (mo : MvOut u rows gs N e xs p qs)
include m he mo
theorem tm_ok {k : Nat} (hk : k < N) : ∃ f : Fr, (xs.map (·.2))[k]? = some f ∧ Nm f ∧ 0 ≤ val f ∧ val f ≤ val e - val (shK gs (N - 1)) ∧ Dn DM (tmK xs gs k) ∧ val (tmK xs gs k) = val f + val (shK gs k) ∧ 0 ≤ val (tmK xs gs k) ∧ val (tmK xs gs k) ≤ 40000 := by
  obtain ⟨g1, g2⟩ := mv_gs m
  have hx : k < xs.length := by rw [mo.l]; exact hk
  obtain ⟨a, b, c⟩ := mo.ok _ (List.getElem_mem hx)
  obtain ⟨_, s1, s2, s3⟩ := sh_ok g1 k (by omega)
  obtain ⟨_, _, s4, _⟩ := sh_ok g1 (N - 1) (by omega)
  have kn := natCast_le (show k ≤ 60 by have := m.n; have := m.l; omega)
  have k60 : ((60 : Nat) : Rat) = 60 := rfl
  rw [k60] at kn
  have ge : (xs.map (·.2))[k]? = some xs[k].2 := by rw [List.getElem?_map, List.getElem?_eq_getElem hx]; rfl
  have te : tmK xs gs k = fsum xs[k].2 (shK gs k) := by
    unfold tmK
    rw [List.getD_eq_getElem?_getD, ge]
    rfl
  have v := val_sum a.f.p s1.cn.1
  have hi := he.hi
  refine ⟨xs[k].2, ge, a.f, b, c, by rw [te]; exact dn_sum a.f.d s1, by rw [te, v], by rw [te, v]; grind, by rw [te, v]; grind⟩
theorem fe_t : Fe gs (val e - val (shK gs (N - 1))) N (tmK xs gs) := by
  have n0 : 0 < N := by have := m.p; have := m.n; omega
  refine ⟨?_, fun k hk => ?_, ?_⟩
  · obtain ⟨f, _, _, f0, _, _, v, _⟩ := tm_ok m he mo n0
    rw [v]
    grind
  · obtain ⟨f, hf, _, _, _, _, v, _⟩ := tm_ok m he mo (show k < N by omega)
    obtain ⟨f', hf', _, _, _, _, v', _⟩ := tm_ok m he mo hk
    rw [v, v']
    have := List.pairwise_iff_getElem.mp mo.so k (k + 1) (by rw [List.length_map, mo.l]; omega) (by rw [List.length_map, mo.l]; omega) (by omega)
    rw [(List.getElem?_eq_some_iff.mp hf).2, (List.getElem?_eq_some_iff.mp hf').2] at this
    grind
  · obtain ⟨f, _, _, _, f1, _, v, _⟩ := tm_ok m he mo (show N - 1 < N by omega)
    rw [v]
    grind
end
end Dv

namespace Dv
open PySem PySem.Spec PyProof.Rows L2
local macro_rules | `(tactic| walk_at "ev") => `(tactic| try simp (disch := omega) only [sSeq_eq, seq_nx, seq_rt, seq_rto, seq_xc, seq_bk, seq_ct, seq_ite, sAsg, sAsgO, sExpr, sRet, sRetO, sRetN, sIf, sNext, uVar, uC, uUn, uBin, uB, uNot, uAnd, uOr, uTV, uAndV, uOrV, uNotV, uIf, uChain, uNil, uCons, uTup, uLst, uLstO, uFn, uFnO, uFnOX, uFz, uMv, uNew, uCall, uCallO, uCallN, uBinV, uBinW, uBinL, uMeO, uMeL, uFnV, sSetL, sAsgG, gN, gT2, gT3, gT4, iLst, iFn,   bind_ok, bind_xc, of_ok, of_xc, res_ok, res_xc, res0_ok, own_ok, own_xc, fr_nx, fr_rt, fr_rto, fr_xc, fo_rto, fo_xc, liftO_some, dBool_bl, items_lst, items_frz, ent, defU, defO, List.map_cons, List.map_nil, List.length_cons, List.length_nil, List.cons_append, List.nil_append, List.append_nil, List.replicate, List.getElem?_cons_zero, List.getElem?_cons_succ, List.set_cons_zero, List.set_cons_succ, Nat.zero_add, Nat.reduceAdd, Nat.reduceSub, Nat.reduceLeDiff,   le_big, lt_big, atN_zero, atN_one, atN_two, atN_three, setN_zero, setN_one, popAt_zero, len_zero, len_succ, dMul_r, dMul_l, dDiv_pos, dMod_pos, dAdd_int, dSub_int, dNeg_int, dLt_int, dLe_int, dGt_int, dGe_int, dEq_int, dNe_int, dEq_bl, dNe_bl, dEq_nil, dNe_nil, dIx_lst, dIx_tup, fAbs_int, fInt_bl, fInt_int, fLen_lst, fLen_frz, fLen_tup, ite_true, ite_false, if_true, if_false, Bool.not_true, Bool.not_false, decide_true, decide_false, Bool.true_eq_false, Bool.false_eq_true, reduceIte, reduceCtorEq, turn_nx, turn_ct, turn_bk, turn_rt, turn_rto, turn_xc, sFor_eq, goL_nil, eq_self])
local macro_rules | `(tactic| walk_at "evs") => `(tactic| try simp (disch := omega) only [sSeq_eq, seq_nx, seq_rt, seq_rto, seq_xc, seq_bk, seq_ct, seq_ite, sAsg, sAsgO, sExpr, sRet, sRetO, sRetN, sIf, sNext, uVar, uC, uUn, uBin, uB, uNot, uAnd, uOr, uTV, uAndV, uOrV, uNotV, uIf, uChain, uNil, uCons, uTup, uLst, uLstO, uFn, uFnO, uFnOX, uFz, uMv, uNew, uCall, uCallO, uCallN, uBinV, uBinW, uBinL, uMeO, uMeL, uFnV, sSetL, sAsgG, gN, gT2, gT3, gT4, iLst, iFn,   bind_ok, bind_xc, of_ok, of_xc, res_ok, res_xc, res0_ok, own_ok, own_xc, fr_nx, fr_rt, fr_rto, fr_xc, fo_rto, fo_xc, liftO_some, dBool_bl, items_lst, items_frz, ent, defU, defO, List.map_cons, List.map_nil, List.length_cons, List.length_nil, List.cons_append, List.nil_append, List.append_nil, List.replicate, List.getElem?_cons_zero, List.getElem?_cons_succ, List.set_cons_zero, List.set_cons_succ, Nat.zero_add, Nat.reduceAdd, Nat.reduceSub, Nat.reduceLeDiff,   le_big, lt_big, atN_zero, atN_one, atN_two, atN_three, setN_zero, setN_one, popAt_zero, len_zero, len_succ, dMul_r, dMul_l, dDiv_pos, dMod_pos, dAdd_int, dSub_int, dNeg_int, dLt_int, dLe_int, dGt_int, dGe_int, dEq_int, dNe_int, dEq_bl, dNe_bl, dEq_nil, dNe_nil, dIx_lst, dIx_tup, fAbs_int, fInt_bl, fInt_int, fLen_lst, fLen_frz, fLen_tup, ite_true, ite_false, if_true, if_false, Bool.not_true, Bool.not_false, decide_true, decide_false, Bool.true_eq_false, Bool.false_eq_true, reduceIte, reduceCtorEq, turn_nx, turn_ct, turn_bk, turn_rt, turn_rto, turn_xc, sFor_eq, goL_nil, eq_self, *])
local macro_rules | `(tactic| walk_at "evt") => `(tactic| try simp (disch := first | omega | (simp only [List.length_append, List.length_cons, List.length_nil, List.length_map]; omega)) only [sSeq_eq, seq_nx, seq_rt, seq_rto, seq_xc, seq_bk, seq_ct, seq_ite, sAsg, sAsgO, sExpr, sRet, sRetO, sRetN, sIf, sNext, uVar, uC, uUn, uBin, uB, uNot, uAnd, uOr, uTV, uAndV, uOrV, uNotV, uIf, uChain, uNil, uCons, uTup, uLst, uLstO, uFn, uFnO, uFnOX, uFz, uMv, uNew, uCall, uCallO, uCallN, uBinV, uBinW, uBinL, uMeO, uMeL, uFnV, sSetL, sAsgG, gN, gT2, gT3, gT4, iLst, iFn,   bind_ok, bind_xc, of_ok, of_xc, res_ok, res_xc, res0_ok, own_ok, own_xc, fr_nx, fr_rt, fr_rto, fr_xc, fo_rto, fo_xc, liftO_some, dBool_bl, items_lst, items_frz, ent, defU, defO, List.map_cons, List.map_nil, List.length_cons, List.length_nil, List.cons_append, List.nil_append, List.append_nil, List.replicate, List.getElem?_cons_zero, List.getElem?_cons_succ, List.set_cons_zero, List.set_cons_succ, Nat.zero_add, Nat.reduceAdd, Nat.reduceSub, Nat.reduceLeDiff,   le_big, lt_big, atN_zero, atN_one, atN_two, atN_three, setN_zero, setN_one, popAt_zero, len_zero, len_succ, dMul_r, dMul_l, dDiv_pos, dMod_pos, dAdd_int, dSub_int, dNeg_int, dLt_int, dLe_int, dGt_int, dGe_int, dEq_int, dNe_int, dEq_bl, dNe_bl, dEq_nil, dNe_nil, dIx_lst, dIx_tup, fAbs_int, fInt_bl, fInt_int, fLen_lst, fLen_frz, fLen_tup, ite_true, ite_false, if_true, if_false, Bool.not_true, Bool.not_false, decide_true, decide_false, Bool.true_eq_false, Bool.false_eq_true, reduceIte, reduceCtorEq, turn_nx, turn_ct, turn_bk, turn_rt, turn_rto, turn_xc, sFor_eq, goL_nil, eq_self, sRaise, gT2, gT3, gT4, sAsgG, uM1, uOrS, uSlS, uSlW, uCatV, uPart, uNoPart, iStrU, k_colon, k_blank, k_line, k_f, k_s, k_0, k_empty, k_digits, k_abc, k_alpha, k_cue, k_from, k_to, k_at, k_two, k_fto, k_nl, k_a1, dAdd_tx, fLen_tx, fStr_nat, dEq_tx, dNe_tx, dEq_txn, dNe_txn, len_tx, cutS_l1, cutS_b1, cutS_ln, cutS_bn, dIx_tx0, *])
local macro_rules | `(tactic| walk_at "evx") => `(tactic| try simp (disch := first | omega | (simp only [List.length_append, List.length_cons, List.length_nil, List.length_map]; omega)) only [sSeq_eq, seq_nx, seq_rt, seq_rto, seq_xc, seq_bk, seq_ct, seq_ite, sAsg, sAsgO, sExpr, sRet, sRetO, sRetN, sIf, sNext, uVar, uC, uUn, uBin, uB, uNot, uAnd, uOr, uTV, uAndV, uOrV, uNotV, uIf, uChain, uNil, uCons, uTup, uLst, uLstO, uFn, uFnO, uFnOX, uFz, uMv, uNew, uCall, uCallO, uCallN, uBinV, uBinW, uBinL, uMeO, uMeL, uFnV, sSetL, sAsgG, gN, gT2, gT3, gT4, iLst, iFn,   bind_ok, bind_xc, of_ok, of_xc, res_ok, res_xc, res0_ok, own_ok, own_xc, fr_nx, fr_rt, fr_rto, fr_xc, fo_rto, fo_xc, liftO_some, dBool_bl, items_lst, items_frz, ent, defU, defO, List.map_cons, List.map_nil, List.length_cons, List.length_nil, List.cons_append, List.nil_append, List.append_nil, List.replicate, List.getElem?_cons_zero, List.getElem?_cons_succ, List.set_cons_zero, List.set_cons_succ, Nat.zero_add, Nat.reduceAdd, Nat.reduceSub, Nat.reduceLeDiff,   le_big, lt_big, atN_zero, atN_one, atN_two, atN_three, setN_zero, setN_one, popAt_zero, len_zero, len_succ, dMul_r, dMul_l, dDiv_pos, dMod_pos, dAdd_int, dSub_int, dNeg_int, dLt_int, dLe_int, dGt_int, dGe_int, dEq_int, dNe_int, dEq_bl, dNe_bl, dEq_nil, dNe_nil, dIx_lst, dIx_tup, fAbs_int, fInt_bl, fInt_int, fLen_lst, fLen_frz, fLen_tup, ite_true, ite_false, if_true, if_false, Bool.not_true, Bool.not_false, decide_true, decide_false, Bool.true_eq_false, Bool.false_eq_true, reduceIte, reduceCtorEq, turn_nx, turn_ct, turn_bk, turn_rt, turn_rto, turn_xc, sFor_eq, goL_nil, eq_self, sRaise, gT2, gT3, gT4, sAsgG, see_bl, see_int, see_non, see_tup, see_lst, see_str, uBinX, uUnX, uFnX, uFld, sFldU, uMeth, uMethO, uMake, uCatX, uRev, uMethN, uFrzI, uSlV, uM1, uOrS, uSlS, uSlW, uCatV, uPart, uNoPart, iStrU, k_colon, k_blank, k_line, k_f, k_s, k_0, k_empty, k_digits, k_abc, k_alpha, k_cue, k_from, k_to, k_at, k_two, k_fto, k_nl, k_a1, dAdd_tx, fLen_tx, fStr_nat, dEq_tx, dNe_tx, dEq_txn, dNe_txn, len_tx, cutS_l1, cutS_b1, cutS_ln, cutS_bn, dIx_tx0, *])
def h_el : UE := (uTup (uCons (uBinX dIx (uVar 14) (uC (.int 0))) (uCons (uBinX dIx (uVar 14) (uC (.int 1))) (uCons (uBinX dIx (uVar 14) (uC (.int 2))) (uCons (uFz (uFnOX fList (uCons (uBinX dIx (uVar 14) (uC (.int 3))) uNil))) uNil)))))
def o_left : US := (sAsg 8 (uCall 2 S_law_minus (uCons (uVar 8) (uCons (uVar 9) uNil))))
def p_tt : UT := (uOr (uNot (uB (uUnX (dIsi "tuple") (uVar 15)))) (uB (uBinX dNe (uFnX fLen (uCons (uVar 15) uNil)) (uC (.int 2)))))
def a_tt : UT := (uNot (uB (uCallN 2 S_law_alike (uCons (uVar 16) (uCons (uCallN 2 S_law_fr (uCons (uBinX dIx (uVar 16) (uC (.int 0))) (uCons (uBinX dIx (uVar 16) (uC (.int 1))) uNil))) uNil)))))
def k_body : US := (sIf (uB (uCall 2 S_law_low (uCons (uBinX dIx (uVar 10) (uVar 11)) (uCons (uCall 2 S_law_sum (uCons (uBinX dIx (uVar 10) (uBinX dSub (uVar 11) (uC (.int 1)))) (uCons (uBinX dIx (uVar 4) (uBinX dSub (uVar 11) (uC (.int 1)))) uNil))) uNil)))) (sRet (uC (.bl false))) sNext)
def l_s0 : US := (sAsg 1 (uCall 1 S_law_begun (uCons (uVar 0) uNil)))
def l_s1 : US := (sAsg 2 (uCall 1 S_law_rows (uCons (uVar 1) uNil)))
def l_s2 : US := (sAsg 3 (uCall 1 S_law_rule (uCons (uVar 1) uNil)))
def l_s3 : US := (sAsg 4 (uCall 2 S_law_far (uCons (uVar 2) (uCons (uVar 3) uNil))))
def l_s4 : US := (sAsg 5 (uCall 2 S_law_end (uCons (uVar 1) (uCons (uVar 4) uNil))))
def l_s5 : US := (sAsg 6 (uFz (uLc (iLst (uVar 2)) (gN 14) uYes h_el [14])))
def l_s6 : US := (sAsg 7 (uCall 3 S_law_moved (uCons (uVar 6) (uCons (uVar 3) (uCons (uVar 5) uNil)))))
def l_s7 : US := (sAsg 8 (uVar 5))
def l_s8 : US := (sFor (iLst (uVar 4)) (gN 9) o_left)
def l_s9 : US := (sIf (uB (uBinX dLt (uBinX dIx (uVar 8) (uC (.int 0))) (uC (.int 0)))) (sRet (uAndV (uBinX dEq (uVar 7) (uTup (uCons (uC (.str (Str.ofString "tight"))) (uCons (uC (.bl true)) uNil)))) (uBinX dEq (uVar 6) (uVar 2)))) sNext)
def l_s10 : US := (sIf (uOr (uNot (uB (uUnX (dIsi "tuple") (uVar 7)))) (uOr (uB (uBinX dNe (uFnX fLen (uCons (uVar 7) uNil)) (uC (.int 3)))) (uNot (uB (uUnX (dIsi "list") (uBinX dIx (uVar 7) (uC (.int 0)))))))) (sRet (uC (.bl false))) sNext)
def l_s11 : US := (sIf (uB (uBinX dNe (uFnX fLen (uCons (uBinX dIx (uVar 7) (uC (.int 0))) uNil)) (uFnX fLen (uCons (uVar 2) uNil)))) (sRet (uC (.bl false))) sNext)
def l_s12 : US := (sIf (uB (uBinX dNe (uVar 6) (uVar 2))) (sRet (uC (.bl false))) sNext)
def l_s13 : US := (sIf (uB (uBinX dNe (uFz (uLcL (uBinX dIx (uVar 7) (uC (.int 0))) (gN 15) p_tt (uVar 15) [15])) (uLst uNil))) (sRet (uC (.bl false))) sNext)
def l_s14 : US := (sAsg 10 (uCall 1 S_law_wanted (uCons (uBinX dIx (uVar 7) (uC (.int 0))) uNil)))
def l_s15 : US := (sIf (uB (uBinX dNe (uFz (uLc (iLst (uVar 10)) (gN 16) a_tt (uVar 16) [16])) (uLst uNil))) (sRet (uC (.bl false))) sNext)
def l_s16 : US := (sFor (iFn fRng2 (uCons (uC (.int 1)) (uCons (uFnX fLen (uCons (uVar 10) uNil)) uNil))) (gN 11) k_body)
def l_s17 : US := (sIf (uAnd (uB (uBinX dNe (uVar 10) (uLst uNil))) (uOr (uB (uBinX dLt (uBinX dIx (uBinX dIx (uVar 10) (uC (.int 0))) (uC (.int 0))) (uC (.int 0)))) (uB (uCall 2 S_law_low (uCons (uVar 5) (uCons (uBinX dIx (uVar 10) (uUn dNeg (uC (.int 1)))) uNil)))))) (sRet (uC (.bl false))) sNext)
def l_s18 : US := (sAsg 12 (uFz (uFnOX fList (uCons (uBinX dIx (uVar 7) (uC (.int 0))) uNil))))
def l_s19 : US := (sExpr (uMeL (uBinX dIx (uVar 7) (uC (.int 0))) mClear uNil))
def l_s20 : US := (sExpr (uMeL (uBinX dIx (uVar 7) (uC (.int 2))) mClear uNil))
def l_s21 : US := (sAsg 13 (uCall 3 S_law_cost (uCons (uCall 1 S_law_wanted (uCons (uVar 2) uNil)) (uCons (uVar 10) (uCons (uVar 3) uNil)))))
def l_s22 : US := (sRet (uAndV (uCall 2 S_law_alike (uCons (uBinX dIx (uVar 7) (uC (.int 1))) (uCons (uVar 13) uNil))) (uBinX dEq (uBinX dIx (uCall 3 S_law_moved (uCons (uVar 6) (uCons (uVar 3) (uCons (uVar 5) uNil)))) (uC (.int 0))) (uVar 12))))
theorem l_top : u_law = (sSeq l_s0 (sSeq l_s1 (sSeq l_s2 (sSeq l_s3 (sSeq l_s4 (sSeq l_s5 (sSeq l_s6 (sSeq l_s7 (sSeq l_s8 (sSeq l_s9 (sSeq l_s10 (sSeq l_s11 (sSeq l_s12 (sSeq l_s13 (sSeq l_s14 (sSeq l_s15 (sSeq l_s16 (sSeq l_s17 (sSeq l_s18 (sSeq l_s19 (sSeq l_s20 (sSeq l_s21 l_s22)))))))))))))))))))))) := rfl
theorem seq_go {a b : US} {ρ ρ' : Rho} {ω ω' : Om} (h : a ρ ω = .nx ρ' ω') : sSeq a b ρ ω = b ρ' ω' := by rw [sSeq_eq, h, seq_nx]
theorem seq_ret {a b : US} {ρ : Rho} {ω ω' : Om} {d : D} (h : a ρ ω = .rt d ω') : sSeq a b ρ ω = .rt d ω' := by rw [sSeq_eq, h, seq_rt]
theorem mk_self {q : Fr} (h : Cn q) : mk q.1 q.2 = q := cn_ext (mk_cn (by have := h.1; omega)) h (val_mk (by have := h.1; omega))
/-! ### comprehensions that find nothing -/
theorem goC_none {tt : UT} {te : UE} {i : Nat} {ω : Om} {ρ : Rho} : ∀ (ds acc : List D), (∀ d ∈ ds, tt ((ρ.set i none).set i (some (.val d))) ω = .ok false ((ρ.set i none).set i (some (.val d))) ω) → goC (gN i) tt te [i] ds acc (ρ.set i none) ω = .ok acc (ρ.set i none) ω
  | [], acc, _ => by unfold goC; rfl
  | d :: ds, acc, h => by
    unfold goC
    simp only [gN]
    rw [h d (by simp)]
    have e : clrs ((ρ.set i none).set i (some (.val d))) [i] = ρ.set i none := by
      show ((ρ.set i none).set i (some (.val d))).set i none = _
      rw [List.set_set, List.set_set]
    simp only [Bool.false_eq_true, if_false]
    rw [e]
    exact goC_none ds acc fun x hx => h x (by simp [hx])
theorem goCX_none {tt : UT} {te : UE} {i k : Nat} {ω : Om} {ρ : Rho} {ds : List D} (hk : ω[k]? = some (.lst ds)) (h : ∀ d ∈ ds, tt ((ρ.set i none).set i (some (.val d))) ω = .ok false ((ρ.set i none).set i (some (.val d))) ω) : ∀ (f j : Nat), f + j = ds.length + 1 → 0 < f → goCX (gN i) tt te [i] (getL k) f j [] (ρ.set i none) ω = .ok [] (ρ.set i none) ω
  | 0, _, _, h0 => absurd h0 (by omega)
  | f + 1, j, e, _ => by
    unfold goCX
    have g : getL k (ρ.set i none) ω = some ds := by unfold getL; rw [hk]
    rw [g]
    dsimp only
    cases ed : ds[j]? with
    | none => rfl
    | some d =>
      dsimp only
      have lj : j < ds.length := (List.getElem?_eq_some_iff.mp ed).1
      simp only [gN]
      rw [h d (List.mem_of_getElem? ed)]
      have e2 : clrs ((ρ.set i none).set i (some (.val d))) [i] = ρ.set i none := by
        show ((ρ.set i none).set i (some (.val d))).set i none = _
        rw [List.set_set, List.set_set]
      simp only [Bool.false_eq_true, if_false]
      rw [e2]
      exact goCX_none hk h f (j + 1) (by omega) (by omega)
/-! ### what the law gets from moved -/
structure MvF (u : Ru) (rows : List Rr) (gs : List Fr) (N : Nat) (e : Fr) (xs : List (Wn × Fr)) : Prop where
  mv : ∀ om, ∃ (i j : Nat) (om' : Om) (P : List D), S_law_moved [.lst (rows.map encR), encU u, encF e] om = .ok (.tup [.loc i, encF (costF xs), .loc j]) om' ∧ om'[i]? = some (.lst (prL xs gs rows.length)) ∧ om'[j]? = some (.lst P) ∧ i ≠ j
  nm : ∀ k, k < N → Nm (tmK xs gs k)
  up : ∀ k, k + 1 < N → flt (tmK xs gs (k + 1)) (fsum (tmK xs gs k) (gs.getD k (0, 1))) = false
  lo : 0 < N → 0 ≤ (tmK xs gs 0).1
  hi : 0 < N → flt e (tmK xs gs (N - 1)) = false
  cn : Nm (costF xs)
  co : ∀ om, S_law_cost [.lst ((wantL rows N).map encF), .lst ((tmL xs gs N).map encF), encU u] om = .ok (encF (costF xs)) om
theorem cv_cy : ∀ its : List It, Cy its (its.map (·.2)) = Cv its
  | [] => rfl
  | x :: r => by
    show rab (x.2 - x.1.1) * (x.1.2 : Rat) + Cy r (r.map (·.2)) = _
    rw [cv_cy r]
    rfl
section
variable {u : Ru} {rows : List Rr} {gs : List Fr} {N : Nat} (m : MvIn u rows gs N) {e : Fr} (he : EndOk e)
include m he
theorem oth_t {xs : List (Wn × Fr)} {p : Int} {qs : List Int} (mo : MvOut u rows gs N e xs p qs) : Oth gs (val e - val (shK gs (N - 1))) N (tmK xs gs) DM :=
  ⟨by decide, by decide, ⟨1, (Nat.mul_one _).symm⟩, fun k hk => by
    obtain ⟨_, _, _, _, _, q1, _, q2, q3⟩ := tm_ok m he mo hk
    exact ⟨q1, q2, q3⟩, fe_t m he mo⟩
theorem ck_cost {xs : List (Wn × Fr)} {p : Int} {qs : List Int} (mo : MvOut u rows gs N e xs p qs) : cK u rows (tmK xs gs) N = costF xs := by
  obtain ⟨c1, _, _, v⟩ := ck_ok m he mo (oth_t m he mo) N (Nat.le_refl _)
  obtain ⟨dc, _, _, vc⟩ := cost_ok xs fun x hx => (mo.ok x hx).1
  refine cn_ext c1.d.cn dc.cn ?_
  have t1 : (xs.map itOf).take N = xs.map itOf := List.take_of_length_le (by rw [List.length_map, mo.l]; omega)
  have t2 : ((List.range N).map fun k => val (tmK xs gs k) - val (shK gs k)).take N = (List.range N).map fun k => val (tmK xs gs k) - val (shK gs k) := List.take_of_length_le (by rw [List.length_map, List.length_range]; omega)
  rw [t1, t2] at v
  have ez : ((List.range N).map fun k => val (tmK xs gs k) - val (shK gs k)) = (xs.map itOf).map (·.2) := by
    refine List.ext_getElem (by rw [List.length_map, List.length_range, List.length_map, List.length_map, mo.l]) fun k h1 h2 => ?_
    have hk : k < N := by rw [List.length_map, List.length_range] at h1; exact h1
    have hx : k < xs.length := by rw [mo.l]; exact hk
    obtain ⟨f, hf, _, _, _, _, vv, _⟩ := tm_ok m he mo hk
    rw [List.getElem_map, List.getElem_range, List.getElem_map, List.getElem_map, vv]
    have : f = xs[k].2 := by
      have := (List.getElem?_eq_some_iff.mp hf).2
      rw [List.getElem_map] at this
      exact this.symm
    rw [this]
    show val xs[k].2 + val (shK gs k) - val (shK gs k) = val xs[k].2
    grind
  rw [ez, cv_cy] at v
  rw [vc, cv_sum, v]
theorem mvf_some (hf : flt e (shK gs (N - 1)) = false) : ∃ xs, MvF u rows gs N e xs := by
  obtain ⟨xs, p, qs, ex, mo, _⟩ := moved_eq m [] he hf
  refine ⟨xs, fun om => ?_, fun k hk => ?_, fun k hk => ?_, fun h0 => ?_, fun h0 => ?_, ?_, fun om => ?_⟩
  · obtain ⟨xs', p', qs', ex', mo', e'⟩ := moved_eq m om he hf
    have hx : xs' = xs := mo'.dt.trans mo.dt.symm
    rw [hx] at e'
    refine ⟨_, _, _, (p' :: qs').map D.int, lmoved_ok e', get_end _ _, ?_, ?_⟩
    · rw [List.getElem?_append_left (by simp), get_end]
    · rw [List.length_append, List.length_singleton]
      omega
  · obtain ⟨_, _, _, _, _, q1, _, q2, q3⟩ := tm_ok m he mo hk
    exact ⟨q1, by grind, by grind⟩
  · have ft := (fe_t m he mo).up k hk
    obtain ⟨g, _, e2, go, e3⟩ := gap_get m he mo hk (by omega)
    rw [Nat.add_sub_cancel] at e2 e3
    rw [e2]
    obtain ⟨_, _, _, _, _, a1, _⟩ := tm_ok m he mo (show k < N by omega)
    obtain ⟨_, _, _, _, _, b1, _⟩ := tm_ok m he mo hk
    refine (flt_false b1.cn.1 (cn_sum a1.cn.1 go.n.p).1).mpr ?_
    rw [val_sum a1.cn.1 go.n.p]
    grind
  · have ft := (fe_t m he mo).lo
    obtain ⟨_, _, _, _, _, a1, _, a2, _⟩ := tm_ok m he mo h0
    exact (val_lt_of a1.cn.1).mp a2
  · have ft := (fe_t m he mo).hi
    obtain ⟨_, _, _, _, _, a1, _⟩ := tm_ok m he mo (show N - 1 < N by omega)
    refine (flt_false he.n.p a1.cn.1).mpr ?_
    grind
  · exact cost_nm (fun x hx => (mo.ok x hx).1) (by rw [mo.l]; have := m.n; have := m.l; omega)
  · have e3 := lcost_eq m he mo (oth_t m he mo) om
    rw [ck_cost m he mo] at e3
    exact e3
end
theorem mvf_nil {u : Ru} (hu : RuOk u) {e : Fr} (he : EndOk e) : MvF u [] (gapsF u []) 0 e [] := by
  refine ⟨fun om => ?_, fun k hk => absurd hk (by omega), fun k hk => absurd hk (by omega), fun h => absurd h (by omega), fun h => absurd h (by omega), nm_01, fun om => ?_⟩
  · have e' := lmoved_ok (moved_nil om hu he)
    refine ⟨_, _, _, _, e', ?_, get_end _ _, ?_⟩
    · rw [List.getElem?_append_left (by simp), get_end]
      rfl
    · rw [List.length_append, List.length_singleton]
      omega
  · have r1 := fRng1_eq (j := 0) (by decide)
    have t1 : (0 : Int).toNat = 0 := rfl
    rw [t1] at r1
    have r0 : rngN 0 0 = [] := rfl
    rw [r0] at r1
    have fl : fLen [.lst []] = some (.int 0) := rfl
    have w0 : (wantL [] 0).map encF = [] := rfl
    have t0 : (tmL [] (gapsF u []) 0).map encF = [] := rfl
    have c0 : costF [] = (0, 1) := rfl
    rw [w0, t0, c0]
    clear t1 r0 w0 t0 c0 he hu
    unfold S_law_cost
    rw [c_top]
    generalize c_turn = CT at *
    generalize encU u = UU at *
    walk_at "evx"
/-! ### the law's statements, one by one -/
section
variable {x0 x1 x2 x3 x4 x5 x6 x7 x8 x9 x10 x11 x12 x13 x14 x15 x16 : Option Sl} {om om' : Om}
theorem st0 {A B : D} (e : S_law_begun [A] om = .ok B om') : l_s0 [some (.val (A)), x1, x2, x3, x4, x5, x6, x7, x8, x9, x10, x11, x12, x13, x14, x15, x16] om = .nx [some (.val (A)), some (.val (B)), x2, x3, x4, x5, x6, x7, x8, x9, x10, x11, x12, x13, x14, x15, x16] om' := by
  unfold l_s0
  generalize S_law_begun = F at *
  walk_at "evx"
theorem st1 {A B : D} (e : S_law_rows [A] om = .ok B om') : l_s1 [x0, some (.val (A)), x2, x3, x4, x5, x6, x7, x8, x9, x10, x11, x12, x13, x14, x15, x16] om = .nx [x0, some (.val (A)), some (.val (B)), x3, x4, x5, x6, x7, x8, x9, x10, x11, x12, x13, x14, x15, x16] om' := by
  unfold l_s1
  generalize S_law_rows = F at *
  walk_at "evx"
theorem st2 {A B : D} (e : S_law_rule [A] om = .ok B om') : l_s2 [x0, some (.val (A)), x2, x3, x4, x5, x6, x7, x8, x9, x10, x11, x12, x13, x14, x15, x16] om = .nx [x0, some (.val (A)), x2, some (.val (B)), x4, x5, x6, x7, x8, x9, x10, x11, x12, x13, x14, x15, x16] om' := by
  unfold l_s2
  generalize S_law_rule = F at *
  walk_at "evx"
theorem st3 {A B C : D} (e : S_law_far [A, B] om = .ok C om') : l_s3 [x0, x1, some (.val (A)), some (.val (B)), x4, x5, x6, x7, x8, x9, x10, x11, x12, x13, x14, x15, x16] om = .nx [x0, x1, some (.val (A)), some (.val (B)), some (.val (C)), x5, x6, x7, x8, x9, x10, x11, x12, x13, x14, x15, x16] om' := by
  unfold l_s3
  generalize S_law_far = F at *
  walk_at "evx"
theorem st4 {A B C : D} (e : S_law_end [A, B] om = .ok C om') : l_s4 [x0, some (.val (A)), x2, x3, some (.val (B)), x5, x6, x7, x8, x9, x10, x11, x12, x13, x14, x15, x16] om = .nx [x0, some (.val (A)), x2, x3, some (.val (B)), some (.val (C)), x6, x7, x8, x9, x10, x11, x12, x13, x14, x15, x16] om' := by
  unfold l_s4
  generalize S_law_end = F at *
  walk_at "evx"
theorem st5 {rows : List Rr} (hl : rows.length ≤ 20) : l_s5 [x0, x1, some (.val (.lst (rows.map encR))), x3, x4, x5, x6, x7, x8, x9, x10, x11, x12, x13, none, x15, x16] om = .nx [x0, x1, some (.val (.lst (rows.map encR))), x3, x4, x5, some (.val (.lst (rows.map encR))), x7, x8, x9, x10, x11, x12, x13, none, x15, x16] om := by
  have g := goC_map (te := h_el) (i := 14) (ω := om) (ρ := [x0, x1, some (.val (.lst (rows.map encR))), x3, x4, x5, x6, x7, x8, x9, x10, x11, x12, x13, none, x15, x16]) (fun d => d) (rows.map encR) [] (fun d hd => by
    obtain ⟨r, _, rfl⟩ := List.mem_map.mp hd
    simp only [List.set_cons_succ, List.set_cons_zero]
    unfold h_el encR
    generalize r.ws.map wd = W
    have fl : fList [.lst W] = some W := rfl
    walk_at "evx") (by rw [List.length_map, List.length_nil, Nat.zero_add]; exact Nat.le_trans (show rows.length ≤ 1000 by omega) (by decide))
  rw [List.nil_append, List.map_id'] at g
  clear hl
  generalize rows.map encR = RS at *
  unfold l_s5
  generalize h_el = HE at *
  unfold uLc
  simp only [clrs, List.set_cons_succ, List.set_cons_zero] at *
  walk_at "evx"
theorem st6 {A B C E : D} (e : S_law_moved [A, B, C] om = .ok E om') : l_s6 [x0, x1, x2, some (.val (B)), x4, some (.val (C)), some (.val (A)), x7, x8, x9, x10, x11, x12, x13, x14, x15, x16] om = .nx [x0, x1, x2, some (.val (B)), x4, some (.val (C)), some (.val (A)), some (.val (E)), x8, x9, x10, x11, x12, x13, x14, x15, x16] om' := by
  unfold l_s6
  generalize S_law_moved = F at *
  walk_at "evx"
theorem st7 {A : D} : l_s7 [x0, x1, x2, x3, x4, some (.val (A)), x6, x7, x8, x9, x10, x11, x12, x13, x14, x15, x16] om = .nx [x0, x1, x2, x3, x4, some (.val (A)), x6, x7, some (.val (A)), x9, x10, x11, x12, x13, x14, x15, x16] om := by
  unfold l_s7
  walk_at "evx"
theorem st8 {e : Fr} (he : EndOk e) {gs : List Fr} (h : ∀ g ∈ gs, GapOk g) (hl : gs.length ≤ 60) : ∃ y9, l_s8 [x0, x1, x2, x3, some (.val (.lst (gs.map encF))), x5, x6, x7, some (.val (encF e)), x9, x10, x11, x12, x13, x14, x15, x16] om = .nx [x0, x1, x2, x3, some (.val (.lst (gs.map encF))), x5, x6, x7, some (.val (encF (lfK e gs gs.length))), y9, x10, x11, x12, x13, x14, x15, x16] om := by
  obtain ⟨ρ1, om1, g1, y9, q1, q2⟩ := goL_item (i := 9) (body := o_left) encF (fun pre ρ om' => ∃ y9, ρ = [x0, x1, x2, x3, some (.val (.lst (gs.map encF))), x5, x6, x7, some (.val (encF (lfK e gs pre.length))), y9, x10, x11, x12, x13, x14, x15, x16] ∧ om' = om) gs [] [x0, x1, x2, x3, some (.val (.lst (gs.map encF))), x5, x6, x7, some (.val (encF e)), x9, x10, x11, x12, x13, x14, x15, x16] om (fun p x q ρ om' e' ⟨y9, z1, z2⟩ => by
    subst z1 z2
    rw [List.nil_append] at e'
    have hx := h x (by rw [e']; simp)
    have lp : p.length < gs.length := by rw [e']; simp
    obtain ⟨a, b⟩ := lf_ok he h p.length (by omega)
    obtain ⟨_, _, s2, s3⟩ := sh_ok h p.length (by omega)
    have kn := natCast_le (show p.length ≤ 60 by omega)
    have k60 : ((60 : Nat) : Rat) = 60 := rfl
    rw [k60] at kn
    have n1 : Nm (lfK e gs p.length) := ⟨a, by rw [b]; have := he.lo; grind, by rw [b]; have := he.hi; grind⟩
    have e1 := lminus_eq om' n1.bd hx.n.bd (by decide)
    have gk : gs.getD p.length (0, 1) = x := by rw [List.getD_eq_getElem?_getD, e']; simp
    refine ⟨[x0, x1, x2, x3, some (.val (.lst (gs.map encF))), x5, x6, x7, some (.val (encF (lfK e gs (p ++ [x]).length))), some (.val (encF x)), x10, x11, x12, x13, x14, x15, x16], om', ?_, some (.val (encF x)), rfl, rfl⟩
    have : lfK e gs (p ++ [x]).length = fsub (lfK e gs p.length) x := by
      rw [List.length_append]
      show fsub _ (gs.getD p.length (0, 1)) = _
      rw [gk]
    rw [this]
    clear h hl hx lp a b s2 s3 kn k60 n1 gk this e' he
    generalize gs.map encF = X at *
    generalize lfK e gs p.length = LF at *
    unfold o_left
    walk_at "evx") ⟨x9, rfl, rfl⟩
  rw [List.nil_append] at q1
  subst q1
  rw [q2] at g1
  refine ⟨y9, ?_⟩
  clear q2 h hl he
  generalize gs.map encF = X at *
  unfold l_s8
  generalize o_left = OL at *
  walk_at "evx"
theorem st9_tight {A : D} {i j : Int} {RS : List D} (hA : A = .lst RS) (hi : i < 0) (h1 : dEq tightD tightD = some (.bl true)) (h2 : dEq A A = some (.bl true)) : l_s9 [x0, x1, some (.val (A)), x3, x4, x5, some (.val (A)), some (.val (tightD)), some (.val (.tup [.int i, .int j])), x9, x10, x11, x12, x13, x14, x15, x16] om = .rt (.bl true) om := by
  have ts : D.tup [.str (Str.ofString "tight"), .bl true] = tightD := rfl
  have d1 : decide (i < 0) = true := decide_eq_true hi
  subst hA
  unfold l_s9
  have se : see om tightD = tightD := by unfold tightD; rfl
  generalize tightD = TD at *
  generalize Str.ofString "tight" = TI at *
  clear hi
  walk_at "evx"
theorem st9 {i j : Int} (hi : ¬ i < 0) : l_s9 [x0, x1, x2, x3, x4, x5, x6, x7, some (.val (.tup [.int i, .int j])), x9, x10, x11, x12, x13, x14, x15, x16] om = .nx [x0, x1, x2, x3, x4, x5, x6, x7, some (.val (.tup [.int i, .int j])), x9, x10, x11, x12, x13, x14, x15, x16] om := by
  have d1 : decide (i < 0) = false := decide_eq_false hi
  unfold l_s9
  clear hi
  generalize Str.ofString "tight" = TI
  walk_at "evx"
theorem st10 {i j : Nat} {c : D} {PR : List D} (hi : om[i]? = some (.lst PR)) : l_s10 [x0, x1, x2, x3, x4, x5, x6, some (.val (.tup [.loc i, c, .loc j])), x8, x9, x10, x11, x12, x13, x14, x15, x16] om = .nx [x0, x1, x2, x3, x4, x5, x6, some (.val (.tup [.loc i, c, .loc j])), x8, x9, x10, x11, x12, x13, x14, x15, x16] om := by
  have i1 : dIsi "tuple" (.tup [.loc i, c, .loc j]) = some (.bl true) := isi_of rfl (kb "tuple" "tuple" true)
  have i2 : dIsi "list" (.lst PR) = some (.bl true) := isi_of rfl (kb "list" "list" true)
  have se : see om (.loc i) = .lst PR := by unfold see; dsimp only; rw [hi]
  have nn : (!decide (((3 : Nat) : Int) = 3)) = false := rfl
  clear hi
  unfold l_s10
  walk_at "evx"
theorem st11 {i j : Nat} {c : D} {PR RS : List D} (hi : om[i]? = some (.lst PR)) (hl : PR.length = RS.length) : l_s11 [x0, x1, some (.val (.lst RS)), x3, x4, x5, x6, some (.val (.tup [.loc i, c, .loc j])), x8, x9, x10, x11, x12, x13, x14, x15, x16] om = .nx [x0, x1, some (.val (.lst RS)), x3, x4, x5, x6, some (.val (.tup [.loc i, c, .loc j])), x8, x9, x10, x11, x12, x13, x14, x15, x16] om := by
  have se : see om (.loc i) = .lst PR := by unfold see; dsimp only; rw [hi]
  have nn : (!decide (((RS.length : Nat) : Int) = RS.length)) = false := by simp
  have f1 : fLen [.lst PR] = some (.int (RS.length : Int)) := by rw [fLen_lst, hl]
  have f2 : fLen [.lst RS] = some (.int (RS.length : Int)) := by rw [fLen_lst]
  clear hi hl
  generalize (RS.length : Int) = LL at *
  unfold l_s11
  walk_at "evx"
theorem st12 {RS : List D} (h : dNe (.lst RS) (.lst RS) = some (.bl false)) : l_s12 [x0, x1, some (.val (.lst RS)), x3, x4, x5, some (.val (.lst RS)), x7, x8, x9, x10, x11, x12, x13, x14, x15, x16] om = .nx [x0, x1, some (.val (.lst RS)), x3, x4, x5, some (.val (.lst RS)), x7, x8, x9, x10, x11, x12, x13, x14, x15, x16] om := by
  unfold l_s12
  walk_at "evx"
theorem st13 {i j : Nat} {c : D} {xs : List (Wn × Fr)} {gs : List Fr} {n : Nat} (hi : om[i]? = some (.lst (prL xs gs n))) : l_s13 [x0, x1, x2, x3, x4, x5, x6, some (.val (.tup [.loc i, c, .loc j])), x8, x9, x10, x11, x12, x13, x14, none, x16] om = .nx [x0, x1, x2, x3, x4, x5, x6, some (.val (.tup [.loc i, c, .loc j])), x8, x9, x10, x11, x12, x13, x14, none, x16] om := by
  have g := goCX_none (te := uVar 15) (i := 15) (ρ := [x0, x1, x2, x3, x4, x5, x6, some (.val (.tup [.loc i, c, .loc j])), x8, x9, x10, x11, x12, x13, x14, none, x16]) (tt := p_tt) hi (fun d hd => by
    unfold prL at hd
    obtain ⟨k, _, rfl⟩ := List.mem_map.mp hd
    simp only [List.set_cons_succ, List.set_cons_zero]
    generalize encF (tmK xs gs (2 * k)) = A
    generalize encF (tmK xs gs (2 * k + 1)) = B
    have i1 : dIsi "tuple" (.tup [A, B]) = some (.bl true) := isi_of rfl (kb "tuple" "tuple" true)
    have nn : (!decide (((2 : Nat) : Int) = 2)) = false := rfl
    clear hi hd
    unfold p_tt
    walk_at "evx") ((prL xs gs n).length + 1) 0 rfl (by omega)
  have lg : ∀ ρ, lenG (getL i) ρ om = (prL xs gs n).length + 1 := fun ρ => by unfold lenG getL; rw [hi]
  have nl : dNe (.lst []) (.lst []) = some (.bl false) := rfl
  clear hi
  generalize (prL xs gs n).length + 1 = LN at *
  unfold l_s13
  generalize p_tt = PT at *
  unfold uLcL
  simp only [clrs, List.set_cons_succ, List.set_cons_zero] at *
  walk_at "evx"
theorem st14 {i j : Nat} {c B : D} (e : S_law_wanted [.loc i] om = .ok B om) : l_s14 [x0, x1, x2, x3, x4, x5, x6, some (.val (.tup [.loc i, c, .loc j])), x8, x9, x10, x11, x12, x13, x14, x15, x16] om = .nx [x0, x1, x2, x3, x4, x5, x6, some (.val (.tup [.loc i, c, .loc j])), x8, x9, some (.val (B)), x11, x12, x13, x14, x15, x16] om := by
  unfold l_s14
  generalize S_law_wanted = F at *
  walk_at "evx"
theorem st15 {ts : List Fr} (h : ∀ t ∈ ts, Nm t) : l_s15 [x0, x1, x2, x3, x4, x5, x6, x7, x8, x9, some (.val (.lst (ts.map encF))), x11, x12, x13, x14, x15, none] om = .nx [x0, x1, x2, x3, x4, x5, x6, x7, x8, x9, some (.val (.lst (ts.map encF))), x11, x12, x13, x14, x15, none] om := by
  have g := goC_none (te := uVar 16) (i := 16) (ω := om) (ρ := [x0, x1, x2, x3, x4, x5, x6, x7, x8, x9, some (.val (.lst (ts.map encF))), x11, x12, x13, x14, x15, none]) (tt := a_tt) (ts.map encF) [] (fun d hd => by
    obtain ⟨t, ht, rfl⟩ := List.mem_map.mp hd
    have n := h t ht
    have e1 := lfr_eq (t := t.1) (b := t.2) om (by have := n.p; omega) (pow_9000 n.bd.d (by decide))
    rw [mk_self n.d.cn] at e1
    have e2 := alike_eq om (good_F t)
    simp only [List.set_cons_succ, List.set_cons_zero]
    clear h hd ht n
    generalize ts.map encF = TS at *
    unfold a_tt
    generalize S_law_alike = F1 at *
    generalize S_law_fr = F2 at *
    walk_at "evx")
  have nl : dNe (.lst []) (.lst []) = some (.bl false) := rfl
  clear h
  generalize ts.map encF = TS at *
  unfold l_s15
  generalize a_tt = AT at *
  unfold uLc
  simp only [clrs, List.set_cons_succ, List.set_cons_zero] at *
  walk_at "evx"
theorem st16 {u : Ru} {rows : List Rr} {gs : List Fr} {N : Nat} {e : Fr} {xs : List (Wn × Fr)} (f : MvF u rows gs N e xs) (hg : ∀ g ∈ gs, GapOk g) (hl : gs.length = N - 1) (hN : N ≤ 60) : ∃ y11, l_s16 [x0, x1, x2, x3, some (.val (.lst (gs.map encF))), x5, x6, x7, x8, x9, some (.val (.lst ((tmL xs gs N).map encF))), x11, x12, x13, x14, x15, x16] om = .nx [x0, x1, x2, x3, some (.val (.lst (gs.map encF))), x5, x6, x7, x8, x9, some (.val (.lst ((tmL xs gs N).map encF))), y11, x12, x13, x14, x15, x16] om := by
  obtain ⟨ρ1, om1, g1, y11, q1, q2⟩ := goL_item (i := 11) (body := k_body) (fun k : Nat => D.int (1 + (k : Int))) (fun _ ρ om' => ∃ y11, ρ = [x0, x1, x2, x3, some (.val (.lst (gs.map encF))), x5, x6, x7, x8, x9, some (.val (.lst ((tmL xs gs N).map encF))), y11, x12, x13, x14, x15, x16] ∧ om' = om) (List.range (N - 1)) [] [x0, x1, x2, x3, some (.val (.lst (gs.map encF))), x5, x6, x7, x8, x9, some (.val (.lst ((tmL xs gs N).map encF))), x11, x12, x13, x14, x15, x16] om (fun p k q ρ om' e' ⟨y11, z1, z2⟩ => by
    subst z1 z2
    rw [List.nil_append] at e'
    have hk : k < N - 1 := List.mem_range.mp (by rw [e']; simp)
    obtain ⟨G, hG⟩ : ∃ G, gs[k]? = some G := ⟨_, List.getElem?_eq_getElem (show k < gs.length by omega)⟩
    have go := hg _ (List.mem_of_getElem? hG)
    have gk : gs.getD k (0, 1) = G := by rw [List.getD_eq_getElem?_getD, hG]; rfl
    have fu := f.up k (by omega)
    rw [gk] at fu
    have n1 := f.nm k (by omega)
    have n2 := f.nm (k + 1) (by omega)
    have e1 := lsum_eq om' n1.bd go.n.bd (by decide)
    have b3 := bd_sum n1.bd go.n.bd
    have e2 := llow_eq om' (n2.bd.mono (M := 161) (by decide)) b3 (by decide)
    rw [fu] at e2
    have a1 : atN ((tmL xs gs N).map encF) (1 + (k : Int)) = some (encF (tmK xs gs (k + 1))) := by
      have : (1 + (k : Int)) = ((k + 1 : Nat) : Int) := by omega
      rw [this]
      unfold tmL
      exact atN_nat (by rw [List.getElem?_map, List.getElem?_map, List.getElem?_range (by omega)]; rfl)
    have a2 : atN ((tmL xs gs N).map encF) (1 + (k : Int) - 1) = some (encF (tmK xs gs k)) := by
      have : (1 + (k : Int) - 1) = (k : Int) := by omega
      rw [this]
      unfold tmL
      exact atN_nat (by rw [List.getElem?_map, List.getElem?_map, List.getElem?_range (by omega)]; rfl)
    have a3 : atN (gs.map encF) (1 + (k : Int) - 1) = some (encF G) := by
      have : (1 + (k : Int) - 1) = (k : Int) := by omega
      rw [this]
      exact atN_nat (by rw [List.getElem?_map, hG]; rfl)
    refine ⟨_, _, ?_, some (.val (.int (1 + (k : Int)))), rfl, rfl⟩
    clear f hg hl hN e' go gk fu n1 n2 b3 hG
    simp only [List.set_cons_succ, List.set_cons_zero]
    generalize (tmL xs gs N).map encF = TL at *
    generalize gs.map encF = GS at *
    generalize fsum (tmK xs gs k) G = FS at *
    generalize tmK xs gs k = T1 at *
    generalize tmK xs gs (k + 1) = T2 at *
    generalize (1 + (k : Int)) = KK at *
    unfold k_body
    generalize S_law_low = F1 at *
    generalize S_law_sum = F2 at *
    walk_at "evx") ⟨x11, rfl, rfl⟩
  rw [q1, q2] at g1
  have r1 : fRng2 [.int 1, .int (N : Int)] = some ((List.range (N - 1)).map fun k : Nat => D.int (1 + (k : Int))) := by
    unfold fRng2
    simp only [rngN]
    have : ((N : Int) - 1).toNat = N - 1 := by omega
    rw [this]
    simp
    omega
  have f1 : fLen [.lst ((tmL xs gs N).map encF)] = some (.int (N : Int)) := by rw [fLen_lst, List.length_map]; unfold tmL; rw [List.length_map, List.length_range]
  refine ⟨y11, ?_⟩
  clear q1 q2 f hg hl hN
  generalize (tmL xs gs N).map encF = TL at *
  generalize gs.map encF = GS at *
  generalize (N : Int) = NN at *
  unfold l_s16
  generalize k_body = KB at *
  generalize ((List.range (N - 1)).map fun k : Nat => D.int (1 + (k : Int))) = RR at *
  walk_at "evx"
theorem st17_nil {e : D} : l_s17 [x0, x1, x2, x3, x4, some (.val (e)), x6, x7, x8, x9, some (.val (.lst [])), x11, x12, x13, x14, x15, x16] om = .nx [x0, x1, x2, x3, x4, some (.val (e)), x6, x7, x8, x9, some (.val (.lst [])), x11, x12, x13, x14, x15, x16] om := by
  have nl : dNe (.lst []) (.lst []) = some (.bl false) := rfl
  unfold l_s17
  generalize S_law_low = F at *
  walk_at "evx"
theorem st17 {e l : D} {t : Fr} {TL : List D} (h0 : atN TL 0 = some (encF t)) (h1 : atN TL (-1) = some l) (hp : 0 ≤ t.1) (hn : dNe (.lst TL) (.lst []) = some (.bl true)) (hl : S_law_low [e, l] om = .ok (.bl false) om) : l_s17 [x0, x1, x2, x3, x4, some (.val (e)), x6, x7, x8, x9, some (.val (.lst TL)), x11, x12, x13, x14, x15, x16] om = .nx [x0, x1, x2, x3, x4, some (.val (e)), x6, x7, x8, x9, some (.val (.lst TL)), x11, x12, x13, x14, x15, x16] om := by
  have d1 : decide (t.1 < 0) = false := decide_eq_false (by omega)
  clear hp
  unfold l_s17
  generalize S_law_low = F at *
  walk_at "evx"
theorem st18 {i j : Nat} {c : D} {PR : List D} (hi : om[i]? = some (.lst PR)) : l_s18 [x0, x1, x2, x3, x4, x5, x6, some (.val (.tup [.loc i, c, .loc j])), x8, x9, x10, x11, x12, x13, x14, x15, x16] om = .nx [x0, x1, x2, x3, x4, x5, x6, some (.val (.tup [.loc i, c, .loc j])), x8, x9, x10, x11, some (.val (.lst PR)), x13, x14, x15, x16] om := by
  have se : see om (.loc i) = .lst PR := by unfold see; dsimp only; rw [hi]
  have fl : fList [.lst PR] = some PR := rfl
  clear hi
  unfold l_s18
  walk_at "evx"
theorem st19 {i j : Nat} {c : D} {PR : List D} (hi : om[i]? = some (.lst PR)) : l_s19 [x0, x1, x2, x3, x4, x5, x6, some (.val (.tup [.loc i, c, .loc j])), x8, x9, x10, x11, x12, x13, x14, x15, x16] om = .nx [x0, x1, x2, x3, x4, x5, x6, some (.val (.tup [.loc i, c, .loc j])), x8, x9, x10, x11, x12, x13, x14, x15, x16] (om.set i (.lst [])) := by
  have mc : mClear PR [] = some (.non, []) := rfl
  unfold l_s19
  walk_at "evx"
theorem st20 {i j : Nat} {c : D} {PR : List D} (hj : om[j]? = some (.lst PR)) : l_s20 [x0, x1, x2, x3, x4, x5, x6, some (.val (.tup [.loc i, c, .loc j])), x8, x9, x10, x11, x12, x13, x14, x15, x16] om = .nx [x0, x1, x2, x3, x4, x5, x6, some (.val (.tup [.loc i, c, .loc j])), x8, x9, x10, x11, x12, x13, x14, x15, x16] (om.set j (.lst [])) := by
  have mc : mClear PR [] = some (.non, []) := rfl
  unfold l_s20
  walk_at "evx"
theorem st21 {A B C W E : D} (e1 : S_law_wanted [A] om = .ok W om) (e2 : S_law_cost [W, B, C] om = .ok E om) : l_s21 [x0, x1, some (.val (A)), some (.val (C)), x4, x5, x6, x7, x8, x9, some (.val (B)), x11, x12, x13, x14, x15, x16] om = .nx [x0, x1, some (.val (A)), some (.val (C)), x4, x5, x6, x7, x8, x9, some (.val (B)), x11, x12, some (.val (E)), x14, x15, x16] om := by
  unfold l_s21
  generalize S_law_wanted = F1 at *
  generalize S_law_cost = F2 at *
  walk_at "evx"
theorem st22 {A B C c c2 : D} {i j i2 j2 : Nat} {PR : List D} (e1 : S_law_alike [c, c] om = .ok (.bl true) om) (e2 : S_law_moved [A, B, C] om = .ok (.tup [.loc i2, c2, .loc j2]) om') (hi : om'[i2]? = some (.lst PR)) (hq : dEq (.lst PR) (.lst PR) = some (.bl true)) : l_s22 [x0, x1, x2, some (.val (B)), x4, some (.val (C)), some (.val (A)), some (.val (.tup [.loc i, c, .loc j])), x8, x9, x10, x11, some (.val (.lst PR)), some (.val (c)), x14, x15, x16] om = .rt (.bl true) om' := by
  have se : see om' (.loc i2) = .lst PR := by unfold see; dsimp only; rw [hi]
  clear hi
  unfold l_s22
  generalize S_law_alike = F1 at *
  generalize S_law_moved = F2 at *
  walk_at "evx"
end
end Dv

namespace Dv
open PySem PySem.Spec PyProof.Rows L2
local macro_rules | `(tactic| walk_at "ev") => `(tactic| try simp (disch := omega) only [sSeq_eq, seq_nx, seq_rt, seq_rto, seq_xc, seq_bk, seq_ct, seq_ite, sAsg, sAsgO, sExpr, sRet, sRetO, sRetN, sIf, sNext, uVar, uC, uUn, uBin, uB, uNot, uAnd, uOr, uTV, uAndV, uOrV, uNotV, uIf, uChain, uNil, uCons, uTup, uLst, uLstO, uFn, uFnO, uFnOX, uFz, uMv, uNew, uCall, uCallO, uCallN, uBinV, uBinW, uBinL, uMeO, uMeL, uFnV, sSetL, sAsgG, gN, gT2, gT3, gT4, iLst, iFn,   bind_ok, bind_xc, of_ok, of_xc, res_ok, res_xc, res0_ok, own_ok, own_xc, fr_nx, fr_rt, fr_rto, fr_xc, fo_rto, fo_xc, liftO_some, dBool_bl, items_lst, items_frz, ent, defU, defO, List.map_cons, List.map_nil, List.length_cons, List.length_nil, List.cons_append, List.nil_append, List.append_nil, List.replicate, List.getElem?_cons_zero, List.getElem?_cons_succ, List.set_cons_zero, List.set_cons_succ, Nat.zero_add, Nat.reduceAdd, Nat.reduceSub, Nat.reduceLeDiff,   le_big, lt_big, atN_zero, atN_one, atN_two, atN_three, setN_zero, setN_one, popAt_zero, len_zero, len_succ, dMul_r, dMul_l, dDiv_pos, dMod_pos, dAdd_int, dSub_int, dNeg_int, dLt_int, dLe_int, dGt_int, dGe_int, dEq_int, dNe_int, dEq_bl, dNe_bl, dEq_nil, dNe_nil, dIx_lst, dIx_tup, fAbs_int, fInt_bl, fInt_int, fLen_lst, fLen_frz, fLen_tup, ite_true, ite_false, if_true, if_false, Bool.not_true, Bool.not_false, decide_true, decide_false, Bool.true_eq_false, Bool.false_eq_true, reduceIte, reduceCtorEq, turn_nx, turn_ct, turn_bk, turn_rt, turn_rto, turn_xc, sFor_eq, goL_nil, eq_self])
local macro_rules | `(tactic| walk_at "evs") => `(tactic| try simp (disch := omega) only [sSeq_eq, seq_nx, seq_rt, seq_rto, seq_xc, seq_bk, seq_ct, seq_ite, sAsg, sAsgO, sExpr, sRet, sRetO, sRetN, sIf, sNext, uVar, uC, uUn, uBin, uB, uNot, uAnd, uOr, uTV, uAndV, uOrV, uNotV, uIf, uChain, uNil, uCons, uTup, uLst, uLstO, uFn, uFnO, uFnOX, uFz, uMv, uNew, uCall, uCallO, uCallN, uBinV, uBinW, uBinL, uMeO, uMeL, uFnV, sSetL, sAsgG, gN, gT2, gT3, gT4, iLst, iFn,   bind_ok, bind_xc, of_ok, of_xc, res_ok, res_xc, res0_ok, own_ok, own_xc, fr_nx, fr_rt, fr_rto, fr_xc, fo_rto, fo_xc, liftO_some, dBool_bl, items_lst, items_frz, ent, defU, defO, List.map_cons, List.map_nil, List.length_cons, List.length_nil, List.cons_append, List.nil_append, List.append_nil, List.replicate, List.getElem?_cons_zero, List.getElem?_cons_succ, List.set_cons_zero, List.set_cons_succ, Nat.zero_add, Nat.reduceAdd, Nat.reduceSub, Nat.reduceLeDiff,   le_big, lt_big, atN_zero, atN_one, atN_two, atN_three, setN_zero, setN_one, popAt_zero, len_zero, len_succ, dMul_r, dMul_l, dDiv_pos, dMod_pos, dAdd_int, dSub_int, dNeg_int, dLt_int, dLe_int, dGt_int, dGe_int, dEq_int, dNe_int, dEq_bl, dNe_bl, dEq_nil, dNe_nil, dIx_lst, dIx_tup, fAbs_int, fInt_bl, fInt_int, fLen_lst, fLen_frz, fLen_tup, ite_true, ite_false, if_true, if_false, Bool.not_true, Bool.not_false, decide_true, decide_false, Bool.true_eq_false, Bool.false_eq_true, reduceIte, reduceCtorEq, turn_nx, turn_ct, turn_bk, turn_rt, turn_rto, turn_xc, sFor_eq, goL_nil, eq_self, *])
local macro_rules | `(tactic| walk_at "evt") => `(tactic| try simp (disch := first | omega | (simp only [List.length_append, List.length_cons, List.length_nil, List.length_map]; omega)) only [sSeq_eq, seq_nx, seq_rt, seq_rto, seq_xc, seq_bk, seq_ct, seq_ite, sAsg, sAsgO, sExpr, sRet, sRetO, sRetN, sIf, sNext, uVar, uC, uUn, uBin, uB, uNot, uAnd, uOr, uTV, uAndV, uOrV, uNotV, uIf, uChain, uNil, uCons, uTup, uLst, uLstO, uFn, uFnO, uFnOX, uFz, uMv, uNew, uCall, uCallO, uCallN, uBinV, uBinW, uBinL, uMeO, uMeL, uFnV, sSetL, sAsgG, gN, gT2, gT3, gT4, iLst, iFn,   bind_ok, bind_xc, of_ok, of_xc, res_ok, res_xc, res0_ok, own_ok, own_xc, fr_nx, fr_rt, fr_rto, fr_xc, fo_rto, fo_xc, liftO_some, dBool_bl, items_lst, items_frz, ent, defU, defO, List.map_cons, List.map_nil, List.length_cons, List.length_nil, List.cons_append, List.nil_append, List.append_nil, List.replicate, List.getElem?_cons_zero, List.getElem?_cons_succ, List.set_cons_zero, List.set_cons_succ, Nat.zero_add, Nat.reduceAdd, Nat.reduceSub, Nat.reduceLeDiff,   le_big, lt_big, atN_zero, atN_one, atN_two, atN_three, setN_zero, setN_one, popAt_zero, len_zero, len_succ, dMul_r, dMul_l, dDiv_pos, dMod_pos, dAdd_int, dSub_int, dNeg_int, dLt_int, dLe_int, dGt_int, dGe_int, dEq_int, dNe_int, dEq_bl, dNe_bl, dEq_nil, dNe_nil, dIx_lst, dIx_tup, fAbs_int, fInt_bl, fInt_int, fLen_lst, fLen_frz, fLen_tup, ite_true, ite_false, if_true, if_false, Bool.not_true, Bool.not_false, decide_true, decide_false, Bool.true_eq_false, Bool.false_eq_true, reduceIte, reduceCtorEq, turn_nx, turn_ct, turn_bk, turn_rt, turn_rto, turn_xc, sFor_eq, goL_nil, eq_self, sRaise, gT2, gT3, gT4, sAsgG, uM1, uOrS, uSlS, uSlW, uCatV, uPart, uNoPart, iStrU, k_colon, k_blank, k_line, k_f, k_s, k_0, k_empty, k_digits, k_abc, k_alpha, k_cue, k_from, k_to, k_at, k_two, k_fto, k_nl, k_a1, dAdd_tx, fLen_tx, fStr_nat, dEq_tx, dNe_tx, dEq_txn, dNe_txn, len_tx, cutS_l1, cutS_b1, cutS_ln, cutS_bn, dIx_tx0, *])
local macro_rules | `(tactic| walk_at "evx") => `(tactic| try simp (disch := first | omega | (simp only [List.length_append, List.length_cons, List.length_nil, List.length_map]; omega)) only [sSeq_eq, seq_nx, seq_rt, seq_rto, seq_xc, seq_bk, seq_ct, seq_ite, sAsg, sAsgO, sExpr, sRet, sRetO, sRetN, sIf, sNext, uVar, uC, uUn, uBin, uB, uNot, uAnd, uOr, uTV, uAndV, uOrV, uNotV, uIf, uChain, uNil, uCons, uTup, uLst, uLstO, uFn, uFnO, uFnOX, uFz, uMv, uNew, uCall, uCallO, uCallN, uBinV, uBinW, uBinL, uMeO, uMeL, uFnV, sSetL, sAsgG, gN, gT2, gT3, gT4, iLst, iFn,   bind_ok, bind_xc, of_ok, of_xc, res_ok, res_xc, res0_ok, own_ok, own_xc, fr_nx, fr_rt, fr_rto, fr_xc, fo_rto, fo_xc, liftO_some, dBool_bl, items_lst, items_frz, ent, defU, defO, List.map_cons, List.map_nil, List.length_cons, List.length_nil, List.cons_append, List.nil_append, List.append_nil, List.replicate, List.getElem?_cons_zero, List.getElem?_cons_succ, List.set_cons_zero, List.set_cons_succ, Nat.zero_add, Nat.reduceAdd, Nat.reduceSub, Nat.reduceLeDiff,   le_big, lt_big, atN_zero, atN_one, atN_two, atN_three, setN_zero, setN_one, popAt_zero, len_zero, len_succ, dMul_r, dMul_l, dDiv_pos, dMod_pos, dAdd_int, dSub_int, dNeg_int, dLt_int, dLe_int, dGt_int, dGe_int, dEq_int, dNe_int, dEq_bl, dNe_bl, dEq_nil, dNe_nil, dIx_lst, dIx_tup, fAbs_int, fInt_bl, fInt_int, fLen_lst, fLen_frz, fLen_tup, ite_true, ite_false, if_true, if_false, Bool.not_true, Bool.not_false, decide_true, decide_false, Bool.true_eq_false, Bool.false_eq_true, reduceIte, reduceCtorEq, turn_nx, turn_ct, turn_bk, turn_rt, turn_rto, turn_xc, sFor_eq, goL_nil, eq_self, sRaise, gT2, gT3, gT4, sAsgG, see_bl, see_int, see_non, see_tup, see_lst, see_str, uBinX, uUnX, uFnX, uFld, sFldU, uMeth, uMethO, uMake, uCatX, uRev, uMethN, uFrzI, uSlV, uM1, uOrS, uSlS, uSlW, uCatV, uPart, uNoPart, iStrU, k_colon, k_blank, k_line, k_f, k_s, k_0, k_empty, k_digits, k_abc, k_alpha, k_cue, k_from, k_to, k_at, k_two, k_fto, k_nl, k_a1, dAdd_tx, fLen_tx, fStr_nat, dEq_tx, dNe_tx, dEq_txn, dNe_txn, len_tx, cutS_l1, cutS_b1, cutS_ln, cutS_bn, dIx_tx0, *])
theorem tx_lay {l : List Nat} (h : ∀ c ∈ l, c < 128) : (PyData.str ⟨l.toArray⟩).canLay0 = true := by
  unfold PyData.canLay0
  unfold PyData.strOk
  simp
  intro i hi
  have := h i hi
  omega
theorem rows_shp (rows : List Rr) (h : ∀ r ∈ rows, RrOk r) : shp 64 (.lst (rows.map encR)) = true := by
  show shps 63 _ = true
  refine shps_all fun d hd => ?_
  obtain ⟨r, hr, rfl⟩ := List.mem_map.mp hd
  have hw : shps 61 (r.ws.map wd) = true := shps_all fun d hd => by
    obtain ⟨n, _, rfl⟩ := List.mem_map.mp hd
    unfold wd
    show (PyData.str _).canLay0 = true
    exact tx_lay fun c hc => by
      have := List.eq_of_mem_replicate hc
      omega
  show (shp 62 (encF r.b) && (shp 62 (encF r.e) && (shp 62 (.int r.k) && (shp 62 (.lst (r.ws.map wd)) && true)))) = true
  have e1 : shp 62 (.lst (r.ws.map wd)) = true := by unfold shp; exact hw
  have e2 : shp 62 (encF r.b) = true := rfl
  have e3 : shp 62 (encF r.e) = true := rfl
  have e4 : shp 62 (.int r.k) = true := rfl
  rw [e1, e2, e3, e4]
  rfl
theorem pr_shp (xs : List (Wn × Fr)) (gs : List Fr) (n : Nat) : shp 64 (.lst (prL xs gs n)) = true := by
  show shps 63 _ = true
  refine shps_all fun d hd => ?_
  unfold prL at hd
  obtain ⟨k, _, rfl⟩ := List.mem_map.mp hd
  rfl
theorem tail_ok {u : Ru} {rows : List Rr} {gs : List Fr} {N : Nat} {e : Fr} {xs : List (Wn × Fr)} (f : MvF u rows gs N e xs) (he : EndOk e) (hg : ∀ g ∈ gs, GapOk g) (hl : gs.length = N - 1) (hN : N = 2 * rows.length) (h20 : rows.length ≤ 20) (ro : ∀ r ∈ rows, RrOk r)
    {NS : D} {om1 : Om} {i j : Nat} {P : List D} (hi : om1[i]? = some (.lst (prL xs gs rows.length))) (hj : om1[j]? = some (.lst P)) (hij : i ≠ j) {y9 : Option Sl} :
    ∃ om2, (sSeq l_s10 (sSeq l_s11 (sSeq l_s12 (sSeq l_s13 (sSeq l_s14 (sSeq l_s15 (sSeq l_s16 (sSeq l_s17 (sSeq l_s18 (sSeq l_s19 (sSeq l_s20 (sSeq l_s21 l_s22))))))))))))
      [some (.val (NS)), some (.val (.loc 1)), some (.val (.lst (rows.map encR))), some (.val (encU u)), some (.val (.lst (gs.map encF))), some (.val (encF e)), some (.val (.lst (rows.map encR))), some (.val (.tup [.loc i, encF (costF xs), .loc j])), some (.val (encF (lfK e gs gs.length))), y9, none, none, none, none, none, none, none] om1 = .rt (.bl true) om2 := by
  have q10 := st10 (x0 := some (.val NS)) (x1 := some (.val (.loc 1))) (x2 := some (.val (.lst (rows.map encR)))) (x3 := some (.val (encU u))) (x4 := some (.val (.lst (gs.map encF)))) (x5 := some (.val (encF e))) (x6 := some (.val (.lst (rows.map encR)))) (x8 := some (.val (encF (lfK e gs gs.length)))) (x9 := y9) (x10 := none) (x11 := none) (x12 := none) (x13 := none) (x14 := none) (x15 := none) (x16 := none) (c := encF (costF xs)) (j := j) hi
  obtain ⟨y11, q16⟩ : ∃ y11, l_s16 [some (.val (NS)), some (.val (.loc 1)), some (.val (.lst (rows.map encR))), some (.val (encU u)), some (.val (.lst (gs.map encF))), some (.val (encF e)), some (.val (.lst (rows.map encR))), some (.val (.tup [.loc i, encF (costF xs), .loc j])), some (.val (encF (lfK e gs gs.length))), y9, some (.val (.lst ((tmL xs gs N).map encF))), none, none, none, none, none, none] om1 = .nx [some (.val (NS)), some (.val (.loc 1)), some (.val (.lst (rows.map encR))), some (.val (encU u)), some (.val (.lst (gs.map encF))), some (.val (encF e)), some (.val (.lst (rows.map encR))), some (.val (.tup [.loc i, encF (costF xs), .loc j])), some (.val (encF (lfK e gs gs.length))), y9, some (.val (.lst ((tmL xs gs N).map encF))), y11, none, none, none, none, none] om1 := st16 f hg hl (by omega)
  have w14 := wanted_loc om1 xs gs h20 hi
  rw [← hN] at w14
  have tn : ∀ t ∈ tmL xs gs N, Nm t := fun t ht => by
    unfold tmL at ht
    obtain ⟨k, hk, rfl⟩ := List.mem_map.mp ht
    exact f.nm k (List.mem_range.mp hk)
  have pl : (prL xs gs rows.length).length = (rows.map encR).length := by unfold prL; rw [List.length_map, List.length_map, List.length_range]
  have ne := dNe_self (rows_shp rows ro)
  have hj2 : (om1.set i (.lst []))[j]? = some (.lst P) := by rw [List.getElem?_set_ne hij]; exact hj
  have w21 := wanted_eq ((om1.set i (.lst [])).set j (.lst [])) h20
  rw [← hN] at w21
  have c21 := f.co ((om1.set i (.lst [])).set j (.lst []))
  obtain ⟨i2, j2, om2, P2, m2, hi2, _, _⟩ := f.mv ((om1.set i (.lst [])).set j (.lst []))
  have al := alike_eq ((om1.set i (.lst [])).set j (.lst [])) (good_F (costF xs))
  have dq := dEq_self (pr_shp xs gs rows.length)
  have q17 : ∀ {x0 x1 x2 x3 x4 x6 x7 x8 x9 x11 x12 x13 x14 x15 x16 : Option Sl}, l_s17 [x0, x1, x2, x3, x4, some (.val (encF e)), x6, x7, x8, x9, some (.val (.lst ((tmL xs gs N).map encF))), x11, x12, x13, x14, x15, x16] om1 = .nx [x0, x1, x2, x3, x4, some (.val (encF e)), x6, x7, x8, x9, some (.val (.lst ((tmL xs gs N).map encF))), x11, x12, x13, x14, x15, x16] om1 := by
    intro x0 x1 x2 x3 x4 x6 x7 x8 x9 x11 x12 x13 x14 x15 x16
    by_cases hz : N = 0
    · rw [hz]
      exact st17_nil
    · have n0 : 0 < N := by omega
      have h1 := f.hi n0
      have nl := f.nm (N - 1) (by omega)
      have ll := llow_eq om1 he.n.bd nl.bd (by decide)
      rw [h1] at ll
      have tl : tmL xs gs N = tmL xs gs (N - 1) ++ [tmK xs gs (N - 1)] := by
        unfold tmL
        have : N = N - 1 + 1 := by omega
        rw [this, List.range_succ, List.map_append]
        rfl
      refine st17 (t := tmK xs gs 0) (l := encF (tmK xs gs (N - 1))) ?_ ?_ (f.lo n0) ?_ ll
      · exact atN_nat (k := 0) (by unfold tmL; rw [List.getElem?_map, List.getElem?_map, List.getElem?_range n0]; rfl)
      · rw [tl, List.map_append]
        exact atN_last
      · rw [tl, List.map_append]
        rw [dNe_nil]
        simp
  refine ⟨om2, ?_⟩
  rw [seq_go q10, seq_go (st11 hi pl), seq_go (st12 ne), seq_go (st13 hi), seq_go (st14 w14), seq_go (st15 tn), seq_go q16, seq_go q17, seq_go (st18 hi), seq_go (st19 hi), seq_go (st20 hj2), seq_go (st21 w21 c21)]
  exact st22 al m2 hi2 dq
theorem law_true (ns : List Int) (hl : ns.length ≤ 63) : ∃ om, S_law [.frz (ns.map D.int)] [] = .ok (.bl true) om := by
  obtain ⟨b0, e0⟩ := begun_eq ns
  obtain ⟨rows, b1, e1, l20, ro⟩ := rows_eq [] b0
  obtain ⟨u, b2, e2, uo⟩ := rule_eq [] b1
  have e3 := far_eq (bom b2 []) uo ro l20
  obtain ⟨g1, g2, g3⟩ := ends_ok uo ro l20
  obtain ⟨e, b3, e4, eo⟩ := end_eq [] b2 g1 g2
  obtain ⟨ld, lv⟩ := lf_ok eo g1 (gapsF u rows).length (Nat.le_refl _)
  generalize hgs : gapsF u rows = gs at *
  have key : ∃ om, u_law [some (.val (.frz (ns.map D.int))), none, none, none, none, none, none, none, none, none, none, none, none, none, none, none, none] [] = .rt (.bl true) om := by
    rw [l_top]
    rw [seq_go (st0 e0), seq_go (st1 e1), seq_go (st2 e2), seq_go (st3 e3), seq_go (st4 e4), seq_go (st5 l20)]
    cases hf : flt e (shK gs gs.length) with
    | true =>
      have e6 := lmoved_tight (moved_tight (bom b3 []) uo ro l20 eo (by rw [hgs]; exact hf))
      rw [seq_go (st6 e6), seq_go st7]
      obtain ⟨y9, q8⟩ : ∃ y9, l_s8 [some (.val (.frz (ns.map D.int))), some (.val (.loc 1)), some (.val (.lst (rows.map encR))), some (.val (encU u)), some (.val (.lst (gs.map encF))), some (.val (encF e)), some (.val (.lst (rows.map encR))), some (.val (tightD)), some (.val (encF e)), none, none, none, none, none, none, none, none] (bom b3 []) = .nx [some (.val (.frz (ns.map D.int))), some (.val (.loc 1)), some (.val (.lst (rows.map encR))), some (.val (encU u)), some (.val (.lst (gs.map encF))), some (.val (encF e)), some (.val (.lst (rows.map encR))), some (.val (tightD)), some (.val (encF (lfK e gs gs.length))), y9, none, none, none, none, none, none, none] (bom b3 []) := st8 eo g1 g2
      rw [seq_go q8]
      have hn : (lfK e gs gs.length).1 < 0 := by
        rw [fst_neg ld.cn.1, lv]
        have := (flt_iff eo.n.p g3.p).mp hf
        grind
      exact ⟨_, seq_ret (st9_tight rfl hn eq_tight (dEq_self (rows_shp rows ro)))⟩
    | false =>
      have hx : ∃ xs, MvF u rows gs (2 * rows.length) e xs := by
        by_cases hn : rows = []
        · subst hn
          rw [← hgs]
          exact ⟨_, mvf_nil uo eo⟩
        · have rp : 0 < rows.length := List.length_pos_iff.mpr hn
          have m : MvIn u rows gs (2 * rows.length) := ⟨uo, ro, l20, rfl, rp, hgs.symm⟩
          have lg := (gapsF_len u rows).1
          rw [hgs] at lg
          exact mvf_some m eo (by rw [← lg]; exact hf)
      obtain ⟨xs, f⟩ := hx
      obtain ⟨i, j, om1, P, e6, hi, hj, hij⟩ := f.mv (bom b3 [])
      rw [seq_go (st6 e6), seq_go st7]
      obtain ⟨y9, q8⟩ : ∃ y9, l_s8 [some (.val (.frz (ns.map D.int))), some (.val (.loc 1)), some (.val (.lst (rows.map encR))), some (.val (encU u)), some (.val (.lst (gs.map encF))), some (.val (encF e)), some (.val (.lst (rows.map encR))), some (.val (.tup [.loc i, encF (costF xs), .loc j])), some (.val (encF e)), none, none, none, none, none, none, none, none] om1 = .nx [some (.val (.frz (ns.map D.int))), some (.val (.loc 1)), some (.val (.lst (rows.map encR))), some (.val (encU u)), some (.val (.lst (gs.map encF))), some (.val (encF e)), some (.val (.lst (rows.map encR))), some (.val (.tup [.loc i, encF (costF xs), .loc j])), some (.val (encF (lfK e gs gs.length))), y9, none, none, none, none, none, none, none] om1 := st8 eo g1 g2
      have hn : ¬ (lfK e gs gs.length).1 < 0 := by
        rw [fst_neg ld.cn.1, lv]
        have := (flt_false eo.n.p g3.p).mp hf
        grind
      have lg := (gapsF_len u rows).1
      rw [hgs] at lg
      rw [seq_go q8, seq_go (st9 hn)]
      exact tail_ok f eo g1 lg rfl l20 ro hi hj hij
  obtain ⟨om, key⟩ := key
  refine ⟨om, ?_⟩
  unfold S_law defU
  show (u_law [some (.val (.frz (ns.map D.int))), none, none, none, none, none, none, none, none, none, none, none, none, none, none, none, none] []).fr = _
  rw [key]
  rfl
end Dv

open PySem PySem.W PyProof.Rows in
set_option maxRecDepth 100000 in
set_option maxHeartbeats 0 in
theorem PySem.Challenge.cw_reels_k14_moved_keep_the_rule_holds : PySem.Challenge.rw_reels_k14_moved_keep_the_rule.Holds := by
  w_on; o_law; k_head; (case hw => w_witness2)
  k_fill
  refine L2.walk_ofK (l := PySem.Challenge.rw_reels_k14_moved_keep_the_rule) (n := 63) (k := 13) (x := "_law_script") (CX := L2.CX0) (sp := Dv.spLaw Dv.S_law) rfl (by decide) rfl ⟨rfl, by decide, by decide⟩ (fun w h Y => PySem.W.kIn_of Y) ?F (fun K H a ns hl hO hS => fun cls => Dv.law_sp hO hS (Dv.law_true ns hl)) (fun _ _ _ _ z => z)
  case F =>
    intro w mg fa h KX G hmg
    refine Dv.fin KX hmg ?T
    constructor
    · refine' Dv.at_mk KX G ?a ?l ?c ?k
      (case a => k_is)
      (case l => k_is)
      (case c => k_is)
      (case k => k_is)
    · refine' Dv.at_mk KX G ?a ?l ?c ?k
      (case a => k_is)
      (case l => k_is)
      (case c => k_is)
      (case k => k_is)
    · refine' Dv.at_mk KX G ?a ?l ?c ?k
      (case a => k_is)
      (case l => k_is)
      (case c => k_is)
      (case k => k_is)
    · refine' Dv.at_mk KX G ?a ?l ?c ?k
      (case a => k_is)
      (case l => k_is)
      (case c => k_is)
      (case k => k_is)
    · refine' Dv.at_mk KX G ?a ?l ?c ?k
      (case a => k_is)
      (case l => k_is)
      (case c => k_is)
      (case k => k_is)
    · refine' Dv.at_mk KX G ?a ?l ?c ?k
      (case a => k_is)
      (case l => k_is)
      (case c => k_is)
      (case k => k_is)
    · refine' Dv.at_mk KX G ?a ?l ?c ?k
      (case a => k_is)
      (case l => k_is)
      (case c => k_is)
      (case k => k_is)
    · refine' Dv.at_mk KX G ?a ?l ?c ?k
      (case a => k_is)
      (case l => k_is)
      (case c => k_is)
      (case k => k_is)
    · refine' Dv.at_mk KX G ?a ?l ?c ?k
      (case a => k_is)
      (case l => k_is)
      (case c => k_is)
      (case k => k_is)
    · refine' Dv.at_mk KX G ?a ?l ?c ?k
      (case a => k_is)
      (case l => k_is)
      (case c => k_is)
      (case k => k_is)
    · refine' Dv.atI_mk KX G ?aC ?a ?i ?l ?c ?k ?mk ?kc
      (case aC => k_is)
      (case a => k_is)
      (case i => k_is)
      (case l => k_is)
      (case c => k_is)
      (case k => k_is)
      (case mk => k_is)
      (case kc => k_is)
    · refine' Dv.atM_mk KX G ?aC ?a ?i ?l ?c ?k
      (case aC => k_is)
      (case a => k_is)
      (case i => k_is)
      (case l => k_is)
      (case c => k_is)
      (case k => k_is)
    · refine' Dv.at_mk KX G ?a ?l ?c ?k
      (case a => k_is)
      (case l => k_is)
      (case c => k_is)
      (case k => k_is)
    · refine' Dv.at_mk KX G ?a ?l ?c ?k
      (case a => k_is)
      (case l => k_is)
      (case c => k_is)
      (case k => k_is)
    · refine' Dv.at_mk KX G ?a ?l ?c ?k
      (case a => k_is)
      (case l => k_is)
      (case c => k_is)
      (case k => k_is)
    · refine' Dv.at_mk KX G ?a ?l ?c ?k
      (case a => k_is)
      (case l => k_is)
      (case c => k_is)
      (case k => k_is)
    · refine' Dv.at_mk KX G ?a ?l ?c ?k
      (case a => k_is)
      (case l => k_is)
      (case c => k_is)
      (case k => k_is)
    · refine' Dv.at_mk KX G ?a ?l ?c ?k
      (case a => k_is)
      (case l => k_is)
      (case c => k_is)
      (case k => k_is)
    · refine' Dv.at_mk KX G ?a ?l ?c ?k
      (case a => k_is)
      (case l => k_is)
      (case c => k_is)
      (case k => k_is)
    · refine' Dv.at_mk KX G ?a ?l ?c ?k
      (case a => k_is)
      (case l => k_is)
      (case c => k_is)
      (case k => k_is)
    · refine' Dv.at_mk KX G ?a ?l ?c ?k
      (case a => k_is)
      (case l => k_is)
      (case c => k_is)
      (case k => k_is)
    · refine' Dv.at_mk KX G ?a ?l ?c ?k
      (case a => k_is)
      (case l => k_is)
      (case c => k_is)
      (case k => k_is)
    · refine' Dv.at_mk KX G ?a ?l ?c ?k
      (case a => k_is)
      (case l => k_is)
      (case c => k_is)
      (case k => k_is)
    · refine' Dv.at_mk KX G ?a ?l ?c ?k
      (case a => k_is)
      (case l => k_is)
      (case c => k_is)
      (case k => k_is)
    · refine' Dv.at_mk KX G ?a ?l ?c ?k
      (case a => k_is)
      (case l => k_is)
      (case c => k_is)
      (case k => k_is)
    · refine' Dv.at_mk KX G ?a ?l ?c ?k
      (case a => k_is)
      (case l => k_is)
      (case c => k_is)
      (case k => k_is)
    · refine' Dv.at_mk KX G ?a ?l ?c ?k
      (case a => k_is)
      (case l => k_is)
      (case c => k_is)
      (case k => k_is)
    · refine' Dv.at_mk KX G ?a ?l ?c ?k
      (case a => k_is)
      (case l => k_is)
      (case c => k_is)
      (case k => k_is)
    · refine' Dv.at_mk KX G ?a ?l ?c ?k
      (case a => k_is)
      (case l => k_is)
      (case c => k_is)
      (case k => k_is)
    · refine' Dv.at_mk KX G ?a ?l ?c ?k
      (case a => k_is)
      (case l => k_is)
      (case c => k_is)
      (case k => k_is)
    · refine' Dv.at_mk KX G ?a ?l ?c ?k
      (case a => k_is)
      (case l => k_is)
      (case c => k_is)
      (case k => k_is)
    · refine' Dv.at_mk KX G ?a ?l ?c ?k
      (case a => k_is)
      (case l => k_is)
      (case c => k_is)
      (case k => k_is)
    · refine' Dv.at_mk KX G ?a ?l ?c ?k
      (case a => k_is)
      (case l => k_is)
      (case c => k_is)
      (case k => k_is)
    · refine' Dv.at_mk KX G ?a ?l ?c ?k
      (case a => k_is)
      (case l => k_is)
      (case c => k_is)
      (case k => k_is)
    · refine' PySem.W.mg_none_of KX G ?z
      (case z => k_is)
    · refine' PySem.W.mg_none_of KX G ?z
      (case z => k_is)
    · refine' PySem.W.mg_none_of KX G ?z
      (case z => k_is)
    · refine' PySem.W.mg_none_of KX G ?z
      (case z => k_is)
    · refine' PySem.W.mg_none_of KX G ?z
      (case z => k_is)
    · refine' PySem.W.mg_none_of KX G ?z
      (case z => k_is)
    · refine' PySem.W.mg_none_of KX G ?z
      (case z => k_is)
    · refine' PySem.W.mg_none_of KX G ?z
      (case z => k_is)
    · refine' PySem.W.mg_none_of KX G ?z
      (case z => k_is)
    · refine' PySem.W.mg_none_of KX G ?z
      (case z => k_is)
    · refine' PySem.W.mg_none_of KX G ?z
      (case z => k_is)
    · refine' PySem.W.mg_none_of KX G ?z
      (case z => k_is)
    · refine' PySem.W.mg_none_of KX G ?z
      (case z => k_is)
    · refine' Dv.const_pair (PySem.W.mg_of KX G ?a) ?l
      (case a => k_is)
      (case l => k_is)
    · refine' Dv.cls_mk KX G ?aC ?pg ?hd ?po ?sa
      (case aC => k_is)
      (case pg => k_is)
      (case hd => k_is)
      (case po => k_is)
      (case sa => k_is)
    · refine' Dv.na_mk KX G ?aC ?n
      (case aC => k_is)
      (case n => k_is)
    · refine' Dv.exm_mk KX G ?a ?k ?b ?t ?i ?x
      (case a => k_is)
      (case k => k_is)
      (case b => k_is)
      (case t => k_is)
      (case i => k_is)
      (case x => k_exc)
    · refine' (Dv.KnOk.cons ?nTooTight0 Dv.KnOk.nil)
      · refine' Dv.sub_mk KX G ?a ?b ?s
        (case a => k_is)
        (case b => k_is)
        (case s => first | rfl | k_is)
    · refine' (Dv.EcOk.cons ?eReelError_TooTight Dv.EcOk.nil)
      · refine' Dv.ec_mk KX G ?a ?s ?h1 ?h2 ?h3 ?h4 ?h5 ?h6 ?h7 ?h8
        (case a => first | k_is | rfl)
        (case s => first | k_is | rfl)
        (case h1 => first | k_is | rfl)
        (case h2 => first | k_is | rfl)
        (case h3 => first | k_is | rfl)
        (case h4 => first | k_is | rfl)
        (case h5 => first | k_is | rfl)
        (case h6 => first | k_is | rfl)
        (case h7 => first | k_is | rfl)
        (case h8 => first | k_is | rfl)
    · refine' Dv.exf_mk KX G ?a ?k ?b ?t ?i
      (case a => k_is)
      (case k => k_is)
      (case b => k_is)
      (case t => k_is)
      (case i => k_is)
    · refine' (Dv.KnOk.cons ?nValueError0 Dv.KnOk.nil)
      · refine' Dv.subT_mk KX G ?a ?s
        (case a => k_is)
        (case s => k_is)
    · refine' Dv.exf_mk KX G ?a ?k ?b ?t ?i
      (case a => k_is)
      (case k => k_is)
      (case b => k_is)
      (case t => k_is)
      (case i => k_is)
    · refine' (Dv.KnOk.cons ?nReelError0 Dv.KnOk.nil)
      · refine' Dv.sub_mk KX G ?a ?b ?s
        (case a => k_is)
        (case b => k_is)
        (case s => first | rfl | k_is)
