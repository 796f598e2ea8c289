import PyProof.Rows.All
import Wide.All
import OpenK.AllK
import Wide.FinOn
import HandS.ForMost
import HandS.ForExc
import HandS.Wide
import HandS.Flow
import HandS.IsInst
import PyProof.NeData
import HandS.ExcOwn
import HandS.ExcIs
import HandS.TryOnly
import HandS.Text
import HandS.StrMore
import HandS.SortOrd
import HandS.SortRule
import HandS.SortInts
import HandS.RevTup
import HandS.Rev
import PyProof.ListNew
import HandS.EndOwn
import PySem.Challenge.RW_reels_k08_whole_undone
set_option Elab.async false
set_option linter.all false
set_option maxRecDepth 100000
set_option maxHeartbeats 2000000
/-! A layer of plain data over HandS: D values (trees), own slots, shared cells; an evaluator on them; its soundness, construct by construct. -/
namespace Dv
open PySem PySem.Spec PyProof.Rows L2

/-! ### data -/
inductive D where
  | non
  | bl (b : Bool)
  | int (i : Int)
  | str (x : Str)
  | tup (ds : List D)
  | lst (ds : List D)
  | obj (c : Str) (fs : List (Str × D))
  | loc (i : Nat)
  | frz (ds : List D)
  deriving Inhabited
inductive Cell where
  | gone
  | lst (ds : List D)
  | ins (c : Str) (fs : List (Str × D))
  | tab (q : Str)
  deriving Inhabited
structure DX where
  c : Str
  fs : List (Str × D)
inductive Sl where
  | val (d : D)
  | own (ds : List D)
  | exc (x : DX)
abbrev Rho := List (Option Sl)
abbrev Om := List Cell
inductive Res (τ : Type) where
  | ok (t : τ) (r : Rho) (o : Om)
  | xc (x : DX) (r : Rho) (o : Om)
  | no
@[simp] def Res.bind {τ υ : Type} : Res τ → (τ → Rho → Om → Res υ) → Res υ
  | .ok t r o, f => f t r o
  | .xc x r o, _ => .xc x r o
  | .no, _ => .no

/-- what a def of the text answers -/
inductive FR where
  | ok (d : D) (o : Om)
  | xc (x : DX) (o : Om)
  | no
@[simp] def FR.res : FR → Rho → Res D
  | .ok d o, r => .ok d r o
  | .xc x o, r => .xc x r o
  | .no, _ => .no
@[simp] def liftO {τ : Type} : Option τ → Rho → Om → Res τ
  | some t, r, o => .ok t r o
  | none, _, _ => .no

/-- the static facts: the written part, the classes' addresses -/
structure G where
  K : PySem.W.Frag
  cls : Str → Addr
  ex : Option (Nat × Addr × Str)
abbrev gK (K : PySem.W.Frag) (cls : Str → Addr) : G := ⟨K, cls, none⟩

/-- a list that is locked (the script), or stands in the written part -/
def FzL (K : PySem.W.Frag) (H : Hp) (a : Addr) (xs : List V) : Prop :=
  (∃ o, H a = some (.frz o (.lst xs))) ∨ ∃ (o : Obj) (its : Array Value) (n : Nat), K.lookup a = some o ∧ o.cls = .type "list" ∧ o.dict = none ∧ o.data = .seq its n ∧ its.size ≤ sizeLine ∧ Vals xs its.toList
theorem FzL.sq {K : PySem.W.Frag} {H : Hp} {a : Addr} {xs : List V} (h : FzL K H a xs) : SqL K H a xs := h.elim (fun ⟨o, h⟩ => .inl (.inr ⟨o, h⟩)) .inr
section
variable (g : G) (al : List Addr) (L : Addr → Prop) (H : Hp)
mutual
inductive RepV : V → D → Prop
  | non : RepV .non .non
  | bl {b : Bool} : RepV (.bl b) (.bl b)
  | int {i : Int} : RepV (.int i) (.int i)
  | str {x : Str} : RepV (.str x) (.str x)
  | tup {a : Addr} {vs : List V} {ds : List D} : SqT g.K H a vs → RepVs vs ds → RepV (.ref a) (.tup ds)
  | lst {a : Addr} {vs : List V} {ds : List D} : H a = some (.lst vs) → ¬ L a → RepVs vs ds → RepV (.ref a) (.lst ds)
  | frz {a : Addr} {vs : List V} {ds : List D} : FzL g.K H a vs → RepVs vs ds → RepV (.ref a) (.frz ds)
  | obj {a dx : Addr} {c : Str} {fvs : List (Str × V)} {fs : List (Str × D)} : H a = some (.ins (g.cls c) dx fvs) → ¬ L a → RepFs fvs fs → RepV (.ref a) (.obj c fs)
  | loc {i : Nat} {a : Addr} : al[i]? = some a → RepV (.ref a) (.loc i)
inductive RepVs : List V → List D → Prop
  | nil : RepVs [] []
  | cons {v : V} {vs : List V} {d : D} {ds : List D} : RepV v d → RepVs vs ds → RepVs (v :: vs) (d :: ds)
inductive RepFs : List (Str × V) → List (Str × D) → Prop
  | nil : RepFs [] []
  | cons {f : Str} {v : V} {vs : List (Str × V)} {d : D} {ds : List (Str × D)} : RepV v d → RepFs vs ds → RepFs ((f, v) :: vs) ((f, d) :: ds)
end
end

section
variable {g : G} {al al' : List Addr} {L L' : Addr → Prop} {H H' : Hp}
/-- what carries a representation on -/
structure Car (g : G) (al : List Addr) (L : Addr → Prop) (H : Hp) (al' : List Addr) (L' : Addr → Prop) (H' : Hp) : Prop where
  tup : ∀ (a : Addr) (vs : List V), SqT g.K H a vs → SqT g.K H' a vs
  lst : ∀ (a : Addr) (vs : List V), H a = some (.lst vs) → ¬ L a → H' a = some (.lst vs) ∧ ¬ L' a
  frz : ∀ (a : Addr) (vs : List V), FzL g.K H a vs → FzL g.K H' a vs
  obj : ∀ (a C dx : Addr) (fs : List (Str × V)), H a = some (.ins C dx fs) → ¬ L a → H' a = some (.ins C dx fs) ∧ ¬ L' a
  loc : ∀ (i : Nat) (a : Addr), al[i]? = some a → al'[i]? = some a
mutual
theorem RepV.car (c : Car g al L H al' L' H') : ∀ {v : V} {d : D}, RepV g al L H v d → RepV g al' L' H' v d
  | _, _, .non => .non
  | _, _, .bl => .bl
  | _, _, .int => .int
  | _, _, .str => .str
  | _, _, .tup h r => .tup (c.tup _ _ h) (RepVs.car c r)
  | _, _, .lst h n r => .lst (c.lst _ _ h n).1 (c.lst _ _ h n).2 (RepVs.car c r)
  | _, _, .frz h r => .frz (c.frz _ _ h) (RepVs.car c r)
  | _, _, .obj h n r => .obj (c.obj _ _ _ _ h n).1 (c.obj _ _ _ _ h n).2 (RepFs.car c r)
  | _, _, .loc h => .loc (c.loc _ _ h)
theorem RepVs.car (c : Car g al L H al' L' H') : ∀ {vs : List V} {ds : List D}, RepVs g al L H vs ds → RepVs g al' L' H' vs ds
  | _, _, .nil => .nil
  | _, _, .cons h r => .cons (RepV.car c h) (RepVs.car c r)
theorem RepFs.car (c : Car g al L H al' L' H') : ∀ {vs : List (Str × V)} {ds : List (Str × D)}, RepFs g al L H vs ds → RepFs g al' L' H' vs ds
  | _, _, .nil => .nil
  | _, _, .cons h r => .cons (RepV.car c h) (RepFs.car c r)
end

theorem RepVs.length : ∀ {vs : List V} {ds : List D}, RepVs g al L H vs ds → vs.length = ds.length
  | _, _, .nil => rfl
  | _, _, .cons _ r => by simp [RepVs.length r]
theorem RepVs.get : ∀ {vs : List V} {ds : List D}, RepVs g al L H vs ds → ∀ {i : Nat} {d : D}, ds[i]? = some d → ∃ v, vs[i]? = some v ∧ RepV g al L H v d
  | _, _, .nil, i, d, h => by simp at h
  | _, _, .cons h r, 0, d, e => by
    simp at e
    subst e
    exact ⟨_, rfl, h⟩
  | _, _, .cons h r, i + 1, d, e => by
    obtain ⟨v, h1, h2⟩ := RepVs.get r (i := i) (d := d) (by simpa using e)
    exact ⟨v, by simpa using h1, h2⟩
theorem RepVs.get' : ∀ {vs : List V} {ds : List D}, RepVs g al L H vs ds → ∀ {i : Nat} {v : V}, vs[i]? = some v → ∃ d, ds[i]? = some d ∧ RepV g al L H v d
  | _, _, .nil, i, d, h => by simp at h
  | _, _, .cons h r, 0, d, e => by
    simp at e
    subst e
    exact ⟨_, rfl, h⟩
  | _, _, .cons h r, i + 1, d, e => by
    obtain ⟨v, h1, h2⟩ := RepVs.get' r (i := i) (v := d) (by simpa using e)
    exact ⟨v, by simpa using h1, h2⟩
theorem RepVs.append : ∀ {vs ws : List V} {ds es : List D}, RepVs g al L H vs ds → RepVs g al L H ws es → RepVs g al L H (vs ++ ws) (ds ++ es)
  | _, _, _, _, .nil, s => s
  | _, _, _, _, .cons h r, s => .cons h (RepVs.append r s)
theorem RepVs.take : ∀ {vs : List V} {ds : List D} (n : Nat), RepVs g al L H vs ds → RepVs g al L H (vs.take n) (ds.take n)
  | _, _, 0, _ => .nil
  | _, _, _ + 1, .nil => .nil
  | _, _, n + 1, .cons h r => .cons h (RepVs.take n r)
theorem RepVs.drop : ∀ {vs : List V} {ds : List D} (n : Nat), RepVs g al L H vs ds → RepVs g al L H (vs.drop n) (ds.drop n)
  | _, _, 0, r => r
  | _, _, _ + 1, .nil => .nil
  | _, _, n + 1, .cons _ r => RepVs.drop n r
theorem RepVs.set {v : V} {d : D} (h : RepV g al L H v d) : ∀ {vs : List V} {ds : List D} (i : Nat), RepVs g al L H vs ds → RepVs g al L H (vs.set i v) (ds.set i d)
  | _, _, _, .nil => .nil
  | _, _, 0, .cons _ r => .cons h r
  | _, _, i + 1, .cons q r => .cons q (RepVs.set h i r)
theorem RepVs.eraseIdx : ∀ {vs : List V} {ds : List D} (i : Nat), RepVs g al L H vs ds → RepVs g al L H (vs.eraseIdx i) (ds.eraseIdx i)
  | _, _, _, .nil => .nil
  | _, _, 0, .cons _ r => r
  | _, _, i + 1, .cons q r => .cons q (RepVs.eraseIdx i r)
theorem RepVs.dropLast {vs : List V} {ds : List D} (h : RepVs g al L H vs ds) : RepVs g al L H vs.dropLast ds.dropLast := by
  rw [List.dropLast_eq_take, List.dropLast_eq_take, h.length]
  exact h.take _
theorem RepVs.reverse {vs : List V} {ds : List D} (h : RepVs g al L H vs ds) : RepVs g al L H vs.reverse ds.reverse := by
  induction vs generalizing ds with
  | nil => cases h; exact .nil
  | cons v vs ih =>
    cases h with
    | cons h r =>
      rw [List.reverse_cons, List.reverse_cons]
      exact (ih r).append (.cons h .nil)
theorem RepVs.flat {vs : List V} {ds : List D} (h : RepVs g al L H vs ds) : ∀ k : Nat, RepVs g al L H (List.replicate k vs).flatten (List.replicate k ds).flatten
  | 0 => .nil
  | k + 1 => by
    rw [List.replicate_succ, List.replicate_succ, List.flatten_cons, List.flatten_cons]
    exact h.append (RepVs.flat h k)
theorem RepVs.ints : ∀ {vs : List V} {ns : List Int}, RepVs g al L H vs (ns.map D.int) → vs = ns.map V.int
  | _, [], h => by cases h; rfl
  | _, n :: ns, h => by
    rw [List.map_cons] at h
    cases h with
    | cons h r =>
      cases h
      rw [RepVs.ints r]
      rfl
theorem RepVs.strs : ∀ {vs : List V} {ns : List Str}, RepVs g al L H vs (ns.map D.str) → vs = ns.map V.str
  | _, [], h => by cases h; rfl
  | _, n :: ns, h => by
    rw [List.map_cons] at h
    cases h with
    | cons h r =>
      cases h
      rw [RepVs.strs r]
      rfl
theorem RepVs.of_ints : ∀ {ns : List Int}, RepVs g al L H (ns.map V.int) (ns.map D.int)
  | [] => .nil
  | n :: ns => .cons .int RepVs.of_ints
theorem RepVs.of_strs : ∀ {ns : List Str}, RepVs g al L H (ns.map V.str) (ns.map D.str)
  | [] => .nil
  | n :: ns => .cons .str RepVs.of_strs
theorem RepFs.length : ∀ {vs : List (Str × V)} {ds : List (Str × D)}, RepFs g al L H vs ds → vs.length = ds.length
  | _, _, .nil => rfl
  | _, _, .cons _ r => by simp [RepFs.length r]
theorem RepFs.lookup : ∀ {vs : List (Str × V)} {ds : List (Str × D)}, RepFs g al L H vs ds → ∀ {f : Str} {d : D}, ds.lookup f = some d → ∃ v, vs.lookup f = some v ∧ RepV g al L H v d
  | _, _, .nil, f, d, h => by cases h
  | _, _, .cons (f := f') h r, f, d, e => by
    by_cases q : (f == f') = true
    · simp [List.lookup, q] at e ⊢
      subst e
      exact h
    · simp only [Bool.not_eq_true] at q
      simp [List.lookup, q] at e ⊢
      exact RepFs.lookup r e
theorem RepFs.lookup_none : ∀ {vs : List (Str × V)} {ds : List (Str × D)}, RepFs g al L H vs ds → ∀ {f : Str}, ds.lookup f = none → vs.lookup f = none
  | _, _, .nil, f, _ => rfl
  | _, _, .cons (f := f') h r, f, e => by
    by_cases q : (f == f') = true
    · simp [List.lookup, q] at e
    · simp only [Bool.not_eq_true] at q
      simp only [List.lookup, q] at e ⊢
      exact RepFs.lookup_none r e
/-- an attribute stored -/
def putD (f : Str) (d : D) : List (Str × D) → List (Str × D)
  | [] => [(f, d)]
  | (h, e) :: r => if h = f then (h, d) :: r else (h, e) :: putD f d r
theorem RepFs.put {f : Str} {v : V} {d : D} (h : RepV g al L H v d) : ∀ {vs : List (Str × V)} {ds : List (Str × D)}, RepFs g al L H vs ds → RepFs g al L H (putF f v vs) (putD f d ds)
  | _, _, .nil => .cons h .nil
  | _, _, .cons (f := f') q r => by
    unfold putF putD
    split
    · exact .cons h r
    · exact .cons q (RepFs.put h r)
end
end Dv

namespace Dv
open PySem PySem.Spec PyProof.Rows L2

abbrev St := L2.St
/-! ### the state -/
/-- the addresses of the living cells; of the own slots -/
def Lv (al : List Addr) (om : Om) (a : Addr) : Prop := ∃ (i : Nat) (c : Cell), al[i]? = some a ∧ om[i]? = some c ∧ c ≠ .gone
def OwnA (σ : St) (ρ : Rho) (a : Addr) : Prop := ∃ (i : Nat) (ds : List D), ρ[i]? = some (some (.own ds)) ∧ σ[i]? = some (some (.ref a))
def Mt (al : List Addr) (om : Om) (σ : St) (ρ : Rho) (a : Addr) : Prop := Lv al om a ∨ OwnA σ ρ a
def LL (R : Addr → Prop) (al : List Addr) (om : Om) (σ : St) (ρ : Rho) (a : Addr) : Prop := Mt al om σ ρ a ∨ R a
/-- P: the table of the code object of the def at fa -/
def TabOf (K : PySem.W.Frag) (fa P : Addr) : Prop := ∃ (o : Obj) (fd : FuncData) (c : Addr) (e : Value) (dd : Option Addr) (vs : Array Value) (sl : Array (Option Value)),
  K.lookup fa = some o ∧ o.data = .func fd ∧ fd.code = .ref c ∧ K.lookup c = some ⟨e, dd, .fields vs, sl⟩ ∧ vs[11]? = some (.ref P)
theorem TabOf.one {K : PySem.W.Frag} {fa P Q : Addr} (h : TabOf K fa P) (k : TabOf K fa Q) : P = Q := by
  obtain ⟨o, fd, c, e, dd, vs, sl, h1, h2, h3, h4, h5⟩ := h
  obtain ⟨o', fd', c', e', dd', vs', sl', k1, k2, k3, k4, k5⟩ := k
  rw [h1] at k1; cases k1
  rw [h2] at k2; cases k2
  rw [h3] at k3; cases k3
  rw [h4] at k4; cases k4
  rw [h5] at k5; cases k5
  rfl
def CellR (g : G) (al : List Addr) (L : Addr → Prop) (H : Hp) (a : Addr) : Cell → Prop
  | .gone => True
  | .lst ds => ∃ vs, H a = some (.lst vs) ∧ RepVs g al L H vs ds
  | .ins c fs => ∃ dx fvs, H a = some (.ins (g.cls c) dx fvs) ∧ RepFs g al L H fvs fs
  | .tab q => TabOf g.K (g.cls "law") a ∧ LamX.TabS H a q
/-- the shared cells, R being reserved -/
structure RO (g : G) (R : Addr → Prop) (al : List Addr) (om : Om) (H : Hp) (L : Addr → Prop) : Prop where
  len : al.length = om.length
  cel : ∀ (i : Nat) (c : Cell) (a : Addr), om[i]? = some c → al[i]? = some a → CellR g al L H a c
  inj : ∀ (i j : Nat) (a : Addr) (ci cj : Cell), al[i]? = some a → al[j]? = some a → om[i]? = some ci → om[j]? = some cj → ci ≠ .gone → cj ≠ .gone → i = j
  rsv : ∀ a, R a → ¬ Lv al om a ∧ H a ≠ none
/-- as many slots; the slot of a caught exception -/
structure Sle (g : G) (σ : St) (ρ : Rho) : Prop where
  len : σ.length = ρ.length
  exc : ∀ (i : Nat) (a : Addr) (c : Str) (x : DX), g.ex = some (i, a, c) → ρ[i]? = some (some (.exc x)) → σ[i]? = some (some (.ref a)) ∧ x.c = c
/-- a frame's state -/
structure Rst (g : G) (R : Addr → Prop) (al : List Addr) (σ : St) (ρ : Rho) (om : Om) (H : Hp) : Prop where
  o : RO g R al om H (LL R al om σ ρ)
  sl : Sle g σ ρ
  val : ∀ (i : Nat) (d : D), ρ[i]? = some (some (.val d)) → ∃ v, σ[i]? = some (some v) ∧ RepV g al (LL R al om σ ρ) H v d
  own : ∀ (i : Nat) (ds : List D), ρ[i]? = some (some (.own ds)) → ∃ (a : Addr) (vs : List V), σ[i]? = some (some (.ref a)) ∧ H a = some (.lst vs) ∧ RepVs g al (LL R al om σ ρ) H vs ds
  odj : ∀ (i j : Nat) (a : Addr) (di dj : List D), ρ[i]? = some (some (.own di)) → ρ[j]? = some (some (.own dj)) → σ[i]? = some (some (.ref a)) → σ[j]? = some (some (.ref a)) → i = j
  ocl : ∀ a, OwnA σ ρ a → ¬ Lv al om a ∧ ¬ R a
/-- from one state to a later one: M is what may have changed -/
structure Step (al : List Addr) (M : Addr → Prop) (H : Hp) (al' : List Addr) (M' : Addr → Prop) (H' : Hp) : Prop where
  ext : ∀ (i : Nat) (a : Addr), al[i]? = some a → al'[i]? = some a
  keep : ∀ (a : Addr) (o : HO), H a = some o → ¬ M a → H' a = some o
  fresh : ∀ a, M' a → M a ∨ H a = none
/-- an exception of an own class -/
def RepX (g : G) (al : List Addr) (L : Addr → Prop) (H : Hp) (cv : Value) (dd : Option Addr) (x : DX) : Prop :=
  cv = .ref (g.cls x.c) ∧ ((x.fs = [] ∧ dd = none) ∨ ∃ (d : Addr) (fvs : List (Str × V)), dd = some d ∧ x.fs ≠ [] ∧ H d = some (.xd fvs) ∧ RepFs g al L H fvs x.fs)

section
variable {g : G} {R : Addr → Prop} {al al' al2 : List Addr} {M M' M2 L L' : Addr → Prop} {om om' : Om} {σ σ' : St} {ρ ρ' : Rho} {H H' H2 : Hp}
theorem Step.refl : Step al M H al M H := ⟨fun _ _ h => h, fun _ _ h _ => h, fun _ h => .inl h⟩
theorem Step.trans (s : Step al M H al' M' H') (t : Step al' M' H' al2 M2 H2) : Step al M H al2 M2 H2 where
  ext := fun i a h => t.ext i a (s.ext i a h)
  keep := fun a o h n => t.keep a o (s.keep a o h n) fun m => by
    rcases s.fresh a m with q | q
    · exact n q
    · rw [h] at q; cases q
  fresh := fun a m => by
    by_cases q : M a
    · exact .inl q
    · refine .inr ?_
      cases e : H a with
      | none => rfl
      | some o =>
        have k := s.keep a o e q
        rcases t.fresh a m with z | z
        · rcases s.fresh a z with y | y
          · exact absurd y q
          · rw [e] at y; cases y
        · rw [k] at z; cases z
/-- the same addresses, the heap grown, less changing -/
theorem Step.grow (k : ∀ (a : Addr) (o : HO), H a = some o → ¬ M a → H' a = some o) (m : ∀ a, M' a → M a ∨ H a = none) : Step al M H al M' H' := ⟨fun _ _ h => h, k, m⟩
/-- what changes are lists and instances -/
def Flat (M : Addr → Prop) (H : Hp) : Prop := ∀ a, M a → (∃ xs, H a = some (.lst xs)) ∨ (∃ C dx fs, H a = some (.ins C dx fs)) ∨ ∃ ps, H a = some (.tbl ps)
theorem Lv.flat (o : RO g R al om H L) : Flat (Lv al om) H := fun a ⟨i, c, h1, h2, h3⟩ => by
  have q := o.cel i c a h2 h1
  cases c with
  | gone => exact absurd rfl h3
  | lst ds => obtain ⟨vs, e, _⟩ := q; exact .inl ⟨vs, e⟩
  | ins c fs => obtain ⟨dx, fvs, e, _⟩ := q; exact .inr (.inl ⟨_, dx, fvs, e⟩)
  | tab q' => obtain ⟨_, ps, e, _⟩ := q; exact .inr (.inr ⟨ps, e⟩)
theorem Mt.flat (S : Rst g R al σ ρ om H) : Flat (Mt al om σ ρ) H := fun a m => by
  rcases m with m | ⟨i, ds, h1, h2⟩
  · exact Lv.flat S.o a m
  · obtain ⟨b, vs, e1, e2, _⟩ := S.own i ds h1
    rw [h2] at e1
    cases e1
    exact .inl ⟨vs, e2⟩
/-- a representation is carried by a step, R staying reserved -/
theorem Step.car (s : Step al M H al' M' H') (f : Flat M H) (hr : ∀ a, R a → H a ≠ none) : Car g al (fun a => M a ∨ R a) H al' (fun a => M' a ∨ R a) H' where
  tup := fun a vs h => by
    rcases h with (h | ⟨o, h⟩) | h
    · refine .inl (.inl (s.keep a _ h fun m => ?_))
      rcases f a m with ⟨xs, e⟩ | ⟨C, dx, fs, e⟩ | ⟨ps, e⟩ <;> (rw [h] at e; cases e)
    · refine .inl (.inr ⟨o, s.keep a _ h fun m => ?_⟩)
      rcases f a m with ⟨xs, e⟩ | ⟨C, dx, fs, e⟩ | ⟨ps, e⟩ <;> (rw [h] at e; cases e)
    · exact .inr h
  lst := fun a vs h n => by
    refine ⟨s.keep a _ h fun m => n (.inl m), fun m => ?_⟩
    rcases m with m | m
    · rcases s.fresh a m with q | q
      · exact n (.inl q)
      · rw [h] at q; cases q
    · exact n (.inr m)
  frz := fun a vs h => h.imp (fun ⟨o, h⟩ => ⟨o, s.keep a _ h fun m => by
    rcases f a m with ⟨xs, e⟩ | ⟨C, dx, fs, e⟩ | ⟨ps, e⟩ <;> (rw [h] at e; cases e)⟩) id
  obj := fun a C dx fs h n => by
    refine ⟨s.keep a _ h fun m => n (.inl m), fun m => ?_⟩
    rcases m with m | m
    · rcases s.fresh a m with q | q
      · exact n (.inl q)
      · rw [h] at q; cases q
    · exact n (.inr m)
  loc := fun i a h => s.ext i a h
theorem Step.rep (s : Step al (Mt al om σ ρ) H al' (Mt al' om' σ' ρ') H') (S : Rst g R al σ ρ om H) {v : V} {d : D} (r : RepV g al (LL R al om σ ρ) H v d) : RepV g al' (LL R al' om' σ' ρ') H' v d :=
  r.car (s.car (Mt.flat S) fun a h => (S.o.rsv a h).2)
theorem Step.reps (s : Step al (Mt al om σ ρ) H al' (Mt al' om' σ' ρ') H') (S : Rst g R al σ ρ om H) {v : List V} {d : List D} (r : RepVs g al (LL R al om σ ρ) H v d) : RepVs g al' (LL R al' om' σ' ρ') H' v d :=
  r.car (s.car (Mt.flat S) fun a h => (S.o.rsv a h).2)
theorem Step.repfs (s : Step al (Mt al om σ ρ) H al' (Mt al' om' σ' ρ') H') (S : Rst g R al σ ρ om H) {v : List (Str × V)} {d : List (Str × D)} (r : RepFs g al (LL R al om σ ρ) H v d) : RepFs g al' (LL R al' om' σ' ρ') H' v d :=
  r.car (s.car (Mt.flat S) fun a h => (S.o.rsv a h).2)
/-- .. where what is reserved besides is new -/
theorem Step.rep2 {R2 : Addr → Prop} (s : Step al (Mt al om σ ρ) H al' (Mt al' om' σ' ρ') H') (S : Rst g R al σ ρ om H) (h2 : ∀ a, R2 a → R a ∨ H a = none) {v : V} {d : D} (r : RepV g al (LL R al om σ ρ) H v d) : RepV g al' (LL R2 al' om' σ' ρ') H' v d := by
  have c := s.car (g := g) (R := R) (Mt.flat S) fun a h => (S.o.rsv a h).2
  have no : ∀ {a : Addr} {o : HO}, H a = some o → ¬ LL R al om σ ρ a → ¬ LL R2 al' om' σ' ρ' a := fun {a o} h n m => by
    rcases m with m | m
    · rcases s.fresh a m with q | q
      · exact n (.inl q)
      · rw [h] at q; cases q
    · rcases h2 a m with q | q
      · exact n (.inr q)
      · rw [h] at q; cases q
  exact r.car ⟨c.tup, fun a vs h n => ⟨(c.lst a vs h n).1, no h n⟩, c.frz, fun a C dx fs h n => ⟨(c.obj a C dx fs h n).1, no h n⟩, c.loc⟩
theorem CellR.car {a : Addr} {c : Cell} (k : Car g al L H al' L' H') (h : CellR g al L H a c) (hl : ∀ xs, H a = some (.lst xs) → c ≠ .gone → H' a = some (.lst xs)) (hi : ∀ C dx fs, H a = some (.ins C dx fs) → c ≠ .gone → H' a = some (.ins C dx fs))
    (ht : ∀ q, LamX.TabS H a q → c ≠ .gone → LamX.TabS H' a q) : CellR g al' L' H' a c := by
  cases c with
  | gone => trivial
  | lst ds =>
    obtain ⟨vs, e, r⟩ := h
    exact ⟨vs, hl _ e (fun z => nomatch z), r.car k⟩
  | ins c fs =>
    obtain ⟨dx, fvs, e, r⟩ := h
    exact ⟨dx, fvs, hi _ _ _ e (fun z => nomatch z), r.car k⟩
  | tab q =>
    obtain ⟨e, t⟩ := h
    exact ⟨e, ht q t (fun z => nomatch z)⟩
/-- a table that is as it was -/
theorem tab_keep {a : Addr} {q : Str} (s : Step al M H al' M' H') (f : Flat M H) (e : H' a = H a) (t : LamX.TabS H a q) : LamX.TabS H' a q := by
  obtain ⟨ps, h1, h2, h3⟩ := t
  refine ⟨ps, by rw [e]; exact h1, h2, fun pos cv hc => ?_⟩
  obtain ⟨c, e1, e2⟩ := h3 pos cv hc
  refine ⟨c, e1, s.keep c _ e2 fun m => ?_⟩
  unfold LamX.CodeO at e2
  rcases f c m with ⟨xs, e⟩ | ⟨C, dx, fs, e⟩ | ⟨ps, e⟩ <;> (rw [e2] at e; cases e)
/-- the heap has grown, nothing else -/
theorem Rst.grow (S : Rst g R al σ ρ om H) (k : ∀ (a : Addr) (o : HO), H a = some o → H' a = some o) : Rst g R al σ ρ om H' ∧ Step al (Mt al om σ ρ) H al (Mt al om σ ρ) H' := by
  have st : Step al (Mt al om σ ρ) H al (Mt al om σ ρ) H' := .grow (fun a o h _ => k a o h) fun _ h => .inl h
  refine ⟨⟨⟨S.o.len, fun i c a h1 h2 => ?_, S.o.inj, fun a h => ⟨(S.o.rsv a h).1, ?_⟩⟩, S.sl, fun i d h => ?_, fun i ds h => ?_, S.odj, S.ocl⟩, st⟩
  · exact (S.o.cel i c a h1 h2).car (st.car (Mt.flat S) fun a h => (S.o.rsv a h).2) (fun xs e _ => k _ _ e) (fun C dx fs e _ => k _ _ e) (fun q t _ => t.ext k)
  · cases e : H a with
    | none => exact absurd e (S.o.rsv a h).2
    | some o => rw [k a o e]; simp
  · obtain ⟨v, e, r⟩ := S.val i d h
    exact ⟨v, e, st.rep S r⟩
  · obtain ⟨a, vs, e, e2, r⟩ := S.own i ds h
    exact ⟨a, vs, e, k _ _ e2, st.reps S r⟩
theorem upd_keep {p : Addr} {o : HO} (hp : H p = none) : ∀ (a : Addr) (u : HO), H a = some u → upd H p o a = some u := fun a u e => by
  rw [upd_ne (ne_of_none e hp)]
  exact e
/-- a new address is none of those that change or are reserved -/
theorem Rst.new (S : Rst g R al σ ρ om H) {p : Addr} (hp : H p = none) : ¬ LL R al om σ ρ p := fun m => by
  rcases m with m | m
  · rcases Mt.flat S p m with ⟨xs, e⟩ | ⟨C, dx, fs, e⟩ | ⟨ps, e⟩ <;> (rw [hp] at e; cases e)
  · exact (S.o.rsv p m).2 hp

/-! ### what is wanted of an outcome -/
/-- how a value of the layer lies -/
abbrev Rl (β τ : Type) := List Addr → (Addr → Prop) → Hp → β → τ → Prop
def PostR {β τ : Type} (g : G) (R : Addr → Prop) (W : WX) (rel : Rl β τ) (al : List Addr) (M : Addr → Prop) (H : Hp) (σ : St) : Res τ → (β → Hp → Prop) → Prop
  | .ok t ρ' om', Q => ∀ y H' al', Step al M H al' (Mt al' om' σ ρ') H' → Rst g R al' σ ρ' om' H' → rel al' (LL R al' om' σ ρ') H' y t → Q y H'
  | .xc x ρ' om', _ => ∀ cv dd H' al', Step al M H al' (Mt al' om' σ ρ') H' → Rst g R al' σ ρ' om' H' → RepX g al' (LL R al' om' σ ρ') H' cv dd x → W cv dd σ H'
  | .no, _ => False
theorem PostR.step {β τ : Type} {W : WX} {rel : Rl β τ} {r : Res τ} {Q : β → Hp → Prop} (s : Step al M H al' M' H') (p : PostR g R W rel al M H σ r Q) : PostR g R W rel al' M' H' σ r Q := by
  cases r with
  | ok t ρ' om' => exact fun y H2 al2 t2 => p y H2 al2 (s.trans t2)
  | xc x ρ' om' => exact fun y dd H2 al2 t2 => p y dd H2 al2 (s.trans t2)
  | no => exact p
/-- the reading of a term of the evaluator -/
def tR {β τ : Type} (g : G) (W : WX) (rel : G → Rl β τ) (u : Rho → Om → Res τ) : St → Hp → (β → Hp → Prop) → Prop := fun σ H Q =>
  ∃ R ρ om al, Rst g R al σ ρ om H ∧ PostR g R W (rel g) al (Mt al om σ ρ) H σ (u ρ om) Q
def relV : G → Rl V D := fun g al L H v d => RepV g al L H v d
def relVs : G → Rl (List V) (List D) := fun g al L H v d => RepVs g al L H v d
def relB : G → Rl Bool Bool := fun _ _ _ _ b c => b = c
def relO : G → Rl (Option Int) (Option Int) := fun _ _ _ _ b c => b = c
abbrev UE := Rho → Om → Res D
abbrev UT := Rho → Om → Res Bool
abbrev UA := Rho → Om → Res (List D)
abbrev UO := Rho → Om → Res (Option Int)
abbrev tE (g : G) (W : WX) (u : UE) : TE := tR g W relV u
abbrev tT (g : G) (W : WX) (u : UT) : TT := tR g W relB u
abbrev tA (g : G) (W : WX) (u : UA) : TA := tR g W relVs u
abbrev tO (g : G) (W : WX) (u : UO) : TO := tR g W relO u
theorem tR_bind {β τ β2 τ2 : Type} {W : WX} {rel : G → Rl β τ} {rel2 : Rl β2 τ2} {u : Rho → Om → Res τ} {f : τ → Rho → Om → Res τ2} {Q : β → Hp → Prop} {Q2 : β2 → Hp → Prop} (S : Rst g R al σ ρ om H)
    (P : PostR g R W rel2 al (Mt al om σ ρ) H σ ((u ρ om).bind f) Q2)
    (k : ∀ t ρ' om' y H' al', Step al (Mt al om σ ρ) H al' (Mt al' om' σ ρ') H' → Rst g R al' σ ρ' om' H' → rel g al' (LL R al' om' σ ρ') H' y t → PostR g R W rel2 al' (Mt al' om' σ ρ') H' σ (f t ρ' om') Q2 → Q y H') : tR g W rel u σ H Q := by
  refine ⟨R, ρ, om, al, S, ?_⟩
  cases e : u ρ om with
  | ok t ρ' om' =>
    rw [e] at P
    exact fun y H' al' s S' r => k t ρ' om' y H' al' s S' r (PostR.step s P)
  | xc x ρ' om' =>
    rw [e] at P
    exact P
  | no =>
    rw [e] at P
    exact P
end
section
variable {X : Cx}
theorem peImp {e : Expr} {t t' : TE} (h : PE X e t) (i : ∀ σ H Q, t' σ H Q → t σ H Q) : PE X e t' := ⟨fun pins s σ H Q I q => h.run pins s σ H Q I (i σ H Q q)⟩
theorem ptImp {e : Expr} {t t' : TT} (h : PT X e t) (i : ∀ σ H Q, t' σ H Q → t σ H Q) : PT X e t' := ⟨fun pins s σ H Q I q => h.run pins s σ H Q I (i σ H Q q)⟩
theorem pwImp {e : Expr} {t t' : TT} (h : PW X e t) (i : ∀ σ H Q, t' σ H Q → t σ H Q) : PW X e t' := ⟨fun w pins s σ H Q I q => h.run w pins s σ H Q I (i σ H Q q)⟩
theorem paImp {e : List Expr} {t t' : TA} (h : PA X e t) (i : ∀ σ H Q, t' σ H Q → t σ H Q) : PA X e t' := ⟨fun p pins s σ H Q I q => h.run p pins s σ H Q I (i σ H Q q)⟩
theorem poImp {e : Option Expr} {t t' : TO} (h : PO X e t) (i : ∀ σ H Q, t' σ H Q → t σ H Q) : PO X e t' := ⟨fun pins s σ H Q I q => h.run pins s σ H Q I (i σ H Q q)⟩
theorem psImp {e : Stmt} {t t' : TS} (h : PS X e t) (i : ∀ D σ H, t' D σ H → t D σ H) : PS X e t' := ⟨fun pins s σ H D I q => h.run pins s σ H D I (i D σ H q)⟩
theorem pssImp {e : List Stmt} {t t' : TS} (h : PSs X e t) (i : ∀ D σ H, t' D σ H → t D σ H) : PSs X e t' := ⟨fun pins s σ H D I q => h.run pins s σ H D I (i D σ H q)⟩
end
end Dv

namespace Dv
open PySem PySem.Spec PyProof.Rows L2

/-! ### operations on data -/
def big : Nat := 1000000
theorem big_line {n : Nat} (h : n ≤ big) : n ≤ sizeLine := Nat.le_trans h (by decide)
theorem big_lt {n : Nat} (h : n < big) : n < sizeLine := Nat.lt_of_lt_of_le h (by decide)
def mulOk (i j : Int) : Bool := decide (i.natAbs < 18446744073709551616) || decide (j.natAbs < 18446744073709551616) || decide (i.natAbs.log2 + j.natAbs.log2 < 1000000)
def divOk (i j : Int) : Bool := !(Builtin.divisionGoesByPylong i j)
def dAdd : D → D → Option D
  | .int i, .int j => some (.int (i + j))
  | .str i, .str j => if i.length + j.length ≤ big then some (.str (i ++ j)) else none
  | .lst i, .lst j => if i.length + j.length ≤ big then some (.lst (i ++ j)) else none
  | _, _ => none
def dSub : D → D → Option D
  | .int i, .int j => some (.int (i - j))
  | _, _ => none
def dMul : D → D → Option D
  | .int i, .int j => if mulOk i j = true then some (.int (i * j)) else none
  | .lst i, .int j => if -1000 ≤ j ∧ j ≤ 1000 ∧ i.length ≤ 1000 then some (.lst (List.replicate j.toNat i).flatten) else none
  | _, _ => none
def dDiv : D → D → Option D
  | .int i, .int j => if j ≠ 0 ∧ divOk i j = true then some (.int (i.fdiv j)) else none
  | _, _ => none
def dMod : D → D → Option D
  | .int i, .int j => if j ≠ 0 then some (.int (i.fmod j)) else none
  | _, _ => none
def dLt : D → D → Option D
  | .int i, .int j => some (.bl (decide (i < j)))
  | _, _ => none
def dLe : D → D → Option D
  | .int i, .int j => some (.bl (decide (i ≤ j)))
  | _, _ => none
def dGt : D → D → Option D
  | .int i, .int j => some (.bl (decide (j < i)))
  | _, _ => none
def dGe : D → D → Option D
  | .int i, .int j => some (.bl (decide (j ≤ i)))
  | _, _ => none
def dIn : D → D → Option D
  | .str i, .str j => some (.bl (!(Builtin.Str.occurrences j i 0 j.length 1).isEmpty))
  | .int i, .tup [.int a, .int b] => some (.bl (decide (i = a) || decide (i = b)))
  | _, _ => none
def dNotIn : D → D → Option D
  | .str i, .str j => some (.bl (!(!(Builtin.Str.occurrences j i 0 j.length 1).isEmpty)))
  | _, _ => none
def isNon : D → Bool
  | .non => true
  | _ => false
def dIs : D → D → Option D
  | x, .non => some (.bl (isNon x))
  | _, _ => none
def dIsNot : D → D → Option D
  | x, .non => some (.bl (!isNon x))
  | _, _ => none
def dNeg : D → Option D
  | .int i => some (.int (-i))
  | _ => none
def atN {α : Type} (xs : List α) (i : Int) : Option α := if 0 ≤ i then xs[i.toNat]? else if -(xs.length : Int) ≤ i then xs[(i + xs.length).toNat]? else none
def dIx : D → D → Option D
  | .lst xs, .int i => atN xs i
  | .tup xs, .int i => atN xs i
  | .str z, .int i => if z.length ≤ big then (match atN z.cps.toList i with | some c => some (.str ⟨#[c]⟩) | none => none) else none
  | _, _ => none
/-! equality -/
mutual
def toPy : D → Option PyData
  | .non => some .none
  | .bl b => some (.bool b)
  | .int i => some (.int i)
  | .str x => some (.str x)
  | .tup ds => match toPys ds with | some l => some (.tuple l) | none => none
  | .lst ds => match toPys ds with | some l => some (.list l) | none => none
  | _ => none
def toPys : List D → Option (List PyData)
  | [] => some []
  | d :: ds => match toPy d, toPys ds with | some p, some l => some (p :: l) | _, _ => none
end
def eqPy (x y : D) : Option Bool := match toPy x, toPy y with
  | some p, some q => if SeqAt.shaped p = true ∧ SeqAt.shaped q = true then some (PyData.eqv p q) else none
  | _, _ => none
def dEqB : D → D → Option Bool
  | .int i, .int j => some (decide (i = j))
  | .bl i, .bl j => some (decide (i = j))
  | .str i, .str j => some (decide (i = j))
  | .non, .non => some true
  | .lst xs, .lst [] => some (decide (xs.length = 0))
  | x, y => eqPy x y
def dEq (x y : D) : Option D := match dEqB x y with | some b => some (.bl b) | none => none
def dNe (x y : D) : Option D := match dEqB x y with | some b => some (.bl (!b)) | none => none

/-! ### the evaluator: expressions -/
@[simp] def uVar (i : Nat) : UE := fun ρ ω => match ρ[i]? with
  | some (some (.val d)) => .ok d ρ ω
  | _ => .no
@[simp] def uC (d : D) : UE := fun ρ ω => .ok d ρ ω
@[simp] def uUn (f : D → Option D) (ua : UE) : UE := fun ρ ω => (ua ρ ω).bind fun x ρ ω => liftO (f x) ρ ω
@[simp] def uBin (f : D → D → Option D) (ua ub : UE) : UE := fun ρ ω => (ua ρ ω).bind fun x ρ ω => (ub ρ ω).bind fun y ρ ω => liftO (f x y) ρ ω
@[simp] def dBool : D → Option Bool
  | .bl b => some b
  | _ => none
@[simp] def uB (ua : UE) : UT := fun ρ ω => (ua ρ ω).bind fun x ρ ω => liftO (dBool x) ρ ω
@[simp] def uNot (u : UT) : UT := fun ρ ω => (u ρ ω).bind fun b ρ ω => .ok (!b) ρ ω
@[simp] def uAnd (u v : UT) : UT := fun ρ ω => (u ρ ω).bind fun b ρ ω => if b = true then v ρ ω else .ok false ρ ω
@[simp] def uOr (u v : UT) : UT := fun ρ ω => (u ρ ω).bind fun b ρ ω => if b = true then .ok true ρ ω else v ρ ω
@[simp] def uTV (u : UT) : UE := fun ρ ω => (u ρ ω).bind fun b ρ ω => .ok (.bl b) ρ ω
@[simp] def uAndV (u v : UE) : UE := fun ρ ω => (u ρ ω).bind fun x ρ ω => (liftO (dBool x) ρ ω : Res Bool).bind fun b ρ ω => if b = true then v ρ ω else .ok (.bl false) ρ ω
@[simp] def uOrV (u v : UE) : UE := fun ρ ω => (u ρ ω).bind fun x ρ ω => (liftO (dBool x) ρ ω : Res Bool).bind fun b ρ ω => if b = true then .ok (.bl true) ρ ω else v ρ ω
@[simp] def uNotV (u : UE) : UE := fun ρ ω => (u ρ ω).bind fun x ρ ω => (liftO (dBool x) ρ ω : Res Bool).bind fun b ρ ω => .ok (.bl (!b)) ρ ω
@[simp] def uIf (t : UT) (u v : UE) : UE := fun ρ ω => (t ρ ω).bind fun b ρ ω => if b = true then u ρ ω else v ρ ω
@[simp] def uChain (f g : D → D → Option D) (ua ub uc : UE) : UE := fun ρ ω => (ua ρ ω).bind fun x ρ ω => (ub ρ ω).bind fun y ρ ω =>
  (liftO (f x y) ρ ω : Res D).bind fun z ρ ω => (liftO (dBool z) ρ ω : Res Bool).bind fun b ρ ω => if b = true then (uc ρ ω).bind fun w ρ ω => liftO (g y w) ρ ω else .ok (.bl false) ρ ω
@[simp] def uNil : UA := fun ρ ω => .ok [] ρ ω
@[simp] def uCons (u : UE) (v : UA) : UA := fun ρ ω => (u ρ ω).bind fun x ρ ω => (v ρ ω).bind fun xs ρ ω => .ok (x :: xs) ρ ω
@[simp] def uTup (u : UA) : UE := fun ρ ω => (u ρ ω).bind fun xs ρ ω => if xs.length ≤ big then .ok (.tup xs) ρ ω else .no
@[simp] def uLst (u : UA) : UE := fun ρ ω => (u ρ ω).bind fun xs ρ ω => if xs.length ≤ big then .ok (.lst xs) ρ ω else .no
@[simp] def uFn (f : List D → Option D) (u : UA) : UE := fun ρ ω => (u ρ ω).bind fun xs ρ ω => liftO (f xs) ρ ω
@[simp] def uMe (f : D → List D → Option D) (u : UE) (v : UA) : UE := fun ρ ω => (u ρ ω).bind fun x ρ ω => (v ρ ω).bind fun xs ρ ω => liftO (f x xs) ρ ω

/-! ### how they are shown -/
/-- a value that is only looked at: an own list, too -/
inductive RepW (g : G) (al : List Addr) (L : Addr → Prop) (H : Hp) : V → D → Prop
  | v {v : V} {d : D} : RepV g al L H v d → RepW g al L H v d
  | own {a : Addr} {vs : List V} {ds : List D} : H a = some (.lst vs) → RepVs g al L H vs ds → RepW g al L H (.ref a) (.lst ds)
inductive RepWs (g : G) (al : List Addr) (L : Addr → Prop) (H : Hp) : List V → List D → Prop
  | nil : RepWs g al L H [] []
  | cons {v : V} {vs : List V} {d : D} {ds : List D} : RepW g al L H v d → RepWs g al L H vs ds → RepWs g al L H (v :: vs) (d :: ds)
section
variable {g : G} {al : List Addr} {L : Addr → Prop} {H : Hp} {v : V}
theorem RepVs.ws : ∀ {vs : List V} {ds : List D}, RepVs g al L H vs ds → RepWs g al L H vs ds
  | _, _, .nil => .nil
  | _, _, .cons h r => .cons (.v h) r.ws
theorem RepW.int {i : Int} (h : RepW g al L H v (.int i)) : v = .int i := by
  cases h with
  | v h => cases h; rfl
theorem RepW.bl {i : Bool} (h : RepW g al L H v (.bl i)) : v = .bl i := by
  cases h with
  | v h => cases h; rfl
theorem RepW.non (h : RepW g al L H v .non) : v = .non := by
  cases h with
  | v h => cases h; rfl
theorem RepW.str {i : Str} (h : RepW g al L H v (.str i)) : v = .str i := by
  cases h with
  | v h => cases h; rfl
theorem RepW.lst {ds : List D} (h : RepW g al L H v (.lst ds)) : ∃ (a : Addr) (vs : List V), v = .ref a ∧ H a = some (.lst vs) ∧ RepVs g al L H vs ds := by
  cases h with
  | v h => cases h with
    | lst h1 h2 h3 => exact ⟨_, _, rfl, h1, h3⟩
  | own h1 h2 => exact ⟨_, _, rfl, h1, h2⟩
theorem RepW.tup {ds : List D} (h : RepW g al L H v (.tup ds)) : ∃ (a : Addr) (vs : List V), v = .ref a ∧ SqT g.K H a vs ∧ RepVs g al L H vs ds := by
  cases h with
  | v h => cases h with
    | tup h1 h3 => exact ⟨_, _, rfl, h1, h3⟩
theorem RepW.frz {ds : List D} (h : RepW g al L H v (.frz ds)) : ∃ (a : Addr) (vs : List V), v = .ref a ∧ FzL g.K H a vs ∧ RepVs g al L H vs ds := by
  cases h with
  | v h => cases h with
    | frz h1 h3 => exact ⟨_, _, rfl, h1, h3⟩
end
section
variable {g : G} {R : Addr → Prop} {al : List Addr} {om : Om} {σ : St} {ρ : Rho} {H H' : Hp} {W : WX} {X : Cx}
theorem okSame {Q : VK} {v : V} {d : D} (S : Rst g R al σ ρ om H) (P : PostR g R W (relV g) al (Mt al om σ ρ) H σ (.ok d ρ om) Q) (r : RepV g al (LL R al om σ ρ) H v d) : Q v H := P v H al .refl S r
theorem okNewT {Q : VK} {vs : List V} {ds : List D} {p : Addr} (S : Rst g R al σ ρ om H) (P : PostR g R W (relV g) al (Mt al om σ ρ) H σ (.ok (.tup ds) ρ om) Q) (hp : H p = none) (r : RepVs g al (LL R al om σ ρ) H vs ds) : Q (.ref p) (upd H p (.tup vs)) := by
  obtain ⟨S', s⟩ := S.grow (upd_keep (o := .tup vs) hp)
  exact P _ _ al s S' (.tup (.inl (.inl upd_same)) (s.reps S r))
theorem okNewL {Q : VK} {vs : List V} {ds : List D} {p : Addr} (S : Rst g R al σ ρ om H) (P : PostR g R W (relV g) al (Mt al om σ ρ) H σ (.ok (.lst ds) ρ om) Q) (hp : H p = none) (r : RepVs g al (LL R al om σ ρ) H vs ds) : Q (.ref p) (upd H p (.lst vs)) := by
  obtain ⟨S', s⟩ := S.grow (upd_keep (o := .lst vs) hp)
  exact P _ _ al s S' (.lst upd_same (S.new hp) (s.reps S r))
/-- an operation by values does what f says -/
def OpS (g : G) (r : R2) (f : D → D → Option D) : Prop := ∀ (R : Addr → Prop) (W : WX) (al : List Addr) (om : Om) (σ : St) (ρ : Rho) (H : Hp) (Q : VK) (v w : V) (x y : D), Rst g R al σ ρ om H → RepW g al (LL R al om σ ρ) H v x → RepW g al (LL R al om σ ρ) H w y →
  PostR g R W (relV g) al (Mt al om σ ρ) H σ (liftO (f x y) ρ om) Q → r v w H Q
def UnS (g : G) (r : V → Hp → VK → Prop) (f : D → Option D) : Prop := ∀ (R : Addr → Prop) (W : WX) (al : List Addr) (om : Om) (σ : St) (ρ : Rho) (H : Hp) (Q : VK) (v : V) (x : D), Rst g R al σ ρ om H → RepW g al (LL R al om σ ρ) H v x →
  PostR g R W (relV g) al (Mt al om σ ρ) H σ (liftO (f x) ρ om) Q → r v H Q
def FnS (g : G) (r : List V → Hp → VK → Prop) (f : List D → Option D) : Prop := ∀ (R : Addr → Prop) (W : WX) (al : List Addr) (om : Om) (σ : St) (ρ : Rho) (H : Hp) (Q : VK) (vs : List V) (xs : List D), Rst g R al σ ρ om H → RepWs g al (LL R al om σ ρ) H vs xs →
  PostR g R W (relV g) al (Mt al om σ ρ) H σ (liftO (f xs) ρ om) Q → r vs H Q
def MeS (g : G) (r : V → List V → Hp → VK → Prop) (f : D → List D → Option D) : Prop := ∀ (R : Addr → Prop) (W : WX) (al : List Addr) (om : Om) (σ : St) (ρ : Rho) (H : Hp) (Q : VK) (v : V) (x : D) (vs : List V) (xs : List D), Rst g R al σ ρ om H → RepW g al (LL R al om σ ρ) H v x → RepWs g al (LL R al om σ ρ) H vs xs →
  PostR g R W (relV g) al (Mt al om σ ρ) H σ (liftO (f x xs) ρ om) Q → r v vs H Q
/-- a two-place reading -/
theorem tOp_of {r : R2} {f : D → D → Option D} {ua ub : UE} (hf : OpS g r f) {Q : VK} (h : tE g W (uBin f ua ub) σ H Q) : tOp r (tE g W ua) (tE g W ub) σ H Q := by
  obtain ⟨R, ρ, om, al, S, P⟩ := h
  refine tR_bind S P fun x ρ1 om1 v H1 al1 s1 S1 r1 P1 => ?_
  refine tR_bind S1 P1 fun y ρ2 om2 w H2 al2 s2 S2 r2 P2 => ?_
  exact hf R W al2 om2 σ ρ2 H2 Q v w x y S2 (.v (s2.rep S1 r1)) (.v r2) P2
variable {a b c e : Expr} {ua ub uc ue : UE} {ut uv : UT} {pos : Pos} {es : List Expr} {us : UA}
theorem pu_var (i : Nat) {x : Str} (hN : X.N[i]? = some x := by rfl) (hv : Vis X.env.scope x := by first | exact Or.inl rfl | exact Or.inr (Or.inl rfl) | exact Or.inr (Or.inr rfl)) (hd : (x == ("__debug__" : Str)) = false := by decide)
    (hcd : (x == ("__classdict__" : Str)) = false := by decide) : PE X (.Name x pos) (tE g W (uVar i)) := peImp (pe_var hN hv hd hcd) fun σ H Q ⟨R, ρ, om, al, S, P⟩ => by
  simp only [uVar] at P
  split at P
  · rename_i d e
    obtain ⟨v, h1, h2⟩ := S.val i d e
    exact ⟨v, h1, okSame S P h2⟩
  · exact P.elim
theorem pu_int {i : Int} {j} : PE X (.Constant (.int i) j pos) (tE g W (uC (.int i))) := peImp pe_int fun σ H Q ⟨R, ρ, om, al, S, P⟩ => okSame S P .int
theorem pu_bl {i : Bool} {j} : PE X (.Constant (.bool i) j pos) (tE g W (uC (.bl i))) := peImp pe_bl fun σ H Q ⟨R, ρ, om, al, S, P⟩ => okSame S P .bl
theorem pu_non {j} : PE X (.Constant .none j pos) (tE g W (uC .non)) := peImp pe_non fun σ H Q ⟨R, ρ, om, al, S, P⟩ => okSame S P .non
theorem pu_str {i : Str} {j} : PE X (.Constant (.str i) j pos) (tE g W (uC (.str i))) := peImp pe_str fun σ H Q ⟨R, ρ, om, al, S, P⟩ => okSame S P .str
/-- a constant of the module -/
theorem pu_glob {x : Str} {d : D} {v : V} {u : Value} (hg : Gl X x) (hm : X.mg x = some u) (r : RelV v u) (hr : ∀ al L H, RepV g al L H v d) (hd : (x == ("__debug__" : Str)) = false := by decide) : PE X (.Name x pos) (tE g W (uC d)) :=
  peImp (pe_glob hg hm r hd) fun σ H Q ⟨R, ρ, om, al, S, P⟩ => okSame S P (hr _ _ _)
theorem pu_bin {op : Operator} {r : R2} {f : D → D → Option D} (ho : OpR X (binaryOp op) r) (hf : OpS g r f) (ha : PE X a (tE g W ua)) (hb : PE X b (tE g W ub)) : PE X (.BinOp a op b pos) (tE g W (uBin f ua ub)) :=
  peImp (pe_op ho ha hb) fun σ H Q h => tOp_of hf h
theorem pu_un {op : UnaryOp} {r : V → Hp → VK → Prop} {f : D → Option D} (ho : UnR X (unaryOp op) r) (hf : UnS g r f) (ha : PE X a (tE g W ua)) : PE X (.UnaryOp op a pos) (tE g W (uUn f ua)) :=
  peImp (pe_un ho ha) fun σ H Q ⟨R, ρ, om, al, S, P⟩ => tR_bind S P fun x ρ1 om1 v H1 al1 s1 S1 r1 P1 => hf R W al1 om1 σ ρ1 H1 Q v x S1 (.v r1) P1
theorem pu_cmp {op : CmpOp} {r : R2} {f : D → D → Option D} (ho : OpR X (compareOp op) r) (hf : OpS g r f) (ha : PE X a (tE g W ua)) (hb : PE X b (tE g W ub)) (hm : behindInMarks op b = false) : PE X (.Compare a [op] [b] pos) (tE g W (uBin f ua ub)) :=
  peImp (pe_cmpR ho ha hb hm) fun σ H Q h => tOp_of hf h
theorem pu_ix {r : R2} {f : D → D → Option D} (ho : IxR X r) (hf : OpS g r f) (ha : PE X a (tE g W ua)) (hb : PE X b (tE g W ub)) (hs : PlainIx b := by exact fun _ _ => rfl) : PE X (.Subscript a b pos) (tE g W (uBin f ua ub)) :=
  peImp (pe_ix ho ha hb hs) fun σ H Q h => tOp_of hf h
/-- a value of the layer is a bool -/
theorem tB_of {Q : Bool → Hp → Prop} (h : tT g W (uB ua) σ H Q) : tE g W ua σ H fun x H' => ∃ k, x = .bl k ∧ Q k H' := by
  obtain ⟨R, ρ, om, al, S, P⟩ := h
  refine tR_bind S P fun x ρ1 om1 v H1 al1 s1 S1 r1 P1 => ?_
  cases r1 with
  | bl => exact ⟨_, rfl, P1 _ _ _ .refl S1 rfl⟩
  | _ => exact P1.elim
theorem pt_of (ha : PE X a (tE g W ua)) (he : ∀ whole, isTrue a X.env whole = (do let v ← whole; standAt a.pos; holding [v] (truthy v)) := by intro _; rfl) : PT X a (tT g W (uB ua)) :=
  ptImp (pt_val ha he) fun σ H Q h => tB_of h
theorem pt_cmpU {op : CmpOp} {r : R2} {f : D → D → Option D} (ho : OpR X (compareOp op) r) (hf : OpS g r f) (ha : PE X a (tE g W ua)) (hb : PE X b (tE g W ub)) (hm : behindInMarks op b = false) : PT X (.Compare a [op] [b] pos) (tT g W (uB (uBin f ua ub))) :=
  ptImp (pt_cmpR ho ha hb hm) fun σ H Q h => by
    obtain ⟨R, ρ, om, al, S, P⟩ := tB_of h
    exact tOp_of hf ⟨R, ρ, om, al, S, P⟩
theorem pt_notU (ha : PT X a (tT g W ut)) : PT X (.UnaryOp .Not a pos) (tT g W (uNot ut)) := ptImp (pt_not ha) fun σ H Q ⟨R, ρ, om, al, S, P⟩ =>
  tR_bind S P fun x ρ1 om1 v H1 al1 s1 S1 r1 P1 => by
    cases (show v = x from r1)
    exact P1 _ _ _ .refl S1 rfl
theorem pw_and1U (ha : PT X a (tT g W ut)) : PW X (.BoolOp .And [a] pos) (tT g W ut) := pw_and1 ha
theorem pw_or1U (ha : PT X a (tT g W ut)) : PW X (.BoolOp .Or [a] pos) (tT g W ut) := pw_or1 ha
theorem pw_andU (ha : PT X a (tT g W ut)) (hb : PW X (.BoolOp .And (b :: es) pos) (tT g W uv)) : PW X (.BoolOp .And (a :: b :: es) pos) (tT g W (uAnd ut uv)) := pwImp (pw_and ha hb) fun σ H Q ⟨R, ρ, om, al, S, P⟩ =>
  tR_bind S P fun x ρ1 om1 v H1 al1 s1 S1 r1 P1 => by
    cases (show v = x from r1)
    cases x with
    | true => exact ⟨R, ρ1, om1, al1, S1, P1⟩
    | false => exact P1 _ _ _ .refl S1 rfl
theorem pw_orU (ha : PT X a (tT g W ut)) (hb : PW X (.BoolOp .Or (b :: es) pos) (tT g W uv)) : PW X (.BoolOp .Or (a :: b :: es) pos) (tT g W (uOr ut uv)) := pwImp (pw_or ha hb) fun σ H Q ⟨R, ρ, om, al, S, P⟩ =>
  tR_bind S P fun x ρ1 om1 v H1 al1 s1 S1 r1 P1 => by
    cases (show v = x from r1)
    cases x with
    | true => exact P1 _ _ _ .refl S1 rfl
    | false => exact ⟨R, ρ1, om1, al1, S1, P1⟩
/-- and, or, not as values of bools -/
theorem pu_one {op} (h : PE X a (tE g W ua)) : PE X (.BoolOp op [a] pos) (tE g W ua) := pe_one h
theorem pu_and (ha : PE X a (tE g W ua)) (hb : PE X (.BoolOp .And (b :: es) pos) (tE g W ub)) : PE X (.BoolOp .And (a :: b :: es) pos) (tE g W (uAndV ua ub)) := peImp (pe_and ha hb) fun σ H Q ⟨R, ρ, om, al, S, P⟩ =>
  tR_bind S P fun x ρ1 om1 v H1 al1 s1 S1 r1 P1 => by
    cases r1 with
    | @bl k =>
      refine ⟨_, rfl, ?_⟩
      cases k with
      | true => exact ⟨R, ρ1, om1, al1, S1, P1⟩
      | false => exact okSame S1 P1 .bl
    | _ => exact P1.elim
theorem pu_or (ha : PE X a (tE g W ua)) (hb : PE X (.BoolOp .Or (b :: es) pos) (tE g W ub)) : PE X (.BoolOp .Or (a :: b :: es) pos) (tE g W (uOrV ua ub)) := peImp (pe_or ha hb) fun σ H Q ⟨R, ρ, om, al, S, P⟩ =>
  tR_bind S P fun x ρ1 om1 v H1 al1 s1 S1 r1 P1 => by
    cases r1 with
    | @bl k =>
      refine ⟨_, rfl, ?_⟩
      cases k with
      | true => exact okSame S1 P1 .bl
      | false => exact ⟨R, ρ1, om1, al1, S1, P1⟩
    | _ => exact P1.elim
theorem pu_not (ha : PE X a (tE g W ua)) : PE X (.UnaryOp .Not a pos) (tE g W (uNotV ua)) := peImp (pe_not ha) fun σ H Q ⟨R, ρ, om, al, S, P⟩ =>
  tR_bind S P fun x ρ1 om1 v H1 al1 s1 S1 r1 P1 => by
    cases r1 with
    | @bl k => exact ⟨_, rfl, okSame S1 P1 .bl⟩
    | _ => exact P1.elim
theorem pu_if (hc : PT X c (tT g W ut)) (ha : PE X a (tE g W ua)) (hb : PE X b (tE g W ub)) : PE X (.IfExp c a b pos) (tE g W (uIf ut ua ub)) := peImp (pe_ifExp hc ha hb) fun σ H Q ⟨R, ρ, om, al, S, P⟩ =>
  tR_bind S P fun x ρ1 om1 v H1 al1 s1 S1 r1 P1 => by
    cases (show v = x from r1)
    cases x with
    | true => exact ⟨R, ρ1, om1, al1, S1, P1⟩
    | false => exact ⟨R, ρ1, om1, al1, S1, P1⟩
/-- a chain of two comparisons -/
theorem tChain_of {r r' : R2} {f f' : D → D → Option D} (hf : OpS g r f) (hf' : OpS g r' f') {Q : VK} (h : tE g W (uChain f f' ua ub uc) σ H Q) : tChain r r' (tE g W ua) (tE g W ub) (tE g W uc) σ H Q := by
  obtain ⟨R, ρ, om, al, S, P⟩ := h
  refine tR_bind S P fun x ρ1 om1 v H1 al1 s1 S1 r1 P1 => ?_
  refine tR_bind S1 P1 fun y ρ2 om2 w H2 al2 s2 S2 r2 P2 => ?_
  refine hf R W al2 om2 σ ρ2 H2 _ v w x y S2 (.v (s2.rep S1 r1)) (.v r2) ?_
  cases e : f x y with
  | none =>
    rw [e] at P2
    exact P2.elim
  | some z =>
    rw [e] at P2
    show PostR g R W (relV g) al2 (Mt al2 om2 σ ρ2) H2 σ (.ok z ρ2 om2) _
    intro v3 H3 al3 s3 S3 r3
    have P3 := PostR.step s3 P2
    cases r3 with
    | @bl k =>
      refine ⟨k, rfl, ?_⟩
      cases k with
      | true =>
        refine tR_bind S3 (P3 : PostR g R W (relV g) al3 (Mt al3 om2 σ ρ2) H3 σ ((uc ρ2 om2).bind fun w ρ ω => liftO (f' y w) ρ ω) Q) fun z2 ρ4 om4 w4 H4 al4 s4 S4 r4 P4 => ?_
        exact hf' R W al4 om4 σ ρ4 H4 Q w w4 y z2 S4 (.v (s4.rep S3 (s3.rep S2 r2))) (.v r4) P4
      | false => exact okSame S3 P3 .bl
    | _ => exact P3.elim
theorem pu_chain {op op' : CmpOp} {r r' : R2} {f f' : D → D → Option D} (ho : OpR X (compareOp op) r) (ho' : OpR X (compareOp op') r') (hf : OpS g r f) (hf' : OpS g r' f') (ha : PE X a (tE g W ua)) (hb : PE X b (tE g W ub)) (hc : PE X c (tE g W uc))
    (hm : lastMarks [op, op'] [b, c] = false := by with_unfolding_all rfl) : PE X (.Compare a [op, op'] [b, c] pos) (tE g W (uChain f f' ua ub uc)) := peImp (pe_chain ho ho' ha hb hc hm) fun σ H Q h => tChain_of hf hf' h
theorem pt_chainU {op op' : CmpOp} {r r' : R2} {f f' : D → D → Option D} (ho : OpR X (compareOp op) r) (ho' : OpR X (compareOp op') r') (hf : OpS g r f) (hf' : OpS g r' f') (ha : PE X a (tE g W ua)) (hb : PE X b (tE g W ub)) (hc : PE X c (tE g W uc))
    (hm : lastMarks [op, op'] [b, c] = false := by with_unfolding_all rfl) : PT X (.Compare a [op, op'] [b, c] pos) (tT g W (uB (uChain f f' ua ub uc))) := ptImp (pt_chain ho ho' ha hb hc hm) fun σ H Q h => by
    obtain ⟨R, ρ, om, al, S, P⟩ := tB_of h
    exact tChain_of hf hf' ⟨R, ρ, om, al, S, P⟩
/-! argument lists and displays -/
theorem pa_nilU : PA X [] (tA g W uNil) := paImp pa_nil fun σ H Q ⟨R, ρ, om, al, S, P⟩ => P _ _ _ .refl S .nil
theorem pa_consU (ha : PE X e (tE g W ue)) (hr : PA X es (tA g W us)) (hs : starEach (e :: es) X.env = (false, eval e X.env) :: starEach es X.env := by rfl) : PA X (e :: es) (tA g W (uCons ue us)) := paImp (pa_cons ha hr hs) fun σ H Q ⟨R, ρ, om, al, S, P⟩ =>
  tR_bind S P fun x ρ1 om1 v H1 al1 s1 S1 r1 P1 => tR_bind S1 P1 fun xs ρ2 om2 vs H2 al2 s2 S2 r2 P2 => P2 _ _ _ .refl S2 (.cons (s2.rep S1 r1) r2)
theorem pu_tup {x1} (h : PA X es (tA g W us)) : PE X (.Tuple es x1 pos) (tE g W (uTup us)) := peImp (pe_tup h) fun σ H Q ⟨R, ρ, om, al, S, P⟩ =>
  tR_bind S P fun xs ρ1 om1 vs H1 al1 s1 S1 r1 P1 => by
    split at P1
    · rename_i hz
      exact ⟨big_line (by rw [RepVs.length r1]; exact hz), fun p hp => okNewT S1 P1 hp r1⟩
    · exact P1.elim
theorem pu_lst (h : PA X es (tA g W us)) : PE X (.List es pos) (tE g W (uLst us)) := peImp (pe_lst h) fun σ H Q ⟨R, ρ, om, al, S, P⟩ =>
  tR_bind S P fun xs ρ1 om1 vs H1 al1 s1 S1 r1 P1 => by
    split at P1
    · rename_i hz
      exact ⟨big_line (by rw [RepVs.length r1]; exact hz), fun p hp => okNewL S1 P1 hp r1⟩
    · exact P1.elim
end
end Dv

namespace Dv
open PySem PySem.Spec PyProof.Rows L2
section
variable {g : G} {R : Addr → Prop} {al : List Addr} {om : Om} {σ : St} {ρ : Rho} {H H' : Hp} {W : WX} {X : Cx} {L : Addr → Prop}
/-! ### arithmetic -/
theorem mulOk_ok {i j : Int} (h : mulOk i j = true) : CMul i j ∨ CMulW i j := by
  unfold mulOk at h
  simp only [Bool.or_eq_true, decide_eq_true_eq] at h
  unfold CMul CMulW
  omega
def rAddU : R2 := fun x y H Q => rI0 (fun i j => .int (i + j)) x y H Q ∨ (∃ i j, x = .str i ∧ y = .str j ∧ i.length + j.length ≤ sizeLine ∧ Q (.str (i ++ j)) H) ∨ rCat x y H Q
theorem op_addU : OpR X (binaryOp .Add) rAddU := op_add.or (op_add_str.or op_cat)
theorem s_add : OpS g rAddU dAdd := by
  intro R W al om σ ρ H Q v w x y S rx ry P
  cases x <;> cases y <;> first | exact P.elim | skip
  · cases rx.int; cases ry.int
    exact .inl ⟨_, _, rfl, rfl, okSame S P .int⟩
  · rename_i i j
    cases rx.str; cases ry.str
    by_cases hz : i.length + j.length ≤ big
    · simp only [dAdd, if_pos hz] at P
      exact .inr (.inl ⟨_, _, rfl, rfl, big_line hz, okSame S P .str⟩)
    · simp only [dAdd, if_neg hz] at P
      exact P.elim
  · rename_i ds es
    obtain ⟨a, vs, rfl, ha, ra⟩ := rx.lst
    obtain ⟨b, ws, rfl, hb, rb⟩ := ry.lst
    by_cases hz : ds.length + es.length ≤ big
    · simp only [dAdd, if_pos hz] at P
      exact .inr (.inr ⟨_, _, _, _, rfl, rfl, ha, hb, big_line (by rw [ra.length, rb.length]; exact hz), fun p hp => okNewL S P hp (ra.append rb)⟩)
    · simp only [dAdd, if_neg hz] at P
      exact P.elim
theorem s_sub : OpS g (rI0 fun i j => .int (i - j)) dSub := by
  intro R W al om σ ρ H Q v w x y S rx ry P
  cases x <;> cases y <;> first | exact P.elim | skip
  cases rx.int; cases ry.int
  exact ⟨_, _, rfl, rfl, okSame S P .int⟩
def rMulU : R2 := fun x y H Q => rI CMul (fun i j => .int (i * j)) x y H Q ∨ rI CMulW (fun i j => .int (i * j)) x y H Q ∨ rRep x y H Q
theorem op_mulU : OpR X (binaryOp .Mult) rMulU := op_mul.or (op_mulW.or op_rep)
theorem s_mul : OpS g rMulU dMul := by
  intro R W al om σ ρ H Q v w x y S rx ry P
  cases x <;> cases y <;> first | exact P.elim | skip
  · rename_i i j
    cases rx.int; cases ry.int
    by_cases hz : mulOk i j = true
    · simp only [dMul, if_pos hz] at P
      rcases mulOk_ok hz with h | h
      · exact .inl ⟨_, _, rfl, rfl, h, okSame S P .int⟩
      · exact .inr (.inl ⟨_, _, rfl, rfl, h, okSame S P .int⟩)
    · simp only [dMul, if_neg hz] at P
      exact P.elim
  · rename_i ds j
    obtain ⟨a, vs, rfl, ha, ra⟩ := rx.lst
    cases ry.int
    by_cases hz : -1000 ≤ j ∧ j ≤ 1000 ∧ ds.length ≤ 1000
    · simp only [dMul, if_pos hz] at P
      obtain ⟨z1, z2, z3⟩ := hz
      refine .inr (.inr ⟨_, _, _, rfl, rfl, ha, by omega, by omega, ?_, fun p hp => okNewL S P hp (ra.flat _)⟩)
      have e : sizeLine = 16777216 := sizeLine_eq
      rw [ra.length, e]
      have : ds.length * j.toNat ≤ 1000 * 1000 := Nat.mul_le_mul z3 (by omega)
      omega
    · simp only [dMul, if_neg hz] at P
      exact P.elim
def CDivU (i j : Int) : Prop := j ≠ 0 ∧ Builtin.divisionGoesByPylong i j = false
theorem op_fdivU : OpR X (binaryOp .FloorDiv) (rI CDivU fun i j => .int (i.fdiv j)) := opI fun _ _ _ _ _ _ _ hc q => floordiv_int hc.1 q (.inl hc.2)
theorem s_div : OpS g (rI CDivU fun i j => .int (i.fdiv j)) dDiv := by
  intro R W al om σ ρ H Q v w x y S rx ry P
  cases x <;> cases y <;> first | exact P.elim | skip
  rename_i i j
  cases rx.int; cases ry.int
  by_cases hz : j ≠ 0 ∧ divOk i j = true
  · simp only [dDiv, if_pos hz] at P
    exact ⟨_, _, rfl, rfl, ⟨hz.1, by simpa [divOk] using hz.2⟩, okSame S P .int⟩
  · simp only [dDiv, if_neg hz] at P
    exact P.elim
theorem s_mod : OpS g (rI (fun _ j => j ≠ 0) fun i j => .int (i.fmod j)) dMod := by
  intro R W al om σ ρ H Q v w x y S rx ry P
  cases x <;> cases y <;> first | exact P.elim | skip
  rename_i i j
  cases rx.int; cases ry.int
  by_cases hz : j ≠ 0
  · simp only [dMod, if_pos hz] at P
    exact ⟨_, _, rfl, rfl, hz, okSame S P .int⟩
  · simp only [dMod, if_neg hz] at P
    exact P.elim
theorem s_neg : UnS g (rU fun i => .int (-i)) dNeg := by
  intro R W al om σ ρ H Q v x S rx P
  cases x <;> first | exact P.elim | skip
  cases rx.int
  exact ⟨_, rfl, okSame S P .int⟩
/-! ### comparisons -/
theorem s_lt : OpS g (rI0 fun i j => .bl (decide (i < j))) dLt := by
  intro R W al om σ ρ H Q v w x y S rx ry P
  cases x <;> cases y <;> first | exact P.elim | skip
  cases rx.int; cases ry.int
  exact ⟨_, _, rfl, rfl, okSame S P .bl⟩
theorem s_le : OpS g (rI0 fun i j => .bl (decide (i ≤ j))) dLe := by
  intro R W al om σ ρ H Q v w x y S rx ry P
  cases x <;> cases y <;> first | exact P.elim | skip
  cases rx.int; cases ry.int
  exact ⟨_, _, rfl, rfl, okSame S P .bl⟩
theorem s_gt : OpS g (rI0 fun i j => .bl (decide (j < i))) dGt := by
  intro R W al om σ ρ H Q v w x y S rx ry P
  cases x <;> cases y <;> first | exact P.elim | skip
  cases rx.int; cases ry.int
  exact ⟨_, _, rfl, rfl, okSame S P .bl⟩
theorem s_ge : OpS g (rI0 fun i j => .bl (decide (j ≤ i))) dGe := by
  intro R W al om σ ρ H Q v w x y S rx ry P
  cases x <;> cases y <;> first | exact P.elim | skip
  cases rx.int; cases ry.int
  exact ⟨_, _, rfl, rfl, okSame S P .bl⟩
def rIsN : R2 := fun x y H Q => y = .non ∧ Q (.bl (decide (x = .non))) H
theorem s_is : OpS g rIsN dIs := by
  intro R W al om σ ρ H Q v w x y S rx ry P
  cases y <;> first | exact P.elim | skip
  cases ry.non
  refine ⟨rfl, okSame S P ?_⟩
  cases rx with
  | v rx => cases rx <;> exact .bl
  | own h r => exact .bl
def rNotN : R2 := fun x y H Q => y = .non ∧ Q (.bl (!decide (x = .non))) H
theorem s_isnot : OpS g rNotN dIsNot := by
  intro R W al om σ ρ H Q v w x y S rx ry P
  cases y <;> first | exact P.elim | skip
  cases ry.non
  refine ⟨rfl, okSame S P ?_⟩
  cases rx with
  | v rx => cases rx <;> exact .bl
  | own h r => exact .bl
/-! ### equality -/
mutual
theorem dp_of : ∀ {d : D} {v : V} {p : PyData}, RepV g al L H v d → toPy d = some p → Dp g.K H v p
  | .non, _, _, .non, e => by cases e; exact .non
  | .bl b, _, _, .bl, e => by cases e; exact .bl b
  | .int i, _, _, .int, e => by cases e; exact .int i
  | .str x, _, _, .str, e => by cases e; exact .str x
  | .tup ds, _, p, .tup h r, e => by
    unfold toPy at e
    split at e
    · rename_i l hl
      cases e
      exact .tup h (dps_of r hl)
    · cases e
  | .lst ds, _, p, .lst h n r, e => by
    unfold toPy at e
    split at e
    · rename_i l hl
      cases e
      exact .lst (SqL.of h) (dps_of r hl)
    · cases e
  | .obj _ _, _, _, _, e => by cases e
  | .loc _, _, _, _, e => by cases e
  | .frz _, _, _, _, e => by cases e
theorem dps_of : ∀ {ds : List D} {vs : List V} {p : List PyData}, RepVs g al L H vs ds → toPys ds = some p → DpAll g.K H vs p
  | [], _, _, .nil, e => by cases e; exact .nil
  | d :: ds, _, p, .cons h r, e => by
    unfold toPys at e
    split at e
    · rename_i q l h1 h2
      cases e
      exact .cons (dp_of h h1) (dps_of r h2)
    · cases e
end
/-- a list compared with one that holds nothing -/
def rEqNil : R2 := fun x y H Q => ∃ (a b : Addr) (xs : List V), x = .ref a ∧ y = .ref b ∧ H a = some (.lst xs) ∧ H b = some (.lst []) ∧ Q (.bl (decide (xs.length = 0))) H
def rNeNil : R2 := fun x y H Q => ∃ (a b : Addr) (xs : List V), x = .ref a ∧ y = .ref b ∧ H a = some (.lst xs) ∧ H b = some (.lst []) ∧ Q (.bl (!decide (xs.length = 0))) H
theorem op_eqNil (hu : X.A.units < cLine) : OpR X (compareOp .Eq) rEqNil := by
  intro pins s σ H x y v u Q I rx ry h
  obtain ⟨a, b, xs, rfl, rfl, ha, hb, q⟩ := h
  cases rx
  cases ry
  obtain ⟨its, r1, p1, z1⟩ := I.list (SqL.of ha)
  obtain ⟨jts, r2, p2, z2⟩ := I.list (SqL.of hb)
  cases r2
  cases xs with
  | nil =>
    cases r1
    exact SeqAt.eq_listAt (e := fun _ => true) p1.isList p2.isList rfl hu (fun j h1 _ => absurd h1 (by simp)) ⟨.bl _, H, I, rfl, q⟩
  | cons x xs =>
    cases r1 with
    | cons r1 rs => exact SeqAt.eq_list_lengthsAt p1.isList p2.isList (by simp) hu ⟨.bl _, H, I, rfl, q⟩
theorem op_neNil (hu : X.A.units < cLine) : OpR X (compareOp .NotEq) rNeNil := by
  intro pins s σ H x y v u Q I rx ry h
  obtain ⟨a, b, xs, rfl, rfl, ha, hb, q⟩ := h
  cases rx
  cases ry
  obtain ⟨its, r1, p1, z1⟩ := I.list (SqL.of ha)
  obtain ⟨jts, r2, p2, z2⟩ := I.list (SqL.of hb)
  cases r2
  cases xs with
  | nil =>
    cases r1
    exact SeqAt.RcNeAt.lists (e := fun _ => true) p1.isList p2.isList rfl hu (fun j h1 _ => absurd h1 (by simp)) X.prog X.w _ _ ⟨.bl _, H, I, rfl, q⟩
  | cons x xs =>
    cases r1 with
    | cons r1 rs => exact SeqAt.RcNeAt.lists_lengths p1.isList p2.isList (by simp) hu X.prog X.w _ _ ⟨.bl _, H, I, rfl, q⟩
def rEqU (K : PySem.W.Frag) : R2 := fun x y H Q => rEq x y H Q ∨ rEqD K x y H Q ∨ rEqNil x y H Q
theorem op_eqU (hu : X.A.units + 64 < cLine) : OpR X (compareOp .Eq) (rEqU X.K) := op_eq.or ((op_eqD hu).or (op_eqNil (by omega)))
def rNeU (K : PySem.W.Frag) : R2 := fun x y H Q => rNe x y H Q ∨ rNeD K x y H Q ∨ rNeNil x y H Q
theorem op_neU (hu : X.A.units + 64 < cLine) : OpR X (compareOp .NotEq) (rNeU X.K) := op_ne.or ((op_neD hu).or (op_neNil (by omega)))
/-- the ways an equality is told -/
inductive EqW (g : G) (H : Hp) : V → V → Bool → Prop
  | sc {v w : V} {b : Bool} : scal v w = true → decide (v = w) = b → EqW g H v w b
  | dp {v w : V} {p q : PyData} {b : Bool} : Dp g.K H v p → Dp g.K H w q → SeqAt.shaped p = true → SeqAt.shaped q = true → PyData.eqv p q = b → EqW g H v w b
  | nl {a c : Addr} {xs : List V} {b : Bool} : H a = some (.lst xs) → H c = some (.lst []) → decide (xs.length = 0) = b → EqW g H (.ref a) (.ref c) b
theorem dp_ofW {d : D} {v : V} {p : PyData} (h : RepW g al L H v d) (e : toPy d = some p) : Dp g.K H v p := by
  cases h with
  | v h => exact dp_of h e
  | own h r =>
    unfold toPy at e
    split at e
    · rename_i l hl
      cases e
      exact .lst (SqL.of h) (dps_of r hl)
    · cases e
theorem eqPy_way {x y : D} {v w : V} {b : Bool} (rx : RepW g al L H v x) (ry : RepW g al L H w y) (e : eqPy x y = some b) : EqW g H v w b := by
  unfold eqPy at e
  split at e
  · rename_i p q hp hq
    split at e
    · rename_i hs
      cases e
      exact .dp (dp_ofW rx hp) (dp_ofW ry hq) hs.1 hs.2 rfl
    · cases e
  · cases e
theorem eq_way {x y : D} {v w : V} {b : Bool} (rx : RepW g al L H v x) (ry : RepW g al L H w y) (e : dEqB x y = some b) : EqW g H v w b := by
  unfold dEqB at e
  split at e
  · cases rx.int; cases ry.int; cases e
    exact .sc rfl (by simp)
  · cases rx.bl; cases ry.bl; cases e
    exact .sc rfl (by simp)
  · cases rx.str; cases ry.str; cases e
    exact .sc rfl (by simp)
  · cases rx.non; cases ry.non; cases e
    exact .sc rfl rfl
  · obtain ⟨a, vs, rfl, h1, r1⟩ := rx.lst
    obtain ⟨b, ws, rfl, h2, r2⟩ := ry.lst
    cases r2
    cases e
    exact .nl h1 h2 (by rw [r1.length])
  · exact eqPy_way rx ry e
theorem s_eq : OpS g (rEqU g.K) dEq := by
  intro R W al om σ ρ H Q v w x y S rx ry P
  unfold dEq at P
  split at P
  · rename_i b e
    cases eq_way rx ry e with
    | sc h1 h2 => exact .inl ⟨h1, by rw [h2]; exact okSame S P .bl⟩
    | dp h1 h2 h3 h4 h5 => exact .inr (.inl ⟨_, _, h1, h2, h3, h4, by rw [h5]; exact okSame S P .bl⟩)
    | nl h1 h2 h3 => exact .inr (.inr ⟨_, _, _, rfl, rfl, h1, h2, by rw [h3]; exact okSame S P .bl⟩)
  · exact P.elim
theorem s_ne : OpS g (rNeU g.K) dNe := by
  intro R W al om σ ρ H Q v w x y S rx ry P
  unfold dNe at P
  split at P
  · rename_i b e
    cases eq_way rx ry e with
    | sc h1 h2 => exact .inl ⟨h1, by rw [h2]; exact okSame S P .bl⟩
    | dp h1 h2 h3 h4 h5 => exact .inr (.inl ⟨_, _, h1, h2, h3, h4, by rw [h5]; exact okSame S P .bl⟩)
    | nl h1 h2 h3 => exact .inr (.inr ⟨_, _, _, rfl, rfl, h1, h2, by rw [h3]; exact okSame S P .bl⟩)
  · exact P.elim
/-! ### an item -/
theorem atN_atI {α : Type} {xs : List α} {i : Int} {d : α} (h : atN xs i = some d) : atI xs i = some d := by
  unfold atN at h
  unfold atI ixN
  by_cases h0 : 0 ≤ i
  · rw [if_pos h0] at h ⊢
    obtain ⟨hl, _⟩ := List.getElem?_eq_some_iff.mp h
    rw [if_pos (by omega)]
    exact h
  · rw [if_neg h0] at h ⊢
    split at h
    · rename_i h1
      rw [if_pos h1]
      exact h
    · cases h
theorem RepVs.atN {vs : List V} {ds : List D} (r : RepVs g al L H vs ds) {i : Int} {d : D} (h : Dv.atN ds i = some d) : ∃ v, atI vs i = some v ∧ RepV g al L H v d := by
  unfold Dv.atN at h
  by_cases h0 : 0 ≤ i
  · rw [if_pos h0] at h
    obtain ⟨v, e, q⟩ := r.get h
    exact ⟨v, atN_atI (by unfold Dv.atN; rw [if_pos h0]; exact e), q⟩
  · rw [if_neg h0] at h
    split at h
    · rename_i h1
      obtain ⟨v, e, q⟩ := r.get h
      exact ⟨v, atN_atI (by unfold Dv.atN; rw [if_neg h0, r.length, if_pos h1]; exact e), q⟩
    · cases h
theorem s_ix : OpS g (rIx g.K) dIx := by
  intro R W al om σ ρ H Q v w x y S rx ry P
  cases x <;> cases y <;> first | exact P.elim | skip
  · rename_i z i
    cases rx.str; cases ry.int
    simp only [dIx] at P
    split at P
    · rename_i hz
      split at P
      · rename_i c hc
        exact .inr (.inr ⟨_, _, c, rfl, rfl, big_line hz, atN_atI hc, okSame S P .str⟩)
      · exact P.elim
    · exact P.elim
  · rename_i ds i
    obtain ⟨a, vs, rfl, h, r⟩ := rx.tup
    cases ry.int
    simp only [dIx] at P
    cases e : atN ds i with
    | none => rw [e] at P; exact P.elim
    | some d =>
      rw [e] at P
      obtain ⟨v, h1, h2⟩ := r.atN e
      exact .inr (.inl ⟨_, _, _, _, rfl, rfl, h, h1, okSame S P h2⟩)
  · rename_i ds i
    obtain ⟨a, vs, rfl, h, r⟩ := rx.lst
    cases ry.int
    simp only [dIx] at P
    cases e : atN ds i with
    | none => rw [e] at P; exact P.elim
    | some d =>
      rw [e] at P
      obtain ⟨v, h1, h2⟩ := r.atN e
      exact .inl ⟨_, _, _, _, rfl, rfl, SqL.of h, h1, okSame S P h2⟩
end
end Dv

namespace Dv
open PySem PySem.Spec PyProof.Rows L2
section
variable {g : G} {R : Addr → Prop} {al : List Addr} {om : Om} {σ σ' : St} {ρ ρ' : Rho} {H H' : Hp} {W : WX} {X : Cx} {L : Addr → Prop} {i : Nat} {a p : Addr} {ds ds' : List D} {vs vs' : List V} {v : V} {d : D}
/-! ### changes of a state -/
theorem Sle.set1 (h : Sle g σ ρ) {s : Option Sl} (hs : ∀ x, s ≠ some (.exc x)) : Sle g σ (ρ.set i s) := ⟨by rw [List.length_set]; exact h.len, fun j a c x e q => by
  rw [List.getElem?_set] at q
  split at q
  · split at q
    · cases q; exact absurd rfl (hs x)
    · cases q
  · exact h.exc j a c x e q⟩
theorem Sle.set2 (h : Sle g σ ρ) {s : Option Sl} {w : Option V} (hs : ∀ x, s ≠ some (.exc x)) : Sle g (σ.set i w) (ρ.set i s) := ⟨by rw [List.length_set, List.length_set]; exact h.len, fun j a c x e q => by
  rw [List.getElem?_set] at q
  split at q
  · split at q
    · cases q; exact absurd rfl (hs x)
    · cases q
  · rename_i n
    rw [List.getElem?_set_ne n]
    exact h.exc j a c x e q⟩
theorem getset {α : Type} {l : List α} {i j : Nat} {x y : α} (h : (l.set i x)[j]? = some y) : (j = i ∧ y = x) ∨ (j ≠ i ∧ l[j]? = some y) := by
  rw [List.getElem?_set] at h
  split at h
  · rename_i e
    split at h
    · cases h; exact .inl ⟨e.symm, rfl⟩
    · cases h
  · rename_i e
    exact .inr ⟨fun z => e z.symm, h⟩
/-- a step in which the cells stay as they are -/
theorem Rst.chg (S : Rst g R al σ ρ om H) (st : Step al (Mt al om σ ρ) H al (Mt al om σ' ρ') H') (hl : ∀ a, Lv al om a → H' a = H a) (sl : Sle g σ' ρ') (rs : ∀ a, R a → H' a ≠ none)
    (val : ∀ (j : Nat) (d : D), ρ'[j]? = some (some (.val d)) → (ρ[j]? = some (some (.val d)) ∧ σ'[j]? = σ[j]?) ∨ ∃ v, σ'[j]? = some (some v) ∧ RepV g al (LL R al om σ' ρ') H' v d)
    (own : ∀ (j : Nat) (ds : List D), ρ'[j]? = some (some (.own ds)) → (ρ[j]? = some (some (.own ds)) ∧ σ'[j]? = σ[j]? ∧ ∀ b, σ[j]? = some (some (.ref b)) → H' b = H b) ∨ ∃ (a : Addr) (vs : List V), σ'[j]? = some (some (.ref a)) ∧ H' a = some (.lst vs) ∧ RepVs g al (LL R al om σ' ρ') H' vs ds)
    (odj : ∀ (i j : Nat) (a : Addr) (di dj : List D), ρ'[i]? = some (some (.own di)) → ρ'[j]? = some (some (.own dj)) → σ'[i]? = some (some (.ref a)) → σ'[j]? = some (some (.ref a)) → i = j)
    (ocl : ∀ a, OwnA σ' ρ' a → ¬ Lv al om a ∧ ¬ R a) : Rst g R al σ' ρ' om H' := by
  refine ⟨⟨S.o.len, fun j c b h1 h2 => ?_, S.o.inj, fun b h => ⟨(S.o.rsv b h).1, rs b h⟩⟩, sl, fun j d h => ?_, fun j ds h => ?_, odj, ocl⟩
  · exact (S.o.cel j c b h1 h2).car (st.car (Mt.flat S) fun a h => (S.o.rsv a h).2) (fun xs e n => by rw [hl b ⟨j, c, h2, h1, n⟩]; exact e) (fun C dx fs e n => by rw [hl b ⟨j, c, h2, h1, n⟩]; exact e) (fun q t n => tab_keep st (Mt.flat S) (hl b ⟨j, c, h2, h1, n⟩) t)
  · rcases val j d h with ⟨h1, h2⟩ | q
    · obtain ⟨v, e, r⟩ := S.val j d h1
      exact ⟨v, by rw [h2]; exact e, st.rep S r⟩
    · exact q
  · rcases own j ds h with ⟨h1, h2, h3⟩ | q
    · obtain ⟨a, vs, e, e2, r⟩ := S.own j ds h1
      exact ⟨a, vs, by rw [h2]; exact e, by rw [h3 a e]; exact e2, st.reps S r⟩
    · exact q
theorem own_set (S : Rst g R al σ ρ om H) (ho : ρ[i]? = some (some (.own ds))) {b : Addr} (h : OwnA σ (ρ.set i (some (.own ds'))) b) : OwnA σ ρ b := by
  obtain ⟨j, dj, h1, h2⟩ := h
  rcases getset h1 with ⟨rfl, q⟩ | ⟨n, q⟩
  · exact ⟨j, ds, ho, h2⟩
  · exact ⟨j, dj, q, h2⟩
/-- the own list of a slot is changed -/
theorem Rst.setOwn (S : Rst g R al σ ρ om H) (ho : ρ[i]? = some (some (.own ds))) (hσ : σ[i]? = some (some (.ref a))) (ha : H a = some (.lst vs)) (hv : RepVs g al (LL R al om σ ρ) H vs' ds') :
    Rst g R al σ (ρ.set i (some (.own ds'))) om (upd H a (.lst vs')) ∧ Step al (Mt al om σ ρ) H al (Mt al om σ (ρ.set i (some (.own ds')))) (upd H a (.lst vs')) := by
  have hA : OwnA σ ρ a := ⟨i, ds, ho, hσ⟩
  have st : Step al (Mt al om σ ρ) H al (Mt al om σ (ρ.set i (some (.own ds')))) (upd H a (.lst vs')) := by
    refine .grow (fun b o h n => ?_) fun b m => ?_
    · rw [upd_ne (fun z => n (by rw [z]; exact .inr hA))]
      exact h
    · rcases m with m | m
      · exact .inl (.inl m)
      · exact .inl (.inr (own_set S ho m))
  refine ⟨S.chg st (fun b h => ?_) (S.sl.set1 fun _ z => nomatch z) (fun b h => ?_) (fun j d h => ?_) (fun j dj h => ?_) (fun j k b dj dk h1 h2 h3 h4 => ?_) (fun b h => S.ocl b (own_set S ho h)), st⟩
  · rw [upd_ne (fun z => (S.ocl a hA).1 (by rw [← z]; exact h))]
  · by_cases z : b = a
    · subst z; rw [upd_same]; simp
    · rw [upd_ne z]; exact (S.o.rsv b h).2
  · rcases getset h with ⟨rfl, q⟩ | ⟨n, q⟩
    · cases q
    · exact .inl ⟨q, rfl⟩
  · rcases getset h with ⟨rfl, q⟩ | ⟨n, q⟩
    · cases q
      exact .inr ⟨a, vs', hσ, upd_same, st.reps S hv⟩
    · refine .inl ⟨q, rfl, fun b hb => ?_⟩
      rw [upd_ne fun z => ?_]
      subst z
      exact n (S.odj j i b _ _ q ho hb hσ)
  · have f : ∀ {j : Nat} {dj : List D}, (ρ.set i (some (.own ds')))[j]? = some (some (.own dj)) → ∃ dj', ρ[j]? = some (some (.own dj')) := fun {j dj} h => by
      rcases getset h with ⟨rfl, q⟩ | ⟨n, q⟩
      · exact ⟨_, ho⟩
      · exact ⟨_, q⟩
    obtain ⟨_, q1⟩ := f h1
    obtain ⟨_, q2⟩ := f h2
    exact S.odj j k b _ _ q1 q2 h3 h4
/-- the own list of a slot becomes a value; the slot is empty -/
theorem Rst.moveOwn (S : Rst g R al σ ρ om H) (ho : ρ[i]? = some (some (.own ds))) (hσ : σ[i]? = some (some (.ref a))) :
    Rst g R al σ (ρ.set i none) om H ∧ Step al (Mt al om σ ρ) H al (Mt al om σ (ρ.set i none)) H ∧ ¬ LL R al om σ (ρ.set i none) a := by
  have hA : OwnA σ ρ a := ⟨i, ds, ho, hσ⟩
  have f : ∀ {j : Nat} {dj : List D}, (ρ.set i none)[j]? = some (some (.own dj)) → j ≠ i ∧ ρ[j]? = some (some (.own dj)) := fun {j dj} h => by
    rcases getset h with ⟨rfl, q⟩ | ⟨n, q⟩
    · cases q
    · exact ⟨n, q⟩
  have sub : ∀ b, OwnA σ (ρ.set i none) b → OwnA σ ρ b := fun b ⟨j, dj, h1, h2⟩ => ⟨j, dj, (f h1).2, h2⟩
  have st : Step al (Mt al om σ ρ) H al (Mt al om σ (ρ.set i none)) H := .grow (fun b o h n => h) fun b m => by
    rcases m with m | m
    · exact .inl (.inl m)
    · exact .inl (.inr (sub b m))
  refine ⟨S.chg st (fun b h => rfl) (S.sl.set1 fun _ z => nomatch z) (fun b h => (S.o.rsv b h).2) (fun j d h => ?_) (fun j dj h => ?_) (fun j k b dj dk h1 h2 h3 h4 => S.odj j k b _ _ (f h1).2 (f h2).2 h3 h4) (fun b h => S.ocl b (sub b h)), st, fun m => ?_⟩
  · rcases getset h with ⟨rfl, q⟩ | ⟨n, q⟩
    · cases q
    · exact .inl ⟨q, rfl⟩
  · exact .inl ⟨(f h).2, rfl, fun _ _ => rfl⟩
  · rcases m with (m | ⟨j, dj, h1, h2⟩) | m
    · exact (S.ocl a hA).1 m
    · exact (f h1).1 (S.odj j i a _ _ (f h1).2 ho h2 hσ)
    · exact (S.ocl a hA).2 m
theorem OwnA.drop {w : V} {s : Option Sl} (hs : ∀ ds, s ≠ some (.own ds)) {b : Addr} (h : OwnA (σ.set i (some w)) (ρ.set i s) b) : OwnA σ ρ b := by
  obtain ⟨j, dj, h1, h2⟩ := h
  rcases getset h1 with ⟨rfl, q⟩ | ⟨n, q⟩
  · exact absurd q.symm (hs _)
  · rcases getset h2 with ⟨rfl, _⟩ | ⟨_, q2⟩
    · exact absurd rfl n
    · exact ⟨j, dj, q, q2⟩
/-- a slot gets a value -/
theorem Rst.setVal (S : Rst g R al σ ρ om H) (hi : i < σ.length) (hv : RepV g al (LL R al om σ ρ) H v d) :
    Rst g R al (σ.set i (some v)) (ρ.set i (some (.val d))) om H ∧ Step al (Mt al om σ ρ) H al (Mt al om (σ.set i (some v)) (ρ.set i (some (.val d)))) H := by
  have sub : ∀ b, OwnA (σ.set i (some v)) (ρ.set i (some (.val d))) b → OwnA σ ρ b := fun b h => h.drop (fun ds z => by cases z)
  have st : Step al (Mt al om σ ρ) H al (Mt al om (σ.set i (some v)) (ρ.set i (some (.val d)))) H := .grow (fun b o h n => h) fun b m => by
    rcases m with m | m
    · exact .inl (.inl m)
    · exact .inl (.inr (sub b m))
  refine ⟨S.chg st (fun b h => rfl) (S.sl.set2 fun _ z => nomatch z) (fun b h => (S.o.rsv b h).2) (fun j d' h => ?_) (fun j dj h => ?_) (fun j k b dj dk h1 h2 h3 h4 => ?_) (fun b h => S.ocl b (sub b h)), st⟩
  · rcases getset h with ⟨rfl, q⟩ | ⟨n, q⟩
    · cases q
      exact .inr ⟨v, by rw [List.getElem?_set_self hi], st.rep S hv⟩
    · exact .inl ⟨q, by rw [List.getElem?_set_ne (Ne.symm n)]⟩
  · rcases getset h with ⟨rfl, q⟩ | ⟨n, q⟩
    · cases q
    · exact .inl ⟨q, by rw [List.getElem?_set_ne (Ne.symm n)], fun _ _ => rfl⟩
  · rcases getset h1 with ⟨rfl, q1⟩ | ⟨n1, q1⟩
    · cases q1
    · rcases getset h2 with ⟨rfl, q2⟩ | ⟨n2, q2⟩
      · cases q2
      · rw [List.getElem?_set_ne (Ne.symm n1)] at h3
        rw [List.getElem?_set_ne (Ne.symm n2)] at h4
        exact S.odj j k b _ _ q1 q2 h3 h4
/-- R, and p -/
def Rp (R : Addr → Prop) (p : Addr) : Addr → Prop := fun b => R b ∨ b = p
theorem LL.rp {b : Addr} : LL (Rp R p) al om σ ρ b ↔ LL R al om σ ρ b ∨ b = p := by
  unfold LL Rp
  exact or_assoc.symm
/-- less reserved -/
theorem Rst.less {R2 : Addr → Prop} (S : Rst g R al σ ρ om H) (h : ∀ a, R2 a → R a) : Rst g R2 al σ ρ om H ∧ Car g al (LL R al om σ ρ) H al (LL R2 al om σ ρ) H := by
  have ll : ∀ a, LL R2 al om σ ρ a → LL R al om σ ρ a := fun a m => m.elim .inl fun q => .inr (h a q)
  have cr : Car g al (LL R al om σ ρ) H al (LL R2 al om σ ρ) H := ⟨fun _ _ h => h, fun a vs h n => ⟨h, fun m => n (ll a m)⟩, fun _ _ h => h, fun a C dx fs h n => ⟨h, fun m => n (ll a m)⟩, fun _ _ h => h⟩
  refine ⟨⟨⟨S.o.len, fun j c b h1 h2 => (S.o.cel j c b h1 h2).car cr (fun _ e _ => e) (fun _ _ _ e _ => e) (fun _ e _ => e), S.o.inj, fun a q => S.o.rsv a (h a q)⟩, S.sl, fun j d h => ?_, fun j dj h => ?_, S.odj, fun a q => ⟨(S.ocl a q).1, fun z => (S.ocl a q).2 (h a z)⟩⟩, cr⟩
  · obtain ⟨v, e, r⟩ := S.val j d h
    exact ⟨v, e, r.car cr⟩
  · obtain ⟨a, vs, e, e2, r⟩ := S.own j dj h
    exact ⟨a, vs, e, e2, r.car cr⟩
theorem Rst.lessp (S : Rst g (Rp R p) al σ ρ om H) (hR : ¬ R p) : Rst g R al σ ρ om H ∧ Car g al (LL (Rp R p) al om σ ρ) H al (LL R al om σ ρ) H ∧ ¬ LL R al om σ ρ p := by
  obtain ⟨S', c⟩ := S.less (R2 := R) fun a h => .inl h
  refine ⟨S', c, fun m => ?_⟩
  rcases m with (m | m) | m
  · exact (S.o.rsv p (.inr rfl)).1 m
  · exact (S.ocl p m).2 (.inr rfl)
  · exact hR m
/-- a new address is reserved -/
theorem Rst.newRes {o : HO} (S : Rst g R al σ ρ om H) (hp : H p = none) : Rst g (Rp R p) al σ ρ om (upd H p o) ∧ Car g al (LL R al om σ ρ) H al (LL (Rp R p) al om σ ρ) (upd H p o) := by
  have hn := S.new hp
  have k := upd_keep (o := o) hp
  have np : ∀ {a : Addr} {u : HO}, H a = some u → a ≠ p := fun e => ne_of_none e hp
  have cr : Car g al (LL R al om σ ρ) H al (LL (Rp R p) al om σ ρ) (upd H p o) := by
    refine ⟨fun a vs h => ?_, fun a vs h n => ⟨k a _ h, fun m => ?_⟩, fun a vs h => h.imp (fun ⟨o, h⟩ => ⟨o, k a _ h⟩) id, fun a C dx fs h n => ⟨k a _ h, fun m => ?_⟩, fun _ _ h => h⟩
    · rcases h with (h | ⟨u, h⟩) | h
      · exact .inl (.inl (k a _ h))
      · exact .inl (.inr ⟨u, k a _ h⟩)
      · exact .inr h
    · rcases LL.rp.mp m with m | m
      · exact n m
      · exact np h m
    · rcases LL.rp.mp m with m | m
      · exact n m
      · exact np h m
  refine ⟨⟨⟨S.o.len, fun j c b h1 h2 => (S.o.cel j c b h1 h2).car cr (fun _ e _ => k _ _ e) (fun _ _ _ e _ => k _ _ e) (fun _ t _ => t.ext k), S.o.inj, fun a q => ?_⟩, S.sl, fun j d h => ?_, fun j dj h => ?_, S.odj, fun a q => ⟨(S.ocl a q).1, fun z => ?_⟩⟩, cr⟩
  · rcases q with q | rfl
    · refine ⟨(S.o.rsv a q).1, ?_⟩
      cases e : H a with
      | none => exact absurd e (S.o.rsv a q).2
      | some u => rw [k a u e]; simp
    · exact ⟨fun m => hn (.inl (.inl m)), by rw [upd_same]; simp⟩
  · obtain ⟨v, e, r⟩ := S.val j d h
    exact ⟨v, e, r.car cr⟩
  · obtain ⟨a, vs, e, e2, r⟩ := S.own j dj h
    exact ⟨a, vs, e, k _ _ e2, r.car cr⟩
  · rcases z with z | rfl
    · exact (S.ocl a q).2 z
    · exact hn (.inl (.inr q))
/-- a slot gets a list that nothing else knows -/
theorem Rst.setNew (S : Rst g (Rp R p) al σ ρ om H) (hi : i < σ.length) (hR : ¬ R p) (hp : H p = some (.lst vs)) (hv : RepVs g al (LL (Rp R p) al om σ ρ) H vs ds) :
    Rst g R al (σ.set i (some (.ref p))) (ρ.set i (some (.own ds))) om H ∧ ∀ b, Mt al om (σ.set i (some (.ref p))) (ρ.set i (some (.own ds))) b → Mt al om σ ρ b ∨ b = p := by
  have hn : ¬ Mt al om σ ρ p := fun m => m.elim (S.o.rsv p (.inr rfl)).1 fun m => (S.ocl p m).2 (.inr rfl)
  have sub : ∀ b, OwnA (σ.set i (some (.ref p))) (ρ.set i (some (.own ds))) b → OwnA σ ρ b ∨ b = p := fun b h => by
    obtain ⟨j, dj, h1, h2⟩ := h
    rcases getset h1 with ⟨rfl, q⟩ | ⟨n, q⟩
    · rcases getset h2 with ⟨_, q2⟩ | ⟨n2, _⟩
      · cases q2
        exact .inr rfl
      · exact absurd rfl n2
    · rcases getset h2 with ⟨rfl, _⟩ | ⟨_, q2⟩
      · exact absurd rfl n
      · exact .inl ⟨j, dj, q, q2⟩
  have ll : ∀ b, LL R al om (σ.set i (some (.ref p))) (ρ.set i (some (.own ds))) b → LL (Rp R p) al om σ ρ b := fun b m => by
    rcases m with (m | m) | m
    · exact .inl (.inl m)
    · rcases sub b m with q | q
      · exact .inl (.inr q)
      · exact .inr (.inr q)
    · exact .inr (.inl m)
  have cr : Car g al (LL (Rp R p) al om σ ρ) H al (LL R al om (σ.set i (some (.ref p))) (ρ.set i (some (.own ds)))) H :=
    ⟨fun _ _ h => h, fun a vs h n => ⟨h, fun m => n (ll a m)⟩, fun _ _ h => h, fun a C dx fs h n => ⟨h, fun m => n (ll a m)⟩, fun _ _ h => h⟩
  refine ⟨⟨⟨S.o.len, fun j c b h1 h2 => (S.o.cel j c b h1 h2).car cr (fun _ e _ => e) (fun _ _ _ e _ => e) (fun _ e _ => e), S.o.inj, fun a q => S.o.rsv a (.inl q)⟩, (S.sl.set2 fun _ z => nomatch z), fun j d h => ?_, fun j dj h => ?_, fun j k b dj dk h1 h2 h3 h4 => ?_, fun b h => ?_⟩, fun b m => ?_⟩
  · rcases getset h with ⟨rfl, q⟩ | ⟨n, q⟩
    · cases q
    · obtain ⟨v, e, r⟩ := S.val j d q
      exact ⟨v, by rw [List.getElem?_set_ne (Ne.symm n)]; exact e, r.car cr⟩
  · rcases getset h with ⟨rfl, q⟩ | ⟨n, q⟩
    · cases q
      exact ⟨p, vs, by rw [List.getElem?_set_self hi], hp, hv.car cr⟩
    · obtain ⟨a, vs, e, e2, r⟩ := S.own j dj q
      exact ⟨a, vs, by rw [List.getElem?_set_ne (Ne.symm n)]; exact e, e2, r.car cr⟩
  · have nf : ∀ (j : Nat) (dj : List D), ρ[j]? = some (some (.own dj)) → σ[j]? ≠ some (some (.ref p)) := fun j dj h1 h2 => hn (.inr ⟨j, dj, h1, h2⟩)
    rcases getset h1 with ⟨rfl, q1⟩ | ⟨n1, q1⟩
    · rcases getset h2 with ⟨rfl, q2⟩ | ⟨n2, q2⟩
      · rfl
      · rw [List.getElem?_set_self hi] at h3
        cases h3
        rw [List.getElem?_set_ne (Ne.symm n2)] at h4
        exact absurd h4 (nf k _ q2)
    · rw [List.getElem?_set_ne (Ne.symm n1)] at h3
      rcases getset h2 with ⟨rfl, q2⟩ | ⟨n2, q2⟩
      · rw [List.getElem?_set_self hi] at h4
        cases h4
        exact absurd h3 (nf j _ q1)
      · rw [List.getElem?_set_ne (Ne.symm n2)] at h4
        exact S.odj j k b _ _ q1 q2 h3 h4
  · rcases sub b h with q | rfl
    · exact ⟨(S.ocl b q).1, fun z => (S.ocl b q).2 (.inl z)⟩
    · exact ⟨fun m => hn (.inl m), hR⟩
  · rcases m with m | m
    · exact .inl (.inl m)
    · rcases sub b m with q | q
      · exact .inl (.inr q)
      · exact .inr q
end
end Dv

namespace Dv
open PySem PySem.Spec PyProof.Rows L2

/-! ### what is wanted of an own list, of a statement -/
def PostO (g : G) (R : Addr → Prop) (W : WX) (al : List Addr) (M : Addr → Prop) (H : Hp) (σ : St) : Res (List D) → VK → Prop
  | .ok ds ρ' om', Q => ∀ (p : Addr) (vs : List V) (H' : Hp) (al' : List Addr), Step al M H al' (fun a => Mt al' om' σ ρ' a ∨ a = p) H' → Rst g (Rp R p) al' σ ρ' om' H' → ¬ R p → H' p = some (.lst vs) → RepVs g al' (LL (Rp R p) al' om' σ ρ') H' vs ds → Q (.ref p) H'
  | .xc x ρ' om', _ => ∀ cv dd H' al', Step al M H al' (Mt al' om' σ ρ') H' → Rst g R al' σ ρ' om' H' → RepX g al' (LL R al' om' σ ρ') H' cv dd x → W cv dd σ H'
  | .no, _ => False
abbrev UW := Rho → Om → Res (List D)
def tOw (g : G) (W : WX) (u : UW) : TE := fun σ H Q => ∃ R ρ om al, Rst g R al σ ρ om H ∧ PostO g R W al (Mt al om σ ρ) H σ (u ρ om) Q

inductive RS where
  | nx (r : Rho) (o : Om)
  | bk (r : Rho) (o : Om)
  | ct (r : Rho) (o : Om)
  | rt (d : D) (o : Om)
  | rto (ds : List D) (o : Om)
  | xc (x : DX) (r : Rho) (o : Om)
  | no
@[simp] def RS.of {τ : Type} : Res τ → (τ → Rho → Om → RS) → RS
  | .ok t r o, f => f t r o
  | .xc x r o, _ => .xc x r o
  | .no, _ => .no
abbrev US := Rho → Om → RS
def PostS (g : G) (R : Addr → Prop) (W : WX) (al : List Addr) (M : Addr → Prop) (H : Hp) : RS → Ends → Prop
  | .nx ρ' om', D => ∀ σ' H' al', Step al M H al' (Mt al' om' σ' ρ') H' → Rst g R al' σ' ρ' om' H' → D.nx σ' H'
  | .bk ρ' om', D => ∀ σ' H' al', Step al M H al' (Mt al' om' σ' ρ') H' → Rst g R al' σ' ρ' om' H' → D.bk σ' H'
  | .ct ρ' om', D => ∀ σ' H' al', Step al M H al' (Mt al' om' σ' ρ') H' → Rst g R al' σ' ρ' om' H' → D.ct σ' H'
  | .rt d om', D => ∀ v σ' ρ' H' al', Step al M H al' (Mt al' om' σ' ρ') H' → Rst g R al' σ' ρ' om' H' → RepV g al' (LL R al' om' σ' ρ') H' v d → D.rt v H'
  | .rto ds om', D => ∀ (p : Addr) (vs : List V) (σ' : St) (ρ' : Rho) (H' : Hp) (al' : List Addr), Step al M H al' (fun a => Mt al' om' σ' ρ' a ∨ a = p) H' → Rst g (Rp R p) al' σ' ρ' om' H' → ¬ R p → H' p = some (.lst vs) → RepVs g al' (LL (Rp R p) al' om' σ' ρ') H' vs ds → D.rt (.ref p) H'
  | .xc x ρ' om', _ => ∀ cv dd σ' H' al', Step al M H al' (Mt al' om' σ' ρ') H' → Rst g R al' σ' ρ' om' H' → RepX g al' (LL R al' om' σ' ρ') H' cv dd x → W cv dd σ' H'
  | .no, _ => False
def tS (g : G) (W : WX) (u : US) : TS := fun D σ H => ∃ R ρ om al, Rst g R al σ ρ om H ∧ PostS g R W al (Mt al om σ ρ) H (u ρ om) D

section
variable {g : G} {R : Addr → Prop} {al al' : List Addr} {om om' : Om} {σ σ' : St} {ρ ρ' : Rho} {H H' : Hp} {W : WX} {X : Cx} {M M' : Addr → Prop} {i : Nat}
theorem PostO.step {r : Res (List D)} {Q : VK} (s : Step al M H al' M' H') (p : PostO g R W al M H σ r Q) : PostO g R W al' M' H' σ r Q := by
  cases r with
  | ok t ρ' om' => exact fun y vs H2 al2 t2 => p y vs H2 al2 (s.trans t2)
  | xc x ρ' om' => exact fun y dd H2 al2 t2 => p y dd H2 al2 (s.trans t2)
  | no => exact p
theorem PostS.step {r : RS} {D : Ends} (s : Step al M H al' M' H') (p : PostS g R W al M H r D) : PostS g R W al' M' H' r D := by
  cases r with
  | nx ρ' om' => exact fun σ' H2 al2 t2 => p σ' H2 al2 (s.trans t2)
  | bk ρ' om' => exact fun σ' H2 al2 t2 => p σ' H2 al2 (s.trans t2)
  | ct ρ' om' => exact fun σ' H2 al2 t2 => p σ' H2 al2 (s.trans t2)
  | rt d om' => exact fun v σ' ρ' H2 al2 t2 => p v σ' ρ' H2 al2 (s.trans t2)
  | rto d om' => exact fun y vs σ' ρ' H2 al2 t2 => p y vs σ' ρ' H2 al2 (s.trans t2)
  | xc x ρ' om' => exact fun y dd σ' H2 al2 t2 => p y dd σ' H2 al2 (s.trans t2)
  | no => exact p
/-- an expression, then an own list -/
theorem tR_bindO {β τ : Type} {rel : G → Rl β τ} {u : Rho → Om → Res τ} {f : τ → Rho → Om → Res (List D)} {Q : β → Hp → Prop} {Q2 : VK} (S : Rst g R al σ ρ om H)
    (P : PostO g R W al (Mt al om σ ρ) H σ ((u ρ om).bind f) Q2)
    (k : ∀ t ρ' om' y H' al', Step al (Mt al om σ ρ) H al' (Mt al' om' σ ρ') H' → Rst g R al' σ ρ' om' H' → rel g al' (LL R al' om' σ ρ') H' y t → PostO g R W al' (Mt al' om' σ ρ') H' σ (f t ρ' om') Q2 → Q y H') : tR g W rel u σ H Q := by
  refine ⟨R, ρ, om, al, S, ?_⟩
  cases e : u ρ om with
  | ok t ρ' om' =>
    rw [e] at P
    exact fun y H' al' s S' r => k t ρ' om' y H' al' s S' r (PostO.step s P)
  | xc x ρ' om' => rw [e] at P; exact P
  | no => rw [e] at P; exact P
/-- an expression, then a statement -/
theorem tR_bindS {β τ : Type} {rel : G → Rl β τ} {u : Rho → Om → Res τ} {f : τ → Rho → Om → RS} {Q : β → Hp → Prop} {D2 : Ends} (S : Rst g R al σ ρ om H)
    (P : PostS g R W al (Mt al om σ ρ) H (RS.of (u ρ om) f) D2)
    (k : ∀ t ρ' om' y H' al', Step al (Mt al om σ ρ) H al' (Mt al' om' σ ρ') H' → Rst g R al' σ ρ' om' H' → rel g al' (LL R al' om' σ ρ') H' y t → PostS g R W al' (Mt al' om' σ ρ') H' (f t ρ' om') D2 → Q y H') : tR g W rel u σ H Q := by
  refine ⟨R, ρ, om, al, S, ?_⟩
  cases e : u ρ om with
  | ok t ρ' om' =>
    rw [e] at P
    exact fun y H' al' s S' r => k t ρ' om' y H' al' s S' r (PostS.step s P)
  | xc x ρ' om' =>
    rw [e] at P
    exact fun cv dd H' al' s S' r => P cv dd σ H' al' s S' r
  | no => rw [e] at P; exact P
/-- an own list, then a statement -/
theorem tOw_bindS {u : UW} {f : List D → Rho → Om → RS} {Q : VK} {D2 : Ends} (S : Rst g R al σ ρ om H)
    (P : PostS g R W al (Mt al om σ ρ) H (RS.of (u ρ om) f) D2)
    (k : ∀ ds ρ' om' p vs H' al', Step al (Mt al om σ ρ) H al' (fun a => Mt al' om' σ ρ' a ∨ a = p) H' → Rst g (Rp R p) al' σ ρ' om' H' → ¬ R p → H' p = some (.lst vs) → RepVs g al' (LL (Rp R p) al' om' σ ρ') H' vs ds → PostS g R W al' (fun a => Mt al' om' σ ρ' a ∨ a = p) H' (f ds ρ' om') D2 → Q (.ref p) H') : tOw g W u σ H Q := by
  refine ⟨R, ρ, om, al, S, ?_⟩
  cases e : u ρ om with
  | ok t ρ' om' =>
    rw [e] at P
    exact fun p vs H' al' s S' n e r => k t ρ' om' p vs H' al' s S' n e r (PostS.step s P)
  | xc x ρ' om' =>
    rw [e] at P
    exact fun cv dd H' al' s S' r => P cv dd σ H' al' s S' r
  | no => rw [e] at P; exact P
/-- an own list becomes a value -/
@[simp] def uFz (u : UW) : UE := fun ρ ω => (u ρ ω).bind fun ds ρ ω => .ok (.lst ds) ρ ω
theorem pu_fz {e : Expr} {u : UW} (h : PE X e (tOw g W u)) : PE X e (tE g W (uFz u)) := peImp h fun σ H Q ⟨R, ρ, om, al, S, P⟩ => by
  refine ⟨R, ρ, om, al, S, ?_⟩
  simp only [uFz] at P
  cases e : u ρ om with
  | ok ds ρ' om' =>
    rw [e] at P
    intro p vs H' al' s S' n hp r
    obtain ⟨S2, c, n2⟩ := S'.lessp n
    refine P _ H' al' ⟨s.ext, s.keep, fun a m => s.fresh a (.inl m)⟩ S2 (.lst hp n2 (r.car c))
  | xc x ρ' om' => rw [e] at P; exact P
  | no => rw [e] at P; exact P
theorem Rst.grown {o : HO} {p : Addr} (hp : H p = none) : Step al (Mt al om σ ρ) H al (fun a => Mt al om σ ρ a ∨ a = p) (upd H p o) := .grow (fun a u h _ => upd_keep hp a u h) fun a m => m.elim .inl fun z => .inr (z ▸ hp)
/-- a list just laid -/
theorem okOwn {Q : VK} {vs : List V} {ds : List D} {p : Addr} (S : Rst g R al σ ρ om H) (P : PostO g R W al (Mt al om σ ρ) H σ (.ok ds ρ om) Q) (hp : H p = none) (r : RepVs g al (LL R al om σ ρ) H vs ds) : Q (.ref p) (upd H p (.lst vs)) := by
  obtain ⟨S', c⟩ := S.newRes (o := .lst vs) hp
  exact P p vs _ al (Rst.grown hp) S' (fun z => (S.o.rsv p z).2 hp) upd_same (r.car c)
/-- [a, b, ..] as an own list -/
@[simp] def uLstO (u : UA) : UW := fun ρ ω => (u ρ ω).bind fun xs ρ ω => if xs.length ≤ big then .ok xs ρ ω else .no
theorem pu_lstO {es : List Expr} {us : UA} {pos : Pos} (h : PA X es (tA g W us)) : PE X (.List es pos) (tOw g W (uLstO us)) := peImp (pe_lst h) fun σ H Q ⟨R, ρ, om, al, S, P⟩ =>
  tR_bindO S P fun xs ρ1 om1 vs H1 al1 s1 S1 r1 P1 => by
    split at P1
    · rename_i hz
      exact ⟨big_line (by rw [RepVs.length r1]; exact hz), fun p hp => okOwn S1 P1 hp r1⟩
    · exact P1.elim
/-- the own list of a slot, handed on -/
@[simp] def uMv (i : Nat) : UW := fun ρ ω => match ρ[i]? with
  | some (some (.own ds)) => .ok ds (ρ.set i none) ω
  | _ => .no
theorem pu_mv (i : Nat) {x : Str} {pos : Pos} (hN : X.N[i]? = some x := by rfl) (hv : Vis X.env.scope x := by first | exact Or.inl rfl | exact Or.inr (Or.inl rfl) | exact Or.inr (Or.inr rfl)) (hd : (x == ("__debug__" : Str)) = false := by decide)
    (hcd : (x == ("__classdict__" : Str)) = false := by decide) : PE X (.Name x pos) (tOw g W (uMv i)) := peImp (pe_var hN hv hd hcd) fun σ H Q ⟨R, ρ, om, al, S, P⟩ => by
  simp only [uMv] at P
  split at P
  · rename_i ds e
    obtain ⟨a, vs, h1, h2, h3⟩ := S.own i ds e
    refine ⟨_, h1, ?_⟩
    obtain ⟨S', st, hn⟩ := S.moveOwn e h1
    have hA : OwnA σ ρ a := ⟨i, ds, e, h1⟩
    have cr : Car g al (LL R al om σ ρ) H al (LL (Rp R a) al om σ (ρ.set i none)) H := by
      have ll : ∀ b, LL (Rp R a) al om σ (ρ.set i none) b → LL R al om σ ρ b := fun b m => by
        rcases LL.rp.mp m with m | m
        · rcases m with m | m
          · rcases st.fresh b m with q | q
            · exact .inl q
            · rcases m with m | ⟨j, dj, q1, q2⟩
              · exact .inl (.inl m)
              · rcases getset q1 with ⟨_, q⟩ | ⟨_, q⟩
                · cases q
                · exact .inl (.inr ⟨j, dj, q, q2⟩)
          · exact .inr m
        · rw [m]; exact .inl (.inr hA)
      exact ⟨fun _ _ h => h, fun a vs h n => ⟨h, fun m => n (ll a m)⟩, fun _ _ h => h, fun a C dx fs h n => ⟨h, fun m => n (ll a m)⟩, fun _ _ h => h⟩
    have S2 : Rst g (Rp R a) al σ (ρ.set i none) om H := by
      refine ⟨⟨S'.o.len, fun j c b k1 k2 => (S.o.cel j c b k1 k2).car cr (fun _ e _ => e) (fun _ _ _ e _ => e) (fun _ e _ => e), S'.o.inj, fun b q => ?_⟩, S'.sl, fun j d k => ?_, fun j dj k => ?_, S'.odj, fun b q => ⟨(S'.ocl b q).1, fun z => ?_⟩⟩
      · rcases q with q | rfl
        · exact S'.o.rsv b q
        · exact ⟨(S.ocl b hA).1, by rw [h2]; simp⟩
      · rcases getset k with ⟨_, q⟩ | ⟨_, q⟩
        · cases q
        · obtain ⟨v, q1, q2⟩ := S.val j d q
          exact ⟨v, q1, q2.car cr⟩
      · rcases getset k with ⟨_, q⟩ | ⟨_, q⟩
        · cases q
        · obtain ⟨b, ws, q1, q2, q3⟩ := S.own j dj q
          exact ⟨b, ws, q1, q2, q3.car cr⟩
      · rcases z with z | rfl
        · exact (S'.ocl b q).2 z
        · exact hn (.inl (.inr q))
    refine P a vs H al ⟨fun _ _ h => h, fun _ _ h _ => h, fun b m => ?_⟩ S2 (S.ocl a hA).2 h2 (h3.car cr)
    rcases m with m | rfl
    · exact st.fresh b m
    · exact .inl (.inr hA)
  · exact P.elim
/-! ### statements -/
@[simp] def sNext : US := fun ρ ω => .nx ρ ω
@[simp] def sSeq (u v : US) : US := fun ρ ω => match u ρ ω with
  | .nx ρ ω => v ρ ω
  | .bk ρ ω => .bk ρ ω
  | .ct ρ ω => .ct ρ ω
  | .rt d ω => .rt d ω
  | .rto d ω => .rto d ω
  | .xc x ρ ω => .xc x ρ ω
  | .no => .no
@[simp] def sAsg (i : Nat) (u : UE) : US := fun ρ ω => RS.of (u ρ ω) fun d ρ ω => .nx (ρ.set i (some (.val d))) ω
@[simp] def sAsgO (i : Nat) (u : UW) : US := fun ρ ω => RS.of (u ρ ω) fun ds ρ ω => .nx (ρ.set i (some (.own ds))) ω
@[simp] def sExpr (u : UE) : US := fun ρ ω => RS.of (u ρ ω) fun _ ρ ω => .nx ρ ω
@[simp] def sRet (u : UE) : US := fun ρ ω => RS.of (u ρ ω) fun d _ ω => .rt d ω
@[simp] def sRetO (u : UW) : US := fun ρ ω => RS.of (u ρ ω) fun d _ ω => .rto d ω
@[simp] def sRetN : US := fun _ ω => .rt .non ω
@[simp] def sIf (c : UT) (u v : US) : US := fun ρ ω => RS.of (c ρ ω) fun b ρ ω => if b = true then u ρ ω else v ρ ω
@[simp] def sBreak : US := fun ρ ω => .bk ρ ω
@[simp] def sCont : US := fun ρ ω => .ct ρ ω
@[simp] def sRaise (x : DX) : US := fun ρ ω => .xc x ρ ω
variable {e c : Expr} {ue : UE} {uw : UW} {uc : UT} {u v : US} {st : Stmt} {rest body other : List Stmt} {pos pos' : Pos}
theorem pss_nilU : PSs X [] (tS g W sNext) := pssImp pss_nil fun D σ H ⟨R, ρ, om, al, S, P⟩ => P σ H al .refl S
theorem tSeq_of {D : Ends} (h : tS g W (sSeq u v) D σ H) : tSeq (tS g W u) (tS g W v) D σ H := by
  obtain ⟨R, ρ, om, al, S, P⟩ := h
  refine ⟨R, ρ, om, al, S, ?_⟩
  simp only [sSeq] at P
  cases e : u ρ om with
  | nx ρ' om' =>
    rw [e] at P
    exact fun σ' H' al' s S' => ⟨R, ρ', om', al', S', PostS.step s P⟩
  | bk ρ' om' => rw [e] at P; exact P
  | ct ρ' om' => rw [e] at P; exact P
  | rt d om' => rw [e] at P; exact P
  | rto d om' => rw [e] at P; exact P
  | xc x ρ' om' => rw [e] at P; exact P
  | no => rw [e] at P; exact P
theorem pss_consU (h1 : PS X st (tS g W u)) (h2 : PSs X rest (tS g W v)) : PSs X (st :: rest) (tS g W (sSeq u v)) := pssImp (pss_cons h1 h2) fun D σ H h => tSeq_of h
theorem pss_oneU (h1 : PS X st (tS g W u)) : PSs X [st] (tS g W u) := pss_one h1
theorem ps_passU : PS X (.Pass pos) (tS g W sNext) := psImp ps_pass fun D σ H ⟨R, ρ, om, al, S, P⟩ => P σ H al .refl S
theorem ps_breakU : PS X (.Break pos) (tS g W sBreak) := psImp ps_break fun D σ H ⟨R, ρ, om, al, S, P⟩ => P σ H al .refl S
theorem ps_contU : PS X (.Continue pos) (tS g W sCont) := psImp ps_continue fun D σ H ⟨R, ρ, om, al, S, P⟩ => P σ H al .refl S
/-- storing into a name -/
theorem set_of {De : Ends} {d : D} {x : V} (S : Rst g R al σ ρ om H) (r : RepV g al (LL R al om σ ρ) H x d) (P : PostS g R W al (Mt al om σ ρ) H (.nx (ρ.set i (some (.val d))) om) De) : De.nx (σ.set i (some x)) H := by
  by_cases hi : i < σ.length
  · obtain ⟨S', s⟩ := S.setVal hi r
    exact P _ _ al s S'
  · rw [List.set_eq_of_length_le (by omega)]
    rw [List.set_eq_of_length_le (by rw [← S.sl.len]; omega)] at P
    exact P σ H al .refl S
theorem setO_of {De : Ends} {ds : List D} {p : Addr} {vs : List V} (S : Rst g (Rp R p) al σ ρ om H) (hR : ¬ R p) (hp : H p = some (.lst vs)) (r : RepVs g al (LL (Rp R p) al om σ ρ) H vs ds)
    (P : PostS g R W al (fun a => Mt al om σ ρ a ∨ a = p) H (.nx (ρ.set i (some (.own ds))) om) De) : De.nx (σ.set i (some (.ref p))) H := by
  by_cases hi : i < σ.length
  · obtain ⟨S', m⟩ := S.setNew hi hR hp r
    exact P _ _ al ⟨fun _ _ h => h, fun _ _ h _ => h, fun a q => .inl (m a q)⟩ S'
  · rw [List.set_eq_of_length_le (by omega)]
    rw [List.set_eq_of_length_le (by rw [← S.sl.len]; omega)] at P
    exact P σ H al ⟨fun _ _ h => h, fun _ _ h _ => h, fun a q => .inl (.inl q)⟩ (S.lessp hR).1
variable {x : Str}
theorem ps_asgU (i : Nat) (hN : X.N.Nodup) (he : PE X e (tE g W ue)) (hi : X.N[i]? = some x := by rfl) (hx : Loc X.env.scope x := by first | exact Or.inl rfl | exact Or.inr rfl) (hs : swapsWith e (some (.Name x pos')) pos.line X.env = pure false := by rfl) (hf : X.fn x = true ∨ X.env.scope.names.lookup x = some .local := by first | exact .inl rfl | exact .inr rfl) :
    PS X (.Assign [.Name x pos'] e pos) (tS g W (sAsg i ue)) := psImp (ps_set hN hi hx he hs hf) fun De σ H ⟨R, ρ, om, al, S, P⟩ =>
  tR_bindS S P fun d ρ' om' v H' al' s S' r P' => set_of S' r P'
theorem ps_asgO (i : Nat) (hN : X.N.Nodup) (he : PE X e (tOw g W uw)) (hi : X.N[i]? = some x := by rfl) (hx : Loc X.env.scope x := by first | exact Or.inl rfl | exact Or.inr rfl) (hs : swapsWith e (some (.Name x pos')) pos.line X.env = pure false := by rfl) (hf : X.fn x = true ∨ X.env.scope.names.lookup x = some .local := by first | exact .inl rfl | exact .inr rfl) :
    PS X (.Assign [.Name x pos'] e pos) (tS g W (sAsgO i uw)) := psImp (ps_set hN hi hx he hs hf) fun De σ H ⟨R, ρ, om, al, S, P⟩ =>
  tOw_bindS S P fun ds ρ' om' p vs H' al' s S' n hp r P' => setO_of S' n hp r P'
theorem ps_exprU (he : PE X e (tE g W ue)) (hs : swapsWith e none pos.line X.env = pure false := by rfl) : PS X (.Expr e pos) (tS g W (sExpr ue)) := psImp (ps_expr he hs) fun De σ H ⟨R, ρ, om, al, S, P⟩ =>
  tR_bindS S P fun d ρ' om' v H' al' s S' r P' => P' _ _ _ .refl S'
theorem ps_retU (he : PE X e (tE g W ue)) : PS X (.Return (some e) pos) (tS g W (sRet ue)) := psImp (ps_ret he) fun De σ H ⟨R, ρ, om, al, S, P⟩ =>
  tR_bindS S P fun d ρ' om' v H' al' s S' r P' => P' _ _ _ _ _ .refl S' r
theorem ps_retO (he : PE X e (tOw g W uw)) : PS X (.Return (some e) pos) (tS g W (sRetO uw)) := psImp (ps_ret he) fun De σ H ⟨R, ρ, om, al, S, P⟩ =>
  tOw_bindS S P fun ds ρ' om' p vs H' al' s S' n hp r P' => P' p vs σ ρ' H' al' .refl S' n hp r
theorem ps_retNU : PS X (.Return none pos) (tS g W sRetN) := psImp ps_retN fun De σ H ⟨R, ρ, om, al, S, P⟩ => P .non σ ρ H al .refl S .non
theorem tS_use {De : Ends} (S : Rst g R al σ ρ om H) (P : PostS g R W al (Mt al om σ ρ) H (u ρ om) De) : tS g W u De σ H := ⟨R, ρ, om, al, S, P⟩
theorem ps_ifU (hc : PT X c (tT g W uc)) (ha : PSs X body (tS g W u)) (hb : PSs X other (tS g W v)) : PS X (.If c body other pos) (tS g W (sIf uc u v)) := psImp (ps_if hc ha hb) fun De σ H ⟨R, ρ, om, al, S, P⟩ =>
  tR_bindS S P fun b ρ' om' y H' al' s S' r P' => by
    cases (show y = b from r)
    cases b with
    | true => exact tS_use S' P'
    | false => exact tS_use S' P'
theorem ps_neverU : PS X st (tS g W fun _ _ => .no) := psImp ps_never fun De σ H ⟨R, ρ, om, al, S, P⟩ => P.elim
theorem pss_neverU : PSs X body (tS g W fun _ _ => .no) := pssImp pss_never fun De σ H ⟨R, ρ, om, al, S, P⟩ => P.elim

/-! ### a while: n turns at most -/
def goW (c : UT) (b : US) : Nat → US
  | 0 => fun _ _ => .no
  | n + 1 => fun ρ ω => RS.of (c ρ ω) fun k ρ ω => if k = true then (match b ρ ω with
      | .nx ρ ω => goW c b n ρ ω
      | .ct ρ ω => goW c b n ρ ω
      | .bk ρ ω => .nx ρ ω
      | .rt d ω => .rt d ω
      | .rto d ω => .rto d ω
      | .xc x ρ ω => .xc x ρ ω
      | .no => .no) else .nx ρ ω
def sWhile (fuel : Rho → Om → Nat) (c : UT) (b : US) : US := fun ρ ω => goW c b (fuel ρ ω) ρ ω
theorem ps_whileU (fuel : Rho → Om → Nat) (hp : PassesOwn (model X.prog X.w) X.A X.env X.xe) (hc : PT X c (tT g W uc)) (hb : PSs X body (tS g W u)) : PS X (.While c body [] pos) (tS g W (sWhile fuel uc u)) := psImp (ps_while hp hc hb) fun De σ H ⟨R, ρ, om, al, S, P⟩ => by
  refine ⟨fun n σ' H' => ∃ ρ' om' al', Step al (Mt al om σ ρ) H al' (Mt al' om' σ' ρ') H' ∧ Rst g R al' σ' ρ' om' H' ∧ PostS g R W al' (Mt al' om' σ' ρ') H' (goW uc u n ρ' om') De, ⟨fuel ρ om, ρ, om, al, .refl, S, P⟩, ?_⟩
  rintro n σ1 H1 ⟨ρ1, om1, al1, s1, S1, P1⟩
  cases n with
  | zero => exact P1.elim
  | succ n =>
    refine tR_bindS S1 P1 fun b ρ' om' y H' al' s S' r P' => ?_
    cases (show y = b from r)
    cases b with
    | false => exact P' _ _ _ .refl S'
    | true =>
      refine ⟨fun σ' H' => ∃ ρ' om' al', Step al (Mt al om σ ρ) H al' (Mt al' om' σ' ρ') H' ∧ Rst g R al' σ' ρ' om' H' ∧ PostS g R W al' (Mt al' om' σ' ρ') H' (goW uc u n ρ' om') De, fun σ' H' h => ⟨n, Nat.lt_succ_self n, h⟩, ?_⟩
      refine tS_use S' ?_
      simp only [if_pos] at P'
      cases e : u ρ' om' with
      | nx ρ2 om2 => rw [e] at P'; exact fun σ2 H2 al2 s2 S2 => ⟨ρ2, om2, al2, (s1.trans s).trans s2, S2, PostS.step s2 P'⟩
      | ct ρ2 om2 => rw [e] at P'; exact fun σ2 H2 al2 s2 S2 => ⟨ρ2, om2, al2, (s1.trans s).trans s2, S2, PostS.step s2 P'⟩
      | bk ρ2 om2 => rw [e] at P'; exact P'
      | rt d om2 => rw [e] at P'; exact P'
      | rto d om2 => rw [e] at P'; exact P'
      | xc x ρ2 om2 => rw [e] at P'; exact P'
      | no => rw [e] at P'; exact P'
end
end Dv

namespace Dv
open PySem PySem.Spec PyProof.Rows L2

/-! ### what a loop walks: a row of items, settled when it begins -/
/-- at turn i it yields what stands for the i-th of ds, whatever has gone on since -/
def ItS (g : G) (J : It) (ds : List D) (R : Addr → Prop) (al : List Addr) (M : Addr → Prop) (H : Hp) : Prop :=
  ∀ (R2 : Addr → Prop) (σ : St) (ρ : Rho) (om : Om) (al2 : List Addr) (H2 : Hp) (i : Nat), (∀ a, R2 a → R a ∨ H a = none) → Step al M H al2 (Mt al2 om σ ρ) H2 → Rst g R2 al2 σ ρ om H2 →
    (i < ds.length → J.go i H2 ∧ ∀ x H3, J.yld i H2 x H3 → Rst g R2 al2 σ ρ om H3 ∧ Step al2 (Mt al2 om σ ρ) H2 al2 (Mt al2 om σ ρ) H3 ∧ ∃ d, ds[i]? = some d ∧ RepV g al2 (LL R2 al2 om σ ρ) H3 x d) ∧
    (ds.length ≤ i → J.stop i H2)
abbrev UI := Rho → Om → Res (List D)
def PostI (g : G) (R : Addr → Prop) (W : WX) (al : List Addr) (M : Addr → Prop) (H : Hp) (σ : St) : Res (List D) → (It → Hp → Prop) → Prop
  | .ok ds ρ' om', Q => ∀ J H' al', Step al M H al' (Mt al' om' σ ρ') H' → Rst g R al' σ ρ' om' H' → ItS g J ds R al' (Mt al' om' σ ρ') H' → Q J H'
  | .xc x ρ' om', _ => ∀ cv dd H' al', Step al M H al' (Mt al' om' σ ρ') H' → Rst g R al' σ ρ' om' H' → RepX g al' (LL R al' om' σ ρ') H' cv dd x → W cv dd σ H'
  | .no, _ => False
def tI (g : G) (W : WX) (u : UI) : TI := fun σ H Q => ∃ R ρ om al, Rst g R al σ ρ om H ∧ PostI g R W al (Mt al om σ ρ) H σ (u ρ om) Q
/-- a target -/
abbrev UG := D → Rho → Option Rho
@[simp] def gN (i : Nat) : UG := fun d ρ => some (ρ.set i (some (.val d)))
@[simp] def gT2 (a b : Nat) : UG := fun d ρ => match d with
  | .tup [x, y] => some ((ρ.set a (some (.val x))).set b (some (.val y)))
  | _ => none
@[simp] def gT3 (a b c : Nat) : UG := fun d ρ => match d with
  | .tup [x, y, z] => some (((ρ.set a (some (.val x))).set b (some (.val y))).set c (some (.val z)))
  | _ => none
@[simp] def gT4 (a b c e : Nat) : UG := fun d ρ => match d with
  | .tup [x, y, z, w] => some ((((ρ.set a (some (.val x))).set b (some (.val y))).set c (some (.val z))).set e (some (.val w)))
  | _ => none
def tG (g : G) (u : UG) : TG := fun v σ H Q => ∃ R ρ om al d ρ', Rst g R al σ ρ om H ∧ RepV g al (LL R al om σ ρ) H v d ∧ u d ρ = some ρ' ∧ ∀ σ', Step al (Mt al om σ ρ) H al (Mt al om σ' ρ') H → Rst g R al σ' ρ' om H → Q σ' H
def goL (G : UG) (b : US) : List D → US
  | [] => fun ρ ω => .nx ρ ω
  | d :: r => fun ρ ω => match G d ρ with
    | none => .no
    | some ρ1 => match b ρ1 ω with
      | .nx ρ ω => goL G b r ρ ω
      | .ct ρ ω => goL G b r ρ ω
      | .bk ρ ω => .nx ρ ω
      | .rt d ω => .rt d ω
      | .rto d ω => .rto d ω
      | .xc x ρ ω => .xc x ρ ω
      | .no => .no
def sFor (s : UI) (G : UG) (b : US) : US := fun ρ ω => RS.of (s ρ ω) fun t ρ ω => goL G b t ρ ω
section
variable {g : G} {R : Addr → Prop} {al al' : List Addr} {om om' : Om} {σ σ' : St} {ρ ρ' : Rho} {H H' : Hp} {W : WX} {X : Cx} {M M' : Addr → Prop} {i : Nat}
theorem tI_bindS {u : UI} {f : List D → Rho → Om → RS} {Q : It → Hp → Prop} {D2 : Ends} (S : Rst g R al σ ρ om H)
    (P : PostS g R W al (Mt al om σ ρ) H (RS.of (u ρ om) f) D2)
    (k : ∀ t ρ' om' J H' al', Step al (Mt al om σ ρ) H al' (Mt al' om' σ ρ') H' → Rst g R al' σ ρ' om' H' → ItS g J t R al' (Mt al' om' σ ρ') H' → PostS g R W al' (Mt al' om' σ ρ') H' (f t ρ' om') D2 → Q J H') : tI g W u σ H Q := by
  refine ⟨R, ρ, om, al, S, ?_⟩
  cases e : u ρ om with
  | ok t ρ' om' =>
    rw [e] at P
    exact fun y H' al' s S' r => k t ρ' om' y H' al' s S' r (PostS.step s P)
  | xc x ρ' om' =>
    rw [e] at P
    exact fun cv dd H' al' s S' r => P cv dd σ H' al' s S' r
  | no => rw [e] at P; exact P
variable {tg iter : Expr} {body : List Stmt} {us : UI} {G' : UG} {u : US} {pos : Pos}
theorem ps_forU (hp : PassesOwn (model X.prog X.w) X.A X.env X.xe) (hc : X.calm = true) (hi : PI X tg iter (tI g W us)) (hg : PG X tg (tG g G')) (hb : PSs X body (tS g W u))
    (hs : ∀ x, foldedSetIterable iter X.env x = pure x := by intro _; rfl) : PS X (.For tg iter body [] pos) (tS g W (sFor us G' u)) := psImp (ps_for hp hc hi hg hb hs) fun De σ H ⟨R, ρ, om, al, S, P⟩ => by
  refine tI_bindS S P fun ds ρ1 om1 J H1 al1 s1 S1 it P1 => ?_
  -- behind i turns: what is left gives what is wanted
  refine ⟨fun i n σ' H' => n + i = ds.length ∧ ∃ ρ' om' al', Step al1 (Mt al1 om1 σ ρ1) H1 al' (Mt al' om' σ' ρ') H' ∧ Rst g R al' σ' ρ' om' H' ∧ PostS g R W al' (Mt al' om' σ' ρ') H' (goL G' u (ds.drop i) ρ' om') De,
    ⟨ds.length, rfl, ρ1, om1, al1, .refl, S1, P1⟩, ?_⟩
  rintro i n σ2 H2 ⟨hn, ρ2, om2, al2, s2, S2, P2⟩
  have t := it R σ2 ρ2 om2 al2 H2 i (fun a h => .inl h) s2 S2
  by_cases hi : i < ds.length
  · obtain ⟨go, yl⟩ := t.1 hi
    refine .inr ⟨go, fun σ' H' => ∃ ρ' om' al', Step al1 (Mt al1 om1 σ ρ1) H1 al' (Mt al' om' σ' ρ') H' ∧ Rst g R al' σ' ρ' om' H' ∧ PostS g R W al' (Mt al' om' σ' ρ') H' (goL G' u (ds.drop (i + 1)) ρ' om') De,
      fun σ' H' h => ⟨n - 1, by omega, by omega, h⟩, fun x H3 hy => ?_⟩
    obtain ⟨S3, s3, d, hd, r⟩ := yl x H3 hy
    have e : ds.drop i = d :: ds.drop (i + 1) := by
      obtain ⟨hl, e⟩ := List.getElem?_eq_some_iff.mp hd
      rw [← e]
      exact List.drop_eq_getElem_cons hl
    rw [e] at P2
    unfold goL at P2
    cases eg : G' d ρ2 with
    | none => rw [eg] at P2; exact P2.elim
    | some ρ3 =>
      rw [eg] at P2
      refine ⟨R, ρ2, om2, al2, d, ρ3, S3, r, eg, fun σ4 s4 S4 => ?_⟩
      refine ⟨R, ρ3, om2, al2, S4, ?_⟩
      have P4 := PostS.step (s3.trans s4) P2
      dsimp only at P4
      cases eb : u ρ3 om2 with
      | nx ρ5 om5 => rw [eb] at P4; exact fun σ5 H5 al5 s5 S5 => ⟨ρ5, om5, al5, ((s2.trans s3).trans s4).trans s5, S5, PostS.step s5 P4⟩
      | ct ρ5 om5 => rw [eb] at P4; exact fun σ5 H5 al5 s5 S5 => ⟨ρ5, om5, al5, ((s2.trans s3).trans s4).trans s5, S5, PostS.step s5 P4⟩
      | bk ρ5 om5 => rw [eb] at P4; exact P4
      | rt d5 om5 => rw [eb] at P4; exact P4
      | rto d5 om5 => rw [eb] at P4; exact P4
      | xc x5 ρ5 om5 => rw [eb] at P4; exact P4
      | no => rw [eb] at P4; exact P4
  · rw [List.drop_eq_nil_of_le (by omega)] at P2
    exact .inl ⟨t.2 (by omega), P2 σ2 H2 al2 .refl S2⟩
/-! ### the things walked -/
@[simp] def dItems : D → Option (List D)
  | .lst ds => some ds
  | .frz ds => some ds
  | _ => none
@[simp] def iLst (u : UE) : UI := fun ρ ω => (u ρ ω).bind fun d ρ ω => liftO (dItems d) ρ ω
theorem tI_of {u : UE} {f : D → Option (List D)} {σ : St} {H : Hp} {Q : It → Hp → Prop} {Q' : VK} (h : tI g W (fun ρ ω => (u ρ ω).bind fun d ρ ω => liftO (f d) ρ ω) σ H Q)
    (k : ∀ R ρ om al H v d ds, Rst g R al σ ρ om H → RepV g al (LL R al om σ ρ) H v d → f d = some ds → (∀ J H', Step al (Mt al om σ ρ) H al (Mt al om σ ρ) H' → Rst g R al σ ρ om H' → ItS g J ds R al (Mt al om σ ρ) H' → Q J H') → Q' v H) : tE g W u σ H Q' := by
  obtain ⟨R, ρ, om, al, S, P⟩ := h
  refine ⟨R, ρ, om, al, S, ?_⟩
  dsimp only at P
  cases e : u ρ om with
  | ok d ρ' om' =>
    rw [e] at P
    intro v H' al' s S' r
    cases ef : f d with
    | none =>
      simp only [Res.bind, ef, liftO] at P
      exact P.elim
    | some ds =>
      simp only [Res.bind, ef, liftO] at P
      exact k R ρ' om' al' H' v d ds S' r ef fun J H2 s2 S2 it => P J H2 al' (s.trans s2) S2 it
  | xc x ρ' om' => rw [e] at P; exact P
  | no => rw [e] at P; exact P
theorem it_list {a : Addr} {ds : List D} {v : V} {d : D} (S : Rst g R al σ ρ om H) (r : RepV g al (LL R al om σ ρ) H v d) (hd : dItems d = some ds) (e : v = .ref a) : ItS g (Itl g.K a) ds R al (Mt al om σ ρ) H := by
  intro R2 σ2 ρ2 om2 al2 H2 i hR2 s S2
  have r2 : RepV g al2 (LL R2 al2 om2 σ2 ρ2) H2 v d := s.rep2 S hR2 r
  have ⟨vs, q, rs⟩ : ∃ vs, SqL g.K H2 a vs ∧ RepVs g al2 (LL R2 al2 om2 σ2 ρ2) H2 vs ds := by
    cases r2 with
    | lst h n r9 => cases hd; cases e; exact ⟨_, SqL.of h, r9⟩
    | frz h r9 => cases hd; cases e; exact ⟨_, h.sq, r9⟩
    | _ => cases hd
  refine ⟨fun hi => ?_, fun hi => ⟨vs, q, by rw [rs.length]; exact hi⟩⟩
  obtain ⟨v0, h0, h1⟩ := rs.get (i := i) (d := ds[i]) (by simp [hi])
  refine ⟨⟨vs, v0, q, h0⟩, fun x H3 ⟨e3, hx⟩ => ?_⟩
  subst e3
  have h2 := hx vs q
  rw [h0] at h2
  cases h2
  exact ⟨S2, .refl, ds[i], by simp [hi], h1⟩
theorem pi_listU {e : Expr} {ue : UE} (hK : X.K = g.K) (he : PE X e (tE g W ue)) : PI X tg e (tI g W (iLst ue)) := by
  refine ⟨fun pins s σ H Q I h => (pi_list he).run pins s σ H Q I (tI_of h fun R ρ om al H v d ds S r hd k => ?_)⟩
  cases r with
  | @lst a vs ds' h n r' =>
    refine ⟨a, rfl, ⟨vs, SqL.of h⟩, ?_⟩
    rw [hK]
    exact k _ H .refl S (it_list S (.lst h n r') hd rfl)
  | @frz a vs ds' h r' =>
    refine ⟨a, rfl, ⟨vs, by rw [hK]; exact h.sq⟩, ?_⟩
    rw [hK]
    exact k _ H .refl S (it_list S (.frz h r') hd rfl)
  | _ => cases hd
/-! names as targets -/
theorem pg_nameU (i : Nat) {x : Str} (hN : X.N.Nodup) (hi : X.N[i]? = some x := by rfl) (hx : Loc X.env.scope x := by first | exact Or.inl rfl | exact Or.inr rfl) (hf : X.fn x = true ∨ X.env.scope.names.lookup x = some .local := by first | exact .inl rfl | exact .inr rfl) : PG X (.Name x pos) (tG g (gN i)) :=
  ⟨fun pins s σ H v u Q I r ⟨R, ρ, om, al, d, ρ', S, rv, e, k⟩ => (pg_name hN hi hx hf).run pins s σ H v u Q I r (by
    cases e
    by_cases hl : i < σ.length
    · obtain ⟨S', s'⟩ := S.setVal hl rv
      exact k _ s' S'
    · show Q (σ.set i (some v)) H
      rw [List.set_eq_of_length_le (by rw [← S.sl.len]; omega)] at k
      rw [List.set_eq_of_length_le (by omega)]
      exact k _ .refl S)⟩
end
end Dv

namespace Dv
open PySem PySem.Spec PyProof.Rows L2

/-! ### what a def promises -/
def LF (R : Addr → Prop) (al : List Addr) (om : Om) (a : Addr) : Prop := Lv al om a ∨ R a
def PostF (g : G) (R : Addr → Prop) (al : List Addr) (M : Addr → Prop) (H : Hp) (E : XK) : FR → VK → Prop
  | .ok d om', Q => ∀ v H' al', Step al M H al' (Lv al' om') H' → RO g R al' om' H' (LF R al' om') → RepV g al' (LF R al' om') H' v d → Q v H'
  | .xc x om', _ => ∀ cv dd H' al', Step al M H al' (Lv al' om') H' → RO g R al' om' H' (LF R al' om') → RepX g al' (LF R al' om') H' cv dd x → E cv dd H'
  | .no, _ => False
def PostFO (g : G) (R : Addr → Prop) (al : List Addr) (M : Addr → Prop) (H : Hp) (E : XK) : FR → VK → Prop
  | .ok (.lst ds) om', Q => ∀ p vs H' al', Step al M H al' (fun a => Lv al' om' a ∨ a = p) H' → RO g (Rp R p) al' om' H' (LF (Rp R p) al' om') → H' p = some (.lst vs) → RepVs g al' (LF (Rp R p) al' om') H' vs ds → Q (.ref p) H'
  | .ok _ _, _ => False
  | .xc x om', _ => ∀ cv dd H' al', Step al M H al' (Lv al' om') H' → RO g R al' om' H' (LF R al' om') → RepX g al' (LF R al' om') H' cv dd x → E cv dd H'
  | .no, _ => False
abbrev FN := List D → Om → FR
def spU (g : G) (n : Nat) (S : FN) : Sp := fun vs H Q E => vs.length = n ∧ ∃ R ds om al, RO g R al om H (LF R al om) ∧ RepVs g al (LF R al om) H vs ds ∧ PostF g R al (Lv al om) H E (S ds om) Q
def spO (g : G) (n : Nat) (S : FN) : Sp := fun vs H Q E => vs.length = n ∧ ∃ R ds om al, RO g R al om H (LF R al om) ∧ RepVs g al (LF R al om) H vs ds ∧ PostFO g R al (Lv al om) H E (S ds om) Q
/-- the entry of a def of n names -/
@[simp] def ent (n : Nat) (ds : List D) : Rho := ds.map (fun d => some (.val d)) ++ List.replicate (n - ds.length) none
@[simp] def RS.fr : RS → FR
  | .nx _ o => .ok .non o
  | .rt d o => .ok d o
  | .rto ds o => .ok (.lst ds) o
  | .xc x _ o => .xc x o
  | _ => .no
/-- for an own list: what hands on such a one -/
@[simp] def RS.fo : RS → FR
  | .rto ds o => .ok (.lst ds) o
  | .xc x _ o => .xc x o
  | _ => .no
def defU (n : Nat) (u : US) : FN := fun ds ω => (u (ent n ds) ω).fr
def defO (n : Nat) (u : US) : FN := fun ds ω => (u (ent n ds) ω).fo

section
variable {g : G} {R R' : Addr → Prop} {al al' : List Addr} {om om' : Om} {σ σ' : St} {ρ ρ' : Rho} {H H' : Hp} {W : WX} {X : Cx} {M M' L L' : Addr → Prop} {i : Nat} {v : V} {d : D} {p : Addr}
theorem carL (h : ∀ a, L' a → L a) : Car g al L H al L' H := ⟨fun _ _ h => h, fun a vs e n => ⟨e, fun m => n (h a m)⟩, fun _ _ h => h, fun a C dx fs e n => ⟨e, fun m => n (h a m)⟩, fun _ _ h => h⟩
theorem RepX.car {cv : Value} {dd : Option Addr} {x : DX} (c : Car g al L H al L' H) (h : RepX g al L H cv dd x) : RepX g al L' H cv dd x := by
  obtain ⟨h1, h2 | ⟨d, fvs, h2, h0, h3, h4⟩⟩ := h
  · exact ⟨h1, .inl h2⟩
  · exact ⟨h1, .inr ⟨d, fvs, h2, h0, h3, h4.car c⟩⟩
/-- the reserved ones of a callee -/
def RC (R : Addr → Prop) (σ : St) (ρ : Rho) : Addr → Prop := fun a => R a ∨ OwnA σ ρ a
theorem lf_ll {a : Addr} : LF (RC R σ ρ) al om a ↔ LL R al om σ ρ a := by
  unfold LF RC LL Mt
  constructor
  · rintro (h | h | h)
    · exact .inl (.inl h)
    · exact .inr h
    · exact .inl (.inr h)
  · rintro ((h | h) | h)
    · exact .inl h
    · exact .inr (.inr h)
    · exact .inr (.inl h)
theorem RO.lm (o : RO g R al om H L) (h : ∀ a, L' a → L a) : RO g R al om H L' := ⟨o.len, fun i c a h1 h2 => (o.cel i c a h1 h2).car (carL h) (fun _ e _ => e) (fun _ _ _ e _ => e) (fun _ e _ => e), o.inj, o.rsv⟩
theorem Rst.forCall (S : Rst g R al σ ρ om H) : RO g (RC R σ ρ) al om H (LF (RC R σ ρ) al om) :=
  let o := S.o.lm (L' := LF (RC R σ ρ) al om) fun a h => lf_ll.mp h
  ⟨o.len, o.cel, o.inj, fun a h => h.elim (S.o.rsv a) fun h => ⟨(S.ocl a h).1, by
    obtain ⟨j, ds, h1, h2⟩ := h
    obtain ⟨b, vs, e1, e2, _⟩ := S.own j ds h1
    rw [h2] at e1
    cases e1
    rw [e2]; simp⟩⟩
/-- behind a call: R2 what is reserved besides -/
theorem Rst.behind {R2 : Addr → Prop} (S : Rst g R al σ ρ om H) {M2 : Addr → Prop} (hM2 : ∀ a, Lv al' om' a → M2 a) (st : Step al (Lv al om) H al' M2 H') (hR : ∀ a, R a → R2 a) (hR2 : ∀ a, R2 a → R a ∨ (M2 a ∧ ¬ OwnA σ ρ a))
    (o : RO g (RC R2 σ ρ) al' om' H' (LF (RC R2 σ ρ) al' om')) : Rst g R2 al' σ ρ om' H' ∧ Step al (Mt al om σ ρ) H al' (fun a => Mt al' om' σ ρ a ∨ M2 a) H' := by
  have s1 : Step al (Mt al om σ ρ) H al' (fun a => Mt al' om' σ ρ a ∨ M2 a) H' := by
    refine ⟨st.ext, fun a u h n => st.keep a u h fun m => n (.inl m), fun a m => ?_⟩
    rcases m with (m | m) | m
    · exact (st.fresh a (hM2 a m)).elim (fun q => .inl (.inl q)) .inr
    · exact .inl (.inr m)
    · exact (st.fresh a m).elim (fun q => .inl (.inl q)) .inr
  have cr : Car g al (LL R al om σ ρ) H al' (LL R2 al' om' σ ρ) H' := by
    have c := s1.car (g := g) (R := R) (Mt.flat S) fun a h => (S.o.rsv a h).2
    have ll : ∀ a, LL R2 al' om' σ ρ a → (fun a => (Mt al' om' σ ρ a ∨ M2 a) ∨ R a) a := fun a m => by
      rcases m with m | m
      · exact .inl (.inl m)
      · rcases hR2 a m with q | q
        · exact .inr q
        · exact .inl (.inr q.1)
    exact ⟨c.tup, fun a vs h n => ⟨(c.lst a vs h n).1, fun m => (c.lst a vs h n).2 (ll a m)⟩, c.frz, fun a C dx fs h n => ⟨(c.obj a C dx fs h n).1, fun m => (c.obj a C dx fs h n).2 (ll a m)⟩, c.loc⟩
  have o' := o.lm (L' := LL R2 al' om' σ ρ) fun a h => lf_ll.mpr h
  refine ⟨⟨⟨o'.len, o'.cel, o'.inj, fun a h => o.rsv a (.inl h)⟩, S.sl, fun j d h => ?_, fun j ds h => ?_, S.odj, fun a h => ⟨(o.rsv a (.inr h)).1, fun z => ?_⟩⟩, s1⟩
  · obtain ⟨v, e, r⟩ := S.val j d h
    exact ⟨v, e, r.car cr⟩
  · obtain ⟨a, vs, e, e2, r⟩ := S.own j ds h
    exact ⟨a, vs, e, st.keep a _ e2 (S.ocl a ⟨j, ds, h, e⟩).1, r.car cr⟩
  · rcases hR2 a z with q | q
    · exact (S.ocl a h).2 q
    · exact q.2 h
/-- a call's end: a value -/
theorem call_end {S : FN} {ds : List D} {vs : List V} {Q : VK} (St : Rst g R al σ ρ om H) (r : RepVs g al (LL R al om σ ρ) H vs ds) (P : PostR g R W (relV g) al (Mt al om σ ρ) H σ ((S ds om).res ρ) Q) (n : Nat) (hn : vs.length = n) :
    spU g n S vs H Q (WE W σ) := by
  refine ⟨hn, RC R σ ρ, ds, om, al, St.forCall, r.car (carL fun a h => lf_ll.mp h), ?_⟩
  cases e : S ds om with
  | ok d om' =>
    rw [e] at P
    intro v H' al' s o rv
    obtain ⟨S2, s2⟩ := St.behind (R2 := R) (fun a h => h) s (fun a h => h) (fun a h => .inl h) o
    exact P v H' al' ⟨s2.ext, s2.keep, fun a m => s2.fresh a (.inl m)⟩ S2 (rv.car (carL fun a h => lf_ll.mpr h))
  | xc x om' =>
    rw [e] at P
    intro cv dd H' al' s o rv
    obtain ⟨S2, s2⟩ := St.behind (R2 := R) (fun a h => h) s (fun a h => h) (fun a h => .inl h) o
    exact P cv dd H' al' ⟨s2.ext, s2.keep, fun a m => s2.fresh a (.inl m)⟩ S2 (rv.car (carL fun a h => lf_ll.mpr h))
  | no => rw [e] at P; exact P
@[simp] def FR.own : FR → Rho → Res (List D)
  | .ok (.lst ds) o, r => .ok ds r o
  | .ok _ _, _ => .no
  | .xc x o, r => .xc x r o
  | .no, _ => .no
theorem call_endO {S : FN} {ds : List D} {vs : List V} {Q : VK} (St : Rst g R al σ ρ om H) (r : RepVs g al (LL R al om σ ρ) H vs ds) (P : PostO g R W al (Mt al om σ ρ) H σ ((S ds om).own ρ) Q) (n : Nat) (hn : vs.length = n) :
    spO g n S vs H Q (WE W σ) := by
  refine ⟨hn, RC R σ ρ, ds, om, al, St.forCall, r.car (carL fun a h => lf_ll.mp h), ?_⟩
  cases e : S ds om with
  | ok d om' =>
    rw [e] at P
    cases d with
    | lst ds =>
      intro p vs H' al' s o hp rv
      have np : ¬ RC R σ ρ p := fun z => by
        rcases s.fresh p (.inr rfl) with q | q
        · exact (St.forCall.rsv p z).1 q
        · exact (St.forCall.rsv p z).2 q
      have hrp : ∀ a, Rp (RC R σ ρ) p a ↔ RC (Rp R p) σ ρ a := fun a => by
        unfold Rp RC
        constructor
        · rintro ((h | h) | h)
          · exact .inl (.inl h)
          · exact .inr h
          · exact .inl (.inr h)
        · rintro ((h | h) | h)
          · exact .inl (.inl h)
          · exact .inr h
          · exact .inl (.inr h)
      have hlf : ∀ a, LF (RC (Rp R p) σ ρ) al' om' a → LF (Rp (RC R σ ρ) p) al' om' a := fun a h => h.imp id (hrp a).mpr
      have o2 : RO g (RC (Rp R p) σ ρ) al' om' H' (LF (RC (Rp R p) σ ρ) al' om') := by
        have q := o.lm hlf
        exact ⟨q.len, q.cel, q.inj, fun a h => q.rsv a ((hrp a).mpr h)⟩
      obtain ⟨S2, s2⟩ := St.behind (R2 := Rp R p) (M2 := fun a => Lv al' om' a ∨ a = p) (fun a h => .inl h) s (fun a h => .inl h) (fun a h => h.elim .inl fun z => .inr ⟨.inr z, fun q => np (.inr (z ▸ q))⟩) o2
      refine P p vs H' al' ⟨s2.ext, s2.keep, fun a m => s2.fresh a ?_⟩ S2 (fun z => np (.inl z)) hp (rv.car (carL fun a h => hlf a (lf_ll.mpr h)))
      rcases m with m | m
      · exact .inl m
      · exact .inr (.inr m)
    | _ => exact P.elim
  | xc x om' =>
    rw [e] at P
    intro cv dd H' al' s o rv
    obtain ⟨S2, s2⟩ := St.behind (R2 := R) (fun a h => h) s (fun a h => h) (fun a h => .inl h) o
    exact P cv dd H' al' ⟨s2.ext, s2.keep, fun a m => s2.fresh a (.inl m)⟩ S2 (rv.car (carL fun a h => lf_ll.mpr h))
  | no => rw [e] at P; exact P
/-- a def as it stands, and its promise -/
def Has (P : Program) (w : World) (K : PySem.W.Frag) (mg : Str → Option Value) (base : Heap) (x : Str) (ps : List Str) (k : Nat) (sp : Sp) : Prop :=
  ∃ (f : Addr) (fd : FuncData), mg x = some (.ref f) ∧ PySem.W.keepIn K (.ref f) = true ∧ Binds K fd ps [] ∧ FnOk P w K mg base (L2.CX P w) k f fd ps sp
variable {x : Str} {ps : List Str} {k n : Nat} {S : FN} {p0 pos : Pos} {e : Expr} {es : List Expr} {us : UA}
@[simp] def uCall (n : Nat) (S : FN) (us : UA) : UE := fun ρ ω => (us ρ ω).bind fun ds ρ ω => if ds.length = n then (S ds ω).res ρ else .no
@[simp] def uCallO (n : Nat) (S : FN) (us : UA) : UW := fun ρ ω => (us ρ ω).bind fun ds ρ ω => if ds.length = n then (S ds ω).own ρ else .no
/-- .. where nothing may be raised -/
@[simp] def FR.res0 : FR → Rho → Res D
  | .ok d o, r => .ok d r o
  | _, _ => .no
@[simp] def uCallN (n : Nat) (S : FN) (us : UA) : UE := fun ρ ω => (us ρ ω).bind fun ds ρ ω => if ds.length = n then (S ds ω).res0 ρ else .no
theorem pu_call (h : Has X.prog X.w X.K X.mg X.base x ps k (spU g ps.length S)) (hr : Room k X.A) (tk : Takes X W) (ha : PA X (e :: es) (tA g W us)) (hg : Gl X x := by rfl) (hdb : (x == ("__debug__" : Str)) = false := by decide)
    (he : starEach (e :: es) X.env = (false, eval e X.env) :: starEach es X.env := by rfl) (hpl : (backTo pos (starEach es X.env)).any (·.1) = false := by rfl) : PE X (.Call (.Name x p0) (e :: es) [] pos) (tE g W (uCall ps.length S us)) := by
  obtain ⟨f, fd, hm, hk, hb, F⟩ := h
  refine peImp (pe_callS F hr hg hm hk hb (fun σ => passAt tk σ) ha hdb he hpl) fun σ H Q ⟨R, ρ, om, al, St, P⟩ => ?_
  refine tR_bind St P fun ds ρ1 om1 vs H1 al1 s1 S1 r1 P1 => ?_
  split at P1
  · rename_i hl
    exact call_end S1 r1 P1 _ (by rw [RepVs.length r1]; exact hl)
  · exact P1.elim
theorem pu_callO (h : Has X.prog X.w X.K X.mg X.base x ps k (spO g ps.length S)) (hr : Room k X.A) (tk : Takes X W) (ha : PA X (e :: es) (tA g W us)) (hg : Gl X x := by rfl) (hdb : (x == ("__debug__" : Str)) = false := by decide)
    (he : starEach (e :: es) X.env = (false, eval e X.env) :: starEach es X.env := by rfl) (hpl : (backTo pos (starEach es X.env)).any (·.1) = false := by rfl) : PE X (.Call (.Name x p0) (e :: es) [] pos) (tOw g W (uCallO ps.length S us)) := by
  obtain ⟨f, fd, hm, hk, hb, F⟩ := h
  refine peImp (pe_callS F hr hg hm hk hb (fun σ => passAt tk σ) ha hdb he hpl) fun σ H Q ⟨R, ρ, om, al, St, P⟩ => ?_
  refine tR_bindO St P fun ds ρ1 om1 vs H1 al1 s1 S1 r1 P1 => ?_
  split at P1
  · rename_i hl
    exact call_endO S1 r1 P1 _ (by rw [RepVs.length r1]; exact hl)
  · exact P1.elim
theorem pu_callN (h : Has X.prog X.w X.K X.mg X.base x ps k (spU g n S)) (hr : Room k X.A) (ha : PA X (e :: es) (tA g W us)) (hg : Gl X x := by rfl) (hpn : ps.length = n := by rfl) (hdb : (x == ("__debug__" : Str)) = false := by decide)
    (he : starEach (e :: es) X.env = (false, eval e X.env) :: starEach es X.env := by rfl) (hpl : (backTo pos (starEach es X.env)).any (·.1) = false := by rfl) : PE X (.Call (.Name x p0) (e :: es) [] pos) (tE g W (uCallN n S us)) := by
  subst hpn
  obtain ⟨f, fd, hm, hk, hb, F⟩ := h
  refine peImp (pe_call F hr hg hm hk hb .nil passL ha hdb he hpl) fun σ H Q ⟨R, ρ, om, al, St, P⟩ => ?_
  refine tR_bind St P fun ds ρ1 om1 vs H1 al1 s1 S1 r1 P1 => ?_
  split at P1
  · rename_i hl
    have hn : vs.length = ps.length := by rw [RepVs.length r1]; exact hl
    rw [List.append_nil]
    cases e9 : S ds om1 with
    | ok d om' =>
      rw [e9] at P1
      obtain ⟨q1, R2, ds2, om2, al2, q2, q3, q4⟩ := call_end (W := fun _ _ _ _ => False) (S := S) S1 r1 (by rw [e9]; exact P1) _ hn
      exact ⟨q1, R2, ds2, om2, al2, q2, q3, q4⟩
    | xc x om' => rw [e9] at P1; exact P1.elim
    | no => rw [e9] at P1; exact P1.elim
  · exact P1.elim
/-! ### a def's body -/
theorem ent_get {ds : List D} {n j : Nat} {s : Sl} (h : (ent n ds)[j]? = some (some s)) : ∃ d, ds[j]? = some d ∧ s = .val d := by
  unfold ent at h
  by_cases hj : j < ds.length
  · rw [List.getElem?_append_left (by simpa using hj), List.getElem?_map] at h
    cases e : ds[j]? with
    | none => rw [e] at h; cases h
    | some d => rw [e] at h; cases h; exact ⟨d, rfl, rfl⟩
  · rw [List.getElem?_append_right (by simpa using hj), List.getElem?_replicate] at h
    split at h <;> cases h
theorem Rst.entry {N : List Str} {vs : List V} {ds : List D} (o : RO g R al om H (LF R al om)) (r : RepVs g al (LF R al om) H vs ds) (hn : vs.length ≤ N.length) : Rst g R al (start N vs) (ent N.length ds) om H ∧ (∀ a, Mt al om (start N vs) (ent N.length ds) a → Lv al om a) := by
  have no : ∀ a, ¬ OwnA (start N vs) (ent N.length ds) a := fun a ⟨j, dj, h1, _⟩ => by
    obtain ⟨d, _, e⟩ := ent_get h1
    cases e
  have ll : ∀ a, LL R al om (start N vs) (ent N.length ds) a → LF R al om a := fun a m => by
    rcases m with (m | m) | m
    · exact .inl m
    · exact absurd m (no a)
    · exact .inr m
  refine ⟨⟨o.lm ll, ?_, fun j d h => ?_, fun j dj h => ?_, fun i j a di dj h1 => ?_, fun a h => absurd h (no a)⟩, fun a m => m.elim id fun z => absurd z (no a)⟩
  · refine ⟨?_, fun j a c x _ h => ?_⟩
    · unfold L2.start ent
      simp only [List.length_append, List.length_map, List.length_replicate, r.length]
    · obtain ⟨d', _, q⟩ := ent_get h
      cases q
  · obtain ⟨d', e, q⟩ := ent_get h
    cases q
    obtain ⟨v, e2, rv⟩ := r.get e
    refine ⟨v, ?_, rv.car (carL ll)⟩
    unfold L2.start
    obtain ⟨hl, _⟩ := List.getElem?_eq_some_iff.mp e2
    rw [List.getElem?_append_left (by simpa using hl), List.getElem?_map, e2]
    rfl
  · obtain ⟨d', e, q⟩ := ent_get h
    cases q
  · obtain ⟨d', e, q⟩ := ent_get h1
    cases q
theorem rst_lf {a : Addr} (h : LF R al om a) : LL R al om σ ρ a := h.elim (fun h => .inl (.inl h)) .inr
variable {P : Program} {w : World} {K : PySem.W.Frag} {mg : Str → Option Value} {base : Heap} {qual : Str} {st : Stmt} {f : Addr} {fd : FuncData} {N : List Str} {u : US}
/-- THE RULE for a def -/
theorem fnU (F : Fun K x qual st f fd) (Sc : FnScope N ps (defScope st)) (hps : ps.length ≤ N.length)
    (body : ∀ (cdv : Value) (A : Around) (outer : List Env) (s : Shared) (H : Hp) (E : XK), Room k (A.deeper (envOfC qual (defScope st) s.heap.objs.size f cdv)) →
      Takes (cxOf (L2.CX P w) P w K mg base N qual (defScope st) f cdv A outer s H E) (fun cls d _ H => E cls d H) → PSs (cxOf (L2.CX P w) P w K mg base N qual (defScope st) f cdv A outer s H E) (defBody st) (tS g (fun cls d _ H => E cls d H) u)) :
    FnOk P w K mg base (L2.CX P w) (k + 1) f fd ps (spU g ps.length (defU N.length u)) := by
  refine F.okX Sc (fun vs H Q E h => h.1) (fun cdv A outer s H vs Q E hr h => ⟨_, body cdv A outer s H E hr (takes_of rfl rfl rfl rfl), ?_⟩)
  obtain ⟨hn, R, ds, om, al, o, r, p⟩ := h
  obtain ⟨S, m0⟩ := Rst.entry (N := N) o r (by omega)
  refine ⟨R, _, om, al, S, ?_⟩
  have back : ∀ {al' : List Addr} {om' : Om} {σ' : St} {ρ' : Rho} {H' : Hp}, Step al (Mt al om (start N vs) (ent N.length ds)) H al' (Mt al' om' σ' ρ') H' → Step al (Lv al om) H al' (Lv al' om') H' := fun s =>
    ⟨s.ext, fun a u h n => s.keep a u h fun z => n (m0 a z), fun a z => (s.fresh a (.inl z)).imp (m0 a) id⟩
  unfold defU at p
  cases e : u (ent N.length ds) om with
  | nx ρ' om' => rw [e] at p; exact fun σ' H' al' s S' => p _ H' al' (back s) (S'.o.lm fun a h => rst_lf h) .non
  | rt d om' => rw [e] at p; exact fun v σ' ρ' H' al' s S' r' => p _ H' al' (back s) (S'.o.lm fun a h => rst_lf h) (r'.car (carL fun a h => rst_lf h))
  | rto d om' =>
    rw [e] at p
    intro q vs σ' ρ' H' al' s S' n hq r'
    obtain ⟨S2, c, n2⟩ := S'.lessp n
    refine p _ H' al' ⟨s.ext, fun a u h z => s.keep a u h fun y => z (m0 a y), fun a z => (s.fresh a (.inl (.inl z))).imp (m0 a) id⟩ (S2.o.lm fun a h => rst_lf h) (RepV.car (carL fun a h => rst_lf h) (RepV.lst hq n2 (r'.car c)))
  | xc y ρ' om' => rw [e] at p; exact fun cv dd σ' H' al' s S' r' => p cv dd H' al' (back s) (S'.o.lm fun a h => rst_lf h) (r'.car (carL fun a h => rst_lf h))
  | bk ρ' om' => rw [e] at p; exact p.elim
  | ct ρ' om' => rw [e] at p; exact p.elim
  | no => rw [e] at p; exact p.elim
/-- .. for a def that hands on an own list -/
theorem fnO (F : Fun K x qual st f fd) (Sc : FnScope N ps (defScope st)) (hps : ps.length ≤ N.length)
    (body : ∀ (cdv : Value) (A : Around) (outer : List Env) (s : Shared) (H : Hp) (E : XK), Room k (A.deeper (envOfC qual (defScope st) s.heap.objs.size f cdv)) →
      Takes (cxOf (L2.CX P w) P w K mg base N qual (defScope st) f cdv A outer s H E) (fun cls d _ H => E cls d H) → PSs (cxOf (L2.CX P w) P w K mg base N qual (defScope st) f cdv A outer s H E) (defBody st) (tS g (fun cls d _ H => E cls d H) u)) :
    FnOk P w K mg base (L2.CX P w) (k + 1) f fd ps (spO g ps.length (defO N.length u)) := by
  refine F.okX Sc (fun vs H Q E h => h.1) (fun cdv A outer s H vs Q E hr h => ⟨_, body cdv A outer s H E hr (takes_of rfl rfl rfl rfl), ?_⟩)
  obtain ⟨hn, R, ds, om, al, o, r, p⟩ := h
  obtain ⟨S, m0⟩ := Rst.entry (N := N) o r (by omega)
  refine ⟨R, _, om, al, S, ?_⟩
  unfold defO at p
  cases e : u (ent N.length ds) om with
  | rto d om' =>
    rw [e] at p
    intro q vs σ' ρ' H' al' s S' n hq r'
    refine p q vs H' al' ⟨s.ext, fun a u h z => s.keep a u h fun y => z (m0 a y), fun a z => (s.fresh a (z.imp .inl id)).imp (m0 a) id⟩ (S'.o.lm fun a h => rst_lf h) hq (r'.car (carL fun a h => rst_lf h))
  | xc y ρ' om' =>
    rw [e] at p
    exact fun cv dd σ' H' al' s S' r' => p cv dd H' al' ⟨s.ext, fun a u h n => s.keep a u h fun z => n (m0 a z), fun a z => (s.fresh a (.inl z)).imp (m0 a) id⟩ (S'.o.lm fun a h => rst_lf h) (r'.car (carL fun a h => rst_lf h))
  | nx ρ' om' => rw [e] at p; exact p.elim
  | rt d om' => rw [e] at p; exact p.elim
  | bk ρ' om' => rw [e] at p; exact p.elim
  | ct ρ' om' => rw [e] at p; exact p.elim
  | no => rw [e] at p; exact p.elim
/-- an own list is a value, too -/
theorem spO_U {S : FN} {n : Nat} : ∀ vs H Q E, spU g n S vs H Q E → (∀ ds om x om', S ds om = .ok x om' → ∃ l, x = .lst l) → spO g n S vs H Q E := fun vs H Q E ⟨hn, R, ds, om, al, o, r, p⟩ hS => by
  refine ⟨hn, R, ds, om, al, o, r, ?_⟩
  cases e : S ds om with
  | ok d om' =>
    obtain ⟨l, rfl⟩ := hS _ _ _ _ e
    rw [e] at p
    intro q vs H' al' s o' hq r'
    refine p _ H' al' ⟨s.ext, s.keep, fun a z => s.fresh a (.inl z)⟩ ?_ ?_
    · have q := o'.lm (L' := LF R al' om') fun a h => h.imp id .inl
      exact ⟨q.len, q.cel, q.inj, fun a h => q.rsv a (.inl h)⟩
    · refine .lst hq (fun z => ?_) (r'.car (carL fun a h => h.imp id .inl))
      rcases z with z | z
      · exact (o'.rsv q (.inr rfl)).1 z
      · rcases s.fresh q (.inr rfl) with y | y
        · exact (o.rsv q z).1 y
        · exact (o.rsv q z).2 y
  | xc x om' => rw [e] at p; exact p
  | no => rw [e] at p; exact p
end
end Dv

namespace Dv
open PySem PySem.Spec PyProof.Rows L2

/-! ### built-in functions on data -/
def fAbs : List D → Option D
  | [.int i] => some (.int (if i < 0 then -i else i))
  | _ => none
def fLen : List D → Option D
  | [.lst xs] => some (.int xs.length)
  | [.frz xs] => some (.int xs.length)
  | [.tup xs] => some (.int xs.length)
  | [.str z] => if z.length ≤ big then some (.int z.length) else none
  | _ => none
def fInt : List D → Option D
  | [.int i] => some (.int i)
  | [.bl b] => some (.int (if b then 1 else 0))
  | _ => none
def fIntS : List D → Option D
  | [.str z] => if z.length ≤ 640 then (match PySem.intText? z with | some n => some (.int n) | none => none) else none
  | _ => none
def fStr : List D → Option D
  | [.int i] => if i.natAbs.log2 < 1920 then some (.str (toString i)) else none
  | _ => none
def fList : List D → Option (List D)
  | [.lst xs] => some xs
  | [.frz xs] => some xs
  | [.tup xs] => some xs
  | _ => none
def asInts : List D → Option (List Int)
  | [] => some []
  | .int i :: r => (asInts r).map (i :: ·)
  | _ => none
def asStrs : List D → Option (List Str)
  | [] => some []
  | .str i :: r => (asStrs r).map (i :: ·)
  | _ => none
def fSum : List D → Option D
  | [.lst xs] => (asInts xs).map fun ns => .int ns.sum
  | _ => none
def fMax2 : List D → Option D
  | [.int i, .int j] => some (.int (if j > i then j else i))
  | _ => none
def fMin2 : List D → Option D
  | [.int i, .int j] => some (.int (if j < i then j else i))
  | _ => none
def tyName : D → Option String
  | .non => some "NoneType"
  | .bl _ => some "bool"
  | .int _ => some "int"
  | .str _ => some "str"
  | .tup _ => some "tuple"
  | .lst _ => some "list"
  | _ => none
def dIsi (T : String) (d : D) : Option D := match tyName d with
  | some t => (L2.kitB t T).map .bl
  | none => none
@[simp] def uFnO (f : List D → Option (List D)) (u : UA) : UW := fun ρ ω => (u ρ ω).bind fun xs ρ ω => liftO (f xs) ρ ω
/-- a built-in of one argument, looking at the own list of a slot -/
@[simp] def uFnV (f : List D → Option D) (i : Nat) : UE := fun ρ ω => match ρ[i]? with
  | some (some (.own ds)) => liftO (f [.lst ds]) ρ ω
  | _ => .no
/-- an operation whose left side is the own list of a slot -/
@[simp] def uBinV (f : D → D → Option D) (i : Nat) (ub : UE) : UE := fun ρ ω => match ρ[i]? with
  | some (some (.own _)) => (ub ρ ω).bind fun y ρ ω => (match ρ[i]? with
    | some (some (.own ds)) => liftO (f (.lst ds) y) ρ ω
    | _ => .no)
  | _ => .no
/-- .. its right side -/
@[simp] def uBinW (f : D → D → Option D) (ua : UE) (i : Nat) : UE := fun ρ ω => (ua ρ ω).bind fun x ρ ω => match ρ[i]? with
  | some (some (.own ds)) => liftO (f x (.lst ds)) ρ ω
  | _ => .no
/-! methods that change a list -/
abbrev MF := List D → List D → Option (D × List D)
def mAppend : MF := fun xs ds => match ds with
  | [d] => if xs.length < big then some (.non, xs ++ [d]) else none
  | _ => none
def mPop : MF := fun xs ds => match ds with
  | [] => match xs.getLast? with
    | some d => some (d, xs.dropLast)
    | none => none
  | _ => none
def mPopAt : MF := fun xs ds => match ds with
  | [.int i] => if i = 0 then (match xs with | d :: r => some (d, r) | [] => none) else none
  | _ => none
def mClear : MF := fun xs ds => match ds with
  | [] => some (.non, [])
  | _ => none
def mExtend : MF := fun xs ds => match ds with
  | [.lst es] => if xs.length + es.length ≤ big then some (.non, xs ++ es) else none
  | _ => none
@[simp] def uMeO (i : Nat) (f : MF) (us : UA) : UE := fun ρ ω => match ρ[i]? with
  | some (some (.own _)) => (us ρ ω).bind fun ds ρ ω => (match ρ[i]? with
    | some (some (.own xs)) => (match f xs ds with
      | some (d, ys) => .ok d (ρ.set i (some (.own ys))) ω
      | none => .no)
    | _ => .no)
  | _ => .no
@[simp] def uMeL (ua : UE) (f : MF) (us : UA) : UE := fun ρ ω => (ua ρ ω).bind fun x ρ ω => match x with
  | .loc k => (match ω[k]? with
    | some (.lst _) => (us ρ ω).bind fun ds ρ ω => (match ω[k]? with
      | some (.lst xs) => (match f xs ds with
        | some (d, ys) => .ok d ρ (ω.set k (.lst ys))
        | none => .no)
      | _ => .no)
    | _ => .no)
  | _ => .no

section
variable {g : G} {R : Addr → Prop} {al : List Addr} {om : Om} {σ : St} {ρ : Rho} {H H' : Hp} {W : WX} {X : Cx} {L : Addr → Prop} {v : V} {d : D}
theorem RepWs.one {vs : List V} {d : D} (h : RepWs g al L H vs [d]) : ∃ v, vs = [v] ∧ RepW g al L H v d := by
  cases h with
  | cons h r => cases r; exact ⟨_, rfl, h⟩
theorem RepWs.two {vs : List V} {d e : D} (h : RepWs g al L H vs [d, e]) : ∃ v w, vs = [v, w] ∧ RepW g al L H v d ∧ RepW g al L H w e := by
  cases h with
  | cons h r => cases r with
    | cons h2 r => cases r; exact ⟨_, _, rfl, h, h2⟩
theorem asInts_eq : ∀ {xs : List D} {ns : List Int}, asInts xs = some ns → xs = ns.map D.int
  | [], ns, h => by cases h; rfl
  | .int i :: r, ns, h => by
    unfold asInts at h
    cases e : asInts r with
    | none => rw [e] at h; cases h
    | some l => rw [e] at h; cases h; rw [asInts_eq e]; rfl
  | .non :: _, _, h => by cases h
  | .bl _ :: _, _, h => by cases h
  | .str _ :: _, _, h => by cases h
  | .tup _ :: _, _, h => by cases h
  | .lst _ :: _, _, h => by cases h
  | .obj _ _ :: _, _, h => by cases h
  | .loc _ :: _, _, h => by cases h
  | .frz _ :: _, _, h => by cases h
theorem asStrs_eq : ∀ {xs : List D} {ns : List Str}, asStrs xs = some ns → xs = ns.map D.str
  | [], ns, h => by cases h; rfl
  | .str i :: r, ns, h => by
    unfold asStrs at h
    cases e : asStrs r with
    | none => rw [e] at h; cases h
    | some l => rw [e] at h; cases h; rw [asStrs_eq e]; rfl
  | .non :: _, _, h => by cases h
  | .bl _ :: _, _, h => by cases h
  | .int _ :: _, _, h => by cases h
  | .tup _ :: _, _, h => by cases h
  | .lst _ :: _, _, h => by cases h
  | .obj _ _ :: _, _, h => by cases h
  | .loc _ :: _, _, h => by cases h
  | .frz _ :: _, _, h => by cases h
theorem s_abs : FnS g (fun xs H Q => ∃ i, xs = [.int i] ∧ Q (.int (if i < 0 then -i else i)) H) fAbs := by
  intro R W al om σ ρ H Q vs xs S r P
  unfold fAbs at P
  split at P
  · obtain ⟨v, rfl, h⟩ := r.one
    cases h.int
    exact ⟨_, rfl, okSame S P .int⟩
  · exact P.elim
def rLenU (K : PySem.W.Frag) : List V → Hp → VK → Prop := fun xs H Q => (∃ p ys, xs = [.ref p] ∧ (SqL K H p ys ∨ SqT K H p ys) ∧ Q (.int ys.length) H) ∨ ∃ z, xs = [.str z] ∧ z.length ≤ sizeLine ∧ Q (.int z.length) H
theorem call_lenU : CallR X (.builtin "len") (rLenU X.K) := call_len_seq.or call_len_str
theorem s_len : FnS g (rLenU g.K) fLen := by
  intro R W al om σ ρ H Q vs xs S r P
  unfold fLen at P
  split at P
  · obtain ⟨v, rfl, h⟩ := r.one
    obtain ⟨a, vs, rfl, h1, h2⟩ := h.lst
    exact .inl ⟨a, vs, rfl, .inl (SqL.of h1), by rw [h2.length]; exact okSame S P .int⟩
  · obtain ⟨v, rfl, h⟩ := r.one
    obtain ⟨a, vs, rfl, h1, h2⟩ := h.frz
    exact .inl ⟨a, vs, rfl, .inl h1.sq, by rw [h2.length]; exact okSame S P .int⟩
  · obtain ⟨v, rfl, h⟩ := r.one
    obtain ⟨a, vs, rfl, h1, h2⟩ := h.tup
    exact .inl ⟨a, vs, rfl, .inr h1, by rw [h2.length]; exact okSame S P .int⟩
  · obtain ⟨v, rfl, h⟩ := r.one
    cases h.str
    split at P
    · rename_i hz
      exact .inr ⟨_, rfl, big_line hz, okSame S P .int⟩
    · exact P.elim
  · exact P.elim
theorem s_int : FnS g (fun xs H Q => (∃ i, xs = [.int i] ∧ Q (.int i) H) ∨ ∃ k, xs = [.bl k] ∧ Q (.int (if k then 1 else 0)) H) fInt := by
  intro R W al om σ ρ H Q vs xs S r P
  unfold fInt at P
  split at P
  · obtain ⟨v, rfl, h⟩ := r.one
    cases h.int
    exact .inl ⟨_, rfl, okSame S P .int⟩
  · obtain ⟨v, rfl, h⟩ := r.one
    cases h.bl
    exact .inr ⟨_, rfl, okSame S P .int⟩
  · exact P.elim
theorem s_intS : FnS g (fun xs H Q => ∃ a n, xs = [.str a] ∧ PySem.intText? a = some n ∧ a.length ≤ 640 ∧ Q (.int n) H) fIntS := by
  intro R W al om σ ρ H Q vs xs S r P
  unfold fIntS at P
  split at P
  · obtain ⟨v, rfl, h⟩ := r.one
    cases h.str
    split at P
    · rename_i hz
      split at P
      · rename_i n hn
        exact ⟨_, n, rfl, hn, hz, okSame S P .int⟩
      · exact P.elim
    · exact P.elim
  · exact P.elim
theorem s_str : FnS g (fun xs H Q => ∃ i, xs = [.int i] ∧ i.natAbs.log2 < 1920 ∧ Q (.str (toString i)) H) fStr := by
  intro R W al om σ ρ H Q vs xs S r P
  unfold fStr at P
  split at P
  · obtain ⟨v, rfl, h⟩ := r.one
    cases h.int
    split at P
    · rename_i hz
      exact ⟨_, rfl, hz, okSame S P .str⟩
    · exact P.elim
  · exact P.elim
theorem s_sum : FnS g (rSum g.K) fSum := by
  intro R W al om σ ρ H Q vs xs S r P
  unfold fSum at P
  split at P
  · obtain ⟨v, rfl, h⟩ := r.one
    obtain ⟨a, vs, rfl, h1, h2⟩ := h.lst
    rename_i ds
    cases e : asInts ds with
    | none => rw [e] at P; exact P.elim
    | some ns =>
      rw [e] at P
      rw [asInts_eq e] at h2
      rw [h2.ints] at h1
      exact ⟨a, ns, rfl, SqL.of h1, okSame S P .int⟩
  · exact P.elim
theorem s_max2 : FnS g (fun xs H Q => ∃ i j, xs = [.int i, .int j] ∧ Q (.int (if j > i then j else i)) H) fMax2 := by
  intro R W al om σ ρ H Q vs xs S r P
  unfold fMax2 at P
  split at P
  · obtain ⟨v, w, rfl, h, h2⟩ := r.two
    cases h.int; cases h2.int
    exact ⟨_, _, rfl, okSame S P .int⟩
  · exact P.elim
theorem s_min2 : FnS g (fun xs H Q => ∃ i j, xs = [.int i, .int j] ∧ Q (.int (if j < i then j else i)) H) fMin2 := by
  intro R W al om σ ρ H Q vs xs S r P
  unfold fMin2 at P
  split at P
  · obtain ⟨v, w, rfl, h, h2⟩ := r.two
    cases h.int; cases h2.int
    exact ⟨_, _, rfl, okSame S P .int⟩
  · exact P.elim
theorem tyX_of {t : String} (h : RepW g al L H v d) (e : tyName d = some t) : TyX g.K H v (.type t) := by
  cases d with
  | non => cases h.non; cases e; exact .base .non
  | bl b => cases h.bl; cases e; exact .base (.bl b)
  | int b => cases h.int; cases e; exact .base (.int b)
  | str b => cases h.str; cases e; exact .base (.str b)
  | lst b => obtain ⟨a, vs, rfl, h1, h2⟩ := h.lst; cases e; exact .base (.lst h1)
  | tup b =>
    obtain ⟨a, vs, rfl, h1, h2⟩ := h.tup
    cases e
    rcases h1 with (h1 | ⟨o, h1⟩) | ⟨o, its, n, h1, h2, _⟩
    · exact .base (.tup h1)
    · exact .fTuple h1
    · exact .kTuple h1 h2
  | _ => cases e
theorem dIsi_some {T : String} {z : D} (h : dIsi T d = some z) : ∃ t k, tyName d = some t ∧ L2.kitB t T = some k ∧ z = .bl k := by
  unfold dIsi at h
  split at h
  · rename_i t e
    cases e2 : L2.kitB t T with
    | none => rw [e2] at h; cases h
    | some k => rw [e2] at h; cases h; exact ⟨t, k, e, e2, rfl⟩
  · cases h
variable {a b e : Expr} {ua ub ue : UE} {es : List Expr} {us : UA} {p0 pos p1 : Pos} {x : Str} {f : List D → Option D} {r : List V → Hp → VK → Prop} {id : String}
theorem pu_isi (T : String) {n : Str} (hm : X.mg "isinstance" = none) (hn : X.mg n = none) (hv : bootBuiltins n = some (.type T)) (hK : X.K = g.K) (ha : PE X a (tE g W ua)) (hg : Gl X "isinstance" := by rfl) (hgn : Gl X n := by rfl) (hnn : n ≠ "__name__" := by decide) (hdn : (n == ("__debug__" : Str)) = false := by decide)
    (he : starEach (a :: [.Name n p1]) X.env = (false, eval a X.env) :: starEach [.Name n p1] X.env := by rfl) (he2 : starEach [.Name n p1] X.env = (false, eval (.Name n p1) X.env) :: starEach [] X.env := by rfl) (hpl : (backTo pos (starEach [.Name n p1] X.env)).any (·.1) = false := by rfl) :
    PE X (.Call (.Name "isinstance" p0) [a, .Name n p1] [] pos) (tE g W (uUn (dIsi T) ua)) :=
  peImp (pe_callB call_isi hg hm boot_isinstance (pa_cons ha (pa_cons (pe_bltn (v := .ty T) hgn hn hv rfl hnn hdn) pa_nil he2) he) (by decide) (by decide) he hpl) fun σ H Q ⟨R, ρ, om, al, S, P⟩ =>
    tR_bind S P fun d ρ1 om1 v H1 al1 s1 S1 r1 P1 => by
      cases e : dIsi T d with
      | none => rw [e] at P1; exact P1.elim
      | some z =>
        rw [e] at P1
        obtain ⟨t, k, e1, e2, rfl⟩ := dIsi_some e
        exact (⟨v, .ty T, .type t, .type T, k, rfl, .ty T, by rw [hK]; exact tyX_of (.v r1) e1, kit_ty e2, okSame S1 P1 .bl⟩ : rIsi X.K [v, .ty T] H1 Q)
theorem tCB_of (hf : FnS g r f) {σ : St} {H : Hp} {Q : VK} (h : tE g W (uFn f us) σ H Q) : tCB r (tA g W us) σ H Q := by
  obtain ⟨R, ρ, om, al, S, P⟩ := h
  exact tR_bind S P fun ds ρ1 om1 vs H1 al1 s1 S1 r1 P1 => hf R W al1 om1 σ ρ1 H1 Q vs ds S1 (RepVs.ws r1) P1
theorem pu_fn (hc : CallR X (.builtin id) r) (hf : FnS g r f) (hm : X.mg x = none) (hv : bootBuiltins x = some (.builtin id)) (ha : PA X (e :: es) (tA g W us)) (hg : Gl X x := by rfl) (hn : x ≠ "__name__" := by decide) (hdb : (x == ("__debug__" : Str)) = false := by decide)
    (he : starEach (e :: es) X.env = (false, eval e X.env) :: starEach es X.env := by rfl) (hpl : (backTo pos (starEach es X.env)).any (·.1) = false := by rfl) : PE X (.Call (.Name x p0) (e :: es) [] pos) (tE g W (uFn f us)) :=
  peImp (pe_callB hc hg hm hv ha hn hdb he hpl) fun σ H Q h => tCB_of hf h
theorem pu_fnT (hc : CallR X (.type id) r) (hf : FnS g r f) (hm : X.mg x = none) (hv : bootBuiltins x = some (.type id)) (ha : PA X (e :: es) (tA g W us)) (hg : Gl X x := by rfl) (hn : x ≠ "__name__" := by decide) (hdb : (x == ("__debug__" : Str)) = false := by decide)
    (he : starEach (e :: es) X.env = (false, eval e X.env) :: starEach es X.env := by rfl) (hpl : (backTo pos (starEach es X.env)).any (·.1) = false := by rfl) : PE X (.Call (.Name x p0) (e :: es) [] pos) (tE g W (uFn f us)) :=
  peImp (pe_callTy hc hg hm hv ha hn hdb he hpl) fun σ H Q h => tCB_of hf h
/-- list(x), an own list -/
theorem pu_list (hK : X.K = g.K) (hm : X.mg "list" = none) (ha : PA X [e] (tA g W us)) (hg : Gl X "list" := by rfl) (he : starEach [e] X.env = (false, eval e X.env) :: starEach [] X.env := by rfl) (hpl : (backTo pos (starEach [] X.env)).any (·.1) = false := by rfl) :
    PE X (.Call (.Name "list" p0) [e] [] pos) (tOw g W (uFnO fList us)) :=
  peImp (pe_callTy call_list_of hg hm (by decide +kernel) ha (by decide) (by decide) he hpl) fun σ H Q ⟨R, ρ, om, al, S, P⟩ =>
    tR_bindO S P fun ds ρ1 om1 vs H1 al1 s1 S1 r1 P1 => by
      have r2 := RepVs.ws r1
      unfold fList at P1
      split at P1
      · obtain ⟨v, rfl, h⟩ := r2.one
        obtain ⟨a, vs, rfl, h1, h2⟩ := h.lst
        exact ⟨a, vs, rfl, .inl (SqL.of h1), fun l hl => okOwn S1 P1 hl h2⟩
      · obtain ⟨v, rfl, h⟩ := r2.one
        obtain ⟨a, vs, rfl, h1, h2⟩ := h.frz
        exact ⟨a, vs, rfl, .inl (by rw [hK]; exact h1.sq), fun l hl => okOwn S1 P1 hl h2⟩
      · obtain ⟨v, rfl, h⟩ := r2.one
        obtain ⟨a, vs, rfl, h1, h2⟩ := h.tup
        exact ⟨a, vs, rfl, .inr (by rw [hK]; exact h1), fun l hl => okOwn S1 P1 hl h2⟩
      · exact P1.elim
/-! ### looking at an own list -/
theorem own_view (S : Rst g R al σ ρ om H) {i : Nat} {ds : List D} (e : ρ[i]? = some (some (.own ds))) : ∃ a, σ[i]? = some (some (.ref a)) ∧ RepW g al (LL R al om σ ρ) H (.ref a) (.lst ds) := by
  obtain ⟨a, vs, h1, h2, h3⟩ := S.own i ds e
  exact ⟨a, h1, .own h2 h3⟩
theorem pe_slot (i : Nat) {n : Str} (hN : X.N[i]? = some n := by rfl) (hv : Vis X.env.scope n := by first | exact Or.inl rfl | exact Or.inr (Or.inl rfl) | exact Or.inr (Or.inr rfl)) (hd : (n == ("__debug__" : Str)) = false := by decide)
    (hcd : (n == ("__classdict__" : Str)) = false := by decide) : PE X (.Name n p1) (tVar i) := pe_var hN hv hd hcd
theorem tOpV {i : Nat} {r : R2} {f : D → D → Option D} (hf : OpS g r f) {σ : St} {H : Hp} {Q : VK} (h : tE g W (uBinV f i ub) σ H Q) : tOp r (tVar i) (tE g W ub) σ H Q := by
  obtain ⟨R, ρ, om, al, S, P⟩ := h
  simp only [uBinV] at P
  split at P
  · rename_i xs e
    obtain ⟨a, h1, _⟩ := own_view S e
    refine ⟨_, h1, ?_⟩
    refine tR_bind S P fun y ρ1 om1 w H1 al1 s1 S1 r1 P1 => ?_
    split at P1
    · rename_i ds e1
      obtain ⟨a1, h3, h4⟩ := own_view S1 e1
      rw [h1] at h3
      cases h3
      exact hf R W al1 om1 σ ρ1 H1 Q _ w _ y S1 h4 (.v r1) P1
    · exact P1.elim
  · exact P.elim
theorem tOpW {i : Nat} {r : R2} {f : D → D → Option D} (hf : OpS g r f) {σ : St} {H : Hp} {Q : VK} (h : tE g W (uBinW f ua i) σ H Q) : tOp r (tE g W ua) (tVar i) σ H Q := by
  obtain ⟨R, ρ, om, al, S, P⟩ := h
  refine tR_bind S P fun y ρ1 om1 w H1 al1 s1 S1 r1 P1 => ?_
  split at P1
  · rename_i ds e1
    obtain ⟨a1, h3, h4⟩ := own_view S1 e1
    exact ⟨_, h3, hf R W al1 om1 σ ρ1 H1 Q w _ y _ S1 (.v r1) h4 P1⟩
  · exact P1.elim
theorem pu_binV (i : Nat) {op : Operator} {r : R2} {f : D → D → Option D} (ho : OpR X (binaryOp op) r) (hf : OpS g r f) (ha : PE X a (tVar i)) (hb : PE X b (tE g W ub)) : PE X (.BinOp a op b pos) (tE g W (uBinV f i ub)) := peImp (pe_op ho ha hb) fun σ H Q h => tOpV hf h
theorem pu_binW (i : Nat) {op : Operator} {r : R2} {f : D → D → Option D} (ho : OpR X (binaryOp op) r) (hf : OpS g r f) (ha : PE X a (tE g W ua)) (hb : PE X b (tVar i)) : PE X (.BinOp a op b pos) (tE g W (uBinW f ua i)) := peImp (pe_op ho ha hb) fun σ H Q h => tOpW hf h
theorem pu_cmpV (i : Nat) {op : CmpOp} {r : R2} {f : D → D → Option D} (ho : OpR X (compareOp op) r) (hf : OpS g r f) (ha : PE X a (tVar i)) (hb : PE X b (tE g W ub)) (hm : behindInMarks op b = false) : PE X (.Compare a [op] [b] pos) (tE g W (uBinV f i ub)) := peImp (pe_cmpR ho ha hb hm) fun σ H Q h => tOpV hf h
theorem pt_cmpV (i : Nat) {op : CmpOp} {r : R2} {f : D → D → Option D} (ho : OpR X (compareOp op) r) (hf : OpS g r f) (ha : PE X a (tVar i)) (hb : PE X b (tE g W ub)) (hm : behindInMarks op b = false) : PT X (.Compare a [op] [b] pos) (tT g W (uB (uBinV f i ub))) :=
  ptImp (pt_cmpR ho ha hb hm) fun σ H Q h => by
    obtain ⟨R, ρ, om, al, S, P⟩ := tB_of h
    exact tOpV hf ⟨R, ρ, om, al, S, P⟩
theorem pu_ixV (i : Nat) {r : R2} {f : D → D → Option D} (ho : IxR X r) (hf : OpS g r f) (ha : PE X a (tVar i)) (hb : PE X b (tE g W ub)) (hs : PlainIx b := by exact fun _ _ => rfl) : PE X (.Subscript a b pos) (tE g W (uBinV f i ub)) := peImp (pe_ix ho ha hb hs) fun σ H Q h => tOpV hf h
theorem tCBV {i : Nat} (hf : FnS g r f) {σ : St} {H : Hp} {Q : VK} (h : tE g W (uFnV f i) σ H Q) : tCB r (tCons (tVar i) tNil) σ H Q := by
  obtain ⟨R, ρ, om, al, S, P⟩ := h
  simp only [uFnV] at P
  split at P
  · rename_i xs e
    obtain ⟨a, h1, h2⟩ := own_view S e
    exact ⟨_, h1, hf R W al om σ ρ H Q _ _ S (.cons h2 .nil) P⟩
  · exact P.elim
theorem pu_fnV (i : Nat) (hc : CallR X (.builtin id) r) (hf : FnS g r f) (hm : X.mg x = none) (hv : bootBuiltins x = some (.builtin id)) (ha : PE X e (tVar i)) (hg : Gl X x := by rfl) (hn : x ≠ "__name__" := by decide) (hdb : (x == ("__debug__" : Str)) = false := by decide)
    (he : starEach [e] X.env = (false, eval e X.env) :: starEach [] X.env := by rfl) (hpl : (backTo pos (starEach [] X.env)).any (·.1) = false := by rfl) : PE X (.Call (.Name x p0) [e] [] pos) (tE g W (uFnV f i)) :=
  peImp (pe_callB hc hg hm hv (pa_cons ha pa_nil he) hn hdb he hpl) fun σ H Q h => tCBV hf h
/-! ### methods that change a list -/
def MuS (g : G) (r : V → List V → Hp → VK → Prop) (f : MF) : Prop := ∀ (al : List Addr) (L : Addr → Prop) (H : Hp) (a : Addr) (vs : List V) (xs : List D) (ws : List V) (ds : List D) (d : D) (ys : List D) (Q : VK), H a = some (.lst vs) → RepVs g al L H vs xs → RepVs g al L H ws ds → f xs ds = some (d, ys) →
  (∀ v vs', RepV g al L H v d → RepVs g al L H vs' ys → Q v (upd H a (.lst vs'))) → r (.ref a) ws H Q
theorem u_append : MuS g rAppend mAppend := by
  intro al L H a vs xs ws ds d ys Q ha rv rw_ e k
  unfold mAppend at e
  split at e
  · split at e
    · rename_i y hz
      cases e
      cases rw_ with
      | cons h r =>
        cases r
        exact ⟨a, vs, _, rfl, rfl, ha, by rw [rv.length]; exact big_lt hz, k _ _ .non (rv.append (.cons h .nil))⟩
    · cases e
  · cases e
theorem u_pop : MuS g rPop mPop := by
  intro al L H a vs xs ws ds d ys Q ha rv rw_ e k
  unfold mPop at e
  split at e
  · split at e
    · rename_i y hy
      cases e
      cases rw_
      rw [List.getLast?_eq_getElem?] at hy
      obtain ⟨v, h1, h2⟩ := rv.get hy
      exact ⟨a, vs, v, rfl, rfl, ha, by rw [rv.length]; exact h1, k _ _ h2 rv.dropLast⟩
    · cases e
  · cases e
theorem u_popAt : MuS g rPopAt mPopAt := by
  intro al L H a vs xs ws ds d ys Q ha rv rw_ e k
  unfold mPopAt at e
  split at e
  · rename_i i
    split at e
    · rename_i hi
      subst hi
      split at e
      · cases e
        cases rw_ with
        | cons h r =>
          cases r
          cases h
          cases rv with
          | cons h2 r2 =>
            exact ⟨a, _, 0, 0, _, rfl, rfl, ha, by decide, by decide, by simp [seqIndex?], rfl, k _ _ h2 r2⟩
      · cases e
    · cases e
  · cases e
theorem u_clear : MuS g rClear mClear := by
  intro al L H a vs xs ws ds d ys Q ha rv rw_ e k
  unfold mClear at e
  split at e
  · cases e
    cases rw_
    exact ⟨a, vs, rfl, rfl, ha, k _ _ .non .nil⟩
  · cases e
theorem u_extend : MuS g rExtend mExtend := by
  intro al L H a vs xs ws ds d ys Q ha rv rw_ e k
  unfold mExtend at e
  split at e
  · split at e
    · rename_i es hz
      cases e
      cases rw_ with
      | cons h r =>
        cases r
        cases h with
        | lst h1 h2 h3 => exact ⟨a, _, vs, _, rfl, rfl, ha, h1, by rw [rv.length, h3.length]; exact big_line hz, k _ _ .non (rv.append h3)⟩
    · cases e
  · cases e
variable {m : V → List V → Hp → VK → Prop} {mf : MF} {name : Str} {apos cpos : Pos} {o : Expr} {t : TA}
/-- o.m(..), o the name of a slot with an own list -/
theorem tBM_own {i : Nat} (hmf : MuS g m mf) {K : PySem.W.Frag} {σ : St} {H : Hp} {Q : VK} (h : tE g W (uMeO i mf us) σ H Q) : tBM K "list" m (tVar i) (tA g W us) σ H Q := by
  obtain ⟨R, ρ, om, al, S, P⟩ := h
  simp only [uMeO] at P
  split at P
  · rename_i xs0 e
    obtain ⟨a, vs, h1, h2, h3⟩ := S.own i _ e
    refine ⟨_, h1, .inl ⟨rfl, vs, SqL.of h2⟩, ?_⟩
    refine tR_bind S P fun ds ρ1 om1 ws H1 al1 s1 S1 r1 P1 => ?_
    split at P1
    · rename_i xs e1
      split at P1
      · rename_i d ys e2
        obtain ⟨b, vs1, q1, q2, q3⟩ := S1.own i _ e1
        rw [h1] at q1
        cases q1
        refine hmf al1 _ H1 a vs1 xs ws ds d ys Q q2 q3 r1 e2 fun v vs' rv rvs => ?_
        obtain ⟨S2, s2⟩ := S1.setOwn e1 h1 q2 rvs
        exact P1 v _ al1 s2 S2 (s2.rep S1 rv)
      · exact P1.elim
    · exact P1.elim
  · exact P.elim
theorem pu_meO (i : Nat) {nid : String} (slot : Slot "list" name nid) (hty : typeOf (.builtin nid) = pure (.type "method_descriptor")) (hm : MtM X nid m) (hmf : MuS g m mf) (ho : PE X o (tVar i)) (ha : PA X (e :: es) (tA g W us))
    (hbase : attributeBase o name X.env (eval o X.env) = eval o X.env := by rfl)
    (hfew : ((backTo cpos (starEach (e :: es) X.env)).all (fun x => !x.1) && (backToKw cpos (keywordEach [] X.env)).all (fun x => x.1.isSome)
      && decide ((e :: es).length + ([] : List Keyword).length + (if ([] : List Keyword).isEmpty then 0 else 1) < 30)) = true := by rfl)
    (hline : (apos.endLine == cpos.line) = true := by rfl) (hs : starEach (e :: es) X.env = (false, eval e X.env) :: starEach es X.env := by rfl) (hplain : (backTo cpos (starEach es X.env)).any (·.1) = false := by rfl) :
    PE X (.Call (.Attribute o name apos) (e :: es) [] cpos) (tE g W (uMeO i mf us)) := peImp (pe_bm PySem.F.plainAttrs_list slot hty hm ho ha hbase hfew hline hs hplain) fun σ H Q h => tBM_own hmf h
theorem pu_meO0 (i : Nat) {nid : String} (slot : Slot "list" name nid) (hty : typeOf (.builtin nid) = pure (.type "method_descriptor")) (hm : MtM X nid m) (hmf : MuS g m mf) (ho : PE X o (tVar i))
    (hbase : attributeBase o name X.env (eval o X.env) = eval o X.env := by rfl) (hline : (apos.endLine == cpos.line) = true := by rfl) :
    PE X (.Call (.Attribute o name apos) [] [] cpos) (tE g W (uMeO i mf uNil)) := peImp (pe_bm0 PySem.F.plainAttrs_list slot hty hm ho hbase hline) fun σ H Q h => by
  obtain ⟨v, h1, h2, R, ρ, om, al, S, P⟩ := tBM_own (K := X.K) hmf h
  exact ⟨v, h1, h2, P [] H al .refl S .nil⟩
/-! ### shared lists -/
theorem lv_set {k : Nat} {c c' : Cell} {a : Addr} (hk : om[k]? = some c) (hc : c ≠ .gone) (h : Lv al (om.set k c') a) : Lv al om a := by
  obtain ⟨i, ci, h1, h2, h3⟩ := h
  rcases getset h2 with ⟨rfl, _⟩ | ⟨n, q⟩
  · exact ⟨i, c, h1, hk, hc⟩
  · exact ⟨i, ci, h1, q, h3⟩
theorem Rst.setCell (S : Rst g R al σ ρ om H) {k : Nat} {c c' : Cell} {a : Addr} {o : HO} (hk : om[k]? = some c) (hc : c ≠ .gone) (hc' : c' ≠ .gone) (ha : al[k]? = some a)
    (hr : CellR g al (LL R al om σ ρ) (upd H a o) a c') : Rst g R al σ ρ (om.set k c') (upd H a o) ∧ Step al (Mt al om σ ρ) H al (Mt al (om.set k c') σ ρ) (upd H a o) := by
  have hL : Lv al om a := ⟨k, c, ha, hk, hc⟩
  have st : Step al (Mt al om σ ρ) H al (Mt al (om.set k c') σ ρ) (upd H a o) := by
    refine .grow (fun b u h n => ?_) fun b m => ?_
    · rw [upd_ne (fun z => n (by rw [z]; exact .inl hL))]
      exact h
    · exact .inl (m.imp (lv_set hk hc) id)
  have ll : ∀ b, LL R al (om.set k c') σ ρ b → LL R al om σ ρ b := fun b m => m.imp (fun m => m.imp (lv_set hk hc) id) id
  refine ⟨⟨⟨by rw [List.length_set]; exact S.o.len, fun i ci b h1 h2 => ?_, fun i j b ci cj h1 h2 h3 h4 n1 n2 => ?_, fun b h => ⟨fun z => (S.o.rsv b h).1 (lv_set hk hc z), ?_⟩⟩, S.sl, fun j d h => ?_, fun j dj h => ?_, S.odj, fun b h => ⟨fun z => (S.ocl b h).1 (lv_set hk hc z), (S.ocl b h).2⟩⟩, st⟩
  · rcases getset h1 with ⟨rfl, q⟩ | ⟨n, q⟩
    · subst q
      rw [ha] at h2
      cases h2
      exact hr.car (carL ll) (fun _ e _ => e) (fun _ _ _ e _ => e) (fun _ e _ => e)
    · have ne : ci ≠ .gone → b ≠ a := fun nc z => n (S.o.inj i k a ci c (by rw [← z]; exact h2) ha q hk nc hc)
      exact (S.o.cel i ci b q h2).car (st.car (Mt.flat S) fun a h => (S.o.rsv a h).2) (fun xs e nc => by rw [upd_ne (ne nc)]; exact e) (fun C dx fs e nc => by rw [upd_ne (ne nc)]; exact e) (fun q t nc => tab_keep st (Mt.flat S) (upd_ne (ne nc)) t)
  · have f : ∀ {i : Nat} {ci : Cell}, (om.set k c')[i]? = some ci → ci ≠ .gone → ∃ ci', om[i]? = some ci' ∧ ci' ≠ .gone := fun {i ci} h nc => by
      rcases getset h with ⟨rfl, q⟩ | ⟨n, q⟩
      · exact ⟨c, hk, hc⟩
      · exact ⟨ci, q, nc⟩
    obtain ⟨c1, q1, m1⟩ := f h3 n1
    obtain ⟨c2, q2, m2⟩ := f h4 n2
    exact S.o.inj i j b c1 c2 h1 h2 q1 q2 m1 m2
  · by_cases z : b = a
    · subst z; rw [upd_same]; simp
    · rw [upd_ne z]; exact (S.o.rsv b h).2
  · obtain ⟨v, e, r⟩ := S.val j d h
    exact ⟨v, e, st.rep S r⟩
  · obtain ⟨b, vs, e, e2, r⟩ := S.own j dj h
    refine ⟨b, vs, e, ?_, st.reps S r⟩
    rw [upd_ne (fun z => (S.ocl b ⟨j, dj, h, e⟩).1 (by rw [z]; exact hL))]
    exact e2
theorem cell_lst (S : Rst g R al σ ρ om H) {k : Nat} {xs : List D} {a : Addr} (hk : om[k]? = some (.lst xs)) (ha : al[k]? = some a) : ∃ vs, H a = some (.lst vs) ∧ RepVs g al (LL R al om σ ρ) H vs xs := S.o.cel k _ a hk ha
theorem Rst.setL (S : Rst g R al σ ρ om H) {k : Nat} {xs ys : List D} {a : Addr} {vs : List V} (hk : om[k]? = some (.lst xs)) (ha : al[k]? = some a) (r : RepVs g al (LL R al om σ ρ) H vs ys) :
    Rst g R al σ ρ (om.set k (.lst ys)) (upd H a (.lst vs)) ∧ Step al (Mt al om σ ρ) H al (Mt al (om.set k (.lst ys)) σ ρ) (upd H a (.lst vs)) := by
  have hL : Lv al om a := ⟨k, _, ha, hk, fun z => nomatch z⟩
  have st : Step al (Mt al om σ ρ) H al (Mt al om σ ρ) (upd H a (.lst vs)) := .grow (fun b u h n => by
    rw [upd_ne (fun z => n (by rw [z]; exact .inl hL))]
    exact h) fun b m => .inl m
  exact S.setCell hk (fun z => nomatch z) (fun z => nomatch z) ha ⟨vs, upd_same, r.car (st.car (Mt.flat S) fun a h => (S.o.rsv a h).2)⟩
/-- o.m(..), o a shared list -/
theorem tBM_loc (hmf : MuS g m mf) {K : PySem.W.Frag} {σ : St} {H : Hp} {Q : VK} (h : tE g W (uMeL ua mf us) σ H Q) : tBM K "list" m (tE g W ua) (tA g W us) σ H Q := by
  obtain ⟨R, ρ, om, al, S, P⟩ := h
  refine tR_bind S P fun x ρ0 om0 v0 H0 al0 s0 S0 r0 P0 => ?_
  split at P0
  · rename_i k
    cases r0 with
    | loc ha =>
      rename_i a
      split at P0
      · rename_i xs0 e
        obtain ⟨vs, h2, h3⟩ := cell_lst S0 e ha
        refine ⟨.inl ⟨rfl, vs, SqL.of h2⟩, ?_⟩
        refine tR_bind S0 P0 fun ds ρ1 om1 ws H1 al1 s1 S1 r1 P1 => ?_
        split at P1
        · rename_i xs e1
          split at P1
          · rename_i d ys e2
            obtain ⟨vs1, q2, q3⟩ := cell_lst S1 e1 (s1.ext _ _ ha)
            refine hmf al1 _ H1 a vs1 xs ws ds d ys Q q2 q3 r1 e2 fun v vs' rv rvs => ?_
            obtain ⟨S2, s2⟩ := S1.setL e1 (s1.ext _ _ ha) rvs
            exact P1 v _ al1 s2 S2 (s2.rep S1 rv)
          · exact P1.elim
        · exact P1.elim
      · exact P0.elim
  · exact P0.elim
theorem pu_meL {nid : String} (slot : Slot "list" name nid) (hty : typeOf (.builtin nid) = pure (.type "method_descriptor")) (hm : MtM X nid m) (hmf : MuS g m mf) (ho : PE X o (tE g W ua)) (ha : PA X (e :: es) (tA g W us))
    (hbase : attributeBase o name X.env (eval o X.env) = eval o X.env := by rfl)
    (hfew : ((backTo cpos (starEach (e :: es) X.env)).all (fun x => !x.1) && (backToKw cpos (keywordEach [] X.env)).all (fun x => x.1.isSome)
      && decide ((e :: es).length + ([] : List Keyword).length + (if ([] : List Keyword).isEmpty then 0 else 1) < 30)) = true := by rfl)
    (hline : (apos.endLine == cpos.line) = true := by rfl) (hs : starEach (e :: es) X.env = (false, eval e X.env) :: starEach es X.env := by rfl) (hplain : (backTo cpos (starEach es X.env)).any (·.1) = false := by rfl) :
    PE X (.Call (.Attribute o name apos) (e :: es) [] cpos) (tE g W (uMeL ua mf us)) := peImp (pe_bm PySem.F.plainAttrs_list slot hty hm ho ha hbase hfew hline hs hplain) fun σ H Q h => tBM_loc hmf h
theorem pu_meL0 {nid : String} (slot : Slot "list" name nid) (hty : typeOf (.builtin nid) = pure (.type "method_descriptor")) (hm : MtM X nid m) (hmf : MuS g m mf) (ho : PE X o (tE g W ua))
    (hbase : attributeBase o name X.env (eval o X.env) = eval o X.env := by rfl) (hline : (apos.endLine == cpos.line) = true := by rfl) :
    PE X (.Call (.Attribute o name apos) [] [] cpos) (tE g W (uMeL ua mf uNil)) := peImp (pe_bm0 PySem.F.plainAttrs_list slot hty hm ho hbase hline) fun σ H Q h => by
  obtain ⟨R, ρ, om, al, S, P⟩ := h
  refine tR_bind S P fun x ρ0 om0 v0 H0 al0 s0 S0 r0 P0 => ?_
  split at P0
  · rename_i k
    cases r0 with
    | loc ha =>
      rename_i a
      split at P0
      · rename_i xs0 e
        obtain ⟨vs, h2, h3⟩ := cell_lst S0 e ha
        refine ⟨.inl ⟨rfl, vs, SqL.of h2⟩, ?_⟩
        simp only [uNil, Res.bind] at P0
        split at P0
        · rename_i xs e1
          split at P0
          · rename_i d ys e2
            obtain ⟨vs1, q2, q3⟩ := cell_lst S0 e1 ha
            refine hmf al0 _ H0 a vs1 xs [] [] d ys Q q2 q3 .nil e2 fun v vs' rv rvs => ?_
            obtain ⟨S2, s2⟩ := S0.setL e1 ha rvs
            exact P0 v _ al0 s2 S2 (s2.rep S0 rv)
          · exact P0.elim
        · exact P0.elim
      · exact P0.elim
  · exact P0.elim
/-- looking at a shared list: an item, its length, == .. -/
@[simp] def uSee (u : UE) (f : D → Option D) : UE := fun ρ ω => (u ρ ω).bind fun x ρ ω => match x with
  | .loc k => (match ω[k]? with
    | some (.lst xs) => liftO (f (.lst xs)) ρ ω
    | _ => .no)
  | _ => .no
@[simp] def uBinL (f : D → D → Option D) (ua ub : UE) : UE := fun ρ ω => (ua ρ ω).bind fun x ρ ω => (ub ρ ω).bind fun y ρ ω => match x with
  | .loc k => (match ω[k]? with
    | some (.lst xs) => liftO (f (.lst xs) y) ρ ω
    | _ => .no)
  | _ => .no
theorem tOpL {r : R2} {f : D → D → Option D} (hf : OpS g r f) {σ : St} {H : Hp} {Q : VK} (h : tE g W (uBinL f ua ub) σ H Q) : tOp r (tE g W ua) (tE g W ub) σ H Q := by
  obtain ⟨R, ρ, om, al, S, P⟩ := h
  refine tR_bind S P fun x ρ0 om0 v0 H0 al0 s0 S0 r0 P0 => ?_
  refine tR_bind S0 P0 fun y ρ1 om1 w H1 al1 s1 S1 r1 P1 => ?_
  split at P1
  · rename_i k
    cases (s1.rep S0 r0) with
    | loc ha =>
      split at P1
      · rename_i xs e
        obtain ⟨vs, h2, h3⟩ := cell_lst S1 e ha
        exact hf R W al1 om1 σ ρ1 H1 Q _ w _ y S1 (.own h2 h3) (.v r1) P1
      · exact P1.elim
  · exact P1.elim
theorem pu_ixL {r : R2} {f : D → D → Option D} (ho : IxR X r) (hf : OpS g r f) (ha : PE X a (tE g W ua)) (hb : PE X b (tE g W ub)) (hs : PlainIx b := by exact fun _ _ => rfl) : PE X (.Subscript a b pos) (tE g W (uBinL f ua ub)) := peImp (pe_ix ho ha hb hs) fun σ H Q h => tOpL hf h
theorem pu_cmpL {op : CmpOp} {r : R2} {f : D → D → Option D} (ho : OpR X (compareOp op) r) (hf : OpS g r f) (ha : PE X a (tE g W ua)) (hb : PE X b (tE g W ub)) (hm : behindInMarks op b = false) : PE X (.Compare a [op] [b] pos) (tE g W (uBinL f ua ub)) := peImp (pe_cmpR ho ha hb hm) fun σ H Q h => tOpL hf h
theorem pt_cmpL {op : CmpOp} {r : R2} {f : D → D → Option D} (ho : OpR X (compareOp op) r) (hf : OpS g r f) (ha : PE X a (tE g W ua)) (hb : PE X b (tE g W ub)) (hm : behindInMarks op b = false) : PT X (.Compare a [op] [b] pos) (tT g W (uB (uBinL f ua ub))) :=
  ptImp (pt_cmpR ho ha hb hm) fun σ H Q h => by
    obtain ⟨R, ρ, om, al, S, P⟩ := tB_of h
    exact tOpL hf ⟨R, ρ, om, al, S, P⟩
/-! ### storing an item: o[i] = e, o a shared list -/
def setN (xs : List D) (i : Int) (d : D) : Option (List D) := if 0 ≤ i ∧ i.toNat < xs.length then some (xs.set i.toNat d) else none
@[simp] def sSetL (uo ui ue : UE) : US := fun ρ ω => RS.of (ue ρ ω) fun d ρ ω => RS.of (uo ρ ω) fun o ρ ω => RS.of (ui ρ ω) fun i ρ ω => match o, i with
  | .loc k, .int i => (match ω[k]? with
    | some (.lst xs) => (match setN xs i d with
      | some ys => .nx ρ (ω.set k (.lst ys))
      | none => .no)
    | _ => .no)
  | _, _ => .no
theorem ps_setL {i : Expr} {ui : UE} {tpos : Pos} (he : PE X e (tE g W ue)) (ho : PE X o (tE g W ua)) (hi : PE X i (tE g W ui)) (hsub : ∀ v, assign (.Subscript o i tpos) X.env v = (do
      let ov ← holding [v] (eval o X.env)
      let iv ← holding [v, ov] (eval i X.env)
      standAt tpos
      holding [v, ov, iv] (setItem ov iv v)
      release [v, ov, iv] []) := by intro _; rfl) (hs : swapsWithSole [.Subscript o i tpos] e pos.line X.env = pure false := by rfl) (hw : swappedStores [.Subscript o i tpos] e X.env = pure none := by rfl)
    (h1 : (assignEach [.Subscript o i tpos] X.env).map (·.2) = [assign (.Subscript o i tpos) X.env] := by rfl) : PS X (.Assign [.Subscript o i tpos] e pos) (tS g W (sSetL ua ui ue)) := psImp (ps_asg he (pg_sub ho hi set_list hsub) hs hw h1) fun De σ H ⟨R, ρ, om, al, S, P⟩ => by
  refine tR_bindS S P fun d ρ1 om1 v H1 al1 s1 S1 r1 P1 => ?_
  refine tR_bindS S1 P1 fun x ρ2 om2 w H2 al2 s2 S2 r2 P2 => ?_
  refine tR_bindS S2 P2 fun y ρ3 om3 z H3 al3 s3 S3 r3 P3 => ?_
  split at P3
  · rename_i k j
    cases r3
    cases (s3.rep S2 r2) with
    | loc ha =>
      rename_i a
      split at P3
      · rename_i xs e3
        obtain ⟨vs, q1, q2⟩ := cell_lst S3 e3 ha
        split at P3
        · rename_i ys e4
          unfold setN at e4
          split at e4
          · rename_i hj
            cases e4
            refine ⟨a, vs, j, j.toNat, rfl, rfl, q1, ?_, ?_⟩
            · unfold ixN
              rw [if_pos hj.1, if_pos (by rw [q2.length]; omega)]
            · obtain ⟨S4, s4⟩ := S3.setL e3 ha (q2.set (s3.rep S2 (s2.rep S1 r1)) j.toNat)
              exact P3 σ _ al3 s4 S4
          · cases e4
        · exact P3.elim
      · exact P3.elim
  · exact P3.elim
end
end Dv

namespace Dv
open PySem PySem.Spec PyProof.Rows L2

/-! ### ranges -/
def rngN (lo : Int) (n : Nat) : List D := (List.range n).map fun (k : Nat) => .int (lo + (k : Int))
def fRng1 : List D → Option (List D)
  | [.int j] => if j.natAbs ≤ 1000000 then some (rngN 0 j.toNat) else none
  | _ => none
def fRng2 : List D → Option (List D)
  | [.int i, .int j] => if i.natAbs ≤ 1000000 ∧ j.natAbs ≤ 1000000 then some (rngN i (j - i).toNat) else none
  | _ => none
theorem fRng1_eq {j : Int} (h : j.natAbs ≤ 1000000) : fRng1 [.int j] = some (rngN 0 j.toNat) := if_pos h
/-- range(i, -1, -1) -/
def fRngD : List D → Option (List D)
  | [.int i, .int j, .int c] => if i.natAbs ≤ 1000000 ∧ j = -1 ∧ c = -1 then some ((List.range (i + 1).toNat).map fun (k : Nat) => .int (i - (k : Int))) else none
  | _ => none
@[simp] def iFn (f : List D → Option (List D)) (u : UA) : UI := fun ρ ω => (u ρ ω).bind fun ds ρ ω => liftO (f ds) ρ ω
/-- the signs of a text -/
def fSigns : D → Option (List D)
  | .str z => some (z.cps.toList.map fun c => .str ⟨#[c]⟩)
  | _ => none
@[simp] def iStrU (u : UE) : UI := fun ρ ω => (u ρ ω).bind fun d ρ ω => liftO (fSigns d) ρ ω
/-- enumerate of a list -/
def fEnum : List D → Option (List D)
  | [.lst ds] => some ((List.range ds.length).map fun (k : Nat) => .tup [.int (k : Int), ds.getD k .non])
  | _ => none
/-- an own list that is shared from now on -/
@[simp] def uNew (u : UW) : UE := fun ρ ω => (u ρ ω).bind fun ds ρ ω => .ok (.loc ω.length) ρ (ω ++ [.lst ds])
section
variable {g : G} {R : Addr → Prop} {al : List Addr} {om : Om} {σ : St} {ρ : Rho} {H H' : Hp} {W : WX} {X : Cx} {L : Addr → Prop} {v : V} {d : D} {p : Addr}
theorem getapp {α : Type} {l : List α} {x y : α} {i : Nat} (h : (l ++ [x])[i]? = some y) : l[i]? = some y ∨ (i = l.length ∧ y = x) := by
  by_cases hi : i < l.length
  · rw [List.getElem?_append_left hi] at h
    exact .inl h
  · rw [List.getElem?_append_right (by omega)] at h
    by_cases e : i - l.length = 0
    · rw [e] at h
      cases h
      exact .inr ⟨by omega, rfl⟩
    · rw [List.getElem?_eq_none (by simp; omega)] at h
      cases h
theorem Rst.newCell (S : Rst g (Rp R p) al σ ρ om H) (hR : ¬ R p) {c : Cell} (hn : H p ≠ none) (hr : CellR g al (LL (Rp R p) al om σ ρ) H p c) :
    Rst g R (al ++ [p]) σ ρ (om ++ [c]) H ∧ Step al (fun a => Mt al om σ ρ a ∨ a = p) H (al ++ [p]) (Mt (al ++ [p]) (om ++ [c]) σ ρ) H := by
  have len := S.o.len
  have ext : ∀ (i : Nat) (a : Addr), al[i]? = some a → (al ++ [p])[i]? = some a := fun i a h => by
    obtain ⟨hl, _⟩ := List.getElem?_eq_some_iff.mp h
    rw [List.getElem?_append_left hl]
    exact h
  have lv : ∀ a, Lv (al ++ [p]) (om ++ [c]) a → Lv al om a ∨ a = p := fun a ⟨i, ci, h1, h2, h3⟩ => by
    rcases getapp h1 with q | ⟨q, rfl⟩
    · obtain ⟨hl, _⟩ := List.getElem?_eq_some_iff.mp q
      rw [List.getElem?_append_left (by omega)] at h2
      exact .inl ⟨i, ci, q, h2, h3⟩
    · exact .inr rfl
  have np : ¬ Lv al om p := (S.o.rsv p (.inr rfl)).1
  have ll : ∀ a, LL R (al ++ [p]) (om ++ [c]) σ ρ a → LL (Rp R p) al om σ ρ a := fun a m => by
    rcases m with (m | m) | m
    · rcases lv a m with q | q
      · exact .inl (.inl q)
      · exact .inr (.inr q)
    · exact .inl (.inr m)
    · exact .inr (.inl m)
  have cr : Car g al (LL (Rp R p) al om σ ρ) H (al ++ [p]) (LL R (al ++ [p]) (om ++ [c]) σ ρ) H := ⟨fun _ _ h => h, fun a vs e n => ⟨e, fun m => n (ll a m)⟩, fun _ _ h => h, fun a C dx fs e n => ⟨e, fun m => n (ll a m)⟩, ext⟩
  refine ⟨⟨⟨by simp [len], fun i ci a h1 h2 => ?_, fun i j a ci cj h1 h2 h3 h4 n1 n2 => ?_, fun a h => ⟨fun z => ?_, (S.o.rsv a (.inl h)).2⟩⟩, S.sl, fun j d h => ?_, fun j dj h => ?_, S.odj, fun a h => ⟨fun z => ?_, fun z => (S.ocl a h).2 (.inl z)⟩⟩, ext, fun _ _ h _ => h, fun a m => .inl ?_⟩
  · rcases getapp h1 with q | ⟨q, rfl⟩
    · obtain ⟨hl, _⟩ := List.getElem?_eq_some_iff.mp q
      rw [List.getElem?_append_left (by omega)] at h2
      exact (S.o.cel i ci a q h2).car cr (fun _ e _ => e) (fun _ _ _ e _ => e) (fun _ e _ => e)
    · rcases getapp h2 with q2 | ⟨_, rfl⟩
      · obtain ⟨hl, _⟩ := List.getElem?_eq_some_iff.mp q2
        omega
      · exact hr.car cr (fun _ e _ => e) (fun _ _ _ e _ => e) (fun _ e _ => e)
  · rcases getapp h3 with q3 | ⟨q3, rfl⟩
    · obtain ⟨l3, _⟩ := List.getElem?_eq_some_iff.mp q3
      rw [List.getElem?_append_left (by omega)] at h1
      rcases getapp h4 with q4 | ⟨q4, rfl⟩
      · obtain ⟨l4, _⟩ := List.getElem?_eq_some_iff.mp q4
        rw [List.getElem?_append_left (by omega)] at h2
        exact S.o.inj i j a ci cj h1 h2 q3 q4 n1 n2
      · rcases getapp h2 with q2 | ⟨_, rfl⟩
        · obtain ⟨l2, _⟩ := List.getElem?_eq_some_iff.mp q2
          omega
        · exact absurd ⟨i, ci, h1, q3, n1⟩ np
    · rcases getapp h1 with q1 | ⟨_, rfl⟩
      · obtain ⟨l1, _⟩ := List.getElem?_eq_some_iff.mp q1
        omega
      · rcases getapp h4 with q4 | ⟨q4, _⟩
        · obtain ⟨l4, _⟩ := List.getElem?_eq_some_iff.mp q4
          rw [List.getElem?_append_left (by omega)] at h2
          exact absurd ⟨j, cj, h2, q4, n2⟩ np
        · omega
  · rcases lv a z with q | rfl
    · exact (S.o.rsv a (.inl h)).1 q
    · exact hR h
  · obtain ⟨v, e, r⟩ := S.val j d h
    exact ⟨v, e, r.car cr⟩
  · obtain ⟨a, vs, e, e2, r⟩ := S.own j dj h
    exact ⟨a, vs, e, e2, r.car cr⟩
  · rcases lv a z with q | rfl
    · exact (S.ocl a h).1 q
    · exact (S.ocl a h).2 (.inr rfl)
  · rcases m with m | m
    · exact (lv a m).imp .inl id
    · exact .inl (.inr m)
variable {e a b c : Expr} {ue ua ub : UE} {uw : UW} {us : UA} {es : List Expr} {tg : Expr} {p0 pos : Pos}
theorem pu_new (h : PE X e (tOw g W uw)) : PE X e (tE g W (uNew uw)) := peImp h fun σ H Q ⟨R, ρ, om, al, S, P⟩ => by
  refine ⟨R, ρ, om, al, S, ?_⟩
  simp only [uNew] at P
  cases e : uw ρ om with
  | ok ds ρ' om' =>
    rw [e] at P
    intro p vs H' al' s S' n hp r
    obtain ⟨S2, s2⟩ := S'.newCell n (c := .lst ds) (by rw [hp]; simp) ⟨vs, hp, r⟩
    exact P _ H' _ (s.trans s2) S2 (.loc (by rw [← S'.o.len]; simp))
  | xc x ρ' om' => rw [e] at P; exact P
  | no => rw [e] at P; exact P
/-! ### ranges, texts, enumerate -/
theorem tIA_of {f : List D → Option (List D)} {σ : St} {H : Hp} {Q : It → Hp → Prop} {Q' : List V → Hp → Prop} (h : tI g W (iFn f us) σ H Q)
    (k : ∀ R ρ om al H vs xs ds, Rst g R al σ ρ om H → RepVs g al (LL R al om σ ρ) H vs xs → f xs = some ds → (∀ J H', Step al (Mt al om σ ρ) H al (Mt al om σ ρ) H' → Rst g R al σ ρ om H' → ItS g J ds R al (Mt al om σ ρ) H' → Q J H') → Q' vs H) : tA g W us σ H Q' := by
  obtain ⟨R, ρ, om, al, S, P⟩ := h
  refine ⟨R, ρ, om, al, S, ?_⟩
  simp only [iFn] at P
  cases e : us ρ om with
  | ok d ρ' om' =>
    rw [e] at P
    intro v H' al' s S' r
    cases ef : f d with
    | none =>
      simp only [Res.bind, ef, liftO] at P
      exact P.elim
    | some ds =>
      simp only [Res.bind, ef, liftO] at P
      exact k R ρ' om' al' H' v d ds S' r ef fun J H2 s2 S2 it => P J H2 al' (s.trans s2) S2 it
  | xc x ρ' om' => rw [e] at P; exact P
  | no => rw [e] at P; exact P
theorem it_range {lo : Int} {n : Nat} {M : Addr → Prop} : ItS g (Itr lo n) (rngN lo n) R al M H := by
  intro R2 σ2 ρ2 om2 al2 H2 i hR2 s S2
  have hl : (rngN lo n).length = n := by simp [rngN]
  refine ⟨fun hi => ⟨by rw [← hl]; exact hi, fun x H3 ⟨e3, hx⟩ => ?_⟩, fun hi => by rw [← hl]; exact hi⟩
  subst e3
  subst hx
  exact ⟨S2, .refl, .int (lo + i), by rw [hl] at hi; simp [rngN, hi], .int⟩
theorem pi_rng1 (hm : X.mg "range" = none) (ha : PA X [a] (tA g W us)) (hg : Gl X "range" := by rfl) (hs : starEach [a] X.env = [(false, eval a X.env)] := by rfl) : PI X tg (.Call (.Name "range" p0) [a] [] pos) (tI g W (iFn fRng1 us)) :=
  ⟨fun pins s σ H Q I h => (pi_range1 hg hm ha hs).run pins s σ H Q I (tIA_of h fun R ρ om al H vs xs ds S r hd k => by
    unfold fRng1 at hd
    split at hd
    · split at hd
      · rename_i j hj
        cases hd
        cases r with
        | cons r r2 =>
          cases r2
          cases r
          exact ⟨j, rfl, by omega, by omega, k _ H .refl S it_range⟩
      · cases hd
    · cases hd)⟩
theorem pi_rng2 (hm : X.mg "range" = none) (ha : PA X [a, b] (tA g W us)) (hg : Gl X "range" := by rfl) (hs : starEach [a, b] X.env = [(false, eval a X.env), (false, eval b X.env)] := by rfl) (hs2 : starEach [b] X.env = [(false, eval b X.env)] := by rfl) :
    PI X tg (.Call (.Name "range" p0) [a, b] [] pos) (tI g W (iFn fRng2 us)) :=
  ⟨fun pins s σ H Q I h => (pi_range2 hg hm ha hs hs2).run pins s σ H Q I (tIA_of h fun R ρ om al H vs xs ds S r hd k => by
    unfold fRng2 at hd
    split at hd
    · split at hd
      · rename_i i j hj
        cases hd
        cases r with
        | cons r r2 =>
          cases r2 with
          | cons r2 r3 =>
            cases r3
            cases r
            cases r2
            exact ⟨i, j, rfl, ⟨by omega, by omega, by omega, by omega⟩, k _ H .refl S it_range⟩
      · cases hd
    · cases hd)⟩
theorem it_rangeD {i : Int} {n : Nat} {M : Addr → Prop} (hn : (i + 1).toNat = n) : ItS g (Itc i (-1) n) ((List.range n).map fun (k : Nat) => D.int (i - (k : Int))) R al M H := by
  intro R2 σ2 ρ2 om2 al2 H2 k hR2 s S2
  refine ⟨fun hi => ⟨by show k < n; simpa using hi, fun x H3 ⟨e3, hx⟩ => ?_⟩, fun hi => by show n ≤ k; simpa using hi⟩
  subst e3
  subst hx
  have e : i + (k : Int) * (-1) = i - k := by omega
  rw [e]
  exact ⟨S2, .refl, .int (i - k), by
    have hi' : k < n := by simpa using hi
    simp [hi'], .int⟩
theorem pi_rngD (hm : X.mg "range" = none) (ha : PA X [a, b, c] (tA g W us)) (hg : Gl X "range" := by rfl) (hs : starEach [a, b, c] X.env = (false, eval a X.env) :: starEach [b, c] X.env := by rfl) (hpl : (backTo pos (starEach [b, c] X.env)).any (·.1) = false := by rfl) :
    PI X tg (.Call (.Name "range" p0) [a, b, c] [] pos) (tI g W (iFn fRngD us)) :=
  ⟨fun pins s σ H Q I h => (pi_range3 hg hm ha hs hpl).run pins s σ H Q I (tIA_of h fun R ρ om al H vs xs ds S r hd k => by
    unfold fRngD at hd
    split at hd
    · split at hd
      · rename_i i j c hj
        obtain ⟨h1, rfl, rfl⟩ := hj
        cases hd
        cases r with
        | cons r r2 =>
          cases r2 with
          | cons r2 r3 =>
            cases r3 with
            | cons r3 r4 =>
              cases r4
              cases r
              cases r2
              cases r3
              have e : (i - -1).toNat = (i + 1).toNat := by congr 1
              exact ⟨i, -1, -1, (i - -1).toNat, rfl, RgC.neg (by omega) (by omega) (by decide) (by decide), by
                have q := it_rangeD (g := g) (R := R) (al := al) (H := H) (M := Mt al om σ ρ) (i := i) e.symm
                rw [e] at q
                exact k _ H .refl S q⟩
      · cases hd
    · cases hd)⟩
theorem it_str {z : Str} {M : Addr → Prop} : ItS g (Its z) (z.cps.toList.map fun c => D.str ⟨#[c]⟩) R al M H := by
  intro R2 σ2 ρ2 om2 al2 H2 i hR2 s S2
  refine ⟨fun hi => ⟨by show i < z.cps.size; simpa using hi, fun x H3 ⟨e3, c, hc, hx⟩ => ?_⟩, fun hi => by show z.cps.size ≤ i; simpa using hi⟩
  subst e3
  subst hx
  refine ⟨S2, .refl, .str ⟨#[c]⟩, ?_, .str⟩
  rw [List.getElem?_map, Array.getElem?_toList, hc]
  rfl
theorem pi_strU (he : PE X e (tE g W ue)) : PI X tg e (tI g W (iStrU ue)) := by
  refine ⟨fun pins s σ H Q I h => (pi_str he).run pins s σ H Q I (tI_of h fun R ρ om al H v d ds S r hd k => ?_)⟩
  cases r with
  | str => cases hd; exact ⟨_, rfl, k _ H .refl S it_str⟩
  | _ => cases hd
theorem it_enum {K : PySem.W.Frag} {a : Addr} {ds : List D} (hK : K = g.K) (S : Rst g R al σ ρ om H) (r : RepV g al (LL R al om σ ρ) H (.ref a) (.lst ds)) :
    ItS g (Ite K a) ((List.range ds.length).map fun (k : Nat) => D.tup [.int (k : Int), ds.getD k .non]) R al (Mt al om σ ρ) H := by
  intro R2 σ2 ρ2 om2 al2 H2 i hR2 s S2
  cases (s.rep2 S hR2 r : RepV g al2 (LL R2 al2 om2 σ2 ρ2) H2 _ _) with
  | @lst _ vs _ h n r2 =>
    refine ⟨fun hi => ?_, fun hi => ⟨vs, SqL.of h, by rw [r2.length]; simpa using hi⟩⟩
    have hi' : i < ds.length := by simpa using hi
    obtain ⟨v0, h0, h1⟩ := r2.get (i := i) (d := ds[i]) (by simp [hi'])
    refine ⟨⟨vs, v0, SqL.of h, h0⟩, fun x H3 ⟨T, y, e1, e2, e3, e4⟩ => ?_⟩
    have e5 := e4 vs (SqL.of h)
    rw [h0] at e5
    cases e5
    subst e1
    subst e3
    obtain ⟨S3, s3⟩ := S2.grow (upd_keep (o := .tup [.int (i : Nat), v0]) e2)
    refine ⟨S3, s3, .tup [.int (i : Int), ds[i]], by simp [hi'], .tup (.inl (.inl upd_same)) (.cons .int (.cons (s3.rep S2 h1) .nil))⟩
theorem pi_enumU {elts : List Expr} {kk : Nat} {tpos : Pos} (hK : X.K = g.K) (hm : X.mg "enumerate" = none) (ha : PA X [e] (tA g W us)) (hg : Gl X "enumerate" := by rfl) (hs : starEach [e] X.env = [(false, eval e X.env)] := by rfl) :
    PI X (.Tuple elts kk tpos) (.Call (.Name "enumerate" p0) [e] [] pos) (tI g W (iFn fEnum us)) :=
  ⟨fun pins s σ H Q I h => (pi_enum hg hm ha hs).run pins s σ H Q I (tIA_of h fun R ρ om al H vs xs ds S r hd k => by
    unfold fEnum at hd
    split at hd
    · cases hd
      cases r with
      | cons r r2 =>
        cases r2
        cases r with
        | lst h n r2 => exact ⟨_, _, rfl, SqL.of h, k _ H .refl S (it_enum hK S (.lst h n r2))⟩
    · cases hd)⟩
/-! ### tuples as targets -/
theorem gset {Q : St → Hp → Prop} {i : Nat} (S : Rst g R al σ ρ om H) (r : RepV g al (LL R al om σ ρ) H v d) (k : ∀ σ', σ' = σ.set i (some v) → Step al (Mt al om σ ρ) H al (Mt al om σ' (ρ.set i (some (.val d)))) H → Rst g R al σ' (ρ.set i (some (.val d))) om H → Q σ' H) : Q (σ.set i (some v)) H := by
  by_cases hl : i < σ.length
  · obtain ⟨S', s'⟩ := S.setVal hl r
    exact k _ rfl s' S'
  · have e : ρ.set i (some (.val d)) = ρ := List.set_eq_of_length_le (by rw [← S.sl.len]; omega)
    have e2 : σ.set i (some v) = σ := List.set_eq_of_length_le (by omega)
    rw [e, e2] at k
    rw [e2]
    exact k σ rfl .refl S
variable {x y z u : Str} {q1 q2 q3 q4 : Pos} {kk : Nat}
theorem pg_tup2 (i j : Nat) (hK : X.K = g.K) (hc : X.calm = true) (h1 : PG X a (gName i)) (h2 : PG X b (gName j)) (hp : (assignEach [a, b] X.env).map (·.2) = assign a X.env :: (assignEach [b] X.env).map (·.2) := by rfl) (hp2 : (assignEach [b] X.env).map (·.2) = assign b X.env :: (assignEach [] X.env).map (·.2) := by rfl)
    (hn : (assignEach [a, b] X.env).length = 2 := by rfl) (hst : (assignEach [a, b] X.env).findIdx? (·.1) = none := by rfl) : PG X (.Tuple [a, b] kk pos) (tG g (gT2 i j)) :=
  ⟨fun pins s σ H v w Q I r ⟨R, ρ, om, al, d, ρ', S, rv, e, k⟩ => (pg_tup hc (pgs_cons h1 (pgs_cons h2 pgs_nil hp2) hp) hn hst).run pins s σ H v w Q I r (by
    simp only [gT2] at e
    split at e
    · cases e
      cases rv with
      | @tup ta vs _ ht rs =>
        cases rs with
        | cons ra rs => cases rs with
          | cons rb rs =>
            cases rs
            refine ⟨ta, _, rfl, by rw [hK]; exact ht, rfl, _, _, rfl, ?_⟩
            refine gset (i := i) (Q := fun σ' H' => (gCons (gName j) gNil) _ σ' H' Q) S ra fun σ1 e1 s1 S1 => ⟨_, _, rfl, ?_⟩
            refine gset (i := j) (Q := fun σ' H' => gNil _ σ' H' Q) S1 (s1.rep S rb) fun σ2 e2 s2 S2 => ⟨rfl, ?_⟩
            exact k σ2 (s1.trans s2) S2
    · cases e)⟩
theorem pg_tup3 (i j l : Nat) (hK : X.K = g.K) (hc : X.calm = true) (h1 : PG X a (gName i)) (h2 : PG X b (gName j)) (h3 : PG X c (gName l)) (hp : (assignEach [a, b, c] X.env).map (·.2) = assign a X.env :: (assignEach [b, c] X.env).map (·.2) := by rfl) (hp2 : (assignEach [b, c] X.env).map (·.2) = assign b X.env :: (assignEach [c] X.env).map (·.2) := by rfl) (hp3 : (assignEach [c] X.env).map (·.2) = assign c X.env :: (assignEach [] X.env).map (·.2) := by rfl)
    (hn : (assignEach [a, b, c] X.env).length = 3 := by rfl) (hst : (assignEach [a, b, c] X.env).findIdx? (·.1) = none := by rfl) : PG X (.Tuple [a, b, c] kk pos) (tG g (gT3 i j l)) :=
  ⟨fun pins s σ H v w Q I r ⟨R, ρ, om, al, d, ρ', S, rv, e, k⟩ => (pg_tup hc (pgs_cons h1 (pgs_cons h2 (pgs_cons h3 pgs_nil hp3) hp2) hp) hn hst).run pins s σ H v w Q I r (by
    simp only [gT3] at e
    split at e
    · cases e
      cases rv with
      | @tup ta vs _ ht rs =>
        cases rs with
        | cons ra rs => cases rs with
          | cons rb rs => cases rs with
            | cons rc rs =>
              cases rs
              refine ⟨ta, _, rfl, by rw [hK]; exact ht, rfl, _, _, rfl, ?_⟩
              refine gset (i := i) (Q := fun σ' H' => (gCons (gName j) (gCons (gName l) gNil)) _ σ' H' Q) S ra fun σ1 e1 s1 S1 => ⟨_, _, rfl, ?_⟩
              refine gset (i := j) (Q := fun σ' H' => (gCons (gName l) gNil) _ σ' H' Q) S1 (s1.rep S rb) fun σ2 e2 s2 S2 => ⟨_, _, rfl, ?_⟩
              refine gset (i := l) (Q := fun σ' H' => gNil _ σ' H' Q) S2 (s2.rep S1 (s1.rep S rc)) fun σ3 e3 s3 S3 => ⟨rfl, ?_⟩
              exact k σ3 ((s1.trans s2).trans s3) S3
    · cases e)⟩
theorem pg_tup4 {e4 : Expr} (i j l m : Nat) (hK : X.K = g.K) (hc : X.calm = true) (h1 : PG X a (gName i)) (h2 : PG X b (gName j)) (h3 : PG X c (gName l)) (h4 : PG X e4 (gName m)) (hp : (assignEach [a, b, c, e4] X.env).map (·.2) = assign a X.env :: (assignEach [b, c, e4] X.env).map (·.2) := by rfl) (hp2 : (assignEach [b, c, e4] X.env).map (·.2) = assign b X.env :: (assignEach [c, e4] X.env).map (·.2) := by rfl) (hp3 : (assignEach [c, e4] X.env).map (·.2) = assign c X.env :: (assignEach [e4] X.env).map (·.2) := by rfl) (hp4 : (assignEach [e4] X.env).map (·.2) = assign e4 X.env :: (assignEach [] X.env).map (·.2) := by rfl)
    (hn : (assignEach [a, b, c, e4] X.env).length = 4 := by rfl) (hst : (assignEach [a, b, c, e4] X.env).findIdx? (·.1) = none := by rfl) : PG X (.Tuple [a, b, c, e4] kk pos) (tG g (gT4 i j l m)) :=
  ⟨fun pins s σ H v w Q I r ⟨R, ρ, om, al, d, ρ', S, rv, e, k⟩ => (pg_tup hc (pgs_cons h1 (pgs_cons h2 (pgs_cons h3 (pgs_cons h4 pgs_nil hp4) hp3) hp2) hp) hn hst).run pins s σ H v w Q I r (by
    simp only [gT4] at e
    split at e
    · cases e
      cases rv with
      | @tup ta vs _ ht rs =>
        cases rs with
        | cons ra rs => cases rs with
          | cons rb rs => cases rs with
            | cons rc rs => cases rs with
              | cons rd rs =>
                cases rs
                refine ⟨ta, _, rfl, by rw [hK]; exact ht, rfl, _, _, rfl, ?_⟩
                refine gset (i := i) (Q := fun σ' H' => (gCons (gName j) (gCons (gName l) (gCons (gName m) gNil))) _ σ' H' Q) S ra fun σ1 e1 s1 S1 => ⟨_, _, rfl, ?_⟩
                refine gset (i := j) (Q := fun σ' H' => (gCons (gName l) (gCons (gName m) gNil)) _ σ' H' Q) S1 (s1.rep S rb) fun σ2 e2 s2 S2 => ⟨_, _, rfl, ?_⟩
                refine gset (i := l) (Q := fun σ' H' => (gCons (gName m) gNil) _ σ' H' Q) S2 (s2.rep S1 (s1.rep S rc)) fun σ3 e3 s3 S3 => ⟨_, _, rfl, ?_⟩
                refine gset (i := m) (Q := fun σ' H' => gNil _ σ' H' Q) S3 (s3.rep S2 (s2.rep S1 (s1.rep S rd))) fun σ4 e4 s4 S4 => ⟨rfl, ?_⟩
                exact k σ4 (((s1.trans s2).trans s3).trans s4) S4
    · cases e)⟩
theorem pg_n (i : Nat) (hN : X.N.Nodup) (hi : X.N[i]? = some x := by rfl) (hx : Loc X.env.scope x := by first | exact Or.inl rfl | exact Or.inr rfl) (hf : X.fn x = true ∨ X.env.scope.names.lookup x = some .local := by first | exact .inl rfl | exact .inr rfl) : PG X (.Name x pos) (gName i) := pg_name hN hi hx hf
/-- a, b = e -/
@[simp] def sAsgG (G : UG) (u : UE) : US := fun ρ ω => RS.of (u ρ ω) fun d ρ ω => match G d ρ with
  | some ρ' => .nx ρ' ω
  | none => .no
theorem ps_asgG {G' : UG} (he : PE X e (tE g W ue)) (hg : PG X tg (tG g G')) (hs : swapsWithSole [tg] e pos.line X.env = pure false := by rfl) (hw : swappedStores [tg] e X.env = pure none := by rfl) (h1 : (assignEach [tg] X.env).map (·.2) = [assign tg X.env] := by rfl) :
    PS X (.Assign [tg] e pos) (tS g W (sAsgG G' ue)) := psImp (ps_asg he hg hs hw h1) fun De σ H ⟨R, ρ, om, al, S, P⟩ =>
  tR_bindS S P fun d ρ1 om1 v H1 al1 s1 S1 r1 P1 => by
    split at P1
    · rename_i ρ' e
      exact ⟨R, ρ1, om1, al1, d, ρ', S1, r1, e, fun σ' s S' => P1 σ' H1 al1 s S'⟩
    · exact P1.elim
end
end Dv

namespace Dv
open PySem PySem.Spec PyProof.Rows L2
@[simp] def fuelI (i : Nat) : Rho → Om → Nat := fun ρ _ => match ρ[i]? with
  | some (some (.val (.int j))) => j.natAbs + 1
  | _ => 0
theorem fnNo {P : Program} {w : World} {K : PySem.W.Frag} {mg : Str → Option Value} {base : Heap} {k : Nat} {f : Addr} {fd : FuncData} {ps : List Str} {g : G} : FnOk P w K mg base (L2.CX P w) k f fd ps (spU g ps.length fun _ _ => .no) :=
  ⟨fun vs H Q E h => h.1, fun A outer s H args us vs Q E hr he hb hv hs => by
    obtain ⟨_, R, ds, om, al, _, _, p⟩ := hs
    exact p.elim⟩
/-- a def as the top has left it -/
def At (K : PySem.W.Frag) (mg : Str → Option Value) (x qual : Str) (st : Stmt) : Prop := ∃ (f : Addr) (fd : FuncData), mg x = some (.ref f) ∧ Fun K x qual st f fd
theorem at_mk {K : PySem.W.Frag} {h : Heap} {mg : Str → Option Value} {x : Str} {st : Stmt} {f : Addr} {od an : Option Addr} {sl : Array (Option Value)} {oc kV dc pm cd ct : Value} (X : K.In h) (G : h.Ns mainGlobals mg)
    (a : PySem.W.nsIn K mainGlobals x = some (some (.ref f))) (l : K.lookup f = some ⟨oc, od, .func (PySem.W.fnOf x x (defArgs st) (defBody st) (defScope st) .none kV dc pm an cd ct), sl⟩) (c : PySem.W.codeIn K cd x = true) (k : PySem.W.keepIn K (.ref f) = true) : At K mg x x st :=
  ⟨f, _, PySem.W.mg_of X G a, fun_mk l c k⟩
theorem At.has {P : Program} {w : World} {K : PySem.W.Frag} {mg : Str → Option Value} {base : Heap} {x : Str} {st : Stmt} {ps : List Str} {k : Nat} {sp : Sp} (a : At K mg x x st)
    (b : ∀ (kV doc pm : Value) (an : Option Addr) (cdv ct : Value) (us : List Value), us.length = ps.length → bindArgs (PySem.W.fnOf x x (defArgs st) (defBody st) (defScope st) .none kV doc pm an cdv ct) ⟨us, []⟩ = pure (ps.zip us))
    (h : ∀ {f : Addr} {fd : FuncData}, mg x = some (.ref f) → Binds K fd ps [] → Fun K x x st f fd → FnOk P w K mg base (L2.CX P w) k f fd ps sp) : Has P w K mg base x ps k sp :=
  let ⟨f, fd, e, F⟩ := a
  ⟨f, fd, e, F.kp, F.binds b, h e (F.binds b) F⟩
/-- the law's promise: nothing is raised -/
def spLaw (S : FN) (K : PySem.W.Frag) : Sp := fun vs H Q _ => ∀ cls : Str → Addr, spU (gK K cls) 1 S vs H Q (fun _ _ _ => False)
theorem to0 {P : Program} {w : World} {K : PySem.W.Frag} {mg : Str → Option Value} {base : Heap} {k : Nat} {f : Addr} {fd : FuncData} {ps : List Str} {S : FN} {cls : Str → Addr} (F : FnOk P w K mg base (L2.CX P w) k f fd ps (spU (gK K cls) 1 S)) : FnOk P w K mg base CX0 k f fd ps (spLaw S K) :=
  ⟨fun vs H Q E h => F.len vs H Q _ (h cls), fun A outer s H args us vs Q E hr he hb hv hs => codeAny_mono (F.run A outer s H args us vs Q (fun _ _ _ => False) hr he hb hv (hs cls)) fun r s' h => by
    cases r with
    | ok fl => cases fl <;> exact h
    | error e =>
      obtain ⟨_, _, _, _, _, _, _, _, _, _, _, _, z⟩ := h
      exact z.elim⟩
theorem law_sp {K : PySem.W.Frag} {cls : Str → Addr} {S : FN} {H : Hp} {a : Addr} {ns : List Int} (hO : Only H) (h : SqL K H a (ns.map V.int)) (hS : ∃ om, S [.frz (ns.map D.int)] [] = .ok (.bl true) om) :
    spU (gK K cls) 1 S [.ref a] H (fun v _ => v = .bl true) (fun _ _ _ => False) := by
  obtain ⟨om, hS⟩ := hS
  refine ⟨rfl, fun _ => False, [.frz (ns.map D.int)], [], [], ⟨rfl, fun i c a h1 => by simp at h1, fun i j a ci cj h1 => by simp at h1, fun a h => h.elim⟩, .cons (.frz ?_ RepVs.of_ints) .nil, ?_⟩
  · rcases h with (h | ⟨o, h⟩) | h
    · rcases hO a with q | ⟨o, xs, q⟩
      · rw [h] at q; cases q
      · rw [h] at q; cases q
    · exact .inl ⟨o, h⟩
    · exact .inr h
  · rw [hS]
    intro v H' al' s o r
    cases r
    rfl
/-! ### the evaluator's equations, for simp only -/
section
variable {τ υ : Type} {t : τ} {r : Rho} {o : Om} {x : DX} {d : D} {ds : List D}
theorem bind_ok (f : τ → Rho → Om → Res υ) : (Res.ok t r o).bind f = f t r o := rfl
theorem bind_xc (f : τ → Rho → Om → Res υ) : (Res.xc x r o : Res τ).bind f = .xc x r o := rfl
theorem of_ok (f : τ → Rho → Om → RS) : RS.of (Res.ok t r o) f = f t r o := rfl
theorem of_xc (f : τ → Rho → Om → RS) : RS.of (Res.xc x r o : Res τ) f = .xc x r o := rfl
def RS.seq (s : RS) (v : US) : RS := match s with
  | .nx ρ ω => v ρ ω
  | .bk ρ ω => .bk ρ ω
  | .ct ρ ω => .ct ρ ω
  | .rt d ω => .rt d ω
  | .rto d ω => .rto d ω
  | .xc x ρ ω => .xc x ρ ω
  | .no => .no
theorem sSeq_eq (u v : US) : sSeq u v r o = (u r o).seq v := rfl
theorem seq_nx (v : US) : (RS.nx r o).seq v = v r o := rfl
theorem seq_rt (v : US) : (RS.rt d o).seq v = .rt d o := rfl
theorem seq_rto (v : US) : (RS.rto ds o).seq v = .rto ds o := rfl
theorem seq_xc (v : US) : (RS.xc x r o).seq v = .xc x r o := rfl
theorem seq_bk (v : US) : (RS.bk r o).seq v = .bk r o := rfl
theorem seq_ct (v : US) : (RS.ct r o).seq v = .ct r o := rfl
theorem seq_ite {c : Prop} [Decidable c] (a b : RS) (v : US) : (if c then a else b).seq v = if c then a.seq v else b.seq v := by split <;> rfl
theorem fr_nx : (RS.nx r o).fr = .ok .non o := rfl
theorem fr_rt : (RS.rt d o).fr = .ok d o := rfl
theorem fr_rto : (RS.rto ds o).fr = .ok (.lst ds) o := rfl
theorem fr_xc : (RS.xc x r o).fr = .xc x o := rfl
theorem fo_rto : (RS.rto ds o).fo = .ok (.lst ds) o := rfl
theorem fo_xc : (RS.xc x r o).fo = .xc x o := rfl
theorem res_ok : (FR.ok d o).res r = .ok d r o := rfl
theorem res_xc : (FR.xc x o).res r = .xc x r o := rfl
theorem res0_ok : (FR.ok d o).res0 r = .ok d r o := rfl
theorem own_ok : (FR.ok (.lst ds) o).own r = .ok ds r o := rfl
theorem own_xc : (FR.xc x o).own r = .xc x r o := rfl
theorem liftO_some : liftO (some t) r o = .ok t r o := rfl
theorem dBool_bl {b : Bool} : dBool (.bl b) = some b := rfl
theorem items_lst : dItems (.lst ds) = some ds := rfl
theorem items_frz : dItems (.frz ds) = some ds := rfl
theorem goL_nil (G : UG) (b : US) : goL G b [] r o = .nx r o := rfl
/-- one turn -/
def RS.turn (s : RS) (k : US) : RS := match s with
  | .nx ρ ω => k ρ ω
  | .ct ρ ω => k ρ ω
  | .bk ρ ω => .nx ρ ω
  | .rt d ω => .rt d ω
  | .rto d ω => .rto d ω
  | .xc x ρ ω => .xc x ρ ω
  | .no => .no
theorem turn_nx (v : US) : (RS.nx r o).turn v = v r o := rfl
theorem turn_ct (v : US) : (RS.ct r o).turn v = v r o := rfl
theorem turn_bk (v : US) : (RS.bk r o).turn v = .nx r o := rfl
theorem turn_rt (v : US) : (RS.rt d o).turn v = .rt d o := rfl
theorem turn_rto (v : US) : (RS.rto ds o).turn v = .rto ds o := rfl
theorem turn_xc (v : US) : (RS.xc x r o).turn v = .xc x r o := rfl
theorem goL_cons (G : UG) (b : US) {ρ1 : Rho} (h : G d r = some ρ1) : goL G b (d :: ds) r o = (b ρ1 o).turn (goL G b ds) := by
  simp only [goL, h]
  cases b ρ1 o <;> rfl
theorem sFor_eq (s : UI) (G : UG) (b : US) : sFor s G b r o = RS.of (s r o) fun t r o => goL G b t r o := rfl
theorem goW_succ (c : UT) (b : US) (n : Nat) : goW c b (n + 1) r o = RS.of (c r o) fun k r o => if k = true then (b r o).turn (goW c b n) else .nx r o := by
  simp only [goW]
  congr 1
theorem sWhile_eq (f : Rho → Om → Nat) (c : UT) (b : US) : sWhile f c b r o = goW c b (f r o) r o := rfl
end
theorem atN_zero {α : Type} (x : α) (r : List α) : atN (x :: r) 0 = some x := rfl
theorem atN_one {α : Type} (x y : α) (r : List α) : atN (x :: y :: r) 1 = some y := rfl
theorem atN_two {α : Type} (x y z : α) (r : List α) : atN (x :: y :: z :: r) 2 = some z := rfl
theorem atN_three {α : Type} (x y z w : α) (r : List α) : atN (x :: y :: z :: w :: r) 3 = some w := rfl
theorem divOk_small {i j : Int} (h : j.natAbs < 1073741824) : divOk i j = true := by
  unfold divOk
  rw [PyProof.noPylong_small h]
  rfl
theorem mulOk_r {i j : Int} (h : j.natAbs < 18446744073709551616) : mulOk i j = true := by
  unfold mulOk
  simp [h]
theorem mulOk_l {i j : Int} (h : i.natAbs < 18446744073709551616) : mulOk i j = true := by
  unfold mulOk
  simp [h]
theorem dMul_int {i j : Int} (h : mulOk i j = true) : dMul (.int i) (.int j) = some (.int (i * j)) := by
  show (if mulOk i j = true then some (D.int (i * j)) else none) = _
  rw [if_pos h]
theorem dDiv_int {i j : Int} (h0 : j ≠ 0) (h : divOk i j = true) : dDiv (.int i) (.int j) = some (.int (i.fdiv j)) := by
  show (if j ≠ 0 ∧ divOk i j = true then some (D.int (i.fdiv j)) else none) = _
  rw [if_pos ⟨h0, h⟩]
theorem dDiv_pos {i j : Int} (h0 : 0 < j) (h : j < 1073741824) : dDiv (.int i) (.int j) = some (.int (i / j)) := by
  rw [dDiv_int (by omega) (divOk_small (by omega)), Int.fdiv_eq_ediv_of_nonneg i (by omega)]
theorem dMod_int {i j : Int} (h0 : j ≠ 0) : dMod (.int i) (.int j) = some (.int (i.fmod j)) := by
  show (if j ≠ 0 then some (D.int (i.fmod j)) else none) = _
  rw [if_pos h0]
theorem dMod_pos {i j : Int} (h0 : 0 < j) : dMod (.int i) (.int j) = some (.int (i % j)) := by
  rw [dMod_int (by omega), Int.fmod_eq_emod_of_nonneg i (by omega)]
theorem dAdd_int {i j : Int} : dAdd (.int i) (.int j) = some (.int (i + j)) := rfl
theorem dSub_int {i j : Int} : dSub (.int i) (.int j) = some (.int (i - j)) := rfl
theorem dNeg_int {i : Int} : dNeg (.int i) = some (.int (-i)) := rfl
theorem dLt_int {i j : Int} : dLt (.int i) (.int j) = some (.bl (decide (i < j))) := rfl
theorem dLe_int {i j : Int} : dLe (.int i) (.int j) = some (.bl (decide (i ≤ j))) := rfl
theorem dGt_int {i j : Int} : dGt (.int i) (.int j) = some (.bl (decide (j < i))) := rfl
theorem dGe_int {i j : Int} : dGe (.int i) (.int j) = some (.bl (decide (j ≤ i))) := rfl
theorem dEq_int {i j : Int} : dEq (.int i) (.int j) = some (.bl (decide (i = j))) := rfl
theorem dNe_int {i j : Int} : dNe (.int i) (.int j) = some (.bl (!decide (i = j))) := rfl
theorem dEq_bl {i j : Bool} : dEq (.bl i) (.bl j) = some (.bl (decide (i = j))) := rfl
theorem dNe_bl {i j : Bool} : dNe (.bl i) (.bl j) = some (.bl (!decide (i = j))) := rfl
theorem dEq_nil {xs : List D} : dEq (.lst xs) (.lst []) = some (.bl (decide (xs.length = 0))) := rfl
theorem dNe_nil {xs : List D} : dNe (.lst xs) (.lst []) = some (.bl (!decide (xs.length = 0))) := rfl
theorem dIx_lst {xs : List D} {i : Int} : dIx (.lst xs) (.int i) = atN xs i := rfl
theorem dIx_tup {xs : List D} {i : Int} : dIx (.tup xs) (.int i) = atN xs i := rfl
theorem fAbs_int {i : Int} : fAbs [.int i] = some (.int (if i < 0 then -i else i)) := rfl
theorem fInt_bl {b : Bool} : fInt [.bl b] = some (.int (if b then 1 else 0)) := rfl
theorem fInt_int {i : Int} : fInt [.int i] = some (.int i) := rfl
theorem fLen_lst {xs : List D} : fLen [.lst xs] = some (.int xs.length) := rfl
theorem fLen_frz {xs : List D} : fLen [.frz xs] = some (.int xs.length) := rfl
theorem fLen_tup {xs : List D} : fLen [.tup xs] = some (.int xs.length) := rfl
theorem big_of {n : Nat} (h : n ≤ 1000) : n ≤ big := Nat.le_trans h (by decide)
end Dv
namespace Dv
open PySem PySem.Spec PyProof.Rows L2
theorem setN_zero {x d : D} {r : List D} : setN (x :: r) 0 d = some (d :: r) := rfl
theorem setN_one {x y d : D} {r : List D} : setN (x :: y :: r) 1 d = some (x :: d :: r) := rfl
theorem popAt_zero {x : D} {r : List D} : mPopAt (x :: r) [.int 0] = some (x, r) := rfl
theorem len_zero {α : Type} : decide (([] : List α).length = 0) = true := rfl
theorem len_succ {α : Type} {x : α} {r : List α} : decide ((x :: r).length = 0) = false := rfl
end Dv
namespace Dv
theorem le_big {n : Nat} (h : n ≤ 1000) : (n ≤ big) = True := eq_true (big_of h)
theorem lt_big {n : Nat} (h : n < 1000) : (n < big) = True := eq_true (Nat.lt_of_lt_of_le h (by decide))
end Dv
namespace Dv
theorem dMul_r {i j : Int} (h1 : -18446744073709551616 < j) (h2 : j < 18446744073709551616) : dMul (.int i) (.int j) = some (.int (i * j)) := dMul_int (mulOk_r (by omega))
theorem dMul_l {i j : Int} (h1 : -18446744073709551616 < i) (h2 : i < 18446744073709551616) : dMul (.int i) (.int j) = some (.int (i * j)) := dMul_int (mulOk_l (by omega))
end Dv

namespace Dv
open PySem PySem.Spec PyProof.Rows L2

/-! ### another caught exception -/
section
variable {K : PySem.W.Frag} {c : Str → Addr} {e e' : Option (Nat × Addr × Str)} {al : List Addr} {L : Addr → Prop} {H : Hp}
mutual
theorem RepV.conv : ∀ {v : V} {d : D}, RepV ⟨K, c, e⟩ al L H v d → RepV ⟨K, c, e'⟩ al L H v d
  | _, _, .non => .non
  | _, _, .bl => .bl
  | _, _, .int => .int
  | _, _, .str => .str
  | _, _, .tup h r => .tup h (RepVs.conv r)
  | _, _, .lst h n r => .lst h n (RepVs.conv r)
  | _, _, .frz h r => .frz h (RepVs.conv r)
  | _, _, .obj h n r => .obj h n (RepFs.conv r)
  | _, _, .loc h => .loc h
theorem RepVs.conv : ∀ {vs : List V} {ds : List D}, RepVs ⟨K, c, e⟩ al L H vs ds → RepVs ⟨K, c, e'⟩ al L H vs ds
  | _, _, .nil => .nil
  | _, _, .cons h r => .cons (RepV.conv h) (RepVs.conv r)
theorem RepFs.conv : ∀ {vs : List (Str × V)} {ds : List (Str × D)}, RepFs ⟨K, c, e⟩ al L H vs ds → RepFs ⟨K, c, e'⟩ al L H vs ds
  | _, _, .nil => .nil
  | _, _, .cons h r => .cons (RepV.conv h) (RepFs.conv r)
end
theorem CellR.conv {a : Addr} : ∀ {x : Cell}, CellR ⟨K, c, e⟩ al L H a x → CellR ⟨K, c, e'⟩ al L H a x
  | .gone, _ => trivial
  | .lst _, ⟨vs, h, r⟩ => ⟨vs, h, r.conv⟩
  | .ins _ _, ⟨dx, fvs, h, r⟩ => ⟨dx, fvs, h, r.conv⟩
  | .tab _, h => h
theorem Rst.conv {R : Addr → Prop} {σ : St} {ρ : Rho} {om : Om} (S : Rst ⟨K, c, e⟩ R al σ ρ om H) (sl : Sle ⟨K, c, e'⟩ σ ρ) : Rst ⟨K, c, e'⟩ R al σ ρ om H :=
  ⟨⟨S.o.len, fun i x a h1 h2 => (S.o.cel i x a h1 h2).conv, S.o.inj, S.o.rsv⟩, sl, fun i d h => let ⟨v, h1, h2⟩ := S.val i d h; ⟨v, h1, h2.conv⟩, fun i ds h => let ⟨a, vs, h1, h2, h3⟩ := S.own i ds h; ⟨a, vs, h1, h2, h3.conv⟩, S.odj, S.ocl⟩
end
section
variable {g : G} {R : Addr → Prop} {al al' : List Addr} {om om' : Om} {σ σ' : St} {ρ ρ' : Rho} {H H' : Hp} {W : WX} {X : Cx} {M M' : Addr → Prop} {i : Nat} {a : Addr}
/-- slots that hold nothing of note may differ -/
theorem Rst.forget (S : Rst g R al σ ρ om H) (i : Nat) (w : Option V) : Rst g R al (σ.set i w) (ρ.set i none) om H ∧ Step al (Mt al om σ ρ) H al (Mt al om (σ.set i w) (ρ.set i none)) H := by
  have f : ∀ {j : Nat} {s : Sl}, (ρ.set i none)[j]? = some (some s) → j ≠ i ∧ ρ[j]? = some (some s) := fun {j s} h => by
    rcases getset h with ⟨rfl, q⟩ | ⟨n, q⟩
    · cases q
    · exact ⟨n, q⟩
  have fs : ∀ {j : Nat}, j ≠ i → (σ.set i w)[j]? = σ[j]? := fun n => by rw [List.getElem?_set_ne (Ne.symm n)]
  have sub : ∀ b, OwnA (σ.set i w) (ρ.set i none) b → OwnA σ ρ b := fun b ⟨j, dj, h1, h2⟩ => ⟨j, dj, (f h1).2, by rw [fs (f h1).1] at h2; exact h2⟩
  have st : Step al (Mt al om σ ρ) H al (Mt al om (σ.set i w) (ρ.set i none)) H := .grow (fun b o h n => h) fun b m => by
    rcases m with m | m
    · exact .inl (.inl m)
    · exact .inl (.inr (sub b m))
  refine ⟨S.chg st (fun b h => rfl) (S.sl.set2 fun _ z => nomatch z) (fun b h => (S.o.rsv b h).2) (fun j d h => ?_) (fun j dj h => ?_) (fun j k b dj dk h1 h2 h3 h4 => ?_) (fun b h => S.ocl b (sub b h)), st⟩
  · exact .inl ⟨(f h).2, fs (f h).1⟩
  · exact .inl ⟨(f h).2, fs (f h).1, fun _ _ => rfl⟩
  · rw [fs (f h1).1] at h3
    rw [fs (f h2).1] at h4
    exact S.odj j k b _ _ (f h1).2 (f h2).2 h3 h4
/-- the caught one in its slot -/
theorem Rst.caught {K : PySem.W.Frag} {c : Str → Addr} (S : Rst ⟨K, c, none⟩ R al σ ρ om H) (i : Nat) (a : Addr) (x : DX) :
    Rst ⟨K, c, some (i, a, x.c)⟩ R al (σ.set i (some (.ref a))) (ρ.set i (some (.exc x))) om H ∧ Step al (Mt al om σ ρ) H al (Mt al om (σ.set i (some (.ref a))) (ρ.set i (some (.exc x)))) H := by
  obtain ⟨S1, s1⟩ := S.forget i (some (.ref a))
  have f : ∀ {j : Nat}, (∀ d, (ρ.set i (some (.exc x)))[j]? = some (some (.val d)) → (ρ.set i none)[j]? = some (some (.val d))) ∧ ∀ d, (ρ.set i (some (.exc x)))[j]? = some (some (.own d)) → (ρ.set i none)[j]? = some (some (.own d)) := fun {j} => by
    constructor <;> intro d h <;>
    · rcases getset h with ⟨rfl, q⟩ | ⟨n, q⟩
      · cases q
      · rw [List.getElem?_set_ne (Ne.symm n)]; exact q
  have sub : ∀ b, OwnA (σ.set i (some (.ref a))) (ρ.set i (some (.exc x))) b → OwnA (σ.set i (some (.ref a))) (ρ.set i none) b := fun b ⟨j, dj, h1, h2⟩ => ⟨j, dj, f.2 _ h1, h2⟩
  have st : Step al (Mt al om σ ρ) H al (Mt al om (σ.set i (some (.ref a))) (ρ.set i (some (.exc x)))) H := s1.trans (.grow (fun b o h n => h) fun b m => by
    rcases m with m | m
    · exact .inl (.inl m)
    · exact .inl (.inr (sub b m)))
  have ll : ∀ b, LL R al om (σ.set i (some (.ref a))) (ρ.set i (some (.exc x))) b → LL R al om (σ.set i (some (.ref a))) (ρ.set i none) b := fun b m => by
    rcases m with (m | m) | m
    · exact .inl (.inl m)
    · exact .inl (.inr (sub b m))
    · exact .inr m
  have cr : Car (⟨K, c, none⟩ : G) al (LL R al om (σ.set i (some (.ref a))) (ρ.set i none)) H al (LL R al om (σ.set i (some (.ref a))) (ρ.set i (some (.exc x)))) H := carL ll
  refine ⟨⟨⟨S1.o.len, fun j y b h1 h2 => ((S1.o.cel j y b h1 h2).car cr (fun _ e _ => e) (fun _ _ _ e _ => e) (fun _ e _ => e)).conv, S1.o.inj, S1.o.rsv⟩, ⟨?_, fun j b m y e q => ?_⟩, fun j d h => ?_, fun j ds h => ?_, fun j k b dj dk h1 h2 => S1.odj j k b dj dk (f.2 _ h1) (f.2 _ h2), fun b h => S1.ocl b (sub b h)⟩, st⟩
  · have := S1.sl.len
    rw [List.length_set] at this ⊢
    rw [this, List.length_set, List.length_set]
  · cases e
    have := List.getElem?_eq_some_iff.mp q
    obtain ⟨hl, _⟩ := this
    have e2 := S.sl.len
    rw [List.length_set] at hl
    rw [List.getElem?_set_self hl] at q
    cases q
    refine ⟨?_, rfl⟩
    rw [List.getElem?_set_self]
    omega
  · obtain ⟨v, h1, h2⟩ := S1.val j d (f.1 _ h)
    exact ⟨v, h1, (h2.car cr).conv⟩
  · obtain ⟨b, vs, h1, h2, h3⟩ := S1.own j ds (f.2 _ h)
    exact ⟨b, vs, h1, h2, (h3.car cr).conv⟩
/-- .. and gone -/
theorem Rst.uncaught {K : PySem.W.Frag} {c : Str → Addr} {m : Str} (S : Rst ⟨K, c, some (i, a, m)⟩ R al σ ρ om H) : Rst ⟨K, c, none⟩ R al (σ.set i none) (ρ.set i none) om H ∧ Step al (Mt al om σ ρ) H al (Mt al om (σ.set i none) (ρ.set i none)) H := by
  obtain ⟨S1, s1⟩ := S.forget i none
  exact ⟨S1.conv ⟨S1.sl.len, fun _ _ _ _ e => nomatch e⟩, s1⟩
/-! ### exceptions raised and caught -/
/-- what is known of the classes c: whether each is a sub class of cv -/
def KnOk (K : PySem.W.Frag) (cls : Str → Addr) (cv : Value) : List (Str × Bool) → Prop
  | [] => True
  | (c, b) :: r => PySem.W.subIn K (.ref (cls c)) cv = some b ∧ KnOk K cls cv r
theorem KnOk.get {K : PySem.W.Frag} {cls : Str → Addr} {cv : Value} : ∀ {l : List (Str × Bool)}, KnOk K cls cv l → ∀ {c : Str} {b : Bool}, l.lookup c = some b → PySem.W.subIn K (.ref (cls c)) cv = some b
  | [], _, _, _, h => by cases h
  | (c', b') :: r, h, c, b, e => by
    by_cases q : (c == c') = true
    · simp [List.lookup, q] at e
      subst e
      rw [beq_iff_eq.mp q]
      exact h.1
    · simp only [Bool.not_eq_true] at q
      simp [List.lookup, q] at e
      exact h.2.get e
theorem KnOk.nil {K : PySem.W.Frag} {cls : Str → Addr} {cv : Value} : KnOk K cls cv [] := trivial
theorem KnOk.cons {K : PySem.W.Frag} {cls : Str → Addr} {cv : Value} {c : Str} {b : Bool} {r : List (Str × Bool)} (h : PySem.W.subIn K (.ref (cls c)) cv = some b) (hr : KnOk K cls cv r) : KnOk K cls cv ((c, b) :: r) := ⟨h, hr⟩
/-- an own class of exceptions -/
structure ExF (K : PySem.W.Frag) (mg : Str → Option Value) (cls : Str → Addr) (n : Str) : Prop where
  g : mg n = some (.ref (cls n))
  k : PySem.W.keepIn K (.ref (cls n)) = true
  b : PySem.W.subIn K (.ref (cls n)) (.type "BaseException") = some true
  t : PySem.W.typeIn K (.ref (cls n)) = some (.type "type")
  i : PySem.W.isClsIn K (cls n) = true
/-- .. without an own __init__ -/
structure ExM (K : PySem.W.Frag) (mg : Str → Option Value) (cls : Str → Addr) (n : Str) : Prop extends ExF K mg cls n where
  x : PySem.W.excIn K (cls n) [.type "ValueError", .type "Exception", .type "BaseException", .type "object"] "ValueError.__new__" = true
theorem ExF.exm {K : PySem.W.Frag} {mg : Str → Option Value} {cls : Str → Addr} {n : Str} (F : ExF K mg cls n) {cv : Value} {b : Bool} (h : PySem.W.subIn K cv (.ref (cls n)) = some b) : PySem.W.exmOne K cv (.ref (cls n)) = some b := by
  have e1 : (PySem.W.subIn K (.ref (cls n)) (.type "BaseException") == some true) = true := by rw [F.b] <;> rfl
  have e2 : ((PySem.W.clsIn K (cls n)).isSome && PySem.W.typeIn K (.ref (cls n)) == some (.type "type")) = true := by
    have h2' : (PySem.W.clsIn K (cls n)).isSome = true := F.i
    rw [h2', F.t] <;> rfl
  show (if (PySem.W.subIn K (.ref (cls n)) (.type "BaseException") == some true) = true then (if ((PySem.W.clsIn K (cls n)).isSome && PySem.W.typeIn K (.ref (cls n)) == some (.type "type")) = true then PySem.W.subIn K cv (.ref (cls n)) else none) else none) = some b
  rw [if_pos e1, if_pos e2]
  exact h
theorem ps_raiseU {x m : Str} {j : Nat} {p p2 pos pos' : Pos} (F : ExM X.K X.mg g.cls x) (hc : X.calm = true) (tk : Takes X W) (hg : Gl X x) (hdb : (x == ("__debug__" : Str)) = false := by decide) : PS X (.Raise (some (.Call (.Name x p) [.Constant (.str m) j p2] [] pos)) none pos') (tS g W (sRaise ⟨x, []⟩)) :=
  psImp (ps_raise hc tk (pmk_own PySem.F.excBase_ValueError F.x F.g F.k (raises_own F.b F.t) hg hdb)) fun D σ H ⟨R, ρ, om, al, S, P⟩ => P (.ref (g.cls x)) none σ H al .refl S ⟨rfl, .inl ⟨rfl, rfl⟩⟩
/-- what follows an except suite -/
def RS.clr (i : Nat) : RS → RS
  | .nx r o => .nx (r.set i none) o
  | .bk r o => .bk (r.set i none) o
  | .ct r o => .ct (r.set i none) o
  | .rt d o => .rt d o
  | .rto d o => .rto d o
  | _ => .no
def sTryAs (i : Nat) (kn : List (Str × Bool)) (b h : US) : US := fun ρ ω => match b ρ ω with
  | .xc x ρ ω => match kn.lookup x.c with
    | some true => if x.fs.isEmpty then (h (ρ.set i (some (.exc x))) ω).clr i else .no
    | some false => .xc x ρ ω
    | none => .no
  | r => r
def RS.cln : RS → RS
  | .xc _ _ _ => .no
  | r => r
def sTry (kn : List (Str × Bool)) (b h : US) : US := fun ρ ω => match b ρ ω with
  | .xc x ρ ω => match kn.lookup x.c with
    | some true => (h ρ ω).cln
    | some false => .xc x ρ ω
    | none => .no
  | r => r
abbrev WF : WX := fun _ _ _ _ => False
variable {x n : Str} {body suite : List Stmt} {b₀ : Stmt} {np pos pos' : Pos} {ub us : US} {kn : List (Str × Bool)} {K : PySem.W.Frag} {cls : Str → Addr}
theorem ps_tryAsU (i : Nat) (hs : X.stack = X.env :: X.outer) (hf : X.env.frame = some X.env.locals) (hN : X.N.Nodup) (hi : X.N[i]? = some n) (hln : X.env.kindOf n = some .local) (hK : X.K = K) (F : ExF X.K X.mg cls x) (kn : List (Str × Bool)) (hkn : KnOk X.K cls (.ref (cls x)) kn) (hg : Gl X x) (tk : Takes X W)
    (hb : ∀ (W : WX) (pn : List (Addr × Obj)) (xe : Value → Shared → Prop), Takes (X.tr pn xe) W → PassesOwn (model X.prog X.w) X.A X.env xe → PSs (X.tr pn xe) body (tS (gK K cls) W ub))
    (hsu : ∀ (a : Addr) (oe : Obj) (c : Str) (pn : List (Addr × Obj)), Zc (.ref (cls c)) none oe → (∃ vs, oe.data = .fields vs) → kn.lookup c = some true → PSs (X.suite a ((a, oe) :: pn)) (b₀ :: suite) (tS ⟨K, cls, some (i, a, c)⟩ WF us))
    (hdb : (x == ("__debug__" : Str)) = false := by decide) :
    PS X (.Try body [.ExceptHandler (some (.Name x np)) (some n) (b₀ :: suite) pos'] [] [] pos) (tS (gK K cls) W (sTryAs i kn ub us)) := by
  refine psImp (ps_try_as (i := i) (tb := fun W => tS (gK K cls) W ub) (ts := fun a cv d D σ H => ∃ c, cv = .ref (cls c) ∧ kn.lookup c = some true ∧ d = none ∧ tS ⟨K, cls, some (i, a, c)⟩ WF us D σ H) (Wout := W) (c := .ref (cls x)) hs hf hN hi hln ⟨hg, hdb, .inl F.g⟩ tk hb (fun a oe cv d pn hz hd => ⟨fun pins s σ H D I h => ?_⟩)) ?_
  · obtain ⟨c, rfl, hl, rfl, h⟩ := h
    exact (hsu a oe c pn hz hd hl).run pins s σ H D I h
  · intro D σ H ⟨R, ρ, om, al, S, P⟩
    refine ⟨R, ρ, om, al, S, ?_⟩
    unfold sTryAs at P
    cases e : ub ρ om with
    | nx ρ' om' => rw [e] at P; exact P
    | bk ρ' om' => rw [e] at P; exact P
    | ct ρ' om' => rw [e] at P; exact P
    | rt d om' => rw [e] at P; exact P
    | rto d om' => rw [e] at P; exact P
    | no => rw [e] at P; exact P
    | xc y ρ' om' =>
      rw [e] at P
      dsimp only at P
      intro cv dd σ1 H1 al1 s1 S1 r1
      cases el : kn.lookup y.c with
      | none => rw [el] at P; exact P.elim
      | some b =>
        rw [el] at P
        refine ⟨b, ?_, fun hb1 a ha => ?_, fun hb1 => ?_⟩
        · rw [r1.1]; exact F.exm (hkn.get el)
        · subst hb1
          dsimp only at P
          split at P
          · rename_i he
            have hd : dd = none := by
              rcases r1.2 with q | ⟨_, _, _, q, _⟩
              · exact q.2
              · exact absurd (List.isEmpty_iff.mp he) q
            refine ⟨y.c, r1.1, el, hd, ?_⟩
            obtain ⟨S2, s2⟩ := S1.caught i a y
            refine ⟨R, _, om', al1, S2, ?_⟩
            cases eh : us (ρ'.set i (some (.exc y))) om' with
            | nx ρ3 om3 =>
              rw [eh] at P
              intro σ3 H3 al3 s3 S3
              obtain ⟨S4, s4⟩ := S3.uncaught
              exact P _ H3 al3 (s1.trans (s2.trans (s3.trans s4))) S4
            | bk ρ3 om3 =>
              rw [eh] at P
              intro σ3 H3 al3 s3 S3
              obtain ⟨S4, s4⟩ := S3.uncaught
              exact P _ H3 al3 (s1.trans (s2.trans (s3.trans s4))) S4
            | ct ρ3 om3 =>
              rw [eh] at P
              intro σ3 H3 al3 s3 S3
              obtain ⟨S4, s4⟩ := S3.uncaught
              exact P _ H3 al3 (s1.trans (s2.trans (s3.trans s4))) S4
            | rt d om3 =>
              rw [eh] at P
              intro v σ3 ρ3 H3 al3 s3 S3 r3
              obtain ⟨S4, s4⟩ := S3.uncaught
              refine P v _ _ H3 al3 (s1.trans (s2.trans (s3.trans s4))) S4 ?_
              exact (s4.rep S3 r3).conv
            | rto d om3 =>
              rw [eh] at P
              intro p vs σ3 ρ3 H3 al3 s3 S3 hp1 hp2 r3
              obtain ⟨S4, s4⟩ := S3.uncaught
              refine P p vs _ _ H3 al3 (s1.trans (s2.trans (s3.trans ⟨s4.ext, fun b u h n => s4.keep b u h fun m => n (.inl m), fun b m => ?_⟩))) S4 hp1 hp2 ?_
              · rcases m with m | m
                · exact (s4.fresh b m).imp .inl id
                · exact .inl (.inr m)
              · exact (s4.reps S3 r3).conv
            | xc _ _ _ => rw [eh] at P; exact P.elim
            | no => rw [eh] at P; exact P.elim
          · exact P.elim
        · subst hb1
          exact P cv dd σ1 H1 al1 s1 S1 r1
theorem ps_tryU (hs : X.stack = X.env :: X.outer) (hf : X.env.frame = some X.env.locals) (hK : X.K = K) (F : ExF X.K X.mg cls x) (kn : List (Str × Bool)) (hkn : KnOk X.K cls (.ref (cls x)) kn) (hg : Gl X x) (tk : Takes X W)
    (hb : ∀ (W : WX) (pn : List (Addr × Obj)) (xe : Value → Shared → Prop), Takes (X.tr pn xe) W → PassesOwn (model X.prog X.w) X.A X.env xe → PSs (X.tr pn xe) body (tS (gK K cls) W ub))
    (hsu : ∀ (a : Addr) (oe : Obj) (pn : List (Addr × Obj)), PSs (X.suite a ((a, oe) :: pn)) (b₀ :: suite) (tS (gK K cls) WF us))
    (hdb : (x == ("__debug__" : Str)) = false := by decide) :
    PS X (.Try body [.ExceptHandler (some (.Name x np)) none (b₀ :: suite) pos'] [] [] pos) (tS (gK K cls) W (sTry kn ub us)) := by
  refine psImp (ps_try_only (tb := fun W => tS (gK K cls) W ub) (ts := fun a cv d => tS (gK K cls) WF us) (Wout := W) (c := .ref (cls x)) hs hf ⟨hg, hdb, .inl F.g⟩ tk hb (fun a oe cv d pn hz hd => hsu a oe pn)) ?_
  intro D σ H ⟨R, ρ, om, al, S, P⟩
  refine ⟨R, ρ, om, al, S, ?_⟩
  unfold sTry at P
  cases e : ub ρ om with
  | nx ρ' om' => rw [e] at P; exact P
  | bk ρ' om' => rw [e] at P; exact P
  | ct ρ' om' => rw [e] at P; exact P
  | rt d om' => rw [e] at P; exact P
  | rto d om' => rw [e] at P; exact P
  | no => rw [e] at P; exact P
  | xc y ρ' om' =>
    rw [e] at P
    dsimp only at P
    intro cv dd σ1 H1 al1 s1 S1 r1
    cases el : kn.lookup y.c with
    | none => rw [el] at P; exact P.elim
    | some b =>
      rw [el] at P
      refine ⟨b, ?_, fun hb1 a ha => ?_, fun hb1 => ?_⟩
      · rw [r1.1]; exact F.exm (hkn.get el)
      · subst hb1
        refine ⟨R, _, om', al1, S1, ?_⟩
        have P' := PostS.step s1 P
        dsimp only at P'
        cases eh : us ρ' om' with
        | nx ρ3 om3 => rw [eh] at P'; exact P'
        | bk ρ3 om3 => rw [eh] at P'; exact P'
        | ct ρ3 om3 => rw [eh] at P'; exact P'
        | rt d om3 => rw [eh] at P'; exact P'
        | rto d om3 => rw [eh] at P'; exact P'
        | xc _ _ _ => rw [eh] at P'; exact P'.elim
        | no => rw [eh] at P'; exact P'.elim
      · subst hb1
        exact P cv dd σ1 H1 al1 s1 S1 r1
variable {e : Expr}
/-- isinstance(n, C), n the caught one in slot i -/
def uIsE (i : Nat) (kn : List (Str × Bool)) : UE := fun ρ ω => match ρ[i]? with
  | some (some (.exc x)) => match kn.lookup x.c with
    | some b => .ok (.bl b) ρ ω
    | none => .no
  | _ => .no
theorem kit_of {cv : Value} {b : Bool} {c : Value} (h : PySem.W.subIn K c cv = some b) (hc : PySem.W.kitCls K c cv = PySem.W.subIn K c cv) (hs : PySem.W.subIn K c c = some true) : PySem.W.kitOne K c cv = some b := by
  unfold PySem.W.kitOne
  split
  · rename_i q
    rw [← beq_iff_eq.mp q, hs] at h
    exact h
  · rw [hc]; exact h
theorem pu_isE (i : Nat) (kn : List (Str × Bool)) {a : Addr} {oe : Obj} {c C m : Str} {pn : List (Addr × Obj)} {cv : Value} {vc : V} {p p1 p2 pos : Pos} (hz : Zc (.ref (cls c)) none oe) (hf : ∃ vs, oe.data = .fields vs) (EC : ExcC X.K (cls c)) (hs : PySem.W.subIn X.K (.ref (cls c)) (.ref (cls c)) = some true)
    (hkn : KnOk X.K cls cv kn) (hkc : ∀ t, PySem.W.kitCls X.K t cv = PySem.W.subIn X.K t cv) (hcv : ∀ u, RelV vc u → u = cv) (m1 : X.mg "isinstance" = none) (hg : Gl X "isinstance")
    (hN : X.N[i]? = some m) (hv : Vis X.env.scope m) (hC : PE (X.suite a ((a, oe) :: pn)) (.Name C p2) (tC vc))
    (hd : (m == ("__debug__" : Str)) = false := by decide) (hcd : (m == ("__classdict__" : Str)) = false := by decide) :
    PE (X.suite a ((a, oe) :: pn)) (.Call (.Name "isinstance" p) [.Name m p1, .Name C p2] [] pos) (tE ⟨K, cls, some (i, a, c)⟩ W (uIsE i kn)) := by
  refine peImp (pe_callB (X := X.suite a ((a, oe) :: pn)) (call_isE EC hz hf) hg m1 (by decide +kernel) (pa_cons (X := X.suite a ((a, oe) :: pn)) (pe_var hN hv hd hcd) (pa_cons (X := X.suite a ((a, oe) :: pn)) hC pa_nil))) fun σ H Q ⟨R, ρ, om, al, S, P⟩ => ?_
  unfold uIsE at P
  split at P
  · rename_i x hx
    obtain ⟨h1, h2⟩ := S.sl.exc i a c x rfl hx
    split at P
    · rename_i b hb
      refine ⟨_, h1, vc, cv, b, rfl, hcv, ?_, P _ H al .refl S .bl⟩
      refine kit_of (hkn.get (by rw [← h2]; exact hb)) (hkc _) hs
    · exact P.elim
  · exact P.elim
theorem kitCls_ref {C : Addr} (h2 : PySem.W.isClsIn K C = true) (h3 : PySem.W.typeIn K (.ref C) = some (.type "type")) (t : Value) : PySem.W.kitCls K t (.ref C) = PySem.W.subIn K t (.ref C) := by
  have e2 : ((PySem.W.clsIn K C).isSome && PySem.W.typeIn K (.ref C) == some (.type "type")) = true := by
    have h2' : (PySem.W.clsIn K C).isSome = true := h2
    rw [h2', h3] <;> rfl
  show (if ((PySem.W.clsIn K C).isSome && PySem.W.typeIn K (.ref C) == some (.type "type")) = true then PySem.W.subIn K t (.ref C) else none) = _
  rw [if_pos e2]
theorem kitCls_type {T : String} (h : PySem.W.kitMeta T = true) (t : Value) : PySem.W.kitCls K t (.type T) = PySem.W.subIn K t (.type T) := by
  show (if PySem.W.kitMeta T = true then PySem.W.subIn K t (.type T) else none) = _
  rw [if_pos h]
theorem pu_isEO (i : Nat) (kn : List (Str × Bool)) {a : Addr} {oe : Obj} {c C m : Str} {pn : List (Addr × Obj)} {p p1 p2 pos : Pos} (hz : Zc (.ref (cls c)) none oe) (hf : ∃ vs, oe.data = .fields vs) (EC : ExcC X.K (cls c) ∧ PySem.W.subIn X.K (.ref (cls c)) (.ref (cls c)) = some true)
    (hkn : KnOk X.K cls (.ref (cls C)) kn) (F : ExF X.K X.mg cls C) (m1 : X.mg "isinstance" = none) (hg : Gl X "isinstance") (hgC : Gl X C)
    (hN : X.N[i]? = some m) (hv : Vis X.env.scope m) (hd : (m == ("__debug__" : Str)) = false := by decide) (hcd : (m == ("__classdict__" : Str)) = false := by decide) (hdC : (C == ("__debug__" : Str)) = false := by decide) :
    PE (X.suite a ((a, oe) :: pn)) (.Call (.Name "isinstance" p) [.Name m p1, .Name C p2] [] pos) (tE ⟨K, cls, some (i, a, c)⟩ W (uIsE i kn)) :=
  pu_isE (vc := .ref (cls C)) i kn hz hf EC.1 EC.2 hkn (kitCls_ref F.i F.t) (fun _ h => h) m1 hg hN hv (pe_glob (X := X.suite a ((a, oe) :: pn)) hgC F.g rfl hdC) hd hcd
theorem pu_isEV (i : Nat) (kn : List (Str × Bool)) {a : Addr} {oe : Obj} {c m : Str} {pn : List (Addr × Obj)} {p p1 p2 pos : Pos} (hz : Zc (.ref (cls c)) none oe) (hf : ∃ vs, oe.data = .fields vs) (EC : ExcC X.K (cls c) ∧ PySem.W.subIn X.K (.ref (cls c)) (.ref (cls c)) = some true)
    (hkn : KnOk X.K cls (.type "ValueError") kn) (mV : X.mg "ValueError" = none) (m1 : X.mg "isinstance" = none) (hg : Gl X "isinstance") (hgC : Gl X "ValueError")
    (hN : X.N[i]? = some m) (hv : Vis X.env.scope m) (hd : (m == ("__debug__" : Str)) = false := by decide) (hcd : (m == ("__classdict__" : Str)) = false := by decide) :
    PE (X.suite a ((a, oe) :: pn)) (.Call (.Name "isinstance" p) [.Name m p1, .Name "ValueError" p2] [] pos) (tE ⟨K, cls, some (i, a, c)⟩ W (uIsE i kn)) :=
  pu_isE (vc := .ty "ValueError") i kn hz hf EC.1 EC.2 hkn (kitCls_type (by decide +kernel)) (fun _ h => h) m1 hg hN hv (pe_bltn (X := X.suite a ((a, oe) :: pn)) hgC mV (by decide +kernel) rfl) hd hcd
/-! ### the facts of the top -/
def EcOk (K : PySem.W.Frag) (cls : Str → Addr) : List (Str × Bool) → Prop
  | [] => True
  | (c, b) :: r => (b = true → ExcC K (cls c) ∧ PySem.W.subIn K (.ref (cls c)) (.ref (cls c)) = some true) ∧ EcOk K cls r
theorem EcOk.nil {K : PySem.W.Frag} {cls : Str → Addr} : EcOk K cls [] := trivial
theorem EcOk.cons {K : PySem.W.Frag} {cls : Str → Addr} {c : Str} {r : List (Str × Bool)} (h : ExcC K (cls c) ∧ PySem.W.subIn K (.ref (cls c)) (.ref (cls c)) = some true) (hr : EcOk K cls r) : EcOk K cls ((c, true) :: r) := ⟨fun _ => h, hr⟩
theorem EcOk.skip {K : PySem.W.Frag} {cls : Str → Addr} {c : Str} {r : List (Str × Bool)} (hr : EcOk K cls r) : EcOk K cls ((c, false) :: r) := ⟨fun z => (nomatch z), hr⟩
theorem EcOk.get {K : PySem.W.Frag} {cls : Str → Addr} : ∀ {l : List (Str × Bool)}, EcOk K cls l → ∀ {c : Str}, l.lookup c = some true → ExcC K (cls c) ∧ PySem.W.subIn K (.ref (cls c)) (.ref (cls c)) = some true
  | [], _, _, h => by cases h
  | (c', b') :: r, h, c, e => by
    by_cases q : (c == c') = true
    · simp [List.lookup, q] at e
      subst e
      rw [beq_iff_eq.mp q]
      exact h.1 rfl
    · simp only [Bool.not_eq_true] at q
      simp [List.lookup, q] at e
      exact h.2.get e
def clsOf (mg : Str → Option Value) : Str → Addr := fun x => match mg x with | some (.ref a) => a | _ => 0
theorem clsOf_eq {mg : Str → Option Value} {x : Str} {a : Addr} (h : mg x = some (.ref a)) : clsOf mg x = a := by unfold clsOf; rw [h]
section
variable {h : Heap} {mg : Str → Option Value} {n c C : Str} {A B : Addr}
theorem exf_mk (X : K.In h) (G : h.Ns mainGlobals mg) (a : PySem.W.nsIn K mainGlobals n = some (some (.ref A))) (k : PySem.W.keepIn K (.ref A) = true) (b : PySem.W.subIn K (.ref A) (.type "BaseException") = some true) (t : PySem.W.typeIn K (.ref A) = some (.type "type")) (i : PySem.W.isClsIn K A = true) : ExF K mg (clsOf mg) n := by
  have e := clsOf_eq (PySem.W.mg_of X G a)
  exact ⟨by rw [e]; exact PySem.W.mg_of X G a, by rw [e]; exact k, by rw [e]; exact b, by rw [e]; exact t, by rw [e]; exact i⟩
theorem exm_mk (X : K.In h) (G : h.Ns mainGlobals mg) (a : PySem.W.nsIn K mainGlobals n = some (some (.ref A))) (k : PySem.W.keepIn K (.ref A) = true) (b : PySem.W.subIn K (.ref A) (.type "BaseException") = some true) (t : PySem.W.typeIn K (.ref A) = some (.type "type")) (i : PySem.W.isClsIn K A = true)
    (x : PySem.W.excIn K A [.type "ValueError", .type "Exception", .type "BaseException", .type "object"] "ValueError.__new__" = true) : ExM K mg (clsOf mg) n :=
  ⟨exf_mk X G a k b t i, by rw [clsOf_eq (PySem.W.mg_of X G a)]; exact x⟩
theorem sub_mk {b' : Bool} (X : K.In h) (G : h.Ns mainGlobals mg) (a : PySem.W.nsIn K mainGlobals c = some (some (.ref A))) (b : PySem.W.nsIn K mainGlobals C = some (some (.ref B))) (s : PySem.W.subIn K (.ref A) (.ref B) = some b') : PySem.W.subIn K (.ref (clsOf mg c)) (.ref (clsOf mg C)) = some b' := by
  rw [clsOf_eq (PySem.W.mg_of X G a), clsOf_eq (PySem.W.mg_of X G b)]
  exact s
theorem subT_mk {b' : Bool} {T : String} (X : K.In h) (G : h.Ns mainGlobals mg) (a : PySem.W.nsIn K mainGlobals c = some (some (.ref A))) (s : PySem.W.subIn K (.ref A) (.type T) = some b') : PySem.W.subIn K (.ref (clsOf mg c)) (.type T) = some b' := by
  rw [clsOf_eq (PySem.W.mg_of X G a)]
  exact s
theorem ec_mk (X : K.In h) (G : h.Ns mainGlobals mg) (a : PySem.W.nsIn K mainGlobals c = some (some (.ref A))) (s : PySem.W.subIn K (.ref A) (.ref A) = some true)
    (h1 : PySem.W.findIn K (.ref A) "__getattribute__" = some (some (.builtin "BaseException.__getattribute__"))) (h2 : PySem.W.findIn K (.ref A) "__getattr__" = some none) (h3 : PySem.W.subIn K (.ref A) (.type "BaseException") = some true) (h4 : PySem.W.hasDictIn K A = true)
    (h5 : PySem.W.findIn K (.ref A) "__class__" = some (some (.builtin "object.__class__"))) (h6 : PySem.W.specialIn K (.builtin "object.__class__") "__get__" = some (some (.builtin "getset_descriptor.__get__"))) (h7 : PySem.W.takesIn K (.builtin "object.__class__") = some true) (h8 : PySem.W.mroIn K A (.type "object") = some true) :
    ExcC K (clsOf mg c) ∧ PySem.W.subIn K (.ref (clsOf mg c)) (.ref (clsOf mg c)) = some true := by
  rw [clsOf_eq (PySem.W.mg_of X G a)]
  exact ⟨⟨h1, h2, h3, h4, h5, h6, h7, h8⟩, s⟩
end
end
end Dv

namespace Dv
open PySem PySem.Spec PyProof.Rows L2
section
variable {g : G} {R : Addr → Prop} {al al' : List Addr} {om om' : Om} {σ σ' : St} {ρ ρ' : Rho} {H H' : Hp} {W : WX} {X : Cx} {M M' L : Addr → Prop} {i : Nat} {a p : Addr} {e : Expr} {x : Str} {pos p2 : Pos} {d : D} {lo hi : Option Expr}
/-! ### a module's constants -/
/-- the name x of the module stands for d -/
def ConstOk (K : PySem.W.Frag) (mg : Str → Option Value) (x : Str) (d : D) : Prop := ∃ v u, mg x = some u ∧ RelV v u ∧ ∀ (cls : Str → Addr) (ex : Option (Nat × Addr × Str)) (al : List Addr) (L : Addr → Prop) (H : Hp), RepV ⟨K, cls, ex⟩ al L H v d
theorem pu_globC (hK : X.K = g.K) (h : ConstOk X.K X.mg x d) (hg : Gl X x := by rfl) (hd : (x == ("__debug__" : Str)) = false := by decide) : PE X (.Name x pos) (tE g W (uC d)) := by
  obtain ⟨v, u, hm, r, hr⟩ := h
  refine peImp (pe_glob hg hm r hd) fun σ H Q ⟨R, ρ, om, al, S, P⟩ => ?_
  exact P v H al .refl S (by
    have := hr g.cls g.ex al (LL R al om σ ρ) H
    rw [hK] at this
    exact this)
theorem const_int {K : PySem.W.Frag} {mg : Str → Option Value} {i : Int} {t : Tok} (h : mg x = some (.int i t)) : ConstOk K mg x (.int i) := ⟨.int i, _, h, ⟨t, rfl⟩, fun _ _ _ _ _ => .int⟩
theorem const_str {K : PySem.W.Frag} {mg : Str → Option Value} {i : Str} {t : Tok} (h : mg x = some (.str i t)) : ConstOk K mg x (.str i) := ⟨.str i, _, h, ⟨t, rfl⟩, fun _ _ _ _ _ => .str⟩
/-- a pair of whole numbers, written -/
theorem const_pair {K : PySem.W.Frag} {mg : Str → Option Value} {a : Addr} {i j : Int} {t1 t2 : Tok} {od : Option Addr} {n : Nat} {sl : Array (Option Value)} (h : mg x = some (.ref a)) (hl : K.lookup a = some ⟨.type "tuple", od, .seq #[.int i t1, .int j t2] n, sl⟩) : ConstOk K mg x (.tup [.int i, .int j]) :=
  ⟨.ref a, _, h, rfl, fun _ _ _ _ _ => .tup (vs := [.int i, .int j]) (.inr ⟨_, _, n, hl, rfl, rfl, by show 2 ≤ sizeLine; rw [sizeLine_eq]; omega, .cons ⟨t1, rfl⟩ (.cons ⟨t2, rfl⟩ .nil)⟩) (.cons .int (.cons .int .nil))⟩
/-! ### slices -/
@[simp] def uNoPart : UO := fun ρ ω => .ok none ρ ω
@[simp] def uPart (u : UE) : UO := fun ρ ω => (u ρ ω).bind fun d ρ ω => match d with
  | .int i => .ok (some i) ρ ω
  | _ => .no
theorem po_noneU : PO X none (tO g W uNoPart) := poImp po_none fun σ H Q ⟨R, ρ, om, al, S, P⟩ => P none H al .refl S rfl
theorem po_someU {u : UE} (h : PE X e (tE g W u)) : PO X (some e) (tO g W (uPart u)) := poImp (po_some h) fun σ H Q ⟨R, ρ, om, al, S, P⟩ =>
  tR_bind (rel := relV) S P fun t ρ1 om1 y H1 al1 s1 S1 r1 P1 => by
    cases t with
    | int i =>
      cases (show RepV g al1 (LL R al1 om1 σ ρ1) H1 y (.int i) from r1)
      exact ⟨i, rfl, P1 (some i) H1 al1 .refl S1 rfl⟩
    | _ => exact P1.elim
def cutD (xs : List D) (lo hi : Option Int) : List D := (xs.drop (HT.sIx xs.length 0 lo)).take (HT.sIx xs.length xs.length hi - HT.sIx xs.length 0 lo)
@[simp] def uSlW (u : UE) (l h : UO) : UW := fun ρ ω => (u ρ ω).bind fun d ρ ω => (l ρ ω).bind fun a ρ ω => (h ρ ω).bind fun b ρ ω => match dItems d with
  | some xs => .ok (cutD xs a b) ρ ω
  | none => .no
theorem pu_slW {u : UE} {l h : UO} (hK : X.K = g.K) (he : PE X e (tE g W u)) (hl : PO X lo (tO g W l)) (hh : PO X hi (tO g W h)) : PE X (.Subscript e (.Slice lo hi none p2) pos) (tOw g W (uSlW u l h)) :=
  peImp (pe_slice sl_list he hl hh) fun σ H Q ⟨R, ρ, om, al, S, P⟩ =>
    tR_bindO (rel := relV) S P fun d ρ1 om1 v H1 al1 s1 S1 r1 P1 => tR_bindO (rel := relO) S1 P1 fun a ρ2 om2 y2 H2 al2 s2 S2 r2 P2 => tR_bindO (rel := relO) S2 P2 fun b ρ3 om3 y3 H3 al3 s3 S3 r3 P3 => by
      cases (show y2 = a from r2)
      cases (show y3 = b from r3)
      have r : RepV g al3 (LL R al3 om3 σ ρ3) H3 v d := s3.rep S2 (s2.rep S1 r1)
      have fin : ∀ {c : Addr} {xs : List D} {vs : List V}, v = .ref c → dItems d = some xs → SqL g.K H3 c vs → RepVs g al3 (LL R al3 om3 σ ρ3) H3 vs xs → rSlL X.K v a b H3 Q := fun {c xs vs} ev ed hs rs => by
        rw [ed] at P3
        refine ⟨c, vs, ev, by rw [hK]; exact hs, fun p hp => okOwn S3 P3 hp ?_⟩
        unfold cutV cutD
        rw [rs.length]
        exact (rs.drop _).take _
      cases r with
      | lst h n r9 => exact fin rfl rfl (SqL.of h) r9
      | frz h r9 => exact fin rfl rfl h.sq r9
      | _ => exact P3.elim
@[simp] def uSlS (u : UE) (l h : UO) : UE := fun ρ ω => (u ρ ω).bind fun d ρ ω => (l ρ ω).bind fun a ρ ω => (h ρ ω).bind fun b ρ ω => match d with
  | .str z => if z.length ≤ big then .ok (.str (cutS z a b)) ρ ω else .no
  | _ => .no
theorem pu_slS {u : UE} {l h : UO} (he : PE X e (tE g W u)) (hl : PO X lo (tO g W l)) (hh : PO X hi (tO g W h)) : PE X (.Subscript e (.Slice lo hi none p2) pos) (tE g W (uSlS u l h)) :=
  peImp (pe_slice sl_str he hl hh) fun σ H Q ⟨R, ρ, om, al, S, P⟩ =>
    tR_bind (rel := relV) S P fun d ρ1 om1 v H1 al1 s1 S1 r1 P1 => tR_bind (rel := relO) S1 P1 fun a ρ2 om2 y2 H2 al2 s2 S2 r2 P2 => tR_bind (rel := relO) S2 P2 fun b ρ3 om3 y3 H3 al3 s3 S3 r3 P3 => by
      cases (show y2 = a from r2)
      cases (show y3 = b from r3)
      cases d with
      | str z =>
        cases (show RepV g al1 (LL R al1 om1 σ ρ1) H1 v (.str z) from r1)
        dsimp only at P3
        split at P3
        · rename_i hz
          exact ⟨z, rfl, big_line hz, P3 _ H3 al3 .refl S3 .str⟩
        · exact P3.elim
      | _ => exact P3.elim
/-! ### comprehensions -/
def clrs (ρ : Rho) : List Nat → Rho
  | [] => ρ
  | v :: vs => (clrs ρ vs).set v none
theorem Rst.forgets (S : Rst g R al σ ρ om H) : ∀ vs : List Nat, Rst g R al (wipe σ vs) (clrs ρ vs) om H ∧ Step al (Mt al om σ ρ) H al (Mt al om (wipe σ vs) (clrs ρ vs)) H
  | [] => ⟨S, .refl⟩
  | v :: vs => by
    obtain ⟨S1, s1⟩ := S.forgets vs
    obtain ⟨S2, s2⟩ := S1.forget v none
    exact ⟨S2, s1.trans s2⟩
theorem clrs_get {ρ : Rho} {i : Nat} {s : Sl} : ∀ {vs : List Nat}, (clrs ρ vs)[i]? = some (some s) → i ∉ vs
  | [], _ => by simp
  | v :: vs, h => by
    rcases getset h with ⟨_, q⟩ | ⟨n, q⟩
    · cases q
    · simp only [List.mem_cons, not_or]
      exact ⟨n, clrs_get q⟩
theorem wipe_out {σ : St} {i : Nat} : ∀ {vs : List Nat}, i ∉ vs → (wipe σ vs)[i]? = σ[i]?
  | [], _ => rfl
  | v :: vs, h => by
    simp only [List.mem_cons, not_or] at h
    show ((wipe σ vs).set v none)[i]? = _
    rw [List.getElem?_set_ne (Ne.symm h.1), wipe_out h.2]
theorem wipe_in {σ : St} {i : Nat} : ∀ {vs : List Nat}, i ∈ vs → (wipe σ vs)[i]? = if i < σ.length then some none else none
  | v :: vs, h => by
    show ((wipe σ vs).set v none)[i]? = _
    rw [List.getElem?_set]
    split
    · rename_i e
      subst e
      rw [wipe_length]
    · rename_i n
      rcases List.mem_cons.mp h with q | q
      · exact absurd q.symm n
      · exact wipe_in q
/-- outside of vs the slots are the same -/
def Out (vs : List Nat) (σ σ' : St) : Prop := σ'.length = σ.length ∧ ∀ j, j ∉ vs → σ'[j]? = σ[j]?
theorem Out.wipe {vs : List Nat} {σ σ' : St} (h : Out vs (wipe σ vs) σ') : L2.wipe σ' vs = L2.wipe σ vs := by
  have hl : σ'.length = σ.length := by rw [h.1, wipe_length]
  refine List.ext_getElem? fun j => ?_
  by_cases q : j ∈ vs
  · rw [wipe_in q, wipe_in q, hl]
  · rw [wipe_out q, h.2 j q]
theorem Rst.agree (S : Rst g R al σ ρ om H) (hl : σ'.length = σ.length) (h : ∀ (i : Nat) (s : Sl), ρ[i]? = some (some s) → σ'[i]? = σ[i]?) : Rst g R al σ' ρ om H ∧ (∀ a, Mt al om σ' ρ a ↔ Mt al om σ ρ a) := by
  have o : ∀ a, OwnA σ' ρ a ↔ OwnA σ ρ a := fun a => ⟨fun ⟨i, ds, h1, h2⟩ => ⟨i, ds, h1, by rw [← h i _ h1]; exact h2⟩, fun ⟨i, ds, h1, h2⟩ => ⟨i, ds, h1, by rw [h i _ h1]; exact h2⟩⟩
  have m : ∀ a, Mt al om σ' ρ a ↔ Mt al om σ ρ a := fun a => or_congr Iff.rfl (o a)
  have ll : ∀ a, LL R al om σ' ρ a → LL R al om σ ρ a := fun a q => q.imp (m a).mp id
  have st : Step al (Mt al om σ ρ) H al (Mt al om σ' ρ) H := .grow (fun _ _ h _ => h) fun a q => .inl ((m a).mp q)
  refine ⟨S.chg st (fun b h => rfl) ⟨by rw [hl]; exact S.sl.len, fun j a c x e q => by rw [h j _ q]; exact S.sl.exc j a c x e q⟩ (fun b h => (S.o.rsv b h).2) (fun j d q => .inl ⟨q, h j _ q⟩) (fun j dj q => .inl ⟨q, h j _ q, fun _ _ => rfl⟩) (fun j k b dj dk h1 h2 h3 h4 => S.odj j k b dj dk h1 h2 (by rw [← h j _ h1]; exact h3) (by rw [← h k _ h2]; exact h4)) (fun b q => S.ocl b ((o b).mp q)), m⟩
/-- the reserved list is written -/
theorem Rst.updRes {vs vs' : List V} (S : Rst g (Rp R p) al σ ρ om H) (hp : H p = some (.lst vs)) : Rst g (Rp R p) al σ ρ om (upd H p (.lst vs')) ∧ Car g al (LL (Rp R p) al om σ ρ) H al (LL (Rp R p) al om σ ρ) (upd H p (.lst vs')) := by
  have np : ¬ Mt al om σ ρ p := fun m => by
    rcases m with m | m
    · exact (S.o.rsv p (.inr rfl)).1 m
    · exact (S.ocl p m).2 (.inr rfl)
  have cr : Car g al (LL (Rp R p) al om σ ρ) H al (LL (Rp R p) al om σ ρ) (upd H p (.lst vs')) := by
    have no : ∀ {a : Addr} {o : HO}, H a = some o → (∀ xs, o ≠ .lst xs) → upd H p (.lst vs') a = some o := fun {a o} h n => by
      rw [upd_ne]
      · exact h
      · intro z; rw [z, hp] at h; cases h; exact n _ rfl
    refine ⟨fun a xs h => ?_, fun a xs h n => ⟨?_, n⟩, fun a xs h => ?_, fun a C dx fs h n => ⟨no h fun _ z => (by cases z), n⟩, fun _ _ h => h⟩
    · rcases h with (h | ⟨o, h⟩) | h
      · exact .inl (.inl (no h fun _ z => (by cases z)))
      · exact .inl (.inr ⟨o, no h fun _ z => (by cases z)⟩)
      · exact .inr h
    · rw [upd_ne]
      · exact h
      · intro z; exact n (.inr (.inr z))
    · rcases h with ⟨o, h⟩ | h
      · exact .inl ⟨o, no h fun _ z => (by cases z)⟩
      · exact .inr h
  refine ⟨⟨⟨S.o.len, fun j c b h1 h2 => ?_, S.o.inj, fun b q => ⟨(S.o.rsv b q).1, ?_⟩⟩, S.sl, fun j d h => ?_, fun j dj h => ?_, S.odj, S.ocl⟩, cr⟩
  · refine (S.o.cel j c b h1 h2).car cr (fun xs e n => ?_) (fun C dx fs e n => ?_) (fun q t n => ?_)
    · rw [upd_ne (fun z => np (.inl ⟨j, c, by rw [← z]; exact h2, h1, n⟩))]; exact e
    · rw [upd_ne (fun z => np (.inl ⟨j, c, by rw [← z]; exact h2, h1, n⟩))]; exact e
    · obtain ⟨ps, t1, t2, t3⟩ := t
      refine ⟨ps, by rw [upd_ne (fun z => np (.inl ⟨j, c, by rw [← z]; exact h2, h1, n⟩))]; exact t1, t2, fun pos cv hc => ?_⟩
      obtain ⟨c2, e1, e2⟩ := t3 pos cv hc
      refine ⟨c2, e1, ?_⟩
      rw [upd_ne]
      · exact e2
      · intro z
        rw [z, hp] at e2
        unfold LamX.CodeO at e2
        cases e2
  · by_cases z : b = p
    · rw [z, upd_same]; simp
    · rw [upd_ne z]; exact (S.o.rsv b q).2
  · obtain ⟨v, e, r⟩ := S.val j d h
    exact ⟨v, e, r.car cr⟩
  · obtain ⟨b, ws, e, e2, r⟩ := S.own j dj h
    exact ⟨b, ws, e, by rw [upd_ne (fun z => np (.inr ⟨j, dj, h, by rw [← z]; exact e⟩))]; exact e2, r.car cr⟩
def goC (G : UG) (tt : UT) (te : UE) (vs : List Nat) : List D → List D → UW
  | [], acc => fun ρ ω => .ok acc ρ ω
  | d :: r, acc => fun ρ ω => match G d ρ with
    | none => .no
    | some ρ1 => match tt ρ1 ω with
      | .ok b ρ2 ω2 => if b = true then (match te ρ2 ω2 with
        | .ok y ρ3 ω3 => if acc.length < big then goC G tt te vs r (acc ++ [y]) (clrs ρ3 vs) ω3 else .no
        | _ => .no) else goC G tt te vs r acc (clrs ρ2 vs) ω2
      | _ => .no
def uLc (s : UI) (G : UG) (tt : UT) (te : UE) (vs : List Nat) : UW := fun ρ ω => (s ρ ω).bind fun ds ρ ω => goC G tt te vs ds [] (clrs ρ vs) ω
def tGv (g : G) (vs : List Nat) (u : UG) : TG := fun v σ H Q => ∃ R ρ om al d ρ', Rst g R al σ ρ om H ∧ RepV g al (LL R al om σ ρ) H v d ∧ u d ρ = some ρ' ∧ ∀ σ', Out vs σ σ' → Step al (Mt al om σ ρ) H al (Mt al om σ' ρ') H → Rst g R al σ' ρ' om H → Q σ' H
theorem tI_bindO {u : UI} {f : List D → Rho → Om → Res (List D)} {Q : It → Hp → Prop} {Q2 : VK} (S : Rst g R al σ ρ om H)
    (P : PostO g R W al (Mt al om σ ρ) H σ ((u ρ om).bind f) Q2)
    (k : ∀ t ρ' om' J H' al', Step al (Mt al om σ ρ) H al' (Mt al' om' σ ρ') H' → Rst g R al' σ ρ' om' H' → ItS g J t R al' (Mt al' om' σ ρ') H' → PostO g R W al' (Mt al' om' σ ρ') H' σ (f t ρ' om') Q2 → Q J H') : tI g W u σ H Q := by
  refine ⟨R, ρ, om, al, S, ?_⟩
  cases e : u ρ om with
  | ok t ρ' om' =>
    rw [e] at P
    exact fun y H' al' s S' r => k t ρ' om' y H' al' s S' r (PostO.step s P)
  | xc x ρ' om' => rw [e] at P; exact P
  | no => rw [e] at P; exact P
theorem Step.or (s : Step al M H al' M' H') : Step al (fun a => M a ∨ a = p) H al' (fun a => M' a ∨ a = p) H' := ⟨s.ext, fun a o h n => s.keep a o h fun m => n (.inl m), fun a m => m.elim (fun m => (s.fresh a m).imp .inl id) fun z => .inl (.inr z)⟩
@[simp] def uYes : UT := fun ρ ω => .ok true ρ ω
theorem pts_nilU : PTs X [] (tT g W uYes) := ⟨fun pins s σ H Q I ⟨R, ρ, om, al, S, P⟩ => pts_nil.run pins s σ H Q I (P true H al .refl S rfl)⟩
theorem pts_oneU {c : Expr} {u : UT} (h : PT X c (tT g W u)) : PTs X [c] (tT g W u) := pts_one h
theorem tLc_of {us : UI} {G' : UG} {tt : UT} {te : UE} {vs : List Nat} {σ : St} {H : Hp} {Q : VK} (h : tOw g W (uLc us G' tt te vs) σ H Q) : tLc (tI g W us) (tGv g vs G') (tT g WF tt) (tE g WF te) vs σ H Q := by
  obtain ⟨R, ρ, om, al, S, P⟩ := h
  refine tI_bindO S P fun ds ρ1 om1 J H1 al1 s1 S1 it P1 => ?_
  intro D0 hD
  obtain ⟨S2, s2⟩ := S1.forgets vs
  obtain ⟨S3, c3⟩ := S2.newRes (o := .lst []) hD
  have nR : ¬ R D0 := fun z => (S1.o.rsv D0 z).2 hD
  -- behind i turns
  refine ⟨fun i n H' => n + i = ds.length ∧ ∃ ρ' om' al' accV acc, Step al1 (Mt al1 om1 σ ρ1) H1 al' (fun a => Mt al' om' (wipe σ vs) ρ' a ∨ a = D0) H' ∧ Rst g (Rp R D0) al' (wipe σ vs) ρ' om' H' ∧ (∀ i s, ρ'[i]? = some (some s) → i ∉ vs) ∧ H' D0 = some (.lst accV) ∧ RepVs g al' (LL (Rp R D0) al' om' (wipe σ vs) ρ') H' accV acc ∧
      PostO g R W al1 (Mt al1 om1 σ ρ1) H1 σ (goC G' tt te vs (ds.drop i) acc ρ' om') Q,
    ⟨ds.length, rfl, clrs ρ1 vs, om1, al1, [], [], ?_, S3, fun i s h => clrs_get h, upd_same, .nil, P1⟩, ?_⟩
  · refine s2.trans (.grow (fun b o h n => upd_keep hD b o h) fun b m => ?_)
    rcases m with m | m
    · exact .inl m
    · exact .inr (by rw [m]; exact hD)
  rintro i n H2 ⟨hn, ρ2, om2, al2, accV, acc, t2, S4, cl2, hacc, racc, P2⟩
  obtain ⟨S4', c4', n4⟩ := S4.lessp nR
  have w2 : Step al1 (Mt al1 om1 σ ρ1) H1 al2 (Mt al2 om2 (wipe σ vs) ρ2) H2 := ⟨t2.ext, t2.keep, fun a m => t2.fresh a (.inl m)⟩
  have t := it (Rp R D0) (wipe σ vs) ρ2 om2 al2 H2 i (fun a h => h.imp id fun z => by rw [z]; exact hD) w2 S4
  by_cases hi : i < ds.length
  · obtain ⟨go, yl⟩ := t.1 hi
    refine .inr ⟨go, fun H' => ∃ ρ' om' al' accV acc, Step al1 (Mt al1 om1 σ ρ1) H1 al' (fun a => Mt al' om' (wipe σ vs) ρ' a ∨ a = D0) H' ∧ Rst g (Rp R D0) al' (wipe σ vs) ρ' om' H' ∧ (∀ i s, ρ'[i]? = some (some s) → i ∉ vs) ∧ H' D0 = some (.lst accV) ∧ RepVs g al' (LL (Rp R D0) al' om' (wipe σ vs) ρ') H' accV acc ∧
        PostO g R W al1 (Mt al1 om1 σ ρ1) H1 σ (goC G' tt te vs (ds.drop (i + 1)) acc ρ' om') Q, fun H' h => ⟨n - 1, by omega, by omega, h⟩, fun x H3 hy => ?_⟩
    obtain ⟨S5, s5, d, hd, r⟩ := yl x H3 hy
    have e : ds.drop i = d :: ds.drop (i + 1) := by
      obtain ⟨hl, e⟩ := List.getElem?_eq_some_iff.mp hd
      rw [← e]
      exact List.drop_eq_getElem_cons hl
    rw [e] at P2
    unfold goC at P2
    cases eg : G' d ρ2 with
    | none => rw [eg] at P2; exact P2.elim
    | some ρ3 =>
      rw [eg] at P2
      refine ⟨Rp R D0, ρ2, om2, al2, d, ρ3, S5, r, eg, fun σ4 o4 s4 S6 => ⟨o4.wipe, Rp R D0, ρ3, om2, al2, S6, ?_⟩⟩
      dsimp only at P2
      cases et : tt ρ3 om2 with
      | xc _ _ _ => rw [et] at P2; exact P2.elim
      | no => rw [et] at P2; exact P2.elim
      | ok b ρ5 om5 =>
        rw [et] at P2
        dsimp only at P2
        intro y7 H7 al7 s7 S7 e7
        cases (show y7 = b from e7)
        have ns : ∀ {a : Addr}, ¬ Mt al2 om2 (wipe σ vs) ρ2 a → a = D0 → True := fun _ _ => trivial
        have kD : ∀ {al : List Addr} {om : Om} {σ : St} {ρ : Rho} {H : Hp}, Rst g (Rp R D0) al σ ρ om H → ¬ Mt al om σ ρ D0 := fun S m => by
          rcases m with m | m
          · exact (S.o.rsv D0 (.inr rfl)).1 m
          · exact (S.ocl D0 m).2 (.inr rfl)
        have st7 := (s5.trans s4).trans s7
        have hD7 : H7 D0 = some (.lst accV) := st7.keep D0 _ hacc (kD S4)
        have ra7 := st7.reps S4 racc
        cases b with
        | false =>
          simp only [Bool.false_eq_true, if_false] at P2 ⊢
          obtain ⟨S8, s8⟩ := S7.forgets vs
          rw [o4.wipe] at S8 s8
          exact ⟨clrs ρ5 vs, om5, al7, accV, acc, t2.trans (st7.trans s8).or, S8, fun i s h => clrs_get h, by exact hD7, s8.reps S7 ra7, P2⟩
        | true =>
          simp only [if_true] at P2 ⊢
          refine ⟨Rp R D0, ρ5, om5, al7, S7, ?_⟩
          cases ee : te ρ5 om5 with
          | xc _ _ _ => rw [ee] at P2; exact P2.elim
          | no => rw [ee] at P2; exact P2.elim
          | ok y ρ6 om6 =>
            rw [ee] at P2
            dsimp only at P2
            split at P2
            · rename_i hz
              intro yv H9 al9 s9 S9 ry
              have hD9 : H9 D0 = some (.lst accV) := s9.keep D0 _ hD7 (kD S7)
              have ra9 := s9.reps S7 ra7
              have hlen : accV.length < sizeLine := by rw [ra9.length]; exact Nat.lt_of_lt_of_le hz (big_line (Nat.le_refl _))
              refine ⟨accV, hD9, hlen, ?_⟩
              obtain ⟨S10, c10⟩ := S9.updRes (vs' := accV ++ [yv]) hD9
              obtain ⟨S11, s11⟩ := S10.forgets vs
              rw [o4.wipe] at S11 s11
              refine ⟨clrs ρ6 vs, om6, al9, accV ++ [yv], acc ++ [y], t2.trans ((st7.trans s9).or.trans ?_), S11, fun i s h => clrs_get h, upd_same, s11.reps S10 ((ra9.append (.cons ry .nil)).car c10), P2⟩
              refine ⟨fun _ _ h => h, fun b o h n => ?_, fun b m => ?_⟩
              · rw [upd_ne fun z => n (.inr z)]; exact h
              · rcases m with m | m
                · rcases s11.fresh b m with q | q
                  · exact .inl (.inl q)
                  · by_cases z : b = D0
                    · exact .inl (.inr z)
                    · rw [upd_ne z] at q; exact .inr q
                · exact .inl (.inr m)
            · exact P2.elim
  · rw [List.drop_eq_nil_of_le (by omega)] at P2
    refine .inl ⟨t.2 (by omega), ?_⟩
    unfold goC at P2
    have hout : ∀ (j : Nat) (s : Sl), ρ2[j]? = some (some s) → σ[j]? = (wipe σ vs)[j]? := fun j s h => (wipe_out (cl2 j s h)).symm
    obtain ⟨S7, m7⟩ := S4.agree (σ' := σ) (by rw [wipe_length]) hout
    refine P2 D0 accV H2 al2 ⟨t2.ext, t2.keep, fun a m => t2.fresh a (m.imp (m7 a).mp id)⟩ S7 nR hacc (racc.car (carL fun a m => ?_))
    exact m.imp (m7 a).mp id
variable {q1 : Pos} {kk : Nat} {a1 b1 : Expr} {y : Str}
theorem pu_lc {elt tg iter : Expr} {ifs : List Expr} {scope : Scope} {us : UI} {G' : UG} {tt : UT} {te : UE} (own : List (Str × Nat)) (hc : X.calm = true) (hN : X.N.Nodup) (hi : PI X tg iter (tI g W us)) (ok : BlkOk X.N X.env.scope scope own)
    (hg : ∀ (s : Shared) (H : Hp) (C : Addr) (cl : List (Str × Addr)) (fp : List Addr), PG (X.blk s H scope (compEnvC scope cl C X.env) fp) tg (tGv g (own.map (·.2)) G')) (ht : ∀ (s : Shared) (H : Hp) (C : Addr) (cl : List (Str × Addr)) (fp : List Addr), PTs (X.blk s H scope (compEnvC scope cl C X.env) fp) ifs (tT g WF tt))
    (he : ∀ (s : Shared) (H : Hp) (C : Addr) (cl : List (Str × Addr)) (fp : List Addr), PE (X.blk s H scope (compEnvC scope cl C X.env) fp) elt (tE g WF te)) (hs : ∀ x, foldedSetIterable iter X.env x = pure x := by intro _; rfl) :
    PE X (.ListComp elt [⟨tg, iter, ifs, 0⟩] scope pos) (tOw g W (uLc us G' tt te (own.map (·.2)))) :=
  peImp (pe_lc hc hN hi ok hg ht he hs) fun σ H Q h => tLc_of h
/-- name = [..] -/
theorem ps_setLcU (i : Nat) {y : Str} {py : Pos} {elt tg iter : Expr} {ifs : List Expr} {scope : Scope} {pos spos : Pos} {us : UI} {G' : UG} {tt : UT} {te : UE} (own : List (Str × Nat)) (hc : X.calm = true) (hN : X.N.Nodup)
    (hsw : swapsWith (.ListComp elt [⟨tg, iter, ifs, 0⟩] scope pos) (some (.Name y py)) spos.line X.env = pure true) (hi : PI X tg iter (tI g W us)) (ok : BlkOk X.N X.env.scope scope own)
    (hg : ∀ (s : Shared) (H : Hp) (C : Addr) (cl : List (Str × Addr)) (fp : List Addr), PG (X.blk s H scope (compEnvC scope cl C X.env) fp) tg (tGv g (own.map (·.2)) G')) (ht : ∀ (s : Shared) (H : Hp) (C : Addr) (cl : List (Str × Addr)) (fp : List Addr), PTs (X.blk s H scope (compEnvC scope cl C X.env) fp) ifs (tT g WF tt))
    (he : ∀ (s : Shared) (H : Hp) (C : Addr) (cl : List (Str × Addr)) (fp : List Addr), PE (X.blk s H scope (compEnvC scope cl C X.env) fp) elt (tE g WF te)) (hy : X.N[i]? = some y := by rfl) (hyl : X.env.scope.names.lookup y = some .local := by rfl) (hs : ∀ x, foldedSetIterable iter X.env x = pure x := by intro _; rfl) :
    PS X (.Assign [.Name y py] (.ListComp elt [⟨tg, iter, ifs, 0⟩] scope pos) spos) (tS g W (sAsg i (uFz (uLc us G' tt te (own.map (·.2)))))) :=
  psImp (ps_setLc hc hN hy hyl hsw hi ok hg ht he hs) fun De σ H ⟨R, ρ, om, al, S, P⟩ => by
    have P' : PostS g R W al (Mt al om σ ρ) H (RS.of (uLc us G' tt te (own.map (·.2)) ρ om) fun ds ρ ω => .nx (ρ.set i (some (.val (.lst ds)))) ω) De := by
      simp only [sAsg, uFz] at P
      cases e : uLc us G' tt te (own.map (·.2)) ρ om with
      | ok ds ρ' om' => rw [e] at P; exact P
      | xc x ρ' om' => rw [e] at P; exact P
      | no => rw [e] at P; exact P
    refine tLc_of (tOw_bindS S P' fun ds ρ' om' p vs H' al' s S' n hp r P2 => ?_)
    obtain ⟨S2, c, n2⟩ := S'.lessp n
    exact set_of S2 (.lst hp n2 (r.car c)) (PostS.step ⟨fun _ _ h => h, fun _ _ h _ => h, fun a m => .inl (.inl m)⟩ P2)
theorem ps_setLcO (i : Nat) {y : Str} {py : Pos} {elt tg iter : Expr} {ifs : List Expr} {scope : Scope} {pos spos : Pos} {us : UI} {G' : UG} {tt : UT} {te : UE} (own : List (Str × Nat)) (hc : X.calm = true) (hN : X.N.Nodup)
    (hsw : swapsWith (.ListComp elt [⟨tg, iter, ifs, 0⟩] scope pos) (some (.Name y py)) spos.line X.env = pure true) (hi : PI X tg iter (tI g W us)) (ok : BlkOk X.N X.env.scope scope own)
    (hg : ∀ (s : Shared) (H : Hp) (C : Addr) (cl : List (Str × Addr)) (fp : List Addr), PG (X.blk s H scope (compEnvC scope cl C X.env) fp) tg (tGv g (own.map (·.2)) G')) (ht : ∀ (s : Shared) (H : Hp) (C : Addr) (cl : List (Str × Addr)) (fp : List Addr), PTs (X.blk s H scope (compEnvC scope cl C X.env) fp) ifs (tT g WF tt))
    (he : ∀ (s : Shared) (H : Hp) (C : Addr) (cl : List (Str × Addr)) (fp : List Addr), PE (X.blk s H scope (compEnvC scope cl C X.env) fp) elt (tE g WF te)) (hy : X.N[i]? = some y := by rfl) (hyl : X.env.scope.names.lookup y = some .local := by rfl) (hs : ∀ x, foldedSetIterable iter X.env x = pure x := by intro _; rfl) :
    PS X (.Assign [.Name y py] (.ListComp elt [⟨tg, iter, ifs, 0⟩] scope pos) spos) (tS g W (sAsgO i (uLc us G' tt te (own.map (·.2))))) :=
  psImp (ps_setLc hc hN hy hyl hsw hi ok hg ht he hs) fun De σ H ⟨R, ρ, om, al, S, P⟩ =>
    tLc_of (tOw_bindS S P fun ds ρ' om' p vs H' al' s S' n hp r P2 => setO_of S' n hp r P2)
theorem pg_nameC (i : Nat) (hN : X.N.Nodup) (hi : X.N[i]? = some x := by rfl) (hx : Loc X.env.scope x := by first | exact Or.inl rfl | exact Or.inr rfl) (hf : X.fn x = true ∨ X.env.scope.names.lookup x = some .local := by first | exact .inl rfl | exact .inr rfl) : PG X (.Name x pos) (tGv g [i] (gN i)) :=
  ⟨fun pins s σ H v u Q I r ⟨R, ρ, om, al, d, ρ', S, rv, e, k⟩ => (pg_name hN hi hx hf).run pins s σ H v u Q I r (by
    cases e
    refine gset (i := i) (Q := fun σ' H' => Q σ' H') S rv fun σ1 e1 s1 S1 => k σ1 ⟨by rw [e1, List.length_set], fun j hj => ?_⟩ s1 S1
    rw [e1, List.getElem?_set_ne]
    intro z; exact hj (by rw [z]; simp))⟩
theorem pg_tup2C (i j : Nat) (hK : X.K = g.K) (hc : X.calm = true) (h1 : PG X a1 (gName i)) (h2 : PG X b1 (gName j)) (hp : (assignEach [a1, b1] X.env).map (·.2) = assign a1 X.env :: (assignEach [b1] X.env).map (·.2) := by rfl) (hp2 : (assignEach [b1] X.env).map (·.2) = assign b1 X.env :: (assignEach [] X.env).map (·.2) := by rfl)
    (hn : (assignEach [a1, b1] X.env).length = 2 := by rfl) (hst : (assignEach [a1, b1] X.env).findIdx? (·.1) = none := by rfl) : PG X (.Tuple [a1, b1] kk pos) (tGv g [i, j] (gT2 i j)) :=
  ⟨fun pins s σ H v w Q I r ⟨R, ρ, om, al, d, ρ', S, rv, e, k⟩ => (pg_tup hc (pgs_cons h1 (pgs_cons h2 pgs_nil hp2) hp) hn hst).run pins s σ H v w Q I r (by
    simp only [gT2] at e
    split at e
    · cases e
      cases rv with
      | @tup ta vs _ ht rs =>
        cases rs with
        | cons ra rs => cases rs with
          | cons rb rs =>
            cases rs
            refine ⟨ta, _, rfl, by rw [hK]; exact ht, rfl, _, _, rfl, ?_⟩
            refine gset (i := i) (Q := fun σ' H' => (gCons (gName j) gNil) _ σ' H' Q) S ra fun σ1 e1 s1 S1 => ⟨_, _, rfl, ?_⟩
            refine gset (i := j) (Q := fun σ' H' => gNil _ σ' H' Q) S1 (s1.rep S rb) fun σ2 e2 s2 S2 => ⟨rfl, ?_⟩
            refine k σ2 ⟨by rw [e2, e1, List.length_set, List.length_set], fun l hl => ?_⟩ (s1.trans s2) S2
            simp only [List.mem_cons, List.not_mem_nil, or_false, not_or] at hl
            rw [e2, e1, List.getElem?_set_ne (fun z => hl.2 z.symm), List.getElem?_set_ne (fun z => hl.1 z.symm)]
    · cases e)⟩
end
end Dv

set_option maxHeartbeats 4000000
namespace Dv
open PySem PySem.Spec PyProof.Rows L2
local macro_rules | `(tactic| walk_at "ev") => `(tactic| try simp (disch := omega) only [sSeq_eq, seq_nx, seq_rt, seq_rto, seq_xc, seq_bk, seq_ct, seq_ite, sAsg, sAsgO, sExpr, sRet, sRetO, sRetN, sIf, sNext, uVar, uC, uUn, uBin, uB, uNot, uAnd, uOr, uTV, uAndV, uOrV, uNotV, uIf, uChain, uNil, uCons, uTup, uLst, uLstO, uFn, uFnO, uFz, uMv, uNew, uCall, uCallO, uCallN, uBinV, uBinW, uBinL, uMeO, uMeL, uFnV, sSetL, sAsgG, gN, gT2, gT3, gT4, iLst, iFn,   bind_ok, bind_xc, of_ok, of_xc, res_ok, res_xc, res0_ok, own_ok, own_xc, fr_nx, fr_rt, fr_rto, fr_xc, fo_rto, fo_xc, liftO_some, dBool_bl, items_lst, items_frz, ent, defU, defO, List.map_cons, List.map_nil, List.length_cons, List.length_nil, List.cons_append, List.nil_append, List.append_nil, List.replicate, List.getElem?_cons_zero, List.getElem?_cons_succ, List.set_cons_zero, List.set_cons_succ, Nat.zero_add, Nat.reduceAdd, Nat.reduceSub, Nat.reduceLeDiff,   le_big, lt_big, atN_zero, atN_one, atN_two, atN_three, setN_zero, setN_one, popAt_zero, len_zero, len_succ, dMul_r, dMul_l, dDiv_pos, dMod_pos, dAdd_int, dSub_int, dNeg_int, dLt_int, dLe_int, dGt_int, dGe_int, dEq_int, dNe_int, dEq_bl, dNe_bl, dEq_nil, dNe_nil, dIx_lst, dIx_tup, fAbs_int, fInt_bl, fInt_int, fLen_lst, fLen_frz, fLen_tup, ite_true, ite_false, if_true, if_false, Bool.not_true, Bool.not_false, decide_true, decide_false, Bool.true_eq_false, Bool.false_eq_true, reduceIte, reduceCtorEq, turn_nx, turn_ct, turn_bk, turn_rt, turn_rto, turn_xc, sFor_eq, goL_nil, eq_self])
local macro_rules | `(tactic| walk_at "evs") => `(tactic| try simp (disch := omega) only [sSeq_eq, seq_nx, seq_rt, seq_rto, seq_xc, seq_bk, seq_ct, seq_ite, sAsg, sAsgO, sExpr, sRet, sRetO, sRetN, sIf, sNext, uVar, uC, uUn, uBin, uB, uNot, uAnd, uOr, uTV, uAndV, uOrV, uNotV, uIf, uChain, uNil, uCons, uTup, uLst, uLstO, uFn, uFnO, uFz, uMv, uNew, uCall, uCallO, uCallN, uBinV, uBinW, uBinL, uMeO, uMeL, uFnV, sSetL, sAsgG, gN, gT2, gT3, gT4, iLst, iFn,   bind_ok, bind_xc, of_ok, of_xc, res_ok, res_xc, res0_ok, own_ok, own_xc, fr_nx, fr_rt, fr_rto, fr_xc, fo_rto, fo_xc, liftO_some, dBool_bl, items_lst, items_frz, ent, defU, defO, List.map_cons, List.map_nil, List.length_cons, List.length_nil, List.cons_append, List.nil_append, List.append_nil, List.replicate, List.getElem?_cons_zero, List.getElem?_cons_succ, List.set_cons_zero, List.set_cons_succ, Nat.zero_add, Nat.reduceAdd, Nat.reduceSub, Nat.reduceLeDiff,   le_big, lt_big, atN_zero, atN_one, atN_two, atN_three, setN_zero, setN_one, popAt_zero, len_zero, len_succ, dMul_r, dMul_l, dDiv_pos, dMod_pos, dAdd_int, dSub_int, dNeg_int, dLt_int, dLe_int, dGt_int, dGe_int, dEq_int, dNe_int, dEq_bl, dNe_bl, dEq_nil, dNe_nil, dIx_lst, dIx_tup, fAbs_int, fInt_bl, fInt_int, fLen_lst, fLen_frz, fLen_tup, ite_true, ite_false, if_true, if_false, Bool.not_true, Bool.not_false, decide_true, decide_false, Bool.true_eq_false, Bool.false_eq_true, reduceIte, reduceCtorEq, turn_nx, turn_ct, turn_bk, turn_rt, turn_rto, turn_xc, sFor_eq, goL_nil, eq_self, *])
/-! ### draws -/
structure Box where
  ns : List Int
  s : Int
  h : 0 ≤ s ∧ s < 2147483647
def bom (b : Box) (rest : Om) : Om := .lst (b.ns.map .int) :: .lst [.loc 0, .int b.s] :: rest
def tkv (m : Int) (b : Box) : Int := match b.ns with
  | [] => (b.s * 48271 % 2147483647) / 7 % m
  | n :: _ => n % m
def tkn (m : Int) (b : Box) : Box := match b.ns with
  | [] => ⟨[], b.s * 48271 % 2147483647, Int.emod_nonneg _ (by decide), Int.emod_lt_of_pos _ (by decide)⟩
  | n :: r => ⟨if n / m = 0 ∨ n / m = -1 then r else n / m :: r, b.s, b.h⟩
theorem tkv_nn {m : Int} (b : Box) (h : 0 < m) : 0 ≤ tkv m b := by
  unfold tkv
  split <;> exact Int.emod_nonneg _ (by omega)
theorem tkv_lt {m : Int} (b : Box) (h : 0 < m) : tkv m b < m := by
  unfold tkv
  split <;> exact Int.emod_lt_of_pos _ h
theorem begun_loop (F : D) (om : Om) : ∀ (ns : List Int) (st : Int) (r : Option Sl), 0 ≤ st ∧ st < 2147483647 → ∃ st' r', (0 ≤ st' ∧ st' < 2147483647) ∧
    goL (gN 2) (sAsg 1 (uBin dMod (uBin dAdd (uBin dAdd (uBin dMul (uVar 1) (uC (.int 48271))) (uBin dMul (uVar 2) (uC (.int 69621)))) (uC (.int 11))) (uC (.int 2147483647)))) (ns.map D.int) [some (.val F), some (.val (.int st)), r] om = .nx [some (.val F), some (.val (.int st')), r'] om
  | [], st, r, h => ⟨st, r, h, rfl⟩
  | n :: ns, st, r, h => by
    have h2 : 0 ≤ (st * 48271 + n * 69621 + 11) % 2147483647 ∧ (st * 48271 + n * 69621 + 11) % 2147483647 < 2147483647 := ⟨Int.emod_nonneg _ (by decide), Int.emod_lt_of_pos _ (by decide)⟩
    obtain ⟨st', r', h', e⟩ := begun_loop F om ns _ (some (.val (.int n))) h2
    refine ⟨st', r', h', ?_⟩
    rw [List.map_cons, goL_cons (ρ1 := [some (.val F), some (.val (.int st)), some (.val (.int n))]) _ _ rfl]
    walk_at "ev"
    exact e
/-! ### fractions -/
abbrev Fr := Int × Int
@[reducible] def encF (q : Fr) : D := .tup [.int q.1, .int q.2]
def gN' (t b : Int) : Int := if b < 0 then -(Int.gcd t b : Int) else (Int.gcd t b : Int)
def mk (t b : Int) : Fr := (t.fdiv (gN' t b), b.fdiv (gN' t b))
theorem gcd_loop (t c : Option Sl) (om : Om) : ∀ (k : Nat) (n : Nat) (a b : Nat) (r : Option Sl), b ≤ k → b < n → ∃ r',
    goW (uB (uBin dGt (uVar 3) (uC (.int 0)))) (sSeq (sAsg 4 (uBin dMod (uVar 2) (uVar 3))) (sSeq (sAsg 2 (uVar 3)) (sAsg 3 (uVar 4)))) n [t, c, some (.val (.int a)), some (.val (.int b)), r] om = .nx [t, c, some (.val (.int (Nat.gcd a b : Nat))), some (.val (.int 0)), r'] om := by
  intro k
  induction k with
  | zero =>
    intro n a b r hb hn
    obtain rfl : b = 0 := by omega
    obtain ⟨m, rfl⟩ : ∃ m, n = m + 1 := ⟨n - 1, by omega⟩
    refine ⟨r, ?_⟩
    rw [goW_succ]
    walk_at "ev"
    simp
  | succ k ih =>
    intro n a b r hb hn
    by_cases h0 : b = 0
    · subst h0
      obtain ⟨m, rfl⟩ : ∃ m, n = m + 1 := ⟨n - 1, by omega⟩
      refine ⟨r, ?_⟩
      rw [goW_succ]
      walk_at "ev"
      simp
    · obtain ⟨m, rfl⟩ : ∃ m, n = m + 1 := ⟨n - 1, by omega⟩
      have hlt : a % b < b := Nat.mod_lt _ (by omega)
      obtain ⟨r', e⟩ := ih m b (a % b) (some (.val (.int ((a % b : Nat) : Int)))) (by omega) (by omega)
      refine ⟨r', ?_⟩
      rw [goW_succ]
      have hp : (0 : Int) < (b : Int) := by omega
      walk_at "ev"
      simp only [hp, decide_true, if_true]
      walk_at "ev"
      have e2 : ((a : Int) % (b : Int)) = ((a % b : Nat) : Int) := by omega
      rw [e2, e]
      congr 6
      rw [Nat.gcd_comm a b, Nat.gcd_rec b a]
      rw [Nat.gcd_comm]

theorem gcd_pos_of {t b : Int} (hb : b ≠ 0) : 0 < Int.gcd t b := Int.gcd_pos_of_ne_zero_right _ hb
theorem abs_if (i : Int) : (if i < 0 then -i else i) = ((i.natAbs : Nat) : Int) := by
  split <;> omega
theorem divOk_bits {i j : Int} (h : j.natAbs < 2 ^ 9000) : divOk i j = true := by
  unfold divOk
  rw [PyProof.noPylong_of_log2]
  · rfl
  · by_cases h0 : j.natAbs = 0
    · rw [h0]; decide
    · exact (Nat.log2_lt h0).mpr h
theorem gN'_ne {t b : Int} (hb : b ≠ 0) : gN' t b ≠ 0 := by
  have := gcd_pos_of (t := t) hb
  unfold gN'
  split <;> omega
theorem gN'_le {t b : Int} (hb : b ≠ 0) : (gN' t b).natAbs ≤ b.natAbs := by
  have h : Int.gcd t b ≤ b.natAbs := Nat.le_of_dvd (by omega) (Int.gcd_dvd_natAbs_right t b)
  unfold gN'
  split <;> omega
/-! ### alike -/
mutual
def good : Nat → D → Bool
  | _, .non => true
  | _, .bl _ => true
  | _, .int _ => true
  | _, .str _ => true
  | n + 1, .tup ds => decide (ds.length ≤ 1000) && goods n ds
  | n + 1, .lst ds => decide (ds.length ≤ 1000) && goods n ds
  | _, _ => false
def goods : Nat → List D → Bool
  | _, [] => true
  | n, d :: ds => good n d && goods n ds
end

theorem goods_get : ∀ {n : Nat} {ds : List D} {k : Nat} {d : D}, goods n ds = true → ds[k]? = some d → good n d = true
  | n, [], k, d, h, e => by simp at e
  | n, x :: ds, 0, d, h, e => by
    simp at e
    subst e
    unfold goods at h
    exact (Bool.and_eq_true_iff.mp h).1
  | n, x :: ds, k + 1, d, h, e => by
    unfold goods at h
    exact goods_get (Bool.and_eq_true_iff.mp h).2 (by simpa using e)
theorem kb (a b : String) (r : Bool) (h : L2.kitB a b = some r := by decide +kernel) : L2.kitB a b = some r := h
theorem isi_of {T t : String} {d : D} {r : Bool} (h : tyName d = some t) (k : L2.kitB t T = some r) : dIsi T d = some (.bl r) := by
  unfold dIsi
  rw [h]
  show Option.map D.bl (L2.kitB t T) = _
  rw [k]
  rfl
theorem atN_nat {α : Type} {xs : List α} {k : Nat} {x : α} (h : xs[k]? = some x) : atN xs (k : Int) = some x := by
  unfold atN
  rw [if_pos (by omega)]
  simpa using h
theorem alike_loop {rec : FN} {f g : D} {om : Om} : ∀ (l : List Nat) (r : Option Sl), (∀ k ∈ l, ∃ x y, dIx f (.int (k : Int)) = some x ∧ dIx g (.int (k : Int)) = some y ∧ rec [x, y] om = .ok (.bl true) om) →
    ∃ r', goL (gN 2) (sIf (uNot (uB (uCall 2 rec (uCons (uBin dIx (uVar 0) (uVar 2)) (uCons (uBin dIx (uVar 1) (uVar 2)) uNil))))) (sRet (uC (.bl false))) sNext) (l.map fun (k : Nat) => D.int ((0 : Int) + (k : Int))) [some (.val f), some (.val g), r] om = .nx [some (.val f), some (.val g), r'] om
  | [], r, _ => ⟨r, rfl⟩
  | k :: l, r, h => by
    obtain ⟨x, y, e1, e2, e3⟩ := h k (by simp)
    obtain ⟨r', e⟩ := alike_loop (rec := rec) (f := f) (g := g) (om := om) l (some (.val (.int ((0 : Int) + (k : Int))))) fun j hj => h j (by simp [hj])
    refine ⟨r', ?_⟩
    rw [List.map_cons, goL_cons (ρ1 := [some (.val f), some (.val g), some (.val (.int ((0 : Int) + (k : Int))))]) _ _ rfl]
    simp only [Int.zero_add] at *
    walk_at "evs"
theorem mk_spec {t b : Int} (hb : b ≠ 0) : ∃ q r : Int, t = gN' t b * q ∧ b = gN' t b * r ∧ mk t b = (q, r) ∧ 0 < r := by
  have hg := gN'_ne (t := t) hb
  have ht : gN' t b ∣ t := by
    unfold gN'
    split
    · exact Int.neg_dvd.mpr (Int.gcd_dvd_left t b)
    · exact Int.gcd_dvd_left t b
  have hbd : gN' t b ∣ b := by
    unfold gN'
    split
    · exact Int.neg_dvd.mpr (Int.gcd_dvd_right t b)
    · exact Int.gcd_dvd_right t b
  obtain ⟨q, hq⟩ := ht
  obtain ⟨r, hr⟩ := hbd
  refine ⟨q, r, hq, hr, ?_, ?_⟩
  · unfold mk
    generalize gN' t b = g at *
    subst hq
    subst hr
    rw [Int.mul_fdiv_cancel_left _ hg, Int.mul_fdiv_cancel_left _ hg]
  · have hp : (0 : Int) < Int.gcd t b := by have := gcd_pos_of (t := t) hb; omega
    by_cases hn : b < 0
    · have e : gN' t b = -(Int.gcd t b : Int) := by unfold gN'; rw [if_pos hn]
      rw [e] at hr
      rcases Int.lt_trichotomy r 0 with h | h | h
      · have : 0 ≤ -(Int.gcd t b : Int) * r := by
          have := Int.mul_nonneg_of_nonpos_of_nonpos (a := -(Int.gcd t b : Int)) (b := r) (by omega) (by omega)
          exact this
        omega
      · subst h; omega
      · exact h
    · have e : gN' t b = (Int.gcd t b : Int) := by unfold gN'; rw [if_neg hn]
      rw [e] at hr
      rcases Int.lt_trichotomy r 0 with h | h | h
      · have : (Int.gcd t b : Int) * r ≤ 0 := Int.mul_nonpos_of_nonneg_of_nonpos (by omega) (by omega)
        omega
      · subst h; omega
      · exact h
theorem natAbs_le_mul {g q t : Int} (hg : g ≠ 0) (h : t = g * q) : q.natAbs ≤ t.natAbs := by
  subst h
  rw [Int.natAbs_mul]
  exact Nat.le_mul_of_pos_left _ (by omega)
theorem mk_den {t b : Int} (hb : b ≠ 0) : 0 < (mk t b).2 ∧ (mk t b).2.natAbs ≤ b.natAbs ∧ (mk t b).1.natAbs ≤ t.natAbs := by
  obtain ⟨q, r, h1, h2, h3, h4⟩ := mk_spec (t := t) hb
  rw [h3]
  exact ⟨h4, natAbs_le_mul (gN'_ne (t := t) hb) h2, natAbs_le_mul (gN'_ne (t := t) hb) h1⟩
/-- a fraction of less than N bits each -/
structure Bd (N : Nat) (q : Fr) : Prop where
  p : 0 < q.2
  n : q.1.natAbs < 2 ^ N
  d : q.2.natAbs < 2 ^ N
theorem Bd.mono {N M : Nat} {q : Fr} (h : Bd N q) (k : N ≤ M) : Bd M q := ⟨h.p, Nat.lt_of_lt_of_le h.n (Nat.pow_le_pow_right (by decide) k), Nat.lt_of_lt_of_le h.d (Nat.pow_le_pow_right (by decide) k)⟩
theorem bd_mk {N : Nat} {t b : Int} (hb : b ≠ 0) (h1 : t.natAbs < 2 ^ N) (h2 : b.natAbs < 2 ^ N) : Bd N (mk t b) := by
  obtain ⟨h, k, l⟩ := mk_den (t := t) hb
  exact ⟨h, Nat.lt_of_le_of_lt l h1, Nat.lt_of_le_of_lt k h2⟩
theorem bits_mul {i j : Int} {N M : Nat} (h1 : i.natAbs < 2 ^ N) (h2 : j.natAbs < 2 ^ M) : (i * j).natAbs < 2 ^ (N + M) := by
  rw [Int.natAbs_mul, Nat.pow_add]
  exact Nat.mul_lt_mul'' h1 h2
theorem bits_add {i j : Int} {N : Nat} (h1 : i.natAbs < 2 ^ N) (h2 : j.natAbs < 2 ^ N) : (i + j).natAbs < 2 ^ (N + 1) := by
  rw [Nat.pow_succ]
  omega
theorem bits_sub {i j : Int} {N : Nat} (h1 : i.natAbs < 2 ^ N) (h2 : j.natAbs < 2 ^ N) : (i - j).natAbs < 2 ^ (N + 1) := by
  rw [Nat.pow_succ]
  omega
theorem mulOk_bits {i j : Int} {N M : Nat} (h1 : i.natAbs < 2 ^ N) (h2 : j.natAbs < 2 ^ M) (h : N + M ≤ 900000) : mulOk i j = true := by
  have hw := wide_mul (a := N + 1) (b := M + 1) (Nat.lt_of_lt_of_le h1 (Nat.pow_le_pow_right (by decide) (Nat.le_succ _))) (Nat.lt_of_lt_of_le h2 (Nat.pow_le_pow_right (by decide) (Nat.le_succ _))) (Nat.succ_pos _) (Nat.succ_pos _) (by omega)
  unfold CMulW at hw
  unfold mulOk
  rw [Bool.or_eq_true]
  exact .inr (decide_eq_true hw)
theorem pos_mul {a b : Int} (h1 : 0 < a) (h2 : 0 < b) : a * b ≠ 0 := by
  have := Int.mul_pos h1 h2
  omega
theorem pow_9000 {n N : Nat} (h : n < 2 ^ N) (k : N ≤ 9000) : n < 2 ^ 9000 := Nat.lt_of_lt_of_le h (Nat.pow_le_pow_right (by decide) k)
def fsum (a b : Fr) : Fr := mk (a.1 * b.2 + b.1 * a.2) (a.2 * b.2)
def fsub (a b : Fr) : Fr := mk (a.1 * b.2 - b.1 * a.2) (a.2 * b.2)
def fmul (a b : Fr) : Fr := mk (a.1 * b.1) (a.2 * b.2)
def fdv (a b : Fr) : Fr := mk (a.1 * b.2) (a.2 * b.1)
def flt (a b : Fr) : Bool := decide (a.1 * b.2 < b.1 * a.2)
section
variable {N M : Nat} {a b : Fr} (om : Om)
theorem bd_sum (ha : Bd N a) (hb : Bd M b) : Bd (N + M + 1) (fsum a b) :=
  bd_mk (pos_mul ha.p hb.p) (bits_add (bits_mul ha.n hb.d) (by rw [Nat.add_comm]; exact bits_mul hb.n ha.d)) (Nat.lt_of_lt_of_le (bits_mul ha.d hb.d) (Nat.pow_le_pow_right (by decide) (by omega)))
theorem bd_sub (ha : Bd N a) (hb : Bd M b) : Bd (N + M + 1) (fsub a b) :=
  bd_mk (pos_mul ha.p hb.p) (bits_sub (bits_mul ha.n hb.d) (by rw [Nat.add_comm]; exact bits_mul hb.n ha.d)) (Nat.lt_of_lt_of_le (bits_mul ha.d hb.d) (Nat.pow_le_pow_right (by decide) (by omega)))
theorem bd_mul (ha : Bd N a) (hb : Bd M b) : Bd (N + M) (fmul a b) := bd_mk (pos_mul ha.p hb.p) (bits_mul ha.n hb.n) (bits_mul ha.d hb.d)
theorem bd_dv (ha : Bd N a) (hb : Bd M b) (h0 : b.1 ≠ 0) : Bd (N + M) (fdv a b) := bd_mk (by
  have := ha.p
  intro z
  rcases Int.mul_eq_zero.mp z with h | h
  · omega
  · exact h0 h) (bits_mul ha.n hb.d) (bits_mul ha.d hb.n)
end
theorem ne_dv {N M : Nat} {a b : Fr} (ha : Bd N a) (hb : Bd M b) (hz : N + M ≤ 13000) (h0 : b.1 ≠ 0) : a.2 * b.1 ≠ 0 := fun z => by
  have := ha.p
  rcases Int.mul_eq_zero.mp z with h | h
  · omega
  · exact h0 h
theorem divOk_big {i j : Int} (h : i.natAbs < 2 ^ 13400) : divOk i j = true := by
  unfold divOk Builtin.divisionGoesByPylong
  have h1 : (if (i == 0) = true then 0 else i.natAbs.log2 / 30 + 1) ≤ 450 := by
    split
    · exact Nat.zero_le _
    · rename_i c
      have c' : i.natAbs ≠ 0 := fun z => c (by rw [Int.natAbs_eq_zero.mp z]; rfl)
      have := (Nat.log2_lt c').mpr h
      omega
  show (!(decide ((if (j == 0) = true then 0 else j.natAbs.log2 / 30 + 1) > 300) && decide ((if (i == 0) = true then 0 else i.natAbs.log2 / 30 + 1) > (if (j == 0) = true then 0 else j.natAbs.log2 / 30 + 1) + 150))) = true
  generalize (if (i == 0) = true then 0 else i.natAbs.log2 / 30 + 1) = x at *
  generalize (if (j == 0) = true then 0 else j.natAbs.log2 / 30 + 1) = y at *
  by_cases hy : y > 300
  · rw [decide_eq_false (p := x > y + 150) (by omega)]; simp
  · rw [decide_eq_false hy]; rfl
theorem pow_13400 {n N : Nat} (h : n < 2 ^ N) (k : N ≤ 13400) : n < 2 ^ 13400 := Nat.lt_of_lt_of_le h (Nat.pow_le_pow_right (by decide) k)
theorem good_F (q : Fr) : good 10 (encF q) = true := rfl
theorem dIsi_bool (b : Bool) : dIsi "bool" (.bl b) = some (.bl true) := rfl
end Dv

namespace Dv
open PySem PySem.Spec PyProof.Rows L2
/-! ### what a fraction is worth -/
def val (q : Fr) : Rat := (q.1 : Rat) / (q.2 : Rat)
theorem cast_ne {i : Int} (h : i ≠ 0) : (i : Rat) ≠ 0 := fun z => h (Rat.intCast_inj.mp (by rw [z]; rfl))
theorem cast_pos {i : Int} (h : 0 < i) : (0 : Rat) < (i : Rat) := Rat.intCast_lt_intCast.mpr h
theorem val_mk {t b : Int} (hb : b ≠ 0) : val (mk t b) = (t : Rat) / (b : Rat) := by
  obtain ⟨q, r, h1, h2, h3, h4⟩ := mk_spec (t := t) hb
  have hg := cast_ne (gN'_ne (t := t) hb)
  have hr := cast_ne (show r ≠ 0 by omega)
  rw [h3]
  unfold val
  generalize gN' t b = g at *
  subst h1
  subst h2
  rw [Rat.intCast_mul, Rat.intCast_mul]
  grind
section
variable {a b : Fr} (ha : 0 < a.2) (hb : 0 < b.2)
include ha hb
theorem val_sum : val (fsum a b) = val a + val b := by
  have h1 := cast_ne (show a.2 ≠ 0 by omega)
  have h2 := cast_ne (show b.2 ≠ 0 by omega)
  unfold fsum
  rw [val_mk (pos_mul ha hb)]
  unfold val
  rw [Rat.intCast_add, Rat.intCast_mul, Rat.intCast_mul, Rat.intCast_mul]
  grind
theorem val_sub : val (fsub a b) = val a - val b := by
  have h1 := cast_ne (show a.2 ≠ 0 by omega)
  have h2 := cast_ne (show b.2 ≠ 0 by omega)
  unfold fsub
  rw [val_mk (pos_mul ha hb)]
  unfold val
  rw [Rat.intCast_sub, Rat.intCast_mul, Rat.intCast_mul, Rat.intCast_mul]
  grind
theorem val_mul : val (fmul a b) = val a * val b := by
  have h1 := cast_ne (show a.2 ≠ 0 by omega)
  have h2 := cast_ne (show b.2 ≠ 0 by omega)
  unfold fmul
  rw [val_mk (pos_mul ha hb)]
  unfold val
  rw [Rat.intCast_mul, Rat.intCast_mul]
  grind
theorem val_dv (h0 : b.1 ≠ 0) : val (fdv a b) = val a / val b := by
  have h1 := cast_ne (show a.2 ≠ 0 by omega)
  have h2 := cast_ne (show b.2 ≠ 0 by omega)
  have h3 := cast_ne h0
  have h4 : a.2 * b.1 ≠ 0 := fun z => by
    rcases Int.mul_eq_zero.mp z with h | h
    · omega
    · exact h0 h
  unfold fdv
  rw [val_mk h4]
  unfold val
  rw [Rat.intCast_mul, Rat.intCast_mul]
  grind
theorem flt_iff : flt a b = true ↔ val a < val b := by
  have h1 := cast_pos ha
  have h2 := cast_pos hb
  unfold flt val
  rw [decide_eq_true_iff, ← Rat.intCast_lt_intCast, Rat.intCast_mul, Rat.intCast_mul, Rat.div_lt_iff h1]
  rw [show (b.1 : Rat) / (b.2 : Rat) * (a.2 : Rat) = ((b.1 : Rat) * (a.2 : Rat)) / (b.2 : Rat) by grind, Rat.lt_div_iff h2]
theorem flt_false : flt a b = false ↔ val b ≤ val a := by
  rw [← Rat.not_lt, ← flt_iff ha hb, Bool.not_eq_true]
end
theorem val_lt_of {a : Fr} (ha : 0 < a.2) : 0 ≤ val a ↔ 0 ≤ a.1 := by
  have h1 := cast_pos ha
  unfold val
  rw [← Rat.not_lt, Rat.div_lt_iff h1, Rat.zero_mul, Rat.not_lt]
  exact Rat.intCast_le_intCast
theorem val_pos {a : Fr} (ha : 0 < a.2) : 0 < val a ↔ 0 < a.1 := by
  have h1 := cast_pos ha
  unfold val
  rw [Rat.lt_div_iff h1, Rat.zero_mul]
  exact Rat.intCast_lt_intCast
theorem div_pos' {x y : Rat} (h1 : 0 < x) (h2 : 0 < y) : 0 < x / y := by
  rw [Rat.lt_div_iff h2, Rat.zero_mul]
  exact h1
end Dv

namespace Dv
open PySem PySem.Spec PyProof.Rows L2
/-! ### a value is equal to itself -/
mutual
def shp : Nat → D → Bool
  | _, .non => true
  | _, .bl _ => true
  | _, .int _ => true
  | _, .str x => (PyData.str x).canLay0
  | n + 1, .tup ds => shps n ds
  | n + 1, .lst ds => shps n ds
  | _, _ => false
def shps : Nat → List D → Bool
  | _, [] => true
  | n, d :: ds => shp n d && shps n ds
end
mutual
theorem shp_py : ∀ (n : Nat) (d : D), shp n d = true → ∃ p, toPy d = some p ∧ p.canLay0 = true ∧ p.depth ≤ n ∧ PyData.eqv p p = true
  | n, .non, _ => ⟨.none, by unfold toPy; rfl, by unfold PyData.canLay0; rfl, by unfold PyData.depth; omega, by unfold PyData.eqv; rfl⟩
  | n, .bl b, _ => ⟨.bool b, by unfold toPy; rfl, by unfold PyData.canLay0; rfl, by unfold PyData.depth; omega, by unfold PyData.eqv; simp⟩
  | n, .int i, _ => ⟨.int i, by unfold toPy; rfl, by unfold PyData.canLay0; rfl, by unfold PyData.depth; omega, by unfold PyData.eqv; simp⟩
  | n, .str x, h => ⟨.str x, by unfold toPy; rfl, by unfold shp at h; exact h, by unfold PyData.depth; omega, by unfold PyData.eqv; simp⟩
  | n + 1, .tup ds, h => by
    unfold shp at h
    obtain ⟨l, h1, h2, h3, h4⟩ := shps_py n ds h
    exact ⟨.tuple l, by unfold toPy; rw [h1], by unfold PyData.canLay0; exact h2, by unfold PyData.depth; omega, by unfold PyData.eqv; exact h4⟩
  | n + 1, .lst ds, h => by
    unfold shp at h
    obtain ⟨l, h1, h2, h3, h4⟩ := shps_py n ds h
    exact ⟨.list l, by unfold toPy; rw [h1], by unfold PyData.canLay0; exact h2, by unfold PyData.depth; omega, by unfold PyData.eqv; exact h4⟩
  | 0, .tup _, h => by unfold shp at h; cases h
  | 0, .lst _, h => by unfold shp at h; cases h
  | _, .obj _ _, h => by unfold shp at h; cases h
  | _, .loc _, h => by unfold shp at h; cases h
  | _, .frz _, h => by unfold shp at h; cases h
theorem shps_py : ∀ (n : Nat) (ds : List D), shps n ds = true → ∃ l, toPys ds = some l ∧ PyData.canLayAll0 l = true ∧ PyData.depthAll l ≤ n ∧ PyData.eqvAll l l = true
  | n, [], _ => ⟨[], by unfold toPys; rfl, by unfold PyData.canLayAll0; rfl, by unfold PyData.depthAll; omega, by unfold PyData.eqvAll; rfl⟩
  | n, d :: ds, h => by
    unfold shps at h
    obtain ⟨a, b⟩ := Bool.and_eq_true_iff.mp h
    obtain ⟨p, h1, h2, h3, h4⟩ := shp_py n d a
    obtain ⟨l, k1, k2, k3, k4⟩ := shps_py n ds b
    refine ⟨p :: l, by unfold toPys; rw [h1, k1], by unfold PyData.canLayAll0; rw [h2, k2]; rfl, by unfold PyData.depthAll; omega, by unfold PyData.eqvAll; rw [h4, k4]; rfl⟩
end
theorem eqPy_self {d : D} (h : shp 64 d = true) : eqPy d d = some true := by
  obtain ⟨p, h1, h2, h3, h4⟩ := shp_py 64 d h
  have hs : SeqAt.shaped p = true := by unfold SeqAt.shaped; rw [h2, decide_eq_true h3]; rfl
  unfold eqPy
  rw [h1]
  dsimp only
  rw [if_pos ⟨hs, hs⟩, h4]
theorem dEq_self {ds : List D} (h : shp 64 (.lst ds) = true) : dEq (.lst ds) (.lst ds) = some (.bl true) := by
  unfold dEq
  have e : dEqB (.lst ds) (.lst ds) = some true := by
    cases ds with
    | nil => rfl
    | cons d r => exact eqPy_self h
  rw [e]
theorem shps_all {n : Nat} : ∀ {ds : List D}, (∀ d ∈ ds, shp n d = true) → shps n ds = true
  | [], _ => by unfold shps; rfl
  | d :: ds, h => by
    unfold shps
    rw [h d (by simp), shps_all fun x hx => h x (by simp [hx])]
    rfl
theorem goods_all {n : Nat} : ∀ {ds : List D}, (∀ d ∈ ds, good n d = true) → goods n ds = true
  | [], _ => by unfold goods; rfl
  | d :: ds, h => by
    unfold goods
    rw [h d (by simp), goods_all fun x hx => h x (by simp [hx])]
    rfl
/-! ### comprehensions over a row -/
theorem goC_map {te : UE} {i : Nat} {ω : Om} {ρ : Rho} (f : D → D) : ∀ (ds acc : List D), (∀ d ∈ ds, te ((ρ.set i none).set i (some (.val d))) ω = .ok (f d) ((ρ.set i none).set i (some (.val d))) ω) → acc.length + ds.length ≤ big →
    goC (gN i) uYes te [i] ds acc (ρ.set i none) ω = .ok (acc ++ ds.map f) (ρ.set i none) ω
  | [], acc, _, _ => by unfold goC; simp
  | d :: ds, acc, h, hz => by
    unfold goC
    simp only [gN, uYes, if_true]
    rw [h d (by simp)]
    simp only [List.length_cons] at hz
    dsimp only
    rw [if_pos (by omega)]
    have e : clrs ((ρ.set i none).set i (some (.val d))) [i] = ρ.set i none := by
      show ((ρ.set i none).set i (some (.val d))).set i none = _
      rw [List.set_set, List.set_set]
    rw [e, goC_map f ds (acc ++ [f d]) (fun x hx => h x (by simp [hx])) (by simp; omega)]
    simp
/-- .. whose turns draw -/
theorem goC_inv {te : UE} {i : Nat} {ρ : Rho} (I : Om → Prop) (P : D → Prop) (h : ∀ (d : D) (ω : Om), I ω → ∃ y ω', te ((ρ.set i none).set i (some (.val d))) ω = .ok y ((ρ.set i none).set i (some (.val d))) ω' ∧ I ω' ∧ P y) :
    ∀ (ds acc : List D) (ω : Om), I ω → acc.length + ds.length ≤ big → ∃ ys ω', goC (gN i) uYes te [i] ds acc (ρ.set i none) ω = .ok (acc ++ ys) (ρ.set i none) ω' ∧ I ω' ∧ (∀ y ∈ ys, P y) ∧ ys.length = ds.length
  | [], acc, ω, hI, _ => ⟨[], ω, by unfold goC; simp, hI, by simp, rfl⟩
  | d :: ds, acc, ω, hI, hz => by
    obtain ⟨y, ω1, e1, h1, h2⟩ := h d ω hI
    simp only [List.length_cons] at hz
    obtain ⟨ys, ω2, e2, h3, h4, h5⟩ := goC_inv I P h ds (acc ++ [y]) ω1 h1 (by simp; omega)
    refine ⟨y :: ys, ω2, ?_, h3, fun z hz => ?_, by simp [h5]⟩
    · unfold goC
      simp only [gN, uYes, if_true]
      rw [e1]
      dsimp only
      rw [if_pos (by omega)]
      have e : clrs ((ρ.set i none).set i (some (.val d))) [i] = ρ.set i none := by
        show ((ρ.set i none).set i (some (.val d))).set i none = _
        rw [List.set_set, List.set_set]
      rw [e, e2]
      simp
    · rcases List.mem_cons.mp hz with rfl | q
      · exact h2
      · exact h4 z q
end Dv

namespace Dv
open PySem PySem.Spec PyProof.Rows L2
/-! ### lowest terms: equal worth, equal pairs -/
def Cn (q : Fr) : Prop := 0 < q.2 ∧ Int.gcd q.1 q.2 = 1
theorem mk_cn {t b : Int} (hb : b ≠ 0) : Cn (mk t b) := by
  obtain ⟨q, r, h1, h2, h3, h4⟩ := mk_spec (t := t) hb
  rw [h3]
  refine ⟨h4, ?_⟩
  have hg := gcd_pos_of (t := t) hb
  have hn : (gN' t b).natAbs = Int.gcd t b := by unfold gN'; split <;> simp
  have e : Int.gcd t b = (gN' t b).natAbs * Int.gcd q r := by
    rw [show Int.gcd t b = Int.gcd (gN' t b * q) (gN' t b * r) by rw [← h1, ← h2], Int.gcd_mul_left]
  rw [hn] at e
  have : Int.gcd t b * Int.gcd q r = Int.gcd t b * 1 := by omega
  exact Nat.eq_of_mul_eq_mul_left hg this
theorem dvd_cop {k m n : Int} (h : Int.gcd k m = 1) (d : k ∣ m * n) : k ∣ n := by
  rw [← Int.natAbs_dvd_natAbs, Int.natAbs_mul] at d
  rw [← Int.natAbs_dvd_natAbs]
  exact Nat.Coprime.dvd_of_dvd_mul_left h d
theorem cn_ext {a b : Fr} (ha : Cn a) (hb : Cn b) (h : val a = val b) : a = b := by
  obtain ⟨p, q⟩ := a
  obtain ⟨r, s⟩ := b
  obtain ⟨h1, h2⟩ := ha
  obtain ⟨h3, h4⟩ := hb
  dsimp only at h1 h2 h3 h4
  have hc : p * s = r * q := by
    have c1 := cast_ne (show q ≠ 0 by omega)
    have c2 := cast_ne (show s ≠ 0 by omega)
    unfold val at h
    dsimp only at h
    have : ((p * s : Int) : Rat) = ((r * q : Int) : Rat) := by
      rw [Rat.intCast_mul, Rat.intCast_mul]
      grind
    exact Rat.intCast_inj.mp this
  -- q divides s and s divides q
  have d1 : q ∣ s := by
    have : q ∣ p * s := ⟨r, by rw [hc, Int.mul_comm]⟩
    exact dvd_cop (by rw [Int.gcd_comm]; exact h2) this
  have d2 : s ∣ q := by
    have : s ∣ r * q := ⟨p, by rw [← hc, Int.mul_comm]⟩
    exact dvd_cop (by rw [Int.gcd_comm]; exact h4) this
  have e : q = s := Int.dvd_antisymm (by omega) (by omega) d1 d2
  subst e
  have : p = r := Int.eq_of_mul_eq_mul_right (by omega) hc
  rw [this]
theorem cn_01 : Cn ((0, 1) : Fr) := ⟨by decide, by decide⟩
theorem cn_sum {a b : Fr} (ha : 0 < a.2) (hb : 0 < b.2) : Cn (fsum a b) := mk_cn (pos_mul ha hb)
theorem cn_sub {a b : Fr} (ha : 0 < a.2) (hb : 0 < b.2) : Cn (fsub a b) := mk_cn (pos_mul ha hb)
theorem cn_mul {a b : Fr} (ha : 0 < a.2) (hb : 0 < b.2) : Cn (fmul a b) := mk_cn (pos_mul ha hb)
/-! ### fractions compared as pairs -/
theorem dEq_fr (a b : Fr) : dEq (encF a) (encF b) = some (.bl (decide (a = b))) := by
  obtain ⟨a1, a2⟩ := a
  obtain ⟨b1, b2⟩ := b
  have e : eqPy (.tup [.int a1, .int a2]) (.tup [.int b1, .int b2]) = some (decide ((a1, a2) = (b1, b2))) := by
    have hs : ∀ i j : Int, SeqAt.shaped (.tuple [.int i, .int j]) = true := fun i j => by
      simp [SeqAt.shaped, PyData.canLay0, PyData.canLayAll0, PyData.depth, PyData.depthAll]
    have t : ∀ i j : Int, toPy (.tup [.int i, .int j]) = some (.tuple [.int i, .int j]) := fun i j => by simp [toPy, toPys]
    unfold eqPy
    rw [t, t]
    dsimp only
    rw [if_pos ⟨hs _ _, hs _ _⟩]
    congr 1
    simp only [PyData.eqv, PyData.eqvAll, Bool.and_true]
    by_cases h1 : a1 = b1 <;> by_cases h2 : a2 = b2 <;> simp [h1, h2]
  show (match dEqB (.tup [.int a1, .int a2]) (.tup [.int b1, .int b2]) with | some b => some (D.bl b) | none => none) = _
  rw [show dEqB (.tup [.int a1, .int a2]) (.tup [.int b1, .int b2]) = eqPy (.tup [.int a1, .int a2]) (.tup [.int b1, .int b2]) from rfl, e]
theorem dNe_fr (a b : Fr) : dNe (encF a) (encF b) = some (.bl (!decide (a = b))) := by
  have h := dEq_fr a b
  unfold dEq at h
  unfold dNe
  cases e : dEqB (encF a) (encF b) with
  | none => rw [e] at h; cases h
  | some x => rw [e] at h; cases h; rfl
theorem dNe_self {ds : List D} (h : shp 64 (.lst ds) = true) : dNe (.lst ds) (.lst ds) = some (.bl false) := by
  have h := dEq_self h
  unfold dEq at h
  unfold dNe
  cases e : dEqB (.lst ds) (.lst ds) with
  | none => rw [e] at h; cases h
  | some x => rw [e] at h; cases h; rfl
theorem val_int1 (i : Int) : val (i, 1) = (i : Rat) := by
  unfold val
  simp only [Rat.div_def]
  rw [show ((1 : Int) : Rat) = 1 from rfl]
  grind
theorem val_nn_mk {t b : Int} (hb : 0 < b) (ht : 0 ≤ t) : 0 ≤ val (mk t b) := by
  rw [val_mk (by omega)]
  have h1 := cast_pos hb
  rw [← Rat.not_lt, Rat.div_lt_iff h1, Rat.zero_mul, Rat.not_lt]
  exact Rat.intCast_le_intCast.mpr ht
theorem val_pos_mk {t b : Int} (hb : 0 < b) (ht : 0 < t) : 0 < val (mk t b) := by
  rw [val_mk (by omega)]
  have h1 := cast_pos hb
  rw [Rat.lt_div_iff h1, Rat.zero_mul]
  exact cast_pos ht
end Dv

namespace Dv
open PySem PySem.Spec PyProof.Rows L2
/-! ### an own list lent to a call: the call tells nothing of it and leaves no list behind -/
mutual
def flat : D → Bool
  | .non => true
  | .bl _ => true
  | .int _ => true
  | .str _ => true
  | .loc _ => true
  | .tup ds => flats ds
  | .frz ds => flats ds
  | .lst _ => false
  | .obj _ _ => false
def flats : List D → Bool
  | [] => true
  | d :: ds => flat d && flats ds
end
def flatFs : List (Str × D) → Bool
  | [] => true
  | (_, d) :: r => flat d && flatFs r
def cellFlat : Cell → Bool
  | .gone => true
  | .lst ds => flats ds
  | .ins _ fs => flatFs fs
  | .tab _ => true
def omFlat : Om → Bool
  | [] => true
  | c :: r => cellFlat c && omFlat r
section
variable {g : G} {al : List Addr} {L L' : Addr → Prop} {H : Hp}
mutual
theorem RepV.flt : ∀ {v : V} {d : D}, Dv.flat d = true → RepV g al L H v d → RepV g al L' H v d
  | _, _, _, .non => .non
  | _, _, _, .bl => .bl
  | _, _, _, .int => .int
  | _, _, _, .str => .str
  | _, _, f, .tup h r => .tup h (RepVs.flt (by unfold Dv.flat at f; exact f) r)
  | _, _, f, .lst h n r => by unfold Dv.flat at f; cases f
  | _, _, f, .frz h r => .frz h (RepVs.flt (by unfold Dv.flat at f; exact f) r)
  | _, _, f, .obj h n r => by unfold Dv.flat at f; cases f
  | _, _, _, .loc h => .loc h
theorem RepVs.flt : ∀ {vs : List V} {ds : List D}, flats ds = true → RepVs g al L H vs ds → RepVs g al L' H vs ds
  | _, _, _, .nil => .nil
  | _, _, f, .cons h r => .cons (RepV.flt (by unfold flats at f; exact (Bool.and_eq_true_iff.mp f).1) h) (RepVs.flt (by unfold flats at f; exact (Bool.and_eq_true_iff.mp f).2) r)
end
theorem RepFs.flt : ∀ {vs : List (Str × V)} {ds : List (Str × D)}, flatFs ds = true → RepFs g al L H vs ds → RepFs g al L' H vs ds
  | _, _, _, .nil => .nil
  | _, _, f, .cons h r => .cons (h.flt (by unfold flatFs at f; exact (Bool.and_eq_true_iff.mp f).1)) (RepFs.flt (by unfold flatFs at f; exact (Bool.and_eq_true_iff.mp f).2) r)
theorem CellR.flt {a : Addr} : ∀ {c : Cell}, cellFlat c = true → CellR g al L H a c → CellR g al L' H a c
  | .gone, _, _ => trivial
  | .lst ds, f, ⟨vs, h, r⟩ => ⟨vs, h, r.flt f⟩
  | .ins c fs, f, ⟨dx, fvs, h, r⟩ => ⟨dx, fvs, h, r.flt f⟩
  | .tab _, _, h => h
theorem omFlat_get : ∀ {om : Om} {i : Nat} {c : Cell}, omFlat om = true → om[i]? = some c → cellFlat c = true
  | [], i, c, _, h => by simp at h
  | x :: om, 0, c, f, h => by
    simp at h
    subst h
    unfold omFlat at f
    exact (Bool.and_eq_true_iff.mp f).1
  | x :: om, i + 1, c, f, h => by
    unfold omFlat at f
    exact omFlat_get (Bool.and_eq_true_iff.mp f).2 (by simpa using h)
end
section
variable {g : G} {R : Addr → Prop} {al al' : List Addr} {om om' : Om} {σ σ' : St} {ρ ρ' : Rho} {H H' : Hp} {W : WX} {X : Cx} {i : Nat} {v : V} {d : D} {x y : Str} {ps : List Str} {k n : Nat} {S : FN} {p0 p1 pos : Pos} {es : List Expr} {us : UA}
def uCallL (i n : Nat) (S : FN) (us : UA) : UE := fun ρ ω => match ρ[i]? with
  | some (some (.own _)) => (us ρ ω).bind fun ds ρ ω => (match ρ[i]? with
    | some (some (.own xs)) => if ds.length + 1 = n then (match S (.lst xs :: ds) ω with
      | .ok d ω' => if flat d = true ∧ omFlat ω' = true then .ok d ρ ω' else .no
      | _ => .no) else .no
    | _ => .no)
  | _ => .no
theorem pu_callL (i : Nat) (h : Has X.prog X.w X.K X.mg X.base x ps k (spU g n S)) (hr : Room k X.A) (ha : PA X es (tA g W us)) (hN : X.N[i]? = some y := by rfl) (hv : Vis X.env.scope y := by first | exact Or.inl rfl | exact Or.inr (Or.inl rfl) | exact Or.inr (Or.inr rfl)) (hg : Gl X x := by rfl) (hpn : ps.length = n := by rfl)
    (hdb : (x == ("__debug__" : Str)) = false := by decide) (hd : (y == ("__debug__" : Str)) = false := by decide) (hcd : (y == ("__classdict__" : Str)) = false := by decide)
    (he : starEach (.Name y p1 :: es) X.env = (false, eval (.Name y p1) X.env) :: starEach es X.env := by rfl) (hpl : (backTo pos (starEach es X.env)).any (·.1) = false := by rfl) : PE X (.Call (.Name x p0) (.Name y p1 :: es) [] pos) (tE g W (uCallL i n S us)) := by
  subst hpn
  obtain ⟨f, fd, hm, hk, hb, F⟩ := h
  refine peImp (pe_call F hr hg hm hk hb .nil passL (pa_cons (pe_var hN hv hd hcd) ha) hdb he hpl) fun σ H Q ⟨R, ρ, om, al, St, P⟩ => ?_
  unfold uCallL at P
  split at P
  · rename_i xs0 e0
    obtain ⟨a, vs0, q1, q2, q3⟩ := St.own i xs0 e0
    refine ⟨_, q1, tR_bind St P fun ds ρ1 om1 vs H1 al1 s1 S1 r1 P1 => ?_⟩
    split at P1
    · rename_i xs e1
      split at P1
      · rename_i hl
        obtain ⟨a', vx, k1, k2, k3⟩ := S1.own i xs e1
        rw [q1] at k1
        cases k1
        obtain ⟨S', st, hn⟩ := S1.moveOwn e1 q1
        have ll : ∀ b, LL R al1 om1 σ (ρ1.set i none) b → LL R al1 om1 σ ρ1 b := fun b m => by
          rcases m with (m | ⟨j, dj, z1, z2⟩) | m
          · exact .inl (.inl m)
          · rcases getset z1 with ⟨_, q⟩ | ⟨_, q⟩
            · cases q
            · exact .inl (.inr ⟨j, dj, q, z2⟩)
          · exact .inr m
        have r2 : RepVs g al1 (LL R al1 om1 σ (ρ1.set i none)) H1 (.ref a :: vs) (.lst xs :: ds) := .cons (.lst k2 hn (k3.car (carL ll))) (r1.car (carL ll))
        rw [List.append_nil]
        refine ⟨by rw [List.length_cons, RepVs.length r1]; exact hl, RC R σ (ρ1.set i none), .lst xs :: ds, om1, al1, S'.forCall, r2.car (carL fun a h => lf_ll.mp h), ?_⟩
        cases e9 : S (.lst xs :: ds) om1 with
        | xc _ _ => rw [e9] at P1; exact P1.elim
        | no => rw [e9] at P1; exact P1.elim
        | ok d om' =>
          rw [e9] at P1
          dsimp only at P1
          split at P1
          · rename_i hf
            intro v H' al' s o rv
            have T : Step al1 (Mt al1 om1 σ ρ1) H1 al' (Mt al' om' σ ρ1) H' := ⟨s.ext, fun b o h n => s.keep b o h fun m => n (.inl m), fun b m => by
              rcases m with m | m
              · exact (s.fresh b m).imp .inl id
              · exact .inl (.inr m)⟩
            refine P1 v H' al' T ⟨⟨o.len, fun j c b h1 h2 => (o.cel j c b h1 h2).flt (omFlat_get hf.2 h1), o.inj, fun b h => o.rsv b (.inl h)⟩, S1.sl, fun j d h => ?_, fun j dj h => ?_, S1.odj, fun b h => ⟨fun z => ?_, (S1.ocl b h).2⟩⟩ (rv.flt hf.1)
            · obtain ⟨w, h1, h2⟩ := S1.val j d h
              exact ⟨w, h1, T.rep S1 h2⟩
            · obtain ⟨b, ws, h1, h2, h3⟩ := S1.own j dj h
              exact ⟨b, ws, h1, s.keep b _ h2 (S1.ocl b ⟨j, dj, h, h1⟩).1, T.reps S1 h3⟩
            · obtain ⟨j, dj, z1, z2⟩ := id h
              obtain ⟨b', ws, h1, h2, h3⟩ := S1.own j dj z1
              rw [z2] at h1
              cases h1
              rcases s.fresh b z with q | q
              · exact (S1.ocl b h).1 q
              · rw [h2] at q; cases q
          · exact P1.elim
      · exact P1.elim
    · exact P1.elim
  · exact P.elim
end
end Dv

namespace Dv
open PySem PySem.Spec PyProof.Rows L2
/-! ### texts: methods of one argument -/
@[simp] def uM1 (f : Str → D → Option D) (ua ub : UE) : UE := fun ρ ω => (ua ρ ω).bind fun x ρ ω => match x with
  | .str a => (ub ρ ω).bind fun y ρ ω => liftO (f a y) ρ ω
  | _ => .no
def fJoin (a : Str) : D → Option D
  | .lst ys => match asStrs ys with
    | some ss => if (ss.map (·.length)).sum + ss.length * a.length ≤ big then some (.str (Txt.join a ss)) else none
    | none => none
  | _ => none
def fSplit (a : Str) : D → Option D
  | .str b => if (b.length == 0) = false ∧ a.length + 2 ≤ big then some (.lst ((Txt.split a b).map D.str)) else none
  | _ => none
def fPart (a : Str) : D → Option D
  | .str b => if (b.length == 0) = false ∧ a.length ≤ big then some (.tup [.str (Txt.partition a b).1, .str (Txt.partition a b).2.1, .str (Txt.partition a b).2.2]) else none
  | _ => none
def fLstripC (a : Str) : D → Option D
  | .str b => if a.length ≤ big then some (.str (Txt.lstripChars a b)) else none
  | _ => none
/-- x or y, by the truth of a text -/
@[simp] def uOrS (ua ub : UE) : UE := fun ρ ω => (ua ρ ω).bind fun x ρ ω => match x with
  | .str a => if a.length ≤ big then (if a.length = 0 then ub ρ ω else .ok (.str a) ρ ω) else .no
  | _ => .no
def dInS : D → D → Option D
  | .str i, .str j => some (.bl (!(Builtin.Str.occurrences j i 0 j.length 1).isEmpty))
  | _, _ => none
/-- x * n of a text -/
def dMulS : D → D → Option D
  | .str x, .int n => if 1 ≤ n ∧ n ≤ 1000 ∧ 1 ≤ x.length ∧ x.length ≤ 1000 then some (.str ⟨(List.replicate n.toNat x.cps).foldl (· ++ ·) #[]⟩) else none
  | _, _ => none
section
variable {g : G} {R : Addr → Prop} {al : List Addr} {om : Om} {σ : St} {ρ : Rho} {H H' : Hp} {W : WX} {X : Cx} {L : Addr → Prop} {v : V} {d : D}
variable {a b e o : Expr} {ua ub ue : UE} {es : List Expr} {us : UA} {p0 pos p1 apos : Pos} {x : Str} {f : Str → D → Option D} {r : V → List V → Hp → VK → Prop} {id : String} {name : Str}
def M1S (g : G) (r : V → List V → Hp → VK → Prop) (f : Str → D → Option D) : Prop := ∀ (R : Addr → Prop) (W : WX) (al : List Addr) (om : Om) (σ : St) (ρ : Rho) (H : Hp) (Q : VK) (a : Str) (w : V) (y : D), Rst g R al σ ρ om H → RepV g al (LL R al om σ ρ) H w y →
  PostR g R W (relV g) al (Mt al om σ ρ) H σ (liftO (f a y) ρ om) Q → r (.str a) [w] H Q
theorem tM1_of (hf : M1S g r f) {Q : VK} (h : tE g W (uM1 f ua ub) σ H Q) : tM1 r (tE g W ua) (tE g W ub) σ H Q := by
  obtain ⟨R, ρ, om, al, S, P⟩ := h
  refine tR_bind S P fun x ρ1 om1 v H1 al1 s1 S1 r1 P1 => ?_
  cases x <;> first | exact P1.elim | skip
  cases r1
  exact ⟨⟨_, rfl⟩, tR_bind S1 P1 fun y ρ2 om2 w H2 al2 s2 S2 r2 P2 => hf R W al2 om2 σ ρ2 H2 Q _ w y S2 r2 P2⟩
theorem pu_m1 (slot : Slot "str" name id) (ty : typeOf (.builtin id) = pure (.type "method_descriptor")) (rule : MtR X id r) (hf : M1S g r f) (ho : PE X o (tE g W ua)) (he : PE X e (tE g W ub))
    (hs : starEach [e] X.env = [(false, eval e X.env)] := by rfl) (hbase : attributeBase o name X.env (eval o X.env) = eval o X.env := by rfl) (hline : (apos.endLine == pos.line) = true := by rfl) :
    PE X (.Call (.Attribute o name apos) [e] [] pos) (tE g W (uM1 f ua ub)) := peImp (pe_m1 slot ty rule ho he hs hbase hline) fun σ H Q h => tM1_of hf h
theorem s_join {K : PySem.W.Frag} : M1S g (fun x xs H Q => ∃ a p, ∃ ys : List Str, x = .str a ∧ xs = [.ref p] ∧ (SqL K H p (ys.map V.str) ∨ SqT K H p (ys.map V.str)) ∧
    (ys.map (·.length)).sum + ys.length * a.length ≤ 16777216 ∧ Q (.str (Txt.join a ys)) H) fJoin := by
  intro R W al om σ ρ H Q a w y S r P
  cases y <;> first | exact P.elim | skip
  rename_i ds
  unfold fJoin at P
  dsimp only at P
  cases e : asStrs ds with
  | none => rw [e] at P; exact P.elim
  | some ss =>
    rw [e] at P
    dsimp only at P
    split at P
    · rename_i hz
      cases r with
      | lst h1 h2 h3 =>
        rw [asStrs_eq e] at h3
        rw [h3.strs] at h1
        exact ⟨a, _, ss, rfl, rfl, .inl (SqL.of h1), Nat.le_trans hz (by decide), okSame S P .str⟩
    · exact P.elim
theorem s_split : M1S g (fun x xs H Q => ∃ a b, x = .str a ∧ xs = [.str b] ∧ (b.length == 0) = false ∧ a.length + 2 ≤ sizeLine ∧ rNewStrs (Txt.split a b) H Q) fSplit := by
  intro R W al om σ ρ H Q a w y S r P
  cases y <;> first | exact P.elim | skip
  cases r
  unfold fSplit at P
  dsimp only at P
  split at P
  · rename_i hz
    exact ⟨a, _, rfl, rfl, hz.1, big_line hz.2, fun p hp => okNewL S P hp .of_strs⟩
  · exact P.elim
theorem s_part : M1S g (fun x xs H Q => ∃ a b, x = .str a ∧ xs = [.str b] ∧ (b.length == 0) = false ∧ a.length ≤ sizeLine ∧
    ∀ p, H p = none → Q (.ref p) (upd H p (.tup [.str (Txt.partition a b).1, .str (Txt.partition a b).2.1, .str (Txt.partition a b).2.2]))) fPart := by
  intro R W al om σ ρ H Q a w y S r P
  cases y <;> first | exact P.elim | skip
  cases r
  unfold fPart at P
  dsimp only at P
  split at P
  · rename_i hz
    exact ⟨a, _, rfl, rfl, hz.1, big_line hz.2, fun p hp => okNewT S P hp (.cons .str (.cons .str (.cons .str .nil)))⟩
  · exact P.elim
theorem s_lstripC : M1S g (fun x xs H Q => ∃ a b, x = .str a ∧ xs = [.str b] ∧ a.length ≤ sizeLine ∧ Q (.str (Txt.lstripChars a b)) H) fLstripC := by
  intro R W al om σ ρ H Q a w y S r P
  cases y <;> first | exact P.elim | skip
  cases r
  unfold fLstripC at P
  dsimp only at P
  split at P
  · rename_i hz
    exact ⟨a, _, rfl, rfl, big_line hz, okSame S P .str⟩
  · exact P.elim
theorem pu_join (ho : PE X o (tE g W ua)) (he : PE X e (tE g W ub)) (hs : starEach [e] X.env = [(false, eval e X.env)] := by rfl) (hbase : attributeBase o "join" X.env (eval o X.env) = eval o X.env := by rfl) (hline : (apos.endLine == pos.line) = true := by rfl) :
    PE X (.Call (.Attribute o "join" apos) [e] [] pos) (tE g W (uM1 fJoin ua ub)) := pu_m1 F.slot_str_join F.type_str_join mt_join s_join ho he hs hbase hline
theorem pu_split (ho : PE X o (tE g W ua)) (he : PE X e (tE g W ub)) (hs : starEach [e] X.env = [(false, eval e X.env)] := by rfl) (hbase : attributeBase o "split" X.env (eval o X.env) = eval o X.env := by rfl) (hline : (apos.endLine == pos.line) = true := by rfl) :
    PE X (.Call (.Attribute o "split" apos) [e] [] pos) (tE g W (uM1 fSplit ua ub)) := pu_m1 F.slot_str_split F.type_str_split mt_split s_split ho he hs hbase hline
theorem pu_part (ho : PE X o (tE g W ua)) (he : PE X e (tE g W ub)) (hs : starEach [e] X.env = [(false, eval e X.env)] := by rfl) (hbase : attributeBase o "partition" X.env (eval o X.env) = eval o X.env := by rfl) (hline : (apos.endLine == pos.line) = true := by rfl) :
    PE X (.Call (.Attribute o "partition" apos) [e] [] pos) (tE g W (uM1 fPart ua ub)) := pu_m1 F.slot_str_partition F.type_str_partition mt_partition s_part ho he hs hbase hline
theorem pu_lstripC (ho : PE X o (tE g W ua)) (he : PE X e (tE g W ub)) (hs : starEach [e] X.env = [(false, eval e X.env)] := by rfl) (hbase : attributeBase o "lstrip" X.env (eval o X.env) = eval o X.env := by rfl) (hline : (apos.endLine == pos.line) = true := by rfl) :
    PE X (.Call (.Attribute o "lstrip" apos) [e] [] pos) (tE g W (uM1 fLstripC ua ub)) := pu_m1 F.slot_str_lstrip F.type_str_lstrip mt_lstripChars s_lstripC ho he hs hbase hline
theorem pu_orS (ha : PE X a (tE g W ua)) (hb : PE X b (tE g W ub)) : PE X (.BoolOp .Or [a, b] pos) (tE g W (uOrS ua ub)) :=
  peImp (pe_orT ha (pe_one hb)) fun σ H Q ⟨R, ρ, om, al, S, P⟩ => tR_bind S P fun x ρ1 om1 v H1 al1 s1 S1 r1 P1 => by
    cases x <;> first | exact P1.elim | skip
    cases r1
    rename_i y
    dsimp only at P1
    split at P1
    · rename_i hz
      refine ⟨_, ⟨big_line hz, rfl⟩, ?_⟩
      by_cases h0 : y.length = 0
      · rw [if_pos h0] at P1
        have e : (((y.length : Nat) : Int) != 0) = false := by rw [h0]; rfl
        rw [e]
        exact ⟨R, ρ1, om1, al1, S1, P1⟩
      · rw [if_neg h0] at P1
        have e : (((y.length : Nat) : Int) != 0) = true := by
          simp only [bne_iff_ne, ne_eq]
          omega
        rw [e]
        exact okSame S1 P1 .str
    · exact P1.elim
def rNotInS : R2 := fun x y H Q => ∃ i j, x = .str i ∧ y = .str j ∧ Q (.bl (!(!(Builtin.Str.occurrences j i 0 j.length 1).isEmpty))) H
theorem s_notin : OpS g rNotInS dNotIn := by
  intro R W al om σ ρ H Q v w x y S rx ry P
  cases x <;> cases y <;> first | exact P.elim | skip
  cases rx.str; cases ry.str
  exact ⟨_, _, rfl, rfl, okSame S P .bl⟩
theorem s_inS : OpS g (fun x y H Q => ∃ i j, x = .str i ∧ y = .str j ∧ Q (.bl (!(Builtin.Str.occurrences j i 0 j.length 1).isEmpty)) H) dInS := by
  intro R W al om σ ρ H Q v w x y S rx ry P
  cases x <;> cases y <;> first | exact P.elim | skip
  cases rx.str; cases ry.str
  exact ⟨_, _, rfl, rfl, okSame S P .bl⟩
theorem dNotIn_sign (c : Nat) (z : Str) : dNotIn (.str ⟨#[c]⟩) (.str z) = some (.bl (!decide (c ∈ z.cps.toList))) := by
  show some (D.bl (!(!(Builtin.Str.occurrences z ⟨#[c]⟩ 0 z.length 1).isEmpty))) = _
  rw [PySem.StrLaws.found_one z c]
theorem rep_size (x : Array Nat) : ∀ (n : Nat) (acc : Array Nat), ((List.replicate n x).foldl (· ++ ·) acc).size = acc.size + n * x.size
  | 0, acc => by simp
  | n + 1, acc => by
    rw [List.replicate_succ, List.foldl_cons, rep_size x n, Array.size_append, Nat.succ_mul]
    omega
def rMulS : R2 := fun x y H Q => ∃ z n, x = .str z ∧ y = .int n ∧ (1 ≤ n ∧ n ≤ 1000 ∧ 1 ≤ z.length ∧ z.length ≤ 1000) ∧ Q (.str ⟨(List.replicate n.toNat z.cps).foldl (· ++ ·) #[]⟩) H
theorem op_mulS : OpR X (binaryOp .Mult) rMulS := by
  intro pins s σ H x y v u Q I rx ry h
  obtain ⟨z, n, rfl, rfl, ⟨h1, h2, h3, h4⟩, q⟩ := h
  obtain ⟨t, rfl⟩ := rx
  obtain ⟨t', rfl⟩ := ry
  have hz : z.length * n.toNat ≤ 1000 * 1000 := Nat.mul_le_mul h4 (by omega)
  refine PySem.P.mul_str ?_ (fun _ _ => ?_) (fun _ _ => ?_) ?_
  · rw [decide_eq_false (by omega), decide_eq_false (by omega)]; rfl
  · have : (1000 : Int) ≤ (2 ^ 63 - 1) / n := by
      refine (Int.le_ediv_iff_mul_le (by omega)).mpr ?_
      omega
    omega
  · have e : sizeLine = 16777216 := sizeLine_eq
    unfold Builtin.Str.tooLong
    first
      | exact decide_eq_false (by omega)
      | (simp; omega)
  · rw [if_neg (by omega)]
    by_cases hn : n = 1
    · subst hn
      have e : ((1 : Int) == 1 || z.length == 0) = true := rfl
      rw [if_pos e]
      refine ⟨.str z, H, I, ⟨t, rfl⟩, ?_⟩
      have e2 : (⟨(List.replicate (1 : Int).toNat z.cps).foldl (· ++ ·) #[]⟩ : Str) = z := by simp
      rw [e2] at q
      exact q
    · have e : (n == 1 || z.length == 0) = false := by simp; omega
      rw [if_neg (by rw [e]; decide)]
      refine ⟨?_, ?_⟩
      · have e3 : sizeLine = 16777216 := sizeLine_eq
        have e4 := rep_size z.cps n.toNat #[]
        have e5 : z.cps.size = z.length := rfl
        show (⟨(List.replicate n.toNat z.cps).foldl (· ++ ·) #[]⟩ : Str).length ≤ sizeLine
        show ((List.replicate n.toNat z.cps).foldl (· ++ ·) #[]).size ≤ sizeLine
        rw [e4, e5, Nat.mul_comm]
        simp only [List.size_toArray, List.length_nil]
        omega
      · exact ⟨.str _, H, I.tok _, ⟨_, rfl⟩, q⟩
theorem s_mulS : OpS g rMulS dMulS := by
  intro R W al om σ ρ H Q v w x y S rx ry P
  cases x <;> cases y <;> first | exact P.elim | skip
  cases rx.str; cases ry.int
  unfold dMulS at P
  dsimp only at P
  split at P
  · rename_i hz
    exact ⟨_, _, rfl, rfl, hz, okSame S P .str⟩
  · exact P.elim
end
end Dv

/-! ### sorted: pairs of an int and a text; texts -/
namespace Dv
open PySem PySem.Spec PyProof.Rows
section
variable {prog : Program} {w : World} {A : Around} {E : Value → Shared → Prop} {s : Shared}
def IsIS (h : Heap) (v : Value) (x : Int) (y : Str) : Prop := ∃ a o t u n, v = .ref a ∧ h.get? a = some o ∧ o.cls = .type "tuple" ∧ o.data = .seq #[.int x t, .str y u] n
theorem IsIS.keeps {h h' : Heap} {v : Value} {x : Int} {y : Str} (p : IsIS h v x y) (k : ∀ b o, h.get? b = some o → o.cls = .type "tuple" → h'.get? b = some o) : IsIS h' v x y := by
  obtain ⟨a, o, t, u, n, e, ho, hc, hd⟩ := p
  exact ⟨a, o, t, u, n, e, k _ _ ho hc, hc, hd⟩
/-- by the int, then by the text -/
def ltIS (p q : Int × Str) : Bool := if p.1 = q.1 then decide (p.2.cps.toList < q.2.cps.toList) else decide (p.1 < q.1)
theorem nlt_irrefl (l : List Nat) : ¬ l < l := List.lt_irrefl l
theorem swo_IS {α : Type} (k : α → Int × Str) : SrtO.Swo fun v u => ltIS (k v) (k u) := by
  have asy : ∀ a b : List Nat, a < b → ¬ b < a := fun a b h => List.lt_asymm h
  have tr : ∀ a b c : List Nat, ¬ b < a → ¬ c < b → ¬ c < a := fun a b c h1 h2 h3 => by
    have h4 : a ≤ b := h1
    have h5 : b ≤ c := h2
    exact (List.le_trans h4 h5) h3
  refine ⟨fun x y h => ?_, fun x y z h1 h2 => ?_⟩
  · unfold ltIS at h ⊢
    by_cases e : (k x).1 = (k y).1
    · rw [if_pos e, decide_eq_true_eq] at h
      rw [if_pos e.symm]
      exact decide_eq_false (asy _ _ h)
    · rw [if_neg e, decide_eq_true_eq] at h
      rw [if_neg (fun z => e z.symm)]
      exact decide_eq_false (by omega)
  · unfold ltIS at h1 h2 ⊢
    by_cases e1 : (k y).1 = (k x).1
    · rw [if_pos e1] at h1
      by_cases e2 : (k z).1 = (k y).1
      · rw [if_pos e2] at h2
        rw [if_pos (e2.trans e1)]
        exact decide_eq_false (tr _ _ _ (of_decide_eq_false h1) (of_decide_eq_false h2))
      · rw [if_neg e2] at h2
        have := of_decide_eq_false h2
        rw [if_neg (fun q => e2 (q.trans e1.symm))]
        exact decide_eq_false (by omega)
    · rw [if_neg e1] at h1
      have := of_decide_eq_false h1
      by_cases e2 : (k z).1 = (k y).1
      · rw [if_neg (fun q => e1 (e2.symm.trans q))]
        exact decide_eq_false (by omega)
      · rw [if_neg e2] at h2
        have := of_decide_eq_false h2
        by_cases e3 : (k z).1 = (k x).1
        · omega
        · rw [if_neg e3]
          exact decide_eq_false (by omega)
theorem is_cmp {vs : List Value} {k : Value → Int × Str} (hp : ∀ v ∈ vs, IsIS s.heap v (k v).1 (k v).2) : SrtO.Cmp prog w A s (tuples' true) (fun p => p.1 ∈ vs) (SrtO.lt2 fun v u => ltIS (k v) (k u)) := by
  intro p q hm hm'
  have h1 := hp _ hm
  have h2 := hp _ hm'
  show wpAny (model prog w) A (keyLt' (tuples' true) p.1 q.1) (fun r s' => s' = s ∧ r = ltIS (k p.1) (k q.1)) (fun _ _ => False) s
  unfold ltIS
  generalize (k p.1).1 = x at h1 ⊢
  generalize (k p.1).2 = y at h1 ⊢
  generalize (k q.1).1 = x' at h2 ⊢
  generalize (k q.1).2 = y' at h2 ⊢
  obtain ⟨a, o, t, u, n, e, ho, hc, hd⟩ := h1
  obtain ⟨a', o', t', u', n', e', ho', hc', hd'⟩ := h2
  rw [e, e']
  refine PySem.W.kat_lt ho hd ho' hd' ?_
  show PySem.W.KatLex prog w A true (decide (2 < 2)) _ [(.int x t, .int x' t'), (.str y u, .str y' u')] 0 s
  refine PySem.W.kat_cons (SeqAt.EqAt.int_int x t x' t' prog w _ _ ?_)
  refine PySem.W.kat_go (fun e1 => ?_) (fun e1 => ?_)
  · have ex : x = x' := by simpa using e1
    refine PySem.W.kat_yes (PySem.W.kat_cons (SeqAt.EqAt.str_str y u y' u' prog w _ _ ?_))
    refine PySem.W.kat_go (fun e2 => ?_) (fun e2 => ?_)
    · have ey : y = y' := by simpa using e2
      have e3 : (if x = x' then decide (y.cps.toList < y'.cps.toList) else decide (x < x')) = false := by
        rw [if_pos ex, ey]
        exact decide_eq_false (nlt_irrefl _)
      exact PySem.W.kat_yes (PySem.W.kat_nil ⟨rfl, e3.symm⟩)
    · have e3 : (if x = x' then decide (y.cps.toList < y'.cps.toList) else decide (x < x')) = decide (y.cps.toList < y'.cps.toList) := if_pos ex
      refine PySem.W.kat_no (PySem.W.kat_one _ _ (PyProof.Rows.lt_str ?_))
      exact (show s = s ∧ decide (y.cps.toList < y'.cps.toList) = (if x = x' then decide (y.cps.toList < y'.cps.toList) else decide (x < x')) from ⟨rfl, e3.symm⟩)
  · have ex : ¬ x = x' := by simpa using e1
    have e3 : (if x = x' then decide (y.cps.toList < y'.cps.toList) else decide (x < x')) = decide (x < x') := if_neg ex
    exact PySem.W.kat_no (oneLt_int ⟨rfl, e3.symm⟩)
theorem is_firsts {h : Heap} : ∀ {vs : List Value}, (∀ v ∈ vs, ∃ x y, IsIS h v x y) → ∃ fs : List Value, PySem.W.KatTups h vs fs ∧ fs.length = vs.length ∧ ∀ f ∈ fs, ∃ x t, f = Value.int x t
  | [], _ => ⟨[], PySem.W.KatTups.nil, rfl, fun _ hm => by simp at hm⟩
  | v :: vs, hp => by
    obtain ⟨fs, h1, h2, h3⟩ := is_firsts (vs := vs) fun v' hm => hp v' (List.mem_cons_of_mem _ hm)
    obtain ⟨x, y, a, o, t, u, n, e, ho, hc, hd⟩ := hp v (List.mem_cons_self ..)
    subst e
    refine ⟨.int x t :: fs, PySem.W.KatTups.cons ho hc hd rfl h1, by rw [List.length_cons, List.length_cons, h2], fun f hm => ?_⟩
    rcases List.mem_cons.mp hm with rfl | hm
    · exact ⟨x, t, rfl⟩
    · exact h3 f hm
theorem is_sortable {a : Addr} {vs : List Value} {k : Value → Int × Str} (h0 : 0 < vs.length) (hp : ∀ v ∈ vs, IsIS s.heap v (k v).1 (k v).2) (ha : ∀ o, s.heap.get? a = some o → o.cls ≠ .type "tuple") : SrtO.SortableO prog w A s a vs fun v u => ltIS (k v) (k u) := by
  intro h' keep
  have hp' : ∀ v ∈ vs, IsIS h' v (k v).1 (k v).2 := fun v hm => (hp v hm).keeps fun b o e c => keep b o (fun z => by subst z; exact ha o e c) e
  obtain ⟨fs, h1, h2, h3⟩ := is_firsts fun v hm => ⟨_, _, hp' v hm⟩
  refine ⟨tuples' true, fun Q E hq => ?_, is_cmp hp'⟩
  refine PySem.W.kat_kind (T := .type "int") h1 (by omega) (fun f hm => ?_) (by rfl) ?_
  · obtain ⟨x, t, rfl⟩ := h3 f hm
    exact PySem.W.Looks.now
  · have e : (Value.type "int" != Value.type "tuple") = true := by first | decide +kernel | rfl | decide
    rw [e]
    exact hq
theorem sorted_IS {l : Addr} {vs : List Value} {k : Value → Int × Str} {Q : Value → Shared → Prop} (hl : s.heap.IsList l vs.toArray) (hz : vs.length ≤ sizeLine) (hp : ∀ v ∈ vs, IsIS s.heap v (k v).1 (k v).2)
    (h : ∀ (h' : Heap) (d : Addr) (out : List Value), SrtO.Srtd (fun v u => ltIS (k v) (k u)) out → SrtO.Stb (fun v u => ltIS (k v) (k u)) out vs → (∀ b o, s.heap.get? b = some o → h'.get? b = some o) → s.heap.objs.size ≤ d → (∃ n, h'.get? d = some (seqObj "list" out.toArray n)) → Q (.ref d) { s with heap := h' }) :
    wpAny (model prog w) A (call (.builtin "sorted") [.ref l]) Q E s := by
  refine SrtO.sorted_ord (swo_IS k) hl hz (fun h2 h₁ a ha kk => ?_) fun out hs hb => ?_
  · refine is_sortable (s := { s with heap := h₁ }) (by omega) (fun v hm => (hp v hm).keeps fun b o e _ => (kk b o e).2) fun o e => ?_
    have e' : some o = some (seqObj "list" vs.toArray 0) := e.symm.trans ha
    cases e'
    intro c
    exact absurd (Value.type.inj c) (by decide)
  · exact h _ _ out hs hb (fun b o e => sortedAll_old e) (Nat.le_succ _) (sortedAll_at s.heap vs out.toArray)
end
open L2
/-! the sorted list -/
section
variable {α β : Type}
def insB (lt : α → α → Bool) (d : α) : List α → List α
  | [] => [d]
  | x :: r => if lt x d = true then x :: insB lt d r else d :: x :: r
def isort (lt : α → α → Bool) : List α → List α
  | [] => []
  | d :: r => insB lt d (isort lt r)
theorem insB_perm (lt : α → α → Bool) (d : α) : ∀ l : List α, (insB lt d l).Perm (d :: l)
  | [] => .refl _
  | x :: r => by
    unfold insB
    split
    · exact ((insB_perm lt d r).cons x).trans (.swap d x r)
    · exact .refl _
theorem isort_perm (lt : α → α → Bool) : ∀ l : List α, (isort lt l).Perm l
  | [] => .refl _
  | d :: r => (insB_perm lt d _).trans ((isort_perm lt r).cons d)
theorem insB_srtd {lt : α → α → Bool} (O : SrtO.Swo lt) (d : α) : ∀ l : List α, SrtO.Srtd lt l → SrtO.Srtd lt (insB lt d l)
  | [], _ => SrtO.srtd_one d
  | x :: r, h => by
    unfold insB
    split
    · rename_i c
      refine List.pairwise_cons.mpr ⟨fun y hy => ?_, insB_srtd O d r (List.pairwise_cons.mp h).2⟩
      rcases List.mem_cons.mp ((insB_perm lt d r).mem_iff.mp hy) with rfl | hy
      · exact O.asym _ _ c
      · exact SrtO.srtd_head h y hy
    · rename_i c
      simp only [Bool.not_eq_true] at c
      refine List.pairwise_cons.mpr ⟨fun y hy => ?_, h⟩
      rcases List.mem_cons.mp hy with rfl | hy
      · exact c
      · exact O.tr d x y c (SrtO.srtd_head h y hy)
theorem isort_srtd {lt : α → α → Bool} (O : SrtO.Swo lt) : ∀ l : List α, SrtO.Srtd lt (isort lt l)
  | [] => .nil
  | d :: r => insB_srtd O d _ (isort_srtd O r)
theorem insB_cls {lt : α → α → Bool} (O : SrtO.Swo lt) (d x : α) : ∀ l : List α, SrtO.Srtd lt l → (insB lt d l).filter (SrtO.eqv lt x) = (d :: l).filter (SrtO.eqv lt x)
  | [], _ => rfl
  | y :: r, h => by
    unfold insB
    split
    · rename_i c
      have ih := insB_cls O d x r (List.pairwise_cons.mp h).2
      rw [List.filter_cons, ih]
      cases e : SrtO.eqv lt x d
      · rw [List.filter_cons (x := d), e, List.filter_cons (x := d), e, List.filter_cons (x := y)]
        simp
      · have e2 : SrtO.eqv lt x y = false := by
          cases e2 : SrtO.eqv lt x y
          · rfl
          · obtain ⟨p1, p2⟩ := SrtO.eqv_iff.mp e
            obtain ⟨q1, q2⟩ := SrtO.eqv_iff.mp e2
            have t2 := O.tr d x y p1 q2
            rw [c] at t2
            cases t2
        rw [e2]
        simp [List.filter_cons, e, e2]
    · rfl
theorem isort_stb {lt : α → α → Bool} (O : SrtO.Swo lt) : ∀ l : List α, SrtO.Stb lt (isort lt l) l
  | [] => .refl _
  | d :: r => ⟨isort_perm lt _, fun x => by
    show (insB lt d (isort lt r)).filter _ = _
    rw [insB_cls O d x _ (isort_srtd O r), List.filter_cons, List.filter_cons, (isort_stb O r).cls x]⟩
theorem insB_map (lt : β → β → Bool) (f : α → β) (d : α) : ∀ l : List α, (insB (fun x y => lt (f x) (f y)) d l).map f = insB lt (f d) (l.map f)
  | [] => rfl
  | x :: r => by
    rw [List.map_cons]
    unfold insB
    split
    · rw [List.map_cons, insB_map lt f d r]
    · rfl
theorem isort_map (lt : β → β → Bool) (f : α → β) : ∀ l : List α, (isort (fun x y => lt (f x) (f y)) l).map f = isort lt (l.map f)
  | [] => rfl
  | d :: r => by
    show (insB _ d (isort _ r)).map f = insB lt (f d) (isort lt (r.map f))
    rw [insB_map, isort_map]
theorem insB_congr {lt lt' : α → α → Bool} {d : α} : ∀ {l : List α}, (∀ x ∈ l, lt x d = lt' x d) → insB lt d l = insB lt' d l
  | [], _ => rfl
  | x :: r, h => by
    unfold insB
    rw [h x (by simp), insB_congr fun y hy => h y (by simp [hy])]
theorem isort_congr {lt lt' : α → α → Bool} : ∀ {l : List α}, (∀ x ∈ l, ∀ y ∈ l, lt x y = lt' x y) → isort lt l = isort lt' l
  | [], _ => rfl
  | d :: r, h => by
    show insB lt d (isort lt r) = insB lt' d (isort lt' r)
    rw [isort_congr fun x hx y hy => h x (by simp [hx]) y (by simp [hy])]
    exact insB_congr fun x hx => h x (by simp [(isort_perm lt' r).mem_iff.mp hx]) d (by simp)
end
/-- sorted(xs), pairs of an int and a text -/
def rSortedIS (K : PySem.W.Frag) : List V → Hp → VK → Prop := fun vs H Q => ∃ (a : Addr) (α : Type) (ts : List α) (fv : α → V) (key : α → Int × Str), vs = [V.ref a] ∧ SqL K H a (ts.map fv) ∧ (∀ x ∈ ts, ∃ t, fv x = V.ref t ∧ SqT K H t [.int (key x).1, .str (key x).2]) ∧
  ∀ p, H p = none → Q (.ref p) (upd H p (.lst ((isort (fun x y => ltIS (key x) (key y)) ts).map fv)))
section
variable {X : Cx}
open Classical in
theorem cr_sortedIS : CallR X (.builtin "sorted") (rSortedIS X.K) := by
  intro pins s σ H vs us Q I r h
  obtain ⟨a, α, ts, fv, key, rfl, hs, hx0, q⟩ := h
  -- the key of a value
  have uq : ∀ x ∈ ts, ∀ y ∈ ts, fv x = fv y → key x = key y := fun x hx y hy e => by
    obtain ⟨t, e1, h1⟩ := hx0 x hx
    obtain ⟨t', e2, h2⟩ := hx0 y hy
    rw [e1, e2] at e
    cases e
    have := I.tuple_inj h1 h2
    injection this with z1 z2
    injection z2 with z2 z3
    injection z1 with z1
    injection z2 with z2
    exact Prod.ext z1 z2
  let k : V → Int × Str := fun v => if h : ∃ x, x ∈ ts ∧ fv x = v then key h.choose else (0, ⟨#[]⟩)
  have hk : ∀ x ∈ ts, k (fv x) = key x := fun x hx => by
    have h : ∃ y, y ∈ ts ∧ fv y = fv x := ⟨x, hx, rfl⟩
    show (if h : ∃ y, y ∈ ts ∧ fv y = fv x then key h.choose else (0, ⟨#[]⟩)) = key x
    rw [dif_pos h]
    exact uq _ h.choose_spec.1 _ hx h.choose_spec.2
  have hx : ∀ x ∈ ts.map fv, ∃ t, x = V.ref t ∧ SqT X.K H t [.int (k x).1, .str (k x).2] := fun x hm => by
    obtain ⟨y, hy, rfl⟩ := List.mem_map.mp hm
    rw [hk y hy]
    exact hx0 y hy
  obtain ⟨its, rv, hl, hz⟩ := I.list hs
  obtain ⟨u, rfl, ru⟩ := vals1 r
  obtain rfl : u = Value.ref a := ru
  obtain ⟨e1, e2⟩ := refs_back rv fun x m => by
    obtain ⟨t, e, _⟩ := hx x m
    exact ⟨t, e⟩
  refine sorted_IS (k := fun u => k (backV u)) hl.isList (by rw [← rv.length]; exact hz) (fun v hv => ?_) fun h' d out h1 h2 kp hd hn => ?_
  · obtain ⟨t, rfl⟩ := e2 v hv
    have hm : V.ref t ∈ ts.map fv := by rw [e1]; exact List.mem_map.mpr ⟨_, hv, rfl⟩
    obtain ⟨t', e, ht⟩ := hx _ hm
    cases e
    obtain ⟨its2, r2, ⟨o, ho, hc, n, hd⟩, hz2⟩ := I.tuple ht
    obtain ⟨u1, u2, rfl, ri, rj⟩ := vals2 r2
    obtain ⟨t1, rfl⟩ := ri
    obtain ⟨t2, rfl⟩ := rj
    exact ⟨t, o, t1, t2, n, rfl, ho, hc, hd⟩
  · have h3 : ∀ u ∈ out, ∃ a, u = Value.ref a := fun u hu => e2 u (h2.perm.mem_iff.mp hu)
    obtain ⟨n, hn⟩ := hn
    have hb : SrtO.Stb (fun v u => ltIS (k v) (k u)) (out.map backV) (ts.map fv) := by
      rw [e1]
      exact SrtO.Stb.map (swo_IS k) backV h2
    have hsr : SrtO.Srtd (fun v u => ltIS (k v) (k u)) (out.map backV) := SrtO.srtd_map h1
    have e3 : out.map backV = isort (fun v u => ltIS (k v) (k u)) (ts.map fv) :=
      SrtO.stb_uniq (swo_IS k) hsr (isort_srtd (swo_IS k) _) (hb.trans ⟨(isort_perm _ _).symm, fun x => ((isort_stb (swo_IS k) _).cls x).symm⟩)
    have e4 : isort (fun v u => ltIS (k v) (k u)) (ts.map fv) = (isort (fun x y => ltIS (key x) (key y)) ts).map fv := by
      rw [← isort_map (fun v u => ltIS (k v) (k u)) fv ts]
      congr 1
      exact isort_congr fun x hx y hy => by rw [hk x hx, hk y hy]
    have e5 := e3.trans e4
    refine ⟨.ref d, upd H d (.lst (out.map backV)), I.laid (t' := s.toks) kp hd ⟨?_, out, n, vals_back h3, hn⟩, rfl, ?_⟩
    · rw [hb.len]
      exact hz
    · rw [e5]
      exact q d (I.hok.fresh hd)
end
/-! ### sorted, as a built-in of the layer -/
def keyIS : D → Option (Int × Str)
  | .tup [.int i, .str x] => some (i, x)
  | _ => none
def keysIS : List D → Option (List ((Int × Str) × D))
  | [] => some []
  | d :: ds => match keyIS d, keysIS ds with
    | some k, some l => some ((k, d) :: l)
    | _, _ => none
def fSortIS : List D → Option D
  | [.lst ds] => (keysIS ds).map fun l => .lst ((isort (fun x y => ltIS x.1 y.1) l).map (·.2))
  | _ => none
section
variable {g : G} {R : Addr → Prop} {al : List Addr} {om : Om} {σ : St} {ρ : Rho} {H : Hp} {W : WX} {L : Addr → Prop}
theorem RepVs.mem_zip : ∀ {vs : List V} {ds : List D}, RepVs g al L H vs ds → ∀ p ∈ vs.zip ds, RepV g al L H p.1 p.2
  | _, _, .nil, p, h => by simp at h
  | _, _, .cons h r, p, hp => by
    rw [List.zip_cons_cons] at hp
    rcases List.mem_cons.mp hp with rfl | hp
    · exact h
    · exact r.mem_zip p hp
theorem RepVs.of_mem {α : Type} {f : α → V} {h : α → D} : ∀ {l : List α}, (∀ x ∈ l, RepV g al L H (f x) (h x)) → RepVs g al L H (l.map f) (l.map h)
  | [], _ => .nil
  | x :: l, k => .cons (k x (by simp)) (RepVs.of_mem fun y hy => k y (by simp [hy]))
/-- values, keys and data side by side -/
theorem keys_rep : ∀ {vs : List V} {ds : List D} {l : List ((Int × Str) × D)}, RepVs g al L H vs ds → keysIS ds = some l → ∃ ts : List (V × ((Int × Str) × D)), ts.map (·.1) = vs ∧ ts.map (·.2) = l ∧ ∀ x ∈ ts, RepV g al L H x.1 x.2.2 ∧ x.2.2 = .tup [.int x.2.1.1, .str x.2.1.2]
  | _, _, l, .nil, e => by cases e; exact ⟨[], rfl, rfl, by simp⟩
  | v :: vs, d :: ds, l, .cons h r, e => by
    unfold keysIS at e
    cases e1 : keyIS d with
    | none => rw [e1] at e; cases e
    | some k =>
      cases e2 : keysIS ds with
      | none => rw [e1, e2] at e; cases e
      | some l' =>
        rw [e1, e2] at e
        cases e
        obtain ⟨ts, h1, h2, h3⟩ := keys_rep r e2
        refine ⟨(v, (k, d)) :: ts, by rw [List.map_cons, h1], by rw [List.map_cons, h2], fun x hx => ?_⟩
        rcases List.mem_cons.mp hx with rfl | hx
        · refine ⟨h, ?_⟩
          unfold keyIS at e1
          split at e1
          · cases e1; rfl
          · cases e1
        · exact h3 x hx
theorem s_sortIS : FnS g (rSortedIS g.K) fSortIS := by
  intro R W al om σ ρ H Q vs xs S r P
  unfold fSortIS at P
  split at P
  · obtain ⟨v, rfl, h⟩ := r.one
    obtain ⟨a, vs, rfl, h1, h2⟩ := h.lst
    rename_i ds
    cases e : keysIS ds with
    | none => rw [e] at P; exact P.elim
    | some l =>
      rw [e] at P
      obtain ⟨ts, k1, k2, k3⟩ := keys_rep h2 e
      refine ⟨a, _, ts, (·.1), (·.2.1), rfl, by rw [k1]; exact SqL.of h1, fun x hx => ?_, fun p hp => ?_⟩
      · obtain ⟨m1, m2⟩ := k3 x hx
        rw [m2] at m1
        generalize ex : x.1 = xv at m1
        cases m1 with
        | tup t1 t2 =>
          rename_i b ws
          have : ws = [.int x.2.1.1, .str x.2.1.2] := by
            cases t2 with
            | cons a1 a2 => cases a1; cases a2 with
              | cons b1 b2 => cases b1; cases b2; rfl
          rw [this] at t1
          exact ⟨b, ex, t1⟩
      · have e9 : (isort (fun x y => ltIS x.1 y.1) l).map (·.2) = (isort (fun (x y : V × ((Int × Str) × D)) => ltIS x.2.1 y.2.1) ts).map (·.2.2) := by
          rw [← k2, ← isort_map (fun (x y : (Int × Str) × D) => ltIS x.1 y.1) (fun x : V × ((Int × Str) × D) => x.2) ts, List.map_map]
          rfl
        have P' : PostR g R W (relV g) al (Mt al om σ ρ) H σ (.ok (.lst ((isort (fun (x y : V × ((Int × Str) × D)) => ltIS x.2.1 y.2.1) ts).map (·.2.2))) ρ om) Q := by
          rw [← e9]; exact P
        exact okNewL S P' hp (RepVs.of_mem fun x hx => (k3 x ((isort_perm _ _).mem_iff.mp hx)).1)
  · exact P.elim
end
/-! ### a sum of lists as an own list -/
@[simp] def uCatV (i : Nat) (ub : UE) : UW := fun ρ ω => match ρ[i]? with
  | some (some (.own _)) => (ub ρ ω).bind fun y ρ ω => (match ρ[i]?, y with
    | some (some (.own xs)), .lst ys => if xs.length + ys.length ≤ big then .ok (xs ++ ys) ρ ω else .no
    | _, _ => .no)
  | _ => .no
section
variable {g : G} {X : Cx} {W : WX} {a b : Expr} {ub : UE} {pos : Pos}
theorem pu_catV (i : Nat) (ha : PE X a (tVar i)) (hb : PE X b (tE g W ub)) : PE X (.BinOp a .Add b pos) (tOw g W (uCatV i ub)) := peImp (pe_op op_cat ha hb) fun σ H Q ⟨R, ρ, om, al, S, P⟩ => by
  simp only [uCatV] at P
  split at P
  · rename_i xs e
    obtain ⟨a, vs, h1, h2, h3⟩ := S.own i xs e
    refine ⟨_, h1, tR_bindO S P fun y ρ1 om1 w H1 al1 s1 S1 r1 P1 => ?_⟩
    split at P1
    · rename_i xs' ys e1
      split at P1
      · rename_i hz
        obtain ⟨a', vs', k1, k2, k3⟩ := S1.own i xs' e1
        rw [h1] at k1
        cases k1
        cases r1 with
        | lst m1 m2 m3 =>
          exact ⟨_, _, _, _, rfl, rfl, k2, m1, big_line (by rw [k3.length, m3.length]; exact hz), fun p hp => okOwn S1 P1 hp (k3.append m3)⟩
      · exact P1.elim
    · exact P1.elim
  · exact P.elim
end
end Dv

namespace Dv
open PySem PySem.Spec PyProof.Rows L2
/-! ### seeing through to a shared list -/
def see (ω : Om) : D → D
  | .loc k => match ω[k]? with
    | some (.lst ds) => .lst ds
    | _ => .loc k
  | d => d
@[simp] def uBinX (f : D → D → Option D) (ua ub : UE) : UE := fun ρ ω => (ua ρ ω).bind fun x ρ ω => (ub ρ ω).bind fun y ρ ω => liftO (f (see ω x) (see ω y)) ρ ω
@[simp] def uUnX (f : D → Option D) (ua : UE) : UE := fun ρ ω => (ua ρ ω).bind fun x ρ ω => liftO (f (see ω x)) ρ ω
@[simp] def uFnX (f : List D → Option D) (u : UA) : UE := fun ρ ω => (u ρ ω).bind fun xs ρ ω => liftO (f (xs.map (see ω))) ρ ω
section
variable {g : G} {R : Addr → Prop} {al : List Addr} {om : Om} {σ : St} {ρ : Rho} {H H' : Hp} {W : WX} {X : Cx} {v : V} {d : D} {a b c e o : Expr} {ua ub uc ue uo : UE} {es : List Expr} {us : UA} {p0 pos p1 apos : Pos} {x : Str} {id : String}
theorem see_rep (S : Rst g R al σ ρ om H) (r : RepV g al (LL R al om σ ρ) H v d) : RepW g al (LL R al om σ ρ) H v (see om d) := by
  cases d with
  | loc k =>
    unfold see
    dsimp only
    split
    · rename_i ds e
      cases r with
      | loc ha =>
        obtain ⟨vs, h2, h3⟩ := cell_lst S e ha
        exact .own h2 h3
    · exact .v r
  | _ => exact .v r
theorem see_reps (S : Rst g R al σ ρ om H) : ∀ {vs : List V} {ds : List D}, RepVs g al (LL R al om σ ρ) H vs ds → RepWs g al (LL R al om σ ρ) H vs (ds.map (see om))
  | _, _, .nil => .nil
  | _, _, .cons h r => .cons (see_rep S h) (see_reps S r)
theorem tOpX {r : R2} {f : D → D → Option D} (hf : OpS g r f) {Q : VK} (h : tE g W (uBinX f ua ub) σ H Q) : tOp r (tE g W ua) (tE g W ub) σ H Q := by
  obtain ⟨R, ρ, om, al, S, P⟩ := h
  refine tR_bind S P fun x ρ1 om1 v H1 al1 s1 S1 r1 P1 => ?_
  refine tR_bind S1 P1 fun y ρ2 om2 w H2 al2 s2 S2 r2 P2 => ?_
  exact hf R W al2 om2 σ ρ2 H2 Q v w _ _ S2 (see_rep S2 (s2.rep S1 r1)) (see_rep S2 r2) P2
theorem pu_binX {op : Operator} {r : R2} {f : D → D → Option D} (ho : OpR X (binaryOp op) r) (hf : OpS g r f) (ha : PE X a (tE g W ua)) (hb : PE X b (tE g W ub)) : PE X (.BinOp a op b pos) (tE g W (uBinX f ua ub)) := peImp (pe_op ho ha hb) fun σ H Q h => tOpX hf h
theorem pu_cmpX {op : CmpOp} {r : R2} {f : D → D → Option D} (ho : OpR X (compareOp op) r) (hf : OpS g r f) (ha : PE X a (tE g W ua)) (hb : PE X b (tE g W ub)) (hm : behindInMarks op b = false) : PE X (.Compare a [op] [b] pos) (tE g W (uBinX f ua ub)) := peImp (pe_cmpR ho ha hb hm) fun σ H Q h => tOpX hf h
theorem pt_cmpX {op : CmpOp} {r : R2} {f : D → D → Option D} (ho : OpR X (compareOp op) r) (hf : OpS g r f) (ha : PE X a (tE g W ua)) (hb : PE X b (tE g W ub)) (hm : behindInMarks op b = false) : PT X (.Compare a [op] [b] pos) (tT g W (uB (uBinX f ua ub))) :=
  ptImp (pt_cmpR ho ha hb hm) fun σ H Q h => by
    obtain ⟨R, ρ, om, al, S, P⟩ := tB_of h
    exact tOpX hf ⟨R, ρ, om, al, S, P⟩
theorem pu_ixX {r : R2} {f : D → D → Option D} (ho : IxR X r) (hf : OpS g r f) (ha : PE X a (tE g W ua)) (hb : PE X b (tE g W ub)) (hs : PlainIx b := by exact fun _ _ => rfl) : PE X (.Subscript a b pos) (tE g W (uBinX f ua ub)) := peImp (pe_ix ho ha hb hs) fun σ H Q h => tOpX hf h
theorem pu_isiX (T : String) {n : Str} (hm : X.mg "isinstance" = none) (hn : X.mg n = none) (hv : bootBuiltins n = some (.type T)) (hK : X.K = g.K) (ha : PE X a (tE g W ua)) (hg : Gl X "isinstance" := by rfl) (hgn : Gl X n := by rfl) (hnn : n ≠ "__name__" := by decide) (hdn : (n == ("__debug__" : Str)) = false := by decide)
    (he : starEach (a :: [.Name n p1]) X.env = (false, eval a X.env) :: starEach [.Name n p1] X.env := by rfl) (he2 : starEach [.Name n p1] X.env = (false, eval (.Name n p1) X.env) :: starEach [] X.env := by rfl) (hpl : (backTo pos (starEach [.Name n p1] X.env)).any (·.1) = false := by rfl) :
    PE X (.Call (.Name "isinstance" p0) [a, .Name n p1] [] pos) (tE g W (uUnX (dIsi T) ua)) :=
  peImp (pe_callB call_isi hg hm boot_isinstance (pa_cons ha (pa_cons (pe_bltn (v := .ty T) hgn hn hv rfl hnn hdn) pa_nil he2) he) (by decide) (by decide) he hpl) fun σ H Q ⟨R, ρ, om, al, S, P⟩ =>
    tR_bind S P fun d ρ1 om1 v H1 al1 s1 S1 r1 P1 => by
      cases e : dIsi T (see om1 d) with
      | none => rw [e] at P1; exact P1.elim
      | some z =>
        rw [e] at P1
        obtain ⟨t, k, e1, e2, rfl⟩ := dIsi_some e
        exact (⟨v, .ty T, .type t, .type T, k, rfl, .ty T, by rw [hK]; exact tyX_of (see_rep S1 r1) e1, kit_ty e2, okSame S1 P1 .bl⟩ : rIsi X.K [v, .ty T] H1 Q)
theorem tCBX_of {f : List D → Option D} {r : List V → Hp → VK → Prop} (hf : FnS g r f) {Q : VK} (h : tE g W (uFnX f us) σ H Q) : tCB r (tA g W us) σ H Q := by
  obtain ⟨R, ρ, om, al, S, P⟩ := h
  exact tR_bind S P fun ds ρ1 om1 vs H1 al1 s1 S1 r1 P1 => hf R W al1 om1 σ ρ1 H1 Q vs _ S1 (see_reps S1 r1) P1
theorem pu_fnX {f : List D → Option D} {r : List V → Hp → VK → Prop} (hc : CallR X (.builtin id) r) (hf : FnS g r f) (hm : X.mg x = none) (hv : bootBuiltins x = some (.builtin id)) (ha : PA X (e :: es) (tA g W us)) (hg : Gl X x := by rfl) (hn : x ≠ "__name__" := by decide) (hdb : (x == ("__debug__" : Str)) = false := by decide)
    (he : starEach (e :: es) X.env = (false, eval e X.env) :: starEach es X.env := by rfl) (hpl : (backTo pos (starEach es X.env)).any (·.1) = false := by rfl) : PE X (.Call (.Name x p0) (e :: es) [] pos) (tE g W (uFnX f us)) :=
  peImp (pe_callB hc hg hm hv ha hn hdb he hpl) fun σ H Q h => tCBX_of hf h
/-! ### a for over a list that may change: asked anew at each turn -/
def goX (G : UG) (b : US) (get : Rho → Om → Option (List D)) : Nat → Nat → US
  | 0, _ => fun _ _ => .no
  | f + 1, i => fun ρ ω => match get ρ ω with
    | none => .no
    | some ds => match ds[i]? with
      | none => .nx ρ ω
      | some d => match G d ρ with
        | none => .no
        | some ρ1 => match b ρ1 ω with
          | .nx ρ ω => goX G b get f (i + 1) ρ ω
          | .ct ρ ω => goX G b get f (i + 1) ρ ω
          | .bk ρ ω => .nx ρ ω
          | .rt d ω => .rt d ω
          | .rto d ω => .rto d ω
          | .xc x ρ ω => .xc x ρ ω
          | .no => .no
def getL (k : Nat) : Rho → Om → Option (List D) := fun _ ω => match ω[k]? with
  | some (.lst ds) => some ds
  | _ => none
def lenG (get : Rho → Om → Option (List D)) : Rho → Om → Nat := fun ρ ω => match get ρ ω with
  | some ds => ds.length + 1
  | none => 0
/-- for .. in e, e a shared list -/
def sForL (u : UE) (G : UG) (b : US) : US := fun ρ ω => RS.of (u ρ ω) fun x ρ ω => match x with
  | .loc k => goX G b (getL k) (lenG (getL k) ρ ω) 0 ρ ω
  | _ => .no
variable {tg iter : Expr} {body : List Stmt} {G' : UG} {u : US}
theorem ps_forL (hp : PassesOwn (model X.prog X.w) X.A X.env X.xe) (hc : X.calm = true) (hK : X.K = g.K) (he : PE X iter (tE g W ue)) (hg : PG X tg (tG g G')) (hb : PSs X body (tS g W u))
    (hs : ∀ x, foldedSetIterable iter X.env x = pure x := by intro _; rfl) : PS X (.For tg iter body [] pos) (tS g W (sForL ue G' u)) := psImp (ps_for hp hc (pi_list he) hg hb hs) fun De σ H ⟨R, ρ, om, al, S, P⟩ => by
  refine tR_bindS S P fun x ρ1 om1 v H1 al1 s1 S1 r1 P1 => ?_
  cases x <;> first | exact P1.elim | skip
  rename_i k
  cases r1 with
  | loc ha =>
  rename_i ad
  dsimp only at P1
  have cell : ∀ {al' : List Addr} {om' : Om} {σ' : St} {ρ' : Rho} {H' : Hp} {ds : List D}, (∀ (i : Nat) (a : Addr), al1[i]? = some a → al'[i]? = some a) → Rst g R al' σ' ρ' om' H' → getL k ρ' om' = some ds → ∃ vs, SqL X.K H' ad vs ∧ H' ad = some (.lst vs) ∧ RepVs g al' (LL R al' om' σ' ρ') H' vs ds := fun {al' om' σ' ρ' H' ds} ext S' e => by
    unfold getL at e
    split at e
    · rename_i ds' e'
      cases e
      obtain ⟨vs, h1, h2⟩ := cell_lst S' e' (ext _ _ ha)
      exact ⟨vs, SqL.of h1, h1, h2⟩
    · cases e
  have first : ∃ vs, SqL X.K H1 ad vs := by
    unfold lenG at P1
    cases e : getL k ρ1 om1 with
    | none => rw [e] at P1; exact P1.elim
    | some ds => obtain ⟨vs, h, _⟩ := cell (fun _ _ h => h) S1 e; exact ⟨vs, h⟩
  refine ⟨ad, rfl, first, ?_⟩
  refine ⟨fun i m σ' H' => ∃ ρ' om' al', Step al1 (Mt al1 om1 σ ρ1) H1 al' (Mt al' om' σ' ρ') H' ∧ Rst g R al' σ' ρ' om' H' ∧ PostS g R W al' (Mt al' om' σ' ρ') H' (goX G' u (getL k) m i ρ' om') De, ⟨_, ρ1, om1, al1, .refl, S1, P1⟩, ?_⟩
  rintro i m σ2 H2 ⟨ρ2, om2, al2, s2, S2, P2⟩
  cases m with
  | zero => exact P2.elim
  | succ m =>
    unfold goX at P2
    cases e : getL k ρ2 om2 with
    | none => rw [e] at P2; exact P2.elim
    | some ds =>
      rw [e] at P2
      dsimp only at P2
      obtain ⟨vs, q0, q1, q2⟩ := cell s2.ext S2 e
      cases ed : ds[i]? with
      | none =>
        rw [ed] at P2
        refine .inl ⟨⟨vs, q0, ?_⟩, P2 σ2 H2 al2 .refl S2⟩
        rw [q2.length]
        exact List.getElem?_eq_none_iff.mp ed
      | some d =>
        rw [ed] at P2
        dsimp only at P2
        obtain ⟨v0, h0, h1⟩ := q2.get ed
        refine .inr ⟨⟨vs, v0, q0, h0⟩, fun σ' H' => ∃ ρ' om' al', Step al1 (Mt al1 om1 σ ρ1) H1 al' (Mt al' om' σ' ρ') H' ∧ Rst g R al' σ' ρ' om' H' ∧ PostS g R W al' (Mt al' om' σ' ρ') H' (goX G' u (getL k) m (i + 1) ρ' om') De, fun σ' H' h => ⟨m, Nat.lt_succ_self m, h⟩, fun x H3 ⟨e3, hx⟩ => ?_⟩
        subst e3
        have h2 := hx vs q0
        rw [h0] at h2
        cases h2
        cases eg : G' d ρ2 with
        | none => rw [eg] at P2; exact P2.elim
        | some ρ3 =>
          rw [eg] at P2
          refine ⟨R, ρ2, om2, al2, d, ρ3, S2, h1, eg, fun σ4 s4 S4 => ?_⟩
          refine ⟨R, ρ3, om2, al2, S4, ?_⟩
          have P4 := PostS.step s4 P2
          dsimp only at P4
          cases eb : u ρ3 om2 with
          | nx ρ5 om5 => rw [eb] at P4; exact fun σ5 H5 al5 s5 S5 => ⟨ρ5, om5, al5, (s2.trans s4).trans s5, S5, PostS.step s5 P4⟩
          | ct ρ5 om5 => rw [eb] at P4; exact fun σ5 H5 al5 s5 S5 => ⟨ρ5, om5, al5, (s2.trans s4).trans s5, S5, PostS.step s5 P4⟩
          | bk ρ5 om5 => rw [eb] at P4; exact P4
          | rt d5 om5 => rw [eb] at P4; exact P4
          | rto d5 om5 => rw [eb] at P4; exact P4
          | xc x5 ρ5 om5 => rw [eb] at P4; exact P4
          | no => rw [eb] at P4; exact P4
theorem goX_end (G : UG) (b : US) (get : Rho → Om → Option (List D)) {f i : Nat} {r : Rho} {o : Om} {ds : List D} (h : get r o = some ds) (hi : ds[i]? = none) : goX G b get (f + 1) i r o = .nx r o := by
  unfold goX
  rw [h]
  dsimp only
  rw [hi]
theorem goX_next (G : UG) (b : US) (get : Rho → Om → Option (List D)) {f i : Nat} {r ρ1 : Rho} {o : Om} {ds : List D} {d : D} (h : get r o = some ds) (hi : ds[i]? = some d) (hg : G d r = some ρ1) : goX G b get (f + 1) i r o = (b ρ1 o).turn (goX G b get f (i + 1)) := by
  conv => lhs; unfold goX
  rw [h]
  dsimp only
  rw [hi]
  dsimp only
  rw [hg]
  dsimp only
  cases b ρ1 o <;> rfl
end
/-! ### instances -/
def isIns (ω : Om) (x : D) (c m : Str) : Bool := match x with
  | .obj c' fs => decide (c' = c) && (fs.lookup m).isNone
  | .loc k => (match ω[k]? with
    | some (.ins c' fs) => decide (c' = c) && (fs.lookup m).isNone
    | _ => false)
  | _ => false
@[simp] def uFld (c f : Str) (ua : UE) : UE := fun ρ ω => (ua ρ ω).bind fun x ρ ω => match x with
  | .obj c' fs => if c' = c then liftO (fs.lookup f) ρ ω else .no
  | .loc k => (match ω[k]? with
    | some (.ins c' fs) => if c' = c then liftO (fs.lookup f) ρ ω else .no
    | _ => .no)
  | _ => .no
@[simp] def sFldU (c f : Str) (uo uv : UE) : US := fun ρ ω => RS.of (uv ρ ω) fun d ρ ω => RS.of (uo ρ ω) fun x ρ ω => match x with
  | .loc k => (match ω[k]? with
    | some (.ins c' fs) => if c' = c ∧ fs.length < 900 then .nx ρ (ω.set k (.ins c' (putD f d fs))) else .no
    | _ => .no)
  | _ => .no
@[simp] def uMeth (c m : Str) (n : Nat) (S : FN) (uo : UE) (us : UA) : UE := fun ρ ω => (uo ρ ω).bind fun x ρ ω => if isIns ω x c m = true then (us ρ ω).bind fun ds ρ ω => if ds.length + 1 = n then (S (x :: ds) ω).res ρ else .no else .no
@[simp] def uMethO (c m : Str) (n : Nat) (S : FN) (uo : UE) (us : UA) : UW := fun ρ ω => (uo ρ ω).bind fun x ρ ω => if isIns ω x c m = true then (us ρ ω).bind fun ds ρ ω => if ds.length + 1 = n then (S (x :: ds) ω).own ρ else .no else .no
/-- a new instance, shared -/
@[simp] def uMake (c : Str) (n : Nat) (S : FN) (us : UA) : UE := fun ρ ω => (us ρ ω).bind fun ds ρ ω => if ds.length + 1 = n then (match S (.loc ω.length :: ds) (ω ++ [.ins c []]) with
  | .ok .non ω' => .ok (.loc ω.length) ρ ω'
  | _ => .no) else .no
/-- a shared instance that stays as it is from now on -/
@[simp] def uFrzI (ua : UE) : UE := fun ρ ω => (ua ρ ω).bind fun x ρ ω => match x with
  | .loc k => (match ω[k]? with
    | some (.ins c fs) => .ok (.obj c fs) ρ (ω.set k .gone)
    | _ => .no)
  | _ => .no
section
variable {g : G} {R : Addr → Prop} {al : List Addr} {om : Om} {σ : St} {ρ : Rho} {H H' : Hp} {W : WX} {X : Cx} {v : V} {d : D} {a b c e o : Expr} {ua ub uc ue uo uv : UE} {es : List Expr} {us : UA} {p0 pos p1 apos pos' : Pos} {x cn f m : Str} {k n : Nat} {S : FN} {ps : List Str}
theorem pu_fld (cn f : Str) (hc : Cls X.K (g.cls cn)) (hn : NoAttr X.K (g.cls cn) f) (ha : PE X a (tE g W ua)) (hb : attributeBase a f X.env (eval a X.env) = eval a X.env := by rfl) : PE X (.Attribute a f pos) (tE g W (uFld cn f ua)) :=
  peImp (pe_fld ha hb) fun σ H Q ⟨R, ρ, om, al, S, P⟩ => tR_bind S P fun x ρ1 om1 v H1 al1 s1 S1 r1 P1 => by
    cases x <;> first | exact P1.elim | skip
    · rename_i c' fs
      dsimp only at P1
      split at P1
      · rename_i ec
        subst ec
        cases e : fs.lookup f with
        | none => rw [e] at P1; exact P1.elim
        | some d =>
          rw [e] at P1
          cases r1 with
          | obj h1 h2 h3 =>
            obtain ⟨w, k1, k2⟩ := h3.lookup e
            exact ⟨_, _, _, _, w, rfl, h1, hc, hn, k1, okSame S1 P1 k2⟩
      · exact P1.elim
    · rename_i k
      dsimp only at P1
      split at P1
      · rename_i c' fs e0
        split at P1
        · rename_i ec
          subst ec
          cases e : fs.lookup f with
          | none => rw [e] at P1; exact P1.elim
          | some d =>
            rw [e] at P1
            cases r1 with
            | loc h1 =>
              obtain ⟨dx, fvs, m1, m2⟩ := S1.o.cel k _ _ e0 h1
              obtain ⟨w, k1, k2⟩ := m2.lookup e
              exact ⟨_, _, _, _, w, rfl, m1, hc, hn, k1, okSame S1 P1 k2⟩
        · exact P1.elim
      · exact P1.elim
theorem ps_fldU (cn f : Str) (hc : Cls X.K (g.cls cn)) (hn : NoAttr X.K (g.cls cn) f) (ho : PE X o (tE g W uo)) (hv : PE X e (tE g W uv)) (hs : swapsWith e (some (.Attribute o f pos')) pos.line X.env = pure false := by rfl) : PS X (.Assign [.Attribute o f pos'] e pos) (tS g W (sFldU cn f uo uv)) :=
  psImp (ps_fld ho hv hs) fun De σ H ⟨R, ρ, om, al, S, P⟩ => tR_bindS S P fun d ρ1 om1 y H1 al1 s1 S1 r1 P1 => tR_bindS S1 P1 fun x ρ2 om2 z H2 al2 s2 S2 r2 P2 => by
    cases x <;> first | exact P2.elim | skip
    rename_i k
    dsimp only at P2
    split at P2
    · rename_i c' fs e0
      split at P2
      · rename_i ec
        obtain ⟨ec, hz⟩ := ec
        subst ec
        cases r2 with
        | loc h1 =>
          rename_i ad
          obtain ⟨dx, fvs, m1, m2⟩ := S2.o.cel k _ _ e0 h1
          have rd : RepV g al2 (LL R al2 om2 σ ρ2) H2 y d := s2.rep S1 r1
          have L : Lv al2 om2 ad := ⟨k, _, h1, e0, by simp⟩
          have cr : Car g al2 (LL R al2 om2 σ ρ2) H2 al2 (LL R al2 om2 σ ρ2) (upd H2 ad (.ins (g.cls c') dx (putF f y fvs))) := by
            refine ⟨fun b vs h => ?_, fun b vs h n => ⟨?_, n⟩, fun b vs h => ?_, fun b C dx' fs' h n => ⟨?_, n⟩, fun _ _ h => h⟩
            · rcases h with (h | ⟨o, h⟩) | h
              · exact .inl (.inl (by rw [upd_ne (ne_of h m1 (by intro z; cases z))]; exact h))
              · exact .inl (.inr ⟨o, by rw [upd_ne (ne_of h m1 (by intro z; cases z))]; exact h⟩)
              · exact .inr h
            · rw [upd_ne (ne_of h m1 (by intro z; cases z))]; exact h
            · exact h.imp (fun ⟨o, h⟩ => ⟨o, by rw [upd_ne (ne_of h m1 (by intro z; cases z))]; exact h⟩) id
            · rw [upd_ne (fun z => n (by rw [z]; exact .inl (.inl L)))]; exact h
          obtain ⟨S3, s3⟩ := S2.setCell (o := .ins (g.cls c') dx (putF f y fvs)) e0 (by simp) (c' := .ins c' (putD f d fs)) (by simp) h1 ⟨dx, putF f y fvs, upd_same, (m2.put rd).car cr⟩
          exact ⟨_, _, _, _, rfl, m1, hc, hn, by rw [m2.length]; omega, P2 σ _ al2 s3 S3⟩
      · exact P2.elim
    · exact P2.elim
/-- an instance of the class -/
theorem ins_at (S : Rst g R al σ ρ om H) {d : D} (r : RepV g al (LL R al om σ ρ) H v d) (h : isIns om d cn m = true) : ∃ ad dx fs, v = .ref ad ∧ H ad = some (.ins (g.cls cn) dx fs) ∧ fs.lookup m = none := by
  cases d <;> first | (cases h; done) | skip
  · rename_i c' fs
    unfold isIns at h
    simp only [Bool.and_eq_true, decide_eq_true_eq, Option.isNone_iff_eq_none] at h
    obtain ⟨rfl, h⟩ := h
    cases r with
    | obj h1 h2 h3 => exact ⟨_, _, _, rfl, h1, h3.lookup_none h⟩
  · rename_i k
    unfold isIns at h
    dsimp only at h
    split at h
    · rename_i c' fs e0
      simp only [Bool.and_eq_true, decide_eq_true_eq, Option.isNone_iff_eq_none] at h
      obtain ⟨rfl, h⟩ := h
      cases r with
      | loc h1 =>
        obtain ⟨dx, fvs, m1, m2⟩ := S.o.cel k _ _ e0 h1
        exact ⟨_, _, _, rfl, m1, m2.lookup_none h⟩
    · cases h
/-! calls of methods -/
def tMethS (C : Addr) (m : Str) (sp : Sp) (E : St → XK) (ta : TE) (t : TA) : TE := fun σ H Q => ta σ H fun x H1 => ∃ a dx fs, x = .ref a ∧ H1 a = some (.ins C dx fs) ∧ fs.lookup m = none ∧ t σ H1 fun vs H2 => sp (x :: vs) H2 Q (E σ)
theorem pe_methS {CX : CXT} {C fa : Addr} {fd : FuncData} {sp : Sp} {E : St → XK} {ta : TE} {t : TA} {pl : Sem Bool} (he : PE X o ta) (c : Cls X.K C) (hm : Meth X.K C m fa) (F : FnOk X.prog X.w X.K X.mg X.base CX k fa fd ps sp) (hr : Room k X.A) (hb : Binds X.K fd ps []) (hx : ∀ σ, PassesAt CX X σ (E σ)) (ha : PA X (e :: es) t)
    (hst : starEach (e :: es) X.env = (false, eval e X.env) :: starEach es X.env := by rfl) (hpl : (backTo pos (starEach es X.env)).any (·.1) = false := by rfl)
    (ht : eval (.Call (.Attribute o m apos) (e :: es) [] pos) X.env = (do
      let ov ← eval o X.env
      standAt apos.atName
      let (f, first) ← holding [ov] (getMethod ov m pl)
      callWith pos f first (backTo pos (starEach (e :: es) X.env)) (backToKw pos (keywordEach [] X.env))) := by rfl) :
    PE X (.Call (.Attribute o m apos) (e :: es) [] pos) (tMethS C m sp E ta t) := by
  refine ⟨fun pins s σ H Q I h => ?_⟩
  refine PySem.W.methodCall_KW (pl := pl) (thn (he.run pins s σ H _ I h) fun u s1 ⟨x, H1, I1, rx, a, dx, fs, ex, ea, l, q⟩ => ?_) ht
  subst ex
  obtain rfl : u = Value.ref a := rx
  refine getmeth_ok I1 ea c hm l ?_
  refine PySem.W.callWith_K (first := [.ref a]) (h₀ := X.base) I.ok.mod.kin hm.kp (thn (ha.run pos pins s1 σ H1 _ I1 q) fun us s2 ⟨vs, H2, I2, r, q2⟩ => ⟨I2.kIn, ?_⟩) hst hpl
  exact run_fnS (us := .ref a :: us) (vs := .ref a :: vs) F hr hb (hx σ) I2 (.cons rfl r) q2
theorem pe_methS0 {CX : CXT} {C fa : Addr} {fd : FuncData} {sp : Sp} {E : St → XK} {ta : TE} {pl : Sem Bool} (he : PE X o ta) (c : Cls X.K C) (hm : Meth X.K C m fa) (F : FnOk X.prog X.w X.K X.mg X.base CX k fa fd ps sp) (hr : Room k X.A) (hb : Binds X.K fd ps []) (hx : ∀ σ, PassesAt CX X σ (E σ))
    (ht : eval (.Call (.Attribute o m apos) [] [] pos) X.env = (do
      let ov ← eval o X.env
      standAt apos.atName
      let (f, first) ← holding [ov] (getMethod ov m pl)
      callWith pos f first (backTo pos (starEach [] X.env)) (backToKw pos (keywordEach [] X.env))) := by rfl) :
    PE X (.Call (.Attribute o m apos) [] [] pos) (tMethS C m sp E ta tNil) := by
  refine ⟨fun pins s σ H Q I h => ?_⟩
  refine PySem.W.methodCall_KW (pl := pl) (thn (he.run pins s σ H _ I h) fun u s1 ⟨x, H1, I1, rx, a, dx, fs, ex, ea, l, q⟩ => ?_) ht
  subst ex
  obtain rfl : u = Value.ref a := rx
  refine getmeth_ok I1 ea c hm l ?_
  exact PySem.W.callWith_K0 (first := [.ref a]) I1.kIn hm.kp (run_fnS (us := [.ref a]) (vs := [.ref a]) F hr hb (hx σ) I1 (.cons rfl .nil) q)
/-- a method as it stands, and its promise -/
def HasM (P : Program) (w : World) (K : PySem.W.Frag) (mg : Str → Option Value) (base : Heap) (C : Addr) (m : Str) (ps : List Str) (k : Nat) (sp : Sp) : Prop :=
  ∃ (f : Addr) (fd : FuncData), Meth K C m f ∧ Binds K fd ps [] ∧ FnOk P w K mg base (L2.CX P w) k f fd ps sp
theorem pu_meth (h : HasM X.prog X.w X.K X.mg X.base (g.cls cn) m ps k (spU g ps.length S)) (hc : Cls X.K (g.cls cn)) (hr : Room k X.A) (tk : Takes X W) (ho : PE X o (tE g W uo)) (ha : PA X (e :: es) (tA g W us)) {pl : Sem Bool}
    (hst : starEach (e :: es) X.env = (false, eval e X.env) :: starEach es X.env := by rfl) (hpl : (backTo pos (starEach es X.env)).any (·.1) = false := by rfl)
    (ht : eval (.Call (.Attribute o m apos) (e :: es) [] pos) X.env = (do
      let ov ← eval o X.env
      standAt apos.atName
      let (f, first) ← holding [ov] (getMethod ov m pl)
      callWith pos f first (backTo pos (starEach (e :: es) X.env)) (backToKw pos (keywordEach [] X.env))) := by rfl) :
    PE X (.Call (.Attribute o m apos) (e :: es) [] pos) (tE g W (uMeth cn m ps.length S uo us)) := by
  obtain ⟨f, fd, hm, hb, F⟩ := h
  refine peImp (pe_methS ho hc hm F hr hb (fun σ => passAt tk σ) ha hst hpl ht) fun σ H Q ⟨R, ρ, om, al, St, P⟩ => ?_
  refine tR_bind St P fun x ρ1 om1 v H1 al1 s1 S1 r1 P1 => ?_
  split at P1
  · rename_i hi
    obtain ⟨ad, dx, fs, rfl, q1, q2⟩ := ins_at S1 r1 hi
    refine ⟨ad, dx, fs, rfl, q1, q2, tR_bind S1 P1 fun ds ρ2 om2 vs H2 al2 s2 S2 r2 P2 => ?_⟩
    split at P2
    · rename_i hl
      exact call_end (ds := x :: ds) S2 (.cons (s2.rep S1 r1) r2) P2 _ (by rw [List.length_cons, RepVs.length r2]; exact hl)
    · exact P2.elim
  · exact P1.elim
theorem pu_meth0 (h : HasM X.prog X.w X.K X.mg X.base (g.cls cn) m ps k (spU g ps.length S)) (hc : Cls X.K (g.cls cn)) (hr : Room k X.A) (tk : Takes X W) (ho : PE X o (tE g W uo)) {pl : Sem Bool}
    (ht : eval (.Call (.Attribute o m apos) [] [] pos) X.env = (do
      let ov ← eval o X.env
      standAt apos.atName
      let (f, first) ← holding [ov] (getMethod ov m pl)
      callWith pos f first (backTo pos (starEach [] X.env)) (backToKw pos (keywordEach [] X.env))) := by rfl) :
    PE X (.Call (.Attribute o m apos) [] [] pos) (tE g W (uMeth cn m ps.length S uo uNil)) := by
  obtain ⟨f, fd, hm, hb, F⟩ := h
  refine peImp (pe_methS0 ho hc hm F hr hb (fun σ => passAt tk σ) ht) fun σ H Q ⟨R, ρ, om, al, St, P⟩ => ?_
  refine tR_bind St P fun x ρ1 om1 v H1 al1 s1 S1 r1 P1 => ?_
  split at P1
  · rename_i hi
    obtain ⟨ad, dx, fs, rfl, q1, q2⟩ := ins_at S1 r1 hi
    refine ⟨ad, dx, fs, rfl, q1, q2, ?_⟩
    simp only [uNil, Res.bind] at P1
    split at P1
    · rename_i hl
      exact call_end (ds := [x]) S1 (.cons r1 .nil) P1 _ hl
    · exact P1.elim
  · exact P1.elim
theorem pu_methO (h : HasM X.prog X.w X.K X.mg X.base (g.cls cn) m ps k (spO g ps.length S)) (hc : Cls X.K (g.cls cn)) (hr : Room k X.A) (tk : Takes X W) (ho : PE X o (tE g W uo)) (ha : PA X (e :: es) (tA g W us)) {pl : Sem Bool}
    (hst : starEach (e :: es) X.env = (false, eval e X.env) :: starEach es X.env := by rfl) (hpl : (backTo pos (starEach es X.env)).any (·.1) = false := by rfl)
    (ht : eval (.Call (.Attribute o m apos) (e :: es) [] pos) X.env = (do
      let ov ← eval o X.env
      standAt apos.atName
      let (f, first) ← holding [ov] (getMethod ov m pl)
      callWith pos f first (backTo pos (starEach (e :: es) X.env)) (backToKw pos (keywordEach [] X.env))) := by rfl) :
    PE X (.Call (.Attribute o m apos) (e :: es) [] pos) (tOw g W (uMethO cn m ps.length S uo us)) := by
  obtain ⟨f, fd, hm, hb, F⟩ := h
  refine peImp (pe_methS ho hc hm F hr hb (fun σ => passAt tk σ) ha hst hpl ht) fun σ H Q ⟨R, ρ, om, al, St, P⟩ => ?_
  refine tR_bindO St P fun x ρ1 om1 v H1 al1 s1 S1 r1 P1 => ?_
  split at P1
  · rename_i hi
    obtain ⟨ad, dx, fs, rfl, q1, q2⟩ := ins_at S1 r1 hi
    refine ⟨ad, dx, fs, rfl, q1, q2, tR_bindO S1 P1 fun ds ρ2 om2 vs H2 al2 s2 S2 r2 P2 => ?_⟩
    split at P2
    · rename_i hl
      exact call_endO (ds := x :: ds) S2 (.cons (s2.rep S1 r1) r2) P2 _ (by rw [List.length_cons, RepVs.length r2]; exact hl)
    · exact P2.elim
  · exact P1.elim
theorem pu_methO0 (h : HasM X.prog X.w X.K X.mg X.base (g.cls cn) m ps k (spO g ps.length S)) (hc : Cls X.K (g.cls cn)) (hr : Room k X.A) (tk : Takes X W) (ho : PE X o (tE g W uo)) {pl : Sem Bool}
    (ht : eval (.Call (.Attribute o m apos) [] [] pos) X.env = (do
      let ov ← eval o X.env
      standAt apos.atName
      let (f, first) ← holding [ov] (getMethod ov m pl)
      callWith pos f first (backTo pos (starEach [] X.env)) (backToKw pos (keywordEach [] X.env))) := by rfl) :
    PE X (.Call (.Attribute o m apos) [] [] pos) (tOw g W (uMethO cn m ps.length S uo uNil)) := by
  obtain ⟨f, fd, hm, hb, F⟩ := h
  refine peImp (pe_methS0 ho hc hm F hr hb (fun σ => passAt tk σ) ht) fun σ H Q ⟨R, ρ, om, al, St, P⟩ => ?_
  refine tR_bindO St P fun x ρ1 om1 v H1 al1 s1 S1 r1 P1 => ?_
  split at P1
  · rename_i hi
    obtain ⟨ad, dx, fs, rfl, q1, q2⟩ := ins_at S1 r1 hi
    refine ⟨ad, dx, fs, rfl, q1, q2, ?_⟩
    simp only [uNil, Res.bind] at P1
    split at P1
    · rename_i hl
      exact call_endO (ds := [x]) S1 (.cons r1 .nil) P1 _ hl
    · exact P1.elim
  · exact P1.elim
/-! making -/
theorem pu_make {fa : Addr} {fd : FuncData} (M : Mk X.K (g.cls x) fa) (F : FnOk X.prog X.w X.K X.mg X.base (L2.CX X.prog X.w) k fa fd ps (spU g ps.length S)) (hb : Binds X.K fd ps []) (hm : X.mg x = some (.ref (g.cls x))) (hr : Room (k + 1) X.A) (ha : PA X (e :: es) (tA g W us)) (hg : Gl X x := by rfl) (hdb : (x == ("__debug__" : Str)) = false := by decide)
    (he : starEach (e :: es) X.env = (false, eval e X.env) :: starEach es X.env := by rfl) (hpl : (backTo pos (starEach es X.env)).any (·.1) = false := by rfl) : PE X (.Call (.Name x p0) (e :: es) [] pos) (tE g W (uMake x ps.length S us)) := by
  refine peImp (pe_make M F hr hg hm hb .nil passL ha hdb he hpl) fun σ H Q ⟨R, ρ, om, al, St, P⟩ => ?_
  refine tR_bind St P fun ds ρ1 om1 vs H1 al1 s1 S1 r1 P1 => ?_
  split at P1
  · rename_i hl
    intro q dx hq hdx ne
    rw [List.append_nil]
    -- the instance's dict, then the instance
    obtain ⟨S2, s2⟩ := S1.grow (H' := upd H1 dx (.own q)) (upd_keep hdx)
    have hq2 : upd H1 dx (.own q) q = none := by rw [upd_ne ne.symm]; exact hq
    obtain ⟨S3, c3⟩ := S2.newRes (o := .ins (g.cls x) dx []) hq2
    have nR : ¬ R q := fun z => (S1.o.rsv q z).2 hq
    obtain ⟨S4, s4⟩ := S3.newCell nR (c := .ins x []) (by rw [upd_same]; simp) ⟨dx, [], upd_same, .nil⟩
    have s34 : Step al1 (Mt al1 om1 σ ρ1) (upd H1 dx (.own q)) al1 (fun a => Mt al1 om1 σ ρ1 a ∨ a = q) (upd (upd H1 dx (.own q)) q (.ins (g.cls x) dx [])) := Rst.grown hq2
    have T := (s2.trans s34).trans s4
    have hlen : al1.length = om1.length := S1.o.len
    have loc : (al1 ++ [q])[om1.length]? = some q := by rw [← hlen]; simp
    have r4 : RepVs g (al1 ++ [q]) (LL R (al1 ++ [q]) (om1 ++ [.ins x []]) σ ρ1) (upd (upd H1 dx (.own q)) q (.ins (g.cls x) dx [])) (.ref q :: vs) (.loc om1.length :: ds) := .cons (.loc loc) (T.reps S1 r1)
    refine call_end (W := fun _ _ _ _ => False) (S := S) S4 r4 ?_ _ (by rw [List.length_cons, RepVs.length r1]; exact hl)
    cases e9 : S (.loc om1.length :: ds) (om1 ++ [.ins x []]) with
    | ok d om' =>
      rw [e9] at P1
      cases d <;> first | exact P1.elim | skip
      intro y H' al' s S' ry
      cases ry
      exact ⟨rfl, P1 _ H' al' (T.trans s) S' (.loc (s.ext _ _ loc))⟩
    | xc y om' => rw [e9] at P1; exact P1.elim
    | no => rw [e9] at P1; exact P1.elim
  · exact P1.elim
theorem Rst.freeze (S : Rst g R al σ ρ om H) {k : Nat} {c : Str} {fs : List (Str × D)} {ad : Addr} (hk : om[k]? = some (.ins c fs)) (ha : al[k]? = some ad) :
    Rst g R al σ ρ (om.set k .gone) H ∧ Step al (Mt al om σ ρ) H al (Mt al (om.set k .gone) σ ρ) H ∧ RepV g al (LL R al (om.set k .gone) σ ρ) H (.ref ad) (.obj c fs) := by
  have lv : ∀ b, Lv al (om.set k .gone) b → Lv al om b ∧ b ≠ ad := fun b ⟨i, ci, h1, h2, h3⟩ => by
    rcases getset h2 with ⟨rfl, q⟩ | ⟨n, q⟩
    · exact absurd q h3
    · refine ⟨⟨i, ci, h1, q, h3⟩, fun z => ?_⟩
      subst z
      exact n (S.o.inj i k b ci _ h1 ha q hk h3 (by simp))
  have L : Lv al om ad := ⟨k, _, ha, hk, by simp⟩
  have ll : ∀ b, LL R al (om.set k .gone) σ ρ b → LL R al om σ ρ b := fun b m => m.imp (fun m => m.imp (fun z => (lv b z).1) id) id
  have cr := carL (g := g) (al := al) (H := H) ll
  have nl : ¬ LL R al (om.set k .gone) σ ρ ad := fun m => by
    rcases m with (m | m) | m
    · exact (lv ad m).2 rfl
    · exact (S.ocl ad m).1 L
    · exact (S.o.rsv ad m).1 L
  obtain ⟨dx, fvs, m1, m2⟩ := S.o.cel k _ _ hk ha
  refine ⟨⟨⟨by rw [List.length_set]; exact S.o.len, fun i ci b h1 h2 => ?_, fun i j b ci cj h1 h2 h3 h4 n1 n2 => ?_, fun b h => ⟨fun z => (S.o.rsv b h).1 (lv b z).1, (S.o.rsv b h).2⟩⟩, S.sl, fun j d h => ?_, fun j dj h => ?_, S.odj, fun b h => ⟨fun z => (S.ocl b h).1 (lv b z).1, (S.ocl b h).2⟩⟩, .grow (fun _ _ h _ => h) fun b m => .inl (m.imp (fun z => (lv b z).1) id), .obj m1 nl (m2.car cr)⟩
  · rcases getset h1 with ⟨rfl, q⟩ | ⟨n, q⟩
    · subst q; trivial
    · exact (S.o.cel i ci b q h2).car cr (fun _ e _ => e) (fun _ _ _ e _ => e) (fun _ e _ => e)
  · rcases getset h3 with ⟨_, q⟩ | ⟨_, q3⟩
    · exact absurd q n1
    · rcases getset h4 with ⟨_, q⟩ | ⟨_, q4⟩
      · exact absurd q n2
      · exact S.o.inj i j b ci cj h1 h2 q3 q4 n1 n2
  · obtain ⟨v, e, r⟩ := S.val j d h
    exact ⟨v, e, r.car cr⟩
  · obtain ⟨b, vs, e, e2, r⟩ := S.own j dj h
    exact ⟨b, vs, e, e2, r.car cr⟩
theorem pu_frzI (ha : PE X a (tE g W ua)) : PE X a (tE g W (uFrzI ua)) := peImp ha fun σ H Q ⟨R, ρ, om, al, S, P⟩ => by
  refine tR_bind S P fun x ρ1 om1 v H1 al1 s1 S1 r1 P1 => ?_
  cases x <;> first | exact P1.elim | skip
  rename_i k
  dsimp only at P1
  split at P1
  · rename_i c fs e0
    cases r1 with
    | loc h1 =>
      obtain ⟨S2, s2, r2⟩ := S1.freeze e0 h1
      exact P1 _ H1 al1 s2 S2 r2
  · exact P1.elim
end
end Dv

namespace Dv
open PySem PySem.Spec PyProof.Rows L2
/-! ### a sum of two lists, shared ones too, as an own list -/
@[simp] def uCatX (ua ub : UE) : UW := fun ρ ω => (ua ρ ω).bind fun x ρ ω => (ub ρ ω).bind fun y ρ ω => match see ω x, see ω y with
  | .lst xs, .lst ys => if xs.length + ys.length ≤ big then .ok (xs ++ ys) ρ ω else .no
  | _, _ => .no
/-- a suite that is never reached -/
def sNo : US := fun _ _ => .no
theorem pss_noU {g : G} {X : Cx} {W : WX} {b : List Stmt} : PSs X b (tS g W sNo) := ⟨fun pins s σ H D I h => by
  obtain ⟨R, ρ, om, al, S, P⟩ := h
  exact P.elim⟩
/-- for .. in e, e a list as a value or a shared one -/
def sForX (u : UE) (G : UG) (b : US) : US := fun ρ ω => match u ρ ω with
  | .ok (.loc _) _ _ => sForL u G b ρ ω
  | _ => sFor (iLst u) G b ρ ω
theorem forX_lst {u : UE} {G : UG} {b : US} {ρ ρ' : Rho} {ω ω' : Om} {ds : List D} (h : u ρ ω = .ok (.lst ds) ρ' ω') : sForX u G b ρ ω = sFor (iLst u) G b ρ ω := by
  unfold sForX
  rw [h]
theorem forX_loc {u : UE} {G : UG} {b : US} {ρ ρ' : Rho} {ω ω' : Om} {k : Nat} (h : u ρ ω = .ok (.loc k) ρ' ω') : sForX u G b ρ ω = sForL u G b ρ ω := by
  unfold sForX
  rw [h]
section
variable {g : G} {X : Cx} {W : WX} {tg iter : Expr} {body : List Stmt} {ue : UE} {G' : UG} {u : US} {pos : Pos}
theorem ps_forX (hp : PassesOwn (model X.prog X.w) X.A X.env X.xe) (hc : X.calm = true) (hK : X.K = g.K) (he : PE X iter (tE g W ue)) (hg : PG X tg (tG g G')) (hb : PSs X body (tS g W u))
    (hs : ∀ x, foldedSetIterable iter X.env x = pure x := by intro _; rfl) : PS X (.For tg iter body [] pos) (tS g W (sForX ue G' u)) := ⟨fun pins s σ H D I h => by
  obtain ⟨R, ρ, om, al, S, P⟩ := h
  unfold sForX at P
  split at P
  · exact (ps_forL hp hc hK he hg hb hs).run pins s σ H D I ⟨R, ρ, om, al, S, P⟩
  · exact (ps_forU hp hc (pi_listU hK he) hg hb hs).run pins s σ H D I ⟨R, ρ, om, al, S, P⟩⟩
end
/-- a slice of the own list of a slot -/
@[simp] def uSlV (i : Nat) (l h : UO) : UW := fun ρ ω => match ρ[i]? with
  | some (some (.own _)) => (l ρ ω).bind fun a ρ ω => (h ρ ω).bind fun b ρ ω => (match ρ[i]? with
    | some (some (.own xs)) => .ok (cutD xs a b) ρ ω
    | _ => .no)
  | _ => .no
section
variable {g : G} {X : Cx} {W : WX} {e : Expr} {lo hi : Option Expr} {p2 pos : Pos}
theorem pu_slV (i : Nat) {l h : UO} (hK : X.K = g.K) (ha : PE X e (tVar i)) (hl : PO X lo (tO g W l)) (hh : PO X hi (tO g W h)) : PE X (.Subscript e (.Slice lo hi none p2) pos) (tOw g W (uSlV i l h)) :=
  peImp (pe_slice sl_list ha hl hh) fun σ H Q ⟨R, ρ, om, al, S, P⟩ => by
    simp only [uSlV] at P
    split at P
    · rename_i xs e
      obtain ⟨a, vs, h1, h2, h3⟩ := S.own i xs e
      refine ⟨_, h1, tR_bindO (rel := relO) S P fun a' ρ1 om1 y1 H1 al1 s1 S1 r1 P1 => tR_bindO (rel := relO) S1 P1 fun b' ρ2 om2 y2 H2 al2 s2 S2 r2 P2 => ?_⟩
      cases (show y1 = a' from r1)
      cases (show y2 = b' from r2)
      split at P2
      · rename_i xs' e1
        obtain ⟨a2, vs', k1, k2, k3⟩ := S2.own i xs' e1
        rw [h1] at k1
        cases k1
        refine ⟨_, vs', rfl, by rw [hK]; exact SqL.of k2, fun p hp => okOwn S2 P2 hp ?_⟩
        unfold cutV cutD
        rw [k3.length]
        exact (k3.drop _).take _
      · exact P2.elim
    · exact P.elim
end
section
variable {g : G} {R : Addr → Prop} {al : List Addr} {om : Om} {σ : St} {ρ : Rho} {H H' : Hp} {W : WX} {X : Cx} {v : V} {d : D} {a b c e o : Expr} {ua ub uc ue uo : UE} {es : List Expr} {us : UA} {p0 pos p1 apos : Pos} {x cn m : Str} {k n : Nat} {S : FN} {ps : List Str}
theorem pu_catX (ha : PE X a (tE g W ua)) (hb : PE X b (tE g W ub)) : PE X (.BinOp a .Add b pos) (tOw g W (uCatX ua ub)) := peImp (pe_op op_cat ha hb) fun σ H Q ⟨R, ρ, om, al, S, P⟩ => by
  refine tR_bindO S P fun x ρ1 om1 v H1 al1 s1 S1 r1 P1 => tR_bindO S1 P1 fun y ρ2 om2 w H2 al2 s2 S2 r2 P2 => ?_
  have rx := see_rep S2 (s2.rep S1 r1)
  have ry := see_rep S2 r2
  split at P2
  · rename_i xs ys e1 e2
    split at P2
    · rename_i hz
      rw [e1] at rx
      rw [e2] at ry
      obtain ⟨a1, vs, rfl, h1, k1⟩ := rx.lst
      obtain ⟨a2, ws, rfl, h2, k2⟩ := ry.lst
      exact ⟨_, _, _, _, rfl, rfl, h1, h2, big_line (by rw [k1.length, k2.length]; exact hz), fun p hp => okOwn S2 P2 hp (k1.append k2)⟩
    · exact P2.elim
  · exact P2.elim
end
/-! ### classes as the top has left them -/
def AtM (K : PySem.W.Frag) (C : Addr) (m qual : Str) (st : Stmt) : Prop := ∃ (f : Addr) (fd : FuncData), Meth K C m f ∧ Fun K m qual st f fd
def AtI (K : PySem.W.Frag) (mg : Str → Option Value) (C : Addr) (x qual : Str) (st : Stmt) : Prop := ∃ (f : Addr) (fd : FuncData), Mk K C f ∧ Fun K "__init__" qual st f fd ∧ mg x = some (.ref C)
def HasI (P : Program) (w : World) (K : PySem.W.Frag) (mg : Str → Option Value) (base : Heap) (C : Addr) (x : Str) (ps : List Str) (k : Nat) (sp : Sp) : Prop :=
  ∃ (f : Addr) (fd : FuncData), Mk K C f ∧ Binds K fd ps [] ∧ FnOk P w K mg base (L2.CX P w) k f fd ps sp ∧ mg x = some (.ref C)
section
variable {K : PySem.W.Frag} {h : Heap} {mg : Str → Option Value} {cn m qual : Str} {C f : Addr} {st : Stmt} {od an : Option Addr} {sl : Array (Option Value)} {oc kV dc pm cd ct : Value}
theorem atM_mk (X : K.In h) (G : h.Ns mainGlobals mg) (aC : PySem.W.nsIn K mainGlobals cn = some (some (.ref C))) (a : PySem.W.findIn K (.ref C) m = some (some (.ref f))) (i : PySem.W.isFn K (.ref f) = true)
    (l : K.lookup f = some ⟨oc, od, .func (PySem.W.fnOf m qual (defArgs st) (defBody st) (defScope st) .none kV dc pm an cd ct), sl⟩) (c : PySem.W.codeIn K cd qual = true) (k : PySem.W.keepIn K (.ref f) = true) : AtM K (clsOf mg cn) m qual st := by
  rw [clsOf_eq (PySem.W.mg_of X G aC)]
  exact ⟨f, _, ⟨a, i, k⟩, fun_mk l c k⟩
theorem atI_mk (X : K.In h) (G : h.Ns mainGlobals mg) (aC : PySem.W.nsIn K mainGlobals cn = some (some (.ref C))) (a : PySem.W.findIn K (.ref C) "__init__" = some (some (.ref f))) (i : PySem.W.isFn K (.ref f) = true)
    (l : K.lookup f = some ⟨oc, od, .func (PySem.W.fnOf "__init__" qual (defArgs st) (defBody st) (defScope st) .none kV dc pm an cd ct), sl⟩) (c : PySem.W.codeIn K cd qual = true) (k : PySem.W.keepIn K (.ref f) = true)
    (mk : PySem.W.makesIn K C = true) (kc : PySem.W.keepIn K (.ref C) = true) : AtI K mg (clsOf mg cn) cn qual st := by
  have e := PySem.W.mg_of X G aC
  rw [clsOf_eq e]
  exact ⟨f, _, ⟨mk, a, i, kc⟩, fun_mk l c k, e⟩
theorem cls_mk (X : K.In h) (G : h.Ns mainGlobals mg) (aC : PySem.W.nsIn K mainGlobals cn = some (some (.ref C))) (pg : PySem.W.plainGet K C Str.empty = true) (hd : PySem.W.hasDictIn K C = true) (po : PySem.W.plainOver K C = true)
    (sa : PySem.W.findIn K (.ref C) "__setattr__" = some (some (.builtin "object.__setattr__"))) : Cls K (clsOf mg cn) := by
  rw [clsOf_eq (PySem.W.mg_of X G aC)]
  exact ⟨pg, hd, po, sa⟩
theorem na_mk (X : K.In h) (G : h.Ns mainGlobals mg) (aC : PySem.W.nsIn K mainGlobals cn = some (some (.ref C))) (n : PySem.W.findIn K (.ref C) m = some none) : NoAttr K (clsOf mg cn) m := by
  rw [clsOf_eq (PySem.W.mg_of X G aC)]
  exact n
end
theorem AtM.has {P : Program} {w : World} {K : PySem.W.Frag} {mg : Str → Option Value} {base : Heap} {C : Addr} {m qual : Str} {st : Stmt} {ps : List Str} {k : Nat} {sp : Sp} (a : AtM K C m qual st)
    (b : ∀ (kV doc pm : Value) (an : Option Addr) (cdv ct : Value) (us : List Value), us.length = ps.length → bindArgs (PySem.W.fnOf m qual (defArgs st) (defBody st) (defScope st) .none kV doc pm an cdv ct) ⟨us, []⟩ = pure (ps.zip us))
    (h : ∀ {f : Addr} {fd : FuncData}, Fun K m qual st f fd → FnOk P w K mg base (L2.CX P w) k f fd ps sp) : HasM P w K mg base C m ps k sp :=
  let ⟨f, fd, e, F⟩ := a
  ⟨f, fd, e, F.binds b, h F⟩
theorem AtI.has {P : Program} {w : World} {K : PySem.W.Frag} {mg : Str → Option Value} {base : Heap} {C : Addr} {x qual : Str} {st : Stmt} {ps : List Str} {k : Nat} {sp : Sp} (a : AtI K mg C x qual st)
    (b : ∀ (kV doc pm : Value) (an : Option Addr) (cdv ct : Value) (us : List Value), us.length = ps.length → bindArgs (PySem.W.fnOf "__init__" qual (defArgs st) (defBody st) (defScope st) .none kV doc pm an cdv ct) ⟨us, []⟩ = pure (ps.zip us))
    (h : ∀ {f : Addr} {fd : FuncData}, Fun K "__init__" qual st f fd → FnOk P w K mg base (L2.CX P w) k f fd ps sp) : HasI P w K mg base C x ps k sp :=
  let ⟨f, fd, e, F, hm⟩ := a
  ⟨f, fd, e, F.binds b, h F, hm⟩
section
variable {g : G} {W : WX} {X : Cx} {e : Expr} {es : List Expr} {us : UA} {p0 pos : Pos} {x : Str} {k : Nat} {S : FN} {ps : List Str}
theorem pu_makeI {n : Nat} (h : HasI X.prog X.w X.K X.mg X.base (g.cls x) x ps k (spU g n S)) (hr : Room (k + 1) X.A) (ha : PA X (e :: es) (tA g W us)) (hpn : ps.length = n := by rfl) (hg : Gl X x := by rfl) (hdb : (x == ("__debug__" : Str)) = false := by decide)
    (he : starEach (e :: es) X.env = (false, eval e X.env) :: starEach es X.env := by rfl) (hpl : (backTo pos (starEach es X.env)).any (·.1) = false := by rfl) : PE X (.Call (.Name x p0) (e :: es) [] pos) (tE g W (uMake x n S us)) := by
  subst hpn
  obtain ⟨fa, fd, M, hb, F, hm⟩ := h
  exact pu_make M F hb hm hr ha hg hdb he hpl
variable {o : Expr} {uo : UE} {cn m : Str} {apos : Pos} {n : Nat}
theorem pu_mth (h : HasM X.prog X.w X.K X.mg X.base (g.cls cn) m ps k (spU g n S)) (hc : Cls X.K (g.cls cn)) (hr : Room k X.A) (tk : Takes X W) (ho : PE X o (tE g W uo)) (ha : PA X (e :: es) (tA g W us)) {pl : Sem Bool} (hpn : ps.length = n := by rfl)
    (hst : starEach (e :: es) X.env = (false, eval e X.env) :: starEach es X.env := by rfl) (hpl : (backTo pos (starEach es X.env)).any (·.1) = false := by rfl)
    (ht : eval (.Call (.Attribute o m apos) (e :: es) [] pos) X.env = (do
      let ov ← eval o X.env
      standAt apos.atName
      let (f, first) ← holding [ov] (getMethod ov m pl)
      callWith pos f first (backTo pos (starEach (e :: es) X.env)) (backToKw pos (keywordEach [] X.env))) := by rfl) :
    PE X (.Call (.Attribute o m apos) (e :: es) [] pos) (tE g W (uMeth cn m n S uo us)) := by
  subst hpn
  exact pu_meth h hc hr tk ho ha hst hpl ht
theorem pu_mth0 (h : HasM X.prog X.w X.K X.mg X.base (g.cls cn) m ps k (spU g n S)) (hc : Cls X.K (g.cls cn)) (hr : Room k X.A) (tk : Takes X W) (ho : PE X o (tE g W uo)) {pl : Sem Bool} (hpn : ps.length = n := by rfl)
    (ht : eval (.Call (.Attribute o m apos) [] [] pos) X.env = (do
      let ov ← eval o X.env
      standAt apos.atName
      let (f, first) ← holding [ov] (getMethod ov m pl)
      callWith pos f first (backTo pos (starEach [] X.env)) (backToKw pos (keywordEach [] X.env))) := by rfl) :
    PE X (.Call (.Attribute o m apos) [] [] pos) (tE g W (uMeth cn m n S uo uNil)) := by
  subst hpn
  exact pu_meth0 h hc hr tk ho ht
theorem pu_mthO (h : HasM X.prog X.w X.K X.mg X.base (g.cls cn) m ps k (spO g n S)) (hc : Cls X.K (g.cls cn)) (hr : Room k X.A) (tk : Takes X W) (ho : PE X o (tE g W uo)) (ha : PA X (e :: es) (tA g W us)) {pl : Sem Bool} (hpn : ps.length = n := by rfl)
    (hst : starEach (e :: es) X.env = (false, eval e X.env) :: starEach es X.env := by rfl) (hpl : (backTo pos (starEach es X.env)).any (·.1) = false := by rfl)
    (ht : eval (.Call (.Attribute o m apos) (e :: es) [] pos) X.env = (do
      let ov ← eval o X.env
      standAt apos.atName
      let (f, first) ← holding [ov] (getMethod ov m pl)
      callWith pos f first (backTo pos (starEach (e :: es) X.env)) (backToKw pos (keywordEach [] X.env))) := by rfl) :
    PE X (.Call (.Attribute o m apos) (e :: es) [] pos) (tOw g W (uMethO cn m n S uo us)) := by
  subst hpn
  exact pu_methO h hc hr tk ho ha hst hpl ht
theorem pu_mthO0 (h : HasM X.prog X.w X.K X.mg X.base (g.cls cn) m ps k (spO g n S)) (hc : Cls X.K (g.cls cn)) (hr : Room k X.A) (tk : Takes X W) (ho : PE X o (tE g W uo)) {pl : Sem Bool} (hpn : ps.length = n := by rfl)
    (ht : eval (.Call (.Attribute o m apos) [] [] pos) X.env = (do
      let ov ← eval o X.env
      standAt apos.atName
      let (f, first) ← holding [ov] (getMethod ov m pl)
      callWith pos f first (backTo pos (starEach [] X.env)) (backToKw pos (keywordEach [] X.env))) := by rfl) :
    PE X (.Call (.Attribute o m apos) [] [] pos) (tOw g W (uMethO cn m n S uo uNil)) := by
  subst hpn
  exact pu_methO0 h hc hr tk ho ht
end
end Dv

namespace Dv
open PySem PySem.Spec PyProof.Rows L2
/-- how often a while may turn: the length of an own list -/
@[simp] def fuelL (i : Nat) : Rho → Om → Nat := fun ρ _ => match ρ[i]? with
  | some (some (.own xs)) => xs.length + 1
  | _ => 0
end Dv

/-! ### sorted: texts -/
namespace Dv
open PySem PySem.Spec PyProof.Rows Srt
section
variable {prog : Program} {w : World} {A : Around} {E : Value → Shared → Prop} {s : Shared}
def kS : Value → Str
  | .str x _ => x
  | _ => ⟨#[]⟩
def ltS (x y : Str) : Bool := decide (x.cps.toList < y.cps.toList)
theorem swo_S {α : Type} (k : α → Str) : SrtO.Swo fun v u => ltS (k v) (k u) := by
  refine ⟨fun x y h => ?_, fun x y z h1 h2 => ?_⟩
  · exact decide_eq_false (List.lt_asymm (of_decide_eq_true h))
  · have h4 : (k x).cps.toList ≤ (k y).cps.toList := of_decide_eq_false h1
    have h5 : (k y).cps.toList ≤ (k z).cps.toList := of_decide_eq_false h2
    have h6 : ¬ (k z).cps.toList < (k x).cps.toList := List.le_trans h4 h5
    exact decide_eq_false h6
theorem strs_of : ∀ {vs : List Value}, (∀ v ∈ vs, ∃ x t, v = Value.str x t) → StrsAre vs (vs.map kS)
  | [], _ => .nil
  | v :: vs, h => by
    obtain ⟨x, t, e⟩ := h v (by simp)
    subst e
    exact .cons x t (strs_of fun u hu => h u (by simp [hu]))
theorem str_cmp {vs : List Value} (hI : ∀ v ∈ vs, ∃ x t, v = Value.str x t) : SrtO.Cmp prog w A s oneType' (fun p => p.1 ∈ vs) (SrtO.lt2 fun v u => ltS (kS v) (kS u)) := by
  intro p q hm hm'
  obtain ⟨a, t, e⟩ := hI _ hm
  obtain ⟨b, u, e'⟩ := hI _ hm'
  show wpAny (model prog w) A (keyLt' oneType' p.1 q.1) (fun r s' => s' = s ∧ r = ltS (kS p.1) (kS q.1)) (fun _ _ => False) s
  rw [e, e', keyLt'_oneType]
  exact oneLt_str ⟨rfl, rfl⟩
theorem str_sortable {a : Addr} {vs : List Value} (hI : ∀ v ∈ vs, ∃ x t, v = Value.str x t) (h2 : 2 ≤ vs.length) : SrtO.SortableO prog w A s a vs fun v u => ltS (kS v) (kS u) := by
  intro h' _
  refine ⟨oneType', fun Q E hq => ?_, str_cmp hI⟩
  match vs, hI, h2 with
  | v1 :: v2 :: rest, hI, _ =>
    rw [keyKind_strs (strs_of hI)]
    exact wpAny_pure hq
  | [], _, h => exact absurd h (by decide)
  | [v], _, h => exact absurd h (by simp)
theorem sorted_S {l : Addr} {vs : List Value} {Q : Value → Shared → Prop} (hl : s.heap.IsList l vs.toArray) (hz : vs.length ≤ sizeLine) (hp : ∀ v ∈ vs, ∃ x t, v = Value.str x t)
    (h : ∀ (h' : Heap) (d : Addr) (out : List Value), SrtO.Srtd (fun v u => ltS (kS v) (kS u)) out → SrtO.Stb (fun v u => ltS (kS v) (kS u)) out vs → (∀ b o, s.heap.get? b = some o → h'.get? b = some o) → s.heap.objs.size ≤ d → (∃ n, h'.get? d = some (seqObj "list" out.toArray n)) → Q (.ref d) { s with heap := h' }) :
    wpAny (model prog w) A (call (.builtin "sorted") [.ref l]) Q E s := by
  refine SrtO.sorted_ord (swo_S kS) hl hz (fun h2 h₁ a ha kk => ?_) fun out hs hb => ?_
  · exact str_sortable hp h2
  · exact h _ _ out hs hb (fun b o e => sortedAll_old e) (Nat.le_succ _) (sortedAll_at s.heap vs out.toArray)
end
open L2
def rSortedS (K : PySem.W.Frag) : List V → Hp → VK → Prop := fun vs H Q => ∃ (a : Addr) (xs : List Str), vs = [V.ref a] ∧ SqL K H a (xs.map V.str) ∧
  ∀ p, H p = none → Q (.ref p) (upd H p (.lst ((isort ltS xs).map V.str)))
theorem strs_vals : ∀ {xs : List Str} {us : List Value}, Vals (xs.map V.str) us → us.map kS = xs ∧ ∀ v ∈ us, ∃ x t, v = Value.str x t
  | [], us, r => by
    cases r
    exact ⟨rfl, by simp⟩
  | x :: xs, us, r => by
    rw [List.map_cons] at r
    cases r with
    | cons r1 r2 =>
      obtain ⟨t, rfl⟩ := r1
      obtain ⟨k1, k2⟩ := strs_vals r2
      refine ⟨by rw [List.map_cons, k1]; rfl, fun v hv => ?_⟩
      rcases List.mem_cons.mp hv with rfl | hv
      · exact ⟨x, t, rfl⟩
      · exact k2 v hv
theorem vals_strs : ∀ {us : List Value}, (∀ v ∈ us, ∃ x t, v = Value.str x t) → Vals ((us.map kS).map V.str) us
  | [], _ => .nil
  | u :: us, h => by
    obtain ⟨x, t, rfl⟩ := h u (by simp)
    exact .cons ⟨t, rfl⟩ (vals_strs fun v hv => h v (by simp [hv]))
section
variable {X : Cx}
theorem cr_sortedSt : CallR X (.builtin "sorted") (rSortedS X.K) := by
  intro pins s σ H vs us Q I r h
  obtain ⟨a, xs, rfl, hs, q⟩ := h
  obtain ⟨its, rv, hl, hz⟩ := I.list hs
  obtain ⟨u, rfl, ru⟩ := vals1 r
  obtain rfl : u = Value.ref a := ru
  obtain ⟨e1, e2⟩ := strs_vals rv
  refine sorted_S hl.isList (by rw [← rv.length]; exact hz) e2 fun h' d out h1 h2 kp hd hn => ?_
  have h3 : ∀ u ∈ out, ∃ x t, u = Value.str x t := fun u hu => e2 u (h2.perm.mem_iff.mp hu)
  obtain ⟨n, hn⟩ := hn
  have hb : SrtO.Stb ltS (out.map kS) (its.map kS) := SrtO.Stb.map (swo_S id) kS h2
  have hsr : SrtO.Srtd ltS (out.map kS) := SrtO.srtd_map h1
  rw [e1] at hb
  have e3 : out.map kS = isort ltS xs := SrtO.stb_uniq (swo_S id) hsr (isort_srtd (swo_S id) _) (hb.trans ⟨(isort_perm _ _).symm, fun x => ((isort_stb (swo_S id) _).cls x).symm⟩)
  refine ⟨.ref d, upd H d (.lst ((out.map kS).map V.str)), I.laid (t' := s.toks) kp hd ⟨?_, out, n, vals_strs h3, hn⟩, rfl, ?_⟩
  · have := h2.len
    rw [List.length_map, List.length_map, this, ← rv.length]
    exact hz
  · rw [e3]
    exact q d (I.hok.fresh hd)
end
/-! ### as a built-in of the layer -/
def txsD : List D → Option (List Str)
  | [] => some []
  | .str x :: ds => (txsD ds).map (x :: ·)
  | _ :: _ => none
def fSortS : List D → Option D
  | [.lst ds] => (txsD ds).map fun l => .lst ((isort ltS l).map .str)
  | _ => none
section
variable {g : G} {R : Addr → Prop} {al : List Addr} {om : Om} {σ : St} {ρ : Rho} {H : Hp} {W : WX} {L : Addr → Prop}
theorem txs_rep : ∀ {vs : List V} {ds : List D} {l : List Str}, RepVs g al L H vs ds → txsD ds = some l → vs = l.map V.str ∧ ds = l.map D.str
  | _, _, l, .nil, e => by cases e; exact ⟨rfl, rfl⟩
  | v :: vs, d :: ds, l, .cons h r, e => by
    cases d with
    | str x =>
      unfold txsD at e
      cases e2 : txsD ds with
      | none => rw [e2] at e; cases e
      | some l' =>
        rw [e2] at e
        cases e
        obtain ⟨k1, k2⟩ := txs_rep r e2
        cases h
        exact ⟨by rw [k1]; rfl, by rw [k2]; rfl⟩
    | _ => unfold txsD at e; cases e
theorem s_sortS : FnS g (rSortedS g.K) fSortS := by
  intro R W al om σ ρ H Q vs xs S r P
  unfold fSortS at P
  split at P
  · obtain ⟨v, rfl, h⟩ := r.one
    obtain ⟨a, vs, rfl, h1, h2⟩ := h.lst
    rename_i ds
    cases e : txsD ds with
    | none => rw [e] at P; exact P.elim
    | some l =>
      rw [e] at P
      obtain ⟨k1, k2⟩ := txs_rep h2 e
      refine ⟨a, l, rfl, by rw [← k1]; exact SqL.of h1, fun p hp => ?_⟩
      have P' : PostR g R W (relV g) al (Mt al om σ ρ) H σ (.ok (.lst ((isort ltS l).map D.str)) ρ om) Q := P
      exact okNewL S P' hp (RepVs.of_mem fun x hx => .str)
  · exact P.elim
end
end Dv

set_option maxRecDepth 1000000
/-! ### list(reversed(a list)) -/
namespace Dv
open PySem PySem.Spec PyProof.Rows RT
section
variable {prog : Program} {w : World} {A : Around} {s : Shared} {R : Result → Shared → Prop}
theorem extend_rev {it l : Addr} {items : Array Value} (hh : A.handled = none) (hit : s.heap.IsRevIter it l ((items.size : Int) - 1)) (hl : s.heap.IsList l items) (hne : l ≠ it) (hn : items.size ≤ sizeLine) (S : Addr) (res : Value) (c₀ : Nat) (hSi : S ≠ it) (hSl : S ≠ l)
    (hS : s.heap.get? S = some { cls := .type "list", data := .seq #[] c₀ })
    (hR : ∀ (h' : Heap) (tk : Nat) (acc : Array Value) (c' : Nat), (∀ b o, b ≠ it → b ≠ S → s.heap.get? b = some o → h'.get? b = some o) → h'.get? S = some { cls := .type "list", dict := none, data := .seq acc c', slots := #[] } → ItemsOf (fun i v => items[items.size - 1 - i]? = some v) acc items.size → R (.ok (.ret res)) { s with heap := h', toks := tk }) :
    wpAny (model prog w) A.in1 (Builtin.List.listExtendWith (.ref S) (.ref it) res)
      (fun fin s' => match fin with | .done f => R (.ok f) s' | .again c' => c'.quiet = true ∧ codeAny (model prog w) A c' R s') (fun e s' => R (.error e) s') s := by
  have W := (Walks.listRev (prog := prog) (w := w) (A := A.in1) hh it l hne items).toS
  have hSf : S ∉ [it, l] := by simp only [List.mem_cons, List.not_mem_nil, or_false, not_or]; exact ⟨hSi, hSl⟩
  have hT : s.TypeIs (.ref it) "list_reverseiterator" := hit.typeIs
  have h1 : Builtin.List.listSameRef (.ref S) (.ref it) = false := by simp [Builtin.List.listSameRef, hSi]
  unfold Builtin.List.listExtendWith
  refine wpAny_bind (wpAny_typeOf hT ?_)
  rw [if_neg (by rw [h1]; decide)]
  refine wpAny_bind (wpAny_pyIter_revIter hit ?_)
  refine wpAny_bind (wpAny_holding ?_)
  unfold Builtin.List.listLengthHint
  refine wpAny_bind (wpAny_specialOf hT nolen_lri ?_)
  show wpAny _ A.in1 (specialOf (Value.ref it) (Str.ofString "__length_hint__") >>= _) _ _ _
  refine wpAny_bind (wpAny_specialOf hT hint_lri ?_)
  generalize hid : ("list_reverseiterator.__length_hint__" : String) = id0
  wp_delta
  rw [show splitId id0 = some ("list_reverseiterator", "__length_hint__") from by subst hid; decide +kernel]
  subst hid
  refine wpAny_bind (wpAny_isInstance (b := true) hT (by rw [isSubtype_type]; kernel_rfl) ?_)
  refine wpAny_pure ?_
  rw [if_neg (by decide)]
  have e0 : ((items.size : Nat) : Int) - 1 - ((0 : Nat) : Int) = (items.size : Int) - 1 := by omega
  refine wpAny_pure ⟨plainId_quiet F.plain_extend_loop _, codeAny_extend_loopS W hn _ hSf _ items.size 0 _ _ _ rfl (Nat.zero_le _) ⟨Nat.zero_le _, by rw [e0]; exact hit, hl⟩ hS (ItemsOf.nil _) fun s' acc' c' hm hS' hacc => ?_⟩
  rw [Moved.eq_with hm]
  refine hR s'.heap s'.toks acc' c' (fun b o hb hb2 e => hm.heap b o (fun hmem => ?_) e) hS' hacc
  rcases List.mem_cons.mp hmem with e' | hmem
  · exact hb2 e'
  · exact hb (List.mem_singleton.mp hmem)
theorem list_init_rev {it l : Addr} {items : Array Value} (hh : A.handled = none) (hit : s.heap.IsRevIter it l ((items.size : Int) - 1)) (hl : s.heap.IsList l items) (hne : l ≠ it) (hn : items.size ≤ sizeLine) (S : Addr) (hSi : S ≠ it) (hSl : S ≠ l)
    (hS : s.heap.get? S = some { cls := .type "list", data := .seq #[] })
    (hR : ∀ (h' : Heap) (tk : Nat) (acc : Array Value) (c' : Nat), (∀ b o, b ≠ it → b ≠ S → s.heap.get? b = some o → h'.get? b = some o) → h'.get? S = some { cls := .type "list", dict := none, data := .seq acc c', slots := #[] } → ItemsOf (fun i v => items[items.size - 1 - i]? = some v) acc items.size → R (.ok (.ret .none)) { s with heap := h', toks := tk }) :
    wpAny (model prog w) A.in1 (Builtin.«list.__init__» ⟨[.ref S, .ref it], []⟩)
      (fun fin s' => match fin with | .done f => R (.ok f) s' | .again c' => c'.quiet = true ∧ codeAny (model prog w) A c' R s') (fun e s' => R (.error e) s') s := by
  show wpAny _ A.in1 (do let old ← Builtin.List.listItems (.ref S); Builtin.List.listUpdate (.ref S) (fun _ => #[]); letGo old.toList.reverse; Builtin.List.listExtendWith (.ref S) (.ref it) .none) _ _ s
  refine wpAny_bind ?_
  unfold Builtin.List.listItems
  refine wpAny_bind (wpAny_seqItems hS rfl (wpAny_pure ?_))
  show wpAny _ A.in1 (updateSeq S (fun _ => #[]) >>= fun _ => letGo (#[] : Array Value).toList.reverse >>= fun _ => Builtin.List.listExtendWith (.ref S) (.ref it) .none) _ _ s
  refine wpAny_bind (wpAny_updateSeq hS rfl ?_)
  have hS₂ := Heap.get?_update_self (Obj.mapSeq (fun _ => (#[] : Array Value))) hS rfl
  have oth : ∀ b o, b ≠ S → s.heap.get? b = some o → (s.heap.update S (Obj.mapSeq (fun _ => (#[] : Array Value)))).get? b = some o :=
    fun b o hb e => (Heap.get?_update_other _ _ (Ne.symm hb)).trans e
  obtain ⟨ol, hol, _⟩ := id hl
  refine wpAny_bind (wpAny_letGo ?_)
  refine extend_rev hh (hit.at fun o e => oth it o (Ne.symm hSi) e) (hl.at fun o e => oth l o (Ne.symm hSl) e) hne hn S .none _ hSi hSl hS₂ fun h' tk acc c' hk hS' hacc => ?_
  exact hR h' tk acc c' (fun b o hb hb2 e => hk b o hb hb2 (oth b o hb2 e)) hS' hacc
end
section
variable {prog : Program} {w : World} {A : Around} {E : Value → Shared → Prop} {s : Shared}
theorem call_list_rev {it l : Addr} {items : Array Value} {Q : Value → Shared → Prop} (hh : A.handled = none) (hit : s.heap.IsRevIter it l ((items.size : Int) - 1)) (hl : s.heap.IsList l items) (hne : l ≠ it) (hn : items.size ≤ sizeLine)
    (hQ : ∀ (h' : Heap) (tk : Nat) (acc : Array Value) (c' : Nat), (∀ b o, b ≠ it → s.heap.get? b = some o → h'.get? b = some o) → h'.get? s.heap.objs.size = some { cls := .type "list", dict := none, data := .seq acc c', slots := #[] } → ItemsOf (fun i v => items[items.size - 1 - i]? = some v) acc items.size →
      Q (.ref s.heap.objs.size) { s with heap := h', toks := tk }) :
    wpAny (model prog w) A (call (.type "list") [.ref it]) Q E s := by
  obtain ⟨oi, hoi, _⟩ := id hit
  obtain ⟨ol, hol, _⟩ := id hl
  have hSi : s.heap.objs.size ≠ it := Nat.ne_of_gt (Heap.lt_size hoi)
  have hSl : s.heap.objs.size ≠ l := Nat.ne_of_gt (Heap.lt_size hol)
  refine callType_codes (Q₁ := fun obj s₁ => obj = .ref s.heap.objs.size ∧ s₁ = { s with heap := s.heap.push { cls := .type "list", data := .seq #[] } }) F.called_list (F.typeCall_list_1 _) F.entry_list_init
    (code_list_new _ ⟨rfl, rfl⟩) fun obj s₁ h₁ => ?_
  obtain ⟨rfl, rfl⟩ := h₁
  have hS : (s.heap.push { cls := .type "list", data := .seq #[] }).get? s.heap.objs.size = some { cls := .type "list", data := .seq #[] } := Heap.get?_push_size _ rfl
  refine ⟨⟨_, hS, rfl⟩, F.args_list_init_2 _ _, list_init_rev (A := A.in1) (s := { s with heap := s.heap.push { cls := .type "list", data := .seq #[] } }) hh (hit.at fun o e => Heap.get?_push_of_some _ e) (hl.push _) hne hn s.heap.objs.size hSi hSl hS fun h' tk acc c' hk hS' hacc => ?_⟩
  refine ⟨rfl, hQ h' tk acc c' (fun b o hb e => hk b o hb (Nat.ne_of_lt (Heap.lt_size e)) (Heap.get?_push_of_some _ e)) hS' hacc⟩
end
open L2
/-- list(reversed(x)), x a list: a new list -/
def tLstRev (K : PySem.W.Frag) (te : TE) : TE := fun σ H Q => te σ H fun v H1 => ∃ (a : Addr) (xs : List V), v = .ref a ∧ SqL K H1 a xs ∧ ∀ q, H1 q = none → Q (.ref q) (upd H1 q (.lst xs.reverse))
section
variable {X : Cx}
theorem pe_lstRev {e : Expr} {te : TE} {p p2 pos pos2 : Pos} (hc : X.calm = true) (hg : Gl X "list") (hm : X.mg "list" = none) (hg2 : Gl X "reversed") (hm2 : X.mg "reversed" = none) (he : PE X e te)
    (hs : starEach [e] X.env = (false, eval e X.env) :: starEach [] X.env := by rfl)
    (hs2 : starEach [.Call (.Name "reversed" p2) [e] [] pos2] X.env = (false, eval (.Call (.Name "reversed" p2) [e] [] pos2) X.env) :: starEach [] X.env := by rfl) :
    PE X (.Call (.Name "list" p) [.Call (.Name "reversed" p2) [e] [] pos2] [] pos) (tLstRev X.K te) := by
  refine ⟨fun pins s σ H Q I h => ?_⟩
  refine Call_ (ld_blt I hg hm PyProof.Rows.boot_list (PyProof.Rows.callWith_type1 (args_cons (Call_ (ld_blt I hg2 hm2 PyProof.Rows.boot_reversed (PyProof.Rows.callWith_type1 (args_cons (thn (he.run pins s σ H _ I h) fun u s1 ⟨v, H1, I1, r1, q1⟩ => args_nil ?_) hs) hs rfl))) hs2) hs2 rfl))
  obtain ⟨a, xs, ev, hq, q⟩ := q1
  subst ev
  obtain rfl : u = Value.ref a := r1
  obtain ⟨its, rv, p', hz⟩ := I1.list hq
  refine call_reversed_list p'.isList (args_nil ?_)
  have hl := p'.isList
  obtain ⟨ol, hol, _⟩ := id hl
  have hne : a ≠ s1.heap.objs.size := Nat.ne_of_lt (Heap.lt_size hol)
  have hn : its.toArray.size ≤ sizeLine := by rw [List.size_toArray, ← rv.length]; exact hz
  refine call_list_rev (s := { s1 with heap := s1.heap.push (revObj a ((its.toArray.size : Int) - 1)) }) (I1.ok.hd hc) ⟨_, Heap.get?_push_size _ rfl, rfl, rfl⟩ (hl.push _) hne hn fun h' tk acc c' hk hS hi => ?_
  have kp : ∀ b o, s1.heap.get? b = some o → h'.get? b = some o := fun b o e => hk b o (Nat.ne_of_lt (Heap.lt_size e)) (Heap.get?_push_of_some _ e)
  have hd : s1.heap.objs.size ≤ (s1.heap.push (revObj a ((its.toArray.size : Int) - 1))).objs.size := by
    rw [Heap.size_push]
    exact Nat.le_succ _
  refine ⟨.ref _, upd H1 _ (.lst xs.reverse), I1.laid (t' := tk) kp hd ⟨by rw [List.length_reverse]; exact hz, acc.toList, c', vals_rev rv hi, ?_⟩, rfl, q _ (I1.hok.fresh hd)⟩
  rw [Array.toArray_toList]
  exact hS
end
/-- .. of an own list -/
@[simp] def uRev (i : Nat) : UW := fun ρ ω => match ρ[i]? with
  | some (some (.own xs)) => .ok xs.reverse ρ ω
  | _ => .no
section
variable {g : G} {X : Cx} {W : WX} {e : Expr} {p p2 pos pos2 : Pos}
theorem pu_rev (i : Nat) (hK : X.K = g.K) (hc : X.calm = true) (hm : X.mg "list" = none) (hm2 : X.mg "reversed" = none) (he : PE X e (tVar i)) (hg : Gl X "list" := by rfl) (hg2 : Gl X "reversed" := by rfl)
    (hs : starEach [e] X.env = (false, eval e X.env) :: starEach [] X.env := by rfl)
    (hs2 : starEach [.Call (.Name "reversed" p2) [e] [] pos2] X.env = (false, eval (.Call (.Name "reversed" p2) [e] [] pos2) X.env) :: starEach [] X.env := by rfl) :
    PE X (.Call (.Name "list" p) [.Call (.Name "reversed" p2) [e] [] pos2] [] pos) (tOw g W (uRev i)) := peImp (pe_lstRev hc hg hm hg2 hm2 he hs hs2) fun σ H Q ⟨R, ρ, om, al, S, P⟩ => by
  simp only [uRev] at P
  split at P
  · rename_i xs e
    obtain ⟨a, vs, h1, h2, h3⟩ := S.own i xs e
    exact ⟨_, h1, a, vs, rfl, by rw [hK]; exact SqL.of h2, fun p hp => okOwn S P hp (RepVs.reverse h3)⟩
  · exact P.elim
end
/-! ### a method's call in a comprehension -/
@[simp] def uMethN (c m : Str) (n : Nat) (S : FN) (uo : UE) : UE := fun ρ ω => (uo ρ ω).bind fun x ρ ω => if isIns ω x c m = true then (if 1 = n then (match S [x] ω with
  | .ok d ω' => .ok d ρ ω'
  | _ => .no) else .no) else .no
section
variable {g : G} {W : WX} {X : Cx} {o : Expr} {uo : UE} {pos apos : Pos} {cn m : Str} {k n : Nat} {S : FN} {ps : List Str}
theorem passN {X : Cx} (σ : St) : PassesAt (L2.CX X.prog X.w) X σ (fun _ _ _ => False) := fun _ _ _ e s' I h => by
  obtain ⟨_, _, _, _, _, _, _, _, _, _, _, _, z⟩ := h
  exact z.elim
theorem pu_mth0N (h : HasM X.prog X.w X.K X.mg X.base (g.cls cn) m ps k (spU g n S)) (hc : Cls X.K (g.cls cn)) (hr : Room k X.A) (ho : PE X o (tE g W uo)) {pl : Sem Bool} (hpn : ps.length = n := by rfl)
    (ht : eval (.Call (.Attribute o m apos) [] [] pos) X.env = (do
      let ov ← eval o X.env
      standAt apos.atName
      let (f, first) ← holding [ov] (getMethod ov m pl)
      callWith pos f first (backTo pos (starEach [] X.env)) (backToKw pos (keywordEach [] X.env))) := by rfl) :
    PE X (.Call (.Attribute o m apos) [] [] pos) (tE g W (uMethN cn m n S uo)) := by
  subst hpn
  obtain ⟨f, fd, hm, hb, F⟩ := h
  refine peImp (pe_methS0 (E := fun _ _ _ _ => False) ho hc hm F hr hb (fun σ => passN σ) ht) fun σ H Q ⟨R, ρ, om, al, St, P⟩ => ?_
  refine tR_bind St P fun x ρ1 om1 v H1 al1 s1 S1 r1 P1 => ?_
  split at P1
  · rename_i hi
    obtain ⟨ad, dx, fs, rfl, q1, q2⟩ := ins_at S1 r1 hi
    refine ⟨ad, dx, fs, rfl, q1, q2, ?_⟩
    split at P1
    · rename_i hl
      cases e9 : S [x] om1 with
      | ok d om' =>
        rw [e9] at P1
        obtain ⟨k1, R2, ds2, om2, al2, k2, k3, k4⟩ := call_end (W := fun _ _ _ _ => False) (S := S) (ds := [x]) S1 (.cons r1 .nil) (by rw [e9]; exact P1) _ hl
        exact ⟨k1, R2, ds2, om2, al2, k2, k3, k4⟩
      | xc x om' => rw [e9] at P1; exact P1.elim
      | no => rw [e9] at P1; exact P1.elim
    · exact P1.elim
  · exact P1.elim
end
end Dv

namespace Dv
open PySem PySem.Spec PyProof.Rows L2
/-! ### a comprehension over a shared list, asked anew at each turn -/
def goCX (G : UG) (tt : UT) (te : UE) (vs : List Nat) (get : Rho → Om → Option (List D)) : Nat → Nat → List D → UW
  | 0, _, _ => fun _ _ => .no
  | f + 1, i, acc => fun ρ ω => match get ρ ω with
    | none => .no
    | some ds => match ds[i]? with
      | none => .ok acc ρ ω
      | some d => match G d ρ with
        | none => .no
        | some ρ1 => match tt ρ1 ω with
          | .ok b ρ2 ω2 => if b = true then (match te ρ2 ω2 with
            | .ok y ρ3 ω3 => if acc.length < big then goCX G tt te vs get f (i + 1) (acc ++ [y]) (clrs ρ3 vs) ω3 else .no
            | _ => .no) else goCX G tt te vs get f (i + 1) acc (clrs ρ2 vs) ω2
          | _ => .no
def uLcL (u : UE) (G : UG) (tt : UT) (te : UE) (vs : List Nat) : UW := fun ρ ω => (u ρ ω).bind fun x ρ ω => match x with
  | .loc k => goCX G tt te vs (getL k) (lenG (getL k) ρ ω) 0 [] (clrs ρ vs) ω
  | _ => .no
section
variable {g : G} {R : Addr → Prop} {al : List Addr} {om : Om} {σ : St} {ρ : Rho} {H H' : Hp} {W : WX} {X : Cx} {v : V} {d : D} {a b c e o : Expr} {ua ub uc ue uo : UE} {es : List Expr} {us : UA} {p0 pos p1 apos : Pos} {x : Str} {id : String}
theorem tLcL_of {K : PySem.W.Frag} {G' : UG} {tt : UT} {te : UE} {vs : List Nat} {σ : St} {H : Hp} {Q : VK} (h : tOw g W (uLcL ue G' tt te vs) σ H Q) : tLc (iList K (tE g W ue)) (tGv g vs G') (tT g WF tt) (tE g WF te) vs σ H Q := by
  obtain ⟨R, ρ, om, al, S, P⟩ := h
  refine tR_bindO S P fun x ρ1 om1 v H1 al1 s1 S1 r1 P1 => ?_
  cases x <;> first | exact P1.elim | skip
  rename_i k
  cases r1 with
  | loc ha =>
  rename_i ad
  dsimp only at P1
  have cell : ∀ {R2 : Addr → Prop} {al' : List Addr} {om' : Om} {σ' : St} {ρ' : Rho} {H' : Hp} {ds : List D}, (∀ (i : Nat) (a : Addr), al1[i]? = some a → al'[i]? = some a) → Rst g R2 al' σ' ρ' om' H' → getL k ρ' om' = some ds → ∃ vs, SqL K H' ad vs ∧ H' ad = some (.lst vs) ∧ RepVs g al' (LL R2 al' om' σ' ρ') H' vs ds := fun {R2 al' om' σ' ρ' H' ds} ext S' e => by
    unfold getL at e
    split at e
    · rename_i ds' e'
      cases e
      obtain ⟨vs, h1, h2⟩ := cell_lst S' e' (ext _ _ ha)
      exact ⟨vs, SqL.of h1, h1, h2⟩
    · cases e
  have first : ∃ vs, SqL K H1 ad vs := by
    unfold lenG at P1
    cases e : getL k ρ1 om1 with
    | none => rw [e] at P1; exact P1.elim
    | some ds => obtain ⟨vs, h, _⟩ := cell (fun _ _ h => h) S1 e; exact ⟨vs, h⟩
  refine ⟨ad, rfl, first, ?_⟩
  intro D0 hD
  obtain ⟨S2, s2⟩ := S1.forgets vs
  obtain ⟨S3, c3⟩ := S2.newRes (o := .lst []) hD
  have nR : ¬ R D0 := fun z => (S1.o.rsv D0 z).2 hD
  refine ⟨fun i n H' => ∃ ρ' om' al' accV acc, Step al1 (Mt al1 om1 σ ρ1) H1 al' (fun a => Mt al' om' (wipe σ vs) ρ' a ∨ a = D0) H' ∧ Rst g (Rp R D0) al' (wipe σ vs) ρ' om' H' ∧ (∀ i s, ρ'[i]? = some (some s) → i ∉ vs) ∧ H' D0 = some (.lst accV) ∧ RepVs g al' (LL (Rp R D0) al' om' (wipe σ vs) ρ') H' accV acc ∧
      PostO g R W al1 (Mt al1 om1 σ ρ1) H1 σ (goCX G' tt te vs (getL k) n i acc ρ' om') Q,
    ⟨_, clrs ρ1 vs, om1, al1, [], [], ?_, S3, fun i s h => clrs_get h, upd_same, .nil, P1⟩, ?_⟩
  · refine s2.trans (.grow (fun b o h n => upd_keep hD b o h) fun b m => ?_)
    rcases m with m | m
    · exact .inl m
    · exact .inr (by rw [m]; exact hD)
  rintro i n H2 ⟨ρ2, om2, al2, accV, acc, t2, S4, cl2, hacc, racc, P2⟩
  obtain ⟨S4', c4', n4⟩ := S4.lessp nR
  cases n with
  | zero => exact P2.elim
  | succ n =>
  unfold goCX at P2
  cases eq : getL k ρ2 om2 with
  | none => rw [eq] at P2; exact P2.elim
  | some ds =>
  rw [eq] at P2
  dsimp only at P2
  obtain ⟨vs0, q0, q1, q2⟩ := cell t2.ext S4 eq
  cases ed : ds[i]? with
  | some d =>
    rw [ed] at P2
    dsimp only at P2
    obtain ⟨v0, h0, r⟩ := q2.get ed
    refine .inr ⟨⟨vs0, v0, q0, h0⟩, fun H' => ∃ ρ' om' al' accV acc, Step al1 (Mt al1 om1 σ ρ1) H1 al' (fun a => Mt al' om' (wipe σ vs) ρ' a ∨ a = D0) H' ∧ Rst g (Rp R D0) al' (wipe σ vs) ρ' om' H' ∧ (∀ i s, ρ'[i]? = some (some s) → i ∉ vs) ∧ H' D0 = some (.lst accV) ∧ RepVs g al' (LL (Rp R D0) al' om' (wipe σ vs) ρ') H' accV acc ∧
        PostO g R W al1 (Mt al1 om1 σ ρ1) H1 σ (goCX G' tt te vs (getL k) n (i + 1) acc ρ' om') Q, fun H' h => ⟨n, Nat.lt_succ_self n, h⟩, fun x H3 ⟨e3, hx⟩ => ?_⟩
    subst e3
    have h2 := hx vs0 q0
    rw [h0] at h2
    cases h2
    cases eg : G' d ρ2 with
    | none => rw [eg] at P2; exact P2.elim
    | some ρ3 =>
      rw [eg] at P2
      refine ⟨Rp R D0, ρ2, om2, al2, d, ρ3, S4, r, eg, fun σ4 o4 s4 S6 => ⟨o4.wipe, Rp R D0, ρ3, om2, al2, S6, ?_⟩⟩
      dsimp only at P2
      cases et : tt ρ3 om2 with
      | xc _ _ _ => rw [et] at P2; exact P2.elim
      | no => rw [et] at P2; exact P2.elim
      | ok b ρ5 om5 =>
        rw [et] at P2
        dsimp only at P2
        intro y7 H7 al7 s7 S7 e7
        cases (show y7 = b from e7)
        have kD : ∀ {al : List Addr} {om : Om} {σ : St} {ρ : Rho} {H : Hp}, Rst g (Rp R D0) al σ ρ om H → ¬ Mt al om σ ρ D0 := fun S m => by
          rcases m with m | m
          · exact (S.o.rsv D0 (.inr rfl)).1 m
          · exact (S.ocl D0 m).2 (.inr rfl)
        have st7 := s4.trans s7
        have hD7 : H7 D0 = some (.lst accV) := st7.keep D0 _ hacc (kD S4)
        have ra7 := st7.reps S4 racc
        cases b with
        | false =>
          simp only [Bool.false_eq_true, if_false] at P2 ⊢
          obtain ⟨S8, s8⟩ := S7.forgets vs
          rw [o4.wipe] at S8 s8
          exact ⟨clrs ρ5 vs, om5, al7, accV, acc, t2.trans (st7.trans s8).or, S8, fun i s h => clrs_get h, by exact hD7, s8.reps S7 ra7, P2⟩
        | true =>
          simp only [if_true] at P2 ⊢
          refine ⟨Rp R D0, ρ5, om5, al7, S7, ?_⟩
          cases ee : te ρ5 om5 with
          | xc _ _ _ => rw [ee] at P2; exact P2.elim
          | no => rw [ee] at P2; exact P2.elim
          | ok y ρ6 om6 =>
            rw [ee] at P2
            dsimp only at P2
            split at P2
            · rename_i hz
              intro yv H9 al9 s9 S9 ry
              have hD9 : H9 D0 = some (.lst accV) := s9.keep D0 _ hD7 (kD S7)
              have ra9 := s9.reps S7 ra7
              have hlen : accV.length < sizeLine := by rw [ra9.length]; exact Nat.lt_of_lt_of_le hz (big_line (Nat.le_refl _))
              refine ⟨accV, hD9, hlen, ?_⟩
              obtain ⟨S10, c10⟩ := S9.updRes (vs' := accV ++ [yv]) hD9
              obtain ⟨S11, s11⟩ := S10.forgets vs
              rw [o4.wipe] at S11 s11
              refine ⟨clrs ρ6 vs, om6, al9, accV ++ [yv], acc ++ [y], t2.trans ((st7.trans s9).or.trans ?_), S11, fun i s h => clrs_get h, upd_same, s11.reps S10 ((ra9.append (.cons ry .nil)).car c10), P2⟩
              refine ⟨fun _ _ h => h, fun b o h n => ?_, fun b m => ?_⟩
              · rw [upd_ne fun z => n (.inr z)]; exact h
              · rcases m with m | m
                · rcases s11.fresh b m with q | q
                  · exact .inl (.inl q)
                  · by_cases z : b = D0
                    · exact .inl (.inr z)
                    · rw [upd_ne z] at q; exact .inr q
                · exact .inl (.inr m)
            · exact P2.elim
  | none =>
    rw [ed] at P2
    dsimp only at P2
    refine .inl ⟨⟨vs0, q0, ?_⟩, ?_⟩
    · rw [q2.length]
      exact List.getElem?_eq_none_iff.mp ed
    have hout : ∀ (j : Nat) (s : Sl), ρ2[j]? = some (some s) → σ[j]? = (wipe σ vs)[j]? := fun j s h => (wipe_out (cl2 j s h)).symm
    obtain ⟨S7, m7⟩ := S4.agree (σ' := σ) (by rw [wipe_length]) hout
    refine P2 D0 accV H2 al2 ⟨t2.ext, t2.keep, fun a m => t2.fresh a (m.imp (m7 a).mp id)⟩ S7 nR hacc (racc.car (carL fun a m => ?_))
    exact m.imp (m7 a).mp id
/-- [.. for .. in e ..], e a shared list -/
theorem pu_lcL {elt tg iter : Expr} {ifs : List Expr} {scope : Scope} {G' : UG} {tt : UT} {te : UE} (own : List (Str × Nat)) (hc : X.calm = true) (hN : X.N.Nodup) (hi : PE X iter (tE g W ue)) (ok : BlkOk X.N X.env.scope scope own)
    (hg : ∀ (s : Shared) (H : Hp) (C : Addr) (cl : List (Str × Addr)) (fp : List Addr), PG (X.blk s H scope (compEnvC scope cl C X.env) fp) tg (tGv g (own.map (·.2)) G')) (ht : ∀ (s : Shared) (H : Hp) (C : Addr) (cl : List (Str × Addr)) (fp : List Addr), PTs (X.blk s H scope (compEnvC scope cl C X.env) fp) ifs (tT g WF tt))
    (he : ∀ (s : Shared) (H : Hp) (C : Addr) (cl : List (Str × Addr)) (fp : List Addr), PE (X.blk s H scope (compEnvC scope cl C X.env) fp) elt (tE g WF te)) (hs : ∀ x, foldedSetIterable iter X.env x = pure x := by intro _; rfl) :
    PE X (.ListComp elt [⟨tg, iter, ifs, 0⟩] scope pos) (tOw g W (uLcL ue G' tt te (own.map (·.2)))) :=
  peImp (pe_lc hc hN (pi_list hi) ok hg ht he hs) fun σ H Q h => tLcL_of h
/-! ### list(x), x a shared list or a value -/
@[simp] def uFnOX (f : List D → Option (List D)) (u : UA) : UW := fun ρ ω => (u ρ ω).bind fun xs ρ ω => liftO (f (xs.map (see ω))) ρ ω
theorem pu_listX (hK : X.K = g.K) (hm : X.mg "list" = none) (ha : PA X [e] (tA g W us)) (hg : Gl X "list" := by rfl) (he : starEach [e] X.env = (false, eval e X.env) :: starEach [] X.env := by rfl) (hpl : (backTo pos (starEach [] X.env)).any (·.1) = false := by rfl) :
    PE X (.Call (.Name "list" p0) [e] [] pos) (tOw g W (uFnOX fList us)) :=
  peImp (pe_callTy call_list_of hg hm (by decide +kernel) ha (by decide) (by decide) he hpl) fun σ H Q ⟨R, ρ, om, al, S, P⟩ =>
    tR_bindO S P fun ds ρ1 om1 vs H1 al1 s1 S1 r1 P1 => by
      have r2 := see_reps S1 r1
      generalize ds.map (see om1) = ds' at P1 r2
      unfold fList at P1
      split at P1
      · obtain ⟨v, rfl, h⟩ := r2.one
        obtain ⟨a, vs, rfl, h1, h2⟩ := h.lst
        exact ⟨a, vs, rfl, .inl (SqL.of h1), fun l hl => okOwn S1 P1 hl h2⟩
      · obtain ⟨v, rfl, h⟩ := r2.one
        obtain ⟨a, vs, rfl, h1, h2⟩ := h.frz
        exact ⟨a, vs, rfl, .inl (by rw [hK]; exact h1.sq), fun l hl => okOwn S1 P1 hl h2⟩
      · obtain ⟨v, rfl, h⟩ := r2.one
        obtain ⟨a, vs, rfl, h1, h2⟩ := h.tup
        exact ⟨a, vs, rfl, .inr (by rw [hK]; exact h1), fun l hl => okOwn S1 P1 hl h2⟩
      · exact P1.elim
end
end Dv

/-! A lambda without parameters that is made in the law and handed to a def that calls it. -/
namespace Dv
open PySem PySem.Spec PyProof.Rows L2 LamX
section
variable {X : Cx} {pins : List (Addr × Obj)} {σ : St} {H : Hp} {s : Shared}
/-- the lambda is made: but for the table at P all stays -/
theorem lam_one {c P : Addr} {params : Arguments} {body : Expr} {scope : Scope} {pos : Pos} {E : Value → Shared → Prop} {Q : Value → Shared → Prop} (I : Inv X pins σ H s) (TB : TabB X.base X.mg c P) (hcode : X.env.code = .ref c)
    (hT : TabS H P (X.env.qual ++ "<lambda>")) (hdef : defaultsOf params X.env = ([], [])) (hfree : ∀ y ∈ scope.names, y.2 = .free → ∃ c, X.env.cells.lookup y.1 = some c)
    (h : ∀ (f c' : Addr) (pm ctv : Value) (H1 : Hp) (s' : Shared), Inv X pins σ H1 s' → (∀ b o, b ≠ P → H b = some o → H1 b = some o) → TabS H1 P (X.env.qual ++ "<lambda>") →
      s'.heap.get? f = some (PySem.W.kla_obj "<lambda>" (X.env.qual ++ "<lambda>") params body scope (cloFrom X.env.cells scope.names []) pm c' ctv) → H1 f = none → f ∉ frs X.stack → H1 c' = some (CodeO c' (X.env.qual ++ "<lambda>")) → Q (.ref f) s') :
    wpAny (model X.prog X.w) X.A (eval (.Lambda params body scope pos) X.env) Q E s := by
  obtain ⟨ps, hP, ht, ha⟩ := hT
  have hPH : s.heap.get? P = some { cls := .none, data := .fields ps } := I.hok P _ hP
  have bP : s.heap.BuiltinsAt X.mg P := TB.bm.keeps I.bk
  have out : ∀ f, s.heap.objs.size ≤ f → f ∉ frs X.stack := fun f hf z => by
    rcases List.mem_cons.mp (I.stkSub _ z) with e | e
    · have lt := I.lt
      rw [← e] at lt
      exact absurd lt (Nat.not_lt.mpr hf)
    · exact I.nofs hf e
  refine PySem.W.kla_eval hdef ?_
  cases hc : codeAmong pos ps.toList with
  | some cv =>
    obtain ⟨c', rfl, hco⟩ := ha pos cv hc
    refine PySem.W.kla_makeFunctionHit (mg := X.mg) (c := c) (P := P) (ps := ps) (closure_ok hfree) I.ok.glob (I.mod.glob.keeps I.bk) hcode (TB.code.keeps I.bk) hPH ht hc bP fun ctv h' tk hx hsz => ?_
    exact h _ c' _ ctv H _ (I.kept fun b o e => Heap.get?_push_of_some _ (hx b o e)) (fun b o _ e => e) ⟨ps, hP, ht, ha⟩ (Heap.get?_push_size _ rfl) (I.hok.fresh hsz) (out _ hsz) hco
  | none =>
    refine PySem.W.kla_makeFunction (mg := X.mg) (c := c) (P := P) (ps := ps) (closure_ok hfree) I.ok.glob (I.mod.glob.keeps I.bk) hcode (TB.code.keeps I.bk) hPH ht hc TB.gP bP fun c' ctv h' tk hx hge hlt hrec htb => ?_
    obtain ⟨c2, oc, vs, t, e2, hoc, hd, hv⟩ := hrec
    cases e2
    have sz : s.heap.objs.size ≤ h'.objs.size := Nat.le_trans hge (Nat.le_of_lt hlt)
    have nC : H c' = none := I.hok.fresh hge
    have nPc : P ≠ c' := ne_of_none hP nC
    have J := inv_table (t' := tk) (more := #[rawInt pos.line, rawInt pos.col, .ref c']) (h' := h'.push (PySem.W.kla_obj "<lambda>" (X.env.qual ++ "<lambda>") params body scope (cloFrom X.env.cells scope.names []) ((X.mg "__name__").getD .none) c' ctv)) I hP
      (fun b o hb e => Heap.get?_push_of_some _ (hx b o hb e)) (Heap.get?_push_of_some _ htb) hge ⟨oc, vs, t, Heap.get?_push_of_some _ hoc, hd, hv⟩
    have kp : ∀ b o, b ≠ P → H b = some o → upd (upd H P (.tbl (ps ++ #[rawInt pos.line, rawInt pos.col, .ref c']))) c' (CodeO c' (X.env.qual ++ "<lambda>")) b = some o := fun b o n e => by
      rw [upd_ne (ne_of_none e nC), upd_ne n]
      exact e
    have eL : (ps ++ #[rawInt pos.line, rawInt pos.col, .ref c']).toList = ps.toList ++ [rawInt pos.line, rawInt pos.col, .ref c'] := by simp
    refine h h'.objs.size c' ((X.mg "__name__").getD .none) ctv _ _ J kp ⟨_, by rw [upd_ne nPc, upd_same], by rw [eL]; exact PySem.TriplesOk_snoc _ _ _ _ ht, fun p' cv hcv => ?_⟩ (Heap.get?_push_size _ rfl) ?_ (out _ sz) upd_same
    · rw [eL] at hcv
      rcases among_app _ ht hcv with z | z
      · obtain ⟨c0, e1, e3⟩ := ha p' cv z
        refine ⟨c0, e1, kp _ _ (fun q => ?_) e3⟩
        rw [q, hP] at e3
        exact codeO_ne _ (Option.some.inj e3).symm
      · exact ⟨c', z, upd_same⟩
    · rw [upd_ne (Nat.ne_of_gt hlt), upd_ne (Nat.ne_of_gt (Nat.lt_of_lt_of_le (Heap.lt_size hPH) sz))]
      exact I.hok.fresh sz
end
section
variable {g : G} {R : Addr → Prop} {al : List Addr} {om : Om} {σ : St} {ρ : Rho} {H H1 : Hp} {P : Addr} {q : Str} {k : Nat}
/-- a table of ours has grown, other addresses are told besides -/
theorem Rst.tabStep (S : Rst g R al σ ρ om H) (hk : om[k]? = some (.tab q)) (ha : al[k]? = some P) (kp : ∀ b o, b ≠ P → H b = some o → H1 b = some o) (t : TabS H1 P q) : Rst g R al σ ρ om H1 ∧ Step al (Mt al om σ ρ) H al (Mt al om σ ρ) H1 := by
  obtain ⟨_, ps, hP, _⟩ := S.o.cel k _ P hk ha
  have lv : Lv al om P := ⟨k, _, ha, hk, fun z => nomatch z⟩
  have st : Step al (Mt al om σ ρ) H al (Mt al om σ ρ) H1 := .grow (fun b o e n => kp b o (fun z => n (by rw [z]; exact .inl lv)) e) fun _ m => .inl m
  have ne : ∀ {b : Addr} {o : HO}, H b = some o → (∀ ps, o ≠ .tbl ps) → b ≠ P := fun {b o} e n z => by
    rw [z, hP] at e
    exact n _ (Option.some.inj e).symm
  refine ⟨⟨⟨S.o.len, fun i c b h1 h2 => ?_, S.o.inj, fun b h => ⟨(S.o.rsv b h).1, ?_⟩⟩, S.sl, fun i d h => ?_, fun i ds h => ?_, S.odj, S.ocl⟩, st⟩
  · have h0 := S.o.cel i c b h1 h2
    by_cases z : c = .gone
    · subst z; trivial
    by_cases y : b = P
    · have e : i = k := S.o.inj i k b c _ h2 (by rw [y]; exact ha) h1 hk z (fun z => nomatch z)
      subst e
      rw [hk] at h1
      cases h1
      subst y
      exact ⟨h0.1, t⟩
    · refine h0.car (st.car (Mt.flat S) fun a h => (S.o.rsv a h).2) (fun xs e _ => kp _ _ y e) (fun C dx fs e _ => kp _ _ y e) fun q' t' _ => ?_
      obtain ⟨ps', t1, t2, t3⟩ := t'
      refine ⟨ps', kp _ _ y t1, t2, fun pos cv hc => ?_⟩
      obtain ⟨c2, e1, e2⟩ := t3 pos cv hc
      exact ⟨c2, e1, kp _ _ (ne e2 fun _ => codeO_ne _) e2⟩
  · by_cases y : b = P
    · subst y
      obtain ⟨ps', t1, _⟩ := t
      rw [t1]; simp
    · cases e : H b with
      | none => exact absurd e (S.o.rsv b h).2
      | some o => rw [kp b o y e]; simp
  · obtain ⟨v, e, r⟩ := S.val i d h
    exact ⟨v, e, st.rep S r⟩
  · obtain ⟨b, vs, e, e2, r⟩ := S.own i ds h
    exact ⟨b, vs, e, kp _ _ (ne e2 fun _ z => nomatch z) e2, st.reps S r⟩
end
/-! ### the call -/
section
variable {X : Cx}
/-- x(lambda: body), the table told of the very state -/
theorem pe_lam1 {TT : (XK → Hp → VK → Prop) → Hp → VK → Prop} {x a : Str} {g c P : Addr} {k : Nat} {pg : Arguments} {bg : List Stmt} {sg : Scope} {dV kV doc pm cdv ct oc : Value} {an od : Option Addr} {osl : Array (Option Value)} {Ng : List Str}
    {params : Arguments} {body : Expr} {scope : Scope} {t : XK → TE} {p lpos pos : Pos} (hg : Gl X x) (hm : X.mg x = some (.ref g)) (hk : PySem.W.keepIn X.K (.ref g) = true)
    (lk : X.K.lookup g = some ⟨oc, od, .func (PySem.W.fnOf x x pg bg sg dV kV doc pm an cdv ct), osl⟩) (hcg : PySem.W.codeIn X.K cdv x = true) (hb : L2.Binds X.K (PySem.W.fnOf x x pg bg sg dV kV doc pm an cdv ct) [a] []) (Sg : FnScope Ng [a] sg) (hNg : Ng[0]? = some a) (hva : Vis sg a)
    (hG : GivesTo X Ng x sg g cdv bg a (X.env.qual ++ "<lambda>") TT)
    (TB : TabB X.base X.mg c P) (hcode : X.env.code = .ref c) (hr : Room (k + 2) X.A) (L : LamS X.env.scope scope) (hdef : defaultsOf params X.env = ([], []))
    (hbind : ∀ (q : Str) (cl : List (Str × Addr)) (pm cv ctv : Value), bindArgs (PySem.W.kla_fn "<lambda>" q params body scope cl pm cv ctv) ⟨[], []⟩ = pure [])
    (hbody : ∀ (A : Around) (outer : List Env) (s : Shared) (H : Hp) (E : XK) (f c' : Addr), Room k (A.deeper (lamEnv X scope s.heap.objs.size f c')) → PE (lamCx X A outer s H E scope f c') body (t E))
    (hdb : (x == ("__debug__" : Str)) = false := by decide) (hd : (a == ("__debug__" : Str)) = false := by decide) (hcd : (a == ("__classdict__" : Str)) = false := by decide) :
    PE X (.Call (.Name x p) [.Lambda params body scope lpos] [] pos) (fun σ H Q => TabS H P (X.env.qual ++ "<lambda>") ∧ ∀ H1, (∀ b o, b ≠ P → H b = some o → H1 b = some o) → TabS H1 P (X.env.qual ++ "<lambda>") → TT (fun E H' Q' => t E σ H' Q') H1 Q) := by
  refine ⟨fun pins s σ H Q I h => ?_⟩
  obtain ⟨hT, h⟩ := h
  refine wpAny_Call_Name_kw (ld_glob I hg hm ?_ hdb)
  refine PySem.W.callWith_K (h₀ := X.base) I.ok.mod.kin hk ?_ (by rfl) (by rfl)
  show wpAny _ _ (spliced ((false, eval (.Lambda params body scope lpos) X.env) :: backTo pos (starEach [] X.env))) _ _ s
  refine Calls.spliced_cons (lam_one I TB hcode hT hdef (L.has I.ok) fun f c' pm' ctv H1 s' I1 eN T1 hf hfn hfr hco => ?_)
  refine Calls.spliced_nil ⟨I1.kIn, ?_⟩
  have rc : codeAny (model X.prog X.w) X.A (.call (.ref g) ⟨[.ref f], []⟩) (CR C8.CX0 X.stack X.prog X.w H1 s' Q C8.E0) s' := by
    refine run_ofS (N := Ng) (ps := [a]) (us := [.ref f]) (vs := [.ref f]) lk hcg Sg hr I1.env0 (hb s' [.ref f] I1.kIn rfl) (.cons rfl .nil) rfl fun hr' => ?_
    obtain ⟨t', ht', hq'⟩ := hG f c' s' H1 Q (fun E H' Q' => t E σ H' Q') (fun W pn xe E p1 p2 tk hW => pe_act (i := 0) I1 L hf hfn hfr (hbind _ _ _ _ _) tk hW hr' (fun A outer s H hr2 => hbody A outer s H E f c' hr2) hNg hva hd hcd) hco (h H1 eN T1)
    exact ⟨t', ht'.nox, hq'⟩
  refine wpAny_call (codeAny_mono rc fun r s2 hq => ?_)
  cases r with
  | error e => exact False.elim hq
  | ok fl =>
    cases fl with
    | ret u => exact I1.after hq
    | _ => exact False.elim hq
end
/-! ### the def that is handed the lambda: try: return a() / except C as n: return ('no', isinstance(n, C1) and isinstance(n, ValueError) and not isinstance(n, C2)) -/
section
variable {X : Cx} {a y : Addr} {oe : Obj} {pn : List (Addr × Obj)} {i : Nat} {m C1 C2 : Str} {A1 A2 : Addr}
theorem suite_no (hz : Zc (.ref y) none oe) (hf : ∃ vs, oe.data = .fields vs) (EC : ExcC X.K y)
    (m1 : X.mg "isinstance" = none) (mV : X.mg "ValueError" = none) (g1 : Gl X "isinstance") (gV : Gl X "ValueError") (gC1 : Gl X C1) (gC2 : Gl X C2) (mC1 : X.mg C1 = some (.ref A1)) (mC2 : X.mg C2 = some (.ref A2))
    (k1 : PySem.W.kitOne X.K (.ref y) (.ref A1) = some true) (k2 : PySem.W.kitOne X.K (.ref y) (.ref A2) = some false) (k3 : PySem.W.kitOne X.K (.ref y) (.type "ValueError") = some true)
    (hi : X.N[i]? = some m) (hvi : Vis X.env.scope m) (d1 : (m == ("__debug__" : Str)) = false) (d2 : (m == ("__classdict__" : Str)) = false) (d9 : (C1 == ("__debug__" : Str)) = false) (d10 : (C2 == ("__debug__" : Str)) = false)
    {p1 p2 p3 p4 p5 p6 p7 p8 p9 p10 p11 p12 p13 p14 p15 p16 p17 : Pos} {j kx : Nat} :
    ∃ t, PSs (X.suite a ((a, oe) :: pn)) [.Return (some (.Tuple [.Constant (.str "no") j p1, .BoolOp .And [.Call (.Name "isinstance" p2) [.Name m p3, .Name C1 p4] [] p5, .Call (.Name "isinstance" p6) [.Name m p7, .Name "ValueError" p8] [] p9,
      .UnaryOp .Not (.Call (.Name "isinstance" p10) [.Name m p11, .Name C2 p12] [] p13) p14] p15] kx p16)) p17] t ∧
      ∀ (D : Ends) (σ : St) (H : Hp), σ[i]? = some (some (.ref a)) → (∀ p, H p = none → D.rt (.ref p) (upd H p (.tup [.str "no", .bl true]))) → t D σ H := by
  have ve : ∀ q, PE (X.suite a ((a, oe) :: pn)) (.Name m q) (tVar i) := fun q => pe_var (X := X.suite a ((a, oe) :: pn)) hi hvi d1 d2
  have isC : ∀ (n : Str) (A : Addr) (hm : X.mg n = some (.ref A)) (hg : Gl X n) (hd : (n == ("__debug__" : Str)) = false) (q0 q1 q3 q4 : Pos),
      PE (X.suite a ((a, oe) :: pn)) (.Call (.Name "isinstance" q0) [.Name m q1, .Name n q3] [] q4) (tCB (rIsE X.K y a) (tCons (tVar i) (tCons (tC (.ref A)) tNil))) := fun n A hm hg hd q0 q1 q3 q4 =>
    pe_callB (X := X.suite a ((a, oe) :: pn)) (call_isE EC hz hf) g1 m1 (by decide +kernel) (pa_cons (ve q1) (pa_cons (pe_glob (X := X.suite a ((a, oe) :: pn)) hg hm rfl hd) pa_nil)) (by decide) (by decide) rfl rfl
  have isV : ∀ (q0 q1 q3 q4 : Pos),
      PE (X.suite a ((a, oe) :: pn)) (.Call (.Name "isinstance" q0) [.Name m q1, .Name "ValueError" q3] [] q4) (tCB (rIsE X.K y a) (tCons (tVar i) (tCons (tC (.ty "ValueError")) tNil))) := fun q0 q1 q3 q4 =>
    pe_callB (X := X.suite a ((a, oe) :: pn)) (call_isE EC hz hf) g1 m1 (by decide +kernel) (pa_cons (ve q1) (pa_cons (pe_bltn (X := X.suite a ((a, oe) :: pn)) gV mV (by decide +kernel) rfl) pa_nil)) (by decide) (by decide) rfl rfl
  refine ⟨_, pss_one (ps_ret (pe_tup (pa_cons (X := X.suite a ((a, oe) :: pn)) pe_str (pa_cons (pe_and (isC C1 A1 mC1 gC1 d9 _ _ _ _) (pe_and (isV _ _ _ _) (pe_one (pe_not (isC C2 A2 mC2 gC2 d10 _ _ _ _))))) pa_nil)))), ?_⟩
  intro D σ H s1 fin
  have q1 : ∀ (A : Addr) (b : Bool), PySem.W.kitOne X.K (.ref y) (.ref A) = some b → ∀ Q : VK, Q (.bl b) H → tCB (rIsE X.K y a) (tCons (tVar i) (tCons (tC (.ref A)) tNil)) σ H Q := fun A b kb Q q => ⟨_, s1, .ref A, .ref A, b, rfl, fun u e => e, kb, q⟩
  have q2 : ∀ Q : VK, Q (.bl true) H → tCB (rIsE X.K y a) (tCons (tVar i) (tCons (tC (.ty "ValueError")) tNil)) σ H Q := fun Q q => ⟨_, s1, .ty "ValueError", .type "ValueError", true, rfl, fun u e => e, k3, q⟩
  show tTup (tCons (tC (.str "no")) (tCons (tAndV _ (tAndV _ _)) tNil)) σ H D.rt
  refine q1 A1 true k1 _ ⟨true, rfl, ?_⟩
  rw [if_pos rfl]
  refine q2 _ ⟨true, rfl, ?_⟩
  rw [if_pos rfl]
  refine q1 A2 false k2 _ ⟨false, rfl, ?_⟩
  exact ⟨by decide, fin⟩
/-- what the caller gets -/
def TTs (CS : Addr) : (XK → Hp → VK → Prop) → Hp → VK → Prop := fun tl H Q =>
  tl (fun cls d H' => cls = .ref CS ∧ d = none ∧ ∀ p, H' p = none → Q (.ref p) (upd H' p (.tup [.str "no", .bl true]))) H Q
theorem step_gives {Ng : List Str} {x a n e q C1 C2 : Str} {sg : Scope} {g CS A1 A2 : Addr} {cdg : Value} {j kx : Nat} {p1 p2 p3 p4 p5 p6 p7 p8 p9 p10 p11 p12 p13 p14 p15 p16 p17 p18 p19 p20 p21 p22 p23 : Pos}
    (hge : sg.names.lookup e = some .globalImplicit) (hme : X.mg e = some (.ref CS)) (hde : (e == ("__debug__" : Str)) = false) (hNg : Ng = [a, n]) (hnd : Ng.Nodup) (hln : sg.names.lookup n = some .local) (kb : PySem.W.exmOne X.K (.ref CS) (.ref CS) = some true)
    (EC : ExcC X.K CS) (m1 : X.mg "isinstance" = none) (mV : X.mg "ValueError" = none) (g1 : sg.names.lookup ("isinstance" : Str) = some .globalImplicit) (gV : sg.names.lookup ("ValueError" : Str) = some .globalImplicit) (gC1 : sg.names.lookup C1 = some .globalImplicit) (gC2 : sg.names.lookup C2 = some .globalImplicit)
    (mC1 : X.mg C1 = some (.ref A1)) (mC2 : X.mg C2 = some (.ref A2)) (k1 : PySem.W.kitOne X.K (.ref CS) (.ref A1) = some true) (k2 : PySem.W.kitOne X.K (.ref CS) (.ref A2) = some false) (k3 : PySem.W.kitOne X.K (.ref CS) (.type "ValueError") = some true)
    (d1 : (n == ("__debug__" : Str)) = false) (d2 : (n == ("__classdict__" : Str)) = false) (d9 : (C1 == ("__debug__" : Str)) = false) (d10 : (C2 == ("__debug__" : Str)) = false) :
    GivesTo X Ng x sg g cdg [.Try [.Return (some (.Call (.Name a p1) [] [] p2)) p3] [.ExceptHandler (some (.Name e p4)) (some n) [.Return (some (.Tuple [.Constant (.str "no") j p5, .BoolOp .And [.Call (.Name "isinstance" p6) [.Name n p7, .Name C1 p8] [] p9, .Call (.Name "isinstance" p10) [.Name n p11, .Name "ValueError" p12] [] p13,
      .UnaryOp .Not (.Call (.Name "isinstance" p14) [.Name n p15, .Name C2 p16] [] p17) p18] p19] kx p20)) p21] p22] [] [] p23] a q (TTs CS) := by
  intro f c' s H Q tl act hc h
  have hgl : ∀ {z : Str}, sg.names.lookup z = some .globalImplicit → Gl (cxOf C8.CX0 X.prog X.w X.K X.mg X.base Ng x sg g cdg X.A X.stack s H C8.E0).nox z := fun h => h
  refine ⟨_, pss_one (ps_try_as (i := 1) (X := (cxOf C8.CX0 X.prog X.w X.K X.mg X.base Ng x sg g cdg X.A X.stack s H C8.E0).nox) (c := .ref CS) (Wout := fun _ _ _ _ => False)
      (tb := fun W D σ H => ∃ Ech : XK, (∀ cls d σ' H', Ech cls d H' → W cls d σ' H') ∧ σ[0]? = some (some (.ref f)) ∧ H c' = some (CodeO c' q) ∧ tl Ech H D.rt)
      (ts := fun a cv d D σ H => cv = .ref CS ∧ d = none ∧ (1 < σ.length → σ[1]? = some (some (.ref a))) ∧ ∀ p, H p = none → D.rt (.ref p) (upd H p (.tup [.str "no", .bl true])))
      rfl rfl hnd (by show Ng[1]? = some n; rw [hNg]; rfl) hln ⟨hgl hge, hde, .inl hme⟩ LamX.takes0 (fun W pn xe tk _ => ?_) (fun a oe cls d pn hz hd => ⟨fun pins s5 σ H5 D I h => ?_⟩)), ?_⟩
  · refine ⟨fun pins s' σ H' D I h' => ?_⟩
    obtain ⟨Ech, hW, h1, h2, h3⟩ := h'
    have hp := act W pn xe Ech p1 p2 tk hW
    have hq := pss_one (ps_ret (pos := p3) hp)
    exact hq.run pins s' σ H' D I ⟨h1, h2, h3⟩
  · obtain ⟨rfl, rfl, h1, h2⟩ := h
    obtain ⟨t, ht, hq⟩ := suite_no (a := a) (oe := oe) (X := (cxOf C8.CX0 X.prog X.w X.K X.mg X.base Ng x sg g cdg X.A X.stack s H C8.E0).nox) (i := 1) (m := n) (C1 := C1) (C2 := C2) (j := j) (kx := kx) (p1 := p5) (p2 := p6) (p3 := p7) (p4 := p8) (p5 := p9) (p6 := p10) (p7 := p11) (p8 := p12) (p9 := p13) (p10 := p14) (p11 := p15) (p12 := p16) (p13 := p17) (p14 := p18) (p15 := p19) (p16 := p20) (p17 := p21) (pn := pn) hz hd EC m1 mV (hgl g1) (hgl gV) (hgl gC1) (hgl gC2) mC1 mC2 k1 k2 k3 (by show Ng[1]? = some n; rw [hNg]; rfl) (.inl hln) d1 d2 d9 d10
    refine ht.run pins _ σ H5 D I (hq D σ H5 (h1 ?_) h2)
    have := I.len
    rw [this]
    show 1 < Ng.length
    rw [hNg]
    exact Nat.lt_succ_self 1
  · refine ⟨fun cls d H' => cls = .ref CS ∧ d = none ∧ ∀ p, H' p = none → Q (.ref p) (upd H' p (.tup [.str "no", .bl true])), fun cls d σ' H' ⟨e1, e2, e3⟩ => ⟨true, by rw [e1]; exact kb, fun _ b _ => ⟨e1, e2, fun hl => ?_, e3⟩, fun z => by cases z⟩, ?_, hc, h⟩
    · rw [List.length_set] at hl
      exact List.getElem?_set_self hl
    · subst hNg; rfl
end
/-! ### the evaluator -/
def uStep (k : Nat) (q C : Str) (ub : UE) : UE := fun (ρ : Rho) (ω : Om) => match (ω[k]? : Option Cell) with
  | some (Cell.tab q') => if q' = q then (match ub ρ ω with
    | .ok d ρ' ω' => .ok d ρ' ω'
    | .xc x ρ' ω' => if x.c = C ∧ x.fs.isEmpty = true then .ok (.tup [.str "no", .bl true]) ρ' ω' else .no
    | .no => .no) else .no
  | _ => .no
theorem uStep_ok {k : Nat} {q C : Str} {ub : UE} {ρ ρ' : Rho} {ω ω' : Om} {d : D} (h0 : ω[k]? = some (.tab q)) (h : ub ρ ω = .ok d ρ' ω') : uStep k q C ub ρ ω = .ok d ρ' ω' := by
  unfold uStep
  rw [h0]
  dsimp only
  rw [if_pos rfl, h]
theorem uStep_xc {k : Nat} {q C : Str} {ub : UE} {ρ ρ' : Rho} {ω ω' : Om} (h0 : ω[k]? = some (.tab q)) (h : ub ρ ω = .xc ⟨C, []⟩ ρ' ω') : uStep k q C ub ρ ω = .ok (.tup [.str "no", .bl true]) ρ' ω' := by
  unfold uStep
  rw [h0]
  dsimp only
  rw [if_pos rfl, h]
  exact if_pos ⟨rfl, rfl⟩
section
variable {X : Cx} {g : G} {W : WX}
theorem pu_lam {x a q C : Str} {f c P : Addr} {k ix : Nat} {pg : Arguments} {bg : List Stmt} {sg : Scope} {dV kV doc pm cdv ct oc : Value} {an od : Option Addr} {osl : Array (Option Value)} {Ng : List Str}
    {params : Arguments} {body : Expr} {scope : Scope} {ub : UE} {p lpos pos : Pos} (hm : X.mg x = some (.ref f)) (hk : PySem.W.keepIn X.K (.ref f) = true)
    (lk : X.K.lookup f = some ⟨oc, od, .func (PySem.W.fnOf x x pg bg sg dV kV doc pm an cdv ct), osl⟩) (hcg : PySem.W.codeIn X.K cdv x = true) (hb : L2.Binds X.K (PySem.W.fnOf x x pg bg sg dV kV doc pm an cdv ct) [a] []) (Sg : FnScope Ng [a] sg) (hNg : Ng[0]? = some a) (hva : Vis sg a)
    (hG : GivesTo X Ng x sg f cdv bg a (X.env.qual ++ "<lambda>") (TTs (g.cls C))) (TB : TabB X.base X.mg c P) (TO : TabOf g.K (g.cls "law") P) (hcode : X.env.code = .ref c) (hq : X.env.qual ++ "<lambda>" = q) (hr : Room (k + 2) X.A)
    (hbody : ∀ (A : Around) (outer : List Env) (s : Shared) (H : Hp) (E : XK) (f c' : Addr), Room k (A.deeper (lamEnv X scope s.heap.objs.size f c')) → Takes (lamCx X A outer s H E scope f c') (fun cls d _ H => E cls d H) → PE (lamCx X A outer s H E scope f c') body (tE g (fun cls d _ H => E cls d H) ub))
    (L : LamS X.env.scope scope) (hdef : defaultsOf params X.env = ([], [])) (hbind : ∀ (q : Str) (cl : List (Str × Addr)) (pm cv ctv : Value), bindArgs (PySem.W.kla_fn "<lambda>" q params body scope cl pm cv ctv) ⟨[], []⟩ = pure [])
    (hg : Gl X x := by rfl) (hdb : (x == ("__debug__" : Str)) = false := by decide) (hd : (a == ("__debug__" : Str)) = false := by decide) (hcd : (a == ("__classdict__" : Str)) = false := by decide) :
    PE X (.Call (.Name x p) [.Lambda params body scope lpos] [] pos) (tE g W (uStep ix q C ub)) := by
  refine peImp (pe_lam1 (t := fun E => tE g (fun cls d _ H => E cls d H) ub) hg hm hk lk hcg hb Sg hNg hva hG TB hcode hr L hdef hbind (fun A outer s H E f c' hr2 => hbody A outer s H E f c' hr2 (takes_of rfl rfl rfl rfl)) hdb hd hcd) fun σ H Q ⟨R, ρ, om, al, S, Po⟩ => ?_
  unfold uStep at Po
  split at Po
  case h_2 => exact Po.elim
  rename_i q' h0
  split at Po
  case isFalse => exact Po.elim
  rename_i hqq
  subst hqq
  have hal : ∃ b, al[ix]? = some b := ⟨_, List.getElem?_eq_getElem (by rw [S.o.len]; exact (List.getElem?_eq_some_iff.mp h0).1)⟩
  obtain ⟨b, hb0⟩ := hal
  obtain ⟨t1, t2⟩ := S.o.cel ix _ b h0 hb0
  have e := t1.one TO
  subst e
  refine ⟨by rw [hq]; exact t2, fun H1 kp t3 => ?_⟩
  rw [hq] at t3
  obtain ⟨S1, s1⟩ := S.tabStep h0 hb0 kp t3
  have P1 := PostR.step s1 Po
  refine ⟨R, ρ, om, al, S1, ?_⟩
  cases eu : ub ρ om with
  | no => rw [eu] at P1; exact P1.elim
  | ok d ρ' om' =>
    rw [eu] at P1
    exact P1
  | xc y ρ' om' =>
    rw [eu] at P1
    dsimp only at P1
    split at P1
    · rename_i hy
      intro cv dd H2 al2 s2 S2 r2
      obtain ⟨rc, rd⟩ := r2
      refine ⟨by rw [rc, hy.1], ?_, fun p hp => okNewT S2 (PostR.step s2 P1) hp (.cons .str (.cons .bl .nil))⟩
      rcases rd with ⟨_, z⟩ | ⟨_, _, _, z, _⟩
      · exact z
      · exact absurd (List.isEmpty_iff.mp hy.2) z
    · exact P1.elim
end
section
variable {X : Cx} {W : WX} {K : PySem.W.Frag} {cls : Str → Addr}
theorem pu_lamS (k ix : Nat) {x a n e C1 C2 q : Str} {c P : Addr} {st : Stmt} {params : Arguments} {body : Expr} {scope : Scope} {ub : UE} {p lpos pos : Pos} {kn1 kn2 knV : List (Str × Bool)} {j kx : Nat}
    {p1 p2 p3 p4 p5 p6 p7 p8 p9 p10 p11 p12 p13 p14 p15 p16 p17 p18 p19 p20 p21 p22 p23 : Pos} (hK : X.K = K) (A : At K X.mg x x st)
    (bi : ∀ (kV doc pm : Value) (an : Option Addr) (cdv ct : Value) (us : List Value), us.length = ([a] : List Str).length → bindArgs (PySem.W.fnOf x x (defArgs st) (defBody st) (defScope st) .none kV doc pm an cdv ct) ⟨us, []⟩ = pure (([a] : List Str).zip us))
    (Sg : FnScope [a, n] [a] (defScope st))
    (hst : defBody st = [.Try [.Return (some (.Call (.Name a p1) [] [] p2)) p3] [.ExceptHandler (some (.Name e p4)) (some n) [.Return (some (.Tuple [.Constant (.str "no") j p5, .BoolOp .And [.Call (.Name "isinstance" p6) [.Name n p7, .Name C1 p8] [] p9, .Call (.Name "isinstance" p10) [.Name n p11, .Name "ValueError" p12] [] p13,
      .UnaryOp .Not (.Call (.Name "isinstance" p14) [.Name n p15, .Name C2 p16] [] p17) p18] p19] kx p20)) p21] p22] [] [] p23])
    (F : ExF K X.mg cls e) (F1 : ExF K X.mg cls C1) (F2 : ExF K X.mg cls C2) (EC : ExcC K (cls e) ∧ PySem.W.subIn K (.ref (cls e)) (.ref (cls e)) = some true)
    (n1 : KnOk K cls (.ref (cls C1)) kn1) (l1 : kn1.lookup e = some true) (n2 : KnOk K cls (.ref (cls C2)) kn2) (l2 : kn2.lookup e = some false) (nV : KnOk K cls (.type "ValueError") knV) (lV : knV.lookup e = some true)
    (m1 : X.mg "isinstance" = none) (mV : X.mg "ValueError" = none) (TB : TabB X.base X.mg c P) (TO : TabOf K (cls "law") P) (hr : Room (k + 2) X.A)
    (hbody : ∀ (A : Around) (outer : List Env) (s : Shared) (H : Hp) (E : XK) (f c' : Addr), Room k (A.deeper (lamEnv X scope s.heap.objs.size f c')) → Takes (lamCx X A outer s H E scope f c') (fun cls d _ H => E cls d H) → PE (lamCx X A outer s H E scope f c') body (tE (gK K cls) (fun cls d _ H => E cls d H) ub))
    (L : LamS X.env.scope scope) (hva : Vis (defScope st) a) (hln : (defScope st).names.lookup n = some .local)
    (ge : (defScope st).names.lookup e = some .globalImplicit) (gi : (defScope st).names.lookup ("isinstance" : Str) = some .globalImplicit) (gV : (defScope st).names.lookup ("ValueError" : Str) = some .globalImplicit) (g1 : (defScope st).names.lookup C1 = some .globalImplicit) (g2 : (defScope st).names.lookup C2 = some .globalImplicit)
    (hcode : X.env.code = .ref c) (hq : X.env.qual ++ "<lambda>" = q) (hdef : defaultsOf params X.env = ([], [])) (hbind : ∀ (q : Str) (cl : List (Str × Addr)) (pm cv ctv : Value), bindArgs (PySem.W.kla_fn "<lambda>" q params body scope cl pm cv ctv) ⟨[], []⟩ = pure [])
    (hg : Gl X x) (hdb : (x == ("__debug__" : Str)) = false) (hd : (a == ("__debug__" : Str)) = false) (hcd : (a == ("__classdict__" : Str)) = false) (de : (e == ("__debug__" : Str)) = false)
    (d1 : (n == ("__debug__" : Str)) = false) (d2 : (n == ("__classdict__" : Str)) = false) (d9 : (C1 == ("__debug__" : Str)) = false) (d10 : (C2 == ("__debug__" : Str)) = false) :
    PE X (.Call (.Name x p) [.Lambda params body scope lpos] [] pos) (tE (gK K cls) W (uStep ix q e ub)) := by
  subst hK
  obtain ⟨f, fd, hm, F0⟩ := A
  have hb := F0.binds bi
  obtain ⟨oc, od, kV, doc, pm, an, cdv, ct, osl, rfl, lk, hcg⟩ := F0.ex
  refine pu_lam (X := X) (g := gK X.K cls) (k := k) hm F0.kp lk hcg hb Sg rfl hva ?_ TB TO hcode hq hr hbody L hdef hbind hg hdb hd hcd
  rw [hst]
  exact step_gives ge F.g de rfl (by
    have := Sg.nd
    exact this) hln (F.exm EC.2) EC.1 m1 mV gi gV g1 g2 F1.g F2.g (kit_of (n1.get l1) (kitCls_ref F1.i F1.t _) EC.2) (kit_of (n2.get l2) (kitCls_ref F2.i F2.t _) EC.2) (kit_of (nV.get lV) (kitCls_type (by decide +kernel) _) EC.2) d1 d2 d9 d10
end
end Dv

/-! The law that makes lambdas: its table of code objects becomes a cell behind its first statement. -/
namespace Dv
open PySem PySem.Spec PyProof.Rows L2 LamX
section
variable {g : G} {R : Addr → Prop} {al : List Addr} {om : Om} {σ : St} {ρ : Rho} {H : Hp} {P : Addr} {q : Str}
theorem Rst.adopt (S : Rst g R al σ ρ om H) (hP : H P = some (.tbl #[])) (np : ¬ LL R al om σ ρ P) (TO : TabOf g.K (g.cls "law") P) : Rst g R (al ++ [P]) σ ρ (om ++ [.tab q]) H := by
  have cr : Car g al (LL R al om σ ρ) H al (LL (Rp R P) al om σ ρ) H := by
    have no : ∀ {a : Addr} {o : HO}, H a = some o → (∀ ps, o ≠ .tbl ps) → ¬ LL R al om σ ρ a → ¬ LL (Rp R P) al om σ ρ a := fun {a o} e n m z => by
      rcases z with z | z | z
      · exact m (.inl z)
      · exact m (.inr z)
      · rw [z, hP] at e
        exact n _ (Option.some.inj e).symm
    exact ⟨fun _ _ h => h, fun a vs e n => ⟨e, no e (fun _ z => nomatch z) n⟩, fun _ _ h => h, fun a C dx fs e n => ⟨e, no e (fun _ z => nomatch z) n⟩, fun _ _ h => h⟩
  have S' : Rst g (Rp R P) al σ ρ om H := by
    refine ⟨⟨S.o.len, fun i c a h1 h2 => (S.o.cel i c a h1 h2).car cr (fun _ e _ => e) (fun _ _ _ e _ => e) (fun _ e _ => e), S.o.inj, fun a h => ?_⟩, S.sl, fun i d h => ?_, fun i ds h => ?_, S.odj, fun a h => ⟨(S.ocl a h).1, fun z => ?_⟩⟩
    · rcases h with h | h
      · exact S.o.rsv a h
      · rw [h]
        exact ⟨fun z => np (.inl (.inl z)), by rw [hP]; simp⟩
    · obtain ⟨v, e, r⟩ := S.val i d h
      exact ⟨v, e, r.car cr⟩
    · obtain ⟨a, vs, e, e2, r⟩ := S.own i ds h
      exact ⟨a, vs, e, e2, r.car cr⟩
    · rcases z with z | z
      · exact (S.ocl a h).2 z
      · rw [z] at h
        exact np (.inl (.inr h))
  exact (S'.newCell (c := .tab q) (fun z => np (.inr z)) (by rw [hP]; simp) ⟨TO, TabS.nil hP⟩).1
end
/-- the promise of such a law: u1 its first statement, u2 the rest -/
def spT (g : G) (Pt : Addr) (n : Nat) (q : Str) (u1 u2 : US) : Sp := fun vs H Q _ => vs.length = 1 ∧ H Pt = some (.tbl #[]) ∧
  ∃ d, RepVs g [] (fun _ => False) H vs [d] ∧ (∃ ρ1 om1 om2, u1 (ent n [d]) [] = .nx ρ1 om1 ∧ u2 ρ1 (om1 ++ [.tab q]) = .rt (.bl true) om2) ∧ ∀ H', Q (.bl true) H'
section
variable {P : Program} {w : World} {K : PySem.W.Frag} {mg : Str → Option Value} {base : Heap} {cls : Str → Addr} {x qual y q : Str} {st b1 : Stmt} {bs : List Stmt} {f c Pt : Addr} {fd : FuncData} {N : List Str} {k : Nat} {u1 u2 : US}
theorem fnUt (F : Fun K x qual st f fd) (hcd : fd.code = .ref c) (Sc : FnScope N [y] (defScope st)) (hN : 1 ≤ N.length) (TO : TabOf K (cls "law") Pt) (hst : defBody st = b1 :: bs)
    (h1 : ∀ (A : Around) (outer : List Env) (s : Shared) (H : Hp) (E : XK), Room k (A.deeper (envOfC qual (defScope st) s.heap.objs.size f (.ref c))) →
      Takes (cxOf (L2.CX P w) P w K mg base N qual (defScope st) f (.ref c) A outer s H E) (fun cls d _ H => E cls d H) → PS (cxOf (L2.CX P w) P w K mg base N qual (defScope st) f (.ref c) A outer s H E) b1 (tS (gK K cls) (fun cls d _ H => E cls d H) u1))
    (h2 : ∀ (A : Around) (outer : List Env) (s : Shared) (H : Hp) (E : XK), Room k (A.deeper (envOfC qual (defScope st) s.heap.objs.size f (.ref c))) →
      Takes (cxOf (L2.CX P w) P w K mg base N qual (defScope st) f (.ref c) A outer s H E) (fun cls d _ H => E cls d H) → PSs (cxOf (L2.CX P w) P w K mg base N qual (defScope st) f (.ref c) A outer s H E) bs (tS (gK K cls) (fun cls d _ H => E cls d H) u2)) :
    FnOk P w K mg base (L2.CX P w) (k + 1) f fd [y] (spT (gK K cls) Pt N.length q u1 u2) := by
  obtain ⟨oc, od, kV, doc, pm, an, cdv, ct, osl, rfl, lk, hcg⟩ := F.ex
  cases (show cdv = .ref c from hcd)
  refine fn_of lk hcg Sc (fun vs H Q E h => h.1) fun A outer s H vs Q E hr h => ?_
  have tk : Takes (cxOf (L2.CX P w) P w K mg base N qual (defScope st) f (.ref c) A outer s H E) (fun cls d _ H => E cls d H) := takes_of rfl rfl rfl rfl
  obtain ⟨hl, hP, d, r, ⟨ρ1, om1, om2, e1, e2⟩, hQ⟩ := h
  have lf : ∀ a, LF (fun _ => False) [] [] a → False := fun a z => by
    rcases z with ⟨i, c, z, _⟩ | z
    · simp at z
    · exact z
  have o : RO (gK K cls) (fun _ => False) [] [] H (LF (fun _ => False) [] []) := ⟨rfl, fun i c a h1 => by simp at h1, fun i j a ci cj h1 => by simp at h1, fun a h => h.elim⟩
  obtain ⟨S, m0⟩ := Rst.entry (N := N) o (r.car (carL lf)) (by omega)
  refine ⟨_, by rw [hst]; exact pss_cons (h1 A outer s H E hr tk) (h2 A outer s H E hr tk), ?_⟩
  refine ⟨fun _ => False, ent N.length [d], [], [], S, ?_⟩
  rw [e1]
  intro σ1 H1 al1 s1 S1
  have nM : ¬ Mt [] [] (start N vs) (ent N.length [d]) Pt := fun m => by
    obtain ⟨i, c, z, _⟩ := m0 _ m
    simp at z
  have hP1 := s1.keep _ _ hP nM
  have np : ¬ LL (fun _ => False) al1 om1 σ1 ρ1 Pt := fun m => by
    rcases m with m | m
    · rcases s1.fresh _ m with z | z
      · exact nM z
      · rw [hP] at z; cases z
    · exact m
  refine ⟨fun _ => False, ρ1, _, _, S1.adopt (q := q) hP1 np TO, ?_⟩
  rw [e2]
  intro v σ' ρ' H' al' _ _ rv
  cases rv
  exact hQ H'
/-- what is known of the law's own code object -/
def HeadT (K : PySem.W.Frag) (mg : Str → Option Value) (x : Str) : Prop := ∀ f, mg x = some (.ref f) → ∃ c P, TabOf K f P ∧ K.lookup P = none ∧ (∀ fd oc od sl, K.lookup f = some ⟨oc, od, .func fd, sl⟩ → fd.code = .ref c) ∧
  (∀ h : Heap, K.In h → PySem.W.CodeHd h c P) ∧ ∀ h : Heap, OwnTab K f h → h.get? P = some { cls := .none, data := .fields #[] }
theorem headT_mk {h : Heap} {st : Stmt} {od an dd : Option Addr} {sl sl2 : Array (Option Value)} {oc kV dc pm ct : Value} {vs : Array Value} {file : Str} {tf tg tt : Tok} {flags text : Int} {inF : Bool} (X : K.In h) (G : h.Ns mainGlobals mg)
    (a : PySem.W.nsIn K mainGlobals x = some (some (.ref f))) (l : K.lookup f = some ⟨oc, od, .func (PySem.W.fnOf x x (defArgs st) (defBody st) (defScope st) .none kV dc pm an (.ref c) ct), sl⟩)
    (lc : K.lookup c = some ⟨.type "code", dd, .fields vs, sl2⟩) (v11 : vs[11]? = some (.ref Pt)) (g11 : vs.getD 11 .none = .ref Pt) (g18 : vs.getD 18 .none = .str file tf) (g7 : vs.getD 7 .none = .int flags tg) (g9 : vs.getD 9 .none = .bool inF) (g10 : vs.getD 10 .none = .int text tt)
    (ne : c ≠ Pt) (nP : K.lookup Pt = none) : HeadT K mg x := fun f' hf => by
  have e := PySem.W.mg_of X G a
  rw [hf] at e
  cases e
  refine ⟨c, Pt, ⟨_, _, c, _, dd, vs, sl2, l, rfl, rfl, lc, v11⟩, nP, fun fd oc' od' sl' q => ?_, fun h KX => ⟨_, vs, file, tf, flags, tg, inF, text, tt, KX _ _ lc, rfl, rfl, v11, g11, g18, g7, g9, g10, ne⟩, fun h O => O c Pt _ _ _ _ _ _ l rfl rfl lc v11⟩
  rw [l] at q
  cases q
  rfl
/-- nothing comes out -/
theorem toT {sp : Sp} (F : FnOk P w K mg base (L2.CX P w) k f fd [y] sp) (h : ∀ vs H Q E, sp vs H Q E → sp vs H Q fun _ _ _ => False) : FnOk P w K mg base CX0 k f fd [y] sp :=
  ⟨fun vs H Q E h => F.len vs H Q _ h, fun A outer s H args us vs Q E hr he hb hv hs => codeAny_mono (F.run A outer s H args us vs Q (fun _ _ _ => False) hr he hb hv (h _ _ _ _ hs)) fun r s' h => by
    cases r with
    | ok fl => cases fl <;> exact h
    | error e =>
      obtain ⟨_, _, _, _, _, _, _, _, _, _, _, _, z⟩ := h
      exact z.elim⟩
/-- the law's promise at the head -/
theorem lawAt {l : PySem.W.OpenLaw} {fa : Addr} {h : Heap} {st : Stmt} {n : Nat} (KX : K.In h) (hmg : mg "law" = some (.ref fa)) (O : OwnTab K fa h) (HT : HeadT K mg "law") (hc : cls "law" = fa) (A : At K mg "law" "law" st)
    (B : ∀ fd, Fun K "law" "law" st fa fd → ∀ (s : Shared) (u : Value), BindsTo s fd ⟨[u], []⟩ [("_law_script", u)])
    (F : ∀ (base : Heap) (fd : FuncData) (c Pt : Addr), Fun K "law" "law" st fa fd → fd.code = .ref c → TabB base mg c Pt → TabOf K (cls "law") Pt → FnOk l.prog w K mg base (L2.CX l.prog w) k fa fd ["_law_script"] (spT (gK K cls) Pt n q u1 u2))
    (T : ∀ (ns : List Int) (d : D), ns.length ≤ 63 → (d = .frz (ns.map .int) ∨ d = .lst (ns.map .int)) → ∃ ρ1 om1 om2, u1 (ent n [d]) [] = .nx ρ1 om1 ∧ u2 ρ1 (om1 ++ [.tab q]) = .rt (.bl true) om2) : LawAtS l w K CX0 k 63 "_law_script" mg fa h := by
  obtain ⟨f, fd, e, FF⟩ := A
  have e2 := hmg.symm.trans e
  cases e2
  obtain ⟨c, Pt, t1, t2, t3, t4, t5⟩ := HT fa hmg
  have FF' := FF
  obtain ⟨oc, od, kV, doc, pm, an, cdv, ct, osl, hfd, lk, hcd⟩ := FF'.ex
  refine ⟨fd, [(c, Pt)], spT (gK K cls) Pt n q u1 u2, fun p hp => ?_, fun p hp => ?_, fun p hp => ?_, fun s v => ?_, fun H a ns hl _ hT hS => ?_, fun base _ _ TB => toT (F base fd c Pt FF (t3 _ _ _ _ lk) (TB _ (.head _)) (by rw [hc]; exact t1)) fun vs H Q E h => h⟩
  · cases List.mem_singleton.mp hp
    exact t5 h O
  · cases List.mem_singleton.mp hp
    exact t2
  · cases List.mem_singleton.mp hp
    exact t4 h KX
  · exact B fd FF s v
  · have go : ∀ d, (d = .frz (ns.map .int) ∨ d = .lst (ns.map .int)) → RepVs (gK K cls) [] (fun _ => False) H [.ref a] [d] → spT (gK K cls) Pt n q u1 u2 [.ref a] H (fun v _ => v = .bl true) fun _ _ _ => False := fun d hd r =>
      ⟨rfl, hT _ (.head _), d, r, T ns d hl hd, fun _ => rfl⟩
    rcases hS with (hS | ⟨o, hS⟩) | hS
    · exact go _ (.inr rfl) (.cons (.lst hS (fun z => z) RepVs.of_ints) .nil)
    · exact go _ (.inl rfl) (.cons (.frz (.inl ⟨o, hS⟩) RepVs.of_ints) .nil)
    · exact go _ (.inl rfl) (.cons (.frz (.inr hS) RepVs.of_ints) .nil)
end
end Dv

namespace Dv
open PySem PySem.Spec PyProof.Rows L2
section
variable {P : Program} {w : World} {K : PySem.W.Frag} {mg : Str → Option Value} {base : Heap} {cls : Str → Addr}
def top (i : Nat) : Stmt := PySem.Challenge.pw_reels_k08_whole_undone.main.body.getD i (.Pass ⟨0, 0, 0, 0⟩)
def knl_OffReel : List (Str × Bool) := [("OffReel", true), ("NoDeed", false)]
def knl_ReelError : List (Str × Bool) := [("OffReel", true), ("NoDeed", true)]
def knl_ValueError : List (Str × Bool) := [("OffReel", true), ("NoDeed", true)]
def knl_NoDeed : List (Str × Bool) := [("OffReel", false), ("NoDeed", true)]
/-! made -/
abbrev t_made : Stmt := top 6
theorem sc_made : FnScope ["top", "bottom", "one", "two", "rest"] ["top", "bottom"] (defScope t_made) := ⟨rfl, rfl, rfl, by decide +kernel, rfl, by decide +kernel, by decide +kernel⟩
def u_made : US :=
    (sSeq (sAsg 2 (uFn fAbs (uCons (uVar 0) uNil)))
    (sSeq (sAsg 3 (uFn fAbs (uCons (uVar 1) uNil)))
    (sSeq (sWhile (fuelI 3) (uB (uBin dGt (uVar 3) (uC (.int 0)))) (sSeq (sAsg 4 (uBin dMod (uVar 2) (uVar 3)))
    (sSeq (sAsg 2 (uVar 3))
    (sAsg 3 (uVar 4)))))
    (sSeq (sIf (uB (uBin dLt (uVar 1) (uC (.int 0)))) (sAsg 2 (uUn dNeg (uVar 2))) sNext)
    (sRet (uTup (uCons (uBin dDiv (uVar 0) (uVar 2)) (uCons (uBin dDiv (uVar 1) (uVar 2)) uNil))))))))
def S_made : FN := defU 5 u_made
theorem ok_made (m_abs : mg "abs" = none) {f : Addr} {fd : FuncData} (F : Fun K "made" "made" t_made f fd) :
    FnOk P w K mg base (L2.CX P w) 1 f fd ["top", "bottom"] (spU (gK K cls) 2 S_made) := by
  refine fnU (N := ["top", "bottom", "one", "two", "rest"]) F sc_made (by decide) fun cdv A outer s H E hr tk => ?_
  exact (pss_consU (ps_asgU 2 sc_made.nd (pu_fn call_abs s_abs m_abs boot_abs (pa_consU (pu_var 0) pa_nilU)))
    (pss_consU (ps_asgU 3 sc_made.nd (pu_fn call_abs s_abs m_abs boot_abs (pa_consU (pu_var 1) pa_nilU)))
    (pss_consU (ps_whileU (fuelI 3) (passes_of rfl) (pt_cmpU op_gt s_gt (pu_var 3) pu_int (nomark _)) (pss_consU (ps_asgU 4 sc_made.nd (pu_bin op_modN s_mod (pu_var 2) (pu_var 3)))
    (pss_consU (ps_asgU 2 sc_made.nd (pu_var 3))
    (pss_oneU (ps_asgU 3 sc_made.nd (pu_var 4))))))
    (pss_consU (ps_ifU (pt_cmpU op_lt s_lt (pu_var 1) pu_int (nomark _)) (pss_oneU (ps_asgU 2 sc_made.nd (pu_un un_neg s_neg (pu_var 2)))) pss_nilU)
    (pss_oneU (ps_retU (pu_tup (pa_consU (pu_bin op_fdivU s_div (pu_var 0) (pu_var 2)) (pa_consU (pu_bin op_fdivU s_div (pu_var 1) (pu_var 2)) pa_nilU)))))))))
/-! added -/
abbrev t_added : Stmt := top 7
theorem sc_added : FnScope ["one", "two"] ["one", "two"] (defScope t_added) := ⟨rfl, rfl, rfl, by decide +kernel, rfl, by decide +kernel, by decide +kernel⟩
def u_added : US :=
    (sRet (uCall 2 S_made (uCons (uBin dAdd (uBin dMul (uBin dIx (uVar 0) (uC (.int 0))) (uBin dIx (uVar 1) (uC (.int 1)))) (uBin dMul (uBin dIx (uVar 1) (uC (.int 0))) (uBin dIx (uVar 0) (uC (.int 1))))) (uCons (uBin dMul (uBin dIx (uVar 0) (uC (.int 1))) (uBin dIx (uVar 1) (uC (.int 1)))) uNil))))
def S_added : FN := defU 2 u_added
theorem ok_added (h_made : Has P w K mg base "made" ["top", "bottom"] 1 (spU (gK K cls) 2 S_made)) {f : Addr} {fd : FuncData} (F : Fun K "added" "added" t_added f fd) :
    FnOk P w K mg base (L2.CX P w) 2 f fd ["one", "two"] (spU (gK K cls) 2 S_added) := by
  refine fnU (N := ["one", "two"]) F sc_added (by decide) fun cdv A outer s H E hr tk => ?_
  exact (pss_oneU (ps_retU (pu_call h_made (hr.mono (by decide)) tk (pa_consU (pu_bin op_addU s_add (pu_bin op_mulU s_mul (pu_ix ix_seq s_ix (pu_var 0) pu_int) (pu_ix ix_seq s_ix (pu_var 1) pu_int)) (pu_bin op_mulU s_mul (pu_ix ix_seq s_ix (pu_var 1) pu_int) (pu_ix ix_seq s_ix (pu_var 0) pu_int))) (pa_consU (pu_bin op_mulU s_mul (pu_ix ix_seq s_ix (pu_var 0) pu_int) (pu_ix ix_seq s_ix (pu_var 1) pu_int)) pa_nilU)))))
/-! less -/
abbrev t_less : Stmt := top 8
theorem sc_less : FnScope ["one", "two"] ["one", "two"] (defScope t_less) := ⟨rfl, rfl, rfl, by decide +kernel, rfl, by decide +kernel, by decide +kernel⟩
def u_less : US :=
    (sRet (uCall 2 S_made (uCons (uBin dSub (uBin dMul (uBin dIx (uVar 0) (uC (.int 0))) (uBin dIx (uVar 1) (uC (.int 1)))) (uBin dMul (uBin dIx (uVar 1) (uC (.int 0))) (uBin dIx (uVar 0) (uC (.int 1))))) (uCons (uBin dMul (uBin dIx (uVar 0) (uC (.int 1))) (uBin dIx (uVar 1) (uC (.int 1)))) uNil))))
def S_less : FN := defU 2 u_less
theorem ok_less (h_made : Has P w K mg base "made" ["top", "bottom"] 1 (spU (gK K cls) 2 S_made)) {f : Addr} {fd : FuncData} (F : Fun K "less" "less" t_less f fd) :
    FnOk P w K mg base (L2.CX P w) 2 f fd ["one", "two"] (spU (gK K cls) 2 S_less) := by
  refine fnU (N := ["one", "two"]) F sc_less (by decide) fun cdv A outer s H E hr tk => ?_
  exact (pss_oneU (ps_retU (pu_call h_made (hr.mono (by decide)) tk (pa_consU (pu_bin op_sub s_sub (pu_bin op_mulU s_mul (pu_ix ix_seq s_ix (pu_var 0) pu_int) (pu_ix ix_seq s_ix (pu_var 1) pu_int)) (pu_bin op_mulU s_mul (pu_ix ix_seq s_ix (pu_var 1) pu_int) (pu_ix ix_seq s_ix (pu_var 0) pu_int))) (pa_consU (pu_bin op_mulU s_mul (pu_ix ix_seq s_ix (pu_var 0) pu_int) (pu_ix ix_seq s_ix (pu_var 1) pu_int)) pa_nilU)))))
/-! timed -/
abbrev t_timed : Stmt := top 9
theorem sc_timed : FnScope ["one", "two"] ["one", "two"] (defScope t_timed) := ⟨rfl, rfl, rfl, by decide +kernel, rfl, by decide +kernel, by decide +kernel⟩
def u_timed : US :=
    (sRet (uCall 2 S_made (uCons (uBin dMul (uBin dIx (uVar 0) (uC (.int 0))) (uBin dIx (uVar 1) (uC (.int 0)))) (uCons (uBin dMul (uBin dIx (uVar 0) (uC (.int 1))) (uBin dIx (uVar 1) (uC (.int 1)))) uNil))))
def S_timed : FN := defU 2 u_timed
theorem ok_timed (h_made : Has P w K mg base "made" ["top", "bottom"] 1 (spU (gK K cls) 2 S_made)) {f : Addr} {fd : FuncData} (F : Fun K "timed" "timed" t_timed f fd) :
    FnOk P w K mg base (L2.CX P w) 2 f fd ["one", "two"] (spU (gK K cls) 2 S_timed) := by
  refine fnU (N := ["one", "two"]) F sc_timed (by decide) fun cdv A outer s H E hr tk => ?_
  exact (pss_oneU (ps_retU (pu_call h_made (hr.mono (by decide)) tk (pa_consU (pu_bin op_mulU s_mul (pu_ix ix_seq s_ix (pu_var 0) pu_int) (pu_ix ix_seq s_ix (pu_var 1) pu_int)) (pa_consU (pu_bin op_mulU s_mul (pu_ix ix_seq s_ix (pu_var 0) pu_int) (pu_ix ix_seq s_ix (pu_var 1) pu_int)) pa_nilU)))))
/-! over -/
abbrev t_over : Stmt := top 10
theorem sc_over : FnScope ["one", "two"] ["one", "two"] (defScope t_over) := ⟨rfl, rfl, rfl, by decide +kernel, rfl, by decide +kernel, by decide +kernel⟩
def u_over : US :=
    (sRet (uCall 2 S_made (uCons (uBin dMul (uBin dIx (uVar 0) (uC (.int 0))) (uBin dIx (uVar 1) (uC (.int 1)))) (uCons (uBin dMul (uBin dIx (uVar 0) (uC (.int 1))) (uBin dIx (uVar 1) (uC (.int 0)))) uNil))))
def S_over : FN := defU 2 u_over
theorem ok_over (h_made : Has P w K mg base "made" ["top", "bottom"] 1 (spU (gK K cls) 2 S_made)) {f : Addr} {fd : FuncData} (F : Fun K "over" "over" t_over f fd) :
    FnOk P w K mg base (L2.CX P w) 2 f fd ["one", "two"] (spU (gK K cls) 2 S_over) := by
  refine fnU (N := ["one", "two"]) F sc_over (by decide) fun cdv A outer s H E hr tk => ?_
  exact (pss_oneU (ps_retU (pu_call h_made (hr.mono (by decide)) tk (pa_consU (pu_bin op_mulU s_mul (pu_ix ix_seq s_ix (pu_var 0) pu_int) (pu_ix ix_seq s_ix (pu_var 1) pu_int)) (pa_consU (pu_bin op_mulU s_mul (pu_ix ix_seq s_ix (pu_var 0) pu_int) (pu_ix ix_seq s_ix (pu_var 1) pu_int)) pa_nilU)))))
/-! is_below -/
abbrev t_is_below : Stmt := top 11
theorem sc_is_below : FnScope ["one", "two"] ["one", "two"] (defScope t_is_below) := ⟨rfl, rfl, rfl, by decide +kernel, rfl, by decide +kernel, by decide +kernel⟩
def u_is_below : US :=
    (sRet (uBin dLt (uBin dMul (uBin dIx (uVar 0) (uC (.int 0))) (uBin dIx (uVar 1) (uC (.int 1)))) (uBin dMul (uBin dIx (uVar 1) (uC (.int 0))) (uBin dIx (uVar 0) (uC (.int 1))))))
def S_is_below : FN := defU 2 u_is_below
theorem ok_is_below {f : Addr} {fd : FuncData} (F : Fun K "is_below" "is_below" t_is_below f fd) :
    FnOk P w K mg base (L2.CX P w) 1 f fd ["one", "two"] (spU (gK K cls) 2 S_is_below) := by
  refine fnU (N := ["one", "two"]) F sc_is_below (by decide) fun cdv A outer s H E hr tk => ?_
  exact (pss_oneU (ps_retU (pu_cmp op_lt s_lt (pu_bin op_mulU s_mul (pu_ix ix_seq s_ix (pu_var 0) pu_int) (pu_ix ix_seq s_ix (pu_var 1) pu_int)) (pu_bin op_mulU s_mul (pu_ix ix_seq s_ix (pu_var 1) pu_int) (pu_ix ix_seq s_ix (pu_var 0) pu_int)) (nomark _))))
/-! lesser -/
abbrev t_lesser : Stmt := top 12
theorem sc_lesser : FnScope ["one", "two"] ["one", "two"] (defScope t_lesser) := ⟨rfl, rfl, rfl, by decide +kernel, rfl, by decide +kernel, by decide +kernel⟩
def u_lesser : US :=
    (sRet (uIf (uB (uCall 2 S_is_below (uCons (uVar 1) (uCons (uVar 0) uNil)))) (uVar 1) (uVar 0)))
def S_lesser : FN := defU 2 u_lesser
theorem ok_lesser (h_is_below : Has P w K mg base "is_below" ["one", "two"] 1 (spU (gK K cls) 2 S_is_below)) {f : Addr} {fd : FuncData} (F : Fun K "lesser" "lesser" t_lesser f fd) :
    FnOk P w K mg base (L2.CX P w) 2 f fd ["one", "two"] (spU (gK K cls) 2 S_lesser) := by
  refine fnU (N := ["one", "two"]) F sc_lesser (by decide) fun cdv A outer s H E hr tk => ?_
  exact (pss_oneU (ps_retU (pu_if (pt_of (pu_call h_is_below (hr.mono (by decide)) tk (pa_consU (pu_var 1) (pa_consU (pu_var 0) pa_nilU)))) (pu_var 1) (pu_var 0))))
/-! greater -/
abbrev t_greater : Stmt := top 13
theorem sc_greater : FnScope ["one", "two"] ["one", "two"] (defScope t_greater) := ⟨rfl, rfl, rfl, by decide +kernel, rfl, by decide +kernel, by decide +kernel⟩
def u_greater : US :=
    (sRet (uIf (uB (uCall 2 S_is_below (uCons (uVar 0) (uCons (uVar 1) uNil)))) (uVar 1) (uVar 0)))
def S_greater : FN := defU 2 u_greater
theorem ok_greater (h_is_below : Has P w K mg base "is_below" ["one", "two"] 1 (spU (gK K cls) 2 S_is_below)) {f : Addr} {fd : FuncData} (F : Fun K "greater" "greater" t_greater f fd) :
    FnOk P w K mg base (L2.CX P w) 2 f fd ["one", "two"] (spU (gK K cls) 2 S_greater) := by
  refine fnU (N := ["one", "two"]) F sc_greater (by decide) fun cdv A outer s H E hr tk => ?_
  exact (pss_oneU (ps_retU (pu_if (pt_of (pu_call h_is_below (hr.mono (by decide)) tk (pa_consU (pu_var 0) (pa_consU (pu_var 1) pa_nilU)))) (pu_var 1) (pu_var 0))))
/-! summed -/
abbrev t_summed : Stmt := top 14
theorem sc_summed : FnScope ["some", "whole", "one"] ["some"] (defScope t_summed) := ⟨rfl, rfl, rfl, by decide +kernel, rfl, by decide +kernel, by decide +kernel⟩
def u_summed : US :=
    (sSeq (sAsg 1 (uC (.tup [.int 0, .int 1])))
    (sSeq (sFor (iLst (uVar 0)) (gN 2) (sAsg 1 (uCall 2 S_added (uCons (uVar 1) (uCons (uVar 2) uNil)))))
    (sRet (uVar 1))))
def S_summed : FN := defU 3 u_summed
theorem ok_summed (k_NONE : ConstOk K mg "NONE" (.tup [.int 0, .int 1])) (h_added : Has P w K mg base "added" ["one", "two"] 2 (spU (gK K cls) 2 S_added)) {f : Addr} {fd : FuncData} (F : Fun K "summed" "summed" t_summed f fd) :
    FnOk P w K mg base (L2.CX P w) 3 f fd ["some"] (spU (gK K cls) 1 S_summed) := by
  refine fnU (N := ["some", "whole", "one"]) F sc_summed (by decide) fun cdv A outer s H E hr tk => ?_
  exact (pss_consU (ps_asgU 1 sc_summed.nd (pu_globC rfl k_NONE))
    (pss_consU (ps_forU (passes_of rfl) rfl (pi_listU rfl (pu_var 0)) (pg_nameU 2 sc_summed.nd) (pss_oneU (ps_asgU 1 sc_summed.nd (pu_call h_added (hr.mono (by decide)) tk (pa_consU (pu_var 1) (pa_consU (pu_var 2) pa_nilU))))))
    (pss_oneU (ps_retU (pu_var 1)))))
/-! lasts -/
abbrev t_lasts : Stmt := top 16
theorem sc_lasts : FnScope ["stretch"] ["stretch"] (defScope t_lasts) := ⟨rfl, rfl, rfl, by decide +kernel, rfl, by decide +kernel, by decide +kernel⟩
def u_lasts : US :=
    (sRet (uCall 2 S_over (uCons (uCall 2 S_less (uCons (uBin dIx (uVar 0) (uC (.int 1))) (uCons (uBin dIx (uVar 0) (uC (.int 0))) uNil))) (uCons (uBin dIx (uVar 0) (uC (.int 2))) uNil))))
def S_lasts : FN := defU 1 u_lasts
theorem ok_lasts (h_less : Has P w K mg base "less" ["one", "two"] 2 (spU (gK K cls) 2 S_less)) (h_over : Has P w K mg base "over" ["one", "two"] 2 (spU (gK K cls) 2 S_over)) {f : Addr} {fd : FuncData} (F : Fun K "lasts" "lasts" t_lasts f fd) :
    FnOk P w K mg base (L2.CX P w) 3 f fd ["stretch"] (spU (gK K cls) 1 S_lasts) := by
  refine fnU (N := ["stretch"]) F sc_lasts (by decide) fun cdv A outer s H E hr tk => ?_
  exact (pss_oneU (ps_retU (pu_call h_over (hr.mono (by decide)) tk (pa_consU (pu_call h_less (hr.mono (by decide)) tk (pa_consU (pu_ix ix_seq s_ix (pu_var 0) pu_int) (pa_consU (pu_ix ix_seq s_ix (pu_var 0) pu_int) pa_nilU))) (pa_consU (pu_ix ix_seq s_ix (pu_var 0) pu_int) pa_nilU)))))
/-! length -/
abbrev t_length : Stmt := top 17
theorem sc_length : FnScope ["show", "stretch"] ["show"] (defScope t_length) := ⟨rfl, rfl, rfl, by decide +kernel, rfl, by decide +kernel, by decide +kernel⟩
def u_length : US :=
    (sRet (uCall 1 S_summed (uCons (uFz (uLc (iLst (uVar 0)) (gN 1) uYes (uCallN 1 S_lasts (uCons (uVar 1) uNil)) [1])) uNil)))
def S_length : FN := defU 2 u_length
theorem ok_length (h_lasts : Has P w K mg base "lasts" ["stretch"] 3 (spU (gK K cls) 1 S_lasts)) (h_summed : Has P w K mg base "summed" ["some"] 3 (spU (gK K cls) 1 S_summed)) {f : Addr} {fd : FuncData} (F : Fun K "length" "length" t_length f fd) :
    FnOk P w K mg base (L2.CX P w) 4 f fd ["show"] (spU (gK K cls) 1 S_length) := by
  refine fnU (N := ["show", "stretch"]) F sc_length (by decide) fun cdv A outer s H E hr tk => ?_
  exact (pss_oneU (ps_retU (pu_call h_summed (hr.mono (by decide)) tk (pa_consU (pu_fz (by exact (pu_lc [("stretch", 1)] rfl sc_length.nd (pi_listU rfl (pu_var 0)) (blkOk_by (N := ["show", "stretch"]) (sc := defScope t_length) (by decide +kernel)) (fun _ _ _ _ _ => (pg_nameC 1 sc_length.nd)) (fun _ _ _ _ _ => pts_nilU) (fun _ _ _ _ _ => (pu_callN h_lasts (hr.mono (by decide)) (pa_consU (pu_var 1) pa_nilU)))))) pa_nilU))))
/-! normal -/
abbrev t_normal : Stmt := top 18
theorem sc_normal : FnScope ["show", "done", "stretch"] ["show"] (defScope t_normal) := ⟨rfl, rfl, rfl, by decide +kernel, rfl, by decide +kernel, by decide +kernel⟩
def u_normal : US :=
    (sSeq (sAsgO 1 (uLstO uNil))
    (sSeq (sForX (uVar 0) (gN 2) (sSeq (sIf (uAnd (uB (uBinV dNe 1 (uLst uNil))) (uAnd (uB (uBin dEq (uBin dIx (uBinV dIx 1 (uUn dNeg (uC (.int 1)))) (uC (.int 1))) (uBin dIx (uVar 2) (uC (.int 0))))) (uB (uBin dEq (uBin dIx (uBinV dIx 1 (uUn dNeg (uC (.int 1)))) (uC (.int 2))) (uBin dIx (uVar 2) (uC (.int 2))))))) (sAsg 2 (uTup (uCons (uBin dIx (uMeO 1 mPop uNil) (uC (.int 0))) (uCons (uBin dIx (uVar 2) (uC (.int 1))) (uCons (uBin dIx (uVar 2) (uC (.int 2))) uNil))))) sNext)
    (sIf (uB (uBin dNe (uBin dIx (uVar 2) (uC (.int 0))) (uBin dIx (uVar 2) (uC (.int 1))))) (sExpr (uMeO 1 mAppend (uCons (uVar 2) uNil))) sNext)))
    (sRetO (uMv 1))))
def S_normal : FN := defO 3 u_normal
theorem ok_normal {f : Addr} {fd : FuncData} (F : Fun K "normal" "normal" t_normal f fd) :
    FnOk P w K mg base (L2.CX P w) 1 f fd ["show"] (spO (gK K cls) 1 S_normal) := by
  refine fnO (N := ["show", "done", "stretch"]) F sc_normal (by decide) fun cdv A outer s H E hr tk => ?_
  exact (pss_consU (ps_asgO 1 sc_normal.nd (pu_lstO pa_nilU))
    (pss_consU (ps_forX (passes_of rfl) rfl rfl (pu_var 0) (pg_nameU 2 sc_normal.nd) (pss_consU (ps_ifU (PW.pt (pw_andU (pt_cmpV 1 (op_neU hr.units) s_ne (pe_slot 1) (pu_lst pa_nilU) (nomark _)) (pw_andU (pt_cmpU (op_eqU hr.units) s_eq (pu_ix ix_seq s_ix (pu_ixV 1 ix_seq s_ix (pe_slot 1) (pu_un un_neg s_neg pu_int)) pu_int) (pu_ix ix_seq s_ix (pu_var 2) pu_int) (nomark _)) (pw_and1U (pt_cmpU (op_eqU hr.units) s_eq (pu_ix ix_seq s_ix (pu_ixV 1 ix_seq s_ix (pe_slot 1) (pu_un un_neg s_neg pu_int)) pu_int) (pu_ix ix_seq s_ix (pu_var 2) pu_int) (nomark _)))))) (pss_oneU (ps_asgU 2 sc_normal.nd (pu_tup (pa_consU (pu_ix ix_seq s_ix (pu_meO0 1 PySem.F.slot_list_pop PySem.F.type_list_pop mt_pop u_pop (pe_slot 1)) pu_int) (pa_consU (pu_ix ix_seq s_ix (pu_var 2) pu_int) (pa_consU (pu_ix ix_seq s_ix (pu_var 2) pu_int) pa_nilU)))))) pss_nilU)
    (pss_oneU (ps_ifU (pt_cmpU (op_neU hr.units) s_ne (pu_ix ix_seq s_ix (pu_var 2) pu_int) (pu_ix ix_seq s_ix (pu_var 2) pu_int) (nomark _)) (pss_oneU (ps_exprU (pu_meO 1 PySem.F.slot_list_append PySem.F.type_list_append mt_append u_append (pe_slot 1) (pa_consU (pu_var 2) pa_nilU)))) pss_nilU))))
    (pss_oneU (ps_retO (pu_mv 1)))))
/-! need_time -/
abbrev t_need_time : Stmt := top 19
theorem sc_need_time : FnScope ["show", "time", "most"] ["show", "time", "most"] (defScope t_need_time) := ⟨rfl, rfl, rfl, by decide +kernel, rfl, by decide +kernel, by decide +kernel⟩
def u_need_time : US :=
    (sIf (uOr (uB (uCall 2 S_is_below (uCons (uVar 1) (uCons (uC (.tup [.int 0, .int 1])) uNil)))) (uB (uCall 2 S_is_below (uCons (uVar 2) (uCons (uVar 1) uNil))))) (sRaise ⟨"OffReel", []⟩) sNext)
def S_need_time : FN := defU 3 u_need_time
theorem ok_need_time (k_NONE : ConstOk K mg "NONE" (.tup [.int 0, .int 1])) (x_OffReel : ExM K mg cls "OffReel") (h_is_below : Has P w K mg base "is_below" ["one", "two"] 1 (spU (gK K cls) 2 S_is_below)) {f : Addr} {fd : FuncData} (F : Fun K "need_time" "need_time" t_need_time f fd) :
    FnOk P w K mg base (L2.CX P w) 2 f fd ["show", "time", "most"] (spU (gK K cls) 3 S_need_time) := by
  refine fnU (N := ["show", "time", "most"]) F sc_need_time (by decide) fun cdv A outer s H E hr tk => ?_
  exact (pss_oneU (ps_ifU (PW.pt (pw_orU (pt_of (pu_call h_is_below (hr.mono (by decide)) tk (pa_consU (pu_var 1) (pa_consU (pu_globC rfl k_NONE) pa_nilU)))) (pw_or1U (pt_of (pu_call h_is_below (hr.mono (by decide)) tk (pa_consU (pu_var 2) (pa_consU (pu_var 1) pa_nilU))))))) (pss_oneU (ps_raiseU x_OffReel rfl tk rfl)) pss_nilU))
/-! taken -/
abbrev t_taken : Stmt := top 20
theorem sc_taken : FnScope ["show", "begin", "end", "found", "at", "stretch", "behind", "first", "last", "one", "two"] ["show", "begin", "end"] (defScope t_taken) := ⟨rfl, rfl, rfl, by decide +kernel, rfl, by decide +kernel, by decide +kernel⟩
def u_taken : US :=
    (sSeq (sExpr (uCall 3 S_need_time (uCons (uVar 0) (uCons (uVar 2) (uCons (uCall 1 S_length (uCons (uVar 0) uNil)) uNil)))))
    (sSeq (sExpr (uCall 3 S_need_time (uCons (uVar 0) (uCons (uVar 1) (uCons (uVar 2) uNil)))))
    (sSeq (sAsgO 3 (uLstO uNil))
    (sSeq (sAsg 4 (uC (.tup [.int 0, .int 1])))
    (sSeq (sFor (iLst (uVar 0)) (gN 5) (sSeq (sAsg 6 (uCall 2 S_added (uCons (uVar 4) (uCons (uCall 1 S_lasts (uCons (uVar 5) uNil)) uNil))))
    (sSeq (sAsg 7 (uCall 2 S_greater (uCons (uVar 1) (uCons (uVar 4) uNil))))
    (sSeq (sAsg 8 (uCall 2 S_lesser (uCons (uVar 2) (uCons (uVar 6) uNil))))
    (sSeq (sIf (uB (uCall 2 S_is_below (uCons (uVar 7) (uCons (uVar 8) uNil)))) (sSeq (sAsg 9 (uCall 2 S_added (uCons (uBin dIx (uVar 5) (uC (.int 0))) (uCons (uCall 2 S_timed (uCons (uCall 2 S_less (uCons (uVar 7) (uCons (uVar 4) uNil))) (uCons (uBin dIx (uVar 5) (uC (.int 2))) uNil))) uNil))))
    (sSeq (sAsg 10 (uCall 2 S_added (uCons (uBin dIx (uVar 5) (uC (.int 0))) (uCons (uCall 2 S_timed (uCons (uCall 2 S_less (uCons (uVar 8) (uCons (uVar 4) uNil))) (uCons (uBin dIx (uVar 5) (uC (.int 2))) uNil))) uNil))))
    (sExpr (uMeO 3 mAppend (uCons (uTup (uCons (uVar 9) (uCons (uVar 10) (uCons (uBin dIx (uVar 5) (uC (.int 2))) uNil)))) uNil))))) sNext)
    (sAsg 4 (uVar 6)))))))
    (sRetO (uCallO 1 S_normal (uCons (uFz (uMv 3)) uNil))))))))
def S_taken : FN := defO 11 u_taken
theorem ok_taken (k_NONE : ConstOk K mg "NONE" (.tup [.int 0, .int 1])) (h_length : Has P w K mg base "length" ["show"] 4 (spU (gK K cls) 1 S_length)) (h_need_time : Has P w K mg base "need_time" ["show", "time", "most"] 2 (spU (gK K cls) 3 S_need_time)) (h_lasts : Has P w K mg base "lasts" ["stretch"] 3 (spU (gK K cls) 1 S_lasts)) (h_added : Has P w K mg base "added" ["one", "two"] 2 (spU (gK K cls) 2 S_added)) (h_greater : Has P w K mg base "greater" ["one", "two"] 2 (spU (gK K cls) 2 S_greater)) (h_lesser : Has P w K mg base "lesser" ["one", "two"] 2 (spU (gK K cls) 2 S_lesser)) (h_is_below : Has P w K mg base "is_below" ["one", "two"] 1 (spU (gK K cls) 2 S_is_below)) (h_less : Has P w K mg base "less" ["one", "two"] 2 (spU (gK K cls) 2 S_less)) (h_timed : Has P w K mg base "timed" ["one", "two"] 2 (spU (gK K cls) 2 S_timed)) (h_normal : Has P w K mg base "normal" ["show"] 1 (spO (gK K cls) 1 S_normal)) {f : Addr} {fd : FuncData} (F : Fun K "taken" "taken" t_taken f fd) :
    FnOk P w K mg base (L2.CX P w) 5 f fd ["show", "begin", "end"] (spO (gK K cls) 3 S_taken) := by
  refine fnO (N := ["show", "begin", "end", "found", "at", "stretch", "behind", "first", "last", "one", "two"]) F sc_taken (by decide) fun cdv A outer s H E hr tk => ?_
  exact (pss_consU (ps_exprU (pu_call h_need_time (hr.mono (by decide)) tk (pa_consU (pu_var 0) (pa_consU (pu_var 2) (pa_consU (pu_call h_length (hr.mono (by decide)) tk (pa_consU (pu_var 0) pa_nilU)) pa_nilU)))))
    (pss_consU (ps_exprU (pu_call h_need_time (hr.mono (by decide)) tk (pa_consU (pu_var 0) (pa_consU (pu_var 1) (pa_consU (pu_var 2) pa_nilU)))))
    (pss_consU (ps_asgO 3 sc_taken.nd (pu_lstO pa_nilU))
    (pss_consU (ps_asgU 4 sc_taken.nd (pu_globC rfl k_NONE))
    (pss_consU (ps_forU (passes_of rfl) rfl (pi_listU rfl (pu_var 0)) (pg_nameU 5 sc_taken.nd) (pss_consU (ps_asgU 6 sc_taken.nd (pu_call h_added (hr.mono (by decide)) tk (pa_consU (pu_var 4) (pa_consU (pu_call h_lasts (hr.mono (by decide)) tk (pa_consU (pu_var 5) pa_nilU)) pa_nilU))))
    (pss_consU (ps_asgU 7 sc_taken.nd (pu_call h_greater (hr.mono (by decide)) tk (pa_consU (pu_var 1) (pa_consU (pu_var 4) pa_nilU))))
    (pss_consU (ps_asgU 8 sc_taken.nd (pu_call h_lesser (hr.mono (by decide)) tk (pa_consU (pu_var 2) (pa_consU (pu_var 6) pa_nilU))))
    (pss_consU (ps_ifU (pt_of (pu_call h_is_below (hr.mono (by decide)) tk (pa_consU (pu_var 7) (pa_consU (pu_var 8) pa_nilU)))) (pss_consU (ps_asgU 9 sc_taken.nd (pu_call h_added (hr.mono (by decide)) tk (pa_consU (pu_ix ix_seq s_ix (pu_var 5) pu_int) (pa_consU (pu_call h_timed (hr.mono (by decide)) tk (pa_consU (pu_call h_less (hr.mono (by decide)) tk (pa_consU (pu_var 7) (pa_consU (pu_var 4) pa_nilU))) (pa_consU (pu_ix ix_seq s_ix (pu_var 5) pu_int) pa_nilU))) pa_nilU))))
    (pss_consU (ps_asgU 10 sc_taken.nd (pu_call h_added (hr.mono (by decide)) tk (pa_consU (pu_ix ix_seq s_ix (pu_var 5) pu_int) (pa_consU (pu_call h_timed (hr.mono (by decide)) tk (pa_consU (pu_call h_less (hr.mono (by decide)) tk (pa_consU (pu_var 8) (pa_consU (pu_var 4) pa_nilU))) (pa_consU (pu_ix ix_seq s_ix (pu_var 5) pu_int) pa_nilU))) pa_nilU))))
    (pss_oneU (ps_exprU (pu_meO 3 PySem.F.slot_list_append PySem.F.type_list_append mt_append u_append (pe_slot 3) (pa_consU (pu_tup (pa_consU (pu_var 9) (pa_consU (pu_var 10) (pa_consU (pu_ix ix_seq s_ix (pu_var 5) pu_int) pa_nilU)))) pa_nilU)))))) pss_nilU)
    (pss_oneU (ps_asgU 4 sc_taken.nd (pu_var 6))))))))
    (pss_oneU (ps_retO (pu_callO h_normal (hr.mono (by decide)) tk (pa_consU (pu_fz (pu_mv 3)) pa_nilU)))))))))
/-! paced -/
abbrev t_paced : Stmt := top 21
theorem sc_paced : FnScope ["show", "factor", "stretch"] ["show", "factor"] (defScope t_paced) := ⟨rfl, rfl, rfl, by decide +kernel, rfl, by decide +kernel, by decide +kernel⟩
def u_paced : US :=
    (sRetO (uLc (iLst (uVar 0)) (gN 2) uYes (uTup (uCons (uBin dIx (uVar 2) (uC (.int 0))) (uCons (uBin dIx (uVar 2) (uC (.int 1))) (uCons (uCallN 2 S_timed (uCons (uBin dIx (uVar 2) (uC (.int 2))) (uCons (uVar 1) uNil))) uNil)))) [2]))
def S_paced : FN := defO 3 u_paced
theorem ok_paced (h_timed : Has P w K mg base "timed" ["one", "two"] 2 (spU (gK K cls) 2 S_timed)) {f : Addr} {fd : FuncData} (F : Fun K "paced" "paced" t_paced f fd) :
    FnOk P w K mg base (L2.CX P w) 3 f fd ["show", "factor"] (spO (gK K cls) 2 S_paced) := by
  refine fnO (N := ["show", "factor", "stretch"]) F sc_paced (by decide) fun cdv A outer s H E hr tk => ?_
  exact (pss_oneU (ps_retO (by exact (pu_lc [("stretch", 2)] rfl sc_paced.nd (pi_listU rfl (pu_var 0)) (blkOk_by (N := ["show", "factor", "stretch"]) (sc := defScope t_paced) (by decide +kernel)) (fun _ _ _ _ _ => (pg_nameC 2 sc_paced.nd)) (fun _ _ _ _ _ => pts_nilU) (fun _ _ _ _ _ => (pu_tup (pa_consU (pu_ix ix_seq s_ix (pu_var 2) pu_int) (pa_consU (pu_ix ix_seq s_ix (pu_var 2) pu_int) (pa_consU (pu_callN h_timed (hr.mono (by decide)) (pa_consU (pu_ix ix_seq s_ix (pu_var 2) pu_int) (pa_consU (pu_var 1) pa_nilU))) pa_nilU)))))))))
/-! Reel.__init__ -/
abbrev t_Reel_init : Stmt := inClass (top 23) 0
theorem sc_Reel_init : FnScope ["self", "show"] ["self", "show"] (defScope t_Reel_init) := ⟨rfl, rfl, rfl, by decide +kernel, rfl, by decide +kernel, by decide +kernel⟩
def u_Reel_init : US :=
    (sSeq (sFldU "Reel" "now" (uVar 0) (uFz (uCallO 1 S_normal (uCons (uVar 1) uNil))))
    (sSeq (sFldU "Reel" "elder" (uVar 0) (uNew (uLstO uNil)))
    (sFldU "Reel" "undone" (uVar 0) (uNew (uLstO uNil)))))
def S_Reel_init : FN := defU 2 u_Reel_init
theorem ok_Reel_init (c_Reel : Cls K (cls "Reel")) (n_Reel_now : NoAttr K (cls "Reel") "now") (n_Reel_elder : NoAttr K (cls "Reel") "elder") (n_Reel_undone : NoAttr K (cls "Reel") "undone") (h_normal : Has P w K mg base "normal" ["show"] 1 (spO (gK K cls) 1 S_normal)) {f : Addr} {fd : FuncData} (F : Fun K "__init__" "Reel.__init__" t_Reel_init f fd) :
    FnOk P w K mg base (L2.CX P w) 2 f fd ["self", "show"] (spU (gK K cls) 2 S_Reel_init) := by
  refine fnU (N := ["self", "show"]) F sc_Reel_init (by decide) fun cdv A outer s H E hr tk => ?_
  exact (pss_consU (ps_fldU (g := gK K cls) "Reel" "now" c_Reel n_Reel_now (pu_var 0) (pu_fz (pu_callO h_normal (hr.mono (by decide)) tk (pa_consU (pu_var 1) pa_nilU))))
    (pss_consU (ps_fldU (g := gK K cls) "Reel" "elder" c_Reel n_Reel_elder (pu_var 0) (pu_new (pu_lstO pa_nilU)))
    (pss_oneU (ps_fldU (g := gK K cls) "Reel" "undone" c_Reel n_Reel_undone (pu_var 0) (pu_new (pu_lstO pa_nilU))))))
/-! Reel.show -/
abbrev t_Reel_show : Stmt := inClass (top 23) 1
theorem sc_Reel_show : FnScope ["self"] ["self"] (defScope t_Reel_show) := ⟨rfl, rfl, rfl, by decide +kernel, rfl, by decide +kernel, by decide +kernel⟩
def u_Reel_show : US :=
    (sRetO (uFnO fList (uCons (uFld "Reel" "now" (uVar 0)) uNil)))
def S_Reel_show : FN := defO 1 u_Reel_show
theorem ok_Reel_show (m_list : mg "list" = none) (c_Reel : Cls K (cls "Reel")) (n_Reel_now : NoAttr K (cls "Reel") "now") {f : Addr} {fd : FuncData} (F : Fun K "show" "Reel.show" t_Reel_show f fd) :
    FnOk P w K mg base (L2.CX P w) 1 f fd ["self"] (spO (gK K cls) 1 S_Reel_show) := by
  refine fnO (N := ["self"]) F sc_Reel_show (by decide) fun cdv A outer s H E hr tk => ?_
  exact (pss_oneU (ps_retO (pu_list rfl m_list (pa_consU (pu_fld (g := gK K cls) "Reel" "now" c_Reel n_Reel_now (pu_var 0)) pa_nilU))))
/-! Reel.turn -/
abbrev t_Reel_turn : Stmt := inClass (top 23) 2
theorem sc_Reel_turn : FnScope ["self", "newer"] ["self", "newer"] (defScope t_Reel_turn) := ⟨rfl, rfl, rfl, by decide +kernel, rfl, by decide +kernel, by decide +kernel⟩
def u_Reel_turn : US :=
    (sSeq (sExpr (uMeL (uFld "Reel" "elder" (uVar 0)) mAppend (uCons (uFld "Reel" "now" (uVar 0)) uNil)))
    (sSeq (sFldU "Reel" "undone" (uVar 0) (uNew (uLstO uNil)))
    (sFldU "Reel" "now" (uVar 0) (uFz (uCallO 1 S_normal (uCons (uVar 1) uNil))))))
def S_Reel_turn : FN := defU 2 u_Reel_turn
theorem ok_Reel_turn (c_Reel : Cls K (cls "Reel")) (n_Reel_elder : NoAttr K (cls "Reel") "elder") (n_Reel_now : NoAttr K (cls "Reel") "now") (n_Reel_undone : NoAttr K (cls "Reel") "undone") (h_normal : Has P w K mg base "normal" ["show"] 1 (spO (gK K cls) 1 S_normal)) {f : Addr} {fd : FuncData} (F : Fun K "turn" "Reel.turn" t_Reel_turn f fd) :
    FnOk P w K mg base (L2.CX P w) 2 f fd ["self", "newer"] (spU (gK K cls) 2 S_Reel_turn) := by
  refine fnU (N := ["self", "newer"]) F sc_Reel_turn (by decide) fun cdv A outer s H E hr tk => ?_
  exact (pss_consU (ps_exprU (pu_meL PySem.F.slot_list_append PySem.F.type_list_append mt_append u_append (pu_fld (g := gK K cls) "Reel" "elder" c_Reel n_Reel_elder (pu_var 0)) (pa_consU (pu_fld (g := gK K cls) "Reel" "now" c_Reel n_Reel_now (pu_var 0)) pa_nilU)))
    (pss_consU (ps_fldU (g := gK K cls) "Reel" "undone" c_Reel n_Reel_undone (pu_var 0) (pu_new (pu_lstO pa_nilU)))
    (pss_oneU (ps_fldU (g := gK K cls) "Reel" "now" c_Reel n_Reel_now (pu_var 0) (pu_fz (pu_callO h_normal (hr.mono (by decide)) tk (pa_consU (pu_var 1) pa_nilU)))))))
/-! Reel.out -/
abbrev t_Reel_out : Stmt := inClass (top 23) 3
theorem sc_Reel_out : FnScope ["self", "begin", "end", "middle"] ["self", "begin", "end"] (defScope t_Reel_out) := ⟨rfl, rfl, rfl, by decide +kernel, rfl, by decide +kernel, by decide +kernel⟩
def u_Reel_out : US :=
    (sSeq (sAsgO 3 (uCallO 3 S_taken (uCons (uFld "Reel" "now" (uVar 0)) (uCons (uVar 1) (uCons (uVar 2) uNil)))))
    (sSeq (sExpr (uMeth "Reel" "turn" 2 S_Reel_turn (uVar 0) (uCons (uBin dAdd (uFz (uCallO 3 S_taken (uCons (uFld "Reel" "now" (uVar 0)) (uCons (uTup (uCons (uC (.int 0)) (uCons (uC (.int 1)) uNil))) (uCons (uVar 1) uNil))))) (uFz (uCallO 3 S_taken (uCons (uFld "Reel" "now" (uVar 0)) (uCons (uVar 2) (uCons (uCall 1 S_length (uCons (uFld "Reel" "now" (uVar 0)) uNil)) uNil)))))) uNil)))
    (sRetO (uMv 3))))
def S_Reel_out : FN := defO 4 u_Reel_out
theorem ok_Reel_out (c_Reel : Cls K (cls "Reel")) (n_Reel_now : NoAttr K (cls "Reel") "now") (h_taken : Has P w K mg base "taken" ["show", "begin", "end"] 5 (spO (gK K cls) 3 S_taken)) (h_Reel_turn : HasM P w K mg base (cls "Reel") "turn" ["self", "newer"] 2 (spU (gK K cls) 2 S_Reel_turn)) (h_length : Has P w K mg base "length" ["show"] 4 (spU (gK K cls) 1 S_length)) {f : Addr} {fd : FuncData} (F : Fun K "out" "Reel.out" t_Reel_out f fd) :
    FnOk P w K mg base (L2.CX P w) 6 f fd ["self", "begin", "end"] (spO (gK K cls) 3 S_Reel_out) := by
  refine fnO (N := ["self", "begin", "end", "middle"]) F sc_Reel_out (by decide) fun cdv A outer s H E hr tk => ?_
  exact (pss_consU (ps_asgO 3 sc_Reel_out.nd (pu_callO h_taken (hr.mono (by decide)) tk (pa_consU (pu_fld (g := gK K cls) "Reel" "now" c_Reel n_Reel_now (pu_var 0)) (pa_consU (pu_var 1) (pa_consU (pu_var 2) pa_nilU)))))
    (pss_consU (ps_exprU (pu_mth (g := gK K cls) h_Reel_turn c_Reel (hr.mono (by decide)) tk (pu_var 0) (pa_consU (pu_bin op_addU s_add (pu_fz (pu_callO h_taken (hr.mono (by decide)) tk (pa_consU (pu_fld (g := gK K cls) "Reel" "now" c_Reel n_Reel_now (pu_var 0)) (pa_consU (pu_tup (pa_consU pu_int (pa_consU pu_int pa_nilU))) (pa_consU (pu_var 1) pa_nilU))))) (pu_fz (pu_callO h_taken (hr.mono (by decide)) tk (pa_consU (pu_fld (g := gK K cls) "Reel" "now" c_Reel n_Reel_now (pu_var 0)) (pa_consU (pu_var 2) (pa_consU (pu_call h_length (hr.mono (by decide)) tk (pa_consU (pu_fld (g := gK K cls) "Reel" "now" c_Reel n_Reel_now (pu_var 0)) pa_nilU)) pa_nilU)))))) pa_nilU)))
    (pss_oneU (ps_retO (pu_mv 3)))))
/-! Reel.into -/
abbrev t_Reel_into : Stmt := inClass (top 23) 4
theorem sc_Reel_into : FnScope ["self", "time", "other", "first"] ["self", "time", "other"] (defScope t_Reel_into) := ⟨rfl, rfl, rfl, by decide +kernel, rfl, by decide +kernel, by decide +kernel⟩
def u_Reel_into : US :=
    (sSeq (sAsg 3 (uFz (uCallO 3 S_taken (uCons (uFld "Reel" "now" (uVar 0)) (uCons (uTup (uCons (uC (.int 0)) (uCons (uC (.int 1)) uNil))) (uCons (uVar 1) uNil))))))
    (sExpr (uMeth "Reel" "turn" 2 S_Reel_turn (uVar 0) (uCons (uBin dAdd (uBin dAdd (uVar 3) (uVar 2)) (uFz (uCallO 3 S_taken (uCons (uFld "Reel" "now" (uVar 0)) (uCons (uVar 1) (uCons (uCall 1 S_length (uCons (uFld "Reel" "now" (uVar 0)) uNil)) uNil)))))) uNil))))
def S_Reel_into : FN := defU 4 u_Reel_into
theorem ok_Reel_into (c_Reel : Cls K (cls "Reel")) (n_Reel_now : NoAttr K (cls "Reel") "now") (h_taken : Has P w K mg base "taken" ["show", "begin", "end"] 5 (spO (gK K cls) 3 S_taken)) (h_Reel_turn : HasM P w K mg base (cls "Reel") "turn" ["self", "newer"] 2 (spU (gK K cls) 2 S_Reel_turn)) (h_length : Has P w K mg base "length" ["show"] 4 (spU (gK K cls) 1 S_length)) {f : Addr} {fd : FuncData} (F : Fun K "into" "Reel.into" t_Reel_into f fd) :
    FnOk P w K mg base (L2.CX P w) 6 f fd ["self", "time", "other"] (spU (gK K cls) 3 S_Reel_into) := by
  refine fnU (N := ["self", "time", "other", "first"]) F sc_Reel_into (by decide) fun cdv A outer s H E hr tk => ?_
  exact (pss_consU (ps_asgU 3 sc_Reel_into.nd (pu_fz (pu_callO h_taken (hr.mono (by decide)) tk (pa_consU (pu_fld (g := gK K cls) "Reel" "now" c_Reel n_Reel_now (pu_var 0)) (pa_consU (pu_tup (pa_consU pu_int (pa_consU pu_int pa_nilU))) (pa_consU (pu_var 1) pa_nilU))))))
    (pss_oneU (ps_exprU (pu_mth (g := gK K cls) h_Reel_turn c_Reel (hr.mono (by decide)) tk (pu_var 0) (pa_consU (pu_bin op_addU s_add (pu_bin op_addU s_add (pu_var 3) (pu_var 2)) (pu_fz (pu_callO h_taken (hr.mono (by decide)) tk (pa_consU (pu_fld (g := gK K cls) "Reel" "now" c_Reel n_Reel_now (pu_var 0)) (pa_consU (pu_var 1) (pa_consU (pu_call h_length (hr.mono (by decide)) tk (pa_consU (pu_fld (g := gK K cls) "Reel" "now" c_Reel n_Reel_now (pu_var 0)) pa_nilU)) pa_nilU)))))) pa_nilU)))))
/-! Reel.faster -/
abbrev t_Reel_faster : Stmt := inClass (top 23) 5
theorem sc_Reel_faster : FnScope ["self", "begin", "end", "factor", "middle", "last"] ["self", "begin", "end", "factor"] (defScope t_Reel_faster) := ⟨rfl, rfl, rfl, by decide +kernel, rfl, by decide +kernel, by decide +kernel⟩
def u_Reel_faster : US :=
    (sSeq (sAsg 4 (uFz (uCallO 3 S_taken (uCons (uFld "Reel" "now" (uVar 0)) (uCons (uVar 1) (uCons (uVar 2) uNil))))))
    (sSeq (sAsg 5 (uFz (uCallO 3 S_taken (uCons (uFld "Reel" "now" (uVar 0)) (uCons (uVar 2) (uCons (uCall 1 S_length (uCons (uFld "Reel" "now" (uVar 0)) uNil)) uNil))))))
    (sExpr (uMeth "Reel" "turn" 2 S_Reel_turn (uVar 0) (uCons (uBin dAdd (uBin dAdd (uFz (uCallO 3 S_taken (uCons (uFld "Reel" "now" (uVar 0)) (uCons (uTup (uCons (uC (.int 0)) (uCons (uC (.int 1)) uNil))) (uCons (uVar 1) uNil))))) (uFz (uCallO 2 S_paced (uCons (uVar 4) (uCons (uVar 3) uNil))))) (uVar 5)) uNil)))))
def S_Reel_faster : FN := defU 6 u_Reel_faster
theorem ok_Reel_faster (c_Reel : Cls K (cls "Reel")) (n_Reel_now : NoAttr K (cls "Reel") "now") (h_taken : Has P w K mg base "taken" ["show", "begin", "end"] 5 (spO (gK K cls) 3 S_taken)) (h_length : Has P w K mg base "length" ["show"] 4 (spU (gK K cls) 1 S_length)) (h_Reel_turn : HasM P w K mg base (cls "Reel") "turn" ["self", "newer"] 2 (spU (gK K cls) 2 S_Reel_turn)) (h_paced : Has P w K mg base "paced" ["show", "factor"] 3 (spO (gK K cls) 2 S_paced)) {f : Addr} {fd : FuncData} (F : Fun K "faster" "Reel.faster" t_Reel_faster f fd) :
    FnOk P w K mg base (L2.CX P w) 6 f fd ["self", "begin", "end", "factor"] (spU (gK K cls) 4 S_Reel_faster) := by
  refine fnU (N := ["self", "begin", "end", "factor", "middle", "last"]) F sc_Reel_faster (by decide) fun cdv A outer s H E hr tk => ?_
  exact (pss_consU (ps_asgU 4 sc_Reel_faster.nd (pu_fz (pu_callO h_taken (hr.mono (by decide)) tk (pa_consU (pu_fld (g := gK K cls) "Reel" "now" c_Reel n_Reel_now (pu_var 0)) (pa_consU (pu_var 1) (pa_consU (pu_var 2) pa_nilU))))))
    (pss_consU (ps_asgU 5 sc_Reel_faster.nd (pu_fz (pu_callO h_taken (hr.mono (by decide)) tk (pa_consU (pu_fld (g := gK K cls) "Reel" "now" c_Reel n_Reel_now (pu_var 0)) (pa_consU (pu_var 2) (pa_consU (pu_call h_length (hr.mono (by decide)) tk (pa_consU (pu_fld (g := gK K cls) "Reel" "now" c_Reel n_Reel_now (pu_var 0)) pa_nilU)) pa_nilU))))))
    (pss_oneU (ps_exprU (pu_mth (g := gK K cls) h_Reel_turn c_Reel (hr.mono (by decide)) tk (pu_var 0) (pa_consU (pu_bin op_addU s_add (pu_bin op_addU s_add (pu_fz (pu_callO h_taken (hr.mono (by decide)) tk (pa_consU (pu_fld (g := gK K cls) "Reel" "now" c_Reel n_Reel_now (pu_var 0)) (pa_consU (pu_tup (pa_consU pu_int (pa_consU pu_int pa_nilU))) (pa_consU (pu_var 1) pa_nilU))))) (pu_fz (pu_callO h_paced (hr.mono (by decide)) tk (pa_consU (pu_var 4) (pa_consU (pu_var 3) pa_nilU))))) (pu_var 5)) pa_nilU))))))
/-! Reel.back -/
abbrev t_Reel_back : Stmt := inClass (top 23) 6
theorem sc_Reel_back : FnScope ["self"] ["self"] (defScope t_Reel_back) := ⟨rfl, rfl, rfl, by decide +kernel, rfl, by decide +kernel, by decide +kernel⟩
def u_Reel_back : US :=
    (sSeq (sIf (uB (uBinL dEq (uFld "Reel" "elder" (uVar 0)) (uLst uNil))) (sRaise ⟨"NoDeed", []⟩) sNext)
    (sSeq (sExpr (uMeL (uFld "Reel" "undone" (uVar 0)) mAppend (uCons (uFld "Reel" "now" (uVar 0)) uNil)))
    (sFldU "Reel" "now" (uVar 0) (uMeL (uFld "Reel" "elder" (uVar 0)) mPop uNil))))
def S_Reel_back : FN := defU 1 u_Reel_back
theorem ok_Reel_back (c_Reel : Cls K (cls "Reel")) (n_Reel_elder : NoAttr K (cls "Reel") "elder") (x_NoDeed : ExM K mg cls "NoDeed") (n_Reel_undone : NoAttr K (cls "Reel") "undone") (n_Reel_now : NoAttr K (cls "Reel") "now") {f : Addr} {fd : FuncData} (F : Fun K "back" "Reel.back" t_Reel_back f fd) :
    FnOk P w K mg base (L2.CX P w) 1 f fd ["self"] (spU (gK K cls) 1 S_Reel_back) := by
  refine fnU (N := ["self"]) F sc_Reel_back (by decide) fun cdv A outer s H E hr tk => ?_
  exact (pss_consU (ps_ifU (pt_cmpL (op_eqU hr.units) s_eq (pu_fld (g := gK K cls) "Reel" "elder" c_Reel n_Reel_elder (pu_var 0)) (pu_lst pa_nilU) (nomark _)) (pss_oneU (ps_raiseU x_NoDeed rfl tk rfl)) pss_nilU)
    (pss_consU (ps_exprU (pu_meL PySem.F.slot_list_append PySem.F.type_list_append mt_append u_append (pu_fld (g := gK K cls) "Reel" "undone" c_Reel n_Reel_undone (pu_var 0)) (pa_consU (pu_fld (g := gK K cls) "Reel" "now" c_Reel n_Reel_now (pu_var 0)) pa_nilU)))
    (pss_oneU (ps_fldU (g := gK K cls) "Reel" "now" c_Reel n_Reel_now (pu_var 0) (pu_meL0 PySem.F.slot_list_pop PySem.F.type_list_pop mt_pop u_pop (pu_fld (g := gK K cls) "Reel" "elder" c_Reel n_Reel_elder (pu_var 0)))))))
/-! Reel.again -/
abbrev t_Reel_again : Stmt := inClass (top 23) 7
theorem sc_Reel_again : FnScope ["self"] ["self"] (defScope t_Reel_again) := ⟨rfl, rfl, rfl, by decide +kernel, rfl, by decide +kernel, by decide +kernel⟩
def u_Reel_again : US :=
    (sSeq (sIf (uB (uBinL dEq (uFld "Reel" "undone" (uVar 0)) (uLst uNil))) (sRaise ⟨"NoDeed", []⟩) sNext)
    (sSeq (sExpr (uMeL (uFld "Reel" "elder" (uVar 0)) mAppend (uCons (uFld "Reel" "now" (uVar 0)) uNil)))
    (sFldU "Reel" "now" (uVar 0) (uMeL (uFld "Reel" "undone" (uVar 0)) mPop uNil))))
def S_Reel_again : FN := defU 1 u_Reel_again
theorem ok_Reel_again (c_Reel : Cls K (cls "Reel")) (n_Reel_undone : NoAttr K (cls "Reel") "undone") (x_NoDeed : ExM K mg cls "NoDeed") (n_Reel_elder : NoAttr K (cls "Reel") "elder") (n_Reel_now : NoAttr K (cls "Reel") "now") {f : Addr} {fd : FuncData} (F : Fun K "again" "Reel.again" t_Reel_again f fd) :
    FnOk P w K mg base (L2.CX P w) 1 f fd ["self"] (spU (gK K cls) 1 S_Reel_again) := by
  refine fnU (N := ["self"]) F sc_Reel_again (by decide) fun cdv A outer s H E hr tk => ?_
  exact (pss_consU (ps_ifU (pt_cmpL (op_eqU hr.units) s_eq (pu_fld (g := gK K cls) "Reel" "undone" c_Reel n_Reel_undone (pu_var 0)) (pu_lst pa_nilU) (nomark _)) (pss_oneU (ps_raiseU x_NoDeed rfl tk rfl)) pss_nilU)
    (pss_consU (ps_exprU (pu_meL PySem.F.slot_list_append PySem.F.type_list_append mt_append u_append (pu_fld (g := gK K cls) "Reel" "elder" c_Reel n_Reel_elder (pu_var 0)) (pa_consU (pu_fld (g := gK K cls) "Reel" "now" c_Reel n_Reel_now (pu_var 0)) pa_nilU)))
    (pss_oneU (ps_fldU (g := gK K cls) "Reel" "now" c_Reel n_Reel_now (pu_var 0) (pu_meL0 PySem.F.slot_list_pop PySem.F.type_list_pop mt_pop u_pop (pu_fld (g := gK K cls) "Reel" "undone" c_Reel n_Reel_undone (pu_var 0)))))))
/-! _law_begun -/
abbrev t_law_begun : Stmt := top 25
theorem sc_law_begun : FnScope ["_law_script", "_law_stirred", "_law_cell"] ["_law_script"] (defScope t_law_begun) := ⟨rfl, rfl, rfl, by decide +kernel, rfl, by decide +kernel, by decide +kernel⟩
def u_law_begun : US :=
    (sSeq (sAsg 1 (uC (.int 0)))
    (sSeq (sFor (iLst (uVar 0)) (gN 2) (sAsg 1 (uBin dMod (uBin dAdd (uBin dAdd (uBin dMul (uVar 1) (uC (.int 48271))) (uBin dMul (uVar 2) (uC (.int 69621)))) (uC (.int 11))) (uC (.int 2147483647)))))
    (sRet (uNew (uLstO (uCons (uNew (uFnO fList (uCons (uVar 0) uNil))) (uCons (uBin dMul (uVar 1) (uFn fInt (uCons (uBin dGt (uFn fLen (uCons (uVar 0) uNil)) (uC (.int 2))) uNil))) uNil)))))))
def S_law_begun : FN := defU 3 u_law_begun
theorem ok_law_begun (m_list : mg "list" = none) (m_int : mg "int" = none) (m_len : mg "len" = none) {f : Addr} {fd : FuncData} (F : Fun K "_law_begun" "_law_begun" t_law_begun f fd) :
    FnOk P w K mg base (L2.CX P w) 1 f fd ["_law_script"] (spU (gK K cls) 1 S_law_begun) := by
  refine fnU (N := ["_law_script", "_law_stirred", "_law_cell"]) F sc_law_begun (by decide) fun cdv A outer s H E hr tk => ?_
  exact (pss_consU (ps_asgU 1 sc_law_begun.nd pu_int)
    (pss_consU (ps_forU (passes_of rfl) rfl (pi_listU rfl (pu_var 0)) (pg_nameU 2 sc_law_begun.nd) (pss_oneU (ps_asgU 1 sc_law_begun.nd (pu_bin op_modN s_mod (pu_bin op_addU s_add (pu_bin op_addU s_add (pu_bin op_mulU s_mul (pu_var 1) pu_int) (pu_bin op_mulU s_mul (pu_var 2) pu_int)) pu_int) pu_int))))
    (pss_oneU (ps_retU (pu_new (pu_lstO (pa_consU (pu_new (pu_list rfl m_list (pa_consU (pu_var 0) pa_nilU))) (pa_consU (pu_bin op_mulU s_mul (pu_var 1) (pu_fnT call_int1 s_int m_int (by decide +kernel) (pa_consU (pu_cmp op_gt s_gt (pu_fn call_lenU s_len m_len PySem.boot_len (pa_consU (pu_var 0) pa_nilU)) pu_int (nomark _)) pa_nilU))) pa_nilU))))))))
/-! _law_take -/
abbrev t_law_take : Stmt := top 26
theorem sc_law_take : FnScope ["_law_box", "_law_many", "_law_number"] ["_law_box", "_law_many"] (defScope t_law_take) := ⟨rfl, rfl, rfl, by decide +kernel, rfl, by decide +kernel, by decide +kernel⟩
def u_law_take : US :=
    (sSeq (sIf (uB (uBinL dEq (uBinL dIx (uVar 0) (uC (.int 0))) (uLst uNil))) (sSeq (sSetL (uVar 0) (uC (.int 1)) (uBin dMod (uBin dMul (uBinL dIx (uVar 0) (uC (.int 1))) (uC (.int 48271))) (uC (.int 2147483647))))
    (sRet (uBin dMod (uBin dDiv (uBinL dIx (uVar 0) (uC (.int 1))) (uC (.int 7))) (uVar 1)))) sNext)
    (sSeq (sAsg 2 (uBinL dIx (uBinL dIx (uVar 0) (uC (.int 0))) (uC (.int 0))))
    (sSeq (sSetL (uBinL dIx (uVar 0) (uC (.int 0))) (uC (.int 0)) (uBin dDiv (uVar 2) (uVar 1)))
    (sSeq (sIf (uOr (uB (uBin dEq (uBinL dIx (uBinL dIx (uVar 0) (uC (.int 0))) (uC (.int 0))) (uC (.int 0)))) (uB (uBin dEq (uBinL dIx (uBinL dIx (uVar 0) (uC (.int 0))) (uC (.int 0))) (uUn dNeg (uC (.int 1)))))) (sExpr (uMeL (uBinL dIx (uVar 0) (uC (.int 0))) mPopAt (uCons (uC (.int 0)) uNil))) sNext)
    (sRet (uBin dMod (uVar 2) (uVar 1)))))))
def S_law_take : FN := defU 3 u_law_take
theorem ok_law_take {f : Addr} {fd : FuncData} (F : Fun K "_law_take" "_law_take" t_law_take f fd) :
    FnOk P w K mg base (L2.CX P w) 1 f fd ["_law_box", "_law_many"] (spU (gK K cls) 2 S_law_take) := by
  refine fnU (N := ["_law_box", "_law_many", "_law_number"]) F sc_law_take (by decide) fun cdv A outer s H E hr tk => ?_
  exact (pss_consU (ps_ifU (pt_cmpL (op_eqU hr.units) s_eq (pu_ixL ix_seq s_ix (pu_var 0) pu_int) (pu_lst pa_nilU) (nomark _)) (pss_consU (ps_setL (pu_bin op_modN s_mod (pu_bin op_mulU s_mul (pu_ixL ix_seq s_ix (pu_var 0) pu_int) pu_int) pu_int) (pu_var 0) pu_int)
    (pss_oneU (ps_retU (pu_bin op_modN s_mod (pu_bin op_fdivU s_div (pu_ixL ix_seq s_ix (pu_var 0) pu_int) pu_int) (pu_var 1))))) pss_nilU)
    (pss_consU (ps_asgU 2 sc_law_take.nd (pu_ixL ix_seq s_ix (pu_ixL ix_seq s_ix (pu_var 0) pu_int) pu_int))
    (pss_consU (ps_setL (pu_bin op_fdivU s_div (pu_var 2) (pu_var 1)) (pu_ixL ix_seq s_ix (pu_var 0) pu_int) pu_int)
    (pss_consU (ps_ifU (PW.pt (pw_orU (pt_cmpU (op_eqU hr.units) s_eq (pu_ixL ix_seq s_ix (pu_ixL ix_seq s_ix (pu_var 0) pu_int) pu_int) pu_int (nomark _)) (pw_or1U (pt_cmpU (op_eqU hr.units) s_eq (pu_ixL ix_seq s_ix (pu_ixL ix_seq s_ix (pu_var 0) pu_int) pu_int) (pu_un un_neg s_neg pu_int) (nomark _))))) (pss_oneU (ps_exprU (pu_meL PySem.F.slot_list_pop PySem.F.type_list_pop mt_popAt u_popAt (pu_ixL ix_seq s_ix (pu_var 0) pu_int) (pa_consU pu_int pa_nilU)))) pss_nilU)
    (pss_oneU (ps_retU (pu_bin op_modN s_mod (pu_var 2) (pu_var 1))))))))
/-! _law_alike -/
abbrev t_law_alike : Stmt := top 27
theorem sc_law_alike : FnScope ["_law_found", "_law_due", "_law_k"] ["_law_found", "_law_due"] (defScope t_law_alike) := ⟨rfl, rfl, rfl, by decide +kernel, rfl, by decide +kernel, by decide +kernel⟩
def u_law_alike (rec : FN) : US :=
    (sSeq (sIf (uB (uBin dIs (uVar 1) (uC .non))) (sRet (uBin dIs (uVar 0) (uC .non))) sNext)
    (sSeq (sIf (uB (uUn (dIsi "bool") (uVar 1))) (sRet (uAndV (uUn (dIsi "bool") (uVar 0)) (uBin dEq (uVar 0) (uVar 1)))) sNext)
    (sSeq (sIf (uB (uUn (dIsi "int") (uVar 1))) (sRet (uAndV (uUn (dIsi "int") (uVar 0)) (uAndV (uNotV (uUn (dIsi "bool") (uVar 0))) (uBin dEq (uVar 0) (uVar 1))))) sNext)
    (sSeq (sIf (uB (uUn (dIsi "str") (uVar 1))) (sRet (uAndV (uUn (dIsi "str") (uVar 0)) (uBin dEq (uVar 0) (uVar 1)))) sNext)
    (sSeq (sIf (uOr (uB (uBin dNe (uUn (dIsi "tuple") (uVar 1)) (uUn (dIsi "tuple") (uVar 0)))) (uB (uBin dNe (uUn (dIsi "list") (uVar 1)) (uUn (dIsi "list") (uVar 0))))) (sRet (uC (.bl false))) sNext)
    (sSeq (sIf (uB (uBin dNe (uFn fLen (uCons (uVar 0) uNil)) (uFn fLen (uCons (uVar 1) uNil)))) (sRet (uC (.bl false))) sNext)
    (sSeq (sFor (iFn fRng1 (uCons (uFn fLen (uCons (uVar 1) uNil)) uNil)) (gN 2) (sIf (uNot (uB (uCall 2 rec (uCons (uBin dIx (uVar 0) (uVar 2)) (uCons (uBin dIx (uVar 1) (uVar 2)) uNil))))) (sRet (uC (.bl false))) sNext))
    (sRet (uC (.bl true))))))))))
def R_law_alike : Nat → FN
  | 0 => fun _ _ => .no
  | n + 1 => defU 3 (u_law_alike (R_law_alike n))
def S_law_alike : FN := R_law_alike 11
theorem ok_law_alike (m_isinstance : mg "isinstance" = none) (m_bool : mg "bool" = none) (m_int : mg "int" = none) (m_str : mg "str" = none) (m_tuple : mg "tuple" = none) (m_list : mg "list" = none) (m_len : mg "len" = none) (m_range : mg "range" = none) {f : Addr} {fd : FuncData} (F : Fun K "_law_alike" "_law_alike" t_law_alike f fd) (hm : mg "_law_alike" = some (.ref f)) (hb : Binds K fd ["_law_found", "_law_due"] []) :
    ∀ n : Nat, FnOk P w K mg base (L2.CX P w) (n + 1) f fd ["_law_found", "_law_due"] (spU (gK K cls) 2 (R_law_alike n))
  | 0 => fnNo
  | n + 1 => by
    have h_rec : Has P w K mg base "_law_alike" ["_law_found", "_law_due"] (n + 1) (spU (gK K cls) 2 (R_law_alike n)) := ⟨f, fd, hm, F.kp, hb, ok_law_alike m_isinstance m_bool m_int m_str m_tuple m_list m_len m_range F hm hb n⟩
    refine fnU (N := ["_law_found", "_law_due", "_law_k"]) F sc_law_alike (by decide) fun cdv A outer s H E hr tk => ?_
    exact (pss_consU (ps_ifU (pt_cmpU op_isN s_is (pu_var 1) pu_non (nomark _)) (pss_oneU (ps_retU (pu_cmp op_isN s_is (pu_var 0) pu_non (nomark _)))) pss_nilU)
    (pss_consU (ps_ifU (pt_of (pu_isi "bool" m_isinstance m_bool (by decide +kernel) rfl (pu_var 1))) (pss_oneU (ps_retU (pu_and (pu_isi "bool" m_isinstance m_bool (by decide +kernel) rfl (pu_var 0)) (pu_one (pu_cmp (op_eqU hr.units) s_eq (pu_var 0) (pu_var 1) (nomark _)))))) pss_nilU)
    (pss_consU (ps_ifU (pt_of (pu_isi "int" m_isinstance m_int (by decide +kernel) rfl (pu_var 1))) (pss_oneU (ps_retU (pu_and (pu_isi "int" m_isinstance m_int (by decide +kernel) rfl (pu_var 0)) (pu_and (pu_not (pu_isi "bool" m_isinstance m_bool (by decide +kernel) rfl (pu_var 0))) (pu_one (pu_cmp (op_eqU hr.units) s_eq (pu_var 0) (pu_var 1) (nomark _))))))) pss_nilU)
    (pss_consU (ps_ifU (pt_of (pu_isi "str" m_isinstance m_str (by decide +kernel) rfl (pu_var 1))) (pss_oneU (ps_retU (pu_and (pu_isi "str" m_isinstance m_str (by decide +kernel) rfl (pu_var 0)) (pu_one (pu_cmp (op_eqU hr.units) s_eq (pu_var 0) (pu_var 1) (nomark _)))))) pss_nilU)
    (pss_consU (ps_ifU (PW.pt (pw_orU (pt_cmpU (op_neU hr.units) s_ne (pu_isi "tuple" m_isinstance m_tuple (by decide +kernel) rfl (pu_var 1)) (pu_isi "tuple" m_isinstance m_tuple (by decide +kernel) rfl (pu_var 0)) (nomark _)) (pw_or1U (pt_cmpU (op_neU hr.units) s_ne (pu_isi "list" m_isinstance m_list (by decide +kernel) rfl (pu_var 1)) (pu_isi "list" m_isinstance m_list (by decide +kernel) rfl (pu_var 0)) (nomark _))))) (pss_oneU (ps_retU pu_bl)) pss_nilU)
    (pss_consU (ps_ifU (pt_cmpU (op_neU hr.units) s_ne (pu_fn call_lenU s_len m_len PySem.boot_len (pa_consU (pu_var 0) pa_nilU)) (pu_fn call_lenU s_len m_len PySem.boot_len (pa_consU (pu_var 1) pa_nilU)) (nomark _)) (pss_oneU (ps_retU pu_bl)) pss_nilU)
    (pss_consU (ps_forU (passes_of rfl) rfl (pi_rng1 m_range (pa_consU (pu_fn call_lenU s_len m_len PySem.boot_len (pa_consU (pu_var 1) pa_nilU)) pa_nilU)) (pg_nameU 2 sc_law_alike.nd) (pss_oneU (ps_ifU (pt_notU (pt_of (pu_call h_rec (hr.mono (by omega)) tk (pa_consU (pu_ix ix_seq s_ix (pu_var 0) (pu_var 2)) (pa_consU (pu_ix ix_seq s_ix (pu_var 1) (pu_var 2)) pa_nilU))))) (pss_oneU (ps_retU pu_bl)) pss_nilU)))
    (pss_oneU (ps_retU pu_bl)))))))))
/-! _law_fr -/
abbrev t_law_fr : Stmt := top 28
theorem sc_law_fr : FnScope ["_law_top", "_law_bottom", "_law_one_here", "_law_two", "_law_rest"] ["_law_top", "_law_bottom"] (defScope t_law_fr) := ⟨rfl, rfl, rfl, by decide +kernel, rfl, by decide +kernel, by decide +kernel⟩
def u_law_fr : US :=
    (sSeq (sAsg 2 (uFn fAbs (uCons (uVar 0) uNil)))
    (sSeq (sAsg 3 (uFn fAbs (uCons (uVar 1) uNil)))
    (sSeq (sWhile (fuelI 3) (uB (uBin dGt (uVar 3) (uC (.int 0)))) (sSeq (sAsg 4 (uBin dMod (uVar 2) (uVar 3)))
    (sSeq (sAsg 2 (uVar 3))
    (sAsg 3 (uVar 4)))))
    (sSeq (sIf (uB (uBin dLt (uVar 1) (uC (.int 0)))) (sAsg 2 (uBin dSub (uC (.int 0)) (uVar 2))) sNext)
    (sRet (uTup (uCons (uBin dDiv (uVar 0) (uVar 2)) (uCons (uBin dDiv (uVar 1) (uVar 2)) uNil))))))))
def S_law_fr : FN := defU 5 u_law_fr
theorem ok_law_fr (m_abs : mg "abs" = none) {f : Addr} {fd : FuncData} (F : Fun K "_law_fr" "_law_fr" t_law_fr f fd) :
    FnOk P w K mg base (L2.CX P w) 1 f fd ["_law_top", "_law_bottom"] (spU (gK K cls) 2 S_law_fr) := by
  refine fnU (N := ["_law_top", "_law_bottom", "_law_one_here", "_law_two", "_law_rest"]) F sc_law_fr (by decide) fun cdv A outer s H E hr tk => ?_
  exact (pss_consU (ps_asgU 2 sc_law_fr.nd (pu_fn call_abs s_abs m_abs boot_abs (pa_consU (pu_var 0) pa_nilU)))
    (pss_consU (ps_asgU 3 sc_law_fr.nd (pu_fn call_abs s_abs m_abs boot_abs (pa_consU (pu_var 1) pa_nilU)))
    (pss_consU (ps_whileU (fuelI 3) (passes_of rfl) (pt_cmpU op_gt s_gt (pu_var 3) pu_int (nomark _)) (pss_consU (ps_asgU 4 sc_law_fr.nd (pu_bin op_modN s_mod (pu_var 2) (pu_var 3)))
    (pss_consU (ps_asgU 2 sc_law_fr.nd (pu_var 3))
    (pss_oneU (ps_asgU 3 sc_law_fr.nd (pu_var 4))))))
    (pss_consU (ps_ifU (pt_cmpU op_lt s_lt (pu_var 1) pu_int (nomark _)) (pss_oneU (ps_asgU 2 sc_law_fr.nd (pu_bin op_sub s_sub pu_int (pu_var 2)))) pss_nilU)
    (pss_oneU (ps_retU (pu_tup (pa_consU (pu_bin op_fdivU s_div (pu_var 0) (pu_var 2)) (pa_consU (pu_bin op_fdivU s_div (pu_var 1) (pu_var 2)) pa_nilU)))))))))
/-! _law_sum -/
abbrev t_law_sum : Stmt := top 29
theorem sc_law_sum : FnScope ["_law_one_here", "_law_two"] ["_law_one_here", "_law_two"] (defScope t_law_sum) := ⟨rfl, rfl, rfl, by decide +kernel, rfl, by decide +kernel, by decide +kernel⟩
def u_law_sum : US :=
    (sRet (uCall 2 S_law_fr (uCons (uBin dAdd (uBin dMul (uBin dIx (uVar 0) (uC (.int 0))) (uBin dIx (uVar 1) (uC (.int 1)))) (uBin dMul (uBin dIx (uVar 1) (uC (.int 0))) (uBin dIx (uVar 0) (uC (.int 1))))) (uCons (uBin dMul (uBin dIx (uVar 0) (uC (.int 1))) (uBin dIx (uVar 1) (uC (.int 1)))) uNil))))
def S_law_sum : FN := defU 2 u_law_sum
theorem ok_law_sum (h_law_fr : Has P w K mg base "_law_fr" ["_law_top", "_law_bottom"] 1 (spU (gK K cls) 2 S_law_fr)) {f : Addr} {fd : FuncData} (F : Fun K "_law_sum" "_law_sum" t_law_sum f fd) :
    FnOk P w K mg base (L2.CX P w) 2 f fd ["_law_one_here", "_law_two"] (spU (gK K cls) 2 S_law_sum) := by
  refine fnU (N := ["_law_one_here", "_law_two"]) F sc_law_sum (by decide) fun cdv A outer s H E hr tk => ?_
  exact (pss_oneU (ps_retU (pu_call h_law_fr (hr.mono (by decide)) tk (pa_consU (pu_bin op_addU s_add (pu_bin op_mulU s_mul (pu_ix ix_seq s_ix (pu_var 0) pu_int) (pu_ix ix_seq s_ix (pu_var 1) pu_int)) (pu_bin op_mulU s_mul (pu_ix ix_seq s_ix (pu_var 1) pu_int) (pu_ix ix_seq s_ix (pu_var 0) pu_int))) (pa_consU (pu_bin op_mulU s_mul (pu_ix ix_seq s_ix (pu_var 0) pu_int) (pu_ix ix_seq s_ix (pu_var 1) pu_int)) pa_nilU)))))
/-! _law_minus -/
abbrev t_law_minus : Stmt := top 30
theorem sc_law_minus : FnScope ["_law_one_here", "_law_two"] ["_law_one_here", "_law_two"] (defScope t_law_minus) := ⟨rfl, rfl, rfl, by decide +kernel, rfl, by decide +kernel, by decide +kernel⟩
def u_law_minus : US :=
    (sRet (uCall 2 S_law_fr (uCons (uBin dSub (uBin dMul (uBin dIx (uVar 0) (uC (.int 0))) (uBin dIx (uVar 1) (uC (.int 1)))) (uBin dMul (uBin dIx (uVar 1) (uC (.int 0))) (uBin dIx (uVar 0) (uC (.int 1))))) (uCons (uBin dMul (uBin dIx (uVar 0) (uC (.int 1))) (uBin dIx (uVar 1) (uC (.int 1)))) uNil))))
def S_law_minus : FN := defU 2 u_law_minus
theorem ok_law_minus (h_law_fr : Has P w K mg base "_law_fr" ["_law_top", "_law_bottom"] 1 (spU (gK K cls) 2 S_law_fr)) {f : Addr} {fd : FuncData} (F : Fun K "_law_minus" "_law_minus" t_law_minus f fd) :
    FnOk P w K mg base (L2.CX P w) 2 f fd ["_law_one_here", "_law_two"] (spU (gK K cls) 2 S_law_minus) := by
  refine fnU (N := ["_law_one_here", "_law_two"]) F sc_law_minus (by decide) fun cdv A outer s H E hr tk => ?_
  exact (pss_oneU (ps_retU (pu_call h_law_fr (hr.mono (by decide)) tk (pa_consU (pu_bin op_sub s_sub (pu_bin op_mulU s_mul (pu_ix ix_seq s_ix (pu_var 0) pu_int) (pu_ix ix_seq s_ix (pu_var 1) pu_int)) (pu_bin op_mulU s_mul (pu_ix ix_seq s_ix (pu_var 1) pu_int) (pu_ix ix_seq s_ix (pu_var 0) pu_int))) (pa_consU (pu_bin op_mulU s_mul (pu_ix ix_seq s_ix (pu_var 0) pu_int) (pu_ix ix_seq s_ix (pu_var 1) pu_int)) pa_nilU)))))
/-! _law_times -/
abbrev t_law_times : Stmt := top 31
theorem sc_law_times : FnScope ["_law_one_here", "_law_two"] ["_law_one_here", "_law_two"] (defScope t_law_times) := ⟨rfl, rfl, rfl, by decide +kernel, rfl, by decide +kernel, by decide +kernel⟩
def u_law_times : US :=
    (sRet (uCall 2 S_law_fr (uCons (uBin dMul (uBin dIx (uVar 0) (uC (.int 0))) (uBin dIx (uVar 1) (uC (.int 0)))) (uCons (uBin dMul (uBin dIx (uVar 0) (uC (.int 1))) (uBin dIx (uVar 1) (uC (.int 1)))) uNil))))
def S_law_times : FN := defU 2 u_law_times
theorem ok_law_times (h_law_fr : Has P w K mg base "_law_fr" ["_law_top", "_law_bottom"] 1 (spU (gK K cls) 2 S_law_fr)) {f : Addr} {fd : FuncData} (F : Fun K "_law_times" "_law_times" t_law_times f fd) :
    FnOk P w K mg base (L2.CX P w) 2 f fd ["_law_one_here", "_law_two"] (spU (gK K cls) 2 S_law_times) := by
  refine fnU (N := ["_law_one_here", "_law_two"]) F sc_law_times (by decide) fun cdv A outer s H E hr tk => ?_
  exact (pss_oneU (ps_retU (pu_call h_law_fr (hr.mono (by decide)) tk (pa_consU (pu_bin op_mulU s_mul (pu_ix ix_seq s_ix (pu_var 0) pu_int) (pu_ix ix_seq s_ix (pu_var 1) pu_int)) (pa_consU (pu_bin op_mulU s_mul (pu_ix ix_seq s_ix (pu_var 0) pu_int) (pu_ix ix_seq s_ix (pu_var 1) pu_int)) pa_nilU)))))
/-! _law_by -/
abbrev t_law_by : Stmt := top 32
theorem sc_law_by : FnScope ["_law_one_here", "_law_two"] ["_law_one_here", "_law_two"] (defScope t_law_by) := ⟨rfl, rfl, rfl, by decide +kernel, rfl, by decide +kernel, by decide +kernel⟩
def u_law_by : US :=
    (sRet (uCall 2 S_law_fr (uCons (uBin dMul (uBin dIx (uVar 0) (uC (.int 0))) (uBin dIx (uVar 1) (uC (.int 1)))) (uCons (uBin dMul (uBin dIx (uVar 0) (uC (.int 1))) (uBin dIx (uVar 1) (uC (.int 0)))) uNil))))
def S_law_by : FN := defU 2 u_law_by
theorem ok_law_by (h_law_fr : Has P w K mg base "_law_fr" ["_law_top", "_law_bottom"] 1 (spU (gK K cls) 2 S_law_fr)) {f : Addr} {fd : FuncData} (F : Fun K "_law_by" "_law_by" t_law_by f fd) :
    FnOk P w K mg base (L2.CX P w) 2 f fd ["_law_one_here", "_law_two"] (spU (gK K cls) 2 S_law_by) := by
  refine fnU (N := ["_law_one_here", "_law_two"]) F sc_law_by (by decide) fun cdv A outer s H E hr tk => ?_
  exact (pss_oneU (ps_retU (pu_call h_law_fr (hr.mono (by decide)) tk (pa_consU (pu_bin op_mulU s_mul (pu_ix ix_seq s_ix (pu_var 0) pu_int) (pu_ix ix_seq s_ix (pu_var 1) pu_int)) (pa_consU (pu_bin op_mulU s_mul (pu_ix ix_seq s_ix (pu_var 0) pu_int) (pu_ix ix_seq s_ix (pu_var 1) pu_int)) pa_nilU)))))
/-! _law_low -/
abbrev t_law_low : Stmt := top 33
theorem sc_law_low : FnScope ["_law_one_here", "_law_two"] ["_law_one_here", "_law_two"] (defScope t_law_low) := ⟨rfl, rfl, rfl, by decide +kernel, rfl, by decide +kernel, by decide +kernel⟩
def u_law_low : US :=
    (sRet (uBin dLt (uBin dMul (uBin dIx (uVar 0) (uC (.int 0))) (uBin dIx (uVar 1) (uC (.int 1)))) (uBin dMul (uBin dIx (uVar 1) (uC (.int 0))) (uBin dIx (uVar 0) (uC (.int 1))))))
def S_law_low : FN := defU 2 u_law_low
theorem ok_law_low {f : Addr} {fd : FuncData} (F : Fun K "_law_low" "_law_low" t_law_low f fd) :
    FnOk P w K mg base (L2.CX P w) 1 f fd ["_law_one_here", "_law_two"] (spU (gK K cls) 2 S_law_low) := by
  refine fnU (N := ["_law_one_here", "_law_two"]) F sc_law_low (by decide) fun cdv A outer s H E hr tk => ?_
  exact (pss_oneU (ps_retU (pu_cmp op_lt s_lt (pu_bin op_mulU s_mul (pu_ix ix_seq s_ix (pu_var 0) pu_int) (pu_ix ix_seq s_ix (pu_var 1) pu_int)) (pu_bin op_mulU s_mul (pu_ix ix_seq s_ix (pu_var 1) pu_int) (pu_ix ix_seq s_ix (pu_var 0) pu_int)) (nomark _))))
/-! _law_time -/
abbrev t_law_time : Stmt := top 34
theorem sc_law_time : FnScope ["_law_box", "_law_most", "_law_top", "_law_bottom"] ["_law_box", "_law_most"] (defScope t_law_time) := ⟨rfl, rfl, rfl, by decide +kernel, rfl, by decide +kernel, by decide +kernel⟩
def u_law_time : US :=
    (sSeq (sAsg 2 (uCall 2 S_law_take (uCons (uVar 0) (uCons (uVar 1) uNil))))
    (sSeq (sIf (uB (uBin dEq (uCall 2 S_law_take (uCons (uVar 0) (uCons (uC (.int 2)) uNil))) (uC (.int 0)))) (sRet (uTup (uCons (uVar 2) (uCons (uC (.int 1)) uNil)))) sNext)
    (sSeq (sAsg 3 (uBin dAdd (uC (.int 1)) (uCall 2 S_law_take (uCons (uVar 0) (uCons (uBin dIx (uLst (uCons (uC (.int 6)) (uCons (uC (.int 30)) uNil))) (uFn fInt (uCons (uBin dEq (uCall 2 S_law_take (uCons (uVar 0) (uCons (uC (.int 6)) uNil))) (uC (.int 1))) uNil))) uNil)))))
    (sRet (uCall 2 S_law_fr (uCons (uVar 2) (uCons (uVar 3) uNil)))))))
def S_law_time : FN := defU 4 u_law_time
theorem ok_law_time (m_int : mg "int" = none) (h_law_take : Has P w K mg base "_law_take" ["_law_box", "_law_many"] 1 (spU (gK K cls) 2 S_law_take)) (h_law_fr : Has P w K mg base "_law_fr" ["_law_top", "_law_bottom"] 1 (spU (gK K cls) 2 S_law_fr)) {f : Addr} {fd : FuncData} (F : Fun K "_law_time" "_law_time" t_law_time f fd) :
    FnOk P w K mg base (L2.CX P w) 2 f fd ["_law_box", "_law_most"] (spU (gK K cls) 2 S_law_time) := by
  refine fnU (N := ["_law_box", "_law_most", "_law_top", "_law_bottom"]) F sc_law_time (by decide) fun cdv A outer s H E hr tk => ?_
  exact (pss_consU (ps_asgU 2 sc_law_time.nd (pu_call h_law_take (hr.mono (by decide)) tk (pa_consU (pu_var 0) (pa_consU (pu_var 1) pa_nilU))))
    (pss_consU (ps_ifU (pt_cmpU (op_eqU hr.units) s_eq (pu_call h_law_take (hr.mono (by decide)) tk (pa_consU (pu_var 0) (pa_consU pu_int pa_nilU))) pu_int (nomark _)) (pss_oneU (ps_retU (pu_tup (pa_consU (pu_var 2) (pa_consU pu_int pa_nilU))))) pss_nilU)
    (pss_consU (ps_asgU 3 sc_law_time.nd (pu_bin op_addU s_add pu_int (pu_call h_law_take (hr.mono (by decide)) tk (pa_consU (pu_var 0) (pa_consU (pu_ix ix_seq s_ix (pu_lst (pa_consU pu_int (pa_consU pu_int pa_nilU))) (pu_fnT call_int1 s_int m_int (by decide +kernel) (pa_consU (pu_cmp (op_eqU hr.units) s_eq (pu_call h_law_take (hr.mono (by decide)) tk (pa_consU (pu_var 0) (pa_consU pu_int pa_nilU))) pu_int (nomark _)) pa_nilU))) pa_nilU)))))
    (pss_oneU (ps_retU (pu_call h_law_fr (hr.mono (by decide)) tk (pa_consU (pu_var 2) (pa_consU (pu_var 3) pa_nilU))))))))
/-! _law_pace -/
abbrev t_law_pace : Stmt := top 35
theorem sc_law_pace : FnScope ["_law_box"] ["_law_box"] (defScope t_law_pace) := ⟨rfl, rfl, rfl, by decide +kernel, rfl, by decide +kernel, by decide +kernel⟩
def u_law_pace : US :=
    (sRet (uBin dIx (uLst (uCons (uTup (uCons (uC (.int 1)) (uCons (uC (.int 1)) uNil))) (uCons (uTup (uCons (uC (.int 2)) (uCons (uC (.int 1)) uNil))) (uCons (uTup (uCons (uC (.int 1)) (uCons (uC (.int 2)) uNil))) (uCons (uCall 2 S_law_fr (uCons (uBin dAdd (uC (.int 1)) (uCall 2 S_law_take (uCons (uVar 0) (uCons (uC (.int 9)) uNil)))) (uCons (uBin dAdd (uC (.int 1)) (uCall 2 S_law_take (uCons (uVar 0) (uCons (uC (.int 9)) uNil)))) uNil))) uNil))))) (uCall 2 S_law_take (uCons (uVar 0) (uCons (uC (.int 4)) uNil)))))
def S_law_pace : FN := defU 1 u_law_pace
theorem ok_law_pace (h_law_take : Has P w K mg base "_law_take" ["_law_box", "_law_many"] 1 (spU (gK K cls) 2 S_law_take)) (h_law_fr : Has P w K mg base "_law_fr" ["_law_top", "_law_bottom"] 1 (spU (gK K cls) 2 S_law_fr)) {f : Addr} {fd : FuncData} (F : Fun K "_law_pace" "_law_pace" t_law_pace f fd) :
    FnOk P w K mg base (L2.CX P w) 2 f fd ["_law_box"] (spU (gK K cls) 1 S_law_pace) := by
  refine fnU (N := ["_law_box"]) F sc_law_pace (by decide) fun cdv A outer s H E hr tk => ?_
  exact (pss_oneU (ps_retU (pu_ix ix_seq s_ix (pu_lst (pa_consU (pu_tup (pa_consU pu_int (pa_consU pu_int pa_nilU))) (pa_consU (pu_tup (pa_consU pu_int (pa_consU pu_int pa_nilU))) (pa_consU (pu_tup (pa_consU pu_int (pa_consU pu_int pa_nilU))) (pa_consU (pu_call h_law_fr (hr.mono (by decide)) tk (pa_consU (pu_bin op_addU s_add pu_int (pu_call h_law_take (hr.mono (by decide)) tk (pa_consU (pu_var 0) (pa_consU pu_int pa_nilU)))) (pa_consU (pu_bin op_addU s_add pu_int (pu_call h_law_take (hr.mono (by decide)) tk (pa_consU (pu_var 0) (pa_consU pu_int pa_nilU)))) pa_nilU))) pa_nilU))))) (pu_call h_law_take (hr.mono (by decide)) tk (pa_consU (pu_var 0) (pa_consU pu_int pa_nilU))))))
/-! _law_show -/
abbrev t_law_show : Stmt := top 36
theorem sc_law_show : FnScope ["_law_box", "_law_show_here", "_law_k", "_law_begin", "_law_pace_here"] ["_law_box"] (defScope t_law_show) := ⟨rfl, rfl, rfl, by decide +kernel, rfl, by decide +kernel, by decide +kernel⟩
def u_law_show : US :=
    (sSeq (sAsgO 1 (uLstO uNil))
    (sSeq (sFor (iFn fRng1 (uCons (uBin dIx (uLst (uCons (uCall 2 S_law_take (uCons (uVar 0) (uCons (uC (.int 4)) uNil))) (uCons (uCall 2 S_law_take (uCons (uVar 0) (uCons (uC (.int 7)) uNil))) uNil))) (uFn fInt (uCons (uBin dEq (uCall 2 S_law_take (uCons (uVar 0) (uCons (uC (.int 4)) uNil))) (uC (.int 1))) uNil))) uNil)) (gN 2) (sSeq (sAsg 3 (uCall 2 S_law_time (uCons (uVar 0) (uCons (uC (.int 60)) uNil))))
    (sSeq (sAsg 4 (uCall 1 S_law_pace (uCons (uVar 0) uNil)))
    (sSeq (sIf (uAnd (uB (uBinV dNe 1 (uLst uNil))) (uB (uBin dEq (uCall 2 S_law_take (uCons (uVar 0) (uCons (uC (.int 3)) uNil))) (uC (.int 1))))) (sSeq (sAsg 3 (uBin dIx (uBinV dIx 1 (uUn dNeg (uC (.int 1)))) (uC (.int 1))))
    (sAsg 4 (uBin dIx (uLst (uCons (uBin dIx (uBinV dIx 1 (uUn dNeg (uC (.int 1)))) (uC (.int 2))) (uCons (uVar 4) uNil))) (uFn fInt (uCons (uBin dEq (uCall 2 S_law_take (uCons (uVar 0) (uCons (uC (.int 3)) uNil))) (uC (.int 1))) uNil))))) sNext)
    (sExpr (uMeO 1 mAppend (uCons (uTup (uCons (uVar 3) (uCons (uCall 2 S_law_sum (uCons (uVar 3) (uCons (uCall 2 S_law_sum (uCons (uTup (uCons (uC (.int 1)) (uCons (uC (.int 2)) uNil))) (uCons (uCall 2 S_law_time (uCons (uVar 0) (uCons (uC (.int 30)) uNil))) uNil))) uNil))) (uCons (uVar 4) uNil)))) uNil)))))))
    (sRetO (uMv 1))))
def S_law_show : FN := defU 5 u_law_show
theorem ok_law_show (m_range : mg "range" = none) (m_int : mg "int" = none) (h_law_take : Has P w K mg base "_law_take" ["_law_box", "_law_many"] 1 (spU (gK K cls) 2 S_law_take)) (h_law_time : Has P w K mg base "_law_time" ["_law_box", "_law_most"] 2 (spU (gK K cls) 2 S_law_time)) (h_law_pace : Has P w K mg base "_law_pace" ["_law_box"] 2 (spU (gK K cls) 1 S_law_pace)) (h_law_sum : Has P w K mg base "_law_sum" ["_law_one_here", "_law_two"] 2 (spU (gK K cls) 2 S_law_sum)) {f : Addr} {fd : FuncData} (F : Fun K "_law_show" "_law_show" t_law_show f fd) :
    FnOk P w K mg base (L2.CX P w) 3 f fd ["_law_box"] (spU (gK K cls) 1 S_law_show) := by
  refine fnU (N := ["_law_box", "_law_show_here", "_law_k", "_law_begin", "_law_pace_here"]) F sc_law_show (by decide) fun cdv A outer s H E hr tk => ?_
  exact (pss_consU (ps_asgO 1 sc_law_show.nd (pu_lstO pa_nilU))
    (pss_consU (ps_forU (passes_of rfl) rfl (pi_rng1 m_range (pa_consU (pu_ix ix_seq s_ix (pu_lst (pa_consU (pu_call h_law_take (hr.mono (by decide)) tk (pa_consU (pu_var 0) (pa_consU pu_int pa_nilU))) (pa_consU (pu_call h_law_take (hr.mono (by decide)) tk (pa_consU (pu_var 0) (pa_consU pu_int pa_nilU))) pa_nilU))) (pu_fnT call_int1 s_int m_int (by decide +kernel) (pa_consU (pu_cmp (op_eqU hr.units) s_eq (pu_call h_law_take (hr.mono (by decide)) tk (pa_consU (pu_var 0) (pa_consU pu_int pa_nilU))) pu_int (nomark _)) pa_nilU))) pa_nilU)) (pg_nameU 2 sc_law_show.nd) (pss_consU (ps_asgU 3 sc_law_show.nd (pu_call h_law_time (hr.mono (by decide)) tk (pa_consU (pu_var 0) (pa_consU pu_int pa_nilU))))
    (pss_consU (ps_asgU 4 sc_law_show.nd (pu_call h_law_pace (hr.mono (by decide)) tk (pa_consU (pu_var 0) pa_nilU)))
    (pss_consU (ps_ifU (PW.pt (pw_andU (pt_cmpV 1 (op_neU hr.units) s_ne (pe_slot 1) (pu_lst pa_nilU) (nomark _)) (pw_and1U (pt_cmpU (op_eqU hr.units) s_eq (pu_call h_law_take (hr.mono (by decide)) tk (pa_consU (pu_var 0) (pa_consU pu_int pa_nilU))) pu_int (nomark _))))) (pss_consU (ps_asgU 3 sc_law_show.nd (pu_ix ix_seq s_ix (pu_ixV 1 ix_seq s_ix (pe_slot 1) (pu_un un_neg s_neg pu_int)) pu_int))
    (pss_oneU (ps_asgU 4 sc_law_show.nd (pu_ix ix_seq s_ix (pu_lst (pa_consU (pu_ix ix_seq s_ix (pu_ixV 1 ix_seq s_ix (pe_slot 1) (pu_un un_neg s_neg pu_int)) pu_int) (pa_consU (pu_var 4) pa_nilU))) (pu_fnT call_int1 s_int m_int (by decide +kernel) (pa_consU (pu_cmp (op_eqU hr.units) s_eq (pu_call h_law_take (hr.mono (by decide)) tk (pa_consU (pu_var 0) (pa_consU pu_int pa_nilU))) pu_int (nomark _)) pa_nilU)))))) pss_nilU)
    (pss_oneU (ps_exprU (pu_meO 1 PySem.F.slot_list_append PySem.F.type_list_append mt_append u_append (pe_slot 1) (pa_consU (pu_tup (pa_consU (pu_var 3) (pa_consU (pu_call h_law_sum (hr.mono (by decide)) tk (pa_consU (pu_var 3) (pa_consU (pu_call h_law_sum (hr.mono (by decide)) tk (pa_consU (pu_tup (pa_consU pu_int (pa_consU pu_int pa_nilU))) (pa_consU (pu_call h_law_time (hr.mono (by decide)) tk (pa_consU (pu_var 0) (pa_consU pu_int pa_nilU))) pa_nilU))) pa_nilU))) (pa_consU (pu_var 4) pa_nilU)))) pa_nilU))))))))
    (pss_oneU (ps_retO (pu_mv 1)))))
/-! _law_last -/
abbrev t_law_last : Stmt := top 37
theorem sc_law_last : FnScope ["_law_stretch"] ["_law_stretch"] (defScope t_law_last) := ⟨rfl, rfl, rfl, by decide +kernel, rfl, by decide +kernel, by decide +kernel⟩
def u_law_last : US :=
    (sRet (uCall 2 S_law_by (uCons (uCall 2 S_law_minus (uCons (uBin dIx (uVar 0) (uC (.int 1))) (uCons (uBin dIx (uVar 0) (uC (.int 0))) uNil))) (uCons (uBin dIx (uVar 0) (uC (.int 2))) uNil))))
def S_law_last : FN := defU 1 u_law_last
theorem ok_law_last (h_law_minus : Has P w K mg base "_law_minus" ["_law_one_here", "_law_two"] 2 (spU (gK K cls) 2 S_law_minus)) (h_law_by : Has P w K mg base "_law_by" ["_law_one_here", "_law_two"] 2 (spU (gK K cls) 2 S_law_by)) {f : Addr} {fd : FuncData} (F : Fun K "_law_last" "_law_last" t_law_last f fd) :
    FnOk P w K mg base (L2.CX P w) 3 f fd ["_law_stretch"] (spU (gK K cls) 1 S_law_last) := by
  refine fnU (N := ["_law_stretch"]) F sc_law_last (by decide) fun cdv A outer s H E hr tk => ?_
  exact (pss_oneU (ps_retU (pu_call h_law_by (hr.mono (by decide)) tk (pa_consU (pu_call h_law_minus (hr.mono (by decide)) tk (pa_consU (pu_ix ix_seq s_ix (pu_var 0) pu_int) (pa_consU (pu_ix ix_seq s_ix (pu_var 0) pu_int) pa_nilU))) (pa_consU (pu_ix ix_seq s_ix (pu_var 0) pu_int) pa_nilU)))))
/-! _law_long -/
abbrev t_law_long : Stmt := top 38
theorem sc_law_long : FnScope ["_law_show_here", "_law_whole", "_law_stretch"] ["_law_show_here"] (defScope t_law_long) := ⟨rfl, rfl, rfl, by decide +kernel, rfl, by decide +kernel, by decide +kernel⟩
def u_law_long : US :=
    (sSeq (sAsg 1 (uTup (uCons (uC (.int 0)) (uCons (uC (.int 1)) uNil))))
    (sSeq (sFor (iLst (uVar 0)) (gN 2) (sAsg 1 (uCall 2 S_law_sum (uCons (uVar 1) (uCons (uCall 1 S_law_last (uCons (uVar 2) uNil)) uNil)))))
    (sRet (uVar 1))))
def S_law_long : FN := defU 3 u_law_long
theorem ok_law_long (h_law_last : Has P w K mg base "_law_last" ["_law_stretch"] 3 (spU (gK K cls) 1 S_law_last)) (h_law_sum : Has P w K mg base "_law_sum" ["_law_one_here", "_law_two"] 2 (spU (gK K cls) 2 S_law_sum)) {f : Addr} {fd : FuncData} (F : Fun K "_law_long" "_law_long" t_law_long f fd) :
    FnOk P w K mg base (L2.CX P w) 4 f fd ["_law_show_here"] (spU (gK K cls) 1 S_law_long) := by
  refine fnU (N := ["_law_show_here", "_law_whole", "_law_stretch"]) F sc_law_long (by decide) fun cdv A outer s H E hr tk => ?_
  exact (pss_consU (ps_asgU 1 sc_law_long.nd (pu_tup (pa_consU pu_int (pa_consU pu_int pa_nilU))))
    (pss_consU (ps_forU (passes_of rfl) rfl (pi_listU rfl (pu_var 0)) (pg_nameU 2 sc_law_long.nd) (pss_oneU (ps_asgU 1 sc_law_long.nd (pu_call h_law_sum (hr.mono (by decide)) tk (pa_consU (pu_var 1) (pa_consU (pu_call h_law_last (hr.mono (by decide)) tk (pa_consU (pu_var 2) pa_nilU)) pa_nilU))))))
    (pss_oneU (ps_retU (pu_var 1)))))
/-! _law_one -/
abbrev t_law_one : Stmt := top 39
theorem sc_law_one : FnScope ["_law_show_here", "_law_found", "_law_stretch", "_law_elder"] ["_law_show_here"] (defScope t_law_one) := ⟨rfl, rfl, rfl, by decide +kernel, rfl, by decide +kernel, by decide +kernel⟩
def u_law_one : US :=
    (sSeq (sAsgO 1 (uLstO uNil))
    (sSeq (sFor (iLst (uVar 0)) (gN 2) (sSeq (sIf (uAnd (uB (uBinV dNe 1 (uLst uNil))) (uAnd (uB (uBin dEq (uBin dIx (uBinV dIx 1 (uUn dNeg (uC (.int 1)))) (uC (.int 1))) (uBin dIx (uVar 2) (uC (.int 0))))) (uB (uBin dEq (uBin dIx (uBinV dIx 1 (uUn dNeg (uC (.int 1)))) (uC (.int 2))) (uBin dIx (uVar 2) (uC (.int 2))))))) (sSeq (sAsg 3 (uMeO 1 mPop uNil))
    (sAsg 2 (uTup (uCons (uBin dIx (uVar 3) (uC (.int 0))) (uCons (uBin dIx (uVar 2) (uC (.int 1))) (uCons (uBin dIx (uVar 2) (uC (.int 2))) uNil)))))) sNext)
    (sExpr (uMeO 1 mAppend (uCons (uVar 2) uNil)))))
    (sRetO (uMv 1))))
def S_law_one : FN := defU 4 u_law_one
theorem ok_law_one {f : Addr} {fd : FuncData} (F : Fun K "_law_one" "_law_one" t_law_one f fd) :
    FnOk P w K mg base (L2.CX P w) 1 f fd ["_law_show_here"] (spU (gK K cls) 1 S_law_one) := by
  refine fnU (N := ["_law_show_here", "_law_found", "_law_stretch", "_law_elder"]) F sc_law_one (by decide) fun cdv A outer s H E hr tk => ?_
  exact (pss_consU (ps_asgO 1 sc_law_one.nd (pu_lstO pa_nilU))
    (pss_consU (ps_forU (passes_of rfl) rfl (pi_listU rfl (pu_var 0)) (pg_nameU 2 sc_law_one.nd) (pss_consU (ps_ifU (PW.pt (pw_andU (pt_cmpV 1 (op_neU hr.units) s_ne (pe_slot 1) (pu_lst pa_nilU) (nomark _)) (pw_andU (pt_cmpU (op_eqU hr.units) s_eq (pu_ix ix_seq s_ix (pu_ixV 1 ix_seq s_ix (pe_slot 1) (pu_un un_neg s_neg pu_int)) pu_int) (pu_ix ix_seq s_ix (pu_var 2) pu_int) (nomark _)) (pw_and1U (pt_cmpU (op_eqU hr.units) s_eq (pu_ix ix_seq s_ix (pu_ixV 1 ix_seq s_ix (pe_slot 1) (pu_un un_neg s_neg pu_int)) pu_int) (pu_ix ix_seq s_ix (pu_var 2) pu_int) (nomark _)))))) (pss_consU (ps_asgU 3 sc_law_one.nd (pu_meO0 1 PySem.F.slot_list_pop PySem.F.type_list_pop mt_pop u_pop (pe_slot 1)))
    (pss_oneU (ps_asgU 2 sc_law_one.nd (pu_tup (pa_consU (pu_ix ix_seq s_ix (pu_var 3) pu_int) (pa_consU (pu_ix ix_seq s_ix (pu_var 2) pu_int) (pa_consU (pu_ix ix_seq s_ix (pu_var 2) pu_int) pa_nilU))))))) pss_nilU)
    (pss_oneU (ps_exprU (pu_meO 1 PySem.F.slot_list_append PySem.F.type_list_append mt_append u_append (pe_slot 1) (pa_consU (pu_var 2) pa_nilU))))))
    (pss_oneU (ps_retO (pu_mv 1)))))
/-! _law_cut -/
abbrev t_law_cut : Stmt := top 41
theorem sc_law_cut : FnScope ["_law_show_here", "_law_begin", "_law_end", "_law_found", "_law_stretch", "_law_last_here", "_law_first", "_law_behind", "_law_one_here", "_law_two"] ["_law_show_here", "_law_begin", "_law_end"] (defScope t_law_cut) := ⟨rfl, rfl, rfl, by decide +kernel, rfl, by decide +kernel, by decide +kernel⟩
def u_law_cut : US :=
    (sSeq (sAsgO 3 (uLstO uNil))
    (sSeq (sFor (iLst (uVar 0)) (gN 4) (sSeq (sAsg 5 (uCall 1 S_law_last (uCons (uVar 4) uNil)))
    (sSeq (sAsg 6 (uIf (uB (uCall 2 S_law_low (uCons (uTup (uCons (uC (.int 0)) (uCons (uC (.int 1)) uNil))) (uCons (uVar 1) uNil)))) (uVar 1) (uTup (uCons (uC (.int 0)) (uCons (uC (.int 1)) uNil)))))
    (sSeq (sAsg 7 (uIf (uB (uCall 2 S_law_low (uCons (uVar 2) (uCons (uVar 5) uNil)))) (uVar 2) (uVar 5)))
    (sSeq (sIf (uB (uCall 2 S_law_low (uCons (uVar 6) (uCons (uVar 7) uNil)))) (sSeq (sAsg 8 (uCall 2 S_law_sum (uCons (uBin dIx (uVar 4) (uC (.int 0))) (uCons (uCall 2 S_law_times (uCons (uVar 6) (uCons (uBin dIx (uVar 4) (uC (.int 2))) uNil))) uNil))))
    (sSeq (sAsg 9 (uCall 2 S_law_sum (uCons (uBin dIx (uVar 4) (uC (.int 0))) (uCons (uCall 2 S_law_times (uCons (uVar 7) (uCons (uBin dIx (uVar 4) (uC (.int 2))) uNil))) uNil))))
    (sExpr (uMeO 3 mAppend (uCons (uTup (uCons (uVar 8) (uCons (uVar 9) (uCons (uBin dIx (uVar 4) (uC (.int 2))) uNil)))) uNil))))) sNext)
    (sSeq (sAsg 1 (uCall 2 S_law_minus (uCons (uVar 1) (uCons (uVar 5) uNil))))
    (sAsg 2 (uCall 2 S_law_minus (uCons (uVar 2) (uCons (uVar 5) uNil))))))))))
    (sRetO (uMv 3))))
def S_law_cut : FN := defU 10 u_law_cut
theorem ok_law_cut (h_law_last : Has P w K mg base "_law_last" ["_law_stretch"] 3 (spU (gK K cls) 1 S_law_last)) (h_law_low : Has P w K mg base "_law_low" ["_law_one_here", "_law_two"] 1 (spU (gK K cls) 2 S_law_low)) (h_law_times : Has P w K mg base "_law_times" ["_law_one_here", "_law_two"] 2 (spU (gK K cls) 2 S_law_times)) (h_law_sum : Has P w K mg base "_law_sum" ["_law_one_here", "_law_two"] 2 (spU (gK K cls) 2 S_law_sum)) (h_law_minus : Has P w K mg base "_law_minus" ["_law_one_here", "_law_two"] 2 (spU (gK K cls) 2 S_law_minus)) {f : Addr} {fd : FuncData} (F : Fun K "_law_cut" "_law_cut" t_law_cut f fd) :
    FnOk P w K mg base (L2.CX P w) 4 f fd ["_law_show_here", "_law_begin", "_law_end"] (spU (gK K cls) 3 S_law_cut) := by
  refine fnU (N := ["_law_show_here", "_law_begin", "_law_end", "_law_found", "_law_stretch", "_law_last_here", "_law_first", "_law_behind", "_law_one_here", "_law_two"]) F sc_law_cut (by decide) fun cdv A outer s H E hr tk => ?_
  exact (pss_consU (ps_asgO 3 sc_law_cut.nd (pu_lstO pa_nilU))
    (pss_consU (ps_forU (passes_of rfl) rfl (pi_listU rfl (pu_var 0)) (pg_nameU 4 sc_law_cut.nd) (pss_consU (ps_asgU 5 sc_law_cut.nd (pu_call h_law_last (hr.mono (by decide)) tk (pa_consU (pu_var 4) pa_nilU)))
    (pss_consU (ps_asgU 6 sc_law_cut.nd (pu_if (pt_of (pu_call h_law_low (hr.mono (by decide)) tk (pa_consU (pu_tup (pa_consU pu_int (pa_consU pu_int pa_nilU))) (pa_consU (pu_var 1) pa_nilU)))) (pu_var 1) (pu_tup (pa_consU pu_int (pa_consU pu_int pa_nilU)))))
    (pss_consU (ps_asgU 7 sc_law_cut.nd (pu_if (pt_of (pu_call h_law_low (hr.mono (by decide)) tk (pa_consU (pu_var 2) (pa_consU (pu_var 5) pa_nilU)))) (pu_var 2) (pu_var 5)))
    (pss_consU (ps_ifU (pt_of (pu_call h_law_low (hr.mono (by decide)) tk (pa_consU (pu_var 6) (pa_consU (pu_var 7) pa_nilU)))) (pss_consU (ps_asgU 8 sc_law_cut.nd (pu_call h_law_sum (hr.mono (by decide)) tk (pa_consU (pu_ix ix_seq s_ix (pu_var 4) pu_int) (pa_consU (pu_call h_law_times (hr.mono (by decide)) tk (pa_consU (pu_var 6) (pa_consU (pu_ix ix_seq s_ix (pu_var 4) pu_int) pa_nilU))) pa_nilU))))
    (pss_consU (ps_asgU 9 sc_law_cut.nd (pu_call h_law_sum (hr.mono (by decide)) tk (pa_consU (pu_ix ix_seq s_ix (pu_var 4) pu_int) (pa_consU (pu_call h_law_times (hr.mono (by decide)) tk (pa_consU (pu_var 7) (pa_consU (pu_ix ix_seq s_ix (pu_var 4) pu_int) pa_nilU))) pa_nilU))))
    (pss_oneU (ps_exprU (pu_meO 3 PySem.F.slot_list_append PySem.F.type_list_append mt_append u_append (pe_slot 3) (pa_consU (pu_tup (pa_consU (pu_var 8) (pa_consU (pu_var 9) (pa_consU (pu_ix ix_seq s_ix (pu_var 4) pu_int) pa_nilU)))) pa_nilU)))))) pss_nilU)
    (pss_consU (ps_asgU 1 sc_law_cut.nd (pu_call h_law_minus (hr.mono (by decide)) tk (pa_consU (pu_var 1) (pa_consU (pu_var 5) pa_nilU))))
    (pss_oneU (ps_asgU 2 sc_law_cut.nd (pu_call h_law_minus (hr.mono (by decide)) tk (pa_consU (pu_var 2) (pa_consU (pu_var 5) pa_nilU)))))))))))
    (pss_oneU (ps_retO (pu_mv 3)))))
/-! _law_within -/
abbrev t_law_within : Stmt := top 42
theorem sc_law_within : FnScope ["_law_box", "_law_most", "_law_part"] ["_law_box", "_law_most"] (defScope t_law_within) := ⟨rfl, rfl, rfl, by decide +kernel, rfl, by decide +kernel, by decide +kernel⟩
def u_law_within : US :=
    (sSeq (sAsg 2 (uCall 2 S_law_take (uCons (uVar 0) (uCons (uC (.int 13)) uNil))))
    (sSeq (sIf (uB (uBin dEq (uVar 2) (uC (.int 12)))) (sRet (uCall 2 S_law_times (uCons (uVar 1) (uCons (uCall 2 S_law_fr (uCons (uCall 2 S_law_take (uCons (uVar 0) (uCons (uC (.int 101)) uNil))) (uCons (uC (.int 100)) uNil))) uNil)))) sNext)
    (sRet (uCall 2 S_law_times (uCons (uVar 1) (uCons (uCall 2 S_law_fr (uCons (uBin dMod (uVar 2) (uC (.int 12))) (uCons (uC (.int 11)) uNil))) uNil))))))
def S_law_within : FN := defU 3 u_law_within
theorem ok_law_within (h_law_take : Has P w K mg base "_law_take" ["_law_box", "_law_many"] 1 (spU (gK K cls) 2 S_law_take)) (h_law_fr : Has P w K mg base "_law_fr" ["_law_top", "_law_bottom"] 1 (spU (gK K cls) 2 S_law_fr)) (h_law_times : Has P w K mg base "_law_times" ["_law_one_here", "_law_two"] 2 (spU (gK K cls) 2 S_law_times)) {f : Addr} {fd : FuncData} (F : Fun K "_law_within" "_law_within" t_law_within f fd) :
    FnOk P w K mg base (L2.CX P w) 3 f fd ["_law_box", "_law_most"] (spU (gK K cls) 2 S_law_within) := by
  refine fnU (N := ["_law_box", "_law_most", "_law_part"]) F sc_law_within (by decide) fun cdv A outer s H E hr tk => ?_
  exact (pss_consU (ps_asgU 2 sc_law_within.nd (pu_call h_law_take (hr.mono (by decide)) tk (pa_consU (pu_var 0) (pa_consU pu_int pa_nilU))))
    (pss_consU (ps_ifU (pt_cmpU (op_eqU hr.units) s_eq (pu_var 2) pu_int (nomark _)) (pss_oneU (ps_retU (pu_call h_law_times (hr.mono (by decide)) tk (pa_consU (pu_var 1) (pa_consU (pu_call h_law_fr (hr.mono (by decide)) tk (pa_consU (pu_call h_law_take (hr.mono (by decide)) tk (pa_consU (pu_var 0) (pa_consU pu_int pa_nilU))) (pa_consU pu_int pa_nilU))) pa_nilU))))) pss_nilU)
    (pss_oneU (ps_retU (pu_call h_law_times (hr.mono (by decide)) tk (pa_consU (pu_var 1) (pa_consU (pu_call h_law_fr (hr.mono (by decide)) tk (pa_consU (pu_bin op_modN s_mod (pu_var 2) pu_int) (pa_consU pu_int pa_nilU))) pa_nilU)))))))
/-! _law_deed -/
abbrev t_law_deed : Stmt := top 43
theorem sc_law_deed : FnScope ["_law_box", "_law_reel", "_law_show_here", "_law_whole", "_law_pair", "_law_head", "_law_middle", "_law_tail", "_law_way", "_law_factor", "_law_found", "_law_other", "_law_handed", "_law_part"] ["_law_box", "_law_reel", "_law_show_here"] (defScope t_law_deed) := ⟨rfl, rfl, rfl, by decide +kernel, rfl, by decide +kernel, by decide +kernel⟩
def u_law_deed : US :=
    (sSeq (sAsg 3 (uCall 1 S_law_long (uCons (uVar 2) uNil)))
    (sSeq (sAsg 4 (uLst (uCons (uCall 2 S_law_within (uCons (uVar 0) (uCons (uVar 3) uNil))) (uCons (uCall 2 S_law_within (uCons (uVar 0) (uCons (uVar 3) uNil))) uNil))))
    (sSeq (sIf (uB (uCall 2 S_law_low (uCons (uBin dIx (uVar 4) (uC (.int 1))) (uCons (uBin dIx (uVar 4) (uC (.int 0))) uNil)))) (sAsg 4 (uLst (uCons (uBin dIx (uVar 4) (uC (.int 1))) (uCons (uBin dIx (uVar 4) (uC (.int 0))) uNil)))) sNext)
    (sSeq (sAsg 5 (uCall 3 S_law_cut (uCons (uVar 2) (uCons (uTup (uCons (uC (.int 0)) (uCons (uC (.int 1)) uNil))) (uCons (uBin dIx (uVar 4) (uC (.int 0))) uNil)))))
    (sSeq (sAsg 6 (uCall 3 S_law_cut (uCons (uVar 2) (uCons (uBin dIx (uVar 4) (uC (.int 0))) (uCons (uBin dIx (uVar 4) (uC (.int 1))) uNil)))))
    (sSeq (sAsg 7 (uCall 3 S_law_cut (uCons (uVar 2) (uCons (uBin dIx (uVar 4) (uC (.int 1))) (uCons (uVar 3) uNil)))))
    (sSeq (sAsg 8 (uCall 2 S_law_take (uCons (uVar 0) (uCons (uC (.int 3)) uNil))))
    (sSeq (sIf (uB (uBin dEq (uVar 8) (uC (.int 0)))) (sSeq (sAsg 10 (uNew (uMethO "Reel" "out" 3 S_Reel_out (uVar 1) (uCons (uBin dIx (uVar 4) (uC (.int 0))) (uCons (uBin dIx (uVar 4) (uC (.int 1))) uNil)))))
    (sSeq (sIf (uB (uBinL dNe (uVar 10) (uCall 1 S_law_one (uCons (uVar 6) uNil)))) (sRet (uC .non)) sNext)
    (sSeq (sExpr (uMeL (uVar 10) mClear uNil))
    (sRet (uBin dAdd (uVar 5) (uVar 7)))))) sNext)
    (sSeq (sIf (uB (uBin dEq (uVar 8) (uC (.int 1)))) (sSeq (sAsg 11 (uFz (uSlW (uCall 1 S_law_show (uCons (uVar 0) uNil)) uNoPart (uPart (uC (.int 2))))))
    (sSeq (sAsg 12 (uFz (uFnO fList (uCons (uVar 11) uNil))))
    (sSeq (sIf (uOr (uB (uBin dIsNot (uMeth "Reel" "into" 3 S_Reel_into (uVar 1) (uCons (uBin dIx (uVar 4) (uC (.int 0))) (uCons (uVar 12) uNil))) (uC .non))) (uB (uBin dNe (uVar 12) (uVar 11)))) (sRet (uC .non)) sNext)
    (sRet (uBin dAdd (uBin dAdd (uBin dAdd (uVar 5) (uVar 11)) (uVar 6)) (uVar 7)))))) sNext)
    (sSeq (sAsg 9 (uCall 1 S_law_pace (uCons (uVar 0) uNil)))
    (sSeq (sIf (uB (uBin dIsNot (uMeth "Reel" "faster" 4 S_Reel_faster (uVar 1) (uCons (uBin dIx (uVar 4) (uC (.int 0))) (uCons (uBin dIx (uVar 4) (uC (.int 1))) (uCons (uVar 9) uNil)))) (uC .non))) (sRet (uC .non)) sNext)
    (sRet (uBin dAdd (uBin dAdd (uVar 5) (uFz (uLc (iLst (uVar 6)) (gN 13) uYes (uTup (uCons (uBin dIx (uVar 13) (uC (.int 0))) (uCons (uBin dIx (uVar 13) (uC (.int 1))) (uCons (uCallN 2 S_law_times (uCons (uBin dIx (uVar 13) (uC (.int 2))) (uCons (uVar 9) uNil))) uNil)))) [13]))) (uVar 7))))))))))))))
def S_law_deed : FN := defU 14 u_law_deed
theorem ok_law_deed (m_list : mg "list" = none) (c_Reel : Cls K (cls "Reel")) (h_law_long : Has P w K mg base "_law_long" ["_law_show_here"] 4 (spU (gK K cls) 1 S_law_long)) (h_law_within : Has P w K mg base "_law_within" ["_law_box", "_law_most"] 3 (spU (gK K cls) 2 S_law_within)) (h_law_low : Has P w K mg base "_law_low" ["_law_one_here", "_law_two"] 1 (spU (gK K cls) 2 S_law_low)) (h_law_cut : Has P w K mg base "_law_cut" ["_law_show_here", "_law_begin", "_law_end"] 4 (spU (gK K cls) 3 S_law_cut)) (h_law_take : Has P w K mg base "_law_take" ["_law_box", "_law_many"] 1 (spU (gK K cls) 2 S_law_take)) (h_Reel_out : HasM P w K mg base (cls "Reel") "out" ["self", "begin", "end"] 6 (spO (gK K cls) 3 S_Reel_out)) (h_law_one : Has P w K mg base "_law_one" ["_law_show_here"] 1 (spU (gK K cls) 1 S_law_one)) (h_law_show : Has P w K mg base "_law_show" ["_law_box"] 3 (spU (gK K cls) 1 S_law_show)) (h_Reel_into : HasM P w K mg base (cls "Reel") "into" ["self", "time", "other"] 6 (spU (gK K cls) 3 S_Reel_into)) (h_law_pace : Has P w K mg base "_law_pace" ["_law_box"] 2 (spU (gK K cls) 1 S_law_pace)) (h_Reel_faster : HasM P w K mg base (cls "Reel") "faster" ["self", "begin", "end", "factor"] 6 (spU (gK K cls) 4 S_Reel_faster)) (h_law_times : Has P w K mg base "_law_times" ["_law_one_here", "_law_two"] 2 (spU (gK K cls) 2 S_law_times)) {f : Addr} {fd : FuncData} (F : Fun K "_law_deed" "_law_deed" t_law_deed f fd) :
    FnOk P w K mg base (L2.CX P w) 7 f fd ["_law_box", "_law_reel", "_law_show_here"] (spU (gK K cls) 3 S_law_deed) := by
  refine fnU (N := ["_law_box", "_law_reel", "_law_show_here", "_law_whole", "_law_pair", "_law_head", "_law_middle", "_law_tail", "_law_way", "_law_factor", "_law_found", "_law_other", "_law_handed", "_law_part"]) F sc_law_deed (by decide) fun cdv A outer s H E hr tk => ?_
  exact (pss_consU (ps_asgU 3 sc_law_deed.nd (pu_call h_law_long (hr.mono (by decide)) tk (pa_consU (pu_var 2) pa_nilU)))
    (pss_consU (ps_asgU 4 sc_law_deed.nd (pu_lst (pa_consU (pu_call h_law_within (hr.mono (by decide)) tk (pa_consU (pu_var 0) (pa_consU (pu_var 3) pa_nilU))) (pa_consU (pu_call h_law_within (hr.mono (by decide)) tk (pa_consU (pu_var 0) (pa_consU (pu_var 3) pa_nilU))) pa_nilU))))
    (pss_consU (ps_ifU (pt_of (pu_call h_law_low (hr.mono (by decide)) tk (pa_consU (pu_ix ix_seq s_ix (pu_var 4) pu_int) (pa_consU (pu_ix ix_seq s_ix (pu_var 4) pu_int) pa_nilU)))) (pss_oneU (ps_asgU 4 sc_law_deed.nd (pu_lst (pa_consU (pu_ix ix_seq s_ix (pu_var 4) pu_int) (pa_consU (pu_ix ix_seq s_ix (pu_var 4) pu_int) pa_nilU))))) pss_nilU)
    (pss_consU (ps_asgU 5 sc_law_deed.nd (pu_call h_law_cut (hr.mono (by decide)) tk (pa_consU (pu_var 2) (pa_consU (pu_tup (pa_consU pu_int (pa_consU pu_int pa_nilU))) (pa_consU (pu_ix ix_seq s_ix (pu_var 4) pu_int) pa_nilU)))))
    (pss_consU (ps_asgU 6 sc_law_deed.nd (pu_call h_law_cut (hr.mono (by decide)) tk (pa_consU (pu_var 2) (pa_consU (pu_ix ix_seq s_ix (pu_var 4) pu_int) (pa_consU (pu_ix ix_seq s_ix (pu_var 4) pu_int) pa_nilU)))))
    (pss_consU (ps_asgU 7 sc_law_deed.nd (pu_call h_law_cut (hr.mono (by decide)) tk (pa_consU (pu_var 2) (pa_consU (pu_ix ix_seq s_ix (pu_var 4) pu_int) (pa_consU (pu_var 3) pa_nilU)))))
    (pss_consU (ps_asgU 8 sc_law_deed.nd (pu_call h_law_take (hr.mono (by decide)) tk (pa_consU (pu_var 0) (pa_consU pu_int pa_nilU))))
    (pss_consU (ps_ifU (pt_cmpU (op_eqU hr.units) s_eq (pu_var 8) pu_int (nomark _)) (pss_consU (ps_asgU 10 sc_law_deed.nd (pu_new (pu_mthO (g := gK K cls) h_Reel_out c_Reel (hr.mono (by decide)) tk (pu_var 1) (pa_consU (pu_ix ix_seq s_ix (pu_var 4) pu_int) (pa_consU (pu_ix ix_seq s_ix (pu_var 4) pu_int) pa_nilU)))))
    (pss_consU (ps_ifU (pt_cmpL (op_neU hr.units) s_ne (pu_var 10) (pu_call h_law_one (hr.mono (by decide)) tk (pa_consU (pu_var 6) pa_nilU)) (nomark _)) (pss_oneU (ps_retU pu_non)) pss_nilU)
    (pss_consU (ps_exprU (pu_meL0 PySem.F.slot_list_clear PySem.F.type_list_clear mt_clear u_clear (pu_var 10)))
    (pss_oneU (ps_retU (pu_bin op_addU s_add (pu_var 5) (pu_var 7))))))) pss_nilU)
    (pss_consU (ps_ifU (pt_cmpU (op_eqU hr.units) s_eq (pu_var 8) pu_int (nomark _)) (pss_consU (ps_asgU 11 sc_law_deed.nd (pu_fz (pu_slW rfl (pu_call h_law_show (hr.mono (by decide)) tk (pa_consU (pu_var 0) pa_nilU)) po_noneU (po_someU pu_int))))
    (pss_consU (ps_asgU 12 sc_law_deed.nd (pu_fz (pu_list rfl m_list (pa_consU (pu_var 11) pa_nilU))))
    (pss_consU (ps_ifU (PW.pt (pw_orU (pt_cmpU op_notN s_isnot (pu_mth (g := gK K cls) h_Reel_into c_Reel (hr.mono (by decide)) tk (pu_var 1) (pa_consU (pu_ix ix_seq s_ix (pu_var 4) pu_int) (pa_consU (pu_var 12) pa_nilU))) pu_non (nomark _)) (pw_or1U (pt_cmpU (op_neU hr.units) s_ne (pu_var 12) (pu_var 11) (nomark _))))) (pss_oneU (ps_retU pu_non)) pss_nilU)
    (pss_oneU (ps_retU (pu_bin op_addU s_add (pu_bin op_addU s_add (pu_bin op_addU s_add (pu_var 5) (pu_var 11)) (pu_var 6)) (pu_var 7))))))) pss_nilU)
    (pss_consU (ps_asgU 9 sc_law_deed.nd (pu_call h_law_pace (hr.mono (by decide)) tk (pa_consU (pu_var 0) pa_nilU)))
    (pss_consU (ps_ifU (pt_cmpU op_notN s_isnot (pu_mth (g := gK K cls) h_Reel_faster c_Reel (hr.mono (by decide)) tk (pu_var 1) (pa_consU (pu_ix ix_seq s_ix (pu_var 4) pu_int) (pa_consU (pu_ix ix_seq s_ix (pu_var 4) pu_int) (pa_consU (pu_var 9) pa_nilU)))) pu_non (nomark _)) (pss_oneU (ps_retU pu_non)) pss_nilU)
    (pss_oneU (ps_retU (pu_bin op_addU s_add (pu_bin op_addU s_add (pu_var 5) (pu_fz (by exact (pu_lc [("_law_part", 13)] rfl sc_law_deed.nd (pi_listU rfl (pu_var 6)) (blkOk_by (N := ["_law_box", "_law_reel", "_law_show_here", "_law_whole", "_law_pair", "_law_head", "_law_middle", "_law_tail", "_law_way", "_law_factor", "_law_found", "_law_other", "_law_handed", "_law_part"]) (sc := defScope t_law_deed) (by decide +kernel)) (fun _ _ _ _ _ => (pg_nameC 13 sc_law_deed.nd)) (fun _ _ _ _ _ => pts_nilU) (fun _ _ _ _ _ => (pu_tup (pa_consU (pu_ix ix_seq s_ix (pu_var 13) pu_int) (pa_consU (pu_ix ix_seq s_ix (pu_var 13) pu_int) (pa_consU (pu_callN h_law_times (hr.mono (by decide)) (pa_consU (pu_ix ix_seq s_ix (pu_var 13) pu_int) (pa_consU (pu_var 9) pa_nilU))) pa_nilU))))))))) (pu_var 7)))))))))))))))
abbrev t_law_stepped : Stmt := top 44
theorem sc_law_stepped : FnScope ["_law_work", "e"] ["_law_work"] (defScope t_law_stepped) := ⟨rfl, rfl, rfl, by decide +kernel, rfl, by decide +kernel, by decide +kernel⟩
/-! _law_is_off -/
abbrev t_law_is_off : Stmt := top 45
theorem sc_law_is_off : FnScope ["_law_reel", "_law_way", "_law_whole", "_law_far"] ["_law_reel", "_law_way", "_law_whole"] (defScope t_law_is_off) := ⟨rfl, rfl, rfl, by decide +kernel, rfl, by decide +kernel, by decide +kernel⟩
def u_law_is_off : US :=
    (sSeq (sAsg 3 (uCall 2 S_law_sum (uCons (uVar 2) (uCons (uTup (uCons (uC (.int 1)) (uCons (uC (.int 2)) uNil))) uNil))))
    (sTry knl_OffReel (sSeq (sIf (uB (uBin dEq (uVar 1) (uC (.int 0)))) (sExpr (uFz (uMethO "Reel" "out" 3 S_Reel_out (uVar 0) (uCons (uVar 2) (uCons (uVar 3) uNil))))) (sIf (uB (uBin dEq (uVar 1) (uC (.int 1)))) (sExpr (uMeth "Reel" "faster" 4 S_Reel_faster (uVar 0) (uCons (uTup (uCons (uC (.int 0)) (uCons (uC (.int 1)) uNil))) (uCons (uVar 3) (uCons (uTup (uCons (uC (.int 2)) (uCons (uC (.int 1)) uNil))) uNil))))) (sExpr (uMeth "Reel" "into" 3 S_Reel_into (uVar 0) (uCons (uVar 3) (uCons (uLst (uCons (uTup (uCons (uTup (uCons (uC (.int 0)) (uCons (uC (.int 1)) uNil))) (uCons (uTup (uCons (uC (.int 3)) (uCons (uC (.int 1)) uNil))) (uCons (uTup (uCons (uC (.int 1)) (uCons (uC (.int 1)) uNil))) uNil)))) uNil)) uNil))))))
    (sRet (uC (.bl false)))) (sRet (uC (.bl true)))))
def S_law_is_off : FN := defU 4 u_law_is_off
theorem ok_law_is_off (c_Reel : Cls K (cls "Reel")) (f_OffReel : ExF K mg cls "OffReel") (kn_OffReel : KnOk K cls (.ref (cls "OffReel")) knl_OffReel) (h_law_sum : Has P w K mg base "_law_sum" ["_law_one_here", "_law_two"] 2 (spU (gK K cls) 2 S_law_sum)) (h_Reel_out : HasM P w K mg base (cls "Reel") "out" ["self", "begin", "end"] 6 (spO (gK K cls) 3 S_Reel_out)) (h_Reel_faster : HasM P w K mg base (cls "Reel") "faster" ["self", "begin", "end", "factor"] 6 (spU (gK K cls) 4 S_Reel_faster)) (h_Reel_into : HasM P w K mg base (cls "Reel") "into" ["self", "time", "other"] 6 (spU (gK K cls) 3 S_Reel_into)) {f : Addr} {fd : FuncData} (F : Fun K "_law_is_off" "_law_is_off" t_law_is_off f fd) :
    FnOk P w K mg base (L2.CX P w) 7 f fd ["_law_reel", "_law_way", "_law_whole"] (spU (gK K cls) 3 S_law_is_off) := by
  refine fnU (N := ["_law_reel", "_law_way", "_law_whole", "_law_far"]) F sc_law_is_off (by decide) fun cdv A outer s H E hr tk => ?_
  exact (pss_consU (ps_asgU 3 sc_law_is_off.nd (pu_call h_law_sum (hr.mono (by decide)) tk (pa_consU (pu_var 2) (pa_consU (pu_tup (pa_consU pu_int (pa_consU pu_int pa_nilU))) pa_nilU))))
    (pss_oneU (ps_tryU rfl rfl rfl f_OffReel knl_OffReel kn_OffReel rfl tk (fun W pn xe tk _ => (pss_consU (ps_ifU (pt_cmpU (op_eqU hr.units) s_eq (pu_var 1) pu_int (nomark _)) (pss_oneU (ps_exprU (pu_fz (pu_mthO (g := gK K cls) h_Reel_out c_Reel (hr.mono (by decide)) tk (pu_var 0) (pa_consU (pu_var 2) (pa_consU (pu_var 3) pa_nilU)))))) (pss_oneU (ps_ifU (pt_cmpU (op_eqU hr.units) s_eq (pu_var 1) pu_int (nomark _)) (pss_oneU (ps_exprU (pu_mth (g := gK K cls) h_Reel_faster c_Reel (hr.mono (by decide)) tk (pu_var 0) (pa_consU (pu_tup (pa_consU pu_int (pa_consU pu_int pa_nilU))) (pa_consU (pu_var 3) (pa_consU (pu_tup (pa_consU pu_int (pa_consU pu_int pa_nilU))) pa_nilU)))))) (pss_oneU (ps_exprU (pu_mth (g := gK K cls) h_Reel_into c_Reel (hr.mono (by decide)) tk (pu_var 0) (pa_consU (pu_var 3) (pa_consU (pu_lst (pa_consU (pu_tup (pa_consU (pu_tup (pa_consU pu_int (pa_consU pu_int pa_nilU))) (pa_consU (pu_tup (pa_consU pu_int (pa_consU pu_int pa_nilU))) (pa_consU (pu_tup (pa_consU pu_int (pa_consU pu_int pa_nilU))) pa_nilU)))) pa_nilU)) pa_nilU))))))))
    (pss_oneU (ps_retU pu_bl)))) (fun a oe pn => (pss_oneU (ps_retU pu_bl))))))
/-! law -/
abbrev t_law : Stmt := top 46
theorem sc_law : FnScope ["_law_script", "_law_box", "_law_row", "_law_many", "_law_at", "_law_reel", "_law_turn", "_law_way", "_law_due", "_law_show_here"] ["_law_script"] (defScope t_law) := ⟨rfl, rfl, rfl, by decide +kernel, rfl, by decide +kernel, by decide +kernel⟩
def u_law1 : US :=
    (sAsg 1 (uCall 1 S_law_begun (uCons (uVar 0) uNil)))
def u_law2 : US :=
    (sSeq (sAsgO 2 (uLstO (uCons (uCall 1 S_law_show (uCons (uVar 1) uNil)) uNil)))
    (sSeq (sAsg 3 (uBin dAdd (uC (.int 1)) (uCall 2 S_law_take (uCons (uVar 1) (uCons (uC (.int 12)) uNil)))))
    (sSeq (sIf (uB (uBin dEq (uCall 2 S_law_take (uCons (uVar 1) (uCons (uC (.int 6)) uNil))) (uC (.int 1)))) (sSeq (sAsgO 2 (uLstO (uCons (uFz (uSlW (uBinV dIx 2 (uC (.int 0))) uNoPart (uPart (uC (.int 1))))) uNil)))
    (sAsg 3 (uBin dAdd (uC (.int 1)) (uCall 2 S_law_take (uCons (uVar 1) (uCons (uC (.int 20)) uNil)))))) sNext)
    (sSeq (sAsg 4 (uC (.int 0)))
    (sSeq (sAsg 5 (uMake "Reel" 2 S_Reel_init (uCons (uBinV dIx 2 (uC (.int 0))) uNil)))
    (sSeq (sFor (iFn fRng1 (uCons (uVar 3) uNil)) (gN 6) (sSeq (sIf (uB (uBin dEq (uCall 2 S_law_take (uCons (uVar 1) (uCons (uC (.int 3)) uNil))) (uC (.int 1)))) (sIf (uNot (uB (uCall 3 S_law_is_off (uCons (uVar 5) (uCons (uCall 2 S_law_take (uCons (uVar 1) (uCons (uC (.int 3)) uNil))) (uCons (uCall 1 S_law_long (uCons (uBinV dIx 2 (uVar 4)) uNil)) uNil)))))) (sRet (uC (.bl false))) sNext) sNext)
    (sSeq (sAsg 7 (uCall 2 S_law_take (uCons (uVar 1) (uCons (uC (.int 5)) uNil))))
    (sSeq (sIf (uOr (uB (uBin dEq (uVar 7) (uC (.int 0)))) (uAnd (uB (uBin dEq (uVar 7) (uC (.int 1)))) (uB (uBin dEq (uVar 4) (uC (.int 0)))))) (sSeq (sAsg 8 (uBin dIx (uLst (uCons (uC .non) (uCons (uTup (uCons (uC (.str (Str.ofString "no"))) (uCons (uC (.bl true)) uNil))) uNil))) (uFn fInt (uCons (uBin dEq (uVar 4) (uC (.int 0))) uNil))))
    (sSeq (sIf (uB (uBin dNe (uStep 2 "law.<locals>.<lambda>" "NoDeed" (uMeth "Reel" "back" 1 S_Reel_back (uVar 5) uNil)) (uVar 8))) (sRet (uC (.bl false))) sNext)
    (sAsg 4 (uFn fMax2 (uCons (uC (.int 0)) (uCons (uBin dSub (uVar 4) (uC (.int 1))) uNil)))))) (sIf (uB (uBin dEq (uVar 7) (uC (.int 1)))) (sSeq (sAsg 8 (uBin dIx (uLst (uCons (uC .non) (uCons (uTup (uCons (uC (.str (Str.ofString "no"))) (uCons (uC (.bl true)) uNil))) uNil))) (uFn fInt (uCons (uBin dEq (uVar 4) (uBin dSub (uFnV fLen 2) (uC (.int 1)))) uNil))))
    (sSeq (sIf (uB (uBin dNe (uStep 2 "law.<locals>.<lambda>" "NoDeed" (uMeth "Reel" "again" 1 S_Reel_again (uVar 5) uNil)) (uVar 8))) (sRet (uC (.bl false))) sNext)
    (sAsg 4 (uFn fMin2 (uCons (uBin dAdd (uVar 4) (uC (.int 1))) (uCons (uBin dSub (uFnV fLen 2) (uC (.int 1))) uNil)))))) (sSeq (sAsg 9 (uCall 3 S_law_deed (uCons (uVar 1) (uCons (uVar 5) (uCons (uBinV dIx 2 (uVar 4)) uNil)))))
    (sSeq (sIf (uB (uBin dIs (uVar 9) (uC .non))) (sRet (uC (.bl false))) sNext)
    (sSeq (sAsgO 2 (uCatX (uFz (uSlV 2 uNoPart (uPart (uBin dAdd (uVar 4) (uC (.int 1)))))) (uLst (uCons (uVar 9) uNil))))
    (sAsg 4 (uBin dAdd (uVar 4) (uC (.int 1)))))))))
    (sIf (uNot (uB (uCall 2 S_law_alike (uCons (uFz (uMethO "Reel" "show" 1 S_Reel_show (uVar 5) uNil)) (uCons (uCall 1 S_law_one (uCons (uBinV dIx 2 (uVar 4)) uNil)) uNil))))) (sRet (uC (.bl false))) sNext)))))
    (sRet (uC (.bl true)))))))))
theorem ok_law (m_range : mg "range" = none) (m_int : mg "int" = none) (m_isinstance : mg "isinstance" = none) (m_ValueError : mg "ValueError" = none) (m_max : mg "max" = none) (m_len : mg "len" = none) (m_min : mg "min" = none) (c_Reel : Cls K (cls "Reel")) (f_NoDeed : ExF K mg cls "NoDeed") (f_ReelError : ExF K mg cls "ReelError") (f_OffReel : ExF K mg cls "OffReel") (kn_ReelError : KnOk K cls (.ref (cls "ReelError")) knl_ReelError) (kn_OffReel : KnOk K cls (.ref (cls "OffReel")) knl_OffReel) (kn_ValueError : KnOk K cls (.type "ValueError") knl_ValueError) (ec_NoDeed : EcOk K cls knl_NoDeed) (a_law_stepped : At K mg "_law_stepped" "_law_stepped" t_law_stepped) (h_law_begun : Has P w K mg base "_law_begun" ["_law_script"] 1 (spU (gK K cls) 1 S_law_begun)) (h_law_show : Has P w K mg base "_law_show" ["_law_box"] 3 (spU (gK K cls) 1 S_law_show)) (h_law_take : Has P w K mg base "_law_take" ["_law_box", "_law_many"] 1 (spU (gK K cls) 2 S_law_take)) (h_Reel_init : HasI P w K mg base (cls "Reel") "Reel" ["self", "show"] 2 (spU (gK K cls) 2 S_Reel_init)) (h_law_long : Has P w K mg base "_law_long" ["_law_show_here"] 4 (spU (gK K cls) 1 S_law_long)) (h_law_is_off : Has P w K mg base "_law_is_off" ["_law_reel", "_law_way", "_law_whole"] 7 (spU (gK K cls) 3 S_law_is_off)) (h_Reel_back : HasM P w K mg base (cls "Reel") "back" ["self"] 1 (spU (gK K cls) 1 S_Reel_back)) (h_Reel_again : HasM P w K mg base (cls "Reel") "again" ["self"] 1 (spU (gK K cls) 1 S_Reel_again)) (h_law_deed : Has P w K mg base "_law_deed" ["_law_box", "_law_reel", "_law_show_here"] 7 (spU (gK K cls) 3 S_law_deed)) (h_Reel_show : HasM P w K mg base (cls "Reel") "show" ["self"] 1 (spO (gK K cls) 1 S_Reel_show)) (h_law_one : Has P w K mg base "_law_one" ["_law_show_here"] 1 (spU (gK K cls) 1 S_law_one)) (h_law_alike : Has P w K mg base "_law_alike" ["_law_found", "_law_due"] 12 (spU (gK K cls) 2 S_law_alike)) {f c Pt : Addr} {fd : FuncData} (F : Fun K "law" "law" t_law f fd) (hcd : fd.code = .ref c) (TB : LamX.TabB base mg c Pt) (TO : TabOf K (cls "law") Pt) :
    FnOk P w K mg base (L2.CX P w) 13 f fd ["_law_script"] (spT (gK K cls) Pt 10 "law.<locals>.<lambda>" u_law1 u_law2) := by
  refine fnUt (N := ["_law_script", "_law_box", "_law_row", "_law_many", "_law_at", "_law_reel", "_law_turn", "_law_way", "_law_due", "_law_show_here"]) F hcd sc_law (by decide) TO rfl (fun A outer s H E hr tk => ?_) (fun A outer s H E hr tk => ?_)
  · exact (ps_asgU 1 sc_law.nd (pu_call h_law_begun (hr.mono (by decide)) tk (pa_consU (pu_var 0) pa_nilU)))
  · exact (pss_consU (ps_asgO 2 sc_law.nd (pu_lstO (pa_consU (pu_call h_law_show (hr.mono (by decide)) tk (pa_consU (pu_var 1) pa_nilU)) pa_nilU)))
    (pss_consU (ps_asgU 3 sc_law.nd (pu_bin op_addU s_add pu_int (pu_call h_law_take (hr.mono (by decide)) tk (pa_consU (pu_var 1) (pa_consU pu_int pa_nilU)))))
    (pss_consU (ps_ifU (pt_cmpU (op_eqU hr.units) s_eq (pu_call h_law_take (hr.mono (by decide)) tk (pa_consU (pu_var 1) (pa_consU pu_int pa_nilU))) pu_int (nomark _)) (pss_consU (ps_asgO 2 sc_law.nd (pu_lstO (pa_consU (pu_fz (pu_slW rfl (pu_ixV 2 ix_seq s_ix (pe_slot 2) pu_int) po_noneU (po_someU pu_int))) pa_nilU)))
    (pss_oneU (ps_asgU 3 sc_law.nd (pu_bin op_addU s_add pu_int (pu_call h_law_take (hr.mono (by decide)) tk (pa_consU (pu_var 1) (pa_consU pu_int pa_nilU))))))) pss_nilU)
    (pss_consU (ps_asgU 4 sc_law.nd pu_int)
    (pss_consU (ps_asgU 5 sc_law.nd (pu_makeI (g := gK K cls) h_Reel_init (hr.mono (by decide)) (pa_consU (pu_ixV 2 ix_seq s_ix (pe_slot 2) pu_int) pa_nilU)))
    (pss_consU (ps_forU (passes_of rfl) rfl (pi_rng1 m_range (pa_consU (pu_var 3) pa_nilU)) (pg_nameU 6 sc_law.nd) (pss_consU (ps_ifU (pt_cmpU (op_eqU hr.units) s_eq (pu_call h_law_take (hr.mono (by decide)) tk (pa_consU (pu_var 1) (pa_consU pu_int pa_nilU))) pu_int (nomark _)) (pss_oneU (ps_ifU (pt_notU (pt_of (pu_call h_law_is_off (hr.mono (by decide)) tk (pa_consU (pu_var 5) (pa_consU (pu_call h_law_take (hr.mono (by decide)) tk (pa_consU (pu_var 1) (pa_consU pu_int pa_nilU))) (pa_consU (pu_call h_law_long (hr.mono (by decide)) tk (pa_consU (pu_ixV 2 ix_seq s_ix (pe_slot 2) (pu_var 4)) pa_nilU)) pa_nilU)))))) (pss_oneU (ps_retU pu_bl)) pss_nilU)) pss_nilU)
    (pss_consU (ps_asgU 7 sc_law.nd (pu_call h_law_take (hr.mono (by decide)) tk (pa_consU (pu_var 1) (pa_consU pu_int pa_nilU))))
    (pss_consU (ps_ifU (PW.pt (pw_orU (pt_cmpU (op_eqU hr.units) s_eq (pu_var 7) pu_int (nomark _)) (pw_or1U (PW.pt (pw_andU (pt_cmpU (op_eqU hr.units) s_eq (pu_var 7) pu_int (nomark _)) (pw_and1U (pt_cmpU (op_eqU hr.units) s_eq (pu_var 4) pu_int (nomark _)))))))) (pss_consU (ps_asgU 8 sc_law.nd (pu_ix ix_seq s_ix (pu_lst (pa_consU pu_non (pa_consU (pu_tup (pa_consU pu_str (pa_consU pu_bl pa_nilU))) pa_nilU))) (pu_fnT call_int1 s_int m_int (by decide +kernel) (pa_consU (pu_cmp (op_eqU hr.units) s_eq (pu_var 4) pu_int (nomark _)) pa_nilU))))
    (pss_consU (ps_ifU (pt_cmpU (op_neU hr.units) s_ne (pu_lamS (K := K) (cls := cls) 1 2 rfl a_law_stepped (fun _ _ _ _ _ _ us hl => match us, hl with | [_], _ => rfl) sc_law_stepped rfl f_NoDeed f_ReelError f_OffReel (ec_NoDeed.get rfl) kn_ReelError rfl kn_OffReel rfl kn_ValueError rfl m_isinstance m_ValueError TB TO (hr.mono (by decide)) (fun A outer s H E f c' hr tk => (pu_mth0 (g := gK K cls) h_Reel_back c_Reel (hr.mono (by decide)) tk (pu_var 5))) (LamX.lamS_by (by show LamX.lamSB (defScope t_law) _ = true; decide +kernel)) (Or.inl rfl) rfl rfl rfl rfl rfl rfl rfl (by rfl) rfl (fun _ _ _ _ _ => rfl) rfl (by decide) (by decide) (by decide) (by decide) (by decide) (by decide) (by decide) (by decide)) (pu_var 8) (nomark _)) (pss_oneU (ps_retU pu_bl)) pss_nilU)
    (pss_oneU (ps_asgU 4 sc_law.nd (pu_fn (call_max2 rfl) s_max2 m_max (by decide +kernel) (pa_consU pu_int (pa_consU (pu_bin op_sub s_sub (pu_var 4) pu_int) pa_nilU))))))) (pss_oneU (ps_ifU (pt_cmpU (op_eqU hr.units) s_eq (pu_var 7) pu_int (nomark _)) (pss_consU (ps_asgU 8 sc_law.nd (pu_ix ix_seq s_ix (pu_lst (pa_consU pu_non (pa_consU (pu_tup (pa_consU pu_str (pa_consU pu_bl pa_nilU))) pa_nilU))) (pu_fnT call_int1 s_int m_int (by decide +kernel) (pa_consU (pu_cmp (op_eqU hr.units) s_eq (pu_var 4) (pu_bin op_sub s_sub (pu_fnV 2 call_lenU s_len m_len PySem.boot_len (pe_slot 2)) pu_int) (nomark _)) pa_nilU))))
    (pss_consU (ps_ifU (pt_cmpU (op_neU hr.units) s_ne (pu_lamS (K := K) (cls := cls) 1 2 rfl a_law_stepped (fun _ _ _ _ _ _ us hl => match us, hl with | [_], _ => rfl) sc_law_stepped rfl f_NoDeed f_ReelError f_OffReel (ec_NoDeed.get rfl) kn_ReelError rfl kn_OffReel rfl kn_ValueError rfl m_isinstance m_ValueError TB TO (hr.mono (by decide)) (fun A outer s H E f c' hr tk => (pu_mth0 (g := gK K cls) h_Reel_again c_Reel (hr.mono (by decide)) tk (pu_var 5))) (LamX.lamS_by (by show LamX.lamSB (defScope t_law) _ = true; decide +kernel)) (Or.inl rfl) rfl rfl rfl rfl rfl rfl rfl (by rfl) rfl (fun _ _ _ _ _ => rfl) rfl (by decide) (by decide) (by decide) (by decide) (by decide) (by decide) (by decide) (by decide)) (pu_var 8) (nomark _)) (pss_oneU (ps_retU pu_bl)) pss_nilU)
    (pss_oneU (ps_asgU 4 sc_law.nd (pu_fn (call_min2 rfl) s_min2 m_min (by decide +kernel) (pa_consU (pu_bin op_addU s_add (pu_var 4) pu_int) (pa_consU (pu_bin op_sub s_sub (pu_fnV 2 call_lenU s_len m_len PySem.boot_len (pe_slot 2)) pu_int) pa_nilU))))))) (pss_consU (ps_asgU 9 sc_law.nd (pu_call h_law_deed (hr.mono (by decide)) tk (pa_consU (pu_var 1) (pa_consU (pu_var 5) (pa_consU (pu_ixV 2 ix_seq s_ix (pe_slot 2) (pu_var 4)) pa_nilU)))))
    (pss_consU (ps_ifU (pt_cmpU op_isN s_is (pu_var 9) pu_non (nomark _)) (pss_oneU (ps_retU pu_bl)) pss_nilU)
    (pss_consU (ps_asgO 2 sc_law.nd (pu_catX (pu_fz (pu_slV 2 rfl (pe_slot 2) po_noneU (po_someU (pu_bin op_addU s_add (pu_var 4) pu_int)))) (pu_lst (pa_consU (pu_var 9) pa_nilU))))
    (pss_oneU (ps_asgU 4 sc_law.nd (pu_bin op_addU s_add (pu_var 4) pu_int)))))))))
    (pss_oneU (ps_ifU (pt_notU (pt_of (pu_call h_law_alike (hr.mono (by decide)) tk (pa_consU (pu_fz (pu_mthO0 (g := gK K cls) h_Reel_show c_Reel (hr.mono (by decide)) tk (pu_var 5))) (pa_consU (pu_call h_law_one (hr.mono (by decide)) tk (pa_consU (pu_ixV 2 ix_seq s_ix (pe_slot 2) (pu_var 4)) pa_nilU)) pa_nilU))))) (pss_oneU (ps_retU pu_bl)) pss_nilU))))))
    (pss_oneU (ps_retU pu_bl))))))))
end
/-- what the top has left -/
abbrev clsL (mg : Str → Option Value) : Str → Addr := clsOf mg
structure Tx (K : PySem.W.Frag) (mg : Str → Option Value) : Prop where
  a_made : At K mg "made" "made" t_made
  a_added : At K mg "added" "added" t_added
  a_less : At K mg "less" "less" t_less
  a_timed : At K mg "timed" "timed" t_timed
  a_over : At K mg "over" "over" t_over
  a_is_below : At K mg "is_below" "is_below" t_is_below
  a_lesser : At K mg "lesser" "lesser" t_lesser
  a_greater : At K mg "greater" "greater" t_greater
  a_summed : At K mg "summed" "summed" t_summed
  a_lasts : At K mg "lasts" "lasts" t_lasts
  a_length : At K mg "length" "length" t_length
  a_normal : At K mg "normal" "normal" t_normal
  a_need_time : At K mg "need_time" "need_time" t_need_time
  a_taken : At K mg "taken" "taken" t_taken
  a_paced : At K mg "paced" "paced" t_paced
  a_Reel_init : AtI K mg (clsOf mg "Reel") "Reel" "Reel.__init__" t_Reel_init
  a_Reel_show : AtM K (clsOf mg "Reel") "show" "Reel.show" t_Reel_show
  a_Reel_turn : AtM K (clsOf mg "Reel") "turn" "Reel.turn" t_Reel_turn
  a_Reel_out : AtM K (clsOf mg "Reel") "out" "Reel.out" t_Reel_out
  a_Reel_into : AtM K (clsOf mg "Reel") "into" "Reel.into" t_Reel_into
  a_Reel_faster : AtM K (clsOf mg "Reel") "faster" "Reel.faster" t_Reel_faster
  a_Reel_back : AtM K (clsOf mg "Reel") "back" "Reel.back" t_Reel_back
  a_Reel_again : AtM K (clsOf mg "Reel") "again" "Reel.again" t_Reel_again
  a_law_begun : At K mg "_law_begun" "_law_begun" t_law_begun
  a_law_take : At K mg "_law_take" "_law_take" t_law_take
  a_law_alike : At K mg "_law_alike" "_law_alike" t_law_alike
  a_law_fr : At K mg "_law_fr" "_law_fr" t_law_fr
  a_law_sum : At K mg "_law_sum" "_law_sum" t_law_sum
  a_law_minus : At K mg "_law_minus" "_law_minus" t_law_minus
  a_law_times : At K mg "_law_times" "_law_times" t_law_times
  a_law_by : At K mg "_law_by" "_law_by" t_law_by
  a_law_low : At K mg "_law_low" "_law_low" t_law_low
  a_law_time : At K mg "_law_time" "_law_time" t_law_time
  a_law_pace : At K mg "_law_pace" "_law_pace" t_law_pace
  a_law_show : At K mg "_law_show" "_law_show" t_law_show
  a_law_last : At K mg "_law_last" "_law_last" t_law_last
  a_law_long : At K mg "_law_long" "_law_long" t_law_long
  a_law_one : At K mg "_law_one" "_law_one" t_law_one
  a_law_cut : At K mg "_law_cut" "_law_cut" t_law_cut
  a_law_within : At K mg "_law_within" "_law_within" t_law_within
  a_law_deed : At K mg "_law_deed" "_law_deed" t_law_deed
  a_law_is_off : At K mg "_law_is_off" "_law_is_off" t_law_is_off
  a_law : At K mg "law" "law" t_law
  m_abs : mg "abs" = none
  m_list : mg "list" = none
  m_int : mg "int" = none
  m_len : mg "len" = none
  m_isinstance : mg "isinstance" = none
  m_bool : mg "bool" = none
  m_str : mg "str" = none
  m_tuple : mg "tuple" = none
  m_range : mg "range" = none
  m_ValueError : mg "ValueError" = none
  m_max : mg "max" = none
  m_min : mg "min" = none
  k_NONE : ConstOk K mg "NONE" (.tup [.int 0, .int 1])
  x_OffReel : ExM K mg (clsOf mg) "OffReel"
  c_Reel : Cls K (clsOf mg "Reel")
  n_Reel_now : NoAttr K (clsOf mg "Reel") "now"
  n_Reel_elder : NoAttr K (clsOf mg "Reel") "elder"
  n_Reel_undone : NoAttr K (clsOf mg "Reel") "undone"
  x_NoDeed : ExM K mg (clsOf mg) "NoDeed"
  f_OffReel : ExF K mg (clsOf mg) "OffReel"
  kn_OffReel : KnOk K (clsOf mg) (.ref (clsOf mg "OffReel")) knl_OffReel
  f_NoDeed : ExF K mg (clsOf mg) "NoDeed"
  f_ReelError : ExF K mg (clsOf mg) "ReelError"
  kn_ReelError : KnOk K (clsOf mg) (.ref (clsOf mg "ReelError")) knl_ReelError
  kn_ValueError : KnOk K (clsOf mg) (.type "ValueError") knl_ValueError
  ec_NoDeed : EcOk K (clsOf mg) knl_NoDeed
  a_law_stepped : At K mg "_law_stepped" "_law_stepped" t_law_stepped
  ht : HeadT K mg "law"
theorem law_ok {P : Program} {w : World} {K : PySem.W.Frag} {mg : Str → Option Value} {base : Heap} {f c Pt : Addr} {fd : FuncData} (T : Tx K mg) (F : Fun K "law" "law" t_law f fd) (hcd : fd.code = .ref c) (TB : LamX.TabB base mg c Pt) (TO : TabOf K (clsOf mg "law") Pt) : FnOk P w K mg base (L2.CX P w) 13 f fd ["_law_script"] (spT (gK K (clsOf mg)) Pt 10 "law.<locals>.<lambda>" u_law1 u_law2) := by
  have h_made : Has P w K mg base "made" ["top", "bottom"] 1 (spU (gK K (clsOf mg)) 2 S_made) := T.a_made.has (fun _ _ _ _ _ _ us hl => match us, hl with | [_, _], _ => rfl) fun hm hb F => ok_made T.m_abs F
  have h_added : Has P w K mg base "added" ["one", "two"] 2 (spU (gK K (clsOf mg)) 2 S_added) := T.a_added.has (fun _ _ _ _ _ _ us hl => match us, hl with | [_, _], _ => rfl) fun hm hb F => ok_added h_made F
  have h_less : Has P w K mg base "less" ["one", "two"] 2 (spU (gK K (clsOf mg)) 2 S_less) := T.a_less.has (fun _ _ _ _ _ _ us hl => match us, hl with | [_, _], _ => rfl) fun hm hb F => ok_less h_made F
  have h_timed : Has P w K mg base "timed" ["one", "two"] 2 (spU (gK K (clsOf mg)) 2 S_timed) := T.a_timed.has (fun _ _ _ _ _ _ us hl => match us, hl with | [_, _], _ => rfl) fun hm hb F => ok_timed h_made F
  have h_over : Has P w K mg base "over" ["one", "two"] 2 (spU (gK K (clsOf mg)) 2 S_over) := T.a_over.has (fun _ _ _ _ _ _ us hl => match us, hl with | [_, _], _ => rfl) fun hm hb F => ok_over h_made F
  have h_is_below : Has P w K mg base "is_below" ["one", "two"] 1 (spU (gK K (clsOf mg)) 2 S_is_below) := T.a_is_below.has (fun _ _ _ _ _ _ us hl => match us, hl with | [_, _], _ => rfl) fun hm hb F => ok_is_below  F
  have h_lesser : Has P w K mg base "lesser" ["one", "two"] 2 (spU (gK K (clsOf mg)) 2 S_lesser) := T.a_lesser.has (fun _ _ _ _ _ _ us hl => match us, hl with | [_, _], _ => rfl) fun hm hb F => ok_lesser h_is_below F
  have h_greater : Has P w K mg base "greater" ["one", "two"] 2 (spU (gK K (clsOf mg)) 2 S_greater) := T.a_greater.has (fun _ _ _ _ _ _ us hl => match us, hl with | [_, _], _ => rfl) fun hm hb F => ok_greater h_is_below F
  have h_summed : Has P w K mg base "summed" ["some"] 3 (spU (gK K (clsOf mg)) 1 S_summed) := T.a_summed.has (fun _ _ _ _ _ _ us hl => match us, hl with | [_], _ => rfl) fun hm hb F => ok_summed T.k_NONE h_added F
  have h_lasts : Has P w K mg base "lasts" ["stretch"] 3 (spU (gK K (clsOf mg)) 1 S_lasts) := T.a_lasts.has (fun _ _ _ _ _ _ us hl => match us, hl with | [_], _ => rfl) fun hm hb F => ok_lasts h_less h_over F
  have h_length : Has P w K mg base "length" ["show"] 4 (spU (gK K (clsOf mg)) 1 S_length) := T.a_length.has (fun _ _ _ _ _ _ us hl => match us, hl with | [_], _ => rfl) fun hm hb F => ok_length h_lasts h_summed F
  have h_normal : Has P w K mg base "normal" ["show"] 1 (spO (gK K (clsOf mg)) 1 S_normal) := T.a_normal.has (fun _ _ _ _ _ _ us hl => match us, hl with | [_], _ => rfl) fun hm hb F => ok_normal  F
  have h_need_time : Has P w K mg base "need_time" ["show", "time", "most"] 2 (spU (gK K (clsOf mg)) 3 S_need_time) := T.a_need_time.has (fun _ _ _ _ _ _ us hl => match us, hl with | [_, _, _], _ => rfl) fun hm hb F => ok_need_time T.k_NONE T.x_OffReel h_is_below F
  have h_taken : Has P w K mg base "taken" ["show", "begin", "end"] 5 (spO (gK K (clsOf mg)) 3 S_taken) := T.a_taken.has (fun _ _ _ _ _ _ us hl => match us, hl with | [_, _, _], _ => rfl) fun hm hb F => ok_taken T.k_NONE h_length h_need_time h_lasts h_added h_greater h_lesser h_is_below h_less h_timed h_normal F
  have h_paced : Has P w K mg base "paced" ["show", "factor"] 3 (spO (gK K (clsOf mg)) 2 S_paced) := T.a_paced.has (fun _ _ _ _ _ _ us hl => match us, hl with | [_, _], _ => rfl) fun hm hb F => ok_paced h_timed F
  have h_Reel_init : HasI P w K mg base (clsOf mg "Reel") "Reel" ["self", "show"] 2 (spU (gK K (clsOf mg)) 2 S_Reel_init) := T.a_Reel_init.has (fun _ _ _ _ _ _ us hl => match us, hl with | [_, _], _ => rfl) fun F => ok_Reel_init T.c_Reel T.n_Reel_now T.n_Reel_elder T.n_Reel_undone h_normal F
  have h_Reel_show : HasM P w K mg base (clsOf mg "Reel") "show" ["self"] 1 (spO (gK K (clsOf mg)) 1 S_Reel_show) := T.a_Reel_show.has (fun _ _ _ _ _ _ us hl => match us, hl with | [_], _ => rfl) fun F => ok_Reel_show T.m_list T.c_Reel T.n_Reel_now F
  have h_Reel_turn : HasM P w K mg base (clsOf mg "Reel") "turn" ["self", "newer"] 2 (spU (gK K (clsOf mg)) 2 S_Reel_turn) := T.a_Reel_turn.has (fun _ _ _ _ _ _ us hl => match us, hl with | [_, _], _ => rfl) fun F => ok_Reel_turn T.c_Reel T.n_Reel_elder T.n_Reel_now T.n_Reel_undone h_normal F
  have h_Reel_out : HasM P w K mg base (clsOf mg "Reel") "out" ["self", "begin", "end"] 6 (spO (gK K (clsOf mg)) 3 S_Reel_out) := T.a_Reel_out.has (fun _ _ _ _ _ _ us hl => match us, hl with | [_, _, _], _ => rfl) fun F => ok_Reel_out T.c_Reel T.n_Reel_now h_taken h_Reel_turn h_length F
  have h_Reel_into : HasM P w K mg base (clsOf mg "Reel") "into" ["self", "time", "other"] 6 (spU (gK K (clsOf mg)) 3 S_Reel_into) := T.a_Reel_into.has (fun _ _ _ _ _ _ us hl => match us, hl with | [_, _, _], _ => rfl) fun F => ok_Reel_into T.c_Reel T.n_Reel_now h_taken h_Reel_turn h_length F
  have h_Reel_faster : HasM P w K mg base (clsOf mg "Reel") "faster" ["self", "begin", "end", "factor"] 6 (spU (gK K (clsOf mg)) 4 S_Reel_faster) := T.a_Reel_faster.has (fun _ _ _ _ _ _ us hl => match us, hl with | [_, _, _, _], _ => rfl) fun F => ok_Reel_faster T.c_Reel T.n_Reel_now h_taken h_length h_Reel_turn h_paced F
  have h_Reel_back : HasM P w K mg base (clsOf mg "Reel") "back" ["self"] 1 (spU (gK K (clsOf mg)) 1 S_Reel_back) := T.a_Reel_back.has (fun _ _ _ _ _ _ us hl => match us, hl with | [_], _ => rfl) fun F => ok_Reel_back T.c_Reel T.n_Reel_elder T.x_NoDeed T.n_Reel_undone T.n_Reel_now F
  have h_Reel_again : HasM P w K mg base (clsOf mg "Reel") "again" ["self"] 1 (spU (gK K (clsOf mg)) 1 S_Reel_again) := T.a_Reel_again.has (fun _ _ _ _ _ _ us hl => match us, hl with | [_], _ => rfl) fun F => ok_Reel_again T.c_Reel T.n_Reel_undone T.x_NoDeed T.n_Reel_elder T.n_Reel_now F
  have h_law_begun : Has P w K mg base "_law_begun" ["_law_script"] 1 (spU (gK K (clsOf mg)) 1 S_law_begun) := T.a_law_begun.has (fun _ _ _ _ _ _ us hl => match us, hl with | [_], _ => rfl) fun hm hb F => ok_law_begun T.m_list T.m_int T.m_len F
  have h_law_take : Has P w K mg base "_law_take" ["_law_box", "_law_many"] 1 (spU (gK K (clsOf mg)) 2 S_law_take) := T.a_law_take.has (fun _ _ _ _ _ _ us hl => match us, hl with | [_, _], _ => rfl) fun hm hb F => ok_law_take  F
  have h_law_alike : Has P w K mg base "_law_alike" ["_law_found", "_law_due"] 12 (spU (gK K (clsOf mg)) 2 S_law_alike) := T.a_law_alike.has (fun _ _ _ _ _ _ us hl => match us, hl with | [_, _], _ => rfl) fun hm hb F => ok_law_alike T.m_isinstance T.m_bool T.m_int T.m_str T.m_tuple T.m_list T.m_len T.m_range F hm hb 11
  have h_law_fr : Has P w K mg base "_law_fr" ["_law_top", "_law_bottom"] 1 (spU (gK K (clsOf mg)) 2 S_law_fr) := T.a_law_fr.has (fun _ _ _ _ _ _ us hl => match us, hl with | [_, _], _ => rfl) fun hm hb F => ok_law_fr T.m_abs F
  have h_law_sum : Has P w K mg base "_law_sum" ["_law_one_here", "_law_two"] 2 (spU (gK K (clsOf mg)) 2 S_law_sum) := T.a_law_sum.has (fun _ _ _ _ _ _ us hl => match us, hl with | [_, _], _ => rfl) fun hm hb F => ok_law_sum h_law_fr F
  have h_law_minus : Has P w K mg base "_law_minus" ["_law_one_here", "_law_two"] 2 (spU (gK K (clsOf mg)) 2 S_law_minus) := T.a_law_minus.has (fun _ _ _ _ _ _ us hl => match us, hl with | [_, _], _ => rfl) fun hm hb F => ok_law_minus h_law_fr F
  have h_law_times : Has P w K mg base "_law_times" ["_law_one_here", "_law_two"] 2 (spU (gK K (clsOf mg)) 2 S_law_times) := T.a_law_times.has (fun _ _ _ _ _ _ us hl => match us, hl with | [_, _], _ => rfl) fun hm hb F => ok_law_times h_law_fr F
  have h_law_by : Has P w K mg base "_law_by" ["_law_one_here", "_law_two"] 2 (spU (gK K (clsOf mg)) 2 S_law_by) := T.a_law_by.has (fun _ _ _ _ _ _ us hl => match us, hl with | [_, _], _ => rfl) fun hm hb F => ok_law_by h_law_fr F
  have h_law_low : Has P w K mg base "_law_low" ["_law_one_here", "_law_two"] 1 (spU (gK K (clsOf mg)) 2 S_law_low) := T.a_law_low.has (fun _ _ _ _ _ _ us hl => match us, hl with | [_, _], _ => rfl) fun hm hb F => ok_law_low  F
  have h_law_time : Has P w K mg base "_law_time" ["_law_box", "_law_most"] 2 (spU (gK K (clsOf mg)) 2 S_law_time) := T.a_law_time.has (fun _ _ _ _ _ _ us hl => match us, hl with | [_, _], _ => rfl) fun hm hb F => ok_law_time T.m_int h_law_take h_law_fr F
  have h_law_pace : Has P w K mg base "_law_pace" ["_law_box"] 2 (spU (gK K (clsOf mg)) 1 S_law_pace) := T.a_law_pace.has (fun _ _ _ _ _ _ us hl => match us, hl with | [_], _ => rfl) fun hm hb F => ok_law_pace h_law_take h_law_fr F
  have h_law_show : Has P w K mg base "_law_show" ["_law_box"] 3 (spU (gK K (clsOf mg)) 1 S_law_show) := T.a_law_show.has (fun _ _ _ _ _ _ us hl => match us, hl with | [_], _ => rfl) fun hm hb F => ok_law_show T.m_range T.m_int h_law_take h_law_time h_law_pace h_law_sum F
  have h_law_last : Has P w K mg base "_law_last" ["_law_stretch"] 3 (spU (gK K (clsOf mg)) 1 S_law_last) := T.a_law_last.has (fun _ _ _ _ _ _ us hl => match us, hl with | [_], _ => rfl) fun hm hb F => ok_law_last h_law_minus h_law_by F
  have h_law_long : Has P w K mg base "_law_long" ["_law_show_here"] 4 (spU (gK K (clsOf mg)) 1 S_law_long) := T.a_law_long.has (fun _ _ _ _ _ _ us hl => match us, hl with | [_], _ => rfl) fun hm hb F => ok_law_long h_law_last h_law_sum F
  have h_law_one : Has P w K mg base "_law_one" ["_law_show_here"] 1 (spU (gK K (clsOf mg)) 1 S_law_one) := T.a_law_one.has (fun _ _ _ _ _ _ us hl => match us, hl with | [_], _ => rfl) fun hm hb F => ok_law_one  F
  have h_law_cut : Has P w K mg base "_law_cut" ["_law_show_here", "_law_begin", "_law_end"] 4 (spU (gK K (clsOf mg)) 3 S_law_cut) := T.a_law_cut.has (fun _ _ _ _ _ _ us hl => match us, hl with | [_, _, _], _ => rfl) fun hm hb F => ok_law_cut h_law_last h_law_low h_law_times h_law_sum h_law_minus F
  have h_law_within : Has P w K mg base "_law_within" ["_law_box", "_law_most"] 3 (spU (gK K (clsOf mg)) 2 S_law_within) := T.a_law_within.has (fun _ _ _ _ _ _ us hl => match us, hl with | [_, _], _ => rfl) fun hm hb F => ok_law_within h_law_take h_law_fr h_law_times F
  have h_law_deed : Has P w K mg base "_law_deed" ["_law_box", "_law_reel", "_law_show_here"] 7 (spU (gK K (clsOf mg)) 3 S_law_deed) := T.a_law_deed.has (fun _ _ _ _ _ _ us hl => match us, hl with | [_, _, _], _ => rfl) fun hm hb F => ok_law_deed T.m_list T.c_Reel h_law_long h_law_within h_law_low h_law_cut h_law_take h_Reel_out h_law_one h_law_show h_Reel_into h_law_pace h_Reel_faster h_law_times F
  have h_law_is_off : Has P w K mg base "_law_is_off" ["_law_reel", "_law_way", "_law_whole"] 7 (spU (gK K (clsOf mg)) 3 S_law_is_off) := T.a_law_is_off.has (fun _ _ _ _ _ _ us hl => match us, hl with | [_, _, _], _ => rfl) fun hm hb F => ok_law_is_off T.c_Reel T.f_OffReel T.kn_OffReel h_law_sum h_Reel_out h_Reel_faster h_Reel_into F
  exact ok_law T.m_range T.m_int T.m_isinstance T.m_ValueError T.m_max T.m_len T.m_min T.c_Reel T.f_NoDeed T.f_ReelError T.f_OffReel T.kn_ReelError T.kn_OffReel T.kn_ValueError T.ec_NoDeed T.a_law_stepped h_law_begun h_law_show h_law_take h_Reel_init h_law_long h_law_is_off h_Reel_back h_Reel_again h_law_deed h_Reel_show h_law_one h_law_alike F hcd TB TO
theorem fin {l : PySem.W.OpenLaw} {w : World} {K : PySem.W.Frag} {h : Heap} {mg : Str → Option Value} {fa : Addr} (X : K.In h) (hmg : mg "law" = some (.ref fa)) (O : LamX.OwnTab K fa h) (T : Tx K mg)
    (LT : ∀ (ns : List Int) (d : D), ns.length ≤ 63 → (d = .frz (ns.map .int) ∨ d = .lst (ns.map .int)) → ∃ ρ1 om1 om2, u_law1 (ent 10 [d]) [] = .nx ρ1 om1 ∧ u_law2 ρ1 (om1 ++ [.tab "law.<locals>.<lambda>"]) = .rt (.bl true) om2) : LamX.LawAtS l w K CX0 13 63 "_law_script" mg fa h :=
  lawAt (st := t_law) (cls := clsOf mg) X hmg O T.ht (clsOf_eq hmg) T.a_law (fun fd F s u => by
    obtain ⟨oc, od, kV, doc, pm, an, cdv, ct, osl, rfl, lk, hcd⟩ := F.ex
    exact .of_eq rfl) (fun base fd c Pt F hcd TB TO => law_ok T F hcd TB TO) LT
end Dv

namespace Dv
open PySem PySem.Spec PyProof.Rows L2
local macro_rules | `(tactic| walk_at "ev") => `(tactic| try simp (disch := omega) only [sSeq_eq, seq_nx, seq_rt, seq_rto, seq_xc, seq_bk, seq_ct, seq_ite, sAsg, sAsgO, sExpr, sRet, sRetO, sRetN, sIf, sNext, uVar, uC, uUn, uBin, uB, uNot, uAnd, uOr, uTV, uAndV, uOrV, uNotV, uIf, uChain, uNil, uCons, uTup, uLst, uLstO, uFn, uFnO, uFz, uMv, uNew, uCall, uCallO, uCallN, uBinV, uBinW, uBinL, uMeO, uMeL, uFnV, sSetL, sAsgG, gN, gT2, gT3, gT4, iLst, iFn,   bind_ok, bind_xc, of_ok, of_xc, res_ok, res_xc, res0_ok, own_ok, own_xc, fr_nx, fr_rt, fr_rto, fr_xc, fo_rto, fo_xc, liftO_some, dBool_bl, items_lst, items_frz, ent, defU, defO, List.map_cons, List.map_nil, List.length_cons, List.length_nil, List.cons_append, List.nil_append, List.append_nil, List.replicate, List.getElem?_cons_zero, List.getElem?_cons_succ, List.set_cons_zero, List.set_cons_succ, Nat.zero_add, Nat.reduceAdd, Nat.reduceSub, Nat.reduceLeDiff,   le_big, lt_big, atN_zero, atN_one, atN_two, atN_three, setN_zero, setN_one, popAt_zero, len_zero, len_succ, dMul_r, dMul_l, dDiv_pos, dMod_pos, dAdd_int, dSub_int, dNeg_int, dLt_int, dLe_int, dGt_int, dGe_int, dEq_int, dNe_int, dEq_bl, dNe_bl, dEq_nil, dNe_nil, dIx_lst, dIx_tup, fAbs_int, fInt_bl, fInt_int, fLen_lst, fLen_frz, fLen_tup, ite_true, ite_false, if_true, if_false, Bool.not_true, Bool.not_false, decide_true, decide_false, Bool.true_eq_false, Bool.false_eq_true, reduceIte, reduceCtorEq, turn_nx, turn_ct, turn_bk, turn_rt, turn_rto, turn_xc, sFor_eq, goL_nil, eq_self])
local macro_rules | `(tactic| walk_at "evs") => `(tactic| try simp (disch := omega) only [sSeq_eq, seq_nx, seq_rt, seq_rto, seq_xc, seq_bk, seq_ct, seq_ite, sAsg, sAsgO, sExpr, sRet, sRetO, sRetN, sIf, sNext, uVar, uC, uUn, uBin, uB, uNot, uAnd, uOr, uTV, uAndV, uOrV, uNotV, uIf, uChain, uNil, uCons, uTup, uLst, uLstO, uFn, uFnO, uFz, uMv, uNew, uCall, uCallO, uCallN, uBinV, uBinW, uBinL, uMeO, uMeL, uFnV, sSetL, sAsgG, gN, gT2, gT3, gT4, iLst, iFn,   bind_ok, bind_xc, of_ok, of_xc, res_ok, res_xc, res0_ok, own_ok, own_xc, fr_nx, fr_rt, fr_rto, fr_xc, fo_rto, fo_xc, liftO_some, dBool_bl, items_lst, items_frz, ent, defU, defO, List.map_cons, List.map_nil, List.length_cons, List.length_nil, List.cons_append, List.nil_append, List.append_nil, List.replicate, List.getElem?_cons_zero, List.getElem?_cons_succ, List.set_cons_zero, List.set_cons_succ, Nat.zero_add, Nat.reduceAdd, Nat.reduceSub, Nat.reduceLeDiff,   le_big, lt_big, atN_zero, atN_one, atN_two, atN_three, setN_zero, setN_one, popAt_zero, len_zero, len_succ, dMul_r, dMul_l, dDiv_pos, dMod_pos, dAdd_int, dSub_int, dNeg_int, dLt_int, dLe_int, dGt_int, dGe_int, dEq_int, dNe_int, dEq_bl, dNe_bl, dEq_nil, dNe_nil, dIx_lst, dIx_tup, fAbs_int, fInt_bl, fInt_int, fLen_lst, fLen_frz, fLen_tup, ite_true, ite_false, if_true, if_false, Bool.not_true, Bool.not_false, decide_true, decide_false, Bool.true_eq_false, Bool.false_eq_true, reduceIte, reduceCtorEq, turn_nx, turn_ct, turn_bk, turn_rt, turn_rto, turn_xc, sFor_eq, goL_nil, eq_self, *])
theorem take_eq {m : Int} (b : Box) (rest : Om) (h : 0 < m) (h2 : m < 1073741824) : S_law_take [.loc 1, .int m] (bom b rest) = .ok (.int (tkv m b)) (bom (tkn m b) rest) := by
  obtain ⟨ns, s, hs⟩ := b
  cases ns with
  | nil =>
    unfold S_law_take u_law_take bom tkv tkn
    walk_at "ev"
  | cons n r =>
    unfold S_law_take u_law_take bom tkv tkn
    walk_at "ev"
    by_cases h0 : n / m = 0
    · simp only [h0, decide_true, true_or, if_true]
      walk_at "ev"
    · by_cases h1 : n / m = -1
      · simp only [h0, h1, decide_true, decide_false, or_true, if_true]
        walk_at "ev"
      · simp only [h0, h1, decide_false, or_self, if_false]
        walk_at "ev"

theorem begun_eq (ns : List Int) : ∃ b : Box, S_law_begun [.frz (ns.map D.int)] [] = .ok (.loc 1) (bom b []) := by
  obtain ⟨st, r, h, e⟩ := begun_loop (.frz (ns.map D.int)) [] ns 0 none ⟨by decide, by decide⟩
  unfold S_law_begun u_law_begun
  walk_at "ev"
  rw [e]
  walk_at "ev"
  simp only [fList]
  walk_at "ev"
  by_cases hl : (2 : Int) < ((ns.map D.int).length : Int)
  · simp only [hl, decide_true, if_true, Int.mul_one]
    exact ⟨⟨ns, st, h⟩, rfl⟩
  · simp only [hl, decide_false, if_false, Int.mul_zero, Bool.false_eq_true]
    exact ⟨⟨ns, 0, by decide, by decide⟩, rfl⟩
theorem made_gen {t b : Int} (om : Om) (hb : b ≠ 0) (ok1 : divOk t (gN' t b) = true) (ok2 : divOk b (gN' t b) = true) : S_made [.int t, .int b] om = .ok (encF (mk t b)) om := by
  obtain ⟨r', e⟩ := gcd_loop (some (.val (.int t))) (some (.val (.int b))) om b.natAbs (b.natAbs + 1) t.natAbs b.natAbs none (Nat.le_refl _) (Nat.lt_succ_self _)
  have hne := gN'_ne (t := t) hb
  have hle := gN'_le (t := t) hb
  have d1 := dDiv_int (i := t) hne ok1
  have d2 := dDiv_int (i := b) hne ok2
  unfold S_made u_made
  walk_at "ev"
  rw [sWhile_eq, abs_if, abs_if]
  simp only [fuelI, List.getElem?_cons_succ, List.getElem?_cons_zero, Int.natAbs_natCast]
  rw [e]
  have hg : (Nat.gcd t.natAbs b.natAbs : Nat) = Int.gcd t b := rfl
  rw [hg]
  walk_at "ev"
  by_cases hn : b < 0
  · have eg : gN' t b = -(Int.gcd t b : Int) := by unfold gN'; rw [if_pos hn]
    simp only [hn, decide_true, if_true]
    walk_at "ev"
    rw [eg] at d1 d2
    clear hne hle ok1 ok2 hn
    walk_at "evs"
    unfold mk
    rw [eg]
  · have eg : gN' t b = (Int.gcd t b : Int) := by unfold gN'; rw [if_neg hn]
    simp only [hn, decide_false, if_false, Bool.false_eq_true]
    walk_at "ev"
    rw [eg] at d1 d2
    clear hne hle ok1 ok2 hn
    walk_at "evs"
    unfold mk
    rw [eg]
theorem made_eq {t b : Int} (om : Om) (hb : b ≠ 0) (hs : b.natAbs < 2 ^ 9000) : S_made [.int t, .int b] om = .ok (encF (mk t b)) om :=
  made_gen om hb (divOk_bits (Nat.lt_of_le_of_lt (gN'_le hb) hs)) (divOk_bits (Nat.lt_of_le_of_lt (gN'_le hb) hs))
theorem lfr_gen {t b : Int} (om : Om) (hb : b ≠ 0) (ok1 : divOk t (gN' t b) = true) (ok2 : divOk b (gN' t b) = true) : S_law_fr [.int t, .int b] om = .ok (encF (mk t b)) om := by
  obtain ⟨r', e⟩ := gcd_loop (some (.val (.int t))) (some (.val (.int b))) om b.natAbs (b.natAbs + 1) t.natAbs b.natAbs none (Nat.le_refl _) (Nat.lt_succ_self _)
  have hne := gN'_ne (t := t) hb
  have hle := gN'_le (t := t) hb
  have d1 := dDiv_int (i := t) hne ok1
  have d2 := dDiv_int (i := b) hne ok2
  unfold S_law_fr u_law_fr
  walk_at "ev"
  rw [sWhile_eq, abs_if, abs_if]
  simp only [fuelI, List.getElem?_cons_succ, List.getElem?_cons_zero, Int.natAbs_natCast]
  rw [e]
  have hg : (Nat.gcd t.natAbs b.natAbs : Nat) = Int.gcd t b := rfl
  rw [hg]
  walk_at "ev"
  by_cases hn : b < 0
  · have eg : gN' t b = -(Int.gcd t b : Int) := by unfold gN'; rw [if_pos hn]
    simp only [hn, decide_true, if_true]
    walk_at "ev"
    rw [eg] at d1 d2
    rw [Int.zero_sub]
    clear hne hle ok1 ok2 hn
    walk_at "evs"
    unfold mk
    rw [eg]
  · have eg : gN' t b = (Int.gcd t b : Int) := by unfold gN'; rw [if_neg hn]
    simp only [hn, decide_false, if_false, Bool.false_eq_true]
    walk_at "ev"
    rw [eg] at d1 d2
    clear hne hle ok1 ok2 hn
    walk_at "evs"
    unfold mk
    rw [eg]
theorem lfr_eq {t b : Int} (om : Om) (hb : b ≠ 0) (hs : b.natAbs < 2 ^ 9000) : S_law_fr [.int t, .int b] om = .ok (encF (mk t b)) om :=
  lfr_gen om hb (divOk_bits (Nat.lt_of_le_of_lt (gN'_le hb) hs)) (divOk_bits (Nat.lt_of_le_of_lt (gN'_le hb) hs))
theorem alike_seq (n : Nat) (d : D) (ds : List D) (om : Om) (hz : ds.length ≤ 1000) (b1 : dIs d .non = some (.bl false)) (b2 : dIsi "bool" d = some (.bl false)) (b3 : dIsi "int" d = some (.bl false)) (b4 : dIsi "str" d = some (.bl false)) {p q : Bool} (b5 : dIsi "tuple" d = some (.bl p)) (b6 : dIsi "list" d = some (.bl q))
    (b7 : fLen [d] = some (.int ds.length)) (hd : ∀ (k : Nat) (x : D), ds[k]? = some x → dIx d (.int (k : Int)) = some x ∧ R_law_alike n [x, x] om = .ok (.bl true) om) : R_law_alike (n + 1) [d, d] om = .ok (.bl true) om := by
  obtain ⟨r', e⟩ := alike_loop (rec := R_law_alike n) (f := d) (g := d) (om := om) (List.range ds.length) none fun k hk => by
    have hk' : k < ds.length := by simpa using hk
    obtain ⟨e1, e2⟩ := hd k ds[k] (by simp [hk'])
    exact ⟨_, _, e1, e1, e2⟩
  have e9 : fRng1 [.int (ds.length : Int)] = some ((List.range ds.length).map fun (k : Nat) => D.int ((0 : Int) + (k : Int))) := by
    rw [fRng1_eq (by omega)]
    rfl
  clear hd hz
  unfold R_law_alike u_law_alike
  walk_at "evs"
theorem alike_refl : ∀ (n : Nat) (d : D) (om : Om), good n d = true → R_law_alike (n + 1) [d, d] om = .ok (.bl true) om := by
  have prim : ∀ (n : Nat) (d : D) (om : Om), good 0 d = true → R_law_alike (n + 1) [d, d] om = .ok (.bl true) om := by
    intro n d om h
    unfold R_law_alike u_law_alike
    cases d with
    | non =>
      have e1 : dIs .non .non = some (.bl true) := rfl
      walk_at "evs"
    | bl b =>
      have e1 : dIs (.bl b) .non = some (.bl false) := rfl
      have e2 : dIsi "bool" (.bl b) = some (.bl true) := isi_of rfl (kb _ _ _)
      walk_at "evs"
    | int i =>
      have e1 : dIs (.int i) .non = some (.bl false) := rfl
      have e2 : dIsi "bool" (.int i) = some (.bl false) := isi_of rfl (kb _ _ _)
      have e3 : dIsi "int" (.int i) = some (.bl true) := isi_of rfl (kb _ _ _)
      walk_at "evs"
    | str x =>
      have e1 : dIs (.str x) .non = some (.bl false) := rfl
      have e2 : dIsi "bool" (.str x) = some (.bl false) := isi_of rfl (kb _ _ _)
      have e3 : dIsi "int" (.str x) = some (.bl false) := isi_of rfl (kb _ _ _)
      have e4 : dIsi "str" (.str x) = some (.bl true) := isi_of rfl (kb _ _ _)
      have e5 : dEq (.str x) (.str x) = some (.bl true) := by show some (D.bl (decide (x = x))) = _; simp
      walk_at "evs"
    | _ => cases h
  intro n
  induction n with
  | zero => exact prim 0
  | succ n ih =>
    intro d om h
    cases d with
    | tup ds =>
      unfold good at h
      obtain ⟨h1, h2⟩ := Bool.and_eq_true_iff.mp h
      exact alike_seq (n + 1) _ ds om (of_decide_eq_true h1) rfl (isi_of rfl (kb _ _ _)) (isi_of rfl (kb _ _ _)) (isi_of rfl (kb _ _ _)) (isi_of rfl (kb "tuple" "tuple" true)) (isi_of rfl (kb "tuple" "list" false)) rfl fun k x e => ⟨atN_nat e, ih x om (goods_get h2 e)⟩
    | lst ds =>
      unfold good at h
      obtain ⟨h1, h2⟩ := Bool.and_eq_true_iff.mp h
      exact alike_seq (n + 1) _ ds om (of_decide_eq_true h1) rfl (isi_of rfl (kb _ _ _)) (isi_of rfl (kb _ _ _)) (isi_of rfl (kb _ _ _)) (isi_of rfl (kb "list" "tuple" false)) (isi_of rfl (kb "list" "list" true)) rfl fun k x e => ⟨atN_nat e, ih x om (goods_get h2 e)⟩
    | non => exact prim _ _ om rfl
    | bl b => exact prim _ _ om rfl
    | int b => exact prim _ _ om rfl
    | str b => exact prim _ _ om rfl
    | _ => cases h
theorem alike_eq {d : D} (om : Om) (h : good 10 d = true) : S_law_alike [d, d] om = .ok (.bl true) om := alike_refl 10 d om h
section
variable {N M : Nat} {a b : Fr} (om : Om) (ha : Bd N a) (hb : Bd M b) (hz : N + M ≤ 13000)
include ha hb hz
theorem added_eq : S_added [encF a, encF b] om = .ok (encF (fsum a b)) om := by
  have m1 := dMul_int (mulOk_bits ha.n hb.d (by omega))
  have m2 := dMul_int (mulOk_bits hb.n ha.d (by omega))
  have m3 := dMul_int (mulOk_bits ha.d hb.d (by omega))
  have e := made_gen (t := a.1 * b.2 + b.1 * a.2) om (pos_mul ha.p hb.p) (divOk_big (pow_13400 (bits_add (bits_mul ha.n hb.d) (by rw [Nat.add_comm]; exact bits_mul hb.n ha.d)) (by omega))) (divOk_big (pow_13400 (bits_mul ha.d hb.d) (by omega)))
  unfold S_added u_added
  walk_at "evs"
  rfl
theorem lsum_eq : S_law_sum [encF a, encF b] om = .ok (encF (fsum a b)) om := by
  have m1 := dMul_int (mulOk_bits ha.n hb.d (by omega))
  have m2 := dMul_int (mulOk_bits hb.n ha.d (by omega))
  have m3 := dMul_int (mulOk_bits ha.d hb.d (by omega))
  have e := lfr_gen (t := a.1 * b.2 + b.1 * a.2) om (pos_mul ha.p hb.p) (divOk_big (pow_13400 (bits_add (bits_mul ha.n hb.d) (by rw [Nat.add_comm]; exact bits_mul hb.n ha.d)) (by omega))) (divOk_big (pow_13400 (bits_mul ha.d hb.d) (by omega)))
  unfold S_law_sum u_law_sum
  walk_at "evs"
  rfl
theorem less_eq : S_less [encF a, encF b] om = .ok (encF (fsub a b)) om := by
  have m1 := dMul_int (mulOk_bits ha.n hb.d (by omega))
  have m2 := dMul_int (mulOk_bits hb.n ha.d (by omega))
  have m3 := dMul_int (mulOk_bits ha.d hb.d (by omega))
  have e := made_gen (t := a.1 * b.2 - b.1 * a.2) om (pos_mul ha.p hb.p) (divOk_big (pow_13400 (bits_sub (bits_mul ha.n hb.d) (by rw [Nat.add_comm]; exact bits_mul hb.n ha.d)) (by omega))) (divOk_big (pow_13400 (bits_mul ha.d hb.d) (by omega)))
  unfold S_less u_less
  walk_at "evs"
  rfl
theorem lminus_eq : S_law_minus [encF a, encF b] om = .ok (encF (fsub a b)) om := by
  have m1 := dMul_int (mulOk_bits ha.n hb.d (by omega))
  have m2 := dMul_int (mulOk_bits hb.n ha.d (by omega))
  have m3 := dMul_int (mulOk_bits ha.d hb.d (by omega))
  have e := lfr_gen (t := a.1 * b.2 - b.1 * a.2) om (pos_mul ha.p hb.p) (divOk_big (pow_13400 (bits_sub (bits_mul ha.n hb.d) (by rw [Nat.add_comm]; exact bits_mul hb.n ha.d)) (by omega))) (divOk_big (pow_13400 (bits_mul ha.d hb.d) (by omega)))
  unfold S_law_minus u_law_minus
  walk_at "evs"
  rfl
theorem timed_eq : S_timed [encF a, encF b] om = .ok (encF (fmul a b)) om := by
  have m1 := dMul_int (mulOk_bits ha.n hb.n (by omega))
  have m3 := dMul_int (mulOk_bits ha.d hb.d (by omega))
  have e := made_gen (t := a.1 * b.1) om (pos_mul ha.p hb.p) (divOk_big (pow_13400 (bits_mul ha.n hb.n) (by omega))) (divOk_big (pow_13400 (bits_mul ha.d hb.d) (by omega)))
  unfold S_timed u_timed
  walk_at "evs"
  rfl
theorem ltimes_eq : S_law_times [encF a, encF b] om = .ok (encF (fmul a b)) om := by
  have m1 := dMul_int (mulOk_bits ha.n hb.n (by omega))
  have m3 := dMul_int (mulOk_bits ha.d hb.d (by omega))
  have e := lfr_gen (t := a.1 * b.1) om (pos_mul ha.p hb.p) (divOk_big (pow_13400 (bits_mul ha.n hb.n) (by omega))) (divOk_big (pow_13400 (bits_mul ha.d hb.d) (by omega)))
  unfold S_law_times u_law_times
  walk_at "evs"
  rfl
theorem over_eq (h0 : b.1 ≠ 0) : S_over [encF a, encF b] om = .ok (encF (fdv a b)) om := by
  have m1 := dMul_int (mulOk_bits ha.n hb.d (by omega))
  have m3 := dMul_int (mulOk_bits ha.d hb.n (by omega))
  have e := made_gen (t := a.1 * b.2) om (ne_dv ha hb hz h0) (divOk_big (pow_13400 (bits_mul ha.n hb.d) (by omega))) (divOk_big (pow_13400 (bits_mul ha.d hb.n) (by omega)))
  unfold S_over u_over
  walk_at "evs"
  rfl
theorem lby_eq (h0 : b.1 ≠ 0) : S_law_by [encF a, encF b] om = .ok (encF (fdv a b)) om := by
  have m1 := dMul_int (mulOk_bits ha.n hb.d (by omega))
  have m3 := dMul_int (mulOk_bits ha.d hb.n (by omega))
  have e := lfr_gen (t := a.1 * b.2) om (ne_dv ha hb hz h0) (divOk_big (pow_13400 (bits_mul ha.n hb.d) (by omega))) (divOk_big (pow_13400 (bits_mul ha.d hb.n) (by omega)))
  unfold S_law_by u_law_by
  walk_at "evs"
  rfl
theorem below_eq : S_is_below [encF a, encF b] om = .ok (.bl (flt a b)) om := by
  have m1 := dMul_int (mulOk_bits ha.n hb.d (by omega))
  have m2 := dMul_int (mulOk_bits hb.n ha.d (by omega))
  unfold S_is_below u_is_below
  walk_at "evs"
  rfl
theorem llow_eq : S_law_low [encF a, encF b] om = .ok (.bl (flt a b)) om := by
  have m1 := dMul_int (mulOk_bits ha.n hb.d (by omega))
  have m2 := dMul_int (mulOk_bits hb.n ha.d (by omega))
  unfold S_law_low u_law_low
  walk_at "evs"
  rfl
end
end Dv

namespace Dv
open PySem PySem.Spec PyProof.Rows L2
local macro_rules | `(tactic| walk_at "ev") => `(tactic| try simp (disch := omega) only [sSeq_eq, seq_nx, seq_rt, seq_rto, seq_xc, seq_bk, seq_ct, seq_ite, sAsg, sAsgO, sExpr, sRet, sRetO, sRetN, sIf, sNext, uVar, uC, uUn, uBin, uB, uNot, uAnd, uOr, uTV, uAndV, uOrV, uNotV, uIf, uChain, uNil, uCons, uTup, uLst, uLstO, uFn, uFnO, uFz, uMv, uNew, uCall, uCallO, uCallN, uBinV, uBinW, uBinL, uMeO, uMeL, uFnV, sSetL, sAsgG, gN, gT2, gT3, gT4, iLst, iFn,   bind_ok, bind_xc, of_ok, of_xc, res_ok, res_xc, res0_ok, own_ok, own_xc, fr_nx, fr_rt, fr_rto, fr_xc, fo_rto, fo_xc, liftO_some, dBool_bl, items_lst, items_frz, ent, defU, defO, List.map_cons, List.map_nil, List.length_cons, List.length_nil, List.cons_append, List.nil_append, List.append_nil, List.replicate, List.getElem?_cons_zero, List.getElem?_cons_succ, List.set_cons_zero, List.set_cons_succ, Nat.zero_add, Nat.reduceAdd, Nat.reduceSub, Nat.reduceLeDiff,   le_big, lt_big, atN_zero, atN_one, atN_two, atN_three, setN_zero, setN_one, popAt_zero, len_zero, len_succ, dMul_r, dMul_l, dDiv_pos, dMod_pos, dAdd_int, dSub_int, dNeg_int, dLt_int, dLe_int, dGt_int, dGe_int, dEq_int, dNe_int, dEq_bl, dNe_bl, dEq_nil, dNe_nil, dIx_lst, dIx_tup, fAbs_int, fInt_bl, fInt_int, fLen_lst, fLen_frz, fLen_tup, ite_true, ite_false, if_true, if_false, Bool.not_true, Bool.not_false, decide_true, decide_false, Bool.true_eq_false, Bool.false_eq_true, reduceIte, reduceCtorEq, turn_nx, turn_ct, turn_bk, turn_rt, turn_rto, turn_xc, sFor_eq, goL_nil, eq_self])
local macro_rules | `(tactic| walk_at "evs") => `(tactic| try simp (disch := omega) only [sSeq_eq, seq_nx, seq_rt, seq_rto, seq_xc, seq_bk, seq_ct, seq_ite, sAsg, sAsgO, sExpr, sRet, sRetO, sRetN, sIf, sNext, uVar, uC, uUn, uBin, uB, uNot, uAnd, uOr, uTV, uAndV, uOrV, uNotV, uIf, uChain, uNil, uCons, uTup, uLst, uLstO, uFn, uFnO, uFz, uMv, uNew, uCall, uCallO, uCallN, uBinV, uBinW, uBinL, uMeO, uMeL, uFnV, sSetL, sAsgG, gN, gT2, gT3, gT4, iLst, iFn,   bind_ok, bind_xc, of_ok, of_xc, res_ok, res_xc, res0_ok, own_ok, own_xc, fr_nx, fr_rt, fr_rto, fr_xc, fo_rto, fo_xc, liftO_some, dBool_bl, items_lst, items_frz, ent, defU, defO, List.map_cons, List.map_nil, List.length_cons, List.length_nil, List.cons_append, List.nil_append, List.append_nil, List.replicate, List.getElem?_cons_zero, List.getElem?_cons_succ, List.set_cons_zero, List.set_cons_succ, Nat.zero_add, Nat.reduceAdd, Nat.reduceSub, Nat.reduceLeDiff,   le_big, lt_big, atN_zero, atN_one, atN_two, atN_three, setN_zero, setN_one, popAt_zero, len_zero, len_succ, dMul_r, dMul_l, dDiv_pos, dMod_pos, dAdd_int, dSub_int, dNeg_int, dLt_int, dLe_int, dGt_int, dGe_int, dEq_int, dNe_int, dEq_bl, dNe_bl, dEq_nil, dNe_nil, dIx_lst, dIx_tup, fAbs_int, fInt_bl, fInt_int, fLen_lst, fLen_frz, fLen_tup, ite_true, ite_false, if_true, if_false, Bool.not_true, Bool.not_false, decide_true, decide_false, Bool.true_eq_false, Bool.false_eq_true, reduceIte, reduceCtorEq, turn_nx, turn_ct, turn_bk, turn_rt, turn_rto, turn_xc, sFor_eq, goL_nil, eq_self, *])
/-! ### draws of times, paces -/
/-- a time -/
structure Tm (N : Nat) (q : Fr) : Prop extends Bd N q where
  nn : 0 ≤ val q
theorem Tm.mono {N M : Nat} {q : Fr} (h : Tm N q) (k : N ≤ M) : Tm M q := ⟨h.toBd.mono k, h.nn⟩
theorem int_bl (b : Bool) : fInt [.bl b] = some (.int (if b then 1 else 0)) := rfl
theorem time_eq {m : Int} (b : Box) (rest : Om) (h : 0 < m) (h2 : m ≤ 60) : ∃ q b', S_law_time [.loc 1, .int m] (bom b rest) = .ok (encF q) (bom b' rest) ∧ Tm 6 q := by
  have e1 := take_eq (m := m) b rest h (by omega)
  have e2 := take_eq (m := 2) (tkn m b) rest (by decide) (by decide)
  have e3 := take_eq (m := 6) (tkn 2 (tkn m b)) rest (by decide) (by decide)
  have e4 := take_eq (m := 30) (tkn 6 (tkn 2 (tkn m b))) rest (by decide) (by decide)
  have e5 := take_eq (m := 6) (tkn 6 (tkn 2 (tkn m b))) rest (by decide) (by decide)
  have b1 := tkv_nn (m := m) b h
  have c1 := tkv_lt (m := m) b h
  have b4 := tkv_nn (m := 30) (tkn 6 (tkn 2 (tkn m b))) (by decide)
  have c4 := tkv_lt (m := 30) (tkn 6 (tkn 2 (tkn m b))) (by decide)
  have b5 := tkv_nn (m := 6) (tkn 6 (tkn 2 (tkn m b))) (by decide)
  have c5 := tkv_lt (m := 6) (tkn 6 (tkn 2 (tkn m b))) (by decide)
  have p9 : (2 : Nat) ^ 6 ≤ 2 ^ 9000 := Nat.pow_le_pow_right (by decide) (by decide)
  have p6 : (2 : Nat) ^ 6 = 64 := by decide
  have fin : ∀ {t d : Int}, 0 ≤ t → t < 60 → 0 < d → d ≤ 30 → Tm 6 (mk t d) := fun h1 h2 h3 h4 => ⟨bd_mk (by omega) (by omega) (by omega), val_nn_mk h3 h1⟩
  have e6 := lfr_eq (t := tkv m b) (b := 1 + tkv 30 (tkn 6 (tkn 2 (tkn m b)))) (bom (tkn 30 (tkn 6 (tkn 2 (tkn m b)))) rest) (by omega) (by omega)
  have e7 := lfr_eq (t := tkv m b) (b := 1 + tkv 6 (tkn 6 (tkn 2 (tkn m b)))) (bom (tkn 6 (tkn 6 (tkn 2 (tkn m b)))) rest) (by omega) (by omega)
  by_cases h0 : tkv 2 (tkn m b) = 0
  · refine ⟨(tkv m b, 1), tkn 2 (tkn m b), ?_, ⟨by simp only; omega, by simp only; omega, by simp only; omega⟩, by rw [val_int1]; exact Rat.intCast_le_intCast.mpr b1⟩
    unfold S_law_time u_law_time
    clear b1 c1 b4 c4 b5 c5 p9 p6 fin e6 e7 h2
    walk_at "evs"
  · have g1 := fin b1 (by omega) (show 0 < 1 + tkv 30 (tkn 6 (tkn 2 (tkn m b))) by omega) (by omega)
    have g2 := fin b1 (by omega) (show 0 < 1 + tkv 6 (tkn 6 (tkn 2 (tkn m b))) by omega) (by omega)
    by_cases h1 : tkv 6 (tkn 2 (tkn m b)) = 1
    · refine ⟨_, tkn 30 (tkn 6 (tkn 2 (tkn m b))), ?_, g1⟩
      unfold S_law_time u_law_time
      clear b1 c1 b4 c4 b5 c5 p9 p6 fin e7 h2 g1 g2
      walk_at "evs"
    · refine ⟨_, tkn 6 (tkn 6 (tkn 2 (tkn m b))), ?_, g2⟩
      unfold S_law_time u_law_time
      clear b1 c1 b4 c4 b5 c5 p9 p6 fin e6 h2 g1 g2
      walk_at "evs"
theorem pace_eq (b : Box) (rest : Om) : ∃ q b', S_law_pace [.loc 1] (bom b rest) = .ok (encF q) (bom b' rest) ∧ Bd 4 q ∧ 0 < val q := by
  have e1 := take_eq (m := 9) b rest (by decide) (by decide)
  have e2 := take_eq (m := 9) (tkn 9 b) rest (by decide) (by decide)
  have e3 := take_eq (m := 4) (tkn 9 (tkn 9 b)) rest (by decide) (by decide)
  have b1 := tkv_nn (m := 9) b (by decide)
  have c1 := tkv_lt (m := 9) b (by decide)
  have b2 := tkv_nn (m := 9) (tkn 9 b) (by decide)
  have c2 := tkv_lt (m := 9) (tkn 9 b) (by decide)
  have b3 := tkv_nn (m := 4) (tkn 9 (tkn 9 b)) (by decide)
  have c3 := tkv_lt (m := 4) (tkn 9 (tkn 9 b)) (by decide)
  have p9 : (2 : Nat) ^ 4 ≤ 2 ^ 9000 := Nat.pow_le_pow_right (by decide) (by decide)
  have p6 : (2 : Nat) ^ 4 = 16 := by decide
  have e6 := lfr_eq (t := 1 + tkv 9 b) (b := 1 + tkv 9 (tkn 9 b)) (bom (tkn 9 (tkn 9 b)) rest) (by omega) (by omega)
  have g1 : Bd 4 (mk (1 + tkv 9 b) (1 + tkv 9 (tkn 9 b))) := bd_mk (by omega) (by omega) (by omega)
  have g2 : 0 < val (mk (1 + tkv 9 b) (1 + tkv 9 (tkn 9 b))) := val_pos_mk (by omega) (by omega)
  have hc : tkv 4 (tkn 9 (tkn 9 b)) = 0 ∨ tkv 4 (tkn 9 (tkn 9 b)) = 1 ∨ tkv 4 (tkn 9 (tkn 9 b)) = 2 ∨ tkv 4 (tkn 9 (tkn 9 b)) = 3 := by omega
  have w1 : ∀ t d : Int, 0 < t → 0 < d → t < 16 → d < 16 → Bd 4 (t, d) ∧ 0 < val (t, d) := fun t d h1 h2 h3 h4 => ⟨⟨h2, by simp only; omega, by simp only; omega⟩, (val_pos (a := (t, d)) h2).mpr h1⟩
  clear b1 c1 b2 c2 b3 c3 p9 p6
  rcases hc with hc | hc | hc | hc
  · refine ⟨(1, 1), tkn 4 (tkn 9 (tkn 9 b)), ?_, w1 1 1 (by decide) (by decide) (by decide) (by decide)⟩
    clear w1 g1 g2
    unfold S_law_pace u_law_pace
    walk_at "evs"
  · refine ⟨(2, 1), tkn 4 (tkn 9 (tkn 9 b)), ?_, w1 2 1 (by decide) (by decide) (by decide) (by decide)⟩
    clear w1 g1 g2
    unfold S_law_pace u_law_pace
    walk_at "evs"
  · refine ⟨(1, 2), tkn 4 (tkn 9 (tkn 9 b)), ?_, w1 1 2 (by decide) (by decide) (by decide) (by decide)⟩
    clear w1 g1 g2
    unfold S_law_pace u_law_pace
    walk_at "evs"
  · refine ⟨_, tkn 4 (tkn 9 (tkn 9 b)), ?_, g1, g2⟩
    clear w1 g1 g2
    unfold S_law_pace u_law_pace
    walk_at "evs"
end Dv

namespace Dv
open PySem PySem.Spec PyProof.Rows L2
local macro_rules | `(tactic| walk_at "ev") => `(tactic| try simp (disch := omega) only [sSeq_eq, seq_nx, seq_rt, seq_rto, seq_xc, seq_bk, seq_ct, seq_ite, sAsg, sAsgO, sExpr, sRet, sRetO, sRetN, sIf, sNext, uVar, uC, uUn, uBin, uB, uNot, uAnd, uOr, uTV, uAndV, uOrV, uNotV, uIf, uChain, uNil, uCons, uTup, uLst, uLstO, uFn, uFnO, uFz, uMv, uNew, uCall, uCallO, uCallN, uBinV, uBinW, uBinL, uMeO, uMeL, uFnV, sSetL, sAsgG, gN, gT2, gT3, gT4, iLst, iFn,   bind_ok, bind_xc, of_ok, of_xc, res_ok, res_xc, res0_ok, own_ok, own_xc, fr_nx, fr_rt, fr_rto, fr_xc, fo_rto, fo_xc, liftO_some, dBool_bl, items_lst, items_frz, ent, defU, defO, List.map_cons, List.map_nil, List.length_cons, List.length_nil, List.cons_append, List.nil_append, List.append_nil, List.replicate, List.getElem?_cons_zero, List.getElem?_cons_succ, List.set_cons_zero, List.set_cons_succ, Nat.zero_add, Nat.reduceAdd, Nat.reduceSub, Nat.reduceLeDiff,   le_big, lt_big, atN_zero, atN_one, atN_two, atN_three, setN_zero, setN_one, popAt_zero, len_zero, len_succ, dMul_r, dMul_l, dDiv_pos, dMod_pos, dAdd_int, dSub_int, dNeg_int, dLt_int, dLe_int, dGt_int, dGe_int, dEq_int, dNe_int, dEq_bl, dNe_bl, dEq_nil, dNe_nil, dIx_lst, dIx_tup, fAbs_int, fInt_bl, fInt_int, fLen_lst, fLen_frz, fLen_tup, ite_true, ite_false, if_true, if_false, Bool.not_true, Bool.not_false, decide_true, decide_false, Bool.true_eq_false, Bool.false_eq_true, reduceIte, reduceCtorEq, turn_nx, turn_ct, turn_bk, turn_rt, turn_rto, turn_xc, sFor_eq, goL_nil, eq_self])
local macro_rules | `(tactic| walk_at "evs") => `(tactic| try simp (disch := omega) only [sSeq_eq, seq_nx, seq_rt, seq_rto, seq_xc, seq_bk, seq_ct, seq_ite, sAsg, sAsgO, sExpr, sRet, sRetO, sRetN, sIf, sNext, uVar, uC, uUn, uBin, uB, uNot, uAnd, uOr, uTV, uAndV, uOrV, uNotV, uIf, uChain, uNil, uCons, uTup, uLst, uLstO, uFn, uFnO, uFz, uMv, uNew, uCall, uCallO, uCallN, uBinV, uBinW, uBinL, uMeO, uMeL, uFnV, sSetL, sAsgG, gN, gT2, gT3, gT4, iLst, iFn,   bind_ok, bind_xc, of_ok, of_xc, res_ok, res_xc, res0_ok, own_ok, own_xc, fr_nx, fr_rt, fr_rto, fr_xc, fo_rto, fo_xc, liftO_some, dBool_bl, items_lst, items_frz, ent, defU, defO, List.map_cons, List.map_nil, List.length_cons, List.length_nil, List.cons_append, List.nil_append, List.append_nil, List.replicate, List.getElem?_cons_zero, List.getElem?_cons_succ, List.set_cons_zero, List.set_cons_succ, Nat.zero_add, Nat.reduceAdd, Nat.reduceSub, Nat.reduceLeDiff,   le_big, lt_big, atN_zero, atN_one, atN_two, atN_three, setN_zero, setN_one, popAt_zero, len_zero, len_succ, dMul_r, dMul_l, dDiv_pos, dMod_pos, dAdd_int, dSub_int, dNeg_int, dLt_int, dLe_int, dGt_int, dGe_int, dEq_int, dNe_int, dEq_bl, dNe_bl, dEq_nil, dNe_nil, dIx_lst, dIx_tup, fAbs_int, fInt_bl, fInt_int, fLen_lst, fLen_frz, fLen_tup, ite_true, ite_false, if_true, if_false, Bool.not_true, Bool.not_false, decide_true, decide_false, Bool.true_eq_false, Bool.false_eq_true, reduceIte, reduceCtorEq, turn_nx, turn_ct, turn_bk, turn_rt, turn_rto, turn_xc, sFor_eq, goL_nil, eq_self, *])
/-! ### stretches -/
structure Sr where
  b : Fr
  e : Fr
  p : Fr
@[reducible] def encS (s : Sr) : D := .tup [encF s.b, encF s.e, encF s.p]
structure SrOk (N : Nat) (s : Sr) : Prop where
  bb : Tm N s.b
  be : Tm N s.e
  bp : Bd 4 s.p
  pp : 0 < val s.p
  lt : val s.b < val s.e
theorem SrOk.mono {N M : Nat} {s : Sr} (h : SrOk N s) (k : N ≤ M) : SrOk M s := ⟨h.bb.mono k, h.be.mono k, h.bp, h.pp, h.lt⟩
def lastF (s : Sr) : Fr := fdv (fsub s.e s.b) s.p
section
variable {N : Nat} {s : Sr} (h : SrOk N s)
include h
theorem SrOk.p0 : s.p.1 ≠ 0 := by have := (val_pos h.bp.p).mp h.pp; omega
theorem last_bd : Bd (2 * N + 5) (lastF s) := (bd_dv (bd_sub h.be.toBd h.bb.toBd) h.bp h.p0).mono (by omega)
theorem last_val : val (lastF s) = (val s.e - val s.b) / val s.p := by
  have h1 := bd_sub h.be.toBd h.bb.toBd
  unfold lastF
  rw [val_dv h1.p h.bp.p h.p0, val_sub h.be.p h.bb.p]
theorem last_pos : 0 < val (lastF s) := by
  rw [last_val h]
  exact div_pos' (by have := h.lt; grind) h.pp
variable (om : Om) (hN : 2 * N + 5 ≤ 9000)
include hN
theorem lasts_eq : S_lasts [encS s] om = .ok (encF (lastF s)) om := by
  have e1 := less_eq om h.be.toBd h.bb.toBd (by omega)
  have e2 := over_eq om (bd_sub h.be.toBd h.bb.toBd) h.bp (by omega) h.p0
  unfold S_lasts u_lasts
  clear h hN
  walk_at "evs"
  rfl
theorem llast_eq : S_law_last [encS s] om = .ok (encF (lastF s)) om := by
  have e1 := lminus_eq om h.be.toBd h.bb.toBd (by omega)
  have e2 := lby_eq om (bd_sub h.be.toBd h.bb.toBd) h.bp (by omega) h.p0
  unfold S_law_last u_law_last
  clear h hN
  walk_at "evs"
  rfl
end
def totF (acc : Fr) : List Sr → Fr
  | [] => acc
  | s :: r => totF (fsum acc (lastF s)) r
def tot : List Sr → Rat
  | [] => 0
  | s :: r => val (lastF s) + tot r
def ShOk (N : Nat) (show_ : List Sr) : Prop := ∀ s ∈ show_, SrOk N s
theorem ShOk.tail {N : Nat} {s : Sr} {r : List Sr} (h : ShOk N (s :: r)) : ShOk N r := fun x hx => h x (by simp [hx])
theorem ShOk.head {N : Nat} {s : Sr} {r : List Sr} (h : ShOk N (s :: r)) : SrOk N s := h s (by simp)
theorem totF_bd {N : Nat} : ∀ {r : List Sr} {M : Nat} {acc : Fr}, ShOk N r → Bd M acc → Bd (M + r.length * (2 * N + 6)) (totF acc r)
  | [], M, acc, _, h => by unfold totF; simpa using h
  | s :: r, M, acc, h, ha => by
    have := totF_bd h.tail (bd_sum ha (last_bd h.head))
    refine this.mono ?_
    rw [List.length_cons, show (r.length + 1) * (2 * N + 6) = r.length * (2 * N + 6) + (2 * N + 6) from Nat.succ_mul _ _]
    generalize r.length * (2 * N + 6) = k
    omega
theorem totF_val {N : Nat} : ∀ {r : List Sr} {M : Nat} {acc : Fr}, ShOk N r → Bd M acc → val (totF acc r) = val acc + tot r
  | [], M, acc, _, h => by unfold totF tot; grind
  | s :: r, M, acc, h, ha => by
    have e := totF_val h.tail (bd_sum ha (last_bd h.head))
    unfold totF tot
    rw [e, val_sum ha.p (last_bd h.head).p]
    grind
theorem tot_nn {N : Nat} : ∀ {r : List Sr}, ShOk N r → 0 ≤ tot r
  | [], _ => by unfold tot; grind
  | s :: r, h => by
    have h1 := tot_nn h.tail
    have h2 := last_pos h.head
    unfold tot
    grind
section
variable {N : Nat} (om : Om)
theorem long_loop (v0 : Option Sl) : ∀ (r : List Sr) (M : Nat) (acc : Fr) (x : Option Sl), ShOk N r → Bd M acc → M + r.length * (2 * N + 6) ≤ 9000 → ∃ x',
    goL (gN 2) (sAsg 1 (uCall 2 S_law_sum (uCons (uVar 1) (uCons (uCall 1 S_law_last (uCons (uVar 2) uNil)) uNil)))) (r.map encS) [v0, some (.val (encF acc)), x] om = .nx [v0, some (.val (encF (totF acc r))), x'] om
  | [], M, acc, x, _, _, _ => ⟨x, rfl⟩
  | s :: r, M, acc, x, h, ha, hz => by
    have hz' : M + 2 * N + 6 + r.length * (2 * N + 6) ≤ 9000 := by
      rw [List.length_cons, show (r.length + 1) * (2 * N + 6) = r.length * (2 * N + 6) + (2 * N + 6) from Nat.succ_mul _ _] at hz
      generalize r.length * (2 * N + 6) = k at *
      omega
    have e1 := llast_eq h.head om (by omega)
    have e2 := lsum_eq om ha (last_bd h.head) (by omega)
    obtain ⟨x', e⟩ := long_loop v0 r _ _ (some (.val (encS s))) h.tail (bd_sum ha (last_bd h.head)) (by generalize r.length * (2 * N + 6) = k at *; omega)
    refine ⟨x', ?_⟩
    rw [List.map_cons, goL_cons (ρ1 := [v0, some (.val (encF acc)), some (.val (encS s))]) _ _ rfl]
    clear h ha hz hz'
    walk_at "evs"
    rfl
theorem llong_eq (r : List Sr) (h : ShOk N r) (hz : 1 + r.length * (2 * N + 6) ≤ 9000) : S_law_long [.lst (r.map encS)] om = .ok (encF (totF (0, 1) r)) om := by
  obtain ⟨x', e⟩ := long_loop om (some (.val (.lst (r.map encS)))) r 1 (0, 1) none h ⟨by decide, by decide, by decide⟩ hz
  unfold S_law_long u_law_long
  clear h hz
  walk_at "evs"
theorem summed_loop (v0 : Option Sl) : ∀ (r : List Sr) (M : Nat) (acc : Fr) (x : Option Sl), ShOk N r → Bd M acc → M + r.length * (2 * N + 6) ≤ 9000 → ∃ x',
    goL (gN 2) (sAsg 1 (uCall 2 S_added (uCons (uVar 1) (uCons (uVar 2) uNil)))) (r.map fun s => encF (lastF s)) [v0, some (.val (encF acc)), x] om = .nx [v0, some (.val (encF (totF acc r))), x'] om
  | [], M, acc, x, _, _, _ => ⟨x, rfl⟩
  | s :: r, M, acc, x, h, ha, hz => by
    have hz' : M + 2 * N + 6 + r.length * (2 * N + 6) ≤ 9000 := by
      rw [List.length_cons, show (r.length + 1) * (2 * N + 6) = r.length * (2 * N + 6) + (2 * N + 6) from Nat.succ_mul _ _] at hz
      generalize r.length * (2 * N + 6) = k at *
      omega
    have e2 := added_eq om ha (last_bd h.head) (by omega)
    obtain ⟨x', e⟩ := summed_loop v0 r _ _ (some (.val (encF (lastF s)))) h.tail (bd_sum ha (last_bd h.head)) (by generalize r.length * (2 * N + 6) = k at *; omega)
    refine ⟨x', ?_⟩
    rw [List.map_cons, goL_cons (ρ1 := [v0, some (.val (encF acc)), some (.val (encF (lastF s)))]) _ _ rfl]
    clear h ha hz hz'
    walk_at "evs"
    rfl
theorem length_eq (r : List Sr) (h : ShOk N r) (hz : 1 + r.length * (2 * N + 6) ≤ 9000) (hN : 2 * N + 5 ≤ 9000) (hl : r.length ≤ big) : S_length [.lst (r.map encS)] om = .ok (encF (totF (0, 1) r)) om := by
  obtain ⟨x', e⟩ := summed_loop om (some (.val (.lst (r.map fun s => encF (lastF s))))) r 1 (0, 1) none h ⟨by decide, by decide, by decide⟩ hz
  have e2 : S_summed [.lst (r.map fun s => encF (lastF s))] om = .ok (encF (totF (0, 1) r)) om := by
    unfold S_summed u_summed
    clear h hz
    walk_at "evs"
  have e3 : ∀ s ∈ r, S_lasts [encS s] om = .ok (encF (lastF s)) om := fun s hs => lasts_eq (h s hs) om hN
  have e4 : uLc (iLst (uVar 0)) (gN 1) uYes (uCallN 1 S_lasts (uCons (uVar 1) uNil)) [1] [some (.val (.lst (r.map encS))), none] om = .ok (r.map fun s => encF (lastF s)) [some (.val (.lst (r.map encS))), none] om := by
    unfold uLc
    walk_at "ev"
    have := goC_map (te := uCallN 1 S_lasts (uCons (uVar 1) uNil)) (i := 1) (ω := om) (ρ := [some (.val (.lst (r.map encS))), none]) (fun d => match S_lasts [d] om with | .ok y _ => y | _ => .non) (r.map encS) [] (fun d hd => by
      obtain ⟨s, hs, rfl⟩ := List.mem_map.mp hd
      have e5 := e3 s hs
      simp only [List.set_cons_succ, List.set_cons_zero]
      walk_at "evs") (by simp; exact hl)
    show goC _ _ _ [1] _ [] ([some (.val (.lst (r.map encS))), none].set 1 none) om = _
    rw [this, List.nil_append, List.map_map]
    congr 1
    exact List.map_congr_left fun s hs => by simp only [Function.comp, e3 s hs]
  unfold S_length u_length
  clear h hz hl hN e
  walk_at "evs"
end
end Dv

namespace Dv
open PySem PySem.Spec PyProof.Rows L2
local macro_rules | `(tactic| walk_at "ev") => `(tactic| try simp (disch := omega) only [sSeq_eq, seq_nx, seq_rt, seq_rto, seq_xc, seq_bk, seq_ct, seq_ite, sAsg, sAsgO, sExpr, sRet, sRetO, sRetN, sIf, sNext, uVar, uC, uUn, uBin, uB, uNot, uAnd, uOr, uTV, uAndV, uOrV, uNotV, uIf, uChain, uNil, uCons, uTup, uLst, uLstO, uFn, uFnO, uFz, uMv, uNew, uCall, uCallO, uCallN, uBinV, uBinW, uBinL, uMeO, uMeL, uFnV, sSetL, sAsgG, gN, gT2, gT3, gT4, iLst, iFn,   bind_ok, bind_xc, of_ok, of_xc, res_ok, res_xc, res0_ok, own_ok, own_xc, fr_nx, fr_rt, fr_rto, fr_xc, fo_rto, fo_xc, liftO_some, dBool_bl, items_lst, items_frz, ent, defU, defO, List.map_cons, List.map_nil, List.length_cons, List.length_nil, List.cons_append, List.nil_append, List.append_nil, List.replicate, List.getElem?_cons_zero, List.getElem?_cons_succ, List.set_cons_zero, List.set_cons_succ, Nat.zero_add, Nat.reduceAdd, Nat.reduceSub, Nat.reduceLeDiff,   le_big, lt_big, atN_zero, atN_one, atN_two, atN_three, setN_zero, setN_one, popAt_zero, len_zero, len_succ, dMul_r, dMul_l, dDiv_pos, dMod_pos, dAdd_int, dSub_int, dNeg_int, dLt_int, dLe_int, dGt_int, dGe_int, dEq_int, dNe_int, dEq_bl, dNe_bl, dEq_nil, dNe_nil, dIx_lst, dIx_tup, fAbs_int, fInt_bl, fInt_int, fLen_lst, fLen_frz, fLen_tup, ite_true, ite_false, if_true, if_false, Bool.not_true, Bool.not_false, decide_true, decide_false, Bool.true_eq_false, Bool.false_eq_true, reduceIte, reduceCtorEq, turn_nx, turn_ct, turn_bk, turn_rt, turn_rto, turn_xc, sFor_eq, goL_nil, eq_self])
local macro_rules | `(tactic| walk_at "evs") => `(tactic| try simp (disch := omega) only [sSeq_eq, seq_nx, seq_rt, seq_rto, seq_xc, seq_bk, seq_ct, seq_ite, sAsg, sAsgO, sExpr, sRet, sRetO, sRetN, sIf, sNext, uVar, uC, uUn, uBin, uB, uNot, uAnd, uOr, uTV, uAndV, uOrV, uNotV, uIf, uChain, uNil, uCons, uTup, uLst, uLstO, uFn, uFnO, uFz, uMv, uNew, uCall, uCallO, uCallN, uBinV, uBinW, uBinL, uMeO, uMeL, uFnV, sSetL, sAsgG, gN, gT2, gT3, gT4, iLst, iFn,   bind_ok, bind_xc, of_ok, of_xc, res_ok, res_xc, res0_ok, own_ok, own_xc, fr_nx, fr_rt, fr_rto, fr_xc, fo_rto, fo_xc, liftO_some, dBool_bl, items_lst, items_frz, ent, defU, defO, List.map_cons, List.map_nil, List.length_cons, List.length_nil, List.cons_append, List.nil_append, List.append_nil, List.replicate, List.getElem?_cons_zero, List.getElem?_cons_succ, List.set_cons_zero, List.set_cons_succ, Nat.zero_add, Nat.reduceAdd, Nat.reduceSub, Nat.reduceLeDiff,   le_big, lt_big, atN_zero, atN_one, atN_two, atN_three, setN_zero, setN_one, popAt_zero, len_zero, len_succ, dMul_r, dMul_l, dDiv_pos, dMod_pos, dAdd_int, dSub_int, dNeg_int, dLt_int, dLe_int, dGt_int, dGe_int, dEq_int, dNe_int, dEq_bl, dNe_bl, dEq_nil, dNe_nil, dIx_lst, dIx_tup, fAbs_int, fInt_bl, fInt_int, fLen_lst, fLen_frz, fLen_tup, ite_true, ite_false, if_true, if_false, Bool.not_true, Bool.not_false, decide_true, decide_false, Bool.true_eq_false, Bool.false_eq_true, reduceIte, reduceCtorEq, turn_nx, turn_ct, turn_bk, turn_rt, turn_rto, turn_xc, sFor_eq, goL_nil, eq_self, *])
theorem atN_last {α : Type} {xs : List α} {x : α} : atN (xs ++ [x]) (-1) = some x := by
  unfold atN
  rw [if_neg (by omega), if_pos (by simp only [List.length_append, List.length_cons, List.length_nil]; omega)]
  have : (-1 + ((xs ++ [x]).length : Int)).toNat = xs.length := by simp only [List.length_append, List.length_cons, List.length_nil]; omega
  rw [this]
  simp
def u_turn : US :=
    (sSeq (sAsg 3 (uCall 2 S_law_time (uCons (uVar 0) (uCons (uC (.int 60)) uNil))))
    (sSeq (sAsg 4 (uCall 1 S_law_pace (uCons (uVar 0) uNil)))
    (sSeq (sIf (uAnd (uB (uBinV dNe 1 (uLst uNil))) (uB (uBin dEq (uCall 2 S_law_take (uCons (uVar 0) (uCons (uC (.int 3)) uNil))) (uC (.int 1))))) (sSeq (sAsg 3 (uBin dIx (uBinV dIx 1 (uUn dNeg (uC (.int 1)))) (uC (.int 1))))
    (sAsg 4 (uBin dIx (uLst (uCons (uBin dIx (uBinV dIx 1 (uUn dNeg (uC (.int 1)))) (uC (.int 2))) (uCons (uVar 4) uNil))) (uFn fInt (uCons (uBin dEq (uCall 2 S_law_take (uCons (uVar 0) (uCons (uC (.int 3)) uNil))) (uC (.int 1))) uNil))))) sNext)
    (sExpr (uMeO 1 mAppend (uCons (uTup (uCons (uVar 3) (uCons (uCall 2 S_law_sum (uCons (uVar 3) (uCons (uCall 2 S_law_sum (uCons (uTup (uCons (uC (.int 1)) (uCons (uC (.int 2)) uNil))) (uCons (uCall 2 S_law_time (uCons (uVar 0) (uCons (uC (.int 30)) uNil))) uNil))) uNil))) (uCons (uVar 4) uNil)))) uNil))))))
theorem show_loop (rest : Om) : ∀ (l : List D) (sh : List Sr) (b : Box) (x2 x3 x4 : Option Sl), ShOk (6 + 10 * sh.length) sh → sh.length + l.length ≤ 6 → ∃ sh' b' x2' x3' x4',
    goL (gN 2) u_turn l [some (.val (.loc 1)), some (.own (sh.map encS)), x2, x3, x4] (bom b rest) =
    .nx [some (.val (.loc 1)), some (.own (sh'.map encS)), x2', x3', x4'] (bom b' rest) ∧ ShOk (6 + 10 * sh'.length) sh' ∧ sh'.length ≤ 6
  | [], sh, b, x2, x3, x4, h, hl => ⟨sh, b, x2, x3, x4, rfl, h, by simpa using hl⟩
  | d :: l, sh, b, x2, x3, x4, h, hl => by
    simp only [List.length_cons] at hl
    obtain ⟨t1, b1, e1, m1⟩ := time_eq b rest (m := 60) (by decide) (by decide)
    obtain ⟨p1, b2, e2, m2, m3⟩ := pace_eq b1 rest
    rw [goL_cons (ρ1 := [some (.val (.loc 1)), some (.own (sh.map encS)), some (.val d), x3, x4]) _ _ rfl]
    have half : Bd 2 ((1, 2) : Fr) := ⟨by decide, by decide, by decide⟩
    -- the end of the turn, from a begin and a pace
    have fin : ∀ (bb : Fr) (pp : Fr) (b3 : Box), Tm (6 + 10 * sh.length) bb → Bd 4 pp → 0 < val pp → ∃ t2 b4, S_law_time [.loc 1, .int 30] (bom b3 rest) = .ok (encF t2) (bom b4 rest) ∧ S_law_sum [encF (1, 2), encF t2] (bom b4 rest) = .ok (encF (fsum (1, 2) t2)) (bom b4 rest) ∧
        S_law_sum [encF bb, encF (fsum (1, 2) t2)] (bom b4 rest) = .ok (encF (fsum bb (fsum (1, 2) t2))) (bom b4 rest) ∧ ShOk (6 + 10 * (sh ++ [(⟨bb, fsum bb (fsum (1, 2) t2), pp⟩ : Sr)]).length) (sh ++ [⟨bb, fsum bb (fsum (1, 2) t2), pp⟩]) := by
      intro bb pp b3 k1 k2 k3
      obtain ⟨t2, b4, f1, m4⟩ := time_eq b3 rest (m := 30) (by decide) (by decide)
      have f2 := lsum_eq (bom b4 rest) half m4.toBd (by decide)
      have s2 := bd_sum half m4.toBd
      have f3 := lsum_eq (bom b4 rest) k1.toBd s2 (by omega)
      have v2 := val_sum half.p m4.p
      have v3 := val_sum k1.p s2.p
      have hh : 0 < val ((1, 2) : Fr) := (val_pos (a := ((1, 2) : Fr)) (by decide)).mpr (by decide)
      have n4 := m4.nn
      have n1 := k1.nn
      refine ⟨t2, b4, f1, f2, f3, fun s hs => ?_⟩
      rw [show ∀ x : Sr, (sh ++ [x]).length = sh.length + 1 from fun x => by simp]
      rcases List.mem_append.mp hs with q | q
      · exact (h s q).mono (by omega)
      · simp only [List.mem_cons, List.not_mem_nil, or_false] at q
        subst q
        refine ⟨k1.mono (by omega), ⟨(bd_sum k1.toBd s2).mono (by omega), ?_⟩, k2, k3, ?_⟩
        · show 0 ≤ val (fsum bb (fsum (1, 2) t2)); rw [v3, v2]; grind
        · show val bb < val (fsum bb (fsum (1, 2) t2)); rw [v3, v2]; grind
    have app : ∀ s : Sr, mAppend (sh.map encS) [.tup [encF s.b, encF s.e, encF s.p]] = some (.non, (sh ++ [s]).map encS) := fun s => by
      unfold mAppend
      dsimp only
      rw [if_pos (by rw [List.length_map]; exact Nat.lt_of_lt_of_le (by omega) (big_of (n := 7) (by decide)))]
      simp
    have step : ∀ (bb pp : Fr) (b3 : Box), Tm (6 + 10 * sh.length) bb → Bd 4 pp → 0 < val pp → (∀ (t2 : Fr) (b4 : Box), S_law_time [.loc 1, .int 30] (bom b3 rest) = .ok (encF t2) (bom b4 rest) → S_law_sum [encF (1, 2), encF t2] (bom b4 rest) = .ok (encF (fsum (1, 2) t2)) (bom b4 rest) → S_law_sum [encF bb, encF (fsum (1, 2) t2)] (bom b4 rest) = .ok (encF (fsum bb (fsum (1, 2) t2))) (bom b4 rest) →
        mAppend (sh.map encS) [.tup [encF bb, encF (fsum bb (fsum (1, 2) t2)), encF pp]] = some (.non, (sh ++ [(⟨bb, fsum bb (fsum (1, 2) t2), pp⟩ : Sr)]).map encS) →
        u_turn [some (.val (.loc 1)), some (.own (sh.map encS)), some (.val d), x3, x4] (bom b rest) = .nx [some (.val (.loc 1)), some (.own ((sh ++ [(⟨bb, fsum bb (fsum (1, 2) t2), pp⟩ : Sr)]).map encS)), some (.val d), some (.val (encF bb)), some (.val (encF pp))] (bom b4 rest)) →
        ∃ sh' b' x2' x3' x4', (u_turn [some (.val (.loc 1)), some (.own (sh.map encS)), some (.val d), x3, x4] (bom b rest)).turn (goL (gN 2) u_turn l) =
    .nx [some (.val (.loc 1)), some (.own (sh'.map encS)), x2', x3', x4'] (bom b' rest) ∧ ShOk (6 + 10 * sh'.length) sh' ∧ sh'.length ≤ 6 := by
      intro bb pp b3 k1 k2 k3 k4
      obtain ⟨t2, b4, f1, f2, f3, f4⟩ := fin bb pp b3 k1 k2 k3
      obtain ⟨sh', b', y2, y3, y4, g1, g2, g3⟩ := show_loop rest l _ b4 (some (.val d)) (some (.val (encF bb))) (some (.val (encF pp))) f4 (by rw [show ∀ x : Sr, (sh ++ [x]).length = sh.length + 1 from fun x => by simp]; omega)
      refine ⟨sh', b', y2, y3, y4, ?_, g2, g3⟩
      rw [k4 t2 b4 f1 f2 f3 (app ⟨bb, fsum bb (fsum (1, 2) t2), pp⟩), turn_nx]
      exact g1
    have nil_or : sh = [] ∨ ∃ s0 sl, sh = s0 ++ [sl] := by
      by_cases hn : sh = []
      · exact .inl hn
      · exact .inr ⟨sh.dropLast, sh.getLast hn, (List.dropLast_concat_getLast hn).symm⟩
    rcases nil_or with hn | ⟨s0, sl, hn⟩
    · refine step t1 p1 b2 (m1.mono (by omega)) m2 m3 fun t2 b4 f1 f2 f3 f4 => ?_
      have c1 : decide ((sh.map encS).length = 0) = true := by rw [hn]; rfl
      generalize sh.map encS = X at *
      generalize (sh ++ [(⟨t1, fsum t1 (fsum (1, 2) t2), p1⟩ : Sr)]).map encS = Y at *
      clear step fin app h hl m1 m2 m3 half hn
      unfold u_turn
      walk_at "evs"
    · have g3 := take_eq (m := 3) b2 rest (by decide) (by decide)
      have hsl : SrOk (6 + 10 * sh.length) sl := h sl (by rw [hn]; simp)
      have c1 : decide ((sh.map encS).length = 0) = false := by rw [hn]; simp
      have c2 : atN (sh.map encS) (-1) = some (encS sl) := by rw [hn, List.map_append]; exact atN_last
      by_cases hd : tkv 3 b2 = 1
      · have g4 := take_eq (m := 3) (tkn 3 b2) rest (by decide) (by decide)
        by_cases hd2 : tkv 3 (tkn 3 b2) = 1
        · refine step sl.e p1 (tkn 3 (tkn 3 b2)) hsl.be m2 m3 fun t2 b4 f1 f2 f3 f4 => ?_
          generalize sh.map encS = X at *
          generalize (sh ++ [(⟨sl.e, fsum sl.e (fsum (1, 2) t2), p1⟩ : Sr)]).map encS = Y at *
          clear step fin app h hl m1 m2 m3 half hn hsl
          unfold u_turn
          walk_at "evs"
        · refine step sl.e sl.p (tkn 3 (tkn 3 b2)) hsl.be hsl.bp hsl.pp fun t2 b4 f1 f2 f3 f4 => ?_
          generalize sh.map encS = X at *
          generalize (sh ++ [(⟨sl.e, fsum sl.e (fsum (1, 2) t2), sl.p⟩ : Sr)]).map encS = Y at *
          clear step fin app h hl m1 m2 m3 half hn hsl
          unfold u_turn
          walk_at "evs"
      · refine step t1 p1 (tkn 3 b2) (m1.mono (by omega)) m2 m3 fun t2 b4 f1 f2 f3 f4 => ?_
        generalize sh.map encS = X at *
        generalize (sh ++ [(⟨t1, fsum t1 (fsum (1, 2) t2), p1⟩ : Sr)]).map encS = Y at *
        clear step fin app h hl m1 m2 m3 half hn hsl
        unfold u_turn
        walk_at "evs"
theorem show_eq (b : Box) (rest : Om) : ∃ r b', S_law_show [.loc 1] (bom b rest) = .ok (.lst (r.map encS)) (bom b' rest) ∧ ShOk 66 r ∧ r.length ≤ 6 := by
  have e1 := take_eq (m := 4) b rest (by decide) (by decide)
  have e2 := take_eq (m := 7) (tkn 4 b) rest (by decide) (by decide)
  have e3 := take_eq (m := 4) (tkn 7 (tkn 4 b)) rest (by decide) (by decide)
  have b1 := tkv_nn (m := 4) b (by decide)
  have c1 := tkv_lt (m := 4) b (by decide)
  have b2 := tkv_nn (m := 7) (tkn 4 b) (by decide)
  have c2 := tkv_lt (m := 7) (tkn 4 b) (by decide)
  have fR : ∀ n : Int, 0 ≤ n → n < 7 → fRng1 [.int n] = some (rngN 0 n.toNat) := fun n h1 h2 => by
    exact fRng1_eq (by omega)
  have fl : ∀ n : Int, 0 ≤ n → n < 7 → (rngN 0 n.toNat).length ≤ 6 := fun n h1 h2 => by
    unfold rngN
    simp only [List.length_map, List.length_range]
    omega
  have lp : ∀ n : Int, 0 ≤ n → n < 7 → ∃ sh' b' x2' x3' x4', goL (gN 2) u_turn (rngN 0 n.toNat) [some (.val (.loc 1)), some (.own []), none, none, none] (bom (tkn 4 (tkn 7 (tkn 4 b))) rest) =
      .nx [some (.val (.loc 1)), some (.own (sh'.map encS)), x2', x3', x4'] (bom b' rest) ∧ ShOk (6 + 10 * sh'.length) sh' ∧ sh'.length ≤ 6 := fun n h1 h2 =>
    show_loop rest (rngN 0 n.toNat) [] _ none none none (fun s hs => nomatch hs) (by simpa using fl n h1 h2)
  have fin : ∀ n : Int, 0 ≤ n → n < 7 → fRng1 [.int n] = some (rngN 0 n.toNat) ∧ ∃ sh' b' x2' x3' x4', goL (gN 2) u_turn (rngN 0 n.toNat) [some (.val (.loc 1)), some (.own []), none, none, none] (bom (tkn 4 (tkn 7 (tkn 4 b))) rest) =
      .nx [some (.val (.loc 1)), some (.own (sh'.map encS)), x2', x3', x4'] (bom b' rest) ∧ ShOk 66 sh' ∧ sh'.length ≤ 6 := fun n h1 h2 => by
    obtain ⟨sh', b', y2, y3, y4, g1, g2, g3⟩ := lp n h1 h2
    exact ⟨fR n h1 h2, sh', b', y2, y3, y4, g1, fun s hs => (g2 s hs).mono (by omega), g3⟩
  by_cases hd : tkv 4 (tkn 7 (tkn 4 b)) = 1
  · obtain ⟨f1, sh', b', y2, y3, y4, g1, g2, g3⟩ := fin _ b2 c2
    refine ⟨sh', b', ?_, g2, g3⟩
    clear fin lp fl fR b1 c1 b2 c2 g2 g3
    unfold u_turn at g1
    unfold S_law_show u_law_show
    walk_at "evs"
  · obtain ⟨f1, sh', b', y2, y3, y4, g1, g2, g3⟩ := fin _ b1 (by omega)
    refine ⟨sh', b', ?_, g2, g3⟩
    clear fin lp fl fR b1 c1 b2 c2 g2 g3
    unfold u_turn at g1
    unfold S_law_show u_law_show
    walk_at "evs"
theorem within_eq {N : Nat} {q : Fr} (b : Box) (rest : Om) (h : Tm N q) (hN : N ≤ 8000) : ∃ t b', S_law_within [.loc 1, encF q] (bom b rest) = .ok (encF t) (bom b' rest) ∧ Tm (N + 7) t := by
  have e1 := take_eq (m := 13) b rest (by decide) (by decide)
  have e2 := take_eq (m := 101) (tkn 13 b) rest (by decide) (by decide)
  have b1 := tkv_nn (m := 13) b (by decide)
  have c1 := tkv_lt (m := 13) b (by decide)
  have b2 := tkv_nn (m := 101) (tkn 13 b) (by decide)
  have c2 := tkv_lt (m := 101) (tkn 13 b) (by decide)
  have p9 : (2 : Nat) ^ 7 ≤ 2 ^ 9000 := Nat.pow_le_pow_right (by decide) (by decide)
  have p7 : (2 : Nat) ^ 7 = 128 := by decide
  have fin : ∀ t d : Int, 0 ≤ t → t < 128 → 0 < d → d < 128 → ∀ om, S_law_fr [.int t, .int d] om = .ok (encF (mk t d)) om ∧ S_law_times [encF q, encF (mk t d)] om = .ok (encF (fmul q (mk t d))) om ∧ Tm (N + 7) (fmul q (mk t d)) := fun t d h1 h2 h3 h4 om => by
    have g1 : Bd 7 (mk t d) := bd_mk (by omega) (by omega) (by omega)
    refine ⟨lfr_eq om (by omega) (by omega), ltimes_eq om h.toBd g1 (by omega), bd_mul h.toBd g1, ?_⟩
    rw [val_mul h.p g1.p]
    exact Rat.mul_nonneg h.nn (val_nn_mk h3 h1)
  by_cases hd : tkv 13 b = 12
  · obtain ⟨f1, f2, f3⟩ := fin (tkv 101 (tkn 13 b)) 100 b2 (by omega) (by decide) (by decide) (bom (tkn 101 (tkn 13 b)) rest)
    refine ⟨_, tkn 101 (tkn 13 b), ?_, f3⟩
    clear fin b1 c1 b2 c2 f3 h hN p9 p7
    unfold S_law_within u_law_within
    walk_at "evs"
  · obtain ⟨f1, f2, f3⟩ := fin (tkv 13 b % 12) 11 (by omega) (by omega) (by decide) (by decide) (bom (tkn 13 b) rest)
    refine ⟨_, tkn 13 b, ?_, f3⟩
    clear fin b1 c1 b2 c2 f3 h hN p9 p7
    unfold S_law_within u_law_within
    walk_at "evs"
end Dv

namespace Dv
open PySem PySem.Spec PyProof.Rows L2
local macro_rules | `(tactic| walk_at "ev") => `(tactic| try simp (disch := omega) only [sSeq_eq, seq_nx, seq_rt, seq_rto, seq_xc, seq_bk, seq_ct, seq_ite, sAsg, sAsgO, sExpr, sRet, sRetO, sRetN, sIf, sNext, uVar, uC, uUn, uBin, uB, uNot, uAnd, uOr, uTV, uAndV, uOrV, uNotV, uIf, uChain, uNil, uCons, uTup, uLst, uLstO, uFn, uFnO, uFz, uMv, uNew, uCall, uCallO, uCallN, uBinV, uBinW, uBinL, uMeO, uMeL, uFnV, sSetL, sAsgG, gN, gT2, gT3, gT4, iLst, iFn,   bind_ok, bind_xc, of_ok, of_xc, res_ok, res_xc, res0_ok, own_ok, own_xc, fr_nx, fr_rt, fr_rto, fr_xc, fo_rto, fo_xc, liftO_some, dBool_bl, items_lst, items_frz, ent, defU, defO, List.map_cons, List.map_nil, List.length_cons, List.length_nil, List.cons_append, List.nil_append, List.append_nil, List.replicate, List.getElem?_cons_zero, List.getElem?_cons_succ, List.set_cons_zero, List.set_cons_succ, Nat.zero_add, Nat.reduceAdd, Nat.reduceSub, Nat.reduceLeDiff,   le_big, lt_big, atN_zero, atN_one, atN_two, atN_three, setN_zero, setN_one, popAt_zero, len_zero, len_succ, dMul_r, dMul_l, dDiv_pos, dMod_pos, dAdd_int, dSub_int, dNeg_int, dLt_int, dLe_int, dGt_int, dGe_int, dEq_int, dNe_int, dEq_bl, dNe_bl, dEq_nil, dNe_nil, dIx_lst, dIx_tup, fAbs_int, fInt_bl, fInt_int, fLen_lst, fLen_frz, fLen_tup, ite_true, ite_false, if_true, if_false, Bool.not_true, Bool.not_false, decide_true, decide_false, Bool.true_eq_false, Bool.false_eq_true, reduceIte, reduceCtorEq, turn_nx, turn_ct, turn_bk, turn_rt, turn_rto, turn_xc, sFor_eq, goL_nil, eq_self])
local macro_rules | `(tactic| walk_at "evs") => `(tactic| try simp (disch := omega) only [sSeq_eq, seq_nx, seq_rt, seq_rto, seq_xc, seq_bk, seq_ct, seq_ite, sAsg, sAsgO, sExpr, sRet, sRetO, sRetN, sIf, sNext, uVar, uC, uUn, uBin, uB, uNot, uAnd, uOr, uTV, uAndV, uOrV, uNotV, uIf, uChain, uNil, uCons, uTup, uLst, uLstO, uFn, uFnO, uFz, uMv, uNew, uCall, uCallO, uCallN, uBinV, uBinW, uBinL, uMeO, uMeL, uFnV, sSetL, sAsgG, gN, gT2, gT3, gT4, iLst, iFn,   bind_ok, bind_xc, of_ok, of_xc, res_ok, res_xc, res0_ok, own_ok, own_xc, fr_nx, fr_rt, fr_rto, fr_xc, fo_rto, fo_xc, liftO_some, dBool_bl, items_lst, items_frz, ent, defU, defO, List.map_cons, List.map_nil, List.length_cons, List.length_nil, List.cons_append, List.nil_append, List.append_nil, List.replicate, List.getElem?_cons_zero, List.getElem?_cons_succ, List.set_cons_zero, List.set_cons_succ, Nat.zero_add, Nat.reduceAdd, Nat.reduceSub, Nat.reduceLeDiff,   le_big, lt_big, atN_zero, atN_one, atN_two, atN_three, setN_zero, setN_one, popAt_zero, len_zero, len_succ, dMul_r, dMul_l, dDiv_pos, dMod_pos, dAdd_int, dSub_int, dNeg_int, dLt_int, dLe_int, dGt_int, dGe_int, dEq_int, dNe_int, dEq_bl, dNe_bl, dEq_nil, dNe_nil, dIx_lst, dIx_tup, fAbs_int, fInt_bl, fInt_int, fLen_lst, fLen_frz, fLen_tup, ite_true, ite_false, if_true, if_false, Bool.not_true, Bool.not_false, decide_true, decide_false, Bool.true_eq_false, Bool.false_eq_true, reduceIte, reduceCtorEq, turn_nx, turn_ct, turn_bk, turn_rt, turn_rto, turn_xc, sFor_eq, goL_nil, eq_self, *])
/-! ### the normal show -/
def mrg (done : List Sr) (s : Sr) : List Sr := match done.getLast? with
  | some l => if l.e = s.b ∧ l.p = s.p then done.dropLast ++ [⟨l.b, s.e, s.p⟩] else done ++ [s]
  | none => [s]
def oneF (done : List Sr) : List Sr → List Sr
  | [] => done
  | s :: r => oneF (mrg done s) r
def Ord (r : List Sr) : Prop := ∀ s ∈ r, val s.b < val s.e
theorem mrg_nil (s : Sr) : mrg [] s = [s] := rfl
theorem mrg_last (d0 : List Sr) (l s : Sr) : mrg (d0 ++ [l]) s = if l.e = s.b ∧ l.p = s.p then d0 ++ [⟨l.b, s.e, s.p⟩] else (d0 ++ [l]) ++ [s] := by
  unfold mrg
  simp
theorem nil_or_last (done : List Sr) : done = [] ∨ ∃ d0 l, done = d0 ++ [l] := by
  by_cases hn : done = []
  · exact .inl hn
  · exact .inr ⟨done.dropLast, done.getLast hn, (List.dropLast_concat_getLast hn).symm⟩
theorem mrg_ord {done : List Sr} {s : Sr} (h : Ord done) (hs : val s.b < val s.e) : Ord (mrg done s) ∧ (mrg done s).length ≤ done.length + 1 := by
  rcases nil_or_last done with rfl | ⟨d0, l, rfl⟩
  · rw [mrg_nil]
    refine ⟨fun x hx => ?_, by simp⟩
    simp only [List.mem_cons, List.not_mem_nil, or_false] at hx
    rw [hx]; exact hs
  · rw [mrg_last]
    have hl := h l (by simp)
    split
    · rename_i c
      refine ⟨fun x hx => ?_, by simp⟩
      rcases List.mem_append.mp hx with q | q
      · exact h x (by simp [q])
      · simp only [List.mem_cons, List.not_mem_nil, or_false] at q
        rw [q]
        show val l.b < val s.e
        rw [c.1] at hl
        grind
    · refine ⟨fun x hx => ?_, by simp⟩
      rcases List.mem_append.mp hx with q | q
      · exact h x q
      · simp only [List.mem_cons, List.not_mem_nil, or_false] at q
        rw [q]; exact hs
def n_turn : US :=
    (sSeq (sIf (uAnd (uB (uBinV dNe 1 (uLst uNil))) (uAnd (uB (uBin dEq (uBin dIx (uBinV dIx 1 (uUn dNeg (uC (.int 1)))) (uC (.int 1))) (uBin dIx (uVar 2) (uC (.int 0))))) (uB (uBin dEq (uBin dIx (uBinV dIx 1 (uUn dNeg (uC (.int 1)))) (uC (.int 2))) (uBin dIx (uVar 2) (uC (.int 2))))))) (sAsg 2 (uTup (uCons (uBin dIx (uMeO 1 mPop uNil) (uC (.int 0))) (uCons (uBin dIx (uVar 2) (uC (.int 1))) (uCons (uBin dIx (uVar 2) (uC (.int 2))) uNil))))) sNext)
    (sIf (uB (uBin dNe (uBin dIx (uVar 2) (uC (.int 0))) (uBin dIx (uVar 2) (uC (.int 1))))) (sExpr (uMeO 1 mAppend (uCons (uVar 2) uNil))) sNext))
def o_turn : US :=
    (sSeq (sIf (uAnd (uB (uBinV dNe 1 (uLst uNil))) (uAnd (uB (uBin dEq (uBin dIx (uBinV dIx 1 (uUn dNeg (uC (.int 1)))) (uC (.int 1))) (uBin dIx (uVar 2) (uC (.int 0))))) (uB (uBin dEq (uBin dIx (uBinV dIx 1 (uUn dNeg (uC (.int 1)))) (uC (.int 2))) (uBin dIx (uVar 2) (uC (.int 2))))))) (sSeq (sAsg 3 (uMeO 1 mPop uNil))
    (sAsg 2 (uTup (uCons (uBin dIx (uVar 3) (uC (.int 0))) (uCons (uBin dIx (uVar 2) (uC (.int 1))) (uCons (uBin dIx (uVar 2) (uC (.int 2))) uNil)))))) sNext)
    (sExpr (uMeO 1 mAppend (uCons (uVar 2) uNil))))
theorem app_S {d : List Sr} (s : Sr) (h : d.length ≤ 1000) : mAppend (d.map encS) [.tup [encF s.b, encF s.e, encF s.p]] = some (.non, (d ++ [s]).map encS) := by
  unfold mAppend
  dsimp only
  rw [if_pos (by rw [List.length_map]; exact Nat.lt_of_le_of_lt h (by decide))]
  simp
theorem pop_S (d0 : List Sr) (l : Sr) : mPop ((d0 ++ [l]).map encS) [] = some (encS l, d0.map encS) := by
  unfold mPop
  simp
section
variable (om : Om)
theorem o_step (v0 x : Option Sl) (done : List Sr) (s : Sr) (hz : done.length ≤ 999) : ∃ x' y', o_turn [v0, some (.own (done.map encS)), some (.val (encS s)), x] om = .nx [v0, some (.own ((mrg done s).map encS)), y', x'] om := by
  rcases nil_or_last done with rfl | ⟨d0, l, rfl⟩
  · have a1 := app_S (d := []) s (by simp)
    have c1 : decide ((List.map encS []).length = 0) = true := rfl
    rw [mrg_nil]
    refine ⟨x, some (.val (encS s)), ?_⟩
    rw [List.nil_append] at a1
    generalize List.map encS [] = X at *
    generalize List.map encS [s] = Y at *
    unfold o_turn
    walk_at "evs"
  · have c1 : decide (((d0 ++ [l]).map encS).length = 0) = false := by simp
    have c2 : atN ((d0 ++ [l]).map encS) (-1) = some (encS l) := by rw [List.map_append]; exact atN_last
    have p1 := pop_S d0 l
    have e1 := dEq_fr l.e s.b
    have e2 := dEq_fr l.p s.p
    rw [mrg_last]
    by_cases h1 : l.e = s.b
    · by_cases h2 : l.p = s.p
      · rw [if_pos ⟨h1, h2⟩]
        have a1 := app_S (d := d0) ⟨l.b, s.e, s.p⟩ (by simp at hz; omega)
        rw [decide_eq_true h1] at e1
        rw [decide_eq_true h2] at e2
        refine ⟨some (.val (encS l)), some (.val (.tup [encF l.b, encF s.e, encF s.p])), ?_⟩
        generalize (d0 ++ [l]).map encS = X at *
        generalize (d0 ++ [(⟨l.b, s.e, s.p⟩ : Sr)]).map encS = Y at *
        generalize d0.map encS = Z at *
        clear h1 h2 hz
        unfold o_turn
        walk_at "evs"
      · rw [if_neg (fun z => h2 z.2)]
        have a1 := app_S (d := d0 ++ [l]) s (by omega)
        rw [decide_eq_true h1] at e1
        rw [decide_eq_false h2] at e2
        refine ⟨x, some (.val (encS s)), ?_⟩
        generalize (d0 ++ [l] ++ [s]).map encS = Y at *
        generalize (d0 ++ [l]).map encS = X at *
        clear h1 h2 hz
        unfold o_turn
        walk_at "evs"
    · rw [if_neg (fun z => h1 z.1)]
      have a1 := app_S (d := d0 ++ [l]) s (by omega)
      rw [decide_eq_false h1] at e1
      refine ⟨x, some (.val (encS s)), ?_⟩
      generalize (d0 ++ [l] ++ [s]).map encS = Y at *
      generalize (d0 ++ [l]).map encS = X at *
      clear h1 e2 hz
      unfold o_turn
      walk_at "evs"
theorem n_step (v0 : Option Sl) (done : List Sr) (s : Sr) (hz : done.length ≤ 999) (ho : Ord done) (hs : val s.b < val s.e) : ∃ y', n_turn [v0, some (.own (done.map encS)), some (.val (encS s))] om = .nx [v0, some (.own ((mrg done s).map encS)), y'] om := by
  have hse : s.b ≠ s.e := fun z => by rw [z] at hs; grind
  have n1 := dNe_fr s.b s.e
  rw [decide_eq_false hse] at n1
  rcases nil_or_last done with rfl | ⟨d0, l, rfl⟩
  · have a1 := app_S (d := []) s (by simp)
    have c1 : decide ((List.map encS []).length = 0) = true := rfl
    rw [mrg_nil]
    refine ⟨some (.val (encS s)), ?_⟩
    rw [List.nil_append] at a1
    generalize List.map encS [] = X at *
    generalize List.map encS [s] = Y at *
    clear hse hs hz ho
    unfold n_turn
    walk_at "evs"
  · have c1 : decide (((d0 ++ [l]).map encS).length = 0) = false := by simp
    have c2 : atN ((d0 ++ [l]).map encS) (-1) = some (encS l) := by rw [List.map_append]; exact atN_last
    have p1 := pop_S d0 l
    have e1 := dEq_fr l.e s.b
    have e2 := dEq_fr l.p s.p
    have hl := ho l (by simp)
    rw [mrg_last]
    by_cases h1 : l.e = s.b
    · by_cases h2 : l.p = s.p
      · rw [if_pos ⟨h1, h2⟩]
        have a1 := app_S (d := d0) ⟨l.b, s.e, s.p⟩ (by simp at hz; omega)
        have hle : l.b ≠ s.e := fun z => by rw [z, h1] at hl; grind
        have n2 := dNe_fr l.b s.e
        rw [decide_eq_false hle] at n2
        rw [decide_eq_true h1] at e1
        rw [decide_eq_true h2] at e2
        refine ⟨some (.val (.tup [encF l.b, encF s.e, encF s.p])), ?_⟩
        generalize (d0 ++ [l]).map encS = X at *
        generalize (d0 ++ [(⟨l.b, s.e, s.p⟩ : Sr)]).map encS = Y at *
        generalize d0.map encS = Z at *
        clear h1 h2 hz hle hl hse hs ho n1
        unfold n_turn
        walk_at "evs"
      · rw [if_neg (fun z => h2 z.2)]
        have a1 := app_S (d := d0 ++ [l]) s (by omega)
        rw [decide_eq_true h1] at e1
        rw [decide_eq_false h2] at e2
        refine ⟨some (.val (encS s)), ?_⟩
        generalize (d0 ++ [l] ++ [s]).map encS = Y at *
        generalize (d0 ++ [l]).map encS = X at *
        clear h1 h2 hz hl hse hs ho
        unfold n_turn
        walk_at "evs"
    · rw [if_neg (fun z => h1 z.1)]
      have a1 := app_S (d := d0 ++ [l]) s (by omega)
      rw [decide_eq_false h1] at e1
      refine ⟨some (.val (encS s)), ?_⟩
      generalize (d0 ++ [l] ++ [s]).map encS = Y at *
      generalize (d0 ++ [l]).map encS = X at *
      clear h1 e2 hz hl hse hs ho
      unfold n_turn
      walk_at "evs"
theorem o_loop (v0 : Option Sl) : ∀ (r done : List Sr) (x y : Option Sl), done.length + r.length ≤ 1000 → ∃ x' y', goL (gN 2) o_turn (r.map encS) [v0, some (.own (done.map encS)), y, x] om = .nx [v0, some (.own ((oneF done r).map encS)), y', x'] om
  | [], done, x, y, _ => ⟨x, y, rfl⟩
  | s :: r, done, x, y, hz => by
    simp only [List.length_cons] at hz
    obtain ⟨x1, y1, e1⟩ := o_step om v0 x done s (by omega)
    have hlen : (mrg done s).length ≤ done.length + 1 := by
      rcases nil_or_last done with rfl | ⟨d0, l, rfl⟩
      · rw [mrg_nil]; simp
      · rw [mrg_last]; split <;> simp
    obtain ⟨x', y', e⟩ := o_loop v0 r (mrg done s) x1 y1 (by omega)
    refine ⟨x', y', ?_⟩
    rw [List.map_cons, goL_cons (ρ1 := [v0, some (.own (done.map encS)), some (.val (encS s)), x]) _ _ rfl, e1, turn_nx]
    exact e
theorem n_loop (v0 : Option Sl) : ∀ (r done : List Sr) (y : Option Sl), done.length + r.length ≤ 1000 → Ord done → Ord r → ∃ y', goL (gN 2) n_turn (r.map encS) [v0, some (.own (done.map encS)), y] om = .nx [v0, some (.own ((oneF done r).map encS)), y'] om
  | [], done, y, _, _, _ => ⟨y, rfl⟩
  | s :: r, done, y, hz, ho, hr => by
    simp only [List.length_cons] at hz
    obtain ⟨y1, e1⟩ := n_step om v0 done s (by omega) ho (hr s (by simp))
    obtain ⟨o2, hlen⟩ := mrg_ord ho (hr s (by simp))
    obtain ⟨y', e⟩ := n_loop v0 r (mrg done s) y1 (by omega) o2 (fun x hx => hr x (by simp [hx]))
    refine ⟨y', ?_⟩
    rw [List.map_cons, goL_cons (ρ1 := [v0, some (.own (done.map encS)), some (.val (encS s))]) _ _ rfl, e1, turn_nx]
    exact e
theorem lone_eq (r : List Sr) (hz : r.length ≤ 1000) : S_law_one [.lst (r.map encS)] om = .ok (.lst ((oneF [] r).map encS)) om := by
  obtain ⟨x', y', e⟩ := o_loop om (some (.val (.lst (r.map encS)))) r [] none none (by simpa using hz)
  unfold o_turn at e
  unfold S_law_one u_law_one
  clear hz
  simp only [List.map_nil] at e
  walk_at "evs"
theorem n_top : u_normal = (sSeq (sAsgO 1 (uLstO uNil)) (sSeq (sForX (uVar 0) (gN 2) n_turn) (sRetO (uMv 1)))) := rfl
theorem normal_eq (r : List Sr) (hz : r.length ≤ 1000) (hr : Ord r) : S_normal [.lst (r.map encS)] om = .ok (.lst ((oneF [] r).map encS)) om := by
  obtain ⟨y', e⟩ := n_loop om (some (.val (.lst (r.map encS)))) r [] none (by simpa using hz) (fun s hs => nomatch hs) hr
  simp only [List.map_nil] at e
  have fx : sForX (uVar 0) (gN 2) n_turn [some (.val (.lst (r.map encS))), some (.own []), none] om = sFor (iLst (uVar 0)) (gN 2) n_turn [some (.val (.lst (r.map encS))), some (.own []), none] om := forX_lst (ds := r.map encS) rfl
  have fy : sFor (iLst (uVar 0)) (gN 2) n_turn [some (.val (.lst (r.map encS))), some (.own []), none] om = .nx [some (.val (.lst (r.map encS))), some (.own ((oneF [] r).map encS)), y'] om := by
    rw [← e]
    rfl
  rw [fy] at fx
  clear hz hr e fy
  unfold S_normal
  rw [n_top]
  generalize r.map encS = X at *
  generalize (oneF [] r).map encS = Y at *
  simp only [defO, ent, sRetO] at *
  walk_at "evs"
theorem nx_loop (H : Nat) (r : List Sr) (hH : om[H]? = some (.lst (r.map encS))) (hr : Ord r) (v0 : Option Sl) : ∀ (m j : Nat) (done : List Sr) (y : Option Sl), r.length = j + m → done.length + m ≤ 1000 → Ord done → ∃ y', goX (gN 2) n_turn (getL H) (m + 1) j [v0, some (.own (done.map encS)), y] om = .nx [v0, some (.own ((oneF done (r.drop j)).map encS)), y'] om
  | 0, j, done, y, hl, _, _ => ⟨y, by
    rw [List.drop_of_length_le (by omega), goX_end (ds := r.map encS) _ _ _ (by unfold getL; rw [hH]) (by simp; omega)]
    rfl⟩
  | m + 1, j, done, y, hl, hz, ho => by
    have hj : j < r.length := by omega
    have hs := hr r[j] (List.getElem_mem hj)
    obtain ⟨w, e1⟩ := n_step om v0 done r[j] (by omega) ho hs
    obtain ⟨m1, m2⟩ := mrg_ord (s := r[j]) ho hs
    obtain ⟨y', e2⟩ := nx_loop H r hH hr v0 m (j + 1) (mrg done r[j]) w (by omega) (by omega) m1
    refine ⟨y', ?_⟩
    rw [goX_next (ds := r.map encS) (d := encS r[j]) (ρ1 := [v0, some (.own (done.map encS)), some (.val (encS r[j]))]) _ _ _ (by unfold getL; rw [hH]) (by simp [hj]) rfl, e1, turn_nx, e2]
    have : r.drop j = r[j] :: r.drop (j + 1) := List.drop_eq_getElem_cons hj
    rw [this]
    rfl
theorem normal_loc (H : Nat) (r : List Sr) (hH : om[H]? = some (.lst (r.map encS))) (hz : r.length ≤ 1000) (hr : Ord r) : S_normal [.loc H] om = .ok (.lst ((oneF [] r).map encS)) om := by
  obtain ⟨y', e⟩ := nx_loop om H r hH hr (some (.val (.loc H))) r.length 0 [] none (by omega) (by simpa using hz) (fun s hs => nomatch hs)
  rw [List.drop_zero] at e
  simp only [List.map_nil] at e
  have fx : sForX (uVar 0) (gN 2) n_turn [some (.val (.loc H)), some (.own []), none] om = sForL (uVar 0) (gN 2) n_turn [some (.val (.loc H)), some (.own []), none] om := forX_loc (k := H) rfl
  have fy : sForL (uVar 0) (gN 2) n_turn [some (.val (.loc H)), some (.own []), none] om = .nx [some (.val (.loc H)), some (.own ((oneF [] r).map encS)), y'] om := by
    rw [← e]
    unfold sForL
    have g1 : ∀ ρ, getL H ρ om = some (r.map encS) := fun ρ => by unfold getL; rw [hH]
    simp only [uVar, List.getElem?_cons_zero, of_ok, lenG, g1, List.length_map]
  rw [fy] at fx
  clear hz hr e fy hH
  unfold S_normal
  rw [n_top]
  generalize (oneF [] r).map encS = Y at *
  simp only [defO, ent, sRetO] at *
  walk_at "evs"
end
end Dv

namespace Dv
open PySem PySem.Spec PyProof.Rows L2
local macro_rules | `(tactic| walk_at "ev") => `(tactic| try simp (disch := omega) only [sSeq_eq, seq_nx, seq_rt, seq_rto, seq_xc, seq_bk, seq_ct, seq_ite, sAsg, sAsgO, sExpr, sRet, sRetO, sRetN, sIf, sNext, uVar, uC, uUn, uBin, uB, uNot, uAnd, uOr, uTV, uAndV, uOrV, uNotV, uIf, uChain, uNil, uCons, uTup, uLst, uLstO, uFn, uFnO, uFz, uMv, uNew, uCall, uCallO, uCallN, uBinV, uBinW, uBinL, uMeO, uMeL, uFnV, sSetL, sAsgG, gN, gT2, gT3, gT4, iLst, iFn,   bind_ok, bind_xc, of_ok, of_xc, res_ok, res_xc, res0_ok, own_ok, own_xc, fr_nx, fr_rt, fr_rto, fr_xc, fo_rto, fo_xc, liftO_some, dBool_bl, items_lst, items_frz, ent, defU, defO, List.map_cons, List.map_nil, List.length_cons, List.length_nil, List.cons_append, List.nil_append, List.append_nil, List.replicate, List.getElem?_cons_zero, List.getElem?_cons_succ, List.set_cons_zero, List.set_cons_succ, Nat.zero_add, Nat.reduceAdd, Nat.reduceSub, Nat.reduceLeDiff,   le_big, lt_big, atN_zero, atN_one, atN_two, atN_three, setN_zero, setN_one, popAt_zero, len_zero, len_succ, dMul_r, dMul_l, dDiv_pos, dMod_pos, dAdd_int, dSub_int, dNeg_int, dLt_int, dLe_int, dGt_int, dGe_int, dEq_int, dNe_int, dEq_bl, dNe_bl, dEq_nil, dNe_nil, dIx_lst, dIx_tup, fAbs_int, fInt_bl, fInt_int, fLen_lst, fLen_frz, fLen_tup, ite_true, ite_false, if_true, if_false, Bool.not_true, Bool.not_false, decide_true, decide_false, Bool.true_eq_false, Bool.false_eq_true, reduceIte, reduceCtorEq, turn_nx, turn_ct, turn_bk, turn_rt, turn_rto, turn_xc, sFor_eq, goL_nil, eq_self])
local macro_rules | `(tactic| walk_at "evs") => `(tactic| try simp (disch := omega) only [sSeq_eq, seq_nx, seq_rt, seq_rto, seq_xc, seq_bk, seq_ct, seq_ite, sAsg, sAsgO, sExpr, sRet, sRetO, sRetN, sIf, sNext, uVar, uC, uUn, uBin, uB, uNot, uAnd, uOr, uTV, uAndV, uOrV, uNotV, uIf, uChain, uNil, uCons, uTup, uLst, uLstO, uFn, uFnO, uFz, uMv, uNew, uCall, uCallO, uCallN, uBinV, uBinW, uBinL, uMeO, uMeL, uFnV, sSetL, sAsgG, gN, gT2, gT3, gT4, iLst, iFn,   bind_ok, bind_xc, of_ok, of_xc, res_ok, res_xc, res0_ok, own_ok, own_xc, fr_nx, fr_rt, fr_rto, fr_xc, fo_rto, fo_xc, liftO_some, dBool_bl, items_lst, items_frz, ent, defU, defO, List.map_cons, List.map_nil, List.length_cons, List.length_nil, List.cons_append, List.nil_append, List.append_nil, List.replicate, List.getElem?_cons_zero, List.getElem?_cons_succ, List.set_cons_zero, List.set_cons_succ, Nat.zero_add, Nat.reduceAdd, Nat.reduceSub, Nat.reduceLeDiff,   le_big, lt_big, atN_zero, atN_one, atN_two, atN_three, setN_zero, setN_one, popAt_zero, len_zero, len_succ, dMul_r, dMul_l, dDiv_pos, dMod_pos, dAdd_int, dSub_int, dNeg_int, dLt_int, dLe_int, dGt_int, dGe_int, dEq_int, dNe_int, dEq_bl, dNe_bl, dEq_nil, dNe_nil, dIx_lst, dIx_tup, fAbs_int, fInt_bl, fInt_int, fLen_lst, fLen_frz, fLen_tup, ite_true, ite_false, if_true, if_false, Bool.not_true, Bool.not_false, decide_true, decide_false, Bool.true_eq_false, Bool.false_eq_true, reduceIte, reduceCtorEq, turn_nx, turn_ct, turn_bk, turn_rt, turn_rto, turn_xc, sFor_eq, goL_nil, eq_self, *])
/-! ### what lies between two times -/
def lo0 (b : Fr) : Fr := if flt (0, 1) b = true then b else (0, 1)
def hi0 (e l : Fr) : Fr := if flt e l = true then e else l
def pc (s : Sr) (x y : Fr) : Sr := ⟨fsum s.b (fmul x s.p), fsum s.b (fmul y s.p), s.p⟩
def cutF : List Sr → Fr → Fr → List Sr
  | [], _, _ => []
  | s :: r, b, e => (if flt (lo0 b) (hi0 e (lastF s)) = true then [pc s (lo0 b) (hi0 e (lastF s))] else []) ++ cutF r (fsub b (lastF s)) (fsub e (lastF s))
def gr (b at_ : Fr) : Fr := if flt b at_ = true then at_ else b
def ls (e h : Fr) : Fr := if flt h e = true then h else e
def takF : List Sr → Fr → Fr → Fr → List Sr
  | [], _, _, _ => []
  | s :: r, a, b, e => (if flt (gr b a) (ls e (fsum a (lastF s))) = true then [pc s (fsub (gr b a) a) (fsub (ls e (fsum a (lastF s))) a)] else []) ++ takF r (fsum a (lastF s)) b e
theorem val_01 : val ((0, 1) : Fr) = 0 := by rw [val_int1]; rfl
theorem lo0_p {b : Fr} (h : 0 < b.2) : 0 < (lo0 b).2 := by unfold lo0; split <;> first | exact h | decide
theorem lo0_val {b : Fr} (h : 0 < b.2) : val (lo0 b) = if val b ≤ 0 then 0 else val b := by
  unfold lo0
  by_cases c : flt (0, 1) b = true
  · rw [if_pos c]
    have := (flt_iff (a := (0, 1)) (by decide) h).mp c
    rw [val_01] at this
    rw [if_neg (by grind)]
  · rw [if_neg c]
    have := (flt_false (a := (0, 1)) (by decide) h).mp (by simpa using c)
    rw [val_01] at this
    rw [if_pos this, val_01]
theorem hi0_p {e l : Fr} (h : 0 < e.2) (k : 0 < l.2) : 0 < (hi0 e l).2 := by unfold hi0; split <;> assumption
theorem hi0_val {e l : Fr} (h : 0 < e.2) (k : 0 < l.2) : val (hi0 e l) = if val e < val l then val e else val l := by
  unfold hi0
  by_cases c : flt e l = true
  · rw [if_pos c, if_pos ((flt_iff h k).mp c)]
  · rw [if_neg c, if_neg (fun z => c ((flt_iff h k).mpr z))]
theorem gr_p {b a : Fr} (h : 0 < b.2) (k : 0 < a.2) : 0 < (gr b a).2 := by unfold gr; split <;> assumption
theorem gr_val {b a : Fr} (h : 0 < b.2) (k : 0 < a.2) : val (gr b a) = if val b < val a then val a else val b := by
  unfold gr
  by_cases c : flt b a = true
  · rw [if_pos c, if_pos ((flt_iff h k).mp c)]
  · rw [if_neg c, if_neg (fun z => c ((flt_iff h k).mpr z))]
theorem ls_p {e h : Fr} (k1 : 0 < e.2) (k2 : 0 < h.2) : 0 < (ls e h).2 := by unfold ls; split <;> assumption
theorem ls_val {e h : Fr} (k1 : 0 < e.2) (k2 : 0 < h.2) : val (ls e h) = if val h < val e then val h else val e := by
  unfold ls
  by_cases c : flt h e = true
  · rw [if_pos c, if_pos ((flt_iff k2 k1).mp c)]
  · rw [if_neg c, if_neg (fun z => c ((flt_iff k2 k1).mpr z))]
theorem pc_ext {s : Sr} {x y x' y' : Fr} (hb : 0 < s.b.2) (hp : 0 < s.p.2) (h1 : 0 < x.2) (h2 : 0 < y.2) (h3 : 0 < x'.2) (h4 : 0 < y'.2) (e1 : val x = val x') (e2 : val y = val y') : pc s x y = pc s x' y' := by
  have m : ∀ {x : Fr}, 0 < x.2 → 0 < (fmul x s.p).2 := fun h => (mk_cn (pos_mul h hp)).1
  have k : ∀ {x x' : Fr}, 0 < x.2 → 0 < x'.2 → val x = val x' → fsum s.b (fmul x s.p) = fsum s.b (fmul x' s.p) := fun h h' e => cn_ext (cn_sum hb (m h)) (cn_sum hb (m h')) (by rw [val_sum hb (m h), val_sum hb (m h'), val_mul h hp, val_mul h' hp, e])
  unfold pc
  rw [k h1 h3 e1, k h2 h4 e2]
theorem tak_cut {N : Nat} : ∀ (r : List Sr) (a b e b' e' : Fr), ShOk N r → 0 < a.2 → 0 < b.2 → 0 < e.2 → 0 < b'.2 → 0 < e'.2 → val b' = val b - val a → val e' = val e - val a → takF r a b e = cutF r b' e'
  | [], a, b, e, b', e', _, _, _, _, _, _, _, _ => rfl
  | s :: r, a, b, e, b', e', h, ha, hb, he, hb', he', v1, v2 => by
    have l := last_bd h.head
    have lp := last_pos h.head
    have ph : 0 < (fsum a (lastF s)).2 := (cn_sum ha l.p).1
    have vh := val_sum ha l.p
    have g1 := gr_p hb ha
    have g2 := ls_p he ph
    have w1 := gr_val hb ha
    have w2 := ls_val he ph
    have w3 := lo0_val hb'
    have w4 := hi0_val he' l.p
    have u1 := lo0_p hb'
    have u2 := hi0_p he' l.p
    have s1 := val_sub g1 ha
    have s2 := val_sub g2 ha
    have x1 : val (fsub (gr b a) a) = val (lo0 b') := by rw [s1, w1, w3, v1]; split <;> split <;> grind
    have x2 : val (fsub (ls e (fsum a (lastF s))) a) = val (hi0 e' (lastF s)) := by rw [s2, w2, w4, v2, vh]; split <;> split <;> grind
    have c : flt (gr b a) (ls e (fsum a (lastF s))) = flt (lo0 b') (hi0 e' (lastF s)) := by
      rw [Bool.eq_iff_iff, flt_iff g1 g2, flt_iff u1 u2, ← x1, ← x2, s1, s2]
      constructor <;> intro z <;> grind
    have t := tak_cut r (fsum a (lastF s)) b e (fsub b' (lastF s)) (fsub e' (lastF s)) h.tail ph hb he (cn_sub hb' l.p).1 (cn_sub he' l.p).1 (by rw [val_sub hb' l.p, vh, v1]; grind) (by rw [val_sub he' l.p, vh, v2]; grind)
    unfold takF cutF
    rw [c, t, pc_ext h.head.bb.p h.head.bp.p (cn_sub g1 ha).1 (cn_sub g2 ha).1 u1 u2 x1 x2]
theorem cut_ord {N : Nat} : ∀ (r : List Sr) (b e : Fr), ShOk N r → 0 < b.2 → 0 < e.2 → Ord (cutF r b e) ∧ (cutF r b e).length ≤ r.length
  | [], b, e, _, _, _ => ⟨fun s hs => (nomatch hs), Nat.le_refl _⟩
  | s :: r, b, e, h, hb, he => by
    have l := last_bd h.head
    obtain ⟨o, hl⟩ := cut_ord r (fsub b (lastF s)) (fsub e (lastF s)) h.tail (cn_sub hb l.p).1 (cn_sub he l.p).1
    unfold cutF
    have u1 := lo0_p hb
    have u2 := hi0_p he l.p
    refine ⟨fun x hx => ?_, ?_⟩
    · rcases List.mem_append.mp hx with q | q
      · split at q
        · rename_i c
          simp only [List.mem_cons, List.not_mem_nil, or_false] at q
          subst q
          have c' := (flt_iff u1 u2).mp c
          have m1 : 0 < (fmul (lo0 b) s.p).2 := (mk_cn (pos_mul u1 h.head.bp.p)).1
          have m2 : 0 < (fmul (hi0 e (lastF s)) s.p).2 := (mk_cn (pos_mul u2 h.head.bp.p)).1
          show val (fsum s.b (fmul (lo0 b) s.p)) < val (fsum s.b (fmul (hi0 e (lastF s)) s.p))
          rw [val_sum h.head.bb.p m1, val_sum h.head.bb.p m2, val_mul u1 h.head.bp.p, val_mul u2 h.head.bp.p]
          have := Rat.mul_lt_mul_of_pos_right c' h.head.pp
          grind
        · cases q
      · exact o x q
    · rw [List.length_append, List.length_cons]
      split <;> simp <;> omega
end Dv

namespace Dv
open PySem PySem.Spec PyProof.Rows L2
local macro_rules | `(tactic| walk_at "ev") => `(tactic| try simp (disch := omega) only [sSeq_eq, seq_nx, seq_rt, seq_rto, seq_xc, seq_bk, seq_ct, seq_ite, sAsg, sAsgO, sExpr, sRet, sRetO, sRetN, sIf, sNext, uVar, uC, uUn, uBin, uB, uNot, uAnd, uOr, uTV, uAndV, uOrV, uNotV, uIf, uChain, uNil, uCons, uTup, uLst, uLstO, uFn, uFnO, uFz, uMv, uNew, uCall, uCallO, uCallN, uBinV, uBinW, uBinL, uMeO, uMeL, uFnV, sSetL, sAsgG, gN, gT2, gT3, gT4, iLst, iFn,   bind_ok, bind_xc, of_ok, of_xc, res_ok, res_xc, res0_ok, own_ok, own_xc, fr_nx, fr_rt, fr_rto, fr_xc, fo_rto, fo_xc, liftO_some, dBool_bl, items_lst, items_frz, ent, defU, defO, List.map_cons, List.map_nil, List.length_cons, List.length_nil, List.cons_append, List.nil_append, List.append_nil, List.replicate, List.getElem?_cons_zero, List.getElem?_cons_succ, List.set_cons_zero, List.set_cons_succ, Nat.zero_add, Nat.reduceAdd, Nat.reduceSub, Nat.reduceLeDiff,   le_big, lt_big, atN_zero, atN_one, atN_two, atN_three, setN_zero, setN_one, popAt_zero, len_zero, len_succ, dMul_r, dMul_l, dDiv_pos, dMod_pos, dAdd_int, dSub_int, dNeg_int, dLt_int, dLe_int, dGt_int, dGe_int, dEq_int, dNe_int, dEq_bl, dNe_bl, dEq_nil, dNe_nil, dIx_lst, dIx_tup, fAbs_int, fInt_bl, fInt_int, fLen_lst, fLen_frz, fLen_tup, ite_true, ite_false, if_true, if_false, Bool.not_true, Bool.not_false, decide_true, decide_false, Bool.true_eq_false, Bool.false_eq_true, reduceIte, reduceCtorEq, turn_nx, turn_ct, turn_bk, turn_rt, turn_rto, turn_xc, sFor_eq, goL_nil, eq_self])
local macro_rules | `(tactic| walk_at "evs") => `(tactic| try simp (disch := omega) only [sSeq_eq, seq_nx, seq_rt, seq_rto, seq_xc, seq_bk, seq_ct, seq_ite, sAsg, sAsgO, sExpr, sRet, sRetO, sRetN, sIf, sNext, uVar, uC, uUn, uBin, uB, uNot, uAnd, uOr, uTV, uAndV, uOrV, uNotV, uIf, uChain, uNil, uCons, uTup, uLst, uLstO, uFn, uFnO, uFz, uMv, uNew, uCall, uCallO, uCallN, uBinV, uBinW, uBinL, uMeO, uMeL, uFnV, sSetL, sAsgG, gN, gT2, gT3, gT4, iLst, iFn,   bind_ok, bind_xc, of_ok, of_xc, res_ok, res_xc, res0_ok, own_ok, own_xc, fr_nx, fr_rt, fr_rto, fr_xc, fo_rto, fo_xc, liftO_some, dBool_bl, items_lst, items_frz, ent, defU, defO, List.map_cons, List.map_nil, List.length_cons, List.length_nil, List.cons_append, List.nil_append, List.append_nil, List.replicate, List.getElem?_cons_zero, List.getElem?_cons_succ, List.set_cons_zero, List.set_cons_succ, Nat.zero_add, Nat.reduceAdd, Nat.reduceSub, Nat.reduceLeDiff,   le_big, lt_big, atN_zero, atN_one, atN_two, atN_three, setN_zero, setN_one, popAt_zero, len_zero, len_succ, dMul_r, dMul_l, dDiv_pos, dMod_pos, dAdd_int, dSub_int, dNeg_int, dLt_int, dLe_int, dGt_int, dGe_int, dEq_int, dNe_int, dEq_bl, dNe_bl, dEq_nil, dNe_nil, dIx_lst, dIx_tup, fAbs_int, fInt_bl, fInt_int, fLen_lst, fLen_frz, fLen_tup, ite_true, ite_false, if_true, if_false, Bool.not_true, Bool.not_false, decide_true, decide_false, Bool.true_eq_false, Bool.false_eq_true, reduceIte, reduceCtorEq, turn_nx, turn_ct, turn_bk, turn_rt, turn_rto, turn_xc, sFor_eq, goL_nil, eq_self, *])
/-! ### the normal show, algebra -/
theorem oneF_app : ∀ (a b done : List Sr), oneF done (a ++ b) = oneF (oneF done a) b
  | [], b, done => rfl
  | s :: a, b, done => by
    show oneF (mrg done s) (a ++ b) = oneF (oneF (mrg done s) a) b
    exact oneF_app a b (mrg done s)
theorem mrg_mrg (X : List Sr) (l s : Sr) (h1 : l.e = s.b) (h2 : l.p = s.p) : mrg X ⟨l.b, s.e, s.p⟩ = mrg (mrg X l) s := by
  rcases nil_or_last X with rfl | ⟨x0, x, rfl⟩
  · rw [mrg_nil, mrg_nil]
    have := mrg_last [] l s
    rw [List.nil_append, if_pos ⟨h1, h2⟩] at this
    exact this.symm
  · rw [mrg_last, mrg_last]
    by_cases c : x.e = l.b ∧ x.p = l.p
    · rw [if_pos c, if_pos ⟨c.1, c.2.trans h2⟩, mrg_last, if_pos ⟨h1, h2⟩]
    · rw [if_neg c, if_neg fun z => c ⟨z.1, z.2.trans h2.symm⟩, mrg_last, if_pos ⟨h1, h2⟩]
theorem oneF_mrg (D E : List Sr) (s : Sr) : oneF D (mrg E s) = mrg (oneF D E) s := by
  rcases nil_or_last E with rfl | ⟨e0, l, rfl⟩
  · rw [mrg_nil]; rfl
  · rw [mrg_last]
    split
    · rename_i c
      rw [oneF_app, oneF_app]
      exact mrg_mrg (oneF D e0) l s c.1 c.2
    · rw [oneF_app]
      rfl
theorem oneF_oneF : ∀ (B D E : List Sr), oneF D (oneF E B) = oneF (oneF D E) B
  | [], D, E => rfl
  | s :: B, D, E => by
    show oneF D (oneF (mrg E s) B) = oneF (mrg (oneF D E) s) B
    rw [oneF_oneF B D (mrg E s), oneF_mrg]
/-- normal parts may stand for the parts -/
theorem one_right (D B : List Sr) : oneF D (oneF [] B) = oneF D B := by
  rw [oneF_oneF]
  rfl
theorem one_app (A B : List Sr) : oneF [] (oneF [] A ++ B) = oneF [] (A ++ B) := by
  rw [oneF_app, one_right, ← oneF_app]
theorem one_app_r (A B : List Sr) : oneF [] (A ++ oneF [] B) = oneF [] (A ++ B) := by
  rw [oneF_app, one_right, ← oneF_app]
/-! cutting a normal show -/
structure CnS (s : Sr) : Prop where
  b : Cn s.b
  e : Cn s.e
  p : 0 < s.p.2
  pp : 0 < val s.p
  lt : val s.b < val s.e
theorem CnS.p1 {s : Sr} (h : CnS s) : s.p.1 ≠ 0 := by have := (val_pos h.p).mp h.pp; omega
theorem CnS.last {s : Sr} (h : CnS s) : Cn (lastF s) ∧ val (lastF s) = (val s.e - val s.b) / val s.p ∧ 0 < val (lastF s) := by
  have c := cn_sub h.e.1 h.b.1
  have p1 := h.p1
  have v : val (lastF s) = (val s.e - val s.b) / val s.p := by
    unfold lastF
    rw [val_dv c.1 h.p p1, val_sub h.e.1 h.b.1]
  refine ⟨?_, v, ?_⟩
  · unfold lastF fdv
    exact mk_cn (fun z => by
      rcases Int.mul_eq_zero.mp z with q | q
      · have := c.1; omega
      · exact p1 q)
  · rw [v]
    exact div_pos' (by have := h.lt; grind) h.pp
theorem rdiv_mul {a b : Rat} (hb : 0 < b) : a / b * b = a := by
  rw [Rat.div_def, Rat.mul_assoc, Rat.inv_mul_cancel _ (by grind)]
  grind
def piece (s : Sr) (b e : Fr) : List Sr := if flt (lo0 b) (hi0 e (lastF s)) = true then [pc s (lo0 b) (hi0 e (lastF s))] else []
theorem cutF_cons (s : Sr) (r : List Sr) (b e : Fr) : cutF (s :: r) b e = piece s b e ++ cutF r (fsub b (lastF s)) (fsub e (lastF s)) := rfl
/-- only the values of the times count -/
theorem piece_val {s : Sr} (h : CnS s) {b e b' e' : Fr} (hb : 0 < b.2) (he : 0 < e.2) (hb' : 0 < b'.2) (he' : 0 < e'.2) (v1 : val b = val b') (v2 : val e = val e') : piece s b e = piece s b' e' := by
  have l := h.last.1
  have w1 := lo0_val hb
  have w2 := lo0_val hb'
  have w3 := hi0_val he l.1
  have w4 := hi0_val he' l.1
  have e1 : val (lo0 b) = val (lo0 b') := by rw [w1, w2, v1]
  have e2 : val (hi0 e (lastF s)) = val (hi0 e' (lastF s)) := by rw [w3, w4, v2]
  have c : flt (lo0 b) (hi0 e (lastF s)) = flt (lo0 b') (hi0 e' (lastF s)) := by
    rw [Bool.eq_iff_iff, flt_iff (lo0_p hb) (hi0_p he l.1), flt_iff (lo0_p hb') (hi0_p he' l.1), e1, e2]
  unfold piece
  rw [c, pc_ext h.b.1 h.p (lo0_p hb) (hi0_p he l.1) (lo0_p hb') (hi0_p he' l.1) e1 e2]
theorem cutF_val : ∀ (r : List Sr) (b e b' e' : Fr), (∀ s ∈ r, CnS s) → 0 < b.2 → 0 < e.2 → 0 < b'.2 → 0 < e'.2 → val b = val b' → val e = val e' → cutF r b e = cutF r b' e'
  | [], _, _, _, _, _, _, _, _, _, _, _ => rfl
  | s :: r, b, e, b', e', h, hb, he, hb', he', v1, v2 => by
    have l := (h s (by simp)).last.1
    rw [cutF_cons, cutF_cons, piece_val (h s (by simp)) hb he hb' he' v1 v2,
      cutF_val r (fsub b (lastF s)) (fsub e (lastF s)) (fsub b' (lastF s)) (fsub e' (lastF s)) (fun x hx => h x (by simp [hx])) (cn_sub hb l.1).1 (cn_sub he l.1).1 (cn_sub hb' l.1).1 (cn_sub he' l.1).1 (by rw [val_sub hb l.1, val_sub hb' l.1, v1]) (by rw [val_sub he l.1, val_sub he' l.1, v2])]
theorem sr_ext {x y : Sr} (h1 : x.b = y.b) (h2 : x.e = y.e) (h3 : x.p = y.p) : x = y := by
  cases x; cases y; simp_all
/-- two stretches that go on in one another, cut -/
theorem piece_two {l s : Sr} (hl : CnS l) (hs : CnS s) (c1 : l.e = s.b) (c2 : l.p = s.p) (hm : CnS ⟨l.b, s.e, s.p⟩) {b e : Fr} (hb : 0 < b.2) (he : 0 < e.2) (D : List Sr) :
    oneF D (piece l b e ++ piece s (fsub b (lastF l)) (fsub e (lastF l))) = oneF D (piece ⟨l.b, s.e, s.p⟩ b e) ∧ val (lastF ⟨l.b, s.e, s.p⟩) = val (lastF l) + val (lastF s) := by
  obtain ⟨l1, l2, l3⟩ := hl.last
  obtain ⟨s1, s2, s3⟩ := hs.last
  obtain ⟨m1, m2, m3⟩ := hm.last
  have sum : val (lastF ⟨l.b, s.e, s.p⟩) = val (lastF l) + val (lastF s) := by
    rw [l2, s2, m2, c1, c2]
    simp only [Rat.div_def]
    grind
  refine ⟨?_, sum⟩
  have b2 := (cn_sub hb l1.1).1
  have e2 := (cn_sub he l1.1).1
  have vb2 := val_sub hb l1.1
  have ve2 := val_sub he l1.1
  -- the values of the bounds
  have p1 := lo0_p hb
  have p2 := hi0_p he l1.1
  have p3 := lo0_p b2
  have p4 := hi0_p e2 s1.1
  have p6 := hi0_p he m1.1
  have w1 := lo0_val hb
  have w2 := hi0_val he l1.1
  have w3 := lo0_val b2
  have w4 := hi0_val e2 s1.1
  have w6 := hi0_val he m1.1
  rw [vb2] at w3
  rw [ve2] at w4
  rw [sum] at w6
  have f1 := flt_iff p1 p2
  have f2 := flt_iff p3 p4
  have f3 := flt_iff p1 p6
  have mlp : val l.p = val s.p := by rw [c2]
  have hp := hs.pp
  have le : val l.b + val (lastF l) * val l.p = val l.e := by rw [l2, rdiv_mul hl.pp]; grind
  -- where a place on the reel is the same
  have place : ∀ {t : Sr} {x : Fr}, CnS t → 0 < x.2 → Cn (fsum t.b (fmul x t.p)) ∧ val (fsum t.b (fmul x t.p)) = val t.b + val x * val t.p := fun ht hx => by
    have c := cn_mul hx ht.p
    exact ⟨cn_sum ht.b.1 c.1, by rw [val_sum ht.b.1 c.1, val_mul hx ht.p]⟩
  have ve : val l.e = val s.b := by rw [c1]
  rw [mlp] at le
  generalize hL : val (lastF l) = L at *
  generalize hS : val (lastF s) = S at *
  -- shifting along the reel
  have shift : ∀ {x y : Fr}, 0 < x.2 → 0 < y.2 → val x = L + val y → fsum l.b (fmul x s.p) = fsum s.b (fmul y s.p) := fun {x y} hx hy e => by
    obtain ⟨a1, a2⟩ := place hm hx
    obtain ⟨a3, a4⟩ := place hs hy
    have a1 : Cn (fsum l.b (fmul x s.p)) := a1
    have a2 : val (fsum l.b (fmul x s.p)) = val l.b + val x * val s.p := a2
    refine cn_ext a1 a3 ?_
    rw [a2, a4, e, Rat.add_mul]
    grind
  have same : ∀ {x y : Fr}, 0 < x.2 → 0 < y.2 → val x = val y → fsum l.b (fmul x s.p) = fsum l.b (fmul y s.p) := fun {x y} hx hy e => by
    obtain ⟨a1, a2⟩ := place hm hx
    obtain ⟨a3, a4⟩ := place hm hy
    have a1 : Cn (fsum l.b (fmul x s.p)) := a1
    have a2 : val (fsum l.b (fmul x s.p)) = val l.b + val x * val s.p := a2
    have a3 : Cn (fsum l.b (fmul y s.p)) := a3
    have a4 : val (fsum l.b (fmul y s.p)) = val l.b + val y * val s.p := a4
    refine cn_ext a1 a3 ?_
    rw [a2, a4, e]
  -- the bounds, by cases
  generalize hx1 : val (lo0 b) = X1 at *
  generalize hy1 : val (hi0 e (lastF l)) = Y1 at *
  generalize hx2 : val (lo0 (fsub b (lastF l))) = X2 at *
  generalize hy2 : val (hi0 (fsub e (lastF l)) (lastF s)) = Y2 at *
  generalize hym : val (hi0 e (lastF ⟨l.b, s.e, s.p⟩)) = YM at *
  have key : (X1 < Y1 ∧ X2 < Y2 → Y1 = L + X2 ∧ YM = L + Y2 ∧ X1 < YM) ∧ (X1 < Y1 ∧ ¬ X2 < Y2 → YM = Y1 ∧ X1 < YM) ∧ (¬ X1 < Y1 ∧ X2 < Y2 → X1 = L + X2 ∧ YM = L + Y2 ∧ X1 < YM) ∧ (¬ X1 < Y1 ∧ ¬ X2 < Y2 → ¬ X1 < YM) := by
    generalize val b = B at *
    generalize val e = E at *
    clear shift same place f1 f2 f3 le hm hl hs sum mlp hp
    refine ⟨?_, ?_, ?_, ?_⟩ <;> (subst w1; subst w2; subst w3; subst w4; subst w6) <;> grind
  have hnil : oneF D [] = D := rfl
  unfold piece
  by_cases d1 : flt (lo0 b) (hi0 e (lastF l)) = true <;> by_cases d2 : flt (lo0 (fsub b (lastF l))) (hi0 (fsub e (lastF l)) (lastF s)) = true
  · obtain ⟨k1, k2, k3⟩ := key.1 ⟨f1.mp d1, f2.mp d2⟩
    rw [if_pos d1, if_pos d2, if_pos (f3.mpr k3)]
    show mrg (mrg D (pc l (lo0 b) (hi0 e (lastF l)))) (pc s (lo0 (fsub b (lastF l))) (hi0 (fsub e (lastF l)) (lastF s))) = mrg D (pc ⟨l.b, s.e, s.p⟩ (lo0 b) (hi0 e (lastF ⟨l.b, s.e, s.p⟩)))
    rw [← mrg_mrg]
    · congr 1
      unfold pc
      refine sr_ext ?_ ?_ rfl
      · show fsum l.b (fmul (lo0 b) l.p) = fsum l.b (fmul (lo0 b) s.p)
        rw [c2]
      · exact (shift p6 p4 (by rw [hym, hy2]; exact k2)).symm
    · show fsum l.b (fmul (hi0 e (lastF l)) l.p) = fsum s.b (fmul (lo0 (fsub b (lastF l))) s.p)
      rw [c2]
      exact shift p2 p3 (by rw [hy1, hx2]; exact k1)
    · exact c2
  · obtain ⟨k1, k2⟩ := key.2.1 ⟨f1.mp d1, fun z => d2 (f2.mpr z)⟩
    rw [if_pos d1, if_neg d2, if_pos (f3.mpr k2), List.append_nil]
    congr 1
    have : pc l (lo0 b) (hi0 e (lastF l)) = pc ⟨l.b, s.e, s.p⟩ (lo0 b) (hi0 e (lastF ⟨l.b, s.e, s.p⟩)) := by
      unfold pc
      refine sr_ext ?_ ?_ c2
      · show fsum l.b (fmul (lo0 b) l.p) = fsum l.b (fmul (lo0 b) s.p)
        rw [c2]
      · show fsum l.b (fmul (hi0 e (lastF l)) l.p) = fsum l.b (fmul (hi0 e (lastF ⟨l.b, s.e, s.p⟩)) s.p)
        rw [c2]
        exact same p2 p6 (by rw [hy1, hym]; exact k1.symm)
    rw [this]
  · obtain ⟨k1, k2, k3⟩ := key.2.2.1 ⟨fun z => d1 (f1.mpr z), f2.mp d2⟩
    rw [if_neg d1, if_pos d2, if_pos (f3.mpr k3), List.nil_append]
    congr 1
    have : pc s (lo0 (fsub b (lastF l))) (hi0 (fsub e (lastF l)) (lastF s)) = pc ⟨l.b, s.e, s.p⟩ (lo0 b) (hi0 e (lastF ⟨l.b, s.e, s.p⟩)) := by
      unfold pc
      refine sr_ext ?_ ?_ rfl
      · exact (shift p1 p3 (by rw [hx1, hx2]; exact k1)).symm
      · exact (shift p6 p4 (by rw [hym, hy2]; exact k2)).symm
    rw [this]
  · have k1 := key.2.2.2 ⟨fun z => d1 (f1.mpr z), fun z => d2 (f2.mpr z)⟩
    rw [if_neg d1, if_neg d2, if_neg fun z => k1 (f3.mp z)]
    rfl
end Dv

namespace Dv
open PySem PySem.Spec PyProof.Rows L2
local macro_rules | `(tactic| walk_at "ev") => `(tactic| try simp (disch := omega) only [sSeq_eq, seq_nx, seq_rt, seq_rto, seq_xc, seq_bk, seq_ct, seq_ite, sAsg, sAsgO, sExpr, sRet, sRetO, sRetN, sIf, sNext, uVar, uC, uUn, uBin, uB, uNot, uAnd, uOr, uTV, uAndV, uOrV, uNotV, uIf, uChain, uNil, uCons, uTup, uLst, uLstO, uFn, uFnO, uFz, uMv, uNew, uCall, uCallO, uCallN, uBinV, uBinW, uBinL, uMeO, uMeL, uFnV, sSetL, sAsgG, gN, gT2, gT3, gT4, iLst, iFn,   bind_ok, bind_xc, of_ok, of_xc, res_ok, res_xc, res0_ok, own_ok, own_xc, fr_nx, fr_rt, fr_rto, fr_xc, fo_rto, fo_xc, liftO_some, dBool_bl, items_lst, items_frz, ent, defU, defO, List.map_cons, List.map_nil, List.length_cons, List.length_nil, List.cons_append, List.nil_append, List.append_nil, List.replicate, List.getElem?_cons_zero, List.getElem?_cons_succ, List.set_cons_zero, List.set_cons_succ, Nat.zero_add, Nat.reduceAdd, Nat.reduceSub, Nat.reduceLeDiff,   le_big, lt_big, atN_zero, atN_one, atN_two, atN_three, setN_zero, setN_one, popAt_zero, len_zero, len_succ, dMul_r, dMul_l, dDiv_pos, dMod_pos, dAdd_int, dSub_int, dNeg_int, dLt_int, dLe_int, dGt_int, dGe_int, dEq_int, dNe_int, dEq_bl, dNe_bl, dEq_nil, dNe_nil, dIx_lst, dIx_tup, fAbs_int, fInt_bl, fInt_int, fLen_lst, fLen_frz, fLen_tup, ite_true, ite_false, if_true, if_false, Bool.not_true, Bool.not_false, decide_true, decide_false, Bool.true_eq_false, Bool.false_eq_true, reduceIte, reduceCtorEq, turn_nx, turn_ct, turn_bk, turn_rt, turn_rto, turn_xc, sFor_eq, goL_nil, eq_self])
local macro_rules | `(tactic| walk_at "evs") => `(tactic| try simp (disch := omega) only [sSeq_eq, seq_nx, seq_rt, seq_rto, seq_xc, seq_bk, seq_ct, seq_ite, sAsg, sAsgO, sExpr, sRet, sRetO, sRetN, sIf, sNext, uVar, uC, uUn, uBin, uB, uNot, uAnd, uOr, uTV, uAndV, uOrV, uNotV, uIf, uChain, uNil, uCons, uTup, uLst, uLstO, uFn, uFnO, uFz, uMv, uNew, uCall, uCallO, uCallN, uBinV, uBinW, uBinL, uMeO, uMeL, uFnV, sSetL, sAsgG, gN, gT2, gT3, gT4, iLst, iFn,   bind_ok, bind_xc, of_ok, of_xc, res_ok, res_xc, res0_ok, own_ok, own_xc, fr_nx, fr_rt, fr_rto, fr_xc, fo_rto, fo_xc, liftO_some, dBool_bl, items_lst, items_frz, ent, defU, defO, List.map_cons, List.map_nil, List.length_cons, List.length_nil, List.cons_append, List.nil_append, List.append_nil, List.replicate, List.getElem?_cons_zero, List.getElem?_cons_succ, List.set_cons_zero, List.set_cons_succ, Nat.zero_add, Nat.reduceAdd, Nat.reduceSub, Nat.reduceLeDiff,   le_big, lt_big, atN_zero, atN_one, atN_two, atN_three, setN_zero, setN_one, popAt_zero, len_zero, len_succ, dMul_r, dMul_l, dDiv_pos, dMod_pos, dAdd_int, dSub_int, dNeg_int, dLt_int, dLe_int, dGt_int, dGe_int, dEq_int, dNe_int, dEq_bl, dNe_bl, dEq_nil, dNe_nil, dIx_lst, dIx_tup, fAbs_int, fInt_bl, fInt_int, fLen_lst, fLen_frz, fLen_tup, ite_true, ite_false, if_true, if_false, Bool.not_true, Bool.not_false, decide_true, decide_false, Bool.true_eq_false, Bool.false_eq_true, reduceIte, reduceCtorEq, turn_nx, turn_ct, turn_bk, turn_rt, turn_rto, turn_xc, sFor_eq, goL_nil, eq_self, *])
def shF : List Sr → Fr → Fr
  | [], b => b
  | s :: r, b => shF r (fsub b (lastF s))
theorem cutF_app : ∀ (X Y : List Sr) (b e : Fr), cutF (X ++ Y) b e = cutF X b e ++ cutF Y (shF X b) (shF X e)
  | [], Y, b, e => rfl
  | s :: X, Y, b, e => by
    rw [List.cons_append, cutF_cons, cutF_cons, cutF_app X Y, List.append_assoc]
    rfl
def CnL (r : List Sr) : Prop := ∀ s ∈ r, CnS s
theorem shF_p : ∀ (X : List Sr) (b : Fr), CnL X → 0 < b.2 → 0 < (shF X b).2
  | [], b, _, hb => hb
  | s :: X, b, h, hb => shF_p X _ (fun x hx => h x (by simp [hx])) (cn_sub hb (h s (by simp)).last.1.1).1
theorem cn_mrg {l s : Sr} (hl : CnS l) (hs : CnS s) (c : l.e = s.b) : CnS ⟨l.b, s.e, s.p⟩ := ⟨hl.b, hs.e, hs.p, hs.pp, by
  have h1 := hl.lt
  have h2 := hs.lt
  rw [c] at h1
  show val l.b < val s.e
  grind⟩
theorem mrg_cn {done : List Sr} {s : Sr} (h : CnL done) (hs : CnS s) : CnL (mrg done s) := by
  rcases nil_or_last done with rfl | ⟨d0, l, rfl⟩
  · rw [mrg_nil]
    intro x hx
    simp only [List.mem_cons, List.not_mem_nil, or_false] at hx
    rw [hx]; exact hs
  · rw [mrg_last]
    have hl := h l (by simp)
    split
    · rename_i c
      intro x hx
      rcases List.mem_append.mp hx with q | q
      · exact h x (by simp [q])
      · simp only [List.mem_cons, List.not_mem_nil, or_false] at q
        rw [q]; exact cn_mrg hl hs c.1
    · intro x hx
      rcases List.mem_append.mp hx with q | q
      · exact h x q
      · simp only [List.mem_cons, List.not_mem_nil, or_false] at q
        rw [q]; exact hs
theorem oneF_cn : ∀ (r done : List Sr), CnL done → CnL r → CnL (oneF done r)
  | [], done, h, _ => h
  | s :: r, done, h, hr => oneF_cn r (mrg done s) (mrg_cn h (hr s (by simp))) fun x hx => hr x (by simp [hx])
/-- cutting the normal show, up to the normal form -/
theorem cut_one : ∀ (r done : List Sr) (b e : Fr), CnL done → CnL r → 0 < b.2 → 0 < e.2 → ∀ D, oneF D (cutF (oneF done r) b e) = oneF D (cutF (done ++ r) b e)
  | [], done, b, e, _, _, _, _, D => by
    rw [List.append_nil]
    rfl
  | s :: r, done, b, e, h, hr, hb, he, D => by
    have hs := hr s (by simp)
    have hr' : CnL r := fun x hx => hr x (by simp [hx])
    show oneF D (cutF (oneF (mrg done s) r) b e) = _
    rw [cut_one r (mrg done s) b e (mrg_cn h hs) hr' hb he D]
    rcases nil_or_last done with rfl | ⟨d0, l, rfl⟩
    · rw [mrg_nil]
      rfl
    · have hl := h l (by simp)
      have h0 : CnL d0 := fun x hx => h x (by simp [hx])
      rw [mrg_last]
      split
      · rename_i c
        have hm := cn_mrg hl hs c.1
        have b1 := shF_p d0 b h0 hb
        have e1 := shF_p d0 e h0 he
        generalize hB : shF d0 b = B at *
        generalize hE : shF d0 e = E at *
        obtain ⟨p2, sum⟩ := piece_two hl hs c.1 c.2 hm b1 e1 (oneF D (cutF d0 b e))
        have l1 := hl.last.1
        have s1 := hs.last.1
        have m1 := hm.last.1
        have q1 := cn_sub b1 l1.1
        have q2 := cn_sub e1 l1.1
        have t1 := cutF_val r (fsub B (lastF ⟨l.b, s.e, s.p⟩)) (fsub E (lastF ⟨l.b, s.e, s.p⟩)) (fsub (fsub B (lastF l)) (lastF s)) (fsub (fsub E (lastF l)) (lastF s)) hr' (cn_sub b1 m1.1).1 (cn_sub e1 m1.1).1 (cn_sub q1.1 s1.1).1 (cn_sub q2.1 s1.1).1
          (by rw [val_sub b1 m1.1, val_sub q1.1 s1.1, val_sub b1 l1.1, sum]; grind) (by rw [val_sub e1 m1.1, val_sub q2.1 s1.1, val_sub e1 l1.1, sum]; grind)
        have ea : (d0 ++ [(⟨l.b, s.e, s.p⟩ : Sr)]) ++ r = d0 ++ (⟨l.b, s.e, s.p⟩ :: r) := by simp
        have eb : (d0 ++ [l]) ++ s :: r = d0 ++ (l :: s :: r) := by simp
        rw [ea, eb, cutF_app, cutF_app, hB, hE]
        rw [oneF_app, oneF_app, cutF_cons, cutF_cons, cutF_cons, oneF_app, ← List.append_assoc, oneF_app, p2, t1]
      · rw [List.append_assoc]
        rfl
theorem cut_normal {r : List Sr} (h : CnL r) {b e : Fr} (hb : 0 < b.2) (he : 0 < e.2) : oneF [] (cutF (oneF [] r) b e) = oneF [] (cutF r b e) :=
  cut_one r [] b e (fun s hs => nomatch hs) h hb he []
/-! cutting in two -/
theorem cutF_nil : ∀ (r : List Sr) (b e : Fr), CnL r → 0 < b.2 → 0 < e.2 → val e ≤ 0 → cutF r b e = []
  | [], b, e, _, _, _, _ => rfl
  | s :: r, b, e, h, hb, he, hv => by
    have l := (h s (by simp)).last
    rw [cutF_cons, cutF_nil r _ _ (fun x hx => h x (by simp [hx])) (cn_sub hb l.1.1).1 (cn_sub he l.1.1).1 (by rw [val_sub he l.1.1]; have := l.2.2; grind)]
    unfold piece
    rw [if_neg, List.append_nil]
    rw [flt_iff (lo0_p hb) (hi0_p he l.1.1), lo0_val hb, hi0_val he l.1.1]
    have := l.2.2
    grind
theorem cutF_lo : ∀ (r : List Sr) (b b' e : Fr), CnL r → 0 < b.2 → 0 < b'.2 → 0 < e.2 → val b ≤ 0 → val b' ≤ 0 → cutF r b e = cutF r b' e
  | [], _, _, _, _, _, _, _, _, _ => rfl
  | s :: r, b, b', e, h, hb, hb', he, hv, hv' => by
    have hs := h s (by simp)
    have l := hs.last
    rw [cutF_cons, cutF_cons, cutF_lo r _ (fsub b' (lastF s)) _ (fun x hx => h x (by simp [hx])) (cn_sub hb l.1.1).1 (cn_sub hb' l.1.1).1 (cn_sub he l.1.1).1 (by rw [val_sub hb l.1.1]; have := l.2.2; grind) (by rw [val_sub hb' l.1.1]; have := l.2.2; grind)]
    congr 1
    have e1 : val (lo0 b) = val (lo0 b') := by rw [lo0_val hb, lo0_val hb', if_pos hv, if_pos hv']
    have c : flt (lo0 b) (hi0 e (lastF s)) = flt (lo0 b') (hi0 e (lastF s)) := by
      rw [Bool.eq_iff_iff, flt_iff (lo0_p hb) (hi0_p he l.1.1), flt_iff (lo0_p hb') (hi0_p he l.1.1), e1]
    unfold piece
    rw [c, pc_ext hs.b.1 hs.p (lo0_p hb) (hi0_p he l.1.1) (lo0_p hb') (hi0_p he l.1.1) e1 rfl]
/-- pieces of one stretch on both sides of a time within it -/
theorem piece_mid {s : Sr} (hs : CnS s) {b m e : Fr} (hb : 0 < b.2) (hm : 0 < m.2) (he : 0 < e.2) (v1 : val b ≤ val m) (v2 : val m ≤ val e) (v3 : val m ≤ val (lastF s)) (D : List Sr) : oneF D (piece s b m ++ piece s m e) = oneF D (piece s b e) := by
  obtain ⟨l1, l2, l3⟩ := hs.last
  have p1 := lo0_p hb
  have p2 := hi0_p hm l1.1
  have p3 := lo0_p hm
  have p4 := hi0_p he l1.1
  have w1 := lo0_val hb
  have w2 := hi0_val hm l1.1
  have w3 := lo0_val hm
  have w4 := hi0_val he l1.1
  have f1 := flt_iff p1 p2
  have f2 := flt_iff p3 p4
  have f3 := flt_iff p1 p4
  have same : ∀ {x y : Fr}, 0 < x.2 → 0 < y.2 → val x = val y → fsum s.b (fmul x s.p) = fsum s.b (fmul y s.p) := fun {x y} hx hy e => by
    have a1 := cn_mul hx hs.p
    have a2 := cn_mul hy hs.p
    exact cn_ext (cn_sum hs.b.1 a1.1) (cn_sum hs.b.1 a2.1) (by rw [val_sum hs.b.1 a1.1, val_sum hs.b.1 a2.1, val_mul hx hs.p, val_mul hy hs.p, e])
  generalize hx1 : val (lo0 b) = X1 at *
  generalize hy1 : val (hi0 m (lastF s)) = Y1 at *
  generalize hx2 : val (lo0 m) = X2 at *
  generalize hy2 : val (hi0 e (lastF s)) = Y2 at *
  have key : (X1 < Y1 ∧ X2 < Y2 → Y1 = X2 ∧ X1 < Y2) ∧ (X1 < Y1 ∧ ¬ X2 < Y2 → Y1 = Y2 ∧ X1 < Y2) ∧ (¬ X1 < Y1 ∧ X2 < Y2 → X1 = X2 ∧ X1 < Y2) ∧ (¬ X1 < Y1 ∧ ¬ X2 < Y2 → ¬ X1 < Y2) := by
    generalize val b = B at *
    generalize val e = E at *
    generalize val m = M at *
    generalize val (lastF s) = L at *
    clear same f1 f2 f3
    refine ⟨?_, ?_, ?_, ?_⟩ <;> (subst w1; subst w2; subst w3; subst w4) <;> grind
  unfold piece
  by_cases d1 : flt (lo0 b) (hi0 m (lastF s)) = true <;> by_cases d2 : flt (lo0 m) (hi0 e (lastF s)) = true
  · obtain ⟨k1, k2⟩ := key.1 ⟨f1.mp d1, f2.mp d2⟩
    rw [if_pos d1, if_pos d2, if_pos (f3.mpr k2)]
    show mrg (mrg D (pc s (lo0 b) (hi0 m (lastF s)))) (pc s (lo0 m) (hi0 e (lastF s))) = mrg D (pc s (lo0 b) (hi0 e (lastF s)))
    rw [← mrg_mrg]
    · rfl
    · exact same p2 p3 (by rw [hy1, hx2]; exact k1)
    · rfl
  · obtain ⟨k1, k2⟩ := key.2.1 ⟨f1.mp d1, fun z => d2 (f2.mpr z)⟩
    rw [if_pos d1, if_neg d2, if_pos (f3.mpr k2), List.append_nil, pc_ext hs.b.1 hs.p p1 p2 p1 p4 rfl (by rw [hy1, hy2]; exact k1)]
  · obtain ⟨k1, k2⟩ := key.2.2.1 ⟨fun z => d1 (f1.mpr z), f2.mp d2⟩
    rw [if_neg d1, if_pos d2, if_pos (f3.mpr k2), List.nil_append, pc_ext hs.b.1 hs.p p3 p4 p1 p4 (by rw [hx1, hx2]; exact k1.symm) rfl]
  · have k1 := key.2.2.2 ⟨fun z => d1 (f1.mpr z), fun z => d2 (f2.mpr z)⟩
    rw [if_neg d1, if_neg d2, if_neg fun z => k1 (f3.mp z)]
    rfl
theorem cut_two : ∀ (r : List Sr) (b m e : Fr), CnL r → 0 < b.2 → 0 < m.2 → 0 < e.2 → val b ≤ val m → val m ≤ val e → ∀ D, oneF D (cutF r b m ++ cutF r m e) = oneF D (cutF r b e)
  | [], b, m, e, _, _, _, _, _, _, D => rfl
  | s :: r, b, m, e, h, hb, hm, he, v1, v2, D => by
    have hs := h s (by simp)
    have hr : CnL r := fun x hx => h x (by simp [hx])
    obtain ⟨l1, l2, l3⟩ := hs.last
    have b1 := (cn_sub hb l1.1).1
    have m1 := (cn_sub hm l1.1).1
    have e1 := (cn_sub he l1.1).1
    have vb := val_sub hb l1.1
    have vm := val_sub hm l1.1
    have ve := val_sub he l1.1
    rw [cutF_cons, cutF_cons, cutF_cons]
    by_cases c : val m ≤ val (lastF s)
    · rw [cutF_nil r _ _ hr b1 m1 (by rw [vm]; grind), List.append_nil, ← List.append_assoc, oneF_app, piece_mid hs hb hm he v1 v2 c, ← oneF_app,
        cutF_lo r (fsub m (lastF s)) (fsub b (lastF s)) _ hr m1 b1 e1 (by rw [vm]; grind) (by rw [vb]; grind)]
    · have q1 : piece s m e = [] := by
        unfold piece
        rw [if_neg]
        rw [flt_iff (lo0_p hm) (hi0_p he l1.1), lo0_val hm, hi0_val he l1.1]
        grind
      have q2 : piece s b m = piece s b e := by
        have y : val (hi0 m (lastF s)) = val (hi0 e (lastF s)) := by
          rw [hi0_val hm l1.1, hi0_val he l1.1]
          grind
        have cc : flt (lo0 b) (hi0 m (lastF s)) = flt (lo0 b) (hi0 e (lastF s)) := by
          rw [Bool.eq_iff_iff, flt_iff (lo0_p hb) (hi0_p hm l1.1), flt_iff (lo0_p hb) (hi0_p he l1.1), y]
        unfold piece
        rw [cc, pc_ext hs.b.1 hs.p (lo0_p hb) (hi0_p hm l1.1) (lo0_p hb) (hi0_p he l1.1) rfl y]
      rw [q1, q2, List.nil_append, List.append_assoc, oneF_app, cut_two r _ _ _ hr b1 m1 e1 (by rw [vb, vm]; grind) (by rw [vm, ve]; grind), ← oneF_app]
/-! paced parts -/
def pacF (r : List Sr) (f : Fr) : List Sr := r.map fun s => ⟨s.b, s.e, fmul s.p f⟩
theorem pac_one (f : Fr) : ∀ (r done : List Sr) (D : List Sr), oneF D (pacF (oneF done r) f) = oneF D (pacF (done ++ r) f)
  | [], done, D => by rw [List.append_nil]; rfl
  | s :: r, done, D => by
    show oneF D (pacF (oneF (mrg done s) r) f) = _
    rw [pac_one f r (mrg done s) D]
    rcases nil_or_last done with rfl | ⟨d0, l, rfl⟩
    · rw [mrg_nil]
      rfl
    · rw [mrg_last]
      split
      · rename_i c
        unfold pacF
        simp only [List.map_append, List.map_cons, List.map_nil, List.append_assoc, List.cons_append, List.nil_append]
        rw [oneF_app, oneF_app]
        show oneF (mrg _ _) _ = oneF (mrg (mrg _ _) _) _
        rw [← mrg_mrg]
        · exact c.1
        · show fmul l.p f = fmul s.p f
          rw [c.2]
      · rw [List.append_assoc]
        rfl
theorem pac_normal (f : Fr) (r D : List Sr) : oneF D (pacF (oneF [] r) f) = oneF D (pacF r f) := pac_one f r [] D
end Dv

namespace Dv
open PySem PySem.Spec PyProof.Rows L2
local macro_rules | `(tactic| walk_at "ev") => `(tactic| try simp (disch := omega) only [sSeq_eq, seq_nx, seq_rt, seq_rto, seq_xc, seq_bk, seq_ct, seq_ite, sAsg, sAsgO, sExpr, sRet, sRetO, sRetN, sIf, sNext, uVar, uC, uUn, uBin, uB, uNot, uAnd, uOr, uTV, uAndV, uOrV, uNotV, uIf, uChain, uNil, uCons, uTup, uLst, uLstO, uFn, uFnO, uFz, uMv, uNew, uCall, uCallO, uCallN, uBinV, uBinW, uBinL, uMeO, uMeL, uFnV, sSetL, sAsgG, gN, gT2, gT3, gT4, iLst, iFn,   bind_ok, bind_xc, of_ok, of_xc, res_ok, res_xc, res0_ok, own_ok, own_xc, fr_nx, fr_rt, fr_rto, fr_xc, fo_rto, fo_xc, liftO_some, dBool_bl, items_lst, items_frz, ent, defU, defO, List.map_cons, List.map_nil, List.length_cons, List.length_nil, List.cons_append, List.nil_append, List.append_nil, List.replicate, List.getElem?_cons_zero, List.getElem?_cons_succ, List.set_cons_zero, List.set_cons_succ, Nat.zero_add, Nat.reduceAdd, Nat.reduceSub, Nat.reduceLeDiff,   le_big, lt_big, atN_zero, atN_one, atN_two, atN_three, setN_zero, setN_one, popAt_zero, len_zero, len_succ, dMul_r, dMul_l, dDiv_pos, dMod_pos, dAdd_int, dSub_int, dNeg_int, dLt_int, dLe_int, dGt_int, dGe_int, dEq_int, dNe_int, dEq_bl, dNe_bl, dEq_nil, dNe_nil, dIx_lst, dIx_tup, fAbs_int, fInt_bl, fInt_int, fLen_lst, fLen_frz, fLen_tup, ite_true, ite_false, if_true, if_false, Bool.not_true, Bool.not_false, decide_true, decide_false, Bool.true_eq_false, Bool.false_eq_true, reduceIte, reduceCtorEq, turn_nx, turn_ct, turn_bk, turn_rt, turn_rto, turn_xc, sFor_eq, goL_nil, eq_self])
local macro_rules | `(tactic| walk_at "evs") => `(tactic| try simp (disch := omega) only [sSeq_eq, seq_nx, seq_rt, seq_rto, seq_xc, seq_bk, seq_ct, seq_ite, sAsg, sAsgO, sExpr, sRet, sRetO, sRetN, sIf, sNext, uVar, uC, uUn, uBin, uB, uNot, uAnd, uOr, uTV, uAndV, uOrV, uNotV, uIf, uChain, uNil, uCons, uTup, uLst, uLstO, uFn, uFnO, uFz, uMv, uNew, uCall, uCallO, uCallN, uBinV, uBinW, uBinL, uMeO, uMeL, uFnV, sSetL, sAsgG, gN, gT2, gT3, gT4, iLst, iFn,   bind_ok, bind_xc, of_ok, of_xc, res_ok, res_xc, res0_ok, own_ok, own_xc, fr_nx, fr_rt, fr_rto, fr_xc, fo_rto, fo_xc, liftO_some, dBool_bl, items_lst, items_frz, ent, defU, defO, List.map_cons, List.map_nil, List.length_cons, List.length_nil, List.cons_append, List.nil_append, List.append_nil, List.replicate, List.getElem?_cons_zero, List.getElem?_cons_succ, List.set_cons_zero, List.set_cons_succ, Nat.zero_add, Nat.reduceAdd, Nat.reduceSub, Nat.reduceLeDiff,   le_big, lt_big, atN_zero, atN_one, atN_two, atN_three, setN_zero, setN_one, popAt_zero, len_zero, len_succ, dMul_r, dMul_l, dDiv_pos, dMod_pos, dAdd_int, dSub_int, dNeg_int, dLt_int, dLe_int, dGt_int, dGe_int, dEq_int, dNe_int, dEq_bl, dNe_bl, dEq_nil, dNe_nil, dIx_lst, dIx_tup, fAbs_int, fInt_bl, fInt_int, fLen_lst, fLen_frz, fLen_tup, ite_true, ite_false, if_true, if_false, Bool.not_true, Bool.not_false, decide_true, decide_false, Bool.true_eq_false, Bool.false_eq_true, reduceIte, reduceCtorEq, turn_nx, turn_ct, turn_bk, turn_rt, turn_rto, turn_xc, sFor_eq, goL_nil, eq_self, *])
/-! ### one bound for all numbers -/
@[reducible] def Q (q : Fr) : Prop := Bd 5400 q
theorem q_01 : Q ((0, 1) : Fr) := Bd.mono (⟨by decide, by decide, by decide⟩ : Bd 1 ((0, 1) : Fr)) (by decide)
structure Sq (s : Sr) : Prop where
  cn : CnS s
  bb : Q s.b
  be : Q s.e
  bp : Bd 310 s.p
  bl : Q (lastF s)
theorem lo0_q {b : Fr} (h : Q b) : Q (lo0 b) := by
  unfold lo0
  split
  · exact h
  · exact q_01
theorem hi0_q {e l : Fr} (h : Q e) (k : Q l) : Q (hi0 e l) := by
  unfold hi0
  split
  · exact h
  · exact k
theorem gr_q {b a : Fr} (h : Q b) (k : Q a) : Q (gr b a) := by
  unfold gr
  split
  · exact k
  · exact h
theorem ls_q {e h : Fr} (k1 : Q e) (k2 : Q h) : Q (ls e h) := by
  unfold ls
  split
  · exact k2
  · exact k1
def c_turn : US :=
    (sSeq (sAsg 5 (uCall 1 S_law_last (uCons (uVar 4) uNil)))
    (sSeq (sAsg 6 (uIf (uB (uCall 2 S_law_low (uCons (uTup (uCons (uC (.int 0)) (uCons (uC (.int 1)) uNil))) (uCons (uVar 1) uNil)))) (uVar 1) (uTup (uCons (uC (.int 0)) (uCons (uC (.int 1)) uNil)))))
    (sSeq (sAsg 7 (uIf (uB (uCall 2 S_law_low (uCons (uVar 2) (uCons (uVar 5) uNil)))) (uVar 2) (uVar 5)))
    (sSeq (sIf (uB (uCall 2 S_law_low (uCons (uVar 6) (uCons (uVar 7) uNil)))) (sSeq (sAsg 8 (uCall 2 S_law_sum (uCons (uBin dIx (uVar 4) (uC (.int 0))) (uCons (uCall 2 S_law_times (uCons (uVar 6) (uCons (uBin dIx (uVar 4) (uC (.int 2))) uNil))) uNil))))
    (sSeq (sAsg 9 (uCall 2 S_law_sum (uCons (uBin dIx (uVar 4) (uC (.int 0))) (uCons (uCall 2 S_law_times (uCons (uVar 7) (uCons (uBin dIx (uVar 4) (uC (.int 2))) uNil))) uNil))))
    (sExpr (uMeO 3 mAppend (uCons (uTup (uCons (uVar 8) (uCons (uVar 9) (uCons (uBin dIx (uVar 4) (uC (.int 2))) uNil)))) uNil))))) sNext)
    (sSeq (sAsg 1 (uCall 2 S_law_minus (uCons (uVar 1) (uCons (uVar 5) uNil))))
    (sAsg 2 (uCall 2 S_law_minus (uCons (uVar 2) (uCons (uVar 5) uNil)))))))))
def t_turn : US :=
    (sSeq (sAsg 6 (uCall 2 S_added (uCons (uVar 4) (uCons (uCall 1 S_lasts (uCons (uVar 5) uNil)) uNil))))
    (sSeq (sAsg 7 (uCall 2 S_greater (uCons (uVar 1) (uCons (uVar 4) uNil))))
    (sSeq (sAsg 8 (uCall 2 S_lesser (uCons (uVar 2) (uCons (uVar 6) uNil))))
    (sSeq (sIf (uB (uCall 2 S_is_below (uCons (uVar 7) (uCons (uVar 8) uNil)))) (sSeq (sAsg 9 (uCall 2 S_added (uCons (uBin dIx (uVar 5) (uC (.int 0))) (uCons (uCall 2 S_timed (uCons (uCall 2 S_less (uCons (uVar 7) (uCons (uVar 4) uNil))) (uCons (uBin dIx (uVar 5) (uC (.int 2))) uNil))) uNil))))
    (sSeq (sAsg 10 (uCall 2 S_added (uCons (uBin dIx (uVar 5) (uC (.int 0))) (uCons (uCall 2 S_timed (uCons (uCall 2 S_less (uCons (uVar 8) (uCons (uVar 4) uNil))) (uCons (uBin dIx (uVar 5) (uC (.int 2))) uNil))) uNil))))
    (sExpr (uMeO 3 mAppend (uCons (uTup (uCons (uVar 9) (uCons (uVar 10) (uCons (uBin dIx (uVar 5) (uC (.int 2))) uNil)))) uNil))))) sNext)
    (sAsg 4 (uVar 6))))))
theorem gr_bd {B M : Nat} {b a : Fr} (h : Bd B b) (k : Bd M a) : Bd (B + M) (gr b a) := by
  unfold gr
  split
  · exact k.mono (by omega)
  · exact h.mono (by omega)
theorem ls_bd {B M : Nat} {e h : Fr} (k1 : Bd B e) (k2 : Bd M h) : Bd (B + M) (ls e h) := by
  unfold ls
  split
  · exact k2.mono (by omega)
  · exact k1.mono (by omega)
section
variable {N : Nat} (om : Om)
theorem greater_eq {B M : Nat} {b a : Fr} (h : Bd B b) (k : Bd M a) (hz : B + M ≤ 13000) : S_greater [encF b, encF a] om = .ok (encF (gr b a)) om := by
  have e := below_eq om h k hz
  unfold S_greater u_greater gr
  clear h k hz
  cases c : flt b a <;> rw [c] at e <;> clear c <;> walk_at "evs"
theorem lesser_eq {B M : Nat} {e h : Fr} (k1 : Bd B e) (k2 : Bd M h) (hz : M + B ≤ 13000) : S_lesser [encF e, encF h] om = .ok (encF (ls e h)) om := by
  have e9 := below_eq om k2 k1 hz
  unfold S_lesser u_lesser ls
  clear k1 k2 hz
  cases c : flt h e <;> rw [c] at e9 <;> clear c <;> walk_at "evs"
end
section
variable (om : Om)
theorem lasts_q {s : Sr} (h : Sq s) : S_lasts [encS s] om = .ok (encF (lastF s)) om := by
  have e1 := less_eq om h.be h.bb (by decide)
  have e2 := over_eq om (bd_sub h.be h.bb) h.bp (by decide) h.cn.p1
  unfold S_lasts u_lasts
  clear h
  walk_at "evs"
  rfl
theorem llast_q {s : Sr} (h : Sq s) : S_law_last [encS s] om = .ok (encF (lastF s)) om := by
  have e1 := lminus_eq om h.be h.bb (by decide)
  have e2 := lby_eq om (bd_sub h.be h.bb) h.bp (by decide) h.cn.p1
  unfold S_law_last u_law_last
  clear h
  walk_at "evs"
  rfl
theorem c_stepQ (v0 x5 x6 x7 x8 x9 : Option Sl) (found : List Sr) (s : Sr) (b e : Fr) (h : Sq s) (hb : Q b) (he : Q e) (hf : found.length ≤ 999) :
    ∃ y5 y6 y7 y8 y9, c_turn [v0, some (.val (encF b)), some (.val (encF e)), some (.own (found.map encS)), some (.val (encS s)), x5, x6, x7, x8, x9] om =
      .nx [v0, some (.val (encF (fsub b (lastF s)))), some (.val (encF (fsub e (lastF s)))), some (.own ((found ++ if flt (lo0 b) (hi0 e (lastF s)) = true then [pc s (lo0 b) (hi0 e (lastF s))] else []).map encS)), some (.val (encS s)), y5, y6, y7, y8, y9] om := by
  have z1 : Q ((0, 1) : Fr) := q_01
  have l := h.bl
  have e1 := llast_q om h
  have e2 := llow_eq om z1 hb (by decide)
  have e3 := llow_eq om he l (by decide)
  have b1 := lo0_q hb
  have b2 := hi0_q he l
  have e4 := llow_eq om b1 b2 (by decide)
  have e5 := ltimes_eq om b1 h.bp (by decide)
  have e6 := ltimes_eq om b2 h.bp (by decide)
  have e7 := lsum_eq om h.bb (bd_mul b1 h.bp) (by decide)
  have e8 := lsum_eq om h.bb (bd_mul b2 h.bp) (by decide)
  have e9 := lminus_eq om hb l (by decide)
  have e10 := lminus_eq om he l (by decide)
  have a1 := app_S (d := found) (pc s (lo0 b) (hi0 e (lastF s))) (by omega)
  have i1 : lo0 b = if flt (0, 1) b = true then b else (0, 1) := rfl
  have i2 : hi0 e (lastF s) = if flt e (lastF s) = true then e else lastF s := rfl
  unfold pc at a1 ⊢
  generalize lo0 b = x at *
  generalize hi0 e (lastF s) = y at *
  generalize lastF s = q at *
  clear h hb he hf l b1 b2 z1
  cases c3 : flt x y
  · refine ⟨some (.val (encF q)), some (.val (encF x)), some (.val (encF y)), x8, x9, ?_⟩
    rw [c3] at e4
    cases c1 : flt (0, 1) b <;> cases c2 : flt e q <;> rw [c1] at i1 e2 <;> rw [c2] at i2 e3 <;> clear c1 c2 c3 <;>
      simp only [if_true, Bool.false_eq_true, if_false, List.append_nil] at i1 i2 ⊢ <;> subst i1 <;> subst i2 <;> unfold c_turn <;> walk_at "evs"
  · refine ⟨some (.val (encF q)), some (.val (encF x)), some (.val (encF y)), some (.val (encF (fsum s.b (fmul x s.p)))), some (.val (encF (fsum s.b (fmul y s.p)))), ?_⟩
    rw [c3] at e4
    simp only [if_true]
    generalize (found ++ [(⟨fsum s.b (fmul x s.p), fsum s.b (fmul y s.p), s.p⟩ : Sr)]).map encS = Y at *
    generalize found.map encS = X at *
    cases c1 : flt (0, 1) b <;> cases c2 : flt e q <;> rw [c1] at i1 e2 <;> rw [c2] at i2 e3 <;> clear c1 c2 c3 <;>
      simp only [if_true, Bool.false_eq_true, if_false] at i1 i2 <;> subst i1 <;> subst i2 <;> unfold c_turn <;> walk_at "evs"
theorem t_stepQ (v0 x6 x7 x8 x9 x10 : Option Sl) (found : List Sr) (s : Sr) (a b e : Fr) (h : Sq s) (ha : Q a) (hb : Q b) (he : Q e) (hq : Q (fsum a (lastF s))) (hx1 : Q (fsub (gr b a) a)) (hx2 : Q (fsub (ls e (fsum a (lastF s))) a)) (hf : found.length ≤ 999) :
    ∃ y7 y8 y9 y10, t_turn [v0, some (.val (encF b)), some (.val (encF e)), some (.own (found.map encS)), some (.val (encF a)), some (.val (encS s)), x6, x7, x8, x9, x10] om =
      .nx [v0, some (.val (encF b)), some (.val (encF e)), some (.own ((found ++ if flt (gr b a) (ls e (fsum a (lastF s))) = true then [pc s (fsub (gr b a) a) (fsub (ls e (fsum a (lastF s))) a)] else []).map encS)), some (.val (encF (fsum a (lastF s)))), some (.val (encS s)), some (.val (encF (fsum a (lastF s)))), y7, y8, y9, y10] om := by
  have l := h.bl
  have hh := hq
  have e1 := lasts_q om h
  have e2 := added_eq om ha l (by decide)
  have b1 := gr_q hb ha
  have b2 := ls_q he hh
  have e3 := greater_eq om hb ha (by decide)
  have e4 := lesser_eq om he hh (by decide)
  have e5 := below_eq om b1 b2 (by decide)
  have e6 := less_eq om b1 ha (by decide)
  have e7 := less_eq om b2 ha (by decide)
  have s1 := hx1
  have s2 := hx2
  have e8 := timed_eq om s1 h.bp (by decide)
  have e9 := timed_eq om s2 h.bp (by decide)
  have e10 := added_eq om h.bb (bd_mul s1 h.bp) (by decide)
  have e11 := added_eq om h.bb (bd_mul s2 h.bp) (by decide)
  have a1 := app_S (d := found) (pc s (fsub (gr b a) a) (fsub (ls e (fsum a (lastF s))) a)) (by omega)
  unfold pc at a1 ⊢
  generalize gr b a = x at *
  generalize ls e (fsum a (lastF s)) = y at *
  generalize fsum a (lastF s) = q at *
  generalize lastF s = w at *
  clear h ha hb he hf hq hx1 hx2 l b1 b2 hh s1 s2
  cases c3 : flt x y
  · refine ⟨some (.val (encF x)), some (.val (encF y)), x9, x10, ?_⟩
    rw [c3] at e5
    clear c3
    simp only [Bool.false_eq_true, if_false, List.append_nil]
    unfold t_turn
    walk_at "evs"
  · refine ⟨some (.val (encF x)), some (.val (encF y)), some (.val (encF (fsum s.b (fmul (fsub x a) s.p)))), some (.val (encF (fsum s.b (fmul (fsub y a) s.p)))), ?_⟩
    rw [c3] at e5
    clear c3
    simp only [if_true]
    generalize (found ++ [(⟨fsum s.b (fmul (fsub x a) s.p), fsum s.b (fmul (fsub y a) s.p), s.p⟩ : Sr)]).map encS = Y at *
    generalize found.map encS = X at *
    unfold t_turn
    walk_at "evs"
def SqL (r : List Sr) : Prop := ∀ s ∈ r, Sq s
/-- all partial sums; all partial differences -/
def Ac : Fr → List Sr → Prop
  | a, [] => Q a
  | a, s :: r => Q a ∧ Ac (fsum a (lastF s)) r
def Sb : Fr → List Sr → Prop
  | b, [] => Q b
  | b, s :: r => Q b ∧ Sb (fsub b (lastF s)) r
/-- what the times of `taken` come to, from each place on -/
def Ab (b : Fr) : Fr → List Sr → Prop
  | a, [] => True
  | a, s :: r => Q (fsub (gr b a) a) ∧ Ab b (fsum a (lastF s)) r
def Ae (e : Fr) : Fr → List Sr → Prop
  | a, [] => True
  | a, s :: r => Q (fsub (ls e (fsum a (lastF s))) a) ∧ Ae e (fsum a (lastF s)) r
theorem Ac.h {a : Fr} : ∀ {r : List Sr}, Ac a r → Q a
  | [], h => h
  | _ :: _, h => h.1
theorem Sb.h {a : Fr} : ∀ {r : List Sr}, Sb a r → Q a
  | [], h => h
  | _ :: _, h => h.1
theorem c_loopQ (v0 : Option Sl) : ∀ (r found : List Sr) (b e : Fr) (x4 x5 x6 x7 x8 x9 : Option Sl), SqL r → Sb b r → Sb e r → found.length + r.length ≤ 1000 → ∃ b' e' y4 y5 y6 y7 y8 y9,
    goL (gN 4) c_turn (r.map encS) [v0, some (.val (encF b)), some (.val (encF e)), some (.own (found.map encS)), x4, x5, x6, x7, x8, x9] om =
      .nx [v0, some (.val (encF b')), some (.val (encF e')), some (.own ((found ++ cutF r b e).map encS)), y4, y5, y6, y7, y8, y9] om
  | [], found, b, e, x4, x5, x6, x7, x8, x9, _, _, _, _ => ⟨b, e, x4, x5, x6, x7, x8, x9, by rw [show cutF [] b e = [] from rfl, List.append_nil]; rfl⟩
  | s :: r, found, b, e, x4, x5, x6, x7, x8, x9, h, hb, he, hl => by
    rw [List.length_cons] at hl
    obtain ⟨w5, w6, w7, w8, w9, e1⟩ := c_stepQ om v0 x5 x6 x7 x8 x9 found s b e (h s (by simp)) hb.1 he.1 (by omega)
    obtain ⟨b', e', y4, y5, y6, y7, y8, y9, e2⟩ := c_loopQ v0 r (found ++ if flt (lo0 b) (hi0 e (lastF s)) = true then [pc s (lo0 b) (hi0 e (lastF s))] else []) (fsub b (lastF s)) (fsub e (lastF s)) (some (.val (encS s))) w5 w6 w7 w8 w9 (fun x hx => h x (by simp [hx])) hb.2 he.2 (by
      rw [List.length_append]
      split <;> simp <;> omega)
    refine ⟨b', e', y4, y5, y6, y7, y8, y9, ?_⟩
    rw [List.map_cons, goL_cons (ρ1 := [v0, some (.val (encF b)), some (.val (encF e)), some (.own (found.map encS)), some (.val (encS s)), x5, x6, x7, x8, x9]) _ _ rfl, e1, turn_nx, e2, List.append_assoc]
    rfl
theorem lcut_q (r : List Sr) (b e : Fr) (h : SqL r) (hb : Sb b r) (he : Sb e r) (hf : r.length ≤ 1000) : S_law_cut [.lst (r.map encS), encF b, encF e] om = .ok (.lst ((cutF r b e).map encS)) om := by
  obtain ⟨b', e', y4, y5, y6, y7, y8, y9, g⟩ := c_loopQ om (some (.val (.lst (r.map encS)))) r [] b e none none none none none none h hb he (by simpa using hf)
  rw [List.nil_append] at g
  unfold c_turn at g
  simp only [List.map_nil] at g
  clear h hb he hf
  unfold S_law_cut u_law_cut
  walk_at "evs"
theorem t_loopQ (v0 : Option Sl) (b e : Fr) (hb : Q b) (he : Q e) : ∀ (r found : List Sr) (a : Fr) (x5 x6 x7 x8 x9 x10 : Option Sl), SqL r → Ac a r → Ab b a r → Ae e a r → found.length + r.length ≤ 1000 → ∃ a' y5 y6 y7 y8 y9 y10,
    goL (gN 5) t_turn (r.map encS) [v0, some (.val (encF b)), some (.val (encF e)), some (.own (found.map encS)), some (.val (encF a)), x5, x6, x7, x8, x9, x10] om =
      .nx [v0, some (.val (encF b)), some (.val (encF e)), some (.own ((found ++ takF r a b e).map encS)), some (.val (encF a')), y5, y6, y7, y8, y9, y10] om
  | [], found, a, x5, x6, x7, x8, x9, x10, _, _, _, _, _ => ⟨a, x5, x6, x7, x8, x9, x10, by rw [show takF [] a b e = [] from rfl, List.append_nil]; rfl⟩
  | s :: r, found, a, x5, x6, x7, x8, x9, x10, h, ha, hab, hae, hl => by
    rw [List.length_cons] at hl
    obtain ⟨w7, w8, w9, w10, e1⟩ := t_stepQ om v0 x6 x7 x8 x9 x10 found s a b e (h s (by simp)) ha.1 hb he ha.2.h hab.1 hae.1 (by omega)
    obtain ⟨a', y5, y6, y7, y8, y9, y10, e2⟩ := t_loopQ v0 b e hb he r (found ++ if flt (gr b a) (ls e (fsum a (lastF s))) = true then [pc s (fsub (gr b a) a) (fsub (ls e (fsum a (lastF s))) a)] else []) (fsum a (lastF s)) (some (.val (encS s))) (some (.val (encF (fsum a (lastF s))))) w7 w8 w9 w10 (fun x hx => h x (by simp [hx])) ha.2 hab.2 hae.2 (by
      rw [List.length_append]
      split <;> simp <;> omega)
    refine ⟨a', y5, y6, y7, y8, y9, y10, ?_⟩
    rw [List.map_cons, goL_cons (ρ1 := [v0, some (.val (encF b)), some (.val (encF e)), some (.own (found.map encS)), some (.val (encF a)), some (.val (encS s)), x6, x7, x8, x9, x10]) _ _ rfl, e1, turn_nx, e2, List.append_assoc]
    rfl
theorem long_loopQ (v0 : Option Sl) : ∀ (r : List Sr) (acc : Fr) (x : Option Sl), SqL r → Ac acc r → ∃ x',
    goL (gN 2) (sAsg 1 (uCall 2 S_law_sum (uCons (uVar 1) (uCons (uCall 1 S_law_last (uCons (uVar 2) uNil)) uNil)))) (r.map encS) [v0, some (.val (encF acc)), x] om = .nx [v0, some (.val (encF (totF acc r))), x'] om
  | [], acc, x, _, _ => ⟨x, rfl⟩
  | s :: r, acc, x, h, ha => by
    have hs := h s (by simp)
    have e1 := llast_q om hs
    have e2 := lsum_eq om ha.1 hs.bl (by decide)
    obtain ⟨x', e⟩ := long_loopQ v0 r _ (some (.val (encS s))) (fun x hx => h x (by simp [hx])) ha.2
    refine ⟨x', ?_⟩
    rw [List.map_cons, goL_cons (ρ1 := [v0, some (.val (encF acc)), some (.val (encS s))]) _ _ rfl]
    clear h ha hs
    walk_at "evs"
    rfl
theorem llong_q (r : List Sr) (h : SqL r) (ha : Ac (0, 1) r) : S_law_long [.lst (r.map encS)] om = .ok (encF (totF (0, 1) r)) om := by
  obtain ⟨x', e⟩ := long_loopQ om (some (.val (.lst (r.map encS)))) r (0, 1) none h ha
  unfold S_law_long u_law_long
  clear h ha
  walk_at "evs"
theorem summed_loopQ (v0 : Option Sl) : ∀ (r : List Sr) (acc : Fr) (x : Option Sl), SqL r → Ac acc r → ∃ x',
    goL (gN 2) (sAsg 1 (uCall 2 S_added (uCons (uVar 1) (uCons (uVar 2) uNil)))) (r.map fun s => encF (lastF s)) [v0, some (.val (encF acc)), x] om = .nx [v0, some (.val (encF (totF acc r))), x'] om
  | [], acc, x, _, _ => ⟨x, rfl⟩
  | s :: r, acc, x, h, ha => by
    have hs := h s (by simp)
    have e2 := added_eq om ha.1 hs.bl (by decide)
    obtain ⟨x', e⟩ := summed_loopQ v0 r _ (some (.val (encF (lastF s)))) (fun x hx => h x (by simp [hx])) ha.2
    refine ⟨x', ?_⟩
    rw [List.map_cons, goL_cons (ρ1 := [v0, some (.val (encF acc)), some (.val (encF (lastF s)))]) _ _ rfl]
    clear h ha hs
    walk_at "evs"
    rfl
theorem length_q (r : List Sr) (h : SqL r) (ha : Ac (0, 1) r) (hl : r.length ≤ 1000) : S_length [.lst (r.map encS)] om = .ok (encF (totF (0, 1) r)) om := by
  obtain ⟨x', e⟩ := summed_loopQ om (some (.val (.lst (r.map fun s => encF (lastF s))))) r (0, 1) none h ha
  have e2 : S_summed [.lst (r.map fun s => encF (lastF s))] om = .ok (encF (totF (0, 1) r)) om := by
    unfold S_summed u_summed
    clear h ha
    walk_at "evs"
  have e3 : ∀ s ∈ r, S_lasts [encS s] om = .ok (encF (lastF s)) om := fun s hs => lasts_q om (h s hs)
  have e4 : uLc (iLst (uVar 0)) (gN 1) uYes (uCallN 1 S_lasts (uCons (uVar 1) uNil)) [1] [some (.val (.lst (r.map encS))), none] om = .ok (r.map fun s => encF (lastF s)) [some (.val (.lst (r.map encS))), none] om := by
    unfold uLc
    walk_at "ev"
    have := goC_map (te := uCallN 1 S_lasts (uCons (uVar 1) uNil)) (i := 1) (ω := om) (ρ := [some (.val (.lst (r.map encS))), none]) (fun d => match S_lasts [d] om with | .ok y _ => y | _ => .non) (r.map encS) [] (fun d hd => by
      obtain ⟨s, hs, rfl⟩ := List.mem_map.mp hd
      have e5 := e3 s hs
      simp only [List.set_cons_succ, List.set_cons_zero]
      walk_at "evs") (by simp; exact big_of hl)
    show goC _ _ _ [1] _ [] ([some (.val (.lst (r.map encS))), none].set 1 none) om = _
    rw [this, List.nil_append, List.map_map]
    congr 1
    exact List.map_congr_left fun s hs => by simp only [Function.comp, e3 s hs]
  unfold S_length u_length
  clear h ha hl e
  walk_at "evs"
end
end Dv

namespace Dv
open PySem PySem.Spec PyProof.Rows L2
local macro_rules | `(tactic| walk_at "ev") => `(tactic| try simp (disch := omega) only [sSeq_eq, seq_nx, seq_rt, seq_rto, seq_xc, seq_bk, seq_ct, seq_ite, sAsg, sAsgO, sExpr, sRet, sRetO, sRetN, sIf, sNext, uVar, uC, uUn, uBin, uB, uNot, uAnd, uOr, uTV, uAndV, uOrV, uNotV, uIf, uChain, uNil, uCons, uTup, uLst, uLstO, uFn, uFnO, uFz, uMv, uNew, uCall, uCallO, uCallN, uBinV, uBinW, uBinL, uMeO, uMeL, uFnV, sSetL, sAsgG, gN, gT2, gT3, gT4, iLst, iFn,   bind_ok, bind_xc, of_ok, of_xc, res_ok, res_xc, res0_ok, own_ok, own_xc, fr_nx, fr_rt, fr_rto, fr_xc, fo_rto, fo_xc, liftO_some, dBool_bl, items_lst, items_frz, ent, defU, defO, List.map_cons, List.map_nil, List.length_cons, List.length_nil, List.cons_append, List.nil_append, List.append_nil, List.replicate, List.getElem?_cons_zero, List.getElem?_cons_succ, List.set_cons_zero, List.set_cons_succ, Nat.zero_add, Nat.reduceAdd, Nat.reduceSub, Nat.reduceLeDiff,   le_big, lt_big, atN_zero, atN_one, atN_two, atN_three, setN_zero, setN_one, popAt_zero, len_zero, len_succ, dMul_r, dMul_l, dDiv_pos, dMod_pos, dAdd_int, dSub_int, dNeg_int, dLt_int, dLe_int, dGt_int, dGe_int, dEq_int, dNe_int, dEq_bl, dNe_bl, dEq_nil, dNe_nil, dIx_lst, dIx_tup, fAbs_int, fInt_bl, fInt_int, fLen_lst, fLen_frz, fLen_tup, ite_true, ite_false, if_true, if_false, Bool.not_true, Bool.not_false, decide_true, decide_false, Bool.true_eq_false, Bool.false_eq_true, reduceIte, reduceCtorEq, turn_nx, turn_ct, turn_bk, turn_rt, turn_rto, turn_xc, sFor_eq, goL_nil, eq_self])
local macro_rules | `(tactic| walk_at "evs") => `(tactic| try simp (disch := omega) only [sSeq_eq, seq_nx, seq_rt, seq_rto, seq_xc, seq_bk, seq_ct, seq_ite, sAsg, sAsgO, sExpr, sRet, sRetO, sRetN, sIf, sNext, uVar, uC, uUn, uBin, uB, uNot, uAnd, uOr, uTV, uAndV, uOrV, uNotV, uIf, uChain, uNil, uCons, uTup, uLst, uLstO, uFn, uFnO, uFz, uMv, uNew, uCall, uCallO, uCallN, uBinV, uBinW, uBinL, uMeO, uMeL, uFnV, sSetL, sAsgG, gN, gT2, gT3, gT4, iLst, iFn,   bind_ok, bind_xc, of_ok, of_xc, res_ok, res_xc, res0_ok, own_ok, own_xc, fr_nx, fr_rt, fr_rto, fr_xc, fo_rto, fo_xc, liftO_some, dBool_bl, items_lst, items_frz, ent, defU, defO, List.map_cons, List.map_nil, List.length_cons, List.length_nil, List.cons_append, List.nil_append, List.append_nil, List.replicate, List.getElem?_cons_zero, List.getElem?_cons_succ, List.set_cons_zero, List.set_cons_succ, Nat.zero_add, Nat.reduceAdd, Nat.reduceSub, Nat.reduceLeDiff,   le_big, lt_big, atN_zero, atN_one, atN_two, atN_three, setN_zero, setN_one, popAt_zero, len_zero, len_succ, dMul_r, dMul_l, dDiv_pos, dMod_pos, dAdd_int, dSub_int, dNeg_int, dLt_int, dLe_int, dGt_int, dGe_int, dEq_int, dNe_int, dEq_bl, dNe_bl, dEq_nil, dNe_nil, dIx_lst, dIx_tup, fAbs_int, fInt_bl, fInt_int, fLen_lst, fLen_frz, fLen_tup, ite_true, ite_false, if_true, if_false, Bool.not_true, Bool.not_false, decide_true, decide_false, Bool.true_eq_false, Bool.false_eq_true, reduceIte, reduceCtorEq, turn_nx, turn_ct, turn_bk, turn_rt, turn_rto, turn_xc, sFor_eq, goL_nil, eq_self, *])
/-! ### common denominators -/
structure Dn (D : Nat) (q : Fr) : Prop where
  cn : Cn q
  z : ∃ z : Int, val q * (D : Rat) = (z : Rat)
theorem dn_sum {D : Nat} {a b : Fr} (ha : Dn D a) (hb : Dn D b) : Dn D (fsum a b) := by
  obtain ⟨x, hx⟩ := ha.z
  obtain ⟨y, hy⟩ := hb.z
  refine ⟨cn_sum ha.cn.1 hb.cn.1, x + y, ?_⟩
  rw [val_sum ha.cn.1 hb.cn.1, Rat.add_mul, hx, hy, Rat.intCast_add]
theorem dn_sub {D : Nat} {a b : Fr} (ha : Dn D a) (hb : Dn D b) : Dn D (fsub a b) := by
  obtain ⟨x, hx⟩ := ha.z
  obtain ⟨y, hy⟩ := hb.z
  refine ⟨cn_sub ha.cn.1 hb.cn.1, x - y, ?_⟩
  rw [val_sub ha.cn.1 hb.cn.1, Rat.intCast_sub, ← hx, ← hy]
  grind
theorem cast_mulN (a b : Nat) : ((a * b : Nat) : Rat) = (a : Rat) * (b : Rat) := by
  have : ((a * b : Nat) : Rat) = (((a * b : Nat) : Int) : Rat) := rfl
  rw [this, Int.natCast_mul, Rat.intCast_mul]
  rfl
theorem dn_up {D X : Nat} {a : Fr} (ha : Dn D a) : Dn (D * X) a := by
  obtain ⟨x, hx⟩ := ha.z
  refine ⟨ha.cn, x * (X : Int), ?_⟩
  rw [cast_mulN, ← Rat.mul_assoc, hx, Rat.intCast_mul]
  rfl
theorem dn_mul {D X : Nat} {a p : Fr} (ha : Dn D a) (hp : Dn X p) : Dn (D * X) (fmul a p) := by
  obtain ⟨x, hx⟩ := ha.z
  obtain ⟨y, hy⟩ := hp.z
  refine ⟨cn_mul ha.cn.1 hp.cn.1, x * y, ?_⟩
  rw [val_mul ha.cn.1 hp.cn.1, cast_mulN, Rat.intCast_mul, ← hx, ← hy]
  grind
theorem dn_div {D X : Nat} {a p : Fr} (ha : Dn D a) (hp : 0 < p.2) (p1 : p.1 ≠ 0) (hy : ∃ y : Int, 1 / val p * (X : Rat) = (y : Rat)) : Dn (D * X) (fdv a p) := by
  obtain ⟨x, hx⟩ := ha.z
  obtain ⟨y, hy⟩ := hy
  refine ⟨?_, x * y, ?_⟩
  · unfold fdv
    exact mk_cn (fun z => by
      rcases Int.mul_eq_zero.mp z with q | q
      · have := ha.cn.1; omega
      · exact p1 q)
  · rw [val_dv ha.cn.1 hp p1, cast_mulN, Rat.intCast_mul, ← hx, ← hy]
    simp only [Rat.div_def]
    grind
/-- a fraction of few bits -/
theorem dn_bd {D V N : Nat} {q : Fr} (h : Dn D q) (hD : 0 < D) (h1 : -(V : Rat) ≤ val q) (h2 : val q ≤ (V : Rat)) (hv : (V + 1) * D < 2 ^ N) : Bd N q := by
  obtain ⟨z, hz⟩ := h.z
  have hp := h.cn.1
  have c2 := cast_pos hp
  have c0 := cast_ne (show q.2 ≠ 0 by omega)
  -- the bottom
  have e1 : q.1 * (D : Int) = z * q.2 := by
    have e2 : val q * (q.2 : Rat) = (q.1 : Rat) := by
      unfold val
      rw [Rat.div_def, Rat.mul_assoc, Rat.inv_mul_cancel _ c0]
      grind
    have : ((q.1 * (D : Int) : Int) : Rat) = ((z * q.2 : Int) : Rat) := by
      rw [Rat.intCast_mul, Rat.intCast_mul, ← hz, ← e2]
      have : (((D : Nat) : Int) : Rat) = (D : Rat) := rfl
      rw [this]
      grind
    exact Rat.intCast_inj.mp this
  have dv : q.2 ∣ (D : Int) := by
    have d1 : q.2 ∣ q.1 * (D : Int) := ⟨z, by rw [e1, Int.mul_comm]⟩
    have d2 := Int.natAbs_dvd_natAbs.mpr d1
    rw [Int.natAbs_mul, Int.natAbs_natCast] at d2
    have g : Nat.Coprime q.2.natAbs q.1.natAbs := by
      have := h.cn.2
      unfold Nat.Coprime
      rw [Nat.gcd_comm]
      exact this
    have d3 := Nat.Coprime.dvd_of_dvd_mul_left g d2
    exact Int.natAbs_dvd_natAbs.mp (by rw [Int.natAbs_natCast]; exact d3)
  have le : q.2 ≤ (D : Int) := Int.le_of_dvd (by omega) dv
  -- the top
  have t2 : q.1 ≤ (V : Int) * q.2 := by
    have := h2
    unfold val at this
    rw [← Rat.not_lt, Rat.lt_div_iff c2, Rat.not_lt] at this
    have e : (((V : Int) * q.2 : Int) : Rat) = (V : Rat) * (q.2 : Rat) := by rw [Rat.intCast_mul]; rfl
    rw [← e] at this
    exact Rat.intCast_le_intCast.mp this
  have t1 : -((V : Int) * q.2) ≤ q.1 := by
    have h3 : -(val q) ≤ (V : Rat) := by grind
    have h4 : (-(q.1 : Rat)) / (q.2 : Rat) ≤ (V : Rat) := by
      have : (-(q.1 : Rat)) / (q.2 : Rat) = -(val q) := by unfold val; simp only [Rat.div_def]; grind
      rw [this]; exact h3
    have := h4
    rw [← Rat.not_lt, Rat.lt_div_iff c2, Rat.not_lt] at this
    have e : (((V : Int) * q.2 : Int) : Rat) = (V : Rat) * (q.2 : Rat) := by rw [Rat.intCast_mul]; rfl
    have e3 : ((-q.1 : Int) : Rat) = -(q.1 : Rat) := Rat.intCast_neg q.1
    rw [← e, ← e3] at this
    have := Rat.intCast_le_intCast.mp this
    omega
  have m : (V : Int) * q.2 ≤ (V : Int) * (D : Int) := Int.mul_le_mul_of_nonneg_left le (by omega)
  have m2 : ((V * D : Nat) : Int) = (V : Int) * (D : Int) := by rw [Int.natCast_mul]
  have m3 : (V + 1) * D = V * D + D := by rw [Nat.add_mul, Nat.one_mul]
  refine ⟨hp, ?_, ?_⟩
  · generalize (2 : Nat) ^ N = P at *
    omega
  · generalize (2 : Nat) ^ N = P at *
    omega
theorem dn_q {D V : Nat} {q : Fr} (h : Dn D q) (hD : 0 < D) (h1 : -(V : Rat) ≤ val q) (h2 : val q ≤ (V : Rat)) (hv : (V + 1) * D < 2 ^ 5400) : Q q := dn_bd h hD h1 h2 hv
/-! ### paces -/
structure Px (j : Nat) (p : Fr) : Prop where
  d : Dn (2520 ^ j) p
  i : ∃ y : Int, 1 / val p * ((2520 ^ j : Nat) : Rat) = (y : Rat)
  pos : 0 < val p
  hi : val p ≤ ((9 ^ j : Nat) : Rat)
  lo : 1 / val p ≤ ((9 ^ j : Nat) : Rat)
theorem natCast_le {a b : Nat} (h : a ≤ b) : (a : Rat) ≤ (b : Rat) := by
  have : ((a : Int) : Rat) ≤ ((b : Int) : Rat) := Rat.intCast_le_intCast.mpr (by omega)
  exact this
theorem inv_pos {x : Rat} (h : 0 < x) : 0 < 1 / x := div_pos' (by grind) h
theorem px_mul {j i : Nat} {p f : Fr} (hp : Px j p) (hf : Px i f) : Px (j + i) (fmul p f) := by
  obtain ⟨x, hx⟩ := hp.i
  obtain ⟨y, hy⟩ := hf.i
  have v := val_mul hp.d.cn.1 hf.d.cn.1
  have iv : 1 / (val p * val f) = (1 / val p) * (1 / val f) := by
    simp only [Rat.div_def]
    rw [Rat.inv_mul_rev]
    grind
  have n9 : (((9 ^ (j + i) : Nat)) : Rat) = ((9 ^ j : Nat) : Rat) * ((9 ^ i : Nat) : Rat) := by rw [Nat.pow_add, cast_mulN]
  have up : ∀ {a b A B : Rat}, 0 < a → 0 < b → a ≤ A → b ≤ B → a * b ≤ A * B := fun {a b A B} h1 h2 h3 h4 => by
    have k1 := Rat.mul_le_mul_of_nonneg_right h3 (Rat.le_of_lt h2)
    have k2 := Rat.mul_le_mul_of_nonneg_left h4 (show 0 ≤ A by grind)
    grind
  refine ⟨?_, ⟨x * y, ?_⟩, ?_, ?_, ?_⟩
  · rw [Nat.pow_add]
    exact dn_mul hp.d hf.d
  · rw [v, iv, Nat.pow_add, cast_mulN, Rat.intCast_mul, ← hx, ← hy]
    grind
  · rw [v]; exact Rat.mul_pos hp.pos hf.pos
  · rw [v, n9]; exact up hp.pos hf.pos hp.hi hf.hi
  · rw [v, iv, n9]; exact up (inv_pos hp.pos) (inv_pos hf.pos) hp.lo hf.lo
theorem px_one : Px 0 ((1, 1) : Fr) := by
  have v : val ((1, 1) : Fr) = 1 := by rw [val_int1]; rfl
  have p0 : ((2520 ^ 0 : Nat) : Rat) = 1 := rfl
  have p9 : ((9 ^ 0 : Nat) : Rat) = 1 := rfl
  refine ⟨⟨⟨by decide, by decide⟩, ⟨1, ?_⟩⟩, ⟨1, ?_⟩, ?_, ?_, ?_⟩ <;> rw [v] <;> first | (rw [p0]; grind) | (rw [p9]; grind) | grind
theorem px_up {j : Nat} {p : Fr} (h : Px j p) : Px (j + 1) p := by
  obtain ⟨x, hx⟩ := h.i
  have n9 : ((9 ^ j : Nat) : Rat) ≤ ((9 ^ (j + 1) : Nat) : Rat) := natCast_le (Nat.pow_le_pow_right (by decide) (by omega))
  refine ⟨?_, ⟨x * 2520, ?_⟩, h.pos, by have := h.hi; grind, by have := h.lo; grind⟩
  · rw [Nat.pow_succ]; exact dn_up h.d
  · rw [Nat.pow_succ, cast_mulN, ← Rat.mul_assoc, hx, Rat.intCast_mul]
    rfl
end Dv

namespace Dv
open PySem PySem.Spec PyProof.Rows L2
/-! ### texts as lists of signs -/
abbrev tx (l : List Nat) : D := .str ⟨l.toArray⟩
theorem tx_of (s : String) (l : List Nat) (h : s.toList.map Char.toNat = l) : D.str (Str.ofString s) = tx l := by
  have : Str.ofString s = ⟨l.toArray⟩ := TL.ext_tl (by rw [TL.tl_ofString, h])
  rw [this]
theorem k_colon : D.str (Str.ofString ":") = tx [58] := tx_of _ _ (by decide)
theorem k_blank : D.str (Str.ofString " ") = tx [32] := tx_of _ _ (by decide)
theorem k_line : D.str (Str.ofString "/") = tx [47] := tx_of _ _ (by decide)
theorem k_f : D.str (Str.ofString "f") = tx [102] := tx_of _ _ (by decide)
theorem k_s : D.str (Str.ofString "s") = tx [115] := tx_of _ _ (by decide)
theorem k_0 : D.str (Str.ofString "0") = tx [48] := tx_of _ _ (by decide)
theorem k_empty : D.str (Str.ofString "") = tx [] := tx_of _ _ (by decide)
theorem k_digits : D.str (Str.ofString "0123456789") = tx [48, 49, 50, 51, 52, 53, 54, 55, 56, 57] := tx_of _ _ (by decide)
theorem k_abc : D.str (Str.ofString "abcxyz") = tx [97, 98, 99, 120, 121, 122] := tx_of _ _ (by decide)
theorem k_alpha : D.str (Str.ofString "abcdefghijklmnopqrstuvwxyz") = tx [97, 98, 99, 100, 101, 102, 103, 104, 105, 106, 107, 108, 109, 110, 111, 112, 113, 114, 115, 116, 117, 118, 119, 120, 121, 122] := tx_of _ _ (by decide)
theorem k_cue : D.str (Str.ofString "cue ") = tx [99, 117, 101, 32] := tx_of _ _ (by decide)
theorem k_from : D.str (Str.ofString " from ") = tx [32, 102, 114, 111, 109, 32] := tx_of _ _ (by decide)
theorem k_to : D.str (Str.ofString " to ") = tx [32, 116, 111, 32] := tx_of _ _ (by decide)
theorem k_at : D.str (Str.ofString " at ") = tx [32, 97, 116, 32] := tx_of _ _ (by decide)
theorem k_two : D.str (Str.ofString "  ") = tx [32, 32] := tx_of _ _ (by decide)
theorem k_fto : D.str (Str.ofString "f to ") = tx [102, 32, 116, 111, 32] := tx_of _ _ (by decide)
theorem k_nl : D.str (Str.ofString "\n") = tx [10] := tx_of _ _ (by decide)
theorem k_a1 : D.str (Str.ofString "a") = tx [97] := tx_of _ _ (by decide)
theorem len_tx (l : List Nat) : (⟨l.toArray⟩ : Str).length = l.length := by rw [TL.len_tl]
theorem tx_app (a b : List Nat) : ((⟨a.toArray⟩ : Str) ++ (⟨b.toArray⟩ : Str)) = ⟨(a ++ b).toArray⟩ := TL.ext_tl (by rw [TL.tl_append])
theorem dAdd_tx {a b : List Nat} (h : a.length + b.length ≤ 100000) : dAdd (tx a) (tx b) = some (tx (a ++ b)) := by
  show (if (⟨a.toArray⟩ : Str).length + (⟨b.toArray⟩ : Str).length ≤ big then some (D.str ((⟨a.toArray⟩ : Str) ++ (⟨b.toArray⟩ : Str))) else none) = _
  rw [len_tx, len_tx, if_pos (Nat.le_trans h (by decide)), tx_app]
theorem fLen_tx {l : List Nat} (h : l.length ≤ 100000) : fLen [tx l] = some (.int l.length) := by
  show (if (⟨l.toArray⟩ : Str).length ≤ big then some (D.int (⟨l.toArray⟩ : Str).length) else none) = _
  rw [len_tx, if_pos (Nat.le_trans h (by decide))]
theorem tx_inj {a b : List Nat} : ((⟨a.toArray⟩ : Str) = ⟨b.toArray⟩) ↔ a = b := ⟨fun h => by
  have := congrArg TL.tl h
  simpa using this, fun h => by rw [h]⟩
theorem dEq_tx (a b : List Nat) : dEq (tx a) (tx b) = some (.bl (decide (a = b))) := by
  show some (D.bl (decide ((⟨a.toArray⟩ : Str) = ⟨b.toArray⟩))) = _
  congr 2
  exact decide_eq_decide.mpr tx_inj
theorem dNe_tx (a b : List Nat) : dNe (tx a) (tx b) = some (.bl (!decide (a = b))) := by
  show some (D.bl (!decide ((⟨a.toArray⟩ : Str) = ⟨b.toArray⟩))) = _
  congr 3
  exact decide_eq_decide.mpr tx_inj
theorem dEq_txn (a : List Nat) : dEq (tx a) (tx []) = some (.bl (decide (a = []))) := dEq_tx a []
theorem dNe_txn (a : List Nat) : dNe (tx a) (tx []) = some (.bl (!decide (a = []))) := dNe_tx a []
def nm (i : Int) : List Nat := TL.numL i.toNat
theorem fStr_nat {i : Int} (h0 : 0 ≤ i) (h : i < 1000000000000000000000000000000000000000000) : fStr [.int i] = some (tx (nm i)) := by
  have hl : i.natAbs.log2 < 1920 := by
    by_cases hz : i.natAbs = 0
    · rw [hz]; decide
    · exact Nat.lt_trans ((Nat.log2_lt hz).mpr (show i.natAbs < 2 ^ 140 by omega)) (by decide)
  show (if i.natAbs.log2 < 1920 then some (D.str (Str.ofString (toString i))) else none) = _
  rw [if_pos hl]
  have e : Str.ofString (toString i) = ⟨(nm i).toArray⟩ := TL.ext_tl (by
    have : i = ((i.toNat : Nat) : Int) := by omega
    show TL.tl (Str.ofString (toString i)) = nm i
    unfold nm
    conv => lhs; rw [this]
    rw [TL.tl_num])
  rw [e]
theorem nm_len {i : Int} {k : Nat} (h0 : 0 ≤ i) (hk : 0 < k) (h : i < ((10 ^ k : Nat) : Int)) : (nm i).length ≤ k := TL.numL_len hk (by omega)
theorem nm_len9 {i : Int} (h0 : 0 ≤ i) (h : i < 1000000000) : (nm i).length ≤ 9 := nm_len h0 (by decide) (by simpa using h)
theorem nm_len20 {i : Int} (h0 : 0 ≤ i) (h : i < 10000000000000000000000000000000000000000) : (nm i).length ≤ 40 := nm_len h0 (by decide) (by simpa using h)
theorem dIx_tx0 (c : Nat) {l : List Nat} (h : l.length ≤ 100000) : dIx (tx (c :: l)) (.int 0) = some (tx [c]) := by
  show (if (⟨(c :: l).toArray⟩ : Str).length ≤ big then (match atN (c :: l) 0 with | some c => some (D.str ⟨#[c]⟩) | none => none) else none) = _
  rw [len_tx, if_pos (Nat.le_trans (show (c :: l).length ≤ 100001 by simp; omega) (by decide))]
  rfl
/-- the last sign; all but the last -/
theorem cutS_l1 (l : List Nat) (c : Nat) : cutS ⟨(l ++ [c]).toArray⟩ (some (-1)) none = ⟨[c].toArray⟩ := by
  unfold cutS
  rw [len_tx, HT.sIx_none]
  have e : HT.sIx (l ++ [c]).length 0 (some (-1)) = l.length := by
    have := HT.clip_eq (-1) (l ++ [c]).length 0
    rw [if_pos (by decide)] at this
    have h2 : (l ++ [c]).length = l.length + 1 := by simp
    omega
  rw [e]
  simp
theorem cutS_b1 (l : List Nat) (c : Nat) : cutS ⟨(l ++ [c]).toArray⟩ none (some (-1)) = ⟨l.toArray⟩ := by
  unfold cutS
  rw [len_tx, HT.sIx_none]
  have e : HT.sIx (l ++ [c]).length (l ++ [c]).length (some (-1)) = l.length := by
    have := HT.clip_eq (-1) (l ++ [c]).length (l ++ [c]).length
    rw [if_pos (by decide)] at this
    have h2 : (l ++ [c]).length = l.length + 1 := by simp
    omega
  rw [e]
  simp
theorem cutS_ln : cutS ⟨[].toArray⟩ (some (-1)) none = ⟨[].toArray⟩ := by
  unfold cutS
  simp
theorem cutS_bn : cutS ⟨[].toArray⟩ none (some (-1)) = ⟨[].toArray⟩ := by
  unfold cutS
  simp
/-! ### cut at a sign -/
theorem fPart_tx {l S : List Nat} (hS : S ≠ []) (h : l.length ≤ 100000) : fPart ⟨l.toArray⟩ (tx S) = some (match TL.par S [] l with | some (a, b) => .tup [tx a, tx S, tx b] | none => .tup [tx l, tx [], tx []]) := by
  have hn : ((⟨S.toArray⟩ : Str).length == 0) = false := by
    rw [len_tx]
    cases S with
    | nil => exact absurd rfl hS
    | cons => rfl
  show (if ((⟨S.toArray⟩ : Str).length == 0) = false ∧ (⟨l.toArray⟩ : Str).length ≤ big then some (D.tup [.str (Txt.partition ⟨l.toArray⟩ ⟨S.toArray⟩).1, .str (Txt.partition ⟨l.toArray⟩ ⟨S.toArray⟩).2.1, .str (Txt.partition ⟨l.toArray⟩ ⟨S.toArray⟩).2.2]) else none) = _
  rw [if_pos ⟨hn, by rw [len_tx]; exact Nat.le_trans h (by decide)⟩, TL.partition_par ⟨l.toArray⟩ ⟨S.toArray⟩ hS]
  show some _ = _
  cases e : TL.par S [] l with
  | none => rfl
  | some ab => rfl
/-- what stands before the first s, and behind it -/
theorem par1 (s : Nat) : ∀ (l acc : List Nat), (s ∉ l ∧ TL.par [s] acc l = none) ∨ ∃ a b, s ∉ a ∧ l = a ++ s :: b ∧ TL.par [s] acc l = some (acc ++ a, b)
  | [], acc => .inl ⟨by simp, rfl⟩
  | c :: r, acc => by
    by_cases h : c = s
    · subst h
      refine .inr ⟨[], r, by simp, rfl, ?_⟩
      rw [TL.par_hit (by simp [TL.pre])]
      simp
    · have hp : TL.pre [s] (c :: r) = false := by simp [TL.pre, h]
      rcases par1 s r (acc ++ [c]) with ⟨h1, h2⟩ | ⟨a, b, h1, h2, h3⟩
      · refine .inl ⟨by simp [h1]; exact fun z => h z.symm, ?_⟩
        rw [TL.par_miss hp, h2]
      · refine .inr ⟨c :: a, b, by simp [h1]; exact fun z => h z.symm, by rw [h2]; rfl, ?_⟩
        rw [TL.par_miss hp, h3]
        simp
theorem par1_app {s : Nat} {a b : List Nat} (h : s ∉ a) : TL.par [s] [] (a ++ s :: b) = some (a, b) := TL.par_part1 (S := []) (acc := []) h
theorem par1_none {s : Nat} {a : List Nat} (h : s ∉ a) : TL.par [s] [] a = none := TL.par_none1 h
/-- split at a sign -/
theorem fSplit_tx {l : List Nat} {s : Nat} (hs : s < 256) (h : l.length ≤ 100000) : fSplit ⟨l.toArray⟩ (tx [s]) = some (.lst ((TL.spl [s] 0 [] l).map tx)) := by
  show (if ((⟨[s].toArray⟩ : Str).length == 0) = false ∧ (⟨l.toArray⟩ : Str).length + 2 ≤ big then some (D.lst ((Txt.split ⟨l.toArray⟩ ⟨[s].toArray⟩).map D.str)) else none) = _
  rw [if_pos ⟨rfl, by rw [len_tx]; exact Nat.le_trans (Nat.add_le_add_right h 2) (by decide)⟩]
  have e := TL.split_spl ⟨l.toArray⟩ ⟨[s].toArray⟩ (by simp) (TL.kind_ok (by simp [hs]))
  have e2 : Txt.split ⟨l.toArray⟩ ⟨[s].toArray⟩ = (TL.spl [s] 0 [] l).map fun z => (⟨z.toArray⟩ : Str) := TL.map_tl_inj (by
    rw [e, List.map_map]
    show TL.spl [s] 0 [] l = (TL.spl [s] 0 [] l).map (fun z => z)
    simp)
  rw [e2, List.map_map]
  rfl
theorem asStrs_tx : ∀ ls : List (List Nat), asStrs (ls.map tx) = some (ls.map fun z => (⟨z.toArray⟩ : Str))
  | [] => rfl
  | l :: ls => by
    rw [List.map_cons]
    unfold asStrs
    rw [asStrs_tx ls]
    rfl
def lens (ls : List (List Nat)) : Nat := (ls.map List.length).sum
theorem fJoin_tx {s : List Nat} {ls : List (List Nat)} (h : lens ls + ls.length * s.length ≤ 1000000) : fJoin ⟨s.toArray⟩ (.lst (ls.map tx)) = some (tx (TL.joinL s ls)) := by
  unfold fJoin
  dsimp only
  rw [asStrs_tx]
  dsimp only
  have hl : ((ls.map fun z => (⟨z.toArray⟩ : Str)).map (·.length)).sum = lens ls := by
    unfold lens
    rw [List.map_map]
    congr 1
  rw [if_pos (by rw [hl, List.length_map, len_tx]; exact h), TL.join_eq]
  have : Str.join ⟨s.toArray⟩ (ls.map fun z => (⟨z.toArray⟩ : Str)) = ⟨(TL.joinL s ls).toArray⟩ := TL.ext_tl (by
    rw [TL.tl_join, List.map_map]
    show TL.joinL s (ls.map fun z => z) = TL.joinL s ls
    simp)
  rw [this]
/-! ### numbers -/
def isDig (c : Nat) : Bool := decide (48 ≤ c) && decide (c ≤ 57)
def numV (l : List Nat) : Option Nat := if l.length = 0 ∨ 9 < l.length ∨ (l.head? = some 48 ∧ 1 < l.length) ∨ l.all isDig = false then none else some (NumText.digitsVal l)
theorem dNotIn_dig (c : Nat) : dNotIn (tx [c]) (tx [48, 49, 50, 51, 52, 53, 54, 55, 56, 57]) = some (.bl (!isDig c)) := by
  rw [dNotIn_sign]
  congr 3
  unfold isDig
  rw [← Bool.decide_and]
  refine decide_eq_decide.mpr ?_
  simp only [List.mem_cons, List.not_mem_nil, or_false]
  omega
theorem fIntS_tx {l : List Nat} (h0 : l ≠ []) (h1 : l.length ≤ 600) (h : l.all isDig = true) : fIntS [tx l] = some (.int (NumText.digitsVal l : Nat)) := by
  have hd : NumText.AllDigits l := fun c hc => by
    have := List.all_eq_true.mp h c hc
    unfold isDig at this
    simpa using this
  show (if (⟨l.toArray⟩ : Str).length ≤ 640 then (match PySem.intText? ⟨l.toArray⟩ with | some n => some (D.int n) | none => none) else none) = _
  rw [len_tx, if_pos (by omega), intText_digits (x := ⟨l.toArray⟩) hd h0 (by rw [len_tx]; omega)]
theorem fSigns_tx (l : List Nat) : fSigns (tx l) = some (l.map fun c => tx [c]) := rfl
theorem drop_tw (p : Nat → Bool) : ∀ l : List Nat, l.drop (l.takeWhile p).length = l.dropWhile p
  | [] => rfl
  | c :: l => by
    rw [List.takeWhile_cons, List.dropWhile_cons]
    cases p c
    · simp
    · simp [drop_tw p l]
theorem fLstrip_tx {l : List Nat} (h : l.length ≤ 100000) : fLstripC ⟨l.toArray⟩ (tx [48]) = some (tx (l.dropWhile fun c => decide (c = 48))) := by
  show (if (⟨l.toArray⟩ : Str).length ≤ big then some (D.str (Txt.lstripChars ⟨l.toArray⟩ ⟨[48].toArray⟩)) else none) = _
  rw [len_tx, if_pos (Nat.le_trans h (by decide))]
  have : Txt.lstripChars ⟨l.toArray⟩ ⟨[48].toArray⟩ = ⟨(l.dropWhile fun c => decide (c = 48)).toArray⟩ := TL.ext_tl (by
    show TL.tl (Txt.stripBy _ true false _) = _
    rw [PyProof.Rows.stripBy_eq]
    show TL.tl (Builtin.Str.strSub _ _ (⟨l.toArray⟩ : Str).length) = _
    rw [TL.tl_strSub_end]
    show l.drop (l.takeWhile _).length = l.dropWhile _
    rw [drop_tw]
    congr 1
    funext c
    simp [eq_comm])
  rw [this]
end Dv

namespace Dv
open PySem PySem.Spec PyProof.Rows L2
/-! ### times written, as lists of signs -/
def mixL (q : Fr) : List Nat := if q.1 % q.2 = 0 then nm (q.1 / q.2) else (((nm (q.1 / q.2) ++ [32]) ++ nm (q.1 % q.2)) ++ [47]) ++ nm q.2
def two (n : Int) : List Nat := if n < 10 then [48] ++ nm n else nm n
def clockH (q : Fr) (rate : Int) : List Nat := (((nm (q.1 / q.2 / rate / 3600) ++ [58]) ++ two (q.1 / q.2 / rate / 60 % 60)) ++ [58] ++ two (q.1 / q.2 / rate % 60)) ++ [58] ++ two (q.1 / q.2 % rate)
def clockL (q : Fr) (rate : Int) : List Nat := if q.1 % q.2 = 0 then clockH q rate else (((clockH q rate ++ [32]) ++ nm (q.1 % q.2)) ++ [47]) ++ nm q.2
/-- a time that is written -/
structure Wr (q : Fr) : Prop where
  a : 0 ≤ q.1
  b : q.1 < 10000000000000000000000000000000000000000
  c : 0 < q.2
  d : q.2 < 1073741824
theorem dl {a b N : Int} (h0 : 0 ≤ a) (h1 : a < N) (h2 : 0 < b) : 0 ≤ a / b ∧ a / b < N :=
  ⟨Int.ediv_nonneg h0 (by omega), Int.lt_of_le_of_lt (Int.ediv_le_self b h0) h1⟩
theorem ml {a b : Int} (h2 : 0 < b) : 0 ≤ a % b ∧ a % b < b := ⟨Int.emod_nonneg a (by omega), Int.emod_lt_of_pos a h2⟩
section
variable {q : Fr} (h : Wr q)
include h
theorem Wr.div : 0 ≤ q.1 / q.2 ∧ q.1 / q.2 < 10000000000000000000000000000000000000000 := dl h.a h.b h.c
theorem Wr.md : 0 ≤ q.1 % q.2 ∧ q.1 % q.2 < q.2 := ml h.c
theorem Wr.l1 : (nm (q.1 / q.2)).length ≤ 40 := nm_len20 h.div.1 h.div.2
theorem Wr.l2 : (nm (q.1 % q.2)).length ≤ 40 := nm_len20 h.md.1 (by have := h.md.2; have := h.d; omega)
theorem Wr.l3 : (nm q.2).length ≤ 40 := nm_len20 (by have := h.c; omega) (by have := h.d; omega)
theorem Wr.mix : (mixL q).length ≤ 122 := by
  have h1 := h.l1
  have h2 := h.l2
  have h3 := h.l3
  unfold mixL
  split
  · omega
  · simp only [List.length_append, List.length_cons, List.length_nil]
    omega
end
theorem two_len {n : Int} (h0 : 0 ≤ n) (h : n < 10000000000000000000000000000000000000000) : (two n).length ≤ 41 := by
  have := nm_len20 h0 h
  unfold two
  split
  · simp only [List.length_append, List.length_cons, List.length_nil]; omega
  · omega
theorem clockH_len {q : Fr} {rate : Int} (h : Wr q) (h1 : 0 < rate) (h2 : rate ≤ 1000) : (clockH q rate).length ≤ 166 := by
  have d := h.div
  have e := dl d.1 d.2 h1
  have e2 := dl e.1 e.2 (show (0 : Int) < 3600 by decide)
  have l1 := nm_len20 e2.1 e2.2
  have m1 := ml (a := q.1 / q.2 / rate / 60) (show (0 : Int) < 60 by decide)
  have m2 := ml (a := q.1 / q.2 / rate) (show (0 : Int) < 60 by decide)
  have m3 := ml (a := q.1 / q.2) h1
  have t1 := two_len m1.1 (by omega)
  have t2 := two_len m2.1 (by omega)
  have t3 := two_len m3.1 (by omega)
  unfold clockH
  simp only [List.length_append, List.length_cons, List.length_nil]
  omega
theorem clockL_len {q : Fr} {rate : Int} (h : Wr q) (h1 : 0 < rate) (h2 : rate ≤ 1000) : (clockL q rate).length ≤ 248 := by
  have a := clockH_len h h1 h2
  have b := h.l2
  have c := h.l3
  unfold clockL
  split
  · omega
  · simp only [List.length_append, List.length_cons, List.length_nil]
    omega
end Dv

namespace Dv
open PySem PySem.Spec PyProof.Rows L2
/-! ### what texts are read to -/
def ofN (o : Option Nat) (om : Om) : FR := match o with
  | some n => .ok (.int (n : Int)) om
  | none => .xc ⟨"BadTime", []⟩ om
theorem numV_lt {l : List Nat} {n : Nat} (h : numV l = some n) : n < 1000000000 := by
  unfold numV at h
  split at h
  · cases h
  · rename_i hn
    cases h
    have h9 : l.length ≤ 9 := Nat.le_of_not_lt fun z => hn (.inr (.inl z))
    have hd : ∀ c ∈ l, c ≤ 57 := fun c hc => by
      have ha : l.all isDig = true := by
        cases ha : l.all isDig
        · exact absurd (.inr (.inr (.inr ha))) hn
        · rfl
      have := List.all_eq_true.mp ha c hc
      unfold isDig at this
      simp at this
      exact this.2
    have gen : ∀ (l : List Nat) (a : Nat), (∀ c ∈ l, c ≤ 57) → l.foldl (fun acc c => acc * 10 + (c - 48)) a < (a + 1) * 10 ^ l.length := by
      intro l
      induction l with
      | nil => intro a _; simp
      | cons c r ih =>
        intro a hc
        rw [List.foldl_cons]
        have h1 := ih (a * 10 + (c - 48)) fun x hx => hc x (by simp [hx])
        have h2 := hc c (by simp)
        refine Nat.lt_of_lt_of_le h1 ?_
        rw [List.length_cons, Nat.pow_succ, Nat.mul_comm (10 ^ r.length) 10, ← Nat.mul_assoc]
        exact Nat.mul_le_mul_right _ (by omega)
    have := gen l 0 hd
    refine Nat.lt_of_lt_of_le this ?_
    rw [Nat.zero_add, Nat.one_mul]
    exact Nat.pow_le_pow_right (by decide) h9
def restV (l : List Nat) : Option Fr := match TL.par [47] [] l with
  | none => none
  | some (a, b) => match numV a, numV b with
    | some p, some q => if p = 0 ∨ q ≤ p ∨ mk p q ≠ ((p : Int), (q : Int)) then none else some ((p : Int), (q : Int))
    | _, _ => none
def ofF (o : Option Fr) (om : Om) : FR := match o with
  | some q => .ok (encF q) om
  | none => .xc ⟨"BadTime", []⟩ om
theorem numV_nil : numV [] = none := rfl
theorem par_len {s : Nat} {l a b : List Nat} (h : TL.par [s] [] l = some (a, b)) : a.length + b.length + 1 = l.length := by
  rcases par1 s l [] with ⟨_, h2⟩ | ⟨a', b', _, h2, h3⟩
  · rw [h] at h2; cases h2
  · rw [h] at h3
    injection h3 with h3
    injection h3 with h4 h5
    subst h4 h5
    rw [h2]
    simp
    omega
theorem restV_bd {l : List Nat} {r : Fr} (h : restV l = some r) : Bd 30 r ∧ 0 < r.1 ∧ r.1 < r.2 ∧ r.2 < 1000000000 ∧ mk r.1 r.2 = r := by
  unfold restV at h
  split at h
  · cases h
  · rename_i a b e
    split at h
    · rename_i p q e1 e2
      have hp := numV_lt e1
      have hq := numV_lt e2
      split at h
      · cases h
      · rename_i hn
        cases h
        have p6 : (2 : Nat) ^ 30 = 1073741824 := by decide
        have h0 : p ≠ 0 := fun z => hn (.inl z)
        have h1 : ¬ q ≤ p := fun z => hn (.inr (.inl z))
        have h2 : mk p q = ((p : Int), (q : Int)) := Classical.byContradiction fun z => hn (.inr (.inr z))
        exact ⟨⟨by show (0 : Int) < q; omega, by show (p : Int).natAbs < _; omega, by show (q : Int).natAbs < _; omega⟩, by show (0 : Int) < p; omega, by show (p : Int) < q; omega, by show (q : Int) < _; omega, h2⟩
    · cases h
def mixV (l : List Nat) : Option Fr := match TL.par [32] [] l with
  | none => (numV l).map fun n => ((n : Int), 1)
  | some (a, b) => match numV a, restV b with
    | some n, some r => some (fsum ((n : Int), 1) r)
    | _, _ => none
theorem bd_num {n : Nat} (h : n < 1000000000) : Bd 30 ((n : Int), 1) := by
  have p6 : (2 : Nat) ^ 30 = 1073741824 := by decide
  exact ⟨by show (0 : Int) < 1; omega, by show (n : Int).natAbs < _; omega, by show (1 : Int).natAbs < _; omega⟩
theorem mixV_bd {l : List Nat} {r : Fr} (h : mixV l = some r) : Bd 61 r := by
  unfold mixV at h
  split at h
  · cases en : numV l with
    | none => rw [en] at h; cases h
    | some n => rw [en] at h; cases h; exact (bd_num (numV_lt en)).mono (by decide)
  · split at h
    · rename_i e1 e2
      cases h
      exact (bd_sum (bd_num (numV_lt e1)) (restV_bd e2).1).mono (by decide)
    · cases h
def figV (l : List Nat) : Option Nat := if (2 < l.length ∧ l.head? = some 48) ∨ l.length < 2 then none else numV (if l.dropWhile (fun c => decide (c = 48)) = [] then [48] else l.dropWhile fun c => decide (c = 48))
def clockF (rate : Int) (h m s f : Nat) : Option Int := if 60 ≤ m ∨ 60 ≤ s ∨ rate ≤ (f : Int) then none else some ((((h : Int) * 60 + m) * 60 + s) * rate + f)
def clockP (rate : Int) : List (List Nat) → Option Int
  | [a, b, c, d] => (numV a).bind fun h => (figV b).bind fun m => (figV c).bind fun s => (figV d).bind fun f => clockF rate h m s f
  | _ => none
def clockV (l : List Nat) (rate : Int) : Option Int := clockP rate (TL.spl [58] 0 [] l)
theorem clockP_ne {rate : Int} : ∀ {ps : List (List Nat)}, ps.length ≠ 4 → clockP rate ps = none
  | [], _ => rfl
  | [_], _ => rfl
  | [_, _], _ => rfl
  | [_, _, _], _ => rfl
  | [_, _, _, _], h => absurd rfl h
  | _ :: _ :: _ :: _ :: _ :: _, _ => rfl
theorem clockP_some {rate n : Int} {ps : List (List Nat)} (e : clockP rate ps = some n) : ∃ a b c d h m s f, ps = [a, b, c, d] ∧ numV a = some h ∧ figV b = some m ∧ figV c = some s ∧ figV d = some f ∧ m < 60 ∧ s < 60 ∧ (f : Int) < rate ∧ n = (((h : Int) * 60 + m) * 60 + s) * rate + f := by
  by_cases h4 : ps.length = 4
  · match ps, h4, e with
    | [a, b, c, d], _, e =>
      unfold clockP at e
      obtain ⟨h, e1, e⟩ := Option.bind_eq_some_iff.mp e
      obtain ⟨m, e2, e⟩ := Option.bind_eq_some_iff.mp e
      obtain ⟨s, e3, e⟩ := Option.bind_eq_some_iff.mp e
      obtain ⟨f, e4, e⟩ := Option.bind_eq_some_iff.mp e
      unfold clockF at e
      split at e
      · cases e
      · rename_i hn
        cases e
        exact ⟨a, b, c, d, h, m, s, f, rfl, e1, e2, e3, e4, Nat.lt_of_not_le fun z => hn (.inl z), Nat.lt_of_not_le fun z => hn (.inr (.inl z)), Int.lt_of_not_ge fun z => hn (.inr (.inr z)), rfl⟩
  · rw [clockP_ne h4] at e
    cases e
theorem dw_len (l : List Nat) : (l.dropWhile fun c => decide (c = 48)).length ≤ l.length := by
  induction l with
  | nil => simp
  | cons c r ih =>
    rw [List.dropWhile_cons]
    split
    · simp; omega
    · simp
def ofI (o : Option Int) (om : Om) : FR := match o with
  | some n => .ok (.int n) om
  | none => .xc ⟨"BadTime", []⟩ om
theorem spl_len (s : Nat) : ∀ (l acc p : List Nat), p ∈ TL.spl [s] 0 acc l → p.length ≤ acc.length + l.length
  | [], acc, p, h => by
    rw [TL.spl_nil] at h
    simp only [List.mem_cons, List.not_mem_nil, or_false] at h
    rw [h]; simp
  | c :: r, acc, p, h => by
    cases hp : TL.pre [s] (c :: r)
    · rw [TL.spl_miss hp] at h
      have := spl_len s r (acc ++ [c]) p h
      simp at this ⊢
      omega
    · rw [TL.spl_hit hp] at h
      rcases List.mem_cons.mp h with rfl | h
      · omega
      · have := spl_len s r [] p h
        simp at this ⊢
        omega
theorem figV_lt {p : List Nat} {n : Nat} (h : figV p = some n) : n < 1000000000 := by
  unfold figV at h
  split at h
  · cases h
  · exact numV_lt h
def timeV (l : List Nat) (rate : Int) : Option Fr :=
  if l.getLast? = some 102 then mixV l.dropLast
  else if l.getLast? = some 115 then (mixV l.dropLast).map fun q => fmul q (rate, 1)
  else match TL.par [32] [] l with
    | none => (clockV l rate).map fun n => (n, 1)
    | some (a, b) => match clockV a rate, restV b with
      | some n, some r => some (fsum (n, 1) r)
      | _, _ => none
theorem clockV_lt {l : List Nat} {rate n : Int} (h : clockV l rate = some n) (hr : 0 ≤ rate ∧ rate ≤ 1000) : 0 ≤ n ∧ n < 36000000000000000 := by
  obtain ⟨a, b, c, d, hh, m, s, f, _, e1, e2, e3, e4, k1, k2, k3, rfl⟩ := clockP_some h
  have := numV_lt e1
  have b1 : 0 ≤ ((hh : Int) * 60 + m) * 60 + s := by omega
  have b2 : ((hh : Int) * 60 + m) * 60 + s ≤ 3600000000000 := by omega
  have b3 : 0 ≤ (((hh : Int) * 60 + m) * 60 + s) * rate := Int.mul_nonneg b1 hr.1
  have b4 : (((hh : Int) * 60 + m) * 60 + s) * rate ≤ 3600000000000 * 1000 := Int.mul_le_mul b2 hr.2 hr.1 (by decide)
  omega
theorem last_or (l : List Nat) : l = [] ∨ ∃ a c, l = a ++ [c] := by
  by_cases hn : l = []
  · exact .inl hn
  · exact .inr ⟨l.dropLast, l.getLast hn, (List.dropLast_concat_getLast hn).symm⟩
theorem timeV_snoc (a : List Nat) (c : Nat) (rate : Int) : timeV (a ++ [c]) rate = if c = 102 then mixV a else if c = 115 then (mixV a).map fun q => fmul q (rate, 1) else match TL.par [32] [] (a ++ [c]) with
    | none => (clockV (a ++ [c]) rate).map fun n => (n, 1)
    | some (x, y) => match clockV x rate, restV y with
      | some n, some r => some (fsum (n, 1) r)
      | _, _ => none := by
  unfold timeV
  simp
theorem bd_clk {n : Int} (h : 0 ≤ n ∧ n < 36000000000000000) : Bd 60 (n, 1) := by
  have p6 : (2 : Nat) ^ 60 = 1152921504606846976 := by decide
  exact ⟨by show (0 : Int) < 1; omega, by show n.natAbs < _; omega, by show (1 : Int).natAbs < _; omega⟩
end Dv

namespace Dv
open PySem PySem.Spec PyProof.Rows L2
/-! ### what is written is read -/
theorem nm_dig (n : Int) : (nm n).all isDig = true := List.all_eq_true.mpr fun c hc => by
  have := TL.numL_digits n.toNat c hc
  unfold isDig
  simp only [Bool.and_eq_true, decide_eq_true_eq]
  exact this
theorem nm_ne (n : Int) : nm n ≠ [] := TL.numL_ne _
theorem nm_free {n : Int} {s : Nat} (h : s < 48 ∨ 57 < s) : s ∉ nm n := TL.numL_free h
theorem numL_head {n : Nat} (h : 0 < n) : (TL.numL n).head? ≠ some 48 := by
  induction n using Nat.strongRecOn with
  | _ n ih =>
    by_cases h9 : n < 10
    · rw [TL.numL_lt h9]
      simp
      omega
    · rw [TL.numL_step (by omega)]
      have := ih (n / 10) (by omega) (by omega)
      have hn := TL.numL_ne (n / 10)
      cases e : TL.numL (n / 10) with
      | nil => exact absurd e hn
      | cons c r => rw [e] at this; simpa using this
theorem numV_nm {n : Int} (h0 : 0 ≤ n) (h : n < 1000000000) : numV (nm n) = some n.toNat := by
  have l9 := nm_len9 h0 h
  have hn := nm_ne n
  unfold numV
  rw [if_neg]
  · rw [show NumText.digitsVal (nm n) = n.toNat from TL.numL_val _]
  · rintro (z | z | z | z)
    · exact hn (List.eq_nil_of_length_eq_zero z)
    · omega
    · by_cases h1 : n.toNat < 10
      · have : nm n = [48 + n.toNat] := TL.numL_lt h1
        rw [this] at z
        simp at z
      · exact numL_head (n := n.toNat) (by omega) z.1
    · rw [nm_dig] at z; cases z
theorem two_dig (n : Int) : (two n).all isDig = true := by
  unfold two
  split
  · rw [List.all_append, nm_dig]; rfl
  · exact nm_dig n
theorem two_free {n : Int} {s : Nat} (h : s < 48 ∨ 57 < s) : s ∉ two n := by
  unfold two
  split
  · simp only [List.mem_append, List.mem_cons, List.not_mem_nil, or_false]
    rintro (z | z)
    · omega
    · exact nm_free h z
  · exact nm_free h
theorem dw_head {l : List Nat} (h : l.head? ≠ some 48) : l.dropWhile (fun c => decide (c = 48)) = l := by
  cases l with
  | nil => rfl
  | cons c r =>
    rw [List.dropWhile_cons, if_neg]
    simpa using h
theorem figV_two {n : Int} (h0 : 0 ≤ n) (h : n < 1000000000) : figV (two n) = some n.toNat := by
  unfold two
  by_cases h1 : n < 10
  · rw [if_pos h1]
    have e : nm n = [48 + n.toNat] := TL.numL_lt (by omega)
    rw [e]
    unfold figV
    rw [if_neg (by simp)]
    by_cases hz : n.toNat = 0
    · rw [hz]; rfl
    · have e2 : ([48] ++ [48 + n.toNat]).dropWhile (fun c => decide (c = 48)) = [48 + n.toNat] := by
        show List.dropWhile _ (48 :: [48 + n.toNat]) = _
        rw [List.dropWhile_cons_of_pos (by simp), List.dropWhile_cons_of_neg (by
          rw [decide_eq_true_eq]
          omega)]
      rw [e2, if_neg (by simp), ← e, numV_nm h0 h]
  · rw [if_neg h1]
    have hh := numL_head (n := n.toNat) (by omega)
    have e2 : (nm n).dropWhile (fun c => decide (c = 48)) = nm n := dw_head hh
    have l2 : ¬ (nm n).length < 2 := by
      have : nm n = TL.numL (n.toNat / 10) ++ [48 + n.toNat % 10] := TL.numL_step (by omega)
      rw [this]
      have := TL.numL_ne (n.toNat / 10)
      cases e : TL.numL (n.toNat / 10) with
      | nil => exact absurd e this
      | cons c r => simp
    unfold figV
    rw [if_neg (fun z => z.elim (fun z => hh z.2) l2), e2, if_neg (nm_ne n), numV_nm h0 h]
/-- a fraction that can be written and read -/
structure Rd (q : Fr) : Prop where
  cn : Cn q
  a : 0 ≤ q.1
  b : q.1 / q.2 < 1000000000
  d : q.2 < 1000000000
theorem mk_cop {t b : Int} (hb : 0 < b) (h : Int.gcd t b = 1) : mk t b = (t, b) := by
  unfold mk gN'
  rw [if_neg (by omega), h]
  simp
theorem rest_nm {q : Fr} (h : Rd q) (h0 : q.1 % q.2 ≠ 0) : restV (nm (q.1 % q.2) ++ 47 :: nm q.2) = some (q.1 % q.2, q.2) := by
  have hc := h.cn.1
  have m := ml (a := q.1) hc
  have hd := h.d
  have g : Int.gcd (q.1 % q.2) q.2 = 1 := by
    have d1 : ((Int.gcd (q.1 % q.2) q.2 : Nat) : Int) ∣ q.1 % q.2 := Int.gcd_dvd_left _ _
    have d2 : ((Int.gcd (q.1 % q.2) q.2 : Nat) : Int) ∣ q.2 := Int.gcd_dvd_right _ _
    generalize Int.gcd (q.1 % q.2) q.2 = k at *
    have d3 : (k : Int) ∣ q.1 := by
      rw [← Int.mul_ediv_add_emod q.1 q.2]
      exact Int.dvd_add (Int.dvd_mul_of_dvd_left d2) d1
    have d4 : k ∣ Int.gcd q.1 q.2 := Nat.dvd_gcd (Int.natAbs_dvd_natAbs.mpr d3) (Int.natAbs_dvd_natAbs.mpr d2)
    rw [h.cn.2] at d4
    exact Nat.dvd_one.mp d4
  unfold restV
  rw [par1_app (nm_free (by decide))]
  dsimp only
  rw [numV_nm m.1 (by omega), numV_nm (by omega) hd]
  dsimp only
  have e1 : (((q.1 % q.2).toNat : Nat) : Int) = q.1 % q.2 := by omega
  have e2 : ((q.2.toNat : Nat) : Int) = q.2 := by omega
  rw [e1, e2, mk_cop hc g, if_neg]
  rintro (z | z | z)
  · omega
  · omega
  · exact z rfl
theorem sum_rest {q : Fr} (h : Rd q) : fsum (q.1 / q.2, 1) (q.1 % q.2, q.2) = q := by
  have hc := h.cn.1
  unfold fsum
  have e : (q.1 / q.2) * q.2 + q.1 % q.2 * 1 = q.1 := by rw [Int.mul_one, Int.mul_comm]; exact Int.mul_ediv_add_emod q.1 q.2
  show mk ((q.1 / q.2) * q.2 + q.1 % q.2 * 1) (1 * q.2) = q
  rw [e, Int.one_mul, mk_cop hc h.cn.2]
theorem cn_one {q : Fr} (h : Cn q) (h0 : q.1 % q.2 = 0) : q.2 = 1 := by
  have d : q.2 ∣ q.1 := Int.dvd_of_emod_eq_zero h0
  have g := h.2
  have := h.1
  have e : q.2.natAbs ∣ Int.gcd q.1 q.2 := Nat.dvd_gcd (Int.natAbs_dvd_natAbs.mpr d) (Nat.dvd_refl _)
  rw [g] at e
  have := Nat.dvd_one.mp e
  omega
theorem mixV_mixL {q : Fr} (h : Rd q) : mixV (mixL q) = some q := by
  have hc := h.cn.1
  have v0 : 0 ≤ q.1 / q.2 := Int.ediv_nonneg h.a (by omega)
  unfold mixL mixV
  by_cases h0 : q.1 % q.2 = 0
  · rw [if_pos h0, par1_none (nm_free (by decide))]
    dsimp only
    rw [numV_nm v0 h.b]
    have e := cn_one h.cn h0
    have e1 : (((q.1 / q.2).toNat : Nat) : Int) = q.1 := by rw [e, Int.ediv_one]; have := h.a; omega
    show some ((((q.1 / q.2).toNat : Nat) : Int), (1 : Int)) = some q
    rw [e1, ← e]
  · rw [if_neg h0]
    have e : (((nm (q.1 / q.2) ++ [32]) ++ nm (q.1 % q.2)) ++ [47]) ++ nm q.2 = nm (q.1 / q.2) ++ 32 :: (nm (q.1 % q.2) ++ 47 :: nm q.2) := by simp
    rw [e, par1_app (nm_free (by decide))]
    dsimp only
    rw [numV_nm v0 h.b, rest_nm h h0]
    dsimp only
    have e1 : (((q.1 / q.2).toNat : Nat) : Int) = q.1 / q.2 := by omega
    rw [e1, sum_rest h]
theorem mix_last (q : Fr) (c : Nat) : (mixL q ++ [c]).getLast? = some c ∧ (mixL q ++ [c]).dropLast = mixL q := by simp
theorem timeV_f {q : Fr} (h : Rd q) (rate : Int) : timeV (mixL q ++ [102]) rate = some q := by
  unfold timeV
  rw [(mix_last q 102).1, (mix_last q 102).2, if_pos rfl, mixV_mixL h]
theorem mul_cop {q : Fr} {rate : Int} (h : Cn q) (hr : 0 < rate) : fmul (mk q.1 (q.2 * rate)) (rate, 1) = q := by
  have hc := h.1
  have hm : 0 < q.2 * rate := Int.mul_pos hc hr
  have mp := (mk_den (t := q.1) (b := q.2 * rate) (by omega)).1
  refine cn_ext (cn_mul mp (by show (0 : Int) < 1; decide)) h ?_
  have c1 := cast_ne (show q.2 ≠ 0 by omega)
  have c2 := cast_ne (show rate ≠ 0 by omega)
  rw [val_mul mp (by show (0 : Int) < 1; decide), val_mk (by omega), val_int1]
  unfold val
  rw [Rat.intCast_mul]
  grind
theorem timeV_s {q : Fr} {rate : Int} (hq : Cn q) (hr : 0 < rate) (h : Rd (mk q.1 (q.2 * rate))) : timeV (mixL (mk q.1 (q.2 * rate)) ++ [115]) rate = some q := by
  unfold timeV
  rw [(mix_last _ 115).1, (mix_last _ 115).2, if_neg (by decide), if_pos rfl, mixV_mixL h]
  show some (fmul (mk q.1 (q.2 * rate)) (rate, 1)) = _
  rw [mul_cop hq hr]
/-! clocks -/
theorem clock_parts {q : Fr} {rate : Int} (hr : 0 < rate) (hr2 : rate ≤ 1000) (h : Rd q) : clockV (clockH q rate) rate = some (q.1 / q.2) := by
  have hc := h.cn.1
  have v0 : 0 ≤ q.1 / q.2 := Int.ediv_nonneg h.a (by omega)
  have hb := h.b
  have w := dl v0 hb hr
  have w2 := dl w.1 w.2 (show (0 : Int) < 3600 by decide)
  have m1 := ml (a := q.1 / q.2 / rate / 60) (show (0 : Int) < 60 by decide)
  have m2 := ml (a := q.1 / q.2 / rate) (show (0 : Int) < 60 by decide)
  have m3 := ml (a := q.1 / q.2) hr
  have e : clockH q rate = TL.joinL [58] [nm (q.1 / q.2 / rate / 3600), two (q.1 / q.2 / rate / 60 % 60), two (q.1 / q.2 / rate % 60), two (q.1 / q.2 % rate)] := by
    unfold clockH
    show _ = nm (q.1 / q.2 / rate / 3600) ++ ([58] ++ (two (q.1 / q.2 / rate / 60 % 60) ++ ([58] ++ (two (q.1 / q.2 / rate % 60) ++ ([58] ++ two (q.1 / q.2 % rate))))))
    simp only [List.append_assoc]
  unfold clockV
  rw [e, TL.spl_join (by simp) (by
    intro p hp
    simp only [List.mem_cons, List.not_mem_nil, or_false] at hp
    rcases hp with rfl | rfl | rfl | rfl
    · exact nm_free (by decide)
    · exact two_free (by decide)
    · exact two_free (by decide)
    · exact two_free (by decide))]
  show (numV _).bind _ = _
  rw [numV_nm w2.1 (by omega)]
  show (figV _).bind _ = _
  rw [figV_two m1.1 (by omega)]
  show (figV _).bind _ = _
  rw [figV_two m2.1 (by omega)]
  show (figV _).bind _ = _
  rw [figV_two m3.1 (by omega)]
  show clockF rate _ _ _ _ = _
  unfold clockF
  rw [if_neg (by omega)]
  congr 1
  have e1 : (((q.1 / q.2 / rate / 3600).toNat : Nat) : Int) = q.1 / q.2 / rate / 3600 := by omega
  have e2 : (((q.1 / q.2 / rate / 60 % 60).toNat : Nat) : Int) = q.1 / q.2 / rate / 60 % 60 := by omega
  have e3 : (((q.1 / q.2 / rate % 60).toNat : Nat) : Int) = q.1 / q.2 / rate % 60 := by omega
  have e4 : (((q.1 / q.2 % rate).toNat : Nat) : Int) = q.1 / q.2 % rate := by omega
  rw [e1, e2, e3, e4]
  generalize q.1 / q.2 = F at *
  have k1 : (F / rate / 3600 * 60 + F / rate / 60 % 60) * 60 + F / rate % 60 = F / rate := by omega
  rw [k1]
  rw [Int.mul_comm]
  exact Int.mul_ediv_add_emod F rate
theorem clockH_free {q : Fr} {rate : Int} {s : Nat} (h : s < 48 ∨ 58 < s) : s ∉ clockH q rate := by
  unfold clockH
  simp only [List.mem_append, List.mem_cons, List.not_mem_nil, or_false]
  rintro ((((((z | z) | z) | z) | z) | z) | z)
  all_goals first
    | exact nm_free (by omega) z
    | exact two_free (by omega) z
    | omega
theorem timeV_c {q : Fr} {rate : Int} (hr : 0 < rate) (hr2 : rate ≤ 1000) (h : Rd q) : timeV (clockL q rate) rate = some q := by
  have nl : ∀ (l : List Nat) (d : List Nat), d ≠ [] → (∀ c ∈ d, c ≠ 102 ∧ c ≠ 115) → (l ++ d).getLast? ≠ some 102 ∧ (l ++ d).getLast? ≠ some 115 := by
    intro l d hd hc
    have : (l ++ d).getLast? = d.getLast? := by
      rw [List.getLast?_append]
      cases e : d.getLast? with
      | none => exact absurd (List.getLast?_eq_none_iff.mp e) hd
      | some x => rfl
    rw [this]
    constructor
    · intro z; exact (hc 102 (List.mem_of_getLast? z)).1 rfl
    · intro z; exact (hc 115 (List.mem_of_getLast? z)).2 rfl
  have fr : ∀ n : Int, ∀ c ∈ nm n, c ≠ 102 ∧ c ≠ 115 := fun n c hc => ⟨fun z => nm_free (n := n) (s := 102) (by decide) (z ▸ hc), fun z => nm_free (n := n) (s := 115) (by decide) (z ▸ hc)⟩
  have fr2 : ∀ n : Int, ∀ c ∈ two n, c ≠ 102 ∧ c ≠ 115 := fun n c hc => ⟨fun z => two_free (n := n) (s := 102) (by decide) (z ▸ hc), fun z => two_free (n := n) (s := 115) (by decide) (z ▸ hc)⟩
  have tn : ∀ n : Int, two n ≠ [] := fun n => by unfold two; split <;> simp [nm_ne]
  have cp := clock_parts hr hr2 h
  have v0 : 0 ≤ q.1 / q.2 := Int.ediv_nonneg h.a (by have := h.cn.1; omega)
  unfold timeV clockL
  by_cases h0 : q.1 % q.2 = 0
  · rw [if_pos h0]
    have l : (clockH q rate).getLast? ≠ some 102 ∧ (clockH q rate).getLast? ≠ some 115 := nl (((nm (q.1 / q.2 / rate / 3600) ++ [58]) ++ two (q.1 / q.2 / rate / 60 % 60)) ++ [58] ++ two (q.1 / q.2 / rate % 60) ++ [58]) (two (q.1 / q.2 % rate)) (tn _) (fr2 _)
    rw [if_neg l.1, if_neg l.2, par1_none (clockH_free (by decide))]
    dsimp only
    rw [cp]
    have e := cn_one h.cn h0
    show some (q.1 / q.2, (1 : Int)) = some q
    have : q.1 / q.2 = q.1 := by rw [e, Int.ediv_one]
    rw [this, ← e]
  · rw [if_neg h0]
    have l := nl (((clockH q rate ++ [32]) ++ nm (q.1 % q.2)) ++ [47]) (nm q.2) (nm_ne _) (fr _)
    rw [if_neg l.1, if_neg l.2]
    have e : (((clockH q rate ++ [32]) ++ nm (q.1 % q.2)) ++ [47]) ++ nm q.2 = clockH q rate ++ 32 :: (nm (q.1 % q.2) ++ 47 :: nm q.2) := by simp
    rw [e, par1_app (clockH_free (by decide))]
    dsimp only
    rw [cp, rest_nm h h0]
    dsimp only
    rw [sum_rest h]
end Dv

namespace Dv
open PySem PySem.Spec PyProof.Rows L2
/-! ### comprehensions, any target -/
theorem goC_gen {G : UG} {te : UE} {vs : List Nat} {ω : Om} {ρ : Rho} (f : D → D) (r : D → Rho) : ∀ (ds acc : List D), (∀ d ∈ ds, G d ρ = some (r d) ∧ te (r d) ω = .ok (f d) (r d) ω ∧ clrs (r d) vs = ρ) → acc.length + ds.length ≤ big → goC G uYes te vs ds acc ρ ω = .ok (acc ++ ds.map f) ρ ω
  | [], acc, _, _ => by unfold goC; simp
  | d :: ds, acc, h, hz => by
    obtain ⟨h1, h2, h3⟩ := h d (by simp)
    simp only [List.length_cons] at hz
    unfold goC
    rw [h1]
    simp only [uYes, if_true]
    rw [h2]
    dsimp only
    rw [if_pos (by omega), h3, goC_gen f r ds (acc ++ [f d]) (fun x hx => h x (by simp [hx])) (by simp; omega)]
    simp
theorem goC_filt {G : UG} {tt : UT} {te : UE} {vs : List Nat} {ω : Om} {ρ : Rho} (f : D → D) (p : D → Bool) (r : D → Rho) : ∀ (ds acc : List D), (∀ d ∈ ds, G d ρ = some (r d) ∧ tt (r d) ω = .ok (p d) (r d) ω ∧ te (r d) ω = .ok (f d) (r d) ω ∧ clrs (r d) vs = ρ) → acc.length + ds.length ≤ big → goC G tt te vs ds acc ρ ω = .ok (acc ++ (ds.filter p).map f) ρ ω
  | [], acc, _, _ => by unfold goC; simp
  | d :: ds, acc, h, hz => by
    obtain ⟨h1, h0, h2, h3⟩ := h d (by simp)
    simp only [List.length_cons] at hz
    unfold goC
    rw [h1]
    dsimp only
    rw [h0]
    dsimp only
    cases e : p d
    · rw [if_neg (by decide), h3, goC_filt f p r ds acc (fun x hx => h x (by simp [hx])) (by omega), List.filter_cons, e]
      simp
    · rw [if_pos rfl, h2]
      dsimp only
      rw [if_pos (by omega), h3, goC_filt f p r ds (acc ++ [f d]) (fun x hx => h x (by simp [hx])) (by simp; omega), List.filter_cons, e]
      simp
/-! ### small fractions -/
structure Sm (q : Fr) : Prop where
  cn : Cn q
  a : 0 ≤ q.1
  b : q.1 < 1000000000000
  d : q.2 < 100000000
theorem Sm.bd {q : Fr} (h : Sm q) : Bd 40 q := by
  have p6 : (2 : Nat) ^ 40 = 1099511627776 := by decide
  have := h.a
  have := h.b
  have := h.d
  have := h.cn.1
  exact ⟨h.cn.1, by omega, by omega⟩
theorem Sm.wr {q : Fr} (h : Sm q) : Wr q := ⟨h.a, by have := h.b; omega, h.cn.1, by have := h.d; omega⟩
theorem val_floor {q : Fr} (hq : 0 < q.2) {n : Int} (h : val q < (n : Rat)) : q.1 / q.2 < n := by
  have h1 := cast_pos hq
  unfold val at h
  rw [Rat.div_lt_iff h1, ← Rat.intCast_mul, Rat.intCast_lt_intCast] at h
  exact Int.ediv_lt_of_lt_mul hq h
theorem Sm.rd {q : Fr} (h : Sm q) (hv : val q < ((1000000000 : Int) : Rat)) : Rd q := ⟨h.cn, h.a, val_floor h.cn.1 hv, by have := h.d; omega⟩
theorem Sm.nn {q : Fr} (h : Sm q) : 0 ≤ val q := (val_lt_of h.cn.1).mpr h.a
/-! ### cues -/
structure Cu where
  n : Int
  b : Fr
  e : Fr
  ws : List (List Nat × Fr)
@[reducible] def encW (w : List Nat × Fr) : D := .tup [tx w.1, encF w.2]
@[reducible] def encCu (c : Cu) : D := .tup [.int c.n, encF c.b, encF c.e, .lst (c.ws.map encW)]
structure Wd (w : List Nat) : Prop where
  l : 1 ≤ w.length
  m : w.length ≤ 20
  a : ∀ c ∈ w, 97 ≤ c ∧ c ≤ 122
structure CuOk (c : Cu) : Prop where
  n0 : 0 ≤ c.n
  n1 : c.n < 1000000000
  b : Sm c.b
  e : Sm c.e
  lt : val c.b < val c.e
  hi : val c.e < ((200000 : Int) : Rat)
  ws : ∀ w ∈ c.ws, Wd w.1 ∧ Sm w.2 ∧ val c.b ≤ val w.2 ∧ val w.2 < val c.e
  srt : c.ws.Pairwise fun x y => val x.2 ≤ val y.2
  len : c.ws.length ≤ 11
/-- the drawn words with their elevenths -/
@[reducible] def encA (x : Int × List Nat) : D := .tup [.int x.1, tx x.2]
def kA (x : Int × List Nat) : Int × Str := (x.1, ⟨x.2.toArray⟩)
theorem keys_A : ∀ l : List (Int × List Nat), keysIS (l.map encA) = some (l.map fun x => (kA x, encA x))
  | [] => rfl
  | x :: l => by
    rw [List.map_cons, List.map_cons]
    unfold keysIS
    rw [keys_A l]
    rfl
theorem fSort_A (l : List (Int × List Nat)) : fSortIS [.lst (l.map encA)] = some (.lst ((isort (fun x y => ltIS (kA x) (kA y)) l).map encA)) := by
  unfold fSortIS
  dsimp only
  rw [keys_A]
  show some (D.lst _) = _
  rw [← isort_map (fun (x y : (Int × Str) × D) => ltIS x.1 y.1) (fun x : Int × List Nat => (kA x, encA x)) l, List.map_map]
  rfl
theorem sort_ats (l : List (Int × List Nat)) : (isort (fun x y => ltIS (kA x) (kA y)) l).Pairwise (fun x y => x.1 ≤ y.1) := by
  refine (isort_srtd (swo_IS kA) l).imp fun {x y} h => ?_
  have h : ltIS (kA y) (kA x) = false := h
  unfold ltIS kA at h
  dsimp only at h
  by_cases e : y.1 = x.1
  · omega
  · rw [if_neg e] at h
    have := of_decide_eq_false h
    omega
/-! texts of drawn letters -/
theorem let_list {ys : List D} (h : ∀ y ∈ ys, ∃ c, y = tx [c] ∧ 97 ≤ c ∧ c ≤ 122) : ∃ cs : List Nat, ys = cs.map (fun c => tx [c]) ∧ cs.length = ys.length ∧ ∀ c ∈ cs, 97 ≤ c ∧ c ≤ 122 := by
  induction ys with
  | nil => exact ⟨[], rfl, rfl, by simp⟩
  | cons y ys ih =>
    obtain ⟨c, rfl, h1⟩ := h y (by simp)
    obtain ⟨cs, e, l, h2⟩ := ih fun z hz => h z (by simp [hz])
    refine ⟨c :: cs, by rw [e]; rfl, by simp [l], fun x hx => ?_⟩
    rcases List.mem_cons.mp hx with rfl | hx
    · exact h1
    · exact h2 x hx
theorem joinL_nil : ∀ cs : List Nat, TL.joinL [] (cs.map fun c => [c]) = cs
  | [] => rfl
  | [_] => rfl
  | a :: b :: r => by
    show [a] ++ ([] ++ TL.joinL [] ((b :: r).map fun c => [c])) = _
    rw [joinL_nil (b :: r)]
    rfl
theorem lens_one : ∀ cs : List Nat, lens (cs.map fun c => [c]) = cs.length
  | [] => rfl
  | c :: cs => by
    have := lens_one cs
    unfold lens at this ⊢
    simp only [List.map_cons, List.sum_cons, List.length_cons, List.length_nil]
    omega
theorem fJoin_let {cs : List Nat} (h : cs.length ≤ 1000) : fJoin ⟨([] : List Nat).toArray⟩ (.lst (cs.map fun c => tx [c])) = some (tx cs) := by
  have := fJoin_tx (s := []) (ls := cs.map fun c => [c]) (by rw [lens_one]; simp; omega)
  rw [List.map_map, joinL_nil] at this
  exact this
theorem dIx_let {l : List Nat} {k : Int} (h0 : 0 ≤ k) (h1 : k < (l.length : Int)) (hl : l.length ≤ 1000) : ∃ c ∈ l, dIx (tx l) (.int k) = some (tx [c]) := by
  have hk : k.toNat < l.length := by omega
  refine ⟨l[k.toNat], List.getElem_mem hk, ?_⟩
  show (if (⟨l.toArray⟩ : Str).length ≤ big then (match atN l k with | some c => some (D.str ⟨#[c]⟩) | none => none) else none) = _
  rw [len_tx, if_pos (Nat.le_trans hl (by decide))]
  have e : atN l k = some l[k.toNat] := by
    unfold atN
    rw [if_pos h0]
    simp [hk]
  rw [e]
end Dv

namespace Dv
open PySem PySem.Spec PyProof.Rows L2
/-! ### bounds in numbers -/
structure Nb (A B : Nat) (q : Fr) : Prop where
  p : 0 < q.2
  n : q.1.natAbs ≤ A
  d : q.2.natAbs ≤ B
theorem nb_mk {A B : Nat} {t b : Int} (hb : b ≠ 0) (h1 : t.natAbs ≤ A) (h2 : b.natAbs ≤ B) : Nb A B (mk t b) := by
  obtain ⟨h, k, l⟩ := mk_den (t := t) hb
  exact ⟨h, Nat.le_trans l h1, Nat.le_trans k h2⟩
section
variable {A B C D : Nat} {p q : Fr} (h : Nb A B p) (k : Nb C D q)
include h k
theorem nb_sum : Nb (A * D + C * B) (B * D) (fsum p q) := nb_mk (pos_mul h.p k.p) (by
  refine Nat.le_trans (Int.natAbs_add_le _ _) ?_
  rw [Int.natAbs_mul, Int.natAbs_mul]
  exact Nat.add_le_add (Nat.mul_le_mul h.n k.d) (Nat.mul_le_mul k.n h.d)) (by rw [Int.natAbs_mul]; exact Nat.mul_le_mul h.d k.d)
theorem nb_sub : Nb (A * D + C * B) (B * D) (fsub p q) := nb_mk (pos_mul h.p k.p) (by
  refine Nat.le_trans (Int.natAbs_sub_le _ _) ?_
  rw [Int.natAbs_mul, Int.natAbs_mul]
  exact Nat.add_le_add (Nat.mul_le_mul h.n k.d) (Nat.mul_le_mul k.n h.d)) (by rw [Int.natAbs_mul]; exact Nat.mul_le_mul h.d k.d)
theorem nb_mul : Nb (A * C) (B * D) (fmul p q) := nb_mk (pos_mul h.p k.p) (by rw [Int.natAbs_mul]; exact Nat.mul_le_mul h.n k.n) (by rw [Int.natAbs_mul]; exact Nat.mul_le_mul h.d k.d)
end
theorem Nb.bd {A B N : Nat} {q : Fr} (h : Nb A B q) (h1 : A < 2 ^ N) (h2 : B < 2 ^ N) : Bd N q := ⟨h.p, Nat.lt_of_le_of_lt h.n h1, Nat.lt_of_le_of_lt h.d h2⟩
theorem Nb.sm {A B : Nat} {q : Fr} (h : Nb A B q) (hc : Cn q) (hv : 0 ≤ val q) (h1 : A < 1000000000000) (h2 : B < 100000000) : Sm q := by
  have a := h.n
  have b := h.d
  have c := (val_lt_of h.p).mp hv
  have d := h.p
  exact ⟨hc, c, by omega, by omega⟩
structure Tg (m : Int) (q : Fr) : Prop where
  cn : Cn q
  a : 0 ≤ q.1
  b : q.1 < m
  d : q.2 ≤ 30
theorem Tg.nb {m : Int} {q : Fr} (h : Tg m q) : Nb m.toNat 30 q := by
  have := h.a
  have := h.b
  have := h.d
  have := h.cn.1
  exact ⟨h.cn.1, by omega, by omega⟩
theorem val_le_top {q : Fr} (h : 0 < q.2) (h0 : 0 ≤ q.1) : val q ≤ (q.1 : Rat) := by
  have h1 := cast_pos h
  have h2 : (1 : Rat) ≤ (q.2 : Rat) := by
    have : (1 : Int) ≤ q.2 := by omega
    exact Rat.intCast_le_intCast.mpr this
  have h3 : (0 : Rat) ≤ (q.1 : Rat) := by exact Rat.intCast_le_intCast.mpr h0
  unfold val
  rw [← Rat.not_lt, Rat.lt_div_iff h1, Rat.not_lt]
  have := Rat.mul_le_mul_of_nonneg_left h2 h3
  grind
structure CuN (b s e far : Fr) : Prop where
  pb : Sm b
  pe : Sm e
  ps : Bd 20 s
  pf : Bd 40 far
  lt : val b < val e
  hi : val e < ((200000 : Int) : Rat)
  w : ∀ a : Int, 0 ≤ a → a < 11 → Bd 20 (mk a 11) ∧ Sm (fsum b (fmul far (mk a 11))) ∧ val b ≤ val (fsum b (fmul far (mk a 11))) ∧ val (fsum b (fmul far (mk a 11))) < val e
  mono : ∀ a c : Int, 0 ≤ a → a ≤ c → c < 11 → val (fsum b (fmul far (mk a 11))) ≤ val (fsum b (fmul far (mk c 11)))
theorem cue_nums {b t : Fr} (hb : Tg 99999 b) (ht : Tg 25 t) : CuN b (fsum (1, 3) t) (fsum b (fsum (1, 3) t)) (fsub (fsum b (fsum (1, 3) t)) b) := by
  have n3 : Nb 1 3 ((1, 3) : Fr) := ⟨by decide, by decide, by decide⟩
  have nb := hb.nb
  have nt := ht.nb
  have ns := nb_sum n3 nt
  have ne := nb_sum nb ns
  have nf := nb_sub ne nb
  have v0 : 0 ≤ val b := (val_lt_of hb.cn.1).mpr hb.a
  have vt : 0 ≤ val t := (val_lt_of ht.cn.1).mpr ht.a
  have v3 : val ((1, 3) : Fr) = 1 / 3 := by unfold val; rfl
  have vs : val (fsum (1, 3) t) = 1 / 3 + val t := by rw [val_sum n3.p nt.p, v3]
  have ve : val (fsum b (fsum (1, 3) t)) = val b + (1 / 3 + val t) := by rw [val_sum nb.p ns.p, vs]
  have vf : val (fsub (fsum b (fsum (1, 3) t)) b) = 1 / 3 + val t := by rw [val_sub ne.p nb.p, ve]; grind
  have tb := val_le_top hb.cn.1 hb.a
  have tt := val_le_top ht.cn.1 ht.a
  have tb2 : (b.1 : Rat) ≤ ((99999 : Int) : Rat) := Rat.intCast_le_intCast.mpr (by have := hb.b; omega)
  have tt2 : (t.1 : Rat) ≤ ((25 : Int) : Rat) := Rat.intCast_le_intCast.mpr (by have := ht.b; omega)
  have c1 : ((99999 : Int) : Rat) = 99999 := rfl
  have c2 : ((25 : Int) : Rat) = 25 := rfl
  have c3 : ((200000 : Int) : Rat) = 200000 := rfl
  have key : ∀ a : Int, 0 ≤ a → a < 11 → Nb 10 11 (mk a 11) ∧ val (mk a 11) = (a : Rat) / 11 := fun a h0 h1 =>
    ⟨nb_mk (by decide) (by omega) (by decide), by rw [val_mk (by decide)]; rfl⟩
  have vw : ∀ a : Int, 0 ≤ a → a < 11 → val (fsum b (fmul (fsub (fsum b (fsum (1, 3) t)) b) (mk a 11))) = val b + (1 / 3 + val t) * ((a : Rat) / 11) := fun a h0 h1 => by
    obtain ⟨k1, k2⟩ := key a h0 h1
    rw [val_sum nb.p (nb_mul nf k1).p, val_mul nf.p k1.p, vf, k2]
  refine ⟨nb.sm hb.cn v0 (by decide) (by decide), ne.sm (cn_sum nb.p ns.p) (by rw [ve]; grind) (by decide) (by decide), ns.bd (by decide) (by decide), nf.bd (by decide) (by decide), by rw [ve]; grind, by rw [ve]; grind, fun a h0 h1 => ?_, fun a c h0 h1 h2 => ?_⟩
  · obtain ⟨k1, k2⟩ := key a h0 h1
    have nw := nb_sum nb (nb_mul nf k1)
    have a0 : (0 : Rat) ≤ (a : Rat) := by
      have : ((0 : Int) : Rat) ≤ (a : Rat) := Rat.intCast_le_intCast.mpr h0
      exact this
    have a1 : (a : Rat) ≤ 10 := by
      have : (a : Rat) ≤ ((10 : Int) : Rat) := Rat.intCast_le_intCast.mpr (by omega)
      exact this
    have f0 : (0 : Rat) < 1 / 3 + val t := by grind
    have g0 : (0 : Rat) ≤ (a : Rat) / 11 := by grind
    have g1 : (a : Rat) / 11 < 1 := by grind
    have m0 := Rat.mul_nonneg (Rat.le_of_lt f0) g0
    have m1 := Rat.mul_lt_mul_of_pos_left g1 f0
    refine ⟨k1.bd (by decide) (by decide), nw.sm (cn_sum nb.p (nb_mul nf k1).p) (by rw [vw a h0 h1]; grind) (by decide) (by decide), by rw [vw a h0 h1]; grind, by rw [vw a h0 h1, ve]; grind⟩
  · rw [vw a h0 (by omega), vw c (by omega) h2]
    have ac : (a : Rat) ≤ (c : Rat) := Rat.intCast_le_intCast.mpr h1
    have f0 : (0 : Rat) ≤ 1 / 3 + val t := by grind
    have g : (a : Rat) / 11 ≤ (c : Rat) / 11 := by grind
    have := Rat.mul_le_mul_of_nonneg_left g f0
    grind
end Dv

namespace Dv
open PySem PySem.Spec PyProof.Rows L2
variable (om : Om)
theorem see_bl (b : Bool) : see om (.bl b) = .bl b := rfl
theorem see_int (b : Int) : see om (.int b) = .int b := rfl
theorem see_non : see om .non = .non := rfl
theorem see_tup (b : List D) : see om (.tup b) = .tup b := rfl
theorem see_lst (b : List D) : see om (.lst b) = .lst b := rfl
theorem see_str (b : Str) : see om (.str b) = .str b := rfl
theorem see_loc {k : Nat} {ds : List D} (h : om[k]? = some (.lst ds)) : see om (.loc k) = .lst ds := by
  unfold see
  dsimp only
  rw [h]
theorem dIsi_b {T : String} {r : Bool} (b : Bool) (k : L2.kitB "bool" T = some r) : dIsi T (.bl b) = some (.bl r) := isi_of rfl k
/-- seen through the shared lists f is d -/
def seeD (om : Om) : Nat → D → D → Prop
  | _, f, .non => f = .non
  | _, f, .bl b => f = .bl b
  | _, f, .int b => f = .int b
  | _, f, .str b => f = .str b
  | n + 1, f, .tup ds => ∃ fs : List D, f = .tup fs ∧ fs.length = ds.length ∧ ∀ (k : Nat) (x : D), ds[k]? = some x → ∃ y, fs[k]? = some y ∧ seeD om n y x
  | n + 1, f, .lst ds => ∃ fs : List D, see om f = .lst fs ∧ fs.length = ds.length ∧ ∀ (k : Nat) (x : D), ds[k]? = some x → ∃ y, fs[k]? = some y ∧ seeD om n y x
  | _, _, _ => False
theorem seeD_refl : ∀ (n : Nat) (d : D), good n d = true → seeD om n d d
  | n, .non, _ => by unfold seeD; rfl
  | n, .bl b, _ => by unfold seeD; rfl
  | n, .int b, _ => by unfold seeD; rfl
  | n, .str b, _ => by unfold seeD; rfl
  | n + 1, .tup ds, h => by
    unfold good at h
    obtain ⟨h1, h2⟩ := Bool.and_eq_true_iff.mp h
    unfold seeD
    exact ⟨ds, rfl, rfl, fun k x e => ⟨x, e, seeD_refl n x (goods_get h2 e)⟩⟩
  | n + 1, .lst ds, h => by
    unfold good at h
    obtain ⟨h1, h2⟩ := Bool.and_eq_true_iff.mp h
    unfold seeD
    exact ⟨ds, rfl, rfl, fun k x e => ⟨x, e, seeD_refl n x (goods_get h2 e)⟩⟩
  | 0, .tup ds, h => by unfold good at h; cases h
  | 0, .lst ds, h => by unfold good at h; cases h
  | _, .obj _ _, h => by unfold good at h; cases h
  | _, .loc _, h => by unfold good at h; cases h
  | _, .frz _, h => by unfold good at h; cases h
end Dv

namespace Dv
open PySem PySem.Spec PyProof.Rows L2
local macro_rules | `(tactic| walk_at "ev") => `(tactic| try simp (disch := omega) only [sSeq_eq, seq_nx, seq_rt, seq_rto, seq_xc, seq_bk, seq_ct, seq_ite, sAsg, sAsgO, sExpr, sRet, sRetO, sRetN, sIf, sNext, uVar, uC, uUn, uBin, uB, uNot, uAnd, uOr, uTV, uAndV, uOrV, uNotV, uIf, uChain, uNil, uCons, uTup, uLst, uLstO, uFn, uFnO, uFz, uMv, uNew, uCall, uCallO, uCallN, uBinV, uBinW, uBinL, uMeO, uMeL, uFnV, sSetL, sAsgG, gN, gT2, gT3, gT4, iLst, iFn,   bind_ok, bind_xc, of_ok, of_xc, res_ok, res_xc, res0_ok, own_ok, own_xc, fr_nx, fr_rt, fr_rto, fr_xc, fo_rto, fo_xc, liftO_some, dBool_bl, items_lst, items_frz, ent, defU, defO, List.map_cons, List.map_nil, List.length_cons, List.length_nil, List.cons_append, List.nil_append, List.append_nil, List.replicate, List.getElem?_cons_zero, List.getElem?_cons_succ, List.set_cons_zero, List.set_cons_succ, Nat.zero_add, Nat.reduceAdd, Nat.reduceSub, Nat.reduceLeDiff,   le_big, lt_big, atN_zero, atN_one, atN_two, atN_three, setN_zero, setN_one, popAt_zero, len_zero, len_succ, dMul_r, dMul_l, dDiv_pos, dMod_pos, dAdd_int, dSub_int, dNeg_int, dLt_int, dLe_int, dGt_int, dGe_int, dEq_int, dNe_int, dEq_bl, dNe_bl, dEq_nil, dNe_nil, dIx_lst, dIx_tup, fAbs_int, fInt_bl, fInt_int, fLen_lst, fLen_frz, fLen_tup, ite_true, ite_false, if_true, if_false, Bool.not_true, Bool.not_false, decide_true, decide_false, Bool.true_eq_false, Bool.false_eq_true, reduceIte, reduceCtorEq, turn_nx, turn_ct, turn_bk, turn_rt, turn_rto, turn_xc, sFor_eq, goL_nil, eq_self])
local macro_rules | `(tactic| walk_at "evs") => `(tactic| try simp (disch := omega) only [sSeq_eq, seq_nx, seq_rt, seq_rto, seq_xc, seq_bk, seq_ct, seq_ite, sAsg, sAsgO, sExpr, sRet, sRetO, sRetN, sIf, sNext, uVar, uC, uUn, uBin, uB, uNot, uAnd, uOr, uTV, uAndV, uOrV, uNotV, uIf, uChain, uNil, uCons, uTup, uLst, uLstO, uFn, uFnO, uFz, uMv, uNew, uCall, uCallO, uCallN, uBinV, uBinW, uBinL, uMeO, uMeL, uFnV, sSetL, sAsgG, gN, gT2, gT3, gT4, iLst, iFn,   bind_ok, bind_xc, of_ok, of_xc, res_ok, res_xc, res0_ok, own_ok, own_xc, fr_nx, fr_rt, fr_rto, fr_xc, fo_rto, fo_xc, liftO_some, dBool_bl, items_lst, items_frz, ent, defU, defO, List.map_cons, List.map_nil, List.length_cons, List.length_nil, List.cons_append, List.nil_append, List.append_nil, List.replicate, List.getElem?_cons_zero, List.getElem?_cons_succ, List.set_cons_zero, List.set_cons_succ, Nat.zero_add, Nat.reduceAdd, Nat.reduceSub, Nat.reduceLeDiff,   le_big, lt_big, atN_zero, atN_one, atN_two, atN_three, setN_zero, setN_one, popAt_zero, len_zero, len_succ, dMul_r, dMul_l, dDiv_pos, dMod_pos, dAdd_int, dSub_int, dNeg_int, dLt_int, dLe_int, dGt_int, dGe_int, dEq_int, dNe_int, dEq_bl, dNe_bl, dEq_nil, dNe_nil, dIx_lst, dIx_tup, fAbs_int, fInt_bl, fInt_int, fLen_lst, fLen_frz, fLen_tup, ite_true, ite_false, if_true, if_false, Bool.not_true, Bool.not_false, decide_true, decide_false, Bool.true_eq_false, Bool.false_eq_true, reduceIte, reduceCtorEq, turn_nx, turn_ct, turn_bk, turn_rt, turn_rto, turn_xc, sFor_eq, goL_nil, eq_self, *])
local macro_rules | `(tactic| walk_at "evt") => `(tactic| try simp (disch := first | omega | (simp only [List.length_append, List.length_cons, List.length_nil, List.length_map]; omega)) only [sSeq_eq, seq_nx, seq_rt, seq_rto, seq_xc, seq_bk, seq_ct, seq_ite, sAsg, sAsgO, sExpr, sRet, sRetO, sRetN, sIf, sNext, uVar, uC, uUn, uBin, uB, uNot, uAnd, uOr, uTV, uAndV, uOrV, uNotV, uIf, uChain, uNil, uCons, uTup, uLst, uLstO, uFn, uFnO, uFz, uMv, uNew, uCall, uCallO, uCallN, uBinV, uBinW, uBinL, uMeO, uMeL, uFnV, sSetL, sAsgG, gN, gT2, gT3, gT4, iLst, iFn,   bind_ok, bind_xc, of_ok, of_xc, res_ok, res_xc, res0_ok, own_ok, own_xc, fr_nx, fr_rt, fr_rto, fr_xc, fo_rto, fo_xc, liftO_some, dBool_bl, items_lst, items_frz, ent, defU, defO, List.map_cons, List.map_nil, List.length_cons, List.length_nil, List.cons_append, List.nil_append, List.append_nil, List.replicate, List.getElem?_cons_zero, List.getElem?_cons_succ, List.set_cons_zero, List.set_cons_succ, Nat.zero_add, Nat.reduceAdd, Nat.reduceSub, Nat.reduceLeDiff,   le_big, lt_big, atN_zero, atN_one, atN_two, atN_three, setN_zero, setN_one, popAt_zero, len_zero, len_succ, dMul_r, dMul_l, dDiv_pos, dMod_pos, dAdd_int, dSub_int, dNeg_int, dLt_int, dLe_int, dGt_int, dGe_int, dEq_int, dNe_int, dEq_bl, dNe_bl, dEq_nil, dNe_nil, dIx_lst, dIx_tup, fAbs_int, fInt_bl, fInt_int, fLen_lst, fLen_frz, fLen_tup, ite_true, ite_false, if_true, if_false, Bool.not_true, Bool.not_false, decide_true, decide_false, Bool.true_eq_false, Bool.false_eq_true, reduceIte, reduceCtorEq, turn_nx, turn_ct, turn_bk, turn_rt, turn_rto, turn_xc, sFor_eq, goL_nil, eq_self, sRaise, gT2, gT3, gT4, sAsgG, uM1, uOrS, uSlS, uSlW, uCatV, uPart, uNoPart, iStrU, k_colon, k_blank, k_line, k_f, k_s, k_0, k_empty, k_digits, k_abc, k_alpha, k_cue, k_from, k_to, k_at, k_two, k_fto, k_nl, k_a1, dAdd_tx, fLen_tx, fStr_nat, dEq_tx, dNe_tx, dEq_txn, dNe_txn, len_tx, cutS_l1, cutS_b1, cutS_ln, cutS_bn, dIx_tx0, *])
local macro_rules | `(tactic| walk_at "evx") => `(tactic| try simp (disch := first | omega | (simp only [List.length_append, List.length_cons, List.length_nil, List.length_map]; omega)) only [sSeq_eq, seq_nx, seq_rt, seq_rto, seq_xc, seq_bk, seq_ct, seq_ite, sAsg, sAsgO, sExpr, sRet, sRetO, sRetN, sIf, sNext, uVar, uC, uUn, uBin, uB, uNot, uAnd, uOr, uTV, uAndV, uOrV, uNotV, uIf, uChain, uNil, uCons, uTup, uLst, uLstO, uFn, uFnO, uFz, uMv, uNew, uCall, uCallO, uCallN, uBinV, uBinW, uBinL, uMeO, uMeL, uFnV, sSetL, sAsgG, gN, gT2, gT3, gT4, iLst, iFn,   bind_ok, bind_xc, of_ok, of_xc, res_ok, res_xc, res0_ok, own_ok, own_xc, fr_nx, fr_rt, fr_rto, fr_xc, fo_rto, fo_xc, liftO_some, dBool_bl, items_lst, items_frz, ent, defU, defO, List.map_cons, List.map_nil, List.length_cons, List.length_nil, List.cons_append, List.nil_append, List.append_nil, List.replicate, List.getElem?_cons_zero, List.getElem?_cons_succ, List.set_cons_zero, List.set_cons_succ, Nat.zero_add, Nat.reduceAdd, Nat.reduceSub, Nat.reduceLeDiff,   le_big, lt_big, atN_zero, atN_one, atN_two, atN_three, setN_zero, setN_one, popAt_zero, len_zero, len_succ, dMul_r, dMul_l, dDiv_pos, dMod_pos, dAdd_int, dSub_int, dNeg_int, dLt_int, dLe_int, dGt_int, dGe_int, dEq_int, dNe_int, dEq_bl, dNe_bl, dEq_nil, dNe_nil, dIx_lst, dIx_tup, fAbs_int, fInt_bl, fInt_int, fLen_lst, fLen_frz, fLen_tup, ite_true, ite_false, if_true, if_false, Bool.not_true, Bool.not_false, decide_true, decide_false, Bool.true_eq_false, Bool.false_eq_true, reduceIte, reduceCtorEq, turn_nx, turn_ct, turn_bk, turn_rt, turn_rto, turn_xc, sFor_eq, goL_nil, eq_self, sRaise, gT2, gT3, gT4, sAsgG, see_bl, see_int, see_non, see_tup, see_lst, see_str, uBinX, uUnX, uFnX, uFld, sFldU, uMeth, uMethO, uMake, uCatX, uRev, uMethN, uFrzI, uSlV, uM1, uOrS, uSlS, uSlW, uCatV, uPart, uNoPart, iStrU, k_colon, k_blank, k_line, k_f, k_s, k_0, k_empty, k_digits, k_abc, k_alpha, k_cue, k_from, k_to, k_at, k_two, k_fto, k_nl, k_a1, dAdd_tx, fLen_tx, fStr_nat, dEq_tx, dNe_tx, dEq_txn, dNe_txn, len_tx, cutS_l1, cutS_b1, cutS_ln, cutS_bn, dIx_tx0, *])
/-! ### shows drawn, with common denominators -/
theorem dn_of {D : Nat} {q : Fr} (h : Cn q) (hd : q.2 ∣ (D : Int)) : Dn D q := by
  obtain ⟨k, hk⟩ := hd
  refine ⟨h, q.1 * k, ?_⟩
  have c0 := cast_ne (show q.2 ≠ 0 by have := h.1; omega)
  have e : (D : Rat) = (q.2 : Rat) * (k : Rat) := by
    have : ((D : Int) : Rat) = ((q.2 * k : Int) : Rat) := by rw [hk]
    rw [Rat.intCast_mul] at this
    exact this
  rw [e, Rat.intCast_mul]
  unfold val
  rw [Rat.div_def, ← Rat.mul_assoc, Rat.mul_assoc (q.1 : Rat), Rat.inv_mul_cancel _ c0]
  grind
@[reducible] def L30 : Nat := 2329089562800
theorem dvd_30 {d : Int} (h0 : 0 < d) (h1 : d ≤ 30) : d ∣ (L30 : Int) := by
  have : ∀ k : Fin 31, 0 < k.val → ((k.val : Nat) : Int) ∣ (L30 : Int) := by decide
  have := this ⟨d.toNat, by omega⟩ (by show 0 < d.toNat; omega)
  have e : ((d.toNat : Nat) : Int) = d := by omega
  rw [← e]
  exact this
theorem dvd_2520 {d : Int} (h0 : 0 < d) (h1 : d ≤ 9) : d ∣ ((2520 ^ 1 : Nat) : Int) := by
  have : ∀ k : Fin 10, 0 < k.val → ((k.val : Nat) : Int) ∣ ((2520 ^ 1 : Nat) : Int) := by decide
  have := this ⟨d.toNat, by omega⟩ (by show 0 < d.toNat; omega)
  have e : ((d.toNat : Nat) : Int) = d := by omega
  rw [← e]
  exact this
theorem rat_inv {t d : Int} (h1 : 0 < t) (h2 : 0 < d) : 1 / ((t : Rat) / (d : Rat)) = (d : Rat) / (t : Rat) := by
  simp only [Rat.div_def]
  rw [Rat.inv_mul_rev, Rat.inv_inv]
  grind
theorem px_mk {t d : Int} (h1 : 0 < t) (h2 : 0 < d) (h3 : t ≤ 9) (h4 : d ≤ 9) : Px 1 (mk t d) := by
  have v : val (mk t d) = (t : Rat) / (d : Rat) := val_mk (by omega)
  obtain ⟨kt, et⟩ := dvd_2520 h1 h3
  obtain ⟨kd, ed⟩ := dvd_2520 h2 h4
  have ct := cast_pos h1
  have cd := cast_pos h2
  have et' : ((2520 ^ 1 : Nat) : Rat) = (t : Rat) * (kt : Rat) := by
    have : (((2520 ^ 1 : Nat) : Int) : Rat) = ((t * kt : Int) : Rat) := by rw [et]
    rw [Rat.intCast_mul] at this
    exact this
  have ed' : ((2520 ^ 1 : Nat) : Rat) = (d : Rat) * (kd : Rat) := by
    have : (((2520 ^ 1 : Nat) : Int) : Rat) = ((d * kd : Int) : Rat) := by rw [ed]
    rw [Rat.intCast_mul] at this
    exact this
  have n9 : ((9 ^ 1 : Nat) : Rat) = ((9 : Int) : Rat) := rfl
  have cancel : ∀ {x y z : Rat}, 0 < y → x / y * (y * z) = x * z := fun {x y z} hy => by
    rw [Rat.div_def, Rat.mul_assoc, ← Rat.mul_assoc y⁻¹, Rat.inv_mul_cancel _ (by grind)]
    grind
  have le9 : ∀ {x y : Int}, 0 < y → 0 < x → x ≤ 9 → (x : Rat) / (y : Rat) ≤ ((9 : Int) : Rat) := fun {x y} hy hx h => by
    have cy := cast_pos hy
    rw [← Rat.not_lt, Rat.lt_div_iff cy, Rat.not_lt, ← Rat.intCast_mul]
    exact Rat.intCast_le_intCast.mpr (by omega)
  refine ⟨⟨mk_cn (by omega), ⟨t * kd, ?_⟩⟩, ⟨d * kt, ?_⟩, ?_, ?_, ?_⟩
  · rw [v, ed', cancel cd, Rat.intCast_mul]
  · rw [v, rat_inv h1 h2, et', cancel ct, Rat.intCast_mul]
  · rw [v]; exact div_pos' ct cd
  · rw [v, n9]; exact le9 h2 h1 h3
  · rw [v, rat_inv h1 h2, n9]; exact le9 h1 h2 h4
section
variable (rest : Om)
theorem cn_int (i : Int) : Cn (i, 1) := ⟨by show (0 : Int) < 1; decide, by show Int.gcd i 1 = 1; exact Int.gcd_one_right i⟩
theorem time_gen {m : Int} (b : Box) (h : 0 < m) (h2 : m ≤ 1000000) : ∃ q b', S_law_time [.loc 1, .int m] (bom b rest) = .ok (encF q) (bom b' rest) ∧ Tg m q := by
  have e1 := take_eq (m := m) b rest h (by omega)
  have e2 := take_eq (m := 2) (tkn m b) rest (by decide) (by decide)
  have e3 := take_eq (m := 6) (tkn 2 (tkn m b)) rest (by decide) (by decide)
  have e4 := take_eq (m := 30) (tkn 6 (tkn 2 (tkn m b))) rest (by decide) (by decide)
  have e5 := take_eq (m := 6) (tkn 6 (tkn 2 (tkn m b))) rest (by decide) (by decide)
  have b1 := tkv_nn (m := m) b h
  have c1 := tkv_lt (m := m) b h
  have b4 := tkv_nn (m := 30) (tkn 6 (tkn 2 (tkn m b))) (by decide)
  have c4 := tkv_lt (m := 30) (tkn 6 (tkn 2 (tkn m b))) (by decide)
  have b5 := tkv_nn (m := 6) (tkn 6 (tkn 2 (tkn m b))) (by decide)
  have c5 := tkv_lt (m := 6) (tkn 6 (tkn 2 (tkn m b))) (by decide)
  have p9 : (2 : Nat) ^ 6 ≤ 2 ^ 9000 := Nat.pow_le_pow_right (by decide) (by decide)
  have p6 : (2 : Nat) ^ 6 = 64 := by decide
  have fin : ∀ {d : Int}, 0 < d → d ≤ 30 → Tg m (mk (tkv m b) d) := fun {d} h3 h4 => by
    obtain ⟨k1, k2, k3⟩ := mk_den (t := tkv m b) (b := d) (by omega)
    have v := val_nn_mk h3 b1
    have := (val_lt_of k1).mp v
    exact ⟨mk_cn (by omega), this, by omega, by omega⟩
  have e6 := lfr_eq (t := tkv m b) (b := 1 + tkv 30 (tkn 6 (tkn 2 (tkn m b)))) (bom (tkn 30 (tkn 6 (tkn 2 (tkn m b)))) rest) (by omega) (by omega)
  have e7 := lfr_eq (t := tkv m b) (b := 1 + tkv 6 (tkn 6 (tkn 2 (tkn m b)))) (bom (tkn 6 (tkn 6 (tkn 2 (tkn m b)))) rest) (by omega) (by omega)
  by_cases h0 : tkv 2 (tkn m b) = 0
  · refine ⟨(tkv m b, 1), tkn 2 (tkn m b), ?_, ⟨cn_int _, b1, c1, by show (1 : Int) ≤ 30; decide⟩⟩
    have d0 : decide (tkv 2 (tkn m b) = 0) = true := decide_eq_true h0
    unfold S_law_time u_law_time
    clear b1 c1 b4 c4 b5 c5 p9 p6 fin e6 e7 h2 h0
    walk_at "evt"
  · have d0 : decide (tkv 2 (tkn m b) = 0) = false := decide_eq_false h0
    by_cases h1 : tkv 6 (tkn 2 (tkn m b)) = 1
    · have d1 : decide (tkv 6 (tkn 2 (tkn m b)) = 1) = true := decide_eq_true h1
      refine ⟨_, tkn 30 (tkn 6 (tkn 2 (tkn m b))), ?_, fin (show 0 < 1 + tkv 30 (tkn 6 (tkn 2 (tkn m b))) by omega) (by omega)⟩
      unfold S_law_time u_law_time
      clear b1 c1 b4 c4 b5 c5 p9 p6 fin e7 h2 h0 h1
      walk_at "evt"
    · have d1 : decide (tkv 6 (tkn 2 (tkn m b)) = 1) = false := decide_eq_false h1
      refine ⟨_, tkn 6 (tkn 6 (tkn 2 (tkn m b))), ?_, fin (show 0 < 1 + tkv 6 (tkn 6 (tkn 2 (tkn m b))) by omega) (by omega)⟩
      unfold S_law_time u_law_time
      clear b1 c1 b4 c4 b5 c5 p9 p6 fin e6 h2 h0 h1
      walk_at "evt"
end
theorem pace_px (b : Box) (rest : Om) : ∃ q b', S_law_pace [.loc 1] (bom b rest) = .ok (encF q) (bom b' rest) ∧ Px 1 q := by
  have e1 := take_eq (m := 9) b rest (by decide) (by decide)
  have e2 := take_eq (m := 9) (tkn 9 b) rest (by decide) (by decide)
  have e3 := take_eq (m := 4) (tkn 9 (tkn 9 b)) rest (by decide) (by decide)
  have b1 := tkv_nn (m := 9) b (by decide)
  have c1 := tkv_lt (m := 9) b (by decide)
  have b2 := tkv_nn (m := 9) (tkn 9 b) (by decide)
  have c2 := tkv_lt (m := 9) (tkn 9 b) (by decide)
  have b3 := tkv_nn (m := 4) (tkn 9 (tkn 9 b)) (by decide)
  have c3 := tkv_lt (m := 4) (tkn 9 (tkn 9 b)) (by decide)
  have p9 : (2 : Nat) ^ 4 ≤ 2 ^ 9000 := Nat.pow_le_pow_right (by decide) (by decide)
  have p6 : (2 : Nat) ^ 4 = 16 := by decide
  have e6 := lfr_eq (t := 1 + tkv 9 b) (b := 1 + tkv 9 (tkn 9 b)) (bom (tkn 9 (tkn 9 b)) rest) (by omega) (by omega)
  have g1 : Bd 4 (mk (1 + tkv 9 b) (1 + tkv 9 (tkn 9 b))) := bd_mk (by omega) (by omega) (by omega)
  have g2 : 0 < val (mk (1 + tkv 9 b) (1 + tkv 9 (tkn 9 b))) := val_pos_mk (by omega) (by omega)
  have hc : tkv 4 (tkn 9 (tkn 9 b)) = 0 ∨ tkv 4 (tkn 9 (tkn 9 b)) = 1 ∨ tkv 4 (tkn 9 (tkn 9 b)) = 2 ∨ tkv 4 (tkn 9 (tkn 9 b)) = 3 := by omega
  have w1 : ∀ t d : Int, 0 < t → 0 < d → t ≤ 9 → d ≤ 9 → Px 1 (mk t d) := fun t d h1 h2 h3 h4 => px_mk h1 h2 h3 h4
  have g3 := w1 (1 + tkv 9 b) (1 + tkv 9 (tkn 9 b)) (by omega) (by omega) (by omega) (by omega)
  have m1 : mk 1 1 = (1, 1) := mk_cop (by decide) (by decide)
  have m2 : mk 2 1 = (2, 1) := mk_cop (by decide) (by decide)
  have m3 : mk 1 2 = (1, 2) := mk_cop (by decide) (by decide)
  have w2 := w1 1 1 (by decide) (by decide) (by decide) (by decide)
  have w3 := w1 2 1 (by decide) (by decide) (by decide) (by decide)
  have w4 := w1 1 2 (by decide) (by decide) (by decide) (by decide)
  rw [m1] at w2
  rw [m2] at w3
  rw [m3] at w4
  clear b1 c1 b2 c2 b3 c3 p9 p6
  rcases hc with hc | hc | hc | hc
  · refine ⟨(1, 1), tkn 4 (tkn 9 (tkn 9 b)), ?_, w2⟩
    clear w1 g1 g2 g3 w2 w3 w4 m1 m2 m3
    unfold S_law_pace u_law_pace
    walk_at "evs"
  · refine ⟨(2, 1), tkn 4 (tkn 9 (tkn 9 b)), ?_, w3⟩
    clear w1 g1 g2 g3 w2 w3 w4 m1 m2 m3
    unfold S_law_pace u_law_pace
    walk_at "evs"
  · refine ⟨(1, 2), tkn 4 (tkn 9 (tkn 9 b)), ?_, w4⟩
    clear w1 g1 g2 g3 w2 w3 w4 m1 m2 m3
    unfold S_law_pace u_law_pace
    walk_at "evs"
  · refine ⟨_, tkn 4 (tkn 9 (tkn 9 b)), ?_, g3⟩
    clear w1 g1 g2 g3 w2 w3 w4 m1 m2 m3
    unfold S_law_pace u_law_pace
    walk_at "evs"
end Dv

namespace Dv
open PySem PySem.Spec PyProof.Rows L2
local macro_rules | `(tactic| walk_at "ev") => `(tactic| try simp (disch := omega) only [sSeq_eq, seq_nx, seq_rt, seq_rto, seq_xc, seq_bk, seq_ct, seq_ite, sAsg, sAsgO, sExpr, sRet, sRetO, sRetN, sIf, sNext, uVar, uC, uUn, uBin, uB, uNot, uAnd, uOr, uTV, uAndV, uOrV, uNotV, uIf, uChain, uNil, uCons, uTup, uLst, uLstO, uFn, uFnO, uFz, uMv, uNew, uCall, uCallO, uCallN, uBinV, uBinW, uBinL, uMeO, uMeL, uFnV, sSetL, sAsgG, gN, gT2, gT3, gT4, iLst, iFn,   bind_ok, bind_xc, of_ok, of_xc, res_ok, res_xc, res0_ok, own_ok, own_xc, fr_nx, fr_rt, fr_rto, fr_xc, fo_rto, fo_xc, liftO_some, dBool_bl, items_lst, items_frz, ent, defU, defO, List.map_cons, List.map_nil, List.length_cons, List.length_nil, List.cons_append, List.nil_append, List.append_nil, List.replicate, List.getElem?_cons_zero, List.getElem?_cons_succ, List.set_cons_zero, List.set_cons_succ, Nat.zero_add, Nat.reduceAdd, Nat.reduceSub, Nat.reduceLeDiff,   le_big, lt_big, atN_zero, atN_one, atN_two, atN_three, setN_zero, setN_one, popAt_zero, len_zero, len_succ, dMul_r, dMul_l, dDiv_pos, dMod_pos, dAdd_int, dSub_int, dNeg_int, dLt_int, dLe_int, dGt_int, dGe_int, dEq_int, dNe_int, dEq_bl, dNe_bl, dEq_nil, dNe_nil, dIx_lst, dIx_tup, fAbs_int, fInt_bl, fInt_int, fLen_lst, fLen_frz, fLen_tup, ite_true, ite_false, if_true, if_false, Bool.not_true, Bool.not_false, decide_true, decide_false, Bool.true_eq_false, Bool.false_eq_true, reduceIte, reduceCtorEq, turn_nx, turn_ct, turn_bk, turn_rt, turn_rto, turn_xc, sFor_eq, goL_nil, eq_self])
local macro_rules | `(tactic| walk_at "evs") => `(tactic| try simp (disch := omega) only [sSeq_eq, seq_nx, seq_rt, seq_rto, seq_xc, seq_bk, seq_ct, seq_ite, sAsg, sAsgO, sExpr, sRet, sRetO, sRetN, sIf, sNext, uVar, uC, uUn, uBin, uB, uNot, uAnd, uOr, uTV, uAndV, uOrV, uNotV, uIf, uChain, uNil, uCons, uTup, uLst, uLstO, uFn, uFnO, uFz, uMv, uNew, uCall, uCallO, uCallN, uBinV, uBinW, uBinL, uMeO, uMeL, uFnV, sSetL, sAsgG, gN, gT2, gT3, gT4, iLst, iFn,   bind_ok, bind_xc, of_ok, of_xc, res_ok, res_xc, res0_ok, own_ok, own_xc, fr_nx, fr_rt, fr_rto, fr_xc, fo_rto, fo_xc, liftO_some, dBool_bl, items_lst, items_frz, ent, defU, defO, List.map_cons, List.map_nil, List.length_cons, List.length_nil, List.cons_append, List.nil_append, List.append_nil, List.replicate, List.getElem?_cons_zero, List.getElem?_cons_succ, List.set_cons_zero, List.set_cons_succ, Nat.zero_add, Nat.reduceAdd, Nat.reduceSub, Nat.reduceLeDiff,   le_big, lt_big, atN_zero, atN_one, atN_two, atN_three, setN_zero, setN_one, popAt_zero, len_zero, len_succ, dMul_r, dMul_l, dDiv_pos, dMod_pos, dAdd_int, dSub_int, dNeg_int, dLt_int, dLe_int, dGt_int, dGe_int, dEq_int, dNe_int, dEq_bl, dNe_bl, dEq_nil, dNe_nil, dIx_lst, dIx_tup, fAbs_int, fInt_bl, fInt_int, fLen_lst, fLen_frz, fLen_tup, ite_true, ite_false, if_true, if_false, Bool.not_true, Bool.not_false, decide_true, decide_false, Bool.true_eq_false, Bool.false_eq_true, reduceIte, reduceCtorEq, turn_nx, turn_ct, turn_bk, turn_rt, turn_rto, turn_xc, sFor_eq, goL_nil, eq_self, *])
local macro_rules | `(tactic| walk_at "evt") => `(tactic| try simp (disch := first | omega | (simp only [List.length_append, List.length_cons, List.length_nil, List.length_map]; omega)) only [sSeq_eq, seq_nx, seq_rt, seq_rto, seq_xc, seq_bk, seq_ct, seq_ite, sAsg, sAsgO, sExpr, sRet, sRetO, sRetN, sIf, sNext, uVar, uC, uUn, uBin, uB, uNot, uAnd, uOr, uTV, uAndV, uOrV, uNotV, uIf, uChain, uNil, uCons, uTup, uLst, uLstO, uFn, uFnO, uFz, uMv, uNew, uCall, uCallO, uCallN, uBinV, uBinW, uBinL, uMeO, uMeL, uFnV, sSetL, sAsgG, gN, gT2, gT3, gT4, iLst, iFn,   bind_ok, bind_xc, of_ok, of_xc, res_ok, res_xc, res0_ok, own_ok, own_xc, fr_nx, fr_rt, fr_rto, fr_xc, fo_rto, fo_xc, liftO_some, dBool_bl, items_lst, items_frz, ent, defU, defO, List.map_cons, List.map_nil, List.length_cons, List.length_nil, List.cons_append, List.nil_append, List.append_nil, List.replicate, List.getElem?_cons_zero, List.getElem?_cons_succ, List.set_cons_zero, List.set_cons_succ, Nat.zero_add, Nat.reduceAdd, Nat.reduceSub, Nat.reduceLeDiff,   le_big, lt_big, atN_zero, atN_one, atN_two, atN_three, setN_zero, setN_one, popAt_zero, len_zero, len_succ, dMul_r, dMul_l, dDiv_pos, dMod_pos, dAdd_int, dSub_int, dNeg_int, dLt_int, dLe_int, dGt_int, dGe_int, dEq_int, dNe_int, dEq_bl, dNe_bl, dEq_nil, dNe_nil, dIx_lst, dIx_tup, fAbs_int, fInt_bl, fInt_int, fLen_lst, fLen_frz, fLen_tup, ite_true, ite_false, if_true, if_false, Bool.not_true, Bool.not_false, decide_true, decide_false, Bool.true_eq_false, Bool.false_eq_true, reduceIte, reduceCtorEq, turn_nx, turn_ct, turn_bk, turn_rt, turn_rto, turn_xc, sFor_eq, goL_nil, eq_self, sRaise, gT2, gT3, gT4, sAsgG, uM1, uOrS, uSlS, uSlW, uCatV, uPart, uNoPart, iStrU, k_colon, k_blank, k_line, k_f, k_s, k_0, k_empty, k_digits, k_abc, k_alpha, k_cue, k_from, k_to, k_at, k_two, k_fto, k_nl, k_a1, dAdd_tx, fLen_tx, fStr_nat, dEq_tx, dNe_tx, dEq_txn, dNe_txn, len_tx, cutS_l1, cutS_b1, cutS_ln, cutS_bn, dIx_tx0, *])
local macro_rules | `(tactic| walk_at "evx") => `(tactic| try simp (disch := first | omega | (simp only [List.length_append, List.length_cons, List.length_nil, List.length_map]; omega)) only [sSeq_eq, seq_nx, seq_rt, seq_rto, seq_xc, seq_bk, seq_ct, seq_ite, sAsg, sAsgO, sExpr, sRet, sRetO, sRetN, sIf, sNext, uVar, uC, uUn, uBin, uB, uNot, uAnd, uOr, uTV, uAndV, uOrV, uNotV, uIf, uChain, uNil, uCons, uTup, uLst, uLstO, uFn, uFnO, uFz, uMv, uNew, uCall, uCallO, uCallN, uBinV, uBinW, uBinL, uMeO, uMeL, uFnV, sSetL, sAsgG, gN, gT2, gT3, gT4, iLst, iFn,   bind_ok, bind_xc, of_ok, of_xc, res_ok, res_xc, res0_ok, own_ok, own_xc, fr_nx, fr_rt, fr_rto, fr_xc, fo_rto, fo_xc, liftO_some, dBool_bl, items_lst, items_frz, ent, defU, defO, List.map_cons, List.map_nil, List.length_cons, List.length_nil, List.cons_append, List.nil_append, List.append_nil, List.replicate, List.getElem?_cons_zero, List.getElem?_cons_succ, List.set_cons_zero, List.set_cons_succ, Nat.zero_add, Nat.reduceAdd, Nat.reduceSub, Nat.reduceLeDiff,   le_big, lt_big, atN_zero, atN_one, atN_two, atN_three, setN_zero, setN_one, popAt_zero, len_zero, len_succ, dMul_r, dMul_l, dDiv_pos, dMod_pos, dAdd_int, dSub_int, dNeg_int, dLt_int, dLe_int, dGt_int, dGe_int, dEq_int, dNe_int, dEq_bl, dNe_bl, dEq_nil, dNe_nil, dIx_lst, dIx_tup, fAbs_int, fInt_bl, fInt_int, fLen_lst, fLen_frz, fLen_tup, ite_true, ite_false, if_true, if_false, Bool.not_true, Bool.not_false, decide_true, decide_false, Bool.true_eq_false, Bool.false_eq_true, reduceIte, reduceCtorEq, turn_nx, turn_ct, turn_bk, turn_rt, turn_rto, turn_xc, sFor_eq, goL_nil, eq_self, sRaise, gT2, gT3, gT4, sAsgG, see_bl, see_int, see_non, see_tup, see_lst, see_str, uBinX, uUnX, uFnX, uFld, sFldU, uMeth, uMethO, uMake, uCatX, uRev, uMethN, uFrzI, uSlV, uM1, uOrS, uSlS, uSlW, uCatV, uPart, uNoPart, iStrU, k_colon, k_blank, k_line, k_f, k_s, k_0, k_empty, k_digits, k_abc, k_alpha, k_cue, k_from, k_to, k_at, k_two, k_fto, k_nl, k_a1, dAdd_tx, fLen_tx, fStr_nat, dEq_tx, dNe_tx, dEq_txn, dNe_txn, len_tx, cutS_l1, cutS_b1, cutS_ln, cutS_bn, dIx_tx0, *])
structure SxT (s : Sr) : Prop where
  e : Dn L30 s.e
  p : Px 1 s.p
  lt : val s.b < val s.e
structure SxN (n : Nat) (s : Sr) : Prop where
  b : Dn L30 s.b
  nb : 0 ≤ val s.b
  t : SxT s
  hi : val s.e ≤ 60 + 31 * (n : Rat)
theorem SxN.mono {n m : Nat} {s : Sr} (h : SxN n s) (k : n ≤ m) : SxN m s := ⟨h.b, h.nb, h.t, by have := h.hi; have := natCast_le k; grind⟩
def ShX (n : Nat) (r : List Sr) : Prop := ∀ s ∈ r, SxN n s
structure Pl (n : Nat) (q : Fr) : Prop where
  d : Dn L30 q
  nn : 0 ≤ val q
  hi : val q ≤ 60 + 31 * (n : Rat)
theorem tg_dn {m : Int} {q : Fr} (h : Tg m q) : Dn L30 q := dn_of h.cn (dvd_30 h.cn.1 h.d)
theorem tg_nn {m : Int} {q : Fr} (h : Tg m q) : 0 ≤ val q := (val_lt_of h.cn.1).mpr h.a
theorem tg_val {m : Int} {q : Fr} (h : Tg m q) : val q ≤ (m : Rat) := by
  have h1 := val_le_top h.cn.1 h.a
  have h2 : (q.1 : Rat) ≤ (m : Rat) := Rat.intCast_le_intCast.mpr (by have := h.b; omega)
  grind
theorem tg_pl {q : Fr} (h : Tg 60 q) (_ : True) (n : Nat) : Pl n q := ⟨tg_dn h, tg_nn h, by
  have h1 := tg_val h
  have h2 : ((60 : Int) : Rat) = 60 := rfl
  have h3 : (0 : Rat) ≤ (n : Rat) := natCast_le (a := 0) (Nat.zero_le n)
  grind⟩
theorem pl_q {q : Fr} (h : Dn L30 q) (h1 : 0 ≤ val q) (h2 : val q ≤ 1000) : Q q := dn_q (V := 1000) h (by decide) (by
  have : ((1000 : Nat) : Rat) = 1000 := rfl
  rw [this]
  grind) (by
  have : ((1000 : Nat) : Rat) = 1000 := rfl
  rw [this]
  exact h2) (Nat.lt_of_lt_of_le (show (1000 + 1) * L30 < 2 ^ 60 by decide) (Nat.pow_le_pow_right (by decide) (by decide)))
theorem show_loopX (rest : Om) : ∀ (l : List D) (sh : List Sr) (b : Box) (x2 x3 x4 : Option Sl), ShX sh.length sh → sh.length + l.length ≤ 6 → ∃ sh' b' x2' x3' x4',
    goL (gN 2) u_turn l [some (.val (.loc 1)), some (.own (sh.map encS)), x2, x3, x4] (bom b rest) =
    .nx [some (.val (.loc 1)), some (.own (sh'.map encS)), x2', x3', x4'] (bom b' rest) ∧ ShX sh'.length sh' ∧ sh'.length ≤ 6
  | [], sh, b, x2, x3, x4, h, hl => ⟨sh, b, x2, x3, x4, rfl, h, by simpa using hl⟩
  | d :: l, sh, b, x2, x3, x4, h, hl => by
    simp only [List.length_cons] at hl
    obtain ⟨t1, b1, e1, m1⟩ := time_gen rest (m := 60) b (by decide) (by decide)
    have m1 := tg_pl m1 trivial
    obtain ⟨p1, b2, e2, m2⟩ := pace_px b1 rest
    have m3 : True := trivial
    rw [goL_cons (ρ1 := [some (.val (.loc 1)), some (.own (sh.map encS)), some (.val d), x3, x4]) _ _ rfl]
    -- the end of the turn, from a begin and a pace
    have fin : ∀ (bb : Fr) (pp : Fr) (b3 : Box), Pl sh.length bb → Px 1 pp → True → ∃ t2 b4, S_law_time [.loc 1, .int 30] (bom b3 rest) = .ok (encF t2) (bom b4 rest) ∧ S_law_sum [encF (1, 2), encF t2] (bom b4 rest) = .ok (encF (fsum (1, 2) t2)) (bom b4 rest) ∧
        S_law_sum [encF bb, encF (fsum (1, 2) t2)] (bom b4 rest) = .ok (encF (fsum bb (fsum (1, 2) t2))) (bom b4 rest) ∧ ShX (sh ++ [(⟨bb, fsum bb (fsum (1, 2) t2), pp⟩ : Sr)]).length (sh ++ [⟨bb, fsum bb (fsum (1, 2) t2), pp⟩]) := by
      intro bb pp b3 k1 k2 k3
      obtain ⟨t2, b4, f1, m4⟩ := time_gen rest (m := 30) b3 (by decide) (by decide)
      have q4 := tg_dn m4
      have v4 := tg_val m4
      have v5 := tg_nn m4
      have dh : Dn L30 ((1, 2) : Fr) := dn_of ⟨by decide, by decide⟩ ⟨1164544781400, by decide⟩
      have vh : val ((1, 2) : Fr) = 1 / 2 := by unfold val; rfl
      have c30 : ((30 : Int) : Rat) = 30 := rfl
      rw [c30] at v4
      have vs := val_sum dh.cn.1 q4.cn.1
      rw [vh] at vs
      have ds := dn_sum dh q4
      have ve := val_sum k1.d.cn.1 ds.cn.1
      rw [vs] at ve
      have de := dn_sum k1.d ds
      have n6 : (sh.length : Rat) ≤ 6 := natCast_le (a := sh.length) (b := 6) (by omega)
      have hb := k1.hi
      have nb := k1.nn
      have qs := pl_q (q := t2) q4 (by grind) (by grind)
      have qh := pl_q (q := (1, 2)) dh (by rw [vh]; grind) (by rw [vh]; grind)
      have qe := pl_q (q := fsum (1, 2) t2) ds (by rw [vs]; grind) (by rw [vs]; grind)
      have qb := pl_q (q := bb) k1.d (by grind) (by grind)
      have f2 := lsum_eq (bom b4 rest) qh qs (by decide)
      have f3 := lsum_eq (bom b4 rest) qb qe (by decide)
      refine ⟨t2, b4, f1, f2, f3, fun s hs => ?_⟩
      have ln : (sh ++ [(⟨bb, fsum bb (fsum (1, 2) t2), pp⟩ : Sr)]).length = sh.length + 1 := by simp
      rw [ln]
      have nc : ((sh.length + 1 : Nat) : Rat) = (sh.length : Rat) + 1 := by
        have : (((sh.length + 1 : Nat) : Int) : Rat) = (((sh.length : Nat) : Int) : Rat) + ((1 : Int) : Rat) := by rw [← Rat.intCast_add]; rfl
        exact this
      rcases List.mem_append.mp hs with q | q
      · obtain ⟨x1, x2, x3, x4⟩ := h s q
        exact ⟨x1, x2, x3, by rw [nc]; grind⟩
      · simp only [List.mem_cons, List.not_mem_nil, or_false] at q
        subst q
        refine ⟨k1.d, nb, ⟨de, k2, ?_⟩, ?_⟩
        · show val bb < val (fsum bb (fsum (1, 2) t2)); rw [ve]; grind
        · show val (fsum bb (fsum (1, 2) t2)) ≤ _; rw [ve, nc]; grind
    have app : ∀ s : Sr, mAppend (sh.map encS) [.tup [encF s.b, encF s.e, encF s.p]] = some (.non, (sh ++ [s]).map encS) := fun s => by
      unfold mAppend
      dsimp only
      rw [if_pos (by rw [List.length_map]; exact Nat.lt_of_lt_of_le (by omega) (big_of (n := 7) (by decide)))]
      simp
    have step : ∀ (bb pp : Fr) (b3 : Box), Pl sh.length bb → Px 1 pp → True → (∀ (t2 : Fr) (b4 : Box), S_law_time [.loc 1, .int 30] (bom b3 rest) = .ok (encF t2) (bom b4 rest) → S_law_sum [encF (1, 2), encF t2] (bom b4 rest) = .ok (encF (fsum (1, 2) t2)) (bom b4 rest) → S_law_sum [encF bb, encF (fsum (1, 2) t2)] (bom b4 rest) = .ok (encF (fsum bb (fsum (1, 2) t2))) (bom b4 rest) →
        mAppend (sh.map encS) [.tup [encF bb, encF (fsum bb (fsum (1, 2) t2)), encF pp]] = some (.non, (sh ++ [(⟨bb, fsum bb (fsum (1, 2) t2), pp⟩ : Sr)]).map encS) →
        u_turn [some (.val (.loc 1)), some (.own (sh.map encS)), some (.val d), x3, x4] (bom b rest) = .nx [some (.val (.loc 1)), some (.own ((sh ++ [(⟨bb, fsum bb (fsum (1, 2) t2), pp⟩ : Sr)]).map encS)), some (.val d), some (.val (encF bb)), some (.val (encF pp))] (bom b4 rest)) →
        ∃ sh' b' x2' x3' x4', (u_turn [some (.val (.loc 1)), some (.own (sh.map encS)), some (.val d), x3, x4] (bom b rest)).turn (goL (gN 2) u_turn l) =
    .nx [some (.val (.loc 1)), some (.own (sh'.map encS)), x2', x3', x4'] (bom b' rest) ∧ ShX sh'.length sh' ∧ sh'.length ≤ 6 := by
      intro bb pp b3 k1 k2 k3 k4
      obtain ⟨t2, b4, f1, f2, f3, f4⟩ := fin bb pp b3 k1 k2 k3
      obtain ⟨sh', b', y2, y3, y4, g1, g2, g3⟩ := show_loopX rest l _ b4 (some (.val d)) (some (.val (encF bb))) (some (.val (encF pp))) f4 (by rw [show ∀ x : Sr, (sh ++ [x]).length = sh.length + 1 from fun x => by simp]; omega)
      refine ⟨sh', b', y2, y3, y4, ?_, g2, g3⟩
      rw [k4 t2 b4 f1 f2 f3 (app ⟨bb, fsum bb (fsum (1, 2) t2), pp⟩), turn_nx]
      exact g1
    have nil_or : sh = [] ∨ ∃ s0 sl, sh = s0 ++ [sl] := by
      by_cases hn : sh = []
      · exact .inl hn
      · exact .inr ⟨sh.dropLast, sh.getLast hn, (List.dropLast_concat_getLast hn).symm⟩
    rcases nil_or with hn | ⟨s0, sl, hn⟩
    · refine step t1 p1 b2 (m1 sh.length) m2 m3 fun t2 b4 f1 f2 f3 f4 => ?_
      have c1 : decide ((sh.map encS).length = 0) = true := by rw [hn]; rfl
      generalize sh.map encS = X at *
      generalize (sh ++ [(⟨t1, fsum t1 (fsum (1, 2) t2), p1⟩ : Sr)]).map encS = Y at *
      clear step fin app h hl m1 m2 m3 hn
      unfold u_turn
      walk_at "evs"
    · have g3 := take_eq (m := 3) b2 rest (by decide) (by decide)
      have hsl : SxN sh.length sl := h sl (by rw [hn]; simp)
      have hsb : Pl sh.length sl.e := ⟨hsl.t.e, by have := hsl.nb; have := hsl.t.lt; grind, hsl.hi⟩
      have c1 : decide ((sh.map encS).length = 0) = false := by rw [hn]; simp
      have c2 : atN (sh.map encS) (-1) = some (encS sl) := by rw [hn, List.map_append]; exact atN_last
      by_cases hd : tkv 3 b2 = 1
      · have g4 := take_eq (m := 3) (tkn 3 b2) rest (by decide) (by decide)
        by_cases hd2 : tkv 3 (tkn 3 b2) = 1
        · refine step sl.e p1 (tkn 3 (tkn 3 b2)) hsb m2 m3 fun t2 b4 f1 f2 f3 f4 => ?_
          generalize sh.map encS = X at *
          generalize (sh ++ [(⟨sl.e, fsum sl.e (fsum (1, 2) t2), p1⟩ : Sr)]).map encS = Y at *
          clear step fin app h hl m1 m2 m3 hn hsl hsb
          unfold u_turn
          walk_at "evs"
        · refine step sl.e sl.p (tkn 3 (tkn 3 b2)) hsb hsl.t.p trivial fun t2 b4 f1 f2 f3 f4 => ?_
          generalize sh.map encS = X at *
          generalize (sh ++ [(⟨sl.e, fsum sl.e (fsum (1, 2) t2), sl.p⟩ : Sr)]).map encS = Y at *
          clear step fin app h hl m1 m2 m3 hn hsl hsb
          unfold u_turn
          walk_at "evs"
      · refine step t1 p1 (tkn 3 b2) (m1 sh.length) m2 m3 fun t2 b4 f1 f2 f3 f4 => ?_
        generalize sh.map encS = X at *
        generalize (sh ++ [(⟨t1, fsum t1 (fsum (1, 2) t2), p1⟩ : Sr)]).map encS = Y at *
        clear step fin app h hl m1 m2 m3 hn hsl hsb
        unfold u_turn
        walk_at "evs"
theorem show_eqX (b : Box) (rest : Om) : ∃ r b', S_law_show [.loc 1] (bom b rest) = .ok (.lst (r.map encS)) (bom b' rest) ∧ ShX 6 r ∧ r.length ≤ 6 := by
  have e1 := take_eq (m := 4) b rest (by decide) (by decide)
  have e2 := take_eq (m := 7) (tkn 4 b) rest (by decide) (by decide)
  have e3 := take_eq (m := 4) (tkn 7 (tkn 4 b)) rest (by decide) (by decide)
  have b1 := tkv_nn (m := 4) b (by decide)
  have c1 := tkv_lt (m := 4) b (by decide)
  have b2 := tkv_nn (m := 7) (tkn 4 b) (by decide)
  have c2 := tkv_lt (m := 7) (tkn 4 b) (by decide)
  have fR : ∀ n : Int, 0 ≤ n → n < 7 → fRng1 [.int n] = some (rngN 0 n.toNat) := fun n h1 h2 => by
    exact fRng1_eq (by omega)
  have fl : ∀ n : Int, 0 ≤ n → n < 7 → (rngN 0 n.toNat).length ≤ 6 := fun n h1 h2 => by
    unfold rngN
    simp only [List.length_map, List.length_range]
    omega
  have lp : ∀ n : Int, 0 ≤ n → n < 7 → ∃ sh' b' x2' x3' x4', goL (gN 2) u_turn (rngN 0 n.toNat) [some (.val (.loc 1)), some (.own []), none, none, none] (bom (tkn 4 (tkn 7 (tkn 4 b))) rest) =
      .nx [some (.val (.loc 1)), some (.own (sh'.map encS)), x2', x3', x4'] (bom b' rest) ∧ ShX sh'.length sh' ∧ sh'.length ≤ 6 := fun n h1 h2 =>
    show_loopX rest (rngN 0 n.toNat) [] _ none none none (fun s hs => nomatch hs) (by simpa using fl n h1 h2)
  have fin : ∀ n : Int, 0 ≤ n → n < 7 → fRng1 [.int n] = some (rngN 0 n.toNat) ∧ ∃ sh' b' x2' x3' x4', goL (gN 2) u_turn (rngN 0 n.toNat) [some (.val (.loc 1)), some (.own []), none, none, none] (bom (tkn 4 (tkn 7 (tkn 4 b))) rest) =
      .nx [some (.val (.loc 1)), some (.own (sh'.map encS)), x2', x3', x4'] (bom b' rest) ∧ ShX 6 sh' ∧ sh'.length ≤ 6 := fun n h1 h2 => by
    obtain ⟨sh', b', y2, y3, y4, g1, g2, g3⟩ := lp n h1 h2
    exact ⟨fR n h1 h2, sh', b', y2, y3, y4, g1, fun s hs => (g2 s hs).mono g3, g3⟩
  by_cases hd : tkv 4 (tkn 7 (tkn 4 b)) = 1
  · obtain ⟨f1, sh', b', y2, y3, y4, g1, g2, g3⟩ := fin _ b2 c2
    refine ⟨sh', b', ?_, g2, g3⟩
    clear fin lp fl fR b1 c1 b2 c2 g2 g3
    unfold u_turn at g1
    unfold S_law_show u_law_show
    walk_at "evs"
  · obtain ⟨f1, sh', b', y2, y3, y4, g1, g2, g3⟩ := fin _ b1 (by omega)
    refine ⟨sh', b', ?_, g2, g3⟩
    clear fin lp fl fR b1 c1 b2 c2 g2 g3
    unfold u_turn at g1
    unfold S_law_show u_law_show
    walk_at "evs"
end Dv

namespace Dv
open PySem PySem.Spec PyProof.Rows L2
local macro_rules | `(tactic| walk_at "ev") => `(tactic| try simp (disch := omega) only [sSeq_eq, seq_nx, seq_rt, seq_rto, seq_xc, seq_bk, seq_ct, seq_ite, sAsg, sAsgO, sExpr, sRet, sRetO, sRetN, sIf, sNext, uVar, uC, uUn, uBin, uB, uNot, uAnd, uOr, uTV, uAndV, uOrV, uNotV, uIf, uChain, uNil, uCons, uTup, uLst, uLstO, uFn, uFnO, uFz, uMv, uNew, uCall, uCallO, uCallN, uBinV, uBinW, uBinL, uMeO, uMeL, uFnV, sSetL, sAsgG, gN, gT2, gT3, gT4, iLst, iFn,   bind_ok, bind_xc, of_ok, of_xc, res_ok, res_xc, res0_ok, own_ok, own_xc, fr_nx, fr_rt, fr_rto, fr_xc, fo_rto, fo_xc, liftO_some, dBool_bl, items_lst, items_frz, ent, defU, defO, List.map_cons, List.map_nil, List.length_cons, List.length_nil, List.cons_append, List.nil_append, List.append_nil, List.replicate, List.getElem?_cons_zero, List.getElem?_cons_succ, List.set_cons_zero, List.set_cons_succ, Nat.zero_add, Nat.reduceAdd, Nat.reduceSub, Nat.reduceLeDiff,   le_big, lt_big, atN_zero, atN_one, atN_two, atN_three, setN_zero, setN_one, popAt_zero, len_zero, len_succ, dMul_r, dMul_l, dDiv_pos, dMod_pos, dAdd_int, dSub_int, dNeg_int, dLt_int, dLe_int, dGt_int, dGe_int, dEq_int, dNe_int, dEq_bl, dNe_bl, dEq_nil, dNe_nil, dIx_lst, dIx_tup, fAbs_int, fInt_bl, fInt_int, fLen_lst, fLen_frz, fLen_tup, ite_true, ite_false, if_true, if_false, Bool.not_true, Bool.not_false, decide_true, decide_false, Bool.true_eq_false, Bool.false_eq_true, reduceIte, reduceCtorEq, turn_nx, turn_ct, turn_bk, turn_rt, turn_rto, turn_xc, sFor_eq, goL_nil, eq_self])
local macro_rules | `(tactic| walk_at "evs") => `(tactic| try simp (disch := omega) only [sSeq_eq, seq_nx, seq_rt, seq_rto, seq_xc, seq_bk, seq_ct, seq_ite, sAsg, sAsgO, sExpr, sRet, sRetO, sRetN, sIf, sNext, uVar, uC, uUn, uBin, uB, uNot, uAnd, uOr, uTV, uAndV, uOrV, uNotV, uIf, uChain, uNil, uCons, uTup, uLst, uLstO, uFn, uFnO, uFz, uMv, uNew, uCall, uCallO, uCallN, uBinV, uBinW, uBinL, uMeO, uMeL, uFnV, sSetL, sAsgG, gN, gT2, gT3, gT4, iLst, iFn,   bind_ok, bind_xc, of_ok, of_xc, res_ok, res_xc, res0_ok, own_ok, own_xc, fr_nx, fr_rt, fr_rto, fr_xc, fo_rto, fo_xc, liftO_some, dBool_bl, items_lst, items_frz, ent, defU, defO, List.map_cons, List.map_nil, List.length_cons, List.length_nil, List.cons_append, List.nil_append, List.append_nil, List.replicate, List.getElem?_cons_zero, List.getElem?_cons_succ, List.set_cons_zero, List.set_cons_succ, Nat.zero_add, Nat.reduceAdd, Nat.reduceSub, Nat.reduceLeDiff,   le_big, lt_big, atN_zero, atN_one, atN_two, atN_three, setN_zero, setN_one, popAt_zero, len_zero, len_succ, dMul_r, dMul_l, dDiv_pos, dMod_pos, dAdd_int, dSub_int, dNeg_int, dLt_int, dLe_int, dGt_int, dGe_int, dEq_int, dNe_int, dEq_bl, dNe_bl, dEq_nil, dNe_nil, dIx_lst, dIx_tup, fAbs_int, fInt_bl, fInt_int, fLen_lst, fLen_frz, fLen_tup, ite_true, ite_false, if_true, if_false, Bool.not_true, Bool.not_false, decide_true, decide_false, Bool.true_eq_false, Bool.false_eq_true, reduceIte, reduceCtorEq, turn_nx, turn_ct, turn_bk, turn_rt, turn_rto, turn_xc, sFor_eq, goL_nil, eq_self, *])
local macro_rules | `(tactic| walk_at "evt") => `(tactic| try simp (disch := first | omega | (simp only [List.length_append, List.length_cons, List.length_nil, List.length_map]; omega)) only [sSeq_eq, seq_nx, seq_rt, seq_rto, seq_xc, seq_bk, seq_ct, seq_ite, sAsg, sAsgO, sExpr, sRet, sRetO, sRetN, sIf, sNext, uVar, uC, uUn, uBin, uB, uNot, uAnd, uOr, uTV, uAndV, uOrV, uNotV, uIf, uChain, uNil, uCons, uTup, uLst, uLstO, uFn, uFnO, uFz, uMv, uNew, uCall, uCallO, uCallN, uBinV, uBinW, uBinL, uMeO, uMeL, uFnV, sSetL, sAsgG, gN, gT2, gT3, gT4, iLst, iFn,   bind_ok, bind_xc, of_ok, of_xc, res_ok, res_xc, res0_ok, own_ok, own_xc, fr_nx, fr_rt, fr_rto, fr_xc, fo_rto, fo_xc, liftO_some, dBool_bl, items_lst, items_frz, ent, defU, defO, List.map_cons, List.map_nil, List.length_cons, List.length_nil, List.cons_append, List.nil_append, List.append_nil, List.replicate, List.getElem?_cons_zero, List.getElem?_cons_succ, List.set_cons_zero, List.set_cons_succ, Nat.zero_add, Nat.reduceAdd, Nat.reduceSub, Nat.reduceLeDiff,   le_big, lt_big, atN_zero, atN_one, atN_two, atN_three, setN_zero, setN_one, popAt_zero, len_zero, len_succ, dMul_r, dMul_l, dDiv_pos, dMod_pos, dAdd_int, dSub_int, dNeg_int, dLt_int, dLe_int, dGt_int, dGe_int, dEq_int, dNe_int, dEq_bl, dNe_bl, dEq_nil, dNe_nil, dIx_lst, dIx_tup, fAbs_int, fInt_bl, fInt_int, fLen_lst, fLen_frz, fLen_tup, ite_true, ite_false, if_true, if_false, Bool.not_true, Bool.not_false, decide_true, decide_false, Bool.true_eq_false, Bool.false_eq_true, reduceIte, reduceCtorEq, turn_nx, turn_ct, turn_bk, turn_rt, turn_rto, turn_xc, sFor_eq, goL_nil, eq_self, sRaise, gT2, gT3, gT4, sAsgG, uM1, uOrS, uSlS, uSlW, uCatV, uPart, uNoPart, iStrU, k_colon, k_blank, k_line, k_f, k_s, k_0, k_empty, k_digits, k_abc, k_alpha, k_cue, k_from, k_to, k_at, k_two, k_fto, k_nl, k_a1, dAdd_tx, fLen_tx, fStr_nat, dEq_tx, dNe_tx, dEq_txn, dNe_txn, len_tx, cutS_l1, cutS_b1, cutS_ln, cutS_bn, dIx_tx0, *])
local macro_rules | `(tactic| walk_at "evx") => `(tactic| try simp (disch := first | omega | (simp only [List.length_append, List.length_cons, List.length_nil, List.length_map]; omega)) only [sSeq_eq, seq_nx, seq_rt, seq_rto, seq_xc, seq_bk, seq_ct, seq_ite, sAsg, sAsgO, sExpr, sRet, sRetO, sRetN, sIf, sNext, uVar, uC, uUn, uBin, uB, uNot, uAnd, uOr, uTV, uAndV, uOrV, uNotV, uIf, uChain, uNil, uCons, uTup, uLst, uLstO, uFn, uFnO, uFz, uMv, uNew, uCall, uCallO, uCallN, uBinV, uBinW, uBinL, uMeO, uMeL, uFnV, sSetL, sAsgG, gN, gT2, gT3, gT4, iLst, iFn,   bind_ok, bind_xc, of_ok, of_xc, res_ok, res_xc, res0_ok, own_ok, own_xc, fr_nx, fr_rt, fr_rto, fr_xc, fo_rto, fo_xc, liftO_some, dBool_bl, items_lst, items_frz, ent, defU, defO, List.map_cons, List.map_nil, List.length_cons, List.length_nil, List.cons_append, List.nil_append, List.append_nil, List.replicate, List.getElem?_cons_zero, List.getElem?_cons_succ, List.set_cons_zero, List.set_cons_succ, Nat.zero_add, Nat.reduceAdd, Nat.reduceSub, Nat.reduceLeDiff,   le_big, lt_big, atN_zero, atN_one, atN_two, atN_three, setN_zero, setN_one, popAt_zero, len_zero, len_succ, dMul_r, dMul_l, dDiv_pos, dMod_pos, dAdd_int, dSub_int, dNeg_int, dLt_int, dLe_int, dGt_int, dGe_int, dEq_int, dNe_int, dEq_bl, dNe_bl, dEq_nil, dNe_nil, dIx_lst, dIx_tup, fAbs_int, fInt_bl, fInt_int, fLen_lst, fLen_frz, fLen_tup, ite_true, ite_false, if_true, if_false, Bool.not_true, Bool.not_false, decide_true, decide_false, Bool.true_eq_false, Bool.false_eq_true, reduceIte, reduceCtorEq, turn_nx, turn_ct, turn_bk, turn_rt, turn_rto, turn_xc, sFor_eq, goL_nil, eq_self, sRaise, gT2, gT3, gT4, sAsgG, see_bl, see_int, see_non, see_tup, see_lst, see_str, uBinX, uUnX, uFnX, uFld, sFldU, uMeth, uMethO, uMake, uCatX, uRev, uMethN, uFrzI, uSlV, uM1, uOrS, uSlS, uSlW, uCatV, uPart, uNoPart, iStrU, k_colon, k_blank, k_line, k_f, k_s, k_0, k_empty, k_digits, k_abc, k_alpha, k_cue, k_from, k_to, k_at, k_two, k_fto, k_nl, k_a1, dAdd_tx, fLen_tx, fStr_nat, dEq_tx, dNe_tx, dEq_txn, dNe_txn, len_tx, cutS_l1, cutS_b1, cutS_ln, cutS_bn, dIx_tx0, *])
/-! ### a stage: behind i deeds -/
structure Sx (D j : Nat) (s : Sr) : Prop where
  b : Dn D s.b
  e : Dn D s.e
  p : Px j s.p
  lt : val s.b < val s.e
  nb : 0 ≤ val s.b
  hi : val s.e ≤ 1000
theorem Sx.cnS {D j : Nat} {s : Sr} (h : Sx D j s) : CnS s := ⟨h.b.cn, h.e.cn, h.p.d.cn.1, h.p.pos, h.lt⟩
def DD : Nat → Nat
  | 0 => L30
  | i + 1 => DD i * (2520 ^ (i + 1)) * 1100 * (2520 ^ (i + 1))
theorem DD_pos : ∀ i, 0 < DD i
  | 0 => by decide
  | i + 1 => by
    have := DD_pos i
    have p : 0 < 2520 ^ (i + 1) := Nat.pow_pos (by decide)
    exact Nat.mul_pos (Nat.mul_pos (Nat.mul_pos this p) (by decide)) p
theorem dn_L : ∀ (i : Nat) {q : Fr}, Dn L30 q → Dn (DD i) q
  | 0, q, h => h
  | i + 1, q, h => dn_up (dn_up (dn_up (dn_L i h)))
/-- the denominator of the times of a stage; the bound of values -/
@[reducible] def EE (i : Nat) : Nat := DD i * 2520 ^ (i + 1) * 1100
@[reducible] def VV (i : Nat) : Nat := 100000 * 9 ^ (i + 1)
theorem EE_pos (i : Nat) : 0 < EE i := Nat.mul_pos (Nat.mul_pos (DD_pos i) (Nat.pow_pos (by decide))) (by decide)
theorem stage_q {i : Nat} (hi : i ≤ 20) {q : Fr} (h : Dn (EE i) q) (h1 : -((VV i : Nat) : Rat) ≤ val q) (h2 : val q ≤ ((VV i : Nat) : Rat)) : Q q := by
  refine dn_q h (EE_pos i) h1 h2 ?_
  have : ∀ k : Fin 21, (VV k.val + 1) * EE k.val < 2 ^ 5400 := by decide +kernel
  exact Nat.lt_of_lt_of_le (this ⟨i, by omega⟩) (Nat.pow_le_pow_right (by decide) (by decide))
theorem v_nn (i : Nat) : (0 : Rat) ≤ ((VV i : Nat) : Rat) := natCast_le (a := 0) (Nat.zero_le _)
theorem v_1000 (i : Nat) : (1000 : Rat) ≤ ((VV i : Nat) : Rat) := by
  have : 1000 ≤ VV i := by
    have : 0 < 9 ^ (i + 1) := Nat.pow_pos (by decide)
    show 1000 ≤ 100000 * 9 ^ (i + 1)
    omega
  exact natCast_le this
theorem v_9 (i : Nat) : ((9 ^ (i + 1) : Nat) : Rat) ≤ ((VV i : Nat) : Rat) := natCast_le (by
  show 9 ^ (i + 1) ≤ 100000 * 9 ^ (i + 1)
  omega)
/-- the bound of one stretch's length -/
@[reducible] def UU (i : Nat) : Rat := 1000 * ((9 ^ (i + 1) : Nat) : Rat)
theorem uv (i : Nat) : 100 * UU i = ((VV i : Nat) : Rat) := by
  show 100 * (1000 * ((9 ^ (i + 1) : Nat) : Rat)) = ((100000 * 9 ^ (i + 1) : Nat) : Rat)
  rw [cast_mulN]
  have : ((100000 : Nat) : Rat) = 100000 := rfl
  rw [this]
  grind
theorem sx_last {i : Nat} {s : Sr} (h : Sx (DD i) (i + 1) s) : Dn (EE i) (lastF s) ∧ 0 < val (lastF s) ∧ val (lastF s) ≤ UU i := by
  have hc := h.cnS
  obtain ⟨l1, l2, l3⟩ := hc.last
  refine ⟨?_, l3, ?_⟩
  · unfold lastF
    exact dn_up (dn_div (dn_sub h.e h.b) hc.p hc.p1 h.p.i)
  · rw [l2]
    have d : (val s.e - val s.b) / val s.p = (val s.e - val s.b) * (1 / val s.p) := by
      simp only [Rat.div_def]
      grind
    rw [d]
    have k1 : val s.e - val s.b ≤ 1000 := by have := h.hi; have := h.nb; grind
    have k2 := Rat.mul_le_mul_of_nonneg_right k1 (Rat.le_of_lt (inv_pos h.p.pos))
    have k3 := Rat.mul_le_mul_of_nonneg_left h.p.lo (show (0 : Rat) ≤ 1000 by grind)
    grind
theorem dn_sb {i : Nat} {q : Fr} (h : Dn (DD i) q) : Dn (EE i) q := dn_up (dn_up h)
theorem sx_sq {i : Nat} (hi : i ≤ 20) {s : Sr} (h : Sx (DD i) (i + 1) s) : Sq s := by
  obtain ⟨l1, l2, l3⟩ := sx_last h
  have v := v_1000 i
  have v9 := v_9 i
  have u := uv i
  have h1 := h.hi
  have h2 := h.nb
  have h3 := h.lt
  have hp := h.p.pos
  have hp2 := h.p.hi
  have pd : Bd 310 s.p := by
    refine dn_bd (V := 9 ^ (i + 1)) h.p.d (Nat.pow_pos (by decide)) (by have := natCast_le (a := 0) (Nat.zero_le (9 ^ (i + 1))); have z : ((0 : Nat) : Rat) = 0 := rfl; rw [z] at this; grind) h.p.hi ?_
    have : ∀ k : Fin 21, (9 ^ (k.val + 1) + 1) * 2520 ^ (k.val + 1) < 2 ^ 310 := by decide +kernel
    exact this ⟨i, by omega⟩
  exact ⟨h.cnS, stage_q hi (dn_sb h.b) (by grind) (by grind), stage_q hi (dn_sb h.e) (by grind) (by grind), pd, stage_q hi l1 (by grind) (by grind)⟩
def SxL (i : Nat) (r : List Sr) : Prop := ∀ s ∈ r, Sx (DD i) (i + 1) s
theorem SxL.tail {i : Nat} {s : Sr} {r : List Sr} (h : SxL i (s :: r)) : SxL i r := fun x hx => h x (by simp [hx])
theorem SxL.cn {i : Nat} {r : List Sr} (h : SxL i r) : CnL r := fun s hs => (h s hs).cnS
theorem sx_tot {i : Nat} : ∀ {r : List Sr}, SxL i r → 0 ≤ tot r ∧ tot r ≤ (r.length : Rat) * UU i
  | [], _ => ⟨Rat.le_refl, by show (0 : Rat) ≤ ((0 : Nat) : Rat) * UU i; have : ((0 : Nat) : Rat) = 0 := rfl; rw [this]; grind⟩
  | s :: r, h => by
    obtain ⟨k1, k2⟩ := sx_tot h.tail
    obtain ⟨l1, l2, l3⟩ := sx_last (h s (by simp))
    have nc : (((s :: r).length : Nat) : Rat) = (r.length : Rat) + 1 := by
      have : (((r.length + 1 : Nat) : Int) : Rat) = (((r.length : Nat) : Int) : Rat) + ((1 : Int) : Rat) := by rw [← Rat.intCast_add]; rfl
      exact this
    refine ⟨by show 0 ≤ val (lastF s) + tot r; grind, ?_⟩
    show val (lastF s) + tot r ≤ (((s :: r).length : Nat) : Rat) * UU i
    rw [nc]
    grind
theorem sx_tot100 {i : Nat} {r : List Sr} (h : SxL i r) (hl : r.length ≤ 100) : tot r ≤ ((VV i : Nat) : Rat) := by
  have k := (sx_tot h).2
  have n := natCast_le hl
  have u := uv i
  have u0 : 0 ≤ UU i := by
    have := natCast_le (a := 0) (Nat.zero_le (9 ^ (i + 1)))
    have z : ((0 : Nat) : Rat) = 0 := rfl
    rw [z] at this
    show 0 ≤ 1000 * ((9 ^ (i + 1) : Nat) : Rat)
    grind
  have m := Rat.mul_le_mul_of_nonneg_right n u0
  have e40 : ((100 : Nat) : Rat) = 100 := rfl
  rw [e40] at m
  grind
theorem sx_ac {i : Nat} (hi : i ≤ 20) : ∀ (r : List Sr) (a : Fr), SxL i r → Dn (EE i) a → 0 ≤ val a → val a + tot r ≤ ((VV i : Nat) : Rat) → Ac a r
  | [], a, _, ha, h0, hv => stage_q hi ha (by have := v_nn i; grind) (by have : val a + 0 ≤ ((VV i : Nat) : Rat) := hv; grind)
  | s :: r, a, h, ha, h0, hv => by
    obtain ⟨l1, l2, l3⟩ := sx_last (h s (by simp))
    have hv : val a + (val (lastF s) + tot r) ≤ ((VV i : Nat) : Rat) := hv
    have t0 := (sx_tot h.tail).1
    have vs := val_sum ha.cn.1 l1.cn.1
    exact ⟨stage_q hi ha (by have := v_nn i; grind) (by grind), sx_ac hi r _ h.tail (dn_sum ha l1) (by rw [vs]; grind) (by rw [vs]; grind)⟩
theorem sx_sb {i : Nat} (hi : i ≤ 20) : ∀ (r : List Sr) (b : Fr), SxL i r → Dn (EE i) b → val b ≤ ((VV i : Nat) : Rat) → -((VV i : Nat) : Rat) ≤ val b - tot r → Sb b r
  | [], b, _, hb, h1, h2 => stage_q hi hb (by have h2 : -((VV i : Nat) : Rat) ≤ val b - 0 := h2; grind) h1
  | s :: r, b, h, hb, h1, h2 => by
    obtain ⟨l1, l2, l3⟩ := sx_last (h s (by simp))
    have h2 : -((VV i : Nat) : Rat) ≤ val b - (val (lastF s) + tot r) := h2
    have t0 := (sx_tot h.tail).1
    have vs := val_sub hb.cn.1 l1.cn.1
    exact ⟨stage_q hi hb (by grind) h1, sx_sb hi r _ h.tail (dn_sub hb l1) (by rw [vs]; grind) (by rw [vs]; grind)⟩
end Dv

namespace Dv
open PySem PySem.Spec PyProof.Rows L2
local macro_rules | `(tactic| walk_at "ev") => `(tactic| try simp (disch := omega) only [sSeq_eq, seq_nx, seq_rt, seq_rto, seq_xc, seq_bk, seq_ct, seq_ite, sAsg, sAsgO, sExpr, sRet, sRetO, sRetN, sIf, sNext, uVar, uC, uUn, uBin, uB, uNot, uAnd, uOr, uTV, uAndV, uOrV, uNotV, uIf, uChain, uNil, uCons, uTup, uLst, uLstO, uFn, uFnO, uFz, uMv, uNew, uCall, uCallO, uCallN, uBinV, uBinW, uBinL, uMeO, uMeL, uFnV, sSetL, sAsgG, gN, gT2, gT3, gT4, iLst, iFn,   bind_ok, bind_xc, of_ok, of_xc, res_ok, res_xc, res0_ok, own_ok, own_xc, fr_nx, fr_rt, fr_rto, fr_xc, fo_rto, fo_xc, liftO_some, dBool_bl, items_lst, items_frz, ent, defU, defO, List.map_cons, List.map_nil, List.length_cons, List.length_nil, List.cons_append, List.nil_append, List.append_nil, List.replicate, List.getElem?_cons_zero, List.getElem?_cons_succ, List.set_cons_zero, List.set_cons_succ, Nat.zero_add, Nat.reduceAdd, Nat.reduceSub, Nat.reduceLeDiff,   le_big, lt_big, atN_zero, atN_one, atN_two, atN_three, setN_zero, setN_one, popAt_zero, len_zero, len_succ, dMul_r, dMul_l, dDiv_pos, dMod_pos, dAdd_int, dSub_int, dNeg_int, dLt_int, dLe_int, dGt_int, dGe_int, dEq_int, dNe_int, dEq_bl, dNe_bl, dEq_nil, dNe_nil, dIx_lst, dIx_tup, fAbs_int, fInt_bl, fInt_int, fLen_lst, fLen_frz, fLen_tup, ite_true, ite_false, if_true, if_false, Bool.not_true, Bool.not_false, decide_true, decide_false, Bool.true_eq_false, Bool.false_eq_true, reduceIte, reduceCtorEq, turn_nx, turn_ct, turn_bk, turn_rt, turn_rto, turn_xc, sFor_eq, goL_nil, eq_self])
local macro_rules | `(tactic| walk_at "evs") => `(tactic| try simp (disch := omega) only [sSeq_eq, seq_nx, seq_rt, seq_rto, seq_xc, seq_bk, seq_ct, seq_ite, sAsg, sAsgO, sExpr, sRet, sRetO, sRetN, sIf, sNext, uVar, uC, uUn, uBin, uB, uNot, uAnd, uOr, uTV, uAndV, uOrV, uNotV, uIf, uChain, uNil, uCons, uTup, uLst, uLstO, uFn, uFnO, uFz, uMv, uNew, uCall, uCallO, uCallN, uBinV, uBinW, uBinL, uMeO, uMeL, uFnV, sSetL, sAsgG, gN, gT2, gT3, gT4, iLst, iFn,   bind_ok, bind_xc, of_ok, of_xc, res_ok, res_xc, res0_ok, own_ok, own_xc, fr_nx, fr_rt, fr_rto, fr_xc, fo_rto, fo_xc, liftO_some, dBool_bl, items_lst, items_frz, ent, defU, defO, List.map_cons, List.map_nil, List.length_cons, List.length_nil, List.cons_append, List.nil_append, List.append_nil, List.replicate, List.getElem?_cons_zero, List.getElem?_cons_succ, List.set_cons_zero, List.set_cons_succ, Nat.zero_add, Nat.reduceAdd, Nat.reduceSub, Nat.reduceLeDiff,   le_big, lt_big, atN_zero, atN_one, atN_two, atN_three, setN_zero, setN_one, popAt_zero, len_zero, len_succ, dMul_r, dMul_l, dDiv_pos, dMod_pos, dAdd_int, dSub_int, dNeg_int, dLt_int, dLe_int, dGt_int, dGe_int, dEq_int, dNe_int, dEq_bl, dNe_bl, dEq_nil, dNe_nil, dIx_lst, dIx_tup, fAbs_int, fInt_bl, fInt_int, fLen_lst, fLen_frz, fLen_tup, ite_true, ite_false, if_true, if_false, Bool.not_true, Bool.not_false, decide_true, decide_false, Bool.true_eq_false, Bool.false_eq_true, reduceIte, reduceCtorEq, turn_nx, turn_ct, turn_bk, turn_rt, turn_rto, turn_xc, sFor_eq, goL_nil, eq_self, *])
local macro_rules | `(tactic| walk_at "evt") => `(tactic| try simp (disch := first | omega | (simp only [List.length_append, List.length_cons, List.length_nil, List.length_map]; omega)) only [sSeq_eq, seq_nx, seq_rt, seq_rto, seq_xc, seq_bk, seq_ct, seq_ite, sAsg, sAsgO, sExpr, sRet, sRetO, sRetN, sIf, sNext, uVar, uC, uUn, uBin, uB, uNot, uAnd, uOr, uTV, uAndV, uOrV, uNotV, uIf, uChain, uNil, uCons, uTup, uLst, uLstO, uFn, uFnO, uFz, uMv, uNew, uCall, uCallO, uCallN, uBinV, uBinW, uBinL, uMeO, uMeL, uFnV, sSetL, sAsgG, gN, gT2, gT3, gT4, iLst, iFn,   bind_ok, bind_xc, of_ok, of_xc, res_ok, res_xc, res0_ok, own_ok, own_xc, fr_nx, fr_rt, fr_rto, fr_xc, fo_rto, fo_xc, liftO_some, dBool_bl, items_lst, items_frz, ent, defU, defO, List.map_cons, List.map_nil, List.length_cons, List.length_nil, List.cons_append, List.nil_append, List.append_nil, List.replicate, List.getElem?_cons_zero, List.getElem?_cons_succ, List.set_cons_zero, List.set_cons_succ, Nat.zero_add, Nat.reduceAdd, Nat.reduceSub, Nat.reduceLeDiff,   le_big, lt_big, atN_zero, atN_one, atN_two, atN_three, setN_zero, setN_one, popAt_zero, len_zero, len_succ, dMul_r, dMul_l, dDiv_pos, dMod_pos, dAdd_int, dSub_int, dNeg_int, dLt_int, dLe_int, dGt_int, dGe_int, dEq_int, dNe_int, dEq_bl, dNe_bl, dEq_nil, dNe_nil, dIx_lst, dIx_tup, fAbs_int, fInt_bl, fInt_int, fLen_lst, fLen_frz, fLen_tup, ite_true, ite_false, if_true, if_false, Bool.not_true, Bool.not_false, decide_true, decide_false, Bool.true_eq_false, Bool.false_eq_true, reduceIte, reduceCtorEq, turn_nx, turn_ct, turn_bk, turn_rt, turn_rto, turn_xc, sFor_eq, goL_nil, eq_self, sRaise, gT2, gT3, gT4, sAsgG, uM1, uOrS, uSlS, uSlW, uCatV, uPart, uNoPart, iStrU, k_colon, k_blank, k_line, k_f, k_s, k_0, k_empty, k_digits, k_abc, k_alpha, k_cue, k_from, k_to, k_at, k_two, k_fto, k_nl, k_a1, dAdd_tx, fLen_tx, fStr_nat, dEq_tx, dNe_tx, dEq_txn, dNe_txn, len_tx, cutS_l1, cutS_b1, cutS_ln, cutS_bn, dIx_tx0, *])
local macro_rules | `(tactic| walk_at "evx") => `(tactic| try simp (disch := first | omega | (simp only [List.length_append, List.length_cons, List.length_nil, List.length_map]; omega)) only [sSeq_eq, seq_nx, seq_rt, seq_rto, seq_xc, seq_bk, seq_ct, seq_ite, sAsg, sAsgO, sExpr, sRet, sRetO, sRetN, sIf, sNext, uVar, uC, uUn, uBin, uB, uNot, uAnd, uOr, uTV, uAndV, uOrV, uNotV, uIf, uChain, uNil, uCons, uTup, uLst, uLstO, uFn, uFnO, uFz, uMv, uNew, uCall, uCallO, uCallN, uBinV, uBinW, uBinL, uMeO, uMeL, uFnV, sSetL, sAsgG, gN, gT2, gT3, gT4, iLst, iFn,   bind_ok, bind_xc, of_ok, of_xc, res_ok, res_xc, res0_ok, own_ok, own_xc, fr_nx, fr_rt, fr_rto, fr_xc, fo_rto, fo_xc, liftO_some, dBool_bl, items_lst, items_frz, ent, defU, defO, List.map_cons, List.map_nil, List.length_cons, List.length_nil, List.cons_append, List.nil_append, List.append_nil, List.replicate, List.getElem?_cons_zero, List.getElem?_cons_succ, List.set_cons_zero, List.set_cons_succ, Nat.zero_add, Nat.reduceAdd, Nat.reduceSub, Nat.reduceLeDiff,   le_big, lt_big, atN_zero, atN_one, atN_two, atN_three, setN_zero, setN_one, popAt_zero, len_zero, len_succ, dMul_r, dMul_l, dDiv_pos, dMod_pos, dAdd_int, dSub_int, dNeg_int, dLt_int, dLe_int, dGt_int, dGe_int, dEq_int, dNe_int, dEq_bl, dNe_bl, dEq_nil, dNe_nil, dIx_lst, dIx_tup, fAbs_int, fInt_bl, fInt_int, fLen_lst, fLen_frz, fLen_tup, ite_true, ite_false, if_true, if_false, Bool.not_true, Bool.not_false, decide_true, decide_false, Bool.true_eq_false, Bool.false_eq_true, reduceIte, reduceCtorEq, turn_nx, turn_ct, turn_bk, turn_rt, turn_rto, turn_xc, sFor_eq, goL_nil, eq_self, sRaise, gT2, gT3, gT4, sAsgG, see_bl, see_int, see_non, see_tup, see_lst, see_str, uBinX, uUnX, uFnX, uFld, sFldU, uMeth, uMethO, uMake, uCatX, uRev, uMethN, uFrzI, uSlV, uM1, uOrS, uSlS, uSlW, uCatV, uPart, uNoPart, iStrU, k_colon, k_blank, k_line, k_f, k_s, k_0, k_empty, k_digits, k_abc, k_alpha, k_cue, k_from, k_to, k_at, k_two, k_fto, k_nl, k_a1, dAdd_tx, fLen_tx, fStr_nat, dEq_tx, dNe_tx, dEq_txn, dNe_txn, len_tx, cutS_l1, cutS_b1, cutS_ln, cutS_bn, dIx_tx0, *])
/-! ### the reel -/
theorem set_end {α : Type} (l : List α) (x y : α) : (l ++ [x]).set l.length y = l ++ [y] := by
  rw [List.set_append_right (h := Nat.le_refl _)]
  simp
theorem get_end {α : Type} (l : List α) (x : α) : (l ++ [x])[l.length]? = some x := by simp
@[reducible] def encL (r : List Sr) : D := .lst (r.map encS)
@[reducible] def rlC (now : List Sr) (E U : Nat) : Cell := .ins "Reel" [(("now" : Str), encL now), ("elder", .loc E), ("undone", .loc U)]
structure Re (Z : Nat → Cell → Prop) (om : Om) (b : Box) (R E U : Nat) (now : List Sr) (el un : List (List Sr)) : Prop where
  bx : ∃ rest, om = bom b rest
  r2 : 2 ≤ R
  e2 : 2 ≤ E
  u2 : 2 ≤ U
  re : R ≠ E
  ru : R ≠ U
  eu : E ≠ U
  r : om[R]? = some (rlC now E U)
  e : om[E]? = some (.lst (el.map encL))
  u : om[U]? = some (.lst (un.map encL))
  z : ∀ k c, Z k c → 2 ≤ k ∧ k ≠ R ∧ k ≠ E ∧ k ≠ U ∧ om[k]? = some c
theorem bom_get0 (b : Box) (rest : Om) (k : Nat) : (bom b rest)[k + 2]? = rest[k]? := rfl
theorem bom_set (b : Box) (rest : Om) (k : Nat) (c : Cell) (h : 2 ≤ k) : (bom b rest).set k c = bom b (rest.set (k - 2) c) := by
  obtain ⟨j, rfl⟩ : ∃ j, k = j + 2 := ⟨k - 2, by omega⟩
  rfl
theorem bom_app (b : Box) (rest c : Om) : bom b rest ++ c = bom b (rest ++ c) := rfl
theorem rl_n (x y z : D) : List.lookup ("now" : Str) [(("now" : Str), x), ("elder", y), ("undone", z)] = some x := rfl
theorem rl_e (x y z : D) : List.lookup ("elder" : Str) [(("now" : Str), x), ("elder", y), ("undone", z)] = some y := rfl
theorem rl_u (x y z : D) : List.lookup ("undone" : Str) [(("now" : Str), x), ("elder", y), ("undone", z)] = some z := rfl
theorem rp_n (x y z w : D) : putD ("now" : Str) w [(("now" : Str), x), ("elder", y), ("undone", z)] = [(("now" : Str), w), ("elder", y), ("undone", z)] := rfl
theorem rp_u (x y z w : D) : putD ("undone" : Str) w [(("now" : Str), x), ("elder", y), ("undone", z)] = [(("now" : Str), x), ("elder", y), ("undone", w)] := rfl
theorem fld_guard {n : Nat} (h : n < 900) : ((("Reel" : Str) = "Reel") ∧ n < 900) = True := by simp [h]
/-- a new reel -/
theorem rinit_eq (b : Box) (rest : Om) (r : List Sr) (hz : r.length ≤ 1000) (hr : Ord r) :
    S_Reel_init [.loc (bom b rest).length, encL r] (bom b rest ++ [.ins "Reel" []]) = .ok .non (bom b rest ++ [rlC (oneF [] r) ((bom b rest).length + 1) ((bom b rest).length + 2), .lst [], .lst []]) := by
  have e1 := fun om => normal_eq om r hz hr
  generalize bom b rest = om at *
  have p1 : ∀ w, putD "now" w [] = [(("now" : Str), w)] := fun w => rfl
  have p2 : ∀ x w, putD "elder" w [(("now" : Str), x)] = [(("now" : Str), x), ("elder", w)] := fun x w => rfl
  have p3 : ∀ x y w, putD "undone" w [(("now" : Str), x), ("elder", y)] = [(("now" : Str), x), ("elder", y), ("undone", w)] := fun x y w => rfl
  have g1 : ∀ c, (om ++ [c])[om.length]? = some c := fun c => get_end om c
  have s1 : ∀ c d, (om ++ [c]).set om.length d = om ++ [d] := fun c d => set_end om c d
  have g2 : ∀ c d, (om ++ [c] ++ [d])[om.length]? = some c := fun c d => by simp
  have s2 : ∀ c d x, (om ++ [c] ++ [d]).set om.length x = om ++ [x, d] := fun c d x => by simp
  have g3 : ∀ c d x, (om ++ [c, d] ++ [x])[om.length]? = some c := fun c d x => by simp
  have s3 : ∀ c d x y, (om ++ [c, d] ++ [x]).set om.length y = om ++ [y, d, x] := fun c d x y => by simp
  have l1 : ∀ c, (om ++ [c]).length = om.length + 1 := fun c => by simp
  have l2 : ∀ c d, (om ++ [c, d]).length = om.length + 2 := fun c d => by simp
  have i0 : ((0 : Nat) < 900) = True := by simp
  have i1 : ((1 : Nat) < 900) = True := by simp
  have i2 : ((2 : Nat) < 900) = True := by simp
  have tt : (True ∧ True) = True := by simp
  clear hr hz
  unfold S_Reel_init u_Reel_init
  unfold rlC encL at *
  generalize r.map encS = X at *
  generalize (oneF [] r).map encS = Y at *
  walk_at "evx"
/-- a new reel -/
theorem rinit_loc (b : Box) (rest : Om) (r : List Sr) (hz : r.length ≤ 1000) (hr : Ord r) (H : Nat) (hH : (bom b rest)[H]? = some (.lst (r.map encS))) :
    S_Reel_init [.loc (bom b rest).length, .loc H] (bom b rest ++ [.ins "Reel" []]) = .ok .non (bom b rest ++ [rlC (oneF [] r) ((bom b rest).length + 1) ((bom b rest).length + 2), .lst [], .lst []]) := by
  generalize bom b rest = om at *
  have e1 : S_normal [.loc H] (om ++ [.ins "Reel" []]) = .ok (.lst ((oneF [] r).map encS)) (om ++ [.ins "Reel" []]) := normal_loc _ H r (by rw [List.getElem?_append_left (List.getElem?_eq_some_iff.mp hH).1]; exact hH) hz hr
  have p1 : ∀ w, putD "now" w [] = [(("now" : Str), w)] := fun w => rfl
  have p2 : ∀ x w, putD "elder" w [(("now" : Str), x)] = [(("now" : Str), x), ("elder", w)] := fun x w => rfl
  have p3 : ∀ x y w, putD "undone" w [(("now" : Str), x), ("elder", y)] = [(("now" : Str), x), ("elder", y), ("undone", w)] := fun x y w => rfl
  have g1 : ∀ c, (om ++ [c])[om.length]? = some c := fun c => get_end om c
  have s1 : ∀ c d, (om ++ [c]).set om.length d = om ++ [d] := fun c d => set_end om c d
  have g2 : ∀ c d, (om ++ [c] ++ [d])[om.length]? = some c := fun c d => by simp
  have s2 : ∀ c d x, (om ++ [c] ++ [d]).set om.length x = om ++ [x, d] := fun c d x => by simp
  have g3 : ∀ c d x, (om ++ [c, d] ++ [x])[om.length]? = some c := fun c d x => by simp
  have s3 : ∀ c d x y, (om ++ [c, d] ++ [x]).set om.length y = om ++ [y, d, x] := fun c d x y => by simp
  have l1 : ∀ c, (om ++ [c]).length = om.length + 1 := fun c => by simp
  have l2 : ∀ c d, (om ++ [c, d]).length = om.length + 2 := fun c d => by simp
  have i0 : ((0 : Nat) < 900) = True := by simp
  have i1 : ((1 : Nat) < 900) = True := by simp
  have i2 : ((2 : Nat) < 900) = True := by simp
  have tt : (True ∧ True) = True := by simp
  clear hr hz hH
  unfold S_Reel_init u_Reel_init
  unfold rlC encL at *
  generalize (oneF [] r).map encS = Y at *
  walk_at "evx"
theorem app_D {α : Type} (f : α → D) {d : List α} (s : α) (h : d.length ≤ 1000) : mAppend (d.map f) [f s] = some (.non, (d ++ [s]).map f) := by
  unfold mAppend
  dsimp only
  rw [if_pos (by rw [List.length_map]; exact Nat.lt_of_le_of_lt h (by decide))]
  simp
theorem pop_D {α : Type} (f : α → D) (d0 : List α) (l : α) : mPop ((d0 ++ [l]).map f) [] = some (f l, d0.map f) := by
  unfold mPop
  simp
section
variable {Z : Nat → Cell → Prop} {om : Om} {b : Box} {R E U : Nat} {now : List Sr} {el un : List (List Sr)} (h : Re Z om b R E U now el un)
include h
theorem re_r : R < om.length := (List.getElem?_eq_some_iff.mp h.r).1
theorem re_e : E < om.length := (List.getElem?_eq_some_iff.mp h.e).1
theorem re_u : U < om.length := (List.getElem?_eq_some_iff.mp h.u).1
theorem isi_re (m : Str) (hm : List.lookup m [(("now" : Str), encL now), ("elder", .loc E), ("undone", .loc U)] = none) : isIns om (.loc R) "Reel" m = true := by
  have g := h.r
  unfold isIns
  dsimp only
  rw [g]
  dsimp only [rlC]
  rw [hm]
  simp
theorem turn_eq (newer : List Sr) (hz : newer.length ≤ 1000) (hr : Ord newer) (hl : el.length ≤ 900) : ∃ (om' : Om) (U' : Nat), S_Reel_turn [.loc R, encL newer] om = .ok .non om' ∧ Re Z om' b R E U' (oneF [] newer) (el ++ [now]) [] := by
  have e1 := fun om => normal_eq om newer hz hr
  have a1 := app_D encL (d := el) now (by omega)
  have hR := re_r h
  have hE := re_e h
  have g0 := h.r
  have g1 := h.e
  have k1 : (om.set E (Cell.lst ((el ++ [now]).map encL)))[R]? = some (rlC now E U) := by rw [List.getElem?_set_ne (Ne.symm h.re)]; exact g0
  have k2 : (om.set E (Cell.lst ((el ++ [now]).map encL)) ++ [Cell.lst []])[R]? = some (rlC now E U) := by rw [List.getElem?_append_left (by rw [List.length_set]; exact hR)]; exact k1
  have k3 : ((om.set E (Cell.lst ((el ++ [now]).map encL)) ++ [Cell.lst []]).set R (rlC now E (om.set E (Cell.lst ((el ++ [now]).map encL))).length))[R]? = some (rlC now E (om.set E (Cell.lst ((el ++ [now]).map encL))).length) := by rw [List.getElem?_set_self (by rw [List.length_append, List.length_set]; omega)]
  have hf : Re Z (((om.set E (Cell.lst ((el ++ [now]).map encL)) ++ [Cell.lst []]).set R (rlC now E (om.set E (Cell.lst ((el ++ [now]).map encL))).length)).set R (rlC (oneF [] newer) E (om.set E (Cell.lst ((el ++ [now]).map encL))).length)) b R E (om.set E (Cell.lst ((el ++ [now]).map encL))).length (oneF [] newer) (el ++ [now]) [] := by
    obtain ⟨rest, hb⟩ := h.bx
    refine ⟨?_, h.r2, h.e2, by rw [List.length_set]; have := h.r2; omega, h.re, by rw [List.length_set]; omega, by rw [List.length_set]; omega, ?_, ?_, ?_, ?_⟩
    · rw [hb, bom_set _ _ _ _ h.e2, bom_app, bom_set _ _ _ _ h.r2, bom_set _ _ _ _ h.r2]
      exact ⟨_, rfl⟩
    · rw [List.getElem?_set_self (by rw [List.length_set, List.length_append, List.length_set]; omega)]
    · rw [List.getElem?_set_ne h.re, List.getElem?_set_ne h.re, List.getElem?_append_left (by rw [List.length_set]; exact hE), List.getElem?_set_self hE]
    · rw [List.getElem?_set_ne (by rw [List.length_set]; omega), List.getElem?_set_ne (by rw [List.length_set]; omega)]
      exact get_end _ _
    · intro k c hk
      obtain ⟨z2, zr, ze, zu, zc⟩ := h.z k c hk
      have kl : k < om.length := (List.getElem?_eq_some_iff.mp zc).1
      refine ⟨z2, zr, ze, by rw [List.length_set]; omega, ?_⟩
      rw [List.getElem?_set_ne (Ne.symm zr), List.getElem?_set_ne (Ne.symm zr), List.getElem?_append_left (by rw [List.length_set]; exact kl), List.getElem?_set_ne (Ne.symm ze)]
      exact zc
  refine ⟨_, _, ?_, hf⟩
  clear hf hz hr hl hR hE h
  unfold S_Reel_turn u_Reel_turn
  unfold rlC encL at *
  have s1 : om.set E (Cell.lst (List.map (fun r : List Sr => D.lst (r.map encS)) (el ++ [now]))) = om.set E (Cell.lst (List.map (fun r : List Sr => D.lst (r.map encS)) (el ++ [now]))) := rfl
  generalize hom1 : om.set E (Cell.lst (List.map (fun r : List Sr => D.lst (r.map encS)) (el ++ [now]))) = om1 at *
  clear s1
  generalize now.map encS = NW at *
  have i3 : ((3 : Nat) < 900) = True := by simp
  have tt : (True ∧ True) = True := by simp
  have p1 := rl_n (.lst NW) (.loc E) (.loc U)
  have p2 := rl_e (.lst NW) (.loc E) (.loc U)
  have p3 := rp_u (.lst NW) (.loc E) (.loc U) (.loc om1.length)
  have p4 := rp_n (.lst NW) (.loc E) (.loc om1.length) (.lst ((oneF [] newer).map encS))
  generalize (oneF [] newer).map encS = NN at *
  generalize newer.map encS = NR at *
  walk_at "evx"
end
end Dv

namespace Dv
open PySem PySem.Spec PyProof.Rows L2
local macro_rules | `(tactic| walk_at "ev") => `(tactic| try simp (disch := omega) only [sSeq_eq, seq_nx, seq_rt, seq_rto, seq_xc, seq_bk, seq_ct, seq_ite, sAsg, sAsgO, sExpr, sRet, sRetO, sRetN, sIf, sNext, uVar, uC, uUn, uBin, uB, uNot, uAnd, uOr, uTV, uAndV, uOrV, uNotV, uIf, uChain, uNil, uCons, uTup, uLst, uLstO, uFn, uFnO, uFz, uMv, uNew, uCall, uCallO, uCallN, uBinV, uBinW, uBinL, uMeO, uMeL, uFnV, sSetL, sAsgG, gN, gT2, gT3, gT4, iLst, iFn,   bind_ok, bind_xc, of_ok, of_xc, res_ok, res_xc, res0_ok, own_ok, own_xc, fr_nx, fr_rt, fr_rto, fr_xc, fo_rto, fo_xc, liftO_some, dBool_bl, items_lst, items_frz, ent, defU, defO, List.map_cons, List.map_nil, List.length_cons, List.length_nil, List.cons_append, List.nil_append, List.append_nil, List.replicate, List.getElem?_cons_zero, List.getElem?_cons_succ, List.set_cons_zero, List.set_cons_succ, Nat.zero_add, Nat.reduceAdd, Nat.reduceSub, Nat.reduceLeDiff,   le_big, lt_big, atN_zero, atN_one, atN_two, atN_three, setN_zero, setN_one, popAt_zero, len_zero, len_succ, dMul_r, dMul_l, dDiv_pos, dMod_pos, dAdd_int, dSub_int, dNeg_int, dLt_int, dLe_int, dGt_int, dGe_int, dEq_int, dNe_int, dEq_bl, dNe_bl, dEq_nil, dNe_nil, dIx_lst, dIx_tup, fAbs_int, fInt_bl, fInt_int, fLen_lst, fLen_frz, fLen_tup, ite_true, ite_false, if_true, if_false, Bool.not_true, Bool.not_false, decide_true, decide_false, Bool.true_eq_false, Bool.false_eq_true, reduceIte, reduceCtorEq, turn_nx, turn_ct, turn_bk, turn_rt, turn_rto, turn_xc, sFor_eq, goL_nil, eq_self])
local macro_rules | `(tactic| walk_at "evs") => `(tactic| try simp (disch := omega) only [sSeq_eq, seq_nx, seq_rt, seq_rto, seq_xc, seq_bk, seq_ct, seq_ite, sAsg, sAsgO, sExpr, sRet, sRetO, sRetN, sIf, sNext, uVar, uC, uUn, uBin, uB, uNot, uAnd, uOr, uTV, uAndV, uOrV, uNotV, uIf, uChain, uNil, uCons, uTup, uLst, uLstO, uFn, uFnO, uFz, uMv, uNew, uCall, uCallO, uCallN, uBinV, uBinW, uBinL, uMeO, uMeL, uFnV, sSetL, sAsgG, gN, gT2, gT3, gT4, iLst, iFn,   bind_ok, bind_xc, of_ok, of_xc, res_ok, res_xc, res0_ok, own_ok, own_xc, fr_nx, fr_rt, fr_rto, fr_xc, fo_rto, fo_xc, liftO_some, dBool_bl, items_lst, items_frz, ent, defU, defO, List.map_cons, List.map_nil, List.length_cons, List.length_nil, List.cons_append, List.nil_append, List.append_nil, List.replicate, List.getElem?_cons_zero, List.getElem?_cons_succ, List.set_cons_zero, List.set_cons_succ, Nat.zero_add, Nat.reduceAdd, Nat.reduceSub, Nat.reduceLeDiff,   le_big, lt_big, atN_zero, atN_one, atN_two, atN_three, setN_zero, setN_one, popAt_zero, len_zero, len_succ, dMul_r, dMul_l, dDiv_pos, dMod_pos, dAdd_int, dSub_int, dNeg_int, dLt_int, dLe_int, dGt_int, dGe_int, dEq_int, dNe_int, dEq_bl, dNe_bl, dEq_nil, dNe_nil, dIx_lst, dIx_tup, fAbs_int, fInt_bl, fInt_int, fLen_lst, fLen_frz, fLen_tup, ite_true, ite_false, if_true, if_false, Bool.not_true, Bool.not_false, decide_true, decide_false, Bool.true_eq_false, Bool.false_eq_true, reduceIte, reduceCtorEq, turn_nx, turn_ct, turn_bk, turn_rt, turn_rto, turn_xc, sFor_eq, goL_nil, eq_self, *])
local macro_rules | `(tactic| walk_at "evt") => `(tactic| try simp (disch := first | omega | (simp only [List.length_append, List.length_cons, List.length_nil, List.length_map]; omega)) only [sSeq_eq, seq_nx, seq_rt, seq_rto, seq_xc, seq_bk, seq_ct, seq_ite, sAsg, sAsgO, sExpr, sRet, sRetO, sRetN, sIf, sNext, uVar, uC, uUn, uBin, uB, uNot, uAnd, uOr, uTV, uAndV, uOrV, uNotV, uIf, uChain, uNil, uCons, uTup, uLst, uLstO, uFn, uFnO, uFz, uMv, uNew, uCall, uCallO, uCallN, uBinV, uBinW, uBinL, uMeO, uMeL, uFnV, sSetL, sAsgG, gN, gT2, gT3, gT4, iLst, iFn,   bind_ok, bind_xc, of_ok, of_xc, res_ok, res_xc, res0_ok, own_ok, own_xc, fr_nx, fr_rt, fr_rto, fr_xc, fo_rto, fo_xc, liftO_some, dBool_bl, items_lst, items_frz, ent, defU, defO, List.map_cons, List.map_nil, List.length_cons, List.length_nil, List.cons_append, List.nil_append, List.append_nil, List.replicate, List.getElem?_cons_zero, List.getElem?_cons_succ, List.set_cons_zero, List.set_cons_succ, Nat.zero_add, Nat.reduceAdd, Nat.reduceSub, Nat.reduceLeDiff,   le_big, lt_big, atN_zero, atN_one, atN_two, atN_three, setN_zero, setN_one, popAt_zero, len_zero, len_succ, dMul_r, dMul_l, dDiv_pos, dMod_pos, dAdd_int, dSub_int, dNeg_int, dLt_int, dLe_int, dGt_int, dGe_int, dEq_int, dNe_int, dEq_bl, dNe_bl, dEq_nil, dNe_nil, dIx_lst, dIx_tup, fAbs_int, fInt_bl, fInt_int, fLen_lst, fLen_frz, fLen_tup, ite_true, ite_false, if_true, if_false, Bool.not_true, Bool.not_false, decide_true, decide_false, Bool.true_eq_false, Bool.false_eq_true, reduceIte, reduceCtorEq, turn_nx, turn_ct, turn_bk, turn_rt, turn_rto, turn_xc, sFor_eq, goL_nil, eq_self, sRaise, gT2, gT3, gT4, sAsgG, uM1, uOrS, uSlS, uSlW, uCatV, uPart, uNoPart, iStrU, k_colon, k_blank, k_line, k_f, k_s, k_0, k_empty, k_digits, k_abc, k_alpha, k_cue, k_from, k_to, k_at, k_two, k_fto, k_nl, k_a1, dAdd_tx, fLen_tx, fStr_nat, dEq_tx, dNe_tx, dEq_txn, dNe_txn, len_tx, cutS_l1, cutS_b1, cutS_ln, cutS_bn, dIx_tx0, *])
local macro_rules | `(tactic| walk_at "evx") => `(tactic| try simp (disch := first | omega | (simp only [List.length_append, List.length_cons, List.length_nil, List.length_map]; omega)) only [sSeq_eq, seq_nx, seq_rt, seq_rto, seq_xc, seq_bk, seq_ct, seq_ite, sAsg, sAsgO, sExpr, sRet, sRetO, sRetN, sIf, sNext, uVar, uC, uUn, uBin, uB, uNot, uAnd, uOr, uTV, uAndV, uOrV, uNotV, uIf, uChain, uNil, uCons, uTup, uLst, uLstO, uFn, uFnO, uFz, uMv, uNew, uCall, uCallO, uCallN, uBinV, uBinW, uBinL, uMeO, uMeL, uFnV, sSetL, sAsgG, gN, gT2, gT3, gT4, iLst, iFn,   bind_ok, bind_xc, of_ok, of_xc, res_ok, res_xc, res0_ok, own_ok, own_xc, fr_nx, fr_rt, fr_rto, fr_xc, fo_rto, fo_xc, liftO_some, dBool_bl, items_lst, items_frz, ent, defU, defO, List.map_cons, List.map_nil, List.length_cons, List.length_nil, List.cons_append, List.nil_append, List.append_nil, List.replicate, List.getElem?_cons_zero, List.getElem?_cons_succ, List.set_cons_zero, List.set_cons_succ, Nat.zero_add, Nat.reduceAdd, Nat.reduceSub, Nat.reduceLeDiff,   le_big, lt_big, atN_zero, atN_one, atN_two, atN_three, setN_zero, setN_one, popAt_zero, len_zero, len_succ, dMul_r, dMul_l, dDiv_pos, dMod_pos, dAdd_int, dSub_int, dNeg_int, dLt_int, dLe_int, dGt_int, dGe_int, dEq_int, dNe_int, dEq_bl, dNe_bl, dEq_nil, dNe_nil, dIx_lst, dIx_tup, fAbs_int, fInt_bl, fInt_int, fLen_lst, fLen_frz, fLen_tup, ite_true, ite_false, if_true, if_false, Bool.not_true, Bool.not_false, decide_true, decide_false, Bool.true_eq_false, Bool.false_eq_true, reduceIte, reduceCtorEq, turn_nx, turn_ct, turn_bk, turn_rt, turn_rto, turn_xc, sFor_eq, goL_nil, eq_self, sRaise, gT2, gT3, gT4, sAsgG, see_bl, see_int, see_non, see_tup, see_lst, see_str, uBinX, uUnX, uFnX, uFld, sFldU, uMeth, uMethO, uMake, uCatX, uRev, uMethN, uFrzI, uSlV, uM1, uOrS, uSlS, uSlW, uCatV, uPart, uNoPart, iStrU, k_colon, k_blank, k_line, k_f, k_s, k_0, k_empty, k_digits, k_abc, k_alpha, k_cue, k_from, k_to, k_at, k_two, k_fto, k_nl, k_a1, dAdd_tx, fLen_tx, fStr_nat, dEq_tx, dNe_tx, dEq_txn, dNe_txn, len_tx, cutS_l1, cutS_b1, cutS_ln, cutS_bn, dIx_tx0, *])
theorem oneF_ord : ∀ (r done : List Sr), Ord done → Ord r → Ord (oneF done r) ∧ (oneF done r).length ≤ done.length + r.length
  | [], done, h, _ => ⟨h, by unfold oneF; simp⟩
  | s :: r, done, h, hr => by
    obtain ⟨m1, m2⟩ := mrg_ord (s := s) h (hr s (by simp))
    obtain ⟨k1, k2⟩ := oneF_ord r (mrg done s) m1 fun x hx => hr x (by simp [hx])
    unfold oneF
    exact ⟨k1, by rw [List.length_cons]; omega⟩
theorem mrg_p {P : Fr → Prop} {done : List Sr} {s : Sr} (h : ∀ x ∈ done, P x.p) (hs : P s.p) : ∀ x ∈ mrg done s, P x.p := by
  rcases nil_or_last done with rfl | ⟨d0, l, rfl⟩
  · rw [mrg_nil]
    intro x hx
    simp only [List.mem_cons, List.not_mem_nil, or_false] at hx
    rw [hx]; exact hs
  · rw [mrg_last]
    split
    · intro x hx
      rcases List.mem_append.mp hx with q | q
      · exact h x (by simp [q])
      · simp only [List.mem_cons, List.not_mem_nil, or_false] at q
        rw [q]; exact hs
    · intro x hx
      rcases List.mem_append.mp hx with q | q
      · exact h x q
      · simp only [List.mem_cons, List.not_mem_nil, or_false] at q
        rw [q]; exact hs
theorem oneF_p {P : Fr → Prop} : ∀ (r done : List Sr), (∀ x ∈ done, P x.p) → (∀ x ∈ r, P x.p) → ∀ x ∈ oneF done r, P x.p
  | [], done, h, _ => h
  | s :: r, done, h, hr => oneF_p r (mrg done s) (mrg_p h (hr s (by simp))) fun x hx => hr x (by simp [hx])
theorem cutF_p {P : Fr → Prop} : ∀ (r : List Sr) (b e : Fr), (∀ x ∈ r, P x.p) → ∀ x ∈ cutF r b e, P x.p
  | [], b, e, h => by simp [cutF]
  | s :: r, b, e, h => by
    intro x hx
    unfold cutF at hx
    rcases List.mem_append.mp hx with q | q
    · split at q
      · simp only [List.mem_cons, List.not_mem_nil, or_false] at q
        rw [q]; exact h s (by simp)
      · cases q
    · exact cutF_p r _ _ (fun y hy => h y (by simp [hy])) x q
theorem ord_app {a b : List Sr} (ha : Ord a) (hb : Ord b) : Ord (a ++ b) := fun s hs => by
  rcases List.mem_append.mp hs with q | q
  · exact ha s q
  · exact hb s q
theorem flt_irr {a : Fr} (h : 0 < a.2) : flt a a = false := (flt_false h h).mpr Rat.le_refl
@[reducible] def lenF (now : List Sr) : Fr := totF (0, 1) now
structure Tq (now : List Sr) (x : Fr) : Prop where
  q : Q x
  nn : 0 ≤ val x
  b : Ab x (0, 1) now
  e : Ae x (0, 1) now
structure Nq (now : List Sr) : Prop where
  s : SqL now
  a : Ac (0, 1) now
  l : now.length ≤ 300
  len : Tq now (lenF now)
  z : Tq now (0, 1)
@[reducible] def cut1 (now : List Sr) (b e : Fr) : List Sr := oneF [] (cutF now b e)
theorem SqL.cn {r : List Sr} (h : SqL r) : CnL r := fun s hs => (h s hs).cn
theorem totF_cn : ∀ (r : List Sr) (a : Fr), CnL r → 0 < a.2 → 0 < (totF a r).2 ∧ val (totF a r) = val a + tot r
  | [], a, _, ha => ⟨ha, by show val a = val a + 0; grind⟩
  | s :: r, a, h, ha => by
    have l := (h s (by simp)).last.1
    obtain ⟨k1, k2⟩ := totF_cn r (fsum a (lastF s)) (fun x hx => h x (by simp [hx])) (cn_sum ha l.1).1
    refine ⟨k1, ?_⟩
    show val (totF (fsum a (lastF s)) r) = val a + (val (lastF s) + tot r)
    rw [k2, val_sum ha l.1]
    grind
theorem totF_ac : ∀ (r : List Sr) (a : Fr), Ac a r → Q (totF a r)
  | [], a, h => h
  | s :: r, a, h => totF_ac r _ h.2
theorem tot_nnC : ∀ {r : List Sr}, CnL r → 0 ≤ tot r
  | [], _ => Rat.le_refl
  | s :: r, h => by
    have h1 := tot_nnC (r := r) fun x hx => h x (by simp [hx])
    have h2 := (h s (by simp)).last.2.2
    show 0 ≤ val (lastF s) + tot r
    grind
theorem tak_cutC : ∀ (r : List Sr) (a b e b' e' : Fr), CnL r → 0 < a.2 → 0 < b.2 → 0 < e.2 → 0 < b'.2 → 0 < e'.2 → val b' = val b - val a → val e' = val e - val a → takF r a b e = cutF r b' e'
  | [], a, b, e, b', e', _, _, _, _, _, _, _, _ => rfl
  | s :: r, a, b, e, b', e', h, ha, hb, he, hb', he', v1, v2 => by
    have hs := h s (by simp)
    obtain ⟨l, _, lp⟩ := hs.last
    have ph : 0 < (fsum a (lastF s)).2 := (cn_sum ha l.1).1
    have vh := val_sum ha l.1
    have g1 := gr_p hb ha
    have g2 := ls_p he ph
    have w1 := gr_val hb ha
    have w2 := ls_val he ph
    have w3 := lo0_val hb'
    have w4 := hi0_val he' l.1
    have u1 := lo0_p hb'
    have u2 := hi0_p he' l.1
    have s1 := val_sub g1 ha
    have s2 := val_sub g2 ha
    have x1 : val (fsub (gr b a) a) = val (lo0 b') := by rw [s1, w1, w3, v1]; split <;> split <;> grind
    have x2 : val (fsub (ls e (fsum a (lastF s))) a) = val (hi0 e' (lastF s)) := by rw [s2, w2, w4, v2, vh]; split <;> split <;> grind
    have c : flt (gr b a) (ls e (fsum a (lastF s))) = flt (lo0 b') (hi0 e' (lastF s)) := by
      rw [Bool.eq_iff_iff, flt_iff g1 g2, flt_iff u1 u2, ← x1, ← x2, s1, s2]
      constructor <;> intro z <;> grind
    have t := tak_cutC r (fsum a (lastF s)) b e (fsub b' (lastF s)) (fsub e' (lastF s)) (fun x hx => h x (by simp [hx])) ph hb he (cn_sub hb' l.1).1 (cn_sub he' l.1).1 (by rw [val_sub hb' l.1, vh, v1]; grind) (by rw [val_sub he' l.1, vh, v2]; grind)
    unfold takF cutF
    rw [c, t, pc_ext hs.b.1 hs.p (cn_sub g1 ha).1 (cn_sub g2 ha).1 u1 u2 x1 x2]
theorem cutF_cn : ∀ (r : List Sr) (b e : Fr), CnL r → 0 < b.2 → 0 < e.2 → CnL (cutF r b e) ∧ (cutF r b e).length ≤ r.length
  | [], b, e, _, _, _ => ⟨fun s hs => (nomatch hs), Nat.le_refl _⟩
  | s :: r, b, e, h, hb, he => by
    have hs := h s (by simp)
    obtain ⟨l, _, _⟩ := hs.last
    obtain ⟨o, hl⟩ := cutF_cn r (fsub b (lastF s)) (fsub e (lastF s)) (fun x hx => h x (by simp [hx])) (cn_sub hb l.1).1 (cn_sub he l.1).1
    rw [cutF_cons]
    have u1 := lo0_p hb
    have u2 := hi0_p he l.1
    unfold piece
    refine ⟨fun x hx => ?_, ?_⟩
    · rcases List.mem_append.mp hx with q | q
      · split at q
        · rename_i c
          simp only [List.mem_cons, List.not_mem_nil, or_false] at q
          subst q
          have c' := (flt_iff u1 u2).mp c
          have m1 := cn_mul u1 hs.p
          have m2 := cn_mul u2 hs.p
          refine ⟨cn_sum hs.b.1 m1.1, cn_sum hs.b.1 m2.1, hs.p, hs.pp, ?_⟩
          show val (fsum s.b (fmul (lo0 b) s.p)) < val (fsum s.b (fmul (hi0 e (lastF s)) s.p))
          rw [val_sum hs.b.1 m1.1, val_sum hs.b.1 m2.1, val_mul u1 hs.p, val_mul u2 hs.p]
          have := Rat.mul_lt_mul_of_pos_right c' hs.pp
          grind
        · cases q
      · exact o x q
    · rw [List.length_append, List.length_cons]
      split <;> simp <;> omega
theorem cn_ord {r : List Sr} (h : CnL r) : Ord r := fun s hs => (h s hs).lt
theorem need_q (om : Om) (d : D) {now : List Sr} {t m : Fr} (ht : Tq now t) (hm : Q m) : S_need_time [d, encF t, encF m] om = if flt m t = true then .xc ⟨"OffReel", []⟩ om else .ok .non om := by
  have e1 := below_eq om ht.q q_01 (by decide)
  have e2 := below_eq om hm ht.q (by decide)
  have v0 : flt t (0, 1) = false := (flt_false ht.q.p (by decide)).mpr (by rw [val_01]; exact ht.nn)
  rw [v0] at e1
  unfold S_need_time u_need_time
  clear ht hm v0
  cases c : flt m t <;> rw [c] at e2 <;> clear c <;> simp only [Bool.false_eq_true, if_false, if_true] <;> walk_at "evx"
section
variable {now : List Sr} (k : Nq now)
include k
theorem len_tm : Tq now (lenF now) := k.len
theorem z_tm : Tq now ((0, 1) : Fr) := k.z
theorem ln_eq (om : Om) : S_length [encL now] om = .ok (encF (lenF now)) om := length_q om now k.s k.a (by have := k.l; omega)
theorem tk_eq (om : Om) {b e : Fr} (hb : Tq now b) (he : Tq now e) : S_taken [encL now, encF b, encF e] om = if flt (lenF now) e = true ∨ flt e b = true then .xc ⟨"OffReel", []⟩ om else .ok (encL (cut1 now b e)) om := by
  have lt := len_tm k
  have e1 := ln_eq k om
  have e2 := need_q om (encL now) he lt.q
  have e3 := need_q om (encL now) hb he.q
  obtain ⟨a', y5, y6, y7, y8, y9, y10, g⟩ := t_loopQ om (some (.val (encL now))) b e hb.q he.q now [] (0, 1) none none none none none none k.s k.a hb.b he.e (by have := k.l; simp; omega)
  have tc := tak_cutC now (0, 1) b e b e k.s.cn (by decide) hb.q.p he.q.p hb.q.p he.q.p (by rw [val_01]; grind) (by rw [val_01]; grind)
  obtain ⟨co, cl⟩ := cutF_cn now b e k.s.cn hb.q.p he.q.p
  rw [tc, List.nil_append] at g
  have e4 := normal_eq om (cutF now b e) (by have := k.l; omega) (cn_ord co)
  unfold t_turn at g
  simp only [List.map_nil] at g
  unfold S_taken u_taken
  clear lt tc co cl hb he k
  unfold encL cut1 at *
  generalize now.map encS = X at *
  generalize (oneF [] (cutF now b e)).map encS = Y at *
  generalize (cutF now b e).map encS = Z at *
  cases c1 : flt (lenF now) e
  · rw [c1] at e2
    cases c2 : flt e b
    · rw [c2] at e3
      simp only [Bool.false_eq_true, if_false, or_self] at e2 e3 ⊢
      clear c1 c2
      simp only [defO, ent, sRetO] at *
      walk_at "evx"
    · rw [c2] at e3
      simp only [Bool.false_eq_true, if_false, if_true, or_true] at e2 e3 ⊢
      clear c1 c2
      simp only [defO, ent, sRetO] at *
      walk_at "evx"
  · rw [c1] at e2
    simp only [if_true, true_or] at e2 ⊢
    clear c1 e3
    simp only [defO, ent, sRetO] at *
    walk_at "evx"
theorem cut1_ok {b e : Fr} (hb : 0 < b.2) (he : 0 < e.2) : Ord (cut1 now b e) ∧ (cut1 now b e).length ≤ now.length := by
  obtain ⟨o, l⟩ := cutF_cn now b e k.s.cn hb he
  obtain ⟨o2, l2⟩ := oneF_ord (cutF now b e) [] (fun s hs => nomatch hs) (cn_ord o)
  exact ⟨o2, Nat.le_trans (by simpa using l2) l⟩
theorem due_iff {b e : Fr} (hb : Tq now b) (he : Tq now e) : (flt (lenF now) e = true ∨ flt e b = true) ↔ ¬ (val b ≤ val e ∧ val e ≤ val (lenF now)) := by
  have l := len_tm k
  rw [flt_iff l.q.p he.q.p, flt_iff he.q.p hb.q.p]
  constructor
  · rintro (h | h) ⟨h1, h2⟩ <;> grind
  · intro h
    by_cases h1 : val e < val b
    · exact .inr h1
    · exact .inl (by grind)
theorem head_eq (om : Om) {b e : Fr} (hb : Tq now b) (he : Tq now e) (h : val b ≤ val e ∧ val e ≤ val (lenF now)) : S_taken [encL now, encF b, encF e] om = .ok (encL (cut1 now b e)) om := by
  rw [tk_eq k om hb he, if_neg fun z => ((due_iff k hb he).mp z) h]
end
section
variable {Z : Nat → Cell → Prop} {om : Om} {b : Box} {R E U : Nat} {now : List Sr} {el un : List (List Sr)} (h : Re Z om b R E U now el un)
include h
theorem fld_n {ρ : Rho} {u : UE} (e : u ρ om = .ok (.loc R) ρ om) : uFld "Reel" "now" u ρ om = .ok (encL now) ρ om := by
  have g := h.r
  simp only [uFld, e, Res.bind, g]
  rfl
variable (k : Nq now) (hel : el.length ≤ 900)
include k hel
theorem out_eq {t1 t2 : Fr} (h1 : Tq now t1) (h2 : Tq now t2) :
    (¬ (val t1 ≤ val t2 ∧ val t2 ≤ val (lenF now)) → S_Reel_out [.loc R, encF t1, encF t2] om = .xc ⟨"OffReel", []⟩ om) ∧
    ((val t1 ≤ val t2 ∧ val t2 ≤ val (lenF now)) → ∃ (om' : Om) (U' : Nat), S_Reel_out [.loc R, encF t1, encF t2] om = .ok (encL (cut1 now t1 t2)) om' ∧ Re Z om' b R E U' (oneF [] (cut1 now (0, 1) t1 ++ cut1 now t2 (lenF now))) (el ++ [now]) []) := by
  have g0 := h.r
  have p1 := rl_n (encL now) (.loc E) (.loc U)
  constructor
  · intro hn
    have e1 := tk_eq k om h1 h2
    rw [if_pos ((due_iff k h1 h2).mpr hn)] at e1
    clear hn h h1 h2 k hel
    unfold S_Reel_out u_Reel_out
    unfold rlC encL at *
    generalize List.map encS now = X at *
    (try simp only [defO, ent, sRetO] at *); walk_at "evx"
  · intro hn
    have lt := len_tm k
    have zt := z_tm k
    have v0 : val ((0, 1) : Fr) = 0 := val_01
    have e1 := head_eq k om h1 h2 hn
    have e2 := head_eq k om zt h1 ⟨by rw [v0]; exact h1.nn, by grind⟩
    have e3 := head_eq k om h2 lt ⟨hn.2, Rat.le_refl⟩
    have e4 := ln_eq k om
    obtain ⟨o1, l1⟩ := cut1_ok k zt.q.p h1.q.p
    obtain ⟨o2, l2⟩ := cut1_ok k h2.q.p lt.q.p
    have kl := k.l
    obtain ⟨om', U', e5, r5⟩ := turn_eq h (cut1 now (0, 1) t1 ++ cut1 now t2 (lenF now)) (by rw [List.length_append]; omega) (ord_app o1 o2) hel
    refine ⟨om', U', ?_, r5⟩
    have a1 : dAdd (encL (cut1 now (0, 1) t1)) (encL (cut1 now t2 (lenF now))) = some (encL (cut1 now (0, 1) t1 ++ cut1 now t2 (lenF now))) := by
      unfold encL dAdd
      dsimp only
      rw [if_pos (Nat.le_trans (m := 1000) (by simp only [List.length_map]; omega) (by decide)), List.map_append]
    have is := isi_re h "turn" rfl
    clear hn h h1 h2 k hel lt zt v0 o1 o2 l1 l2 kl r5
    unfold S_Reel_out u_Reel_out
    unfold rlC encL at *
    generalize List.map encS (cut1 now (0, 1) t1 ++ cut1 now t2 (lenF now)) = Z at *
    generalize List.map encS (cut1 now (0, 1) t1) = Z1 at *
    generalize List.map encS (cut1 now t2 (lenF now)) = Z2 at *
    generalize List.map encS (cut1 now t1 t2) = Z3 at *
    generalize lenF now = L at *
    generalize List.map encS now = X at *
    (try simp only [defO, ent, sRetO] at *); walk_at "evx"
theorem into_eq {t : Fr} (h1 : Tq now t) (other : List Sr) (ho : Ord other) (hol : other.length ≤ 300) :
    (¬ val t ≤ val (lenF now) → S_Reel_into [.loc R, encF t, encL other] om = .xc ⟨"OffReel", []⟩ om) ∧
    (val t ≤ val (lenF now) → ∃ (om' : Om) (U' : Nat), S_Reel_into [.loc R, encF t, encL other] om = .ok .non om' ∧ Re Z om' b R E U' (oneF [] (cut1 now (0, 1) t ++ other ++ cut1 now t (lenF now))) (el ++ [now]) []) := by
  have g0 := h.r
  have p1 := rl_n (encL now) (.loc E) (.loc U)
  have zt := z_tm k
  have v0 : val ((0, 1) : Fr) = 0 := val_01
  constructor
  · intro hn
    have e1 := tk_eq k om zt h1
    rw [if_pos ((due_iff k zt h1).mpr fun z => hn z.2)] at e1
    clear hn h h1 k hel ho hol zt v0
    unfold S_Reel_into u_Reel_into
    unfold rlC encL at *
    generalize List.map encS now = X at *
    generalize List.map encS other = Y at *
    (try simp only [defO, ent, sRetO] at *); walk_at "evx"
  · intro hn
    have lt := len_tm k
    have e2 := head_eq k om zt h1 ⟨by rw [v0]; exact h1.nn, hn⟩
    have e3 := head_eq k om h1 lt ⟨hn, Rat.le_refl⟩
    have e4 := ln_eq k om
    obtain ⟨o1, l1⟩ := cut1_ok k zt.q.p h1.q.p
    obtain ⟨o2, l2⟩ := cut1_ok k h1.q.p lt.q.p
    have kl := k.l
    obtain ⟨om', U', e5, r5⟩ := turn_eq h (cut1 now (0, 1) t ++ other ++ cut1 now t (lenF now)) (by rw [List.length_append, List.length_append]; omega) (ord_app (ord_app o1 ho) o2) hel
    refine ⟨om', U', ?_, r5⟩
    have a1 : dAdd (encL (cut1 now (0, 1) t)) (encL other) = some (encL (cut1 now (0, 1) t ++ other)) := by
      unfold encL dAdd
      dsimp only
      rw [if_pos (Nat.le_trans (m := 1000) (by simp only [List.length_map]; omega) (by decide)), List.map_append]
    have a2 : dAdd (encL (cut1 now (0, 1) t ++ other)) (encL (cut1 now t (lenF now))) = some (encL (cut1 now (0, 1) t ++ other ++ cut1 now t (lenF now))) := by
      unfold encL dAdd
      dsimp only
      rw [if_pos (Nat.le_trans (m := 1000) (by simp only [List.length_map, List.length_append]; omega) (by decide)), ← List.map_append]
    have is := isi_re h "turn" rfl
    clear hn h h1 k hel lt zt v0 o1 o2 l1 l2 kl r5 ho hol
    unfold S_Reel_into u_Reel_into
    unfold rlC encL at *
    generalize List.map encS (cut1 now (0, 1) t ++ other ++ cut1 now t (lenF now)) = Z at *
    generalize List.map encS (cut1 now (0, 1) t ++ other) = Z0 at *
    generalize List.map encS (cut1 now (0, 1) t) = Z1 at *
    generalize List.map encS (cut1 now t (lenF now)) = Z2 at *
    generalize lenF now = L at *
    generalize List.map encS now = X at *
    generalize List.map encS other = Y at *
    (try simp only [defO, ent, sRetO] at *); walk_at "evx"
omit h k hel in
theorem paced_eq (om : Om) (r : List Sr) {f : Fr} {P F : Nat} (hf : Bd F f) (hr : ∀ s ∈ r, Bd P s.p) (hz : P + F ≤ 13000) (hl : r.length ≤ 1000) : S_paced [encL r, encF f] om = .ok (encL (pacF r f)) om := by
  have g := goC_gen (G := gN 2) (te := uTup (uCons (uBin dIx (uVar 2) (uC (.int 0))) (uCons (uBin dIx (uVar 2) (uC (.int 1))) (uCons (uCallN 2 S_timed (uCons (uBin dIx (uVar 2) (uC (.int 2))) (uCons (uVar 1) uNil))) uNil)))) (vs := [2]) (ω := om) (ρ := [some (.val (encL r)), some (.val (encF f)), none])
    (fun d => match d with | .tup [x, y, .tup [.int a, .int b]] => .tup [x, y, encF (fmul (a, b) f)] | _ => .non) (fun d => [some (.val (encL r)), some (.val (encF f)), some (.val d)]) (r.map encS) [] (fun d hd => by
      obtain ⟨s, hs, rfl⟩ := List.mem_map.mp hd
      have e1 := timed_eq om (hr s hs) hf hz
      refine ⟨rfl, ?_, rfl⟩
      show _ = Res.ok (D.tup [encF s.b, encF s.e, encF (fmul s.p f)]) _ _
      clear hd hs hr hf hz hl
      generalize encL r = X at *
      (try simp only [defO, ent, sRetO] at *); walk_at "evx") (by rw [List.length_map]; simp; exact Nat.le_trans hl (by decide))
  rw [List.nil_append, List.map_map] at g
  have ec : (r.map ((fun d : D => match d with | .tup [x, y, .tup [.int a, .int b]] => D.tup [x, y, encF (fmul (a, b) f)] | _ => .non) ∘ encS)) = (pacF r f).map encS := by
    unfold pacF
    rw [List.map_map]
    rfl
  rw [ec] at g
  clear hf hr hz hl ec
  unfold S_paced u_paced uLc
  unfold encL at *
  generalize (pacF r f).map encS = Y at *
  generalize r.map encS = X at *
  simp only [defO, ent, sRetO, clrs, List.length_cons, List.length_nil, List.map_cons, List.map_nil, List.cons_append, List.nil_append, List.set_cons_succ, List.set_cons_zero]
  (try simp only [defO, ent, sRetO] at *); walk_at "evx"
theorem faster_eq {t1 t2 f : Fr} (h1 : Tq now t1) (h2 : Tq now t2) {P F : Nat} (hf : Bd F f) (hp : ∀ s ∈ now, Bd P s.p) (hPF : P + F ≤ 13000) :
    (¬ (val t1 ≤ val t2 ∧ val t2 ≤ val (lenF now)) → S_Reel_faster [.loc R, encF t1, encF t2, encF f] om = .xc ⟨"OffReel", []⟩ om) ∧
    ((val t1 ≤ val t2 ∧ val t2 ≤ val (lenF now)) → ∃ (om' : Om) (U' : Nat), S_Reel_faster [.loc R, encF t1, encF t2, encF f] om = .ok .non om' ∧ Re Z om' b R E U' (oneF [] (cut1 now (0, 1) t1 ++ pacF (cut1 now t1 t2) f ++ cut1 now t2 (lenF now))) (el ++ [now]) []) := by
  have g0 := h.r
  have p1 := rl_n (encL now) (.loc E) (.loc U)
  constructor
  · intro hn
    have e1 := tk_eq k om h1 h2
    rw [if_pos ((due_iff k h1 h2).mpr hn)] at e1
    clear hn h h1 h2 k hel hf hp hPF
    unfold S_Reel_faster u_Reel_faster
    unfold rlC encL at *
    generalize List.map encS now = X at *
    (try simp only [defO, ent, sRetO] at *); walk_at "evx"
  · intro hn
    have lt := len_tm k
    have zt := z_tm k
    have v0 : val ((0, 1) : Fr) = 0 := val_01
    have e1 := head_eq k om h1 h2 hn
    have e2 := head_eq k om zt h1 ⟨by rw [v0]; exact h1.nn, by grind⟩
    have e3 := head_eq k om h2 lt ⟨hn.2, Rat.le_refl⟩
    have e4 := ln_eq k om
    obtain ⟨o1, l1⟩ := cut1_ok k zt.q.p h1.q.p
    obtain ⟨o2, l2⟩ := cut1_ok k h2.q.p lt.q.p
    obtain ⟨o3, l3⟩ := cut1_ok k h1.q.p h2.q.p
    have kl := k.l
    have o4 : Ord (pacF (cut1 now t1 t2) f) := fun s hs => by
      obtain ⟨x, hx, rfl⟩ := List.mem_map.mp hs
      exact o3 x hx
    have l4 : (pacF (cut1 now t1 t2) f).length = (cut1 now t1 t2).length := by unfold pacF; rw [List.length_map]
    have e6 := paced_eq om (cut1 now t1 t2) hf (oneF_p _ [] (fun x hx => nomatch hx) (cutF_p now t1 t2 hp)) hPF (by omega)
    obtain ⟨om', U', e5, r5⟩ := turn_eq h (cut1 now (0, 1) t1 ++ pacF (cut1 now t1 t2) f ++ cut1 now t2 (lenF now)) (by rw [List.length_append, List.length_append]; omega) (ord_app (ord_app o1 o4) o2) hel
    refine ⟨om', U', ?_, r5⟩
    have a1 : dAdd (encL (cut1 now (0, 1) t1)) (encL (pacF (cut1 now t1 t2) f)) = some (encL (cut1 now (0, 1) t1 ++ pacF (cut1 now t1 t2) f)) := by
      unfold encL dAdd
      dsimp only
      rw [if_pos (Nat.le_trans (m := 1000) (by simp only [List.length_map]; omega) (by decide)), List.map_append]
    have a2 : dAdd (encL (cut1 now (0, 1) t1 ++ pacF (cut1 now t1 t2) f)) (encL (cut1 now t2 (lenF now))) = some (encL (cut1 now (0, 1) t1 ++ pacF (cut1 now t1 t2) f ++ cut1 now t2 (lenF now))) := by
      unfold encL dAdd
      dsimp only
      rw [if_pos (Nat.le_trans (m := 1000) (by simp only [List.length_map, List.length_append]; omega) (by decide)), ← List.map_append]
    have is := isi_re h "turn" rfl
    clear hn h h1 h2 k hel lt zt v0 o1 o2 o3 o4 l1 l2 l3 l4 kl r5 hf hp hPF
    unfold S_Reel_faster u_Reel_faster
    unfold rlC encL at *
    generalize List.map encS (cut1 now (0, 1) t1 ++ pacF (cut1 now t1 t2) f ++ cut1 now t2 (lenF now)) = Z at *
    generalize List.map encS (cut1 now (0, 1) t1 ++ pacF (cut1 now t1 t2) f) = Z0 at *
    generalize List.map encS (cut1 now (0, 1) t1) = Z1 at *
    generalize (pacF (cut1 now t1 t2) f).map encS = Z4 at *
    generalize List.map encS (cut1 now t2 (lenF now)) = Z2 at *
    generalize List.map encS (cut1 now t1 t2) = Z3 at *
    generalize lenF now = L at *
    generalize List.map encS now = X at *
    (try simp only [defO, ent, sRetO] at *); walk_at "evx"
omit k hel in
theorem show_now : S_Reel_show [.loc R] om = .ok (encL now) om := by
  have g0 := h.r
  have p1 := rl_n (encL now) (.loc E) (.loc U)
  have q3 : ∀ xs : List D, fList [.lst xs] = some xs := fun xs => rfl
  clear h
  unfold S_Reel_show u_Reel_show
  unfold rlC encL at *
  generalize now.map encS = X at *
  simp only [defO, ent, sRetO] at *
  walk_at "evx"
end
end Dv

namespace Dv
open PySem PySem.Spec PyProof.Rows L2
local macro_rules | `(tactic| walk_at "ev") => `(tactic| try simp (disch := omega) only [sSeq_eq, seq_nx, seq_rt, seq_rto, seq_xc, seq_bk, seq_ct, seq_ite, sAsg, sAsgO, sExpr, sRet, sRetO, sRetN, sIf, sNext, uVar, uC, uUn, uBin, uB, uNot, uAnd, uOr, uTV, uAndV, uOrV, uNotV, uIf, uChain, uNil, uCons, uTup, uLst, uLstO, uFn, uFnO, uFz, uMv, uNew, uCall, uCallO, uCallN, uBinV, uBinW, uBinL, uMeO, uMeL, uFnV, sSetL, sAsgG, gN, gT2, gT3, gT4, iLst, iFn,   bind_ok, bind_xc, of_ok, of_xc, res_ok, res_xc, res0_ok, own_ok, own_xc, fr_nx, fr_rt, fr_rto, fr_xc, fo_rto, fo_xc, liftO_some, dBool_bl, items_lst, items_frz, ent, defU, defO, List.map_cons, List.map_nil, List.length_cons, List.length_nil, List.cons_append, List.nil_append, List.append_nil, List.replicate, List.getElem?_cons_zero, List.getElem?_cons_succ, List.set_cons_zero, List.set_cons_succ, Nat.zero_add, Nat.reduceAdd, Nat.reduceSub, Nat.reduceLeDiff,   le_big, lt_big, atN_zero, atN_one, atN_two, atN_three, setN_zero, setN_one, popAt_zero, len_zero, len_succ, dMul_r, dMul_l, dDiv_pos, dMod_pos, dAdd_int, dSub_int, dNeg_int, dLt_int, dLe_int, dGt_int, dGe_int, dEq_int, dNe_int, dEq_bl, dNe_bl, dEq_nil, dNe_nil, dIx_lst, dIx_tup, fAbs_int, fInt_bl, fInt_int, fLen_lst, fLen_frz, fLen_tup, ite_true, ite_false, if_true, if_false, Bool.not_true, Bool.not_false, decide_true, decide_false, Bool.true_eq_false, Bool.false_eq_true, reduceIte, reduceCtorEq, turn_nx, turn_ct, turn_bk, turn_rt, turn_rto, turn_xc, sFor_eq, goL_nil, eq_self])
local macro_rules | `(tactic| walk_at "evs") => `(tactic| try simp (disch := omega) only [sSeq_eq, seq_nx, seq_rt, seq_rto, seq_xc, seq_bk, seq_ct, seq_ite, sAsg, sAsgO, sExpr, sRet, sRetO, sRetN, sIf, sNext, uVar, uC, uUn, uBin, uB, uNot, uAnd, uOr, uTV, uAndV, uOrV, uNotV, uIf, uChain, uNil, uCons, uTup, uLst, uLstO, uFn, uFnO, uFz, uMv, uNew, uCall, uCallO, uCallN, uBinV, uBinW, uBinL, uMeO, uMeL, uFnV, sSetL, sAsgG, gN, gT2, gT3, gT4, iLst, iFn,   bind_ok, bind_xc, of_ok, of_xc, res_ok, res_xc, res0_ok, own_ok, own_xc, fr_nx, fr_rt, fr_rto, fr_xc, fo_rto, fo_xc, liftO_some, dBool_bl, items_lst, items_frz, ent, defU, defO, List.map_cons, List.map_nil, List.length_cons, List.length_nil, List.cons_append, List.nil_append, List.append_nil, List.replicate, List.getElem?_cons_zero, List.getElem?_cons_succ, List.set_cons_zero, List.set_cons_succ, Nat.zero_add, Nat.reduceAdd, Nat.reduceSub, Nat.reduceLeDiff,   le_big, lt_big, atN_zero, atN_one, atN_two, atN_three, setN_zero, setN_one, popAt_zero, len_zero, len_succ, dMul_r, dMul_l, dDiv_pos, dMod_pos, dAdd_int, dSub_int, dNeg_int, dLt_int, dLe_int, dGt_int, dGe_int, dEq_int, dNe_int, dEq_bl, dNe_bl, dEq_nil, dNe_nil, dIx_lst, dIx_tup, fAbs_int, fInt_bl, fInt_int, fLen_lst, fLen_frz, fLen_tup, ite_true, ite_false, if_true, if_false, Bool.not_true, Bool.not_false, decide_true, decide_false, Bool.true_eq_false, Bool.false_eq_true, reduceIte, reduceCtorEq, turn_nx, turn_ct, turn_bk, turn_rt, turn_rto, turn_xc, sFor_eq, goL_nil, eq_self, *])
local macro_rules | `(tactic| walk_at "evt") => `(tactic| try simp (disch := first | omega | (simp only [List.length_append, List.length_cons, List.length_nil, List.length_map]; omega)) only [sSeq_eq, seq_nx, seq_rt, seq_rto, seq_xc, seq_bk, seq_ct, seq_ite, sAsg, sAsgO, sExpr, sRet, sRetO, sRetN, sIf, sNext, uVar, uC, uUn, uBin, uB, uNot, uAnd, uOr, uTV, uAndV, uOrV, uNotV, uIf, uChain, uNil, uCons, uTup, uLst, uLstO, uFn, uFnO, uFz, uMv, uNew, uCall, uCallO, uCallN, uBinV, uBinW, uBinL, uMeO, uMeL, uFnV, sSetL, sAsgG, gN, gT2, gT3, gT4, iLst, iFn,   bind_ok, bind_xc, of_ok, of_xc, res_ok, res_xc, res0_ok, own_ok, own_xc, fr_nx, fr_rt, fr_rto, fr_xc, fo_rto, fo_xc, liftO_some, dBool_bl, items_lst, items_frz, ent, defU, defO, List.map_cons, List.map_nil, List.length_cons, List.length_nil, List.cons_append, List.nil_append, List.append_nil, List.replicate, List.getElem?_cons_zero, List.getElem?_cons_succ, List.set_cons_zero, List.set_cons_succ, Nat.zero_add, Nat.reduceAdd, Nat.reduceSub, Nat.reduceLeDiff,   le_big, lt_big, atN_zero, atN_one, atN_two, atN_three, setN_zero, setN_one, popAt_zero, len_zero, len_succ, dMul_r, dMul_l, dDiv_pos, dMod_pos, dAdd_int, dSub_int, dNeg_int, dLt_int, dLe_int, dGt_int, dGe_int, dEq_int, dNe_int, dEq_bl, dNe_bl, dEq_nil, dNe_nil, dIx_lst, dIx_tup, fAbs_int, fInt_bl, fInt_int, fLen_lst, fLen_frz, fLen_tup, ite_true, ite_false, if_true, if_false, Bool.not_true, Bool.not_false, decide_true, decide_false, Bool.true_eq_false, Bool.false_eq_true, reduceIte, reduceCtorEq, turn_nx, turn_ct, turn_bk, turn_rt, turn_rto, turn_xc, sFor_eq, goL_nil, eq_self, sRaise, gT2, gT3, gT4, sAsgG, uM1, uOrS, uSlS, uSlW, uCatV, uPart, uNoPart, iStrU, k_colon, k_blank, k_line, k_f, k_s, k_0, k_empty, k_digits, k_abc, k_alpha, k_cue, k_from, k_to, k_at, k_two, k_fto, k_nl, k_a1, dAdd_tx, fLen_tx, fStr_nat, dEq_tx, dNe_tx, dEq_txn, dNe_txn, len_tx, cutS_l1, cutS_b1, cutS_ln, cutS_bn, dIx_tx0, *])
local macro_rules | `(tactic| walk_at "evx") => `(tactic| try simp (disch := first | omega | (simp only [List.length_append, List.length_cons, List.length_nil, List.length_map]; omega)) only [sSeq_eq, seq_nx, seq_rt, seq_rto, seq_xc, seq_bk, seq_ct, seq_ite, sAsg, sAsgO, sExpr, sRet, sRetO, sRetN, sIf, sNext, uVar, uC, uUn, uBin, uB, uNot, uAnd, uOr, uTV, uAndV, uOrV, uNotV, uIf, uChain, uNil, uCons, uTup, uLst, uLstO, uFn, uFnO, uFz, uMv, uNew, uCall, uCallO, uCallN, uBinV, uBinW, uBinL, uMeO, uMeL, uFnV, sSetL, sAsgG, gN, gT2, gT3, gT4, iLst, iFn,   bind_ok, bind_xc, of_ok, of_xc, res_ok, res_xc, res0_ok, own_ok, own_xc, fr_nx, fr_rt, fr_rto, fr_xc, fo_rto, fo_xc, liftO_some, dBool_bl, items_lst, items_frz, ent, defU, defO, List.map_cons, List.map_nil, List.length_cons, List.length_nil, List.cons_append, List.nil_append, List.append_nil, List.replicate, List.getElem?_cons_zero, List.getElem?_cons_succ, List.set_cons_zero, List.set_cons_succ, Nat.zero_add, Nat.reduceAdd, Nat.reduceSub, Nat.reduceLeDiff,   le_big, lt_big, atN_zero, atN_one, atN_two, atN_three, setN_zero, setN_one, popAt_zero, len_zero, len_succ, dMul_r, dMul_l, dDiv_pos, dMod_pos, dAdd_int, dSub_int, dNeg_int, dLt_int, dLe_int, dGt_int, dGe_int, dEq_int, dNe_int, dEq_bl, dNe_bl, dEq_nil, dNe_nil, dIx_lst, dIx_tup, fAbs_int, fInt_bl, fInt_int, fLen_lst, fLen_frz, fLen_tup, ite_true, ite_false, if_true, if_false, Bool.not_true, Bool.not_false, decide_true, decide_false, Bool.true_eq_false, Bool.false_eq_true, reduceIte, reduceCtorEq, turn_nx, turn_ct, turn_bk, turn_rt, turn_rto, turn_xc, sFor_eq, goL_nil, eq_self, sRaise, gT2, gT3, gT4, sAsgG, see_bl, see_int, see_non, see_tup, see_lst, see_str, uBinX, uUnX, uFnX, uFld, sFldU, uMeth, uMethO, uMake, uCatX, uRev, uMethN, uFrzI, uSlV, uM1, uOrS, uSlS, uSlW, uCatV, uPart, uNoPart, iStrU, k_colon, k_blank, k_line, k_f, k_s, k_0, k_empty, k_digits, k_abc, k_alpha, k_cue, k_from, k_to, k_at, k_two, k_fto, k_nl, k_a1, dAdd_tx, fLen_tx, fStr_nat, dEq_tx, dNe_tx, dEq_txn, dNe_txn, len_tx, cutS_l1, cutS_b1, cutS_ln, cutS_bn, dIx_tx0, *])
theorem sx_mrg {D j : Nat} {done : List Sr} {s : Sr} (h : ∀ x ∈ done, Sx D j x) (hs : Sx D j s) : (∀ x ∈ mrg done s, Sx D j x) ∧ tot (mrg done s) = tot done + val (lastF s) := by
  have ta : ∀ (a b : List Sr), tot (a ++ b) = tot a + tot b := by
    intro a b
    induction a with
    | nil => show tot b = 0 + tot b; grind
    | cons x a ih => show val (lastF x) + tot (a ++ b) = val (lastF x) + tot a + tot b; grind
  rcases nil_or_last done with rfl | ⟨d0, l, rfl⟩
  · rw [mrg_nil]
    refine ⟨fun x hx => ?_, by show val (lastF s) + 0 = 0 + val (lastF s); grind⟩
    simp only [List.mem_cons, List.not_mem_nil, or_false] at hx
    rw [hx]; exact hs
  · have hl := h l (by simp)
    rw [mrg_last]
    split
    · rename_i c
      have hm : Sx D j ⟨l.b, s.e, s.p⟩ := ⟨hl.b, hs.e, hs.p, (cn_mrg hl.cnS hs.cnS c.1).lt, hl.nb, hs.hi⟩
      refine ⟨fun x hx => ?_, ?_⟩
      · rcases List.mem_append.mp hx with q | q
        · exact h x (by simp [q])
        · simp only [List.mem_cons, List.not_mem_nil, or_false] at q
          rw [q]; exact hm
      · rw [ta, ta]
        have sum := (piece_two hl.cnS hs.cnS c.1 c.2 hm.cnS (b := (0, 1)) (e := (0, 1)) (by decide) (by decide) []).2
        show tot d0 + (val (lastF ⟨l.b, s.e, s.p⟩) + 0) = tot d0 + (val (lastF l) + 0) + val (lastF s)
        rw [sum]
        grind
    · refine ⟨fun x hx => ?_, ?_⟩
      · rcases List.mem_append.mp hx with q | q
        · exact h x q
        · simp only [List.mem_cons, List.not_mem_nil, or_false] at q
          rw [q]; exact hs
      · rw [ta]
        show tot _ + (val (lastF s) + 0) = _
        grind
theorem sx_one {D j : Nat} : ∀ (r done : List Sr), (∀ x ∈ done, Sx D j x) → (∀ x ∈ r, Sx D j x) → (∀ x ∈ oneF done r, Sx D j x) ∧ tot (oneF done r) = tot done + tot r
  | [], done, h, _ => ⟨h, by show tot done = tot done + 0; grind⟩
  | s :: r, done, h, hr => by
    obtain ⟨m1, m2⟩ := sx_mrg h (hr s (by simp))
    obtain ⟨k1, k2⟩ := sx_one r (mrg done s) m1 fun x hx => hr x (by simp [hx])
    refine ⟨k1, ?_⟩
    show tot (oneF (mrg done s) r) = tot done + (val (lastF s) + tot r)
    rw [k2, m2]
    grind
theorem ab_of {i : Nat} (hi : i ≤ 20) : ∀ (r : List Sr) (a x : Fr), SxL i r → Dn (EE i) a → Dn (EE i) x → 0 ≤ val a → val a + tot r ≤ ((VV i : Nat) : Rat) → 0 ≤ val x → val x ≤ ((VV i : Nat) : Rat) → Ab x a r ∧ Ae x a r
  | [], a, x, _, _, _, _, _, _, _ => ⟨trivial, trivial⟩
  | s :: r, a, x, h, ha, hx, a0, a1, x0, x1 => by
    obtain ⟨l1, l2, l3⟩ := sx_last (h s (by simp))
    have t0 := (sx_tot h.tail).1
    have a1' : val a + (val (lastF s) + tot r) ≤ ((VV i : Nat) : Rat) := a1
    have sl := val_sum ha.cn.1 l1.cn.1
    have ds := dn_sum ha l1
    obtain ⟨k1, k2⟩ := ab_of hi r (fsum a (lastF s)) x h.tail ds hx (by rw [sl]; grind) (by rw [sl]; grind) x0 x1
    have d1 : Dn (EE i) (gr x a) := by unfold gr; split <;> assumption
    have d2 : Dn (EE i) (ls x (fsum a (lastF s))) := by unfold ls; split <;> assumption
    have g1 := gr_val hx.cn.1 ha.cn.1
    have g2 := ls_val hx.cn.1 ds.cn.1
    have v1 := val_sub d1.cn.1 ha.cn.1
    have v2 := val_sub d2.cn.1 ha.cn.1
    refine ⟨⟨stage_q hi (dn_sub d1 ha) ?_ ?_, k1⟩, ⟨stage_q hi (dn_sub d2 ha) ?_ ?_, k2⟩⟩
    · rw [v1, g1]; split <;> grind
    · rw [v1, g1]; split <;> grind
    · rw [v2, g2, sl]; split <;> grind
    · rw [v2, g2, sl]; split <;> grind
/-- a time of a stage -/
structure Ti (i : Nat) (W : Rat) (t : Fr) : Prop where
  d : Dn (EE i) t
  nn : 0 ≤ val t
  hi : val t ≤ W
theorem ti_tq {i : Nat} (hi : i ≤ 20) {r : List Sr} (h : SxL i r) (hl : r.length ≤ 100) {W : Rat} (hW : W ≤ ((VV i : Nat) : Rat)) {t : Fr} (ht : Ti i W t) : Tq r t := by
  have z1 : Dn (EE i) ((0, 1) : Fr) := dn_of ⟨by decide, by decide⟩ ⟨(EE i : Int), by simp⟩
  have tv := sx_tot100 h hl
  have v := v_nn i
  have a := ht.nn
  have b := ht.hi
  obtain ⟨k1, k2⟩ := ab_of hi r (0, 1) t h z1 ht.d (by rw [val_01]; exact Rat.le_refl) (by rw [val_01]; grind) a (by grind)
  exact ⟨stage_q hi ht.d (by grind) (by grind), a, k1, k2⟩
theorem totF_dn {i : Nat} : ∀ (r : List Sr) (a : Fr), SxL i r → Dn (EE i) a → Dn (EE i) (totF a r)
  | [], a, _, h => h
  | s :: r, a, h, ha => totF_dn r _ h.tail (dn_sum ha (sx_last (h s (by simp))).1)
/-- what is shown at a stage, normal -/
theorem nq_one {i : Nat} (hi : i ≤ 20) {r : List Sr} (h : SxL i r) (hl : r.length ≤ 100) : Nq (oneF [] r) ∧ SxL i (oneF [] r) ∧ tot (oneF [] r) = tot r := by
  obtain ⟨k1, k2⟩ := sx_one r [] (fun s hs => nomatch hs) h
  have k2 : tot (oneF [] r) = 0 + tot r := k2
  have ol := (oneF_ord r [] (fun s hs => nomatch hs) (cn_ord (SxL.cn h))).2
  have z1 : Dn (EE i) ((0, 1) : Fr) := dn_of ⟨by decide, by decide⟩ ⟨(EE i : Int), by simp⟩
  have lv : val (lenF (oneF [] r)) = tot (oneF [] r) := by rw [(totF_cn _ (0, 1) (SxL.cn k1) (by decide)).2, val_01]; grind
  exact ⟨⟨fun s hs => sx_sq hi (k1 s hs), sx_ac hi _ _ k1 z1 (by rw [val_01]; exact Rat.le_refl) (by rw [val_01, k2]; have := sx_tot100 h hl; grind), by simp at ol; omega, ti_tq hi k1 (by simp at ol; omega) (by rw [k2]; have := sx_tot100 h hl; grind) (W := tot (oneF [] r)) ⟨totF_dn _ _ k1 z1, by rw [lv]; exact (sx_tot k1).1, by rw [lv]; exact Rat.le_refl⟩, ti_tq hi k1 (by simp at ol; omega) (v_nn i) ⟨z1, by rw [val_01]; exact Rat.le_refl, by rw [val_01]; exact Rat.le_refl⟩⟩, k1, by rw [k2]; grind⟩
theorem ac_raw {i : Nat} (hi : i ≤ 20) {r : List Sr} (h : SxL i r) (hl : r.length ≤ 100) : SqL r ∧ Ac (0, 1) r := by
  have z1 : Dn (EE i) ((0, 1) : Fr) := dn_of ⟨by decide, by decide⟩ ⟨(EE i : Int), by simp⟩
  exact ⟨fun s hs => sx_sq hi (h s hs), sx_ac hi _ _ h z1 (by rw [val_01]; exact Rat.le_refl) (by rw [val_01]; have := sx_tot100 h hl; grind)⟩
theorem tx_q {i : Nat} (hi : i ≤ 20) {r : List Sr} (h : SxL i r) (hl : r.length ≤ 100) {t : Fr} (ht : Ti i (tot r) t) : Tq (oneF [] r) t ∧ Sb t r := by
  obtain ⟨k1, k2⟩ := sx_one r [] (fun s hs => nomatch hs) h
  have ol := (oneF_ord r [] (fun s hs => nomatch hs) (cn_ord (SxL.cn h))).2
  have tv := sx_tot100 h hl
  have v := v_nn i
  have a := ht.nn
  have b := ht.hi
  exact ⟨ti_tq hi k1 (by simp at ol; omega) (W := tot r) (by grind) ht, sx_sb hi r t h ht.d (by grind) (by grind)⟩
/-- the pieces of a stage -/
theorem sx_cut {i : Nat} : ∀ (r : List Sr) (b e : Fr), SxL i r → Dn (EE i) b → Dn (EE i) e → ∀ s ∈ cutF r b e, Sx (DD (i + 1)) (i + 1) s
  | [], b, e, _, _, _ => fun s hs => nomatch hs
  | s :: r, b, e, h, hb, he => by
    have hs := h s (by simp)
    have hc := hs.cnS
    obtain ⟨l1, l2, l3⟩ := sx_last hs
    intro x hx
    rw [cutF_cons] at hx
    rcases List.mem_append.mp hx with q | q
    · unfold piece at q
      split at q
      · rename_i c
        simp only [List.mem_cons, List.not_mem_nil, or_false] at q
        subst q
        have z1 : Dn (EE i) ((0, 1) : Fr) := dn_of ⟨by decide, by decide⟩ ⟨(EE i : Int), by simp⟩
        have d1 : Dn (EE i) (lo0 b) := by unfold lo0; split <;> assumption
        have d2 : Dn (EE i) (hi0 e (lastF s)) := by unfold hi0; split <;> assumption
        have w1 := lo0_val hb.cn.1
        have w2 := hi0_val he.cn.1 l1.cn.1
        have c' := (flt_iff d1.cn.1 d2.cn.1).mp c
        have m1 := dn_mul d1 hs.p.d
        have m2 := dn_mul d2 hs.p.d
        have sb : Dn (EE i * 2520 ^ (i + 1)) s.b := dn_up (dn_sb hs.b)
        have v1 := val_sum sb.cn.1 m1.cn.1
        have v2 := val_sum sb.cn.1 m2.cn.1
        rw [val_mul d1.cn.1 hc.p] at v1
        rw [val_mul d2.cn.1 hc.p] at v2
        have x0 : 0 ≤ val (lo0 b) := by rw [w1]; split <;> grind
        have y1 : val (hi0 e (lastF s)) ≤ val (lastF s) := by rw [w2]; split <;> grind
        have k1 := Rat.mul_nonneg x0 (Rat.le_of_lt hc.pp)
        have k2 := Rat.mul_le_mul_of_nonneg_right y1 (Rat.le_of_lt hc.pp)
        have k3 : val (lastF s) * val s.p = val s.e - val s.b := by rw [hc.last.2.1, rdiv_mul hc.pp]
        have k4 := Rat.mul_lt_mul_of_pos_right c' hc.pp
        have nb := hs.nb
        have hi := hs.hi
        refine ⟨dn_sum sb m1, dn_sum sb m2, hs.p, ?_, ?_, ?_⟩
        · show val (fsum s.b (fmul (lo0 b) s.p)) < val (fsum s.b (fmul (hi0 e (lastF s)) s.p)); rw [v1, v2]; grind
        · show 0 ≤ val (fsum s.b (fmul (lo0 b) s.p)); rw [v1]; grind
        · show val (fsum s.b (fmul (hi0 e (lastF s)) s.p)) ≤ 1000; rw [v2]; grind
      · cases q
    · exact sx_cut r _ _ h.tail (dn_sub hb l1) (dn_sub he l1) x q
theorem sx_up {i : Nat} {s : Sr} (h : Sx (DD (i + 1)) (i + 1) s) : Sx (DD (i + 1)) (i + 1 + 1) s := ⟨h.b, h.e, px_up h.p, h.lt, h.nb, h.hi⟩
theorem sx_pac {i : Nat} {f : Fr} (hf : Px 1 f) {r : List Sr} (h : ∀ s ∈ r, Sx (DD (i + 1)) (i + 1) s) : SxL (i + 1) (pacF r f) := fun s hs => by
  obtain ⟨x, hx, rfl⟩ := List.mem_map.mp hs
  have k := h x hx
  exact ⟨k.b, k.e, px_mul k.p hf, k.lt, k.nb, k.hi⟩
theorem px_ups : ∀ (j : Nat) {p : Fr}, Px 1 p → Px (j + 1) p
  | 0, p, h => h
  | j + 1, p, h => px_up (px_ups j h)
theorem sxn_sx {n : Nat} (hn : n ≤ 6) (i : Nat) {s : Sr} (h : SxN n s) : Sx (DD i) (i + 1) s := ⟨dn_L i h.b, dn_L i h.t.e, px_ups i h.t.p, h.t.lt, h.nb, by
  have h1 := h.hi
  have h2 := natCast_le hn
  have h3 : ((6 : Nat) : Rat) = 6 := rfl
  rw [h3] at h2
  grind⟩
end Dv

namespace Dv
open PySem PySem.Spec PyProof.Rows L2
local macro_rules | `(tactic| walk_at "ev") => `(tactic| try simp (disch := omega) only [sSeq_eq, seq_nx, seq_rt, seq_rto, seq_xc, seq_bk, seq_ct, seq_ite, sAsg, sAsgO, sExpr, sRet, sRetO, sRetN, sIf, sNext, uVar, uC, uUn, uBin, uB, uNot, uAnd, uOr, uTV, uAndV, uOrV, uNotV, uIf, uChain, uNil, uCons, uTup, uLst, uLstO, uFn, uFnO, uFz, uMv, uNew, uCall, uCallO, uCallN, uBinV, uBinW, uBinL, uMeO, uMeL, uFnV, sSetL, sAsgG, gN, gT2, gT3, gT4, iLst, iFn,   bind_ok, bind_xc, of_ok, of_xc, res_ok, res_xc, res0_ok, own_ok, own_xc, fr_nx, fr_rt, fr_rto, fr_xc, fo_rto, fo_xc, liftO_some, dBool_bl, items_lst, items_frz, ent, defU, defO, List.map_cons, List.map_nil, List.length_cons, List.length_nil, List.cons_append, List.nil_append, List.append_nil, List.replicate, List.getElem?_cons_zero, List.getElem?_cons_succ, List.set_cons_zero, List.set_cons_succ, Nat.zero_add, Nat.reduceAdd, Nat.reduceSub, Nat.reduceLeDiff,   le_big, lt_big, atN_zero, atN_one, atN_two, atN_three, setN_zero, setN_one, popAt_zero, len_zero, len_succ, dMul_r, dMul_l, dDiv_pos, dMod_pos, dAdd_int, dSub_int, dNeg_int, dLt_int, dLe_int, dGt_int, dGe_int, dEq_int, dNe_int, dEq_bl, dNe_bl, dEq_nil, dNe_nil, dIx_lst, dIx_tup, fAbs_int, fInt_bl, fInt_int, fLen_lst, fLen_frz, fLen_tup, ite_true, ite_false, if_true, if_false, Bool.not_true, Bool.not_false, decide_true, decide_false, Bool.true_eq_false, Bool.false_eq_true, reduceIte, reduceCtorEq, turn_nx, turn_ct, turn_bk, turn_rt, turn_rto, turn_xc, sFor_eq, goL_nil, eq_self])
local macro_rules | `(tactic| walk_at "evs") => `(tactic| try simp (disch := omega) only [sSeq_eq, seq_nx, seq_rt, seq_rto, seq_xc, seq_bk, seq_ct, seq_ite, sAsg, sAsgO, sExpr, sRet, sRetO, sRetN, sIf, sNext, uVar, uC, uUn, uBin, uB, uNot, uAnd, uOr, uTV, uAndV, uOrV, uNotV, uIf, uChain, uNil, uCons, uTup, uLst, uLstO, uFn, uFnO, uFz, uMv, uNew, uCall, uCallO, uCallN, uBinV, uBinW, uBinL, uMeO, uMeL, uFnV, sSetL, sAsgG, gN, gT2, gT3, gT4, iLst, iFn,   bind_ok, bind_xc, of_ok, of_xc, res_ok, res_xc, res0_ok, own_ok, own_xc, fr_nx, fr_rt, fr_rto, fr_xc, fo_rto, fo_xc, liftO_some, dBool_bl, items_lst, items_frz, ent, defU, defO, List.map_cons, List.map_nil, List.length_cons, List.length_nil, List.cons_append, List.nil_append, List.append_nil, List.replicate, List.getElem?_cons_zero, List.getElem?_cons_succ, List.set_cons_zero, List.set_cons_succ, Nat.zero_add, Nat.reduceAdd, Nat.reduceSub, Nat.reduceLeDiff,   le_big, lt_big, atN_zero, atN_one, atN_two, atN_three, setN_zero, setN_one, popAt_zero, len_zero, len_succ, dMul_r, dMul_l, dDiv_pos, dMod_pos, dAdd_int, dSub_int, dNeg_int, dLt_int, dLe_int, dGt_int, dGe_int, dEq_int, dNe_int, dEq_bl, dNe_bl, dEq_nil, dNe_nil, dIx_lst, dIx_tup, fAbs_int, fInt_bl, fInt_int, fLen_lst, fLen_frz, fLen_tup, ite_true, ite_false, if_true, if_false, Bool.not_true, Bool.not_false, decide_true, decide_false, Bool.true_eq_false, Bool.false_eq_true, reduceIte, reduceCtorEq, turn_nx, turn_ct, turn_bk, turn_rt, turn_rto, turn_xc, sFor_eq, goL_nil, eq_self, *])
local macro_rules | `(tactic| walk_at "evt") => `(tactic| try simp (disch := first | omega | (simp only [List.length_append, List.length_cons, List.length_nil, List.length_map]; omega)) only [sSeq_eq, seq_nx, seq_rt, seq_rto, seq_xc, seq_bk, seq_ct, seq_ite, sAsg, sAsgO, sExpr, sRet, sRetO, sRetN, sIf, sNext, uVar, uC, uUn, uBin, uB, uNot, uAnd, uOr, uTV, uAndV, uOrV, uNotV, uIf, uChain, uNil, uCons, uTup, uLst, uLstO, uFn, uFnO, uFz, uMv, uNew, uCall, uCallO, uCallN, uBinV, uBinW, uBinL, uMeO, uMeL, uFnV, sSetL, sAsgG, gN, gT2, gT3, gT4, iLst, iFn,   bind_ok, bind_xc, of_ok, of_xc, res_ok, res_xc, res0_ok, own_ok, own_xc, fr_nx, fr_rt, fr_rto, fr_xc, fo_rto, fo_xc, liftO_some, dBool_bl, items_lst, items_frz, ent, defU, defO, List.map_cons, List.map_nil, List.length_cons, List.length_nil, List.cons_append, List.nil_append, List.append_nil, List.replicate, List.getElem?_cons_zero, List.getElem?_cons_succ, List.set_cons_zero, List.set_cons_succ, Nat.zero_add, Nat.reduceAdd, Nat.reduceSub, Nat.reduceLeDiff,   le_big, lt_big, atN_zero, atN_one, atN_two, atN_three, setN_zero, setN_one, popAt_zero, len_zero, len_succ, dMul_r, dMul_l, dDiv_pos, dMod_pos, dAdd_int, dSub_int, dNeg_int, dLt_int, dLe_int, dGt_int, dGe_int, dEq_int, dNe_int, dEq_bl, dNe_bl, dEq_nil, dNe_nil, dIx_lst, dIx_tup, fAbs_int, fInt_bl, fInt_int, fLen_lst, fLen_frz, fLen_tup, ite_true, ite_false, if_true, if_false, Bool.not_true, Bool.not_false, decide_true, decide_false, Bool.true_eq_false, Bool.false_eq_true, reduceIte, reduceCtorEq, turn_nx, turn_ct, turn_bk, turn_rt, turn_rto, turn_xc, sFor_eq, goL_nil, eq_self, sRaise, gT2, gT3, gT4, sAsgG, uM1, uOrS, uSlS, uSlW, uCatV, uPart, uNoPart, iStrU, k_colon, k_blank, k_line, k_f, k_s, k_0, k_empty, k_digits, k_abc, k_alpha, k_cue, k_from, k_to, k_at, k_two, k_fto, k_nl, k_a1, dAdd_tx, fLen_tx, fStr_nat, dEq_tx, dNe_tx, dEq_txn, dNe_txn, len_tx, cutS_l1, cutS_b1, cutS_ln, cutS_bn, dIx_tx0, *])
local macro_rules | `(tactic| walk_at "evx") => `(tactic| try simp (disch := first | omega | (simp only [List.length_append, List.length_cons, List.length_nil, List.length_map]; omega)) only [sSeq_eq, seq_nx, seq_rt, seq_rto, seq_xc, seq_bk, seq_ct, seq_ite, sAsg, sAsgO, sExpr, sRet, sRetO, sRetN, sIf, sNext, uVar, uC, uUn, uBin, uB, uNot, uAnd, uOr, uTV, uAndV, uOrV, uNotV, uIf, uChain, uNil, uCons, uTup, uLst, uLstO, uFn, uFnO, uFz, uMv, uNew, uCall, uCallO, uCallN, uBinV, uBinW, uBinL, uMeO, uMeL, uFnV, sSetL, sAsgG, gN, gT2, gT3, gT4, iLst, iFn,   bind_ok, bind_xc, of_ok, of_xc, res_ok, res_xc, res0_ok, own_ok, own_xc, fr_nx, fr_rt, fr_rto, fr_xc, fo_rto, fo_xc, liftO_some, dBool_bl, items_lst, items_frz, ent, defU, defO, List.map_cons, List.map_nil, List.length_cons, List.length_nil, List.cons_append, List.nil_append, List.append_nil, List.replicate, List.getElem?_cons_zero, List.getElem?_cons_succ, List.set_cons_zero, List.set_cons_succ, Nat.zero_add, Nat.reduceAdd, Nat.reduceSub, Nat.reduceLeDiff,   le_big, lt_big, atN_zero, atN_one, atN_two, atN_three, setN_zero, setN_one, popAt_zero, len_zero, len_succ, dMul_r, dMul_l, dDiv_pos, dMod_pos, dAdd_int, dSub_int, dNeg_int, dLt_int, dLe_int, dGt_int, dGe_int, dEq_int, dNe_int, dEq_bl, dNe_bl, dEq_nil, dNe_nil, dIx_lst, dIx_tup, fAbs_int, fInt_bl, fInt_int, fLen_lst, fLen_frz, fLen_tup, ite_true, ite_false, if_true, if_false, Bool.not_true, Bool.not_false, decide_true, decide_false, Bool.true_eq_false, Bool.false_eq_true, reduceIte, reduceCtorEq, turn_nx, turn_ct, turn_bk, turn_rt, turn_rto, turn_xc, sFor_eq, goL_nil, eq_self, sRaise, gT2, gT3, gT4, sAsgG, see_bl, see_int, see_non, see_tup, see_lst, see_str, uBinX, uUnX, uFnX, uFld, sFldU, uMeth, uMethO, uMake, uCatX, uRev, uMethN, uFrzI, uSlV, uM1, uOrS, uSlS, uSlW, uCatV, uPart, uNoPart, iStrU, k_colon, k_blank, k_line, k_f, k_s, k_0, k_empty, k_digits, k_abc, k_alpha, k_cue, k_from, k_to, k_at, k_two, k_fto, k_nl, k_a1, dAdd_tx, fLen_tx, fStr_nat, dEq_tx, dNe_tx, dEq_txn, dNe_txn, len_tx, cutS_l1, cutS_b1, cutS_ln, cutS_bn, dIx_tx0, *])
/-! ### times of a stage, drawn -/
theorem sx_last0 {i : Nat} {s : Sr} (h : Sx (DD i) (i + 1) s) : Dn (DD i * 2520 ^ (i + 1)) (lastF s) := by
  have hc := h.cnS
  unfold lastF
  exact dn_div (dn_sub h.e h.b) hc.p hc.p1 h.p.i
theorem tot_dn {i : Nat} : ∀ (r : List Sr) (a : Fr), SxL i r → Dn (DD i * 2520 ^ (i + 1)) a → Dn (DD i * 2520 ^ (i + 1)) (totF a r)
  | [], a, _, h => h
  | s :: r, a, h, ha => tot_dn r _ h.tail (dn_sum ha (sx_last0 (h s (by simp))))
theorem part_dn {k d : Int} (h0 : 0 ≤ k) (h1 : k ≤ d) (hd : d = 11 ∨ d = 100) : Dn 1100 (mk k d) ∧ 0 ≤ val (mk k d) ∧ val (mk k d) ≤ 1 ∧ Q (mk k d) := by
  have dp : 0 < d := by omega
  have v : val (mk k d) = (k : Rat) / (d : Rat) := val_mk (by omega)
  have cd := cast_pos dp
  have dv : d ∣ 1100 := by rcases hd with rfl | rfl <;> decide
  obtain ⟨m, hm⟩ := dv
  have e : ((1100 : Nat) : Rat) = (d : Rat) * (m : Rat) := by
    have : (((1100 : Nat) : Int) : Rat) = ((d * m : Int) : Rat) := by
      have : ((1100 : Nat) : Int) = d * m := hm
      rw [this]
    rw [Rat.intCast_mul] at this
    exact this
  refine ⟨⟨mk_cn (by omega), k * m, ?_⟩, val_nn_mk dp h0, ?_, ?_⟩
  · rw [v, e, Rat.intCast_mul, Rat.div_def, Rat.mul_assoc, ← Rat.mul_assoc (d : Rat)⁻¹, Rat.inv_mul_cancel _ (by grind)]
    grind
  · rw [v, ← Rat.not_lt, Rat.lt_div_iff cd, Rat.not_lt, Rat.one_mul]
    exact Rat.intCast_le_intCast.mpr h1
  · have := bd_mk (N := 8) (t := k) (b := d) (by omega) (by have : (2 : Nat) ^ 8 = 256 := by decide
                                                            omega) (by have : (2 : Nat) ^ 8 = 256 := by decide
                                                                       omega)
    exact this.mono (by decide)
theorem within_x {i : Nat} (hi : i ≤ 20) {r : List Sr} (hr : SxL i r) (hl : r.length ≤ 100) (b : Box) (rest : Om) : ∃ t b', S_law_within [.loc 1, encF (lenF r)] (bom b rest) = .ok (encF t) (bom b' rest) ∧ Ti i (tot r) t := by
  have z1 : Dn (DD i * 2520 ^ (i + 1)) ((0, 1) : Fr) := dn_of ⟨by decide, by decide⟩ ⟨_, (Int.one_mul _).symm⟩
  have wd := tot_dn r (0, 1) hr z1
  have wv : val (lenF r) = tot r := by rw [(totF_cn r (0, 1) (SxL.cn hr) (by decide)).2, val_01]; grind
  obtain ⟨sq, ac⟩ := ac_raw hi hr hl
  have wq := totF_ac r (0, 1) ac
  have t0 := (sx_tot hr).1
  have e1 := take_eq (m := 13) b rest (by decide) (by decide)
  have e2 := take_eq (m := 101) (tkn 13 b) rest (by decide) (by decide)
  have b1 := tkv_nn (m := 13) b (by decide)
  have c1 := tkv_lt (m := 13) b (by decide)
  have b2 := tkv_nn (m := 101) (tkn 13 b) (by decide)
  have c2 := tkv_lt (m := 101) (tkn 13 b) (by decide)
  have p9 : (2 : Nat) ^ 7 ≤ 2 ^ 9000 := Nat.pow_le_pow_right (by decide) (by decide)
  have p7 : (2 : Nat) ^ 7 = 128 := by decide
  have fin : ∀ t d : Int, 0 ≤ t → t ≤ d → (d = 11 ∨ d = 100) → ∀ om, S_law_fr [.int t, .int d] om = .ok (encF (mk t d)) om ∧ S_law_times [encF (lenF r), encF (mk t d)] om = .ok (encF (fmul (lenF r) (mk t d))) om ∧ Ti i (tot r) (fmul (lenF r) (mk t d)) := fun t d h1 h2 h3 om => by
    obtain ⟨m1, m2, m3, m4⟩ := part_dn h1 h2 h3
    have v := val_mul wd.cn.1 m1.cn.1
    rw [wv] at v
    refine ⟨lfr_eq om (by omega) (by omega), ltimes_eq om wq m4 (by decide), dn_mul wd m1, ?_, ?_⟩
    · rw [v]; exact Rat.mul_nonneg t0 m2
    · rw [v]
      have := Rat.mul_le_mul_of_nonneg_left m3 t0
      grind
  by_cases hd : tkv 13 b = 12
  · obtain ⟨f1, f2, f3⟩ := fin (tkv 101 (tkn 13 b)) 100 b2 (by omega) (.inr rfl) (bom (tkn 101 (tkn 13 b)) rest)
    have d0 : decide (tkv 13 b = 12) = true := decide_eq_true hd
    refine ⟨_, tkn 101 (tkn 13 b), ?_, f3⟩
    clear fin b1 c1 b2 c2 f3 hi hr hl p9 p7 z1 wd wv sq ac wq t0 hd
    unfold S_law_within u_law_within
    walk_at "evx"
  · obtain ⟨f1, f2, f3⟩ := fin (tkv 13 b % 12) 11 (by omega) (by omega) (.inl rfl) (bom (tkn 13 b) rest)
    have d0 : decide (tkv 13 b = 12) = false := decide_eq_false hd
    refine ⟨_, tkn 13 b, ?_, f3⟩
    clear fin b1 c1 b2 c2 f3 hi hr hl p9 p7 z1 wd wv sq ac wq t0 hd
    unfold S_law_within u_law_within
    walk_at "evx"
end Dv

namespace Dv
open PySem PySem.Spec PyProof.Rows L2
local macro_rules | `(tactic| walk_at "ev") => `(tactic| try simp (disch := omega) only [sSeq_eq, seq_nx, seq_rt, seq_rto, seq_xc, seq_bk, seq_ct, seq_ite, sAsg, sAsgO, sExpr, sRet, sRetO, sRetN, sIf, sNext, uVar, uC, uUn, uBin, uB, uNot, uAnd, uOr, uTV, uAndV, uOrV, uNotV, uIf, uChain, uNil, uCons, uTup, uLst, uLstO, uFn, uFnO, uFz, uMv, uNew, uCall, uCallO, uCallN, uBinV, uBinW, uBinL, uMeO, uMeL, uFnV, sSetL, sAsgG, gN, gT2, gT3, gT4, iLst, iFn,   bind_ok, bind_xc, of_ok, of_xc, res_ok, res_xc, res0_ok, own_ok, own_xc, fr_nx, fr_rt, fr_rto, fr_xc, fo_rto, fo_xc, liftO_some, dBool_bl, items_lst, items_frz, ent, defU, defO, List.map_cons, List.map_nil, List.length_cons, List.length_nil, List.cons_append, List.nil_append, List.append_nil, List.replicate, List.getElem?_cons_zero, List.getElem?_cons_succ, List.set_cons_zero, List.set_cons_succ, Nat.zero_add, Nat.reduceAdd, Nat.reduceSub, Nat.reduceLeDiff,   le_big, lt_big, atN_zero, atN_one, atN_two, atN_three, setN_zero, setN_one, popAt_zero, len_zero, len_succ, dMul_r, dMul_l, dDiv_pos, dMod_pos, dAdd_int, dSub_int, dNeg_int, dLt_int, dLe_int, dGt_int, dGe_int, dEq_int, dNe_int, dEq_bl, dNe_bl, dEq_nil, dNe_nil, dIx_lst, dIx_tup, fAbs_int, fInt_bl, fInt_int, fLen_lst, fLen_frz, fLen_tup, ite_true, ite_false, if_true, if_false, Bool.not_true, Bool.not_false, decide_true, decide_false, Bool.true_eq_false, Bool.false_eq_true, reduceIte, reduceCtorEq, turn_nx, turn_ct, turn_bk, turn_rt, turn_rto, turn_xc, sFor_eq, goL_nil, eq_self])
local macro_rules | `(tactic| walk_at "evs") => `(tactic| try simp (disch := omega) only [sSeq_eq, seq_nx, seq_rt, seq_rto, seq_xc, seq_bk, seq_ct, seq_ite, sAsg, sAsgO, sExpr, sRet, sRetO, sRetN, sIf, sNext, uVar, uC, uUn, uBin, uB, uNot, uAnd, uOr, uTV, uAndV, uOrV, uNotV, uIf, uChain, uNil, uCons, uTup, uLst, uLstO, uFn, uFnO, uFz, uMv, uNew, uCall, uCallO, uCallN, uBinV, uBinW, uBinL, uMeO, uMeL, uFnV, sSetL, sAsgG, gN, gT2, gT3, gT4, iLst, iFn,   bind_ok, bind_xc, of_ok, of_xc, res_ok, res_xc, res0_ok, own_ok, own_xc, fr_nx, fr_rt, fr_rto, fr_xc, fo_rto, fo_xc, liftO_some, dBool_bl, items_lst, items_frz, ent, defU, defO, List.map_cons, List.map_nil, List.length_cons, List.length_nil, List.cons_append, List.nil_append, List.append_nil, List.replicate, List.getElem?_cons_zero, List.getElem?_cons_succ, List.set_cons_zero, List.set_cons_succ, Nat.zero_add, Nat.reduceAdd, Nat.reduceSub, Nat.reduceLeDiff,   le_big, lt_big, atN_zero, atN_one, atN_two, atN_three, setN_zero, setN_one, popAt_zero, len_zero, len_succ, dMul_r, dMul_l, dDiv_pos, dMod_pos, dAdd_int, dSub_int, dNeg_int, dLt_int, dLe_int, dGt_int, dGe_int, dEq_int, dNe_int, dEq_bl, dNe_bl, dEq_nil, dNe_nil, dIx_lst, dIx_tup, fAbs_int, fInt_bl, fInt_int, fLen_lst, fLen_frz, fLen_tup, ite_true, ite_false, if_true, if_false, Bool.not_true, Bool.not_false, decide_true, decide_false, Bool.true_eq_false, Bool.false_eq_true, reduceIte, reduceCtorEq, turn_nx, turn_ct, turn_bk, turn_rt, turn_rto, turn_xc, sFor_eq, goL_nil, eq_self, *])
local macro_rules | `(tactic| walk_at "evt") => `(tactic| try simp (disch := first | omega | (simp only [List.length_append, List.length_cons, List.length_nil, List.length_map]; omega)) only [sSeq_eq, seq_nx, seq_rt, seq_rto, seq_xc, seq_bk, seq_ct, seq_ite, sAsg, sAsgO, sExpr, sRet, sRetO, sRetN, sIf, sNext, uVar, uC, uUn, uBin, uB, uNot, uAnd, uOr, uTV, uAndV, uOrV, uNotV, uIf, uChain, uNil, uCons, uTup, uLst, uLstO, uFn, uFnO, uFz, uMv, uNew, uCall, uCallO, uCallN, uBinV, uBinW, uBinL, uMeO, uMeL, uFnV, sSetL, sAsgG, gN, gT2, gT3, gT4, iLst, iFn,   bind_ok, bind_xc, of_ok, of_xc, res_ok, res_xc, res0_ok, own_ok, own_xc, fr_nx, fr_rt, fr_rto, fr_xc, fo_rto, fo_xc, liftO_some, dBool_bl, items_lst, items_frz, ent, defU, defO, List.map_cons, List.map_nil, List.length_cons, List.length_nil, List.cons_append, List.nil_append, List.append_nil, List.replicate, List.getElem?_cons_zero, List.getElem?_cons_succ, List.set_cons_zero, List.set_cons_succ, Nat.zero_add, Nat.reduceAdd, Nat.reduceSub, Nat.reduceLeDiff,   le_big, lt_big, atN_zero, atN_one, atN_two, atN_three, setN_zero, setN_one, popAt_zero, len_zero, len_succ, dMul_r, dMul_l, dDiv_pos, dMod_pos, dAdd_int, dSub_int, dNeg_int, dLt_int, dLe_int, dGt_int, dGe_int, dEq_int, dNe_int, dEq_bl, dNe_bl, dEq_nil, dNe_nil, dIx_lst, dIx_tup, fAbs_int, fInt_bl, fInt_int, fLen_lst, fLen_frz, fLen_tup, ite_true, ite_false, if_true, if_false, Bool.not_true, Bool.not_false, decide_true, decide_false, Bool.true_eq_false, Bool.false_eq_true, reduceIte, reduceCtorEq, turn_nx, turn_ct, turn_bk, turn_rt, turn_rto, turn_xc, sFor_eq, goL_nil, eq_self, sRaise, gT2, gT3, gT4, sAsgG, uM1, uOrS, uSlS, uSlW, uCatV, uPart, uNoPart, iStrU, k_colon, k_blank, k_line, k_f, k_s, k_0, k_empty, k_digits, k_abc, k_alpha, k_cue, k_from, k_to, k_at, k_two, k_fto, k_nl, k_a1, dAdd_tx, fLen_tx, fStr_nat, dEq_tx, dNe_tx, dEq_txn, dNe_txn, len_tx, cutS_l1, cutS_b1, cutS_ln, cutS_bn, dIx_tx0, *])
local macro_rules | `(tactic| walk_at "evx") => `(tactic| try simp (disch := first | omega | (simp only [List.length_append, List.length_cons, List.length_nil, List.length_map]; omega)) only [sSeq_eq, seq_nx, seq_rt, seq_rto, seq_xc, seq_bk, seq_ct, seq_ite, sAsg, sAsgO, sExpr, sRet, sRetO, sRetN, sIf, sNext, uVar, uC, uUn, uBin, uB, uNot, uAnd, uOr, uTV, uAndV, uOrV, uNotV, uIf, uChain, uNil, uCons, uTup, uLst, uLstO, uFn, uFnO, uFz, uMv, uNew, uCall, uCallO, uCallN, uBinV, uBinW, uBinL, uMeO, uMeL, uFnV, sSetL, sAsgG, gN, gT2, gT3, gT4, iLst, iFn,   bind_ok, bind_xc, of_ok, of_xc, res_ok, res_xc, res0_ok, own_ok, own_xc, fr_nx, fr_rt, fr_rto, fr_xc, fo_rto, fo_xc, liftO_some, dBool_bl, items_lst, items_frz, ent, defU, defO, List.map_cons, List.map_nil, List.length_cons, List.length_nil, List.cons_append, List.nil_append, List.append_nil, List.replicate, List.getElem?_cons_zero, List.getElem?_cons_succ, List.set_cons_zero, List.set_cons_succ, Nat.zero_add, Nat.reduceAdd, Nat.reduceSub, Nat.reduceLeDiff,   le_big, lt_big, atN_zero, atN_one, atN_two, atN_three, setN_zero, setN_one, popAt_zero, len_zero, len_succ, dMul_r, dMul_l, dDiv_pos, dMod_pos, dAdd_int, dSub_int, dNeg_int, dLt_int, dLe_int, dGt_int, dGe_int, dEq_int, dNe_int, dEq_bl, dNe_bl, dEq_nil, dNe_nil, dIx_lst, dIx_tup, fAbs_int, fInt_bl, fInt_int, fLen_lst, fLen_frz, fLen_tup, ite_true, ite_false, if_true, if_false, Bool.not_true, Bool.not_false, decide_true, decide_false, Bool.true_eq_false, Bool.false_eq_true, reduceIte, reduceCtorEq, turn_nx, turn_ct, turn_bk, turn_rt, turn_rto, turn_xc, sFor_eq, goL_nil, eq_self, sRaise, gT2, gT3, gT4, sAsgG, see_bl, see_int, see_non, see_tup, see_lst, see_str, uBinX, uUnX, uFnX, uFld, sFldU, uMeth, uMethO, uMake, uCatX, uRev, uMethN, uFrzI, uSlV, uM1, uOrS, uSlS, uSlW, uCatV, uPart, uNoPart, iStrU, k_colon, k_blank, k_line, k_f, k_s, k_0, k_empty, k_digits, k_abc, k_alpha, k_cue, k_from, k_to, k_at, k_two, k_fto, k_nl, k_a1, dAdd_tx, fLen_tx, fStr_nat, dEq_tx, dNe_tx, dEq_txn, dNe_txn, len_tx, cutS_l1, cutS_b1, cutS_ln, cutS_bn, dIx_tx0, *])
/-! ### deeds on shows, raw and normal -/
theorem len_eq {i : Nat} (hi : i ≤ 20) {r : List Sr} (h : SxL i r) (hl : r.length ≤ 100) : lenF (oneF [] r) = lenF r ∧ val (lenF r) = tot r := by
  obtain ⟨_, k1, k2⟩ := nq_one hi h hl
  have z1 : Dn (DD i * 2520 ^ (i + 1)) ((0, 1) : Fr) := dn_of ⟨by decide, by decide⟩ ⟨_, (Int.one_mul _).symm⟩
  have w1 := tot_dn r (0, 1) h z1
  have w2 := tot_dn (oneF [] r) (0, 1) k1 z1
  have v1 := (totF_cn r (0, 1) (SxL.cn h) (by decide)).2
  have v2 := (totF_cn (oneF [] r) (0, 1) (SxL.cn k1) (by decide)).2
  refine ⟨cn_ext w2.cn w1.cn (by rw [v1, v2, k2]), by rw [v1, val_01]; grind⟩
theorem cut1_one {r : List Sr} (h : CnL r) {b e : Fr} (hb : 0 < b.2) (he : 0 < e.2) : cut1 (oneF [] r) b e = oneF [] (cutF r b e) := cut_normal h hb he
theorem out_norm {r : List Sr} (h : CnL r) {t1 t2 W : Fr} (h1 : 0 < t1.2) (h2 : 0 < t2.2) (hW : 0 < W.2) :
    oneF [] (cut1 (oneF [] r) (0, 1) t1 ++ cut1 (oneF [] r) t2 W) = oneF [] (cutF r (0, 1) t1 ++ cutF r t2 W) := by
  rw [cut1_one h (by decide) h1, cut1_one h h2 hW, one_app, one_app_r]
theorem mid_app (A B C : List Sr) : oneF [] (oneF [] A ++ B ++ oneF [] C) = oneF [] (A ++ B ++ C) := by
  rw [one_app_r, List.append_assoc, one_app, List.append_assoc]
theorem into_norm {r : List Sr} (h : CnL r) {t1 t2 W : Fr} (h1 : 0 < t1.2) (h2 : 0 < t2.2) (hW : 0 < W.2) (v1 : val t1 ≤ val t2) (v2 : val t2 ≤ val W) (other : List Sr) :
    oneF [] (cut1 (oneF [] r) (0, 1) t1 ++ other ++ cut1 (oneF [] r) t1 W) = oneF [] (cutF r (0, 1) t1 ++ other ++ cutF r t1 t2 ++ cutF r t2 W) := by
  rw [cut1_one h (by decide) h1, cut1_one h h1 hW, mid_app, List.append_assoc _ (cutF r t1 t2), oneF_app, oneF_app (cutF r (0, 1) t1 ++ other), cut_two r t1 t2 W h h1 h2 hW v1 v2]
theorem fast_norm {r : List Sr} (h : CnL r) {t1 t2 W : Fr} (h1 : 0 < t1.2) (h2 : 0 < t2.2) (hW : 0 < W.2) (f : Fr) :
    oneF [] (cut1 (oneF [] r) (0, 1) t1 ++ pacF (cut1 (oneF [] r) t1 t2) f ++ cut1 (oneF [] r) t2 W) = oneF [] (cutF r (0, 1) t1 ++ pacF (cutF r t1 t2) f ++ cutF r t2 W) := by
  rw [cut1_one h (by decide) h1, cut1_one h h1 h2, cut1_one h h2 hW, mid_app]
  rw [oneF_app, oneF_app, oneF_app, oneF_app, pac_normal]
theorem sxl_app {i : Nat} {a b : List Sr} (ha : SxL i a) (hb : SxL i b) : SxL i (a ++ b) := fun s hs => by
  rcases List.mem_append.mp hs with q | q
  · exact ha s q
  · exact hb s q
theorem sxl_cut {i : Nat} {r : List Sr} (h : SxL i r) {b e : Fr} (hb : Dn (EE i) b) (he : Dn (EE i) e) : SxL (i + 1) (cutF r b e) := fun s hs => sx_up (sx_cut r b e h hb he s hs)
end Dv

namespace Dv
open PySem PySem.Spec PyProof.Rows L2
local macro_rules | `(tactic| walk_at "ev") => `(tactic| try simp (disch := omega) only [sSeq_eq, seq_nx, seq_rt, seq_rto, seq_xc, seq_bk, seq_ct, seq_ite, sAsg, sAsgO, sExpr, sRet, sRetO, sRetN, sIf, sNext, uVar, uC, uUn, uBin, uB, uNot, uAnd, uOr, uTV, uAndV, uOrV, uNotV, uIf, uChain, uNil, uCons, uTup, uLst, uLstO, uFn, uFnO, uFz, uMv, uNew, uCall, uCallO, uCallN, uBinV, uBinW, uBinL, uMeO, uMeL, uFnV, sSetL, sAsgG, gN, gT2, gT3, gT4, iLst, iFn,   bind_ok, bind_xc, of_ok, of_xc, res_ok, res_xc, res0_ok, own_ok, own_xc, fr_nx, fr_rt, fr_rto, fr_xc, fo_rto, fo_xc, liftO_some, dBool_bl, items_lst, items_frz, ent, defU, defO, List.map_cons, List.map_nil, List.length_cons, List.length_nil, List.cons_append, List.nil_append, List.append_nil, List.replicate, List.getElem?_cons_zero, List.getElem?_cons_succ, List.set_cons_zero, List.set_cons_succ, Nat.zero_add, Nat.reduceAdd, Nat.reduceSub, Nat.reduceLeDiff,   le_big, lt_big, atN_zero, atN_one, atN_two, atN_three, setN_zero, setN_one, popAt_zero, len_zero, len_succ, dMul_r, dMul_l, dDiv_pos, dMod_pos, dAdd_int, dSub_int, dNeg_int, dLt_int, dLe_int, dGt_int, dGe_int, dEq_int, dNe_int, dEq_bl, dNe_bl, dEq_nil, dNe_nil, dIx_lst, dIx_tup, fAbs_int, fInt_bl, fInt_int, fLen_lst, fLen_frz, fLen_tup, ite_true, ite_false, if_true, if_false, Bool.not_true, Bool.not_false, decide_true, decide_false, Bool.true_eq_false, Bool.false_eq_true, reduceIte, reduceCtorEq, turn_nx, turn_ct, turn_bk, turn_rt, turn_rto, turn_xc, sFor_eq, goL_nil, eq_self])
local macro_rules | `(tactic| walk_at "evs") => `(tactic| try simp (disch := omega) only [sSeq_eq, seq_nx, seq_rt, seq_rto, seq_xc, seq_bk, seq_ct, seq_ite, sAsg, sAsgO, sExpr, sRet, sRetO, sRetN, sIf, sNext, uVar, uC, uUn, uBin, uB, uNot, uAnd, uOr, uTV, uAndV, uOrV, uNotV, uIf, uChain, uNil, uCons, uTup, uLst, uLstO, uFn, uFnO, uFz, uMv, uNew, uCall, uCallO, uCallN, uBinV, uBinW, uBinL, uMeO, uMeL, uFnV, sSetL, sAsgG, gN, gT2, gT3, gT4, iLst, iFn,   bind_ok, bind_xc, of_ok, of_xc, res_ok, res_xc, res0_ok, own_ok, own_xc, fr_nx, fr_rt, fr_rto, fr_xc, fo_rto, fo_xc, liftO_some, dBool_bl, items_lst, items_frz, ent, defU, defO, List.map_cons, List.map_nil, List.length_cons, List.length_nil, List.cons_append, List.nil_append, List.append_nil, List.replicate, List.getElem?_cons_zero, List.getElem?_cons_succ, List.set_cons_zero, List.set_cons_succ, Nat.zero_add, Nat.reduceAdd, Nat.reduceSub, Nat.reduceLeDiff,   le_big, lt_big, atN_zero, atN_one, atN_two, atN_three, setN_zero, setN_one, popAt_zero, len_zero, len_succ, dMul_r, dMul_l, dDiv_pos, dMod_pos, dAdd_int, dSub_int, dNeg_int, dLt_int, dLe_int, dGt_int, dGe_int, dEq_int, dNe_int, dEq_bl, dNe_bl, dEq_nil, dNe_nil, dIx_lst, dIx_tup, fAbs_int, fInt_bl, fInt_int, fLen_lst, fLen_frz, fLen_tup, ite_true, ite_false, if_true, if_false, Bool.not_true, Bool.not_false, decide_true, decide_false, Bool.true_eq_false, Bool.false_eq_true, reduceIte, reduceCtorEq, turn_nx, turn_ct, turn_bk, turn_rt, turn_rto, turn_xc, sFor_eq, goL_nil, eq_self, *])
local macro_rules | `(tactic| walk_at "evt") => `(tactic| try simp (disch := first | omega | (simp only [List.length_append, List.length_cons, List.length_nil, List.length_map]; omega)) only [sSeq_eq, seq_nx, seq_rt, seq_rto, seq_xc, seq_bk, seq_ct, seq_ite, sAsg, sAsgO, sExpr, sRet, sRetO, sRetN, sIf, sNext, uVar, uC, uUn, uBin, uB, uNot, uAnd, uOr, uTV, uAndV, uOrV, uNotV, uIf, uChain, uNil, uCons, uTup, uLst, uLstO, uFn, uFnO, uFz, uMv, uNew, uCall, uCallO, uCallN, uBinV, uBinW, uBinL, uMeO, uMeL, uFnV, sSetL, sAsgG, gN, gT2, gT3, gT4, iLst, iFn,   bind_ok, bind_xc, of_ok, of_xc, res_ok, res_xc, res0_ok, own_ok, own_xc, fr_nx, fr_rt, fr_rto, fr_xc, fo_rto, fo_xc, liftO_some, dBool_bl, items_lst, items_frz, ent, defU, defO, List.map_cons, List.map_nil, List.length_cons, List.length_nil, List.cons_append, List.nil_append, List.append_nil, List.replicate, List.getElem?_cons_zero, List.getElem?_cons_succ, List.set_cons_zero, List.set_cons_succ, Nat.zero_add, Nat.reduceAdd, Nat.reduceSub, Nat.reduceLeDiff,   le_big, lt_big, atN_zero, atN_one, atN_two, atN_three, setN_zero, setN_one, popAt_zero, len_zero, len_succ, dMul_r, dMul_l, dDiv_pos, dMod_pos, dAdd_int, dSub_int, dNeg_int, dLt_int, dLe_int, dGt_int, dGe_int, dEq_int, dNe_int, dEq_bl, dNe_bl, dEq_nil, dNe_nil, dIx_lst, dIx_tup, fAbs_int, fInt_bl, fInt_int, fLen_lst, fLen_frz, fLen_tup, ite_true, ite_false, if_true, if_false, Bool.not_true, Bool.not_false, decide_true, decide_false, Bool.true_eq_false, Bool.false_eq_true, reduceIte, reduceCtorEq, turn_nx, turn_ct, turn_bk, turn_rt, turn_rto, turn_xc, sFor_eq, goL_nil, eq_self, sRaise, gT2, gT3, gT4, sAsgG, uM1, uOrS, uSlS, uSlW, uCatV, uPart, uNoPart, iStrU, k_colon, k_blank, k_line, k_f, k_s, k_0, k_empty, k_digits, k_abc, k_alpha, k_cue, k_from, k_to, k_at, k_two, k_fto, k_nl, k_a1, dAdd_tx, fLen_tx, fStr_nat, dEq_tx, dNe_tx, dEq_txn, dNe_txn, len_tx, cutS_l1, cutS_b1, cutS_ln, cutS_bn, dIx_tx0, *])
local macro_rules | `(tactic| walk_at "evx") => `(tactic| try simp (disch := first | omega | (simp only [List.length_append, List.length_cons, List.length_nil, List.length_map]; omega)) only [sSeq_eq, seq_nx, seq_rt, seq_rto, seq_xc, seq_bk, seq_ct, seq_ite, sAsg, sAsgO, sExpr, sRet, sRetO, sRetN, sIf, sNext, uVar, uC, uUn, uBin, uB, uNot, uAnd, uOr, uTV, uAndV, uOrV, uNotV, uIf, uChain, uNil, uCons, uTup, uLst, uLstO, uFn, uFnO, uFz, uMv, uNew, uCall, uCallO, uCallN, uBinV, uBinW, uBinL, uMeO, uMeL, uFnV, sSetL, sAsgG, gN, gT2, gT3, gT4, iLst, iFn,   bind_ok, bind_xc, of_ok, of_xc, res_ok, res_xc, res0_ok, own_ok, own_xc, fr_nx, fr_rt, fr_rto, fr_xc, fo_rto, fo_xc, liftO_some, dBool_bl, items_lst, items_frz, ent, defU, defO, List.map_cons, List.map_nil, List.length_cons, List.length_nil, List.cons_append, List.nil_append, List.append_nil, List.replicate, List.getElem?_cons_zero, List.getElem?_cons_succ, List.set_cons_zero, List.set_cons_succ, Nat.zero_add, Nat.reduceAdd, Nat.reduceSub, Nat.reduceLeDiff,   le_big, lt_big, atN_zero, atN_one, atN_two, atN_three, setN_zero, setN_one, popAt_zero, len_zero, len_succ, dMul_r, dMul_l, dDiv_pos, dMod_pos, dAdd_int, dSub_int, dNeg_int, dLt_int, dLe_int, dGt_int, dGe_int, dEq_int, dNe_int, dEq_bl, dNe_bl, dEq_nil, dNe_nil, dIx_lst, dIx_tup, fAbs_int, fInt_bl, fInt_int, fLen_lst, fLen_frz, fLen_tup, ite_true, ite_false, if_true, if_false, Bool.not_true, Bool.not_false, decide_true, decide_false, Bool.true_eq_false, Bool.false_eq_true, reduceIte, reduceCtorEq, turn_nx, turn_ct, turn_bk, turn_rt, turn_rto, turn_xc, sFor_eq, goL_nil, eq_self, sRaise, gT2, gT3, gT4, sAsgG, see_bl, see_int, see_non, see_tup, see_lst, see_str, uBinX, uUnX, uFnX, uFld, sFldU, uMeth, uMethO, uMake, uCatX, uRev, uMethN, uFrzI, uSlV, uM1, uOrS, uSlS, uSlW, uCatV, uPart, uNoPart, iStrU, k_colon, k_blank, k_line, k_f, k_s, k_0, k_empty, k_digits, k_abc, k_alpha, k_cue, k_from, k_to, k_at, k_two, k_fto, k_nl, k_a1, dAdd_tx, fLen_tx, fStr_nat, dEq_tx, dNe_tx, dEq_txn, dNe_txn, len_tx, cutS_l1, cutS_b1, cutS_ln, cutS_bn, dIx_tx0, *])
theorem piece_len (s : Sr) (b e : Fr) : (piece s b e).length = if flt (lo0 b) (hi0 e (lastF s)) = true then 1 else 0 := by
  unfold piece
  split <;> rfl
theorem cut_len : ∀ (r : List Sr) (b m e : Fr), CnL r → 0 < b.2 → 0 < m.2 → 0 < e.2 → val b ≤ val m → val m ≤ val e → (cutF r b m).length + (cutF r m e).length ≤ (cutF r b e).length + 1
  | [], b, m, e, _, _, _, _, _, _ => by simp [cutF]
  | s :: r, b, m, e, h, hb, hm, he, v1, v2 => by
    have hs := h s (by simp)
    have ht : CnL r := fun x hx => h x (by simp [hx])
    obtain ⟨l, _, lp⟩ := hs.last
    by_cases c0 : val m ≤ 0
    · rw [cutF_nil (s :: r) b m h hb hm c0, cutF_lo (s :: r) m b e h hm hb he c0 (by grind)]
      simp
    · have wb := lo0_val hb
      have wm := lo0_val hm
      have um := hi0_val hm l.1
      have ue := hi0_val he l.1
      have pb := lo0_p hb
      have pm := lo0_p hm
      have qm := hi0_p hm l.1
      have qe := hi0_p he l.1
      have sb := cn_sub hb l.1
      have sm := cn_sub hm l.1
      have se := cn_sub he l.1
      have tb := val_sub hb l.1
      have tm := val_sub hm l.1
      have te := val_sub he l.1
      rw [cutF_cons, cutF_cons, cutF_cons, List.length_append, List.length_append, List.length_append, piece_len, piece_len, piece_len]
      by_cases c1 : val m < val (lastF s)
      · rw [cutF_nil r (fsub b (lastF s)) (fsub m (lastF s)) ht sb.1 sm.1 (by rw [tm]; grind), cutF_lo r (fsub m (lastF s)) (fsub b (lastF s)) (fsub e (lastF s)) ht sm.1 sb.1 se.1 (by rw [tm]; grind) (by rw [tb]; grind)]
        have : (if flt (lo0 b) (hi0 m (lastF s)) = true then 1 else 0) + (if flt (lo0 m) (hi0 e (lastF s)) = true then 1 else 0) ≤ (if flt (lo0 b) (hi0 e (lastF s)) = true then 1 else 0) + 1 := by
          by_cases p1 : flt (lo0 b) (hi0 m (lastF s)) = true
          · by_cases p2 : flt (lo0 m) (hi0 e (lastF s)) = true
            · have p3 : flt (lo0 b) (hi0 e (lastF s)) = true := by
                rw [flt_iff pb qm] at p1
                rw [flt_iff pm qe] at p2
                rw [flt_iff pb qe]
                rw [if_pos c1] at um
                rw [if_neg c0] at wm
                grind
              rw [if_pos p1, if_pos p2, if_pos p3]; omega
            · rw [if_neg p2, if_pos p1]; omega
          · rw [if_neg p1]; split <;> omega
        simp only [List.length_nil]
        omega
      · have ih := cut_len r (fsub b (lastF s)) (fsub m (lastF s)) (fsub e (lastF s)) ht sb.1 sm.1 se.1 (by rw [tb, tm]; grind) (by rw [tm, te]; grind)
        have p2 : ¬ flt (lo0 m) (hi0 e (lastF s)) = true := by
          rw [flt_iff pm qe, wm, ue, if_neg c0, if_neg (by grind)]
          grind
        have p1 : flt (lo0 b) (hi0 m (lastF s)) = flt (lo0 b) (hi0 e (lastF s)) := by
          rw [Bool.eq_iff_iff, flt_iff pb qm, flt_iff pb qe, um, ue, if_neg c1, if_neg (by grind)]
        rw [if_neg p2, p1]
        omega
theorem re_bom {Z : Nat → Cell → Prop} {rest : Om} {b : Box} {R E U : Nat} {now : List Sr} {el un : List (List Sr)} (h : Re Z (bom b rest) b R E U now el un) (b' : Box) : Re Z (bom b' rest) b' R E U now el un := by
  have g : ∀ k, 2 ≤ k → (bom b' rest)[k]? = (bom b rest)[k]? := fun k hk => by
    obtain ⟨j, rfl⟩ : ∃ j, k = j + 2 := ⟨k - 2, by omega⟩
    rfl
  exact ⟨⟨rest, rfl⟩, h.r2, h.e2, h.u2, h.re, h.ru, h.eu, by rw [g _ h.r2]; exact h.r, by rw [g _ h.e2]; exact h.e, by rw [g _ h.u2]; exact h.u, fun k c hk => by
    obtain ⟨z1, z2, z3, z4, z5⟩ := h.z k c hk
    exact ⟨z1, z2, z3, z4, by rw [g _ z1]; exact z5⟩⟩
theorem re_app {Z : Nat → Cell → Prop} {om : Om} {b : Box} {R E U : Nat} {now : List Sr} {el un : List (List Sr)} (h : Re Z om b R E U now el un) (c : Cell) : Re Z (om ++ [c]) b R E U now el un := by
  obtain ⟨rest, hb⟩ := h.bx
  refine ⟨⟨rest ++ [c], by rw [hb, bom_app]⟩, h.r2, h.e2, h.u2, h.re, h.ru, h.eu, ?_, ?_, ?_, fun k x hk => ?_⟩
  · rw [List.getElem?_append_left (re_r h)]; exact h.r
  · rw [List.getElem?_append_left (re_e h)]; exact h.e
  · rw [List.getElem?_append_left (re_u h)]; exact h.u
  · obtain ⟨z1, z2, z3, z4, z5⟩ := h.z k x hk
    exact ⟨z1, z2, z3, z4, by rw [List.getElem?_append_left (List.getElem?_eq_some_iff.mp z5).1]; exact z5⟩
def d_lc : UE := (uFz (uLc (iLst (uVar 6)) (gN 13) uYes (uTup (uCons (uBin dIx (uVar 13) (uC (.int 0))) (uCons (uBin dIx (uVar 13) (uC (.int 1))) (uCons (uCallN 2 S_law_times (uCons (uBin dIx (uVar 13) (uC (.int 2))) (uCons (uVar 9) uNil))) uNil)))) [13]))
def d_out : US := (sSeq (sAsg 10 (uNew (uMethO "Reel" "out" 3 S_Reel_out (uVar 1) (uCons (uBin dIx (uVar 4) (uC (.int 0))) (uCons (uBin dIx (uVar 4) (uC (.int 1))) uNil)))))
    (sSeq (sIf (uB (uBinL dNe (uVar 10) (uCall 1 S_law_one (uCons (uVar 6) uNil)))) (sRet (uC .non)) sNext)
    (sSeq (sExpr (uMeL (uVar 10) mClear uNil))
    (sRet (uBin dAdd (uVar 5) (uVar 7))))))
def d_into : US := (sSeq (sAsg 11 (uFz (uSlW (uCall 1 S_law_show (uCons (uVar 0) uNil)) uNoPart (uPart (uC (.int 2))))))
    (sSeq (sAsg 12 (uFz (uFnO fList (uCons (uVar 11) uNil))))
    (sSeq (sIf (uOr (uB (uBin dIsNot (uMeth "Reel" "into" 3 S_Reel_into (uVar 1) (uCons (uBin dIx (uVar 4) (uC (.int 0))) (uCons (uVar 12) uNil))) (uC .non))) (uB (uBin dNe (uVar 12) (uVar 11)))) (sRet (uC .non)) sNext)
    (sRet (uBin dAdd (uBin dAdd (uBin dAdd (uVar 5) (uVar 11)) (uVar 6)) (uVar 7))))))
def d_fast : US := (sSeq (sAsg 9 (uCall 1 S_law_pace (uCons (uVar 0) uNil))) (sSeq (sIf (uB (uBin dIsNot (uMeth "Reel" "faster" 4 S_Reel_faster (uVar 1) (uCons (uBin dIx (uVar 4) (uC (.int 0))) (uCons (uBin dIx (uVar 4) (uC (.int 1))) (uCons (uVar 9) uNil)))) (uC .non))) (sRet (uC .non)) sNext) (sRet (uBin dAdd (uBin dAdd (uVar 5) d_lc) (uVar 7)))))
def d_rest : US := sSeq (sAsg 8 (uCall 2 S_law_take (uCons (uVar 0) (uCons (uC (.int 3)) uNil)))) (sSeq (sIf (uB (uBin dEq (uVar 8) (uC (.int 0)))) d_out sNext) (sSeq (sIf (uB (uBin dEq (uVar 8) (uC (.int 1)))) d_into sNext) d_fast))
def d_cuts : US := (sSeq (sAsg 5 (uCall 3 S_law_cut (uCons (uVar 2) (uCons (uTup (uCons (uC (.int 0)) (uCons (uC (.int 1)) uNil))) (uCons (uBin dIx (uVar 4) (uC (.int 0))) uNil))))) (sSeq (sAsg 6 (uCall 3 S_law_cut (uCons (uVar 2) (uCons (uBin dIx (uVar 4) (uC (.int 0))) (uCons (uBin dIx (uVar 4) (uC (.int 1))) uNil))))) (sAsg 7 (uCall 3 S_law_cut (uCons (uVar 2) (uCons (uBin dIx (uVar 4) (uC (.int 1))) (uCons (uVar 3) uNil)))))))
theorem d_top : u_law_deed = (sSeq (sAsg 3 (uCall 1 S_law_long (uCons (uVar 2) uNil))) (sSeq (sAsg 4 (uLst (uCons (uCall 2 S_law_within (uCons (uVar 0) (uCons (uVar 3) uNil))) (uCons (uCall 2 S_law_within (uCons (uVar 0) (uCons (uVar 3) uNil))) uNil)))) (sSeq (sIf (uB (uCall 2 S_law_low (uCons (uBin dIx (uVar 4) (uC (.int 1))) (uCons (uBin dIx (uVar 4) (uC (.int 0))) uNil)))) (sAsg 4 (uLst (uCons (uBin dIx (uVar 4) (uC (.int 1))) (uCons (uBin dIx (uVar 4) (uC (.int 0))) uNil)))) sNext) (sSeq (sAsg 5 (uCall 3 S_law_cut (uCons (uVar 2) (uCons (uTup (uCons (uC (.int 0)) (uCons (uC (.int 1)) uNil))) (uCons (uBin dIx (uVar 4) (uC (.int 0))) uNil))))) (sSeq (sAsg 6 (uCall 3 S_law_cut (uCons (uVar 2) (uCons (uBin dIx (uVar 4) (uC (.int 0))) (uCons (uBin dIx (uVar 4) (uC (.int 1))) uNil))))) (sSeq (sAsg 7 (uCall 3 S_law_cut (uCons (uVar 2) (uCons (uBin dIx (uVar 4) (uC (.int 1))) (uCons (uVar 3) uNil))))) d_rest)))))) := rfl
/-- a deed's times -/
structure Dd (i : Nat) (r : List Sr) (t1 t2 : Fr) : Prop where
  i5 : i ≤ 19
  h : SxL i r
  l : r.length ≤ 96
  x1 : Ti i (tot r) t1
  x2 : Ti i (tot r) t2
  o : val t1 ≤ val t2
@[reducible] def dR (R : Nat) (r : List Sr) (t1 t2 : Fr) (w : Int) : Rho := [some (.val (.loc 1)), some (.val (.loc R)), some (.val (encL r)), some (.val (encF (lenF r))), some (.val (.lst [encF t1, encF t2])), some (.val (encL (cutF r (0, 1) t1))), some (.val (encL (cutF r t1 t2))), some (.val (encL (cutF r t2 (lenF r)))), some (.val (.int w)), none, none, none, none, none]
theorem addL {a b : List Sr} (h : a.length + b.length ≤ 1000) : dAdd (encL a) (encL b) = some (encL (a ++ b)) := by
  unfold encL dAdd
  dsimp only
  rw [if_pos (Nat.le_trans (m := 1000) (by simp only [List.length_map]; omega) (by decide)), List.map_append]
theorem shp_L (r : List Sr) : shp 64 (.lst (r.map encS)) = true := by
  show shps 63 (r.map encS) = true
  refine shps_all fun d hd => ?_
  obtain ⟨s, _, rfl⟩ := List.mem_map.mp hd
  rfl
theorem px_bd {f : Fr} (h : Px 1 f) : Q f := dn_q (V := 9) h.d (by decide) (by have := h.pos; have : ((9 : Nat) : Rat) = 9 := rfl; rw [this]; grind) (by have := h.hi; have e : ((9 ^ 1 : Nat) : Rat) = 9 := rfl; have : ((9 : Nat) : Rat) = 9 := rfl; rw [e] at *; rw [this]; grind) (Nat.lt_of_lt_of_le (by decide : (9 + 1) * 2520 ^ 1 < 2 ^ 20) (Nat.pow_le_pow_right (by decide) (by decide)))
section
variable {i : Nat} {r : List Sr} {t1 t2 : Fr} (d : Dd i r t1 t2)
include d
theorem dd_w : Dn (DD i * 2520 ^ (i + 1)) (lenF r) ∧ Dn (DD i * 2520 ^ (i + 1)) ((0, 1) : Fr) := by
  have z1 : Dn (DD i * 2520 ^ (i + 1)) ((0, 1) : Fr) := dn_of ⟨by decide, by decide⟩ ⟨_, (Int.one_mul _).symm⟩
  exact ⟨tot_dn r (0, 1) d.h z1, z1⟩
theorem dd_facts (om : Om) : S_law_cut [encL r, encF (0, 1), encF t1] om = .ok (encL (cutF r (0, 1) t1)) om ∧ S_law_cut [encL r, encF t1, encF t2] om = .ok (encL (cutF r t1 t2)) om ∧ S_law_cut [encL r, encF t2, encF (lenF r)] om = .ok (encL (cutF r t2 (lenF r))) om := by
  have hi : i ≤ 20 := by have := d.i5; omega
  have l : r.length ≤ 100 := by have := d.l; omega
  obtain ⟨sq, ac⟩ := ac_raw hi d.h l
  obtain ⟨q1, s1⟩ := tx_q hi d.h l d.x1
  obtain ⟨q2, s2⟩ := tx_q hi d.h l d.x2
  obtain ⟨_, wv⟩ := len_eq hi d.h l
  obtain ⟨wd, z1⟩ := dd_w d
  have t0 := (sx_tot d.h).1
  obtain ⟨_, sw⟩ := tx_q hi d.h l (t := lenF r) ⟨dn_up wd, by rw [wv]; exact t0, by rw [wv]; exact Rat.le_refl⟩
  obtain ⟨_, sz⟩ := tx_q hi d.h l (t := (0, 1)) ⟨dn_up z1, by rw [val_01]; exact Rat.le_refl, by rw [val_01]; exact t0⟩
  exact ⟨lcut_q om r _ _ sq sz s1 (by omega), lcut_q om r _ _ sq s1 s2 (by omega), lcut_q om r _ _ sq s2 sw (by omega)⟩
theorem dd_reel : Nq (oneF [] r) ∧ Tq (oneF [] r) t1 ∧ Tq (oneF [] r) t2 ∧ val t1 ≤ val t2 ∧ val t2 ≤ val (lenF (oneF [] r)) ∧ lenF (oneF [] r) = lenF r ∧ 0 < (lenF r).2 := by
  have hi : i ≤ 20 := by have := d.i5; omega
  have l : r.length ≤ 100 := by have := d.l; omega
  obtain ⟨n, _, _⟩ := nq_one hi d.h l
  obtain ⟨q1, _⟩ := tx_q hi d.h l d.x1
  obtain ⟨q2, _⟩ := tx_q hi d.h l d.x2
  obtain ⟨le, wv⟩ := len_eq hi d.h l
  exact ⟨n, q1, q2, d.o, by rw [le, wv]; exact d.x2.hi, le, (totF_cn r (0, 1) (SxL.cn d.h) (by decide)).1⟩
theorem dd_len : (cutF r (0, 1) t1).length + (cutF r t1 t2).length + (cutF r t2 (lenF r)).length ≤ r.length + 2 := by
  obtain ⟨n, q1, q2, o, v2, le, wp⟩ := dd_reel d
  rw [le] at v2
  have c := SxL.cn d.h
  have l1 := cut_len r t1 t2 (lenF r) c q1.q.p q2.q.p wp o v2
  have l2 := cut_len r (0, 1) t1 (lenF r) c (by decide) q1.q.p wp (by rw [val_01]; exact q1.nn) (by grind)
  have l3 := (cutF_cn r (0, 1) (lenF r) c (by decide) wp).2
  omega
theorem dd_sx : SxL (i + 1) (cutF r (0, 1) t1) ∧ SxL (i + 1) (cutF r t1 t2) ∧ SxL (i + 1) (cutF r t2 (lenF r)) := by
  obtain ⟨wd, z1⟩ := dd_w d
  exact ⟨sxl_cut d.h (dn_up z1) d.x1.d, sxl_cut d.h d.x1.d d.x2.d, sxl_cut d.h d.x2.d (dn_up wd)⟩
variable {Z : Nat → Cell → Prop} {om : Om} {b : Box} {R E U : Nat} {el un : List (List Sr)} (hre : Re Z om b R E U (oneF [] r) el un) (hel : el.length ≤ 900)
include hre hel
@[reducible] def DdEnd (i : Nat) (r : List Sr) (Z : Nat → Cell → Prop) (R E : Nat) (el : List (List Sr)) (f : RS) : Prop := ∃ (r' : List Sr) (om' : Om) (b' : Box) (U' : Nat), f = .rt (encL r') om' ∧ SxL (i + 1) r' ∧ r'.length ≤ r.length + 4 ∧ Re Z om' b' R E U' (oneF [] r') (el ++ [oneF [] r]) []
theorem d_out_eq : DdEnd i r Z R E el (d_out (dR R r t1 t2 0) om) := by
  obtain ⟨n, q1, q2, o, v2, le, wp⟩ := dd_reel d
  obtain ⟨s1, s2, s3⟩ := dd_sx d
  have ll := dd_len d
  have rl := d.l
  have c := SxL.cn d.h
  obtain ⟨om', U', e1, r1⟩ := (out_eq hre n hel q1 q2).2 ⟨o, v2⟩
  rw [le] at r1
  rw [out_norm c q1.q.p q2.q.p wp] at r1
  rw [cut1_one c q1.q.p q2.q.p] at e1
  refine ⟨cutF r (0, 1) t1 ++ cutF r t2 (lenF r), om' ++ [Cell.lst []], b, U', ?_, sxl_app s1 s3, by rw [List.length_append]; omega, re_app r1 _⟩
  have is := isi_re hre "out" rfl
  have f1 := fun om => lone_eq om (cutF r t1 t2) (by omega)
  have a1 := addL (a := cutF r (0, 1) t1) (b := cutF r t2 (lenF r)) (by omega)
  have q1 := dNe_self (shp_L (oneF [] (cutF r t1 t2)))
  have q5 : ∀ xs : List D, mClear xs [] = some (.non, []) := fun xs => rfl
  have g1 : ∀ c, (om' ++ [c])[om'.length]? = some c := fun c => get_end om' c
  have g2 : ∀ c d, (om' ++ [c]).set om'.length d = om' ++ [d] := fun c d => set_end om' c d
  clear hre hel r1 c rl ll s1 s2 s3 n q2 o v2 le wp d
  unfold d_out dR
  unfold encL at *
  generalize (cutF r (0, 1) t1 ++ cutF r t2 (lenF r)).map encS = X1 at *
  generalize (cutF r (0, 1) t1).map encS = X2 at *
  generalize (cutF r t2 (lenF r)).map encS = X3 at *
  generalize (oneF [] (cutF r t1 t2)).map encS = X4 at *
  generalize (cutF r t1 t2).map encS = X5 at *
  generalize r.map encS = X6 at *
  generalize lenF r = L at *
  walk_at "evx"
theorem d_into_eq : DdEnd i r Z R E el (d_into (dR R r t1 t2 1) om) := by
  obtain ⟨n, q1, q2, o, v2, le, wp⟩ := dd_reel d
  obtain ⟨s1, s2, s3⟩ := dd_sx d
  have ll := dd_len d
  have rl := d.l
  have c := SxL.cn d.h
  obtain ⟨rest, rfl⟩ := hre.bx
  obtain ⟨rs, b', e0, h0, l0⟩ := show_eqX b rest
  have h2 := re_bom hre b'
  have so : SxL (i + 1) (rs.take 2) := fun s hs => sxn_sx (Nat.le_refl 6) (i + 1) (h0 s (List.mem_of_mem_take hs))
  have lo : (rs.take 2).length ≤ 2 := by simp; omega
  obtain ⟨om', U', e1, r1⟩ := (into_eq h2 n hel q1 (rs.take 2) (cn_ord (SxL.cn so)) (by omega)).2 (by grind)
  rw [le] at r1
  rw [into_norm c q1.q.p q2.q.p wp o (by rw [← le]; exact v2)] at r1
  refine ⟨cutF r (0, 1) t1 ++ rs.take 2 ++ cutF r t1 t2 ++ cutF r t2 (lenF r), om', b', U', ?_, sxl_app (sxl_app (sxl_app s1 so) s2) s3, by rw [List.length_append, List.length_append, List.length_append]; omega, r1⟩
  have is := isi_re h2 "into" rfl
  have a1 := addL (a := cutF r (0, 1) t1) (b := rs.take 2) (by omega)
  have a2 := addL (a := cutF r (0, 1) t1 ++ rs.take 2) (b := cutF r t1 t2) (by rw [List.length_append]; omega)
  have a3 := addL (a := cutF r (0, 1) t1 ++ rs.take 2 ++ cutF r t1 t2) (b := cutF r t2 (lenF r)) (by rw [List.length_append, List.length_append]; omega)
  have n1 := dNe_self (shp_L (rs.take 2))
  have q4 : ∀ xs : List D, fList [.lst xs] = some xs := fun xs => rfl
  have q5 : dIsNot .non .non = some (.bl false) := rfl
  have ct : cutD (rs.map encS) none (some 2) = (rs.take 2).map encS := by
    unfold cutD
    rw [List.map_take]
    have hx : HT.sIx (rs.map encS).length 0 none = 0 := rfl
    have hy : HT.sIx (rs.map encS).length (rs.map encS).length (some 2) = min 2 (rs.map encS).length := by
      unfold HT.sIx
      simp only [List.length_map]
      rw [if_neg (by decide)]
      omega
    rw [hx, hy, List.drop_zero, Nat.sub_zero]
    rw [List.take_eq_take_iff]
    omega
  have di : ∀ xs : List D, dItems (.lst xs) = some xs := fun xs => rfl
  clear hre hel r1 c rl ll s1 s2 s3 n q1 q2 o v2 le wp d h2 so lo h0 l0
  unfold d_into dR
  unfold encL at *
  generalize (cutF r (0, 1) t1 ++ rs.take 2 ++ cutF r t1 t2 ++ cutF r t2 (lenF r)).map encS = X1 at *
  generalize (cutF r (0, 1) t1 ++ rs.take 2 ++ cutF r t1 t2).map encS = Y1 at *
  generalize (cutF r (0, 1) t1 ++ rs.take 2).map encS = Y2 at *
  generalize (rs.take 2).map encS = Y3 at *
  generalize rs.map encS = Y4 at *
  generalize (cutF r (0, 1) t1).map encS = X2 at *
  generalize (cutF r t2 (lenF r)).map encS = X3 at *
  generalize (cutF r t1 t2).map encS = X5 at *
  generalize r.map encS = X6 at *
  generalize lenF r = L at *
  walk_at "evx"
omit hre hel in
theorem d_lc_eq (om : Om) {f : Fr} (hf : Px 1 f) : d_lc ((dR R r t1 t2 2).set 9 (some (.val (encF f)))) om = .ok (encL (pacF (cutF r t1 t2) f)) ((dR R r t1 t2 2).set 9 (some (.val (encF f)))) om := by
  obtain ⟨_, s2, _⟩ := dd_sx d
  have hi : i + 1 ≤ 20 := by have := d.i5; omega
  have ll := dd_len d
  have rl := d.l
  have hr : ∀ s ∈ cutF r t1 t2, Q s.p := fun s hs => (sx_sq hi (s2 s hs)).bp.mono (by decide)
  have fq := px_bd hf
  unfold d_lc
  show (uFz (uLc _ _ _ _ _)) _ _ = _
  simp only [dR, List.set_cons_succ, List.set_cons_zero]
  generalize hB : cutF r t1 t2 = B at *
  have bl : B.length ≤ 1000 := by omega
  clear hB ll rl hi s2 d hf
  generalize encL (cutF r (0, 1) t1) = X1 at *
  generalize encL (cutF r t2 (lenF r)) = X2 at *
  generalize encL r = X3 at *
  generalize lenF r = L at *
  have g := goC_gen (G := gN 13) (te := uTup (uCons (uBin dIx (uVar 13) (uC (.int 0))) (uCons (uBin dIx (uVar 13) (uC (.int 1))) (uCons (uCallN 2 S_law_times (uCons (uBin dIx (uVar 13) (uC (.int 2))) (uCons (uVar 9) uNil))) uNil)))) (vs := [13]) (ω := om) (ρ := [some (.val (.loc 1)), some (.val (.loc R)), some (.val X3), some (.val (encF L)), some (.val (.lst [encF t1, encF t2])), some (.val X1), some (.val (encL B)), some (.val X2), some (.val (.int 2)), some (.val (encF f)), none, none, none, none])
    (fun d => match d with | .tup [x, y, .tup [.int a, .int b]] => .tup [x, y, encF (fmul (a, b) f)] | _ => .non) (fun d => [some (.val (.loc 1)), some (.val (.loc R)), some (.val X3), some (.val (encF L)), some (.val (.lst [encF t1, encF t2])), some (.val X1), some (.val (encL B)), some (.val X2), some (.val (.int 2)), some (.val (encF f)), none, none, none, some (.val d)]) (B.map encS) [] (fun d hd => by
      obtain ⟨s, hs, rfl⟩ := List.mem_map.mp hd
      have e1 := ltimes_eq om (hr s hs) fq (by decide)
      refine ⟨rfl, ?_, rfl⟩
      show _ = Res.ok (D.tup [encF s.b, encF s.e, encF (fmul s.p f)]) _ _
      clear hd hs hr bl fq
      generalize encL B = X at *
      (try simp only [defO, ent, sRetO] at *); walk_at "evx") (by rw [List.length_map]; simp; exact Nat.le_trans bl (by decide))
  rw [List.nil_append, List.map_map] at g
  have ec : (B.map ((fun d : D => match d with | .tup [x, y, .tup [.int a, .int b]] => D.tup [x, y, encF (fmul (a, b) f)] | _ => .non) ∘ encS)) = (pacF B f).map encS := by
    unfold pacF
    rw [List.map_map]
    rfl
  rw [ec] at g
  clear hr bl ec fq
  unfold uLc
  unfold encL at *
  generalize (pacF B f).map encS = Y at *
  generalize B.map encS = X at *
  simp only [clrs, List.length_cons, List.length_nil, List.map_cons, List.map_nil, List.cons_append, List.nil_append, List.set_cons_succ, List.set_cons_zero]
  walk_at "evx"
theorem d_fast_eq : DdEnd i r Z R E el (d_fast (dR R r t1 t2 2) om) := by
  obtain ⟨n, q1, q2, o, v2, le, wp⟩ := dd_reel d
  obtain ⟨s1, s2, s3⟩ := dd_sx d
  have ll := dd_len d
  have rl := d.l
  have c := SxL.cn d.h
  have hi : i + 1 ≤ 20 := by have := d.i5; omega
  obtain ⟨rest, rfl⟩ := hre.bx
  obtain ⟨f, b', e0, hf⟩ := pace_px b rest
  have h2 := re_bom hre b'
  have fq := px_bd hf
  have pl := d_lc_eq d (R := R) (bom b' rest) hf
  obtain ⟨om', U', e1, r1⟩ := (faster_eq h2 n hel q1 q2 fq (fun s hs => (n.s s hs).bp) (by decide)).2 ⟨o, v2⟩
  have pl2 := d_lc_eq d (R := R) om' hf
  rw [le] at r1
  rw [fast_norm c q1.q.p q2.q.p wp] at r1
  have sp : SxL (i + 1) (pacF (cutF r t1 t2) f) := sx_pac hf (sx_cut r t1 t2 d.h d.x1.d d.x2.d)
  have pln : (pacF (cutF r t1 t2) f).length = (cutF r t1 t2).length := by unfold pacF; rw [List.length_map]
  refine ⟨cutF r (0, 1) t1 ++ pacF (cutF r t1 t2) f ++ cutF r t2 (lenF r), om', b', U', ?_, sxl_app (sxl_app s1 sp) s3, by rw [List.length_append, List.length_append]; omega, r1⟩
  have is := isi_re h2 "faster" rfl
  have a1 := addL (a := cutF r (0, 1) t1) (b := pacF (cutF r t1 t2) f) (by omega)
  have a2 := addL (a := cutF r (0, 1) t1 ++ pacF (cutF r t1 t2) f) (b := cutF r t2 (lenF r)) (by rw [List.length_append]; omega)
  have q5 : dIsNot .non .non = some (.bl false) := rfl
  clear hre hel r1 c rl ll s1 s2 s3 n q1 q2 o v2 le wp d h2 fq sp pln hf hi pl
  unfold d_fast
  unfold dR at *
  unfold encL at *
  simp only [List.set_cons_succ, List.set_cons_zero] at pl2
  generalize d_lc = LC at *
  generalize (cutF r (0, 1) t1 ++ pacF (cutF r t1 t2) f ++ cutF r t2 (lenF r)).map encS = X1 at *
  generalize (cutF r (0, 1) t1 ++ pacF (cutF r t1 t2) f).map encS = Y1 at *
  generalize (pacF (cutF r t1 t2) f).map encS = Y2 at *
  generalize (cutF r (0, 1) t1).map encS = X2 at *
  generalize (cutF r t2 (lenF r)).map encS = X3 at *
  generalize (cutF r t1 t2).map encS = X5 at *
  generalize r.map encS = X6 at *
  generalize lenF r = L at *
  walk_at "evx"
end
theorem dd_way {i : Nat} {r : List Sr} {t1 t2 : Fr} (d : Dd i r t1 t2) {Z : Nat → Cell → Prop} {rest : Om} {b : Box} {R E U : Nat} {el un : List (List Sr)} (hre : Re Z (bom b rest) b R E U (oneF [] r) el un) (hel : el.length ≤ 900) :
    DdEnd i r Z R E el (d_rest ([some (.val (.loc 1)), some (.val (.loc R)), some (.val (encL r)), some (.val (encF (lenF r))), some (.val (.lst [encF t1, encF t2])), some (.val (encL (cutF r (0, 1) t1))), some (.val (encL (cutF r t1 t2))), some (.val (encL (cutF r t2 (lenF r)))), none, none, none, none, none, none]) (bom b rest)) := by
  have e1 := take_eq (m := 3) b rest (by decide) (by decide)
  have n1 := tkv_nn (m := 3) b (by decide)
  have n2 := tkv_lt (m := 3) b (by decide)
  have h2 := re_bom hre (tkn 3 b)
  have o1 := d_out_eq d h2 hel
  have o2 := d_into_eq d h2 hel
  have o3 := d_fast_eq d h2 hel
  have hw : tkv 3 b = 0 ∨ tkv 3 b = 1 ∨ tkv 3 b = 2 := by omega
  have key : ∀ w : Int, tkv 3 b = w → DdEnd i r Z R E el ((sSeq (sIf (uB (uBin dEq (uVar 8) (uC (.int 0)))) d_out sNext) (sSeq (sIf (uB (uBin dEq (uVar 8) (uC (.int 1)))) d_into sNext) d_fast)) (dR R r t1 t2 w) (bom (tkn 3 b) rest)) → DdEnd i r Z R E el (d_rest ([some (.val (.loc 1)), some (.val (.loc R)), some (.val (encL r)), some (.val (encF (lenF r))), some (.val (.lst [encF t1, encF t2])), some (.val (encL (cutF r (0, 1) t1))), some (.val (encL (cutF r t1 t2))), some (.val (encL (cutF r t2 (lenF r)))), none, none, none, none, none, none]) (bom b rest)) := fun w hw hd => by
    unfold d_rest
    rw [hw] at e1
    have : (sAsg 8 (uCall 2 S_law_take (uCons (uVar 0) (uCons (uC (.int 3)) uNil)))) ([some (.val (.loc 1)), some (.val (.loc R)), some (.val (encL r)), some (.val (encF (lenF r))), some (.val (.lst [encF t1, encF t2])), some (.val (encL (cutF r (0, 1) t1))), some (.val (encL (cutF r t1 t2))), some (.val (encL (cutF r t2 (lenF r)))), none, none, none, none, none, none]) (bom b rest) = .nx (dR R r t1 t2 w) (bom (tkn 3 b) rest) := by
      clear hd o1 o2 o3 h2 hre hel d n1 n2 hw
      unfold dR encL
      generalize (cutF r (0, 1) t1).map encS = X2 at *
      generalize (cutF r t2 (lenF r)).map encS = X3 at *
      generalize (cutF r t1 t2).map encS = X5 at *
      generalize r.map encS = X6 at *
      generalize lenF r = L at *
      walk_at "evx"
    rw [sSeq_eq, this, seq_nx]
    exact hd
  obtain ⟨s, g⟩ : ∃ s, s = bom (tkn 3 b) rest := ⟨_, rfl⟩
  rcases hw with hw | hw | hw
  · refine key 0 hw ?_
    obtain ⟨r', om', b', U', k1, k2⟩ := o1
    refine ⟨r', om', b', U', ?_, k2⟩
    rw [← g] at *
    clear k2 o2 o3 h2 hre hel d n1 n2 hw e1 g key
    have d0 : decide ((0 : Int) = 0) = true := rfl
    generalize d_out = DO at *
    generalize d_into = DI at *
    generalize d_fast = DF at *
    unfold dR encL at *
    generalize (cutF r (0, 1) t1).map encS = X2 at *
    generalize (cutF r t2 (lenF r)).map encS = X3 at *
    generalize (cutF r t1 t2).map encS = X5 at *
    generalize r.map encS = X6 at *
    generalize lenF r = L at *
    walk_at "evx"
  · refine key 1 hw ?_
    obtain ⟨r', om', b', U', k1, k2⟩ := o2
    refine ⟨r', om', b', U', ?_, k2⟩
    rw [← g] at *
    clear k2 o1 o3 h2 hre hel d n1 n2 hw e1 g key
    have d0 : decide ((1 : Int) = 0) = false := rfl
    have d1 : decide ((1 : Int) = 1) = true := rfl
    generalize d_out = DO at *
    generalize d_into = DI at *
    generalize d_fast = DF at *
    unfold dR encL at *
    generalize (cutF r (0, 1) t1).map encS = X2 at *
    generalize (cutF r t2 (lenF r)).map encS = X3 at *
    generalize (cutF r t1 t2).map encS = X5 at *
    generalize r.map encS = X6 at *
    generalize lenF r = L at *
    walk_at "evx"
  · refine key 2 hw ?_
    obtain ⟨r', om', b', U', k1, k2⟩ := o3
    refine ⟨r', om', b', U', ?_, k2⟩
    rw [← g] at *
    clear k2 o1 o2 h2 hre hel d n1 n2 hw e1 g key
    have d0 : decide ((2 : Int) = 0) = false := rfl
    have d1 : decide ((2 : Int) = 1) = false := rfl
    generalize d_out = DO at *
    generalize d_into = DI at *
    generalize d_fast = DF at *
    unfold dR encL at *
    generalize (cutF r (0, 1) t1).map encS = X2 at *
    generalize (cutF r t2 (lenF r)).map encS = X3 at *
    generalize (cutF r t1 t2).map encS = X5 at *
    generalize r.map encS = X6 at *
    generalize lenF r = L at *
    walk_at "evx"

/-- a deed -/
theorem deed_eq {i : Nat} (i5 : i ≤ 19) {r : List Sr} (h : SxL i r) (l : r.length ≤ 96) {Z : Nat → Cell → Prop} {om : Om} {b : Box} {R E U : Nat} {el un : List (List Sr)} (hre : Re Z om b R E U (oneF [] r) el un) (hel : el.length ≤ 900) :
    ∃ (r' : List Sr) (om' : Om) (b' : Box) (U' : Nat), S_law_deed [.loc 1, .loc R, encL r] om = .ok (encL r') om' ∧ SxL (i + 1) r' ∧ r'.length ≤ r.length + 4 ∧ Re Z om' b' R E U' (oneF [] r') (el ++ [oneF [] r]) [] := by
  have hi : i ≤ 20 := by omega
  have l100 : r.length ≤ 100 := by omega
  obtain ⟨rest, rfl⟩ := hre.bx
  obtain ⟨sq, ac⟩ := ac_raw hi h l100
  have e1 := llong_q (bom b rest) r sq ac
  obtain ⟨t1, b1, e2, x1⟩ := within_x hi h l100 b rest
  obtain ⟨t2, b2, e3, x2⟩ := within_x hi h l100 b1 rest
  obtain ⟨q1, _⟩ := tx_q hi h l100 x1
  obtain ⟨q2, _⟩ := tx_q hi h l100 x2
  have e4 := llow_eq (bom b2 rest) q2.q q1.q (by decide)
  have h2 := re_bom hre b2
  have fin : ∀ u1 u2 : Fr, Dd i r u1 u2 → (∀ X : D, X = encL r → ∀ tl : US, sSeq (sAsg 3 (uCall 1 S_law_long (uCons (uVar 2) uNil))) (sSeq (sAsg 4 (uLst (uCons (uCall 2 S_law_within (uCons (uVar 0) (uCons (uVar 3) uNil))) (uCons (uCall 2 S_law_within (uCons (uVar 0) (uCons (uVar 3) uNil))) uNil)))) (sSeq (sIf (uB (uCall 2 S_law_low (uCons (uBin dIx (uVar 4) (uC (.int 1))) (uCons (uBin dIx (uVar 4) (uC (.int 0))) uNil)))) (sAsg 4 (uLst (uCons (uBin dIx (uVar 4) (uC (.int 1))) (uCons (uBin dIx (uVar 4) (uC (.int 0))) uNil)))) sNext) tl)) [some (.val (.loc 1)), some (.val (.loc R)), some (.val X), none, none, none, none, none, none, none, none, none, none, none] (bom b rest) =
        tl [some (.val (.loc 1)), some (.val (.loc R)), some (.val X), some (.val (encF (lenF r))), some (.val (.lst [encF u1, encF u2])), none, none, none, none, none, none, none, none, none] (bom b2 rest)) →
      ∃ (r' : List Sr) (om' : Om) (b' : Box) (U' : Nat), S_law_deed [.loc 1, .loc R, encL r] (bom b rest) = .ok (encL r') om' ∧ SxL (i + 1) r' ∧ r'.length ≤ r.length + 4 ∧ Re Z om' b' R E U' (oneF [] r') (el ++ [oneF [] r]) [] := fun u1 u2 d hx => by
    obtain ⟨c1, c2, c3⟩ := dd_facts d (bom b2 rest)
    obtain ⟨r', om', b', U', k1, k2⟩ := dd_way d h2 hel
    refine ⟨r', om', b', U', ?_, k2⟩
    have hx2 := hx _ rfl
    clear hx k2 h2 hel d hre e1 e2 e3 e4 x1 x2 q1 q2 sq ac l h l100 i5 hi
    unfold S_law_deed
    rw [d_top]
    have hd : defU 14 u_law_deed = defU 14 u_law_deed := rfl
    clear hd
    show (defU 14 _) _ _ = _
    simp only [defU, ent, List.length_cons, List.length_nil, Nat.zero_add, Nat.reduceAdd, Nat.reduceSub, List.map_cons, List.map_nil, List.replicate, List.cons_append, List.nil_append, Nat.reduceLeDiff, if_true, reduceIte]
    rw [hx2]
    clear hx2
    generalize d_rest = DR at *
    generalize cutF r (0, 1) u1 = X2 at *
    generalize cutF r u2 (lenF r) = X3 at *
    generalize cutF r u1 u2 = X5 at *
    generalize lenF r = L at *
    generalize encL r = X6 at *
    generalize encL r' = X7 at *
    unfold encL at *
    walk_at "evx"
  cases c : flt t2 t1
  · refine fin t1 t2 ⟨i5, h, l, x1, x2, (flt_false q2.q.p q1.q.p).mp c⟩ fun X hX tl => ?_
    rw [c] at e4
    rw [show S_law_long [.lst (r.map encS)] = S_law_long [X] by rw [hX]] at e1
    clear fin h2 hre h x1 x2 q1 q2 sq ac c hX
    walk_at "evx"
  · refine fin t2 t1 ⟨i5, h, l, x2, x1, Rat.le_of_lt ((flt_iff q2.q.p q1.q.p).mp c)⟩ fun X hX tl => ?_
    rw [c] at e4
    rw [show S_law_long [.lst (r.map encS)] = S_law_long [X] by rw [hX]] at e1
    clear fin h2 hre h x1 x2 q1 q2 sq ac c hX
    walk_at "evx"
end Dv

namespace Dv
open PySem PySem.Spec PyProof.Rows L2
local macro_rules | `(tactic| walk_at "ev") => `(tactic| try simp (disch := omega) only [sSeq_eq, seq_nx, seq_rt, seq_rto, seq_xc, seq_bk, seq_ct, seq_ite, sAsg, sAsgO, sExpr, sRet, sRetO, sRetN, sIf, sNext, uVar, uC, uUn, uBin, uB, uNot, uAnd, uOr, uTV, uAndV, uOrV, uNotV, uIf, uChain, uNil, uCons, uTup, uLst, uLstO, uFn, uFnO, uFz, uMv, uNew, uCall, uCallO, uCallN, uBinV, uBinW, uBinL, uMeO, uMeL, uFnV, sSetL, sAsgG, gN, gT2, gT3, gT4, iLst, iFn,   bind_ok, bind_xc, of_ok, of_xc, res_ok, res_xc, res0_ok, own_ok, own_xc, fr_nx, fr_rt, fr_rto, fr_xc, fo_rto, fo_xc, liftO_some, dBool_bl, items_lst, items_frz, ent, defU, defO, List.map_cons, List.map_nil, List.length_cons, List.length_nil, List.cons_append, List.nil_append, List.append_nil, List.replicate, List.getElem?_cons_zero, List.getElem?_cons_succ, List.set_cons_zero, List.set_cons_succ, Nat.zero_add, Nat.reduceAdd, Nat.reduceSub, Nat.reduceLeDiff,   le_big, lt_big, atN_zero, atN_one, atN_two, atN_three, setN_zero, setN_one, popAt_zero, len_zero, len_succ, dMul_r, dMul_l, dDiv_pos, dMod_pos, dAdd_int, dSub_int, dNeg_int, dLt_int, dLe_int, dGt_int, dGe_int, dEq_int, dNe_int, dEq_bl, dNe_bl, dEq_nil, dNe_nil, dIx_lst, dIx_tup, fAbs_int, fInt_bl, fInt_int, fLen_lst, fLen_frz, fLen_tup, ite_true, ite_false, if_true, if_false, Bool.not_true, Bool.not_false, decide_true, decide_false, Bool.true_eq_false, Bool.false_eq_true, reduceIte, reduceCtorEq, turn_nx, turn_ct, turn_bk, turn_rt, turn_rto, turn_xc, sFor_eq, goL_nil, eq_self])
local macro_rules | `(tactic| walk_at "evs") => `(tactic| try simp (disch := omega) only [sSeq_eq, seq_nx, seq_rt, seq_rto, seq_xc, seq_bk, seq_ct, seq_ite, sAsg, sAsgO, sExpr, sRet, sRetO, sRetN, sIf, sNext, uVar, uC, uUn, uBin, uB, uNot, uAnd, uOr, uTV, uAndV, uOrV, uNotV, uIf, uChain, uNil, uCons, uTup, uLst, uLstO, uFn, uFnO, uFz, uMv, uNew, uCall, uCallO, uCallN, uBinV, uBinW, uBinL, uMeO, uMeL, uFnV, sSetL, sAsgG, gN, gT2, gT3, gT4, iLst, iFn,   bind_ok, bind_xc, of_ok, of_xc, res_ok, res_xc, res0_ok, own_ok, own_xc, fr_nx, fr_rt, fr_rto, fr_xc, fo_rto, fo_xc, liftO_some, dBool_bl, items_lst, items_frz, ent, defU, defO, List.map_cons, List.map_nil, List.length_cons, List.length_nil, List.cons_append, List.nil_append, List.append_nil, List.replicate, List.getElem?_cons_zero, List.getElem?_cons_succ, List.set_cons_zero, List.set_cons_succ, Nat.zero_add, Nat.reduceAdd, Nat.reduceSub, Nat.reduceLeDiff,   le_big, lt_big, atN_zero, atN_one, atN_two, atN_three, setN_zero, setN_one, popAt_zero, len_zero, len_succ, dMul_r, dMul_l, dDiv_pos, dMod_pos, dAdd_int, dSub_int, dNeg_int, dLt_int, dLe_int, dGt_int, dGe_int, dEq_int, dNe_int, dEq_bl, dNe_bl, dEq_nil, dNe_nil, dIx_lst, dIx_tup, fAbs_int, fInt_bl, fInt_int, fLen_lst, fLen_frz, fLen_tup, ite_true, ite_false, if_true, if_false, Bool.not_true, Bool.not_false, decide_true, decide_false, Bool.true_eq_false, Bool.false_eq_true, reduceIte, reduceCtorEq, turn_nx, turn_ct, turn_bk, turn_rt, turn_rto, turn_xc, sFor_eq, goL_nil, eq_self, *])
local macro_rules | `(tactic| walk_at "evt") => `(tactic| try simp (disch := first | omega | (simp only [List.length_append, List.length_cons, List.length_nil, List.length_map]; omega)) only [sSeq_eq, seq_nx, seq_rt, seq_rto, seq_xc, seq_bk, seq_ct, seq_ite, sAsg, sAsgO, sExpr, sRet, sRetO, sRetN, sIf, sNext, uVar, uC, uUn, uBin, uB, uNot, uAnd, uOr, uTV, uAndV, uOrV, uNotV, uIf, uChain, uNil, uCons, uTup, uLst, uLstO, uFn, uFnO, uFz, uMv, uNew, uCall, uCallO, uCallN, uBinV, uBinW, uBinL, uMeO, uMeL, uFnV, sSetL, sAsgG, gN, gT2, gT3, gT4, iLst, iFn,   bind_ok, bind_xc, of_ok, of_xc, res_ok, res_xc, res0_ok, own_ok, own_xc, fr_nx, fr_rt, fr_rto, fr_xc, fo_rto, fo_xc, liftO_some, dBool_bl, items_lst, items_frz, ent, defU, defO, List.map_cons, List.map_nil, List.length_cons, List.length_nil, List.cons_append, List.nil_append, List.append_nil, List.replicate, List.getElem?_cons_zero, List.getElem?_cons_succ, List.set_cons_zero, List.set_cons_succ, Nat.zero_add, Nat.reduceAdd, Nat.reduceSub, Nat.reduceLeDiff,   le_big, lt_big, atN_zero, atN_one, atN_two, atN_three, setN_zero, setN_one, popAt_zero, len_zero, len_succ, dMul_r, dMul_l, dDiv_pos, dMod_pos, dAdd_int, dSub_int, dNeg_int, dLt_int, dLe_int, dGt_int, dGe_int, dEq_int, dNe_int, dEq_bl, dNe_bl, dEq_nil, dNe_nil, dIx_lst, dIx_tup, fAbs_int, fInt_bl, fInt_int, fLen_lst, fLen_frz, fLen_tup, ite_true, ite_false, if_true, if_false, Bool.not_true, Bool.not_false, decide_true, decide_false, Bool.true_eq_false, Bool.false_eq_true, reduceIte, reduceCtorEq, turn_nx, turn_ct, turn_bk, turn_rt, turn_rto, turn_xc, sFor_eq, goL_nil, eq_self, sRaise, gT2, gT3, gT4, sAsgG, uM1, uOrS, uSlS, uSlW, uCatV, uPart, uNoPart, iStrU, k_colon, k_blank, k_line, k_f, k_s, k_0, k_empty, k_digits, k_abc, k_alpha, k_cue, k_from, k_to, k_at, k_two, k_fto, k_nl, k_a1, dAdd_tx, fLen_tx, fStr_nat, dEq_tx, dNe_tx, dEq_txn, dNe_txn, len_tx, cutS_l1, cutS_b1, cutS_ln, cutS_bn, dIx_tx0, *])
local macro_rules | `(tactic| walk_at "evx") => `(tactic| try simp (disch := first | omega | (simp only [List.length_append, List.length_cons, List.length_nil, List.length_map]; omega)) only [sSeq_eq, seq_nx, seq_rt, seq_rto, seq_xc, seq_bk, seq_ct, seq_ite, sAsg, sAsgO, sExpr, sRet, sRetO, sRetN, sIf, sNext, uVar, uC, uUn, uBin, uB, uNot, uAnd, uOr, uTV, uAndV, uOrV, uNotV, uIf, uChain, uNil, uCons, uTup, uLst, uLstO, uFn, uFnO, uFz, uMv, uNew, uCall, uCallO, uCallN, uBinV, uBinW, uBinL, uMeO, uMeL, uFnV, sSetL, sAsgG, gN, gT2, gT3, gT4, iLst, iFn,   bind_ok, bind_xc, of_ok, of_xc, res_ok, res_xc, res0_ok, own_ok, own_xc, fr_nx, fr_rt, fr_rto, fr_xc, fo_rto, fo_xc, liftO_some, dBool_bl, items_lst, items_frz, ent, defU, defO, List.map_cons, List.map_nil, List.length_cons, List.length_nil, List.cons_append, List.nil_append, List.append_nil, List.replicate, List.getElem?_cons_zero, List.getElem?_cons_succ, List.set_cons_zero, List.set_cons_succ, Nat.zero_add, Nat.reduceAdd, Nat.reduceSub, Nat.reduceLeDiff,   le_big, lt_big, atN_zero, atN_one, atN_two, atN_three, setN_zero, setN_one, popAt_zero, len_zero, len_succ, dMul_r, dMul_l, dDiv_pos, dMod_pos, dAdd_int, dSub_int, dNeg_int, dLt_int, dLe_int, dGt_int, dGe_int, dEq_int, dNe_int, dEq_bl, dNe_bl, dEq_nil, dNe_nil, dIx_lst, dIx_tup, fAbs_int, fInt_bl, fInt_int, fLen_lst, fLen_frz, fLen_tup, ite_true, ite_false, if_true, if_false, Bool.not_true, Bool.not_false, decide_true, decide_false, Bool.true_eq_false, Bool.false_eq_true, reduceIte, reduceCtorEq, turn_nx, turn_ct, turn_bk, turn_rt, turn_rto, turn_xc, sFor_eq, goL_nil, eq_self, sRaise, gT2, gT3, gT4, sAsgG, see_bl, see_int, see_non, see_tup, see_lst, see_str, uBinX, uUnX, uFnX, uFld, sFldU, uMeth, uMethO, uMake, uCatX, uRev, uMethN, uFrzI, uSlV, uM1, uOrS, uSlS, uSlW, uCatV, uPart, uNoPart, iStrU, k_colon, k_blank, k_line, k_f, k_s, k_0, k_empty, k_digits, k_abc, k_alpha, k_cue, k_from, k_to, k_at, k_two, k_fto, k_nl, k_a1, dAdd_tx, fLen_tx, fStr_nat, dEq_tx, dNe_tx, dEq_txn, dNe_txn, len_tx, cutS_l1, cutS_b1, cutS_ln, cutS_bn, dIx_tx0, *])
section
variable {Z : Nat → Cell → Prop} {om : Om} {b : Box} {R E U : Nat} {now : List Sr} {el un : List (List Sr)} (h : Re Z om b R E U now el un)
include h
theorem back_nil (hn : el = []) : S_Reel_back [.loc R] om = .xc ⟨"NoDeed", []⟩ om := by
  have g0 := h.r
  have g1 := h.e
  have p1 := rl_e (encL now) (.loc E) (.loc U)
  have d0 : decide ((el.map encL).length = 0) = true := by rw [hn]; rfl
  clear h
  unfold S_Reel_back u_Reel_back
  unfold rlC at *
  generalize el.map encL = X at *
  generalize encL now = NW at *
  unfold uBinL
  walk_at "evx"
theorem back_some {el0 : List (List Sr)} {last : List Sr} (hn : el = el0 ++ [last]) (hu : un.length ≤ 900) : ∃ om' : Om, S_Reel_back [.loc R] om = .ok .non om' ∧ Re Z om' b R E U last el0 (un ++ [now]) := by
  have g0 := h.r
  have g1 := h.e
  have g2 := h.u
  have hR := re_r h
  have hE := re_e h
  have hU := re_u h
  have p1 := rl_e (encL now) (.loc E) (.loc U)
  have p2 := rl_u (encL now) (.loc E) (.loc U)
  have p3 := rl_n (encL now) (.loc E) (.loc U)
  have p4 := rp_n (encL now) (.loc E) (.loc U) (encL last)
  have d0 : decide ((el.map encL).length = 0) = false := by rw [hn]; simp
  have a1 := app_D encL (d := un) now (by omega)
  have a2 : mPop (el.map encL) [] = some (encL last, el0.map encL) := by rw [hn]; exact pop_D encL el0 last
  have k1 : (om.set U (Cell.lst ((un ++ [now]).map encL)))[R]? = some (rlC now E U) := by rw [List.getElem?_set_ne (Ne.symm h.ru)]; exact g0
  have k2 : (om.set U (Cell.lst ((un ++ [now]).map encL)))[E]? = some (Cell.lst (el.map encL)) := by rw [List.getElem?_set_ne (Ne.symm h.eu)]; exact g1
  have k3 : ((om.set U (Cell.lst ((un ++ [now]).map encL))).set E (Cell.lst (el0.map encL)))[R]? = some (rlC now E U) := by rw [List.getElem?_set_ne (Ne.symm h.re)]; exact k1
  refine ⟨((om.set U (Cell.lst ((un ++ [now]).map encL))).set E (Cell.lst (el0.map encL))).set R (rlC last E U), ?_, ?_⟩
  · have i3 : ((3 : Nat) < 900) = True := by simp
    have tt : (True ∧ True) = True := by simp
    clear h hn hu hR hE hU
    unfold S_Reel_back u_Reel_back
    unfold rlC at *
    generalize (un ++ [now]).map encL = UN at *
    generalize un.map encL = UX at *
    generalize el0.map encL = EN at *
    generalize el.map encL = X at *
    generalize encL now = NW at *
    generalize encL last = NL at *
    unfold uBinL
    walk_at "evx"
  · obtain ⟨rest, hb⟩ := h.bx
    refine ⟨?_, h.r2, h.e2, h.u2, h.re, h.ru, h.eu, ?_, ?_, ?_, fun k c hk => ?_⟩
    · rw [hb, bom_set _ _ _ _ h.u2, bom_set _ _ _ _ h.e2, bom_set _ _ _ _ h.r2]
      exact ⟨_, rfl⟩
    · rw [List.getElem?_set_self (by rw [List.length_set, List.length_set]; exact hR)]
    · rw [List.getElem?_set_ne h.re, List.getElem?_set_self (by rw [List.length_set]; exact hE)]
    · rw [List.getElem?_set_ne h.ru, List.getElem?_set_ne h.eu, List.getElem?_set_self hU]
    · obtain ⟨z2, zr, ze, zu, zc⟩ := h.z k c hk
      refine ⟨z2, zr, ze, zu, ?_⟩
      rw [List.getElem?_set_ne (Ne.symm zr), List.getElem?_set_ne (Ne.symm ze), List.getElem?_set_ne (Ne.symm zu)]
      exact zc
end
section
variable {Z : Nat → Cell → Prop} {om : Om} {b : Box} {R E U : Nat} {now : List Sr} {el un : List (List Sr)} (h : Re Z om b R E U now el un)
include h
theorem again_nil (hn : un = []) : S_Reel_again [.loc R] om = .xc ⟨"NoDeed", []⟩ om := by
  have g0 := h.r
  have g1 := h.u
  have p1 := rl_u (encL now) (.loc E) (.loc U)
  have d0 : decide ((un.map encL).length = 0) = true := by rw [hn]; rfl
  clear h
  unfold S_Reel_again u_Reel_again
  unfold rlC at *
  generalize un.map encL = X at *
  generalize encL now = NW at *
  unfold uBinL
  walk_at "evx"
theorem again_some {un0 : List (List Sr)} {last : List Sr} (hn : un = un0 ++ [last]) (hu : el.length ≤ 900) : ∃ om' : Om, S_Reel_again [.loc R] om = .ok .non om' ∧ Re Z om' b R E U last (el ++ [now]) un0 := by
  have g0 := h.r
  have g1 := h.u
  have g2 := h.e
  have hR := re_r h
  have hE := re_e h
  have hU := re_u h
  have p1 := rl_e (encL now) (.loc E) (.loc U)
  have p2 := rl_u (encL now) (.loc E) (.loc U)
  have p3 := rl_n (encL now) (.loc E) (.loc U)
  have p4 := rp_n (encL now) (.loc E) (.loc U) (encL last)
  have d0 : decide ((un.map encL).length = 0) = false := by rw [hn]; simp
  have a1 := app_D encL (d := el) now (by omega)
  have a2 : mPop (un.map encL) [] = some (encL last, un0.map encL) := by rw [hn]; exact pop_D encL un0 last
  have k1 : (om.set E (Cell.lst ((el ++ [now]).map encL)))[R]? = some (rlC now E U) := by rw [List.getElem?_set_ne (Ne.symm h.re)]; exact g0
  have k2 : (om.set E (Cell.lst ((el ++ [now]).map encL)))[U]? = some (Cell.lst (un.map encL)) := by rw [List.getElem?_set_ne h.eu]; exact g1
  have k3 : ((om.set E (Cell.lst ((el ++ [now]).map encL))).set U (Cell.lst (un0.map encL)))[R]? = some (rlC now E U) := by rw [List.getElem?_set_ne (Ne.symm h.ru)]; exact k1
  refine ⟨((om.set E (Cell.lst ((el ++ [now]).map encL))).set U (Cell.lst (un0.map encL))).set R (rlC last E U), ?_, ?_⟩
  · have i3 : ((3 : Nat) < 900) = True := by simp
    have tt : (True ∧ True) = True := by simp
    clear h hn hu hR hE hU
    unfold S_Reel_again u_Reel_again
    unfold rlC at *
    generalize (el ++ [now]).map encL = UN at *
    generalize el.map encL = UX at *
    generalize un0.map encL = EN at *
    generalize un.map encL = X at *
    generalize encL now = NW at *
    generalize encL last = NL at *
    unfold uBinL
    walk_at "evx"
  · obtain ⟨rest, hb⟩ := h.bx
    refine ⟨?_, h.r2, h.e2, h.u2, h.re, h.ru, h.eu, ?_, ?_, ?_, fun k c hk => ?_⟩
    · rw [hb, bom_set _ _ _ _ h.e2, bom_set _ _ _ _ h.u2, bom_set _ _ _ _ h.r2]
      exact ⟨_, rfl⟩
    · rw [List.getElem?_set_self (by rw [List.length_set, List.length_set]; exact hR)]
    · rw [List.getElem?_set_ne h.re, List.getElem?_set_ne (Ne.symm h.eu), List.getElem?_set_self hE]
    · rw [List.getElem?_set_ne h.ru, List.getElem?_set_self (by rw [List.length_set]; exact hU)]
    · obtain ⟨z2, zr, ze, zu, zc⟩ := h.z k c hk
      refine ⟨z2, zr, ze, zu, ?_⟩
      rw [List.getElem?_set_ne (Ne.symm zr), List.getElem?_set_ne (Ne.symm zu), List.getElem?_set_ne (Ne.symm ze)]
      exact zc
end
end Dv

namespace Dv
open PySem PySem.Spec PyProof.Rows L2
local macro_rules | `(tactic| walk_at "ev") => `(tactic| try simp (disch := omega) only [sSeq_eq, seq_nx, seq_rt, seq_rto, seq_xc, seq_bk, seq_ct, seq_ite, sAsg, sAsgO, sExpr, sRet, sRetO, sRetN, sIf, sNext, uVar, uC, uUn, uBin, uB, uNot, uAnd, uOr, uTV, uAndV, uOrV, uNotV, uIf, uChain, uNil, uCons, uTup, uLst, uLstO, uFn, uFnO, uFz, uMv, uNew, uCall, uCallO, uCallN, uBinV, uBinW, uBinL, uMeO, uMeL, uFnV, sSetL, sAsgG, gN, gT2, gT3, gT4, iLst, iFn,   bind_ok, bind_xc, of_ok, of_xc, res_ok, res_xc, res0_ok, own_ok, own_xc, fr_nx, fr_rt, fr_rto, fr_xc, fo_rto, fo_xc, liftO_some, dBool_bl, items_lst, items_frz, ent, defU, defO, List.map_cons, List.map_nil, List.length_cons, List.length_nil, List.cons_append, List.nil_append, List.append_nil, List.replicate, List.getElem?_cons_zero, List.getElem?_cons_succ, List.set_cons_zero, List.set_cons_succ, Nat.zero_add, Nat.reduceAdd, Nat.reduceSub, Nat.reduceLeDiff,   le_big, lt_big, atN_zero, atN_one, atN_two, atN_three, setN_zero, setN_one, popAt_zero, len_zero, len_succ, dMul_r, dMul_l, dDiv_pos, dMod_pos, dAdd_int, dSub_int, dNeg_int, dLt_int, dLe_int, dGt_int, dGe_int, dEq_int, dNe_int, dEq_bl, dNe_bl, dEq_nil, dNe_nil, dIx_lst, dIx_tup, fAbs_int, fInt_bl, fInt_int, fLen_lst, fLen_frz, fLen_tup, ite_true, ite_false, if_true, if_false, Bool.not_true, Bool.not_false, decide_true, decide_false, Bool.true_eq_false, Bool.false_eq_true, reduceIte, reduceCtorEq, turn_nx, turn_ct, turn_bk, turn_rt, turn_rto, turn_xc, sFor_eq, goL_nil, eq_self])
local macro_rules | `(tactic| walk_at "evs") => `(tactic| try simp (disch := omega) only [sSeq_eq, seq_nx, seq_rt, seq_rto, seq_xc, seq_bk, seq_ct, seq_ite, sAsg, sAsgO, sExpr, sRet, sRetO, sRetN, sIf, sNext, uVar, uC, uUn, uBin, uB, uNot, uAnd, uOr, uTV, uAndV, uOrV, uNotV, uIf, uChain, uNil, uCons, uTup, uLst, uLstO, uFn, uFnO, uFz, uMv, uNew, uCall, uCallO, uCallN, uBinV, uBinW, uBinL, uMeO, uMeL, uFnV, sSetL, sAsgG, gN, gT2, gT3, gT4, iLst, iFn,   bind_ok, bind_xc, of_ok, of_xc, res_ok, res_xc, res0_ok, own_ok, own_xc, fr_nx, fr_rt, fr_rto, fr_xc, fo_rto, fo_xc, liftO_some, dBool_bl, items_lst, items_frz, ent, defU, defO, List.map_cons, List.map_nil, List.length_cons, List.length_nil, List.cons_append, List.nil_append, List.append_nil, List.replicate, List.getElem?_cons_zero, List.getElem?_cons_succ, List.set_cons_zero, List.set_cons_succ, Nat.zero_add, Nat.reduceAdd, Nat.reduceSub, Nat.reduceLeDiff,   le_big, lt_big, atN_zero, atN_one, atN_two, atN_three, setN_zero, setN_one, popAt_zero, len_zero, len_succ, dMul_r, dMul_l, dDiv_pos, dMod_pos, dAdd_int, dSub_int, dNeg_int, dLt_int, dLe_int, dGt_int, dGe_int, dEq_int, dNe_int, dEq_bl, dNe_bl, dEq_nil, dNe_nil, dIx_lst, dIx_tup, fAbs_int, fInt_bl, fInt_int, fLen_lst, fLen_frz, fLen_tup, ite_true, ite_false, if_true, if_false, Bool.not_true, Bool.not_false, decide_true, decide_false, Bool.true_eq_false, Bool.false_eq_true, reduceIte, reduceCtorEq, turn_nx, turn_ct, turn_bk, turn_rt, turn_rto, turn_xc, sFor_eq, goL_nil, eq_self, *])
local macro_rules | `(tactic| walk_at "evt") => `(tactic| try simp (disch := first | omega | (simp only [List.length_append, List.length_cons, List.length_nil, List.length_map]; omega)) only [sSeq_eq, seq_nx, seq_rt, seq_rto, seq_xc, seq_bk, seq_ct, seq_ite, sAsg, sAsgO, sExpr, sRet, sRetO, sRetN, sIf, sNext, uVar, uC, uUn, uBin, uB, uNot, uAnd, uOr, uTV, uAndV, uOrV, uNotV, uIf, uChain, uNil, uCons, uTup, uLst, uLstO, uFn, uFnO, uFz, uMv, uNew, uCall, uCallO, uCallN, uBinV, uBinW, uBinL, uMeO, uMeL, uFnV, sSetL, sAsgG, gN, gT2, gT3, gT4, iLst, iFn,   bind_ok, bind_xc, of_ok, of_xc, res_ok, res_xc, res0_ok, own_ok, own_xc, fr_nx, fr_rt, fr_rto, fr_xc, fo_rto, fo_xc, liftO_some, dBool_bl, items_lst, items_frz, ent, defU, defO, List.map_cons, List.map_nil, List.length_cons, List.length_nil, List.cons_append, List.nil_append, List.append_nil, List.replicate, List.getElem?_cons_zero, List.getElem?_cons_succ, List.set_cons_zero, List.set_cons_succ, Nat.zero_add, Nat.reduceAdd, Nat.reduceSub, Nat.reduceLeDiff,   le_big, lt_big, atN_zero, atN_one, atN_two, atN_three, setN_zero, setN_one, popAt_zero, len_zero, len_succ, dMul_r, dMul_l, dDiv_pos, dMod_pos, dAdd_int, dSub_int, dNeg_int, dLt_int, dLe_int, dGt_int, dGe_int, dEq_int, dNe_int, dEq_bl, dNe_bl, dEq_nil, dNe_nil, dIx_lst, dIx_tup, fAbs_int, fInt_bl, fInt_int, fLen_lst, fLen_frz, fLen_tup, ite_true, ite_false, if_true, if_false, Bool.not_true, Bool.not_false, decide_true, decide_false, Bool.true_eq_false, Bool.false_eq_true, reduceIte, reduceCtorEq, turn_nx, turn_ct, turn_bk, turn_rt, turn_rto, turn_xc, sFor_eq, goL_nil, eq_self, sRaise, gT2, gT3, gT4, sAsgG, uM1, uOrS, uSlS, uSlW, uCatV, uPart, uNoPart, iStrU, k_colon, k_blank, k_line, k_f, k_s, k_0, k_empty, k_digits, k_abc, k_alpha, k_cue, k_from, k_to, k_at, k_two, k_fto, k_nl, k_a1, dAdd_tx, fLen_tx, fStr_nat, dEq_tx, dNe_tx, dEq_txn, dNe_txn, len_tx, cutS_l1, cutS_b1, cutS_ln, cutS_bn, dIx_tx0, *])
local macro_rules | `(tactic| walk_at "evx") => `(tactic| try simp (disch := first | omega | (simp only [List.length_append, List.length_cons, List.length_nil, List.length_map]; omega)) only [sSeq_eq, seq_nx, seq_rt, seq_rto, seq_xc, seq_bk, seq_ct, seq_ite, sAsg, sAsgO, sExpr, sRet, sRetO, sRetN, sIf, sNext, uVar, uC, uUn, uBin, uB, uNot, uAnd, uOr, uTV, uAndV, uOrV, uNotV, uIf, uChain, uNil, uCons, uTup, uLst, uLstO, uFn, uFnO, uFz, uMv, uNew, uCall, uCallO, uCallN, uBinV, uBinW, uBinL, uMeO, uMeL, uFnV, sSetL, sAsgG, gN, gT2, gT3, gT4, iLst, iFn,   bind_ok, bind_xc, of_ok, of_xc, res_ok, res_xc, res0_ok, own_ok, own_xc, fr_nx, fr_rt, fr_rto, fr_xc, fo_rto, fo_xc, liftO_some, dBool_bl, items_lst, items_frz, ent, defU, defO, List.map_cons, List.map_nil, List.length_cons, List.length_nil, List.cons_append, List.nil_append, List.append_nil, List.replicate, List.getElem?_cons_zero, List.getElem?_cons_succ, List.set_cons_zero, List.set_cons_succ, Nat.zero_add, Nat.reduceAdd, Nat.reduceSub, Nat.reduceLeDiff,   le_big, lt_big, atN_zero, atN_one, atN_two, atN_three, setN_zero, setN_one, popAt_zero, len_zero, len_succ, dMul_r, dMul_l, dDiv_pos, dMod_pos, dAdd_int, dSub_int, dNeg_int, dLt_int, dLe_int, dGt_int, dGe_int, dEq_int, dNe_int, dEq_bl, dNe_bl, dEq_nil, dNe_nil, dIx_lst, dIx_tup, fAbs_int, fInt_bl, fInt_int, fLen_lst, fLen_frz, fLen_tup, ite_true, ite_false, if_true, if_false, Bool.not_true, Bool.not_false, decide_true, decide_false, Bool.true_eq_false, Bool.false_eq_true, reduceIte, reduceCtorEq, turn_nx, turn_ct, turn_bk, turn_rt, turn_rto, turn_xc, sFor_eq, goL_nil, eq_self, sRaise, gT2, gT3, gT4, sAsgG, see_bl, see_int, see_non, see_tup, see_lst, see_str, uBinX, uUnX, uFnX, uFld, sFldU, uMeth, uMethO, uMake, uCatX, uRev, uMethN, uFrzI, uSlV, uM1, uOrS, uSlS, uSlW, uCatV, uPart, uNoPart, iStrU, k_colon, k_blank, k_line, k_f, k_s, k_0, k_empty, k_digits, k_abc, k_alpha, k_cue, k_from, k_to, k_at, k_two, k_fto, k_nl, k_a1, dAdd_tx, fLen_tx, fStr_nat, dEq_tx, dNe_tx, dEq_txn, dNe_txn, len_tx, cutS_l1, cutS_b1, cutS_ln, cutS_bn, dIx_tx0, *])
/-! ### a deed beyond the length -/
theorem half_v : val ((1, 2) : Fr) = 1 / 2 := by
  unfold val
  rfl
theorem far_tq {i : Nat} (hi : i ≤ 20) {r : List Sr} (h : SxL i r) (hl : r.length ≤ 96) : Tq (oneF [] r) (lenF r) ∧ Tq (oneF [] r) (fsum (lenF r) (1, 2)) ∧ Q (lenF r) ∧ val (fsum (lenF r) (1, 2)) = tot r + 1 / 2 ∧ val (lenF r) = tot r := by
  have z1 : Dn (DD i * 2520 ^ (i + 1)) ((0, 1) : Fr) := dn_of ⟨by decide, by decide⟩ ⟨_, (Int.one_mul _).symm⟩
  have wd := tot_dn r (0, 1) h z1
  have wv : val (lenF r) = tot r := by rw [(totF_cn r (0, 1) (SxL.cn h) (by decide)).2, val_01]; grind
  have t0 := (sx_tot h).1
  have t1 := (sx_tot h).2
  have hd : Dn (EE i) ((1, 2) : Fr) := dn_of ⟨by decide, by decide⟩ (Int.natCast_dvd_natCast.mpr (Nat.dvd_trans (by decide : 2 ∣ 1100) (Nat.dvd_mul_left _ _)))
  have fv : val (fsum (lenF r) (1, 2)) = tot r + 1 / 2 := by rw [val_sum wd.cn.1 (by decide), wv, half_v]
  obtain ⟨k1, k2⟩ := sx_one r [] (fun s hs => nomatch hs) h
  have ol := (oneF_ord r [] (fun s hs => nomatch hs) (cn_ord (SxL.cn h))).2
  have ol : (oneF [] r).length ≤ 100 := by simp at ol; omega
  have u1 : (1000 : Rat) ≤ UU i := by
    have : (1 : Nat) ≤ 9 ^ (i + 1) := Nat.pow_pos (by decide)
    have := natCast_le this
    have e : ((1 : Nat) : Rat) = 1 := rfl
    rw [e] at this
    show (1000 : Rat) ≤ 1000 * ((9 ^ (i + 1) : Nat) : Rat)
    grind
  have u := uv i
  have n := natCast_le hl
  have e96 : ((96 : Nat) : Rat) = 96 := rfl
  rw [e96] at n
  have m := Rat.mul_le_mul_of_nonneg_right n (show 0 ≤ UU i by grind)
  have w : Dn (EE i) (lenF r) := dn_up wd
  refine ⟨ti_tq hi k1 ol (W := tot r) (by grind) ⟨w, by rw [wv]; exact t0, by rw [wv]; exact Rat.le_refl⟩, ti_tq hi k1 ol (W := tot r + 1 / 2) (by grind) ⟨dn_sum w hd, by rw [fv]; grind, by rw [fv]; exact Rat.le_refl⟩, ?_, fv, wv⟩
  exact (ti_tq hi k1 ol (W := tot r) (by grind) ⟨w, by rw [wv]; exact t0, by rw [wv]; exact Rat.le_refl⟩).q
theorem off_eq {i : Nat} (hi : i ≤ 20) {r : List Sr} (hr : SxL i r) (hl : r.length ≤ 96) {Z : Nat → Cell → Prop} {om : Om} {b : Box} {R E U : Nat} {el un : List (List Sr)} (h : Re Z om b R E U (oneF [] r) el un) (hel : el.length ≤ 900) {w : Int} (w0 : 0 ≤ w) (w3 : w < 3) :
    S_law_is_off [.loc R, .int w, encF (lenF r)] om = .ok (.bl true) om ∧ S_law_long [encL r] om = .ok (encF (lenF r)) om := by
  obtain ⟨t1, t2, wq, fv, wv⟩ := far_tq hi hr hl
  obtain ⟨n, _, _⟩ := nq_one hi hr (by omega)
  obtain ⟨sq, ac⟩ := ac_raw hi hr (by omega)
  obtain ⟨le, _⟩ := len_eq hi hr (by omega)
  have e0 := llong_q om r sq ac
  have hq : Bd 10 ((1, 2) : Fr) := ⟨by decide, by decide, by decide⟩
  have e1 : S_law_sum [encF (lenF r), encF (1, 2)] om = .ok (encF (fsum (lenF r) (1, 2))) om := lsum_eq om wq hq (by decide)
  have no : ∀ {x : Rat}, ¬ (x ≤ val (fsum (lenF r) (1, 2)) ∧ val (fsum (lenF r) (1, 2)) ≤ val (lenF (oneF [] r))) := fun {x} z => by
    have := z.2
    rw [fv, le, wv] at this
    grind
  have o1 := (out_eq h n hel t1 t2).1 no
  have o2 := (faster_eq h n hel (z_tm n) t2 (P := 310) (F := 10) (f := (2, 1)) ⟨by decide, by decide, by decide⟩ (fun s hs => (n.s s hs).bp) (by decide)).1 no
  have o3 := (into_eq h n hel t2 [⟨(0, 1), (3, 1), (1, 1)⟩] (fun s hs => by
    cases List.mem_singleton.mp hs
    show val ((0, 1) : Fr) < val ((3, 1) : Fr)
    rw [val_01, val_int1]
    decide) (by decide)).1 (fun z => no (x := 0) ⟨by rw [fv]; have := (sx_tot hr).1; grind, z⟩)
  refine ⟨?_, e0⟩
  have i1 := isi_re h "out" rfl
  have i2 := isi_re h "faster" rfl
  have i3 := isi_re h "into" rfl
  have o3' : S_Reel_into [.loc R, encF (fsum (lenF r) (1, 2)), .lst [.tup [.tup [.int 0, .int 1], .tup [.int 3, .int 1], .tup [.int 1, .int 1]]]] om = .xc ⟨"OffReel", []⟩ om := o3
  have c : w = 0 ∨ w = 1 ∨ w = 2 := by omega
  have kn : List.lookup ("OffReel" : Str) knl_OffReel = some true := rfl
  clear hi hr hl t1 t2 wq fv wv n sq ac le e0 hq no o3 w0 w3 h hel
  generalize encF (fsum (lenF r) (1, 2)) = F at *
  have e1' : S_law_sum [encF (lenF r), .tup [.int 1, .int 2]] om = .ok F om := e1
  have o2' : S_Reel_faster [.loc R, .tup [.int 0, .int 1], F, .tup [.int 2, .int 1]] om = .xc ⟨"OffReel", []⟩ om := o2
  clear e1 o2
  generalize encF (lenF r) = W at *
  rcases c with rfl | rfl | rfl
  · have d0 : decide ((0 : Int) = 0) = true := rfl
    unfold S_law_is_off u_law_is_off sTry
    walk_at "evx"
    rfl
  · have d0 : decide ((1 : Int) = 0) = false := rfl
    have d1 : decide ((1 : Int) = 1) = true := rfl
    unfold S_law_is_off u_law_is_off sTry
    walk_at "evx"
    rfl
  · have d0 : decide ((2 : Int) = 0) = false := rfl
    have d1 : decide ((2 : Int) = 1) = false := rfl
    unfold S_law_is_off u_law_is_off sTry
    walk_at "evx"
    rfl
end Dv

namespace Dv
open PySem PySem.Spec PyProof.Rows L2
local macro_rules | `(tactic| walk_at "ev") => `(tactic| try simp (disch := omega) only [sSeq_eq, seq_nx, seq_rt, seq_rto, seq_xc, seq_bk, seq_ct, seq_ite, sAsg, sAsgO, sExpr, sRet, sRetO, sRetN, sIf, sNext, uVar, uC, uUn, uBin, uB, uNot, uAnd, uOr, uTV, uAndV, uOrV, uNotV, uIf, uChain, uNil, uCons, uTup, uLst, uLstO, uFn, uFnO, uFz, uMv, uNew, uCall, uCallO, uCallN, uBinV, uBinW, uBinL, uMeO, uMeL, uFnV, sSetL, sAsgG, gN, gT2, gT3, gT4, iLst, iFn,   bind_ok, bind_xc, of_ok, of_xc, res_ok, res_xc, res0_ok, own_ok, own_xc, fr_nx, fr_rt, fr_rto, fr_xc, fo_rto, fo_xc, liftO_some, dBool_bl, items_lst, items_frz, ent, defU, defO, List.map_cons, List.map_nil, List.length_cons, List.length_nil, List.cons_append, List.nil_append, List.append_nil, List.replicate, List.getElem?_cons_zero, List.getElem?_cons_succ, List.set_cons_zero, List.set_cons_succ, Nat.zero_add, Nat.reduceAdd, Nat.reduceSub, Nat.reduceLeDiff,   le_big, lt_big, atN_zero, atN_one, atN_two, atN_three, setN_zero, setN_one, popAt_zero, len_zero, len_succ, dMul_r, dMul_l, dDiv_pos, dMod_pos, dAdd_int, dSub_int, dNeg_int, dLt_int, dLe_int, dGt_int, dGe_int, dEq_int, dNe_int, dEq_bl, dNe_bl, dEq_nil, dNe_nil, dIx_lst, dIx_tup, fAbs_int, fInt_bl, fInt_int, fLen_lst, fLen_frz, fLen_tup, ite_true, ite_false, if_true, if_false, Bool.not_true, Bool.not_false, decide_true, decide_false, Bool.true_eq_false, Bool.false_eq_true, reduceIte, reduceCtorEq, turn_nx, turn_ct, turn_bk, turn_rt, turn_rto, turn_xc, sFor_eq, goL_nil, eq_self])
local macro_rules | `(tactic| walk_at "evs") => `(tactic| try simp (disch := omega) only [sSeq_eq, seq_nx, seq_rt, seq_rto, seq_xc, seq_bk, seq_ct, seq_ite, sAsg, sAsgO, sExpr, sRet, sRetO, sRetN, sIf, sNext, uVar, uC, uUn, uBin, uB, uNot, uAnd, uOr, uTV, uAndV, uOrV, uNotV, uIf, uChain, uNil, uCons, uTup, uLst, uLstO, uFn, uFnO, uFz, uMv, uNew, uCall, uCallO, uCallN, uBinV, uBinW, uBinL, uMeO, uMeL, uFnV, sSetL, sAsgG, gN, gT2, gT3, gT4, iLst, iFn,   bind_ok, bind_xc, of_ok, of_xc, res_ok, res_xc, res0_ok, own_ok, own_xc, fr_nx, fr_rt, fr_rto, fr_xc, fo_rto, fo_xc, liftO_some, dBool_bl, items_lst, items_frz, ent, defU, defO, List.map_cons, List.map_nil, List.length_cons, List.length_nil, List.cons_append, List.nil_append, List.append_nil, List.replicate, List.getElem?_cons_zero, List.getElem?_cons_succ, List.set_cons_zero, List.set_cons_succ, Nat.zero_add, Nat.reduceAdd, Nat.reduceSub, Nat.reduceLeDiff,   le_big, lt_big, atN_zero, atN_one, atN_two, atN_three, setN_zero, setN_one, popAt_zero, len_zero, len_succ, dMul_r, dMul_l, dDiv_pos, dMod_pos, dAdd_int, dSub_int, dNeg_int, dLt_int, dLe_int, dGt_int, dGe_int, dEq_int, dNe_int, dEq_bl, dNe_bl, dEq_nil, dNe_nil, dIx_lst, dIx_tup, fAbs_int, fInt_bl, fInt_int, fLen_lst, fLen_frz, fLen_tup, ite_true, ite_false, if_true, if_false, Bool.not_true, Bool.not_false, decide_true, decide_false, Bool.true_eq_false, Bool.false_eq_true, reduceIte, reduceCtorEq, turn_nx, turn_ct, turn_bk, turn_rt, turn_rto, turn_xc, sFor_eq, goL_nil, eq_self, *])
local macro_rules | `(tactic| walk_at "evt") => `(tactic| try simp (disch := first | omega | (simp only [List.length_append, List.length_cons, List.length_nil, List.length_map]; omega)) only [sSeq_eq, seq_nx, seq_rt, seq_rto, seq_xc, seq_bk, seq_ct, seq_ite, sAsg, sAsgO, sExpr, sRet, sRetO, sRetN, sIf, sNext, uVar, uC, uUn, uBin, uB, uNot, uAnd, uOr, uTV, uAndV, uOrV, uNotV, uIf, uChain, uNil, uCons, uTup, uLst, uLstO, uFn, uFnO, uFz, uMv, uNew, uCall, uCallO, uCallN, uBinV, uBinW, uBinL, uMeO, uMeL, uFnV, sSetL, sAsgG, gN, gT2, gT3, gT4, iLst, iFn,   bind_ok, bind_xc, of_ok, of_xc, res_ok, res_xc, res0_ok, own_ok, own_xc, fr_nx, fr_rt, fr_rto, fr_xc, fo_rto, fo_xc, liftO_some, dBool_bl, items_lst, items_frz, ent, defU, defO, List.map_cons, List.map_nil, List.length_cons, List.length_nil, List.cons_append, List.nil_append, List.append_nil, List.replicate, List.getElem?_cons_zero, List.getElem?_cons_succ, List.set_cons_zero, List.set_cons_succ, Nat.zero_add, Nat.reduceAdd, Nat.reduceSub, Nat.reduceLeDiff,   le_big, lt_big, atN_zero, atN_one, atN_two, atN_three, setN_zero, setN_one, popAt_zero, len_zero, len_succ, dMul_r, dMul_l, dDiv_pos, dMod_pos, dAdd_int, dSub_int, dNeg_int, dLt_int, dLe_int, dGt_int, dGe_int, dEq_int, dNe_int, dEq_bl, dNe_bl, dEq_nil, dNe_nil, dIx_lst, dIx_tup, fAbs_int, fInt_bl, fInt_int, fLen_lst, fLen_frz, fLen_tup, ite_true, ite_false, if_true, if_false, Bool.not_true, Bool.not_false, decide_true, decide_false, Bool.true_eq_false, Bool.false_eq_true, reduceIte, reduceCtorEq, turn_nx, turn_ct, turn_bk, turn_rt, turn_rto, turn_xc, sFor_eq, goL_nil, eq_self, sRaise, gT2, gT3, gT4, sAsgG, uM1, uOrS, uSlS, uSlW, uCatV, uPart, uNoPart, iStrU, k_colon, k_blank, k_line, k_f, k_s, k_0, k_empty, k_digits, k_abc, k_alpha, k_cue, k_from, k_to, k_at, k_two, k_fto, k_nl, k_a1, dAdd_tx, fLen_tx, fStr_nat, dEq_tx, dNe_tx, dEq_txn, dNe_txn, len_tx, cutS_l1, cutS_b1, cutS_ln, cutS_bn, dIx_tx0, *])
local macro_rules | `(tactic| walk_at "evx") => `(tactic| try simp (disch := first | omega | (simp only [List.length_append, List.length_cons, List.length_nil, List.length_map]; omega)) only [sSeq_eq, seq_nx, seq_rt, seq_rto, seq_xc, seq_bk, seq_ct, seq_ite, sAsg, sAsgO, sExpr, sRet, sRetO, sRetN, sIf, sNext, uVar, uC, uUn, uBin, uB, uNot, uAnd, uOr, uTV, uAndV, uOrV, uNotV, uIf, uChain, uNil, uCons, uTup, uLst, uLstO, uFn, uFnO, uFz, uMv, uNew, uCall, uCallO, uCallN, uBinV, uBinW, uBinL, uMeO, uMeL, uFnV, sSetL, sAsgG, gN, gT2, gT3, gT4, iLst, iFn,   bind_ok, bind_xc, of_ok, of_xc, res_ok, res_xc, res0_ok, own_ok, own_xc, fr_nx, fr_rt, fr_rto, fr_xc, fo_rto, fo_xc, liftO_some, dBool_bl, items_lst, items_frz, ent, defU, defO, List.map_cons, List.map_nil, List.length_cons, List.length_nil, List.cons_append, List.nil_append, List.append_nil, List.replicate, List.getElem?_cons_zero, List.getElem?_cons_succ, List.set_cons_zero, List.set_cons_succ, Nat.zero_add, Nat.reduceAdd, Nat.reduceSub, Nat.reduceLeDiff,   le_big, lt_big, atN_zero, atN_one, atN_two, atN_three, setN_zero, setN_one, popAt_zero, len_zero, len_succ, dMul_r, dMul_l, dDiv_pos, dMod_pos, dAdd_int, dSub_int, dNeg_int, dLt_int, dLe_int, dGt_int, dGe_int, dEq_int, dNe_int, dEq_bl, dNe_bl, dEq_nil, dNe_nil, dIx_lst, dIx_tup, fAbs_int, fInt_bl, fInt_int, fLen_lst, fLen_frz, fLen_tup, ite_true, ite_false, if_true, if_false, Bool.not_true, Bool.not_false, decide_true, decide_false, Bool.true_eq_false, Bool.false_eq_true, reduceIte, reduceCtorEq, turn_nx, turn_ct, turn_bk, turn_rt, turn_rto, turn_xc, sFor_eq, goL_nil, eq_self, sRaise, gT2, gT3, gT4, sAsgG, see_bl, see_int, see_non, see_tup, see_lst, see_str, uBinX, uUnX, uFnX, uFld, sFldU, uMeth, uMethO, uMake, uCatX, uRev, uMethN, uFrzI, uSlV, uM1, uOrS, uSlS, uSlW, uCatV, uPart, uNoPart, iStrU, k_colon, k_blank, k_line, k_f, k_s, k_0, k_empty, k_digits, k_abc, k_alpha, k_cue, k_from, k_to, k_at, k_two, k_fto, k_nl, k_a1, dAdd_tx, fLen_tx, fStr_nat, dEq_tx, dNe_tx, dEq_txn, dNe_txn, len_tx, cutS_l1, cutS_b1, cutS_ln, cutS_bn, dIx_tx0, *])
def l_sb : UE := (uStep 2 "law.<locals>.<lambda>" "NoDeed" (uMeth "Reel" "back" 1 S_Reel_back (uVar 5) uNil))
def l_sa : UE := (uStep 2 "law.<locals>.<lambda>" "NoDeed" (uMeth "Reel" "again" 1 S_Reel_again (uVar 5) uNil))
def l_off : US := (sIf (uB (uBin dEq (uCall 2 S_law_take (uCons (uVar 1) (uCons (uC (.int 3)) uNil))) (uC (.int 1)))) (sIf (uNot (uB (uCall 3 S_law_is_off (uCons (uVar 5) (uCons (uCall 2 S_law_take (uCons (uVar 1) (uCons (uC (.int 3)) uNil))) (uCons (uCall 1 S_law_long (uCons (uBinV dIx 2 (uVar 4)) uNil)) uNil)))))) (sRet (uC (.bl false))) sNext) sNext)
def l_way : US := (sAsg 7 (uCall 2 S_law_take (uCons (uVar 1) (uCons (uC (.int 5)) uNil))))
def l_back : US := (sSeq (sAsg 8 (uBin dIx (uLst (uCons (uC .non) (uCons (uTup (uCons (uC (.str (Str.ofString "no"))) (uCons (uC (.bl true)) uNil))) uNil))) (uFn fInt (uCons (uBin dEq (uVar 4) (uC (.int 0))) uNil))))
    (sSeq (sIf (uB (uBin dNe l_sb (uVar 8))) (sRet (uC (.bl false))) sNext)
    (sAsg 4 (uFn fMax2 (uCons (uC (.int 0)) (uCons (uBin dSub (uVar 4) (uC (.int 1))) uNil))))))
def l_again : US := (sSeq (sAsg 8 (uBin dIx (uLst (uCons (uC .non) (uCons (uTup (uCons (uC (.str (Str.ofString "no"))) (uCons (uC (.bl true)) uNil))) uNil))) (uFn fInt (uCons (uBin dEq (uVar 4) (uBin dSub (uFnV fLen 2) (uC (.int 1)))) uNil))))
    (sSeq (sIf (uB (uBin dNe l_sa (uVar 8))) (sRet (uC (.bl false))) sNext)
    (sAsg 4 (uFn fMin2 (uCons (uBin dAdd (uVar 4) (uC (.int 1))) (uCons (uBin dSub (uFnV fLen 2) (uC (.int 1))) uNil))))))
def l_deed : US := (sSeq (sAsg 9 (uCall 3 S_law_deed (uCons (uVar 1) (uCons (uVar 5) (uCons (uBinV dIx 2 (uVar 4)) uNil)))))
    (sSeq (sIf (uB (uBin dIs (uVar 9) (uC .non))) (sRet (uC (.bl false))) sNext)
    (sSeq (sAsgO 2 (uCatX (uFz (uSlV 2 uNoPart (uPart (uBin dAdd (uVar 4) (uC (.int 1)))))) (uLst (uCons (uVar 9) uNil))))
    (sAsg 4 (uBin dAdd (uVar 4) (uC (.int 1)))))))
def l_br2 : US := (sIf (uB (uBin dEq (uVar 7) (uC (.int 1)))) l_again l_deed)
def l_br : US := (sIf (uOr (uB (uBin dEq (uVar 7) (uC (.int 0)))) (uAnd (uB (uBin dEq (uVar 7) (uC (.int 1)))) (uB (uBin dEq (uVar 4) (uC (.int 0)))))) l_back l_br2)
def l_alk : US := (sIf (uNot (uB (uCall 2 S_law_alike (uCons (uFz (uMethO "Reel" "show" 1 S_Reel_show (uVar 5) uNil)) (uCons (uCall 1 S_law_one (uCons (uBinV dIx 2 (uVar 4)) uNil)) uNil))))) (sRet (uC (.bl false))) sNext)
def l_turn : US := sSeq l_off (sSeq l_way (sSeq l_br l_alk))
def l_cut : US := (sIf (uB (uBin dEq (uCall 2 S_law_take (uCons (uVar 1) (uCons (uC (.int 6)) uNil))) (uC (.int 1)))) (sSeq (sAsgO 2 (uLstO (uCons (uFz (uSlW (uBinV dIx 2 (uC (.int 0))) uNoPart (uPart (uC (.int 1))))) uNil)))
    (sAsg 3 (uBin dAdd (uC (.int 1)) (uCall 2 S_law_take (uCons (uVar 1) (uCons (uC (.int 20)) uNil)))))) sNext)
def l_rest : US := (sSeq (sAsg 4 (uC (.int 0))) (sSeq (sAsg 5 (uMake "Reel" 2 S_Reel_init (uCons (uBinV dIx 2 (uC (.int 0))) uNil))) (sSeq (sFor (iFn fRng1 (uCons (uVar 3) uNil)) (gN 6) l_turn) (sRet (uC (.bl true))))))
theorem l_top : u_law2 = (sSeq (sAsgO 2 (uLstO (uCons (uCall 1 S_law_show (uCons (uVar 1) uNil)) uNil))) (sSeq (sAsg 3 (uBin dAdd (uC (.int 1)) (uCall 2 S_law_take (uCons (uVar 1) (uCons (uC (.int 12)) uNil))))) (sSeq l_cut l_rest))) := rfl
def tq : Str := "law.<locals>.<lambda>"
@[reducible] def lR (v0 : Option Sl) (rows : List (List Sr)) (many : D) (a : Int) (x6 x7 x8 x9 : Option Sl) : Rho := [v0, some (.val (.loc 1)), some (.own (rows.map encL)), some (.val many), some (.val (.int a)), some (.val (.loc 3)), x6, x7, x8, x9]
theorem cutD_take {xs : List D} {k : Nat} (h : k ≤ xs.length) : cutD xs none (some (k : Int)) = xs.take k := by
  unfold cutD
  show ((xs.drop 0).take (min ((k : Int)).toNat xs.length - 0)) = _
  rw [List.drop_zero, Nat.sub_zero, Int.toNat_natCast, Nat.min_eq_left h]
theorem cutD_one (xs : List D) : cutD xs none (some (1 : Int)) = xs.take 1 := by
  cases xs with
  | nil => rfl
  | cons x xs => exact cutD_take (k := 1) (by simp)
theorem noN : dNe (.tup [.str (Str.ofString "no"), .bl true]) (.tup [.str (Str.ofString "no"), .bl true]) = some (.bl false) := by
  have e : dEqB (.tup [.str (Str.ofString "no"), .bl true]) (.tup [.str (Str.ofString "no"), .bl true]) = some true := eqPy_self (d := .tup [.str (Str.ofString "no"), .bl true]) (by decide +kernel)
  unfold dNe
  rw [e]
  rfl
theorem good_L2 {l : List Sr} (h : l.length ≤ 1000) : good 10 (.lst (l.map encS)) = true := by
  unfold good
  rw [decide_eq_true (by rw [List.length_map]; exact h), goods_all fun d hd => by
    obtain ⟨s, _, rfl⟩ := List.mem_map.mp hd
    rfl]
  rfl
theorem oneF_len : ∀ (r done : List Sr), (oneF done r).length ≤ done.length + r.length
  | [], done => by unfold oneF; simp
  | s :: r, done => by
    unfold oneF
    have h1 := oneF_len r (mrg done s)
    have h2 : (mrg done s).length ≤ done.length + 1 := by
      rcases nil_or_last done with rfl | ⟨d0, l, rfl⟩
      · rw [mrg_nil]; simp
      · rw [mrg_last]; split <;> simp
    simp only [List.length_cons]
    omega
section
variable (v0 : Option Sl) {rows : List (List Sr)} (many : D) (x6 x7 x8 x9 : Option Sl) {r : List Sr} {Z : Nat → Cell → Prop} {om : Om} {b : Box} {U : Nat} {now : List Sr} {el un : List (List Sr)} {i : Nat}
/-- a deed beyond the length, now and then -/
theorem off_st {rest : Om} (hr : rows[i]? = some r) (hi : i ≤ 19) (hs : SxL i r) (hl : r.length ≤ 96) (h : Re Z (bom b rest) b 3 4 U (oneF [] r) el un) (hel : el.length ≤ 900) : ∃ b', l_off (lR v0 rows many i x6 x7 x8 x9) (bom b rest) = .nx (lR v0 rows many i x6 x7 x8 x9) (bom b' rest) := by
  have e1 := take_eq (m := 3) b rest (by decide) (by decide)
  by_cases c : tkv 3 b = 1
  · have e2 := take_eq (m := 3) (tkn 3 b) rest (by decide) (by decide)
    have n0 := tkv_nn (m := 3) (tkn 3 b) (by decide)
    have n3 := tkv_lt (m := 3) (tkn 3 b) (by decide)
    obtain ⟨o1, o2⟩ := off_eq (by omega) hs hl (re_bom h (tkn 3 (tkn 3 b))) hel n0 n3
    refine ⟨tkn 3 (tkn 3 b), ?_⟩
    have d1 : decide (tkv 3 b = 1) = true := decide_eq_true c
    have a1 : atN (rows.map encL) (i : Int) = some (encL r) := atN_nat (by rw [List.getElem?_map, hr]; rfl)
    clear hs hl h hel c n0 n3 hi hr
    unfold l_off
    unfold lR at *
    generalize rows.map encL = X at *
    generalize encL r = Y at *
    generalize encF (lenF r) = W at *
    generalize tkv 3 (tkn 3 b) = t3 at *
    generalize tkv 3 b = t1 at *
    walk_at "evx"
  · refine ⟨tkn 3 b, ?_⟩
    have d1 : decide (tkv 3 b = 1) = false := decide_eq_false c
    clear hs hl h hel c hi hr
    unfold l_off
    unfold lR at *
    generalize rows.map encL = X at *
    generalize tkv 3 b = t1 at *
    walk_at "evx"
theorem way_st {rest : Om} (a : Int) : l_way (lR v0 rows many a x6 x7 x8 x9) (bom b rest) = .nx (lR v0 rows many a x6 (some (.val (.int (tkv 5 b)))) x8 x9) (bom (tkn 5 b) rest) := by
  have e1 := take_eq (m := 5) b rest (by decide) (by decide)
  unfold l_way
  unfold lR at *
  generalize rows.map encL = X at *
  walk_at "evx"
/-- the show is as the history has it -/
theorem alk_st (hr : rows[i]? = some r) (hl : r.length ≤ 900) (h : Re Z om b 3 4 U (oneF [] r) el un) : l_alk (lR v0 rows many i x6 x7 x8 x9) om = .nx (lR v0 rows many i x6 x7 x8 x9) om := by
  have ol := oneF_len r []
  have a1 := alike_eq om (good_L2 (l := oneF [] r) (by simp at ol; omega))
  have a2 := lone_eq om r (by omega)
  have e2 := show_now h
  have i1 := isi_re h "show" rfl
  have a3 : atN (rows.map encL) (i : Int) = some (encL r) := atN_nat (by rw [List.getElem?_map, hr]; rfl)
  clear hr hl h ol
  unfold l_alk
  unfold lR at *
  generalize rows.map encL = X at *
  unfold encL at *
  generalize (oneF [] r).map encS = X1 at *
  generalize r.map encS = X3 at *
  walk_at "evx"
/-! undone -/
section
variable (h : Re Z om b 3 4 U now el un) (ht : om[2]? = some (.tab tq))
include h ht
theorem back0_st (hn : el = []) : l_back (lR v0 rows many 0 x6 x7 x8 x9) om = .nx (lR v0 rows many 0 x6 x7 (some (.val (.tup [.str (Str.ofString "no"), .bl true]))) x9) om := by
  have e := back_nil h hn
  have i1 := isi_re h "back" rfl
  have us : ∀ y8, l_sb (lR v0 rows many 0 x6 x7 y8 x9) om = .ok (.tup [.str (Str.ofString "no"), .bl true]) (lR v0 rows many 0 x6 x7 y8 x9) om := fun y8 => uStep_xc ht (by
    clear h ht hn
    unfold lR
    walk_at "evx")
  have m1 : fMax2 [.int 0, .int ((0 : Int) - 1)] = some (.int 0) := rfl
  have d1 : decide ((0 : Int) = 0) = true := rfl
  have nn := noN
  clear h ht hn e i1
  unfold l_back
  unfold lR at *
  generalize Str.ofString "no" = NO at *
  generalize rows.map encL = X at *
  walk_at "evx"
theorem back1_st {el0 : List (List Sr)} {last : List Sr} (hn : el = el0 ++ [last]) (hu : un.length ≤ 900) {a : Int} (ha : 0 < a) : ∃ om', l_back (lR v0 rows many a x6 x7 x8 x9) om = .nx (lR v0 rows many (a - 1) x6 x7 (some (.val .non)) x9) om' ∧ Re Z om' b 3 4 U last el0 (un ++ [now]) := by
  obtain ⟨om', e, h2⟩ := back_some h hn hu
  refine ⟨om', ?_, h2⟩
  have i1 := isi_re h "back" rfl
  have us : ∀ y8, l_sb (lR v0 rows many a x6 x7 y8 x9) om = .ok .non (lR v0 rows many a x6 x7 y8 x9) om' := fun y8 => uStep_ok ht (by
    clear h ht hn h2
    unfold lR
    walk_at "evx")
  have m1 : fMax2 [.int 0, .int (a - 1)] = some (.int (a - 1)) := by
    unfold fMax2
    dsimp only
    split
    · rfl
    · have : a - 1 = 0 := by omega
      rw [this]
  have d1 : decide (a = 0) = false := decide_eq_false (by omega)
  have nn : dNe .non .non = some (.bl false) := rfl
  clear h ht hn e i1 h2 hu ha
  unfold l_back
  unfold lR at *
  generalize rows.map encL = X at *
  walk_at "evx"
theorem again0_st (hn : un = []) {a : Int} (ha : a = (rows.length : Int) - 1) : l_again (lR v0 rows many a x6 x7 x8 x9) om = .nx (lR v0 rows many a x6 x7 (some (.val (.tup [.str (Str.ofString "no"), .bl true]))) x9) om := by
  have e := again_nil h hn
  have i1 := isi_re h "again" rfl
  have us : ∀ y8, l_sa (lR v0 rows many a x6 x7 y8 x9) om = .ok (.tup [.str (Str.ofString "no"), .bl true]) (lR v0 rows many a x6 x7 y8 x9) om := fun y8 => uStep_xc ht (by
    clear h ht hn ha
    unfold lR
    walk_at "evx")
  have hX : (rows.map encL).length = rows.length := List.length_map ..
  have m1 : fMin2 [.int (a + 1), .int (((rows.map encL).length : Int) - 1)] = some (.int a) := by
    rw [hX, ← ha]
    unfold fMin2
    dsimp only
    rw [if_pos (by omega)]
  have d1 : decide (a = ((rows.map encL).length : Int) - 1) = true := decide_eq_true (by rw [hX]; exact ha)
  have nn := noN
  clear h ht hn e i1 ha hX
  unfold l_again
  unfold lR at *
  generalize Str.ofString "no" = NO at *
  generalize rows.map encL = X at *
  walk_at "evx"
theorem again1_st {un0 : List (List Sr)} {last : List Sr} (hn : un = un0 ++ [last]) (hu : el.length ≤ 900) {a : Int} (ha : a < (rows.length : Int) - 1) : ∃ om', l_again (lR v0 rows many a x6 x7 x8 x9) om = .nx (lR v0 rows many (a + 1) x6 x7 (some (.val .non)) x9) om' ∧ Re Z om' b 3 4 U last (el ++ [now]) un0 := by
  obtain ⟨om', e, h2⟩ := again_some h hn hu
  refine ⟨om', ?_, h2⟩
  have i1 := isi_re h "again" rfl
  have us : ∀ y8, l_sa (lR v0 rows many a x6 x7 y8 x9) om = .ok .non (lR v0 rows many a x6 x7 y8 x9) om' := fun y8 => uStep_ok ht (by
    clear h ht hn h2 ha
    unfold lR
    walk_at "evx")
  have hX : (rows.map encL).length = rows.length := List.length_map ..
  have m1 : fMin2 [.int (a + 1), .int (((rows.map encL).length : Int) - 1)] = some (.int (a + 1)) := by
    rw [hX]
    unfold fMin2
    dsimp only
    rw [if_neg (by omega)]
  have d1 : decide (a = ((rows.map encL).length : Int) - 1) = false := decide_eq_false (by rw [hX]; omega)
  have nn : dNe .non .non = some (.bl false) := rfl
  clear h ht hn e i1 h2 hu ha hX
  unfold l_again
  unfold lR at *
  generalize rows.map encL = X at *
  walk_at "evx"
end
/-- a deed -/
theorem deed_st (hr : rows[i]? = some r) (hi : i ≤ 19) (hz : rows.length ≤ 900) (hs : SxL i r) (hl : r.length ≤ 96) (h : Re Z om b 3 4 U (oneF [] r) el un) (hel : el.length ≤ 900) : ∃ (r' : List Sr) (om' : Om) (b' : Box) (U' : Nat),
    l_deed (lR v0 rows many i x6 x7 x8 x9) om = .nx (lR v0 (rows.take (i + 1) ++ [r']) many ((i + 1 : Nat) : Int) x6 x7 x8 (some (.val (encL r')))) om' ∧ SxL (i + 1) r' ∧ r'.length ≤ r.length + 4 ∧ Re Z om' b' 3 4 U' (oneF [] r') (el ++ [oneF [] r]) [] := by
  obtain ⟨r', om', b', U', e1, h1, l1, r1⟩ := deed_eq hi hs hl h hel
  refine ⟨r', om', b', U', ?_, h1, l1, r1⟩
  have hlt := (List.getElem?_eq_some_iff.mp hr).1
  have a3 : atN (rows.map encL) (i : Int) = some (encL r) := atN_nat (by rw [List.getElem?_map, hr]; rfl)
  have c1 : cutD (rows.map encL) none (some ((i : Int) + 1)) = (rows.take (i + 1)).map encL := by
    have := cutD_take (xs := rows.map encL) (k := i + 1) (by rw [List.length_map]; omega)
    rw [List.map_take] at *
    exact this
  have q6 : dIs (encL r') .non = some (.bl false) := rfl
  have ca : (rows.take (i + 1)).map encL ++ [encL r'] = (rows.take (i + 1) ++ [r']).map encL := by rw [List.map_append]; rfl
  have lb : ((rows.take (i + 1)).map encL).length + 1 ≤ big := Nat.le_trans (m := 1000) (by simp only [List.length_map, List.length_take]; omega) (by decide)
  have ci : (((i + 1 : Nat) : Int)) = (i : Int) + 1 := by simp
  rw [ci]
  clear hr hi hz hs hl h hel h1 l1 r1 hlt ci
  unfold l_deed
  unfold lR at *
  generalize (rows.take (i + 1) ++ [r']).map encL = X2 at *
  generalize (rows.take (i + 1)).map encL = X1 at *
  generalize rows.map encL = X at *
  generalize encL r' = Y' at *
  generalize encL r = Y at *
  walk_at "evx"
end
end Dv

namespace Dv
open PySem PySem.Spec PyProof.Rows L2
local macro_rules | `(tactic| walk_at "ev") => `(tactic| try simp (disch := omega) only [sSeq_eq, seq_nx, seq_rt, seq_rto, seq_xc, seq_bk, seq_ct, seq_ite, sAsg, sAsgO, sExpr, sRet, sRetO, sRetN, sIf, sNext, uVar, uC, uUn, uBin, uB, uNot, uAnd, uOr, uTV, uAndV, uOrV, uNotV, uIf, uChain, uNil, uCons, uTup, uLst, uLstO, uFn, uFnO, uFz, uMv, uNew, uCall, uCallO, uCallN, uBinV, uBinW, uBinL, uMeO, uMeL, uFnV, sSetL, sAsgG, gN, gT2, gT3, gT4, iLst, iFn,   bind_ok, bind_xc, of_ok, of_xc, res_ok, res_xc, res0_ok, own_ok, own_xc, fr_nx, fr_rt, fr_rto, fr_xc, fo_rto, fo_xc, liftO_some, dBool_bl, items_lst, items_frz, ent, defU, defO, List.map_cons, List.map_nil, List.length_cons, List.length_nil, List.cons_append, List.nil_append, List.append_nil, List.replicate, List.getElem?_cons_zero, List.getElem?_cons_succ, List.set_cons_zero, List.set_cons_succ, Nat.zero_add, Nat.reduceAdd, Nat.reduceSub, Nat.reduceLeDiff,   le_big, lt_big, atN_zero, atN_one, atN_two, atN_three, setN_zero, setN_one, popAt_zero, len_zero, len_succ, dMul_r, dMul_l, dDiv_pos, dMod_pos, dAdd_int, dSub_int, dNeg_int, dLt_int, dLe_int, dGt_int, dGe_int, dEq_int, dNe_int, dEq_bl, dNe_bl, dEq_nil, dNe_nil, dIx_lst, dIx_tup, fAbs_int, fInt_bl, fInt_int, fLen_lst, fLen_frz, fLen_tup, ite_true, ite_false, if_true, if_false, Bool.not_true, Bool.not_false, decide_true, decide_false, Bool.true_eq_false, Bool.false_eq_true, reduceIte, reduceCtorEq, turn_nx, turn_ct, turn_bk, turn_rt, turn_rto, turn_xc, sFor_eq, goL_nil, eq_self])
local macro_rules | `(tactic| walk_at "evs") => `(tactic| try simp (disch := omega) only [sSeq_eq, seq_nx, seq_rt, seq_rto, seq_xc, seq_bk, seq_ct, seq_ite, sAsg, sAsgO, sExpr, sRet, sRetO, sRetN, sIf, sNext, uVar, uC, uUn, uBin, uB, uNot, uAnd, uOr, uTV, uAndV, uOrV, uNotV, uIf, uChain, uNil, uCons, uTup, uLst, uLstO, uFn, uFnO, uFz, uMv, uNew, uCall, uCallO, uCallN, uBinV, uBinW, uBinL, uMeO, uMeL, uFnV, sSetL, sAsgG, gN, gT2, gT3, gT4, iLst, iFn,   bind_ok, bind_xc, of_ok, of_xc, res_ok, res_xc, res0_ok, own_ok, own_xc, fr_nx, fr_rt, fr_rto, fr_xc, fo_rto, fo_xc, liftO_some, dBool_bl, items_lst, items_frz, ent, defU, defO, List.map_cons, List.map_nil, List.length_cons, List.length_nil, List.cons_append, List.nil_append, List.append_nil, List.replicate, List.getElem?_cons_zero, List.getElem?_cons_succ, List.set_cons_zero, List.set_cons_succ, Nat.zero_add, Nat.reduceAdd, Nat.reduceSub, Nat.reduceLeDiff,   le_big, lt_big, atN_zero, atN_one, atN_two, atN_three, setN_zero, setN_one, popAt_zero, len_zero, len_succ, dMul_r, dMul_l, dDiv_pos, dMod_pos, dAdd_int, dSub_int, dNeg_int, dLt_int, dLe_int, dGt_int, dGe_int, dEq_int, dNe_int, dEq_bl, dNe_bl, dEq_nil, dNe_nil, dIx_lst, dIx_tup, fAbs_int, fInt_bl, fInt_int, fLen_lst, fLen_frz, fLen_tup, ite_true, ite_false, if_true, if_false, Bool.not_true, Bool.not_false, decide_true, decide_false, Bool.true_eq_false, Bool.false_eq_true, reduceIte, reduceCtorEq, turn_nx, turn_ct, turn_bk, turn_rt, turn_rto, turn_xc, sFor_eq, goL_nil, eq_self, *])
local macro_rules | `(tactic| walk_at "evt") => `(tactic| try simp (disch := first | omega | (simp only [List.length_append, List.length_cons, List.length_nil, List.length_map]; omega)) only [sSeq_eq, seq_nx, seq_rt, seq_rto, seq_xc, seq_bk, seq_ct, seq_ite, sAsg, sAsgO, sExpr, sRet, sRetO, sRetN, sIf, sNext, uVar, uC, uUn, uBin, uB, uNot, uAnd, uOr, uTV, uAndV, uOrV, uNotV, uIf, uChain, uNil, uCons, uTup, uLst, uLstO, uFn, uFnO, uFz, uMv, uNew, uCall, uCallO, uCallN, uBinV, uBinW, uBinL, uMeO, uMeL, uFnV, sSetL, sAsgG, gN, gT2, gT3, gT4, iLst, iFn,   bind_ok, bind_xc, of_ok, of_xc, res_ok, res_xc, res0_ok, own_ok, own_xc, fr_nx, fr_rt, fr_rto, fr_xc, fo_rto, fo_xc, liftO_some, dBool_bl, items_lst, items_frz, ent, defU, defO, List.map_cons, List.map_nil, List.length_cons, List.length_nil, List.cons_append, List.nil_append, List.append_nil, List.replicate, List.getElem?_cons_zero, List.getElem?_cons_succ, List.set_cons_zero, List.set_cons_succ, Nat.zero_add, Nat.reduceAdd, Nat.reduceSub, Nat.reduceLeDiff,   le_big, lt_big, atN_zero, atN_one, atN_two, atN_three, setN_zero, setN_one, popAt_zero, len_zero, len_succ, dMul_r, dMul_l, dDiv_pos, dMod_pos, dAdd_int, dSub_int, dNeg_int, dLt_int, dLe_int, dGt_int, dGe_int, dEq_int, dNe_int, dEq_bl, dNe_bl, dEq_nil, dNe_nil, dIx_lst, dIx_tup, fAbs_int, fInt_bl, fInt_int, fLen_lst, fLen_frz, fLen_tup, ite_true, ite_false, if_true, if_false, Bool.not_true, Bool.not_false, decide_true, decide_false, Bool.true_eq_false, Bool.false_eq_true, reduceIte, reduceCtorEq, turn_nx, turn_ct, turn_bk, turn_rt, turn_rto, turn_xc, sFor_eq, goL_nil, eq_self, sRaise, gT2, gT3, gT4, sAsgG, uM1, uOrS, uSlS, uSlW, uCatV, uPart, uNoPart, iStrU, k_colon, k_blank, k_line, k_f, k_s, k_0, k_empty, k_digits, k_abc, k_alpha, k_cue, k_from, k_to, k_at, k_two, k_fto, k_nl, k_a1, dAdd_tx, fLen_tx, fStr_nat, dEq_tx, dNe_tx, dEq_txn, dNe_txn, len_tx, cutS_l1, cutS_b1, cutS_ln, cutS_bn, dIx_tx0, *])
local macro_rules | `(tactic| walk_at "evx") => `(tactic| try simp (disch := first | omega | (simp only [List.length_append, List.length_cons, List.length_nil, List.length_map]; omega)) only [sSeq_eq, seq_nx, seq_rt, seq_rto, seq_xc, seq_bk, seq_ct, seq_ite, sAsg, sAsgO, sExpr, sRet, sRetO, sRetN, sIf, sNext, uVar, uC, uUn, uBin, uB, uNot, uAnd, uOr, uTV, uAndV, uOrV, uNotV, uIf, uChain, uNil, uCons, uTup, uLst, uLstO, uFn, uFnO, uFz, uMv, uNew, uCall, uCallO, uCallN, uBinV, uBinW, uBinL, uMeO, uMeL, uFnV, sSetL, sAsgG, gN, gT2, gT3, gT4, iLst, iFn,   bind_ok, bind_xc, of_ok, of_xc, res_ok, res_xc, res0_ok, own_ok, own_xc, fr_nx, fr_rt, fr_rto, fr_xc, fo_rto, fo_xc, liftO_some, dBool_bl, items_lst, items_frz, ent, defU, defO, List.map_cons, List.map_nil, List.length_cons, List.length_nil, List.cons_append, List.nil_append, List.append_nil, List.replicate, List.getElem?_cons_zero, List.getElem?_cons_succ, List.set_cons_zero, List.set_cons_succ, Nat.zero_add, Nat.reduceAdd, Nat.reduceSub, Nat.reduceLeDiff,   le_big, lt_big, atN_zero, atN_one, atN_two, atN_three, setN_zero, setN_one, popAt_zero, len_zero, len_succ, dMul_r, dMul_l, dDiv_pos, dMod_pos, dAdd_int, dSub_int, dNeg_int, dLt_int, dLe_int, dGt_int, dGe_int, dEq_int, dNe_int, dEq_bl, dNe_bl, dEq_nil, dNe_nil, dIx_lst, dIx_tup, fAbs_int, fInt_bl, fInt_int, fLen_lst, fLen_frz, fLen_tup, ite_true, ite_false, if_true, if_false, Bool.not_true, Bool.not_false, decide_true, decide_false, Bool.true_eq_false, Bool.false_eq_true, reduceIte, reduceCtorEq, turn_nx, turn_ct, turn_bk, turn_rt, turn_rto, turn_xc, sFor_eq, goL_nil, eq_self, sRaise, gT2, gT3, gT4, sAsgG, see_bl, see_int, see_non, see_tup, see_lst, see_str, uBinX, uUnX, uFnX, uFld, sFldU, uMeth, uMethO, uMake, uCatX, uRev, uMethN, uFrzI, uSlV, uM1, uOrS, uSlS, uSlW, uCatV, uPart, uNoPart, iStrU, k_colon, k_blank, k_line, k_f, k_s, k_0, k_empty, k_digits, k_abc, k_alpha, k_cue, k_from, k_to, k_at, k_two, k_fto, k_nl, k_a1, dAdd_tx, fLen_tx, fStr_nat, dEq_tx, dNe_tx, dEq_txn, dNe_txn, len_tx, cutS_l1, cutS_b1, cutS_ln, cutS_bn, dIx_tx0, *])
/-! ### the history -/
@[reducible] def Zt : Nat → Cell → Prop := fun k c => k = 2 ∧ c = .tab tq
structure Lo (j : Nat) (rows : List (List Sr)) (a : Nat) (om : Om) (b : Box) (U : Nat) : Prop where
  rs : ∀ (k : Nat) (r : List Sr), rows[k]? = some r → SxL k r ∧ r.length ≤ 6 + 4 * k
  len : rows.length ≤ j + 1
  re : ∃ r, rows[a]? = some r ∧ Re Zt om b 3 4 U (oneF [] r) ((rows.take a).map (oneF [])) ((rows.drop (a + 1)).reverse.map (oneF []))
theorem Lo.at {j : Nat} {rows : List (List Sr)} {a : Nat} {om : Om} {b : Box} {U : Nat} (L : Lo j rows a om b U) : a < rows.length := by
  obtain ⟨r, h, _⟩ := L.re
  exact (List.getElem?_eq_some_iff.mp h).1
theorem drop_at {α : Type} {l : List α} {a : Nat} {x : α} (h : l[a]? = some x) : l.drop a = x :: l.drop (a + 1) := by
  obtain ⟨hl, e⟩ := List.getElem?_eq_some_iff.mp h
  rw [List.drop_eq_getElem_cons hl, e]
theorem take_at {α : Type} {l : List α} {a : Nat} {x : α} (h : l[a]? = some x) : l.take (a + 1) = l.take a ++ [x] := by
  rw [List.take_add_one, h]
  rfl
section
variable (v0 : Option Sl) {rows : List (List Sr)} (many : D) (x6 x7 x8 x9 : Option Sl) {om : Om} {b : Box} {U j a : Nat}
theorem lo_back (L : Lo j rows a om b U) (hj : j ≤ 19) : ∃ (a' : Nat) (om' : Om) (y8 : Option Sl), l_back (lR v0 rows many a x6 x7 x8 x9) om = .nx (lR v0 rows many (a' : Nat) x6 x7 y8 x9) om' ∧ Lo (j + 1) rows a' om' b U := by
  obtain ⟨r, hr, h⟩ := L.re
  have hlen := L.len
  have hat := L.at
  obtain ⟨_, _, _, _, ht⟩ := h.z 2 _ ⟨rfl, rfl⟩
  cases a with
  | zero =>
    have e := back0_st v0 (rows := rows) many x6 x7 x8 x9 h ht rfl
    exact ⟨0, om, _, e, L.rs, by omega, r, hr, h⟩
  | succ a =>
    obtain ⟨r1, h1⟩ : ∃ r1, rows[a]? = some r1 := ⟨_, List.getElem?_eq_getElem (by omega)⟩
    obtain ⟨om', e, h2⟩ := back1_st v0 (rows := rows) many x6 x7 x8 x9 (el0 := (rows.take a).map (oneF [])) (last := oneF [] r1) h ht (by rw [take_at h1, List.map_append]; rfl) (by simp; omega) (a := ((a + 1 : Nat) : Int)) (by omega)
    refine ⟨a, om', some (.val .non), ?_, L.rs, by omega, r1, h1, ?_⟩
    · have c : ((a + 1 : Nat) : Int) - 1 = ((a : Nat) : Int) := by omega
      rw [c] at e
      exact e
    · have c : (rows.drop (a + 1)).reverse.map (oneF []) = (rows.drop (a + 1 + 1)).reverse.map (oneF []) ++ [oneF [] r] := by
        rw [drop_at hr, List.reverse_cons, List.map_append]
        rfl
      rw [c]
      exact h2
theorem lo_again (L : Lo j rows a om b U) (hj : j ≤ 19) : ∃ (a' : Nat) (om' : Om) (y8 : Option Sl), l_again (lR v0 rows many a x6 x7 x8 x9) om = .nx (lR v0 rows many (a' : Nat) x6 x7 y8 x9) om' ∧ Lo (j + 1) rows a' om' b U := by
  obtain ⟨r, hr, h⟩ := L.re
  have hlen := L.len
  have hat := L.at
  obtain ⟨_, _, _, _, ht⟩ := h.z 2 _ ⟨rfl, rfl⟩
  by_cases c : a + 1 = rows.length
  · have dn : rows.drop (a + 1) = [] := List.drop_eq_nil_of_le (by omega)
    have e := again0_st v0 (rows := rows) many x6 x7 x8 x9 h ht (by rw [dn]; rfl) (a := (a : Int)) (by omega)
    exact ⟨a, om, _, e, L.rs, by omega, r, hr, h⟩
  · obtain ⟨r1, h1⟩ : ∃ r1, rows[a + 1]? = some r1 := ⟨_, List.getElem?_eq_getElem (by omega)⟩
    obtain ⟨om', e, h2⟩ := again1_st v0 (rows := rows) many x6 x7 x8 x9 (un0 := (rows.drop (a + 1 + 1)).reverse.map (oneF [])) (last := oneF [] r1) h ht (by rw [drop_at h1, List.reverse_cons, List.map_append]; rfl) (by simp; omega) (a := (a : Int)) (by omega)
    refine ⟨a + 1, om', _, e, L.rs, by omega, r1, h1, ?_⟩
    have c : (rows.take (a + 1)).map (oneF []) = (rows.take a).map (oneF []) ++ [oneF [] r] := by
      rw [take_at hr, List.map_append]
      rfl
    rw [c]
    exact h2
theorem lo_deed (L : Lo j rows a om b U) (hj : j ≤ 19) : ∃ (rows' : List (List Sr)) (a' : Nat) (om' : Om) (b' : Box) (U' : Nat) (y9 : Option Sl), l_deed (lR v0 rows many a x6 x7 x8 x9) om = .nx (lR v0 rows' many (a' : Nat) x6 x7 x8 y9) om' ∧ Lo (j + 1) rows' a' om' b' U' := by
  obtain ⟨r, hr, h⟩ := L.re
  have hlen := L.len
  have hat := L.at
  obtain ⟨hs, hl⟩ := L.rs a r hr
  obtain ⟨r', om', b', U', e, s1, l1, h1⟩ := deed_st v0 (rows := rows) many x6 x7 x8 x9 hr (by omega) (by omega) hs (by omega) h (by simp; omega)
  have tl : (rows.take (a + 1)).length = a + 1 := by rw [List.length_take]; omega
  refine ⟨_, a + 1, om', b', U', _, e, fun k q hq => ?_, by simp [tl]; omega, r', ?_, ?_⟩
  · by_cases c : k < a + 1
    · rw [List.getElem?_append_left (by omega), List.getElem?_take, if_pos c] at hq
      exact L.rs k q hq
    · have hk : k = a + 1 := by
        have := (List.getElem?_eq_some_iff.mp hq).1
        rw [List.length_append, tl] at this
        simp at this
        omega
      subst hk
      rw [List.getElem?_append_right (by omega), tl, Nat.sub_self] at hq
      cases hq
      exact ⟨s1, by omega⟩
  · rw [List.getElem?_append_right (by omega), tl, Nat.sub_self]
    rfl
  · have c1 : (rows.take (a + 1) ++ [r']).take (a + 1) = rows.take (a + 1) := by
      rw [List.take_append_of_le_length (by omega), List.take_take, Nat.min_self]
    have c2 : (rows.take (a + 1) ++ [r']).drop (a + 1 + 1) = [] := List.drop_eq_nil_of_le (by simp [tl])
    rw [c1, c2, take_at hr, List.map_append]
    exact h1
theorem lo_br (L : Lo j rows a om b U) (hj : j ≤ 19) (w : Int) : ∃ (rows' : List (List Sr)) (a' : Nat) (om' : Om) (b' : Box) (U' : Nat) (y8 y9 : Option Sl), l_br (lR v0 rows many a x6 (some (.val (.int w))) x8 x9) om = .nx (lR v0 rows' many (a' : Nat) x6 (some (.val (.int w))) y8 y9) om' ∧ Lo (j + 1) rows' a' om' b' U' := by
  by_cases c0 : w = 0
  · obtain ⟨a', om', y8, e, L'⟩ := lo_back v0 many x6 (some (.val (.int w))) x8 x9 L hj
    refine ⟨rows, a', om', b, U, y8, x9, ?_, L'⟩
    have d0 : decide (w = 0) = true := decide_eq_true c0
    clear L L' c0 hj
    unfold l_br
    unfold lR at *
    generalize rows.map encL = X at *
    walk_at "evx"
  · have d0 : decide (w = 0) = false := decide_eq_false c0
    by_cases c1 : w = 1
    · have d1 : decide (w = 1) = true := decide_eq_true c1
      by_cases ca : (a : Int) = 0
      · obtain ⟨a', om', y8, e, L'⟩ := lo_back v0 many x6 (some (.val (.int w))) x8 x9 L hj
        refine ⟨rows, a', om', b, U, y8, x9, ?_, L'⟩
        have da : decide ((a : Int) = 0) = true := decide_eq_true ca
        clear L L' c0 c1 ca hj
        unfold l_br
        unfold lR at *
        generalize rows.map encL = X at *
        walk_at "evx"
      · obtain ⟨a', om', y8, e, L'⟩ := lo_again v0 many x6 (some (.val (.int w))) x8 x9 L hj
        refine ⟨rows, a', om', b, U, y8, x9, ?_, L'⟩
        have da : decide ((a : Int) = 0) = false := decide_eq_false ca
        clear L L' c0 c1 ca hj
        unfold l_br l_br2
        unfold lR at *
        generalize rows.map encL = X at *
        walk_at "evx"
    · have d1 : decide (w = 1) = false := decide_eq_false c1
      obtain ⟨rows', a', om', b', U', y9, e, L'⟩ := lo_deed v0 many x6 (some (.val (.int w))) x8 x9 L hj
      refine ⟨rows', a', om', b', U', x8, y9, ?_, L'⟩
      clear L L' c0 c1 hj
      unfold l_br l_br2
      unfold lR at *
      generalize rows.map encL = X at *
      generalize rows'.map encL = X' at *
      walk_at "evx"
theorem lo_turn (L : Lo j rows a om b U) (hj : j ≤ 19) : ∃ (rows' : List (List Sr)) (a' : Nat) (om' : Om) (b' : Box) (U' : Nat) (y7 y8 y9 : Option Sl), l_turn (lR v0 rows many a x6 x7 x8 x9) om = .nx (lR v0 rows' many (a' : Nat) x6 y7 y8 y9) om' ∧ Lo (j + 1) rows' a' om' b' U' := by
  obtain ⟨r, hr, h⟩ := L.re
  have hlen := L.len
  have hat := L.at
  obtain ⟨hs, hl⟩ := L.rs a r hr
  obtain ⟨rest, hb⟩ := h.bx
  subst hb
  obtain ⟨b1, e1⟩ := off_st v0 (rows := rows) many x6 x7 x8 x9 hr (by omega) hs (by omega) h (by simp; omega)
  have e2 := way_st v0 (rows := rows) many x6 x7 x8 x9 (b := b1) (rest := rest) a
  have L2 : Lo j rows a (bom (tkn 5 b1) rest) (tkn 5 b1) U := ⟨L.rs, L.len, r, hr, re_bom h _⟩
  obtain ⟨rows', a', om', b', U', y8, y9, e3, L3⟩ := lo_br v0 many x6 x8 x9 L2 hj (tkv 5 b1)
  obtain ⟨r', hr', h'⟩ := L3.re
  have hlen' := L3.len
  have hat' := L3.at
  obtain ⟨_, hl'⟩ := L3.rs a' r' hr'
  have e4 := alk_st v0 (rows := rows') many x6 (some (.val (.int (tkv 5 b1)))) y8 y9 hr' (by omega) h'
  refine ⟨rows', a', om', b', U', some (.val (.int (tkv 5 b1))), y8, y9, ?_, L3⟩
  unfold l_turn
  rw [sSeq_eq, e1, seq_nx, sSeq_eq, e2, seq_nx, sSeq_eq, e3, seq_nx, e4]
theorem lo_loop : ∀ (l : List D) (j : Nat) (rows : List (List Sr)) (a : Nat) (om : Om) (b : Box) (U : Nat) (x6 x7 x8 x9 : Option Sl), j + l.length ≤ 20 → Lo j rows a om b U → ∃ (om' : Om) (ρ' : Rho), goL (gN 6) l_turn l (lR v0 rows many a x6 x7 x8 x9) om = .nx ρ' om'
  | [], j, rows, a, om, b, U, x6, x7, x8, x9, _, _ => ⟨om, _, rfl⟩
  | d :: l, j, rows, a, om, b, U, x6, x7, x8, x9, hj, L => by
    simp only [List.length_cons] at hj
    obtain ⟨rows', a', om', b', U', y7, y8, y9, e, L'⟩ := lo_turn v0 many (some (.val d)) x7 x8 x9 L (by omega)
    obtain ⟨om2, ρ2, e2⟩ := lo_loop l (j + 1) rows' a' om' b' U' (some (.val d)) y7 y8 y9 (by omega) L'
    refine ⟨om2, ρ2, ?_⟩
    rw [goL_cons (ρ1 := lR v0 rows many a (some (.val d)) x7 x8 x9) _ _ rfl, e, turn_nx, e2]
end
end Dv

namespace Dv
open PySem PySem.Spec PyProof.Rows L2
local macro_rules | `(tactic| walk_at "ev") => `(tactic| try simp (disch := omega) only [sSeq_eq, seq_nx, seq_rt, seq_rto, seq_xc, seq_bk, seq_ct, seq_ite, sAsg, sAsgO, sExpr, sRet, sRetO, sRetN, sIf, sNext, uVar, uC, uUn, uBin, uB, uNot, uAnd, uOr, uTV, uAndV, uOrV, uNotV, uIf, uChain, uNil, uCons, uTup, uLst, uLstO, uFn, uFnO, uFz, uMv, uNew, uCall, uCallO, uCallN, uBinV, uBinW, uBinL, uMeO, uMeL, uFnV, sSetL, sAsgG, gN, gT2, gT3, gT4, iLst, iFn,   bind_ok, bind_xc, of_ok, of_xc, res_ok, res_xc, res0_ok, own_ok, own_xc, fr_nx, fr_rt, fr_rto, fr_xc, fo_rto, fo_xc, liftO_some, dBool_bl, items_lst, items_frz, ent, defU, defO, List.map_cons, List.map_nil, List.length_cons, List.length_nil, List.cons_append, List.nil_append, List.append_nil, List.replicate, List.getElem?_cons_zero, List.getElem?_cons_succ, List.set_cons_zero, List.set_cons_succ, Nat.zero_add, Nat.reduceAdd, Nat.reduceSub, Nat.reduceLeDiff,   le_big, lt_big, atN_zero, atN_one, atN_two, atN_three, setN_zero, setN_one, popAt_zero, len_zero, len_succ, dMul_r, dMul_l, dDiv_pos, dMod_pos, dAdd_int, dSub_int, dNeg_int, dLt_int, dLe_int, dGt_int, dGe_int, dEq_int, dNe_int, dEq_bl, dNe_bl, dEq_nil, dNe_nil, dIx_lst, dIx_tup, fAbs_int, fInt_bl, fInt_int, fLen_lst, fLen_frz, fLen_tup, ite_true, ite_false, if_true, if_false, Bool.not_true, Bool.not_false, decide_true, decide_false, Bool.true_eq_false, Bool.false_eq_true, reduceIte, reduceCtorEq, turn_nx, turn_ct, turn_bk, turn_rt, turn_rto, turn_xc, sFor_eq, goL_nil, eq_self])
local macro_rules | `(tactic| walk_at "evs") => `(tactic| try simp (disch := omega) only [sSeq_eq, seq_nx, seq_rt, seq_rto, seq_xc, seq_bk, seq_ct, seq_ite, sAsg, sAsgO, sExpr, sRet, sRetO, sRetN, sIf, sNext, uVar, uC, uUn, uBin, uB, uNot, uAnd, uOr, uTV, uAndV, uOrV, uNotV, uIf, uChain, uNil, uCons, uTup, uLst, uLstO, uFn, uFnO, uFz, uMv, uNew, uCall, uCallO, uCallN, uBinV, uBinW, uBinL, uMeO, uMeL, uFnV, sSetL, sAsgG, gN, gT2, gT3, gT4, iLst, iFn,   bind_ok, bind_xc, of_ok, of_xc, res_ok, res_xc, res0_ok, own_ok, own_xc, fr_nx, fr_rt, fr_rto, fr_xc, fo_rto, fo_xc, liftO_some, dBool_bl, items_lst, items_frz, ent, defU, defO, List.map_cons, List.map_nil, List.length_cons, List.length_nil, List.cons_append, List.nil_append, List.append_nil, List.replicate, List.getElem?_cons_zero, List.getElem?_cons_succ, List.set_cons_zero, List.set_cons_succ, Nat.zero_add, Nat.reduceAdd, Nat.reduceSub, Nat.reduceLeDiff,   le_big, lt_big, atN_zero, atN_one, atN_two, atN_three, setN_zero, setN_one, popAt_zero, len_zero, len_succ, dMul_r, dMul_l, dDiv_pos, dMod_pos, dAdd_int, dSub_int, dNeg_int, dLt_int, dLe_int, dGt_int, dGe_int, dEq_int, dNe_int, dEq_bl, dNe_bl, dEq_nil, dNe_nil, dIx_lst, dIx_tup, fAbs_int, fInt_bl, fInt_int, fLen_lst, fLen_frz, fLen_tup, ite_true, ite_false, if_true, if_false, Bool.not_true, Bool.not_false, decide_true, decide_false, Bool.true_eq_false, Bool.false_eq_true, reduceIte, reduceCtorEq, turn_nx, turn_ct, turn_bk, turn_rt, turn_rto, turn_xc, sFor_eq, goL_nil, eq_self, *])
local macro_rules | `(tactic| walk_at "evt") => `(tactic| try simp (disch := first | omega | (simp only [List.length_append, List.length_cons, List.length_nil, List.length_map]; omega)) only [sSeq_eq, seq_nx, seq_rt, seq_rto, seq_xc, seq_bk, seq_ct, seq_ite, sAsg, sAsgO, sExpr, sRet, sRetO, sRetN, sIf, sNext, uVar, uC, uUn, uBin, uB, uNot, uAnd, uOr, uTV, uAndV, uOrV, uNotV, uIf, uChain, uNil, uCons, uTup, uLst, uLstO, uFn, uFnO, uFz, uMv, uNew, uCall, uCallO, uCallN, uBinV, uBinW, uBinL, uMeO, uMeL, uFnV, sSetL, sAsgG, gN, gT2, gT3, gT4, iLst, iFn,   bind_ok, bind_xc, of_ok, of_xc, res_ok, res_xc, res0_ok, own_ok, own_xc, fr_nx, fr_rt, fr_rto, fr_xc, fo_rto, fo_xc, liftO_some, dBool_bl, items_lst, items_frz, ent, defU, defO, List.map_cons, List.map_nil, List.length_cons, List.length_nil, List.cons_append, List.nil_append, List.append_nil, List.replicate, List.getElem?_cons_zero, List.getElem?_cons_succ, List.set_cons_zero, List.set_cons_succ, Nat.zero_add, Nat.reduceAdd, Nat.reduceSub, Nat.reduceLeDiff,   le_big, lt_big, atN_zero, atN_one, atN_two, atN_three, setN_zero, setN_one, popAt_zero, len_zero, len_succ, dMul_r, dMul_l, dDiv_pos, dMod_pos, dAdd_int, dSub_int, dNeg_int, dLt_int, dLe_int, dGt_int, dGe_int, dEq_int, dNe_int, dEq_bl, dNe_bl, dEq_nil, dNe_nil, dIx_lst, dIx_tup, fAbs_int, fInt_bl, fInt_int, fLen_lst, fLen_frz, fLen_tup, ite_true, ite_false, if_true, if_false, Bool.not_true, Bool.not_false, decide_true, decide_false, Bool.true_eq_false, Bool.false_eq_true, reduceIte, reduceCtorEq, turn_nx, turn_ct, turn_bk, turn_rt, turn_rto, turn_xc, sFor_eq, goL_nil, eq_self, sRaise, gT2, gT3, gT4, sAsgG, uM1, uOrS, uSlS, uSlW, uCatV, uPart, uNoPart, iStrU, k_colon, k_blank, k_line, k_f, k_s, k_0, k_empty, k_digits, k_abc, k_alpha, k_cue, k_from, k_to, k_at, k_two, k_fto, k_nl, k_a1, dAdd_tx, fLen_tx, fStr_nat, dEq_tx, dNe_tx, dEq_txn, dNe_txn, len_tx, cutS_l1, cutS_b1, cutS_ln, cutS_bn, dIx_tx0, *])
local macro_rules | `(tactic| walk_at "evx") => `(tactic| try simp (disch := first | omega | (simp only [List.length_append, List.length_cons, List.length_nil, List.length_map]; omega)) only [sSeq_eq, seq_nx, seq_rt, seq_rto, seq_xc, seq_bk, seq_ct, seq_ite, sAsg, sAsgO, sExpr, sRet, sRetO, sRetN, sIf, sNext, uVar, uC, uUn, uBin, uB, uNot, uAnd, uOr, uTV, uAndV, uOrV, uNotV, uIf, uChain, uNil, uCons, uTup, uLst, uLstO, uFn, uFnO, uFz, uMv, uNew, uCall, uCallO, uCallN, uBinV, uBinW, uBinL, uMeO, uMeL, uFnV, sSetL, sAsgG, gN, gT2, gT3, gT4, iLst, iFn,   bind_ok, bind_xc, of_ok, of_xc, res_ok, res_xc, res0_ok, own_ok, own_xc, fr_nx, fr_rt, fr_rto, fr_xc, fo_rto, fo_xc, liftO_some, dBool_bl, items_lst, items_frz, ent, defU, defO, List.map_cons, List.map_nil, List.length_cons, List.length_nil, List.cons_append, List.nil_append, List.append_nil, List.replicate, List.getElem?_cons_zero, List.getElem?_cons_succ, List.set_cons_zero, List.set_cons_succ, Nat.zero_add, Nat.reduceAdd, Nat.reduceSub, Nat.reduceLeDiff,   le_big, lt_big, atN_zero, atN_one, atN_two, atN_three, setN_zero, setN_one, popAt_zero, len_zero, len_succ, dMul_r, dMul_l, dDiv_pos, dMod_pos, dAdd_int, dSub_int, dNeg_int, dLt_int, dLe_int, dGt_int, dGe_int, dEq_int, dNe_int, dEq_bl, dNe_bl, dEq_nil, dNe_nil, dIx_lst, dIx_tup, fAbs_int, fInt_bl, fInt_int, fLen_lst, fLen_frz, fLen_tup, ite_true, ite_false, if_true, if_false, Bool.not_true, Bool.not_false, decide_true, decide_false, Bool.true_eq_false, Bool.false_eq_true, reduceIte, reduceCtorEq, turn_nx, turn_ct, turn_bk, turn_rt, turn_rto, turn_xc, sFor_eq, goL_nil, eq_self, sRaise, gT2, gT3, gT4, sAsgG, see_bl, see_int, see_non, see_tup, see_lst, see_str, uBinX, uUnX, uFnX, uFld, sFldU, uMeth, uMethO, uMake, uCatX, uRev, uMethN, uFrzI, uSlV, uM1, uOrS, uSlS, uSlW, uCatV, uPart, uNoPart, iStrU, k_colon, k_blank, k_line, k_f, k_s, k_0, k_empty, k_digits, k_abc, k_alpha, k_cue, k_from, k_to, k_at, k_two, k_fto, k_nl, k_a1, dAdd_tx, fLen_tx, fStr_nat, dEq_tx, dNe_tx, dEq_txn, dNe_txn, len_tx, cutS_l1, cutS_b1, cutS_ln, cutS_bn, dIx_tx0, *])
theorem begun_lst (ns : List Int) : ∃ b : Box, S_law_begun [.lst (ns.map D.int)] [] = .ok (.loc 1) (bom b []) := by
  obtain ⟨st, r, h, e⟩ := begun_loop (.lst (ns.map D.int)) [] ns 0 none ⟨by decide, by decide⟩
  unfold S_law_begun u_law_begun
  walk_at "ev"
  rw [e]
  walk_at "ev"
  simp only [fList]
  walk_at "ev"
  by_cases hl : (2 : Int) < ((ns.map D.int).length : Int)
  · simp only [hl, decide_true, if_true, Int.mul_one]
    exact ⟨⟨ns, st, h⟩, rfl⟩
  · simp only [hl, decide_false, if_false, Int.mul_zero, Bool.false_eq_true]
    exact ⟨⟨ns, 0, by decide, by decide⟩, rfl⟩
theorem rest_true (d : D) {r : List Sr} (sx : SxL 0 r) (hl6 : r.length ≤ 6) (b : Box) {k : Int} (k1 : 1 ≤ k) (k2 : k ≤ 20) :
    ∃ om2, l_rest [some (.val d), some (.val (.loc 1)), some (.own [encL r]), some (.val (.int k)), none, none, none, none, none, none] (bom b [.tab tq]) = .rt (.bl true) om2 := by
  have ro := cn_ord (SxL.cn sx)
  have e3 := rinit_eq b [.tab tq] r (by omega) ro
  have l2 : (bom b [.tab tq]).length = 3 := rfl
  have rb : bom b [.tab tq] ++ [rlC (oneF [] r) ((bom b [.tab tq]).length + 1) ((bom b [.tab tq]).length + 2), Cell.lst [], Cell.lst []] = bom b [.tab tq, rlC (oneF [] r) 4 5, Cell.lst [], Cell.lst []] := rfl
  rw [rb] at e3
  rw [l2] at e3
  have L : Lo 0 [r] 0 (bom b [.tab tq, rlC (oneF [] r) 4 5, Cell.lst [], Cell.lst []]) b 5 := ⟨fun i q hq => by
      have : i = 0 := by
        have := (List.getElem?_eq_some_iff.mp hq).1
        simp at this
        exact this
      subst this
      cases hq
      exact ⟨sx, by omega⟩, by simp, r, rfl, ⟨_, rfl⟩, by decide, by decide, by decide, by decide, by decide, by decide, rfl, rfl, rfl, fun k c hk => by
    obtain ⟨rfl, rfl⟩ := hk
    exact ⟨by decide, by decide, by decide, by decide, rfl⟩⟩
  have f1 := fRng1_eq (j := k) (by omega)
  obtain ⟨om', ρ', lp⟩ := lo_loop (some (.val d)) (.int k) (rngN 0 k.toNat) 0 [r] 0 _ b 5 none none none none (by unfold rngN; rw [List.length_map, List.length_range]; omega) L
  refine ⟨om', ?_⟩
  clear L ro sx hl6 rb k1 k2
  unfold l_rest
  unfold lR at *
  generalize l_turn = LT at *
  generalize [Cell.tab tq, rlC (oneF [] r) 4 5, Cell.lst [], Cell.lst []] = rest at *
  have lp' : goL (gN 6) LT (rngN 0 k.toNat) [some (.val d), some (.val (.loc 1)), some (.own [encL r]), some (.val (.int k)), some (.val (.int 0)), some (.val (.loc 3)), none, none, none, none] (bom b rest) = .nx ρ' om' := lp
  clear lp
  generalize bom b [.tab tq] = om at *
  generalize bom b rest = om3 at *
  generalize encL r = X at *
  walk_at "evx"
theorem law_true (ns : List Int) (d : D) (hl : ns.length ≤ 63) (hd : d = .frz (ns.map .int) ∨ d = .lst (ns.map .int)) : ∃ ρ1 om1 om2, u_law1 (ent 10 [d]) [] = .nx ρ1 om1 ∧ u_law2 ρ1 (om1 ++ [.tab "law.<locals>.<lambda>"]) = .rt (.bl true) om2 := by
  obtain ⟨b0, e0⟩ : ∃ b : Box, S_law_begun [d] [] = .ok (.loc 1) (bom b []) := by
    rcases hd with rfl | rfl
    · exact begun_eq ns
    · exact begun_lst ns
  obtain ⟨r, b1, e1, hr, hl6⟩ := show_eqX b0 [.tab tq]
  have sx : SxL 0 r := fun s hs => sxn_sx (Nat.le_refl 6) 0 (hr s hs)
  have e2 := take_eq (m := 12) b1 [.tab tq] (by decide) (by decide)
  have e3 := take_eq (m := 6) (tkn 12 b1) [.tab tq] (by decide) (by decide)
  have n1 := tkv_nn (m := 12) b1 (by decide)
  have n2 := tkv_lt (m := 12) b1 (by decide)
  have fin : ∃ om2, (sSeq l_cut l_rest) [some (.val d), some (.val (.loc 1)), some (.own [encL r]), some (.val (.int (1 + tkv 12 b1))), none, none, none, none, none, none] (bom (tkn 12 b1) [.tab tq]) = .rt (.bl true) om2 := by
    by_cases c : tkv 6 (tkn 12 b1) = 1
    · have e4 := take_eq (m := 20) (tkn 6 (tkn 12 b1)) [.tab tq] (by decide) (by decide)
      have n3 := tkv_nn (m := 20) (tkn 6 (tkn 12 b1)) (by decide)
      have n4 := tkv_lt (m := 20) (tkn 6 (tkn 12 b1)) (by decide)
      obtain ⟨om2, e⟩ := rest_true d (r := r.take 1) (fun s hs => sx s (List.mem_of_mem_take hs)) (by rw [List.length_take]; omega) (tkn 20 (tkn 6 (tkn 12 b1))) (k := 1 + tkv 20 (tkn 6 (tkn 12 b1))) (by omega) (by omega)
      refine ⟨om2, ?_⟩
      have d0 : decide (tkv 6 (tkn 12 b1) = 1) = true := decide_eq_true c
      have q1 : cutD (r.map encS) none (some 1) = (r.take 1).map encS := by rw [cutD_one, List.map_take]
      clear n3 n4 c n1 n2 sx hr hl6 e1 e2 e0 hd hl
      unfold l_cut
      unfold encL at *
      generalize l_rest = LR at *
      generalize (r.take 1).map encS = X1 at *
      generalize r.map encS = X at *
      walk_at "evx"
    · obtain ⟨om2, e⟩ := rest_true d sx hl6 (tkn 6 (tkn 12 b1)) (k := 1 + tkv 12 b1) (by omega) (by omega)
      refine ⟨om2, ?_⟩
      have d0 : decide (tkv 6 (tkn 12 b1) = 1) = false := decide_eq_false c
      clear c n1 n2 sx hr hl6 e1 e2 e0 hd hl
      unfold l_cut
      generalize l_rest = LR at *
      generalize encL r = X at *
      walk_at "evx"
  obtain ⟨om2, e⟩ := fin
  refine ⟨[some (.val d), some (.val (.loc 1)), none, none, none, none, none, none, none, none], bom b0 [], om2, ?_, ?_⟩
  · clear e e1 e2 e3 n1 n2 sx hr hd hl
    unfold u_law1
    walk_at "evx"
  · have hb : bom b0 [] ++ [Cell.tab "law.<locals>.<lambda>"] = bom b0 [.tab tq] := rfl
    rw [hb, l_top]
    clear e0 e3 n1 n2 sx hr hd hl hb hl6
    unfold encL at *
    generalize sSeq l_cut l_rest = LC at *
    generalize r.map encS = X at *
    walk_at "evx"
end Dv

open PySem PySem.W PyProof.Rows in
set_option maxRecDepth 100000 in
set_option maxHeartbeats 0 in
theorem PySem.Challenge.cw_reels_k08_whole_undone_holds : PySem.Challenge.rw_reels_k08_whole_undone.Holds := by
  w_on; o_law; k_head; (case hw => w_witness2)
  k_fill
  refine LamX.walk_ofOwn (l := PySem.Challenge.rw_reels_k08_whole_undone) (n := 63) (k := 13) (x := "_law_script") (CX := fun _ => L2.CX0) rfl (by decide) rfl ⟨rfl, by decide, by decide⟩ (by decide +kernel) (fun w h Y => PySem.W.km_in_of Y) ?F (fun _ _ _ _ _ z => z)
  case F =>
    intro w mg fa h _ KX G hmg O
    refine Dv.fin KX hmg O ?T Dv.law_true
    constructor
    · refine' Dv.at_mk KX G ?a ?l ?c ?k
      (case a => k_is)
      (case l => k_is)
      (case c => k_is)
      (case k => k_is)
    · refine' Dv.at_mk KX G ?a ?l ?c ?k
      (case a => k_is)
      (case l => k_is)
      (case c => k_is)
      (case k => k_is)
    · refine' Dv.at_mk KX G ?a ?l ?c ?k
      (case a => k_is)
      (case l => k_is)
      (case c => k_is)
      (case k => k_is)
    · refine' Dv.at_mk KX G ?a ?l ?c ?k
      (case a => k_is)
      (case l => k_is)
      (case c => k_is)
      (case k => k_is)
    · refine' Dv.at_mk KX G ?a ?l ?c ?k
      (case a => k_is)
      (case l => k_is)
      (case c => k_is)
      (case k => k_is)
    · refine' Dv.at_mk KX G ?a ?l ?c ?k
      (case a => k_is)
      (case l => k_is)
      (case c => k_is)
      (case k => k_is)
    · refine' Dv.at_mk KX G ?a ?l ?c ?k
      (case a => k_is)
      (case l => k_is)
      (case c => k_is)
      (case k => k_is)
    · refine' Dv.at_mk KX G ?a ?l ?c ?k
      (case a => k_is)
      (case l => k_is)
      (case c => k_is)
      (case k => k_is)
    · refine' Dv.at_mk KX G ?a ?l ?c ?k
      (case a => k_is)
      (case l => k_is)
      (case c => k_is)
      (case k => k_is)
    · refine' Dv.at_mk KX G ?a ?l ?c ?k
      (case a => k_is)
      (case l => k_is)
      (case c => k_is)
      (case k => k_is)
    · refine' Dv.at_mk KX G ?a ?l ?c ?k
      (case a => k_is)
      (case l => k_is)
      (case c => k_is)
      (case k => k_is)
    · refine' Dv.at_mk KX G ?a ?l ?c ?k
      (case a => k_is)
      (case l => k_is)
      (case c => k_is)
      (case k => k_is)
    · refine' Dv.at_mk KX G ?a ?l ?c ?k
      (case a => k_is)
      (case l => k_is)
      (case c => k_is)
      (case k => k_is)
    · refine' Dv.at_mk KX G ?a ?l ?c ?k
      (case a => k_is)
      (case l => k_is)
      (case c => k_is)
      (case k => k_is)
    · refine' Dv.at_mk KX G ?a ?l ?c ?k
      (case a => k_is)
      (case l => k_is)
      (case c => k_is)
      (case k => k_is)
    · refine' Dv.atI_mk KX G ?aC ?a ?i ?l ?c ?k ?mk ?kc
      (case aC => k_is)
      (case a => k_is)
      (case i => k_is)
      (case l => k_is)
      (case c => k_is)
      (case k => k_is)
      (case mk => k_is)
      (case kc => k_is)
    · refine' Dv.atM_mk KX G ?aC ?a ?i ?l ?c ?k
      (case aC => k_is)
      (case a => k_is)
      (case i => k_is)
      (case l => k_is)
      (case c => k_is)
      (case k => k_is)
    · refine' Dv.atM_mk KX G ?aC ?a ?i ?l ?c ?k
      (case aC => k_is)
      (case a => k_is)
      (case i => k_is)
      (case l => k_is)
      (case c => k_is)
      (case k => k_is)
    · refine' Dv.atM_mk KX G ?aC ?a ?i ?l ?c ?k
      (case aC => k_is)
      (case a => k_is)
      (case i => k_is)
      (case l => k_is)
      (case c => k_is)
      (case k => k_is)
    · refine' Dv.atM_mk KX G ?aC ?a ?i ?l ?c ?k
      (case aC => k_is)
      (case a => k_is)
      (case i => k_is)
      (case l => k_is)
      (case c => k_is)
      (case k => k_is)
    · refine' Dv.atM_mk KX G ?aC ?a ?i ?l ?c ?k
      (case aC => k_is)
      (case a => k_is)
      (case i => k_is)
      (case l => k_is)
      (case c => k_is)
      (case k => k_is)
    · refine' Dv.atM_mk KX G ?aC ?a ?i ?l ?c ?k
      (case aC => k_is)
      (case a => k_is)
      (case i => k_is)
      (case l => k_is)
      (case c => k_is)
      (case k => k_is)
    · refine' Dv.atM_mk KX G ?aC ?a ?i ?l ?c ?k
      (case aC => k_is)
      (case a => k_is)
      (case i => k_is)
      (case l => k_is)
      (case c => k_is)
      (case k => k_is)
    · refine' Dv.at_mk KX G ?a ?l ?c ?k
      (case a => k_is)
      (case l => k_is)
      (case c => k_is)
      (case k => k_is)
    · refine' Dv.at_mk KX G ?a ?l ?c ?k
      (case a => k_is)
      (case l => k_is)
      (case c => k_is)
      (case k => k_is)
    · refine' Dv.at_mk KX G ?a ?l ?c ?k
      (case a => k_is)
      (case l => k_is)
      (case c => k_is)
      (case k => k_is)
    · refine' Dv.at_mk KX G ?a ?l ?c ?k
      (case a => k_is)
      (case l => k_is)
      (case c => k_is)
      (case k => k_is)
    · refine' Dv.at_mk KX G ?a ?l ?c ?k
      (case a => k_is)
      (case l => k_is)
      (case c => k_is)
      (case k => k_is)
    · refine' Dv.at_mk KX G ?a ?l ?c ?k
      (case a => k_is)
      (case l => k_is)
      (case c => k_is)
      (case k => k_is)
    · refine' Dv.at_mk KX G ?a ?l ?c ?k
      (case a => k_is)
      (case l => k_is)
      (case c => k_is)
      (case k => k_is)
    · refine' Dv.at_mk KX G ?a ?l ?c ?k
      (case a => k_is)
      (case l => k_is)
      (case c => k_is)
      (case k => k_is)
    · refine' Dv.at_mk KX G ?a ?l ?c ?k
      (case a => k_is)
      (case l => k_is)
      (case c => k_is)
      (case k => k_is)
    · refine' Dv.at_mk KX G ?a ?l ?c ?k
      (case a => k_is)
      (case l => k_is)
      (case c => k_is)
      (case k => k_is)
    · refine' Dv.at_mk KX G ?a ?l ?c ?k
      (case a => k_is)
      (case l => k_is)
      (case c => k_is)
      (case k => k_is)
    · refine' Dv.at_mk KX G ?a ?l ?c ?k
      (case a => k_is)
      (case l => k_is)
      (case c => k_is)
      (case k => k_is)
    · refine' Dv.at_mk KX G ?a ?l ?c ?k
      (case a => k_is)
      (case l => k_is)
      (case c => k_is)
      (case k => k_is)
    · refine' Dv.at_mk KX G ?a ?l ?c ?k
      (case a => k_is)
      (case l => k_is)
      (case c => k_is)
      (case k => k_is)
    · refine' Dv.at_mk KX G ?a ?l ?c ?k
      (case a => k_is)
      (case l => k_is)
      (case c => k_is)
      (case k => k_is)
    · refine' Dv.at_mk KX G ?a ?l ?c ?k
      (case a => k_is)
      (case l => k_is)
      (case c => k_is)
      (case k => k_is)
    · refine' Dv.at_mk KX G ?a ?l ?c ?k
      (case a => k_is)
      (case l => k_is)
      (case c => k_is)
      (case k => k_is)
    · refine' Dv.at_mk KX G ?a ?l ?c ?k
      (case a => k_is)
      (case l => k_is)
      (case c => k_is)
      (case k => k_is)
    · refine' Dv.at_mk KX G ?a ?l ?c ?k
      (case a => k_is)
      (case l => k_is)
      (case c => k_is)
      (case k => k_is)
    · refine' Dv.at_mk KX G ?a ?l ?c ?k
      (case a => k_is)
      (case l => k_is)
      (case c => k_is)
      (case k => k_is)
    · refine' PySem.W.mg_none_of KX G ?z
      (case z => k_is)
    · refine' PySem.W.mg_none_of KX G ?z
      (case z => k_is)
    · refine' PySem.W.mg_none_of KX G ?z
      (case z => k_is)
    · refine' PySem.W.mg_none_of KX G ?z
      (case z => k_is)
    · refine' PySem.W.mg_none_of KX G ?z
      (case z => k_is)
    · refine' PySem.W.mg_none_of KX G ?z
      (case z => k_is)
    · refine' PySem.W.mg_none_of KX G ?z
      (case z => k_is)
    · refine' PySem.W.mg_none_of KX G ?z
      (case z => k_is)
    · refine' PySem.W.mg_none_of KX G ?z
      (case z => k_is)
    · refine' PySem.W.mg_none_of KX G ?z
      (case z => k_is)
    · refine' PySem.W.mg_none_of KX G ?z
      (case z => k_is)
    · refine' PySem.W.mg_none_of KX G ?z
      (case z => k_is)
    · refine' Dv.const_pair (PySem.W.mg_of KX G ?a) ?l
      (case a => k_is)
      (case l => k_is)
    · refine' Dv.exm_mk KX G ?a ?k ?b ?t ?i ?x
      (case a => k_is)
      (case k => k_is)
      (case b => k_is)
      (case t => k_is)
      (case i => k_is)
      (case x => k_exc)
    · refine' Dv.cls_mk KX G ?aC ?pg ?hd ?po ?sa
      (case aC => k_is)
      (case pg => k_is)
      (case hd => k_is)
      (case po => k_is)
      (case sa => k_is)
    · refine' Dv.na_mk KX G ?aC ?n
      (case aC => k_is)
      (case n => k_is)
    · refine' Dv.na_mk KX G ?aC ?n
      (case aC => k_is)
      (case n => k_is)
    · refine' Dv.na_mk KX G ?aC ?n
      (case aC => k_is)
      (case n => k_is)
    · refine' Dv.exm_mk KX G ?a ?k ?b ?t ?i ?x
      (case a => k_is)
      (case k => k_is)
      (case b => k_is)
      (case t => k_is)
      (case i => k_is)
      (case x => k_exc)
    · refine' Dv.exf_mk KX G ?a ?k ?b ?t ?i
      (case a => k_is)
      (case k => k_is)
      (case b => k_is)
      (case t => k_is)
      (case i => k_is)
    · refine' (Dv.KnOk.cons ?nOffReel0 (Dv.KnOk.cons ?nOffReel1 Dv.KnOk.nil))
      · refine' Dv.sub_mk KX G ?a ?b ?s
        (case a => k_is)
        (case b => k_is)
        (case s => first | rfl | k_is)
      · refine' Dv.sub_mk KX G ?a ?b ?s
        (case a => k_is)
        (case b => k_is)
        (case s => first | rfl | k_is)
    · refine' Dv.exf_mk KX G ?a ?k ?b ?t ?i
      (case a => k_is)
      (case k => k_is)
      (case b => k_is)
      (case t => k_is)
      (case i => k_is)
    · refine' Dv.exf_mk KX G ?a ?k ?b ?t ?i
      (case a => k_is)
      (case k => k_is)
      (case b => k_is)
      (case t => k_is)
      (case i => k_is)
    · refine' (Dv.KnOk.cons ?nReelError0 (Dv.KnOk.cons ?nReelError1 Dv.KnOk.nil))
      · refine' Dv.sub_mk KX G ?a ?b ?s
        (case a => k_is)
        (case b => k_is)
        (case s => first | rfl | k_is)
      · refine' Dv.sub_mk KX G ?a ?b ?s
        (case a => k_is)
        (case b => k_is)
        (case s => first | rfl | k_is)
    · refine' (Dv.KnOk.cons ?nValueError0 (Dv.KnOk.cons ?nValueError1 Dv.KnOk.nil))
      · refine' Dv.subT_mk KX G ?a ?s
        (case a => k_is)
        (case s => k_is)
      · refine' Dv.subT_mk KX G ?a ?s
        (case a => k_is)
        (case s => k_is)
    · refine' (Dv.EcOk.skip (Dv.EcOk.cons ?eNoDeed_NoDeed Dv.EcOk.nil))
      · refine' Dv.ec_mk KX G ?a ?s ?h1 ?h2 ?h3 ?h4 ?h5 ?h6 ?h7 ?h8
        (case a => first | k_is | rfl)
        (case s => first | k_is | rfl)
        (case h1 => first | k_is | rfl)
        (case h2 => first | k_is | rfl)
        (case h3 => first | k_is | rfl)
        (case h4 => first | k_is | rfl)
        (case h5 => first | k_is | rfl)
        (case h6 => first | k_is | rfl)
        (case h7 => first | k_is | rfl)
        (case h8 => first | k_is | rfl)
    · refine' Dv.at_mk KX G ?a ?l ?c ?k
      (case a => k_is)
      (case l => k_is)
      (case c => k_is)
      (case k => k_is)
    · refine' Dv.headT_mk (st := Dv.t_law) KX G ?a ?l ?lc ?v11 ?g11 ?g18 ?g7 ?g9 ?g10 ?ne ?nP
      (case a => k_is)
      (case l => k_is)
      (case lc => k_is)
      (case v11 => rfl)
      (case g11 => rfl)
      (case g18 => rfl)
      (case g7 => rfl)
      (case g9 => rfl)
      (case g10 => rfl)
      (case ne => decide)
      (case nP => rfl)
