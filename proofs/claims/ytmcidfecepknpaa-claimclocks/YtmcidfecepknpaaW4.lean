/-
  Parts of the proof: the executor of states by symbols, and the contracts of the functions that the law reaches. No condition.
-/
import Derived.Test.YtmcidfecepknpaaW3
set_option linter.unusedVariables false
set_option linter.unusedSimpArgs false

namespace Go.Proofs.Ytmcidfecepknpaa
open Go Go.Sh Go.Proofs
set_option linter.unusedVariables false
/-! ### equal lists -/
structure SL2 (α : Type) where
  n : Nat
  V : Nat → α
  m : Nat
  W : Nat → α
def staEq (a b : Sta) : Bool := a.state == b.state && (a.since == b.since && (a.next == b.next && true))
def sameL {α : Type} (eq : α → α → Bool) (p : SL2 α) : Bool := decide (p.n = p.m) && (List.range p.n).all fun i => eq (p.V i) (p.W i)
def lineV (k2 : Nat) (W : Nat → Sta) : Option SO := some (.arr false k2 3 39 fun i => (W i).cells)
def intsV (k2 : Nat) (W : Nat → Int) : Option SO := some (.arr false k2 1 3 fun i => [iv (W i)])
def sSameT : FSpec (SL2 Sta) where
  J := fun p => p.n ≤ 100000000 ∧ p.m ≤ 100000000
  A := fun p => [.sl 0 0 p.n, .sl 1 0 p.m]
  H := fun p => [lineV p.n p.V, lineV p.m p.W]
  R := fun p => .bool (sameL staEq p)
  O := fun _ => []
def sInts : FSpec (SL2 Int) where
  J := fun p => p.n ≤ 100000000 ∧ p.m ≤ 100000000
  A := fun p => [.sl 0 0 p.n, .sl 1 0 p.m]
  H := fun p => [intsV p.n p.V, intsV p.m p.W]
  R := fun p => .bool (sameL (fun a b => a == b) p)
  O := fun _ => []
def lST_J (p : SL2 Sta) (i : Nat) : Prop := i ≤ p.n ∧ p.n = p.m ∧ p.n ≤ 100000000 ∧ ∀ j, j < i → staEq (p.V j) (p.W j) = true
noncomputable def lST : LSpec (SL2 Sta) Nat Nat where
  code := loopOf Try.prog 19 4
  N := 2
  I := fun p i => blank 26 [(0, .sl 0 0 p.n), (1, .sl 1 0 p.m), (5, iv i)] [lineV p.n p.V, lineV p.m p.W]
  J := lST_J
  ways := 2
  E := fun w p q => match w with
    | 0 => (.exit 0, blank 26 [] [none, none])
    | _ => (.ret, blank 26 [(4, .bool false)] [none, none])
  JE := fun w p q => match w with
    | 0 => Leaf (p.n = p.m ∧ ∀ j, j < p.n → staEq (p.V j) (p.W j) = true)
    | _ => Leaf (q < p.n ∧ staEq (p.V q) (p.W q) = false)
noncomputable def zST (p : SL2 Sta) (i : Nat) : KX := fun x S' => match x with
  | .normal => Leaf (i < p.n) ∧ Leaf (staEq (p.V i) (p.W i) = true) ∧ Wk 2 [] (lST.I p (i + 1)) S'
  | .exit k => gateB (Nat.beq k 0) (Leaf (p.n ≤ i) ∧ Wk 2 [] (lST.E 0 p 0).2 S')
  | .ret => Leaf (i < p.n) ∧ Leaf (staEq (p.V i) (p.W i) = false) ∧ Wk 2 [] (lST.E 1 p i).2 S'
def lSI_J (p : SL2 Int) (i : Nat) : Prop := i ≤ p.n ∧ p.n = p.m ∧ p.n ≤ 100000000 ∧ ∀ j, j < i → (p.V j == p.W j) = true
noncomputable def lSI : LSpec (SL2 Int) Nat Nat where
  code := loopOf Try.prog 21 4
  N := 2
  I := fun p i => blank 26 [(0, .sl 0 0 p.n), (1, .sl 1 0 p.m), (5, iv i)] [intsV p.n p.V, intsV p.m p.W]
  J := lSI_J
  ways := 2
  E := fun w p q => match w with
    | 0 => (.exit 0, blank 26 [] [none, none])
    | _ => (.ret, blank 26 [(4, .bool false)] [none, none])
  JE := fun w p q => match w with
    | 0 => Leaf (p.n = p.m ∧ ∀ j, j < p.n → (p.V j == p.W j) = true)
    | _ => Leaf (q < p.n ∧ (p.V q == p.W q) = false)
noncomputable def zSI (p : SL2 Int) (i : Nat) : KX := fun x S' => match x with
  | .normal => Leaf (i < p.n) ∧ Leaf ((p.V i == p.W i) = true) ∧ Wk 2 [] (lSI.I p (i + 1)) S'
  | .exit k => gateB (Nat.beq k 0) (Leaf (p.n ≤ i) ∧ Wk 2 [] (lSI.E 0 p 0).2 S')
  | .ret => Leaf (i < p.n) ∧ Leaf ((p.V i == p.W i) = false) ∧ Wk 2 [] (lSI.E 1 p i).2 S'
def exST (S : SS) : Option (SL2 Sta × Nat × Ren) := match S.get 0, S.get 1, arrOf S.heap 0, arrOf S.heap 1 with
  | .sl _ _ n, .sl _ _ m, some (_, V), some (_, W) => some (⟨n, fun i => Sta.ofC (V i), m, fun i => Sta.ofC (W i)⟩, 0, [])
  | _, _, _, _ => none
def exSI (S : SS) : Option (SL2 Int × Nat × Ren) := match S.get 0, S.get 1, arrOf S.heap 0, arrOf S.heap 1 with
  | .sl _ _ n, .sl _ _ m, some (_, V), some (_, W) => some (⟨n, fun i => intOf (V i), m, fun i => intOf (W i)⟩, 0, [])
  | _, _, _, _ => none
end Go.Proofs.Ytmcidfecepknpaa

namespace Go.Proofs.Ytmcidfecepknpaa
open Go Go.Sh Go.Proofs
set_option linter.unusedVariables false
set_option linter.unusedSimpArgs false
def stloop_t0 (p : SL2 Sta) : Prop :=
  (0 : Nat) = (0 : Nat) ∧ p.1 = p.1
theorem stloop_t0_t (p : SL2 Sta) : stloop_t0 p :=
  ⟨rfl, rfl⟩
def stloop_t1 (p : SL2 Sta) : Prop :=
  (0 : Nat) = (0 : Nat) ∧ p.3 = p.3
theorem stloop_t1_t (p : SL2 Sta) : stloop_t1 p :=
  ⟨rfl, rfl⟩
def stloop_t2 (p : SL2 Sta) : Prop :=
  (p.1 = p.1 ∧ ∀ (i_1 : Nat), i_1 < p.n → (p.2 i_1).1 = (p.2 i_1).1 ∧ (p.2 i_1).2 = (p.2 i_1).2 ∧ (p.2 i_1).3 = (p.2 i_1).3 ∧ True) ∧ (p.3 = p.3 ∧ ∀ (i_1 : Nat), i_1 < p.m → (p.4 i_1).1 = (p.4 i_1).1 ∧ (p.4 i_1).2 = (p.4 i_1).2 ∧ (p.4 i_1).3 = (p.4 i_1).3 ∧ True) ∧ True
theorem stloop_t2_t (p : SL2 Sta) : stloop_t2 p :=
  ⟨⟨rfl, (fun _ => (fun _ => ⟨rfl, ⟨rfl, ⟨rfl, trivial⟩⟩⟩))⟩, ⟨⟨rfl, (fun _ => (fun _ => ⟨rfl, ⟨rfl, ⟨rfl, trivial⟩⟩⟩))⟩, trivial⟩⟩
def stloop_T (p : SL2 Sta) (i : Nat) : Prop :=
  ifB (decide (Int.ofNat i < Int.ofNat p.1)) (ifB (decide (Int.ofNat i < (↑p.1 : Int))) (ifB (decide ((0 : Nat) + i < p.1) && true) (ifB (decide (Int.ofNat i < (↑p.3 : Int))) (ifB (decide ((0 : Nat) + i < p.3) && true) (ifB (!((p.2 ((0 : Nat) + i)).1 == (p.4 ((0 : Nat) + i)).1 && ((p.2 ((0 : Nat) + i)).2 == (p.4 ((0 : Nat) + i)).2 && ((p.2 ((0 : Nat) + i)).3 == (p.4 ((0 : Nat) + i)).3 && true)))) (Leaf (i < p.n) ∧ Leaf (staEq (p.V i) (p.W i) = false) ∧ (false = false ∧ True) ∧ True) (Leaf (i < p.n) ∧ Leaf (staEq (p.V i) (p.W i) = true) ∧ (stloop_t0 p ∧ stloop_t1 p ∧ Int.ofNat (i + (1 : Nat)) = IntKind.i64.wrap (Int.ofNat (i + (1 : Nat))) ∧ True) ∧ stloop_t2 p)) False) False) False) False) (Leaf (p.n ≤ i) ∧ True ∧ True)
theorem stloop_eq (p : SL2 Sta) (i : Nat) : exec X0 60 19 lST.code (lST.I p i) (zST p i) = stloop_T p i := by kernel_rfl

theorem stloop_step (p : SL2 Sta) (i : Nat) (hJ : lST_J p i) : stloop_T p i := by
  obtain ⟨h1, h2, h3, h4⟩ := hJ
  unfold stloop_T
  repeat' (first | with_reducible refine ifB_split (fun _ => ?_) (fun _ => ?_) | with_reducible refine And.intro ?_ ?_)
  all_goals try first | with_reducible exact stloop_t0_t _ | with_reducible exact stloop_t1_t _ | with_reducible exact stloop_t2_t _ | with_reducible rfl | with_reducible exact trivial | with_reducible exact List.Perm.refl _
  all_goals simp only [Nat.zero_add, Leaf, Int.ofNat_eq_natCast, decide_eq_true_eq, decide_eq_false_iff_not, Bool.and_eq_true, Bool.and_true, Bool.not_eq_true', Bool.not_eq_true, Bool.not_eq_false', bne_eq_false_iff_eq, bne_iff_ne] at *
  all_goals first
    | omega
    | (rw [wrapSmall (by omega) (by omega)]; done)
    | (simp_all [staEq]; done)
    | (exfalso; simp_all; omega)
    | trace_state
set_option maxRecDepth 100000 in
theorem stloop_ok : LoopOK X0.P lST.code lST.L := by
  refine lST.ok X0_ok 60 19 (fun p i => p.n - i) zST (fun _ _ _ => trivial) (fun p d w q hw => ?_) (fun p i S' hJ h => ?_) (fun p i x S' hx hJ h => ?_) fun p i hJ => ?_
  · match w, hw with
    | 0, _ => exact trivial
    | 1, _ => exact trivial
  · obtain ⟨h1, h2, h3⟩ := h
    obtain ⟨j1, j2, j3, j4⟩ := hJ
    simp only [Leaf] at h1 h2
    refine ⟨[], i + 1, by show p.n - (i + 1) < p.n - i; omega, ⟨h1, j2, j3, fun j hj => ?_⟩, h3⟩
    rcases Nat.lt_succ_iff_lt_or_eq.1 hj with hj | rfl
    · exact j4 j hj
    · exact h2
  · obtain ⟨j1, j2, j3, j4⟩ := hJ
    cases x with
    | normal => exact hx.elim
    | ret =>
      obtain ⟨h1, h2, h3⟩ := h
      exact ⟨1, i, [], by decide, ⟨h1, h2⟩, rfl, h3⟩
    | exit k =>
      obtain ⟨h0, h1, h2⟩ := gateB_spec h
      have h0 := Nat.eq_of_beq_eq_true h0
      subst h0
      simp only [Leaf] at h1
      exact ⟨0, 0, [], by decide, ⟨j2, fun j hj => j4 j (by omega)⟩, rfl, h2⟩
  · rw [stloop_eq]
    exact stloop_step p i hJ
def siloop_t0 (p : SL2 Int) : Prop :=
  (0 : Nat) = (0 : Nat) ∧ p.1 = p.1
theorem siloop_t0_t (p : SL2 Int) : siloop_t0 p :=
  ⟨rfl, rfl⟩
def siloop_t1 (p : SL2 Int) : Prop :=
  (0 : Nat) = (0 : Nat) ∧ p.3 = p.3
theorem siloop_t1_t (p : SL2 Int) : siloop_t1 p :=
  ⟨rfl, rfl⟩
def siloop_t2 (p : SL2 Int) : Prop :=
  (p.1 = p.1 ∧ ∀ (i_1 : Nat), i_1 < p.n → p.2 i_1 = p.2 i_1 ∧ True) ∧ (p.3 = p.3 ∧ ∀ (i_1 : Nat), i_1 < p.m → p.4 i_1 = p.4 i_1 ∧ True) ∧ True
theorem siloop_t2_t (p : SL2 Int) : siloop_t2 p :=
  ⟨⟨rfl, (fun _ => (fun _ => ⟨rfl, trivial⟩))⟩, ⟨⟨rfl, (fun _ => (fun _ => ⟨rfl, trivial⟩))⟩, trivial⟩⟩
def siloop_T (p : SL2 Int) (i : Nat) : Prop :=
  ifB (decide (Int.ofNat i < Int.ofNat p.1)) (ifB (decide (Int.ofNat i < (↑p.1 : Int))) (ifB (decide ((0 : Nat) + i < p.1)) (ifB (decide (Int.ofNat i < (↑p.3 : Int))) (ifB (decide ((0 : Nat) + i < p.3)) (ifB (p.2 ((0 : Nat) + i) != p.4 ((0 : Nat) + i)) (Leaf (i < p.n) ∧ Leaf ((p.V i == p.W i) = false) ∧ (false = false ∧ True) ∧ True) (Leaf (i < p.n) ∧ Leaf ((p.V i == p.W i) = true) ∧ (siloop_t0 p ∧ siloop_t1 p ∧ Int.ofNat (i + (1 : Nat)) = IntKind.i64.wrap (Int.ofNat (i + (1 : Nat))) ∧ True) ∧ siloop_t2 p)) False) False) False) False) (Leaf (p.n ≤ i) ∧ True ∧ True)
theorem siloop_eq (p : SL2 Int) (i : Nat) : exec X0 60 21 lSI.code (lSI.I p i) (zSI p i) = siloop_T p i := by kernel_rfl

theorem siloop_step (p : SL2 Int) (i : Nat) (hJ : lSI_J p i) : siloop_T p i := by
  obtain ⟨h1, h2, h3, h4⟩ := hJ
  unfold siloop_T
  repeat' (first | with_reducible refine ifB_split (fun _ => ?_) (fun _ => ?_) | with_reducible refine And.intro ?_ ?_)
  all_goals try first | with_reducible exact siloop_t0_t _ | with_reducible exact siloop_t1_t _ | with_reducible exact siloop_t2_t _ | with_reducible rfl | with_reducible exact trivial | with_reducible exact List.Perm.refl _
  all_goals simp only [Nat.zero_add, Leaf, Int.ofNat_eq_natCast, decide_eq_true_eq, decide_eq_false_iff_not, Bool.and_eq_true, Bool.and_true, Bool.not_eq_true', Bool.not_eq_true, Bool.not_eq_false', bne_eq_false_iff_eq, bne_iff_ne] at *
  all_goals first
    | omega
    | (rw [wrapSmall (by omega) (by omega)]; done)
    | (simp_all [staEq]; done)
    | (exfalso; simp_all; omega)
    | trace_state
set_option maxRecDepth 100000 in
theorem siloop_ok : LoopOK X0.P lSI.code lSI.L := by
  refine lSI.ok X0_ok 60 21 (fun p i => p.n - i) zSI (fun _ _ _ => trivial) (fun p d w q hw => ?_) (fun p i S' hJ h => ?_) (fun p i x S' hx hJ h => ?_) fun p i hJ => ?_
  · match w, hw with
    | 0, _ => exact trivial
    | 1, _ => exact trivial
  · obtain ⟨h1, h2, h3⟩ := h
    obtain ⟨j1, j2, j3, j4⟩ := hJ
    simp only [Leaf] at h1 h2
    refine ⟨[], i + 1, by show p.n - (i + 1) < p.n - i; omega, ⟨h1, j2, j3, fun j hj => ?_⟩, h3⟩
    rcases Nat.lt_succ_iff_lt_or_eq.1 hj with hj | rfl
    · exact j4 j hj
    · exact h2
  · obtain ⟨j1, j2, j3, j4⟩ := hJ
    cases x with
    | normal => exact hx.elim
    | ret =>
      obtain ⟨h1, h2, h3⟩ := h
      exact ⟨1, i, [], by decide, ⟨h1, h2⟩, rfl, h3⟩
    | exit k =>
      obtain ⟨h0, h1, h2⟩ := gateB_spec h
      have h0 := Nat.eq_of_beq_eq_true h0
      subst h0
      simp only [Leaf] at h1
      exact ⟨0, 0, [], by decide, ⟨j2, fun j hj => j4 j (by omega)⟩, rfl, h2⟩
  · rw [siloop_eq]
    exact siloop_step p i hJ

noncomputable def XE0 : Ctx := (X0.loop 19 4 lST.code (lST.by exST)).loop 21 4 lSI.code (lSI.by exSI)
theorem XE0_ok : XE0.OK := Ctx.loop_ok (Ctx.loop_ok X0_ok (stloop_ok.by exST)) (siloop_ok.by exSI)
end Go.Proofs.Ytmcidfecepknpaa

namespace Go.Proofs.Ytmcidfecepknpaa
open Go Go.Sh Go.Proofs
set_option linter.unusedVariables false
set_option linter.unusedSimpArgs false
def samet_t0 (p : SL2 Sta) : Prop :=
  (2 : Nat) = (2 : Nat) ∧ True ∧ (((0 : Nat) = (0 : Nat) ∧ p.1 = p.1) ∧ ((0 : Nat) = (0 : Nat) ∧ p.3 = p.3) ∧ (0 : Int) = (0 : Int) ∧ True) ∧ (p.1 = p.1 ∧ ∀ (i : Nat), i < p.n → (p.2 i).1 = (p.2 i).1 ∧ (p.2 i).2 = (p.2 i).2 ∧ (p.2 i).3 = (p.2 i).3 ∧ True) ∧ (p.3 = p.3 ∧ ∀ (i : Nat), i < p.m → (p.4 i).1 = (p.4 i).1 ∧ (p.4 i).2 = (p.4 i).2 ∧ (p.4 i).3 = (p.4 i).3 ∧ True) ∧ True
theorem samet_t0_t (p : SL2 Sta) : samet_t0 p :=
  ⟨rfl, ⟨trivial, ⟨⟨⟨rfl, rfl⟩, ⟨⟨rfl, rfl⟩, ⟨rfl, trivial⟩⟩⟩, ⟨⟨rfl, (fun _ => (fun _ => ⟨rfl, ⟨rfl, ⟨rfl, trivial⟩⟩⟩))⟩, ⟨⟨rfl, (fun _ => (fun _ => ⟨rfl, ⟨rfl, ⟨rfl, trivial⟩⟩⟩))⟩, trivial⟩⟩⟩⟩⟩
def samet_T (p : SL2 Sta) : Prop :=
  ifB (Int.ofNat p.1 != Int.ofNat p.3) (sameL staEq p = false ∧ True) (lST.code = lST.code ∧ (lST_J p (0 : Nat) ∧ samet_t0 p) ∧ (True ∧ ∀ (q : Nat), Leaf (p.n = p.m ∧ ∀ (j : Nat), j < p.n → staEq (p.V j) (p.W j) = true) → sameL staEq p = true ∧ True) ∧ ∀ (q : Nat), Leaf (q < p.n ∧ staEq (p.V q) (p.W q) = false) → sameL staEq p = false ∧ True)
theorem samet_eq (p : SL2 Sta) : callBy XE0 (exec XE0 60) 19 (sSameT.A p) (sSameT.H p) (RetC (sSameT.H p).length (sSameT.R p) (sSameT.O p)) = samet_T p := by kernel_rfl

theorem samet_step (p : SL2 Sta) (hJ : sSameT.J p) : samet_T p := by
  obtain ⟨h1, h2⟩ := (show p.n ≤ 100000000 ∧ p.m ≤ 100000000 from hJ)
  unfold samet_T
  repeat' (first | with_reducible refine ifB_split (fun _ => ?_) (fun _ => ?_) | with_reducible refine And.intro ?_ ?_ | with_reducible refine fun (q : Nat) hq => ?_)
  all_goals try first | with_reducible exact samet_t0_t _ | with_reducible rfl | with_reducible exact trivial | with_reducible exact List.Perm.refl _
  all_goals simp only [Leaf, Int.ofNat_eq_natCast, bne_iff_ne, ne_eq, bne_eq_false_iff_eq, Int.natCast_inj] at *
  all_goals first
    | (have hne : ¬ p.n = p.m := by assumption
       simp [sameL, hne]; done)
    | (have he : p.n = p.m := by assumption
       exact ⟨Nat.zero_le _, he, h1, fun j hj => absurd hj (Nat.not_lt_zero j)⟩)
    | (simp only [sameL, Bool.and_eq_true, decide_eq_true_eq, List.all_eq_true, List.mem_range]; exact hq)
    | (refine Bool.eq_false_iff.2 fun h => ?_
       simp only [sameL, Bool.and_eq_true, decide_eq_true_eq, List.all_eq_true, List.mem_range] at h
       have := h.2 q hq.1
       have h9 := hq.2
       first
       | (rw [h9] at this; cases this)
       | (simp_all; done))
    | trace_state
theorem samet_ok : sSameT.OK XE0.P 19 := .of_eq XE0_ok 60 _ samet_eq (fun _ => rfl) (fun _ _ o h => by cases h) fun p hJ => samet_step p hJ
def samei_t0 (p : SL2 Int) : Prop :=
  (2 : Nat) = (2 : Nat) ∧ True ∧ (((0 : Nat) = (0 : Nat) ∧ p.1 = p.1) ∧ ((0 : Nat) = (0 : Nat) ∧ p.3 = p.3) ∧ (0 : Int) = (0 : Int) ∧ True) ∧ (p.1 = p.1 ∧ ∀ (i : Nat), i < p.n → p.2 i = p.2 i ∧ True) ∧ (p.3 = p.3 ∧ ∀ (i : Nat), i < p.m → p.4 i = p.4 i ∧ True) ∧ True
theorem samei_t0_t (p : SL2 Int) : samei_t0 p :=
  ⟨rfl, ⟨trivial, ⟨⟨⟨rfl, rfl⟩, ⟨⟨rfl, rfl⟩, ⟨rfl, trivial⟩⟩⟩, ⟨⟨rfl, (fun _ => (fun _ => ⟨rfl, trivial⟩))⟩, ⟨⟨rfl, (fun _ => (fun _ => ⟨rfl, trivial⟩))⟩, trivial⟩⟩⟩⟩⟩
def samei_T (p : SL2 Int) : Prop :=
  ifB (Int.ofNat p.1 != Int.ofNat p.3) (sameL BEq.beq p = false ∧ True) (lSI.code = lSI.code ∧ (lSI_J p (0 : Nat) ∧ samei_t0 p) ∧ (True ∧ ∀ (q : Nat), Leaf (p.n = p.m ∧ ∀ (j : Nat), j < p.n → (p.V j == p.W j) = true) → sameL BEq.beq p = true ∧ True) ∧ ∀ (q : Nat), Leaf (q < p.n ∧ (p.V q == p.W q) = false) → sameL BEq.beq p = false ∧ True)
theorem samei_eq (p : SL2 Int) : callBy XE0 (exec XE0 60) 21 (sInts.A p) (sInts.H p) (RetC (sInts.H p).length (sInts.R p) (sInts.O p)) = samei_T p := by kernel_rfl

theorem samei_step (p : SL2 Int) (hJ : sInts.J p) : samei_T p := by
  obtain ⟨h1, h2⟩ := (show p.n ≤ 100000000 ∧ p.m ≤ 100000000 from hJ)
  unfold samei_T
  repeat' (first | with_reducible refine ifB_split (fun _ => ?_) (fun _ => ?_) | with_reducible refine And.intro ?_ ?_ | with_reducible refine fun (q : Nat) hq => ?_)
  all_goals try first | with_reducible exact samei_t0_t _ | with_reducible rfl | with_reducible exact trivial | with_reducible exact List.Perm.refl _
  all_goals simp only [Leaf, Int.ofNat_eq_natCast, bne_iff_ne, ne_eq, bne_eq_false_iff_eq, Int.natCast_inj] at *
  all_goals first
    | (have hne : ¬ p.n = p.m := by assumption
       simp [sameL, hne]; done)
    | (have he : p.n = p.m := by assumption
       exact ⟨Nat.zero_le _, he, h1, fun j hj => absurd hj (Nat.not_lt_zero j)⟩)
    | (simp only [sameL, Bool.and_eq_true, decide_eq_true_eq, List.all_eq_true, List.mem_range]; exact hq)
    | (refine Bool.eq_false_iff.2 fun h => ?_
       simp only [sameL, Bool.and_eq_true, decide_eq_true_eq, List.all_eq_true, List.mem_range] at h
       have := h.2 q hq.1
       have h9 := hq.2
       first
       | (rw [h9] at this; cases this)
       | (simp_all; done))
    | trace_state
theorem samei_ok : sInts.OK XE0.P 21 := .of_eq XE0_ok 60 _ samei_eq (fun _ => rfl) (fun _ _ o h => by cases h) fun p hJ => samei_step p hJ

def slAt (h : Heap) (v : SV) : Option (Nat × Option Nat × (Nat → List SV)) := match v with
  | .nils => some (0, none, fun _ => [])
  | .osl l n => match arrOf h l with | some (_, u) => some (n, some l, u) | none => none
  | .sl l _ n => match arrOf h l with | some (_, u) => some (n, some l, u) | none => none
  | _ => none
def exSameT (args : List SV) (h : Heap) : Option (SL2 Sta × List (Option Nat)) := match args with
  | [a, b] => match slAt h a, slAt h b with
    | some (n, l, V), some (m, l', W) => some (⟨n, fun i => Sta.ofC (V i), m, fun i => Sta.ofC (W i)⟩, [l, l'])
    | _, _ => none
  | _ => none
def exInts (args : List SV) (h : Heap) : Option (SL2 Int × List (Option Nat)) := match args with
  | [a, b] => match slAt h a, slAt h b with
    | some (n, l, V), some (m, l', W) => some (⟨n, fun i => intOf (V i), m, fun i => intOf (W i)⟩, [l, l'])
    | _, _ => none
  | _ => none
noncomputable def XH (r : Rul) (c : Clm) (E : Nat → Evt) (n : Nat) : Ctx := ((XG r c E n).with 19 (sSameT.by exSameT)).with 21 (sInts.by exInts)
theorem XH_ok (r : Rul) (c : Clm) (E : Nat → Evt) (n : Nat) : (XH r c E n).OK := Ctx.with_ok (Ctx.with_ok (XG_ok r c E n) (samet_ok.by exSameT)) (samei_ok.by exInts)
end Go.Proofs.Ytmcidfecepknpaa

namespace Go.Proofs.Ytmcidfecepknpaa
open Go Go.Sh Go.Proofs
set_option linter.unusedVariables false

/-! ### local clocks -/
def cl (x : Int) : Int := if x < 0 then 0 else if x < 100 then x else 100
/-- How far the course is ahead, in thousandths, by the first rates. -/
def eS (d : Int) (R : Nat → Int) (rn : Nat) (t : Int) : Nat → Int
  | 0 => 0
  | m + 1 => eS d R rn t m + if m < rn then (pickN (R m) (2 * d + 1) - d) * cl (t - 100 * m) else 0
/-- What the clock shows. -/
def shown (d st : Int) (R : Nat → Int) (rn : Nat) (t : Int) : Int := pickN st 1000 + (eS d R rn t 20 + 1000 * t).tdiv 1000
theorem mul_bd {r d x : Int} (h0 : -d ≤ r) (h1 : r ≤ d) (hx : 0 ≤ x) : -(d * x) ≤ r * x ∧ r * x ≤ d * x := by
  have a := Int.mul_le_mul_of_nonneg_right h1 hx
  have b := Int.mul_le_mul_of_nonneg_right h0 hx
  rw [Int.neg_mul] at b
  exact ⟨b, a⟩
def mi (a b : Int) : Int := if a ≤ b then a else b
theorem cl_mi {t : Int} (h : 0 ≤ t) (m : Nat) : cl (t - 100 * m) = mi t (100 * ((m + 1 : Nat) : Int)) - mi t (100 * m) := by
  unfold cl mi
  repeat' split
  all_goals omega
theorem eS_lip {d : Int} {R : Nat → Int} {rn : Nat} (hd : 0 ≤ d ∧ d ≤ 100) (hR : ∀ i, i < rn → i64 (R i)) {t t' : Int} (h0 : 0 ≤ t) (h : t ≤ t') : ∀ m,
    -(d * (mi t' (100 * (m : Nat)) - mi t (100 * (m : Nat)))) ≤ eS d R rn t' m - eS d R rn t m ∧ eS d R rn t' m - eS d R rn t m ≤ d * (mi t' (100 * (m : Nat)) - mi t (100 * (m : Nat))) ∧ 0 ≤ mi t' (100 * (m : Nat)) - mi t (100 * (m : Nat))
  | 0 => by
    have : mi t' (100 * ((0 : Nat) : Int)) - mi t (100 * ((0 : Nat) : Int)) = 0 := by
      unfold mi
      repeat' split
      all_goals omega
    rw [this]
    simp [eS]
  | m + 1 => by
    obtain ⟨i1, i2, i3⟩ := eS_lip hd hR h0 h m
    have c1 := cl_mi h0 m
    have c2 := cl_mi (t := t') (by omega) m
    have hx : 0 ≤ cl (t' - 100 * m) - cl (t - 100 * m) := by
      unfold cl
      repeat' split
      all_goals omega
    have hsum : mi t' (100 * ((m + 1 : Nat) : Int)) - mi t (100 * ((m + 1 : Nat) : Int)) = (mi t' (100 * (m : Int)) - mi t (100 * (m : Int))) + (cl (t' - 100 * m) - cl (t - 100 * m)) := by omega
    rw [hsum, Int.mul_add]
    refine ⟨?_, ?_, by omega⟩
    · unfold eS
      by_cases hm : m < rn
      · rw [if_pos hm, if_pos hm]
        have hp := pickN_b (hR m hm) (n := 2 * d + 1) (by omega)
        have hb := mul_bd (r := pickN (R m) (2 * d + 1) - d) (d := d) (by omega) (by omega) hx
        have hq := Int.mul_sub (pickN (R m) (2 * d + 1) - d) (cl (t' - 100 * m)) (cl (t - 100 * m))
        omega
      · rw [if_neg hm, if_neg hm]
        have := Int.mul_nonneg hd.1 hx
        omega
    · unfold eS
      by_cases hm : m < rn
      · rw [if_pos hm, if_pos hm]
        have hp := pickN_b (hR m hm) (n := 2 * d + 1) (by omega)
        have hb := mul_bd (r := pickN (R m) (2 * d + 1) - d) (d := d) (by omega) (by omega) hx
        have hq := Int.mul_sub (pickN (R m) (2 * d + 1) - d) (cl (t' - 100 * m)) (cl (t - 100 * m))
        omega
      · rw [if_neg hm, if_neg hm]
        have := Int.mul_nonneg hd.1 hx
        omega
/-- A course: what it shows is near to what passes. -/
theorem course {d : Int} {R : Nat → Int} {rn : Nat} (hd : 0 ≤ d ∧ d ≤ 100) (hR : ∀ i, i < rn → i64 (R i)) {t t' : Int} (h0 : 0 ≤ t) (h : t ≤ t') :
    1000 * (t' - t) - d * (t' - t) ≤ (eS d R rn t' 20 + 1000 * t') - (eS d R rn t 20 + 1000 * t) ∧ (eS d R rn t' 20 + 1000 * t') - (eS d R rn t 20 + 1000 * t) ≤ 1000 * (t' - t) + d * (t' - t) ∧ 0 ≤ d * (t' - t) ∧ d * (t' - t) ≤ 100 * (t' - t) := by
  obtain ⟨i1, i2, i3⟩ := eS_lip hd hR h0 h 20
  have hle : mi t' (100 * ((20 : Nat) : Int)) - mi t (100 * ((20 : Nat) : Int)) ≤ t' - t := by
    unfold mi
    repeat' split
    all_goals omega
  have h1 := Int.mul_le_mul_of_nonneg_left hle hd.1
  have h2 := Int.mul_nonneg hd.1 (show 0 ≤ t' - t by omega)
  have h3 := Int.mul_le_mul_of_nonneg_right hd.2 (show 0 ≤ t' - t by omega)
  exact ⟨by omega, by omega, h2, h3⟩
theorem eS_zero {d : Int} {R : Nat → Int} {rn : Nat} : ∀ m, eS d R rn 0 m = 0
  | 0 => rfl
  | m + 1 => by
    have h : cl (0 - 100 * (m : Int)) = 0 := by unfold cl; repeat' split; all_goals omega
    unfold eS
    rw [eS_zero m, h]
    split <;> omega
theorem course0 {d : Int} {R : Nat → Int} {rn : Nat} (hd : 0 ≤ d ∧ d ≤ 100) (hR : ∀ i, i < rn → i64 (R i)) {t : Int} (h0 : 0 ≤ t) : 0 ≤ eS d R rn t 20 + 1000 * t ∧ eS d R rn t 20 + 1000 * t ≤ 1100 * t := by
  have h := course hd hR (t := 0) (t' := t) (Int.le_refl _) h0
  rw [eS_zero] at h
  omega
def spL (d n : Int) : Int := if n > 0 then (1000 * (n - 1)).tdiv (1000 + d) + 1 else 0
def spH (d n : Int) : Int := (1000 * (n + 1) - 1).tdiv (1000 - d)
theorem shown_mono {d st : Int} {R : Nat → Int} {rn : Nat} (hd : 0 ≤ d ∧ d ≤ 100) (hR : ∀ i, i < rn → i64 (R i)) {t t' : Int} (h0 : 0 ≤ t) (h : t ≤ t') : shown d st R rn t ≤ shown d st R rn t' := by
  obtain ⟨c1, c2, c3, c4⟩ := course hd hR h0 h
  have a1 := course0 (R := R) (rn := rn) hd hR h0
  have a2 := course0 (R := R) (rn := rn) hd hR (t := t') (by omega)
  unfold shown
  rw [Int.tdiv_eq_ediv_of_nonneg a1.1, Int.tdiv_eq_ediv_of_nonneg a2.1]
  omega
theorem spread_in {d st : Int} {R : Nat → Int} {rn : Nat} (hd : 0 ≤ d ∧ d ≤ 100) (hR : ∀ i, i < rn → i64 (R i)) {t t' : Int} (h0 : 0 ≤ t) (h : t ≤ t') {n : Int} (hn : n = shown d st R rn t' - shown d st R rn t) : spL d n ≤ t' - t ∧ t' - t ≤ spH d n := by
  obtain ⟨c1, c2, c3, c4⟩ := course hd hR h0 h
  have a1 := course0 (R := R) (rn := rn) hd hR h0
  have a2 := course0 (R := R) (rn := rn) hd hR (t := t') (by omega)
  have hm := shown_mono (st := st) hd hR h0 h
  unfold shown at hn hm
  rw [Int.tdiv_eq_ediv_of_nonneg a1.1, Int.tdiv_eq_ediv_of_nonneg a2.1] at hn hm
  have n1 : 1000 * n - 1000 < (eS d R rn t' 20 + 1000 * t') - (eS d R rn t 20 + 1000 * t) := by omega
  have n2 : (eS d R rn t' 20 + 1000 * t') - (eS d R rn t 20 + 1000 * t) < 1000 * n + 1000 := by omega
  have n0 : 0 ≤ n := by omega
  constructor
  · unfold spL
    split
    · rename_i hp
      rw [Int.tdiv_eq_ediv_of_nonneg (by omega)]
      have : 1000 * (n - 1) / (1000 + d) < t' - t := by
        rw [Int.ediv_lt_iff_lt_mul (by omega), Int.mul_add, Int.mul_comm (t' - t) d]
        omega
      omega
    · omega
  · unfold spH
    rw [Int.tdiv_eq_ediv_of_nonneg (by omega), Int.le_ediv_iff_mul_le (by omega), Int.mul_sub, Int.mul_comm (t' - t) d]
    omega
/-- A reading. -/
structure Rd where
  loc : Int
  low : Int
  high : Int
def Rd.cells (x : Rd) : List SV := [iv x.loc, iv x.low, iv x.high]
def ab (a b : Int) : Int := if b > a then b else a
def be (a b : Int) : Int := if b < a then b else a
/-- The true seconds around a local second. -/
def win (d L : Int) (V : Nat → Rd) : Nat → Int × Int
  | 0 => (0, 10000000)
  | j + 1 => match decide (L < (V j).loc) with
    | true => (ab (win d L V j).1 ((V j).low + -(spH d (ab (L - (V j).loc) ((V j).loc - L)))), be (win d L V j).2 ((V j).high + -(spL d (ab (L - (V j).loc) ((V j).loc - L)))))
    | false => match L == (V j).loc with
      | true => (ab (win d L V j).1 ((V j).low + -(spH d (ab (L - (V j).loc) ((V j).loc - L)))), be (win d L V j).2 ((V j).high + spH d (ab (L - (V j).loc) ((V j).loc - L))))
      | false => (ab (win d L V j).1 ((V j).low + spL d (ab (L - (V j).loc) ((V j).loc - L))), be (win d L V j).2 ((V j).high + spH d (ab (L - (V j).loc) ((V j).loc - L))))
/-- A reading of a course. -/
def ofCourse (d st : Int) (R : Nat → Int) (rn : Nat) (x : Rd) : Prop := ∃ s, (0 ≤ s ∧ s < 3000) ∧ x.loc = shown d st R rn s ∧ 0 ≤ x.low ∧ x.low ≤ s ∧ s ≤ x.high ∧ x.high ≤ 3100
theorem win_in {d st : Int} {R : Nat → Int} {rn : Nat} (hd : 0 ≤ d ∧ d ≤ 100) (hR : ∀ i, i < rn → i64 (R i)) {V : Nat → Rd} {t : Int} (ht : 0 ≤ t ∧ t < 3000) : ∀ k, (∀ j, j < k → ofCourse d st R rn (V j)) →
    (win d (shown d st R rn t) V k).1 ≤ t ∧ t ≤ (win d (shown d st R rn t) V k).2
  | 0, _ => by unfold win; dsimp only; omega
  | j + 1, hV => by
    obtain ⟨i1, i2⟩ := win_in hd hR ht j fun x hx => hV x (by omega)
    obtain ⟨s, hs, hl, l0, l1, l2, l3⟩ := hV j (by omega)
    unfold win
    rw [hl]
    cases hlt : decide (shown d st R rn t < shown d st R rn s) with
    | true =>
      have hlt := of_decide_eq_true hlt
      have hts : t ≤ s := by
        rcases Int.lt_or_le s t with h | h
        · have := shown_mono (st := st) hd hR hs.1 (show s ≤ t by omega); omega
        · exact h
      have hab : ab (shown d st R rn t - shown d st R rn s) (shown d st R rn s - shown d st R rn t) = shown d st R rn s - shown d st R rn t := by unfold ab; split <;> omega
      obtain ⟨p1, p2⟩ := spread_in (st := st) hd hR ht.1 hts rfl
      dsimp only
      rw [hab]
      unfold ab be
      repeat' split
      all_goals omega
    | false =>
      have hlt := of_decide_eq_false hlt
      dsimp only
      cases heq : shown d st R rn t == shown d st R rn s with
      | true =>
        have heq := eq_of_beq heq
        have hab : ab (shown d st R rn t - shown d st R rn s) (shown d st R rn s - shown d st R rn t) = 0 := by unfold ab; split <;> omega
        dsimp only
        rw [hab]
        have hy : t - s ≤ spH d 0 ∧ s - t ≤ spH d 0 := by
          rcases Int.le_total t s with h | h
          · have := spread_in (st := st) hd hR ht.1 h (n := 0) (by omega); omega
          · have := spread_in (st := st) hd hR hs.1 h (n := 0) (by omega); omega
        unfold ab be
        repeat' split
        all_goals omega
      | false =>
        have heq : ¬ shown d st R rn t = shown d st R rn s := by simpa using heq
        have hts : s ≤ t := by
          rcases Int.lt_or_le t s with h | h
          · have := shown_mono (st := st) hd hR ht.1 (show t ≤ s by omega); omega
          · exact h
        have hab : ab (shown d st R rn t - shown d st R rn s) (shown d st R rn s - shown d st R rn t) = shown d st R rn t - shown d st R rn s := by unfold ab; split <;> omega
        obtain ⟨p1, p2⟩ := spread_in (st := st) hd hR hs.1 hts rfl
        dsimp only
        rw [hab]
        unfold ab be
        repeat' split
        all_goals omega
end Go.Proofs.Ytmcidfecepknpaa

namespace Go.Proofs.Ytmcidfecepknpaa
open Go Go.Sh Go.Proofs
set_option linter.unusedVariables false

/-! ### the clock that is made -/
structure CkP where
  d : Int
  st : Int
  R : Nat → Int
  rn : Nat
  Z : Nat → Z3
  zn : Nat
def lastRd (l : List Rd) : Rd := l.getD (l.length - 1) ⟨0, 0, 0⟩
def mkRd (p : CkP) (t : Int) (i : Nat) : Rd := ⟨shown p.d p.st p.R p.rn t, if 0 > t - pickN (p.Z i).b 51 then 0 else t - pickN (p.Z i).b 51, t + pickN (p.Z i).c 51⟩
/-- One reading more, or none. -/
def addR (p : CkP) (t : Int) (l : List Rd) (i : Nat) : List Rd := match pickN (p.Z i).a 3000 == t && (l.length == 0 || decide ((lastRd l).loc < shown p.d p.st p.R p.rn t)) with
  | true => l ++ [mkRd p t i]
  | false => l
def inL (p : CkP) (t : Int) (l : List Rd) : Nat → List Rd
  | 0 => l
  | i + 1 => addR p t (inL p t l i) i
def outL (p : CkP) : Nat → List Rd
  | 0 => []
  | t + 1 => inL p t (outL p t) (min p.zn 12)
def cntB (q : Nat → Bool) : Nat → Nat
  | 0 => 0
  | m + 1 => cntB q m + (match q m with | true => 1 | false => 0)
theorem cntB_le (q : Nat → Bool) : ∀ m, cntB q m ≤ m
  | 0 => Nat.le_refl _
  | m + 1 => by
    have := cntB_le q m
    unfold cntB
    split <;> omega
theorem cntB_add (P : Nat → Int) (t : Int) : ∀ m, cntB (fun j => decide (P j < t)) m + cntB (fun j => P j == t) m = cntB (fun j => decide (P j < t + 1)) m
  | 0 => rfl
  | m + 1 => by
    have h := cntB_add P t m
    unfold cntB
    rw [← h]
    rcases Int.lt_trichotomy (P m) t with h1 | h1 | h1
    · rw [decide_eq_true h1, decide_eq_true (show P m < t + 1 by omega), beq_eq_false_iff_ne.2 (show P m ≠ t by omega)]; dsimp only; omega
    · rw [decide_eq_false (show ¬ P m < t by omega), decide_eq_true (show P m < t + 1 by omega), beq_iff_eq.2 h1]; dsimp only; omega
    · rw [decide_eq_false (show ¬ P m < t by omega), decide_eq_false (show ¬ P m < t + 1 by omega), beq_eq_false_iff_ne.2 (show P m ≠ t by omega)]; dsimp only; omega
/-- A list of readings of a course, ascending. -/
structure Asc (p : CkP) (l : List Rd) : Prop where
  of : ∀ x ∈ l, ofCourse p.d p.st p.R p.rn x
  up : ∀ j, j + 1 < l.length → (l.getD j ⟨0, 0, 0⟩).loc < (l.getD (j + 1) ⟨0, 0, 0⟩).loc
structure CkP.fits (p : CkP) : Prop where
  d : 0 ≤ p.d ∧ p.d ≤ 100
  st : i64 p.st
  R : ∀ i, i < p.rn → i64 (p.R i)
  Z : ∀ i, i < p.zn → i64 (p.Z i).a ∧ i64 (p.Z i).b ∧ i64 (p.Z i).c
theorem mkRd_of {p : CkP} (h : p.fits) {t : Int} (ht : 0 ≤ t ∧ t < 3000) {i : Nat} (hi : i < p.zn) : ofCourse p.d p.st p.R p.rn (mkRd p t i) := by
  have hb := pickN_b (h.Z i hi).2.1 (n := 51) (by omega)
  have hc := pickN_b (h.Z i hi).2.2 (n := 51) (by omega)
  refine ⟨t, ht, rfl, ?_, ?_, ?_, ?_⟩
  · show 0 ≤ (if 0 > t - pickN (p.Z i).b 51 then 0 else t - pickN (p.Z i).b 51)
    split <;> omega
  · show (if 0 > t - pickN (p.Z i).b 51 then 0 else t - pickN (p.Z i).b 51) ≤ t
    split <;> omega
  · show t ≤ t + pickN (p.Z i).c 51
    omega
  · show t + pickN (p.Z i).c 51 ≤ 3100
    omega
theorem addR_asc {p : CkP} (h : p.fits) {t : Int} (ht : 0 ≤ t ∧ t < 3000) {i : Nat} (hi : i < p.zn) {l : List Rd} (hl : Asc p l) : Asc p (addR p t l i) ∧ (addR p t l i).length ≤ l.length + (match pickN (p.Z i).a 3000 == t with | true => 1 | false => 0) := by
  unfold addR
  cases hb : pickN (p.Z i).a 3000 == t && (l.length == 0 || decide ((lastRd l).loc < shown p.d p.st p.R p.rn t)) with
  | false => exact ⟨hl, by dsimp only; omega⟩
  | true =>
    simp only [Bool.and_eq_true, Bool.or_eq_true, decide_eq_true_eq] at hb
    obtain ⟨h1, h2⟩ := hb
    refine ⟨⟨fun x hx => ?_, fun j hj => ?_⟩, by rw [h1]; simp⟩
    · rcases List.mem_append.1 hx with hx | hx
      · exact hl.of x hx
      · simp only [List.mem_singleton] at hx
        subst hx
        exact mkRd_of h ht hi
    · simp only [List.length_append, List.length_singleton] at hj
      rcases Nat.lt_or_ge (j + 1) l.length with hj' | hj'
      · have := hl.up j hj'
        simp only [List.getD, List.getElem?_append_left hj', List.getElem?_append_left (show j < l.length by omega)] at this ⊢
        exact this
      · have hje : j + 1 = l.length := by omega
        have h0 : ¬ l.length = 0 := by omega
        rcases h2 with h2 | h2
        · simp only [beq_iff_eq] at h2; omega
        · unfold lastRd at h2
          rw [show l.length - 1 = j by omega] at h2
          have e2 : (l ++ [mkRd p t i])[j + 1]? = some (mkRd p t i) := by rw [hje]; simp
          simp only [List.getD, e2, List.getElem?_append_left (show j < l.length by omega), Option.getD_some] at h2 ⊢
          exact h2
theorem inL_asc {p : CkP} (h : p.fits) {t : Int} (ht : 0 ≤ t ∧ t < 3000) {l : List Rd} (hl : Asc p l) : ∀ i, i ≤ p.zn → Asc p (inL p t l i) ∧ (inL p t l i).length ≤ l.length + cntB (fun j => pickN (p.Z j).a 3000 == t) i
  | 0, _ => ⟨hl, Nat.le_refl _⟩
  | i + 1, hi => by
    obtain ⟨i1, i2⟩ := inL_asc h ht hl i (by omega)
    obtain ⟨a1, a2⟩ := addR_asc h ht (show i < p.zn by omega) i1
    refine ⟨a1, ?_⟩
    show (addR p t (inL p t l i) i).length ≤ _
    unfold cntB
    omega
theorem outL_asc {p : CkP} (h : p.fits) : ∀ t, t ≤ 3000 → Asc p (outL p t) ∧ (outL p t).length ≤ cntB (fun j => decide (pickN (p.Z j).a 3000 < (t : Int))) (min p.zn 12)
  | 0, _ => ⟨⟨(fun x hx => by cases hx), fun j hj => by simp [outL] at hj⟩, Nat.zero_le _⟩
  | t + 1, ht => by
    obtain ⟨i1, i2⟩ := outL_asc h t (by omega)
    obtain ⟨a1, a2⟩ := inL_asc h (t := (t : Int)) (by omega) i1 (min p.zn 12) (Nat.min_le_left _ _)
    have hc := cntB_add (fun j => pickN (p.Z j).a 3000) (t : Int) (min p.zn 12)
    refine ⟨a1, ?_⟩
    show (inL p t (outL p t) (min p.zn 12)).length ≤ _
    have he : ((t + 1 : Nat) : Int) = (t : Int) + 1 := by omega
    rw [he]
    omega
theorem outL_len {p : CkP} (h : p.fits) {t : Nat} (ht : t ≤ 3000) : (outL p t).length ≤ 12 := by
  have h1 := (outL_asc h t ht).2
  have h2 := cntB_le (fun j => decide (pickN (p.Z j).a 3000 < (t : Int))) (min p.zn 12)
  have h3 := Nat.min_le_right p.zn 12
  omega
theorem inL_len {p : CkP} (h : p.fits) {t i : Nat} (ht : t < 3000) (hi : i ≤ min p.zn 12) : (inL p t (outL p t) i).length ≤ 24 := by
  have h1 := (inL_asc h (t := (t : Int)) (by omega) (outL_asc h t (by omega)).1 i (Nat.le_trans hi (Nat.min_le_left _ _))).2
  have h2 := outL_len h (t := t) (by omega)
  have h3 := cntB_le (fun j => pickN (p.Z j).a 3000 == (t : Int)) i
  have h4 := Nat.min_le_right p.zn 12
  omega
/-! ### valid clocks -/
def lastLoc (V : Nat → Rd) : Nat → Int
  | 0 => -1
  | i + 1 => (V i).loc
def rdOk (last : Int) (x : Rd) : Prop := last < x.loc ∧ x.loc ≤ 10000000 ∧ 0 ≤ x.low ∧ x.low ≤ x.high ∧ x.high ≤ 10000000
structure ckOk (d : Int) (V : Nat → Rd) (k : Nat) : Prop where
  hd : 0 ≤ d ∧ d ≤ 100
  hk : k ≤ 12
  hr : ∀ i, i < k → rdOk (lastLoc V i) (V i)
theorem shown_b {p : CkP} (h : p.fits) {t : Int} (ht : 0 ≤ t ∧ t ≤ 3000) : 0 ≤ shown p.d p.st p.R p.rn t ∧ shown p.d p.st p.R p.rn t ≤ 5000 := by
  have h1 := course0 (R := p.R) (rn := p.rn) h.d h.R ht.1
  have h2 := pickN_b h.st (n := 1000) (by omega)
  unfold shown
  rw [Int.tdiv_eq_ediv_of_nonneg h1.1]
  omega
theorem made_ck {p : CkP} (h : p.fits) : ckOk p.d (fun i => (outL p 3000).getD i ⟨0, 0, 0⟩) (outL p 3000).length := by
  obtain ⟨⟨a1, a2⟩, _⟩ := outL_asc h 3000 (Nat.le_refl _)
  refine ⟨h.d, outL_len h (Nat.le_refl _), fun i hi => ?_⟩
  have hmem : (outL p 3000).getD i ⟨0, 0, 0⟩ ∈ outL p 3000 := by
    simp only [List.getD, List.getElem?_eq_getElem hi, Option.getD_some]
    exact List.getElem_mem hi
  obtain ⟨s, hs, hl, l0, l1, l2, l3⟩ := a1 _ hmem
  have hb := shown_b h (t := s) (by omega)
  refine ⟨?_, by rw [hl]; omega, l0, by omega, by omega⟩
  cases i with
  | zero => show -1 < _; rw [hl]; omega
  | succ i => exact a2 i hi
end Go.Proofs.Ytmcidfecepknpaa

namespace Go.Proofs.Ytmcidfecepknpaa
open Go Go.Sh Go.Proofs
set_option linter.unusedVariables false
/-! ### contracts of the clock's functions -/
def sSpread : FSpec (Int × Int) := { J := fun p => (0 ≤ p.1 ∧ p.1 ≤ 100) ∧ 0 ≤ p.2 ∧ p.2 ≤ 10000000, A := fun p => [iv p.1, iv p.2], H := fun _ => [], R := fun p => .tup [iv (spL p.1 p.2), iv (spH p.1 p.2)], O := fun _ => [] }
def exSpread (args : List SV) (_ : Heap) : Option ((Int × Int) × List (Option Nat)) := match args with
  | [.int _ a, .int _ b] => some ((a, b), [])
  | _ => none
structure ShP where
  dr : Int
  st : Int
  R : Nat → Int
  rn : Nat
  t : Int
def intsO (n : Nat) (R : Nat → Int) : SO := .arr false n 1 3 fun i => [iv (R i)]
def sShown_J (p : ShP) : Prop := i64 p.dr ∧ i64 p.st ∧ (∀ i, i < p.rn → i64 (p.R i)) ∧ 0 ≤ p.t ∧ p.t ≤ 3000
def sShown : FSpec ShP := { J := sShown_J, A := fun p => [iv p.dr, iv p.st, .sl 0 0 p.rn, iv p.t], H := fun p => [some (intsO p.rn p.R)], R := fun p => iv (shown (pickN p.dr 101) p.st p.R p.rn p.t), O := fun _ => [] }
def exShown (args : List SV) (h : Heap) : Option (ShP × List (Option Nat)) := match args with
  | [.int _ a, .int _ b, .sl l _ n, .int _ t] => match arrOf h l with
    | some (_, R) => some (⟨a, b, fun i => intOf (R i), n, t⟩, [some l])
    | none => none
  | _ => none
/-! the loop of Shown -/
structure SlP where
  d : Int
  st : Int
  R : Nat → Int
  rn : Nat
  t : Int
structure SlD where
  i : Nat
  s : Int
def lSh_J (p : SlP) (d : SlD) : Prop := ((0 ≤ p.d ∧ p.d ≤ 100) ∧ (∀ i, i < p.rn → i64 (p.R i)) ∧ 0 ≤ p.t ∧ p.t ≤ 3000) ∧ d.i ≤ 20 ∧ (∀ j, j < d.i → j < p.rn ∧ 100 * (j : Int) < p.t) ∧ d.s = eS p.d p.R p.rn p.t d.i
noncomputable def lSh : LSpec SlP SlD Int where
  code := loopOf Try.prog 24 4
  N := 1
  I := fun p d => blank 57 [(1, iv p.st), (2, .sl 0 0 p.rn), (3, iv p.t), (9, iv p.d), (10, iv d.s), (11, iv d.i)] [some (intsO p.rn p.R)]
  J := lSh_J
  ways := 1
  E := fun w p s => (.exit 0, blank 57 [(1, iv p.st), (3, iv p.t), (10, iv s)] [some (intsO p.rn p.R)])
  JE := fun w p s => Leaf (s = eS p.d p.R p.rn p.t 20)
noncomputable def zSh (p : SlP) (d : SlD) : KX := fun x S' => match x with
  | .normal => match S'.get 10 with
    | .int _ s => Leaf ((d.i < p.rn ∧ d.i < 20 ∧ 100 * (d.i : Int) < p.t) ∧ s = d.s + (pickN (p.R d.i) (2 * p.d + 1) - p.d) * cl (p.t - 100 * d.i)) ∧ Wk 1 [] (lSh.I p ⟨d.i + 1, s⟩) S'
    | _ => False
  | .exit j => gateB (Nat.beq j 0) (Leaf (p.rn ≤ d.i ∨ 20 ≤ d.i ∨ p.t ≤ 100 * (d.i : Int)) ∧ Wk 1 [] (lSh.E 0 p d.s).2 S')
  | .ret => Leaf False
def exSh (S : SS) : Option (SlP × SlD × Ren) := match S.get 1, S.get 2, S.get 3, S.get 9, arrOf S.heap 0 with
  | .int _ st, .sl _ _ rn, .int _ t, .int _ d, some (_, R) => some (⟨d, st, fun i => intOf (R i), rn, t⟩, ⟨0, 0⟩, [])
  | _, _, _, _, _ => none
end Go.Proofs.Ytmcidfecepknpaa

namespace Go.Proofs.Ytmcidfecepknpaa
open Go Go.Sh Go.Proofs
set_option linter.unusedVariables false
set_option linter.unusedSimpArgs false
def pickC_T (p : PP) : Prop :=
  ifB (decide (p.1 < (0 : Int))) (ifB (p.2 != (0 : Int)) (pickN p.1 p.2 = (IntKind.i64.wrap ((0 : Int) - IntKind.i64.wrap (p.1 + (1 : Int)))).tmod p.2 ∧ True) False) (ifB (p.2 != (0 : Int)) (pickN p.1 p.2 = p.1.tmod p.2 ∧ True) False)
theorem pickC_eq (p : PP) : callBy X0 (exec X0 60) 43 (sPick.A p) (sPick.H p) (RetC (sPick.H p).length (sPick.R p) (sPick.O p)) = pickC_T p := by kernel_rfl

theorem pickC_step (p : PP) (hJ : sPick.J p) : pickC_T p := by
  have hJ : 0 < p.n := hJ
  unfold pickC_T
  repeat' (first | with_reducible refine ifB_split (fun _ => ?_) (fun _ => ?_) | with_reducible refine And.intro ?_ ?_)
  all_goals try first | with_reducible rfl | with_reducible exact trivial | with_reducible exact List.Perm.refl _
  all_goals first
    | (simp_all [pickN, w64]; done)
    | (simp_all [pickN, w64]; omega)
    | trace_state
theorem pickC_ok : sPick.OK X0.P 43 := .of_eq X0_ok 60 _ pickC_eq (fun _ => rfl) (fun _ _ o h => by cases h) fun p hJ => pickC_step p hJ
def spread_T (p : Int × Int) : Prop :=
  ifB (decide (p.1 < (0 : Int)) == false) (ifB (decide (p.1 > (100 : Int)) == false) (ifB (decide (p.2 < (0 : Int)) == false) (ifB (decide (p.2 > (10000000 : Int))) ((spL p.1 p.2 = (0 : Int) ∧ spH p.1 p.2 = (0 : Int) ∧ True) ∧ True) (ifB (decide (p.2 > (0 : Int))) (ifB (IntKind.i64.wrap ((1000 : Int) + p.1) != (0 : Int)) (ifB (IntKind.i64.wrap ((1000 : Int) - p.1) != (0 : Int)) ((spL p.1 p.2 = IntKind.i64.wrap (IntKind.i64.wrap ((IntKind.i64.wrap ((1000 : Int) * IntKind.i64.wrap (p.2 - (1 : Int)))).tdiv (IntKind.i64.wrap ((1000 : Int) + p.1))) + (1 : Int)) ∧ spH p.1 p.2 = IntKind.i64.wrap ((IntKind.i64.wrap (IntKind.i64.wrap ((1000 : Int) * IntKind.i64.wrap (p.2 + (1 : Int))) - (1 : Int))).tdiv (IntKind.i64.wrap ((1000 : Int) - p.1))) ∧ True) ∧ True) False) False) (ifB (IntKind.i64.wrap ((1000 : Int) - p.1) != (0 : Int)) ((spL p.1 p.2 = (0 : Int) ∧ spH p.1 p.2 = IntKind.i64.wrap ((IntKind.i64.wrap (IntKind.i64.wrap ((1000 : Int) * IntKind.i64.wrap (p.2 + (1 : Int))) - (1 : Int))).tdiv (IntKind.i64.wrap ((1000 : Int) - p.1))) ∧ True) ∧ True) False))) ((spL p.1 p.2 = (0 : Int) ∧ spH p.1 p.2 = (0 : Int) ∧ True) ∧ True)) ((spL p.1 p.2 = (0 : Int) ∧ spH p.1 p.2 = (0 : Int) ∧ True) ∧ True)) ((spL p.1 p.2 = (0 : Int) ∧ spH p.1 p.2 = (0 : Int) ∧ True) ∧ True)
theorem spread_eq (p : Int × Int) : callBy X0 (exec X0 60) 66 (sSpread.A p) (sSpread.H p) (RetC (sSpread.H p).length (sSpread.R p) (sSpread.O p)) = spread_T p := by kernel_rfl

theorem quo_b {a b : Int} (ha : 0 ≤ a) (hb : 1 ≤ b) : 0 ≤ a.tdiv b ∧ a.tdiv b ≤ a := by
  rw [Int.tdiv_eq_ediv_of_nonneg ha]
  exact ⟨Int.ediv_nonneg ha (by omega), Int.ediv_le_self _ ha⟩
theorem wS {n : Int} (h : -100000000000 ≤ n) (h' : n ≤ 100000000000) : IntKind.i64.wrap n = n := by rw [IntKind.wrap_i64]; omega
theorem spread_step (p : Int × Int) (hJ : sSpread.J p) : spread_T p := by
  obtain ⟨⟨h1, h2⟩, h3, h4⟩ := (show (0 ≤ p.1 ∧ p.1 ≤ 100) ∧ 0 ≤ p.2 ∧ p.2 ≤ 10000000 from hJ)
  have a1 : IntKind.i64.wrap (1000 + p.1) = 1000 + p.1 := wS (by omega) (by omega)
  have a2 : IntKind.i64.wrap (1000 - p.1) = 1000 - p.1 := wS (by omega) (by omega)
  have a3 : IntKind.i64.wrap (p.2 - 1) = p.2 - 1 := wS (by omega) (by omega)
  have a4 : IntKind.i64.wrap (p.2 + 1) = p.2 + 1 := wS (by omega) (by omega)
  have a5 : IntKind.i64.wrap (1000 * (p.2 - 1)) = 1000 * (p.2 - 1) := wS (by omega) (by omega)
  have a6 : IntKind.i64.wrap (1000 * (p.2 + 1)) = 1000 * (p.2 + 1) := wS (by omega) (by omega)
  have a7 : IntKind.i64.wrap (1000 * (p.2 + 1) - 1) = 1000 * (p.2 + 1) - 1 := wS (by omega) (by omega)
  have q1 := quo_b (a := 1000 * (p.2 + 1) - 1) (b := 1000 - p.1) (by omega) (by omega)
  have a8 : IntKind.i64.wrap ((1000 * (p.2 + 1) - 1).tdiv (1000 - p.1)) = (1000 * (p.2 + 1) - 1).tdiv (1000 - p.1) := wS (by omega) (by omega)
  unfold spread_T
  simp only [a1, a2, a3, a4, a5, a6, a7, a8]
  repeat' (first | with_reducible refine ifB_split (fun _ => ?_) (fun _ => ?_) | with_reducible refine And.intro ?_ ?_)
  all_goals try first | with_reducible rfl | with_reducible exact trivial | with_reducible exact List.Perm.refl _
  all_goals simp only [decide_eq_true_eq, decide_eq_false_iff_not, beq_iff_eq, bne_iff_ne, ne_eq, gt_iff_lt, bne_eq_false_iff_eq, Bool.not_eq_true, Bool.not_eq_false, beq_eq_false_iff_ne] at *
  all_goals first
    | omega
    | (have hp : 0 < p.2 := by assumption
       have q2 := quo_b (a := 1000 * (p.2 - 1)) (b := 1000 + p.1) (by omega) (by omega)
       have a9 : IntKind.i64.wrap ((1000 * (p.2 - 1)).tdiv (1000 + p.1)) = (1000 * (p.2 - 1)).tdiv (1000 + p.1) := wS (by omega) (by omega)
       have a10 : IntKind.i64.wrap ((1000 * (p.2 - 1)).tdiv (1000 + p.1) + 1) = (1000 * (p.2 - 1)).tdiv (1000 + p.1) + 1 := wS (by omega) (by omega)
       unfold spL
       rw [if_pos hp]
       first | (rw [a9, a10]; done) | (rw [a10]; done))
    | (unfold spL; rw [if_neg (by assumption)]; done)
    | (unfold spH; rfl)
    | trace_state
theorem spread_ok : sSpread.OK X0.P 66 := .of_eq X0_ok 60 _ spread_eq (fun _ => rfl) (fun _ _ o h => by cases h) fun p hJ => spread_step p hJ
noncomputable def XQ0 : Ctx := (X0.with 43 (sPick.by exPick)).with 66 (sSpread.by exSpread)
theorem XQ0_ok : XQ0.OK := Ctx.with_ok (Ctx.with_ok X0_ok (pickC_ok.by exPick)) (spread_ok.by exSpread)
end Go.Proofs.Ytmcidfecepknpaa

namespace Go.Proofs.Ytmcidfecepknpaa
open Go Go.Sh Go.Proofs
set_option linter.unusedVariables false
set_option linter.unusedSimpArgs false
def shloop_t0 (p : SlP) (d : SlD) : Prop :=
  (0 : Nat) = (0 : Nat) ∧ (p.3 ((0 : Nat) + d.1) = p.3 ((0 : Nat) + d.1) ∧ IntKind.i64.wrap (IntKind.i64.wrap ((2 : Int) * p.1) + (1 : Int)) = IntKind.i64.wrap (IntKind.i64.wrap ((2 : Int) * p.1) + (1 : Int)) ∧ True) ∧ True
theorem shloop_t0_t (p : SlP) (d : SlD) : shloop_t0 p d :=
  ⟨rfl, ⟨⟨rfl, ⟨rfl, trivial⟩⟩, trivial⟩⟩
def shloop_t1 (p : SlP) : Prop :=
  (0 : Nat) = (0 : Nat) ∧ p.4 = p.4
theorem shloop_t1_t (p : SlP) : shloop_t1 p :=
  ⟨rfl, rfl⟩
def shloop_t2 (p : SlP) : Prop :=
  (p.4 = p.4 ∧ ∀ (i : Nat), i < p.rn → p.3 i = p.3 i ∧ True) ∧ True
theorem shloop_t2_t (p : SlP) : shloop_t2 p :=
  ⟨⟨rfl, (fun _ => (fun _ => ⟨rfl, trivial⟩))⟩, trivial⟩
def shloop_t3 (p : SlP) (d : SlD) : Prop :=
  (p.2 = p.2 ∧ p.5 = p.5 ∧ d.2 = d.2 ∧ True) ∧ (p.4 = p.4 ∧ ∀ (i : Nat), i < p.rn → p.3 i = p.3 i ∧ True) ∧ True
theorem shloop_t3_t (p : SlP) (d : SlD) : shloop_t3 p d :=
  ⟨⟨rfl, ⟨rfl, ⟨rfl, trivial⟩⟩⟩, ⟨⟨rfl, (fun _ => (fun _ => ⟨rfl, trivial⟩))⟩, trivial⟩⟩
def shloop_T (p : SlP) (d : SlD) : Prop :=
  ifB (decide (Int.ofNat d.1 < Int.ofNat p.4) == true) (ifB (decide (Int.ofNat d.1 < (20 : Int)) == true) (ifB (decide (p.5 > IntKind.i64.wrap (Int.ofNat ((100 : Nat) * d.1)))) (ifB (decide (Int.ofNat d.1 < (↑p.4 : Int))) (ifB (decide ((0 : Nat) + d.1 < p.4)) (((0 : Int) < IntKind.i64.wrap (IntKind.i64.wrap ((2 : Int) * p.1) + (1 : Int)) ∧ shloop_t0 p d) ∧ Leaf ((d.i < p.rn ∧ d.i < (20 : Nat) ∧ (100 : Int) * (↑d.i : Int) < p.t) ∧ IntKind.i64.wrap (d.2 + IntKind.i64.wrap (IntKind.i64.wrap (pickN (p.3 ((0 : Nat) + d.1)) (IntKind.i64.wrap (IntKind.i64.wrap ((2 : Int) * p.1) + (1 : Int))) - p.1) * if (100 : Int) < IntKind.i64.wrap (p.5 - IntKind.i64.wrap (Int.ofNat ((100 : Nat) * d.1))) then (100 : Int) else IntKind.i64.wrap (p.5 - IntKind.i64.wrap (Int.ofNat ((100 : Nat) * d.1))))) = d.s + (pickN (p.R d.i) ((2 : Int) * p.d + (1 : Int)) - p.d) * cl (p.t - (100 : Int) * (↑d.i : Int))) ∧ (p.2 = p.2 ∧ shloop_t1 p ∧ p.5 = p.5 ∧ p.1 = p.1 ∧ IntKind.i64.wrap (d.2 + IntKind.i64.wrap (IntKind.i64.wrap (pickN (p.3 ((0 : Nat) + d.1)) (IntKind.i64.wrap (IntKind.i64.wrap ((2 : Int) * p.1) + (1 : Int))) - p.1) * if (100 : Int) < IntKind.i64.wrap (p.5 - IntKind.i64.wrap (Int.ofNat ((100 : Nat) * d.1))) then (100 : Int) else IntKind.i64.wrap (p.5 - IntKind.i64.wrap (Int.ofNat ((100 : Nat) * d.1))))) = IntKind.i64.wrap (d.2 + IntKind.i64.wrap (IntKind.i64.wrap (pickN (p.3 ((0 : Nat) + d.1)) (IntKind.i64.wrap (IntKind.i64.wrap ((2 : Int) * p.1) + (1 : Int))) - p.1) * if (100 : Int) < IntKind.i64.wrap (p.5 - IntKind.i64.wrap (Int.ofNat ((100 : Nat) * d.1))) then (100 : Int) else IntKind.i64.wrap (p.5 - IntKind.i64.wrap (Int.ofNat ((100 : Nat) * d.1))))) ∧ Int.ofNat (d.1 + (1 : Nat)) = IntKind.i64.wrap (Int.ofNat (d.1 + (1 : Nat))) ∧ True) ∧ shloop_t2 p) False) False) (Leaf (p.rn ≤ d.i ∨ (20 : Nat) ≤ d.i ∨ p.t ≤ (100 : Int) * (↑d.i : Int)) ∧ shloop_t3 p d)) (Leaf (p.rn ≤ d.i ∨ (20 : Nat) ≤ d.i ∨ p.t ≤ (100 : Int) * (↑d.i : Int)) ∧ shloop_t3 p d)) (Leaf (p.rn ≤ d.i ∨ (20 : Nat) ≤ d.i ∨ p.t ≤ (100 : Int) * (↑d.i : Int)) ∧ shloop_t3 p d)
theorem shloop_eq (p : SlP) (d : SlD) : exec XQ0 60 24 lSh.code (lSh.I p d) (zSh p d) = shloop_T p d := by kernel_rfl

theorem eS_b {d : Int} {R : Nat → Int} {rn : Nat} (hd : 0 ≤ d ∧ d ≤ 100) (hR : ∀ i, i < rn → i64 (R i)) {t : Int} (h0 : 0 ≤ t) (h : t ≤ 3000) (m : Nat) : -300000 ≤ eS d R rn t m ∧ eS d R rn t m ≤ 300000 := by
  obtain ⟨i1, i2, i3⟩ := eS_lip hd hR (t := 0) (t' := t) (Int.le_refl _) h0 m
  rw [eS_zero] at i1 i2
  have hx : mi t (100 * (m : Nat)) - mi 0 (100 * (m : Nat)) ≤ 3000 := by
    unfold mi
    repeat' split
    all_goals omega
  have h3 := Int.mul_le_mul_of_nonneg_right hd.2 i3
  omega
theorem cl_b (x : Int) : 0 ≤ cl x ∧ cl x ≤ 100 := by
  unfold cl
  repeat' split
  all_goals omega
set_option maxHeartbeats 1000000 in
theorem shloop_step (p : SlP) (d : SlD) (hJ : lSh_J p d) : shloop_T p d := by
  obtain ⟨⟨hd, hR, h0, h1⟩, h2, h3, h4⟩ := hJ
  have hb := eS_b hd hR h0 h1 d.i
  have a1 : IntKind.i64.wrap (2 * p.d) = 2 * p.d := wS (by omega) (by omega)
  have a2 : IntKind.i64.wrap (2 * p.d + 1) = 2 * p.d + 1 := wS (by omega) (by omega)
  have a3 : IntKind.i64.wrap (Int.ofNat (100 * d.i)) = 100 * (d.i : Int) := by rw [wS (by simp only [Int.ofNat_eq_natCast]; omega) (by simp only [Int.ofNat_eq_natCast]; omega)]; simp only [Int.ofNat_eq_natCast]; omega
  have a5 : IntKind.i64.wrap (p.t - 100 * (d.i : Int)) = p.t - 100 * (d.i : Int) := wS (by omega) (by omega)
  have a6 : 100 * (d.i : Int) < p.t → (if (100 : Int) < p.t - 100 * (d.i : Int) then (100 : Int) else p.t - 100 * (d.i : Int)) = cl (p.t - 100 * (d.i : Int)) := fun h => by
    unfold cl
    repeat' split
    all_goals omega
  have a7 : d.i < p.rn → IntKind.i64.wrap (pickN (p.R d.i) (2 * p.d + 1) - p.d) = pickN (p.R d.i) (2 * p.d + 1) - p.d ∧ IntKind.i64.wrap ((pickN (p.R d.i) (2 * p.d + 1) - p.d) * cl (p.t - 100 * (d.i : Int))) = (pickN (p.R d.i) (2 * p.d + 1) - p.d) * cl (p.t - 100 * (d.i : Int)) ∧
      IntKind.i64.wrap (d.s + (pickN (p.R d.i) (2 * p.d + 1) - p.d) * cl (p.t - 100 * (d.i : Int))) = d.s + (pickN (p.R d.i) (2 * p.d + 1) - p.d) * cl (p.t - 100 * (d.i : Int)) := fun h => by
    have hp := pickN_b (hR d.i h) (n := 2 * p.d + 1) (by omega)
    have hc := cl_b (p.t - 100 * (d.i : Int))
    have hm := mul_bd (r := pickN (p.R d.i) (2 * p.d + 1) - p.d) (d := p.d) (by omega) (by omega) hc.1
    have hm2 := Int.mul_le_mul_of_nonneg_right hd.2 hc.1
    exact ⟨wS (by omega) (by omega), wS (by omega) (by omega), wS (by omega) (by omega)⟩
  unfold shloop_T
  simp only [a1, a2, a3, a5, Nat.zero_add]
  repeat' (first | with_reducible refine ifB_split (fun _ => ?_) (fun _ => ?_) | with_reducible refine And.intro ?_ ?_)
  all_goals try first | with_reducible exact shloop_t0_t _ _ | with_reducible exact shloop_t1_t _ | with_reducible exact shloop_t2_t _ | with_reducible exact shloop_t3_t _ _ | with_reducible rfl | with_reducible exact trivial | with_reducible exact List.Perm.refl _
  all_goals simp only [Leaf, Nat.zero_add, Int.ofNat_eq_natCast, decide_eq_true_eq, decide_eq_false_iff_not, beq_iff_eq, beq_eq_false_iff_ne, ne_eq, Bool.and_eq_true, Bool.not_eq_true', Bool.not_eq_true, Bool.not_eq_false', Bool.and_true, Int.natCast_inj, gt_iff_lt, Int.ofNat_lt, Int.ofNat_le, Bool.and_eq_false_iff] at *
  all_goals first
    | omega
    | (rw [wrapSmall (by omega) (by omega)]; done)
    | (have hlt : d.i < p.rn := by omega
       obtain ⟨b1, b2, b3⟩ := a7 hlt
       refine ⟨⟨by omega, by omega, by omega⟩, ?_⟩
       rw [b1, a6 (by omega), b2, b3])
    | trace_state
set_option maxRecDepth 100000 in
theorem shloop_ok : LoopOK XQ0.P lSh.code lSh.L := by
  refine lSh.ok XQ0_ok 60 24 (fun p d => 20 - d.i) zSh (fun _ _ _ => trivial) (fun p d w q hw => ?_) (fun p d S' hJ h => ?_) (fun p d x S' hx hJ h => ?_) fun p d hJ => ?_
  · match w, hw with
    | 0, _ => exact trivial
  · unfold zSh at h; dsimp only at h
    split at h <;> try exact h.elim
    rename_i s _
    obtain ⟨h1, h3⟩ := h
    simp only [Leaf] at h1
    obtain ⟨⟨h1, h2, h4⟩, h5⟩ := h1
    obtain ⟨j1, j2, j3, j4⟩ := hJ
    refine ⟨_, ⟨d.i + 1, s⟩, ?_, ⟨j1, (by show d.i + 1 ≤ 20; omega), fun j hj => ?_, ?_⟩, h3⟩
    · show 20 - (d.i + 1) < 20 - d.i
      omega
    · rcases Nat.lt_succ_iff_lt_or_eq.1 (show j < d.i + 1 from hj) with hj | rfl
      · exact j3 j hj
      · exact ⟨h1, h4⟩
    · show s = eS p.d p.R p.rn p.t d.i + (if d.i < p.rn then (pickN (p.R d.i) (2 * p.d + 1) - p.d) * cl (p.t - 100 * d.i) else 0)
      rw [if_pos h1, h5, j4]
  · obtain ⟨j1, j2, j3, j4⟩ := hJ
    cases x with
    | normal => exact hx.elim
    | ret => exact (show False from h).elim
    | exit k =>
      obtain ⟨h0, h1, h2⟩ := gateB_spec h
      have h0 := Nat.eq_of_beq_eq_true h0
      subst h0
      simp only [Leaf] at h1
      refine ⟨0, d.s, _, Nat.lt_succ_self 0, ?_, rfl, h2⟩
      show d.s = eS p.d p.R p.rn p.t 20
      have key : ∀ m, d.i + m ≤ 20 → eS p.d p.R p.rn p.t (d.i + m) = eS p.d p.R p.rn p.t d.i := fun m => by
        induction m with
        | zero => intro _; rfl
        | succ m ih =>
          intro hm
          have hz : (if d.i + m < p.rn then (pickN (p.R (d.i + m)) (2 * p.d + 1) - p.d) * cl (p.t - 100 * ((d.i + m : Nat) : Int)) else 0) = 0 := by
            split
            · have : cl (p.t - 100 * ((d.i + m : Nat) : Int)) = 0 := by
                unfold cl
                repeat' split
                all_goals omega
              rw [this, Int.mul_zero]
            · rfl
          have hu : eS p.d p.R p.rn p.t (d.i + (m + 1)) = eS p.d p.R p.rn p.t (d.i + m) + (if d.i + m < p.rn then (pickN (p.R (d.i + m)) (2 * p.d + 1) - p.d) * cl (p.t - 100 * ((d.i + m : Nat) : Int)) else 0) := rfl
          rw [hu, hz, ih (by omega)]; omega
      have := key (20 - d.i) (by omega)
      rw [show d.i + (20 - d.i) = 20 by omega] at this
      rw [this, j4]
  · rw [shloop_eq]
    exact shloop_step p d hJ
noncomputable def XQ1 : Ctx := XQ0.loop 24 4 lSh.code (lSh.by exSh)
theorem XQ1_ok : XQ1.OK := Ctx.loop_ok XQ0_ok (shloop_ok.by exSh)
end Go.Proofs.Ytmcidfecepknpaa

namespace Go.Proofs.Ytmcidfecepknpaa
open Go Go.Sh Go.Proofs
set_option linter.unusedVariables false
set_option linter.unusedSimpArgs false
def shownc_t0 (p : ShP) : Prop :=
  (0 : Nat) = (0 : Nat) ∧ (p.1 = p.1 ∧ (101 : Int) = (101 : Int) ∧ True) ∧ True
theorem shownc_t0_t (p : ShP) : shownc_t0 p :=
  ⟨rfl, ⟨⟨rfl, ⟨rfl, trivial⟩⟩, trivial⟩⟩
def shownc_t1 (p : ShP) : Prop :=
  (1 : Nat) = (1 : Nat) ∧ True ∧ (p.2 = p.2 ∧ ((0 : Nat) = (0 : Nat) ∧ p.4 = p.4) ∧ p.5 = p.5 ∧ pickN p.1 (101 : Int) = pickN p.1 (101 : Int) ∧ (0 : Int) = (0 : Int) ∧ (0 : Int) = (0 : Int) ∧ True) ∧ (p.4 = p.4 ∧ ∀ (i : Nat), i < p.4 → p.3 i = p.3 i ∧ True) ∧ True
theorem shownc_t1_t (p : ShP) : shownc_t1 p :=
  ⟨rfl, ⟨trivial, ⟨⟨rfl, ⟨⟨rfl, rfl⟩, ⟨rfl, ⟨rfl, ⟨rfl, ⟨rfl, trivial⟩⟩⟩⟩⟩⟩, ⟨⟨rfl, (fun _ => (fun _ => ⟨rfl, trivial⟩))⟩, trivial⟩⟩⟩⟩
def shownc_t2 (p : ShP) : Prop :=
  (0 : Nat) = (0 : Nat) ∧ (p.2 = p.2 ∧ (1000 : Int) = (1000 : Int) ∧ True) ∧ True
theorem shownc_t2_t (p : ShP) : shownc_t2 p :=
  ⟨rfl, ⟨⟨rfl, ⟨rfl, trivial⟩⟩, trivial⟩⟩
def shownc_T (p : ShP) : Prop :=
  ((0 : Int) < (101 : Int) ∧ shownc_t0 p) ∧ lSh.code = lSh.code ∧ (lSh_J { d := pickN p.1 (101 : Int), st := p.2, R := p.3, rn := p.4, t := p.5 : SlP } { i := (0 : Nat), s := (0 : Int) : SlD } ∧ shownc_t1 p) ∧ True ∧ ∀ (q : Int), Leaf (q = eS (pickN p.1 (101 : Int)) p.3 p.4 p.5 (20 : Nat)) → ((0 : Int) < (1000 : Int) ∧ shownc_t2 p) ∧ shown (pickN p.1 (101 : Int)) p.2 p.3 p.4 p.5 = IntKind.i64.wrap (pickN p.2 (1000 : Int) + IntKind.i64.wrap ((IntKind.i64.wrap (q + IntKind.i64.wrap ((1000 : Int) * p.5))).tdiv (1000 : Int))) ∧ True
theorem shownc_eq (p : ShP) : callBy XQ1 (exec XQ1 60) 24 (sShown.A p) (sShown.H p) (RetC (sShown.H p).length (sShown.R p) (sShown.O p)) = shownc_T p := by kernel_rfl

theorem shownc_step (p : ShP) (hJ : sShown.J p) : shownc_T p := by
  obtain ⟨h1, h2, h3, h4, h5⟩ := (show sShown_J p from hJ)
  have hd := pickN_b h1 (n := 101) (by omega)
  have hs := pickN_b h2 (n := 1000) (by omega)
  have hc := course0 (d := pickN p.dr 101) (R := p.R) (rn := p.rn) (by omega) h3 h4
  have a1 : IntKind.i64.wrap (1000 * p.t) = 1000 * p.t := wS (by omega) (by omega)
  unfold shownc_T
  simp only [a1]
  repeat' (first | with_reducible refine And.intro ?_ ?_ | with_reducible refine fun (q : Int) hq => ?_)
  all_goals try first | with_reducible exact shownc_t0_t _ | with_reducible exact shownc_t1_t _ | with_reducible exact shownc_t2_t _ | with_reducible rfl | with_reducible exact trivial | with_reducible exact List.Perm.refl _ | decide
  · exact ⟨⟨(by show 0 ≤ pickN p.dr 101 ∧ pickN p.dr 101 ≤ 100; omega), h3, h4, h5⟩, Nat.zero_le _, (fun j hj => absurd hj (Nat.not_lt_zero j)), rfl⟩
  · simp only [Leaf] at hq
    subst hq
    have a2 : IntKind.i64.wrap (eS (pickN p.dr 101) p.R p.rn p.t 20 + 1000 * p.t) = eS (pickN p.dr 101) p.R p.rn p.t 20 + 1000 * p.t := wS (by omega) (by omega)
    rw [a2]
    have hq := quo_b (a := eS (pickN p.dr 101) p.R p.rn p.t 20 + 1000 * p.t) (b := 1000) hc.1 (by omega)
    rw [wS (n := (eS (pickN p.dr 101) p.R p.rn p.t 20 + 1000 * p.t).tdiv 1000) (by omega) (by omega), wS (by omega) (by omega)]
    rfl
theorem shown_ok : sShown.OK XQ1.P 24 := .of_eq XQ1_ok 60 _ shownc_eq (fun _ => rfl) (fun _ _ o h => by cases h) fun p hJ => shownc_step p hJ
noncomputable def XQ2 : Ctx := XQ1.with 24 (sShown.by exShown)
theorem XQ2_ok : XQ2.OK := Ctx.with_ok XQ1_ok (shown_ok.by exShown)
/-! ### Valid, around, At -/
structure CaP where
  d : Int
  V : Nat → Rd
  k : Nat
  L : Int
def rdO (k : Nat) (V : Nat → Rd) : SO := .arr false k 3 98 fun i => (V i).cells
def Rd.ofC : List SV → Rd
  | [.int _ a, .int _ b, .int _ c] => ⟨a, b, c⟩
  | _ => ⟨0, 0, 0⟩
def sValC_J (p : CaP) : Prop := ckOk p.d p.V p.k
def sValC : FSpec CaP := { J := sValC_J, A := fun p => [.agg [iv p.d, .sl 0 0 p.k]], H := fun p => [some (rdO p.k p.V)], R := fun _ => .bool true, O := fun _ => [] }
def exClk (args : List SV) (h : Heap) : Option (CaP × List (Option Nat)) := match args with
  | .agg [.int _ d, v] :: r => match slAt h v, r with
    | some (k, l, V), [] => some (⟨d, fun i => Rd.ofC (V i), k, 0⟩, [l])
    | some (k, l, V), [.int _ L] => some (⟨d, fun i => Rd.ofC (V i), k, L⟩, [l])
    | _, _ => none
  | _ => none
structure VcD where
  i : Nat
  last : Int
def lVC_J (p : CaP) (d : VcD) : Prop := d.i ≤ p.k ∧ ckOk p.d p.V p.k ∧ d.last = lastLoc p.V d.i
noncomputable def lVC : LSpec CaP VcD Nat where
  code := loopOf Try.prog 44 5
  N := 2
  I := fun p d => blank 56 [(3, iv d.last), (21, .sl 0 0 p.k), (22, iv p.k), (23, iv d.i)] [some (rdO p.k p.V), none]
  J := lVC_J
  ways := 1
  E := fun w p s => (.exit 0, blank 56 [] [some (rdO p.k p.V), none])
  JE := fun w p s => Leaf True
noncomputable def zVC (p : CaP) (d : VcD) : KX := fun x S' => match x with
  | .normal => match S'.get 3 with
    | .int _ s => Leaf (d.i < p.k ∧ s = (p.V d.i).loc) ∧ Wk 2 [] (lVC.I p ⟨d.i + 1, s⟩) S'
    | _ => False
  | .exit j => gateB (Nat.beq j 0) (Wk 2 [] (lVC.E 0 p 0).2 S')
  | .ret => Leaf False
def exVC (S : SS) : Option (CaP × VcD × Ren) := match S.get 21, arrOf S.heap 0 with
  | .sl _ _ k, some (_, V) => some (⟨0, fun i => Rd.ofC (V i), k, 0⟩, ⟨0, -1⟩, [])
  | _, _ => none
def sArd_J (p : CaP) : Prop := ckOk p.d p.V p.k ∧ 0 ≤ p.L ∧ p.L ≤ 10000000
def sArd : FSpec CaP := { J := sArd_J, A := fun p => [.agg [iv p.d, .sl 0 0 p.k], iv p.L], H := fun p => [some (rdO p.k p.V)], R := fun p => .agg [iv (win p.d p.L p.V p.k).1, iv (win p.d p.L p.V p.k).2], O := fun _ => [] }
structure ArD where
  i : Nat
  lo : Int
  hi : Int
def lAr_J (p : CaP) (d : ArD) : Prop := d.i ≤ p.k ∧ (ckOk p.d p.V p.k ∧ 0 ≤ p.L ∧ p.L ≤ 10000000) ∧ d.lo = (win p.d p.L p.V d.i).1 ∧ d.hi = (win p.d p.L p.V d.i).2
noncomputable def heapAr (p : CaP) (lo hi : Int) : Heap := [some (rdO p.k p.V), some (.arr true 1 2 59 fun _ => [iv p.d, .sl 0 0 p.k]), some (.arr true 1 2 101 fun _ => [iv 0, iv 0]), some (.arr true 1 2 101 fun _ => [iv lo, iv hi])]
noncomputable def lAr : LSpec CaP ArD ArD where
  code := loopOf Try.prog 45 4
  N := 4
  I := fun p d => blank 67 [(1, iv p.L), (2, .ptr 1 0 0), (4, .ptr 2 0 0), (5, .ptr 3 0 0), (6, .fn (.func 65) [.ptr 3 0 0] []), (16, .sl 0 0 p.k), (17, iv p.k), (18, iv d.i)] (heapAr p d.lo d.hi)
  J := lAr_J
  ways := 1
  E := fun w p s => (.exit 0, blank 67 [(4, .ptr 2 0 0), (5, .ptr 3 0 0)] (heapAr p s.lo s.hi))
  JE := fun w p s => Leaf (s.lo = (win p.d p.L p.V p.k).1 ∧ s.hi = (win p.d p.L p.V p.k).2)
noncomputable def zAr (p : CaP) (d : ArD) : KX := fun x S' => match x with
  | .normal => match arrOf S'.heap 3 with
    | some (_, g) => match g 0 with
      | [.int _ a, .int _ b] => Leaf (d.i < p.k) ∧ Leaf (a = (win p.d p.L p.V (d.i + 1)).1 ∧ b = (win p.d p.L p.V (d.i + 1)).2) ∧ Wk 4 [] (lAr.I p ⟨d.i + 1, a, b⟩) S'
      | _ => False
    | _ => False
  | .exit j => gateB (Nat.beq j 0) (Leaf (p.k ≤ d.i) ∧ Wk 4 [] (lAr.E 0 p d).2 S')
  | .ret => Leaf False
def exAr (S : SS) : Option (CaP × ArD × Ren) := match S.get 1, S.get 16, arrOf S.heap 0, arrOf S.heap 1, arrOf S.heap 3 with
  | .int _ L, .sl _ _ k, some (_, V), some (_, c), some (_, w) => match c 0, w 0 with
    | [.int _ d, _], [.int _ a, .int _ b] => some (⟨d, fun i => Rd.ofC (V i), k, L⟩, ⟨0, a, b⟩, [])
    | _, _ => none
  | _, _, _, _, _ => none
def sAt_J (p : CaP) : Prop := (ckOk p.d p.V p.k ∧ 0 ≤ p.L ∧ p.L ≤ 10000000) ∧ (win p.d p.L p.V p.k).1 ≤ (win p.d p.L p.V p.k).2
def sAt : FSpec CaP := { J := sAt_J, A := fun p => [.agg [iv p.d, .sl 0 0 p.k], iv p.L], H := fun p => [some (rdO p.k p.V)], R := fun p => .tup [iv (win p.d p.L p.V p.k).1, iv (win p.d p.L p.V p.k).2, iv 0], O := fun _ => [] }
end Go.Proofs.Ytmcidfecepknpaa

namespace Go.Proofs.Ytmcidfecepknpaa
open Go Go.Sh Go.Proofs
set_option linter.unusedVariables false
set_option linter.unusedSimpArgs false
def vcloop_t0 (p : CaP) : Prop :=
  (0 : Nat) = (0 : Nat) ∧ p.3 = p.3
theorem vcloop_t0_t (p : CaP) : vcloop_t0 p :=
  ⟨rfl, rfl⟩
def vcloop_t1 (p : CaP) : Prop :=
  (p.3 = p.3 ∧ ∀ (i : Nat), i < p.k → (p.2 i).1 = (p.2 i).1 ∧ (p.2 i).2 = (p.2 i).2 ∧ (p.2 i).3 = (p.2 i).3 ∧ True) ∧ True
theorem vcloop_t1_t (p : CaP) : vcloop_t1 p :=
  ⟨⟨rfl, (fun _ => (fun _ => ⟨rfl, ⟨rfl, ⟨rfl, trivial⟩⟩⟩))⟩, trivial⟩
def vcloop_t2 (p : CaP) : Prop :=
  True ∧ (p.3 = p.3 ∧ ∀ (i : Nat), i < p.k → (p.2 i).1 = (p.2 i).1 ∧ (p.2 i).2 = (p.2 i).2 ∧ (p.2 i).3 = (p.2 i).3 ∧ True) ∧ True
theorem vcloop_t2_t (p : CaP) : vcloop_t2 p :=
  ⟨trivial, ⟨⟨rfl, (fun _ => (fun _ => ⟨rfl, ⟨rfl, ⟨rfl, trivial⟩⟩⟩))⟩, trivial⟩⟩
def vcloop_T (p : CaP) (d : VcD) : Prop :=
  ifB (decide (Int.ofNat d.1 < Int.ofNat p.3)) (ifB (decide (Int.ofNat d.1 < (↑p.3 : Int))) (ifB (decide ((0 : Nat) + d.1 < p.3) && true) (ifB (decide ((p.2 ((0 : Nat) + d.1)).1 ≤ d.2) == false) (ifB (decide ((p.2 ((0 : Nat) + d.1)).1 > (10000000 : Int)) == false) (ifB (decide ((p.2 ((0 : Nat) + d.1)).2 < (0 : Int)) == false) (ifB (decide ((p.2 ((0 : Nat) + d.1)).2 > (p.2 ((0 : Nat) + d.1)).3) == false) (ifB (decide ((p.2 ((0 : Nat) + d.1)).3 > (10000000 : Int))) (Leaf False) (Leaf (d.i < p.k ∧ (p.2 ((0 : Nat) + d.1)).1 = (p.V d.i).loc) ∧ ((p.2 ((0 : Nat) + d.1)).1 = (p.2 ((0 : Nat) + d.1)).1 ∧ vcloop_t0 p ∧ Int.ofNat p.3 = Int.ofNat p.3 ∧ Int.ofNat (d.1 + (1 : Nat)) = IntKind.i64.wrap (Int.ofNat (d.1 + (1 : Nat))) ∧ True) ∧ vcloop_t1 p)) (Leaf False)) (Leaf False)) (Leaf False)) (Leaf False)) False) False) (vcloop_t2 p)
theorem vcloop_eq (p : CaP) (d : VcD) : exec XQ2 60 44 lVC.code (lVC.I p d) (zVC p d) = vcloop_T p d := by kernel_rfl

theorem vcloop_step (p : CaP) (d : VcD) (hJ : lVC_J p d) : vcloop_T p d := by
  obtain ⟨h1, ⟨h2, h3, h4⟩, h5⟩ := hJ
  have hr : d.i < p.k → rdOk d.last (p.V d.i) := fun h => by rw [h5]; exact h4 d.i h
  unfold vcloop_T
  simp only [Nat.zero_add]
  repeat' (first | with_reducible refine ifB_split (fun _ => ?_) (fun _ => ?_) | with_reducible refine And.intro ?_ ?_)
  all_goals try first | with_reducible exact vcloop_t0_t _ | with_reducible exact vcloop_t1_t _ | with_reducible exact vcloop_t2_t _ | with_reducible rfl | with_reducible exact trivial | with_reducible exact List.Perm.refl _
  all_goals simp only [Leaf, Nat.zero_add, Int.ofNat_eq_natCast, decide_eq_true_eq, decide_eq_false_iff_not, beq_iff_eq, beq_eq_false_iff_ne, ne_eq, Bool.and_eq_true, Bool.not_eq_true', Bool.not_eq_true, Bool.not_eq_false', Bool.and_true, Int.natCast_inj, gt_iff_lt, Int.ofNat_lt, Int.ofNat_le, Bool.and_eq_false_iff] at *
  all_goals first
    | omega
    | (rw [wrapSmall (by omega) (by omega)]; done)
    | (have hlt : d.i < p.k := by omega
       obtain ⟨b1, b2, b3, b4, b5⟩ := hr hlt
       omega)
    | exact ⟨by omega, trivial⟩
    | trace_state
set_option maxRecDepth 100000 in
theorem vcloop_ok : LoopOK XQ2.P lVC.code lVC.L := by
  refine lVC.ok XQ2_ok 60 44 (fun p d => p.k - d.i) zVC (fun _ _ _ => trivial) (fun p d w q hw => ?_) (fun p d S' hJ h => ?_) (fun p d x S' hx hJ h => ?_) fun p d hJ => ?_
  · match w, hw with
    | 0, _ => exact trivial
  · unfold zVC at h; dsimp only at h
    split at h <;> try exact h.elim
    rename_i s _
    obtain ⟨h1, h3⟩ := h
    simp only [Leaf] at h1
    obtain ⟨j1, j2, j3⟩ := hJ
    refine ⟨_, ⟨d.i + 1, s⟩, ?_, ⟨h1.1, j2, h1.2⟩, h3⟩
    show p.k - (d.i + 1) < p.k - d.i
    omega
  · cases x with
    | normal => exact hx.elim
    | ret => exact (show False from h).elim
    | exit k =>
      obtain ⟨h0, h2⟩ := gateB_spec h
      have h0 := Nat.eq_of_beq_eq_true h0
      subst h0
      exact ⟨0, 0, _, Nat.lt_succ_self 0, trivial, rfl, h2⟩
  · rw [vcloop_eq]
    exact vcloop_step p d hJ
def arloop_t0 (p : CaP) (d : ArD) : Prop :=
  (0 : Nat) = (0 : Nat) ∧ (p.1 = p.1 ∧ ((if IntKind.i64.wrap ((p.2 ((0 : Nat) + d.1)).1 - p.4) > IntKind.i64.wrap (p.4 - (p.2 ((0 : Nat) + d.1)).1) then IntKind.i64.wrap ((p.2 ((0 : Nat) + d.1)).1 - p.4) else IntKind.i64.wrap (p.4 - (p.2 ((0 : Nat) + d.1)).1)) = if IntKind.i64.wrap ((p.2 ((0 : Nat) + d.1)).1 - p.4) > IntKind.i64.wrap (p.4 - (p.2 ((0 : Nat) + d.1)).1) then IntKind.i64.wrap ((p.2 ((0 : Nat) + d.1)).1 - p.4) else IntKind.i64.wrap (p.4 - (p.2 ((0 : Nat) + d.1)).1)) ∧ True) ∧ True
theorem arloop_t0_t (p : CaP) (d : ArD) : arloop_t0 p d :=
  ⟨rfl, ⟨⟨rfl, ⟨rfl, trivial⟩⟩, trivial⟩⟩
def arloop_t1 : Prop :=
  (0 : Nat) = (0 : Nat) ∧ (0 : Nat) = (0 : Nat)
theorem arloop_t1_t : arloop_t1 :=
  ⟨rfl, rfl⟩
def arloop_t2 : Prop :=
  (((0 : Nat) = (0 : Nat) ∧ (0 : Nat) = (0 : Nat)) ∧ True) ∧ True
theorem arloop_t2_t : arloop_t2 :=
  ⟨⟨⟨rfl, rfl⟩, trivial⟩, trivial⟩
def arloop_t3 (p : CaP) : Prop :=
  (0 : Nat) = (0 : Nat) ∧ p.3 = p.3
theorem arloop_t3_t (p : CaP) : arloop_t3 p :=
  ⟨rfl, rfl⟩
def arloop_t4 (p : CaP) (d : ArD) : Prop :=
  (p.3 = p.3 ∧ ∀ (i : Nat), i < p.k → (p.2 i).1 = (p.2 i).1 ∧ (p.2 i).2 = (p.2 i).2 ∧ (p.2 i).3 = (p.2 i).3 ∧ True) ∧ ((1 : Nat) = (1 : Nat) ∧ ∀ (i : Nat), i < (1 : Nat) → p.1 = p.1 ∧ ((0 : Nat) = (0 : Nat) ∧ p.3 = p.3) ∧ True) ∧ ((1 : Nat) = (1 : Nat) ∧ ∀ (i : Nat), i < (1 : Nat) → (0 : Int) = (0 : Int) ∧ (0 : Int) = (0 : Int) ∧ True) ∧ ((1 : Nat) = (1 : Nat) ∧ ∀ (i : Nat), i < (1 : Nat) → ((if IntKind.i64.wrap ((p.2 ((0 : Nat) + d.1)).2 + IntKind.i64.wrap ((0 : Int) - spH p.1 (if IntKind.i64.wrap ((p.2 ((0 : Nat) + d.1)).1 - p.4) > IntKind.i64.wrap (p.4 - (p.2 ((0 : Nat) + d.1)).1) then IntKind.i64.wrap ((p.2 ((0 : Nat) + d.1)).1 - p.4) else IntKind.i64.wrap (p.4 - (p.2 ((0 : Nat) + d.1)).1)))) > d.2 then IntKind.i64.wrap ((p.2 ((0 : Nat) + d.1)).2 + IntKind.i64.wrap ((0 : Int) - spH p.1 (if IntKind.i64.wrap ((p.2 ((0 : Nat) + d.1)).1 - p.4) > IntKind.i64.wrap (p.4 - (p.2 ((0 : Nat) + d.1)).1) then IntKind.i64.wrap ((p.2 ((0 : Nat) + d.1)).1 - p.4) else IntKind.i64.wrap (p.4 - (p.2 ((0 : Nat) + d.1)).1)))) else d.2) = if IntKind.i64.wrap ((p.2 ((0 : Nat) + d.1)).2 + IntKind.i64.wrap ((0 : Int) - spH p.1 (if IntKind.i64.wrap ((p.2 ((0 : Nat) + d.1)).1 - p.4) > IntKind.i64.wrap (p.4 - (p.2 ((0 : Nat) + d.1)).1) then IntKind.i64.wrap ((p.2 ((0 : Nat) + d.1)).1 - p.4) else IntKind.i64.wrap (p.4 - (p.2 ((0 : Nat) + d.1)).1)))) > d.2 then IntKind.i64.wrap ((p.2 ((0 : Nat) + d.1)).2 + IntKind.i64.wrap ((0 : Int) - spH p.1 (if IntKind.i64.wrap ((p.2 ((0 : Nat) + d.1)).1 - p.4) > IntKind.i64.wrap (p.4 - (p.2 ((0 : Nat) + d.1)).1) then IntKind.i64.wrap ((p.2 ((0 : Nat) + d.1)).1 - p.4) else IntKind.i64.wrap (p.4 - (p.2 ((0 : Nat) + d.1)).1)))) else d.2) ∧ ((if IntKind.i64.wrap ((p.2 ((0 : Nat) + d.1)).3 + IntKind.i64.wrap ((0 : Int) - spL p.1 (if IntKind.i64.wrap ((p.2 ((0 : Nat) + d.1)).1 - p.4) > IntKind.i64.wrap (p.4 - (p.2 ((0 : Nat) + d.1)).1) then IntKind.i64.wrap ((p.2 ((0 : Nat) + d.1)).1 - p.4) else IntKind.i64.wrap (p.4 - (p.2 ((0 : Nat) + d.1)).1)))) < d.3 then IntKind.i64.wrap ((p.2 ((0 : Nat) + d.1)).3 + IntKind.i64.wrap ((0 : Int) - spL p.1 (if IntKind.i64.wrap ((p.2 ((0 : Nat) + d.1)).1 - p.4) > IntKind.i64.wrap (p.4 - (p.2 ((0 : Nat) + d.1)).1) then IntKind.i64.wrap ((p.2 ((0 : Nat) + d.1)).1 - p.4) else IntKind.i64.wrap (p.4 - (p.2 ((0 : Nat) + d.1)).1)))) else d.3) = if IntKind.i64.wrap ((p.2 ((0 : Nat) + d.1)).3 + IntKind.i64.wrap ((0 : Int) - spL p.1 (if IntKind.i64.wrap ((p.2 ((0 : Nat) + d.1)).1 - p.4) > IntKind.i64.wrap (p.4 - (p.2 ((0 : Nat) + d.1)).1) then IntKind.i64.wrap ((p.2 ((0 : Nat) + d.1)).1 - p.4) else IntKind.i64.wrap (p.4 - (p.2 ((0 : Nat) + d.1)).1)))) < d.3 then IntKind.i64.wrap ((p.2 ((0 : Nat) + d.1)).3 + IntKind.i64.wrap ((0 : Int) - spL p.1 (if IntKind.i64.wrap ((p.2 ((0 : Nat) + d.1)).1 - p.4) > IntKind.i64.wrap (p.4 - (p.2 ((0 : Nat) + d.1)).1) then IntKind.i64.wrap ((p.2 ((0 : Nat) + d.1)).1 - p.4) else IntKind.i64.wrap (p.4 - (p.2 ((0 : Nat) + d.1)).1)))) else d.3) ∧ True) ∧ True
theorem arloop_t4_t (p : CaP) (d : ArD) : arloop_t4 p d :=
  ⟨⟨rfl, (fun _ => (fun _ => ⟨rfl, ⟨rfl, ⟨rfl, trivial⟩⟩⟩))⟩, ⟨⟨rfl, (fun _ => (fun _ => ⟨rfl, ⟨⟨rfl, rfl⟩, trivial⟩⟩))⟩, ⟨⟨rfl, (fun _ => (fun _ => ⟨rfl, ⟨rfl, trivial⟩⟩))⟩, ⟨⟨rfl, (fun _ => (fun _ => ⟨rfl, ⟨rfl, trivial⟩⟩))⟩, trivial⟩⟩⟩⟩
def arloop_t5 (p : CaP) (d : ArD) : Prop :=
  (p.3 = p.3 ∧ ∀ (i : Nat), i < p.k → (p.2 i).1 = (p.2 i).1 ∧ (p.2 i).2 = (p.2 i).2 ∧ (p.2 i).3 = (p.2 i).3 ∧ True) ∧ ((1 : Nat) = (1 : Nat) ∧ ∀ (i : Nat), i < (1 : Nat) → p.1 = p.1 ∧ ((0 : Nat) = (0 : Nat) ∧ p.3 = p.3) ∧ True) ∧ ((1 : Nat) = (1 : Nat) ∧ ∀ (i : Nat), i < (1 : Nat) → (0 : Int) = (0 : Int) ∧ (0 : Int) = (0 : Int) ∧ True) ∧ ((1 : Nat) = (1 : Nat) ∧ ∀ (i : Nat), i < (1 : Nat) → ((if IntKind.i64.wrap ((p.2 ((0 : Nat) + d.1)).2 + IntKind.i64.wrap ((0 : Int) - spH p.1 (if IntKind.i64.wrap ((p.2 ((0 : Nat) + d.1)).1 - p.4) > IntKind.i64.wrap (p.4 - (p.2 ((0 : Nat) + d.1)).1) then IntKind.i64.wrap ((p.2 ((0 : Nat) + d.1)).1 - p.4) else IntKind.i64.wrap (p.4 - (p.2 ((0 : Nat) + d.1)).1)))) > d.2 then IntKind.i64.wrap ((p.2 ((0 : Nat) + d.1)).2 + IntKind.i64.wrap ((0 : Int) - spH p.1 (if IntKind.i64.wrap ((p.2 ((0 : Nat) + d.1)).1 - p.4) > IntKind.i64.wrap (p.4 - (p.2 ((0 : Nat) + d.1)).1) then IntKind.i64.wrap ((p.2 ((0 : Nat) + d.1)).1 - p.4) else IntKind.i64.wrap (p.4 - (p.2 ((0 : Nat) + d.1)).1)))) else d.2) = if IntKind.i64.wrap ((p.2 ((0 : Nat) + d.1)).2 + IntKind.i64.wrap ((0 : Int) - spH p.1 (if IntKind.i64.wrap ((p.2 ((0 : Nat) + d.1)).1 - p.4) > IntKind.i64.wrap (p.4 - (p.2 ((0 : Nat) + d.1)).1) then IntKind.i64.wrap ((p.2 ((0 : Nat) + d.1)).1 - p.4) else IntKind.i64.wrap (p.4 - (p.2 ((0 : Nat) + d.1)).1)))) > d.2 then IntKind.i64.wrap ((p.2 ((0 : Nat) + d.1)).2 + IntKind.i64.wrap ((0 : Int) - spH p.1 (if IntKind.i64.wrap ((p.2 ((0 : Nat) + d.1)).1 - p.4) > IntKind.i64.wrap (p.4 - (p.2 ((0 : Nat) + d.1)).1) then IntKind.i64.wrap ((p.2 ((0 : Nat) + d.1)).1 - p.4) else IntKind.i64.wrap (p.4 - (p.2 ((0 : Nat) + d.1)).1)))) else d.2) ∧ ((if IntKind.i64.wrap ((p.2 ((0 : Nat) + d.1)).3 + spH p.1 (if IntKind.i64.wrap ((p.2 ((0 : Nat) + d.1)).1 - p.4) > IntKind.i64.wrap (p.4 - (p.2 ((0 : Nat) + d.1)).1) then IntKind.i64.wrap ((p.2 ((0 : Nat) + d.1)).1 - p.4) else IntKind.i64.wrap (p.4 - (p.2 ((0 : Nat) + d.1)).1))) < d.3 then IntKind.i64.wrap ((p.2 ((0 : Nat) + d.1)).3 + spH p.1 (if IntKind.i64.wrap ((p.2 ((0 : Nat) + d.1)).1 - p.4) > IntKind.i64.wrap (p.4 - (p.2 ((0 : Nat) + d.1)).1) then IntKind.i64.wrap ((p.2 ((0 : Nat) + d.1)).1 - p.4) else IntKind.i64.wrap (p.4 - (p.2 ((0 : Nat) + d.1)).1))) else d.3) = if IntKind.i64.wrap ((p.2 ((0 : Nat) + d.1)).3 + spH p.1 (if IntKind.i64.wrap ((p.2 ((0 : Nat) + d.1)).1 - p.4) > IntKind.i64.wrap (p.4 - (p.2 ((0 : Nat) + d.1)).1) then IntKind.i64.wrap ((p.2 ((0 : Nat) + d.1)).1 - p.4) else IntKind.i64.wrap (p.4 - (p.2 ((0 : Nat) + d.1)).1))) < d.3 then IntKind.i64.wrap ((p.2 ((0 : Nat) + d.1)).3 + spH p.1 (if IntKind.i64.wrap ((p.2 ((0 : Nat) + d.1)).1 - p.4) > IntKind.i64.wrap (p.4 - (p.2 ((0 : Nat) + d.1)).1) then IntKind.i64.wrap ((p.2 ((0 : Nat) + d.1)).1 - p.4) else IntKind.i64.wrap (p.4 - (p.2 ((0 : Nat) + d.1)).1))) else d.3) ∧ True) ∧ True
theorem arloop_t5_t (p : CaP) (d : ArD) : arloop_t5 p d :=
  ⟨⟨rfl, (fun _ => (fun _ => ⟨rfl, ⟨rfl, ⟨rfl, trivial⟩⟩⟩))⟩, ⟨⟨rfl, (fun _ => (fun _ => ⟨rfl, ⟨⟨rfl, rfl⟩, trivial⟩⟩))⟩, ⟨⟨rfl, (fun _ => (fun _ => ⟨rfl, ⟨rfl, trivial⟩⟩))⟩, ⟨⟨rfl, (fun _ => (fun _ => ⟨rfl, ⟨rfl, trivial⟩⟩))⟩, trivial⟩⟩⟩⟩
def arloop_t6 (p : CaP) (d : ArD) : Prop :=
  (p.3 = p.3 ∧ ∀ (i : Nat), i < p.k → (p.2 i).1 = (p.2 i).1 ∧ (p.2 i).2 = (p.2 i).2 ∧ (p.2 i).3 = (p.2 i).3 ∧ True) ∧ ((1 : Nat) = (1 : Nat) ∧ ∀ (i : Nat), i < (1 : Nat) → p.1 = p.1 ∧ ((0 : Nat) = (0 : Nat) ∧ p.3 = p.3) ∧ True) ∧ ((1 : Nat) = (1 : Nat) ∧ ∀ (i : Nat), i < (1 : Nat) → (0 : Int) = (0 : Int) ∧ (0 : Int) = (0 : Int) ∧ True) ∧ ((1 : Nat) = (1 : Nat) ∧ ∀ (i : Nat), i < (1 : Nat) → ((if IntKind.i64.wrap ((p.2 ((0 : Nat) + d.1)).2 + spL p.1 (if IntKind.i64.wrap ((p.2 ((0 : Nat) + d.1)).1 - p.4) > IntKind.i64.wrap (p.4 - (p.2 ((0 : Nat) + d.1)).1) then IntKind.i64.wrap ((p.2 ((0 : Nat) + d.1)).1 - p.4) else IntKind.i64.wrap (p.4 - (p.2 ((0 : Nat) + d.1)).1))) > d.2 then IntKind.i64.wrap ((p.2 ((0 : Nat) + d.1)).2 + spL p.1 (if IntKind.i64.wrap ((p.2 ((0 : Nat) + d.1)).1 - p.4) > IntKind.i64.wrap (p.4 - (p.2 ((0 : Nat) + d.1)).1) then IntKind.i64.wrap ((p.2 ((0 : Nat) + d.1)).1 - p.4) else IntKind.i64.wrap (p.4 - (p.2 ((0 : Nat) + d.1)).1))) else d.2) = if IntKind.i64.wrap ((p.2 ((0 : Nat) + d.1)).2 + spL p.1 (if IntKind.i64.wrap ((p.2 ((0 : Nat) + d.1)).1 - p.4) > IntKind.i64.wrap (p.4 - (p.2 ((0 : Nat) + d.1)).1) then IntKind.i64.wrap ((p.2 ((0 : Nat) + d.1)).1 - p.4) else IntKind.i64.wrap (p.4 - (p.2 ((0 : Nat) + d.1)).1))) > d.2 then IntKind.i64.wrap ((p.2 ((0 : Nat) + d.1)).2 + spL p.1 (if IntKind.i64.wrap ((p.2 ((0 : Nat) + d.1)).1 - p.4) > IntKind.i64.wrap (p.4 - (p.2 ((0 : Nat) + d.1)).1) then IntKind.i64.wrap ((p.2 ((0 : Nat) + d.1)).1 - p.4) else IntKind.i64.wrap (p.4 - (p.2 ((0 : Nat) + d.1)).1))) else d.2) ∧ ((if IntKind.i64.wrap ((p.2 ((0 : Nat) + d.1)).3 + spH p.1 (if IntKind.i64.wrap ((p.2 ((0 : Nat) + d.1)).1 - p.4) > IntKind.i64.wrap (p.4 - (p.2 ((0 : Nat) + d.1)).1) then IntKind.i64.wrap ((p.2 ((0 : Nat) + d.1)).1 - p.4) else IntKind.i64.wrap (p.4 - (p.2 ((0 : Nat) + d.1)).1))) < d.3 then IntKind.i64.wrap ((p.2 ((0 : Nat) + d.1)).3 + spH p.1 (if IntKind.i64.wrap ((p.2 ((0 : Nat) + d.1)).1 - p.4) > IntKind.i64.wrap (p.4 - (p.2 ((0 : Nat) + d.1)).1) then IntKind.i64.wrap ((p.2 ((0 : Nat) + d.1)).1 - p.4) else IntKind.i64.wrap (p.4 - (p.2 ((0 : Nat) + d.1)).1))) else d.3) = if IntKind.i64.wrap ((p.2 ((0 : Nat) + d.1)).3 + spH p.1 (if IntKind.i64.wrap ((p.2 ((0 : Nat) + d.1)).1 - p.4) > IntKind.i64.wrap (p.4 - (p.2 ((0 : Nat) + d.1)).1) then IntKind.i64.wrap ((p.2 ((0 : Nat) + d.1)).1 - p.4) else IntKind.i64.wrap (p.4 - (p.2 ((0 : Nat) + d.1)).1))) < d.3 then IntKind.i64.wrap ((p.2 ((0 : Nat) + d.1)).3 + spH p.1 (if IntKind.i64.wrap ((p.2 ((0 : Nat) + d.1)).1 - p.4) > IntKind.i64.wrap (p.4 - (p.2 ((0 : Nat) + d.1)).1) then IntKind.i64.wrap ((p.2 ((0 : Nat) + d.1)).1 - p.4) else IntKind.i64.wrap (p.4 - (p.2 ((0 : Nat) + d.1)).1))) else d.3) ∧ True) ∧ True
theorem arloop_t6_t (p : CaP) (d : ArD) : arloop_t6 p d :=
  ⟨⟨rfl, (fun _ => (fun _ => ⟨rfl, ⟨rfl, ⟨rfl, trivial⟩⟩⟩))⟩, ⟨⟨rfl, (fun _ => (fun _ => ⟨rfl, ⟨⟨rfl, rfl⟩, trivial⟩⟩))⟩, ⟨⟨rfl, (fun _ => (fun _ => ⟨rfl, ⟨rfl, trivial⟩⟩))⟩, ⟨⟨rfl, (fun _ => (fun _ => ⟨rfl, ⟨rfl, trivial⟩⟩))⟩, trivial⟩⟩⟩⟩
def arloop_t7 (p : CaP) (d : ArD) : Prop :=
  (((0 : Nat) = (0 : Nat) ∧ (0 : Nat) = (0 : Nat)) ∧ ((0 : Nat) = (0 : Nat) ∧ (0 : Nat) = (0 : Nat)) ∧ True) ∧ (p.3 = p.3 ∧ ∀ (i : Nat), i < p.k → (p.2 i).1 = (p.2 i).1 ∧ (p.2 i).2 = (p.2 i).2 ∧ (p.2 i).3 = (p.2 i).3 ∧ True) ∧ ((1 : Nat) = (1 : Nat) ∧ ∀ (i : Nat), i < (1 : Nat) → p.1 = p.1 ∧ ((0 : Nat) = (0 : Nat) ∧ p.3 = p.3) ∧ True) ∧ ((1 : Nat) = (1 : Nat) ∧ ∀ (i : Nat), i < (1 : Nat) → (0 : Int) = (0 : Int) ∧ (0 : Int) = (0 : Int) ∧ True) ∧ ((1 : Nat) = (1 : Nat) ∧ ∀ (i : Nat), i < (1 : Nat) → d.2 = d.2 ∧ d.3 = d.3 ∧ True) ∧ True
theorem arloop_t7_t (p : CaP) (d : ArD) : arloop_t7 p d :=
  ⟨⟨⟨rfl, rfl⟩, ⟨⟨rfl, rfl⟩, trivial⟩⟩, ⟨⟨rfl, (fun _ => (fun _ => ⟨rfl, ⟨rfl, ⟨rfl, trivial⟩⟩⟩))⟩, ⟨⟨rfl, (fun _ => (fun _ => ⟨rfl, ⟨⟨rfl, rfl⟩, trivial⟩⟩))⟩, ⟨⟨rfl, (fun _ => (fun _ => ⟨rfl, ⟨rfl, trivial⟩⟩))⟩, ⟨⟨rfl, (fun _ => (fun _ => ⟨rfl, ⟨rfl, trivial⟩⟩))⟩, trivial⟩⟩⟩⟩⟩
def arloop_T (p : CaP) (d : ArD) : Prop :=
  ifB (decide (Int.ofNat d.1 < Int.ofNat p.3)) (ifB (decide (Int.ofNat d.1 < (↑p.3 : Int))) (ifB (decide ((0 : Nat) + d.1 < p.3) && true) (((((0 : Int) ≤ p.1 ∧ p.1 ≤ (100 : Int)) ∧ ((0 : Int) ≤ if IntKind.i64.wrap ((p.2 ((0 : Nat) + d.1)).1 - p.4) > IntKind.i64.wrap (p.4 - (p.2 ((0 : Nat) + d.1)).1) then IntKind.i64.wrap ((p.2 ((0 : Nat) + d.1)).1 - p.4) else IntKind.i64.wrap (p.4 - (p.2 ((0 : Nat) + d.1)).1)) ∧ (if IntKind.i64.wrap ((p.2 ((0 : Nat) + d.1)).1 - p.4) > IntKind.i64.wrap (p.4 - (p.2 ((0 : Nat) + d.1)).1) then IntKind.i64.wrap ((p.2 ((0 : Nat) + d.1)).1 - p.4) else IntKind.i64.wrap (p.4 - (p.2 ((0 : Nat) + d.1)).1)) ≤ (10000000 : Int)) ∧ arloop_t0 p d) ∧ ifB (decide (p.4 < (p.2 ((0 : Nat) + d.1)).1)) ((Leaf (d.i < p.k) ∧ Leaf ((if IntKind.i64.wrap ((p.2 ((0 : Nat) + d.1)).2 + IntKind.i64.wrap ((0 : Int) - spH p.1 (if IntKind.i64.wrap ((p.2 ((0 : Nat) + d.1)).1 - p.4) > IntKind.i64.wrap (p.4 - (p.2 ((0 : Nat) + d.1)).1) then IntKind.i64.wrap ((p.2 ((0 : Nat) + d.1)).1 - p.4) else IntKind.i64.wrap (p.4 - (p.2 ((0 : Nat) + d.1)).1)))) > d.2 then IntKind.i64.wrap ((p.2 ((0 : Nat) + d.1)).2 + IntKind.i64.wrap ((0 : Int) - spH p.1 (if IntKind.i64.wrap ((p.2 ((0 : Nat) + d.1)).1 - p.4) > IntKind.i64.wrap (p.4 - (p.2 ((0 : Nat) + d.1)).1) then IntKind.i64.wrap ((p.2 ((0 : Nat) + d.1)).1 - p.4) else IntKind.i64.wrap (p.4 - (p.2 ((0 : Nat) + d.1)).1)))) else d.2) = (win p.d p.L p.V (d.i + (1 : Nat))).fst ∧ (if IntKind.i64.wrap ((p.2 ((0 : Nat) + d.1)).3 + IntKind.i64.wrap ((0 : Int) - spL p.1 (if IntKind.i64.wrap ((p.2 ((0 : Nat) + d.1)).1 - p.4) > IntKind.i64.wrap (p.4 - (p.2 ((0 : Nat) + d.1)).1) then IntKind.i64.wrap ((p.2 ((0 : Nat) + d.1)).1 - p.4) else IntKind.i64.wrap (p.4 - (p.2 ((0 : Nat) + d.1)).1)))) < d.3 then IntKind.i64.wrap ((p.2 ((0 : Nat) + d.1)).3 + IntKind.i64.wrap ((0 : Int) - spL p.1 (if IntKind.i64.wrap ((p.2 ((0 : Nat) + d.1)).1 - p.4) > IntKind.i64.wrap (p.4 - (p.2 ((0 : Nat) + d.1)).1) then IntKind.i64.wrap ((p.2 ((0 : Nat) + d.1)).1 - p.4) else IntKind.i64.wrap (p.4 - (p.2 ((0 : Nat) + d.1)).1)))) else d.3) = (win p.d p.L p.V (d.i + (1 : Nat))).snd) ∧ (p.4 = p.4 ∧ arloop_t1 ∧ arloop_t1 ∧ arloop_t1 ∧ arloop_t2 ∧ arloop_t3 p ∧ Int.ofNat p.3 = Int.ofNat p.3 ∧ Int.ofNat (d.1 + (1 : Nat)) = IntKind.i64.wrap (Int.ofNat (d.1 + (1 : Nat))) ∧ True) ∧ arloop_t4 p d) ∧ Leaf (d.i < p.k) ∧ Leaf ((if IntKind.i64.wrap ((p.2 ((0 : Nat) + d.1)).2 + IntKind.i64.wrap ((0 : Int) - spH p.1 (if IntKind.i64.wrap ((p.2 ((0 : Nat) + d.1)).1 - p.4) > IntKind.i64.wrap (p.4 - (p.2 ((0 : Nat) + d.1)).1) then IntKind.i64.wrap ((p.2 ((0 : Nat) + d.1)).1 - p.4) else IntKind.i64.wrap (p.4 - (p.2 ((0 : Nat) + d.1)).1)))) > d.2 then IntKind.i64.wrap ((p.2 ((0 : Nat) + d.1)).2 + IntKind.i64.wrap ((0 : Int) - spH p.1 (if IntKind.i64.wrap ((p.2 ((0 : Nat) + d.1)).1 - p.4) > IntKind.i64.wrap (p.4 - (p.2 ((0 : Nat) + d.1)).1) then IntKind.i64.wrap ((p.2 ((0 : Nat) + d.1)).1 - p.4) else IntKind.i64.wrap (p.4 - (p.2 ((0 : Nat) + d.1)).1)))) else d.2) = (win p.d p.L p.V (d.i + (1 : Nat))).fst ∧ (if IntKind.i64.wrap ((p.2 ((0 : Nat) + d.1)).3 + IntKind.i64.wrap ((0 : Int) - spL p.1 (if IntKind.i64.wrap ((p.2 ((0 : Nat) + d.1)).1 - p.4) > IntKind.i64.wrap (p.4 - (p.2 ((0 : Nat) + d.1)).1) then IntKind.i64.wrap ((p.2 ((0 : Nat) + d.1)).1 - p.4) else IntKind.i64.wrap (p.4 - (p.2 ((0 : Nat) + d.1)).1)))) < d.3 then IntKind.i64.wrap ((p.2 ((0 : Nat) + d.1)).3 + IntKind.i64.wrap ((0 : Int) - spL p.1 (if IntKind.i64.wrap ((p.2 ((0 : Nat) + d.1)).1 - p.4) > IntKind.i64.wrap (p.4 - (p.2 ((0 : Nat) + d.1)).1) then IntKind.i64.wrap ((p.2 ((0 : Nat) + d.1)).1 - p.4) else IntKind.i64.wrap (p.4 - (p.2 ((0 : Nat) + d.1)).1)))) else d.3) = (win p.d p.L p.V (d.i + (1 : Nat))).snd) ∧ (p.4 = p.4 ∧ arloop_t1 ∧ arloop_t1 ∧ arloop_t1 ∧ arloop_t2 ∧ arloop_t3 p ∧ Int.ofNat p.3 = Int.ofNat p.3 ∧ Int.ofNat (d.1 + (1 : Nat)) = IntKind.i64.wrap (Int.ofNat (d.1 + (1 : Nat))) ∧ True) ∧ arloop_t4 p d) (ifB (p.4 == (p.2 ((0 : Nat) + d.1)).1) ((Leaf (d.i < p.k) ∧ Leaf ((if IntKind.i64.wrap ((p.2 ((0 : Nat) + d.1)).2 + IntKind.i64.wrap ((0 : Int) - spH p.1 (if IntKind.i64.wrap ((p.2 ((0 : Nat) + d.1)).1 - p.4) > IntKind.i64.wrap (p.4 - (p.2 ((0 : Nat) + d.1)).1) then IntKind.i64.wrap ((p.2 ((0 : Nat) + d.1)).1 - p.4) else IntKind.i64.wrap (p.4 - (p.2 ((0 : Nat) + d.1)).1)))) > d.2 then IntKind.i64.wrap ((p.2 ((0 : Nat) + d.1)).2 + IntKind.i64.wrap ((0 : Int) - spH p.1 (if IntKind.i64.wrap ((p.2 ((0 : Nat) + d.1)).1 - p.4) > IntKind.i64.wrap (p.4 - (p.2 ((0 : Nat) + d.1)).1) then IntKind.i64.wrap ((p.2 ((0 : Nat) + d.1)).1 - p.4) else IntKind.i64.wrap (p.4 - (p.2 ((0 : Nat) + d.1)).1)))) else d.2) = (win p.d p.L p.V (d.i + (1 : Nat))).fst ∧ (if IntKind.i64.wrap ((p.2 ((0 : Nat) + d.1)).3 + spH p.1 (if IntKind.i64.wrap ((p.2 ((0 : Nat) + d.1)).1 - p.4) > IntKind.i64.wrap (p.4 - (p.2 ((0 : Nat) + d.1)).1) then IntKind.i64.wrap ((p.2 ((0 : Nat) + d.1)).1 - p.4) else IntKind.i64.wrap (p.4 - (p.2 ((0 : Nat) + d.1)).1))) < d.3 then IntKind.i64.wrap ((p.2 ((0 : Nat) + d.1)).3 + spH p.1 (if IntKind.i64.wrap ((p.2 ((0 : Nat) + d.1)).1 - p.4) > IntKind.i64.wrap (p.4 - (p.2 ((0 : Nat) + d.1)).1) then IntKind.i64.wrap ((p.2 ((0 : Nat) + d.1)).1 - p.4) else IntKind.i64.wrap (p.4 - (p.2 ((0 : Nat) + d.1)).1))) else d.3) = (win p.d p.L p.V (d.i + (1 : Nat))).snd) ∧ (p.4 = p.4 ∧ arloop_t1 ∧ arloop_t1 ∧ arloop_t1 ∧ arloop_t2 ∧ arloop_t3 p ∧ Int.ofNat p.3 = Int.ofNat p.3 ∧ Int.ofNat (d.1 + (1 : Nat)) = IntKind.i64.wrap (Int.ofNat (d.1 + (1 : Nat))) ∧ True) ∧ arloop_t5 p d) ∧ Leaf (d.i < p.k) ∧ Leaf ((if IntKind.i64.wrap ((p.2 ((0 : Nat) + d.1)).2 + IntKind.i64.wrap ((0 : Int) - spH p.1 (if IntKind.i64.wrap ((p.2 ((0 : Nat) + d.1)).1 - p.4) > IntKind.i64.wrap (p.4 - (p.2 ((0 : Nat) + d.1)).1) then IntKind.i64.wrap ((p.2 ((0 : Nat) + d.1)).1 - p.4) else IntKind.i64.wrap (p.4 - (p.2 ((0 : Nat) + d.1)).1)))) > d.2 then IntKind.i64.wrap ((p.2 ((0 : Nat) + d.1)).2 + IntKind.i64.wrap ((0 : Int) - spH p.1 (if IntKind.i64.wrap ((p.2 ((0 : Nat) + d.1)).1 - p.4) > IntKind.i64.wrap (p.4 - (p.2 ((0 : Nat) + d.1)).1) then IntKind.i64.wrap ((p.2 ((0 : Nat) + d.1)).1 - p.4) else IntKind.i64.wrap (p.4 - (p.2 ((0 : Nat) + d.1)).1)))) else d.2) = (win p.d p.L p.V (d.i + (1 : Nat))).fst ∧ (if IntKind.i64.wrap ((p.2 ((0 : Nat) + d.1)).3 + spH p.1 (if IntKind.i64.wrap ((p.2 ((0 : Nat) + d.1)).1 - p.4) > IntKind.i64.wrap (p.4 - (p.2 ((0 : Nat) + d.1)).1) then IntKind.i64.wrap ((p.2 ((0 : Nat) + d.1)).1 - p.4) else IntKind.i64.wrap (p.4 - (p.2 ((0 : Nat) + d.1)).1))) < d.3 then IntKind.i64.wrap ((p.2 ((0 : Nat) + d.1)).3 + spH p.1 (if IntKind.i64.wrap ((p.2 ((0 : Nat) + d.1)).1 - p.4) > IntKind.i64.wrap (p.4 - (p.2 ((0 : Nat) + d.1)).1) then IntKind.i64.wrap ((p.2 ((0 : Nat) + d.1)).1 - p.4) else IntKind.i64.wrap (p.4 - (p.2 ((0 : Nat) + d.1)).1))) else d.3) = (win p.d p.L p.V (d.i + (1 : Nat))).snd) ∧ (p.4 = p.4 ∧ arloop_t1 ∧ arloop_t1 ∧ arloop_t1 ∧ arloop_t2 ∧ arloop_t3 p ∧ Int.ofNat p.3 = Int.ofNat p.3 ∧ Int.ofNat (d.1 + (1 : Nat)) = IntKind.i64.wrap (Int.ofNat (d.1 + (1 : Nat))) ∧ True) ∧ arloop_t5 p d) ((Leaf (d.i < p.k) ∧ Leaf ((if IntKind.i64.wrap ((p.2 ((0 : Nat) + d.1)).2 + spL p.1 (if IntKind.i64.wrap ((p.2 ((0 : Nat) + d.1)).1 - p.4) > IntKind.i64.wrap (p.4 - (p.2 ((0 : Nat) + d.1)).1) then IntKind.i64.wrap ((p.2 ((0 : Nat) + d.1)).1 - p.4) else IntKind.i64.wrap (p.4 - (p.2 ((0 : Nat) + d.1)).1))) > d.2 then IntKind.i64.wrap ((p.2 ((0 : Nat) + d.1)).2 + spL p.1 (if IntKind.i64.wrap ((p.2 ((0 : Nat) + d.1)).1 - p.4) > IntKind.i64.wrap (p.4 - (p.2 ((0 : Nat) + d.1)).1) then IntKind.i64.wrap ((p.2 ((0 : Nat) + d.1)).1 - p.4) else IntKind.i64.wrap (p.4 - (p.2 ((0 : Nat) + d.1)).1))) else d.2) = (win p.d p.L p.V (d.i + (1 : Nat))).fst ∧ (if IntKind.i64.wrap ((p.2 ((0 : Nat) + d.1)).3 + spH p.1 (if IntKind.i64.wrap ((p.2 ((0 : Nat) + d.1)).1 - p.4) > IntKind.i64.wrap (p.4 - (p.2 ((0 : Nat) + d.1)).1) then IntKind.i64.wrap ((p.2 ((0 : Nat) + d.1)).1 - p.4) else IntKind.i64.wrap (p.4 - (p.2 ((0 : Nat) + d.1)).1))) < d.3 then IntKind.i64.wrap ((p.2 ((0 : Nat) + d.1)).3 + spH p.1 (if IntKind.i64.wrap ((p.2 ((0 : Nat) + d.1)).1 - p.4) > IntKind.i64.wrap (p.4 - (p.2 ((0 : Nat) + d.1)).1) then IntKind.i64.wrap ((p.2 ((0 : Nat) + d.1)).1 - p.4) else IntKind.i64.wrap (p.4 - (p.2 ((0 : Nat) + d.1)).1))) else d.3) = (win p.d p.L p.V (d.i + (1 : Nat))).snd) ∧ (p.4 = p.4 ∧ arloop_t1 ∧ arloop_t1 ∧ arloop_t1 ∧ arloop_t2 ∧ arloop_t3 p ∧ Int.ofNat p.3 = Int.ofNat p.3 ∧ Int.ofNat (d.1 + (1 : Nat)) = IntKind.i64.wrap (Int.ofNat (d.1 + (1 : Nat))) ∧ True) ∧ arloop_t6 p d) ∧ Leaf (d.i < p.k) ∧ Leaf ((if IntKind.i64.wrap ((p.2 ((0 : Nat) + d.1)).2 + spL p.1 (if IntKind.i64.wrap ((p.2 ((0 : Nat) + d.1)).1 - p.4) > IntKind.i64.wrap (p.4 - (p.2 ((0 : Nat) + d.1)).1) then IntKind.i64.wrap ((p.2 ((0 : Nat) + d.1)).1 - p.4) else IntKind.i64.wrap (p.4 - (p.2 ((0 : Nat) + d.1)).1))) > d.2 then IntKind.i64.wrap ((p.2 ((0 : Nat) + d.1)).2 + spL p.1 (if IntKind.i64.wrap ((p.2 ((0 : Nat) + d.1)).1 - p.4) > IntKind.i64.wrap (p.4 - (p.2 ((0 : Nat) + d.1)).1) then IntKind.i64.wrap ((p.2 ((0 : Nat) + d.1)).1 - p.4) else IntKind.i64.wrap (p.4 - (p.2 ((0 : Nat) + d.1)).1))) else d.2) = (win p.d p.L p.V (d.i + (1 : Nat))).fst ∧ (if IntKind.i64.wrap ((p.2 ((0 : Nat) + d.1)).3 + spH p.1 (if IntKind.i64.wrap ((p.2 ((0 : Nat) + d.1)).1 - p.4) > IntKind.i64.wrap (p.4 - (p.2 ((0 : Nat) + d.1)).1) then IntKind.i64.wrap ((p.2 ((0 : Nat) + d.1)).1 - p.4) else IntKind.i64.wrap (p.4 - (p.2 ((0 : Nat) + d.1)).1))) < d.3 then IntKind.i64.wrap ((p.2 ((0 : Nat) + d.1)).3 + spH p.1 (if IntKind.i64.wrap ((p.2 ((0 : Nat) + d.1)).1 - p.4) > IntKind.i64.wrap (p.4 - (p.2 ((0 : Nat) + d.1)).1) then IntKind.i64.wrap ((p.2 ((0 : Nat) + d.1)).1 - p.4) else IntKind.i64.wrap (p.4 - (p.2 ((0 : Nat) + d.1)).1))) else d.3) = (win p.d p.L p.V (d.i + (1 : Nat))).snd) ∧ (p.4 = p.4 ∧ arloop_t1 ∧ arloop_t1 ∧ arloop_t1 ∧ arloop_t2 ∧ arloop_t3 p ∧ Int.ofNat p.3 = Int.ofNat p.3 ∧ Int.ofNat (d.1 + (1 : Nat)) = IntKind.i64.wrap (Int.ofNat (d.1 + (1 : Nat))) ∧ True) ∧ arloop_t6 p d))) False) False) (Leaf (p.k ≤ d.i) ∧ arloop_t7 p d)
theorem arloop_eq (p : CaP) (d : ArD) : exec XQ2 60 45 lAr.code (lAr.I p d) (zAr p d) = arloop_T p d := by kernel_rfl

set_option maxHeartbeats 2000000 in
theorem arloop_step (p : CaP) (d : ArD) (hJ : lAr_J p d) : arloop_T p d := by
  obtain ⟨h1, ⟨⟨h2, h3, h4⟩, h5, h6⟩, h7, h8⟩ := hJ
  rcases Nat.lt_or_ge d.i p.k with hlt | hge
  · obtain ⟨b1, b2, b3, b4, b5⟩ := h4 d.i hlt
    have b0 : 0 ≤ (p.V d.i).loc := by
      cases hi : d.i with
      | zero => rw [hi] at b1; have b1 : -1 < (p.V 0).loc := b1; omega
      | succ m =>
        have key : ∀ m, m < p.k → 0 ≤ (p.V m).loc := fun m => by
          induction m with
          | zero => intro hm; have := (h4 0 hm).1; have this : -1 < (p.V 0).loc := this; omega
          | succ m ih => intro hm; have h1 := (h4 (m + 1) hm).1; have h1 : (p.V m).loc < (p.V (m + 1)).loc := h1; have := ih (by omega); omega
        exact key _ (by omega)
    have a1 : IntKind.i64.wrap ((p.V d.i).loc - p.L) = (p.V d.i).loc - p.L := wS (by omega) (by omega)
    have a2 : IntKind.i64.wrap (p.L - (p.V d.i).loc) = p.L - (p.V d.i).loc := wS (by omega) (by omega)
    have a3 : (if (p.V d.i).loc - p.L > p.L - (p.V d.i).loc then (p.V d.i).loc - p.L else p.L - (p.V d.i).loc) = ab (p.L - (p.V d.i).loc) ((p.V d.i).loc - p.L) := rfl
    have hn : 0 ≤ ab (p.L - (p.V d.i).loc) ((p.V d.i).loc - p.L) ∧ ab (p.L - (p.V d.i).loc) ((p.V d.i).loc - p.L) ≤ 10000000 := by unfold ab; split <;> omega
    have hw : win p.d p.L p.V (d.i + 1) = (match decide (p.L < (p.V d.i).loc) with
      | true => (ab (win p.d p.L p.V d.i).1 ((p.V d.i).low + -(spH p.d (ab (p.L - (p.V d.i).loc) ((p.V d.i).loc - p.L)))), be (win p.d p.L p.V d.i).2 ((p.V d.i).high + -(spL p.d (ab (p.L - (p.V d.i).loc) ((p.V d.i).loc - p.L)))))
      | false => match p.L == (p.V d.i).loc with
        | true => (ab (win p.d p.L p.V d.i).1 ((p.V d.i).low + -(spH p.d (ab (p.L - (p.V d.i).loc) ((p.V d.i).loc - p.L)))), be (win p.d p.L p.V d.i).2 ((p.V d.i).high + spH p.d (ab (p.L - (p.V d.i).loc) ((p.V d.i).loc - p.L))))
        | false => (ab (win p.d p.L p.V d.i).1 ((p.V d.i).low + spL p.d (ab (p.L - (p.V d.i).loc) ((p.V d.i).loc - p.L))), be (win p.d p.L p.V d.i).2 ((p.V d.i).high + spH p.d (ab (p.L - (p.V d.i).loc) ((p.V d.i).loc - p.L))))) := rfl
    generalize ab (p.L - (p.V d.i).loc) ((p.V d.i).loc - p.L) = n at a3 hn hw
    have q1 : 0 ≤ spH p.d n ∧ spH p.d n ≤ 20000000000 := by
      have := quo_b (a := 1000 * (n + 1) - 1) (b := 1000 - p.d) (by omega) (by omega)
      unfold spH; omega
    have q2 : 0 ≤ spL p.d n ∧ spL p.d n ≤ 20000000000 := by
      unfold spL
      split
      · have := quo_b (a := 1000 * (n - 1)) (b := 1000 + p.d) (by omega) (by omega)
        omega
      · omega
    have a4 : IntKind.i64.wrap (0 - spH p.d n) = -(spH p.d n) := by rw [wS (by omega) (by omega)]; omega
    have a5 : IntKind.i64.wrap (0 - spL p.d n) = -(spL p.d n) := by rw [wS (by omega) (by omega)]; omega
    have a6 : IntKind.i64.wrap ((p.V d.i).low + -(spH p.d n)) = (p.V d.i).low + -(spH p.d n) := wS (by omega) (by omega)
    have a7 : IntKind.i64.wrap ((p.V d.i).high + -(spL p.d n)) = (p.V d.i).high + -(spL p.d n) := wS (by omega) (by omega)
    have a8 : IntKind.i64.wrap ((p.V d.i).high + spH p.d n) = (p.V d.i).high + spH p.d n := wS (by omega) (by omega)
    have a9 : IntKind.i64.wrap ((p.V d.i).low + spL p.d n) = (p.V d.i).low + spL p.d n := wS (by omega) (by omega)
    unfold arloop_T
    simp only [Nat.zero_add, a1, a2, a3, a4, a5, a6, a7, a8, a9, hw, h7, h8]
    repeat' (first | with_reducible refine ifB_split (fun _ => ?_) (fun _ => ?_) | with_reducible refine And.intro ?_ ?_)
    all_goals try first | with_reducible exact arloop_t0_t _ _ | with_reducible exact arloop_t1_t | with_reducible exact arloop_t2_t | with_reducible exact arloop_t3_t _ | with_reducible exact arloop_t4_t _ _ | with_reducible exact arloop_t5_t _ _ | with_reducible exact arloop_t6_t _ _ | with_reducible exact arloop_t7_t _ _ | with_reducible rfl | with_reducible exact trivial | with_reducible exact List.Perm.refl _
    all_goals first
      | exact hlt
      | exact hn.1
      | exact hn.2
      | exact h2
      | exact h2.1
      | exact h2.2
      | (rw [wrapSmall (by simp only [Int.ofNat_eq_natCast]; omega) (by simp only [Int.ofNat_eq_natCast]; omega)]; done)
      | (rename_i hl; have hl := of_decide_eq_true hl; rw [decide_eq_true hl]; rfl)
      | (rename_i hl; rw [decide_eq_true (p := p.L < (p.V d.i).loc) (of_decide_eq_true hl)]; exact ⟨rfl, rfl⟩)
      | (rename_i hl he; rw [decide_eq_false (p := p.L < (p.V d.i).loc) (of_decide_eq_false hl), he]; exact ⟨rfl, rfl⟩)
      | (simp at *; omega)
      | trace_state
  · unfold arloop_T
    repeat' (first | with_reducible refine ifB_split (fun _ => ?_) (fun _ => ?_) | with_reducible refine And.intro ?_ ?_)
    all_goals try first | with_reducible exact arloop_t0_t _ _ | with_reducible exact arloop_t1_t | with_reducible exact arloop_t2_t | with_reducible exact arloop_t3_t _ | with_reducible exact arloop_t4_t _ _ | with_reducible exact arloop_t5_t _ _ | with_reducible exact arloop_t6_t _ _ | with_reducible exact arloop_t7_t _ _ | with_reducible rfl | with_reducible exact trivial | with_reducible exact List.Perm.refl _
    all_goals first
      | exact hge
      | (exfalso; simp only [Int.ofNat_eq_natCast, decide_eq_true_eq] at *; omega)
      | trace_state
set_option maxRecDepth 100000 in
theorem arloop_ok : LoopOK XQ2.P lAr.code lAr.L := by
  refine lAr.ok XQ2_ok 60 45 (fun p d => p.k - d.i) zAr (fun _ _ _ => trivial) (fun p d w q hw => ?_) (fun p d S' hJ h => ?_) (fun p d x S' hx hJ h => ?_) fun p d hJ => ?_
  · match w, hw with
    | 0, _ => exact trivial
  · unfold zAr at h; dsimp only at h
    split at h <;> try exact h.elim
    rename_i m g _
    split at h <;> try exact h.elim
    rename_i k1 a k2 b _
    obtain ⟨h1, h2, h3⟩ := h
    simp only [Leaf] at h1 h2
    obtain ⟨j1, j2, j3, j4⟩ := hJ
    refine ⟨_, ⟨d.i + 1, a, b⟩, ?_, ⟨h1, j2, h2.1, h2.2⟩, h3⟩
    show p.k - (d.i + 1) < p.k - d.i
    omega
  · obtain ⟨j1, j2, j3, j4⟩ := hJ
    cases x with
    | normal => exact hx.elim
    | ret => exact (show False from h).elim
    | exit k =>
      obtain ⟨h0, h1, h2⟩ := gateB_spec h
      have h0 := Nat.eq_of_beq_eq_true h0
      subst h0
      simp only [Leaf] at h1
      have hi : d.i = p.k := by omega
      exact ⟨0, d, _, Nat.lt_succ_self 0, by rw [hi] at j3 j4; exact ⟨j3, j4⟩, rfl, h2⟩
  · rw [arloop_eq]
    exact arloop_step p d hJ
noncomputable def XQ3 : Ctx := (XQ2.loop 44 5 lVC.code (lVC.by exVC)).loop 45 4 lAr.code (lAr.by exAr)
theorem XQ3_ok : XQ3.OK := Ctx.loop_ok (Ctx.loop_ok XQ2_ok (vcloop_ok.by exVC)) (arloop_ok.by exAr)
end Go.Proofs.Ytmcidfecepknpaa

namespace Go.Proofs.Ytmcidfecepknpaa
open Go Go.Sh Go.Proofs
set_option linter.unusedVariables false
set_option linter.unusedSimpArgs false
def valc5_t0 (p : CaP) : Prop :=
  (2 : Nat) = (2 : Nat) ∧ True ∧ ((-1 : Int) = (-1 : Int) ∧ ((0 : Nat) = (0 : Nat) ∧ p.3 = p.3) ∧ Int.ofNat p.3 = Int.ofNat p.3 ∧ (0 : Int) = (0 : Int) ∧ True) ∧ (p.3 = p.3 ∧ ∀ (i : Nat), i < p.3 → (p.2 i).1 = (p.2 i).1 ∧ (p.2 i).2 = (p.2 i).2 ∧ (p.2 i).3 = (p.2 i).3 ∧ True) ∧ True
theorem valc5_t0_t (p : CaP) : valc5_t0 p :=
  ⟨rfl, ⟨trivial, ⟨⟨rfl, ⟨⟨rfl, rfl⟩, ⟨rfl, ⟨rfl, trivial⟩⟩⟩⟩, ⟨⟨rfl, (fun _ => (fun _ => ⟨rfl, ⟨rfl, ⟨rfl, trivial⟩⟩⟩))⟩, trivial⟩⟩⟩⟩
def valc5_T (p : CaP) : Prop :=
  ifB (decide (p.1 < (0 : Int)) == false) (ifB (decide (p.1 > (100 : Int)) == false) (ifB (decide (Int.ofNat p.3 > (12 : Int))) (true = false ∧ True) (lVC.code = lVC.code ∧ (lVC_J { d := (0 : Int), V := p.2, k := p.3, L := (0 : Int) : CaP } { i := (0 : Nat), last := (-1 : Int) : VcD } ∧ valc5_t0 p) ∧ True ∧ ∀ (q : Nat), Leaf True → true = true ∧ True)) (true = false ∧ True)) (true = false ∧ True)
theorem valc5_eq (p : CaP) : callBy XQ3 (exec XQ3 60) 44 (sValC.A p) (sValC.H p) (RetC (sValC.H p).length (sValC.R p) (sValC.O p)) = valc5_T p := by kernel_rfl

theorem valc5_step (p : CaP) (hJ : sValC.J p) : valc5_T p := by
  have hJ : ckOk p.d p.V p.k := hJ
  obtain ⟨h1, h2, h3⟩ := hJ
  unfold valc5_T
  repeat' (first | with_reducible refine ifB_split (fun _ => ?_) (fun _ => ?_) | with_reducible refine And.intro ?_ ?_)
  all_goals try first | with_reducible exact valc5_t0_t _ | with_reducible rfl | with_reducible exact trivial | with_reducible exact List.Perm.refl _
  all_goals try with_reducible refine fun (q : Nat) hq => ?_
  all_goals try first | with_reducible exact valc5_t0_t _ | with_reducible rfl | with_reducible exact trivial | with_reducible exact List.Perm.refl _
  all_goals first
    | exact ⟨Nat.zero_le _, ⟨(by constructor <;> decide : (0 : Int) ≤ 0 ∧ (0 : Int) ≤ 100), h2, h3⟩, rfl⟩
    | (simp only [Int.ofNat_eq_natCast, decide_eq_true_eq, decide_eq_false_iff_not, beq_iff_eq, beq_eq_false_iff_ne, ne_eq, Bool.not_eq_true] at *; omega)
    | exact ⟨trivial, trivial⟩
    | exact ⟨rfl, trivial⟩
    | trace_state
theorem valc5_ok : sValC.OK XQ3.P 44 := .of_eq XQ3_ok 60 _ valc5_eq (fun _ => rfl) (fun _ _ o h => by cases h) fun p hJ => valc5_step p hJ
def ardc_t0 (p : CaP) : Prop :=
  (4 : Nat) = (4 : Nat) ∧ True ∧ (p.4 = p.4 ∧ ((0 : Nat) = (0 : Nat) ∧ (0 : Nat) = (0 : Nat)) ∧ ((0 : Nat) = (0 : Nat) ∧ (0 : Nat) = (0 : Nat)) ∧ ((0 : Nat) = (0 : Nat) ∧ (0 : Nat) = (0 : Nat)) ∧ ((((0 : Nat) = (0 : Nat) ∧ (0 : Nat) = (0 : Nat)) ∧ True) ∧ True) ∧ ((0 : Nat) = (0 : Nat) ∧ p.3 = p.3) ∧ Int.ofNat p.3 = Int.ofNat p.3 ∧ (0 : Int) = (0 : Int) ∧ True) ∧ (p.3 = p.3 ∧ ∀ (i : Nat), i < p.k → (p.2 i).1 = (p.2 i).1 ∧ (p.2 i).2 = (p.2 i).2 ∧ (p.2 i).3 = (p.2 i).3 ∧ True) ∧ ((1 : Nat) = (1 : Nat) ∧ ∀ (i : Nat), i < (1 : Nat) → p.1 = p.1 ∧ ((0 : Nat) = (0 : Nat) ∧ p.3 = p.3) ∧ True) ∧ ((1 : Nat) = (1 : Nat) ∧ ∀ (i : Nat), i < (1 : Nat) → (0 : Int) = (0 : Int) ∧ (0 : Int) = (0 : Int) ∧ True) ∧ ((1 : Nat) = (1 : Nat) ∧ ∀ (i : Nat), i < (1 : Nat) → (0 : Int) = (0 : Int) ∧ (10000000 : Int) = (10000000 : Int) ∧ True) ∧ True
theorem ardc_t0_t (p : CaP) : ardc_t0 p :=
  ⟨rfl, ⟨trivial, ⟨⟨rfl, ⟨⟨rfl, rfl⟩, ⟨⟨rfl, rfl⟩, ⟨⟨rfl, rfl⟩, ⟨⟨⟨⟨rfl, rfl⟩, trivial⟩, trivial⟩, ⟨⟨rfl, rfl⟩, ⟨rfl, ⟨rfl, trivial⟩⟩⟩⟩⟩⟩⟩⟩, ⟨⟨rfl, (fun _ => (fun _ => ⟨rfl, ⟨rfl, ⟨rfl, trivial⟩⟩⟩))⟩, ⟨⟨rfl, (fun _ => (fun _ => ⟨rfl, ⟨⟨rfl, rfl⟩, trivial⟩⟩))⟩, ⟨⟨rfl, (fun _ => (fun _ => ⟨rfl, ⟨rfl, trivial⟩⟩))⟩, ⟨⟨rfl, (fun _ => (fun _ => ⟨rfl, ⟨rfl, trivial⟩⟩))⟩, trivial⟩⟩⟩⟩⟩⟩⟩
def ardc_T (p : CaP) : Prop :=
  lAr.code = lAr.code ∧ (lAr_J p { i := (0 : Nat), lo := (0 : Int), hi := (10000000 : Int) : ArD } ∧ ardc_t0 p) ∧ True ∧ ∀ (q : ArD), Leaf (q.lo = (win p.d p.L p.V p.k).fst ∧ q.hi = (win p.d p.L p.V p.k).snd) → ((win p.1 p.4 p.2 p.3).1 = q.2 ∧ (win p.1 p.4 p.2 p.3).2 = q.3 ∧ True) ∧ True
theorem ardc_eq (p : CaP) : callBy XQ3 (exec XQ3 60) 45 (sArd.A p) (sArd.H p) (RetC (sArd.H p).length (sArd.R p) (sArd.O p)) = ardc_T p := by kernel_rfl

theorem ardc_step (p : CaP) (hJ : sArd.J p) : ardc_T p := by
  have hJ : sArd_J p := hJ
  obtain ⟨⟨h1, h2, h3⟩, h4, h5⟩ := hJ
  unfold ardc_T
  repeat' (first | with_reducible refine ifB_split (fun _ => ?_) (fun _ => ?_) | with_reducible refine And.intro ?_ ?_)
  all_goals try first | with_reducible exact ardc_t0_t _ | with_reducible rfl | with_reducible exact trivial | with_reducible exact List.Perm.refl _
  all_goals try with_reducible refine fun (q : ArD) hq => ?_
  all_goals try first | with_reducible exact ardc_t0_t _ | with_reducible rfl | with_reducible exact trivial | with_reducible exact List.Perm.refl _
  all_goals first
    | exact ⟨Nat.zero_le _, ⟨⟨h1, h2, h3⟩, h4, h5⟩, rfl, rfl⟩
    | (obtain ⟨g1, g2⟩ := hq
       exact ⟨⟨g1.symm, g2.symm, trivial⟩, trivial⟩)
    | (simp only [Int.ofNat_eq_natCast, decide_eq_true_eq, decide_eq_false_iff_not, beq_iff_eq, beq_eq_false_iff_ne, ne_eq, Bool.not_eq_true] at *; omega)
    | trace_state
theorem ardc_ok : sArd.OK XQ3.P 45 := .of_eq XQ3_ok 60 _ ardc_eq (fun _ => rfl) (fun _ _ o h => by cases h) fun p hJ => ardc_step p hJ
noncomputable def XQ4 : Ctx := (XQ3.with 44 (sValC.by exClk)).with 45 (sArd.by exClk)
theorem XQ4_ok : XQ4.OK := Ctx.with_ok (Ctx.with_ok XQ3_ok (valc5_ok.by exClk)) (ardc_ok.by exClk)
end Go.Proofs.Ytmcidfecepknpaa

namespace Go.Proofs.Ytmcidfecepknpaa
open Go Go.Sh Go.Proofs
set_option linter.unusedVariables false
set_option linter.unusedSimpArgs false
def atc_t0 (p : CaP) : Prop :=
  (1 : Nat) = (1 : Nat) ∧ ((p.1 = p.1 ∧ ((0 : Nat) = (0 : Nat) ∧ p.3 = p.3) ∧ True) ∧ True) ∧ (p.3 = p.3 ∧ ∀ (i : Nat), i < p.3 → (p.2 i).1 = (p.2 i).1 ∧ (p.2 i).2 = (p.2 i).2 ∧ (p.2 i).3 = (p.2 i).3 ∧ True) ∧ True
theorem atc_t0_t (p : CaP) : atc_t0 p :=
  ⟨rfl, ⟨⟨⟨rfl, ⟨⟨rfl, rfl⟩, trivial⟩⟩, trivial⟩, ⟨⟨rfl, (fun _ => (fun _ => ⟨rfl, ⟨rfl, ⟨rfl, trivial⟩⟩⟩))⟩, trivial⟩⟩⟩
def atc_t1 (p : CaP) : Prop :=
  (1 : Nat) = (1 : Nat) ∧ ((p.1 = p.1 ∧ ((0 : Nat) = (0 : Nat) ∧ p.3 = p.3) ∧ True) ∧ p.4 = p.4 ∧ True) ∧ (p.3 = p.3 ∧ ∀ (i : Nat), i < p.k → (p.2 i).1 = (p.2 i).1 ∧ (p.2 i).2 = (p.2 i).2 ∧ (p.2 i).3 = (p.2 i).3 ∧ True) ∧ True
theorem atc_t1_t (p : CaP) : atc_t1 p :=
  ⟨rfl, ⟨⟨⟨rfl, ⟨⟨rfl, rfl⟩, trivial⟩⟩, ⟨rfl, trivial⟩⟩, ⟨⟨rfl, (fun _ => (fun _ => ⟨rfl, ⟨rfl, ⟨rfl, trivial⟩⟩⟩))⟩, trivial⟩⟩⟩
def atc_t2 (p : CaP) : Prop :=
  ((win p.1 p.4 p.2 p.3).1 = (win p.1 p.4 p.2 p.3).1 ∧ (win p.1 p.4 p.2 p.3).2 = (win p.1 p.4 p.2 p.3).2 ∧ (0 : Int) = (0 : Int) ∧ True) ∧ True
theorem atc_t2_t (p : CaP) : atc_t2 p :=
  ⟨⟨rfl, ⟨rfl, ⟨rfl, trivial⟩⟩⟩, trivial⟩
def atc_T (p : CaP) : Prop :=
  (sValC_J { d := p.1, V := p.2, k := p.3, L := (0 : Int) : CaP } ∧ atc_t0 p) ∧ ifB (decide (p.4 < (0 : Int)) == false) (ifB (decide (p.4 > (10000000 : Int))) (((win p.1 p.4 p.2 p.3).1 = (0 : Int) ∧ (win p.1 p.4 p.2 p.3).2 = (0 : Int) ∧ (0 : Int) = (50 : Int) ∧ True) ∧ True) ((sArd_J p ∧ atc_t1 p) ∧ ifB (decide ((win p.1 p.4 p.2 p.3).1 > (win p.1 p.4 p.2 p.3).2)) (((win p.1 p.4 p.2 p.3).1 = (0 : Int) ∧ (win p.1 p.4 p.2 p.3).2 = (0 : Int) ∧ (0 : Int) = (50 : Int) ∧ True) ∧ True) (atc_t2 p))) (((win p.1 p.4 p.2 p.3).1 = (0 : Int) ∧ (win p.1 p.4 p.2 p.3).2 = (0 : Int) ∧ (0 : Int) = (50 : Int) ∧ True) ∧ True)
theorem atc_eq (p : CaP) : callBy XQ4 (exec XQ4 60) 23 (sAt.A p) (sAt.H p) (RetC (sAt.H p).length (sAt.R p) (sAt.O p)) = atc_T p := by kernel_rfl

theorem atc_step (p : CaP) (hJ : sAt.J p) : atc_T p := by
  have hJ : sAt_J p := hJ
  obtain ⟨⟨⟨h1, h2, h3⟩, h4, h5⟩, h6⟩ := hJ
  unfold atc_T
  repeat' (first | with_reducible refine ifB_split (fun _ => ?_) (fun _ => ?_) | with_reducible refine And.intro ?_ ?_)
  all_goals try first | with_reducible exact atc_t0_t _ | with_reducible exact atc_t1_t _ | with_reducible exact atc_t2_t _ | with_reducible rfl | with_reducible exact trivial | with_reducible exact List.Perm.refl _
  all_goals first
    | exact ⟨h1, h2, h3⟩
    | exact ⟨⟨h1, h2, h3⟩, h4, h5⟩
    | (exfalso; simp only [gt_iff_lt, decide_eq_true_eq, decide_eq_false_iff_not, beq_iff_eq, beq_eq_false_iff_ne, ne_eq, Bool.not_eq_true] at *; omega)
    | trace_state
theorem atc_ok : sAt.OK XQ4.P 23 := .of_eq XQ4_ok 60 _ atc_eq (fun _ => rfl) (fun _ _ o h => by cases h) fun p hJ => atc_step p hJ
/-! ### Made -/
structure M5P where
  dr : Int
  st : Int
  R : Nat → Int
  rn : Nat
  Z : Nat → Z3
  zn : Nat
def M5P.ck (p : M5P) : CkP := ⟨pickN p.dr 101, p.st, p.R, p.rn, p.Z, p.zn⟩
structure M5P.fits (p : M5P) : Prop where
  dr : i64 p.dr
  st : i64 p.st
  R : ∀ i, i < p.rn → i64 (p.R i)
  Z : ∀ i, i < p.zn → i64 (p.Z i).a ∧ i64 (p.Z i).b ∧ i64 (p.Z i).c
theorem M5P.fits.ck {p : M5P} (h : p.fits) : p.ck.fits := by
  have hd := pickN_b h.dr (n := 101) (by omega)
  exact ⟨(by show 0 ≤ pickN p.dr 101 ∧ pickN p.dr 101 ≤ 100; omega), h.st, h.R, h.Z⟩
def addV (V : Nat → Rd) (k : Nat) (x : Rd) : Nat → Rd := fun i => ⟨bif decide (i < k) then (V i).loc else x.loc, bif decide (i < k) then (V i).low else x.low, bif decide (i < k) then (V i).high else x.high⟩
theorem addV_lt {V : Nat → Rd} {k j : Nat} {x : Rd} (h : j < k) : addV V k x j = V j := by simp [addV, h]
theorem addV_self {V : Nat → Rd} {k : Nat} {x : Rd} : addV V k x k = x := by simp [addV]
def repL (l : List Rd) (k : Nat) (V : Nat → Rd) : Prop := k = l.length ∧ ∀ j, j < k → V j = l.getD j ⟨0, 0, 0⟩
structure MiP where
  p : M5P
  t : Nat
structure MiD where
  i : Nat
  k : Nat
  V : Nat → Rd
def zerO : Option SO := some (.arr true 1 2 59 fun _ => [iv 0, .nils])
noncomputable def heapI5 (p : M5P) (k : Nat) (V : Nat → Rd) : Heap := [some (intsO p.rn p.R), some (zO p.zn p.Z), zerO, some (.arr true 1 2 59 fun _ => [iv (pickN p.dr 101), .osl 5 k]), none, some (.arr true k 3 98 fun i => (V i).cells)]
noncomputable def heapO5 (p : M5P) (k : Nat) (V : Nat → Rd) : Heap := [some (intsO p.rn p.R), some (zO p.zn p.Z), zerO, some (.arr true 1 2 59 fun _ => [iv (pickN p.dr 101), .osl 4 k]), some (.arr true k 3 98 fun i => (V i).cells)]
def rdsAt (h : Heap) : Option (Nat × Nat × (Nat → Rd)) := match arrOf h 3 with
  | some (_, g) => match g 0 with
    | [_, .osl lo k] => match arrOf h lo with
      | some (_, V) => some (lo, k, fun i => Rd.ofC (V i))
      | none => none
    | _ => none
  | none => none
def tk5 (p : M5P) (t : Int) : List (Nat × SV) := [(0, iv p.dr), (1, iv p.st), (2, .sl 0 0 p.rn), (3, .sl 1 0 p.zn), (8, .ptr 2 0 0), (9, .ptr 3 0 0), (10, iv t)]
def app5 (p : MiP) (d : MiD) : Prop := pickN (p.p.Z d.i).a 3000 = p.t ∧ (d.k = 0 ∨ (d.V (d.k - 1)).loc < shown (pickN p.p.dr 101) p.p.st p.p.R p.p.rn p.t)
def lI5_J (p : MiP) (d : MiD) : Prop := p.p.fits ∧ p.t < 3000 ∧ d.i ≤ min p.p.zn 12 ∧ repL (inL p.p.ck p.t (outL p.p.ck p.t) d.i) d.k d.V
noncomputable def lI5 : LSpec MiP MiD MiD where
  code := loopOf Try.prog 22 6
  N := 5
  I := fun p d => blank 86 (tk5 p.p p.t ++ [(11, iv d.i)]) (heapI5 p.p d.k d.V)
  J := lI5_J
  ways := 1
  E := fun w p d => (.exit 2, blank 86 (tk5 p.p p.t) (heapI5 p.p d.k d.V))
  JE := fun w p d => Leaf (repL (outL p.p.ck (p.t + 1)) d.k d.V)
noncomputable def zI5 (p : MiP) (d : MiD) : KX := fun x S' => match x with
  | .normal => match rdsAt S'.heap with
    | some (lo, k, V) => Leaf (d.i < p.p.zn ∧ d.i < 12) ∧ Leaf ((k = d.k ∧ V = d.V ∧ ¬ app5 p d) ∨ (k = d.k + 1 ∧ V = addV d.V d.k (mkRd p.p.ck p.t d.i) ∧ app5 p d)) ∧ Wk 5 [some lo] (lI5.I p ⟨d.i + 1, k, V⟩) S'
    | none => False
  | .exit j => gateB (Nat.beq j 2) (Leaf (p.p.zn ≤ d.i ∨ 12 ≤ d.i) ∧ Wk 5 [some 5] (lI5.E 0 p d).2 S')
  | .ret => Leaf False
def exM5 (S : SS) : Option M5P := match S.get 0, S.get 1, S.get 2, S.get 3, arrOf S.heap 0, arrOf S.heap 1 with
  | .int _ dr, .int _ st, .sl _ _ rn, .sl _ _ zn, some (_, R), some (_, Z) => some ⟨dr, st, fun i => intOf (R i), rn, fun i => (match Z i with | [.int _ u, .int _ v, .int _ w] => ⟨u, v, w⟩ | _ => ⟨0, 0, 0⟩), zn⟩
  | _, _, _, _, _, _ => none
def exI5 (S : SS) : Option (MiP × MiD × Ren) := match exM5 S, S.get 10, rdsAt S.heap with
  | some p, .int _ t, some (lo, k, V) => some (⟨p, t.toNat⟩, ⟨0, k, V⟩, [some lo])
  | _, _, _ => none
structure MoD where
  t : Nat
  k : Nat
  V : Nat → Rd
def rd5_J (p : M5P) : List Rd := outL p.ck 3000
def lO5_J (p : M5P) (d : MoD) : Prop := p.fits ∧ d.t ≤ 3000 ∧ repL (outL p.ck d.t) d.k d.V
noncomputable def lO5 : LSpec M5P MoD MoD where
  code := loopOf Try.prog 22 3
  N := 4
  I := fun p d => blank 86 (tk5 p d.t) (heapO5 p d.k d.V)
  J := lO5_J
  ways := 1
  E := fun w p d => (.exit 0, blank 86 [(8, .ptr 2 0 0), (9, .ptr 3 0 0)] (heapO5 p d.k d.V))
  JE := fun w p d => Leaf (repL (rd5_J p) d.k d.V)
noncomputable def zO5 (p : M5P) (d : MoD) : KX := fun x S' => match x with
  | .normal => match rdsAt S'.heap with
    | some (lo, k, V) => Leaf (d.t < 3000) ∧ Leaf (repL (outL p.ck (d.t + 1)) k V) ∧ Wk 4 [some lo] (lO5.I p ⟨d.t + 1, k, V⟩) S'
    | none => False
  | .exit j => gateB (Nat.beq j 0) (Leaf (3000 ≤ d.t) ∧ Wk 4 [some 4] (lO5.E 0 p d).2 S')
  | .ret => Leaf False
def exO5 (S : SS) : Option (M5P × MoD × Ren) := match exM5 S with
  | some p => some (p, ⟨0, 0, fun _ => ⟨0, 0, 0⟩⟩, [none])
  | none => none
noncomputable def XQ5 : Ctx := XQ4.with 23 (sAt.by exClk)
theorem XQ5_ok : XQ5.OK := Ctx.with_ok XQ4_ok (atc_ok.by exClk)
end Go.Proofs.Ytmcidfecepknpaa

namespace Go.Proofs.Ytmcidfecepknpaa
open Go Go.Sh Go.Proofs
set_option linter.unusedVariables false
set_option linter.unusedSimpArgs false
def i5loop_t0 (p : MiP) (d : MiD) : Prop :=
  (0 : Nat) = (0 : Nat) ∧ ((p.1.5 ((0 : Nat) + d.1)).1 = (p.1.5 ((0 : Nat) + d.1)).1 ∧ (3000 : Int) = (3000 : Int) ∧ True) ∧ True
theorem i5loop_t0_t (p : MiP) (d : MiD) : i5loop_t0 p d :=
  ⟨rfl, ⟨⟨rfl, ⟨rfl, trivial⟩⟩, trivial⟩⟩
def i5loop_t1 (p : MiP) : Prop :=
  (0 : Nat) = (0 : Nat) ∧ p.1.4 = p.1.4
theorem i5loop_t1_t (p : MiP) : i5loop_t1 p :=
  ⟨rfl, rfl⟩
def i5loop_t2 (p : MiP) : Prop :=
  (0 : Nat) = (0 : Nat) ∧ p.1.6 = p.1.6
theorem i5loop_t2_t (p : MiP) : i5loop_t2 p :=
  ⟨rfl, rfl⟩
def i5loop_t3 : Prop :=
  (0 : Nat) = (0 : Nat) ∧ (0 : Nat) = (0 : Nat)
theorem i5loop_t3_t : i5loop_t3 :=
  ⟨rfl, rfl⟩
def i5loop_t4 (p : MiP) (d : MiD) : Prop :=
  (p.1.4 = p.1.4 ∧ ∀ (i : Nat), i < p.1.rn → p.1.3 i = p.1.3 i ∧ True) ∧ (p.1.6 = p.1.6 ∧ ∀ (i : Nat), i < p.1.zn → (p.1.5 i).1 = (p.1.5 i).1 ∧ (p.1.5 i).2 = (p.1.5 i).2 ∧ (p.1.5 i).3 = (p.1.5 i).3 ∧ True) ∧ ((1 : Nat) = (1 : Nat) ∧ ∀ (i : Nat), i < (1 : Nat) → (0 : Int) = (0 : Int) ∧ True ∧ True) ∧ ((1 : Nat) = (1 : Nat) ∧ ∀ (i : Nat), i < (1 : Nat) → pickN p.1.1 (101 : Int) = pickN p.1.1 (101 : Int) ∧ d.2 = d.2 ∧ True) ∧ (d.2 = d.2 ∧ ∀ (i : Nat), i < d.2 → (d.3 i).1 = (d.3 i).1 ∧ (d.3 i).2 = (d.3 i).2 ∧ (d.3 i).3 = (d.3 i).3 ∧ True) ∧ True
theorem i5loop_t4_t (p : MiP) (d : MiD) : i5loop_t4 p d :=
  ⟨⟨rfl, (fun _ => (fun _ => ⟨rfl, trivial⟩))⟩, ⟨⟨rfl, (fun _ => (fun _ => ⟨rfl, ⟨rfl, ⟨rfl, trivial⟩⟩⟩))⟩, ⟨⟨rfl, (fun _ => (fun _ => ⟨rfl, ⟨trivial, trivial⟩⟩))⟩, ⟨⟨rfl, (fun _ => (fun _ => ⟨rfl, ⟨rfl, trivial⟩⟩))⟩, ⟨⟨rfl, (fun _ => (fun _ => ⟨rfl, ⟨rfl, ⟨rfl, trivial⟩⟩⟩))⟩, trivial⟩⟩⟩⟩⟩
def i5loop_t5 (p : MiP) : Prop :=
  (1 : Nat) = (1 : Nat) ∧ (p.1.1 = p.1.1 ∧ p.1.2 = p.1.2 ∧ ((0 : Nat) = (0 : Nat) ∧ p.1.4 = p.1.4) ∧ Int.ofNat p.2 = Int.ofNat p.2 ∧ True) ∧ (p.1.4 = p.1.4 ∧ ∀ (i : Nat), i < p.1.4 → p.1.3 i = p.1.3 i ∧ True) ∧ True
theorem i5loop_t5_t (p : MiP) : i5loop_t5 p :=
  ⟨rfl, ⟨⟨rfl, ⟨rfl, ⟨⟨rfl, rfl⟩, ⟨rfl, trivial⟩⟩⟩⟩, ⟨⟨rfl, (fun _ => (fun _ => ⟨rfl, trivial⟩))⟩, trivial⟩⟩⟩
def i5loop_t6 (p : MiP) (d : MiD) : Prop :=
  (0 : Nat) = (0 : Nat) ∧ ((p.1.5 ((0 : Nat) + d.1)).2 = (p.1.5 ((0 : Nat) + d.1)).2 ∧ (51 : Int) = (51 : Int) ∧ True) ∧ True
theorem i5loop_t6_t (p : MiP) (d : MiD) : i5loop_t6 p d :=
  ⟨rfl, ⟨⟨rfl, ⟨rfl, trivial⟩⟩, trivial⟩⟩
def i5loop_t7 (p : MiP) (d : MiD) : Prop :=
  (0 : Nat) = (0 : Nat) ∧ ((p.1.5 ((0 : Nat) + d.1)).3 = (p.1.5 ((0 : Nat) + d.1)).3 ∧ (51 : Int) = (51 : Int) ∧ True) ∧ True
theorem i5loop_t7_t (p : MiP) (d : MiD) : i5loop_t7 p d :=
  ⟨rfl, ⟨⟨rfl, ⟨rfl, trivial⟩⟩, trivial⟩⟩
def i5loop_t8 (p : MiP) (d : MiD) : Prop :=
  (p.1.4 = p.1.4 ∧ ∀ (i : Nat), i < p.1.rn → p.1.3 i = p.1.3 i ∧ True) ∧ (p.1.6 = p.1.6 ∧ ∀ (i : Nat), i < p.1.zn → (p.1.5 i).1 = (p.1.5 i).1 ∧ (p.1.5 i).2 = (p.1.5 i).2 ∧ (p.1.5 i).3 = (p.1.5 i).3 ∧ True) ∧ ((1 : Nat) = (1 : Nat) ∧ ∀ (i : Nat), i < (1 : Nat) → (0 : Int) = (0 : Int) ∧ True ∧ True) ∧ ((1 : Nat) = (1 : Nat) ∧ ∀ (i : Nat), i < (1 : Nat) → pickN p.1.1 (101 : Int) = pickN p.1.1 (101 : Int) ∧ d.2 + (1 : Nat) = d.2 + (1 : Nat) ∧ True) ∧ (d.2 + (1 : Nat) = d.2 + (1 : Nat) ∧ ∀ (i : Nat), i < d.2 + (1 : Nat) → ((bif decide (i < d.2) then (d.3 i).1 else shown (pickN p.1.1 (101 : Int)) p.1.2 p.1.3 p.1.4 (Int.ofNat p.2)) = bif decide (i < d.2) then (d.3 i).1 else shown (pickN p.1.1 (101 : Int)) p.1.2 p.1.3 p.1.4 (Int.ofNat p.2)) ∧ ((bif decide (i < d.2) then (d.3 i).2 else if (0 : Int) > IntKind.i64.wrap (Int.ofNat p.2 - pickN (p.1.5 ((0 : Nat) + d.1)).2 (51 : Int)) then (0 : Int) else IntKind.i64.wrap (Int.ofNat p.2 - pickN (p.1.5 ((0 : Nat) + d.1)).2 (51 : Int))) = bif decide (i < d.2) then (d.3 i).2 else if (0 : Int) > IntKind.i64.wrap (Int.ofNat p.2 - pickN (p.1.5 ((0 : Nat) + d.1)).2 (51 : Int)) then (0 : Int) else IntKind.i64.wrap (Int.ofNat p.2 - pickN (p.1.5 ((0 : Nat) + d.1)).2 (51 : Int))) ∧ ((bif decide (i < d.2) then (d.3 i).3 else IntKind.i64.wrap (Int.ofNat p.2 + pickN (p.1.5 ((0 : Nat) + d.1)).3 (51 : Int))) = bif decide (i < d.2) then (d.3 i).3 else IntKind.i64.wrap (Int.ofNat p.2 + pickN (p.1.5 ((0 : Nat) + d.1)).3 (51 : Int))) ∧ True) ∧ True
theorem i5loop_t8_t (p : MiP) (d : MiD) : i5loop_t8 p d :=
  ⟨⟨rfl, (fun _ => (fun _ => ⟨rfl, trivial⟩))⟩, ⟨⟨rfl, (fun _ => (fun _ => ⟨rfl, ⟨rfl, ⟨rfl, trivial⟩⟩⟩))⟩, ⟨⟨rfl, (fun _ => (fun _ => ⟨rfl, ⟨trivial, trivial⟩⟩))⟩, ⟨⟨rfl, (fun _ => (fun _ => ⟨rfl, ⟨rfl, trivial⟩⟩))⟩, ⟨⟨rfl, (fun _ => (fun _ => ⟨rfl, ⟨rfl, ⟨rfl, trivial⟩⟩⟩))⟩, trivial⟩⟩⟩⟩⟩
def i5loop_t9 (p : MiP) (d : MiD) : Prop :=
  (p.1.1 = p.1.1 ∧ p.1.2 = p.1.2 ∧ ((0 : Nat) = (0 : Nat) ∧ p.1.4 = p.1.4) ∧ ((0 : Nat) = (0 : Nat) ∧ p.1.6 = p.1.6) ∧ ((0 : Nat) = (0 : Nat) ∧ (0 : Nat) = (0 : Nat)) ∧ ((0 : Nat) = (0 : Nat) ∧ (0 : Nat) = (0 : Nat)) ∧ Int.ofNat p.2 = Int.ofNat p.2 ∧ True) ∧ (p.1.4 = p.1.4 ∧ ∀ (i : Nat), i < p.1.rn → p.1.3 i = p.1.3 i ∧ True) ∧ (p.1.6 = p.1.6 ∧ ∀ (i : Nat), i < p.1.zn → (p.1.5 i).1 = (p.1.5 i).1 ∧ (p.1.5 i).2 = (p.1.5 i).2 ∧ (p.1.5 i).3 = (p.1.5 i).3 ∧ True) ∧ ((1 : Nat) = (1 : Nat) ∧ ∀ (i : Nat), i < (1 : Nat) → (0 : Int) = (0 : Int) ∧ True ∧ True) ∧ ((1 : Nat) = (1 : Nat) ∧ ∀ (i : Nat), i < (1 : Nat) → pickN p.1.1 (101 : Int) = pickN p.1.1 (101 : Int) ∧ d.2 = d.2 ∧ True) ∧ (d.2 = d.2 ∧ ∀ (i : Nat), i < d.k → (d.3 i).1 = (d.3 i).1 ∧ (d.3 i).2 = (d.3 i).2 ∧ (d.3 i).3 = (d.3 i).3 ∧ True) ∧ True
theorem i5loop_t9_t (p : MiP) (d : MiD) : i5loop_t9 p d :=
  ⟨⟨rfl, ⟨rfl, ⟨⟨rfl, rfl⟩, ⟨⟨rfl, rfl⟩, ⟨⟨rfl, rfl⟩, ⟨⟨rfl, rfl⟩, ⟨rfl, trivial⟩⟩⟩⟩⟩⟩⟩, ⟨⟨rfl, (fun _ => (fun _ => ⟨rfl, trivial⟩))⟩, ⟨⟨rfl, (fun _ => (fun _ => ⟨rfl, ⟨rfl, ⟨rfl, trivial⟩⟩⟩))⟩, ⟨⟨rfl, (fun _ => (fun _ => ⟨rfl, ⟨trivial, trivial⟩⟩))⟩, ⟨⟨rfl, (fun _ => (fun _ => ⟨rfl, ⟨rfl, trivial⟩⟩))⟩, ⟨⟨rfl, (fun _ => (fun _ => ⟨rfl, ⟨rfl, ⟨rfl, trivial⟩⟩⟩))⟩, trivial⟩⟩⟩⟩⟩⟩
def i5loop_T (p : MiP) (d : MiD) : Prop :=
  ifB (decide (Int.ofNat d.1 < Int.ofNat p.1.6) == true) (ifB (decide (Int.ofNat d.1 < (12 : Int))) (ifB (decide (Int.ofNat d.1 < (↑p.1.6 : Int))) (ifB (decide ((0 : Nat) + d.1 < p.1.6)) (((0 : Int) < (3000 : Int) ∧ i5loop_t0 p d) ∧ ifB (pickN (p.1.5 ((0 : Nat) + d.1)).1 (3000 : Int) != Int.ofNat p.2) (Leaf (d.i < p.p.zn ∧ d.i < (12 : Nat)) ∧ Leaf (d.2 = d.k ∧ d.3 = d.V ∧ ¬app5 p d ∨ d.2 = d.k + (1 : Nat) ∧ d.3 = addV d.V d.k (mkRd p.p.ck (↑p.t : Int) d.i) ∧ app5 p d) ∧ (p.1.1 = p.1.1 ∧ p.1.2 = p.1.2 ∧ i5loop_t1 p ∧ i5loop_t2 p ∧ i5loop_t3 ∧ i5loop_t3 ∧ Int.ofNat p.2 = Int.ofNat p.2 ∧ Int.ofNat (d.1 + (1 : Nat)) = IntKind.i64.wrap (Int.ofNat (d.1 + (1 : Nat))) ∧ True) ∧ i5loop_t4 p d) (ifB (decide (Int.ofNat d.1 < (↑p.1.6 : Int))) (ifB (decide ((0 : Nat) + d.1 < p.1.6)) (ifB (decide (Int.ofNat d.1 < (↑p.1.6 : Int))) (ifB (decide ((0 : Nat) + d.1 < p.1.6)) (((sShown_J { dr := p.1.1, st := p.1.2, R := p.1.3, rn := p.1.4, t := Int.ofNat p.2 : ShP } ∧ i5loop_t5 p) ∧ (((0 : Int) < (51 : Int) ∧ i5loop_t6 p d) ∧ (((0 : Int) < (51 : Int) ∧ i5loop_t7 p d) ∧ ifB ((Int.ofNat d.2 == (0 : Int)) == false) (ifB (decide ((0 : Int) ≤ IntKind.i64.wrap (Int.ofNat d.2 - (1 : Int))) && decide (IntKind.i64.wrap (Int.ofNat d.2 - (1 : Int)) < (↑d.2 : Int))) (ifB (decide ((IntKind.i64.wrap (Int.ofNat d.2 - (1 : Int))).toNat < d.2)) (ifB (decide ((d.3 (IntKind.i64.wrap (Int.ofNat d.2 - (1 : Int))).toNat).1 < shown (pickN p.1.1 (101 : Int)) p.1.2 p.1.3 p.1.4 (Int.ofNat p.2))) (ifB (decide (d.2 ≤ d.2) && decide ((d.2 + (1 : Nat)) * (24 : Nat) ≤ (140737488355328 : Nat))) (Leaf (d.i < p.p.zn ∧ d.i < (12 : Nat)) ∧ Leaf (d.2 + (1 : Nat) = d.k ∧ (fun (i : Nat) => { loc := bif decide (i < d.2) then (d.3 i).1 else shown (pickN p.1.1 (101 : Int)) p.1.2 p.1.3 p.1.4 (Int.ofNat p.2), low := bif decide (i < d.2) then (d.3 i).2 else if (0 : Int) > IntKind.i64.wrap (Int.ofNat p.2 - pickN (p.1.5 ((0 : Nat) + d.1)).2 (51 : Int)) then (0 : Int) else IntKind.i64.wrap (Int.ofNat p.2 - pickN (p.1.5 ((0 : Nat) + d.1)).2 (51 : Int)), high := bif decide (i < d.2) then (d.3 i).3 else IntKind.i64.wrap (Int.ofNat p.2 + pickN (p.1.5 ((0 : Nat) + d.1)).3 (51 : Int)) : Rd }) = d.V ∧ ¬app5 p d ∨ d.2 + (1 : Nat) = d.k + (1 : Nat) ∧ (fun (i : Nat) => { loc := bif decide (i < d.2) then (d.3 i).1 else shown (pickN p.1.1 (101 : Int)) p.1.2 p.1.3 p.1.4 (Int.ofNat p.2), low := bif decide (i < d.2) then (d.3 i).2 else if (0 : Int) > IntKind.i64.wrap (Int.ofNat p.2 - pickN (p.1.5 ((0 : Nat) + d.1)).2 (51 : Int)) then (0 : Int) else IntKind.i64.wrap (Int.ofNat p.2 - pickN (p.1.5 ((0 : Nat) + d.1)).2 (51 : Int)), high := bif decide (i < d.2) then (d.3 i).3 else IntKind.i64.wrap (Int.ofNat p.2 + pickN (p.1.5 ((0 : Nat) + d.1)).3 (51 : Int)) : Rd }) = addV d.V d.k (mkRd p.p.ck (↑p.t : Int) d.i) ∧ app5 p d) ∧ (p.1.1 = p.1.1 ∧ p.1.2 = p.1.2 ∧ i5loop_t1 p ∧ i5loop_t2 p ∧ i5loop_t3 ∧ i5loop_t3 ∧ Int.ofNat p.2 = Int.ofNat p.2 ∧ Int.ofNat (d.1 + (1 : Nat)) = IntKind.i64.wrap (Int.ofNat (d.1 + (1 : Nat))) ∧ True) ∧ i5loop_t8 p d) False) (Leaf (d.i < p.p.zn ∧ d.i < (12 : Nat)) ∧ Leaf (d.2 = d.k ∧ d.3 = d.V ∧ ¬app5 p d ∨ d.2 = d.k + (1 : Nat) ∧ d.3 = addV d.V d.k (mkRd p.p.ck (↑p.t : Int) d.i) ∧ app5 p d) ∧ (p.1.1 = p.1.1 ∧ p.1.2 = p.1.2 ∧ i5loop_t1 p ∧ i5loop_t2 p ∧ i5loop_t3 ∧ i5loop_t3 ∧ Int.ofNat p.2 = Int.ofNat p.2 ∧ Int.ofNat (d.1 + (1 : Nat)) = IntKind.i64.wrap (Int.ofNat (d.1 + (1 : Nat))) ∧ True) ∧ i5loop_t4 p d)) False) False) (ifB (decide (d.2 ≤ d.2) && decide ((d.2 + (1 : Nat)) * (24 : Nat) ≤ (140737488355328 : Nat))) (Leaf (d.i < p.p.zn ∧ d.i < (12 : Nat)) ∧ Leaf (d.2 + (1 : Nat) = d.k ∧ (fun (i : Nat) => { loc := bif decide (i < d.2) then (d.3 i).1 else shown (pickN p.1.1 (101 : Int)) p.1.2 p.1.3 p.1.4 (Int.ofNat p.2), low := bif decide (i < d.2) then (d.3 i).2 else if (0 : Int) > IntKind.i64.wrap (Int.ofNat p.2 - pickN (p.1.5 ((0 : Nat) + d.1)).2 (51 : Int)) then (0 : Int) else IntKind.i64.wrap (Int.ofNat p.2 - pickN (p.1.5 ((0 : Nat) + d.1)).2 (51 : Int)), high := bif decide (i < d.2) then (d.3 i).3 else IntKind.i64.wrap (Int.ofNat p.2 + pickN (p.1.5 ((0 : Nat) + d.1)).3 (51 : Int)) : Rd }) = d.V ∧ ¬app5 p d ∨ d.2 + (1 : Nat) = d.k + (1 : Nat) ∧ (fun (i : Nat) => { loc := bif decide (i < d.2) then (d.3 i).1 else shown (pickN p.1.1 (101 : Int)) p.1.2 p.1.3 p.1.4 (Int.ofNat p.2), low := bif decide (i < d.2) then (d.3 i).2 else if (0 : Int) > IntKind.i64.wrap (Int.ofNat p.2 - pickN (p.1.5 ((0 : Nat) + d.1)).2 (51 : Int)) then (0 : Int) else IntKind.i64.wrap (Int.ofNat p.2 - pickN (p.1.5 ((0 : Nat) + d.1)).2 (51 : Int)), high := bif decide (i < d.2) then (d.3 i).3 else IntKind.i64.wrap (Int.ofNat p.2 + pickN (p.1.5 ((0 : Nat) + d.1)).3 (51 : Int)) : Rd }) = addV d.V d.k (mkRd p.p.ck (↑p.t : Int) d.i) ∧ app5 p d) ∧ (p.1.1 = p.1.1 ∧ p.1.2 = p.1.2 ∧ i5loop_t1 p ∧ i5loop_t2 p ∧ i5loop_t3 ∧ i5loop_t3 ∧ Int.ofNat p.2 = Int.ofNat p.2 ∧ Int.ofNat (d.1 + (1 : Nat)) = IntKind.i64.wrap (Int.ofNat (d.1 + (1 : Nat))) ∧ True) ∧ i5loop_t8 p d) False)) ∧ ((0 : Int) < (51 : Int) ∧ i5loop_t7 p d) ∧ ifB ((Int.ofNat d.2 == (0 : Int)) == false) (ifB (decide ((0 : Int) ≤ IntKind.i64.wrap (Int.ofNat d.2 - (1 : Int))) && decide (IntKind.i64.wrap (Int.ofNat d.2 - (1 : Int)) < (↑d.2 : Int))) (ifB (decide ((IntKind.i64.wrap (Int.ofNat d.2 - (1 : Int))).toNat < d.2)) (ifB (decide ((d.3 (IntKind.i64.wrap (Int.ofNat d.2 - (1 : Int))).toNat).1 < shown (pickN p.1.1 (101 : Int)) p.1.2 p.1.3 p.1.4 (Int.ofNat p.2))) (ifB (decide (d.2 ≤ d.2) && decide ((d.2 + (1 : Nat)) * (24 : Nat) ≤ (140737488355328 : Nat))) (Leaf (d.i < p.p.zn ∧ d.i < (12 : Nat)) ∧ Leaf (d.2 + (1 : Nat) = d.k ∧ (fun (i : Nat) => { loc := bif decide (i < d.2) then (d.3 i).1 else shown (pickN p.1.1 (101 : Int)) p.1.2 p.1.3 p.1.4 (Int.ofNat p.2), low := bif decide (i < d.2) then (d.3 i).2 else if (0 : Int) > IntKind.i64.wrap (Int.ofNat p.2 - pickN (p.1.5 ((0 : Nat) + d.1)).2 (51 : Int)) then (0 : Int) else IntKind.i64.wrap (Int.ofNat p.2 - pickN (p.1.5 ((0 : Nat) + d.1)).2 (51 : Int)), high := bif decide (i < d.2) then (d.3 i).3 else IntKind.i64.wrap (Int.ofNat p.2 + pickN (p.1.5 ((0 : Nat) + d.1)).3 (51 : Int)) : Rd }) = d.V ∧ ¬app5 p d ∨ d.2 + (1 : Nat) = d.k + (1 : Nat) ∧ (fun (i : Nat) => { loc := bif decide (i < d.2) then (d.3 i).1 else shown (pickN p.1.1 (101 : Int)) p.1.2 p.1.3 p.1.4 (Int.ofNat p.2), low := bif decide (i < d.2) then (d.3 i).2 else if (0 : Int) > IntKind.i64.wrap (Int.ofNat p.2 - pickN (p.1.5 ((0 : Nat) + d.1)).2 (51 : Int)) then (0 : Int) else IntKind.i64.wrap (Int.ofNat p.2 - pickN (p.1.5 ((0 : Nat) + d.1)).2 (51 : Int)), high := bif decide (i < d.2) then (d.3 i).3 else IntKind.i64.wrap (Int.ofNat p.2 + pickN (p.1.5 ((0 : Nat) + d.1)).3 (51 : Int)) : Rd }) = addV d.V d.k (mkRd p.p.ck (↑p.t : Int) d.i) ∧ app5 p d) ∧ (p.1.1 = p.1.1 ∧ p.1.2 = p.1.2 ∧ i5loop_t1 p ∧ i5loop_t2 p ∧ i5loop_t3 ∧ i5loop_t3 ∧ Int.ofNat p.2 = Int.ofNat p.2 ∧ Int.ofNat (d.1 + (1 : Nat)) = IntKind.i64.wrap (Int.ofNat (d.1 + (1 : Nat))) ∧ True) ∧ i5loop_t8 p d) False) (Leaf (d.i < p.p.zn ∧ d.i < (12 : Nat)) ∧ Leaf (d.2 = d.k ∧ d.3 = d.V ∧ ¬app5 p d ∨ d.2 = d.k + (1 : Nat) ∧ d.3 = addV d.V d.k (mkRd p.p.ck (↑p.t : Int) d.i) ∧ app5 p d) ∧ (p.1.1 = p.1.1 ∧ p.1.2 = p.1.2 ∧ i5loop_t1 p ∧ i5loop_t2 p ∧ i5loop_t3 ∧ i5loop_t3 ∧ Int.ofNat p.2 = Int.ofNat p.2 ∧ Int.ofNat (d.1 + (1 : Nat)) = IntKind.i64.wrap (Int.ofNat (d.1 + (1 : Nat))) ∧ True) ∧ i5loop_t4 p d)) False) False) (ifB (decide (d.2 ≤ d.2) && decide ((d.2 + (1 : Nat)) * (24 : Nat) ≤ (140737488355328 : Nat))) (Leaf (d.i < p.p.zn ∧ d.i < (12 : Nat)) ∧ Leaf (d.2 + (1 : Nat) = d.k ∧ (fun (i : Nat) => { loc := bif decide (i < d.2) then (d.3 i).1 else shown (pickN p.1.1 (101 : Int)) p.1.2 p.1.3 p.1.4 (Int.ofNat p.2), low := bif decide (i < d.2) then (d.3 i).2 else if (0 : Int) > IntKind.i64.wrap (Int.ofNat p.2 - pickN (p.1.5 ((0 : Nat) + d.1)).2 (51 : Int)) then (0 : Int) else IntKind.i64.wrap (Int.ofNat p.2 - pickN (p.1.5 ((0 : Nat) + d.1)).2 (51 : Int)), high := bif decide (i < d.2) then (d.3 i).3 else IntKind.i64.wrap (Int.ofNat p.2 + pickN (p.1.5 ((0 : Nat) + d.1)).3 (51 : Int)) : Rd }) = d.V ∧ ¬app5 p d ∨ d.2 + (1 : Nat) = d.k + (1 : Nat) ∧ (fun (i : Nat) => { loc := bif decide (i < d.2) then (d.3 i).1 else shown (pickN p.1.1 (101 : Int)) p.1.2 p.1.3 p.1.4 (Int.ofNat p.2), low := bif decide (i < d.2) then (d.3 i).2 else if (0 : Int) > IntKind.i64.wrap (Int.ofNat p.2 - pickN (p.1.5 ((0 : Nat) + d.1)).2 (51 : Int)) then (0 : Int) else IntKind.i64.wrap (Int.ofNat p.2 - pickN (p.1.5 ((0 : Nat) + d.1)).2 (51 : Int)), high := bif decide (i < d.2) then (d.3 i).3 else IntKind.i64.wrap (Int.ofNat p.2 + pickN (p.1.5 ((0 : Nat) + d.1)).3 (51 : Int)) : Rd }) = addV d.V d.k (mkRd p.p.ck (↑p.t : Int) d.i) ∧ app5 p d) ∧ (p.1.1 = p.1.1 ∧ p.1.2 = p.1.2 ∧ i5loop_t1 p ∧ i5loop_t2 p ∧ i5loop_t3 ∧ i5loop_t3 ∧ Int.ofNat p.2 = Int.ofNat p.2 ∧ Int.ofNat (d.1 + (1 : Nat)) = IntKind.i64.wrap (Int.ofNat (d.1 + (1 : Nat))) ∧ True) ∧ i5loop_t8 p d) False)) ∧ ((0 : Int) < (51 : Int) ∧ i5loop_t6 p d) ∧ ((0 : Int) < (51 : Int) ∧ i5loop_t7 p d) ∧ ifB ((Int.ofNat d.2 == (0 : Int)) == false) (ifB (decide ((0 : Int) ≤ IntKind.i64.wrap (Int.ofNat d.2 - (1 : Int))) && decide (IntKind.i64.wrap (Int.ofNat d.2 - (1 : Int)) < (↑d.2 : Int))) (ifB (decide ((IntKind.i64.wrap (Int.ofNat d.2 - (1 : Int))).toNat < d.2)) (ifB (decide ((d.3 (IntKind.i64.wrap (Int.ofNat d.2 - (1 : Int))).toNat).1 < shown (pickN p.1.1 (101 : Int)) p.1.2 p.1.3 p.1.4 (Int.ofNat p.2))) (ifB (decide (d.2 ≤ d.2) && decide ((d.2 + (1 : Nat)) * (24 : Nat) ≤ (140737488355328 : Nat))) (Leaf (d.i < p.p.zn ∧ d.i < (12 : Nat)) ∧ Leaf (d.2 + (1 : Nat) = d.k ∧ (fun (i : Nat) => { loc := bif decide (i < d.2) then (d.3 i).1 else shown (pickN p.1.1 (101 : Int)) p.1.2 p.1.3 p.1.4 (Int.ofNat p.2), low := bif decide (i < d.2) then (d.3 i).2 else if (0 : Int) > IntKind.i64.wrap (Int.ofNat p.2 - pickN (p.1.5 ((0 : Nat) + d.1)).2 (51 : Int)) then (0 : Int) else IntKind.i64.wrap (Int.ofNat p.2 - pickN (p.1.5 ((0 : Nat) + d.1)).2 (51 : Int)), high := bif decide (i < d.2) then (d.3 i).3 else IntKind.i64.wrap (Int.ofNat p.2 + pickN (p.1.5 ((0 : Nat) + d.1)).3 (51 : Int)) : Rd }) = d.V ∧ ¬app5 p d ∨ d.2 + (1 : Nat) = d.k + (1 : Nat) ∧ (fun (i : Nat) => { loc := bif decide (i < d.2) then (d.3 i).1 else shown (pickN p.1.1 (101 : Int)) p.1.2 p.1.3 p.1.4 (Int.ofNat p.2), low := bif decide (i < d.2) then (d.3 i).2 else if (0 : Int) > IntKind.i64.wrap (Int.ofNat p.2 - pickN (p.1.5 ((0 : Nat) + d.1)).2 (51 : Int)) then (0 : Int) else IntKind.i64.wrap (Int.ofNat p.2 - pickN (p.1.5 ((0 : Nat) + d.1)).2 (51 : Int)), high := bif decide (i < d.2) then (d.3 i).3 else IntKind.i64.wrap (Int.ofNat p.2 + pickN (p.1.5 ((0 : Nat) + d.1)).3 (51 : Int)) : Rd }) = addV d.V d.k (mkRd p.p.ck (↑p.t : Int) d.i) ∧ app5 p d) ∧ (p.1.1 = p.1.1 ∧ p.1.2 = p.1.2 ∧ i5loop_t1 p ∧ i5loop_t2 p ∧ i5loop_t3 ∧ i5loop_t3 ∧ Int.ofNat p.2 = Int.ofNat p.2 ∧ Int.ofNat (d.1 + (1 : Nat)) = IntKind.i64.wrap (Int.ofNat (d.1 + (1 : Nat))) ∧ True) ∧ i5loop_t8 p d) False) (Leaf (d.i < p.p.zn ∧ d.i < (12 : Nat)) ∧ Leaf (d.2 = d.k ∧ d.3 = d.V ∧ ¬app5 p d ∨ d.2 = d.k + (1 : Nat) ∧ d.3 = addV d.V d.k (mkRd p.p.ck (↑p.t : Int) d.i) ∧ app5 p d) ∧ (p.1.1 = p.1.1 ∧ p.1.2 = p.1.2 ∧ i5loop_t1 p ∧ i5loop_t2 p ∧ i5loop_t3 ∧ i5loop_t3 ∧ Int.ofNat p.2 = Int.ofNat p.2 ∧ Int.ofNat (d.1 + (1 : Nat)) = IntKind.i64.wrap (Int.ofNat (d.1 + (1 : Nat))) ∧ True) ∧ i5loop_t4 p d)) False) False) (ifB (decide (d.2 ≤ d.2) && decide ((d.2 + (1 : Nat)) * (24 : Nat) ≤ (140737488355328 : Nat))) (Leaf (d.i < p.p.zn ∧ d.i < (12 : Nat)) ∧ Leaf (d.2 + (1 : Nat) = d.k ∧ (fun (i : Nat) => { loc := bif decide (i < d.2) then (d.3 i).1 else shown (pickN p.1.1 (101 : Int)) p.1.2 p.1.3 p.1.4 (Int.ofNat p.2), low := bif decide (i < d.2) then (d.3 i).2 else if (0 : Int) > IntKind.i64.wrap (Int.ofNat p.2 - pickN (p.1.5 ((0 : Nat) + d.1)).2 (51 : Int)) then (0 : Int) else IntKind.i64.wrap (Int.ofNat p.2 - pickN (p.1.5 ((0 : Nat) + d.1)).2 (51 : Int)), high := bif decide (i < d.2) then (d.3 i).3 else IntKind.i64.wrap (Int.ofNat p.2 + pickN (p.1.5 ((0 : Nat) + d.1)).3 (51 : Int)) : Rd }) = d.V ∧ ¬app5 p d ∨ d.2 + (1 : Nat) = d.k + (1 : Nat) ∧ (fun (i : Nat) => { loc := bif decide (i < d.2) then (d.3 i).1 else shown (pickN p.1.1 (101 : Int)) p.1.2 p.1.3 p.1.4 (Int.ofNat p.2), low := bif decide (i < d.2) then (d.3 i).2 else if (0 : Int) > IntKind.i64.wrap (Int.ofNat p.2 - pickN (p.1.5 ((0 : Nat) + d.1)).2 (51 : Int)) then (0 : Int) else IntKind.i64.wrap (Int.ofNat p.2 - pickN (p.1.5 ((0 : Nat) + d.1)).2 (51 : Int)), high := bif decide (i < d.2) then (d.3 i).3 else IntKind.i64.wrap (Int.ofNat p.2 + pickN (p.1.5 ((0 : Nat) + d.1)).3 (51 : Int)) : Rd }) = addV d.V d.k (mkRd p.p.ck (↑p.t : Int) d.i) ∧ app5 p d) ∧ (p.1.1 = p.1.1 ∧ p.1.2 = p.1.2 ∧ i5loop_t1 p ∧ i5loop_t2 p ∧ i5loop_t3 ∧ i5loop_t3 ∧ Int.ofNat p.2 = Int.ofNat p.2 ∧ Int.ofNat (d.1 + (1 : Nat)) = IntKind.i64.wrap (Int.ofNat (d.1 + (1 : Nat))) ∧ True) ∧ i5loop_t8 p d) False)) ∧ (sShown_J { dr := p.1.1, st := p.1.2, R := p.1.3, rn := p.1.4, t := Int.ofNat p.2 : ShP } ∧ i5loop_t5 p) ∧ ((0 : Int) < (51 : Int) ∧ i5loop_t6 p d) ∧ ((0 : Int) < (51 : Int) ∧ i5loop_t7 p d) ∧ ifB ((Int.ofNat d.2 == (0 : Int)) == false) (ifB (decide ((0 : Int) ≤ IntKind.i64.wrap (Int.ofNat d.2 - (1 : Int))) && decide (IntKind.i64.wrap (Int.ofNat d.2 - (1 : Int)) < (↑d.2 : Int))) (ifB (decide ((IntKind.i64.wrap (Int.ofNat d.2 - (1 : Int))).toNat < d.2)) (ifB (decide ((d.3 (IntKind.i64.wrap (Int.ofNat d.2 - (1 : Int))).toNat).1 < shown (pickN p.1.1 (101 : Int)) p.1.2 p.1.3 p.1.4 (Int.ofNat p.2))) (ifB (decide (d.2 ≤ d.2) && decide ((d.2 + (1 : Nat)) * (24 : Nat) ≤ (140737488355328 : Nat))) (Leaf (d.i < p.p.zn ∧ d.i < (12 : Nat)) ∧ Leaf (d.2 + (1 : Nat) = d.k ∧ (fun (i : Nat) => { loc := bif decide (i < d.2) then (d.3 i).1 else shown (pickN p.1.1 (101 : Int)) p.1.2 p.1.3 p.1.4 (Int.ofNat p.2), low := bif decide (i < d.2) then (d.3 i).2 else if (0 : Int) > IntKind.i64.wrap (Int.ofNat p.2 - pickN (p.1.5 ((0 : Nat) + d.1)).2 (51 : Int)) then (0 : Int) else IntKind.i64.wrap (Int.ofNat p.2 - pickN (p.1.5 ((0 : Nat) + d.1)).2 (51 : Int)), high := bif decide (i < d.2) then (d.3 i).3 else IntKind.i64.wrap (Int.ofNat p.2 + pickN (p.1.5 ((0 : Nat) + d.1)).3 (51 : Int)) : Rd }) = d.V ∧ ¬app5 p d ∨ d.2 + (1 : Nat) = d.k + (1 : Nat) ∧ (fun (i : Nat) => { loc := bif decide (i < d.2) then (d.3 i).1 else shown (pickN p.1.1 (101 : Int)) p.1.2 p.1.3 p.1.4 (Int.ofNat p.2), low := bif decide (i < d.2) then (d.3 i).2 else if (0 : Int) > IntKind.i64.wrap (Int.ofNat p.2 - pickN (p.1.5 ((0 : Nat) + d.1)).2 (51 : Int)) then (0 : Int) else IntKind.i64.wrap (Int.ofNat p.2 - pickN (p.1.5 ((0 : Nat) + d.1)).2 (51 : Int)), high := bif decide (i < d.2) then (d.3 i).3 else IntKind.i64.wrap (Int.ofNat p.2 + pickN (p.1.5 ((0 : Nat) + d.1)).3 (51 : Int)) : Rd }) = addV d.V d.k (mkRd p.p.ck (↑p.t : Int) d.i) ∧ app5 p d) ∧ (p.1.1 = p.1.1 ∧ p.1.2 = p.1.2 ∧ i5loop_t1 p ∧ i5loop_t2 p ∧ i5loop_t3 ∧ i5loop_t3 ∧ Int.ofNat p.2 = Int.ofNat p.2 ∧ Int.ofNat (d.1 + (1 : Nat)) = IntKind.i64.wrap (Int.ofNat (d.1 + (1 : Nat))) ∧ True) ∧ i5loop_t8 p d) False) (Leaf (d.i < p.p.zn ∧ d.i < (12 : Nat)) ∧ Leaf (d.2 = d.k ∧ d.3 = d.V ∧ ¬app5 p d ∨ d.2 = d.k + (1 : Nat) ∧ d.3 = addV d.V d.k (mkRd p.p.ck (↑p.t : Int) d.i) ∧ app5 p d) ∧ (p.1.1 = p.1.1 ∧ p.1.2 = p.1.2 ∧ i5loop_t1 p ∧ i5loop_t2 p ∧ i5loop_t3 ∧ i5loop_t3 ∧ Int.ofNat p.2 = Int.ofNat p.2 ∧ Int.ofNat (d.1 + (1 : Nat)) = IntKind.i64.wrap (Int.ofNat (d.1 + (1 : Nat))) ∧ True) ∧ i5loop_t4 p d)) False) False) (ifB (decide (d.2 ≤ d.2) && decide ((d.2 + (1 : Nat)) * (24 : Nat) ≤ (140737488355328 : Nat))) (Leaf (d.i < p.p.zn ∧ d.i < (12 : Nat)) ∧ Leaf (d.2 + (1 : Nat) = d.k ∧ (fun (i : Nat) => { loc := bif decide (i < d.2) then (d.3 i).1 else shown (pickN p.1.1 (101 : Int)) p.1.2 p.1.3 p.1.4 (Int.ofNat p.2), low := bif decide (i < d.2) then (d.3 i).2 else if (0 : Int) > IntKind.i64.wrap (Int.ofNat p.2 - pickN (p.1.5 ((0 : Nat) + d.1)).2 (51 : Int)) then (0 : Int) else IntKind.i64.wrap (Int.ofNat p.2 - pickN (p.1.5 ((0 : Nat) + d.1)).2 (51 : Int)), high := bif decide (i < d.2) then (d.3 i).3 else IntKind.i64.wrap (Int.ofNat p.2 + pickN (p.1.5 ((0 : Nat) + d.1)).3 (51 : Int)) : Rd }) = d.V ∧ ¬app5 p d ∨ d.2 + (1 : Nat) = d.k + (1 : Nat) ∧ (fun (i : Nat) => { loc := bif decide (i < d.2) then (d.3 i).1 else shown (pickN p.1.1 (101 : Int)) p.1.2 p.1.3 p.1.4 (Int.ofNat p.2), low := bif decide (i < d.2) then (d.3 i).2 else if (0 : Int) > IntKind.i64.wrap (Int.ofNat p.2 - pickN (p.1.5 ((0 : Nat) + d.1)).2 (51 : Int)) then (0 : Int) else IntKind.i64.wrap (Int.ofNat p.2 - pickN (p.1.5 ((0 : Nat) + d.1)).2 (51 : Int)), high := bif decide (i < d.2) then (d.3 i).3 else IntKind.i64.wrap (Int.ofNat p.2 + pickN (p.1.5 ((0 : Nat) + d.1)).3 (51 : Int)) : Rd }) = addV d.V d.k (mkRd p.p.ck (↑p.t : Int) d.i) ∧ app5 p d) ∧ (p.1.1 = p.1.1 ∧ p.1.2 = p.1.2 ∧ i5loop_t1 p ∧ i5loop_t2 p ∧ i5loop_t3 ∧ i5loop_t3 ∧ Int.ofNat p.2 = Int.ofNat p.2 ∧ Int.ofNat (d.1 + (1 : Nat)) = IntKind.i64.wrap (Int.ofNat (d.1 + (1 : Nat))) ∧ True) ∧ i5loop_t8 p d) False)) False) False) False) False)) False) False) (Leaf (p.p.zn ≤ d.i ∨ (12 : Nat) ≤ d.i) ∧ i5loop_t9 p d)) (Leaf (p.p.zn ≤ d.i ∨ (12 : Nat) ≤ d.i) ∧ i5loop_t9 p d)
theorem i5loop_eq (p : MiP) (d : MiD) : exec XQ5 60 22 lI5.code (lI5.I p d) (zI5 p d) = i5loop_T p d := by kernel_rfl

set_option maxHeartbeats 4000000 in
theorem i5loop_step (p : MiP) (d : MiD) (hJ : lI5_J p d) : i5loop_T p d := by
  obtain ⟨hf, ht, hi, hr1, hr2⟩ := hJ
  have hl := inL_len hf.ck ht hi
  rw [← hr1] at hl
  clear hr1 hr2
  have hsh : sShown_J ⟨p.p.dr, p.p.st, p.p.R, p.p.rn, Int.ofNat p.t⟩ := ⟨hf.dr, hf.st, hf.R, (by show (0 : Int) ≤ p.t; omega), (by show (p.t : Int) ≤ 3000; omega)⟩
  rcases Nat.lt_or_ge d.i p.p.zn with hlt | hge
  · have hb := pickN_b (hf.Z d.i hlt).2.1 (n := 51) (by omega)
    have hc := pickN_b (hf.Z d.i hlt).2.2 (n := 51) (by omega)
    have a1 : IntKind.i64.wrap (Int.ofNat p.t - pickN (p.p.Z d.i).b 51) = Int.ofNat p.t - pickN (p.p.Z d.i).b 51 := wS (by simp only [Int.ofNat_eq_natCast]; omega) (by simp only [Int.ofNat_eq_natCast]; omega)
    have a2 : IntKind.i64.wrap (Int.ofNat p.t + pickN (p.p.Z d.i).c 51) = Int.ofNat p.t + pickN (p.p.Z d.i).c 51 := wS (by simp only [Int.ofNat_eq_natCast]; omega) (by simp only [Int.ofNat_eq_natCast]; omega)
    have hi12 : d.i ≤ 12 := Nat.le_trans hi (Nat.min_le_right _ _)
    clear hi hf
    rcases Nat.eq_zero_or_pos d.k with hk | hk
    · unfold i5loop_T
      simp only [Nat.zero_add, a1, a2]
      repeat' (first | with_reducible refine ifB_split (fun _ => ?_) (fun _ => ?_) | with_reducible refine And.intro ?_ ?_)
      all_goals try first | with_reducible exact i5loop_t0_t _ _ | with_reducible exact i5loop_t1_t _ | with_reducible exact i5loop_t2_t _ | with_reducible exact i5loop_t3_t | with_reducible exact i5loop_t4_t _ _ | with_reducible exact i5loop_t5_t _ | with_reducible exact i5loop_t6_t _ _ | with_reducible exact i5loop_t7_t _ _ | with_reducible exact i5loop_t8_t _ _ | with_reducible exact i5loop_t9_t _ _ | with_reducible rfl | with_reducible exact trivial | with_reducible exact List.Perm.refl _
      all_goals simp only [Leaf, Nat.zero_add, Int.ofNat_eq_natCast, decide_eq_true_eq, decide_eq_false_iff_not, beq_iff_eq, beq_eq_false_iff_ne, bne_iff_ne, bne_eq_false_iff_eq, ne_eq, Bool.and_eq_true, Bool.not_eq_true', Bool.not_eq_true, Bool.not_eq_false', Bool.and_true, gt_iff_lt, Bool.and_eq_false_iff] at *
      all_goals first
        | (clear hsh; omega)
        | (rw [wrapSmall (by omega) (by omega)]; done)
        | exact hsh
        | exact .inl ⟨by first | rfl | trivial, by first | rfl | trivial, fun h => absurd h.1 (by assumption)⟩
        | (refine .inl ⟨by first | rfl | trivial, by first | rfl | trivial, fun h => ?_⟩
           rcases h.2 with h2 | h2
           · omega
           · contradiction)
        | (refine .inr ⟨by first | rfl | trivial, by first | rfl | trivial, by assumption, ?_⟩
           first
           | (exact .inl (by omega))
           | (exact .inr (by assumption)))
        | trace_state
    · have a3 : IntKind.i64.wrap (Int.ofNat d.k - 1) = ((d.k - 1 : Nat) : Int) := by rw [IntKind.wrap_i64]; simp only [Int.ofNat_eq_natCast]; omega
      unfold i5loop_T
      simp only [Nat.zero_add, a1, a2, a3, Int.toNat_natCast]
      repeat' (first | with_reducible refine ifB_split (fun _ => ?_) (fun _ => ?_) | with_reducible refine And.intro ?_ ?_)
      all_goals try first | with_reducible exact i5loop_t0_t _ _ | with_reducible exact i5loop_t1_t _ | with_reducible exact i5loop_t2_t _ | with_reducible exact i5loop_t3_t | with_reducible exact i5loop_t4_t _ _ | with_reducible exact i5loop_t5_t _ | with_reducible exact i5loop_t6_t _ _ | with_reducible exact i5loop_t7_t _ _ | with_reducible exact i5loop_t8_t _ _ | with_reducible exact i5loop_t9_t _ _ | with_reducible rfl | with_reducible exact trivial | with_reducible exact List.Perm.refl _
      all_goals simp only [Leaf, Nat.zero_add, Int.ofNat_eq_natCast, decide_eq_true_eq, decide_eq_false_iff_not, beq_iff_eq, beq_eq_false_iff_ne, bne_iff_ne, bne_eq_false_iff_eq, ne_eq, Bool.and_eq_true, Bool.not_eq_true', Bool.not_eq_true, Bool.not_eq_false', Bool.and_true, gt_iff_lt, Bool.and_eq_false_iff] at *
      all_goals first
        | (clear hsh; omega)
        | (rw [wrapSmall (by omega) (by omega)]; done)
        | exact hsh
        | exact .inl ⟨by first | rfl | trivial, by first | rfl | trivial, fun h => absurd h.1 (by assumption)⟩
        | (refine .inl ⟨by first | rfl | trivial, by first | rfl | trivial, fun h => ?_⟩
           rcases h.2 with h2 | h2
           · omega
           · contradiction)
        | (refine .inr ⟨by first | rfl | trivial, by first | rfl | trivial, by assumption, ?_⟩
           first
           | (exact .inl (by omega))
           | (exact .inr (by assumption)))
        | trace_state
  · have hi12 : d.i ≤ 12 := Nat.le_trans hi (Nat.min_le_right _ _)
    unfold i5loop_T
    repeat' (first | with_reducible refine ifB_split (fun _ => ?_) (fun _ => ?_) | with_reducible refine And.intro ?_ ?_)
    all_goals try first | with_reducible exact i5loop_t0_t _ _ | with_reducible exact i5loop_t1_t _ | with_reducible exact i5loop_t2_t _ | with_reducible exact i5loop_t3_t | with_reducible exact i5loop_t4_t _ _ | with_reducible exact i5loop_t5_t _ | with_reducible exact i5loop_t6_t _ _ | with_reducible exact i5loop_t7_t _ _ | with_reducible exact i5loop_t8_t _ _ | with_reducible exact i5loop_t9_t _ _ | with_reducible rfl | with_reducible exact trivial | with_reducible exact List.Perm.refl _
    all_goals first
      | (simp only [Leaf]; exact .inl hge)
      | (exfalso; simp only [Int.ofNat_eq_natCast, decide_eq_true_eq, beq_iff_eq] at *; omega)
      | trace_state
set_option maxRecDepth 100000 in
theorem i5loop_ok : LoopOK XQ5.P lI5.code lI5.L := by
  refine lI5.ok XQ5_ok 60 22 (fun p d => p.p.zn - d.i) zI5 (fun _ _ _ => trivial) (fun p d w q hw => ?_) (fun p d S' hJ h => ?_) (fun p d x S' hx hJ h => ?_) fun p d hJ => ?_
  · match w, hw with
    | 0, _ => exact trivial
  · unfold zI5 at h; dsimp only at h
    split at h <;> try exact h.elim
    rename_i lo k V _
    obtain ⟨h1, h2, h3⟩ := h
    simp only [Leaf] at h1 h2
    obtain ⟨j1, j2, j3, j4, j5⟩ := hJ
    refine ⟨_, ⟨d.i + 1, k, V⟩, ?_, ⟨j1, j2, (by show d.i + 1 ≤ min p.p.zn 12; omega), ?_⟩, h3⟩
    · show p.p.zn - (d.i + 1) < p.p.zn - d.i
      omega
    · have hsplit : inL p.p.ck p.t (outL p.p.ck p.t) (d.i + 1) = addR p.p.ck p.t (inL p.p.ck p.t (outL p.p.ck p.t) d.i) d.i := rfl
      rw [hsplit]
      generalize inL p.p.ck p.t (outL p.p.ck p.t) d.i = l at j4 j5 ⊢
      have hcond : app5 p d ↔ (pickN (p.p.ck.Z d.i).a 3000 == (p.t : Int) && (l.length == 0 || decide ((lastRd l).loc < shown p.p.ck.d p.p.ck.st p.p.ck.R p.p.ck.rn p.t))) = true := by
        simp only [Bool.and_eq_true, Bool.or_eq_true, beq_iff_eq, decide_eq_true_eq]
        unfold app5 lastRd
        rw [← j4]
        constructor
        · rintro ⟨g1, g2⟩
          refine ⟨g1, ?_⟩
          rcases Nat.eq_zero_or_pos d.k with h0 | h0
          · exact .inl h0
          · rcases g2 with g2 | g2
            · omega
            · rw [j5 _ (by omega)] at g2; exact .inr g2
        · rintro ⟨g1, g2⟩
          refine ⟨g1, ?_⟩
          rcases Nat.eq_zero_or_pos d.k with h0 | h0
          · exact .inl h0
          · rcases g2 with g2 | g2
            · omega
            · rw [j5 _ (by omega)]; exact .inr g2
      unfold addR
      rcases h2 with ⟨rfl, rfl, h2⟩ | ⟨rfl, rfl, h2⟩
      · rw [Bool.eq_false_iff.2 (fun hh => h2 (hcond.2 hh))]
        exact ⟨j4, j5⟩
      · rw [hcond.1 h2]
        refine ⟨by simp [j4], fun j hj => ?_⟩
        rcases Nat.lt_succ_iff_lt_or_eq.1 (show j < d.k + 1 from hj) with hj | rfl
        · show addV d.V d.k _ j = _
          rw [addV_lt hj, j5 j hj]
          simp only [List.getD, List.getElem?_append_left (show j < l.length by omega)]
        · show addV d.V d.k _ d.k = _
          rw [addV_self]
          simp only [List.getD, j4]
          simp
  · obtain ⟨j1, j2, j3, j4⟩ := hJ
    cases x with
    | normal => exact hx.elim
    | ret => exact (show False from h).elim
    | exit k =>
      obtain ⟨h0, h1, h2⟩ := gateB_spec h
      have h0 := Nat.eq_of_beq_eq_true h0
      subst h0
      simp only [Leaf] at h1
      have hi : d.i = min p.p.zn 12 := by omega
      exact ⟨0, d, _, Nat.lt_succ_self 0, by rw [hi] at j4; exact j4, rfl, h2⟩
  · rw [i5loop_eq]
    exact i5loop_step p d hJ
noncomputable def XQ6 : Ctx := XQ5.loop 22 6 lI5.code (lI5.by exI5)
theorem XQ6_ok : XQ6.OK := Ctx.loop_ok XQ5_ok (i5loop_ok.by exI5)
end Go.Proofs.Ytmcidfecepknpaa

namespace Go.Proofs.Ytmcidfecepknpaa
open Go Go.Sh Go.Proofs
set_option linter.unusedVariables false
set_option linter.unusedSimpArgs false
def o5loop_t0 (p : M5P) (d : MoD) : Prop :=
  (5 : Nat) = (5 : Nat) ∧ True ∧ (p.1 = p.1 ∧ p.2 = p.2 ∧ ((0 : Nat) = (0 : Nat) ∧ p.4 = p.4) ∧ ((0 : Nat) = (0 : Nat) ∧ p.6 = p.6) ∧ ((0 : Nat) = (0 : Nat) ∧ (0 : Nat) = (0 : Nat)) ∧ ((0 : Nat) = (0 : Nat) ∧ (0 : Nat) = (0 : Nat)) ∧ Int.ofNat d.1 = Int.ofNat d.1 ∧ (0 : Int) = (0 : Int) ∧ True) ∧ (p.4 = p.4 ∧ ∀ (i : Nat), i < p.rn → p.3 i = p.3 i ∧ True) ∧ (p.6 = p.6 ∧ ∀ (i : Nat), i < p.zn → (p.5 i).1 = (p.5 i).1 ∧ (p.5 i).2 = (p.5 i).2 ∧ (p.5 i).3 = (p.5 i).3 ∧ True) ∧ ((1 : Nat) = (1 : Nat) ∧ ∀ (i : Nat), i < (1 : Nat) → (0 : Int) = (0 : Int) ∧ True ∧ True) ∧ ((1 : Nat) = (1 : Nat) ∧ ∀ (i : Nat), i < (1 : Nat) → pickN p.1 (101 : Int) = pickN p.1 (101 : Int) ∧ d.2 = d.2 ∧ True) ∧ (d.2 = d.2 ∧ ∀ (i : Nat), i < d.2 → (d.3 i).1 = (d.3 i).1 ∧ (d.3 i).2 = (d.3 i).2 ∧ (d.3 i).3 = (d.3 i).3 ∧ True) ∧ True
theorem o5loop_t0_t (p : M5P) (d : MoD) : o5loop_t0 p d :=
  ⟨rfl, ⟨trivial, ⟨⟨rfl, ⟨rfl, ⟨⟨rfl, rfl⟩, ⟨⟨rfl, rfl⟩, ⟨⟨rfl, rfl⟩, ⟨⟨rfl, rfl⟩, ⟨rfl, ⟨rfl, trivial⟩⟩⟩⟩⟩⟩⟩⟩, ⟨⟨rfl, (fun _ => (fun _ => ⟨rfl, trivial⟩))⟩, ⟨⟨rfl, (fun _ => (fun _ => ⟨rfl, ⟨rfl, ⟨rfl, trivial⟩⟩⟩))⟩, ⟨⟨rfl, (fun _ => (fun _ => ⟨rfl, ⟨trivial, trivial⟩⟩))⟩, ⟨⟨rfl, (fun _ => (fun _ => ⟨rfl, ⟨rfl, trivial⟩⟩))⟩, ⟨⟨rfl, (fun _ => (fun _ => ⟨rfl, ⟨rfl, ⟨rfl, trivial⟩⟩⟩))⟩, trivial⟩⟩⟩⟩⟩⟩⟩⟩
def o5loop_t1 (p : M5P) : Prop :=
  (0 : Nat) = (0 : Nat) ∧ p.4 = p.4
theorem o5loop_t1_t (p : M5P) : o5loop_t1 p :=
  ⟨rfl, rfl⟩
def o5loop_t2 (p : M5P) : Prop :=
  (0 : Nat) = (0 : Nat) ∧ p.6 = p.6
theorem o5loop_t2_t (p : M5P) : o5loop_t2 p :=
  ⟨rfl, rfl⟩
def o5loop_t3 : Prop :=
  (0 : Nat) = (0 : Nat) ∧ (0 : Nat) = (0 : Nat)
theorem o5loop_t3_t : o5loop_t3 :=
  ⟨rfl, rfl⟩
def o5loop_t4 (p : M5P) (q : MiD) : Prop :=
  (p.4 = p.4 ∧ ∀ (i : Nat), i < p.rn → p.3 i = p.3 i ∧ True) ∧ (p.6 = p.6 ∧ ∀ (i : Nat), i < p.zn → (p.5 i).1 = (p.5 i).1 ∧ (p.5 i).2 = (p.5 i).2 ∧ (p.5 i).3 = (p.5 i).3 ∧ True) ∧ ((1 : Nat) = (1 : Nat) ∧ ∀ (i : Nat), i < (1 : Nat) → (0 : Int) = (0 : Int) ∧ True ∧ True) ∧ ((1 : Nat) = (1 : Nat) ∧ ∀ (i : Nat), i < (1 : Nat) → pickN p.1 (101 : Int) = pickN p.1 (101 : Int) ∧ q.2 = q.2 ∧ True) ∧ (q.2 = q.2 ∧ ∀ (i : Nat), i < q.2 → (q.3 i).1 = (q.3 i).1 ∧ (q.3 i).2 = (q.3 i).2 ∧ (q.3 i).3 = (q.3 i).3 ∧ True) ∧ True
theorem o5loop_t4_t (p : M5P) (q : MiD) : o5loop_t4 p q :=
  ⟨⟨rfl, (fun _ => (fun _ => ⟨rfl, trivial⟩))⟩, ⟨⟨rfl, (fun _ => (fun _ => ⟨rfl, ⟨rfl, ⟨rfl, trivial⟩⟩⟩))⟩, ⟨⟨rfl, (fun _ => (fun _ => ⟨rfl, ⟨trivial, trivial⟩⟩))⟩, ⟨⟨rfl, (fun _ => (fun _ => ⟨rfl, ⟨rfl, trivial⟩⟩))⟩, ⟨⟨rfl, (fun _ => (fun _ => ⟨rfl, ⟨rfl, ⟨rfl, trivial⟩⟩⟩))⟩, trivial⟩⟩⟩⟩⟩
def o5loop_t5 (p : M5P) (d : MoD) : Prop :=
  (((0 : Nat) = (0 : Nat) ∧ (0 : Nat) = (0 : Nat)) ∧ ((0 : Nat) = (0 : Nat) ∧ (0 : Nat) = (0 : Nat)) ∧ True) ∧ (p.4 = p.4 ∧ ∀ (i : Nat), i < p.rn → p.3 i = p.3 i ∧ True) ∧ (p.6 = p.6 ∧ ∀ (i : Nat), i < p.zn → (p.5 i).1 = (p.5 i).1 ∧ (p.5 i).2 = (p.5 i).2 ∧ (p.5 i).3 = (p.5 i).3 ∧ True) ∧ ((1 : Nat) = (1 : Nat) ∧ ∀ (i : Nat), i < (1 : Nat) → (0 : Int) = (0 : Int) ∧ True ∧ True) ∧ ((1 : Nat) = (1 : Nat) ∧ ∀ (i : Nat), i < (1 : Nat) → pickN p.1 (101 : Int) = pickN p.1 (101 : Int) ∧ d.2 = d.2 ∧ True) ∧ (d.2 = d.2 ∧ ∀ (i : Nat), i < d.k → (d.3 i).1 = (d.3 i).1 ∧ (d.3 i).2 = (d.3 i).2 ∧ (d.3 i).3 = (d.3 i).3 ∧ True) ∧ True
theorem o5loop_t5_t (p : M5P) (d : MoD) : o5loop_t5 p d :=
  ⟨⟨⟨rfl, rfl⟩, ⟨⟨rfl, rfl⟩, trivial⟩⟩, ⟨⟨rfl, (fun _ => (fun _ => ⟨rfl, trivial⟩))⟩, ⟨⟨rfl, (fun _ => (fun _ => ⟨rfl, ⟨rfl, ⟨rfl, trivial⟩⟩⟩))⟩, ⟨⟨rfl, (fun _ => (fun _ => ⟨rfl, ⟨trivial, trivial⟩⟩))⟩, ⟨⟨rfl, (fun _ => (fun _ => ⟨rfl, ⟨rfl, trivial⟩⟩))⟩, ⟨⟨rfl, (fun _ => (fun _ => ⟨rfl, ⟨rfl, ⟨rfl, trivial⟩⟩⟩))⟩, trivial⟩⟩⟩⟩⟩⟩
def o5loop_T (p : M5P) (d : MoD) : Prop :=
  ifB (decide (Int.ofNat d.1 < (3000 : Int))) (lI5.code = lI5.code ∧ (lI5_J { p := p, t := d.1 : MiP } { i := (0 : Nat), k := d.2, V := d.3 : MiD } ∧ o5loop_t0 p d) ∧ True ∧ ∀ (q : MiD), Leaf (repL (outL p.ck (d.1 + (1 : Nat))) q.k q.V) → Leaf (d.t < (3000 : Nat)) ∧ Leaf (repL (outL p.ck (d.t + (1 : Nat))) q.2 q.3) ∧ (p.1 = p.1 ∧ p.2 = p.2 ∧ o5loop_t1 p ∧ o5loop_t2 p ∧ o5loop_t3 ∧ o5loop_t3 ∧ Int.ofNat (d.1 + (1 : Nat)) = IntKind.i64.wrap (Int.ofNat (d.1 + (1 : Nat))) ∧ True) ∧ o5loop_t4 p q) (Leaf ((3000 : Nat) ≤ d.t) ∧ o5loop_t5 p d)
theorem o5loop_eq (p : M5P) (d : MoD) : exec XQ6 60 22 lO5.code (lO5.I p d) (zO5 p d) = o5loop_T p d := by kernel_rfl

theorem o5loop_step (p : M5P) (d : MoD) (hJ : lO5_J p d) : o5loop_T p d := by
  have hf := hJ.1
  have ht := hJ.2.1
  have hr := hJ.2.2
  clear hJ
  unfold o5loop_T
  repeat' (first | with_reducible refine ifB_split (fun _ => ?_) (fun _ => ?_) | with_reducible refine And.intro ?_ ?_)
  all_goals try first | with_reducible exact o5loop_t0_t _ _ | with_reducible exact o5loop_t1_t _ | with_reducible exact o5loop_t2_t _ | with_reducible exact o5loop_t3_t | with_reducible exact o5loop_t4_t _ _ | with_reducible exact o5loop_t5_t _ _ | with_reducible rfl | with_reducible exact trivial | with_reducible exact List.Perm.refl _
  all_goals try with_reducible refine fun (q : MiD) hq => ?_
  repeat' (first | with_reducible refine ifB_split (fun _ => ?_) (fun _ => ?_) | with_reducible refine And.intro ?_ ?_)
  all_goals try first | with_reducible exact o5loop_t0_t _ _ | with_reducible exact o5loop_t1_t _ | with_reducible exact o5loop_t2_t _ | with_reducible exact o5loop_t3_t | with_reducible exact o5loop_t4_t _ _ | with_reducible exact o5loop_t5_t _ _ | with_reducible rfl | with_reducible exact trivial | with_reducible exact List.Perm.refl _
  all_goals simp only [Leaf, Nat.zero_add, Int.ofNat_eq_natCast, decide_eq_true_eq, decide_eq_false_iff_not, beq_iff_eq, beq_eq_false_iff_ne, bne_iff_ne, bne_eq_false_iff_eq, ne_eq, Bool.and_eq_true, Bool.not_eq_true', Bool.not_eq_true, Bool.not_eq_false', Bool.and_true, gt_iff_lt, Bool.and_eq_false_iff] at *
  all_goals first
    | omega
    | (rw [wrapSmall (by omega) (by omega)]; done)
    | exact ⟨hf, (by show d.t < 3000; omega), Nat.zero_le _, hr⟩
    | exact hq
    | trace_state
set_option maxRecDepth 100000 in
theorem o5loop_ok : LoopOK XQ6.P lO5.code lO5.L := by
  refine lO5.ok XQ6_ok 60 22 (fun p d => 3000 - d.t) zO5 (fun _ _ _ => trivial) (fun p d w q hw => ?_) (fun p d S' hJ h => ?_) (fun p d x S' hx hJ h => ?_) fun p d hJ => ?_
  · match w, hw with
    | 0, _ => exact trivial
  · unfold zO5 at h; dsimp only at h
    split at h <;> try exact h.elim
    rename_i lo k V _
    obtain ⟨h1, h2, h3⟩ := h
    simp only [Leaf] at h1 h2
    refine ⟨_, ⟨d.t + 1, k, V⟩, ?_, ⟨hJ.1, h1, h2⟩, h3⟩
    show 3000 - (d.t + 1) < 3000 - d.t
    omega
  · have j2 := hJ.2.1
    have j3 := hJ.2.2
    cases x with
    | normal => exact hx.elim
    | ret => exact (show False from h).elim
    | exit k =>
      obtain ⟨h0, h1, h2⟩ := gateB_spec h
      have h0 := Nat.eq_of_beq_eq_true h0
      subst h0
      simp only [Leaf] at h1
      have hi : d.t = 3000 := by omega
      exact ⟨0, d, _, Nat.lt_succ_self 0, by rw [hi] at j3; exact j3, rfl, h2⟩
  · rw [o5loop_eq]
    exact o5loop_step p d hJ
noncomputable def XQ7 : Ctx := XQ6.loop 22 3 lO5.code (lO5.by exO5)
theorem XQ7_ok : XQ7.OK := Ctx.loop_ok XQ6_ok (o5loop_ok.by exO5)
def sM5_J (p : M5P) : Prop := p.fits
def sM5 : FSpec M5P where
  J := sM5_J
  A := fun p => [iv p.dr, iv p.st, .sl 0 0 p.rn, .sl 1 0 p.zn]
  H := fun p => [some (intsO p.rn p.R), some (zO p.zn p.Z)]
  R := fun p => .agg [iv (pickN p.dr 101), .osl 2 (rd5_J p).length]
  O := fun p => [.arr true (rd5_J p).length 3 98 fun i => ((rd5_J p).getD i ⟨0, 0, 0⟩).cells]
def exM5f (args : List SV) (h : Heap) : Option (M5P × List (Option Nat)) := match args with
  | [.int _ dr, .int _ st, .sl l _ rn, .sl l' _ zn] => match arrOf h l, arrOf h l' with
    | some (_, R), some (_, Z) => some (⟨dr, st, fun i => intOf (R i), rn, fun i => (match Z i with | [.int _ u, .int _ v, .int _ w] => ⟨u, v, w⟩ | _ => ⟨0, 0, 0⟩), zn⟩, [some l, some l'])
    | _, _ => none
  | _ => none
end Go.Proofs.Ytmcidfecepknpaa

namespace Go.Proofs.Ytmcidfecepknpaa
open Go Go.Sh Go.Proofs
set_option linter.unusedVariables false

/-! ### everything later -/
def Sta.mv (b : Int) (s : Sta) : Sta := ⟨s.state, s.since + b, if 0 ≤ s.next then s.next + b else s.next⟩
theorem begins_mv {r : Rul} (hr : r.small) {s t b : Int} (h0 : 0 ≤ t) (hb : 0 ≤ b) (h1 : t + b ≤ 30000000) : begins r s (t + b) = (begins r s t).mv b := by
  obtain ⟨r1, r2, r3, r4⟩ := hr
  have hr : r.small := ⟨r1, r2, r3, r4⟩
  unfold begins Sta.mv
  dsimp only
  rw [nextOf_small hr (by omega) h1, nextOf_small hr h0 (by omega)]
  congr 1
  by_cases h1 : s = 1
  · simp only [if_pos h1]; rw [if_pos (by omega)]; omega
  simp only [if_neg h1]
  by_cases h2 : s = 2
  · simp only [if_pos h2]; rw [if_pos (by omega)]; omega
  simp only [if_neg h2]
  by_cases h3 : s = 3
  · simp only [if_pos h3]; rw [if_pos (by omega)]; omega
  simp only [if_neg h3]
  by_cases h4 : s = 4
  · simp only [if_pos h4]; rw [if_pos (by omega)]; omega
  simp only [if_neg h4]
  rw [if_neg (by omega)]
theorem goesOn_mv {s : Sta} {u b : Int} (hb : 0 ≤ b) : goesOn (u + b) (s.mv b) = goesOn u s := by
  unfold goesOn Sta.mv
  dsimp only
  by_cases h : 0 ≤ s.next
  · rw [if_pos h, decide_eq_true h, decide_eq_true (show 0 ≤ s.next + b by omega)]
    congr 1
    by_cases h2 : s.next ≤ u
    · rw [decide_eq_true h2, decide_eq_true (by omega)]
    · rw [decide_eq_false h2, decide_eq_false (by omega)]
  · rw [if_neg h, decide_eq_false h]
    rfl
theorem step1_mv {r : Rul} (hr : r.small) {s : Sta} {b : Int} (h0 : 0 ≤ s.next) (hb : 0 ≤ b) (h1 : s.next + b ≤ 30000000) : step1 r (s.mv b) = (step1 r s).mv b := by
  unfold step1
  show begins r (follow s.state) (if 0 ≤ s.next then s.next + b else s.next) = _
  rw [if_pos h0]
  exact begins_mv hr h0 hb h1
theorem go_mv {r : Rul} (hr : r.small) {u u' b : Int} (hb : 0 ≤ b ∧ b ≤ 1000000) (hu : ∀ s : Sta, s.fine r → dl r s ≤ 25000000 → goesOn u' (s.mv b) = goesOn u s) : ∀ (m : Nat) {s : Sta}, s.fine r → dl r s ≤ 25000000 →
    goN r u' m (s.mv b) = (goN r u m s).mv b ∧ aloneL r u' m (s.mv b) = (aloneL r u m s).map (Sta.mv b) ∧ (∀ x ∈ aloneL r u m s, x.fine r)
  | 0, s, _, _ => ⟨rfl, rfl, fun x hx => by cases hx⟩
  | m + 1, s, h, hd => by
    unfold goN aloneL
    rw [hu s h hd]
    cases hg : goesOn u s with
    | false => exact ⟨rfl, rfl, fun x hx => by cases hx⟩
    | true =>
      obtain ⟨h1, h2, h3⟩ := h.goes hg
      have hn := (dl_next hr h).2
      have hs := dl_step hr h hg
      have hf : (step1 r s).fine r := begins_fine hr (follow_st _ h1) h2 (by omega)
      have hm := step1_mv hr h2 hb.1 (show s.next + b ≤ 30000000 by omega)
      obtain ⟨g1, g2, g3⟩ := go_mv hr hb hu m (s := step1 r s) hf (by omega)
      dsimp only
      rw [hm]
      refine ⟨g1, by rw [g2]; rfl, fun x hx => ?_⟩
      rcases List.mem_cons.1 hx with rfl | hx
      · exact hf
      · exact g3 x hx
theorem after_mv {c d : Clm} (hcd : d.backed = c.backed) {b : Int} {s : Int} {e e' : Evt} (hk : e'.kind = e.kind) (hr : e'.reason = e.reason) : afterB d s e' = afterB c s e ∧ afterN d s e' = afterN c s e := by
  unfold afterB afterN
  rw [hcd, hk, hr]
  exact ⟨rfl, rfl⟩
structure Moved (r : Rul) (c d : Clm) (E F : Nat → Evt) (n : Nat) (b : Int) : Prop where
  good : Good r c E n
  bb : 0 ≤ b ∧ b ≤ 1000000
  asked : c.asked ≤ 999 ∧ d.asked = c.asked + b
  backed : d.backed = c.backed
  ev : ∀ j, j < n → (F j).kind = (E j).kind ∧ (F j).at' = (E j).at' + b ∧ (F j).reason = (E j).reason
  hi : ∀ j, j < n → (E j).at' ≤ 1000000
theorem Moved.ends {r : Rul} {c d : Clm} {E F : Nat → Evt} {n : Nat} {b : Int} (h : Moved r c d E F n b) : c.asked + r.answer - 1 + r.settle + r.cooling + r.reverse ≤ 25000000 := by
  obtain ⟨r1, r2, r3, r4⟩ := h.good.small
  have := h.asked
  omega
theorem Moved.step {r : Rul} {c d : Clm} {E F : Nat → Evt} {n : Nat} {b : Int} (h : Moved r c d E F n b) : ∀ i, i ≤ n →
    runN r d F (begins r 1 d.asked) i = (runN r c E (begins r 1 c.asked) i).mv b ∧ line r d F (begins r 1 d.asked) i = (line r c E (begins r 1 c.asked) i).map (Sta.mv b) ∧ voids r d F (begins r 1 d.asked) i = voids r c E (begins r 1 c.asked) i ∧ (∀ x ∈ line r c E (begins r 1 c.asked) i, x.fine r)
  | 0, _ => by
    have ha := h.good.asked
    have hb := h.bb
    have h0 : begins r 1 d.asked = (begins r 1 c.asked).mv b := by rw [h.asked.2]; exact begins_mv h.good.small ha.1 hb.1 (by omega)
    refine ⟨h0, ?_, rfl, fun x hx => ?_⟩
    · show [begins r 1 d.asked] = _
      rw [h0]; rfl
    · have hx : x ∈ [begins r 1 c.asked] := hx
      simp only [List.mem_singleton] at hx
      subst hx
      exact begins_fine h.good.small (by omega) ha.1 (by omega)
  | i + 1, hi => by
    obtain ⟨i1, i2, i3, i4⟩ := h.step i (by omega)
    obtain ⟨e1, e2, e3⟩ := h.ev i (by omega)
    have hat := h.hi i (by omega)
    have hb := h.bb
    obtain ⟨f1, f2⟩ := h.good.run i (by omega)
    have hev := h.good.ev (i := i) (by omega)
    have hl := h.good.last i (by omega)
    have hd := h.good.dl_run i (by omega)
    have he := h.ends
    obtain ⟨g1, g2, g3⟩ := go_mv h.good.small (u := (E i).at') (u' := (F i).at') hb (fun s _ _ => by rw [e2]; exact goesOn_mv hb.1) 4 f1 (by omega)
    have a := after_mv (c := c) (d := d) h.backed (b := b) (s := (goN r (E i).at' 4 (runN r c E (begins r 1 c.asked) i)).state) (e := E i) (e' := F i) e1 e3
    have hst : ((goN r (E i).at' 4 (runN r c E (begins r 1 c.asked) i)).mv b).state = (goN r (E i).at' 4 (runN r c E (begins r 1 c.asked) i)).state := rfl
    have gf := (goN_fine h.good.small (u := (E i).at') (by omega) 4 f1).1
    have hbeg : begins r (afterN c (goN r (E i).at' 4 (runN r c E (begins r 1 c.asked) i)).state (E i)) ((E i).at' + b) = (begins r (afterN c (goN r (E i).at' 4 (runN r c E (begins r 1 c.asked) i)).state (E i)) (E i).at').mv b := begins_mv h.good.small (by omega) hb.1 (by omega)
    refine ⟨?_, ?_, ?_, ?_⟩
    · show evN r d (runN r d F (begins r 1 d.asked) i) (F i) = (evN r c (runN r c E (begins r 1 c.asked) i) (E i)).mv b
      unfold evN
      rw [i1, g1, hst, a.1, a.2, e2, hbeg]
      cases afterB c (goN r (E i).at' 4 (runN r c E (begins r 1 c.asked) i)).state (E i) <;> rfl
    · show line r d F (begins r 1 d.asked) i ++ evL r d (runN r d F (begins r 1 d.asked) i) (F i) = (line r c E (begins r 1 c.asked) i ++ evL r c (runN r c E (begins r 1 c.asked) i) (E i)).map (Sta.mv b)
      rw [List.map_append, i2]
      unfold evL
      rw [i1, g1, g2, hst, a.1, a.2, e2, hbeg, List.map_append]
      cases afterB c (goN r (E i).at' 4 (runN r c E (begins r 1 c.asked) i)).state (E i) <;> rfl
    · show voids r d F (begins r 1 d.asked) i ++ _ = voids r c E (begins r 1 c.asked) i ++ _
      rw [i3, i1, g1, hst, a.1]
    · intro x hx
      have hx : x ∈ line r c E (begins r 1 c.asked) i ++ evL r c (runN r c E (begins r 1 c.asked) i) (E i) := hx
      unfold evL at hx
      rcases List.mem_append.1 hx with hx | hx
      · exact i4 x hx
      · rcases List.mem_append.1 hx with hx | hx
        · exact g3 x hx
        · cases hab : afterB c (goN r (E i).at' 4 (runN r c E (begins r 1 c.asked) i)).state (E i) with
          | false => rw [hab] at hx; cases hx
          | true =>
            rw [hab] at hx
            simp only [List.mem_singleton] at hx
            subst hx
            exact begins_fine h.good.small (afterN_b hab) (by omega) (by omega)
theorem Moved.good2 {r : Rul} {c d : Clm} {E F : Nat → Evt} {n : Nat} {b : Int} (h : Moved r c d E F n b) (hd : d.ok = true) : Good r d F n := by
  have hk := (CP.ok_iff _).1 h.good.ok
  refine ⟨h.good.small, (CP.ok_iff _).2 ⟨hk.1, hd, hk.2.2.1, fun j hj => ?_⟩⟩
  have hj' : j < n := hj
  have he := hk.2.2.2 j hj
  obtain ⟨e1, e2, e3⟩ := h.ev j hj'
  have hl : lastOf d.asked F j = lastOf c.asked E j + b := by
    cases j with
    | zero => exact h.asked.2
    | succ j => exact (h.ev j (by omega)).2.1
  have hb := h.bb
  have hat := h.hi j hj'
  show evOk (lastOf d.asked F j) (F j) = true
  have he : evOk (lastOf c.asked E j) (E j) = true := he
  simp only [evOk, inB, Bool.and_eq_true, decide_eq_true_eq] at he ⊢
  rw [e1, e2, e3, hl]
  exact ⟨⟨he.1.1, by omega⟩, he.2⟩
theorem Moved.lists {r : Rul} {c d : Clm} {E F : Nat → Evt} {n : Nat} {b : Int} (h : Moved r c d E F n b) (hd : d.ok = true) :
    lineL ⟨r, d, F, n⟩ = (lineL ⟨r, c, E, n⟩).map (Sta.mv b) ∧ voidL ⟨r, d, F, n⟩ = voidL ⟨r, c, E, n⟩ ∧ (∀ x ∈ lineL ⟨r, c, E, n⟩, x.fine r) := by
  obtain ⟨i1, i2, i3, i4⟩ := h.step n (Nat.le_refl _)
  have ho := h.good.ok
  have ho2 := (h.good2 hd).ok
  have he := h.ends
  have hrun := h.good.dl_run n (Nat.le_refl _)
  have hb := h.bb
  obtain ⟨g1, g2, g3⟩ := go_mv h.good.small (u := 4611686018427387904) (u' := 4611686018427387904) h.bb (fun s hs hdl => by
    have hn := (dl_next h.good.small hs).2
    unfold goesOn Sta.mv
    dsimp only
    by_cases h0 : 0 ≤ s.next
    · rw [if_pos h0, decide_eq_true h0, decide_eq_true (show 0 ≤ s.next + b by omega), decide_eq_true (show s.next ≤ 4611686018427387904 by omega), decide_eq_true (show s.next + b ≤ 4611686018427387904 by omega)]
    · rw [if_neg h0]) 4 (h.good.run n (Nat.le_refl _)).1 (by omega)
  simp only [lineL, voidL, ho, ho2]
  refine ⟨?_, i3, fun x hx => ?_⟩
  · rw [i1, i2, g2, List.map_append]
  · rcases List.mem_append.1 hx with hx | hx
    · exact i4 x hx
    · exact g3 x hx
end Go.Proofs.Ytmcidfecepknpaa

namespace Go.Proofs.Ytmcidfecepknpaa
open Go Go.Sh Go.Proofs
set_option linter.unusedVariables false

/-! ### runs hang on the first events alone -/
theorem runN_congr {r : Rul} {c : Clm} {E F : Nat → Evt} {a : Sta} : ∀ i, (∀ j, j < i → F j = E j) → runN r c F a i = runN r c E a i
  | 0, _ => rfl
  | i + 1, h => by
    show evN r c (runN r c F a i) (F i) = evN r c (runN r c E a i) (E i)
    rw [runN_congr i fun j hj => h j (by omega), h i (by omega)]
theorem line_congr {r : Rul} {c : Clm} {E F : Nat → Evt} {a : Sta} : ∀ i, (∀ j, j < i → F j = E j) → line r c F a i = line r c E a i
  | 0, _ => rfl
  | i + 1, h => by
    show line r c F a i ++ evL r c (runN r c F a i) (F i) = line r c E a i ++ evL r c (runN r c E a i) (E i)
    rw [runN_congr i fun j hj => h j (by omega), h i (by omega), line_congr i fun j hj => h j (by omega)]
theorem voids_congr {r : Rul} {c : Clm} {E F : Nat → Evt} {a : Sta} : ∀ i, (∀ j, j < i → F j = E j) → voids r c F a i = voids r c E a i
  | 0, _ => rfl
  | i + 1, h => by
    unfold voids
    rw [runN_congr i fun j hj => h j (by omega), h i (by omega), voids_congr i fun j hj => h j (by omega)]
theorem lastOf_congr {a : Int} {E F : Nat → Evt} : ∀ i, (∀ j, j < i → F j = E j) → lastOf a F i = lastOf a E i
  | 0, _ => rfl
  | i + 1, h => by show (F i).at' = (E i).at'; rw [h i (by omega)]
theorem Good.cut {r : Rul} {c : Clm} {E F : Nat → Evt} {n k : Nat} (h : Good r c E n) (hk : k ≤ n) (hF : ∀ j, j < k → F j = E j) : Good r c F k := by
  have h0 := (CP.ok_iff _).1 h.ok
  refine ⟨h.small, (CP.ok_iff _).2 ⟨h0.1, h0.2.1, ?_, fun j hj => ?_⟩⟩
  · have : n ≤ 20 := h0.2.2.1
    show k ≤ 20; omega
  · have hj : j < k := hj
    show evOk (lastOf c.asked F j) (F j) = true
    rw [lastOf_congr j fun i hi => hF i (by omega), hF j hj]
    exact h0.2.2.2 j (by show j < n; omega)
/-- Events after a time change nothing at it. -/
theorem Good.first {r : Rul} {c : Clm} {E F : Nat → Evt} {n : Nat} (h : Good r c E n) {t : Int} (ht : c.asked ≤ t) (hb : t ≤ 20000000) (hF : ∀ j, j < stopN E t n → F j = E j) :
    outErr ⟨r, c, F, stopN E t n, t⟩ = 0 ∧ outcome ⟨r, c, F, stopN E t n, t⟩ = outcome ⟨r, c, E, n, t⟩ := by
  obtain ⟨s1, s2, s3⟩ := stopN_spec E t n
  have hg := h.cut s1 hF
  obtain ⟨o1, o2⟩ := hg.out ht hb
  refine ⟨o1, ?_⟩
  rw [o2, (h.out ht hb).2, stopN_eq (E := F) (n := stopN E t n) (i := stopN E t n) (Nat.le_refl _) (fun j hj => by rw [hF j hj]; exact s2 j hj) (.inl rfl), runN_congr _ hF]

/-! ### going on, and on -/
theorem aloneL_sat {r : Rul} {u : Int} : ∀ (m m' : Nat) {s : Sta}, s.ok r → rank s.state ≤ m → rank s.state ≤ m' → aloneL r u m s = aloneL r u m' s ∧ goN r u m s = goN r u m' s
  | 0, m', s, hok, h, _ => by
    have hg : goesOn u s = false := by
      cases hg : goesOn u s with
      | false => rfl
      | true => have := rank_pos hok hg; omega
    rw [aloneL_done hg, aloneL_done hg, goN_done hg, goN_done hg]
    exact ⟨rfl, rfl⟩
  | m + 1, 0, s, hok, _, h => by
    have hg : goesOn u s = false := by
      cases hg : goesOn u s with
      | false => rfl
      | true => have := rank_pos hok hg; omega
    rw [aloneL_done hg, aloneL_done hg, goN_done hg, goN_done hg]
    exact ⟨rfl, rfl⟩
  | m + 1, m' + 1, s, hok, h, h' => by
    unfold aloneL goN
    cases hg : goesOn u s with
    | false => exact ⟨rfl, rfl⟩
    | true =>
      have := rank_pos hok hg
      obtain ⟨i1, i2⟩ := aloneL_sat (r := r) (u := u) m m' (s := step1 r s) rfl (by show rank (follow s.state) ≤ m; omega) (by show rank (follow s.state) ≤ m'; omega)
      dsimp only
      rw [i1, i2]
      exact ⟨rfl, rfl⟩
theorem go_go {r : Rul} {u u' : Int} (h : u ≤ u') : ∀ (m : Nat) {s : Sta}, s.ok r → goN r u' 4 (goN r u m s) = goN r u' 4 s ∧ aloneL r u' 4 s = aloneL r u m s ++ aloneL r u' 4 (goN r u m s)
  | 0, s, _ => ⟨rfl, rfl⟩
  | m + 1, s, hok => by
    cases hg : goesOn u s with
    | false =>
      rw [goN_done hg, aloneL_done hg]
      exact ⟨rfl, rfl⟩
    | true =>
      have hg' : goesOn u' s = true := by
        simp only [goesOn, Bool.and_eq_true, decide_eq_true_eq] at hg ⊢
        omega
      have hr := rank_pos hok hg
      have h4 := rank_le s.state
      obtain ⟨i1, i2⟩ := go_go h m (s := step1 r s) rfl
      obtain ⟨j1, j2⟩ := aloneL_sat (r := r) (u := u') 3 4 (s := step1 r s) rfl (by show rank (follow s.state) ≤ 3; omega) (by show rank (follow s.state) ≤ 4; omega)
      have e1 : goN r u (m + 1) s = goN r u m (step1 r s) := by simp only [goN, hg]
      have e2 : aloneL r u (m + 1) s = step1 r s :: aloneL r u m (step1 r s) := by simp only [aloneL, hg]
      have e3 : goN r u' 4 s = goN r u' 3 (step1 r s) := by simp only [goN, hg']
      have e4 : aloneL r u' 4 s = step1 r s :: aloneL r u' 3 (step1 r s) := by simp only [aloneL, hg']
      rw [e1, e2, e3, e4, i1, j1, j2]
      exact ⟨rfl, by rw [i2]; rfl⟩
/-- A status that has just begun does not go on at once. -/
theorem begins_still {r : Rul} (hr : r.small) {s t : Int} (h0 : 0 ≤ t) (h1 : t ≤ 30000000) : goesOn t (begins r s t) = false := by
  obtain ⟨r1, r2, r3, r4⟩ := hr
  have hr : r.small := ⟨r1, r2, r3, r4⟩
  simp only [goesOn, begins, nextOf_small hr h0 h1, Bool.and_eq_false_iff, decide_eq_false_iff_not]
  repeat' split
  all_goals omega

/-! ### events that are void, left out -/
structure Kept (r : Rul) (c : Clm) (E : Nat → Evt) (i k m : Nat) (F : Nat → Evt) : Prop where
  cnt : k = (voids r c E (begins r 1 c.asked) i).length
  le : m ≤ i
  run : runN r c E (begins r 1 c.asked) i = goN r (lastOf c.asked E i) 4 (runN r c F (begins r 1 c.asked) m)
  ln : line r c E (begins r 1 c.asked) i = line r c F (begins r 1 c.asked) m ++ aloneL r (lastOf c.asked E i) 4 (runN r c F (begins r 1 c.asked) m)
  vo : voids r c F (begins r 1 c.asked) m = []
  last : lastOf c.asked F m ≤ lastOf c.asked E i
  ev : ∀ j, j < m → evOk (lastOf c.asked F j) (F j) = true
theorem Kept.zero {r : Rul} {c : Clm} {E : Nat → Evt} {n : Nat} (h : Good r c E n) (F : Nat → Evt) : Kept r c E 0 0 0 F := by
  have ha := h.asked
  have hs := begins_still h.small (s := 1) ha.1 (by omega)
  refine ⟨rfl, Nat.le_refl _, ?_, ?_, rfl, Int.le_refl _, fun j hj => absurd hj (Nat.not_lt_zero j)⟩
  · show begins r 1 c.asked = goN r c.asked 4 (begins r 1 c.asked)
    rw [goN_done hs]
  · show [begins r 1 c.asked] = [begins r 1 c.asked] ++ aloneL r c.asked 4 (begins r 1 c.asked)
    rw [aloneL_done hs]; rfl
/-- Is this event void? -/
def voidB (r : Rul) (c : Clm) (E : Nat → Evt) (i : Nat) : Bool := !afterB c (goN r (E i).at' 4 (runN r c E (begins r 1 c.asked) i)).state (E i)
theorem Kept.skip {r : Rul} {c : Clm} {E F : Nat → Evt} {n i k m : Nat} (h : Good r c E n) (hi : i < n) (hk : Kept r c E i k m F) (hv : voidB r c E i = true) : Kept r c E (i + 1) (k + 1) m F := by
  obtain ⟨a1, a2, a3, a4, a5, a6, a7⟩ := hk
  have hv : afterB c (goN r (E i).at' 4 (runN r c E (begins r 1 c.asked) i)).state (E i) = false := by simpa [voidB] using hv
  have he := h.ev hi
  have hqok : (runN r c F (begins r 1 c.asked) m).ok r := runN_ok (show (begins r 1 c.asked).ok r from rfl) m
  obtain ⟨g1, g2⟩ := go_go (r := r) he.1 4 hqok
  refine ⟨?_, by omega, ?_, ?_, a5, ?_, a7⟩
  · unfold voids
    rw [hv]; simp [a1]
  · show evN r c (runN r c E (begins r 1 c.asked) i) (E i) = goN r (E i).at' 4 _
    unfold evN
    rw [hv]
    show goN r (E i).at' 4 (runN r c E (begins r 1 c.asked) i) = _
    rw [a3, g1]
  · show line r c E (begins r 1 c.asked) i ++ evL r c (runN r c E (begins r 1 c.asked) i) (E i) = _ ++ aloneL r (E i).at' 4 _
    unfold evL
    rw [hv, a4, g2, a3, List.append_nil, List.append_assoc]
  · show _ ≤ (E i).at'
    omega
theorem Kept.take {r : Rul} {c : Clm} {E F G : Nat → Evt} {n i k m : Nat} (h : Good r c E n) (hi : i < n) (hk : Kept r c E i k m F) (hv : voidB r c E i = false) (hG : ∀ j, j < m → G j = F j) (hGm : G m = E i) : Kept r c E (i + 1) k (m + 1) G := by
  obtain ⟨a1, a2, a3, a4, a5, a6, a7⟩ := hk
  have hv : afterB c (goN r (E i).at' 4 (runN r c E (begins r 1 c.asked) i)).state (E i) = true := by simpa [voidB] using hv
  have he := h.ev hi
  have hl := h.last i (by omega)
  have hqok : (runN r c F (begins r 1 c.asked) m).ok r := runN_ok (show (begins r 1 c.asked).ok r from rfl) m
  obtain ⟨g1, g2⟩ := go_go (r := r) he.1 4 hqok
  have hs : ∀ s, goesOn (E i).at' (begins r s (E i).at') = false := fun s => begins_still h.small (by omega) (by omega)
  have hv' : afterB c (goN r (E i).at' 4 (runN r c F (begins r 1 c.asked) m)).state (E i) = true := by rw [a3, g1] at hv; exact hv
  have hrun : runN r c G (begins r 1 c.asked) (m + 1) = begins r (afterN c (goN r (E i).at' 4 (runN r c F (begins r 1 c.asked) m)).state (E i)) (E i).at' := by
    show evN r c (runN r c G (begins r 1 c.asked) m) (G m) = _
    rw [runN_congr m hG, hGm]
    unfold evN
    rw [hv']
  refine ⟨?_, by omega, ?_, ?_, ?_, ?_, fun j hj => ?_⟩
  · unfold voids
    rw [hv]; simp [a1]
  · rw [hrun]
    show evN r c (runN r c E (begins r 1 c.asked) i) (E i) = goN r (E i).at' 4 _
    unfold evN
    rw [hv, goN_done (hs _), a3, g1]
  · rw [hrun]
    show line r c E (begins r 1 c.asked) i ++ evL r c (runN r c E (begins r 1 c.asked) i) (E i) = (line r c G (begins r 1 c.asked) m ++ evL r c (runN r c G (begins r 1 c.asked) m) (G m)) ++ aloneL r (E i).at' 4 _
    rw [aloneL_done (hs _), runN_congr m hG, line_congr m hG, hGm]
    unfold evL
    rw [hv, hv', a4, a3, g1, g2]
    simp [List.append_assoc]
  · unfold voids
    rw [voids_congr m hG, runN_congr m hG, hGm, hv', a5]
    rfl
  · show (G m).at' ≤ (E i).at'
    rw [hGm]; exact Int.le_refl _
  · rcases Nat.lt_succ_iff_lt_or_eq.1 hj with hj | rfl
    · rw [lastOf_congr j fun x hx => hG x (by omega), hG j hj]
      exact a7 j hj
    · rw [lastOf_congr j hG, hGm]
      have := ((CP.ok_iff _).1 h.ok).2.2.2 i hi
      have this : evOk (lastOf c.asked E i) (E i) = true := this
      simp only [evOk, inB, Bool.and_eq_true, decide_eq_true_eq] at this ⊢
      exact ⟨⟨this.1.1, by omega⟩, this.2⟩
theorem Kept.good {r : Rul} {c : Clm} {E F : Nat → Evt} {n i k m : Nat} (h : Good r c E n) (hi : i ≤ n) (hk : Kept r c E i k m F) : Good r c F m := by
  have h0 := (CP.ok_iff _).1 h.ok
  refine ⟨h.small, (CP.ok_iff _).2 ⟨h0.1, h0.2.1, ?_, hk.ev⟩⟩
  have : n ≤ 20 := h0.2.2.1
  have := hk.le
  show m ≤ 20; omega
/-- What void events leave behind. -/
theorem Kept.lists {r : Rul} {c : Clm} {E F : Nat → Evt} {n k m : Nat} (h : Good r c E n) (hk : Kept r c E n k m F) : lineL ⟨r, c, F, m⟩ = lineL ⟨r, c, E, n⟩ ∧ voidL ⟨r, c, F, m⟩ = [] ∧ k = (voidL ⟨r, c, E, n⟩).length := by
  have hg := hk.good h (Nat.le_refl _)
  have hl := h.last n (Nat.le_refl _)
  have ho := h.ok
  have ho2 := hg.ok
  simp only [lineL, voidL, ho, ho2]
  refine ⟨?_, hk.vo, hk.cnt⟩
  obtain ⟨g1, g2⟩ := go_go (r := r) (u := lastOf c.asked E n) (u' := 4611686018427387904) (by omega) 4 (s := runN r c F (begins r 1 c.asked) m) (runN_ok (show (begins r 1 c.asked).ok r from rfl) m)
  rw [hk.ln, hk.run, g2, List.append_assoc]
theorem voids_split {r : Rul} {c : Clm} {E : Nat → Evt} {a : Sta} (i : Nat) : ∀ m, ∃ R, voids r c E a (i + m) = voids r c E a i ++ R ∧ ∀ x ∈ R, (i : Int) ≤ x
  | 0 => ⟨[], by simp, fun x hx => by cases hx⟩
  | m + 1 => by
    obtain ⟨R, h1, h2⟩ := voids_split (r := r) (c := c) (E := E) (a := a) i m
    refine ⟨R ++ (match afterB c (goN r (E (i + m)).at' 4 (runN r c E a (i + m))).state (E (i + m)) with | true => [] | false => [((i + m : Nat) : Int)]), ?_, fun x hx => ?_⟩
    · rw [← List.append_assoc, ← h1]
      rfl
    · rcases List.mem_append.1 hx with hx | hx
      · exact h2 x hx
      · cases hb : afterB c (goN r (E (i + m)).at' 4 (runN r c E a (i + m))).state (E (i + m)) with
        | true => rw [hb] at hx; cases hx
        | false =>
          rw [hb] at hx
          simp only [List.mem_singleton] at hx
          omega
/-- An event is void if it comes next in the list of those that are void. -/
theorem Kept.isVoid {r : Rul} {c : Clm} {E F : Nat → Evt} {n i k m : Nat} (h : Good r c E n) (hi : i < n) (hk : Kept r c E i k m F) :
    (voidB r c E i = true → k < (voidL ⟨r, c, E, n⟩).length ∧ (voidL ⟨r, c, E, n⟩).getD k 0 = i) ∧ (voidB r c E i = false → k < (voidL ⟨r, c, E, n⟩).length → (voidL ⟨r, c, E, n⟩).getD k 0 ≠ i) := by
  have ho := h.ok
  simp only [voidL, ho]
  obtain ⟨R, h1, h2⟩ := voids_split (r := r) (c := c) (E := E) (a := begins r 1 c.asked) (i + 1) (n - (i + 1))
  rw [show i + 1 + (n - (i + 1)) = n by omega] at h1
  rw [h1]
  have hkc := hk.cnt
  refine ⟨fun hv => ?_, fun hv hlt => ?_⟩
  · have hv : afterB c (goN r (E i).at' 4 (runN r c E (begins r 1 c.asked) i)).state (E i) = false := by simpa [voidB] using hv
    unfold voids
    rw [hv, hkc]
    refine ⟨by simp [List.length_append], ?_⟩
    simp [List.getD, List.append_assoc]
  · have hv : afterB c (goN r (E i).at' 4 (runN r c E (begins r 1 c.asked) i)).state (E i) = true := by simpa [voidB] using hv
    unfold voids at hlt ⊢
    rw [hv, hkc] at hlt ⊢
    rw [List.append_nil] at hlt ⊢
    cases R with
    | nil => simp at hlt
    | cons x R =>
      have := h2 x (by simp)
      simp [List.getD]
      omega
end Go.Proofs.Ytmcidfecepknpaa

namespace Go.Proofs.Ytmcidfecepknpaa
open Go Go.Sh Go.Proofs
set_option linter.unusedVariables false
structure SQ where
  r : Rul
  c : Clm
  t : Int
  W : Nat → Sta
/-- The statuses without events. -/
def silent (r : Rul) (c : Clm) (j : Nat) : Sta := if j = 0 then ⟨1, c.asked, c.asked + r.answer⟩ else if j = 1 then ⟨3, c.asked + r.answer, c.asked + r.answer + r.cooling⟩ else if j = 2 then ⟨4, c.asked + r.answer + r.cooling, c.asked + r.answer + r.cooling + r.reverse⟩ else ⟨5, c.asked + r.answer + r.cooling + r.reverse, -1⟩
def lS_J (p : SQ) (i : Nat) : Prop := i ≤ 4 ∧ p.r.small ∧ p.c.ok = true ∧ (0 ≤ p.c.asked ∧ p.c.asked ≤ 999) ∧ i64 p.t ∧ ∀ j, j < 4 → p.W j = silent p.r p.c j
noncomputable def heapS (p : SQ) : Heap := [none, none, none, boxR p.r, boxC p.c, some (.arr true 4 3 39 fun i => (p.W i).cells)]
noncomputable def lS : LSpec SQ Nat Nat where
  code := loopOf Try.prog 4 11
  N := 6
  I := fun p i => blank 182 [(1, iv p.t), (5, .bool true), (6, .ptr 3 0 0), (7, .ptr 4 0 0), (12, .osl 5 4), (13, iv i)] (heapS p)
  J := lS_J
  ways := 1
  E := fun w p q => (.exit 0, blank 182 [(5, .bool true), (6, .ptr 3 0 0), (7, .ptr 4 0 0)] (heapS p))
  JE := fun w p q => Leaf True
noncomputable def zS (p : SQ) (i : Nat) : KX := fun x S' => match x with
  | .normal => Leaf (i < 4) ∧ Wk 6 [] (lS.I p (i + 1)) S'
  | .exit k => gateB (Nat.beq k 0) (Wk 6 [] (lS.E 0 p 0).2 S')
  | .ret => Leaf False
def exS (S : SS) : Option (SQ × Nat × Ren) := match S.get 1, arrOf S.heap 3, arrOf S.heap 4, arrOf S.heap 5 with
  | .int _ t, some (_, rr), some (_, cc), some (_, u) => match rr 0, cc 0 with
    | [.int _ r1, .int _ r2, .int _ r3, .int _ r4], [.int _ c1, .int _ c2, .int _ c3, .int _ c4, .int _ c5, .bool c6] => some (⟨⟨r1, r2, r3, r4⟩, ⟨c1, c2, c3, c4, c5, c6⟩, t, fun i => Sta.ofC (u i)⟩, 0, [])
    | _, _ => none
  | _, _, _, _ => none
end Go.Proofs.Ytmcidfecepknpaa

namespace Go.Proofs.Ytmcidfecepknpaa
open Go Go.Sh Go.Proofs
set_option linter.unusedVariables false
set_option linter.unusedSimpArgs false
def sloop_t0 (p : SQ) : Prop :=
  (0 : Nat) = (0 : Nat) ∧ (p.3 = p.3 ∧ (1000 : Int) = (1000 : Int) ∧ True) ∧ True
theorem sloop_t0_t (p : SQ) : sloop_t0 p :=
  ⟨rfl, ⟨⟨rfl, ⟨rfl, trivial⟩⟩, trivial⟩⟩
def sloop_t1 (p : SQ) (i : Nat) : Prop :=
  (0 : Nat) = (0 : Nat) ∧ (p.3 = p.3 ∧ IntKind.i64.wrap ((p.4 i).3 - (p.4 i).2) = IntKind.i64.wrap ((p.4 i).3 - (p.4 i).2) ∧ True) ∧ True
theorem sloop_t1_t (p : SQ) (i : Nat) : sloop_t1 p i :=
  ⟨rfl, ⟨⟨rfl, ⟨rfl, trivial⟩⟩, trivial⟩⟩
def sloop_t2 (p : SQ) (i : Nat) : Prop :=
  True ∧ (1 : Nat) = (1 : Nat) ∧ ((p.1.1 = p.1.1 ∧ p.1.2 = p.1.2 ∧ p.1.3 = p.1.3 ∧ p.1.4 = p.1.4 ∧ True) ∧ (p.2.1 = p.2.1 ∧ p.2.2 = p.2.2 ∧ p.2.3 = p.2.3 ∧ p.2.4 = p.2.4 ∧ p.2.5 = p.2.5 ∧ p.2.6 = p.2.6 ∧ True) ∧ (0 : Nat) = (0 : Nat) ∧ IntKind.i64.wrap ((p.4 i).3 - (1 : Int)) = IntKind.i64.wrap ((p.4 i).3 - (1 : Int)) ∧ True) ∧ (0 : Nat) = (0 : Nat) ∧ True
theorem sloop_t2_t (p : SQ) (i : Nat) : sloop_t2 p i :=
  ⟨trivial, ⟨rfl, ⟨⟨⟨rfl, ⟨rfl, ⟨rfl, ⟨rfl, trivial⟩⟩⟩⟩, ⟨⟨rfl, ⟨rfl, ⟨rfl, ⟨rfl, ⟨rfl, ⟨rfl, trivial⟩⟩⟩⟩⟩⟩, ⟨rfl, ⟨rfl, trivial⟩⟩⟩⟩, ⟨rfl, trivial⟩⟩⟩⟩
def sloop_t3 (p : SQ) (i : Nat) : Prop :=
  True ∧ (1 : Nat) = (1 : Nat) ∧ ((p.1.1 = p.1.1 ∧ p.1.2 = p.1.2 ∧ p.1.3 = p.1.3 ∧ p.1.4 = p.1.4 ∧ True) ∧ (p.2.1 = p.2.1 ∧ p.2.2 = p.2.2 ∧ p.2.3 = p.2.3 ∧ p.2.4 = p.2.4 ∧ p.2.5 = p.2.5 ∧ p.2.6 = p.2.6 ∧ True) ∧ (0 : Nat) = (0 : Nat) ∧ (p.4 i).2 = (p.4 i).2 ∧ True) ∧ (0 : Nat) = (0 : Nat) ∧ True
theorem sloop_t3_t (p : SQ) (i : Nat) : sloop_t3 p i :=
  ⟨trivial, ⟨rfl, ⟨⟨⟨rfl, ⟨rfl, ⟨rfl, ⟨rfl, trivial⟩⟩⟩⟩, ⟨⟨rfl, ⟨rfl, ⟨rfl, ⟨rfl, ⟨rfl, ⟨rfl, trivial⟩⟩⟩⟩⟩⟩, ⟨rfl, ⟨rfl, trivial⟩⟩⟩⟩, ⟨rfl, trivial⟩⟩⟩⟩
def sloop_t4 (p : SQ) (i : Nat) : Prop :=
  True ∧ (1 : Nat) = (1 : Nat) ∧ ((p.1.1 = p.1.1 ∧ p.1.2 = p.1.2 ∧ p.1.3 = p.1.3 ∧ p.1.4 = p.1.4 ∧ True) ∧ (p.2.1 = p.2.1 ∧ p.2.2 = p.2.2 ∧ p.2.3 = p.2.3 ∧ p.2.4 = p.2.4 ∧ p.2.5 = p.2.5 ∧ p.2.6 = p.2.6 ∧ True) ∧ (0 : Nat) = (0 : Nat) ∧ IntKind.i64.wrap ((p.4 i).2 + pickN p.3 (IntKind.i64.wrap ((p.4 i).3 - (p.4 i).2))) = IntKind.i64.wrap ((p.4 i).2 + pickN p.3 (IntKind.i64.wrap ((p.4 i).3 - (p.4 i).2))) ∧ True) ∧ (0 : Nat) = (0 : Nat) ∧ True
theorem sloop_t4_t (p : SQ) (i : Nat) : sloop_t4 p i :=
  ⟨trivial, ⟨rfl, ⟨⟨⟨rfl, ⟨rfl, ⟨rfl, ⟨rfl, trivial⟩⟩⟩⟩, ⟨⟨rfl, ⟨rfl, ⟨rfl, ⟨rfl, ⟨rfl, ⟨rfl, trivial⟩⟩⟩⟩⟩⟩, ⟨rfl, ⟨rfl, trivial⟩⟩⟩⟩, ⟨rfl, trivial⟩⟩⟩⟩
def sloop_t5 : Prop :=
  (0 : Nat) = (0 : Nat) ∧ (0 : Nat) = (0 : Nat)
theorem sloop_t5_t : sloop_t5 :=
  ⟨rfl, rfl⟩
def sloop_t6 (p : SQ) : Prop :=
  ((1 : Nat) = (1 : Nat) ∧ ∀ (i_1 : Nat), i_1 < (1 : Nat) → p.1.1 = p.1.1 ∧ p.1.2 = p.1.2 ∧ p.1.3 = p.1.3 ∧ p.1.4 = p.1.4 ∧ True) ∧ ((1 : Nat) = (1 : Nat) ∧ ∀ (i_1 : Nat), i_1 < (1 : Nat) → p.2.1 = p.2.1 ∧ p.2.2 = p.2.2 ∧ p.2.3 = p.2.3 ∧ p.2.4 = p.2.4 ∧ p.2.5 = p.2.5 ∧ p.2.6 = p.2.6 ∧ True) ∧ ((4 : Nat) = (4 : Nat) ∧ ∀ (i_1 : Nat), i_1 < (4 : Nat) → (p.4 i_1).1 = (p.4 i_1).1 ∧ (p.4 i_1).2 = (p.4 i_1).2 ∧ (p.4 i_1).3 = (p.4 i_1).3 ∧ True) ∧ True
theorem sloop_t6_t (p : SQ) : sloop_t6 p :=
  ⟨⟨rfl, (fun _ => (fun _ => ⟨rfl, ⟨rfl, ⟨rfl, ⟨rfl, trivial⟩⟩⟩⟩))⟩, ⟨⟨rfl, (fun _ => (fun _ => ⟨rfl, ⟨rfl, ⟨rfl, ⟨rfl, ⟨rfl, ⟨rfl, trivial⟩⟩⟩⟩⟩⟩))⟩, ⟨⟨rfl, (fun _ => (fun _ => ⟨rfl, ⟨rfl, ⟨rfl, trivial⟩⟩⟩))⟩, trivial⟩⟩⟩
def sloop_t7 (p : SQ) (i : Nat) : Prop :=
  True ∧ (1 : Nat) = (1 : Nat) ∧ ((p.1.1 = p.1.1 ∧ p.1.2 = p.1.2 ∧ p.1.3 = p.1.3 ∧ p.1.4 = p.1.4 ∧ True) ∧ (p.2.1 = p.2.1 ∧ p.2.2 = p.2.2 ∧ p.2.3 = p.2.3 ∧ p.2.4 = p.2.4 ∧ p.2.5 = p.2.5 ∧ p.2.6 = p.2.6 ∧ True) ∧ (0 : Nat) = (0 : Nat) ∧ IntKind.i64.wrap ((p.4 i).2 + pickN p.3 (1000 : Int)) = IntKind.i64.wrap ((p.4 i).2 + pickN p.3 (1000 : Int)) ∧ True) ∧ (0 : Nat) = (0 : Nat) ∧ True
theorem sloop_t7_t (p : SQ) (i : Nat) : sloop_t7 p i :=
  ⟨trivial, ⟨rfl, ⟨⟨⟨rfl, ⟨rfl, ⟨rfl, ⟨rfl, trivial⟩⟩⟩⟩, ⟨⟨rfl, ⟨rfl, ⟨rfl, ⟨rfl, ⟨rfl, ⟨rfl, trivial⟩⟩⟩⟩⟩⟩, ⟨rfl, ⟨rfl, trivial⟩⟩⟩⟩, ⟨rfl, trivial⟩⟩⟩⟩
def sloop_t8 (p : SQ) : Prop :=
  (true = true ∧ ((0 : Nat) = (0 : Nat) ∧ (0 : Nat) = (0 : Nat)) ∧ ((0 : Nat) = (0 : Nat) ∧ (0 : Nat) = (0 : Nat)) ∧ True) ∧ ((1 : Nat) = (1 : Nat) ∧ ∀ (i_1 : Nat), i_1 < (1 : Nat) → p.1.1 = p.1.1 ∧ p.1.2 = p.1.2 ∧ p.1.3 = p.1.3 ∧ p.1.4 = p.1.4 ∧ True) ∧ ((1 : Nat) = (1 : Nat) ∧ ∀ (i_1 : Nat), i_1 < (1 : Nat) → p.2.1 = p.2.1 ∧ p.2.2 = p.2.2 ∧ p.2.3 = p.2.3 ∧ p.2.4 = p.2.4 ∧ p.2.5 = p.2.5 ∧ p.2.6 = p.2.6 ∧ True) ∧ ((4 : Nat) = (4 : Nat) ∧ ∀ (i_1 : Nat), i_1 < (4 : Nat) → (p.4 i_1).1 = (p.4 i_1).1 ∧ (p.4 i_1).2 = (p.4 i_1).2 ∧ (p.4 i_1).3 = (p.4 i_1).3 ∧ True) ∧ True
theorem sloop_t8_t (p : SQ) : sloop_t8 p :=
  ⟨⟨rfl, ⟨⟨rfl, rfl⟩, ⟨⟨rfl, rfl⟩, trivial⟩⟩⟩, ⟨⟨rfl, (fun _ => (fun _ => ⟨rfl, ⟨rfl, ⟨rfl, ⟨rfl, trivial⟩⟩⟩⟩))⟩, ⟨⟨rfl, (fun _ => (fun _ => ⟨rfl, ⟨rfl, ⟨rfl, ⟨rfl, ⟨rfl, ⟨rfl, trivial⟩⟩⟩⟩⟩⟩))⟩, ⟨⟨rfl, (fun _ => (fun _ => ⟨rfl, ⟨rfl, ⟨rfl, trivial⟩⟩⟩))⟩, trivial⟩⟩⟩⟩
def sloop_T (p : SQ) (i : Nat) : Prop :=
  ifB (decide (Int.ofNat i < (4 : Int))) (ifB (decide (Int.ofNat i < (↑(4 : Nat) : Int))) (ifB (decide (i < (4 : Nat))) (((0 : Int) < (1000 : Int) ∧ sloop_t0 p) ∧ ifB (decide (Int.ofNat i < (↑(4 : Nat) : Int))) (ifB (decide (i < (4 : Nat))) (ifB (decide ((p.4 i).3 ≥ (0 : Int))) (ifB (decide (Int.ofNat i < (↑(4 : Nat) : Int))) (ifB (decide (i < (4 : Nat))) (ifB (decide (Int.ofNat i < (↑(4 : Nat) : Int))) (ifB (decide (i < (4 : Nat))) (ifB (decide (Int.ofNat i < (↑(4 : Nat) : Int))) (ifB (decide (i < (4 : Nat))) (((0 : Int) < IntKind.i64.wrap ((p.4 i).3 - (p.4 i).2) ∧ sloop_t1 p i) ∧ ifB (decide (Int.ofNat i < (↑(4 : Nat) : Int))) (ifB (decide (i < (4 : Nat))) ((sloop_t2 p i ∧ ifB ((outErr { r := p.1, c := p.2, E := fun (x : Nat) => { kind := (0 : Int), at' := (0 : Int), reason := (0 : Int) : Evt }, n := (0 : Nat), t := IntKind.i64.wrap ((p.4 i).3 - (1 : Int)) : OP } != (0 : Int)) == false) (ifB (decide (Int.ofNat i < (↑(4 : Nat) : Int))) (ifB (decide (i < (4 : Nat)) && true) (ifB (!((outcome { r := p.1, c := p.2, E := fun (x : Nat) => { kind := (0 : Int), at' := (0 : Int), reason := (0 : Int) : Evt }, n := (0 : Nat), t := IntKind.i64.wrap ((p.4 i).3 - (1 : Int)) : OP }).1 == (p.4 i).1 && ((outcome { r := p.1, c := p.2, E := fun (x : Nat) => { kind := (0 : Int), at' := (0 : Int), reason := (0 : Int) : Evt }, n := (0 : Nat), t := IntKind.i64.wrap ((p.4 i).3 - (1 : Int)) : OP }).2 == (p.4 i).2 && ((outcome { r := p.1, c := p.2, E := fun (x : Nat) => { kind := (0 : Int), at' := (0 : Int), reason := (0 : Int) : Evt }, n := (0 : Nat), t := IntKind.i64.wrap ((p.4 i).3 - (1 : Int)) : OP }).3 == (p.4 i).3 && true)))) (Leaf False) (ifB (decide (Int.ofNat i < (↑(4 : Nat) : Int))) (ifB (decide (i < (4 : Nat))) ((sloop_t3 p i ∧ sloop_t4 p i ∧ ifB ((outErr { r := p.1, c := p.2, E := fun (x : Nat) => { kind := (0 : Int), at' := (0 : Int), reason := (0 : Int) : Evt }, n := (0 : Nat), t := (p.4 i).2 : OP } != (0 : Int)) == false) (ifB ((outErr { r := p.1, c := p.2, E := fun (x : Nat) => { kind := (0 : Int), at' := (0 : Int), reason := (0 : Int) : Evt }, n := (0 : Nat), t := IntKind.i64.wrap ((p.4 i).2 + pickN p.3 (IntKind.i64.wrap ((p.4 i).3 - (p.4 i).2))) : OP } != (0 : Int)) == false) (ifB (decide (Int.ofNat i < (↑(4 : Nat) : Int))) (ifB (decide (i < (4 : Nat)) && true) (ifB ((!((outcome { r := p.1, c := p.2, E := fun (x : Nat) => { kind := (0 : Int), at' := (0 : Int), reason := (0 : Int) : Evt }, n := (0 : Nat), t := (p.4 i).2 : OP }).1 == (p.4 i).1 && ((outcome { r := p.1, c := p.2, E := fun (x : Nat) => { kind := (0 : Int), at' := (0 : Int), reason := (0 : Int) : Evt }, n := (0 : Nat), t := (p.4 i).2 : OP }).2 == (p.4 i).2 && ((outcome { r := p.1, c := p.2, E := fun (x : Nat) => { kind := (0 : Int), at' := (0 : Int), reason := (0 : Int) : Evt }, n := (0 : Nat), t := (p.4 i).2 : OP }).3 == (p.4 i).3 && true)))) == false) (ifB (decide (Int.ofNat i < (↑(4 : Nat) : Int))) (ifB (decide (i < (4 : Nat)) && true) (ifB (!((outcome { r := p.1, c := p.2, E := fun (x : Nat) => { kind := (0 : Int), at' := (0 : Int), reason := (0 : Int) : Evt }, n := (0 : Nat), t := IntKind.i64.wrap ((p.4 i).2 + pickN p.3 (IntKind.i64.wrap ((p.4 i).3 - (p.4 i).2))) : OP }).1 == (p.4 i).1 && ((outcome { r := p.1, c := p.2, E := fun (x : Nat) => { kind := (0 : Int), at' := (0 : Int), reason := (0 : Int) : Evt }, n := (0 : Nat), t := IntKind.i64.wrap ((p.4 i).2 + pickN p.3 (IntKind.i64.wrap ((p.4 i).3 - (p.4 i).2))) : OP }).2 == (p.4 i).2 && ((outcome { r := p.1, c := p.2, E := fun (x : Nat) => { kind := (0 : Int), at' := (0 : Int), reason := (0 : Int) : Evt }, n := (0 : Nat), t := IntKind.i64.wrap ((p.4 i).2 + pickN p.3 (IntKind.i64.wrap ((p.4 i).3 - (p.4 i).2))) : OP }).3 == (p.4 i).3 && true)))) (Leaf False) (Leaf (i < (4 : Nat)) ∧ (p.3 = p.3 ∧ true = true ∧ sloop_t5 ∧ sloop_t5 ∧ (4 : Nat) = (4 : Nat) ∧ Int.ofNat (i + (1 : Nat)) = IntKind.i64.wrap (Int.ofNat (i + (1 : Nat))) ∧ True) ∧ sloop_t6 p)) False) False) (Leaf False)) False) False) (Leaf False)) (Leaf False)) ∧ sloop_t3 p i ∧ sloop_t4 p i ∧ ifB ((outErr { r := p.1, c := p.2, E := fun (x : Nat) => { kind := (0 : Int), at' := (0 : Int), reason := (0 : Int) : Evt }, n := (0 : Nat), t := (p.4 i).2 : OP } != (0 : Int)) == false) (ifB ((outErr { r := p.1, c := p.2, E := fun (x : Nat) => { kind := (0 : Int), at' := (0 : Int), reason := (0 : Int) : Evt }, n := (0 : Nat), t := IntKind.i64.wrap ((p.4 i).2 + pickN p.3 (IntKind.i64.wrap ((p.4 i).3 - (p.4 i).2))) : OP } != (0 : Int)) == false) (ifB (decide (Int.ofNat i < (↑(4 : Nat) : Int))) (ifB (decide (i < (4 : Nat)) && true) (ifB ((!((outcome { r := p.1, c := p.2, E := fun (x : Nat) => { kind := (0 : Int), at' := (0 : Int), reason := (0 : Int) : Evt }, n := (0 : Nat), t := (p.4 i).2 : OP }).1 == (p.4 i).1 && ((outcome { r := p.1, c := p.2, E := fun (x : Nat) => { kind := (0 : Int), at' := (0 : Int), reason := (0 : Int) : Evt }, n := (0 : Nat), t := (p.4 i).2 : OP }).2 == (p.4 i).2 && ((outcome { r := p.1, c := p.2, E := fun (x : Nat) => { kind := (0 : Int), at' := (0 : Int), reason := (0 : Int) : Evt }, n := (0 : Nat), t := (p.4 i).2 : OP }).3 == (p.4 i).3 && true)))) == false) (ifB (decide (Int.ofNat i < (↑(4 : Nat) : Int))) (ifB (decide (i < (4 : Nat)) && true) (ifB (!((outcome { r := p.1, c := p.2, E := fun (x : Nat) => { kind := (0 : Int), at' := (0 : Int), reason := (0 : Int) : Evt }, n := (0 : Nat), t := IntKind.i64.wrap ((p.4 i).2 + pickN p.3 (IntKind.i64.wrap ((p.4 i).3 - (p.4 i).2))) : OP }).1 == (p.4 i).1 && ((outcome { r := p.1, c := p.2, E := fun (x : Nat) => { kind := (0 : Int), at' := (0 : Int), reason := (0 : Int) : Evt }, n := (0 : Nat), t := IntKind.i64.wrap ((p.4 i).2 + pickN p.3 (IntKind.i64.wrap ((p.4 i).3 - (p.4 i).2))) : OP }).2 == (p.4 i).2 && ((outcome { r := p.1, c := p.2, E := fun (x : Nat) => { kind := (0 : Int), at' := (0 : Int), reason := (0 : Int) : Evt }, n := (0 : Nat), t := IntKind.i64.wrap ((p.4 i).2 + pickN p.3 (IntKind.i64.wrap ((p.4 i).3 - (p.4 i).2))) : OP }).3 == (p.4 i).3 && true)))) (Leaf False) (Leaf (i < (4 : Nat)) ∧ (p.3 = p.3 ∧ true = true ∧ sloop_t5 ∧ sloop_t5 ∧ (4 : Nat) = (4 : Nat) ∧ Int.ofNat (i + (1 : Nat)) = IntKind.i64.wrap (Int.ofNat (i + (1 : Nat))) ∧ True) ∧ sloop_t6 p)) False) False) (Leaf False)) False) False) (Leaf False)) (Leaf False)) False) False)) False) False) (Leaf False)) ∧ sloop_t2 p i ∧ ifB ((outErr { r := p.1, c := p.2, E := fun (x : Nat) => { kind := (0 : Int), at' := (0 : Int), reason := (0 : Int) : Evt }, n := (0 : Nat), t := IntKind.i64.wrap ((p.4 i).3 - (1 : Int)) : OP } != (0 : Int)) == false) (ifB (decide (Int.ofNat i < (↑(4 : Nat) : Int))) (ifB (decide (i < (4 : Nat)) && true) (ifB (!((outcome { r := p.1, c := p.2, E := fun (x : Nat) => { kind := (0 : Int), at' := (0 : Int), reason := (0 : Int) : Evt }, n := (0 : Nat), t := IntKind.i64.wrap ((p.4 i).3 - (1 : Int)) : OP }).1 == (p.4 i).1 && ((outcome { r := p.1, c := p.2, E := fun (x : Nat) => { kind := (0 : Int), at' := (0 : Int), reason := (0 : Int) : Evt }, n := (0 : Nat), t := IntKind.i64.wrap ((p.4 i).3 - (1 : Int)) : OP }).2 == (p.4 i).2 && ((outcome { r := p.1, c := p.2, E := fun (x : Nat) => { kind := (0 : Int), at' := (0 : Int), reason := (0 : Int) : Evt }, n := (0 : Nat), t := IntKind.i64.wrap ((p.4 i).3 - (1 : Int)) : OP }).3 == (p.4 i).3 && true)))) (Leaf False) (ifB (decide (Int.ofNat i < (↑(4 : Nat) : Int))) (ifB (decide (i < (4 : Nat))) ((sloop_t3 p i ∧ sloop_t4 p i ∧ ifB ((outErr { r := p.1, c := p.2, E := fun (x : Nat) => { kind := (0 : Int), at' := (0 : Int), reason := (0 : Int) : Evt }, n := (0 : Nat), t := (p.4 i).2 : OP } != (0 : Int)) == false) (ifB ((outErr { r := p.1, c := p.2, E := fun (x : Nat) => { kind := (0 : Int), at' := (0 : Int), reason := (0 : Int) : Evt }, n := (0 : Nat), t := IntKind.i64.wrap ((p.4 i).2 + pickN p.3 (IntKind.i64.wrap ((p.4 i).3 - (p.4 i).2))) : OP } != (0 : Int)) == false) (ifB (decide (Int.ofNat i < (↑(4 : Nat) : Int))) (ifB (decide (i < (4 : Nat)) && true) (ifB ((!((outcome { r := p.1, c := p.2, E := fun (x : Nat) => { kind := (0 : Int), at' := (0 : Int), reason := (0 : Int) : Evt }, n := (0 : Nat), t := (p.4 i).2 : OP }).1 == (p.4 i).1 && ((outcome { r := p.1, c := p.2, E := fun (x : Nat) => { kind := (0 : Int), at' := (0 : Int), reason := (0 : Int) : Evt }, n := (0 : Nat), t := (p.4 i).2 : OP }).2 == (p.4 i).2 && ((outcome { r := p.1, c := p.2, E := fun (x : Nat) => { kind := (0 : Int), at' := (0 : Int), reason := (0 : Int) : Evt }, n := (0 : Nat), t := (p.4 i).2 : OP }).3 == (p.4 i).3 && true)))) == false) (ifB (decide (Int.ofNat i < (↑(4 : Nat) : Int))) (ifB (decide (i < (4 : Nat)) && true) (ifB (!((outcome { r := p.1, c := p.2, E := fun (x : Nat) => { kind := (0 : Int), at' := (0 : Int), reason := (0 : Int) : Evt }, n := (0 : Nat), t := IntKind.i64.wrap ((p.4 i).2 + pickN p.3 (IntKind.i64.wrap ((p.4 i).3 - (p.4 i).2))) : OP }).1 == (p.4 i).1 && ((outcome { r := p.1, c := p.2, E := fun (x : Nat) => { kind := (0 : Int), at' := (0 : Int), reason := (0 : Int) : Evt }, n := (0 : Nat), t := IntKind.i64.wrap ((p.4 i).2 + pickN p.3 (IntKind.i64.wrap ((p.4 i).3 - (p.4 i).2))) : OP }).2 == (p.4 i).2 && ((outcome { r := p.1, c := p.2, E := fun (x : Nat) => { kind := (0 : Int), at' := (0 : Int), reason := (0 : Int) : Evt }, n := (0 : Nat), t := IntKind.i64.wrap ((p.4 i).2 + pickN p.3 (IntKind.i64.wrap ((p.4 i).3 - (p.4 i).2))) : OP }).3 == (p.4 i).3 && true)))) (Leaf False) (Leaf (i < (4 : Nat)) ∧ (p.3 = p.3 ∧ true = true ∧ sloop_t5 ∧ sloop_t5 ∧ (4 : Nat) = (4 : Nat) ∧ Int.ofNat (i + (1 : Nat)) = IntKind.i64.wrap (Int.ofNat (i + (1 : Nat))) ∧ True) ∧ sloop_t6 p)) False) False) (Leaf False)) False) False) (Leaf False)) (Leaf False)) ∧ sloop_t3 p i ∧ sloop_t4 p i ∧ ifB ((outErr { r := p.1, c := p.2, E := fun (x : Nat) => { kind := (0 : Int), at' := (0 : Int), reason := (0 : Int) : Evt }, n := (0 : Nat), t := (p.4 i).2 : OP } != (0 : Int)) == false) (ifB ((outErr { r := p.1, c := p.2, E := fun (x : Nat) => { kind := (0 : Int), at' := (0 : Int), reason := (0 : Int) : Evt }, n := (0 : Nat), t := IntKind.i64.wrap ((p.4 i).2 + pickN p.3 (IntKind.i64.wrap ((p.4 i).3 - (p.4 i).2))) : OP } != (0 : Int)) == false) (ifB (decide (Int.ofNat i < (↑(4 : Nat) : Int))) (ifB (decide (i < (4 : Nat)) && true) (ifB ((!((outcome { r := p.1, c := p.2, E := fun (x : Nat) => { kind := (0 : Int), at' := (0 : Int), reason := (0 : Int) : Evt }, n := (0 : Nat), t := (p.4 i).2 : OP }).1 == (p.4 i).1 && ((outcome { r := p.1, c := p.2, E := fun (x : Nat) => { kind := (0 : Int), at' := (0 : Int), reason := (0 : Int) : Evt }, n := (0 : Nat), t := (p.4 i).2 : OP }).2 == (p.4 i).2 && ((outcome { r := p.1, c := p.2, E := fun (x : Nat) => { kind := (0 : Int), at' := (0 : Int), reason := (0 : Int) : Evt }, n := (0 : Nat), t := (p.4 i).2 : OP }).3 == (p.4 i).3 && true)))) == false) (ifB (decide (Int.ofNat i < (↑(4 : Nat) : Int))) (ifB (decide (i < (4 : Nat)) && true) (ifB (!((outcome { r := p.1, c := p.2, E := fun (x : Nat) => { kind := (0 : Int), at' := (0 : Int), reason := (0 : Int) : Evt }, n := (0 : Nat), t := IntKind.i64.wrap ((p.4 i).2 + pickN p.3 (IntKind.i64.wrap ((p.4 i).3 - (p.4 i).2))) : OP }).1 == (p.4 i).1 && ((outcome { r := p.1, c := p.2, E := fun (x : Nat) => { kind := (0 : Int), at' := (0 : Int), reason := (0 : Int) : Evt }, n := (0 : Nat), t := IntKind.i64.wrap ((p.4 i).2 + pickN p.3 (IntKind.i64.wrap ((p.4 i).3 - (p.4 i).2))) : OP }).2 == (p.4 i).2 && ((outcome { r := p.1, c := p.2, E := fun (x : Nat) => { kind := (0 : Int), at' := (0 : Int), reason := (0 : Int) : Evt }, n := (0 : Nat), t := IntKind.i64.wrap ((p.4 i).2 + pickN p.3 (IntKind.i64.wrap ((p.4 i).3 - (p.4 i).2))) : OP }).3 == (p.4 i).3 && true)))) (Leaf False) (Leaf (i < (4 : Nat)) ∧ (p.3 = p.3 ∧ true = true ∧ sloop_t5 ∧ sloop_t5 ∧ (4 : Nat) = (4 : Nat) ∧ Int.ofNat (i + (1 : Nat)) = IntKind.i64.wrap (Int.ofNat (i + (1 : Nat))) ∧ True) ∧ sloop_t6 p)) False) False) (Leaf False)) False) False) (Leaf False)) (Leaf False)) False) False)) False) False) (Leaf False)) False) False) False) False) False) False) False) False) (ifB (decide (Int.ofNat i < (↑(4 : Nat) : Int))) (ifB (decide (i < (4 : Nat))) ((sloop_t3 p i ∧ sloop_t7 p i ∧ ifB ((outErr { r := p.1, c := p.2, E := fun (x : Nat) => { kind := (0 : Int), at' := (0 : Int), reason := (0 : Int) : Evt }, n := (0 : Nat), t := (p.4 i).2 : OP } != (0 : Int)) == false) (ifB ((outErr { r := p.1, c := p.2, E := fun (x : Nat) => { kind := (0 : Int), at' := (0 : Int), reason := (0 : Int) : Evt }, n := (0 : Nat), t := IntKind.i64.wrap ((p.4 i).2 + pickN p.3 (1000 : Int)) : OP } != (0 : Int)) == false) (ifB (decide (Int.ofNat i < (↑(4 : Nat) : Int))) (ifB (decide (i < (4 : Nat)) && true) (ifB ((!((outcome { r := p.1, c := p.2, E := fun (x : Nat) => { kind := (0 : Int), at' := (0 : Int), reason := (0 : Int) : Evt }, n := (0 : Nat), t := (p.4 i).2 : OP }).1 == (p.4 i).1 && ((outcome { r := p.1, c := p.2, E := fun (x : Nat) => { kind := (0 : Int), at' := (0 : Int), reason := (0 : Int) : Evt }, n := (0 : Nat), t := (p.4 i).2 : OP }).2 == (p.4 i).2 && ((outcome { r := p.1, c := p.2, E := fun (x : Nat) => { kind := (0 : Int), at' := (0 : Int), reason := (0 : Int) : Evt }, n := (0 : Nat), t := (p.4 i).2 : OP }).3 == (p.4 i).3 && true)))) == false) (ifB (decide (Int.ofNat i < (↑(4 : Nat) : Int))) (ifB (decide (i < (4 : Nat)) && true) (ifB (!((outcome { r := p.1, c := p.2, E := fun (x : Nat) => { kind := (0 : Int), at' := (0 : Int), reason := (0 : Int) : Evt }, n := (0 : Nat), t := IntKind.i64.wrap ((p.4 i).2 + pickN p.3 (1000 : Int)) : OP }).1 == (p.4 i).1 && ((outcome { r := p.1, c := p.2, E := fun (x : Nat) => { kind := (0 : Int), at' := (0 : Int), reason := (0 : Int) : Evt }, n := (0 : Nat), t := IntKind.i64.wrap ((p.4 i).2 + pickN p.3 (1000 : Int)) : OP }).2 == (p.4 i).2 && ((outcome { r := p.1, c := p.2, E := fun (x : Nat) => { kind := (0 : Int), at' := (0 : Int), reason := (0 : Int) : Evt }, n := (0 : Nat), t := IntKind.i64.wrap ((p.4 i).2 + pickN p.3 (1000 : Int)) : OP }).3 == (p.4 i).3 && true)))) (Leaf False) (Leaf (i < (4 : Nat)) ∧ (p.3 = p.3 ∧ true = true ∧ sloop_t5 ∧ sloop_t5 ∧ (4 : Nat) = (4 : Nat) ∧ Int.ofNat (i + (1 : Nat)) = IntKind.i64.wrap (Int.ofNat (i + (1 : Nat))) ∧ True) ∧ sloop_t6 p)) False) False) (Leaf False)) False) False) (Leaf False)) (Leaf False)) ∧ sloop_t3 p i ∧ sloop_t7 p i ∧ ifB ((outErr { r := p.1, c := p.2, E := fun (x : Nat) => { kind := (0 : Int), at' := (0 : Int), reason := (0 : Int) : Evt }, n := (0 : Nat), t := (p.4 i).2 : OP } != (0 : Int)) == false) (ifB ((outErr { r := p.1, c := p.2, E := fun (x : Nat) => { kind := (0 : Int), at' := (0 : Int), reason := (0 : Int) : Evt }, n := (0 : Nat), t := IntKind.i64.wrap ((p.4 i).2 + pickN p.3 (1000 : Int)) : OP } != (0 : Int)) == false) (ifB (decide (Int.ofNat i < (↑(4 : Nat) : Int))) (ifB (decide (i < (4 : Nat)) && true) (ifB ((!((outcome { r := p.1, c := p.2, E := fun (x : Nat) => { kind := (0 : Int), at' := (0 : Int), reason := (0 : Int) : Evt }, n := (0 : Nat), t := (p.4 i).2 : OP }).1 == (p.4 i).1 && ((outcome { r := p.1, c := p.2, E := fun (x : Nat) => { kind := (0 : Int), at' := (0 : Int), reason := (0 : Int) : Evt }, n := (0 : Nat), t := (p.4 i).2 : OP }).2 == (p.4 i).2 && ((outcome { r := p.1, c := p.2, E := fun (x : Nat) => { kind := (0 : Int), at' := (0 : Int), reason := (0 : Int) : Evt }, n := (0 : Nat), t := (p.4 i).2 : OP }).3 == (p.4 i).3 && true)))) == false) (ifB (decide (Int.ofNat i < (↑(4 : Nat) : Int))) (ifB (decide (i < (4 : Nat)) && true) (ifB (!((outcome { r := p.1, c := p.2, E := fun (x : Nat) => { kind := (0 : Int), at' := (0 : Int), reason := (0 : Int) : Evt }, n := (0 : Nat), t := IntKind.i64.wrap ((p.4 i).2 + pickN p.3 (1000 : Int)) : OP }).1 == (p.4 i).1 && ((outcome { r := p.1, c := p.2, E := fun (x : Nat) => { kind := (0 : Int), at' := (0 : Int), reason := (0 : Int) : Evt }, n := (0 : Nat), t := IntKind.i64.wrap ((p.4 i).2 + pickN p.3 (1000 : Int)) : OP }).2 == (p.4 i).2 && ((outcome { r := p.1, c := p.2, E := fun (x : Nat) => { kind := (0 : Int), at' := (0 : Int), reason := (0 : Int) : Evt }, n := (0 : Nat), t := IntKind.i64.wrap ((p.4 i).2 + pickN p.3 (1000 : Int)) : OP }).3 == (p.4 i).3 && true)))) (Leaf False) (Leaf (i < (4 : Nat)) ∧ (p.3 = p.3 ∧ true = true ∧ sloop_t5 ∧ sloop_t5 ∧ (4 : Nat) = (4 : Nat) ∧ Int.ofNat (i + (1 : Nat)) = IntKind.i64.wrap (Int.ofNat (i + (1 : Nat))) ∧ True) ∧ sloop_t6 p)) False) False) (Leaf False)) False) False) (Leaf False)) (Leaf False)) False) False)) False) False) False) False) (sloop_t8 p)
theorem sloop_eq (p : SQ) (i : Nat) : exec XL 60 4 lS.code (lS.I p i) (zS p i) = sloop_T p i := by kernel_rfl

def noE : Nat → Evt := fun _ => ⟨0, 0, 0⟩
theorem silent_good {r : Rul} {c : Clm} (hr : r.small) (hc : c.ok = true) : Good r c noE 0 := ⟨hr, (CP.ok_iff _).2 ⟨hr.ok, hc, Nat.zero_le _, fun j hj => absurd hj (Nat.not_lt_zero j)⟩⟩
theorem silent_out {r : Rul} {c : Clm} (hr : r.small) (hc : c.ok = true) (ha : 0 ≤ c.asked ∧ c.asked ≤ 999) {j : Nat} (hj : j < 4) {u : Int} (h0 : (silent r c j).since ≤ u) (h1 : (silent r c j).next < 0 ∨ u < (silent r c j).next) (hb : u ≤ 20000000) :
    outErr ⟨r, c, noE, 0, u⟩ = 0 ∧ outcome ⟨r, c, noE, 0, u⟩ = silent r c j := by
  have hr' := hr
  obtain ⟨r1, r2, r3, r4⟩ := hr'
  have hg := silent_good hr hc
  have hs : c.asked ≤ (silent r c j).since := by
    unfold silent
    repeat' split
    all_goals dsimp only
    all_goals omega
  obtain ⟨o1, o2⟩ := hg.out (t := u) (by omega) hb
  refine ⟨o1, ?_⟩
  rw [o2]
  show goN r u 4 (begins r 1 c.asked) = _
  rw [beg1 hr (by omega) (by omega)]
  obtain rfl | rfl | rfl | rfl : j = 0 ∨ j = 1 ∨ j = 2 ∨ j = 3 := by omega
  · simp only [silent, if_true] at h0 h1 ⊢
    exact goN_halt (by dsimp only; omega)
  · simp [silent] at h0 h1 ⊢
    rw [goN_go (by dsimp only; omega) (by dsimp only; omega), st1 hr (by omega) (by omega)]
    exact goN_halt (by dsimp only; omega)
  · simp [silent] at h0 h1 ⊢
    rw [goN_go (by dsimp only; omega) (by dsimp only; omega), st1 hr (by omega) (by omega), goN_go (by dsimp only; omega) (by dsimp only; omega), st3 hr (by omega) (by omega)]
    exact goN_halt (by dsimp only; omega)
  · simp [silent] at h0 h1 ⊢
    rw [goN_go (by dsimp only; omega) (by dsimp only; omega), st1 hr (by omega) (by omega), goN_go (by dsimp only; omega) (by dsimp only; omega), st3 hr (by omega) (by omega), goN_go (by dsimp only; omega) (by dsimp only; omega), st4 hr (by omega) (by omega)]
    exact goN_halt (by dsimp only; omega)
theorem silent_b {r : Rul} {c : Clm} (hr : r.small) (ha : 0 ≤ c.asked ∧ c.asked ≤ 999) (j : Nat) : 0 ≤ (silent r c j).since ∧ (silent r c j).since ≤ 1000000 ∧ ((silent r c j).next = -1 ∨ ((silent r c j).since < (silent r c j).next ∧ (silent r c j).next ≤ 1000000)) := by
  obtain ⟨r1, r2, r3, r4⟩ := hr
  unfold silent
  repeat' split
  all_goals dsimp only
  all_goals omega
set_option maxHeartbeats 4000000 in
theorem sloop_step (p : SQ) (i : Nat) (hJ : lS_J p i) : sloop_T p i := by
  obtain ⟨h1, hr, hc, ha, ht, hW⟩ := hJ
  have hs : i < 4 → 0 ≤ (p.W i).since ∧ (p.W i).since ≤ 1000000 ∧ ((p.W i).next = -1 ∨ ((p.W i).since < (p.W i).next ∧ (p.W i).next ≤ 1000000)) := fun h => by rw [hW i h]; exact silent_b hr ha i
  have ho : ∀ u, i < 4 → (p.W i).since ≤ u → ((p.W i).next < 0 ∨ u < (p.W i).next) → u ≤ 20000000 → outErr ⟨p.r, p.c, noE, 0, u⟩ = 0 ∧ outcome ⟨p.r, p.c, noE, 0, u⟩ = p.W i := fun u h a b c => by
    rw [hW i h] at a b ⊢
    exact silent_out hr hc ha h a b c
  have e1 : i < 4 → 0 ≤ (p.W i).next → outErr ⟨p.r, p.c, noE, 0, IntKind.i64.wrap ((p.W i).next - 1)⟩ = 0 ∧ outcome ⟨p.r, p.c, noE, 0, IntKind.i64.wrap ((p.W i).next - 1)⟩ = p.W i := fun h hn => by
    have := hs h
    have hw : IntKind.i64.wrap ((p.W i).next - 1) = (p.W i).next - 1 := w64_small (by omega) (by omega)
    rw [hw]
    exact ho _ h (by omega) (by omega) (by omega)
  have e2 : i < 4 → outErr ⟨p.r, p.c, noE, 0, (p.W i).since⟩ = 0 ∧ outcome ⟨p.r, p.c, noE, 0, (p.W i).since⟩ = p.W i := fun h => by
    have := hs h
    exact ho _ h (by omega) (by omega) (by omega)
  have e3 : i < 4 → 0 ≤ (p.W i).next → outErr ⟨p.r, p.c, noE, 0, IntKind.i64.wrap ((p.W i).since + pickN p.t (IntKind.i64.wrap ((p.W i).next - (p.W i).since)))⟩ = 0 ∧ outcome ⟨p.r, p.c, noE, 0, IntKind.i64.wrap ((p.W i).since + pickN p.t (IntKind.i64.wrap ((p.W i).next - (p.W i).since)))⟩ = p.W i := fun h hn => by
    have := hs h
    have hw : IntKind.i64.wrap ((p.W i).next - (p.W i).since) = (p.W i).next - (p.W i).since := w64_small (by omega) (by omega)
    rw [hw]
    have hp := pickN_b ht (n := (p.W i).next - (p.W i).since) (by omega)
    have hw2 : IntKind.i64.wrap ((p.W i).since + pickN p.t ((p.W i).next - (p.W i).since)) = (p.W i).since + pickN p.t ((p.W i).next - (p.W i).since) := w64_small (by omega) (by omega)
    rw [hw2]
    exact ho _ h (by omega) (by omega) (by omega)
  have e4 : i < 4 → ¬ 0 ≤ (p.W i).next → outErr ⟨p.r, p.c, noE, 0, IntKind.i64.wrap ((p.W i).since + pickN p.t 1000)⟩ = 0 ∧ outcome ⟨p.r, p.c, noE, 0, IntKind.i64.wrap ((p.W i).since + pickN p.t 1000)⟩ = p.W i := fun h hn => by
    have := hs h
    have hp := pickN_b ht (n := 1000) (by omega)
    have hw2 : IntKind.i64.wrap ((p.W i).since + pickN p.t 1000) = (p.W i).since + pickN p.t 1000 := w64_small (by omega) (by omega)
    rw [hw2]
    exact ho _ h (by omega) (by omega) (by omega)
  have e5 : i < 4 → 0 ≤ (p.W i).next → 0 < IntKind.i64.wrap ((p.W i).next - (p.W i).since) := fun h hn => by
    have := hs h
    have hw : IntKind.i64.wrap ((p.W i).next - (p.W i).since) = (p.W i).next - (p.W i).since := w64_small (by omega) (by omega)
    rw [hw]; omega
  have e6 : IntKind.i64.wrap (Int.ofNat (i + 1)) = Int.ofNat (i + 1) := wrapSmall (by simp only [Int.ofNat_eq_natCast]; omega) (by simp only [Int.ofNat_eq_natCast]; omega)
  have hE : (fun _ : Nat => (⟨0, 0, 0⟩ : Evt)) = noE := rfl
  rcases Nat.lt_or_ge i 4 with hi | hi
  · rcases Int.lt_or_le (p.W i).next 0 with hn | hn
    · have e2 := e2 hi
      have e4 := e4 hi (by omega)
      unfold sloop_T
      simp only [hE, e2.1, e2.2, e4.1, e4.2, e6]
      repeat' (first | with_reducible refine ifB_split (fun _ => ?_) (fun _ => ?_) | with_reducible refine And.intro ?_ ?_)
      all_goals try first | with_reducible exact sloop_t0_t _ | with_reducible exact sloop_t1_t _ _ | with_reducible exact sloop_t2_t _ _ | with_reducible exact sloop_t3_t _ _ | with_reducible exact sloop_t4_t _ _ | with_reducible exact sloop_t5_t | with_reducible exact sloop_t6_t _ | with_reducible exact sloop_t7_t _ _ | with_reducible exact sloop_t8_t _ | with_reducible rfl | with_reducible exact trivial | with_reducible exact List.Perm.refl _
      all_goals first
        | decide
        | exact e6.symm
        | rfl
        | (simp [Leaf] at *; done)
        | (simp [Leaf] at *; omega)
        | trace_state
    · have e1 := e1 hi hn
      have e2 := e2 hi
      have e3 := e3 hi hn
      have e5 := e5 hi hn
      unfold sloop_T
      simp only [hE, e1.1, e1.2, e2.1, e2.2, e3.1, e3.2, e6]
      repeat' (first | with_reducible refine ifB_split (fun _ => ?_) (fun _ => ?_) | with_reducible refine And.intro ?_ ?_)
      all_goals try first | with_reducible exact sloop_t0_t _ | with_reducible exact sloop_t1_t _ _ | with_reducible exact sloop_t2_t _ _ | with_reducible exact sloop_t3_t _ _ | with_reducible exact sloop_t4_t _ _ | with_reducible exact sloop_t5_t | with_reducible exact sloop_t6_t _ | with_reducible exact sloop_t7_t _ _ | with_reducible exact sloop_t8_t _ | with_reducible rfl | with_reducible exact trivial | with_reducible exact List.Perm.refl _
      all_goals first
        | decide
        | exact e5
        | exact e6.symm
        | rfl
        | (simp [Leaf] at *; done)
        | (simp [Leaf] at *; omega)
        | trace_state
  · unfold sloop_T
    repeat' (first | with_reducible refine ifB_split (fun _ => ?_) (fun _ => ?_) | with_reducible refine And.intro ?_ ?_)
    all_goals try first | with_reducible exact sloop_t0_t _ | with_reducible exact sloop_t1_t _ _ | with_reducible exact sloop_t2_t _ _ | with_reducible exact sloop_t3_t _ _ | with_reducible exact sloop_t4_t _ _ | with_reducible exact sloop_t5_t | with_reducible exact sloop_t6_t _ | with_reducible exact sloop_t7_t _ _ | with_reducible exact sloop_t8_t _ | with_reducible rfl | with_reducible exact trivial | with_reducible exact List.Perm.refl _
    all_goals first
      | rfl
      | (simp only [Int.ofNat_eq_natCast, decide_eq_true_eq] at *; omega)
      | trace_state
end Go.Proofs.Ytmcidfecepknpaa

namespace Go.Proofs.Ytmcidfecepknpaa
open Go Go.Sh Go.Proofs
set_option linter.unusedVariables false
set_option linter.unusedSimpArgs false

set_option maxRecDepth 100000 in
theorem sloop_ok : LoopOK XL.P lS.code lS.L := by
  refine lS.ok XL_ok 60 4 (fun p i => 4 - i) zS (fun _ _ _ => trivial) (fun p d w q hw => ?_) (fun p i S' hJ h => ?_) (fun p i x S' hx hJ h => ?_) fun p i hJ => ?_
  · match w, hw with
    | 0, _ => exact trivial
  · obtain ⟨h1, h2⟩ := h
    simp only [Leaf] at h1
    obtain ⟨j1, j2⟩ := hJ
    exact ⟨[], i + 1, by show 4 - (i + 1) < 4 - i; omega, ⟨h1, j2⟩, h2⟩
  · cases x with
    | normal => exact hx.elim
    | ret => exact (show False from h).elim
    | exit k =>
      obtain ⟨h0, h2⟩ := gateB_spec h
      have h0 := Nat.eq_of_beq_eq_true h0
      subst h0
      exact ⟨0, 0, [], Nat.lt_succ_self 0, trivial, rfl, h2⟩
  · rw [sloop_eq]
    exact sloop_step p i hJ
noncomputable def XSil (r : Rul) (c : Clm) (E : Nat → Evt) (n : Nat) : Ctx := (XG r c E n).loop 4 11 lS.code (lS.by exS)
theorem XSil_ok (r : Rul) (c : Clm) (E : Nat → Evt) (n : Nat) : (XSil r c E n).OK := Ctx.loop_ok (XG_ok r c E n) (sloop_ok.by exS)
/-- A law's contract, from its run in a context of its own. -/
theorem lawX {π : Type} {f : FuncId} {s : FSpec π} (X : Rul → Clm → (Nat → Evt) → Nat → Ctx) (hX : ∀ r c E n, (X r c E n).OK) (hP : ∀ r c E n, (X r c E n).P = Try.prog) (N : Nat) (T : π → Rul → Clm → (Nat → Evt) → Nat → Prop)
    (eq : ∀ p r c E n, callBy (X r c E n) (exec (X r c E n) N) f (s.A p) (s.H p) (RetC (s.H p).length (s.R p) (s.O p)) = T p r c E n)
    (views : ∀ p, viewsB (s.H p) = true) (hO : ∀ p, s.O p = []) (g : π → NP) (run : ∀ p, s.J p → T p (mR (g p)) (mC (g p)) (mE (g p)) (mN (g p))) : s.OK Try.prog f :=
  ⟨views, fun p _ o ho => (by rw [hO] at ho; cases ho), fun p hJ => by
    have := (callBy_ok (hX _ _ _ _) (exec_sound (hX _ _ _ _) N) _ _ _ _ ((eq p _ _ _ _).mpr (run p hJ))).mono fun _ _ => RetC.wk
    rw [hP] at this
    exact this⟩
end Go.Proofs.Ytmcidfecepknpaa

namespace Go.Proofs.Ytmcidfecepknpaa
open Go Go.Sh Go.Proofs
set_option linter.unusedVariables false
set_option linter.unusedSimpArgs false
def silence_t0 : Prop :=
  True ∧ (0 : Nat) = (0 : Nat) ∧ True ∧ True
theorem silence_t0_t : silence_t0 :=
  ⟨trivial, ⟨rfl, ⟨trivial, trivial⟩⟩⟩
def silence_t1 (p : TX) : Prop :=
  (1 : Nat) = (1 : Nat) ∧ ((p.1.1.1 = p.1.1.1 ∧ p.1.1.2 = p.1.1.2 ∧ p.1.1.3 = p.1.1.3 ∧ p.1.1.4 = p.1.1.4 ∧ p.1.2 = p.1.2 ∧ p.1.3 = p.1.3 ∧ p.1.4 = p.1.4 ∧ p.1.5 = p.1.5 ∧ p.1.6 = p.1.6 ∧ p.1.7 = p.1.7 ∧ (0 : Nat) = (0 : Nat) ∧ True) ∧ True) ∧ (0 : Nat) = (0 : Nat) ∧ True
theorem silence_t1_t (p : TX) : silence_t1 p :=
  ⟨rfl, ⟨⟨⟨rfl, ⟨rfl, ⟨rfl, ⟨rfl, ⟨rfl, ⟨rfl, ⟨rfl, ⟨rfl, ⟨rfl, ⟨rfl, ⟨rfl, trivial⟩⟩⟩⟩⟩⟩⟩⟩⟩⟩⟩, trivial⟩, ⟨rfl, trivial⟩⟩⟩
def silence_t2 (p : TX) : Prop :=
  p.2 = p.2 ∧ true = true ∧ ((0 : Nat) = (0 : Nat) ∧ (0 : Nat) = (0 : Nat)) ∧ ((0 : Nat) = (0 : Nat) ∧ (0 : Nat) = (0 : Nat)) ∧ (4 : Nat) = (4 : Nat) ∧ (0 : Int) = (0 : Int) ∧ True
theorem silence_t2_t (p : TX) : silence_t2 p :=
  ⟨rfl, ⟨rfl, ⟨⟨rfl, rfl⟩, ⟨⟨rfl, rfl⟩, ⟨rfl, ⟨rfl, trivial⟩⟩⟩⟩⟩⟩
def silence_t3 (r : Rul) : Prop :=
  (1 : Nat) = (1 : Nat) ∧ ∀ (i : Nat), i < (1 : Nat) → r.1 = r.1 ∧ r.2 = r.2 ∧ r.3 = r.3 ∧ r.4 = r.4 ∧ True
theorem silence_t3_t (r : Rul) : silence_t3 r :=
  ⟨rfl, (fun _ => (fun _ => ⟨rfl, ⟨rfl, ⟨rfl, ⟨rfl, trivial⟩⟩⟩⟩))⟩
def silence_t4 (c : Clm) : Prop :=
  (1 : Nat) = (1 : Nat) ∧ ∀ (i : Nat), i < (1 : Nat) → c.1 = c.1 ∧ c.2 = c.2 ∧ c.3 = c.3 ∧ c.4 = c.4 ∧ c.5 = c.5 ∧ c.6 = c.6 ∧ True
theorem silence_t4_t (c : Clm) : silence_t4 c :=
  ⟨rfl, (fun _ => (fun _ => ⟨rfl, ⟨rfl, ⟨rfl, ⟨rfl, ⟨rfl, ⟨rfl, trivial⟩⟩⟩⟩⟩⟩))⟩
def silence_t5 (r : Rul) (c : Clm) : Prop :=
  True ∧ (1 : Nat) = (1 : Nat) ∧ ((r.1 = r.1 ∧ r.2 = r.2 ∧ r.3 = r.3 ∧ r.4 = r.4 ∧ True) ∧ (c.1 = c.1 ∧ c.2 = c.2 ∧ c.3 = c.3 ∧ c.4 = c.4 ∧ c.5 = c.5 ∧ c.6 = c.6 ∧ True) ∧ (0 : Nat) = (0 : Nat) ∧ IntKind.i64.wrap (c.5 - (1 : Int)) = IntKind.i64.wrap (c.5 - (1 : Int)) ∧ True) ∧ (0 : Nat) = (0 : Nat) ∧ True
theorem silence_t5_t (r : Rul) (c : Clm) : silence_t5 r c :=
  ⟨trivial, ⟨rfl, ⟨⟨⟨rfl, ⟨rfl, ⟨rfl, ⟨rfl, trivial⟩⟩⟩⟩, ⟨⟨rfl, ⟨rfl, ⟨rfl, ⟨rfl, ⟨rfl, ⟨rfl, trivial⟩⟩⟩⟩⟩⟩, ⟨rfl, ⟨rfl, trivial⟩⟩⟩⟩, ⟨rfl, trivial⟩⟩⟩⟩
def silence_T (p : TX) (r : Rul) (c : Clm) (E : Nat → Evt) (n : Nat) : Prop :=
  silence_t0 ∧
  silence_t1 p ∧
    mEq_J { x := p.1.1, y0 := p.1.2, y1 := p.1.3, y2 := p.1.4, y3 := p.1.5, y4 := p.1.6, y5 := p.1.7, Z := fun (x : Nat) => { a := (0 : Int), b := (0 : Int), c := (0 : Int) : Z3 }, n := (0 : Nat) : NP } r c E n ∧
      lS.code = lS.code ∧
        (lS_J { r := r, c := c, t := p.2, W := fun (i : Nat) => Sta.ofC (List.take (3 : Nat) (List.drop (i * (3 : Nat)) [SV.int IntKind.i64 (1 : Int), SV.int IntKind.i64 c.5, SV.int IntKind.i64 (IntKind.i64.wrap (c.5 + r.1)), SV.int IntKind.i64 (3 : Int), SV.int IntKind.i64 (IntKind.i64.wrap (c.5 + r.1)), SV.int IntKind.i64 (IntKind.i64.wrap (IntKind.i64.wrap (c.5 + r.1) + r.2)), SV.int IntKind.i64 (4 : Int), SV.int IntKind.i64 (IntKind.i64.wrap (IntKind.i64.wrap (c.5 + r.1) + r.2)), SV.int IntKind.i64 (IntKind.i64.wrap (IntKind.i64.wrap (IntKind.i64.wrap (c.5 + r.1) + r.2) + r.4)), SV.int IntKind.i64 (5 : Int), SV.int IntKind.i64 (IntKind.i64.wrap (IntKind.i64.wrap (IntKind.i64.wrap (c.5 + r.1) + r.2) + r.4)), SV.int IntKind.i64 (-1 : Int)])) : SQ } (0 : Nat) ∧
            (6 : Nat) = (6 : Nat) ∧
              True ∧
                silence_t2 p ∧
                  silence_t3 r ∧
                    silence_t4 c ∧
                      ((4 : Nat) = (4 : Nat) ∧
                          ∀ (i : Nat),
                            i < (4 : Nat) →
                              wkVs
                                (fun (l : Nat) =>
                                  match decide (l < (6 : Nat)) with
                                  | true => some l
                                  | false => none)
                                (fun (l : Nat) =>
                                  match decide (l < (6 : Nat)) with
                                  | true => false
                                  | false => false)
                                [SV.int IntKind.i64 (Sta.ofC (List.take (3 : Nat) (List.drop (i * (3 : Nat)) [SV.int IntKind.i64 (1 : Int), SV.int IntKind.i64 c.5, SV.int IntKind.i64 (IntKind.i64.wrap (c.5 + r.1)), SV.int IntKind.i64 (3 : Int), SV.int IntKind.i64 (IntKind.i64.wrap (c.5 + r.1)), SV.int IntKind.i64 (IntKind.i64.wrap (IntKind.i64.wrap (c.5 + r.1) + r.2)), SV.int IntKind.i64 (4 : Int), SV.int IntKind.i64 (IntKind.i64.wrap (IntKind.i64.wrap (c.5 + r.1) + r.2)), SV.int IntKind.i64 (IntKind.i64.wrap (IntKind.i64.wrap (IntKind.i64.wrap (c.5 + r.1) + r.2) + r.4)), SV.int IntKind.i64 (5 : Int), SV.int IntKind.i64 (IntKind.i64.wrap (IntKind.i64.wrap (IntKind.i64.wrap (c.5 + r.1) + r.2) + r.4)), SV.int IntKind.i64 (-1 : Int)]))).1, SV.int IntKind.i64 (Sta.ofC (List.take (3 : Nat) (List.drop (i * (3 : Nat)) [SV.int IntKind.i64 (1 : Int), SV.int IntKind.i64 c.5, SV.int IntKind.i64 (IntKind.i64.wrap (c.5 + r.1)), SV.int IntKind.i64 (3 : Int), SV.int IntKind.i64 (IntKind.i64.wrap (c.5 + r.1)), SV.int IntKind.i64 (IntKind.i64.wrap (IntKind.i64.wrap (c.5 + r.1) + r.2)), SV.int IntKind.i64 (4 : Int), SV.int IntKind.i64 (IntKind.i64.wrap (IntKind.i64.wrap (c.5 + r.1) + r.2)), SV.int IntKind.i64 (IntKind.i64.wrap (IntKind.i64.wrap (IntKind.i64.wrap (c.5 + r.1) + r.2) + r.4)), SV.int IntKind.i64 (5 : Int), SV.int IntKind.i64 (IntKind.i64.wrap (IntKind.i64.wrap (IntKind.i64.wrap (c.5 + r.1) + r.2) + r.4)), SV.int IntKind.i64 (-1 : Int)]))).2, SV.int IntKind.i64 (Sta.ofC (List.take (3 : Nat) (List.drop (i * (3 : Nat)) [SV.int IntKind.i64 (1 : Int), SV.int IntKind.i64 c.5, SV.int IntKind.i64 (IntKind.i64.wrap (c.5 + r.1)), SV.int IntKind.i64 (3 : Int), SV.int IntKind.i64 (IntKind.i64.wrap (c.5 + r.1)), SV.int IntKind.i64 (IntKind.i64.wrap (IntKind.i64.wrap (c.5 + r.1) + r.2)), SV.int IntKind.i64 (4 : Int), SV.int IntKind.i64 (IntKind.i64.wrap (IntKind.i64.wrap (c.5 + r.1) + r.2)), SV.int IntKind.i64 (IntKind.i64.wrap (IntKind.i64.wrap (IntKind.i64.wrap (c.5 + r.1) + r.2) + r.4)), SV.int IntKind.i64 (5 : Int), SV.int IntKind.i64 (IntKind.i64.wrap (IntKind.i64.wrap (IntKind.i64.wrap (c.5 + r.1) + r.2) + r.4)), SV.int IntKind.i64 (-1 : Int)]))).3] (List.take (3 : Nat) (List.drop (i * (3 : Nat)) [SV.int IntKind.i64 (1 : Int), SV.int IntKind.i64 c.5, SV.int IntKind.i64 (IntKind.i64.wrap (c.5 + r.1)), SV.int IntKind.i64 (3 : Int), SV.int IntKind.i64 (IntKind.i64.wrap (c.5 + r.1)), SV.int IntKind.i64 (IntKind.i64.wrap (IntKind.i64.wrap (c.5 + r.1) + r.2)), SV.int IntKind.i64 (4 : Int), SV.int IntKind.i64 (IntKind.i64.wrap (IntKind.i64.wrap (c.5 + r.1) + r.2)), SV.int IntKind.i64 (IntKind.i64.wrap (IntKind.i64.wrap (IntKind.i64.wrap (c.5 + r.1) + r.2) + r.4)), SV.int IntKind.i64 (5 : Int), SV.int IntKind.i64 (IntKind.i64.wrap (IntKind.i64.wrap (IntKind.i64.wrap (c.5 + r.1) + r.2) + r.4)), SV.int IntKind.i64 (-1 : Int)]))) ∧
                        True) ∧
          True ∧ ∀ (q : Nat), Leaf True → ifB (decide (c.5 > (0 : Int))) (silence_t5 r c ∧ ifB ((outErr { r := r, c := c, E := fun (x : Nat) => { kind := (0 : Int), at' := (0 : Int), reason := (0 : Int) : Evt }, n := (0 : Nat), t := IntKind.i64.wrap (c.5 - (1 : Int)) : OP } == (0 : Int)) == true) (true = ((outcome { r := r, c := c, E := fun (x : Nat) => { kind := (0 : Int), at' := (0 : Int), reason := (0 : Int) : Evt }, n := (0 : Nat), t := IntKind.i64.wrap (c.5 - (1 : Int)) : OP }).1 == (0 : Int) && ((outcome { r := r, c := c, E := fun (x : Nat) => { kind := (0 : Int), at' := (0 : Int), reason := (0 : Int) : Evt }, n := (0 : Nat), t := IntKind.i64.wrap (c.5 - (1 : Int)) : OP }).2 == (0 : Int) && ((outcome { r := r, c := c, E := fun (x : Nat) => { kind := (0 : Int), at' := (0 : Int), reason := (0 : Int) : Evt }, n := (0 : Nat), t := IntKind.i64.wrap (c.5 - (1 : Int)) : OP }).3 == c.5 && true))) ∧ True) (true = false ∧ True)) (true = true ∧ True)
theorem silence_eq (p : TX) (r : Rul) (c : Clm) (E : Nat → Evt) (n : Nat) : callBy (XSil r c E n) (exec (XSil r c E n) 100) 4 (sSilence.A p) (sSilence.H p) (RetC (sSilence.H p).length (sSilence.R p) (sSilence.O p)) = silence_T p r c E n := by kernel_rfl

theorem Good.early {r : Rul} {c : Clm} {E : Nat → Evt} {n : Nat} (h : Good r c E n) {t : Int} (h0 : 0 ≤ t) (ht : t < c.asked) : outErr ⟨r, c, E, n, t⟩ = 0 ∧ outcome ⟨r, c, E, n, t⟩ = ⟨0, 0, c.asked⟩ := by
  have ha := h.asked
  have hok : OP.ok ⟨r, c, E, n, t⟩ = true := by
    unfold OP.ok
    rw [show OP.cp ⟨r, c, E, n, t⟩ = ⟨r, c, E, n⟩ from rfl, h.ok, decide_eq_true (p := 0 ≤ t) h0, decide_eq_true (p := t ≤ 20000000) (by omega)]
    rfl
  refine ⟨by simp only [outErr, hok], ?_⟩
  simp only [outcome, hok, outT]
  rw [decide_eq_true ht]
def noEv (x : NP) : NP := ⟨x.x, x.y0, x.y1, x.y2, x.y3, x.y4, x.y5, fun _ => ⟨0, 0, 0⟩, 0⟩
theorem noEv_fits {x : NP} (h : x.fits) : (noEv x).fits := ⟨h.a, h.b, h.c, h.d, h.y0, h.y1, h.y2, h.y3, h.y4, h.y5, fun i hi => absurd hi (Nat.not_lt_zero i)⟩
set_option maxHeartbeats 4000000 in
theorem silence_step (p : TX) (hJ : sSilence.J p) : silence_T p (mR (noEv p.x)) (mC (noEv p.x)) (mE (noEv p.x)) (mN (noEv p.x)) := by
  obtain ⟨hx, ht⟩ := hJ
  have hx' := noEv_fits hx
  obtain ⟨hg, hn, ha⟩ := made_good hx'
  have hm : mEq_J (noEv p.x) (mR (noEv p.x)) (mC (noEv p.x)) (mE (noEv p.x)) (mN (noEv p.x)) := ⟨rfl, rfl, rfl, rfl⟩
  have hask := (mC_ok hx').2
  have hcok := (mC_ok hx').1
  generalize mR (noEv p.x) = r at hg hm ⊢
  generalize mC (noEv p.x) = c at hg hm ha hask hcok ⊢
  generalize mE (noEv p.x) = E at hg hm ⊢
  generalize mN (noEv p.x) = n at hg hm hn ⊢
  have hr := hg.small
  obtain ⟨r1, r2, r3, r4⟩ := hg.small
  have w1 : IntKind.i64.wrap (c.asked + r.answer) = c.asked + r.answer := w64_small (by omega) (by omega)
  have w2 : IntKind.i64.wrap (c.asked + r.answer + r.cooling) = c.asked + r.answer + r.cooling := w64_small (by omega) (by omega)
  have w3 : IntKind.i64.wrap (c.asked + r.answer + r.cooling + r.reverse) = c.asked + r.answer + r.cooling + r.reverse := w64_small (by omega) (by omega)
  have w4 : IntKind.i64.wrap (c.asked - 1) = c.asked - 1 := w64_small (by omega) (by omega)
  have hE : (fun _ : Nat => (⟨0, 0, 0⟩ : Evt)) = noE := rfl
  have he : 0 < c.asked → outErr ⟨r, c, noE, 0, c.asked - 1⟩ = 0 ∧ outcome ⟨r, c, noE, 0, c.asked - 1⟩ = ⟨0, 0, c.asked⟩ := fun h => (silent_good hr hcok).early (by omega) (by omega)
  unfold silence_T
  simp only [w1, w2, w3, w4, hE]
  repeat' (first | with_reducible refine ifB_split (fun _ => ?_) (fun _ => ?_) | with_reducible refine And.intro ?_ ?_ | with_reducible refine fun (q : Nat) (hq : Leaf True) => ?_)
  all_goals try first | with_reducible exact silence_t0_t | with_reducible exact silence_t1_t _ | with_reducible exact silence_t2_t _ | with_reducible exact silence_t3_t _ | with_reducible exact silence_t4_t _ | with_reducible exact silence_t5_t _ _ | with_reducible rfl | with_reducible exact trivial | with_reducible exact List.Perm.refl _ | decide
  all_goals first
    | exact hm
    | (refine ⟨Nat.zero_le _, hr, hcok, hask, ht, fun j hj => ?_⟩
       obtain rfl | rfl | rfl | rfl : j = 0 ∨ j = 1 ∨ j = 2 ∨ j = 3 := by omega
       all_goals rfl)
    | (intro i hi
       obtain rfl | rfl | rfl | rfl : i = 0 ∨ i = 1 ∨ i = 2 ∨ i = 3 := by omega
       all_goals exact ⟨rfl, rfl, rfl, trivial⟩)
    | (have hpos : 0 < c.asked := by simp only [gt_iff_lt, decide_eq_true_eq] at *; assumption
       have he := he hpos
       simp only [he.1, he.2] at *
       simp at *; done)
    | (simp at *; done)
    | trace_state
theorem silence_ok : sSilence.OK Try.prog 4 := lawX XSil XSil_ok (fun _ _ _ _ => rfl) 100 silence_T silence_eq (fun _ => rfl) (fun _ => rfl) (fun p => noEv p.x) silence_step
end Go.Proofs.Ytmcidfecepknpaa

namespace Go.Proofs.Ytmcidfecepknpaa
open Go Go.Sh Go.Proofs
set_option linter.unusedVariables false
/-! ### ClaimLater: the events up to a time -/
def sLater : FSpec TX where
  J := fun p => p.x.fits ∧ i64 p.t
  A := fun p => p.x.A ++ [iv p.t]
  H := fun p => [some (zO p.x.n p.x.Z)]
  R := fun _ => .bool true
  O := fun _ => []
structure LaP where
  r : Rul
  c : Clm
  E : Nat → Evt
  n : Nat
  t : Int
structure LaD where
  i : Nat
  k : Nat
  F : Nat → Evt
def lL1_J (p : LaP) (d : LaD) : Prop := d.i ≤ p.n ∧ p.n ≤ 10 ∧ Good p.r p.c p.E p.n ∧ d.k ≤ d.i ∧ (∀ j, j < d.k → d.F j = p.E j) ∧ (∀ j, j < d.k → (p.E j).at' ≤ p.t) ∧ (d.k < d.i → p.t < (p.E d.k).at')
noncomputable def heapL1 (p : LaP) (d : LaD) : Heap := [none, none, some (.arr true p.n 3 45 fun i => (p.E i).cells), boxR p.r, boxC p.c, some (.arr true d.k 3 45 fun i => (d.F i).cells)]
noncomputable def lL1 : LSpec LaP LaD LaD where
  code := loopOf Try.prog 5 9
  N := 5
  I := fun p d => blank 175 [(1, iv p.t), (5, .bool true), (6, .ptr 3 0 0), (7, .ptr 4 0 0), (8, .osl 2 p.n), (9, .osl 5 d.k), (10, iv d.i)] (heapL1 p d)
  J := lL1_J
  ways := 1
  E := fun w p d => (.exit 0, blank 175 [(1, iv p.t), (5, .bool true), (6, .ptr 3 0 0), (7, .ptr 4 0 0), (8, .osl 2 p.n), (9, .osl 5 d.k)] (heapL1 p d))
  JE := fun w p d => Leaf (d.k = stopN p.E p.t p.n ∧ ∀ j, j < d.k → d.F j = p.E j)
noncomputable def zL1 (p : LaP) (d : LaD) : KX := fun x S' => match x with
  | .normal => match evsAt S'.heap (S'.get 9) with
    | some (lo, k, F) => Leaf (d.i < p.n) ∧ Leaf (((p.E d.i).at' ≤ p.t ∧ k = d.k + 1 ∧ F = addE d.F d.k (p.E d.i)) ∨ (p.t < (p.E d.i).at' ∧ k = d.k ∧ F = d.F)) ∧ Wk 5 [some lo] (lL1.I p ⟨d.i + 1, k, F⟩) S'
    | none => False
  | .exit j => gateB (Nat.beq j 0) (Leaf (p.n ≤ d.i) ∧ Wk 5 [some 5] (lL1.E 0 p d).2 S')
  | .ret => False
def exL1 (S : SS) : Option (LaP × LaD × Ren) := match S.get 1, arrOf S.heap 2, arrOf S.heap 3, arrOf S.heap 4 with
  | .int _ b, some (n, E), some (_, rr), some (_, cc) => match rr 0, cc 0 with
    | [.int _ r1, .int _ r2, .int _ r3, .int _ r4], [.int _ c1, .int _ c2, .int _ c3, .int _ c4, .int _ c5, .bool c6] =>
      some (⟨⟨r1, r2, r3, r4⟩, ⟨c1, c2, c3, c4, c5, c6⟩, fun i => Evt.of (E i), n, b⟩, ⟨0, 0, fun _ => ⟨0, 0, 0⟩⟩, [none])
    | _, _ => none
  | _, _, _, _ => none
end Go.Proofs.Ytmcidfecepknpaa

namespace Go.Proofs.Ytmcidfecepknpaa
open Go Go.Sh Go.Proofs
set_option linter.unusedVariables false
set_option linter.unusedSimpArgs false
def l1loop_t0 : Prop :=
  (0 : Nat) = (0 : Nat) ∧ (0 : Nat) = (0 : Nat)
theorem l1loop_t0_t : l1loop_t0 :=
  ⟨rfl, rfl⟩
def l1loop_t1 (p : LaP) (d : LaD) : Prop :=
  (p.4 = p.4 ∧ ∀ (i : Nat), i < p.n → (p.3 i).1 = (p.3 i).1 ∧ (p.3 i).2 = (p.3 i).2 ∧ (p.3 i).3 = (p.3 i).3 ∧ True) ∧ ((1 : Nat) = (1 : Nat) ∧ ∀ (i : Nat), i < (1 : Nat) → p.1.1 = p.1.1 ∧ p.1.2 = p.1.2 ∧ p.1.3 = p.1.3 ∧ p.1.4 = p.1.4 ∧ True) ∧ ((1 : Nat) = (1 : Nat) ∧ ∀ (i : Nat), i < (1 : Nat) → p.2.1 = p.2.1 ∧ p.2.2 = p.2.2 ∧ p.2.3 = p.2.3 ∧ p.2.4 = p.2.4 ∧ p.2.5 = p.2.5 ∧ p.2.6 = p.2.6 ∧ True) ∧ (d.2 + (1 : Nat) = d.2 + (1 : Nat) ∧ ∀ (i : Nat), i < d.2 + (1 : Nat) → ((bif decide (i < d.2) then (d.3 i).1 else (p.3 d.1).1) = bif decide (i < d.2) then (d.3 i).1 else (p.3 d.1).1) ∧ ((bif decide (i < d.2) then (d.3 i).2 else (p.3 d.1).2) = bif decide (i < d.2) then (d.3 i).2 else (p.3 d.1).2) ∧ ((bif decide (i < d.2) then (d.3 i).3 else (p.3 d.1).3) = bif decide (i < d.2) then (d.3 i).3 else (p.3 d.1).3) ∧ True) ∧ True
theorem l1loop_t1_t (p : LaP) (d : LaD) : l1loop_t1 p d :=
  ⟨⟨rfl, (fun _ => (fun _ => ⟨rfl, ⟨rfl, ⟨rfl, trivial⟩⟩⟩))⟩, ⟨⟨rfl, (fun _ => (fun _ => ⟨rfl, ⟨rfl, ⟨rfl, ⟨rfl, trivial⟩⟩⟩⟩))⟩, ⟨⟨rfl, (fun _ => (fun _ => ⟨rfl, ⟨rfl, ⟨rfl, ⟨rfl, ⟨rfl, ⟨rfl, trivial⟩⟩⟩⟩⟩⟩))⟩, ⟨⟨rfl, (fun _ => (fun _ => ⟨rfl, ⟨rfl, ⟨rfl, trivial⟩⟩⟩))⟩, trivial⟩⟩⟩⟩
def l1loop_t2 (p : LaP) (d : LaD) : Prop :=
  (p.4 = p.4 ∧ ∀ (i : Nat), i < p.n → (p.3 i).1 = (p.3 i).1 ∧ (p.3 i).2 = (p.3 i).2 ∧ (p.3 i).3 = (p.3 i).3 ∧ True) ∧ ((1 : Nat) = (1 : Nat) ∧ ∀ (i : Nat), i < (1 : Nat) → p.1.1 = p.1.1 ∧ p.1.2 = p.1.2 ∧ p.1.3 = p.1.3 ∧ p.1.4 = p.1.4 ∧ True) ∧ ((1 : Nat) = (1 : Nat) ∧ ∀ (i : Nat), i < (1 : Nat) → p.2.1 = p.2.1 ∧ p.2.2 = p.2.2 ∧ p.2.3 = p.2.3 ∧ p.2.4 = p.2.4 ∧ p.2.5 = p.2.5 ∧ p.2.6 = p.2.6 ∧ True) ∧ (d.2 = d.2 ∧ ∀ (i : Nat), i < d.2 → (d.3 i).1 = (d.3 i).1 ∧ (d.3 i).2 = (d.3 i).2 ∧ (d.3 i).3 = (d.3 i).3 ∧ True) ∧ True
theorem l1loop_t2_t (p : LaP) (d : LaD) : l1loop_t2 p d :=
  ⟨⟨rfl, (fun _ => (fun _ => ⟨rfl, ⟨rfl, ⟨rfl, trivial⟩⟩⟩))⟩, ⟨⟨rfl, (fun _ => (fun _ => ⟨rfl, ⟨rfl, ⟨rfl, ⟨rfl, trivial⟩⟩⟩⟩))⟩, ⟨⟨rfl, (fun _ => (fun _ => ⟨rfl, ⟨rfl, ⟨rfl, ⟨rfl, ⟨rfl, ⟨rfl, trivial⟩⟩⟩⟩⟩⟩))⟩, ⟨⟨rfl, (fun _ => (fun _ => ⟨rfl, ⟨rfl, ⟨rfl, trivial⟩⟩⟩))⟩, trivial⟩⟩⟩⟩
def l1loop_t3 (p : LaP) (d : LaD) : Prop :=
  (p.5 = p.5 ∧ true = true ∧ ((0 : Nat) = (0 : Nat) ∧ (0 : Nat) = (0 : Nat)) ∧ ((0 : Nat) = (0 : Nat) ∧ (0 : Nat) = (0 : Nat)) ∧ p.4 = p.4 ∧ d.2 = d.2 ∧ True) ∧ (p.4 = p.4 ∧ ∀ (i : Nat), i < p.n → (p.3 i).1 = (p.3 i).1 ∧ (p.3 i).2 = (p.3 i).2 ∧ (p.3 i).3 = (p.3 i).3 ∧ True) ∧ ((1 : Nat) = (1 : Nat) ∧ ∀ (i : Nat), i < (1 : Nat) → p.1.1 = p.1.1 ∧ p.1.2 = p.1.2 ∧ p.1.3 = p.1.3 ∧ p.1.4 = p.1.4 ∧ True) ∧ ((1 : Nat) = (1 : Nat) ∧ ∀ (i : Nat), i < (1 : Nat) → p.2.1 = p.2.1 ∧ p.2.2 = p.2.2 ∧ p.2.3 = p.2.3 ∧ p.2.4 = p.2.4 ∧ p.2.5 = p.2.5 ∧ p.2.6 = p.2.6 ∧ True) ∧ (d.2 = d.2 ∧ ∀ (i : Nat), i < d.k → (d.3 i).1 = (d.3 i).1 ∧ (d.3 i).2 = (d.3 i).2 ∧ (d.3 i).3 = (d.3 i).3 ∧ True) ∧ True
theorem l1loop_t3_t (p : LaP) (d : LaD) : l1loop_t3 p d :=
  ⟨⟨rfl, ⟨rfl, ⟨⟨rfl, rfl⟩, ⟨⟨rfl, rfl⟩, ⟨rfl, ⟨rfl, trivial⟩⟩⟩⟩⟩⟩, ⟨⟨rfl, (fun _ => (fun _ => ⟨rfl, ⟨rfl, ⟨rfl, trivial⟩⟩⟩))⟩, ⟨⟨rfl, (fun _ => (fun _ => ⟨rfl, ⟨rfl, ⟨rfl, ⟨rfl, trivial⟩⟩⟩⟩))⟩, ⟨⟨rfl, (fun _ => (fun _ => ⟨rfl, ⟨rfl, ⟨rfl, ⟨rfl, ⟨rfl, ⟨rfl, trivial⟩⟩⟩⟩⟩⟩))⟩, ⟨⟨rfl, (fun _ => (fun _ => ⟨rfl, ⟨rfl, ⟨rfl, trivial⟩⟩⟩))⟩, trivial⟩⟩⟩⟩⟩
def l1loop_T (p : LaP) (d : LaD) : Prop :=
  ifB (decide (Int.ofNat d.1 < Int.ofNat p.4)) (ifB (decide (Int.ofNat d.1 < (↑p.4 : Int))) (ifB (decide (d.1 < p.4)) (ifB (decide ((p.3 d.1).2 ≤ p.5)) (ifB (decide (Int.ofNat d.1 < (↑p.4 : Int))) (ifB (decide (d.1 < p.4) && true) (ifB (decide (d.2 ≤ d.2) && decide ((d.2 + (1 : Nat)) * (24 : Nat) ≤ (140737488355328 : Nat))) (Leaf (d.i < p.n) ∧ Leaf ((p.E d.i).at' ≤ p.t ∧ d.2 + (1 : Nat) = d.k + (1 : Nat) ∧ (fun (i : Nat) => { kind := bif decide (i < d.2) then (d.3 i).1 else (p.3 d.1).1, at' := bif decide (i < d.2) then (d.3 i).2 else (p.3 d.1).2, reason := bif decide (i < d.2) then (d.3 i).3 else (p.3 d.1).3 : Evt }) = addE d.F d.k (p.E d.i) ∨ p.t < (p.E d.i).at' ∧ d.2 + (1 : Nat) = d.k ∧ (fun (i : Nat) => { kind := bif decide (i < d.2) then (d.3 i).1 else (p.3 d.1).1, at' := bif decide (i < d.2) then (d.3 i).2 else (p.3 d.1).2, reason := bif decide (i < d.2) then (d.3 i).3 else (p.3 d.1).3 : Evt }) = d.F) ∧ (p.5 = p.5 ∧ true = true ∧ l1loop_t0 ∧ l1loop_t0 ∧ p.4 = p.4 ∧ d.2 + (1 : Nat) = d.2 + (1 : Nat) ∧ Int.ofNat (d.1 + (1 : Nat)) = IntKind.i64.wrap (Int.ofNat (d.1 + (1 : Nat))) ∧ True) ∧ l1loop_t1 p d) False) False) False) (Leaf (d.i < p.n) ∧ Leaf ((p.E d.i).at' ≤ p.t ∧ d.2 = d.k + (1 : Nat) ∧ d.3 = addE d.F d.k (p.E d.i) ∨ p.t < (p.E d.i).at' ∧ d.2 = d.k ∧ d.3 = d.F) ∧ (p.5 = p.5 ∧ true = true ∧ l1loop_t0 ∧ l1loop_t0 ∧ p.4 = p.4 ∧ d.2 = d.2 ∧ Int.ofNat (d.1 + (1 : Nat)) = IntKind.i64.wrap (Int.ofNat (d.1 + (1 : Nat))) ∧ True) ∧ l1loop_t2 p d)) False) False) (Leaf (p.n ≤ d.i) ∧ l1loop_t3 p d)
theorem l1loop_eq (p : LaP) (d : LaD) : exec XL 60 5 lL1.code (lL1.I p d) (zL1 p d) = l1loop_T p d := by kernel_rfl

theorem l1loop_step (p : LaP) (d : LaD) (hJ : lL1_J p d) : l1loop_T p d := by
  obtain ⟨h1, h2, h3, h4, h5, h6, h7⟩ := hJ
  unfold l1loop_T
  repeat' (first | with_reducible refine ifB_split (fun _ => ?_) (fun _ => ?_) | with_reducible refine And.intro ?_ ?_)
  all_goals try first | with_reducible exact l1loop_t0_t | with_reducible exact l1loop_t1_t _ _ | with_reducible exact l1loop_t2_t _ _ | with_reducible exact l1loop_t3_t _ _ | with_reducible rfl | with_reducible exact trivial | with_reducible exact List.Perm.refl _
  all_goals simp only [Leaf, Nat.zero_add, Int.ofNat_eq_natCast, decide_eq_true_eq, decide_eq_false_iff_not, Bool.and_eq_true, Bool.not_eq_true', Bool.not_eq_true, Bool.not_eq_false', Bool.and_true, Int.natCast_inj, gt_iff_lt, Int.ofNat_lt, Int.ofNat_le, Bool.and_eq_false_iff] at *
  all_goals first
    | omega
    | (rw [wrapSmall (by omega) (by omega)]; done)
    | exact .inl ⟨by omega, by first | rfl | trivial, by first | rfl | trivial⟩
    | exact .inr ⟨by omega, by first | rfl | trivial, by first | rfl | trivial⟩
    | trace_state
set_option maxRecDepth 100000 in
theorem l1loop_ok : LoopOK XL.P lL1.code lL1.L := by
  refine lL1.ok XL_ok 60 5 (fun p d => p.n - d.i) zL1 (fun _ _ _ => trivial) (fun p d w q hw => ?_) (fun p d S' hJ h => ?_) (fun p d x S' hx hJ h => ?_) fun p d hJ => ?_
  · match w, hw with
    | 0, _ => exact trivial
  · unfold zL1 at h; dsimp only at h
    split at h <;> try exact h.elim
    rename_i lo k F _
    obtain ⟨h1, h2, h3⟩ := h
    simp only [Leaf] at h1 h2
    obtain ⟨j1, j2, j3, j4, j5, j6, j7⟩ := hJ
    refine ⟨_, ⟨d.i + 1, k, F⟩, ?_, ?_, h3⟩
    · show p.n - (d.i + 1) < p.n - d.i
      omega
    · have hev := ((CP.ok_iff _).1 j3.ok).2.2.2
      rcases h2 with ⟨h2, rfl, rfl⟩ | ⟨h2, rfl, rfl⟩
      · have hk : d.k = d.i := by
          rcases Nat.lt_or_ge d.k d.i with hlt | hge
          · have h7 := j7 hlt
            have := at_mono hev (k := d.k) (d.i - d.k) (by show _ < p.n; omega)
            rw [show d.k + (d.i - d.k) = d.i by omega] at this
            have this : (p.E d.k).at' ≤ (p.E d.i).at' := this
            omega
          · omega
        refine ⟨h1, j2, j3, (by show d.k + 1 ≤ d.i + 1; omega), fun j hj => ?_, fun j hj => ?_, fun hj => ?_⟩
        · show addE d.F d.k (p.E d.i) j = p.E j
          rcases Nat.lt_succ_iff_lt_or_eq.1 (show j < d.k + 1 from hj) with hj | rfl
          · rw [addE_lt hj]; exact j5 j hj
          · rw [addE_self, hk]
        · rcases Nat.lt_succ_iff_lt_or_eq.1 (show j < d.k + 1 from hj) with hj | rfl
          · exact j6 j hj
          · rw [hk]; exact h2
        · have hj : d.k + 1 < d.i + 1 := hj
          omega
      · refine ⟨h1, j2, j3, (by show d.k ≤ d.i + 1; omega), j5, j6, fun hj => ?_⟩
        have hj : d.k < d.i + 1 := hj
        rcases Nat.lt_or_ge d.k d.i with hlt | hge
        · exact j7 hlt
        · show p.t < (p.E d.k).at'
          rw [show d.k = d.i by omega]; exact h2
  · obtain ⟨j1, j2, j3, j4, j5, j6, j7⟩ := hJ
    cases x with
    | normal => exact hx.elim
    | ret => exact h.elim
    | exit k =>
      obtain ⟨h0, h1, h2⟩ := gateB_spec h
      have h0 := Nat.eq_of_beq_eq_true h0
      subst h0
      simp only [Leaf] at h1
      have hi : d.i = p.n := by omega
      refine ⟨0, d, _, Nat.lt_succ_self 0, ⟨?_, j5⟩, rfl, h2⟩
      refine (stopN_eq (by omega) j6 ?_).symm
      rcases Nat.lt_or_ge d.k d.i with hlt | hge
      · exact .inr (j7 hlt)
      · exact .inl (by omega)
  · rw [l1loop_eq]
    exact l1loop_step p d hJ
noncomputable def XLa0 (r : Rul) (c : Clm) (E : Nat → Evt) (n : Nat) : Ctx := (XH r c E n).loop 5 9 lL1.code (lL1.by exL1)
theorem XLa0_ok (r : Rul) (c : Clm) (E : Nat → Evt) (n : Nat) : (XLa0 r c E n).OK := Ctx.loop_ok (XH_ok r c E n) (l1loop_ok.by exL1)
end Go.Proofs.Ytmcidfecepknpaa

namespace Go.Proofs.Ytmcidfecepknpaa
open Go Go.Sh Go.Proofs
set_option linter.unusedVariables false
/-! ### ClaimLater: the events that are not void -/
structure LbP where
  r : Rul
  c : Clm
  E : Nat → Evt
  n : Nat
  vn : Nat
  V : Nat → Int
structure LbD where
  i : Nat
  k : Int
  m : Nat
  F : Nat → Evt
def vcnt (p : LbP) (i : Nat) : Nat := (voids p.r p.c p.E (begins p.r 1 p.c.asked) i).length
def lL2_J (p : LbP) (d : LbD) : Prop := d.i ≤ p.n ∧ p.n ≤ 10 ∧ Good p.r p.c p.E p.n ∧ (p.vn = (voidL ⟨p.r, p.c, p.E, p.n⟩).length ∧ ∀ j, j < p.vn → p.V j = (voidL ⟨p.r, p.c, p.E, p.n⟩).getD j 0) ∧ d.k = (vcnt p d.i : Int) ∧ Kept p.r p.c p.E d.i (vcnt p d.i) d.m d.F
noncomputable def heapL2 (p : LbP) (d : LbD) : Heap := [none, none, some (.arr true p.n 3 45 fun i => (p.E i).cells), boxR p.r, boxC p.c, none, none, none, some (.arr true p.vn 1 3 fun i => [iv (p.V i)]), some (.arr true d.m 3 45 fun i => (d.F i).cells)]
noncomputable def lL2 : LSpec LbP LbD LbD where
  code := loopOf Try.prog 5 21
  N := 9
  I := fun p d => blank 175 [(6, .ptr 3 0 0), (7, .ptr 4 0 0), (8, .osl 2 p.n), (15, .osl 8 p.vn), (17, .osl 9 d.m), (18, iv d.k), (19, iv d.i)] (heapL2 p d)
  J := lL2_J
  ways := 1
  E := fun w p d => (.exit 2, blank 175 [(6, .ptr 3 0 0), (7, .ptr 4 0 0), (8, .osl 2 p.n), (15, .osl 8 p.vn), (17, .osl 9 d.m), (18, iv d.k)] (heapL2 p d))
  JE := fun w p d => Leaf (d.k = (vcnt p p.n : Int) ∧ Kept p.r p.c p.E p.n (vcnt p p.n) d.m d.F)
noncomputable def zL2 (p : LbP) (d : LbD) : KX := fun x S' => match x with
  | .normal => match evsAt S'.heap (S'.get 17), S'.get 18 with
    | some (lo, m, F), .int _ k => Leaf (d.i < p.n) ∧ Leaf ((d.k < p.vn ∧ p.V d.k.toNat = d.i ∧ k = d.k + 1 ∧ m = d.m ∧ F = d.F) ∨ (¬ (d.k < p.vn ∧ p.V d.k.toNat = d.i) ∧ k = d.k ∧ m = d.m + 1 ∧ F = addE d.F d.m (p.E d.i))) ∧ Wk 9 [some lo] (lL2.I p ⟨d.i + 1, k, m, F⟩) S'
    | _, _ => False
  | .exit j => gateB (Nat.beq j 2) (Leaf (p.n ≤ d.i) ∧ Wk 9 [some 9] (lL2.E 0 p d).2 S')
  | .ret => False
def exL2 (S : SS) : Option (LbP × LbD × Ren) := match arrOf S.heap 8, arrOf S.heap 2, arrOf S.heap 3, arrOf S.heap 4 with
  | some (vn, V), some (n, E), some (_, rr), some (_, cc) => match rr 0, cc 0 with
    | [.int _ r1, .int _ r2, .int _ r3, .int _ r4], [.int _ c1, .int _ c2, .int _ c3, .int _ c4, .int _ c5, .bool c6] =>
      some (⟨⟨r1, r2, r3, r4⟩, ⟨c1, c2, c3, c4, c5, c6⟩, fun i => Evt.of (E i), n, vn, fun i => intOf (V i)⟩, ⟨0, 0, 0, fun _ => ⟨0, 0, 0⟩⟩, [none])
    | _, _ => none
  | _, _, _, _ => none
end Go.Proofs.Ytmcidfecepknpaa

namespace Go.Proofs.Ytmcidfecepknpaa
open Go Go.Sh Go.Proofs
set_option linter.unusedVariables false
set_option linter.unusedSimpArgs false
def l2loop_t0 : Prop :=
  (0 : Nat) = (0 : Nat) ∧ (0 : Nat) = (0 : Nat)
theorem l2loop_t0_t : l2loop_t0 :=
  ⟨rfl, rfl⟩
def l2loop_t1 (p : LbP) (d : LbD) : Prop :=
  (p.4 = p.4 ∧ ∀ (i : Nat), i < p.n → (p.3 i).1 = (p.3 i).1 ∧ (p.3 i).2 = (p.3 i).2 ∧ (p.3 i).3 = (p.3 i).3 ∧ True) ∧ ((1 : Nat) = (1 : Nat) ∧ ∀ (i : Nat), i < (1 : Nat) → p.1.1 = p.1.1 ∧ p.1.2 = p.1.2 ∧ p.1.3 = p.1.3 ∧ p.1.4 = p.1.4 ∧ True) ∧ ((1 : Nat) = (1 : Nat) ∧ ∀ (i : Nat), i < (1 : Nat) → p.2.1 = p.2.1 ∧ p.2.2 = p.2.2 ∧ p.2.3 = p.2.3 ∧ p.2.4 = p.2.4 ∧ p.2.5 = p.2.5 ∧ p.2.6 = p.2.6 ∧ True) ∧ (p.5 = p.5 ∧ ∀ (i : Nat), i < p.vn → p.6 i = p.6 i ∧ True) ∧ (d.3 = d.3 ∧ ∀ (i : Nat), i < d.3 → (d.4 i).1 = (d.4 i).1 ∧ (d.4 i).2 = (d.4 i).2 ∧ (d.4 i).3 = (d.4 i).3 ∧ True) ∧ True
theorem l2loop_t1_t (p : LbP) (d : LbD) : l2loop_t1 p d :=
  ⟨⟨rfl, (fun _ => (fun _ => ⟨rfl, ⟨rfl, ⟨rfl, trivial⟩⟩⟩))⟩, ⟨⟨rfl, (fun _ => (fun _ => ⟨rfl, ⟨rfl, ⟨rfl, ⟨rfl, trivial⟩⟩⟩⟩))⟩, ⟨⟨rfl, (fun _ => (fun _ => ⟨rfl, ⟨rfl, ⟨rfl, ⟨rfl, ⟨rfl, ⟨rfl, trivial⟩⟩⟩⟩⟩⟩))⟩, ⟨⟨rfl, (fun _ => (fun _ => ⟨rfl, trivial⟩))⟩, ⟨⟨rfl, (fun _ => (fun _ => ⟨rfl, ⟨rfl, ⟨rfl, trivial⟩⟩⟩))⟩, trivial⟩⟩⟩⟩⟩
def l2loop_t2 (p : LbP) (d : LbD) : Prop :=
  (p.4 = p.4 ∧ ∀ (i : Nat), i < p.n → (p.3 i).1 = (p.3 i).1 ∧ (p.3 i).2 = (p.3 i).2 ∧ (p.3 i).3 = (p.3 i).3 ∧ True) ∧ ((1 : Nat) = (1 : Nat) ∧ ∀ (i : Nat), i < (1 : Nat) → p.1.1 = p.1.1 ∧ p.1.2 = p.1.2 ∧ p.1.3 = p.1.3 ∧ p.1.4 = p.1.4 ∧ True) ∧ ((1 : Nat) = (1 : Nat) ∧ ∀ (i : Nat), i < (1 : Nat) → p.2.1 = p.2.1 ∧ p.2.2 = p.2.2 ∧ p.2.3 = p.2.3 ∧ p.2.4 = p.2.4 ∧ p.2.5 = p.2.5 ∧ p.2.6 = p.2.6 ∧ True) ∧ (p.5 = p.5 ∧ ∀ (i : Nat), i < p.vn → p.6 i = p.6 i ∧ True) ∧ (d.3 + (1 : Nat) = d.3 + (1 : Nat) ∧ ∀ (i : Nat), i < d.3 + (1 : Nat) → ((bif decide (i < d.3) then (d.4 i).1 else (p.3 d.1).1) = bif decide (i < d.3) then (d.4 i).1 else (p.3 d.1).1) ∧ ((bif decide (i < d.3) then (d.4 i).2 else (p.3 d.1).2) = bif decide (i < d.3) then (d.4 i).2 else (p.3 d.1).2) ∧ ((bif decide (i < d.3) then (d.4 i).3 else (p.3 d.1).3) = bif decide (i < d.3) then (d.4 i).3 else (p.3 d.1).3) ∧ True) ∧ True
theorem l2loop_t2_t (p : LbP) (d : LbD) : l2loop_t2 p d :=
  ⟨⟨rfl, (fun _ => (fun _ => ⟨rfl, ⟨rfl, ⟨rfl, trivial⟩⟩⟩))⟩, ⟨⟨rfl, (fun _ => (fun _ => ⟨rfl, ⟨rfl, ⟨rfl, ⟨rfl, trivial⟩⟩⟩⟩))⟩, ⟨⟨rfl, (fun _ => (fun _ => ⟨rfl, ⟨rfl, ⟨rfl, ⟨rfl, ⟨rfl, ⟨rfl, trivial⟩⟩⟩⟩⟩⟩))⟩, ⟨⟨rfl, (fun _ => (fun _ => ⟨rfl, trivial⟩))⟩, ⟨⟨rfl, (fun _ => (fun _ => ⟨rfl, ⟨rfl, ⟨rfl, trivial⟩⟩⟩))⟩, trivial⟩⟩⟩⟩⟩
def l2loop_t3 (p : LbP) (d : LbD) : Prop :=
  (((0 : Nat) = (0 : Nat) ∧ (0 : Nat) = (0 : Nat)) ∧ ((0 : Nat) = (0 : Nat) ∧ (0 : Nat) = (0 : Nat)) ∧ p.4 = p.4 ∧ p.5 = p.5 ∧ d.3 = d.3 ∧ d.2 = d.2 ∧ True) ∧ (p.4 = p.4 ∧ ∀ (i : Nat), i < p.n → (p.3 i).1 = (p.3 i).1 ∧ (p.3 i).2 = (p.3 i).2 ∧ (p.3 i).3 = (p.3 i).3 ∧ True) ∧ ((1 : Nat) = (1 : Nat) ∧ ∀ (i : Nat), i < (1 : Nat) → p.1.1 = p.1.1 ∧ p.1.2 = p.1.2 ∧ p.1.3 = p.1.3 ∧ p.1.4 = p.1.4 ∧ True) ∧ ((1 : Nat) = (1 : Nat) ∧ ∀ (i : Nat), i < (1 : Nat) → p.2.1 = p.2.1 ∧ p.2.2 = p.2.2 ∧ p.2.3 = p.2.3 ∧ p.2.4 = p.2.4 ∧ p.2.5 = p.2.5 ∧ p.2.6 = p.2.6 ∧ True) ∧ (p.5 = p.5 ∧ ∀ (i : Nat), i < p.vn → p.6 i = p.6 i ∧ True) ∧ (d.3 = d.3 ∧ ∀ (i : Nat), i < d.m → (d.4 i).1 = (d.4 i).1 ∧ (d.4 i).2 = (d.4 i).2 ∧ (d.4 i).3 = (d.4 i).3 ∧ True) ∧ True
theorem l2loop_t3_t (p : LbP) (d : LbD) : l2loop_t3 p d :=
  ⟨⟨⟨rfl, rfl⟩, ⟨⟨rfl, rfl⟩, ⟨rfl, ⟨rfl, ⟨rfl, ⟨rfl, trivial⟩⟩⟩⟩⟩⟩, ⟨⟨rfl, (fun _ => (fun _ => ⟨rfl, ⟨rfl, ⟨rfl, trivial⟩⟩⟩))⟩, ⟨⟨rfl, (fun _ => (fun _ => ⟨rfl, ⟨rfl, ⟨rfl, ⟨rfl, trivial⟩⟩⟩⟩))⟩, ⟨⟨rfl, (fun _ => (fun _ => ⟨rfl, ⟨rfl, ⟨rfl, ⟨rfl, ⟨rfl, ⟨rfl, trivial⟩⟩⟩⟩⟩⟩))⟩, ⟨⟨rfl, (fun _ => (fun _ => ⟨rfl, trivial⟩))⟩, ⟨⟨rfl, (fun _ => (fun _ => ⟨rfl, ⟨rfl, ⟨rfl, trivial⟩⟩⟩))⟩, trivial⟩⟩⟩⟩⟩⟩
def l2loop_T (p : LbP) (d : LbD) : Prop :=
  ifB (decide (Int.ofNat d.1 < Int.ofNat p.4)) (ifB (decide (d.2 < Int.ofNat p.5) == true) (ifB (decide ((0 : Int) ≤ d.2) && decide (d.2 < (↑p.5 : Int))) (ifB (decide (d.2.toNat < p.5)) (ifB (p.6 d.2.toNat == Int.ofNat d.1) (Leaf (d.i < p.n) ∧ Leaf (d.k < (↑p.vn : Int) ∧ p.V d.k.toNat = (↑d.i : Int) ∧ IntKind.i64.wrap (d.2 + (1 : Int)) = d.k + (1 : Int) ∧ d.3 = d.m ∧ d.4 = d.F ∨ ¬(d.k < (↑p.vn : Int) ∧ p.V d.k.toNat = (↑d.i : Int)) ∧ IntKind.i64.wrap (d.2 + (1 : Int)) = d.k ∧ d.3 = d.m + (1 : Nat) ∧ d.4 = addE d.F d.m (p.E d.i)) ∧ (l2loop_t0 ∧ l2loop_t0 ∧ p.4 = p.4 ∧ p.5 = p.5 ∧ d.3 = d.3 ∧ IntKind.i64.wrap (d.2 + (1 : Int)) = IntKind.i64.wrap (d.2 + (1 : Int)) ∧ Int.ofNat (d.1 + (1 : Nat)) = IntKind.i64.wrap (Int.ofNat (d.1 + (1 : Nat))) ∧ True) ∧ l2loop_t1 p d) (ifB (decide (Int.ofNat d.1 < (↑p.4 : Int))) (ifB (decide (d.1 < p.4) && true) (ifB (decide (d.3 ≤ d.3) && decide ((d.3 + (1 : Nat)) * (24 : Nat) ≤ (140737488355328 : Nat))) (Leaf (d.i < p.n) ∧ Leaf (d.k < (↑p.vn : Int) ∧ p.V d.k.toNat = (↑d.i : Int) ∧ d.2 = d.k + (1 : Int) ∧ d.3 + (1 : Nat) = d.m ∧ (fun (i : Nat) => { kind := bif decide (i < d.3) then (d.4 i).1 else (p.3 d.1).1, at' := bif decide (i < d.3) then (d.4 i).2 else (p.3 d.1).2, reason := bif decide (i < d.3) then (d.4 i).3 else (p.3 d.1).3 : Evt }) = d.F ∨ ¬(d.k < (↑p.vn : Int) ∧ p.V d.k.toNat = (↑d.i : Int)) ∧ d.2 = d.k ∧ d.3 + (1 : Nat) = d.m + (1 : Nat) ∧ (fun (i : Nat) => { kind := bif decide (i < d.3) then (d.4 i).1 else (p.3 d.1).1, at' := bif decide (i < d.3) then (d.4 i).2 else (p.3 d.1).2, reason := bif decide (i < d.3) then (d.4 i).3 else (p.3 d.1).3 : Evt }) = addE d.F d.m (p.E d.i)) ∧ (l2loop_t0 ∧ l2loop_t0 ∧ p.4 = p.4 ∧ p.5 = p.5 ∧ d.3 + (1 : Nat) = d.3 + (1 : Nat) ∧ d.2 = d.2 ∧ Int.ofNat (d.1 + (1 : Nat)) = IntKind.i64.wrap (Int.ofNat (d.1 + (1 : Nat))) ∧ True) ∧ l2loop_t2 p d) False) False) False)) False) False) (ifB (decide (Int.ofNat d.1 < (↑p.4 : Int))) (ifB (decide (d.1 < p.4) && true) (ifB (decide (d.3 ≤ d.3) && decide ((d.3 + (1 : Nat)) * (24 : Nat) ≤ (140737488355328 : Nat))) (Leaf (d.i < p.n) ∧ Leaf (d.k < (↑p.vn : Int) ∧ p.V d.k.toNat = (↑d.i : Int) ∧ d.2 = d.k + (1 : Int) ∧ d.3 + (1 : Nat) = d.m ∧ (fun (i : Nat) => { kind := bif decide (i < d.3) then (d.4 i).1 else (p.3 d.1).1, at' := bif decide (i < d.3) then (d.4 i).2 else (p.3 d.1).2, reason := bif decide (i < d.3) then (d.4 i).3 else (p.3 d.1).3 : Evt }) = d.F ∨ ¬(d.k < (↑p.vn : Int) ∧ p.V d.k.toNat = (↑d.i : Int)) ∧ d.2 = d.k ∧ d.3 + (1 : Nat) = d.m + (1 : Nat) ∧ (fun (i : Nat) => { kind := bif decide (i < d.3) then (d.4 i).1 else (p.3 d.1).1, at' := bif decide (i < d.3) then (d.4 i).2 else (p.3 d.1).2, reason := bif decide (i < d.3) then (d.4 i).3 else (p.3 d.1).3 : Evt }) = addE d.F d.m (p.E d.i)) ∧ (l2loop_t0 ∧ l2loop_t0 ∧ p.4 = p.4 ∧ p.5 = p.5 ∧ d.3 + (1 : Nat) = d.3 + (1 : Nat) ∧ d.2 = d.2 ∧ Int.ofNat (d.1 + (1 : Nat)) = IntKind.i64.wrap (Int.ofNat (d.1 + (1 : Nat))) ∧ True) ∧ l2loop_t2 p d) False) False) False)) (Leaf (p.n ≤ d.i) ∧ l2loop_t3 p d)
theorem l2loop_eq (p : LbP) (d : LbD) : exec XL 60 5 lL2.code (lL2.I p d) (zL2 p d) = l2loop_T p d := by kernel_rfl

theorem vcnt_le (p : LbP) : ∀ i, vcnt p i ≤ i
  | 0 => Nat.le_refl _
  | i + 1 => by
    have := vcnt_le p i
    unfold vcnt at this ⊢
    simp only [voids, List.length_append]
    split <;> simp only [List.length_cons, List.length_nil] <;> omega
theorem l2loop_step (p : LbP) (d : LbD) (hJ : lL2_J p d) : l2loop_T p d := by
  obtain ⟨h1, h2, h3, h4, h5, h6⟩ := hJ
  have hv := vcnt_le p d.i
  have hm := h6.le
  have hk : 0 ≤ d.k ∧ d.k ≤ 10 := by omega
  have hw : IntKind.i64.wrap (d.k + 1) = d.k + 1 := by rw [IntKind.wrap_i64]; omega
  unfold l2loop_T
  repeat' (first | with_reducible refine ifB_split (fun _ => ?_) (fun _ => ?_) | with_reducible refine And.intro ?_ ?_)
  all_goals try first | with_reducible exact l2loop_t0_t | with_reducible exact l2loop_t1_t _ _ | with_reducible exact l2loop_t2_t _ _ | with_reducible exact l2loop_t3_t _ _ | with_reducible rfl | with_reducible exact trivial | with_reducible exact List.Perm.refl _
  all_goals simp only [Leaf, Nat.zero_add, Int.ofNat_eq_natCast, decide_eq_true_eq, decide_eq_false_iff_not, beq_iff_eq, beq_eq_false_iff_ne, ne_eq, Bool.and_eq_true, Bool.not_eq_true', Bool.not_eq_true, Bool.not_eq_false', Bool.and_true, Int.natCast_inj, gt_iff_lt, Int.ofNat_lt, Int.ofNat_le, Bool.and_eq_false_iff] at *
  all_goals first
    | omega
    | (rw [wrapSmall (by omega) (by omega)]; done)
    | exact .inl ⟨by omega, by omega, hw, by first | rfl | trivial, by first | rfl | trivial⟩
    | exact .inr ⟨by omega, by first | rfl | trivial, by first | rfl | trivial, by first | rfl | trivial⟩
    | trace_state
set_option maxRecDepth 100000 in
theorem l2loop_ok : LoopOK XL.P lL2.code lL2.L := by
  refine lL2.ok XL_ok 60 5 (fun p d => p.n - d.i) zL2 (fun _ _ _ => trivial) (fun p d w q hw => ?_) (fun p d S' hJ h => ?_) (fun p d x S' hx hJ h => ?_) fun p d hJ => ?_
  · match w, hw with
    | 0, _ => exact trivial
  · unfold zL2 at h; dsimp only at h
    split at h <;> try exact h.elim
    rename_i lo m F _ k _ _
    obtain ⟨h1, h2, h3⟩ := h
    simp only [Leaf] at h1 h2
    obtain ⟨j1, j2, j3, ⟨j4, j5⟩, j6, j7⟩ := hJ
    obtain ⟨v1, v2⟩ := j7.isVoid j3 h1
    have hkn : d.k.toNat = vcnt p d.i := by omega
    refine ⟨_, ⟨d.i + 1, k, m, F⟩, ?_, ?_, h3⟩
    · show p.n - (d.i + 1) < p.n - d.i
      omega
    · cases hb : voidB p.r p.c p.E d.i with
      | true =>
        obtain ⟨w1, w2⟩ := v1 hb
        have hsk := j7.skip j3 h1 hb
        have hc : vcnt p (d.i + 1) = vcnt p d.i + 1 := hsk.cnt.symm
        rcases h2 with ⟨g1, g2, rfl, rfl, rfl⟩ | ⟨g1, rfl, rfl, rfl⟩
        · refine ⟨h1, j2, j3, ⟨j4, j5⟩, ?_, ?_⟩
          · show d.k + 1 = (vcnt p (d.i + 1) : Int)
            rw [hc]; omega
          · show Kept p.r p.c p.E (d.i + 1) (vcnt p (d.i + 1)) d.m d.F
            rw [hc]; exact hsk
        · refine (g1 ⟨by omega, ?_⟩).elim
          rw [hkn, j5 _ (by omega)]; exact w2
      | false =>
        have w := v2 hb
        rcases h2 with ⟨g1, g2, rfl, rfl, rfl⟩ | ⟨g1, rfl, rfl, rfl⟩
        · refine (w (by omega) ?_).elim
          rw [hkn, j5 _ (by omega)] at g2; exact g2
        · have htk := j7.take j3 h1 hb (G := addE d.F d.m (p.E d.i)) (fun j hj => addE_lt hj) addE_self
          have hc : vcnt p (d.i + 1) = vcnt p d.i := htk.cnt.symm
          refine ⟨h1, j2, j3, ⟨j4, j5⟩, ?_, ?_⟩
          · show d.k = (vcnt p (d.i + 1) : Int)
            rw [hc]; exact j6
          · show Kept p.r p.c p.E (d.i + 1) (vcnt p (d.i + 1)) (d.m + 1) (addE d.F d.m (p.E d.i))
            rw [hc]; exact htk
  · obtain ⟨j1, j2, j3, j4, j6, j7⟩ := hJ
    cases x with
    | normal => exact hx.elim
    | ret => exact h.elim
    | exit k =>
      obtain ⟨h0, h1, h2⟩ := gateB_spec h
      have h0 := Nat.eq_of_beq_eq_true h0
      subst h0
      simp only [Leaf] at h1
      have hi : d.i = p.n := by omega
      exact ⟨0, d, _, Nat.lt_succ_self 0, by rw [hi] at j6 j7; exact ⟨j6, j7⟩, rfl, h2⟩
  · rw [l2loop_eq]
    exact l2loop_step p d hJ
noncomputable def XLa (r : Rul) (c : Clm) (E : Nat → Evt) (n : Nat) : Ctx := (XLa0 r c E n).loop 5 21 lL2.code (lL2.by exL2)
theorem XLa_ok (r : Rul) (c : Clm) (E : Nat → Evt) (n : Nat) : (XLa r c E n).OK := Ctx.loop_ok (XLa0_ok r c E n) (l2loop_ok.by exL2)
end Go.Proofs.Ytmcidfecepknpaa

namespace Go.Proofs.Ytmcidfecepknpaa
open Go Go.Sh Go.Proofs
set_option linter.unusedVariables false
def sMoves : FSpec TX where
  J := fun p => p.x.fits ∧ i64 p.t
  A := fun p => p.x.A ++ [iv p.t]
  H := fun p => [some (zO p.x.n p.x.Z)]
  R := fun _ => .bool true
  O := fun _ => []
structure MvP where
  r : Rul
  c : Clm
  d : Clm
  E : Nat → Evt
  n : Nat
  by' : Int
structure MvD where
  i : Nat
  F : Nat → Evt
def mvE (b : Int) (e : Evt) : Evt := ⟨e.kind, w64 (e.at' + b), e.reason⟩
def lV1_J (p : MvP) (d : MvD) : Prop := d.i ≤ p.n ∧ p.n ≤ 10 ∧ ∀ j, j < d.i → d.F j = mvE p.by' (p.E j)
noncomputable def heapV1 (p : MvP) (d : MvD) : Heap := [none, none, some (.arr true p.n 3 45 fun i => (p.E i).cells), boxR p.r, boxC p.c, boxC p.d, some (.arr true d.i 3 45 fun i => (d.F i).cells)]
noncomputable def lV1 : LSpec MvP MvD MvD where
  code := loopOf Try.prog 8 10
  N := 6
  I := fun p d => blank 223 [(1, iv p.by'), (5, .bool true), (6, .ptr 3 0 0), (7, .ptr 4 0 0), (8, .osl 2 p.n), (9, .ptr 5 0 0), (10, .osl 6 d.i), (11, iv d.i)] (heapV1 p d)
  J := lV1_J
  ways := 1
  E := fun w p d => (.exit 0, blank 223 [(1, iv p.by'), (5, .bool true), (6, .ptr 3 0 0), (7, .ptr 4 0 0), (8, .osl 2 p.n), (9, .ptr 5 0 0), (10, .osl 6 d.i)] (heapV1 p d))
  JE := fun w p d => Leaf (d.i = p.n ∧ ∀ j, j < p.n → d.F j = mvE p.by' (p.E j))
noncomputable def zV1 (p : MvP) (d : MvD) : KX := fun x S' => match x with
  | .normal => match evsAt S'.heap (S'.get 10) with
    | some (lo, k, F) => Leaf (d.i < p.n) ∧ Leaf (k = d.i + 1 ∧ F = addE d.F d.i (mvE p.by' (p.E d.i))) ∧ Wk 6 [some lo] (lV1.I p ⟨d.i + 1, F⟩) S'
    | none => False
  | .exit j => gateB (Nat.beq j 0) (Leaf (p.n ≤ d.i) ∧ Wk 6 [some 6] (lV1.E 0 p d).2 S')
  | .ret => False
def exV1 (S : SS) : Option (MvP × MvD × Ren) := match S.get 1, arrOf S.heap 2, arrOf S.heap 3, arrOf S.heap 4, arrOf S.heap 5 with
  | .int _ b, some (n, E), some (_, rr), some (_, cc), some (_, dd) => match rr 0, cc 0, dd 0 with
    | [.int _ r1, .int _ r2, .int _ r3, .int _ r4], [.int _ c1, .int _ c2, .int _ c3, .int _ c4, .int _ c5, .bool c6], [.int _ d1, .int _ d2, .int _ d3, .int _ d4, .int _ d5, .bool d6] =>
      some (⟨⟨r1, r2, r3, r4⟩, ⟨c1, c2, c3, c4, c5, c6⟩, ⟨d1, d2, d3, d4, d5, d6⟩, fun i => Evt.of (E i), n, b⟩, ⟨0, fun _ => ⟨0, 0, 0⟩⟩, [none])
    | _, _, _ => none
  | _, _, _, _, _ => none
/-- Is a status the other one, later? -/
def mvS (b : Int) (s t : Sta) : Prop := t.state = s.state ∧ t.since = w64 (s.since + b) ∧ (0 ≤ s.next → t.next = w64 (s.next + b)) ∧ (¬ 0 ≤ s.next → t.next = -1)
end Go.Proofs.Ytmcidfecepknpaa

namespace Go.Proofs.Ytmcidfecepknpaa
open Go Go.Sh Go.Proofs
set_option linter.unusedVariables false
set_option linter.unusedSimpArgs false
def v1loop_t0 : Prop :=
  (0 : Nat) = (0 : Nat) ∧ (0 : Nat) = (0 : Nat)
theorem v1loop_t0_t : v1loop_t0 :=
  ⟨rfl, rfl⟩
def v1loop_t1 (p : MvP) (d : MvD) : Prop :=
  (p.5 = p.5 ∧ ∀ (i : Nat), i < p.n → (p.4 i).1 = (p.4 i).1 ∧ (p.4 i).2 = (p.4 i).2 ∧ (p.4 i).3 = (p.4 i).3 ∧ True) ∧ ((1 : Nat) = (1 : Nat) ∧ ∀ (i : Nat), i < (1 : Nat) → p.1.1 = p.1.1 ∧ p.1.2 = p.1.2 ∧ p.1.3 = p.1.3 ∧ p.1.4 = p.1.4 ∧ True) ∧ ((1 : Nat) = (1 : Nat) ∧ ∀ (i : Nat), i < (1 : Nat) → p.2.1 = p.2.1 ∧ p.2.2 = p.2.2 ∧ p.2.3 = p.2.3 ∧ p.2.4 = p.2.4 ∧ p.2.5 = p.2.5 ∧ p.2.6 = p.2.6 ∧ True) ∧ ((1 : Nat) = (1 : Nat) ∧ ∀ (i : Nat), i < (1 : Nat) → p.3.1 = p.3.1 ∧ p.3.2 = p.3.2 ∧ p.3.3 = p.3.3 ∧ p.3.4 = p.3.4 ∧ p.3.5 = p.3.5 ∧ p.3.6 = p.3.6 ∧ True) ∧ (d.1 + (1 : Nat) = d.1 + (1 : Nat) ∧ ∀ (i : Nat), i < d.1 + (1 : Nat) → ((bif decide (i < d.1) then (d.2 i).1 else (p.4 d.1).1) = bif decide (i < d.1) then (d.2 i).1 else (p.4 d.1).1) ∧ ((bif decide (i < d.1) then (d.2 i).2 else IntKind.i64.wrap ((p.4 d.1).2 + p.6)) = bif decide (i < d.1) then (d.2 i).2 else IntKind.i64.wrap ((p.4 d.1).2 + p.6)) ∧ ((bif decide (i < d.1) then (d.2 i).3 else (p.4 d.1).3) = bif decide (i < d.1) then (d.2 i).3 else (p.4 d.1).3) ∧ True) ∧ True
theorem v1loop_t1_t (p : MvP) (d : MvD) : v1loop_t1 p d :=
  ⟨⟨rfl, (fun _ => (fun _ => ⟨rfl, ⟨rfl, ⟨rfl, trivial⟩⟩⟩))⟩, ⟨⟨rfl, (fun _ => (fun _ => ⟨rfl, ⟨rfl, ⟨rfl, ⟨rfl, trivial⟩⟩⟩⟩))⟩, ⟨⟨rfl, (fun _ => (fun _ => ⟨rfl, ⟨rfl, ⟨rfl, ⟨rfl, ⟨rfl, ⟨rfl, trivial⟩⟩⟩⟩⟩⟩))⟩, ⟨⟨rfl, (fun _ => (fun _ => ⟨rfl, ⟨rfl, ⟨rfl, ⟨rfl, ⟨rfl, ⟨rfl, trivial⟩⟩⟩⟩⟩⟩))⟩, ⟨⟨rfl, (fun _ => (fun _ => ⟨rfl, ⟨rfl, ⟨rfl, trivial⟩⟩⟩))⟩, trivial⟩⟩⟩⟩⟩
def v1loop_t2 (p : MvP) (d : MvD) : Prop :=
  (p.6 = p.6 ∧ true = true ∧ ((0 : Nat) = (0 : Nat) ∧ (0 : Nat) = (0 : Nat)) ∧ ((0 : Nat) = (0 : Nat) ∧ (0 : Nat) = (0 : Nat)) ∧ p.5 = p.5 ∧ ((0 : Nat) = (0 : Nat) ∧ (0 : Nat) = (0 : Nat)) ∧ d.1 = d.1 ∧ True) ∧ (p.5 = p.5 ∧ ∀ (i : Nat), i < p.n → (p.4 i).1 = (p.4 i).1 ∧ (p.4 i).2 = (p.4 i).2 ∧ (p.4 i).3 = (p.4 i).3 ∧ True) ∧ ((1 : Nat) = (1 : Nat) ∧ ∀ (i : Nat), i < (1 : Nat) → p.1.1 = p.1.1 ∧ p.1.2 = p.1.2 ∧ p.1.3 = p.1.3 ∧ p.1.4 = p.1.4 ∧ True) ∧ ((1 : Nat) = (1 : Nat) ∧ ∀ (i : Nat), i < (1 : Nat) → p.2.1 = p.2.1 ∧ p.2.2 = p.2.2 ∧ p.2.3 = p.2.3 ∧ p.2.4 = p.2.4 ∧ p.2.5 = p.2.5 ∧ p.2.6 = p.2.6 ∧ True) ∧ ((1 : Nat) = (1 : Nat) ∧ ∀ (i : Nat), i < (1 : Nat) → p.3.1 = p.3.1 ∧ p.3.2 = p.3.2 ∧ p.3.3 = p.3.3 ∧ p.3.4 = p.3.4 ∧ p.3.5 = p.3.5 ∧ p.3.6 = p.3.6 ∧ True) ∧ (d.1 = d.1 ∧ ∀ (i : Nat), i < d.i → (d.2 i).1 = (d.2 i).1 ∧ (d.2 i).2 = (d.2 i).2 ∧ (d.2 i).3 = (d.2 i).3 ∧ True) ∧ True
theorem v1loop_t2_t (p : MvP) (d : MvD) : v1loop_t2 p d :=
  ⟨⟨rfl, ⟨rfl, ⟨⟨rfl, rfl⟩, ⟨⟨rfl, rfl⟩, ⟨rfl, ⟨⟨rfl, rfl⟩, ⟨rfl, trivial⟩⟩⟩⟩⟩⟩⟩, ⟨⟨rfl, (fun _ => (fun _ => ⟨rfl, ⟨rfl, ⟨rfl, trivial⟩⟩⟩))⟩, ⟨⟨rfl, (fun _ => (fun _ => ⟨rfl, ⟨rfl, ⟨rfl, ⟨rfl, trivial⟩⟩⟩⟩))⟩, ⟨⟨rfl, (fun _ => (fun _ => ⟨rfl, ⟨rfl, ⟨rfl, ⟨rfl, ⟨rfl, ⟨rfl, trivial⟩⟩⟩⟩⟩⟩))⟩, ⟨⟨rfl, (fun _ => (fun _ => ⟨rfl, ⟨rfl, ⟨rfl, ⟨rfl, ⟨rfl, ⟨rfl, trivial⟩⟩⟩⟩⟩⟩))⟩, ⟨⟨rfl, (fun _ => (fun _ => ⟨rfl, ⟨rfl, ⟨rfl, trivial⟩⟩⟩))⟩, trivial⟩⟩⟩⟩⟩⟩
def v1loop_T (p : MvP) (d : MvD) : Prop :=
  ifB (decide (Int.ofNat d.1 < Int.ofNat p.5)) (ifB (decide (Int.ofNat d.1 < (↑p.5 : Int))) (ifB (decide (d.1 < p.5)) (ifB (decide (Int.ofNat d.1 < (↑p.5 : Int))) (ifB (decide (d.1 < p.5)) (ifB (decide (Int.ofNat d.1 < (↑p.5 : Int))) (ifB (decide (d.1 < p.5)) (ifB (decide (d.1 ≤ d.1) && decide ((d.1 + (1 : Nat)) * (24 : Nat) ≤ (140737488355328 : Nat))) (Leaf (d.i < p.n) ∧ Leaf (d.1 + (1 : Nat) = d.i + (1 : Nat) ∧ (fun (i : Nat) => { kind := bif decide (i < d.1) then (d.2 i).1 else (p.4 d.1).1, at' := bif decide (i < d.1) then (d.2 i).2 else IntKind.i64.wrap ((p.4 d.1).2 + p.6), reason := bif decide (i < d.1) then (d.2 i).3 else (p.4 d.1).3 : Evt }) = addE d.F d.i (mvE p.by' (p.E d.i))) ∧ (p.6 = p.6 ∧ true = true ∧ v1loop_t0 ∧ v1loop_t0 ∧ p.5 = p.5 ∧ v1loop_t0 ∧ d.1 + (1 : Nat) = d.1 + (1 : Nat) ∧ Int.ofNat (d.1 + (1 : Nat)) = IntKind.i64.wrap (Int.ofNat (d.1 + (1 : Nat))) ∧ True) ∧ v1loop_t1 p d) False) False) False) False) False) False) False) (Leaf (p.n ≤ d.i) ∧ v1loop_t2 p d)
theorem v1loop_eq (p : MvP) (d : MvD) : exec XL 60 8 lV1.code (lV1.I p d) (zV1 p d) = v1loop_T p d := by kernel_rfl

theorem v1loop_step (p : MvP) (d : MvD) (hJ : lV1_J p d) : v1loop_T p d := by
  obtain ⟨h1, h2, h3⟩ := hJ
  unfold v1loop_T
  repeat' (first | with_reducible refine ifB_split (fun _ => ?_) (fun _ => ?_) | with_reducible refine And.intro ?_ ?_)
  all_goals try first | with_reducible exact v1loop_t0_t | with_reducible exact v1loop_t1_t _ _ | with_reducible exact v1loop_t2_t _ _ | with_reducible rfl | with_reducible exact trivial | with_reducible exact List.Perm.refl _
  all_goals simp only [Leaf, Nat.zero_add, Int.ofNat_eq_natCast, decide_eq_true_eq, decide_eq_false_iff_not, Bool.and_eq_true, Bool.not_eq_true', Bool.not_eq_true, Bool.not_eq_false', Bool.and_true, Int.natCast_inj, gt_iff_lt, Int.ofNat_lt, Int.ofNat_le, Bool.and_eq_false_iff] at *
  all_goals first
    | omega
    | (rw [wrapSmall (by omega) (by omega)]; done)
    | exact ⟨trivial, rfl⟩
    | exact ⟨rfl, rfl⟩
    | trace_state
set_option maxRecDepth 100000 in
theorem v1loop_ok : LoopOK XL.P lV1.code lV1.L := by
  refine lV1.ok XL_ok 60 8 (fun p d => p.n - d.i) zV1 (fun _ _ _ => trivial) (fun p d w q hw => ?_) (fun p d S' hJ h => ?_) (fun p d x S' hx hJ h => ?_) fun p d hJ => ?_
  · match w, hw with
    | 0, _ => exact trivial
  · unfold zV1 at h; dsimp only at h
    split at h <;> try exact h.elim
    rename_i lo k F _
    obtain ⟨h1, h2, h3⟩ := h
    simp only [Leaf] at h1 h2
    obtain ⟨j1, j2, j3⟩ := hJ
    refine ⟨_, ⟨d.i + 1, F⟩, ?_, ⟨h1, j2, fun j hj => ?_⟩, h3⟩
    · show p.n - (d.i + 1) < p.n - d.i
      omega
    · show F j = _
      rw [h2.2]
      rcases Nat.lt_succ_iff_lt_or_eq.1 (show j < d.i + 1 from hj) with hj | rfl
      · rw [addE_lt hj]; exact j3 j hj
      · rw [addE_self]
  · obtain ⟨j1, j2, j3⟩ := hJ
    cases x with
    | normal => exact hx.elim
    | ret => exact h.elim
    | exit k =>
      obtain ⟨h0, h1, h2⟩ := gateB_spec h
      have h0 := Nat.eq_of_beq_eq_true h0
      subst h0
      simp only [Leaf] at h1
      have hi : d.i = p.n := by omega
      exact ⟨0, d, _, Nat.lt_succ_self 0, ⟨hi, fun j hj => j3 j (by omega)⟩, rfl, h2⟩
  · rw [v1loop_eq]
    exact v1loop_step p d hJ
noncomputable def XMv0 (r : Rul) (c : Clm) (E : Nat → Evt) (n : Nat) : Ctx := (XH r c E n).loop 8 10 lV1.code (lV1.by exV1)
theorem XMv0_ok (r : Rul) (c : Clm) (E : Nat → Evt) (n : Nat) : (XMv0 r c E n).OK := Ctx.loop_ok (XH_ok r c E n) (v1loop_ok.by exV1)
end Go.Proofs.Ytmcidfecepknpaa

namespace Go.Proofs.Ytmcidfecepknpaa
open Go Go.Sh Go.Proofs
set_option linter.unusedVariables false
structure V2P where
  n : Nat
  V : Nat → Sta
  m : Nat
  W : Nat → Sta
  by' : Int
def lV2_J (p : V2P) (k : Nat) : Prop := k ≤ p.n ∧ p.n = p.m ∧ p.n ≤ 1000 ∧ ∀ j, j < p.n → mvS p.by' (p.V j) (p.W j)
noncomputable def heapV2 (p : V2P) : Heap := [none, none, none, none, none, none, none, lineO p.n p.V, lineO p.m p.W, none, none]
noncomputable def lV2 : LSpec V2P Nat Nat where
  code := loopOf Try.prog 8 22
  N := 11
  I := fun p k => blank 223 [(1, iv p.by'), (5, .bool true), (12, .osl 7 p.n), (14, .osl 8 p.m), (24, iv k)] (heapV2 p)
  J := lV2_J
  ways := 1
  E := fun w p d => (.exit 2, blank 223 [(5, .bool true)] [none, none, none, none, none, none, none, none, none, none, none])
  JE := fun w p d => Leaf True
noncomputable def zV2 (p : V2P) (k : Nat) : KX := fun x S' => match x with
  | .normal => Leaf (k < p.n) ∧ Wk 11 [] (lV2.I p (k + 1)) S'
  | .exit j => gateB (Nat.beq j 2) (Wk 11 [] (lV2.E 0 p k).2 S')
  | .ret => Leaf False
def exV2 (S : SS) : Option (V2P × Nat × Ren) := match S.get 1, lineAt S.heap (S.get 12), lineAt S.heap (S.get 14) with
  | .int _ b, some (_, n, V), some (_, m, W) => some (⟨n, V, m, W, b⟩, 0, [])
  | _, _, _ => none
end Go.Proofs.Ytmcidfecepknpaa

namespace Go.Proofs.Ytmcidfecepknpaa
open Go Go.Sh Go.Proofs
noncomputable def ops824 : Array Oper := opsOf Try.prog 8 24
def l824 : List Nat := [0, 1, 2, 3, 4, 5, 6, 7, 8, 9, 10, 11, 12, 13, 14, 15, 16, 17, 18, 19, 20, 21, 22, 23, 24, 25, 26, 27, 28, 29, 30, 31, 32, 33, 34, 35, 36, 37, 38, 39, 40, 41, 42, 43, 44, 45, 46, 47, 48, 49, 50, 51, 52, 53, 54, 55, 56, 57, 58, 59, 60, 61, 62, 63, 64]
theorem cert824 : certB (fun g => [].contains g) ops824 l824 (Array.replicate ops824.size false) = true := by kernel_rfl
noncomputable def XV : Ctx := XL.sched 8 24 ops824 [] l824
theorem len824 : l824.length = ops824.size := by kernel_rfl
theorem XV_ok : XV.OK := Ctx.sched_ok (f := 8) (i := 24) (ops := ops824) (fs := []) (l := l824) XL_ok len824 cert824 (by simp)
end Go.Proofs.Ytmcidfecepknpaa

namespace Go.Proofs.Ytmcidfecepknpaa
open Go Go.Sh Go.Proofs
set_option linter.unusedVariables false
set_option linter.unusedSimpArgs false
def v2loop_t0 (p : V2P) : Prop :=
  (p.1 = p.1 ∧ ∀ (i : Nat), i < p.n → (p.2 i).1 = (p.2 i).1 ∧ (p.2 i).2 = (p.2 i).2 ∧ (p.2 i).3 = (p.2 i).3 ∧ True) ∧ (p.3 = p.3 ∧ ∀ (i : Nat), i < p.m → (p.4 i).1 = (p.4 i).1 ∧ (p.4 i).2 = (p.4 i).2 ∧ (p.4 i).3 = (p.4 i).3 ∧ True) ∧ True
theorem v2loop_t0_t (p : V2P) : v2loop_t0 p :=
  ⟨⟨rfl, (fun _ => (fun _ => ⟨rfl, ⟨rfl, ⟨rfl, trivial⟩⟩⟩))⟩, ⟨⟨rfl, (fun _ => (fun _ => ⟨rfl, ⟨rfl, ⟨rfl, trivial⟩⟩⟩))⟩, trivial⟩⟩
def v2loop_T (p : V2P) (d : Nat) : Prop :=
  ifB (decide (Int.ofNat d < Int.ofNat p.1)) (ops824 = ops824 ∧ ifB (decide (Int.ofNat d < (↑p.1 : Int))) (ifB (decide (d < p.1)) (ifB (decide (Int.ofNat d < (↑p.3 : Int))) (ifB (decide (d < p.3)) (ifB (((p.2 d).1 != (p.4 d).1) == false) (ifB (decide (Int.ofNat d < (↑p.3 : Int))) (ifB (decide (d < p.3)) (ifB (decide (Int.ofNat d < (↑p.1 : Int))) (ifB (decide (d < p.1)) (ifB (((p.4 d).2 != IntKind.i64.wrap ((p.2 d).2 + p.5)) == false) (ifB (decide (Int.ofNat d < (↑p.1 : Int))) (ifB (decide (d < p.1)) (ifB (decide ((p.2 d).3 ≥ (0 : Int)) == true) (ifB (decide (Int.ofNat d < (↑p.3 : Int))) (ifB (decide (d < p.3)) (ifB (decide (Int.ofNat d < (↑p.1 : Int))) (ifB (decide (d < p.1)) (ifB (((p.4 d).3 != IntKind.i64.wrap ((p.2 d).3 + p.5)) == false) (ifB (decide (Int.ofNat d < (↑p.1 : Int))) (ifB (decide (d < p.1)) (ifB (decide ((p.2 d).3 < (0 : Int)) == true) (ifB (decide (Int.ofNat d < (↑p.3 : Int))) (ifB (decide (d < p.3)) (ifB ((p.4 d).3 != (-1 : Int)) (Leaf False) (Leaf (d < p.n) ∧ (p.5 = p.5 ∧ true = true ∧ p.1 = p.1 ∧ p.3 = p.3 ∧ Int.ofNat (d + (1 : Nat)) = IntKind.i64.wrap (Int.ofNat (d + (1 : Nat))) ∧ True) ∧ v2loop_t0 p)) False) False) (Leaf (d < p.n) ∧ (p.5 = p.5 ∧ true = true ∧ p.1 = p.1 ∧ p.3 = p.3 ∧ Int.ofNat (d + (1 : Nat)) = IntKind.i64.wrap (Int.ofNat (d + (1 : Nat))) ∧ True) ∧ v2loop_t0 p)) False) False) (Leaf False)) False) False) False) False) (ifB (decide (Int.ofNat d < (↑p.1 : Int))) (ifB (decide (d < p.1)) (ifB (decide ((p.2 d).3 < (0 : Int)) == true) (ifB (decide (Int.ofNat d < (↑p.3 : Int))) (ifB (decide (d < p.3)) (ifB ((p.4 d).3 != (-1 : Int)) (Leaf False) (Leaf (d < p.n) ∧ (p.5 = p.5 ∧ true = true ∧ p.1 = p.1 ∧ p.3 = p.3 ∧ Int.ofNat (d + (1 : Nat)) = IntKind.i64.wrap (Int.ofNat (d + (1 : Nat))) ∧ True) ∧ v2loop_t0 p)) False) False) (Leaf (d < p.n) ∧ (p.5 = p.5 ∧ true = true ∧ p.1 = p.1 ∧ p.3 = p.3 ∧ Int.ofNat (d + (1 : Nat)) = IntKind.i64.wrap (Int.ofNat (d + (1 : Nat))) ∧ True) ∧ v2loop_t0 p)) False) False)) False) False) (Leaf False)) False) False) False) False) (Leaf False)) False) False) False) False) ((true = true ∧ True) ∧ True)
theorem v2loop_eq (p : V2P) (d : Nat) : exec XV 60 8 lV2.code (lV2.I p d) (zV2 p d) = v2loop_T p d := by kernel_rfl

theorem v2loop_step (p : V2P) (k : Nat) (hJ : lV2_J p k) : v2loop_T p k := by
  obtain ⟨h1, h2, h3, h4⟩ := hJ
  rcases Nat.lt_or_ge k p.n with hk | hk
  · obtain ⟨m1, m2, m3, m4⟩ := h4 k hk
    unfold v2loop_T
    repeat' (first | with_reducible refine ifB_split (fun _ => ?_) (fun _ => ?_) | with_reducible refine And.intro ?_ ?_)
    all_goals try first | with_reducible exact v2loop_t0_t _ | with_reducible rfl | with_reducible exact trivial | with_reducible exact List.Perm.refl _
    all_goals simp only [Leaf, Int.ofNat_eq_natCast, decide_eq_true_eq, decide_eq_false_iff_not, beq_iff_eq, beq_eq_false_iff_ne, bne_iff_ne, ne_eq, Bool.not_eq_true, bne_eq_false_iff_eq, Bool.not_eq_false, ge_iff_le, Classical.not_not] at *
    all_goals first
      | omega
      | (rw [wrapSmall (by omega) (by omega)]; done)
      | (have := m3 (by assumption); simp_all [w64]; done)
      | (have := m4 (by omega); simp_all [w64]; done)
      | (simp_all [w64]; done)
      | (simp_all [w64]; omega)
      | trace_state
  · unfold v2loop_T
    repeat' (first | with_reducible refine ifB_split (fun _ => ?_) (fun _ => ?_) | with_reducible refine And.intro ?_ ?_)
    all_goals try first | with_reducible exact v2loop_t0_t _ | with_reducible rfl | with_reducible exact trivial | with_reducible exact List.Perm.refl _
    all_goals first
      | exact ⟨⟨rfl, trivial⟩, trivial⟩
      | (simp only [Int.ofNat_eq_natCast, decide_eq_true_eq] at *; omega)
      | trace_state
set_option maxRecDepth 100000 in
theorem v2loop_ok : LoopOK XV.P lV2.code lV2.L := by
  refine lV2.ok XV_ok 60 8 (fun p k => p.n - k) zV2 (fun _ _ _ => trivial) (fun p d w q hw => ?_) (fun p k S' hJ h => ?_) (fun p k x S' hx hJ h => ?_) fun p k hJ => ?_
  · match w, hw with
    | 0, _ => exact trivial
  · obtain ⟨h1, h2⟩ := h
    simp only [Leaf] at h1
    exact ⟨[], k + 1, by show p.n - (k + 1) < p.n - k; omega, ⟨h1, hJ.2⟩, h2⟩
  · cases x with
    | normal => exact hx.elim
    | ret => exact (show False from h).elim
    | exit j =>
      obtain ⟨h0, h2⟩ := gateB_spec h
      have h0 := Nat.eq_of_beq_eq_true h0
      subst h0
      exact ⟨0, k, [], Nat.lt_succ_self 0, trivial, rfl, h2⟩
  · rw [v2loop_eq]
    exact v2loop_step p k hJ
noncomputable def XMv (r : Rul) (c : Clm) (E : Nat → Evt) (n : Nat) : Ctx := (XMv0 r c E n).loop 8 22 lV2.code (lV2.by exV2)
theorem XMv_ok (r : Rul) (c : Clm) (E : Nat → Evt) (n : Nat) : (XMv r c E n).OK := Ctx.loop_ok (XMv0_ok r c E n) (v2loop_ok.by exV2)
end Go.Proofs.Ytmcidfecepknpaa

