/-
  Parts of the proof: the executor of states by symbols, and the contracts of the functions that the law reaches. No condition.
-/
import Derived.Test.YtmcidfecepknpaaW3
set_option linter.unusedVariables false
set_option linter.unusedSimpArgs false

namespace Go.Proofs.Ytmcidfecepknpaa
open Go Go.Sh Go.Proofs
set_option linter.unusedVariables false
/-! ### equal lists -/
structure SL2 (α : Type) where
  n : Nat
  V : Nat → α
  m : Nat
  W : Nat → α
def staEq (a b : Sta) : Bool := a.state == b.state && (a.since == b.since && (a.next == b.next && true))
def sameL {α : Type} (eq : α → α → Bool) (p : SL2 α) : Bool := decide (p.n = p.m) && (List.range p.n).all fun i => eq (p.V i) (p.W i)
def lineV (k2 : Nat) (W : Nat → Sta) : Option SO := some (.arr false k2 3 39 fun i => (W i).cells)
def intsV (k2 : Nat) (W : Nat → Int) : Option SO := some (.arr false k2 1 3 fun i => [iv (W i)])
def sSameT : FSpec (SL2 Sta) where
  J := fun p => p.n ≤ 100000000 ∧ p.m ≤ 100000000
  A := fun p => [.sl 0 0 p.n, .sl 1 0 p.m]
  H := fun p => [lineV p.n p.V, lineV p.m p.W]
  R := fun p => .bool (sameL staEq p)
  O := fun _ => []
def sInts : FSpec (SL2 Int) where
  J := fun p => p.n ≤ 100000000 ∧ p.m ≤ 100000000
  A := fun p => [.sl 0 0 p.n, .sl 1 0 p.m]
  H := fun p => [intsV p.n p.V, intsV p.m p.W]
  R := fun p => .bool (sameL (fun a b => a == b) p)
  O := fun _ => []
def lST_J (p : SL2 Sta) (i : Nat) : Prop := i ≤ p.n ∧ p.n = p.m ∧ p.n ≤ 100000000 ∧ ∀ j, j < i → staEq (p.V j) (p.W j) = true
noncomputable def lST : LSpec (SL2 Sta) Nat Nat where
  code := loopOf Try.prog 19 4
  N := 2
  I := fun p i => blank 26 [(0, .sl 0 0 p.n), (1, .sl 1 0 p.m), (5, iv i)] [lineV p.n p.V, lineV p.m p.W]
  J := lST_J
  ways := 2
  E := fun w p q => match w with
    | 0 => (.exit 0, blank 26 [] [none, none])
    | _ => (.ret, blank 26 [(4, .bool false)] [none, none])
  JE := fun w p q => match w with
    | 0 => Leaf (p.n = p.m ∧ ∀ j, j < p.n → staEq (p.V j) (p.W j) = true)
    | _ => Leaf (q < p.n ∧ staEq (p.V q) (p.W q) = false)
noncomputable def zST (p : SL2 Sta) (i : Nat) : KX := fun x S' => match x with
  | .normal => Leaf (i < p.n) ∧ Leaf (staEq (p.V i) (p.W i) = true) ∧ Wk 2 [] (lST.I p (i + 1)) S'
  | .exit k => gateB (Nat.beq k 0) (Leaf (p.n ≤ i) ∧ Wk 2 [] (lST.E 0 p 0).2 S')
  | .ret => Leaf (i < p.n) ∧ Leaf (staEq (p.V i) (p.W i) = false) ∧ Wk 2 [] (lST.E 1 p i).2 S'
def lSI_J (p : SL2 Int) (i : Nat) : Prop := i ≤ p.n ∧ p.n = p.m ∧ p.n ≤ 100000000 ∧ ∀ j, j < i → (p.V j == p.W j) = true
noncomputable def lSI : LSpec (SL2 Int) Nat Nat where
  code := loopOf Try.prog 21 4
  N := 2
  I := fun p i => blank 26 [(0, .sl 0 0 p.n), (1, .sl 1 0 p.m), (5, iv i)] [intsV p.n p.V, intsV p.m p.W]
  J := lSI_J
  ways := 2
  E := fun w p q => match w with
    | 0 => (.exit 0, blank 26 [] [none, none])
    | _ => (.ret, blank 26 [(4, .bool false)] [none, none])
  JE := fun w p q => match w with
    | 0 => Leaf (p.n = p.m ∧ ∀ j, j < p.n → (p.V j == p.W j) = true)
    | _ => Leaf (q < p.n ∧ (p.V q == p.W q) = false)
noncomputable def zSI (p : SL2 Int) (i : Nat) : KX := fun x S' => match x with
  | .normal => Leaf (i < p.n) ∧ Leaf ((p.V i == p.W i) = true) ∧ Wk 2 [] (lSI.I p (i + 1)) S'
  | .exit k => gateB (Nat.beq k 0) (Leaf (p.n ≤ i) ∧ Wk 2 [] (lSI.E 0 p 0).2 S')
  | .ret => Leaf (i < p.n) ∧ Leaf ((p.V i == p.W i) = false) ∧ Wk 2 [] (lSI.E 1 p i).2 S'
def exST (S : SS) : Option (SL2 Sta × Nat × Ren) := match S.get 0, S.get 1, arrOf S.heap 0, arrOf S.heap 1 with
  | .sl _ _ n, .sl _ _ m, some (_, V), some (_, W) => some (⟨n, fun i => Sta.ofC (V i), m, fun i => Sta.ofC (W i)⟩, 0, [])
  | _, _, _, _ => none
def exSI (S : SS) : Option (SL2 Int × Nat × Ren) := match S.get 0, S.get 1, arrOf S.heap 0, arrOf S.heap 1 with
  | .sl _ _ n, .sl _ _ m, some (_, V), some (_, W) => some (⟨n, fun i => intOf (V i), m, fun i => intOf (W i)⟩, 0, [])
  | _, _, _, _ => none
end Go.Proofs.Ytmcidfecepknpaa

namespace Go.Proofs.Ytmcidfecepknpaa
open Go Go.Sh Go.Proofs
set_option linter.unusedVariables false
set_option linter.unusedSimpArgs false
def stloop_t0 (p : SL2 Sta) : Prop :=
  (0 : Nat) = (0 : Nat) ∧ p.1 = p.1
theorem stloop_t0_t (p : SL2 Sta) : stloop_t0 p :=
  ⟨rfl, rfl⟩
def stloop_t1 (p : SL2 Sta) : Prop :=
  (0 : Nat) = (0 : Nat) ∧ p.3 = p.3
theorem stloop_t1_t (p : SL2 Sta) : stloop_t1 p :=
  ⟨rfl, rfl⟩
def stloop_t2 (p : SL2 Sta) : Prop :=
  (p.1 = p.1 ∧ ∀ (i_1 : Nat), i_1 < p.n → (p.2 i_1).1 = (p.2 i_1).1 ∧ (p.2 i_1).2 = (p.2 i_1).2 ∧ (p.2 i_1).3 = (p.2 i_1).3 ∧ True) ∧ (p.3 = p.3 ∧ ∀ (i_1 : Nat), i_1 < p.m → (p.4 i_1).1 = (p.4 i_1).1 ∧ (p.4 i_1).2 = (p.4 i_1).2 ∧ (p.4 i_1).3 = (p.4 i_1).3 ∧ True) ∧ True
theorem stloop_t2_t (p : SL2 Sta) : stloop_t2 p :=
  ⟨⟨rfl, (fun _ => (fun _ => ⟨rfl, ⟨rfl, ⟨rfl, trivial⟩⟩⟩))⟩, ⟨⟨rfl, (fun _ => (fun _ => ⟨rfl, ⟨rfl, ⟨rfl, trivial⟩⟩⟩))⟩, trivial⟩⟩
def stloop_T (p : SL2 Sta) (i : Nat) : Prop :=
  ifB (decide (Int.ofNat i < Int.ofNat p.1)) (ifB (decide (Int.ofNat i < (↑p.1 : Int))) (ifB (decide ((0 : Nat) + i < p.1) && true) (ifB (decide (Int.ofNat i < (↑p.3 : Int))) (ifB (decide ((0 : Nat) + i < p.3) && true) (ifB (!((p.2 ((0 : Nat) + i)).1 == (p.4 ((0 : Nat) + i)).1 && ((p.2 ((0 : Nat) + i)).2 == (p.4 ((0 : Nat) + i)).2 && ((p.2 ((0 : Nat) + i)).3 == (p.4 ((0 : Nat) + i)).3 && true)))) (Leaf (i < p.n) ∧ Leaf (staEq (p.V i) (p.W i) = false) ∧ (false = false ∧ True) ∧ True) (Leaf (i < p.n) ∧ Leaf (staEq (p.V i) (p.W i) = true) ∧ (stloop_t0 p ∧ stloop_t1 p ∧ Int.ofNat (i + (1 : Nat)) = IntKind.i64.wrap (Int.ofNat (i + (1 : Nat))) ∧ True) ∧ stloop_t2 p)) False) False) False) False) (Leaf (p.n ≤ i) ∧ True ∧ True)
theorem stloop_eq (p : SL2 Sta) (i : Nat) : exec X0 60 19 lST.code (lST.I p i) (zST p i) = stloop_T p i := by kernel_rfl

theorem stloop_step (p : SL2 Sta) (i : Nat) (hJ : lST_J p i) : stloop_T p i := by
  obtain ⟨h1, h2, h3, h4⟩ := hJ
  unfold stloop_T
  repeat' (first | with_reducible refine ifB_split (fun _ => ?_) (fun _ => ?_) | with_reducible refine And.intro ?_ ?_)
  all_goals try first | with_reducible exact stloop_t0_t _ | with_reducible exact stloop_t1_t _ | with_reducible exact stloop_t2_t _ | with_reducible rfl | with_reducible exact trivial | with_reducible exact List.Perm.refl _
  all_goals simp only [Nat.zero_add, Leaf, Int.ofNat_eq_natCast, decide_eq_true_eq, decide_eq_false_iff_not, Bool.and_eq_true, Bool.and_true, Bool.not_eq_true', Bool.not_eq_true, Bool.not_eq_false', bne_eq_false_iff_eq, bne_iff_ne] at *
  all_goals first
    | omega
    | (rw [wrapSmall (by omega) (by omega)]; done)
    | (simp_all [staEq]; done)
    | (exfalso; simp_all; omega)
    | trace_state
set_option maxRecDepth 100000 in
theorem stloop_ok : LoopOK X0.P lST.code lST.L := by
  refine lST.ok X0_ok 60 19 (fun p i => p.n - i) zST (fun _ _ _ => trivial) (fun p d w q hw => ?_) (fun p i S' hJ h => ?_) (fun p i x S' hx hJ h => ?_) fun p i hJ => ?_
  · match w, hw with
    | 0, _ => exact trivial
    | 1, _ => exact trivial
  · obtain ⟨h1, h2, h3⟩ := h
    obtain ⟨j1, j2, j3, j4⟩ := hJ
    simp only [Leaf] at h1 h2
    refine ⟨[], i + 1, by show p.n - (i + 1) < p.n - i; omega, ⟨h1, j2, j3, fun j hj => ?_⟩, h3⟩
    rcases Nat.lt_succ_iff_lt_or_eq.1 hj with hj | rfl
    · exact j4 j hj
    · exact h2
  · obtain ⟨j1, j2, j3, j4⟩ := hJ
    cases x with
    | normal => exact hx.elim
    | ret =>
      obtain ⟨h1, h2, h3⟩ := h
      exact ⟨1, i, [], by decide, ⟨h1, h2⟩, rfl, h3⟩
    | exit k =>
      obtain ⟨h0, h1, h2⟩ := gateB_spec h
      have h0 := Nat.eq_of_beq_eq_true h0
      subst h0
      simp only [Leaf] at h1
      exact ⟨0, 0, [], by decide, ⟨j2, fun j hj => j4 j (by omega)⟩, rfl, h2⟩
  · rw [stloop_eq]
    exact stloop_step p i hJ
def siloop_t0 (p : SL2 Int) : Prop :=
  (0 : Nat) = (0 : Nat) ∧ p.1 = p.1
theorem siloop_t0_t (p : SL2 Int) : siloop_t0 p :=
  ⟨rfl, rfl⟩
def siloop_t1 (p : SL2 Int) : Prop :=
  (0 : Nat) = (0 : Nat) ∧ p.3 = p.3
theorem siloop_t1_t (p : SL2 Int) : siloop_t1 p :=
  ⟨rfl, rfl⟩
def siloop_t2 (p : SL2 Int) : Prop :=
  (p.1 = p.1 ∧ ∀ (i_1 : Nat), i_1 < p.n → p.2 i_1 = p.2 i_1 ∧ True) ∧ (p.3 = p.3 ∧ ∀ (i_1 : Nat), i_1 < p.m → p.4 i_1 = p.4 i_1 ∧ True) ∧ True
theorem siloop_t2_t (p : SL2 Int) : siloop_t2 p :=
  ⟨⟨rfl, (fun _ => (fun _ => ⟨rfl, trivial⟩))⟩, ⟨⟨rfl, (fun _ => (fun _ => ⟨rfl, trivial⟩))⟩, trivial⟩⟩
def siloop_T (p : SL2 Int) (i : Nat) : Prop :=
  ifB (decide (Int.ofNat i < Int.ofNat p.1)) (ifB (decide (Int.ofNat i < (↑p.1 : Int))) (ifB (decide ((0 : Nat) + i < p.1)) (ifB (decide (Int.ofNat i < (↑p.3 : Int))) (ifB (decide ((0 : Nat) + i < p.3)) (ifB (p.2 ((0 : Nat) + i) != p.4 ((0 : Nat) + i)) (Leaf (i < p.n) ∧ Leaf ((p.V i == p.W i) = false) ∧ (false = false ∧ True) ∧ True) (Leaf (i < p.n) ∧ Leaf ((p.V i == p.W i) = true) ∧ (siloop_t0 p ∧ siloop_t1 p ∧ Int.ofNat (i + (1 : Nat)) = IntKind.i64.wrap (Int.ofNat (i + (1 : Nat))) ∧ True) ∧ siloop_t2 p)) False) False) False) False) (Leaf (p.n ≤ i) ∧ True ∧ True)
theorem siloop_eq (p : SL2 Int) (i : Nat) : exec X0 60 21 lSI.code (lSI.I p i) (zSI p i) = siloop_T p i := by kernel_rfl

theorem siloop_step (p : SL2 Int) (i : Nat) (hJ : lSI_J p i) : siloop_T p i := by
  obtain ⟨h1, h2, h3, h4⟩ := hJ
  unfold siloop_T
  repeat' (first | with_reducible refine ifB_split (fun _ => ?_) (fun _ => ?_) | with_reducible refine And.intro ?_ ?_)
  all_goals try first | with_reducible exact siloop_t0_t _ | with_reducible exact siloop_t1_t _ | with_reducible exact siloop_t2_t _ | with_reducible rfl | with_reducible exact trivial | with_reducible exact List.Perm.refl _
  all_goals simp only [Nat.zero_add, Leaf, Int.ofNat_eq_natCast, decide_eq_true_eq, decide_eq_false_iff_not, Bool.and_eq_true, Bool.and_true, Bool.not_eq_true', Bool.not_eq_true, Bool.not_eq_false', bne_eq_false_iff_eq, bne_iff_ne] at *
  all_goals first
    | omega
    | (rw [wrapSmall (by omega) (by omega)]; done)
    | (simp_all [staEq]; done)
    | (exfalso; simp_all; omega)
    | trace_state
set_option maxRecDepth 100000 in
theorem siloop_ok : LoopOK X0.P lSI.code lSI.L := by
  refine lSI.ok X0_ok 60 21 (fun p i => p.n - i) zSI (fun _ _ _ => trivial) (fun p d w q hw => ?_) (fun p i S' hJ h => ?_) (fun p i x S' hx hJ h => ?_) fun p i hJ => ?_
  · match w, hw with
    | 0, _ => exact trivial
    | 1, _ => exact trivial
  · obtain ⟨h1, h2, h3⟩ := h
    obtain ⟨j1, j2, j3, j4⟩ := hJ
    simp only [Leaf] at h1 h2
    refine ⟨[], i + 1, by show p.n - (i + 1) < p.n - i; omega, ⟨h1, j2, j3, fun j hj => ?_⟩, h3⟩
    rcases Nat.lt_succ_iff_lt_or_eq.1 hj with hj | rfl
    · exact j4 j hj
    · exact h2
  · obtain ⟨j1, j2, j3, j4⟩ := hJ
    cases x with
    | normal => exact hx.elim
    | ret =>
      obtain ⟨h1, h2, h3⟩ := h
      exact ⟨1, i, [], by decide, ⟨h1, h2⟩, rfl, h3⟩
    | exit k =>
      obtain ⟨h0, h1, h2⟩ := gateB_spec h
      have h0 := Nat.eq_of_beq_eq_true h0
      subst h0
      simp only [Leaf] at h1
      exact ⟨0, 0, [], by decide, ⟨j2, fun j hj => j4 j (by omega)⟩, rfl, h2⟩
  · rw [siloop_eq]
    exact siloop_step p i hJ

noncomputable def XE0 : Ctx := (X0.loop 19 4 lST.code (lST.by exST)).loop 21 4 lSI.code (lSI.by exSI)
theorem XE0_ok : XE0.OK := Ctx.loop_ok (Ctx.loop_ok X0_ok (stloop_ok.by exST)) (siloop_ok.by exSI)
end Go.Proofs.Ytmcidfecepknpaa

namespace Go.Proofs.Ytmcidfecepknpaa
open Go Go.Sh Go.Proofs
set_option linter.unusedVariables false
set_option linter.unusedSimpArgs false
def samet_t0 (p : SL2 Sta) : Prop :=
  (2 : Nat) = (2 : Nat) ∧ True ∧ (((0 : Nat) = (0 : Nat) ∧ p.1 = p.1) ∧ ((0 : Nat) = (0 : Nat) ∧ p.3 = p.3) ∧ (0 : Int) = (0 : Int) ∧ True) ∧ (p.1 = p.1 ∧ ∀ (i : Nat), i < p.n → (p.2 i).1 = (p.2 i).1 ∧ (p.2 i).2 = (p.2 i).2 ∧ (p.2 i).3 = (p.2 i).3 ∧ True) ∧ (p.3 = p.3 ∧ ∀ (i : Nat), i < p.m → (p.4 i).1 = (p.4 i).1 ∧ (p.4 i).2 = (p.4 i).2 ∧ (p.4 i).3 = (p.4 i).3 ∧ True) ∧ True
theorem samet_t0_t (p : SL2 Sta) : samet_t0 p :=
  ⟨rfl, ⟨trivial, ⟨⟨⟨rfl, rfl⟩, ⟨⟨rfl, rfl⟩, ⟨rfl, trivial⟩⟩⟩, ⟨⟨rfl, (fun _ => (fun _ => ⟨rfl, ⟨rfl, ⟨rfl, trivial⟩⟩⟩))⟩, ⟨⟨rfl, (fun _ => (fun _ => ⟨rfl, ⟨rfl, ⟨rfl, trivial⟩⟩⟩))⟩, trivial⟩⟩⟩⟩⟩
def samet_T (p : SL2 Sta) : Prop :=
  ifB (Int.ofNat p.1 != Int.ofNat p.3) (sameL staEq p = false ∧ True) (lST.code = lST.code ∧ (lST_J p (0 : Nat) ∧ samet_t0 p) ∧ (True ∧ ∀ (q : Nat), Leaf (p.n = p.m ∧ ∀ (j : Nat), j < p.n → staEq (p.V j) (p.W j) = true) → sameL staEq p = true ∧ True) ∧ ∀ (q : Nat), Leaf (q < p.n ∧ staEq (p.V q) (p.W q) = false) → sameL staEq p = false ∧ True)
theorem samet_eq (p : SL2 Sta) : callBy XE0 (exec XE0 60) 19 (sSameT.A p) (sSameT.H p) (RetC (sSameT.H p).length (sSameT.R p) (sSameT.O p)) = samet_T p := by kernel_rfl

theorem samet_step (p : SL2 Sta) (hJ : sSameT.J p) : samet_T p := by
  obtain ⟨h1, h2⟩ := (show p.n ≤ 100000000 ∧ p.m ≤ 100000000 from hJ)
  unfold samet_T
  repeat' (first | with_reducible refine ifB_split (fun _ => ?_) (fun _ => ?_) | with_reducible refine And.intro ?_ ?_ | with_reducible refine fun (q : Nat) hq => ?_)
  all_goals try first | with_reducible exact samet_t0_t _ | with_reducible rfl | with_reducible exact trivial | with_reducible exact List.Perm.refl _
  all_goals simp only [Leaf, Int.ofNat_eq_natCast, bne_iff_ne, ne_eq, bne_eq_false_iff_eq, Int.natCast_inj] at *
  all_goals first
    | (have hne : ¬ p.n = p.m := by assumption
       simp [sameL, hne]; done)
    | (have he : p.n = p.m := by assumption
       exact ⟨Nat.zero_le _, he, h1, fun j hj => absurd hj (Nat.not_lt_zero j)⟩)
    | (simp only [sameL, Bool.and_eq_true, decide_eq_true_eq, List.all_eq_true, List.mem_range]; exact hq)
    | (refine Bool.eq_false_iff.2 fun h => ?_
       simp only [sameL, Bool.and_eq_true, decide_eq_true_eq, List.all_eq_true, List.mem_range] at h
       have := h.2 q hq.1
       have h9 := hq.2
       first
       | (rw [h9] at this; cases this)
       | (simp_all; done))
    | trace_state
theorem samet_ok : sSameT.OK XE0.P 19 := .of_eq XE0_ok 60 _ samet_eq (fun _ => rfl) (fun _ _ o h => by cases h) fun p hJ => samet_step p hJ
def samei_t0 (p : SL2 Int) : Prop :=
  (2 : Nat) = (2 : Nat) ∧ True ∧ (((0 : Nat) = (0 : Nat) ∧ p.1 = p.1) ∧ ((0 : Nat) = (0 : Nat) ∧ p.3 = p.3) ∧ (0 : Int) = (0 : Int) ∧ True) ∧ (p.1 = p.1 ∧ ∀ (i : Nat), i < p.n → p.2 i = p.2 i ∧ True) ∧ (p.3 = p.3 ∧ ∀ (i : Nat), i < p.m → p.4 i = p.4 i ∧ True) ∧ True
theorem samei_t0_t (p : SL2 Int) : samei_t0 p :=
  ⟨rfl, ⟨trivial, ⟨⟨⟨rfl, rfl⟩, ⟨⟨rfl, rfl⟩, ⟨rfl, trivial⟩⟩⟩, ⟨⟨rfl, (fun _ => (fun _ => ⟨rfl, trivial⟩))⟩, ⟨⟨rfl, (fun _ => (fun _ => ⟨rfl, trivial⟩))⟩, trivial⟩⟩⟩⟩⟩
def samei_T (p : SL2 Int) : Prop :=
  ifB (Int.ofNat p.1 != Int.ofNat p.3) (sameL BEq.beq p = false ∧ True) (lSI.code = lSI.code ∧ (lSI_J p (0 : Nat) ∧ samei_t0 p) ∧ (True ∧ ∀ (q : Nat), Leaf (p.n = p.m ∧ ∀ (j : Nat), j < p.n → (p.V j == p.W j) = true) → sameL BEq.beq p = true ∧ True) ∧ ∀ (q : Nat), Leaf (q < p.n ∧ (p.V q == p.W q) = false) → sameL BEq.beq p = false ∧ True)
theorem samei_eq (p : SL2 Int) : callBy XE0 (exec XE0 60) 21 (sInts.A p) (sInts.H p) (RetC (sInts.H p).length (sInts.R p) (sInts.O p)) = samei_T p := by kernel_rfl

theorem samei_step (p : SL2 Int) (hJ : sInts.J p) : samei_T p := by
  obtain ⟨h1, h2⟩ := (show p.n ≤ 100000000 ∧ p.m ≤ 100000000 from hJ)
  unfold samei_T
  repeat' (first | with_reducible refine ifB_split (fun _ => ?_) (fun _ => ?_) | with_reducible refine And.intro ?_ ?_ | with_reducible refine fun (q : Nat) hq => ?_)
  all_goals try first | with_reducible exact samei_t0_t _ | with_reducible rfl | with_reducible exact trivial | with_reducible exact List.Perm.refl _
  all_goals simp only [Leaf, Int.ofNat_eq_natCast, bne_iff_ne, ne_eq, bne_eq_false_iff_eq, Int.natCast_inj] at *
  all_goals first
    | (have hne : ¬ p.n = p.m := by assumption
       simp [sameL, hne]; done)
    | (have he : p.n = p.m := by assumption
       exact ⟨Nat.zero_le _, he, h1, fun j hj => absurd hj (Nat.not_lt_zero j)⟩)
    | (simp only [sameL, Bool.and_eq_true, decide_eq_true_eq, List.all_eq_true, List.mem_range]; exact hq)
    | (refine Bool.eq_false_iff.2 fun h => ?_
       simp only [sameL, Bool.and_eq_true, decide_eq_true_eq, List.all_eq_true, List.mem_range] at h
       have := h.2 q hq.1
       have h9 := hq.2
       first
       | (rw [h9] at this; cases this)
       | (simp_all; done))
    | trace_state
theorem samei_ok : sInts.OK XE0.P 21 := .of_eq XE0_ok 60 _ samei_eq (fun _ => rfl) (fun _ _ o h => by cases h) fun p hJ => samei_step p hJ

def slAt (h : Heap) (v : SV) : Option (Nat × Option Nat × (Nat → List SV)) := match v with
  | .nils => some (0, none, fun _ => [])
  | .osl l n => match arrOf h l with | some (_, u) => some (n, some l, u) | none => none
  | .sl l _ n => match arrOf h l with | some (_, u) => some (n, some l, u) | none => none
  | _ => none
def exSameT (args : List SV) (h : Heap) : Option (SL2 Sta × List (Option Nat)) := match args with
  | [a, b] => match slAt h a, slAt h b with
    | some (n, l, V), some (m, l', W) => some (⟨n, fun i => Sta.ofC (V i), m, fun i => Sta.ofC (W i)⟩, [l, l'])
    | _, _ => none
  | _ => none
def exInts (args : List SV) (h : Heap) : Option (SL2 Int × List (Option Nat)) := match args with
  | [a, b] => match slAt h a, slAt h b with
    | some (n, l, V), some (m, l', W) => some (⟨n, fun i => intOf (V i), m, fun i => intOf (W i)⟩, [l, l'])
    | _, _ => none
  | _ => none
noncomputable def XH (r : Rul) (c : Clm) (E : Nat → Evt) (n : Nat) : Ctx := ((XG r c E n).with 19 (sSameT.by exSameT)).with 21 (sInts.by exInts)
theorem XH_ok (r : Rul) (c : Clm) (E : Nat → Evt) (n : Nat) : (XH r c E n).OK := Ctx.with_ok (Ctx.with_ok (XG_ok r c E n) (samet_ok.by exSameT)) (samei_ok.by exInts)
end Go.Proofs.Ytmcidfecepknpaa

namespace Go.Proofs.Ytmcidfecepknpaa
open Go Go.Sh Go.Proofs
set_option linter.unusedVariables false

/-! ### everything later -/
def Sta.mv (b : Int) (s : Sta) : Sta := ⟨s.state, s.since + b, if 0 ≤ s.next then s.next + b else s.next⟩
theorem begins_mv {r : Rul} (hr : r.small) {s t b : Int} (h0 : 0 ≤ t) (hb : 0 ≤ b) (h1 : t + b ≤ 30000000) : begins r s (t + b) = (begins r s t).mv b := by
  obtain ⟨r1, r2, r3, r4⟩ := hr
  have hr : r.small := ⟨r1, r2, r3, r4⟩
  unfold begins Sta.mv
  dsimp only
  rw [nextOf_small hr (by omega) h1, nextOf_small hr h0 (by omega)]
  congr 1
  by_cases h1 : s = 1
  · simp only [if_pos h1]; rw [if_pos (by omega)]; omega
  simp only [if_neg h1]
  by_cases h2 : s = 2
  · simp only [if_pos h2]; rw [if_pos (by omega)]; omega
  simp only [if_neg h2]
  by_cases h3 : s = 3
  · simp only [if_pos h3]; rw [if_pos (by omega)]; omega
  simp only [if_neg h3]
  by_cases h4 : s = 4
  · simp only [if_pos h4]; rw [if_pos (by omega)]; omega
  simp only [if_neg h4]
  rw [if_neg (by omega)]
theorem goesOn_mv {s : Sta} {u b : Int} (hb : 0 ≤ b) : goesOn (u + b) (s.mv b) = goesOn u s := by
  unfold goesOn Sta.mv
  dsimp only
  by_cases h : 0 ≤ s.next
  · rw [if_pos h, decide_eq_true h, decide_eq_true (show 0 ≤ s.next + b by omega)]
    congr 1
    by_cases h2 : s.next ≤ u
    · rw [decide_eq_true h2, decide_eq_true (by omega)]
    · rw [decide_eq_false h2, decide_eq_false (by omega)]
  · rw [if_neg h, decide_eq_false h]
    rfl
theorem step1_mv {r : Rul} (hr : r.small) {s : Sta} {b : Int} (h0 : 0 ≤ s.next) (hb : 0 ≤ b) (h1 : s.next + b ≤ 30000000) : step1 r (s.mv b) = (step1 r s).mv b := by
  unfold step1
  show begins r (follow s.state) (if 0 ≤ s.next then s.next + b else s.next) = _
  rw [if_pos h0]
  exact begins_mv hr h0 hb h1
theorem go_mv {r : Rul} (hr : r.small) {u u' b : Int} (hb : 0 ≤ b ∧ b ≤ 1000000) (hu : ∀ s : Sta, s.fine r → dl r s ≤ 25000000 → goesOn u' (s.mv b) = goesOn u s) : ∀ (m : Nat) {s : Sta}, s.fine r → dl r s ≤ 25000000 →
    goN r u' m (s.mv b) = (goN r u m s).mv b ∧ aloneL r u' m (s.mv b) = (aloneL r u m s).map (Sta.mv b) ∧ (∀ x ∈ aloneL r u m s, x.fine r)
  | 0, s, _, _ => ⟨rfl, rfl, fun x hx => by cases hx⟩
  | m + 1, s, h, hd => by
    unfold goN aloneL
    rw [hu s h hd]
    cases hg : goesOn u s with
    | false => exact ⟨rfl, rfl, fun x hx => by cases hx⟩
    | true =>
      obtain ⟨h1, h2, h3⟩ := h.goes hg
      have hn := (dl_next hr h).2
      have hs := dl_step hr h hg
      have hf : (step1 r s).fine r := begins_fine hr (follow_st _ h1) h2 (by omega)
      have hm := step1_mv hr h2 hb.1 (show s.next + b ≤ 30000000 by omega)
      obtain ⟨g1, g2, g3⟩ := go_mv hr hb hu m (s := step1 r s) hf (by omega)
      dsimp only
      rw [hm]
      refine ⟨g1, by rw [g2]; rfl, fun x hx => ?_⟩
      rcases List.mem_cons.1 hx with rfl | hx
      · exact hf
      · exact g3 x hx
theorem after_mv {c d : Clm} (hcd : d.backed = c.backed) {b : Int} {s : Int} {e e' : Evt} (hk : e'.kind = e.kind) (hr : e'.reason = e.reason) : afterB d s e' = afterB c s e ∧ afterN d s e' = afterN c s e := by
  unfold afterB afterN
  rw [hcd, hk, hr]
  exact ⟨rfl, rfl⟩
structure Moved (r : Rul) (c d : Clm) (E F : Nat → Evt) (n : Nat) (b : Int) : Prop where
  good : Good r c E n
  bb : 0 ≤ b ∧ b ≤ 1000000
  asked : c.asked ≤ 999 ∧ d.asked = c.asked + b
  backed : d.backed = c.backed
  ev : ∀ j, j < n → (F j).kind = (E j).kind ∧ (F j).at' = (E j).at' + b ∧ (F j).reason = (E j).reason
  hi : ∀ j, j < n → (E j).at' ≤ 1000000
theorem Moved.ends {r : Rul} {c d : Clm} {E F : Nat → Evt} {n : Nat} {b : Int} (h : Moved r c d E F n b) : c.asked + r.answer - 1 + r.settle + r.cooling + r.reverse ≤ 25000000 := by
  obtain ⟨r1, r2, r3, r4⟩ := h.good.small
  have := h.asked
  omega
theorem Moved.step {r : Rul} {c d : Clm} {E F : Nat → Evt} {n : Nat} {b : Int} (h : Moved r c d E F n b) : ∀ i, i ≤ n →
    runN r d F (begins r 1 d.asked) i = (runN r c E (begins r 1 c.asked) i).mv b ∧ line r d F (begins r 1 d.asked) i = (line r c E (begins r 1 c.asked) i).map (Sta.mv b) ∧ voids r d F (begins r 1 d.asked) i = voids r c E (begins r 1 c.asked) i ∧ (∀ x ∈ line r c E (begins r 1 c.asked) i, x.fine r)
  | 0, _ => by
    have ha := h.good.asked
    have hb := h.bb
    have h0 : begins r 1 d.asked = (begins r 1 c.asked).mv b := by rw [h.asked.2]; exact begins_mv h.good.small ha.1 hb.1 (by omega)
    refine ⟨h0, ?_, rfl, fun x hx => ?_⟩
    · show [begins r 1 d.asked] = _
      rw [h0]; rfl
    · have hx : x ∈ [begins r 1 c.asked] := hx
      simp only [List.mem_singleton] at hx
      subst hx
      exact begins_fine h.good.small (by omega) ha.1 (by omega)
  | i + 1, hi => by
    obtain ⟨i1, i2, i3, i4⟩ := h.step i (by omega)
    obtain ⟨e1, e2, e3⟩ := h.ev i (by omega)
    have hat := h.hi i (by omega)
    have hb := h.bb
    obtain ⟨f1, f2⟩ := h.good.run i (by omega)
    have hev := h.good.ev (i := i) (by omega)
    have hl := h.good.last i (by omega)
    have hd := h.good.dl_run i (by omega)
    have he := h.ends
    obtain ⟨g1, g2, g3⟩ := go_mv h.good.small (u := (E i).at') (u' := (F i).at') hb (fun s _ _ => by rw [e2]; exact goesOn_mv hb.1) 4 f1 (by omega)
    have a := after_mv (c := c) (d := d) h.backed (b := b) (s := (goN r (E i).at' 4 (runN r c E (begins r 1 c.asked) i)).state) (e := E i) (e' := F i) e1 e3
    have hst : ((goN r (E i).at' 4 (runN r c E (begins r 1 c.asked) i)).mv b).state = (goN r (E i).at' 4 (runN r c E (begins r 1 c.asked) i)).state := rfl
    have gf := (goN_fine h.good.small (u := (E i).at') (by omega) 4 f1).1
    have hbeg : begins r (afterN c (goN r (E i).at' 4 (runN r c E (begins r 1 c.asked) i)).state (E i)) ((E i).at' + b) = (begins r (afterN c (goN r (E i).at' 4 (runN r c E (begins r 1 c.asked) i)).state (E i)) (E i).at').mv b := begins_mv h.good.small (by omega) hb.1 (by omega)
    refine ⟨?_, ?_, ?_, ?_⟩
    · show evN r d (runN r d F (begins r 1 d.asked) i) (F i) = (evN r c (runN r c E (begins r 1 c.asked) i) (E i)).mv b
      unfold evN
      rw [i1, g1, hst, a.1, a.2, e2, hbeg]
      cases afterB c (goN r (E i).at' 4 (runN r c E (begins r 1 c.asked) i)).state (E i) <;> rfl
    · show line r d F (begins r 1 d.asked) i ++ evL r d (runN r d F (begins r 1 d.asked) i) (F i) = (line r c E (begins r 1 c.asked) i ++ evL r c (runN r c E (begins r 1 c.asked) i) (E i)).map (Sta.mv b)
      rw [List.map_append, i2]
      unfold evL
      rw [i1, g1, g2, hst, a.1, a.2, e2, hbeg, List.map_append]
      cases afterB c (goN r (E i).at' 4 (runN r c E (begins r 1 c.asked) i)).state (E i) <;> rfl
    · show voids r d F (begins r 1 d.asked) i ++ _ = voids r c E (begins r 1 c.asked) i ++ _
      rw [i3, i1, g1, hst, a.1]
    · intro x hx
      have hx : x ∈ line r c E (begins r 1 c.asked) i ++ evL r c (runN r c E (begins r 1 c.asked) i) (E i) := hx
      unfold evL at hx
      rcases List.mem_append.1 hx with hx | hx
      · exact i4 x hx
      · rcases List.mem_append.1 hx with hx | hx
        · exact g3 x hx
        · cases hab : afterB c (goN r (E i).at' 4 (runN r c E (begins r 1 c.asked) i)).state (E i) with
          | false => rw [hab] at hx; cases hx
          | true =>
            rw [hab] at hx
            simp only [List.mem_singleton] at hx
            subst hx
            exact begins_fine h.good.small (afterN_b hab) (by omega) (by omega)
theorem Moved.good2 {r : Rul} {c d : Clm} {E F : Nat → Evt} {n : Nat} {b : Int} (h : Moved r c d E F n b) (hd : d.ok = true) : Good r d F n := by
  have hk := (CP.ok_iff _).1 h.good.ok
  refine ⟨h.good.small, (CP.ok_iff _).2 ⟨hk.1, hd, hk.2.2.1, fun j hj => ?_⟩⟩
  have hj' : j < n := hj
  have he := hk.2.2.2 j hj
  obtain ⟨e1, e2, e3⟩ := h.ev j hj'
  have hl : lastOf d.asked F j = lastOf c.asked E j + b := by
    cases j with
    | zero => exact h.asked.2
    | succ j => exact (h.ev j (by omega)).2.1
  have hb := h.bb
  have hat := h.hi j hj'
  show evOk (lastOf d.asked F j) (F j) = true
  have he : evOk (lastOf c.asked E j) (E j) = true := he
  simp only [evOk, inB, Bool.and_eq_true, decide_eq_true_eq] at he ⊢
  rw [e1, e2, e3, hl]
  exact ⟨⟨he.1.1, by omega⟩, he.2⟩
theorem Moved.lists {r : Rul} {c d : Clm} {E F : Nat → Evt} {n : Nat} {b : Int} (h : Moved r c d E F n b) (hd : d.ok = true) :
    lineL ⟨r, d, F, n⟩ = (lineL ⟨r, c, E, n⟩).map (Sta.mv b) ∧ voidL ⟨r, d, F, n⟩ = voidL ⟨r, c, E, n⟩ ∧ (∀ x ∈ lineL ⟨r, c, E, n⟩, x.fine r) := by
  obtain ⟨i1, i2, i3, i4⟩ := h.step n (Nat.le_refl _)
  have ho := h.good.ok
  have ho2 := (h.good2 hd).ok
  have he := h.ends
  have hrun := h.good.dl_run n (Nat.le_refl _)
  have hb := h.bb
  obtain ⟨g1, g2, g3⟩ := go_mv h.good.small (u := 4611686018427387904) (u' := 4611686018427387904) h.bb (fun s hs hdl => by
    have hn := (dl_next h.good.small hs).2
    unfold goesOn Sta.mv
    dsimp only
    by_cases h0 : 0 ≤ s.next
    · rw [if_pos h0, decide_eq_true h0, decide_eq_true (show 0 ≤ s.next + b by omega), decide_eq_true (show s.next ≤ 4611686018427387904 by omega), decide_eq_true (show s.next + b ≤ 4611686018427387904 by omega)]
    · rw [if_neg h0]) 4 (h.good.run n (Nat.le_refl _)).1 (by omega)
  simp only [lineL, voidL, ho, ho2]
  refine ⟨?_, i3, fun x hx => ?_⟩
  · rw [i1, i2, g2, List.map_append]
  · rcases List.mem_append.1 hx with hx | hx
    · exact i4 x hx
    · exact g3 x hx
end Go.Proofs.Ytmcidfecepknpaa

namespace Go.Proofs.Ytmcidfecepknpaa
open Go Go.Sh Go.Proofs
set_option linter.unusedVariables false

/-! ### runs hang on the first events alone -/
theorem runN_congr {r : Rul} {c : Clm} {E F : Nat → Evt} {a : Sta} : ∀ i, (∀ j, j < i → F j = E j) → runN r c F a i = runN r c E a i
  | 0, _ => rfl
  | i + 1, h => by
    show evN r c (runN r c F a i) (F i) = evN r c (runN r c E a i) (E i)
    rw [runN_congr i fun j hj => h j (by omega), h i (by omega)]
theorem line_congr {r : Rul} {c : Clm} {E F : Nat → Evt} {a : Sta} : ∀ i, (∀ j, j < i → F j = E j) → line r c F a i = line r c E a i
  | 0, _ => rfl
  | i + 1, h => by
    show line r c F a i ++ evL r c (runN r c F a i) (F i) = line r c E a i ++ evL r c (runN r c E a i) (E i)
    rw [runN_congr i fun j hj => h j (by omega), h i (by omega), line_congr i fun j hj => h j (by omega)]
theorem voids_congr {r : Rul} {c : Clm} {E F : Nat → Evt} {a : Sta} : ∀ i, (∀ j, j < i → F j = E j) → voids r c F a i = voids r c E a i
  | 0, _ => rfl
  | i + 1, h => by
    unfold voids
    rw [runN_congr i fun j hj => h j (by omega), h i (by omega), voids_congr i fun j hj => h j (by omega)]
theorem lastOf_congr {a : Int} {E F : Nat → Evt} : ∀ i, (∀ j, j < i → F j = E j) → lastOf a F i = lastOf a E i
  | 0, _ => rfl
  | i + 1, h => by show (F i).at' = (E i).at'; rw [h i (by omega)]
theorem Good.cut {r : Rul} {c : Clm} {E F : Nat → Evt} {n k : Nat} (h : Good r c E n) (hk : k ≤ n) (hF : ∀ j, j < k → F j = E j) : Good r c F k := by
  have h0 := (CP.ok_iff _).1 h.ok
  refine ⟨h.small, (CP.ok_iff _).2 ⟨h0.1, h0.2.1, ?_, fun j hj => ?_⟩⟩
  · have : n ≤ 20 := h0.2.2.1
    show k ≤ 20; omega
  · have hj : j < k := hj
    show evOk (lastOf c.asked F j) (F j) = true
    rw [lastOf_congr j fun i hi => hF i (by omega), hF j hj]
    exact h0.2.2.2 j (by show j < n; omega)
/-- Events after a time change nothing at it. -/
theorem Good.first {r : Rul} {c : Clm} {E F : Nat → Evt} {n : Nat} (h : Good r c E n) {t : Int} (ht : c.asked ≤ t) (hb : t ≤ 20000000) (hF : ∀ j, j < stopN E t n → F j = E j) :
    outErr ⟨r, c, F, stopN E t n, t⟩ = 0 ∧ outcome ⟨r, c, F, stopN E t n, t⟩ = outcome ⟨r, c, E, n, t⟩ := by
  obtain ⟨s1, s2, s3⟩ := stopN_spec E t n
  have hg := h.cut s1 hF
  obtain ⟨o1, o2⟩ := hg.out ht hb
  refine ⟨o1, ?_⟩
  rw [o2, (h.out ht hb).2, stopN_eq (E := F) (n := stopN E t n) (i := stopN E t n) (Nat.le_refl _) (fun j hj => by rw [hF j hj]; exact s2 j hj) (.inl rfl), runN_congr _ hF]

/-! ### going on, and on -/
theorem aloneL_sat {r : Rul} {u : Int} : ∀ (m m' : Nat) {s : Sta}, s.ok r → rank s.state ≤ m → rank s.state ≤ m' → aloneL r u m s = aloneL r u m' s ∧ goN r u m s = goN r u m' s
  | 0, m', s, hok, h, _ => by
    have hg : goesOn u s = false := by
      cases hg : goesOn u s with
      | false => rfl
      | true => have := rank_pos hok hg; omega
    rw [aloneL_done hg, aloneL_done hg, goN_done hg, goN_done hg]
    exact ⟨rfl, rfl⟩
  | m + 1, 0, s, hok, _, h => by
    have hg : goesOn u s = false := by
      cases hg : goesOn u s with
      | false => rfl
      | true => have := rank_pos hok hg; omega
    rw [aloneL_done hg, aloneL_done hg, goN_done hg, goN_done hg]
    exact ⟨rfl, rfl⟩
  | m + 1, m' + 1, s, hok, h, h' => by
    unfold aloneL goN
    cases hg : goesOn u s with
    | false => exact ⟨rfl, rfl⟩
    | true =>
      have := rank_pos hok hg
      obtain ⟨i1, i2⟩ := aloneL_sat (r := r) (u := u) m m' (s := step1 r s) rfl (by show rank (follow s.state) ≤ m; omega) (by show rank (follow s.state) ≤ m'; omega)
      dsimp only
      rw [i1, i2]
      exact ⟨rfl, rfl⟩
theorem go_go {r : Rul} {u u' : Int} (h : u ≤ u') : ∀ (m : Nat) {s : Sta}, s.ok r → goN r u' 4 (goN r u m s) = goN r u' 4 s ∧ aloneL r u' 4 s = aloneL r u m s ++ aloneL r u' 4 (goN r u m s)
  | 0, s, _ => ⟨rfl, rfl⟩
  | m + 1, s, hok => by
    cases hg : goesOn u s with
    | false =>
      rw [goN_done hg, aloneL_done hg]
      exact ⟨rfl, rfl⟩
    | true =>
      have hg' : goesOn u' s = true := by
        simp only [goesOn, Bool.and_eq_true, decide_eq_true_eq] at hg ⊢
        omega
      have hr := rank_pos hok hg
      have h4 := rank_le s.state
      obtain ⟨i1, i2⟩ := go_go h m (s := step1 r s) rfl
      obtain ⟨j1, j2⟩ := aloneL_sat (r := r) (u := u') 3 4 (s := step1 r s) rfl (by show rank (follow s.state) ≤ 3; omega) (by show rank (follow s.state) ≤ 4; omega)
      have e1 : goN r u (m + 1) s = goN r u m (step1 r s) := by simp only [goN, hg]
      have e2 : aloneL r u (m + 1) s = step1 r s :: aloneL r u m (step1 r s) := by simp only [aloneL, hg]
      have e3 : goN r u' 4 s = goN r u' 3 (step1 r s) := by simp only [goN, hg']
      have e4 : aloneL r u' 4 s = step1 r s :: aloneL r u' 3 (step1 r s) := by simp only [aloneL, hg']
      rw [e1, e2, e3, e4, i1, j1, j2]
      exact ⟨rfl, by rw [i2]; rfl⟩
/-- A status that has just begun does not go on at once. -/
theorem begins_still {r : Rul} (hr : r.small) {s t : Int} (h0 : 0 ≤ t) (h1 : t ≤ 30000000) : goesOn t (begins r s t) = false := by
  obtain ⟨r1, r2, r3, r4⟩ := hr
  have hr : r.small := ⟨r1, r2, r3, r4⟩
  simp only [goesOn, begins, nextOf_small hr h0 h1, Bool.and_eq_false_iff, decide_eq_false_iff_not]
  repeat' split
  all_goals omega

/-! ### events that are void, left out -/
structure Kept (r : Rul) (c : Clm) (E : Nat → Evt) (i k m : Nat) (F : Nat → Evt) : Prop where
  cnt : k = (voids r c E (begins r 1 c.asked) i).length
  le : m ≤ i
  run : runN r c E (begins r 1 c.asked) i = goN r (lastOf c.asked E i) 4 (runN r c F (begins r 1 c.asked) m)
  ln : line r c E (begins r 1 c.asked) i = line r c F (begins r 1 c.asked) m ++ aloneL r (lastOf c.asked E i) 4 (runN r c F (begins r 1 c.asked) m)
  vo : voids r c F (begins r 1 c.asked) m = []
  last : lastOf c.asked F m ≤ lastOf c.asked E i
  ev : ∀ j, j < m → evOk (lastOf c.asked F j) (F j) = true
theorem Kept.zero {r : Rul} {c : Clm} {E : Nat → Evt} {n : Nat} (h : Good r c E n) (F : Nat → Evt) : Kept r c E 0 0 0 F := by
  have ha := h.asked
  have hs := begins_still h.small (s := 1) ha.1 (by omega)
  refine ⟨rfl, Nat.le_refl _, ?_, ?_, rfl, Int.le_refl _, fun j hj => absurd hj (Nat.not_lt_zero j)⟩
  · show begins r 1 c.asked = goN r c.asked 4 (begins r 1 c.asked)
    rw [goN_done hs]
  · show [begins r 1 c.asked] = [begins r 1 c.asked] ++ aloneL r c.asked 4 (begins r 1 c.asked)
    rw [aloneL_done hs]; rfl
/-- Is this event void? -/
def voidB (r : Rul) (c : Clm) (E : Nat → Evt) (i : Nat) : Bool := !afterB c (goN r (E i).at' 4 (runN r c E (begins r 1 c.asked) i)).state (E i)
theorem Kept.skip {r : Rul} {c : Clm} {E F : Nat → Evt} {n i k m : Nat} (h : Good r c E n) (hi : i < n) (hk : Kept r c E i k m F) (hv : voidB r c E i = true) : Kept r c E (i + 1) (k + 1) m F := by
  obtain ⟨a1, a2, a3, a4, a5, a6, a7⟩ := hk
  have hv : afterB c (goN r (E i).at' 4 (runN r c E (begins r 1 c.asked) i)).state (E i) = false := by simpa [voidB] using hv
  have he := h.ev hi
  have hqok : (runN r c F (begins r 1 c.asked) m).ok r := runN_ok (show (begins r 1 c.asked).ok r from rfl) m
  obtain ⟨g1, g2⟩ := go_go (r := r) he.1 4 hqok
  refine ⟨?_, by omega, ?_, ?_, a5, ?_, a7⟩
  · unfold voids
    rw [hv]; simp [a1]
  · show evN r c (runN r c E (begins r 1 c.asked) i) (E i) = goN r (E i).at' 4 _
    unfold evN
    rw [hv]
    show goN r (E i).at' 4 (runN r c E (begins r 1 c.asked) i) = _
    rw [a3, g1]
  · show line r c E (begins r 1 c.asked) i ++ evL r c (runN r c E (begins r 1 c.asked) i) (E i) = _ ++ aloneL r (E i).at' 4 _
    unfold evL
    rw [hv, a4, g2, a3, List.append_nil, List.append_assoc]
  · show _ ≤ (E i).at'
    omega
theorem Kept.take {r : Rul} {c : Clm} {E F G : Nat → Evt} {n i k m : Nat} (h : Good r c E n) (hi : i < n) (hk : Kept r c E i k m F) (hv : voidB r c E i = false) (hG : ∀ j, j < m → G j = F j) (hGm : G m = E i) : Kept r c E (i + 1) k (m + 1) G := by
  obtain ⟨a1, a2, a3, a4, a5, a6, a7⟩ := hk
  have hv : afterB c (goN r (E i).at' 4 (runN r c E (begins r 1 c.asked) i)).state (E i) = true := by simpa [voidB] using hv
  have he := h.ev hi
  have hl := h.last i (by omega)
  have hqok : (runN r c F (begins r 1 c.asked) m).ok r := runN_ok (show (begins r 1 c.asked).ok r from rfl) m
  obtain ⟨g1, g2⟩ := go_go (r := r) he.1 4 hqok
  have hs : ∀ s, goesOn (E i).at' (begins r s (E i).at') = false := fun s => begins_still h.small (by omega) (by omega)
  have hv' : afterB c (goN r (E i).at' 4 (runN r c F (begins r 1 c.asked) m)).state (E i) = true := by rw [a3, g1] at hv; exact hv
  have hrun : runN r c G (begins r 1 c.asked) (m + 1) = begins r (afterN c (goN r (E i).at' 4 (runN r c F (begins r 1 c.asked) m)).state (E i)) (E i).at' := by
    show evN r c (runN r c G (begins r 1 c.asked) m) (G m) = _
    rw [runN_congr m hG, hGm]
    unfold evN
    rw [hv']
  refine ⟨?_, by omega, ?_, ?_, ?_, ?_, fun j hj => ?_⟩
  · unfold voids
    rw [hv]; simp [a1]
  · rw [hrun]
    show evN r c (runN r c E (begins r 1 c.asked) i) (E i) = goN r (E i).at' 4 _
    unfold evN
    rw [hv, goN_done (hs _), a3, g1]
  · rw [hrun]
    show line r c E (begins r 1 c.asked) i ++ evL r c (runN r c E (begins r 1 c.asked) i) (E i) = (line r c G (begins r 1 c.asked) m ++ evL r c (runN r c G (begins r 1 c.asked) m) (G m)) ++ aloneL r (E i).at' 4 _
    rw [aloneL_done (hs _), runN_congr m hG, line_congr m hG, hGm]
    unfold evL
    rw [hv, hv', a4, a3, g1, g2]
    simp [List.append_assoc]
  · unfold voids
    rw [voids_congr m hG, runN_congr m hG, hGm, hv', a5]
    rfl
  · show (G m).at' ≤ (E i).at'
    rw [hGm]; exact Int.le_refl _
  · rcases Nat.lt_succ_iff_lt_or_eq.1 hj with hj | rfl
    · rw [lastOf_congr j fun x hx => hG x (by omega), hG j hj]
      exact a7 j hj
    · rw [lastOf_congr j hG, hGm]
      have := ((CP.ok_iff _).1 h.ok).2.2.2 i hi
      have this : evOk (lastOf c.asked E i) (E i) = true := this
      simp only [evOk, inB, Bool.and_eq_true, decide_eq_true_eq] at this ⊢
      exact ⟨⟨this.1.1, by omega⟩, this.2⟩
theorem Kept.good {r : Rul} {c : Clm} {E F : Nat → Evt} {n i k m : Nat} (h : Good r c E n) (hi : i ≤ n) (hk : Kept r c E i k m F) : Good r c F m := by
  have h0 := (CP.ok_iff _).1 h.ok
  refine ⟨h.small, (CP.ok_iff _).2 ⟨h0.1, h0.2.1, ?_, hk.ev⟩⟩
  have : n ≤ 20 := h0.2.2.1
  have := hk.le
  show m ≤ 20; omega
/-- What void events leave behind. -/
theorem Kept.lists {r : Rul} {c : Clm} {E F : Nat → Evt} {n k m : Nat} (h : Good r c E n) (hk : Kept r c E n k m F) : lineL ⟨r, c, F, m⟩ = lineL ⟨r, c, E, n⟩ ∧ voidL ⟨r, c, F, m⟩ = [] ∧ k = (voidL ⟨r, c, E, n⟩).length := by
  have hg := hk.good h (Nat.le_refl _)
  have hl := h.last n (Nat.le_refl _)
  have ho := h.ok
  have ho2 := hg.ok
  simp only [lineL, voidL, ho, ho2]
  refine ⟨?_, hk.vo, hk.cnt⟩
  obtain ⟨g1, g2⟩ := go_go (r := r) (u := lastOf c.asked E n) (u' := 4611686018427387904) (by omega) 4 (s := runN r c F (begins r 1 c.asked) m) (runN_ok (show (begins r 1 c.asked).ok r from rfl) m)
  rw [hk.ln, hk.run, g2, List.append_assoc]
theorem voids_split {r : Rul} {c : Clm} {E : Nat → Evt} {a : Sta} (i : Nat) : ∀ m, ∃ R, voids r c E a (i + m) = voids r c E a i ++ R ∧ ∀ x ∈ R, (i : Int) ≤ x
  | 0 => ⟨[], by simp, fun x hx => by cases hx⟩
  | m + 1 => by
    obtain ⟨R, h1, h2⟩ := voids_split (r := r) (c := c) (E := E) (a := a) i m
    refine ⟨R ++ (match afterB c (goN r (E (i + m)).at' 4 (runN r c E a (i + m))).state (E (i + m)) with | true => [] | false => [((i + m : Nat) : Int)]), ?_, fun x hx => ?_⟩
    · rw [← List.append_assoc, ← h1]
      rfl
    · rcases List.mem_append.1 hx with hx | hx
      · exact h2 x hx
      · cases hb : afterB c (goN r (E (i + m)).at' 4 (runN r c E a (i + m))).state (E (i + m)) with
        | true => rw [hb] at hx; cases hx
        | false =>
          rw [hb] at hx
          simp only [List.mem_singleton] at hx
          omega
/-- An event is void if it comes next in the list of those that are void. -/
theorem Kept.isVoid {r : Rul} {c : Clm} {E F : Nat → Evt} {n i k m : Nat} (h : Good r c E n) (hi : i < n) (hk : Kept r c E i k m F) :
    (voidB r c E i = true → k < (voidL ⟨r, c, E, n⟩).length ∧ (voidL ⟨r, c, E, n⟩).getD k 0 = i) ∧ (voidB r c E i = false → k < (voidL ⟨r, c, E, n⟩).length → (voidL ⟨r, c, E, n⟩).getD k 0 ≠ i) := by
  have ho := h.ok
  simp only [voidL, ho]
  obtain ⟨R, h1, h2⟩ := voids_split (r := r) (c := c) (E := E) (a := begins r 1 c.asked) (i + 1) (n - (i + 1))
  rw [show i + 1 + (n - (i + 1)) = n by omega] at h1
  rw [h1]
  have hkc := hk.cnt
  refine ⟨fun hv => ?_, fun hv hlt => ?_⟩
  · have hv : afterB c (goN r (E i).at' 4 (runN r c E (begins r 1 c.asked) i)).state (E i) = false := by simpa [voidB] using hv
    unfold voids
    rw [hv, hkc]
    refine ⟨by simp [List.length_append], ?_⟩
    simp [List.getD, List.append_assoc]
  · have hv : afterB c (goN r (E i).at' 4 (runN r c E (begins r 1 c.asked) i)).state (E i) = true := by simpa [voidB] using hv
    unfold voids at hlt ⊢
    rw [hv, hkc] at hlt ⊢
    rw [List.append_nil] at hlt ⊢
    cases R with
    | nil => simp at hlt
    | cons x R =>
      have := h2 x (by simp)
      simp [List.getD]
      omega
end Go.Proofs.Ytmcidfecepknpaa

namespace Go.Proofs.Ytmcidfecepknpaa
open Go Go.Sh Go.Proofs
set_option linter.unusedVariables false
structure SQ where
  r : Rul
  c : Clm
  t : Int
  W : Nat → Sta
/-- The statuses without events. -/
def silent (r : Rul) (c : Clm) (j : Nat) : Sta := if j = 0 then ⟨1, c.asked, c.asked + r.answer⟩ else if j = 1 then ⟨3, c.asked + r.answer, c.asked + r.answer + r.cooling⟩ else if j = 2 then ⟨4, c.asked + r.answer + r.cooling, c.asked + r.answer + r.cooling + r.reverse⟩ else ⟨5, c.asked + r.answer + r.cooling + r.reverse, -1⟩
def lS_J (p : SQ) (i : Nat) : Prop := i ≤ 4 ∧ p.r.small ∧ p.c.ok = true ∧ (0 ≤ p.c.asked ∧ p.c.asked ≤ 999) ∧ i64 p.t ∧ ∀ j, j < 4 → p.W j = silent p.r p.c j
noncomputable def heapS (p : SQ) : Heap := [none, none, none, boxR p.r, boxC p.c, some (.arr true 4 3 39 fun i => (p.W i).cells)]
noncomputable def lS : LSpec SQ Nat Nat where
  code := loopOf Try.prog 4 11
  N := 6
  I := fun p i => blank 182 [(1, iv p.t), (5, .bool true), (6, .ptr 3 0 0), (7, .ptr 4 0 0), (12, .osl 5 4), (13, iv i)] (heapS p)
  J := lS_J
  ways := 1
  E := fun w p q => (.exit 0, blank 182 [(5, .bool true), (6, .ptr 3 0 0), (7, .ptr 4 0 0)] (heapS p))
  JE := fun w p q => Leaf True
noncomputable def zS (p : SQ) (i : Nat) : KX := fun x S' => match x with
  | .normal => Leaf (i < 4) ∧ Wk 6 [] (lS.I p (i + 1)) S'
  | .exit k => gateB (Nat.beq k 0) (Wk 6 [] (lS.E 0 p 0).2 S')
  | .ret => Leaf False
def exS (S : SS) : Option (SQ × Nat × Ren) := match S.get 1, arrOf S.heap 3, arrOf S.heap 4, arrOf S.heap 5 with
  | .int _ t, some (_, rr), some (_, cc), some (_, u) => match rr 0, cc 0 with
    | [.int _ r1, .int _ r2, .int _ r3, .int _ r4], [.int _ c1, .int _ c2, .int _ c3, .int _ c4, .int _ c5, .bool c6] => some (⟨⟨r1, r2, r3, r4⟩, ⟨c1, c2, c3, c4, c5, c6⟩, t, fun i => Sta.ofC (u i)⟩, 0, [])
    | _, _ => none
  | _, _, _, _ => none
end Go.Proofs.Ytmcidfecepknpaa

namespace Go.Proofs.Ytmcidfecepknpaa
open Go Go.Sh Go.Proofs
set_option linter.unusedVariables false
set_option linter.unusedSimpArgs false
def sloop_t0 (p : SQ) : Prop :=
  (0 : Nat) = (0 : Nat) ∧ (p.3 = p.3 ∧ (1000 : Int) = (1000 : Int) ∧ True) ∧ True
theorem sloop_t0_t (p : SQ) : sloop_t0 p :=
  ⟨rfl, ⟨⟨rfl, ⟨rfl, trivial⟩⟩, trivial⟩⟩
def sloop_t1 (p : SQ) (i : Nat) : Prop :=
  (0 : Nat) = (0 : Nat) ∧ (p.3 = p.3 ∧ IntKind.i64.wrap ((p.4 i).3 - (p.4 i).2) = IntKind.i64.wrap ((p.4 i).3 - (p.4 i).2) ∧ True) ∧ True
theorem sloop_t1_t (p : SQ) (i : Nat) : sloop_t1 p i :=
  ⟨rfl, ⟨⟨rfl, ⟨rfl, trivial⟩⟩, trivial⟩⟩
def sloop_t2 (p : SQ) (i : Nat) : Prop :=
  True ∧ (1 : Nat) = (1 : Nat) ∧ ((p.1.1 = p.1.1 ∧ p.1.2 = p.1.2 ∧ p.1.3 = p.1.3 ∧ p.1.4 = p.1.4 ∧ True) ∧ (p.2.1 = p.2.1 ∧ p.2.2 = p.2.2 ∧ p.2.3 = p.2.3 ∧ p.2.4 = p.2.4 ∧ p.2.5 = p.2.5 ∧ p.2.6 = p.2.6 ∧ True) ∧ (0 : Nat) = (0 : Nat) ∧ IntKind.i64.wrap ((p.4 i).3 - (1 : Int)) = IntKind.i64.wrap ((p.4 i).3 - (1 : Int)) ∧ True) ∧ (0 : Nat) = (0 : Nat) ∧ True
theorem sloop_t2_t (p : SQ) (i : Nat) : sloop_t2 p i :=
  ⟨trivial, ⟨rfl, ⟨⟨⟨rfl, ⟨rfl, ⟨rfl, ⟨rfl, trivial⟩⟩⟩⟩, ⟨⟨rfl, ⟨rfl, ⟨rfl, ⟨rfl, ⟨rfl, ⟨rfl, trivial⟩⟩⟩⟩⟩⟩, ⟨rfl, ⟨rfl, trivial⟩⟩⟩⟩, ⟨rfl, trivial⟩⟩⟩⟩
def sloop_t3 (p : SQ) (i : Nat) : Prop :=
  True ∧ (1 : Nat) = (1 : Nat) ∧ ((p.1.1 = p.1.1 ∧ p.1.2 = p.1.2 ∧ p.1.3 = p.1.3 ∧ p.1.4 = p.1.4 ∧ True) ∧ (p.2.1 = p.2.1 ∧ p.2.2 = p.2.2 ∧ p.2.3 = p.2.3 ∧ p.2.4 = p.2.4 ∧ p.2.5 = p.2.5 ∧ p.2.6 = p.2.6 ∧ True) ∧ (0 : Nat) = (0 : Nat) ∧ (p.4 i).2 = (p.4 i).2 ∧ True) ∧ (0 : Nat) = (0 : Nat) ∧ True
theorem sloop_t3_t (p : SQ) (i : Nat) : sloop_t3 p i :=
  ⟨trivial, ⟨rfl, ⟨⟨⟨rfl, ⟨rfl, ⟨rfl, ⟨rfl, trivial⟩⟩⟩⟩, ⟨⟨rfl, ⟨rfl, ⟨rfl, ⟨rfl, ⟨rfl, ⟨rfl, trivial⟩⟩⟩⟩⟩⟩, ⟨rfl, ⟨rfl, trivial⟩⟩⟩⟩, ⟨rfl, trivial⟩⟩⟩⟩
def sloop_t4 (p : SQ) (i : Nat) : Prop :=
  True ∧ (1 : Nat) = (1 : Nat) ∧ ((p.1.1 = p.1.1 ∧ p.1.2 = p.1.2 ∧ p.1.3 = p.1.3 ∧ p.1.4 = p.1.4 ∧ True) ∧ (p.2.1 = p.2.1 ∧ p.2.2 = p.2.2 ∧ p.2.3 = p.2.3 ∧ p.2.4 = p.2.4 ∧ p.2.5 = p.2.5 ∧ p.2.6 = p.2.6 ∧ True) ∧ (0 : Nat) = (0 : Nat) ∧ IntKind.i64.wrap ((p.4 i).2 + pickN p.3 (IntKind.i64.wrap ((p.4 i).3 - (p.4 i).2))) = IntKind.i64.wrap ((p.4 i).2 + pickN p.3 (IntKind.i64.wrap ((p.4 i).3 - (p.4 i).2))) ∧ True) ∧ (0 : Nat) = (0 : Nat) ∧ True
theorem sloop_t4_t (p : SQ) (i : Nat) : sloop_t4 p i :=
  ⟨trivial, ⟨rfl, ⟨⟨⟨rfl, ⟨rfl, ⟨rfl, ⟨rfl, trivial⟩⟩⟩⟩, ⟨⟨rfl, ⟨rfl, ⟨rfl, ⟨rfl, ⟨rfl, ⟨rfl, trivial⟩⟩⟩⟩⟩⟩, ⟨rfl, ⟨rfl, trivial⟩⟩⟩⟩, ⟨rfl, trivial⟩⟩⟩⟩
def sloop_t5 : Prop :=
  (0 : Nat) = (0 : Nat) ∧ (0 : Nat) = (0 : Nat)
theorem sloop_t5_t : sloop_t5 :=
  ⟨rfl, rfl⟩
def sloop_t6 (p : SQ) : Prop :=
  ((1 : Nat) = (1 : Nat) ∧ ∀ (i_1 : Nat), i_1 < (1 : Nat) → p.1.1 = p.1.1 ∧ p.1.2 = p.1.2 ∧ p.1.3 = p.1.3 ∧ p.1.4 = p.1.4 ∧ True) ∧ ((1 : Nat) = (1 : Nat) ∧ ∀ (i_1 : Nat), i_1 < (1 : Nat) → p.2.1 = p.2.1 ∧ p.2.2 = p.2.2 ∧ p.2.3 = p.2.3 ∧ p.2.4 = p.2.4 ∧ p.2.5 = p.2.5 ∧ p.2.6 = p.2.6 ∧ True) ∧ ((4 : Nat) = (4 : Nat) ∧ ∀ (i_1 : Nat), i_1 < (4 : Nat) → (p.4 i_1).1 = (p.4 i_1).1 ∧ (p.4 i_1).2 = (p.4 i_1).2 ∧ (p.4 i_1).3 = (p.4 i_1).3 ∧ True) ∧ True
theorem sloop_t6_t (p : SQ) : sloop_t6 p :=
  ⟨⟨rfl, (fun _ => (fun _ => ⟨rfl, ⟨rfl, ⟨rfl, ⟨rfl, trivial⟩⟩⟩⟩))⟩, ⟨⟨rfl, (fun _ => (fun _ => ⟨rfl, ⟨rfl, ⟨rfl, ⟨rfl, ⟨rfl, ⟨rfl, trivial⟩⟩⟩⟩⟩⟩))⟩, ⟨⟨rfl, (fun _ => (fun _ => ⟨rfl, ⟨rfl, ⟨rfl, trivial⟩⟩⟩))⟩, trivial⟩⟩⟩
def sloop_t7 (p : SQ) (i : Nat) : Prop :=
  True ∧ (1 : Nat) = (1 : Nat) ∧ ((p.1.1 = p.1.1 ∧ p.1.2 = p.1.2 ∧ p.1.3 = p.1.3 ∧ p.1.4 = p.1.4 ∧ True) ∧ (p.2.1 = p.2.1 ∧ p.2.2 = p.2.2 ∧ p.2.3 = p.2.3 ∧ p.2.4 = p.2.4 ∧ p.2.5 = p.2.5 ∧ p.2.6 = p.2.6 ∧ True) ∧ (0 : Nat) = (0 : Nat) ∧ IntKind.i64.wrap ((p.4 i).2 + pickN p.3 (1000 : Int)) = IntKind.i64.wrap ((p.4 i).2 + pickN p.3 (1000 : Int)) ∧ True) ∧ (0 : Nat) = (0 : Nat) ∧ True
theorem sloop_t7_t (p : SQ) (i : Nat) : sloop_t7 p i :=
  ⟨trivial, ⟨rfl, ⟨⟨⟨rfl, ⟨rfl, ⟨rfl, ⟨rfl, trivial⟩⟩⟩⟩, ⟨⟨rfl, ⟨rfl, ⟨rfl, ⟨rfl, ⟨rfl, ⟨rfl, trivial⟩⟩⟩⟩⟩⟩, ⟨rfl, ⟨rfl, trivial⟩⟩⟩⟩, ⟨rfl, trivial⟩⟩⟩⟩
def sloop_t8 (p : SQ) : Prop :=
  (true = true ∧ ((0 : Nat) = (0 : Nat) ∧ (0 : Nat) = (0 : Nat)) ∧ ((0 : Nat) = (0 : Nat) ∧ (0 : Nat) = (0 : Nat)) ∧ True) ∧ ((1 : Nat) = (1 : Nat) ∧ ∀ (i_1 : Nat), i_1 < (1 : Nat) → p.1.1 = p.1.1 ∧ p.1.2 = p.1.2 ∧ p.1.3 = p.1.3 ∧ p.1.4 = p.1.4 ∧ True) ∧ ((1 : Nat) = (1 : Nat) ∧ ∀ (i_1 : Nat), i_1 < (1 : Nat) → p.2.1 = p.2.1 ∧ p.2.2 = p.2.2 ∧ p.2.3 = p.2.3 ∧ p.2.4 = p.2.4 ∧ p.2.5 = p.2.5 ∧ p.2.6 = p.2.6 ∧ True) ∧ ((4 : Nat) = (4 : Nat) ∧ ∀ (i_1 : Nat), i_1 < (4 : Nat) → (p.4 i_1).1 = (p.4 i_1).1 ∧ (p.4 i_1).2 = (p.4 i_1).2 ∧ (p.4 i_1).3 = (p.4 i_1).3 ∧ True) ∧ True
theorem sloop_t8_t (p : SQ) : sloop_t8 p :=
  ⟨⟨rfl, ⟨⟨rfl, rfl⟩, ⟨⟨rfl, rfl⟩, trivial⟩⟩⟩, ⟨⟨rfl, (fun _ => (fun _ => ⟨rfl, ⟨rfl, ⟨rfl, ⟨rfl, trivial⟩⟩⟩⟩))⟩, ⟨⟨rfl, (fun _ => (fun _ => ⟨rfl, ⟨rfl, ⟨rfl, ⟨rfl, ⟨rfl, ⟨rfl, trivial⟩⟩⟩⟩⟩⟩))⟩, ⟨⟨rfl, (fun _ => (fun _ => ⟨rfl, ⟨rfl, ⟨rfl, trivial⟩⟩⟩))⟩, trivial⟩⟩⟩⟩
def sloop_T (p : SQ) (i : Nat) : Prop :=
  ifB (decide (Int.ofNat i < (4 : Int))) (ifB (decide (Int.ofNat i < (↑(4 : Nat) : Int))) (ifB (decide (i < (4 : Nat))) (((0 : Int) < (1000 : Int) ∧ sloop_t0 p) ∧ ifB (decide (Int.ofNat i < (↑(4 : Nat) : Int))) (ifB (decide (i < (4 : Nat))) (ifB (decide ((p.4 i).3 ≥ (0 : Int))) (ifB (decide (Int.ofNat i < (↑(4 : Nat) : Int))) (ifB (decide (i < (4 : Nat))) (ifB (decide (Int.ofNat i < (↑(4 : Nat) : Int))) (ifB (decide (i < (4 : Nat))) (ifB (decide (Int.ofNat i < (↑(4 : Nat) : Int))) (ifB (decide (i < (4 : Nat))) (((0 : Int) < IntKind.i64.wrap ((p.4 i).3 - (p.4 i).2) ∧ sloop_t1 p i) ∧ ifB (decide (Int.ofNat i < (↑(4 : Nat) : Int))) (ifB (decide (i < (4 : Nat))) ((sloop_t2 p i ∧ ifB ((outErr { r := p.1, c := p.2, E := fun (x : Nat) => { kind := (0 : Int), at' := (0 : Int), reason := (0 : Int) : Evt }, n := (0 : Nat), t := IntKind.i64.wrap ((p.4 i).3 - (1 : Int)) : OP } != (0 : Int)) == false) (ifB (decide (Int.ofNat i < (↑(4 : Nat) : Int))) (ifB (decide (i < (4 : Nat)) && true) (ifB (!((outcome { r := p.1, c := p.2, E := fun (x : Nat) => { kind := (0 : Int), at' := (0 : Int), reason := (0 : Int) : Evt }, n := (0 : Nat), t := IntKind.i64.wrap ((p.4 i).3 - (1 : Int)) : OP }).1 == (p.4 i).1 && ((outcome { r := p.1, c := p.2, E := fun (x : Nat) => { kind := (0 : Int), at' := (0 : Int), reason := (0 : Int) : Evt }, n := (0 : Nat), t := IntKind.i64.wrap ((p.4 i).3 - (1 : Int)) : OP }).2 == (p.4 i).2 && ((outcome { r := p.1, c := p.2, E := fun (x : Nat) => { kind := (0 : Int), at' := (0 : Int), reason := (0 : Int) : Evt }, n := (0 : Nat), t := IntKind.i64.wrap ((p.4 i).3 - (1 : Int)) : OP }).3 == (p.4 i).3 && true)))) (Leaf False) (ifB (decide (Int.ofNat i < (↑(4 : Nat) : Int))) (ifB (decide (i < (4 : Nat))) ((sloop_t3 p i ∧ sloop_t4 p i ∧ ifB ((outErr { r := p.1, c := p.2, E := fun (x : Nat) => { kind := (0 : Int), at' := (0 : Int), reason := (0 : Int) : Evt }, n := (0 : Nat), t := (p.4 i).2 : OP } != (0 : Int)) == false) (ifB ((outErr { r := p.1, c := p.2, E := fun (x : Nat) => { kind := (0 : Int), at' := (0 : Int), reason := (0 : Int) : Evt }, n := (0 : Nat), t := IntKind.i64.wrap ((p.4 i).2 + pickN p.3 (IntKind.i64.wrap ((p.4 i).3 - (p.4 i).2))) : OP } != (0 : Int)) == false) (ifB (decide (Int.ofNat i < (↑(4 : Nat) : Int))) (ifB (decide (i < (4 : Nat)) && true) (ifB ((!((outcome { r := p.1, c := p.2, E := fun (x : Nat) => { kind := (0 : Int), at' := (0 : Int), reason := (0 : Int) : Evt }, n := (0 : Nat), t := (p.4 i).2 : OP }).1 == (p.4 i).1 && ((outcome { r := p.1, c := p.2, E := fun (x : Nat) => { kind := (0 : Int), at' := (0 : Int), reason := (0 : Int) : Evt }, n := (0 : Nat), t := (p.4 i).2 : OP }).2 == (p.4 i).2 && ((outcome { r := p.1, c := p.2, E := fun (x : Nat) => { kind := (0 : Int), at' := (0 : Int), reason := (0 : Int) : Evt }, n := (0 : Nat), t := (p.4 i).2 : OP }).3 == (p.4 i).3 && true)))) == false) (ifB (decide (Int.ofNat i < (↑(4 : Nat) : Int))) (ifB (decide (i < (4 : Nat)) && true) (ifB (!((outcome { r := p.1, c := p.2, E := fun (x : Nat) => { kind := (0 : Int), at' := (0 : Int), reason := (0 : Int) : Evt }, n := (0 : Nat), t := IntKind.i64.wrap ((p.4 i).2 + pickN p.3 (IntKind.i64.wrap ((p.4 i).3 - (p.4 i).2))) : OP }).1 == (p.4 i).1 && ((outcome { r := p.1, c := p.2, E := fun (x : Nat) => { kind := (0 : Int), at' := (0 : Int), reason := (0 : Int) : Evt }, n := (0 : Nat), t := IntKind.i64.wrap ((p.4 i).2 + pickN p.3 (IntKind.i64.wrap ((p.4 i).3 - (p.4 i).2))) : OP }).2 == (p.4 i).2 && ((outcome { r := p.1, c := p.2, E := fun (x : Nat) => { kind := (0 : Int), at' := (0 : Int), reason := (0 : Int) : Evt }, n := (0 : Nat), t := IntKind.i64.wrap ((p.4 i).2 + pickN p.3 (IntKind.i64.wrap ((p.4 i).3 - (p.4 i).2))) : OP }).3 == (p.4 i).3 && true)))) (Leaf False) (Leaf (i < (4 : Nat)) ∧ (p.3 = p.3 ∧ true = true ∧ sloop_t5 ∧ sloop_t5 ∧ (4 : Nat) = (4 : Nat) ∧ Int.ofNat (i + (1 : Nat)) = IntKind.i64.wrap (Int.ofNat (i + (1 : Nat))) ∧ True) ∧ sloop_t6 p)) False) False) (Leaf False)) False) False) (Leaf False)) (Leaf False)) ∧ sloop_t3 p i ∧ sloop_t4 p i ∧ ifB ((outErr { r := p.1, c := p.2, E := fun (x : Nat) => { kind := (0 : Int), at' := (0 : Int), reason := (0 : Int) : Evt }, n := (0 : Nat), t := (p.4 i).2 : OP } != (0 : Int)) == false) (ifB ((outErr { r := p.1, c := p.2, E := fun (x : Nat) => { kind := (0 : Int), at' := (0 : Int), reason := (0 : Int) : Evt }, n := (0 : Nat), t := IntKind.i64.wrap ((p.4 i).2 + pickN p.3 (IntKind.i64.wrap ((p.4 i).3 - (p.4 i).2))) : OP } != (0 : Int)) == false) (ifB (decide (Int.ofNat i < (↑(4 : Nat) : Int))) (ifB (decide (i < (4 : Nat)) && true) (ifB ((!((outcome { r := p.1, c := p.2, E := fun (x : Nat) => { kind := (0 : Int), at' := (0 : Int), reason := (0 : Int) : Evt }, n := (0 : Nat), t := (p.4 i).2 : OP }).1 == (p.4 i).1 && ((outcome { r := p.1, c := p.2, E := fun (x : Nat) => { kind := (0 : Int), at' := (0 : Int), reason := (0 : Int) : Evt }, n := (0 : Nat), t := (p.4 i).2 : OP }).2 == (p.4 i).2 && ((outcome { r := p.1, c := p.2, E := fun (x : Nat) => { kind := (0 : Int), at' := (0 : Int), reason := (0 : Int) : Evt }, n := (0 : Nat), t := (p.4 i).2 : OP }).3 == (p.4 i).3 && true)))) == false) (ifB (decide (Int.ofNat i < (↑(4 : Nat) : Int))) (ifB (decide (i < (4 : Nat)) && true) (ifB (!((outcome { r := p.1, c := p.2, E := fun (x : Nat) => { kind := (0 : Int), at' := (0 : Int), reason := (0 : Int) : Evt }, n := (0 : Nat), t := IntKind.i64.wrap ((p.4 i).2 + pickN p.3 (IntKind.i64.wrap ((p.4 i).3 - (p.4 i).2))) : OP }).1 == (p.4 i).1 && ((outcome { r := p.1, c := p.2, E := fun (x : Nat) => { kind := (0 : Int), at' := (0 : Int), reason := (0 : Int) : Evt }, n := (0 : Nat), t := IntKind.i64.wrap ((p.4 i).2 + pickN p.3 (IntKind.i64.wrap ((p.4 i).3 - (p.4 i).2))) : OP }).2 == (p.4 i).2 && ((outcome { r := p.1, c := p.2, E := fun (x : Nat) => { kind := (0 : Int), at' := (0 : Int), reason := (0 : Int) : Evt }, n := (0 : Nat), t := IntKind.i64.wrap ((p.4 i).2 + pickN p.3 (IntKind.i64.wrap ((p.4 i).3 - (p.4 i).2))) : OP }).3 == (p.4 i).3 && true)))) (Leaf False) (Leaf (i < (4 : Nat)) ∧ (p.3 = p.3 ∧ true = true ∧ sloop_t5 ∧ sloop_t5 ∧ (4 : Nat) = (4 : Nat) ∧ Int.ofNat (i + (1 : Nat)) = IntKind.i64.wrap (Int.ofNat (i + (1 : Nat))) ∧ True) ∧ sloop_t6 p)) False) False) (Leaf False)) False) False) (Leaf False)) (Leaf False)) False) False)) False) False) (Leaf False)) ∧ sloop_t2 p i ∧ ifB ((outErr { r := p.1, c := p.2, E := fun (x : Nat) => { kind := (0 : Int), at' := (0 : Int), reason := (0 : Int) : Evt }, n := (0 : Nat), t := IntKind.i64.wrap ((p.4 i).3 - (1 : Int)) : OP } != (0 : Int)) == false) (ifB (decide (Int.ofNat i < (↑(4 : Nat) : Int))) (ifB (decide (i < (4 : Nat)) && true) (ifB (!((outcome { r := p.1, c := p.2, E := fun (x : Nat) => { kind := (0 : Int), at' := (0 : Int), reason := (0 : Int) : Evt }, n := (0 : Nat), t := IntKind.i64.wrap ((p.4 i).3 - (1 : Int)) : OP }).1 == (p.4 i).1 && ((outcome { r := p.1, c := p.2, E := fun (x : Nat) => { kind := (0 : Int), at' := (0 : Int), reason := (0 : Int) : Evt }, n := (0 : Nat), t := IntKind.i64.wrap ((p.4 i).3 - (1 : Int)) : OP }).2 == (p.4 i).2 && ((outcome { r := p.1, c := p.2, E := fun (x : Nat) => { kind := (0 : Int), at' := (0 : Int), reason := (0 : Int) : Evt }, n := (0 : Nat), t := IntKind.i64.wrap ((p.4 i).3 - (1 : Int)) : OP }).3 == (p.4 i).3 && true)))) (Leaf False) (ifB (decide (Int.ofNat i < (↑(4 : Nat) : Int))) (ifB (decide (i < (4 : Nat))) ((sloop_t3 p i ∧ sloop_t4 p i ∧ ifB ((outErr { r := p.1, c := p.2, E := fun (x : Nat) => { kind := (0 : Int), at' := (0 : Int), reason := (0 : Int) : Evt }, n := (0 : Nat), t := (p.4 i).2 : OP } != (0 : Int)) == false) (ifB ((outErr { r := p.1, c := p.2, E := fun (x : Nat) => { kind := (0 : Int), at' := (0 : Int), reason := (0 : Int) : Evt }, n := (0 : Nat), t := IntKind.i64.wrap ((p.4 i).2 + pickN p.3 (IntKind.i64.wrap ((p.4 i).3 - (p.4 i).2))) : OP } != (0 : Int)) == false) (ifB (decide (Int.ofNat i < (↑(4 : Nat) : Int))) (ifB (decide (i < (4 : Nat)) && true) (ifB ((!((outcome { r := p.1, c := p.2, E := fun (x : Nat) => { kind := (0 : Int), at' := (0 : Int), reason := (0 : Int) : Evt }, n := (0 : Nat), t := (p.4 i).2 : OP }).1 == (p.4 i).1 && ((outcome { r := p.1, c := p.2, E := fun (x : Nat) => { kind := (0 : Int), at' := (0 : Int), reason := (0 : Int) : Evt }, n := (0 : Nat), t := (p.4 i).2 : OP }).2 == (p.4 i).2 && ((outcome { r := p.1, c := p.2, E := fun (x : Nat) => { kind := (0 : Int), at' := (0 : Int), reason := (0 : Int) : Evt }, n := (0 : Nat), t := (p.4 i).2 : OP }).3 == (p.4 i).3 && true)))) == false) (ifB (decide (Int.ofNat i < (↑(4 : Nat) : Int))) (ifB (decide (i < (4 : Nat)) && true) (ifB (!((outcome { r := p.1, c := p.2, E := fun (x : Nat) => { kind := (0 : Int), at' := (0 : Int), reason := (0 : Int) : Evt }, n := (0 : Nat), t := IntKind.i64.wrap ((p.4 i).2 + pickN p.3 (IntKind.i64.wrap ((p.4 i).3 - (p.4 i).2))) : OP }).1 == (p.4 i).1 && ((outcome { r := p.1, c := p.2, E := fun (x : Nat) => { kind := (0 : Int), at' := (0 : Int), reason := (0 : Int) : Evt }, n := (0 : Nat), t := IntKind.i64.wrap ((p.4 i).2 + pickN p.3 (IntKind.i64.wrap ((p.4 i).3 - (p.4 i).2))) : OP }).2 == (p.4 i).2 && ((outcome { r := p.1, c := p.2, E := fun (x : Nat) => { kind := (0 : Int), at' := (0 : Int), reason := (0 : Int) : Evt }, n := (0 : Nat), t := IntKind.i64.wrap ((p.4 i).2 + pickN p.3 (IntKind.i64.wrap ((p.4 i).3 - (p.4 i).2))) : OP }).3 == (p.4 i).3 && true)))) (Leaf False) (Leaf (i < (4 : Nat)) ∧ (p.3 = p.3 ∧ true = true ∧ sloop_t5 ∧ sloop_t5 ∧ (4 : Nat) = (4 : Nat) ∧ Int.ofNat (i + (1 : Nat)) = IntKind.i64.wrap (Int.ofNat (i + (1 : Nat))) ∧ True) ∧ sloop_t6 p)) False) False) (Leaf False)) False) False) (Leaf False)) (Leaf False)) ∧ sloop_t3 p i ∧ sloop_t4 p i ∧ ifB ((outErr { r := p.1, c := p.2, E := fun (x : Nat) => { kind := (0 : Int), at' := (0 : Int), reason := (0 : Int) : Evt }, n := (0 : Nat), t := (p.4 i).2 : OP } != (0 : Int)) == false) (ifB ((outErr { r := p.1, c := p.2, E := fun (x : Nat) => { kind := (0 : Int), at' := (0 : Int), reason := (0 : Int) : Evt }, n := (0 : Nat), t := IntKind.i64.wrap ((p.4 i).2 + pickN p.3 (IntKind.i64.wrap ((p.4 i).3 - (p.4 i).2))) : OP } != (0 : Int)) == false) (ifB (decide (Int.ofNat i < (↑(4 : Nat) : Int))) (ifB (decide (i < (4 : Nat)) && true) (ifB ((!((outcome { r := p.1, c := p.2, E := fun (x : Nat) => { kind := (0 : Int), at' := (0 : Int), reason := (0 : Int) : Evt }, n := (0 : Nat), t := (p.4 i).2 : OP }).1 == (p.4 i).1 && ((outcome { r := p.1, c := p.2, E := fun (x : Nat) => { kind := (0 : Int), at' := (0 : Int), reason := (0 : Int) : Evt }, n := (0 : Nat), t := (p.4 i).2 : OP }).2 == (p.4 i).2 && ((outcome { r := p.1, c := p.2, E := fun (x : Nat) => { kind := (0 : Int), at' := (0 : Int), reason := (0 : Int) : Evt }, n := (0 : Nat), t := (p.4 i).2 : OP }).3 == (p.4 i).3 && true)))) == false) (ifB (decide (Int.ofNat i < (↑(4 : Nat) : Int))) (ifB (decide (i < (4 : Nat)) && true) (ifB (!((outcome { r := p.1, c := p.2, E := fun (x : Nat) => { kind := (0 : Int), at' := (0 : Int), reason := (0 : Int) : Evt }, n := (0 : Nat), t := IntKind.i64.wrap ((p.4 i).2 + pickN p.3 (IntKind.i64.wrap ((p.4 i).3 - (p.4 i).2))) : OP }).1 == (p.4 i).1 && ((outcome { r := p.1, c := p.2, E := fun (x : Nat) => { kind := (0 : Int), at' := (0 : Int), reason := (0 : Int) : Evt }, n := (0 : Nat), t := IntKind.i64.wrap ((p.4 i).2 + pickN p.3 (IntKind.i64.wrap ((p.4 i).3 - (p.4 i).2))) : OP }).2 == (p.4 i).2 && ((outcome { r := p.1, c := p.2, E := fun (x : Nat) => { kind := (0 : Int), at' := (0 : Int), reason := (0 : Int) : Evt }, n := (0 : Nat), t := IntKind.i64.wrap ((p.4 i).2 + pickN p.3 (IntKind.i64.wrap ((p.4 i).3 - (p.4 i).2))) : OP }).3 == (p.4 i).3 && true)))) (Leaf False) (Leaf (i < (4 : Nat)) ∧ (p.3 = p.3 ∧ true = true ∧ sloop_t5 ∧ sloop_t5 ∧ (4 : Nat) = (4 : Nat) ∧ Int.ofNat (i + (1 : Nat)) = IntKind.i64.wrap (Int.ofNat (i + (1 : Nat))) ∧ True) ∧ sloop_t6 p)) False) False) (Leaf False)) False) False) (Leaf False)) (Leaf False)) False) False)) False) False) (Leaf False)) False) False) False) False) False) False) False) False) (ifB (decide (Int.ofNat i < (↑(4 : Nat) : Int))) (ifB (decide (i < (4 : Nat))) ((sloop_t3 p i ∧ sloop_t7 p i ∧ ifB ((outErr { r := p.1, c := p.2, E := fun (x : Nat) => { kind := (0 : Int), at' := (0 : Int), reason := (0 : Int) : Evt }, n := (0 : Nat), t := (p.4 i).2 : OP } != (0 : Int)) == false) (ifB ((outErr { r := p.1, c := p.2, E := fun (x : Nat) => { kind := (0 : Int), at' := (0 : Int), reason := (0 : Int) : Evt }, n := (0 : Nat), t := IntKind.i64.wrap ((p.4 i).2 + pickN p.3 (1000 : Int)) : OP } != (0 : Int)) == false) (ifB (decide (Int.ofNat i < (↑(4 : Nat) : Int))) (ifB (decide (i < (4 : Nat)) && true) (ifB ((!((outcome { r := p.1, c := p.2, E := fun (x : Nat) => { kind := (0 : Int), at' := (0 : Int), reason := (0 : Int) : Evt }, n := (0 : Nat), t := (p.4 i).2 : OP }).1 == (p.4 i).1 && ((outcome { r := p.1, c := p.2, E := fun (x : Nat) => { kind := (0 : Int), at' := (0 : Int), reason := (0 : Int) : Evt }, n := (0 : Nat), t := (p.4 i).2 : OP }).2 == (p.4 i).2 && ((outcome { r := p.1, c := p.2, E := fun (x : Nat) => { kind := (0 : Int), at' := (0 : Int), reason := (0 : Int) : Evt }, n := (0 : Nat), t := (p.4 i).2 : OP }).3 == (p.4 i).3 && true)))) == false) (ifB (decide (Int.ofNat i < (↑(4 : Nat) : Int))) (ifB (decide (i < (4 : Nat)) && true) (ifB (!((outcome { r := p.1, c := p.2, E := fun (x : Nat) => { kind := (0 : Int), at' := (0 : Int), reason := (0 : Int) : Evt }, n := (0 : Nat), t := IntKind.i64.wrap ((p.4 i).2 + pickN p.3 (1000 : Int)) : OP }).1 == (p.4 i).1 && ((outcome { r := p.1, c := p.2, E := fun (x : Nat) => { kind := (0 : Int), at' := (0 : Int), reason := (0 : Int) : Evt }, n := (0 : Nat), t := IntKind.i64.wrap ((p.4 i).2 + pickN p.3 (1000 : Int)) : OP }).2 == (p.4 i).2 && ((outcome { r := p.1, c := p.2, E := fun (x : Nat) => { kind := (0 : Int), at' := (0 : Int), reason := (0 : Int) : Evt }, n := (0 : Nat), t := IntKind.i64.wrap ((p.4 i).2 + pickN p.3 (1000 : Int)) : OP }).3 == (p.4 i).3 && true)))) (Leaf False) (Leaf (i < (4 : Nat)) ∧ (p.3 = p.3 ∧ true = true ∧ sloop_t5 ∧ sloop_t5 ∧ (4 : Nat) = (4 : Nat) ∧ Int.ofNat (i + (1 : Nat)) = IntKind.i64.wrap (Int.ofNat (i + (1 : Nat))) ∧ True) ∧ sloop_t6 p)) False) False) (Leaf False)) False) False) (Leaf False)) (Leaf False)) ∧ sloop_t3 p i ∧ sloop_t7 p i ∧ ifB ((outErr { r := p.1, c := p.2, E := fun (x : Nat) => { kind := (0 : Int), at' := (0 : Int), reason := (0 : Int) : Evt }, n := (0 : Nat), t := (p.4 i).2 : OP } != (0 : Int)) == false) (ifB ((outErr { r := p.1, c := p.2, E := fun (x : Nat) => { kind := (0 : Int), at' := (0 : Int), reason := (0 : Int) : Evt }, n := (0 : Nat), t := IntKind.i64.wrap ((p.4 i).2 + pickN p.3 (1000 : Int)) : OP } != (0 : Int)) == false) (ifB (decide (Int.ofNat i < (↑(4 : Nat) : Int))) (ifB (decide (i < (4 : Nat)) && true) (ifB ((!((outcome { r := p.1, c := p.2, E := fun (x : Nat) => { kind := (0 : Int), at' := (0 : Int), reason := (0 : Int) : Evt }, n := (0 : Nat), t := (p.4 i).2 : OP }).1 == (p.4 i).1 && ((outcome { r := p.1, c := p.2, E := fun (x : Nat) => { kind := (0 : Int), at' := (0 : Int), reason := (0 : Int) : Evt }, n := (0 : Nat), t := (p.4 i).2 : OP }).2 == (p.4 i).2 && ((outcome { r := p.1, c := p.2, E := fun (x : Nat) => { kind := (0 : Int), at' := (0 : Int), reason := (0 : Int) : Evt }, n := (0 : Nat), t := (p.4 i).2 : OP }).3 == (p.4 i).3 && true)))) == false) (ifB (decide (Int.ofNat i < (↑(4 : Nat) : Int))) (ifB (decide (i < (4 : Nat)) && true) (ifB (!((outcome { r := p.1, c := p.2, E := fun (x : Nat) => { kind := (0 : Int), at' := (0 : Int), reason := (0 : Int) : Evt }, n := (0 : Nat), t := IntKind.i64.wrap ((p.4 i).2 + pickN p.3 (1000 : Int)) : OP }).1 == (p.4 i).1 && ((outcome { r := p.1, c := p.2, E := fun (x : Nat) => { kind := (0 : Int), at' := (0 : Int), reason := (0 : Int) : Evt }, n := (0 : Nat), t := IntKind.i64.wrap ((p.4 i).2 + pickN p.3 (1000 : Int)) : OP }).2 == (p.4 i).2 && ((outcome { r := p.1, c := p.2, E := fun (x : Nat) => { kind := (0 : Int), at' := (0 : Int), reason := (0 : Int) : Evt }, n := (0 : Nat), t := IntKind.i64.wrap ((p.4 i).2 + pickN p.3 (1000 : Int)) : OP }).3 == (p.4 i).3 && true)))) (Leaf False) (Leaf (i < (4 : Nat)) ∧ (p.3 = p.3 ∧ true = true ∧ sloop_t5 ∧ sloop_t5 ∧ (4 : Nat) = (4 : Nat) ∧ Int.ofNat (i + (1 : Nat)) = IntKind.i64.wrap (Int.ofNat (i + (1 : Nat))) ∧ True) ∧ sloop_t6 p)) False) False) (Leaf False)) False) False) (Leaf False)) (Leaf False)) False) False)) False) False) False) False) (sloop_t8 p)
theorem sloop_eq (p : SQ) (i : Nat) : exec XL 60 4 lS.code (lS.I p i) (zS p i) = sloop_T p i := by kernel_rfl

def noE : Nat → Evt := fun _ => ⟨0, 0, 0⟩
theorem silent_good {r : Rul} {c : Clm} (hr : r.small) (hc : c.ok = true) : Good r c noE 0 := ⟨hr, (CP.ok_iff _).2 ⟨hr.ok, hc, Nat.zero_le _, fun j hj => absurd hj (Nat.not_lt_zero j)⟩⟩
theorem silent_out {r : Rul} {c : Clm} (hr : r.small) (hc : c.ok = true) (ha : 0 ≤ c.asked ∧ c.asked ≤ 999) {j : Nat} (hj : j < 4) {u : Int} (h0 : (silent r c j).since ≤ u) (h1 : (silent r c j).next < 0 ∨ u < (silent r c j).next) (hb : u ≤ 20000000) :
    outErr ⟨r, c, noE, 0, u⟩ = 0 ∧ outcome ⟨r, c, noE, 0, u⟩ = silent r c j := by
  have hr' := hr
  obtain ⟨r1, r2, r3, r4⟩ := hr'
  have hg := silent_good hr hc
  have hs : c.asked ≤ (silent r c j).since := by
    unfold silent
    repeat' split
    all_goals dsimp only
    all_goals omega
  obtain ⟨o1, o2⟩ := hg.out (t := u) (by omega) hb
  refine ⟨o1, ?_⟩
  rw [o2]
  show goN r u 4 (begins r 1 c.asked) = _
  rw [beg1 hr (by omega) (by omega)]
  obtain rfl | rfl | rfl | rfl : j = 0 ∨ j = 1 ∨ j = 2 ∨ j = 3 := by omega
  · simp only [silent, if_true] at h0 h1 ⊢
    exact goN_halt (by dsimp only; omega)
  · simp [silent] at h0 h1 ⊢
    rw [goN_go (by dsimp only; omega) (by dsimp only; omega), st1 hr (by omega) (by omega)]
    exact goN_halt (by dsimp only; omega)
  · simp [silent] at h0 h1 ⊢
    rw [goN_go (by dsimp only; omega) (by dsimp only; omega), st1 hr (by omega) (by omega), goN_go (by dsimp only; omega) (by dsimp only; omega), st3 hr (by omega) (by omega)]
    exact goN_halt (by dsimp only; omega)
  · simp [silent] at h0 h1 ⊢
    rw [goN_go (by dsimp only; omega) (by dsimp only; omega), st1 hr (by omega) (by omega), goN_go (by dsimp only; omega) (by dsimp only; omega), st3 hr (by omega) (by omega), goN_go (by dsimp only; omega) (by dsimp only; omega), st4 hr (by omega) (by omega)]
    exact goN_halt (by dsimp only; omega)
theorem silent_b {r : Rul} {c : Clm} (hr : r.small) (ha : 0 ≤ c.asked ∧ c.asked ≤ 999) (j : Nat) : 0 ≤ (silent r c j).since ∧ (silent r c j).since ≤ 1000000 ∧ ((silent r c j).next = -1 ∨ ((silent r c j).since < (silent r c j).next ∧ (silent r c j).next ≤ 1000000)) := by
  obtain ⟨r1, r2, r3, r4⟩ := hr
  unfold silent
  repeat' split
  all_goals dsimp only
  all_goals omega
set_option maxHeartbeats 4000000 in
theorem sloop_step (p : SQ) (i : Nat) (hJ : lS_J p i) : sloop_T p i := by
  obtain ⟨h1, hr, hc, ha, ht, hW⟩ := hJ
  have hs : i < 4 → 0 ≤ (p.W i).since ∧ (p.W i).since ≤ 1000000 ∧ ((p.W i).next = -1 ∨ ((p.W i).since < (p.W i).next ∧ (p.W i).next ≤ 1000000)) := fun h => by rw [hW i h]; exact silent_b hr ha i
  have ho : ∀ u, i < 4 → (p.W i).since ≤ u → ((p.W i).next < 0 ∨ u < (p.W i).next) → u ≤ 20000000 → outErr ⟨p.r, p.c, noE, 0, u⟩ = 0 ∧ outcome ⟨p.r, p.c, noE, 0, u⟩ = p.W i := fun u h a b c => by
    rw [hW i h] at a b ⊢
    exact silent_out hr hc ha h a b c
  have e1 : i < 4 → 0 ≤ (p.W i).next → outErr ⟨p.r, p.c, noE, 0, IntKind.i64.wrap ((p.W i).next - 1)⟩ = 0 ∧ outcome ⟨p.r, p.c, noE, 0, IntKind.i64.wrap ((p.W i).next - 1)⟩ = p.W i := fun h hn => by
    have := hs h
    have hw : IntKind.i64.wrap ((p.W i).next - 1) = (p.W i).next - 1 := w64_small (by omega) (by omega)
    rw [hw]
    exact ho _ h (by omega) (by omega) (by omega)
  have e2 : i < 4 → outErr ⟨p.r, p.c, noE, 0, (p.W i).since⟩ = 0 ∧ outcome ⟨p.r, p.c, noE, 0, (p.W i).since⟩ = p.W i := fun h => by
    have := hs h
    exact ho _ h (by omega) (by omega) (by omega)
  have e3 : i < 4 → 0 ≤ (p.W i).next → outErr ⟨p.r, p.c, noE, 0, IntKind.i64.wrap ((p.W i).since + pickN p.t (IntKind.i64.wrap ((p.W i).next - (p.W i).since)))⟩ = 0 ∧ outcome ⟨p.r, p.c, noE, 0, IntKind.i64.wrap ((p.W i).since + pickN p.t (IntKind.i64.wrap ((p.W i).next - (p.W i).since)))⟩ = p.W i := fun h hn => by
    have := hs h
    have hw : IntKind.i64.wrap ((p.W i).next - (p.W i).since) = (p.W i).next - (p.W i).since := w64_small (by omega) (by omega)
    rw [hw]
    have hp := pickN_b ht (n := (p.W i).next - (p.W i).since) (by omega)
    have hw2 : IntKind.i64.wrap ((p.W i).since + pickN p.t ((p.W i).next - (p.W i).since)) = (p.W i).since + pickN p.t ((p.W i).next - (p.W i).since) := w64_small (by omega) (by omega)
    rw [hw2]
    exact ho _ h (by omega) (by omega) (by omega)
  have e4 : i < 4 → ¬ 0 ≤ (p.W i).next → outErr ⟨p.r, p.c, noE, 0, IntKind.i64.wrap ((p.W i).since + pickN p.t 1000)⟩ = 0 ∧ outcome ⟨p.r, p.c, noE, 0, IntKind.i64.wrap ((p.W i).since + pickN p.t 1000)⟩ = p.W i := fun h hn => by
    have := hs h
    have hp := pickN_b ht (n := 1000) (by omega)
    have hw2 : IntKind.i64.wrap ((p.W i).since + pickN p.t 1000) = (p.W i).since + pickN p.t 1000 := w64_small (by omega) (by omega)
    rw [hw2]
    exact ho _ h (by omega) (by omega) (by omega)
  have e5 : i < 4 → 0 ≤ (p.W i).next → 0 < IntKind.i64.wrap ((p.W i).next - (p.W i).since) := fun h hn => by
    have := hs h
    have hw : IntKind.i64.wrap ((p.W i).next - (p.W i).since) = (p.W i).next - (p.W i).since := w64_small (by omega) (by omega)
    rw [hw]; omega
  have e6 : IntKind.i64.wrap (Int.ofNat (i + 1)) = Int.ofNat (i + 1) := wrapSmall (by simp only [Int.ofNat_eq_natCast]; omega) (by simp only [Int.ofNat_eq_natCast]; omega)
  have hE : (fun _ : Nat => (⟨0, 0, 0⟩ : Evt)) = noE := rfl
  rcases Nat.lt_or_ge i 4 with hi | hi
  · rcases Int.lt_or_le (p.W i).next 0 with hn | hn
    · have e2 := e2 hi
      have e4 := e4 hi (by omega)
      unfold sloop_T
      simp only [hE, e2.1, e2.2, e4.1, e4.2, e6]
      repeat' (first | with_reducible refine ifB_split (fun _ => ?_) (fun _ => ?_) | with_reducible refine And.intro ?_ ?_)
      all_goals try first | with_reducible exact sloop_t0_t _ | with_reducible exact sloop_t1_t _ _ | with_reducible exact sloop_t2_t _ _ | with_reducible exact sloop_t3_t _ _ | with_reducible exact sloop_t4_t _ _ | with_reducible exact sloop_t5_t | with_reducible exact sloop_t6_t _ | with_reducible exact sloop_t7_t _ _ | with_reducible exact sloop_t8_t _ | with_reducible rfl | with_reducible exact trivial | with_reducible exact List.Perm.refl _
      all_goals first
        | decide
        | exact e6.symm
        | rfl
        | (simp [Leaf] at *; done)
        | (simp [Leaf] at *; omega)
        | trace_state
    · have e1 := e1 hi hn
      have e2 := e2 hi
      have e3 := e3 hi hn
      have e5 := e5 hi hn
      unfold sloop_T
      simp only [hE, e1.1, e1.2, e2.1, e2.2, e3.1, e3.2, e6]
      repeat' (first | with_reducible refine ifB_split (fun _ => ?_) (fun _ => ?_) | with_reducible refine And.intro ?_ ?_)
      all_goals try first | with_reducible exact sloop_t0_t _ | with_reducible exact sloop_t1_t _ _ | with_reducible exact sloop_t2_t _ _ | with_reducible exact sloop_t3_t _ _ | with_reducible exact sloop_t4_t _ _ | with_reducible exact sloop_t5_t | with_reducible exact sloop_t6_t _ | with_reducible exact sloop_t7_t _ _ | with_reducible exact sloop_t8_t _ | with_reducible rfl | with_reducible exact trivial | with_reducible exact List.Perm.refl _
      all_goals first
        | decide
        | exact e5
        | exact e6.symm
        | rfl
        | (simp [Leaf] at *; done)
        | (simp [Leaf] at *; omega)
        | trace_state
  · unfold sloop_T
    repeat' (first | with_reducible refine ifB_split (fun _ => ?_) (fun _ => ?_) | with_reducible refine And.intro ?_ ?_)
    all_goals try first | with_reducible exact sloop_t0_t _ | with_reducible exact sloop_t1_t _ _ | with_reducible exact sloop_t2_t _ _ | with_reducible exact sloop_t3_t _ _ | with_reducible exact sloop_t4_t _ _ | with_reducible exact sloop_t5_t | with_reducible exact sloop_t6_t _ | with_reducible exact sloop_t7_t _ _ | with_reducible exact sloop_t8_t _ | with_reducible rfl | with_reducible exact trivial | with_reducible exact List.Perm.refl _
    all_goals first
      | rfl
      | (simp only [Int.ofNat_eq_natCast, decide_eq_true_eq] at *; omega)
      | trace_state
end Go.Proofs.Ytmcidfecepknpaa

namespace Go.Proofs.Ytmcidfecepknpaa
open Go Go.Sh Go.Proofs
set_option linter.unusedVariables false
set_option linter.unusedSimpArgs false

set_option maxRecDepth 100000 in
theorem sloop_ok : LoopOK XL.P lS.code lS.L := by
  refine lS.ok XL_ok 60 4 (fun p i => 4 - i) zS (fun _ _ _ => trivial) (fun p d w q hw => ?_) (fun p i S' hJ h => ?_) (fun p i x S' hx hJ h => ?_) fun p i hJ => ?_
  · match w, hw with
    | 0, _ => exact trivial
  · obtain ⟨h1, h2⟩ := h
    simp only [Leaf] at h1
    obtain ⟨j1, j2⟩ := hJ
    exact ⟨[], i + 1, by show 4 - (i + 1) < 4 - i; omega, ⟨h1, j2⟩, h2⟩
  · cases x with
    | normal => exact hx.elim
    | ret => exact (show False from h).elim
    | exit k =>
      obtain ⟨h0, h2⟩ := gateB_spec h
      have h0 := Nat.eq_of_beq_eq_true h0
      subst h0
      exact ⟨0, 0, [], Nat.lt_succ_self 0, trivial, rfl, h2⟩
  · rw [sloop_eq]
    exact sloop_step p i hJ
noncomputable def XSil (r : Rul) (c : Clm) (E : Nat → Evt) (n : Nat) : Ctx := (XG r c E n).loop 4 11 lS.code (lS.by exS)
theorem XSil_ok (r : Rul) (c : Clm) (E : Nat → Evt) (n : Nat) : (XSil r c E n).OK := Ctx.loop_ok (XG_ok r c E n) (sloop_ok.by exS)
/-- A law's contract, from its run in a context of its own. -/
theorem lawX {π : Type} {f : FuncId} {s : FSpec π} (X : Rul → Clm → (Nat → Evt) → Nat → Ctx) (hX : ∀ r c E n, (X r c E n).OK) (hP : ∀ r c E n, (X r c E n).P = Try.prog) (N : Nat) (T : π → Rul → Clm → (Nat → Evt) → Nat → Prop)
    (eq : ∀ p r c E n, callBy (X r c E n) (exec (X r c E n) N) f (s.A p) (s.H p) (RetC (s.H p).length (s.R p) (s.O p)) = T p r c E n)
    (views : ∀ p, viewsB (s.H p) = true) (hO : ∀ p, s.O p = []) (g : π → NP) (run : ∀ p, s.J p → T p (mR (g p)) (mC (g p)) (mE (g p)) (mN (g p))) : s.OK Try.prog f :=
  ⟨views, fun p _ o ho => (by rw [hO] at ho; cases ho), fun p hJ => by
    have := (callBy_ok (hX _ _ _ _) (exec_sound (hX _ _ _ _) N) _ _ _ _ ((eq p _ _ _ _).mpr (run p hJ))).mono fun _ _ => RetC.wk
    rw [hP] at this
    exact this⟩
end Go.Proofs.Ytmcidfecepknpaa

namespace Go.Proofs.Ytmcidfecepknpaa
open Go Go.Sh Go.Proofs
set_option linter.unusedVariables false
set_option linter.unusedSimpArgs false
def silence_t0 : Prop :=
  True ∧ (0 : Nat) = (0 : Nat) ∧ True ∧ True
theorem silence_t0_t : silence_t0 :=
  ⟨trivial, ⟨rfl, ⟨trivial, trivial⟩⟩⟩
def silence_t1 (p : TX) : Prop :=
  (1 : Nat) = (1 : Nat) ∧ ((p.1.1.1 = p.1.1.1 ∧ p.1.1.2 = p.1.1.2 ∧ p.1.1.3 = p.1.1.3 ∧ p.1.1.4 = p.1.1.4 ∧ p.1.2 = p.1.2 ∧ p.1.3 = p.1.3 ∧ p.1.4 = p.1.4 ∧ p.1.5 = p.1.5 ∧ p.1.6 = p.1.6 ∧ p.1.7 = p.1.7 ∧ (0 : Nat) = (0 : Nat) ∧ True) ∧ True) ∧ (0 : Nat) = (0 : Nat) ∧ True
theorem silence_t1_t (p : TX) : silence_t1 p :=
  ⟨rfl, ⟨⟨⟨rfl, ⟨rfl, ⟨rfl, ⟨rfl, ⟨rfl, ⟨rfl, ⟨rfl, ⟨rfl, ⟨rfl, ⟨rfl, ⟨rfl, trivial⟩⟩⟩⟩⟩⟩⟩⟩⟩⟩⟩, trivial⟩, ⟨rfl, trivial⟩⟩⟩
def silence_t2 (p : TX) : Prop :=
  p.2 = p.2 ∧ true = true ∧ ((0 : Nat) = (0 : Nat) ∧ (0 : Nat) = (0 : Nat)) ∧ ((0 : Nat) = (0 : Nat) ∧ (0 : Nat) = (0 : Nat)) ∧ (4 : Nat) = (4 : Nat) ∧ (0 : Int) = (0 : Int) ∧ True
theorem silence_t2_t (p : TX) : silence_t2 p :=
  ⟨rfl, ⟨rfl, ⟨⟨rfl, rfl⟩, ⟨⟨rfl, rfl⟩, ⟨rfl, ⟨rfl, trivial⟩⟩⟩⟩⟩⟩
def silence_t3 (r : Rul) : Prop :=
  (1 : Nat) = (1 : Nat) ∧ ∀ (i : Nat), i < (1 : Nat) → r.1 = r.1 ∧ r.2 = r.2 ∧ r.3 = r.3 ∧ r.4 = r.4 ∧ True
theorem silence_t3_t (r : Rul) : silence_t3 r :=
  ⟨rfl, (fun _ => (fun _ => ⟨rfl, ⟨rfl, ⟨rfl, ⟨rfl, trivial⟩⟩⟩⟩))⟩
def silence_t4 (c : Clm) : Prop :=
  (1 : Nat) = (1 : Nat) ∧ ∀ (i : Nat), i < (1 : Nat) → c.1 = c.1 ∧ c.2 = c.2 ∧ c.3 = c.3 ∧ c.4 = c.4 ∧ c.5 = c.5 ∧ c.6 = c.6 ∧ True
theorem silence_t4_t (c : Clm) : silence_t4 c :=
  ⟨rfl, (fun _ => (fun _ => ⟨rfl, ⟨rfl, ⟨rfl, ⟨rfl, ⟨rfl, ⟨rfl, trivial⟩⟩⟩⟩⟩⟩))⟩
def silence_t5 (r : Rul) (c : Clm) : Prop :=
  True ∧ (1 : Nat) = (1 : Nat) ∧ ((r.1 = r.1 ∧ r.2 = r.2 ∧ r.3 = r.3 ∧ r.4 = r.4 ∧ True) ∧ (c.1 = c.1 ∧ c.2 = c.2 ∧ c.3 = c.3 ∧ c.4 = c.4 ∧ c.5 = c.5 ∧ c.6 = c.6 ∧ True) ∧ (0 : Nat) = (0 : Nat) ∧ IntKind.i64.wrap (c.5 - (1 : Int)) = IntKind.i64.wrap (c.5 - (1 : Int)) ∧ True) ∧ (0 : Nat) = (0 : Nat) ∧ True
theorem silence_t5_t (r : Rul) (c : Clm) : silence_t5 r c :=
  ⟨trivial, ⟨rfl, ⟨⟨⟨rfl, ⟨rfl, ⟨rfl, ⟨rfl, trivial⟩⟩⟩⟩, ⟨⟨rfl, ⟨rfl, ⟨rfl, ⟨rfl, ⟨rfl, ⟨rfl, trivial⟩⟩⟩⟩⟩⟩, ⟨rfl, ⟨rfl, trivial⟩⟩⟩⟩, ⟨rfl, trivial⟩⟩⟩⟩
def silence_T (p : TX) (r : Rul) (c : Clm) (E : Nat → Evt) (n : Nat) : Prop :=
  silence_t0 ∧
  silence_t1 p ∧
    mEq_J { x := p.1.1, y0 := p.1.2, y1 := p.1.3, y2 := p.1.4, y3 := p.1.5, y4 := p.1.6, y5 := p.1.7, Z := fun (x : Nat) => { a := (0 : Int), b := (0 : Int), c := (0 : Int) : Z3 }, n := (0 : Nat) : NP } r c E n ∧
      lS.code = lS.code ∧
        (lS_J { r := r, c := c, t := p.2, W := fun (i : Nat) => Sta.ofC (List.take (3 : Nat) (List.drop (i * (3 : Nat)) [SV.int IntKind.i64 (1 : Int), SV.int IntKind.i64 c.5, SV.int IntKind.i64 (IntKind.i64.wrap (c.5 + r.1)), SV.int IntKind.i64 (3 : Int), SV.int IntKind.i64 (IntKind.i64.wrap (c.5 + r.1)), SV.int IntKind.i64 (IntKind.i64.wrap (IntKind.i64.wrap (c.5 + r.1) + r.2)), SV.int IntKind.i64 (4 : Int), SV.int IntKind.i64 (IntKind.i64.wrap (IntKind.i64.wrap (c.5 + r.1) + r.2)), SV.int IntKind.i64 (IntKind.i64.wrap (IntKind.i64.wrap (IntKind.i64.wrap (c.5 + r.1) + r.2) + r.4)), SV.int IntKind.i64 (5 : Int), SV.int IntKind.i64 (IntKind.i64.wrap (IntKind.i64.wrap (IntKind.i64.wrap (c.5 + r.1) + r.2) + r.4)), SV.int IntKind.i64 (-1 : Int)])) : SQ } (0 : Nat) ∧
            (6 : Nat) = (6 : Nat) ∧
              True ∧
                silence_t2 p ∧
                  silence_t3 r ∧
                    silence_t4 c ∧
                      ((4 : Nat) = (4 : Nat) ∧
                          ∀ (i : Nat),
                            i < (4 : Nat) →
                              wkVs
                                (fun (l : Nat) =>
                                  match decide (l < (6 : Nat)) with
                                  | true => some l
                                  | false => none)
                                (fun (l : Nat) =>
                                  match decide (l < (6 : Nat)) with
                                  | true => false
                                  | false => false)
                                [SV.int IntKind.i64 (Sta.ofC (List.take (3 : Nat) (List.drop (i * (3 : Nat)) [SV.int IntKind.i64 (1 : Int), SV.int IntKind.i64 c.5, SV.int IntKind.i64 (IntKind.i64.wrap (c.5 + r.1)), SV.int IntKind.i64 (3 : Int), SV.int IntKind.i64 (IntKind.i64.wrap (c.5 + r.1)), SV.int IntKind.i64 (IntKind.i64.wrap (IntKind.i64.wrap (c.5 + r.1) + r.2)), SV.int IntKind.i64 (4 : Int), SV.int IntKind.i64 (IntKind.i64.wrap (IntKind.i64.wrap (c.5 + r.1) + r.2)), SV.int IntKind.i64 (IntKind.i64.wrap (IntKind.i64.wrap (IntKind.i64.wrap (c.5 + r.1) + r.2) + r.4)), SV.int IntKind.i64 (5 : Int), SV.int IntKind.i64 (IntKind.i64.wrap (IntKind.i64.wrap (IntKind.i64.wrap (c.5 + r.1) + r.2) + r.4)), SV.int IntKind.i64 (-1 : Int)]))).1, SV.int IntKind.i64 (Sta.ofC (List.take (3 : Nat) (List.drop (i * (3 : Nat)) [SV.int IntKind.i64 (1 : Int), SV.int IntKind.i64 c.5, SV.int IntKind.i64 (IntKind.i64.wrap (c.5 + r.1)), SV.int IntKind.i64 (3 : Int), SV.int IntKind.i64 (IntKind.i64.wrap (c.5 + r.1)), SV.int IntKind.i64 (IntKind.i64.wrap (IntKind.i64.wrap (c.5 + r.1) + r.2)), SV.int IntKind.i64 (4 : Int), SV.int IntKind.i64 (IntKind.i64.wrap (IntKind.i64.wrap (c.5 + r.1) + r.2)), SV.int IntKind.i64 (IntKind.i64.wrap (IntKind.i64.wrap (IntKind.i64.wrap (c.5 + r.1) + r.2) + r.4)), SV.int IntKind.i64 (5 : Int), SV.int IntKind.i64 (IntKind.i64.wrap (IntKind.i64.wrap (IntKind.i64.wrap (c.5 + r.1) + r.2) + r.4)), SV.int IntKind.i64 (-1 : Int)]))).2, SV.int IntKind.i64 (Sta.ofC (List.take (3 : Nat) (List.drop (i * (3 : Nat)) [SV.int IntKind.i64 (1 : Int), SV.int IntKind.i64 c.5, SV.int IntKind.i64 (IntKind.i64.wrap (c.5 + r.1)), SV.int IntKind.i64 (3 : Int), SV.int IntKind.i64 (IntKind.i64.wrap (c.5 + r.1)), SV.int IntKind.i64 (IntKind.i64.wrap (IntKind.i64.wrap (c.5 + r.1) + r.2)), SV.int IntKind.i64 (4 : Int), SV.int IntKind.i64 (IntKind.i64.wrap (IntKind.i64.wrap (c.5 + r.1) + r.2)), SV.int IntKind.i64 (IntKind.i64.wrap (IntKind.i64.wrap (IntKind.i64.wrap (c.5 + r.1) + r.2) + r.4)), SV.int IntKind.i64 (5 : Int), SV.int IntKind.i64 (IntKind.i64.wrap (IntKind.i64.wrap (IntKind.i64.wrap (c.5 + r.1) + r.2) + r.4)), SV.int IntKind.i64 (-1 : Int)]))).3] (List.take (3 : Nat) (List.drop (i * (3 : Nat)) [SV.int IntKind.i64 (1 : Int), SV.int IntKind.i64 c.5, SV.int IntKind.i64 (IntKind.i64.wrap (c.5 + r.1)), SV.int IntKind.i64 (3 : Int), SV.int IntKind.i64 (IntKind.i64.wrap (c.5 + r.1)), SV.int IntKind.i64 (IntKind.i64.wrap (IntKind.i64.wrap (c.5 + r.1) + r.2)), SV.int IntKind.i64 (4 : Int), SV.int IntKind.i64 (IntKind.i64.wrap (IntKind.i64.wrap (c.5 + r.1) + r.2)), SV.int IntKind.i64 (IntKind.i64.wrap (IntKind.i64.wrap (IntKind.i64.wrap (c.5 + r.1) + r.2) + r.4)), SV.int IntKind.i64 (5 : Int), SV.int IntKind.i64 (IntKind.i64.wrap (IntKind.i64.wrap (IntKind.i64.wrap (c.5 + r.1) + r.2) + r.4)), SV.int IntKind.i64 (-1 : Int)]))) ∧
                        True) ∧
          True ∧ ∀ (q : Nat), Leaf True → ifB (decide (c.5 > (0 : Int))) (silence_t5 r c ∧ ifB ((outErr { r := r, c := c, E := fun (x : Nat) => { kind := (0 : Int), at' := (0 : Int), reason := (0 : Int) : Evt }, n := (0 : Nat), t := IntKind.i64.wrap (c.5 - (1 : Int)) : OP } == (0 : Int)) == true) (true = ((outcome { r := r, c := c, E := fun (x : Nat) => { kind := (0 : Int), at' := (0 : Int), reason := (0 : Int) : Evt }, n := (0 : Nat), t := IntKind.i64.wrap (c.5 - (1 : Int)) : OP }).1 == (0 : Int) && ((outcome { r := r, c := c, E := fun (x : Nat) => { kind := (0 : Int), at' := (0 : Int), reason := (0 : Int) : Evt }, n := (0 : Nat), t := IntKind.i64.wrap (c.5 - (1 : Int)) : OP }).2 == (0 : Int) && ((outcome { r := r, c := c, E := fun (x : Nat) => { kind := (0 : Int), at' := (0 : Int), reason := (0 : Int) : Evt }, n := (0 : Nat), t := IntKind.i64.wrap (c.5 - (1 : Int)) : OP }).3 == c.5 && true))) ∧ True) (true = false ∧ True)) (true = true ∧ True)
theorem silence_eq (p : TX) (r : Rul) (c : Clm) (E : Nat → Evt) (n : Nat) : callBy (XSil r c E n) (exec (XSil r c E n) 100) 4 (sSilence.A p) (sSilence.H p) (RetC (sSilence.H p).length (sSilence.R p) (sSilence.O p)) = silence_T p r c E n := by kernel_rfl

theorem Good.early {r : Rul} {c : Clm} {E : Nat → Evt} {n : Nat} (h : Good r c E n) {t : Int} (h0 : 0 ≤ t) (ht : t < c.asked) : outErr ⟨r, c, E, n, t⟩ = 0 ∧ outcome ⟨r, c, E, n, t⟩ = ⟨0, 0, c.asked⟩ := by
  have ha := h.asked
  have hok : OP.ok ⟨r, c, E, n, t⟩ = true := by
    unfold OP.ok
    rw [show OP.cp ⟨r, c, E, n, t⟩ = ⟨r, c, E, n⟩ from rfl, h.ok, decide_eq_true (p := 0 ≤ t) h0, decide_eq_true (p := t ≤ 20000000) (by omega)]
    rfl
  refine ⟨by simp only [outErr, hok], ?_⟩
  simp only [outcome, hok, outT]
  rw [decide_eq_true ht]
def noEv (x : NP) : NP := ⟨x.x, x.y0, x.y1, x.y2, x.y3, x.y4, x.y5, fun _ => ⟨0, 0, 0⟩, 0⟩
theorem noEv_fits {x : NP} (h : x.fits) : (noEv x).fits := ⟨h.a, h.b, h.c, h.d, h.y0, h.y1, h.y2, h.y3, h.y4, h.y5, fun i hi => absurd hi (Nat.not_lt_zero i)⟩
set_option maxHeartbeats 4000000 in
theorem silence_step (p : TX) (hJ : sSilence.J p) : silence_T p (mR (noEv p.x)) (mC (noEv p.x)) (mE (noEv p.x)) (mN (noEv p.x)) := by
  obtain ⟨hx, ht⟩ := hJ
  have hx' := noEv_fits hx
  obtain ⟨hg, hn, ha⟩ := made_good hx'
  have hm : mEq_J (noEv p.x) (mR (noEv p.x)) (mC (noEv p.x)) (mE (noEv p.x)) (mN (noEv p.x)) := ⟨rfl, rfl, rfl, rfl⟩
  have hask := (mC_ok hx').2
  have hcok := (mC_ok hx').1
  generalize mR (noEv p.x) = r at hg hm ⊢
  generalize mC (noEv p.x) = c at hg hm ha hask hcok ⊢
  generalize mE (noEv p.x) = E at hg hm ⊢
  generalize mN (noEv p.x) = n at hg hm hn ⊢
  have hr := hg.small
  obtain ⟨r1, r2, r3, r4⟩ := hg.small
  have w1 : IntKind.i64.wrap (c.asked + r.answer) = c.asked + r.answer := w64_small (by omega) (by omega)
  have w2 : IntKind.i64.wrap (c.asked + r.answer + r.cooling) = c.asked + r.answer + r.cooling := w64_small (by omega) (by omega)
  have w3 : IntKind.i64.wrap (c.asked + r.answer + r.cooling + r.reverse) = c.asked + r.answer + r.cooling + r.reverse := w64_small (by omega) (by omega)
  have w4 : IntKind.i64.wrap (c.asked - 1) = c.asked - 1 := w64_small (by omega) (by omega)
  have hE : (fun _ : Nat => (⟨0, 0, 0⟩ : Evt)) = noE := rfl
  have he : 0 < c.asked → outErr ⟨r, c, noE, 0, c.asked - 1⟩ = 0 ∧ outcome ⟨r, c, noE, 0, c.asked - 1⟩ = ⟨0, 0, c.asked⟩ := fun h => (silent_good hr hcok).early (by omega) (by omega)
  unfold silence_T
  simp only [w1, w2, w3, w4, hE]
  repeat' (first | with_reducible refine ifB_split (fun _ => ?_) (fun _ => ?_) | with_reducible refine And.intro ?_ ?_ | with_reducible refine fun (q : Nat) (hq : Leaf True) => ?_)
  all_goals try first | with_reducible exact silence_t0_t | with_reducible exact silence_t1_t _ | with_reducible exact silence_t2_t _ | with_reducible exact silence_t3_t _ | with_reducible exact silence_t4_t _ | with_reducible exact silence_t5_t _ _ | with_reducible rfl | with_reducible exact trivial | with_reducible exact List.Perm.refl _ | decide
  all_goals first
    | exact hm
    | (refine ⟨Nat.zero_le _, hr, hcok, hask, ht, fun j hj => ?_⟩
       obtain rfl | rfl | rfl | rfl : j = 0 ∨ j = 1 ∨ j = 2 ∨ j = 3 := by omega
       all_goals rfl)
    | (intro i hi
       obtain rfl | rfl | rfl | rfl : i = 0 ∨ i = 1 ∨ i = 2 ∨ i = 3 := by omega
       all_goals exact ⟨rfl, rfl, rfl, trivial⟩)
    | (have hpos : 0 < c.asked := by simp only [gt_iff_lt, decide_eq_true_eq] at *; assumption
       have he := he hpos
       simp only [he.1, he.2] at *
       simp at *; done)
    | (simp at *; done)
    | trace_state
theorem silence_ok : sSilence.OK Try.prog 4 := lawX XSil XSil_ok (fun _ _ _ _ => rfl) 100 silence_T silence_eq (fun _ => rfl) (fun _ => rfl) (fun p => noEv p.x) silence_step
end Go.Proofs.Ytmcidfecepknpaa

namespace Go.Proofs.Ytmcidfecepknpaa
open Go Go.Sh Go.Proofs
set_option linter.unusedVariables false
/-! ### ClaimLater: the events up to a time -/
def sLater : FSpec TX where
  J := fun p => p.x.fits ∧ i64 p.t
  A := fun p => p.x.A ++ [iv p.t]
  H := fun p => [some (zO p.x.n p.x.Z)]
  R := fun _ => .bool true
  O := fun _ => []
structure LaP where
  r : Rul
  c : Clm
  E : Nat → Evt
  n : Nat
  t : Int
structure LaD where
  i : Nat
  k : Nat
  F : Nat → Evt
def lL1_J (p : LaP) (d : LaD) : Prop := d.i ≤ p.n ∧ p.n ≤ 10 ∧ Good p.r p.c p.E p.n ∧ d.k ≤ d.i ∧ (∀ j, j < d.k → d.F j = p.E j) ∧ (∀ j, j < d.k → (p.E j).at' ≤ p.t) ∧ (d.k < d.i → p.t < (p.E d.k).at')
noncomputable def heapL1 (p : LaP) (d : LaD) : Heap := [none, none, some (.arr true p.n 3 45 fun i => (p.E i).cells), boxR p.r, boxC p.c, some (.arr true d.k 3 45 fun i => (d.F i).cells)]
noncomputable def lL1 : LSpec LaP LaD LaD where
  code := loopOf Try.prog 5 9
  N := 5
  I := fun p d => blank 175 [(1, iv p.t), (5, .bool true), (6, .ptr 3 0 0), (7, .ptr 4 0 0), (8, .osl 2 p.n), (9, .osl 5 d.k), (10, iv d.i)] (heapL1 p d)
  J := lL1_J
  ways := 1
  E := fun w p d => (.exit 0, blank 175 [(1, iv p.t), (5, .bool true), (6, .ptr 3 0 0), (7, .ptr 4 0 0), (8, .osl 2 p.n), (9, .osl 5 d.k)] (heapL1 p d))
  JE := fun w p d => Leaf (d.k = stopN p.E p.t p.n ∧ ∀ j, j < d.k → d.F j = p.E j)
noncomputable def zL1 (p : LaP) (d : LaD) : KX := fun x S' => match x with
  | .normal => match evsAt S'.heap (S'.get 9) with
    | some (lo, k, F) => Leaf (d.i < p.n) ∧ Leaf (((p.E d.i).at' ≤ p.t ∧ k = d.k + 1 ∧ F = addE d.F d.k (p.E d.i)) ∨ (p.t < (p.E d.i).at' ∧ k = d.k ∧ F = d.F)) ∧ Wk 5 [some lo] (lL1.I p ⟨d.i + 1, k, F⟩) S'
    | none => False
  | .exit j => gateB (Nat.beq j 0) (Leaf (p.n ≤ d.i) ∧ Wk 5 [some 5] (lL1.E 0 p d).2 S')
  | .ret => False
def exL1 (S : SS) : Option (LaP × LaD × Ren) := match S.get 1, arrOf S.heap 2, arrOf S.heap 3, arrOf S.heap 4 with
  | .int _ b, some (n, E), some (_, rr), some (_, cc) => match rr 0, cc 0 with
    | [.int _ r1, .int _ r2, .int _ r3, .int _ r4], [.int _ c1, .int _ c2, .int _ c3, .int _ c4, .int _ c5, .bool c6] =>
      some (⟨⟨r1, r2, r3, r4⟩, ⟨c1, c2, c3, c4, c5, c6⟩, fun i => Evt.of (E i), n, b⟩, ⟨0, 0, fun _ => ⟨0, 0, 0⟩⟩, [none])
    | _, _ => none
  | _, _, _, _ => none
end Go.Proofs.Ytmcidfecepknpaa

namespace Go.Proofs.Ytmcidfecepknpaa
open Go Go.Sh Go.Proofs
set_option linter.unusedVariables false

/-! ### timelines: each status follows the one before -/
def chain {α : Type} (P : α → α → Prop) : α → List α → Prop
  | _, [] => True
  | s, x :: l => P s x ∧ chain P x l
def lastS {α : Type} : α → List α → α
  | s, [] => s
  | _, x :: l => lastS x l
/-- How many begin when the one before ends. -/
def alones : Sta → List Sta → Nat
  | _, [] => 0
  | s, x :: l => (if x.since = s.next then 1 else 0) + alones x l
theorem chain_append {α : Type} {P : α → α → Prop} : ∀ {l l' : List α} {s : α}, chain P s l → chain P (lastS s l) l' → chain P s (l ++ l')
  | [], _, _, _, h => h
  | x :: l, l', s, h, h' => ⟨h.1, chain_append h.2 h'⟩
theorem lastS_append {α : Type} : ∀ (l l' : List α) (s : α), lastS s (l ++ l') = lastS (lastS s l) l'
  | [], _, _ => rfl
  | x :: l, l', s => lastS_append l l' x
theorem alones_append : ∀ (l l' : List Sta) (s : Sta), alones s (l ++ l') = alones s l + alones (lastS s l) l'
  | [], _, _ => by simp [alones, lastS]
  | x :: l, l', s => by
    show _ + alones x (l ++ l') = _ + alones x l + _
    rw [alones_append l l' x, Nat.add_assoc]; rfl
/-- What the law asks of two statuses, one after the other. -/
def linked (E : Nat → Evt) (n : Nat) (s t : Sta) : Prop := 0 ≤ s.next ∧ s.since ≤ t.since ∧ t.since ≤ s.next ∧ (t.since ≠ s.next → ∃ k, k < n ∧ (E k).at' = t.since)
def tlL (r : Rul) (c : Clm) (E : Nat → Evt) (a : Sta) : Nat → List Sta
  | 0 => []
  | i + 1 => tlL r c E a i ++ evL r c (runN r c E a i) (E i)
theorem line_tl {r : Rul} {c : Clm} {E : Nat → Evt} {a : Sta} : ∀ i, line r c E a i = a :: tlL r c E a i
  | 0 => rfl
  | i + 1 => by
    show line r c E a i ++ _ = _
    rw [line_tl i]; rfl
theorem fine_lt {r : Rul} (hr : r.small) {s : Sta} (h : s.fine r) : s.next = -1 ∨ s.since < s.next := by
  obtain ⟨a, b, c, d⟩ := h
  obtain ⟨r1, r2, r3, r4⟩ := hr
  rw [d]
  repeat' split
  all_goals omega
theorem alone_chain {r : Rul} (hr : r.small) {E : Nat → Evt} {n : Nat} {u : Int} : ∀ (m : Nat) {s : Sta}, s.fine r → dl r s ≤ 25000000 →
    chain (linked E n) s (aloneL r u m s) ∧ lastS s (aloneL r u m s) = goN r u m s ∧ alones s (aloneL r u m s) = (aloneL r u m s).length ∧ (goN r u m s).fine r ∧ dl r (goN r u m s) ≤ dl r s
  | 0, s, h, _ => ⟨trivial, rfl, rfl, h, Int.le_refl _⟩
  | m + 1, s, h, hd => by
    unfold aloneL goN
    cases hg : goesOn u s with
    | false => exact ⟨trivial, rfl, rfl, h, Int.le_refl _⟩
    | true =>
      obtain ⟨h1, h2, h3⟩ := h.goes hg
      have hn := (dl_next hr h).2
      have hs := dl_step hr h hg
      have hlt := fine_lt hr h
      have hf : (step1 r s).fine r := begins_fine hr (follow_st _ h1) h2 (by omega)
      obtain ⟨g1, g2, g3, g4, g5⟩ := alone_chain hr (E := E) (n := n) (u := u) m (s := step1 r s) hf (by omega)
      have hsi : (step1 r s).since = s.next := rfl
      refine ⟨⟨⟨h2, by rw [hsi]; omega, by rw [hsi]; exact Int.le_refl _, fun hne => absurd hsi hne⟩, g1⟩, g2, ?_, g4, by dsimp only; omega⟩
      show (if (step1 r s).since = s.next then 1 else 0) + alones (step1 r s) (aloneL r u m (step1 r s)) = (aloneL r u m (step1 r s)).length + 1
      rw [if_pos hsi, g3, Nat.add_comm]
theorem Good.dl {r : Rul} {c : Clm} {E : Nat → Evt} {n : Nat} (h : Good r c E n) {i : Nat} (hi : i ≤ n) : Ytmcidfecepknpaa.dl r (runN r c E (begins r 1 c.asked) i) ≤ 25000000 := by
  have h1 := h.dl_run i hi
  have h2 := h.asked
  obtain ⟨r1, r2, r3, r4⟩ := h.small
  omega
theorem after_state {c : Clm} {s : Int} {e : Evt} (h : afterB c s e = true) : s = 1 ∨ s = 2 ∨ s = 3 ∨ s = 4 := by
  simp only [afterB, Bool.and_eq_true, bne_iff_ne, ne_eq] at h
  exact (effN_b _ _ h.1).2.2
theorem fine_next {r : Rul} (hr : r.small) {s : Sta} (h : s.fine r) (hs : s.state = 1 ∨ s.state = 2 ∨ s.state = 3 ∨ s.state = 4) : 0 ≤ s.next := by
  obtain ⟨a, b, c, d⟩ := h
  obtain ⟨r1, r2, r3, r4⟩ := hr
  rw [d]
  rcases hs with hs | hs | hs | hs <;> rw [hs] <;> simp <;> omega
theorem Good.chained {r : Rul} {c : Clm} {E : Nat → Evt} {n : Nat} (h : Good r c E n) : ∀ i, i ≤ n →
    chain (linked E n) (begins r 1 c.asked) (tlL r c E (begins r 1 c.asked) i) ∧ lastS (begins r 1 c.asked) (tlL r c E (begins r 1 c.asked) i) = runN r c E (begins r 1 c.asked) i ∧
    (tlL r c E (begins r 1 c.asked) i).length + (voids r c E (begins r 1 c.asked) i).length = alones (begins r 1 c.asked) (tlL r c E (begins r 1 c.asked) i) + i
  | 0, _ => ⟨trivial, rfl, rfl⟩
  | i + 1, hi => by
    obtain ⟨i1, i2, i3⟩ := h.chained i (by omega)
    obtain ⟨f1, f2⟩ := h.run i (by omega)
    have hd := h.dl (i := i) (by omega)
    have he := h.ev (i := i) (by omega)
    have hl := h.last i (by omega)
    obtain ⟨a1, a2, a3, a4, a5⟩ := alone_chain h.small (E := E) (n := n) (u := (E i).at') 4 f1 hd
    have hend := goN_end (u := (E i).at') 4 (fine_ok h.small f1) (rank_le _)
    have hsi : (goN r (E i).at' 4 (runN r c E (begins r 1 c.asked) i)).since ≤ (E i).at' := by
      rcases (goN_fine h.small (u := (E i).at') (by omega) 4 f1).2 with h2 | h2
      · exact h2
      · rw [h2]; omega
    unfold tlL
    rw [lastS_append, alones_append, i2]
    unfold evL
    rw [lastS_append, alones_append, a2]
    have hrun : runN r c E (begins r 1 c.asked) (i + 1) = evN r c (runN r c E (begins r 1 c.asked) i) (E i) := rfl
    rw [hrun]
    unfold evN voids
    cases hb : afterB c (goN r (E i).at' 4 (runN r c E (begins r 1 c.asked) i)).state (E i) with
    | false =>
      refine ⟨chain_append i1 (by rw [i2]; exact chain_append a1 trivial), rfl, ?_⟩
      simp only [List.length_append, List.length_nil, List.length_singleton, alones, a3]
      omega
    | true =>
      have hn := fine_next h.small a4 (after_state hb)
      have hgt : (E i).at' < (goN r (E i).at' 4 (runN r c E (begins r 1 c.asked) i)).next := by
        simp only [goesOn, Bool.and_eq_false_iff, decide_eq_false_iff_not] at hend
        omega
      refine ⟨chain_append i1 (by rw [i2]; exact chain_append a1 (by rw [a2]; exact ⟨⟨hn, hsi, by show (E i).at' ≤ _; omega, fun _ => ⟨i, by omega, rfl⟩⟩, trivial⟩)), rfl, ?_⟩
      have h0 : ¬ (E i).at' = (goN r (E i).at' 4 (runN r c E (begins r 1 c.asked) i)).next := by omega
      have hal : alones (goN r (E i).at' 4 (runN r c E (begins r 1 c.asked) i)) [begins r (afterN c (goN r (E i).at' 4 (runN r c E (begins r 1 c.asked) i)).state (E i)) (E i).at'] = 0 := by
        show (if (E i).at' = (goN r (E i).at' 4 (runN r c E (begins r 1 c.asked) i)).next then 1 else 0) + 0 = 0
        rw [if_neg h0]
      simp only [List.length_append, List.length_nil, List.length_singleton, a3, hal]
      omega
/-- The timeline, its first status apart. -/
def tlW (r : Rul) (c : Clm) (E : Nat → Evt) (n : Nat) : List Sta := tlL r c E (begins r 1 c.asked) n ++ aloneL r 4611686018427387904 4 (runN r c E (begins r 1 c.asked) n)
theorem Good.tl {r : Rul} {c : Clm} {E : Nat → Evt} {n : Nat} (h : Good r c E n) : lineL ⟨r, c, E, n⟩ = begins r 1 c.asked :: tlW r c E n := by
  have ho := h.ok
  simp only [lineL, ho]
  rw [line_tl]; rfl
theorem Good.whole {r : Rul} {c : Clm} {E : Nat → Evt} {n : Nat} (h : Good r c E n) :
    chain (linked E n) (begins r 1 c.asked) (tlW r c E n) ∧ (lineL ⟨r, c, E, n⟩).length + (voidL ⟨r, c, E, n⟩).length = 1 + alones (begins r 1 c.asked) (tlW r c E n) + n ∧
    5 ≤ (lastS (begins r 1 c.asked) (tlW r c E n)).state ∧ (lastS (begins r 1 c.asked) (tlW r c E n)).next = -1 := by
  obtain ⟨i1, i2, i3⟩ := h.chained n (Nat.le_refl _)
  obtain ⟨f1, f2⟩ := h.run n (Nat.le_refl _)
  have hd := h.dl (i := n) (Nat.le_refl _)
  obtain ⟨a1, a2, a3, a4, a5⟩ := alone_chain h.small (E := E) (n := n) (u := 4611686018427387904) 4 f1 hd
  have hend := goN_end (u := 4611686018427387904) 4 (fine_ok h.small f1) (rank_le _)
  have ho := h.ok
  rw [h.tl]
  have hv : voidL ⟨r, c, E, n⟩ = voids r c E (begins r 1 c.asked) n := by simp only [voidL, ho]
  rw [hv]
  unfold tlW
  rw [lastS_append, alones_append, i2, a2, a3]
  refine ⟨chain_append i1 (by rw [i2]; exact a1), by simp only [List.length_cons, List.length_append]; omega, ?_⟩
  generalize goN r 4611686018427387904 4 (runN r c E (begins r 1 c.asked) n) = o at a4 a5 hend
  have hn := dl_next h.small a4
  simp only [goesOn, Bool.and_eq_false_iff, decide_eq_false_iff_not] at hend
  have hneg : o.next < 0 := by omega
  obtain ⟨g1, g2, g3, g4⟩ := a4
  obtain ⟨r1, r2, r3, r4⟩ := h.small
  by_cases h1 : o.state = 1
  · rw [if_pos h1] at g4; omega
  rw [if_neg h1] at g4
  by_cases h2 : o.state = 2
  · rw [if_pos h2] at g4; omega
  rw [if_neg h2] at g4
  by_cases h3 : o.state = 3
  · rw [if_pos h3] at g4; omega
  rw [if_neg h3] at g4
  by_cases h4 : o.state = 4
  · rw [if_pos h4] at g4; omega
  rw [if_neg h4] at g4
  omega

/-! ### the status at a time is the last one that began by then -/
theorem chain_since {E : Nat → Evt} {n : Nat} : ∀ {l : List Sta} {s : Sta}, chain (linked E n) s l → s.since ≤ (lastS s l).since ∧ ∀ x ∈ l, x.since ≤ (lastS s l).since
  | [], s, _ => ⟨Int.le_refl _, fun x hx => by cases hx⟩
  | y :: l, s, h => by
    obtain ⟨i1, i2⟩ := chain_since h.2
    have := h.1.2.1
    refine ⟨by show s.since ≤ (lastS y l).since; omega, fun x hx => ?_⟩
    rcases List.mem_cons.1 hx with rfl | hx
    · exact i1
    · exact i2 x hx
/-- What begins later. -/
theorem later_alone {r : Rul} (hr : r.small) {t u : Int} : ∀ (m : Nat) {s : Sta}, s.fine r → dl r s ≤ 25000000 → goesOn t s = false → (∀ x ∈ aloneL r u m s, t < x.since) ∧ goesOn t (goN r u m s) = false
  | 0, s, _, _, h => ⟨(fun x hx => by cases hx), h⟩
  | m + 1, s, h, hd, ht => by
    unfold aloneL goN
    cases hg : goesOn u s with
    | false => exact ⟨(fun x hx => by cases hx), ht⟩
    | true =>
      obtain ⟨h1, h2, h3⟩ := h.goes hg
      have hn := (dl_next hr h).2
      have hs := dl_step hr h hg
      have hf : (step1 r s).fine r := begins_fine hr (follow_st _ h1) h2 (by omega)
      have hlt := fine_lt hr hf
      have hsi : (step1 r s).since = s.next := rfl
      have hgt : t < s.next := by
        simp only [goesOn, Bool.and_eq_false_iff, decide_eq_false_iff_not] at ht
        omega
      have hst : goesOn t (step1 r s) = false := by
        simp only [goesOn, Bool.and_eq_false_iff, decide_eq_false_iff_not]
        omega
      obtain ⟨g1, g2⟩ := later_alone hr (t := t) (u := u) m (s := step1 r s) hf (by omega) hst
      refine ⟨fun x hx => ?_, g2⟩
      rcases List.mem_cons.1 hx with rfl | hx
      · rw [hsi]; exact hgt
      · exact g1 x hx
theorem Good.split {r : Rul} {c : Clm} {E : Nat → Evt} {n : Nat} (h : Good r c E n) {t : Int} (ht : c.asked ≤ t) (hb : t ≤ 20000000) : ∀ m, stopN E t n + m ≤ n →
    ∃ B, tlL r c E (begins r 1 c.asked) (stopN E t n + m) ++ aloneL r t 4 (runN r c E (begins r 1 c.asked) (stopN E t n + m)) = tlL r c E (begins r 1 c.asked) (stopN E t n) ++ aloneL r t 4 (runN r c E (begins r 1 c.asked) (stopN E t n)) ++ B ∧ ∀ x ∈ B, t < x.since
  | 0, _ => ⟨[], by simp, fun x hx => by cases hx⟩
  | m + 1, hm => by
    obtain ⟨B, h1, h2⟩ := h.split ht hb m (by omega)
    obtain ⟨s1, s2, s3⟩ := stopN_spec E t n
    have hev := ((CP.ok_iff _).1 h.ok).2.2.2
    generalize hk : stopN E t n = k at h1 hm s1 s2 s3 ⊢
    have hat : t < (E (k + m)).at' := by
      have h1 := s3 (by omega)
      have h2 := at_mono hev (k := k) m (by show _ < n; omega)
      exact Int.lt_of_lt_of_le h1 h2
    obtain ⟨f1, f2⟩ := h.run (k + m) (by omega)
    have hd := h.dl (i := k + m) (by omega)
    have he := h.ev (i := k + m) (by omega)
    have hend := goN_end (u := t) 4 (fine_ok h.small f1) (rank_le _)
    obtain ⟨g1, g2⟩ := go_go (r := r) (u := t) (u' := (E (k + m)).at') (by omega) 4 (fine_ok h.small f1)
    obtain ⟨a1, a2, a3, a4, a5⟩ := alone_chain h.small (E := E) (n := n) (u := t) 4 f1 hd
    obtain ⟨l1, l2⟩ := later_alone h.small (t := t) (u := (E (k + m)).at') 4 a4 (by omega) hend
    rw [show k + (m + 1) = k + m + 1 by omega]
    have hset : goesOn t (runN r c E (begins r 1 c.asked) (k + m + 1)) = false := by
      show goesOn t (evN r c (runN r c E (begins r 1 c.asked) (k + m)) (E (k + m))) = false
      unfold evN
      cases hb : afterB c (goN r (E (k + m)).at' 4 (runN r c E (begins r 1 c.asked) (k + m))).state (E (k + m)) with
      | false => dsimp only; rw [← g1]; exact l2
      | true =>
        have hf := begins_fine h.small (s := afterN c (goN r (E (k + m)).at' 4 (runN r c E (begins r 1 c.asked) (k + m))).state (E (k + m))) (t := (E (k + m)).at') (afterN_b hb) (by have := h.asked; omega) (by omega)
        have := fine_lt h.small hf
        have hsi : (begins r (afterN c (goN r (E (k + m)).at' 4 (runN r c E (begins r 1 c.asked) (k + m))).state (E (k + m))) (E (k + m)).at').since = (E (k + m)).at' := rfl
        simp only [goesOn, Bool.and_eq_false_iff, decide_eq_false_iff_not]
        omega
    rw [aloneL_done hset]
    have htl : tlL r c E (begins r 1 c.asked) (k + m + 1) = tlL r c E (begins r 1 c.asked) (k + m) ++ evL r c (runN r c E (begins r 1 c.asked) (k + m)) (E (k + m)) := rfl
    rw [htl]
    unfold evL
    rw [g2]
    refine ⟨B ++ (aloneL r (E (k + m)).at' 4 (goN r t 4 (runN r c E (begins r 1 c.asked) (k + m))) ++ (match afterB c (goN r (E (k + m)).at' 4 (runN r c E (begins r 1 c.asked) (k + m))).state (E (k + m)) with | true => [begins r (afterN c (goN r (E (k + m)).at' 4 (runN r c E (begins r 1 c.asked) (k + m))).state (E (k + m))) (E (k + m)).at'] | false => [])), ?_, fun x hx => ?_⟩
    · have hass : ∀ (a b d e : List Sta), a ++ (b ++ d ++ e) = (a ++ b) ++ (d ++ e) := fun a b d e => by simp only [List.append_assoc]
      rw [List.append_nil, hass, h1]
      simp only [List.append_assoc]
      rfl
    · rcases List.mem_append.1 hx with hx | hx
      · exact h2 x hx
      · rcases List.mem_append.1 hx with hx | hx
        · exact l1 x hx
        · cases hb : afterB c (goN r (E (k + m)).at' 4 (runN r c E (begins r 1 c.asked) (k + m))).state (E (k + m)) with
          | false => rw [hb] at hx; cases hx
          | true =>
            rw [hb] at hx
            simp only [List.mem_singleton] at hx
            subst hx
            exact hat
/-- The last one that began by a time. -/
def wantL (t : Int) : Sta → List Sta → Sta
  | w, [] => w
  | w, x :: l => wantL t (if x.since ≤ t then x else w) l
theorem wantL_append (t : Int) : ∀ (l l' : List Sta) (w : Sta), wantL t w (l ++ l') = wantL t (wantL t w l) l'
  | [], _, _ => rfl
  | x :: l, l', w => wantL_append t l l' _
theorem wantL_all {t : Int} : ∀ (l : List Sta) (w : Sta), (∀ x ∈ l, x.since ≤ t) → wantL t w l = lastS w l
  | [], _, _ => rfl
  | x :: l, w, h => by
    unfold wantL lastS
    rw [if_pos (h x (by simp))]
    exact wantL_all l x fun y hy => h y (by simp [hy])
theorem wantL_none {t : Int} : ∀ (l : List Sta) (w : Sta), (∀ x ∈ l, t < x.since) → wantL t w l = w
  | [], _, _ => rfl
  | x :: l, w, h => by
    unfold wantL
    have := h x (by simp)
    rw [if_neg (by omega)]
    exact wantL_none l w fun y hy => h y (by simp [hy])
theorem Good.want {r : Rul} {c : Clm} {E : Nat → Evt} {n : Nat} (h : Good r c E n) {t : Int} (ht : c.asked ≤ t) (hb : t ≤ 20000000) : wantL t (begins r 1 c.asked) (lineL ⟨r, c, E, n⟩) = outcome ⟨r, c, E, n, t⟩ := by
  obtain ⟨s1, s2, s3⟩ := stopN_spec E t n
  obtain ⟨B, h1, h2⟩ := h.split ht hb (n - stopN E t n) (by omega)
  rw [show stopN E t n + (n - stopN E t n) = n by omega] at h1
  obtain ⟨f1, f2⟩ := h.run n (Nat.le_refl _)
  have hd := h.dl (i := n) (Nat.le_refl _)
  have hend := goN_end (u := t) 4 (fine_ok h.small f1) (rank_le _)
  obtain ⟨a1, a2, a3, a4, a5⟩ := alone_chain h.small (E := E) (n := n) (u := t) 4 f1 hd
  obtain ⟨g1, g2⟩ := go_go (r := r) (u := t) (u' := 4611686018427387904) (by omega) 4 (fine_ok h.small f1)
  obtain ⟨l1, l2⟩ := later_alone h.small (t := t) (u := 4611686018427387904) 4 a4 (by omega) hend
  obtain ⟨k1, k2, k3⟩ := h.chained (stopN E t n) s1
  obtain ⟨e1, e2⟩ := h.run (stopN E t n) s1
  obtain ⟨b1, b2, b3, b4, b5⟩ := alone_chain h.small (E := E) (n := n) (u := t) 4 e1 (h.dl s1)
  have hA : chain (linked E n) (begins r 1 c.asked) (tlL r c E (begins r 1 c.asked) (stopN E t n) ++ aloneL r t 4 (runN r c E (begins r 1 c.asked) (stopN E t n))) := chain_append k1 (by rw [k2]; exact b1)
  have hlast : lastS (begins r 1 c.asked) (tlL r c E (begins r 1 c.asked) (stopN E t n) ++ aloneL r t 4 (runN r c E (begins r 1 c.asked) (stopN E t n))) = outcome ⟨r, c, E, n, t⟩ := by
    rw [lastS_append, k2, b2, (h.out ht hb).2]
  have hsi := (h.out_fine ht hb).2
  obtain ⟨c1, c2⟩ := chain_since hA
  rw [hlast] at c1 c2
  rw [h.tl]
  unfold wantL
  rw [if_pos (show (begins r 1 c.asked).since ≤ t from ht)]
  unfold tlW
  have hw := wantL_all (t := t) (tlL r c E (begins r 1 c.asked) (stopN E t n) ++ aloneL r t 4 (runN r c E (begins r 1 c.asked) (stopN E t n))) (begins r 1 c.asked) (fun x hx => by have := c2 x hx; omega)
  rw [g2, ← List.append_assoc, h1, wantL_append, wantL_append, hw, hlast, wantL_none _ _ h2, wantL_none _ _ l1]
end Go.Proofs.Ytmcidfecepknpaa

namespace Go.Proofs.Ytmcidfecepknpaa
open Go Go.Sh Go.Proofs
set_option linter.unusedVariables false
/-! ### ClaimTimelines -/
def sTimelines : FSpec TX where
  J := fun p => p.x.fits ∧ i64 p.t
  A := fun p => p.x.A ++ [iv p.t]
  H := fun p => [some (zO p.x.n p.x.Z)]
  R := fun _ => .bool true
  O := fun _ => []
structure TlP where
  r : Rul
  c : Clm
  E : Nat → Evt
  n : Nat
  t : Int
  ln : Nat
  V : Nat → Sta
  vn : Nat
  U : Nat → Int
structure TlD where
  i : Nat
  al : Int
/-- How many of the first ones begin when the one before ends. -/
def cntP (V : Nat → Sta) : Nat → Nat
  | 0 => 0
  | m + 1 => cntP V m + if (V (m + 1)).since = (V m).next then 1 else 0
def lT1_J (p : TlP) (d : TlD) : Prop := (1 ≤ d.i ∧ d.i ≤ p.ln) ∧ p.ln ≤ 1000 ∧ p.n ≤ 10 ∧ (∀ j, j + 1 < p.ln → linked p.E p.n (p.V j) (p.V (j + 1))) ∧ d.al = (cntP p.V (d.i - 1) : Int)
noncomputable def heapT1 (p : TlP) : Heap := [none, none, some (.arr true p.n 3 45 fun i => (p.E i).cells), boxR p.r, boxC p.c, lineO p.ln p.V, some (.arr true p.vn 1 3 fun i => [iv (p.U i)])]
noncomputable def lT1 : LSpec TlP TlD Int where
  code := loopOf Try.prog 6 11
  N := 7
  I := fun p d => blank 238 [(1, iv p.t), (6, .ptr 3 0 0), (7, .ptr 4 0 0), (8, .osl 2 p.n), (9, .osl 5 p.ln), (11, .osl 6 p.vn), (13, iv d.al), (14, iv d.i)] (heapT1 p)
  J := lT1_J
  ways := 1
  E := fun w p d => (.exit 0, blank 238 [(1, iv p.t), (6, .ptr 3 0 0), (7, .ptr 4 0 0), (8, .osl 2 p.n), (9, .osl 5 p.ln), (11, .osl 6 p.vn), (13, iv d)] (heapT1 p))
  JE := fun w p d => Leaf (d = (cntP p.V (p.ln - 1) : Int))
noncomputable def zT1 (p : TlP) (d : TlD) : KX := fun x S' => match x with
  | .normal => match S'.get 13 with
    | .int _ al => Leaf (d.i < p.ln) ∧ Leaf (al = d.al + if (p.V d.i).since = (p.V (d.i - 1)).next then 1 else 0) ∧ Wk 7 [] (lT1.I p ⟨d.i + 1, al⟩) S'
    | _ => False
  | .exit j => gateB (Nat.beq j 0) (Leaf (p.ln ≤ d.i) ∧ Wk 7 [] (lT1.E 0 p d.al).2 S')
  | .ret => Leaf False
def exT1 (S : SS) : Option (TlP × TlD × Ren) := match S.get 1, arrOf S.heap 2, arrOf S.heap 3, arrOf S.heap 4, arrOf S.heap 5, arrOf S.heap 6 with
  | .int _ b, some (n, E), some (_, rr), some (_, cc), some (ln, V), some (vn, U) => match rr 0, cc 0 with
    | [.int _ r1, .int _ r2, .int _ r3, .int _ r4], [.int _ c1, .int _ c2, .int _ c3, .int _ c4, .int _ c5, .bool c6] =>
      some (⟨⟨r1, r2, r3, r4⟩, ⟨c1, c2, c3, c4, c5, c6⟩, fun i => Evt.of (E i), n, b, ln, fun i => Sta.ofC (V i), vn, fun i => intOf (U i)⟩, ⟨1, 0⟩, [])
    | _, _ => none
  | _, _, _, _, _, _ => none
end Go.Proofs.Ytmcidfecepknpaa

namespace Go.Proofs.Ytmcidfecepknpaa
open Go Go.Sh Go.Proofs
set_option linter.unusedVariables false
noncomputable def ops607 : Array Oper := opsOf Try.prog 6 7
def l607 : List Nat := [0, 1, 2, 3, 4, 5, 6, 7, 8, 9, 10, 11, 12, 13, 14, 15, 16, 17, 18, 19, 20, 21, 22, 23, 24, 25, 26, 27, 28, 29, 30, 31, 32, 33, 34]
theorem cert607 : certB (fun g => [16].contains g) ops607 l607 (Array.replicate ops607.size false) = true := by kernel_rfl
theorem len607 : l607.length = ops607.size := by kernel_rfl
noncomputable def ops614 : Array Oper := opsOf Try.prog 6 14
def l614 : List Nat := [0, 1, 2, 3, 4, 5, 6, 7, 8, 9, 10, 11, 12, 13, 14, 15, 16, 17, 18, 19, 20, 21, 22]
theorem cert614 : certB (fun g => [].contains g) ops614 l614 (Array.replicate ops614.size false) = true := by kernel_rfl
theorem len614 : l614.length = ops614.size := by kernel_rfl
noncomputable def ops622 : Array Oper := opsOf Try.prog 6 22
def l622 : List Nat := [0, 1, 2, 3, 4, 5, 6, 7, 8, 9, 10, 11, 12, 13, 14]
theorem cert622 : certB (fun g => [].contains g) ops622 l622 (Array.replicate ops622.size false) = true := by kernel_rfl
theorem len622 : l622.length = ops622.size := by kernel_rfl
noncomputable def XT0 : Ctx := (XL.sched 6 14 ops614 [] l614).sched 6 22 ops622 [] l622
theorem XT0_ok : XT0.OK := Ctx.sched_ok (f := 6) (i := 22) (ops := ops622) (fs := []) (l := l622) (Ctx.sched_ok (f := 6) (i := 14) (ops := ops614) (fs := []) (l := l614) XL_ok len614 cert614 (by simp)) len622 cert622 (by simp)
/-! the inner loop -/
structure TiP where
  p : TlP
  i : Nat
  al : Int
structure TiD where
  k : Nat
  f : Bool
def lT2_J (p : TiP) (d : TiD) : Prop := d.k ≤ p.p.n ∧ p.p.n ≤ 10 ∧ p.i < p.p.ln ∧ p.p.ln ≤ 1000 ∧ ((∃ j, j < d.k ∧ (p.p.E j).at' = (p.p.V p.i).since) → d.f = true)
noncomputable def lT2 : LSpec TiP TiD Bool where
  code := loopOf Try.prog 6 20
  N := 8
  I := fun p d => blank 238 [(1, iv p.p.t), (6, .ptr 3 0 0), (7, .ptr 4 0 0), (8, .osl 2 p.p.n), (9, .osl 5 p.p.ln), (11, .osl 6 p.p.vn), (13, iv p.al), (14, iv p.i), (16, .bool d.f), (17, iv d.k)] (heapT1 p.p ++ [none])
  J := lT2_J
  ways := 1
  E := fun w p f => (.exit 2, blank 238 [(1, iv p.p.t), (6, .ptr 3 0 0), (7, .ptr 4 0 0), (8, .osl 2 p.p.n), (9, .osl 5 p.p.ln), (11, .osl 6 p.p.vn), (13, iv p.al), (14, iv p.i), (16, .bool f)] (heapT1 p.p ++ [none]))
  JE := fun w p f => Leaf ((∃ j, j < p.p.n ∧ (p.p.E j).at' = (p.p.V p.i).since) → f = true)
noncomputable def zT2 (p : TiP) (d : TiD) : KX := fun x S' => match x with
  | .normal => match S'.get 16 with
    | .bool f => Leaf (d.k < p.p.n) ∧ Leaf ((d.f = true ∨ (p.p.E d.k).at' = (p.p.V p.i).since) → f = true) ∧ Wk 8 [] (lT2.I p ⟨d.k + 1, f⟩) S'
    | _ => False
  | .exit j => gateB (Nat.beq j 2) (Leaf (p.p.n ≤ d.k) ∧ Wk 8 [] (lT2.E 0 p d.f).2 S')
  | .ret => Leaf False
def exT2 (S : SS) : Option (TiP × TiD × Ren) := match S.get 13, S.get 14, exT1 S with
  | .int _ al, .int _ i, some (p, _) => some (⟨p, i.toNat, al⟩, ⟨0, false⟩, [])
  | _, _, _ => none
end Go.Proofs.Ytmcidfecepknpaa

namespace Go.Proofs.Ytmcidfecepknpaa
open Go Go.Sh Go.Proofs
set_option linter.unusedVariables false
set_option linter.unusedSimpArgs false
def t2loop_t0 : Prop :=
  (0 : Nat) = (0 : Nat) ∧ (0 : Nat) = (0 : Nat)
theorem t2loop_t0_t : t2loop_t0 :=
  ⟨rfl, rfl⟩
def t2loop_t1 (p : TiP) : Prop :=
  (p.1.4 = p.1.4 ∧ ∀ (i : Nat), i < p.1.n → (p.1.3 i).1 = (p.1.3 i).1 ∧ (p.1.3 i).2 = (p.1.3 i).2 ∧ (p.1.3 i).3 = (p.1.3 i).3 ∧ True) ∧ ((1 : Nat) = (1 : Nat) ∧ ∀ (i : Nat), i < (1 : Nat) → p.1.1.1 = p.1.1.1 ∧ p.1.1.2 = p.1.1.2 ∧ p.1.1.3 = p.1.1.3 ∧ p.1.1.4 = p.1.1.4 ∧ True) ∧ ((1 : Nat) = (1 : Nat) ∧ ∀ (i : Nat), i < (1 : Nat) → p.1.2.1 = p.1.2.1 ∧ p.1.2.2 = p.1.2.2 ∧ p.1.2.3 = p.1.2.3 ∧ p.1.2.4 = p.1.2.4 ∧ p.1.2.5 = p.1.2.5 ∧ p.1.2.6 = p.1.2.6 ∧ True) ∧ (p.1.6 = p.1.6 ∧ ∀ (i : Nat), i < p.1.ln → (p.1.7 i).1 = (p.1.7 i).1 ∧ (p.1.7 i).2 = (p.1.7 i).2 ∧ (p.1.7 i).3 = (p.1.7 i).3 ∧ True) ∧ (p.1.8 = p.1.8 ∧ ∀ (i : Nat), i < p.1.vn → p.1.9 i = p.1.9 i ∧ True) ∧ True
theorem t2loop_t1_t (p : TiP) : t2loop_t1 p :=
  ⟨⟨rfl, (fun _ => (fun _ => ⟨rfl, ⟨rfl, ⟨rfl, trivial⟩⟩⟩))⟩, ⟨⟨rfl, (fun _ => (fun _ => ⟨rfl, ⟨rfl, ⟨rfl, ⟨rfl, trivial⟩⟩⟩⟩))⟩, ⟨⟨rfl, (fun _ => (fun _ => ⟨rfl, ⟨rfl, ⟨rfl, ⟨rfl, ⟨rfl, ⟨rfl, trivial⟩⟩⟩⟩⟩⟩))⟩, ⟨⟨rfl, (fun _ => (fun _ => ⟨rfl, ⟨rfl, ⟨rfl, trivial⟩⟩⟩))⟩, ⟨⟨rfl, (fun _ => (fun _ => ⟨rfl, trivial⟩))⟩, trivial⟩⟩⟩⟩⟩
def t2loop_t2 (p : TiP) (d : TiD) : Prop :=
  Leaf (d.f = true ∨ (p.p.E d.k).at' = (p.p.V p.i).since → true = true)
theorem t2loop_t2_t (p : TiP) (d : TiD) : t2loop_t2 p d :=
  (fun _ => rfl)
def t2loop_t3 (p : TiP) (d : TiD) : Prop :=
  (p.1.5 = p.1.5 ∧ ((0 : Nat) = (0 : Nat) ∧ (0 : Nat) = (0 : Nat)) ∧ ((0 : Nat) = (0 : Nat) ∧ (0 : Nat) = (0 : Nat)) ∧ p.1.4 = p.1.4 ∧ p.1.6 = p.1.6 ∧ p.1.8 = p.1.8 ∧ p.3 = p.3 ∧ Int.ofNat p.2 = Int.ofNat p.2 ∧ d.2 = d.2 ∧ True) ∧ (p.1.4 = p.1.4 ∧ ∀ (i : Nat), i < p.1.n → (p.1.3 i).1 = (p.1.3 i).1 ∧ (p.1.3 i).2 = (p.1.3 i).2 ∧ (p.1.3 i).3 = (p.1.3 i).3 ∧ True) ∧ ((1 : Nat) = (1 : Nat) ∧ ∀ (i : Nat), i < (1 : Nat) → p.1.1.1 = p.1.1.1 ∧ p.1.1.2 = p.1.1.2 ∧ p.1.1.3 = p.1.1.3 ∧ p.1.1.4 = p.1.1.4 ∧ True) ∧ ((1 : Nat) = (1 : Nat) ∧ ∀ (i : Nat), i < (1 : Nat) → p.1.2.1 = p.1.2.1 ∧ p.1.2.2 = p.1.2.2 ∧ p.1.2.3 = p.1.2.3 ∧ p.1.2.4 = p.1.2.4 ∧ p.1.2.5 = p.1.2.5 ∧ p.1.2.6 = p.1.2.6 ∧ True) ∧ (p.1.6 = p.1.6 ∧ ∀ (i : Nat), i < p.1.ln → (p.1.7 i).1 = (p.1.7 i).1 ∧ (p.1.7 i).2 = (p.1.7 i).2 ∧ (p.1.7 i).3 = (p.1.7 i).3 ∧ True) ∧ (p.1.8 = p.1.8 ∧ ∀ (i : Nat), i < p.1.vn → p.1.9 i = p.1.9 i ∧ True) ∧ True
theorem t2loop_t3_t (p : TiP) (d : TiD) : t2loop_t3 p d :=
  ⟨⟨rfl, ⟨⟨rfl, rfl⟩, ⟨⟨rfl, rfl⟩, ⟨rfl, ⟨rfl, ⟨rfl, ⟨rfl, ⟨rfl, ⟨rfl, trivial⟩⟩⟩⟩⟩⟩⟩⟩⟩, ⟨⟨rfl, (fun _ => (fun _ => ⟨rfl, ⟨rfl, ⟨rfl, trivial⟩⟩⟩))⟩, ⟨⟨rfl, (fun _ => (fun _ => ⟨rfl, ⟨rfl, ⟨rfl, ⟨rfl, trivial⟩⟩⟩⟩))⟩, ⟨⟨rfl, (fun _ => (fun _ => ⟨rfl, ⟨rfl, ⟨rfl, ⟨rfl, ⟨rfl, ⟨rfl, trivial⟩⟩⟩⟩⟩⟩))⟩, ⟨⟨rfl, (fun _ => (fun _ => ⟨rfl, ⟨rfl, ⟨rfl, trivial⟩⟩⟩))⟩, ⟨⟨rfl, (fun _ => (fun _ => ⟨rfl, trivial⟩))⟩, trivial⟩⟩⟩⟩⟩⟩
def t2loop_T (p : TiP) (d : TiD) : Prop :=
  ifB (decide (Int.ofNat d.1 < Int.ofNat p.1.4)) (ops622 = ops622 ∧ ifB (d.2 == false) (ifB (decide (Int.ofNat d.1 < (↑p.1.4 : Int))) (ifB (decide (d.1 < p.1.4)) (ifB (decide (Int.ofNat p.2 < (↑p.1.6 : Int))) (ifB (decide (p.2 < p.1.6)) (Leaf (d.k < p.p.n) ∧ Leaf (d.f = true ∨ (p.p.E d.k).at' = (p.p.V p.i).since → ((p.1.3 d.1).2 == (p.1.7 p.2).2) = true) ∧ (p.1.5 = p.1.5 ∧ t2loop_t0 ∧ t2loop_t0 ∧ p.1.4 = p.1.4 ∧ p.1.6 = p.1.6 ∧ p.1.8 = p.1.8 ∧ p.3 = p.3 ∧ Int.ofNat p.2 = Int.ofNat p.2 ∧ ((p.1.3 d.1).2 == (p.1.7 p.2).2) = ((p.1.3 d.1).2 == (p.1.7 p.2).2) ∧ Int.ofNat (d.1 + (1 : Nat)) = IntKind.i64.wrap (Int.ofNat (d.1 + (1 : Nat))) ∧ True) ∧ t2loop_t1 p) False) False) False) False) (Leaf (d.k < p.p.n) ∧ t2loop_t2 p d ∧ (p.1.5 = p.1.5 ∧ t2loop_t0 ∧ t2loop_t0 ∧ p.1.4 = p.1.4 ∧ p.1.6 = p.1.6 ∧ p.1.8 = p.1.8 ∧ p.3 = p.3 ∧ Int.ofNat p.2 = Int.ofNat p.2 ∧ true = true ∧ Int.ofNat (d.1 + (1 : Nat)) = IntKind.i64.wrap (Int.ofNat (d.1 + (1 : Nat))) ∧ True) ∧ t2loop_t1 p)) (Leaf (p.p.n ≤ d.k) ∧ t2loop_t3 p d)
theorem t2loop_eq (p : TiP) (d : TiD) : exec XT0 60 6 lT2.code (lT2.I p d) (zT2 p d) = t2loop_T p d := by kernel_rfl

theorem t2loop_step (p : TiP) (d : TiD) (hJ : lT2_J p d) : t2loop_T p d := by
  obtain ⟨h1, h2, h3, h4, h5⟩ := hJ
  unfold t2loop_T
  repeat' (first | with_reducible refine ifB_split (fun _ => ?_) (fun _ => ?_) | with_reducible refine And.intro ?_ ?_)
  all_goals try first | with_reducible exact t2loop_t0_t | with_reducible exact t2loop_t1_t _ | with_reducible exact t2loop_t2_t _ _ | with_reducible exact t2loop_t3_t _ _ | with_reducible rfl | with_reducible exact trivial | with_reducible exact List.Perm.refl _
  all_goals simp only [Leaf, Nat.zero_add, Int.ofNat_eq_natCast, decide_eq_true_eq, decide_eq_false_iff_not, beq_iff_eq, beq_eq_false_iff_ne, ne_eq, Bool.and_eq_true, Bool.not_eq_true', Bool.not_eq_true, Bool.not_eq_false', Bool.and_true, Int.natCast_inj, gt_iff_lt, Int.ofNat_lt, Int.ofNat_le, Bool.and_eq_false_iff] at *
  all_goals first
    | omega
    | (rw [wrapSmall (by omega) (by omega)]; done)
    | (intro h; rcases h with h | h
       · simp_all
       · exact h)
    | trace_state
set_option maxRecDepth 100000 in
theorem t2loop_ok : LoopOK XL.P lT2.code lT2.L := by
  refine lT2.ok XT0_ok 60 6 (fun p d => p.p.n - d.k) zT2 (fun _ _ _ => trivial) (fun p d w q hw => ?_) (fun p d S' hJ h => ?_) (fun p d x S' hx hJ h => ?_) fun p d hJ => ?_
  · match w, hw with
    | 0, _ => exact trivial
  · unfold zT2 at h; dsimp only at h
    split at h <;> try exact h.elim
    rename_i f _
    obtain ⟨h1, h2, h3⟩ := h
    simp only [Leaf] at h1 h2
    obtain ⟨j1, j2, j3, j4, j5⟩ := hJ
    refine ⟨_, ⟨d.k + 1, f⟩, ?_, ⟨h1, j2, j3, j4, fun ⟨j, hj, he⟩ => ?_⟩, h3⟩
    · show p.p.n - (d.k + 1) < p.p.n - d.k
      omega
    · rcases Nat.lt_succ_iff_lt_or_eq.1 (show j < d.k + 1 from hj) with hj | rfl
      · exact h2 (.inl (j5 ⟨j, hj, he⟩))
      · exact h2 (.inr he)
  · obtain ⟨j1, j2, j3, j4, j5⟩ := hJ
    cases x with
    | normal => exact hx.elim
    | ret => exact (show False from h).elim
    | exit k =>
      obtain ⟨h0, h1, h2⟩ := gateB_spec h
      have h0 := Nat.eq_of_beq_eq_true h0
      subst h0
      simp only [Leaf] at h1
      have hi : d.k = p.p.n := by omega
      exact ⟨0, d.f, _, Nat.lt_succ_self 0, fun ⟨j, hj, he⟩ => j5 ⟨j, by omega, he⟩, rfl, h2⟩
  · rw [t2loop_eq]
    exact t2loop_step p d hJ
noncomputable def XT1 : Ctx := XT0.loop 6 20 lT2.code (lT2.by exT2)
theorem XT1_ok : XT1.OK := Ctx.loop_ok XT0_ok (t2loop_ok.by exT2)
end Go.Proofs.Ytmcidfecepknpaa

namespace Go.Proofs.Ytmcidfecepknpaa
open Go Go.Sh Go.Proofs
set_option linter.unusedVariables false
set_option linter.unusedSimpArgs false
def t1loop_t0 : Prop :=
  (0 : Nat) = (0 : Nat) ∧ (0 : Nat) = (0 : Nat)
theorem t1loop_t0_t : t1loop_t0 :=
  ⟨rfl, rfl⟩
def t1loop_t1 (p : TlP) : Prop :=
  (p.4 = p.4 ∧ ∀ (i : Nat), i < p.n → (p.3 i).1 = (p.3 i).1 ∧ (p.3 i).2 = (p.3 i).2 ∧ (p.3 i).3 = (p.3 i).3 ∧ True) ∧ ((1 : Nat) = (1 : Nat) ∧ ∀ (i : Nat), i < (1 : Nat) → p.1.1 = p.1.1 ∧ p.1.2 = p.1.2 ∧ p.1.3 = p.1.3 ∧ p.1.4 = p.1.4 ∧ True) ∧ ((1 : Nat) = (1 : Nat) ∧ ∀ (i : Nat), i < (1 : Nat) → p.2.1 = p.2.1 ∧ p.2.2 = p.2.2 ∧ p.2.3 = p.2.3 ∧ p.2.4 = p.2.4 ∧ p.2.5 = p.2.5 ∧ p.2.6 = p.2.6 ∧ True) ∧ (p.6 = p.6 ∧ ∀ (i : Nat), i < p.ln → (p.7 i).1 = (p.7 i).1 ∧ (p.7 i).2 = (p.7 i).2 ∧ (p.7 i).3 = (p.7 i).3 ∧ True) ∧ (p.8 = p.8 ∧ ∀ (i : Nat), i < p.vn → p.9 i = p.9 i ∧ True) ∧ True
theorem t1loop_t1_t (p : TlP) : t1loop_t1 p :=
  ⟨⟨rfl, (fun _ => (fun _ => ⟨rfl, ⟨rfl, ⟨rfl, trivial⟩⟩⟩))⟩, ⟨⟨rfl, (fun _ => (fun _ => ⟨rfl, ⟨rfl, ⟨rfl, ⟨rfl, trivial⟩⟩⟩⟩))⟩, ⟨⟨rfl, (fun _ => (fun _ => ⟨rfl, ⟨rfl, ⟨rfl, ⟨rfl, ⟨rfl, ⟨rfl, trivial⟩⟩⟩⟩⟩⟩))⟩, ⟨⟨rfl, (fun _ => (fun _ => ⟨rfl, ⟨rfl, ⟨rfl, trivial⟩⟩⟩))⟩, ⟨⟨rfl, (fun _ => (fun _ => ⟨rfl, trivial⟩))⟩, trivial⟩⟩⟩⟩⟩
def t1loop_t2 (p : TlP) (d : TlD) : Prop :=
  (8 : Nat) = (8 : Nat) ∧ True ∧ (p.5 = p.5 ∧ ((0 : Nat) = (0 : Nat) ∧ (0 : Nat) = (0 : Nat)) ∧ ((0 : Nat) = (0 : Nat) ∧ (0 : Nat) = (0 : Nat)) ∧ p.4 = p.4 ∧ p.6 = p.6 ∧ p.8 = p.8 ∧ d.2 = d.2 ∧ Int.ofNat d.1 = Int.ofNat d.1 ∧ false = false ∧ (0 : Int) = (0 : Int) ∧ True) ∧ (p.4 = p.4 ∧ ∀ (i : Nat), i < p.n → (p.3 i).1 = (p.3 i).1 ∧ (p.3 i).2 = (p.3 i).2 ∧ (p.3 i).3 = (p.3 i).3 ∧ True) ∧ ((1 : Nat) = (1 : Nat) ∧ ∀ (i : Nat), i < (1 : Nat) → p.1.1 = p.1.1 ∧ p.1.2 = p.1.2 ∧ p.1.3 = p.1.3 ∧ p.1.4 = p.1.4 ∧ True) ∧ ((1 : Nat) = (1 : Nat) ∧ ∀ (i : Nat), i < (1 : Nat) → p.2.1 = p.2.1 ∧ p.2.2 = p.2.2 ∧ p.2.3 = p.2.3 ∧ p.2.4 = p.2.4 ∧ p.2.5 = p.2.5 ∧ p.2.6 = p.2.6 ∧ True) ∧ (p.6 = p.6 ∧ ∀ (i : Nat), i < p.ln → (p.7 i).1 = (p.7 i).1 ∧ (p.7 i).2 = (p.7 i).2 ∧ (p.7 i).3 = (p.7 i).3 ∧ True) ∧ (p.8 = p.8 ∧ ∀ (i : Nat), i < p.vn → p.9 i = p.9 i ∧ True) ∧ True
theorem t1loop_t2_t (p : TlP) (d : TlD) : t1loop_t2 p d :=
  ⟨rfl, ⟨trivial, ⟨⟨rfl, ⟨⟨rfl, rfl⟩, ⟨⟨rfl, rfl⟩, ⟨rfl, ⟨rfl, ⟨rfl, ⟨rfl, ⟨rfl, ⟨rfl, ⟨rfl, trivial⟩⟩⟩⟩⟩⟩⟩⟩⟩⟩, ⟨⟨rfl, (fun _ => (fun _ => ⟨rfl, ⟨rfl, ⟨rfl, trivial⟩⟩⟩))⟩, ⟨⟨rfl, (fun _ => (fun _ => ⟨rfl, ⟨rfl, ⟨rfl, ⟨rfl, trivial⟩⟩⟩⟩))⟩, ⟨⟨rfl, (fun _ => (fun _ => ⟨rfl, ⟨rfl, ⟨rfl, ⟨rfl, ⟨rfl, ⟨rfl, trivial⟩⟩⟩⟩⟩⟩))⟩, ⟨⟨rfl, (fun _ => (fun _ => ⟨rfl, ⟨rfl, ⟨rfl, trivial⟩⟩⟩))⟩, ⟨⟨rfl, (fun _ => (fun _ => ⟨rfl, trivial⟩))⟩, trivial⟩⟩⟩⟩⟩⟩⟩⟩
def t1loop_t3 (p : TlP) (d : TlD) : Prop :=
  (p.5 = p.5 ∧ ((0 : Nat) = (0 : Nat) ∧ (0 : Nat) = (0 : Nat)) ∧ ((0 : Nat) = (0 : Nat) ∧ (0 : Nat) = (0 : Nat)) ∧ p.4 = p.4 ∧ p.6 = p.6 ∧ p.8 = p.8 ∧ d.2 = d.2 ∧ True) ∧ (p.4 = p.4 ∧ ∀ (i : Nat), i < p.n → (p.3 i).1 = (p.3 i).1 ∧ (p.3 i).2 = (p.3 i).2 ∧ (p.3 i).3 = (p.3 i).3 ∧ True) ∧ ((1 : Nat) = (1 : Nat) ∧ ∀ (i : Nat), i < (1 : Nat) → p.1.1 = p.1.1 ∧ p.1.2 = p.1.2 ∧ p.1.3 = p.1.3 ∧ p.1.4 = p.1.4 ∧ True) ∧ ((1 : Nat) = (1 : Nat) ∧ ∀ (i : Nat), i < (1 : Nat) → p.2.1 = p.2.1 ∧ p.2.2 = p.2.2 ∧ p.2.3 = p.2.3 ∧ p.2.4 = p.2.4 ∧ p.2.5 = p.2.5 ∧ p.2.6 = p.2.6 ∧ True) ∧ (p.6 = p.6 ∧ ∀ (i : Nat), i < p.ln → (p.7 i).1 = (p.7 i).1 ∧ (p.7 i).2 = (p.7 i).2 ∧ (p.7 i).3 = (p.7 i).3 ∧ True) ∧ (p.8 = p.8 ∧ ∀ (i : Nat), i < p.vn → p.9 i = p.9 i ∧ True) ∧ True
theorem t1loop_t3_t (p : TlP) (d : TlD) : t1loop_t3 p d :=
  ⟨⟨rfl, ⟨⟨rfl, rfl⟩, ⟨⟨rfl, rfl⟩, ⟨rfl, ⟨rfl, ⟨rfl, ⟨rfl, trivial⟩⟩⟩⟩⟩⟩⟩, ⟨⟨rfl, (fun _ => (fun _ => ⟨rfl, ⟨rfl, ⟨rfl, trivial⟩⟩⟩))⟩, ⟨⟨rfl, (fun _ => (fun _ => ⟨rfl, ⟨rfl, ⟨rfl, ⟨rfl, trivial⟩⟩⟩⟩))⟩, ⟨⟨rfl, (fun _ => (fun _ => ⟨rfl, ⟨rfl, ⟨rfl, ⟨rfl, ⟨rfl, ⟨rfl, trivial⟩⟩⟩⟩⟩⟩))⟩, ⟨⟨rfl, (fun _ => (fun _ => ⟨rfl, ⟨rfl, ⟨rfl, trivial⟩⟩⟩))⟩, ⟨⟨rfl, (fun _ => (fun _ => ⟨rfl, trivial⟩))⟩, trivial⟩⟩⟩⟩⟩⟩
def t1loop_T (p : TlP) (d : TlD) : Prop :=
  ifB (decide (Int.ofNat d.1 < Int.ofNat p.6)) (ifB (decide ((0 : Int) ≤ if (0 : Int) > IntKind.i64.wrap (Int.ofNat d.1 - (1 : Int)) then (0 : Int) else IntKind.i64.wrap (Int.ofNat d.1 - (1 : Int))) && decide ((if (0 : Int) > IntKind.i64.wrap (Int.ofNat d.1 - (1 : Int)) then (0 : Int) else IntKind.i64.wrap (Int.ofNat d.1 - (1 : Int))) < (↑p.6 : Int))) (ifB (decide ((if (0 : Int) > IntKind.i64.wrap (Int.ofNat d.1 - (1 : Int)) then (0 : Int) else IntKind.i64.wrap (Int.ofNat d.1 - (1 : Int))).toNat < p.6) && true) (ops614 = ops614 ∧ ifB (decide ((p.7 (if (0 : Int) > IntKind.i64.wrap (Int.ofNat d.1 - (1 : Int)) then (0 : Int) else IntKind.i64.wrap (Int.ofNat d.1 - (1 : Int))).toNat).3 < (0 : Int)) == false) (ifB (decide (Int.ofNat d.1 < (↑p.6 : Int))) (ifB (decide (d.1 < p.6)) (ifB (decide ((p.7 d.1).2 < (p.7 (if (0 : Int) > IntKind.i64.wrap (Int.ofNat d.1 - (1 : Int)) then (0 : Int) else IntKind.i64.wrap (Int.ofNat d.1 - (1 : Int))).toNat).2) == false) (ifB (decide (Int.ofNat d.1 < (↑p.6 : Int))) (ifB (decide (d.1 < p.6)) (ifB (decide ((p.7 d.1).2 > (p.7 (if (0 : Int) > IntKind.i64.wrap (Int.ofNat d.1 - (1 : Int)) then (0 : Int) else IntKind.i64.wrap (Int.ofNat d.1 - (1 : Int))).toNat).3)) (Leaf False) (ifB (decide (Int.ofNat d.1 < (↑p.6 : Int))) (ifB (decide (d.1 < p.6)) (ifB ((p.7 d.1).2 == (p.7 (if (0 : Int) > IntKind.i64.wrap (Int.ofNat d.1 - (1 : Int)) then (0 : Int) else IntKind.i64.wrap (Int.ofNat d.1 - (1 : Int))).toNat).3) (Leaf (d.i < p.ln) ∧ Leaf (IntKind.i64.wrap (d.2 + (1 : Int)) = d.al + if (p.V d.i).since = (p.V (d.i - (1 : Nat))).next then (1 : Int) else (0 : Int)) ∧ (p.5 = p.5 ∧ t1loop_t0 ∧ t1loop_t0 ∧ p.4 = p.4 ∧ p.6 = p.6 ∧ p.8 = p.8 ∧ IntKind.i64.wrap (d.2 + (1 : Int)) = IntKind.i64.wrap (d.2 + (1 : Int)) ∧ Int.ofNat (d.1 + (1 : Nat)) = IntKind.i64.wrap (Int.ofNat (d.1 + (1 : Nat))) ∧ True) ∧ t1loop_t1 p) (lT2.code = lT2.code ∧ (lT2_J { p := p, i := d.1, al := d.2 : TiP } { k := (0 : Nat), f := false : TiD } ∧ t1loop_t2 p d) ∧ True ∧ ∀ (q : Bool), Leaf ((∃ (j : Nat), j < p.n ∧ (p.E j).at' = (p.V d.1).since) → q = true) → ifB (!q) (Leaf False) (Leaf (d.i < p.ln) ∧ Leaf (d.2 = d.al + if (p.V d.i).since = (p.V (d.i - (1 : Nat))).next then (1 : Int) else (0 : Int)) ∧ (p.5 = p.5 ∧ t1loop_t0 ∧ t1loop_t0 ∧ p.4 = p.4 ∧ p.6 = p.6 ∧ p.8 = p.8 ∧ d.2 = d.2 ∧ Int.ofNat (d.1 + (1 : Nat)) = IntKind.i64.wrap (Int.ofNat (d.1 + (1 : Nat))) ∧ True) ∧ t1loop_t1 p))) False) False)) False) False) (Leaf False)) False) False) (Leaf False)) False) False) (Leaf (p.ln ≤ d.i) ∧ t1loop_t3 p d)
theorem t1loop_eq (p : TlP) (d : TlD) : exec XT1 60 6 lT1.code (lT1.I p d) (zT1 p d) = t1loop_T p d := by kernel_rfl

theorem cntP_le (V : Nat → Sta) : ∀ m, cntP V m ≤ m
  | 0 => Nat.le_refl _
  | m + 1 => by
    have := cntP_le V m
    unfold cntP
    split <;> omega
set_option maxHeartbeats 4000000 in
theorem t1loop_step (p : TlP) (d : TlD) (hJ : lT1_J p d) : t1loop_T p d := by
  obtain ⟨⟨h0, h1⟩, h2, h3, h4, h5⟩ := hJ
  have hcl := cntP_le p.V (d.i - 1)
  have hw : IntKind.i64.wrap (Int.ofNat d.i - 1) = ((d.i - 1 : Nat) : Int) := by rw [IntKind.wrap_i64]; simp only [Int.ofNat_eq_natCast]; omega
  have hx : (if (0 : Int) > IntKind.i64.wrap (Int.ofNat d.i - 1) then (0 : Int) else IntKind.i64.wrap (Int.ofNat d.i - 1)) = ((d.i - 1 : Nat) : Int) := by
    rw [hw]; split <;> omega
  have hal : IntKind.i64.wrap (d.al + 1) = d.al + 1 := by rw [IntKind.wrap_i64]; omega
  have hl : d.i < p.ln → linked p.E p.n (p.V (d.i - 1)) (p.V d.i) := fun h => by
    have := h4 (d.i - 1) (by omega)
    rw [show d.i - 1 + 1 = d.i by omega] at this
    exact this
  unfold t1loop_T
  simp only [hx, hal, Int.toNat_natCast]
  repeat' (first | with_reducible refine ifB_split (fun _ => ?_) (fun _ => ?_) | with_reducible refine And.intro ?_ ?_)
  all_goals try first | with_reducible exact t1loop_t0_t | with_reducible exact t1loop_t1_t _ | with_reducible exact t1loop_t2_t _ _ | with_reducible exact t1loop_t3_t _ _ | with_reducible rfl | with_reducible exact trivial | with_reducible exact List.Perm.refl _
  all_goals try with_reducible refine fun (q : Bool) hq => ?_
  repeat' (first | with_reducible refine ifB_split (fun _ => ?_) (fun _ => ?_) | with_reducible refine And.intro ?_ ?_)
  all_goals try first | with_reducible exact t1loop_t0_t | with_reducible exact t1loop_t1_t _ | with_reducible exact t1loop_t2_t _ _ | with_reducible exact t1loop_t3_t _ _ | with_reducible rfl | with_reducible exact trivial | with_reducible exact List.Perm.refl _
  all_goals simp only [Leaf, Nat.zero_add, Int.ofNat_eq_natCast, decide_eq_true_eq, decide_eq_false_iff_not, beq_iff_eq, beq_eq_false_iff_ne, ne_eq, Bool.and_eq_true, Bool.not_eq_true', Bool.not_eq_true, Bool.not_eq_false', Bool.and_true, Int.natCast_inj, gt_iff_lt, Int.ofNat_lt, Int.ofNat_le, Bool.and_eq_false_iff] at *
  all_goals first
    | omega
    | (rw [wrapSmall (by omega) (by omega)]; done)
    | (exact ⟨Nat.zero_le _, h3, by assumption, h2, fun ⟨j, hj, _⟩ => absurd hj (Nat.not_lt_zero j)⟩)
    | (have hl := hl (by assumption); obtain ⟨l1, l2, l3, l4⟩ := hl; exfalso; omega)
    | (have hl := hl (by assumption); obtain ⟨l1, l2, l3, l4⟩ := hl; rw [if_pos (by assumption)]; done)
    | (have hl := hl (by assumption); obtain ⟨l1, l2, l3, l4⟩ := hl; rw [if_neg (by assumption)]; omega)
    | (have hl := hl (by assumption); obtain ⟨l1, l2, l3, l4⟩ := hl; have := hq (l4 (by assumption)); simp_all; done)
    | trace_state
set_option maxRecDepth 100000 in
theorem t1loop_ok : LoopOK XL.P lT1.code lT1.L := by
  refine lT1.ok XT1_ok 60 6 (fun p d => p.ln - d.i) zT1 (fun _ _ _ => trivial) (fun p d w q hw => ?_) (fun p d S' hJ h => ?_) (fun p d x S' hx hJ h => ?_) fun p d hJ => ?_
  · match w, hw with
    | 0, _ => exact trivial
  · unfold zT1 at h; dsimp only at h
    split at h <;> try exact h.elim
    rename_i al _
    obtain ⟨h1, h2, h3⟩ := h
    simp only [Leaf] at h1 h2
    obtain ⟨⟨j0, j1⟩, j2, j3, j4, j5⟩ := hJ
    refine ⟨_, ⟨d.i + 1, al⟩, ?_, ⟨⟨by show 1 ≤ d.i + 1; omega, h1⟩, j2, j3, j4, ?_⟩, h3⟩
    · show p.ln - (d.i + 1) < p.ln - d.i
      omega
    · show al = (cntP p.V (d.i + 1 - 1) : Int)
      rw [h2, j5, show d.i + 1 - 1 = (d.i - 1) + 1 by omega]
      have hc1 : cntP p.V (d.i - 1 + 1) = cntP p.V (d.i - 1) + if (p.V (d.i - 1 + 1)).since = (p.V (d.i - 1)).next then 1 else 0 := rfl
      rw [hc1, show d.i - 1 + 1 = d.i by omega]
      by_cases hc : (p.V d.i).since = (p.V (d.i - 1)).next
      · rw [if_pos hc, if_pos hc]; omega
      · rw [if_neg hc, if_neg hc]; omega
  · obtain ⟨⟨j0, j1⟩, j2, j3, j4, j5⟩ := hJ
    cases x with
    | normal => exact hx.elim
    | ret => exact (show False from h).elim
    | exit k =>
      obtain ⟨h0, h1, h2⟩ := gateB_spec h
      have h0 := Nat.eq_of_beq_eq_true h0
      subst h0
      simp only [Leaf] at h1
      have hi : d.i = p.ln := by omega
      exact ⟨0, d.al, _, Nat.lt_succ_self 0, by rw [hi] at j5; exact j5, rfl, h2⟩
  · rw [t1loop_eq]
    exact t1loop_step p d hJ
noncomputable def XT2 (r : Rul) (c : Clm) (E : Nat → Evt) (n : Nat) : Ctx := ((XH r c E n).sched 6 7 ops607 [16] l607).loop 6 11 lT1.code (lT1.by exT1)
theorem XT2_ok (r : Rul) (c : Clm) (E : Nat → Evt) (n : Nat) : (XT2 r c E n).OK := Ctx.loop_ok (Ctx.sched_ok (f := 6) (i := 7) (ops := ops607) (fs := [16]) (l := l607) (XH_ok r c E n) len607 cert607 (by kernel_rfl)) (t1loop_ok.by exT1)
end Go.Proofs.Ytmcidfecepknpaa

namespace Go.Proofs.Ytmcidfecepknpaa
open Go Go.Sh Go.Proofs
set_option linter.unusedVariables false
structure TwP where
  r : Rul
  c : Clm
  E : Nat → Evt
  n : Nat
  t : Int
  ln : Nat
  V : Nat → Sta
structure TwD where
  i : Nat
  w : Sta
def lT3_J (p : TwP) (d : TwD) : Prop := d.i ≤ p.ln ∧ p.ln ≤ 1000 ∧ d.w = wantL p.t (p.V 0) (Lst d.i p.V)
noncomputable def heapT3 (p : TwP) (w : Sta) : Heap := [none, none, some (.arr true p.n 3 45 fun i => (p.E i).cells), boxR p.r, boxC p.c, lineO p.ln p.V, none, some (.arr true 1 3 39 fun _ => w.cells)]
noncomputable def lT3 : LSpec TwP TwD Sta where
  code := loopOf Try.prog 6 30
  N := 8
  I := fun p d => blank 238 [(1, iv p.t), (6, .ptr 3 0 0), (7, .ptr 4 0 0), (8, .osl 2 p.n), (9, .osl 5 p.ln), (18, .ptr 7 0 0), (19, iv d.i)] (heapT3 p d.w)
  J := lT3_J
  ways := 1
  E := fun w p d => (.exit 4, blank 238 [(1, iv p.t), (6, .ptr 3 0 0), (7, .ptr 4 0 0), (8, .osl 2 p.n), (18, .ptr 7 0 0)] (heapT3 p d))
  JE := fun w p d => Leaf (d = wantL p.t (p.V 0) (Lst p.ln p.V))
noncomputable def zT3 (p : TwP) (d : TwD) : KX := fun x S' => match x with
  | .normal => match arrOf S'.heap 7 with
    | some (_, g) => Leaf (d.i < p.ln) ∧ Leaf (Sta.ofC (g 0) = if (p.V d.i).since ≤ p.t then p.V d.i else d.w) ∧ Wk 8 [] (lT3.I p ⟨d.i + 1, Sta.ofC (g 0)⟩) S'
    | _ => False
  | .exit j => gateB (Nat.beq j 4) (Leaf (p.ln ≤ d.i) ∧ Wk 8 [] (lT3.E 0 p d.w).2 S')
  | .ret => Leaf False
def exT3 (S : SS) : Option (TwP × TwD × Ren) := match S.get 1, arrOf S.heap 2, arrOf S.heap 3, arrOf S.heap 4, arrOf S.heap 5, arrOf S.heap 7 with
  | .int _ b, some (n, E), some (_, rr), some (_, cc), some (ln, V), some (_, w) => match rr 0, cc 0 with
    | [.int _ r1, .int _ r2, .int _ r3, .int _ r4], [.int _ c1, .int _ c2, .int _ c3, .int _ c4, .int _ c5, .bool c6] =>
      some (⟨⟨r1, r2, r3, r4⟩, ⟨c1, c2, c3, c4, c5, c6⟩, fun i => Evt.of (E i), n, b, ln, fun i => Sta.ofC (V i)⟩, ⟨0, Sta.ofC (w 0)⟩, [])
    | _, _ => none
  | _, _, _, _, _, _ => none
end Go.Proofs.Ytmcidfecepknpaa

namespace Go.Proofs.Ytmcidfecepknpaa
open Go Go.Sh Go.Proofs
set_option linter.unusedVariables false
set_option linter.unusedSimpArgs false
def t3loop_t0 : Prop :=
  (0 : Nat) = (0 : Nat) ∧ (0 : Nat) = (0 : Nat)
theorem t3loop_t0_t : t3loop_t0 :=
  ⟨rfl, rfl⟩
def t3loop_t1 (p : TwP) (d : TwD) : Prop :=
  (p.4 = p.4 ∧ ∀ (i : Nat), i < p.n → (p.3 i).1 = (p.3 i).1 ∧ (p.3 i).2 = (p.3 i).2 ∧ (p.3 i).3 = (p.3 i).3 ∧ True) ∧ ((1 : Nat) = (1 : Nat) ∧ ∀ (i : Nat), i < (1 : Nat) → p.1.1 = p.1.1 ∧ p.1.2 = p.1.2 ∧ p.1.3 = p.1.3 ∧ p.1.4 = p.1.4 ∧ True) ∧ ((1 : Nat) = (1 : Nat) ∧ ∀ (i : Nat), i < (1 : Nat) → p.2.1 = p.2.1 ∧ p.2.2 = p.2.2 ∧ p.2.3 = p.2.3 ∧ p.2.4 = p.2.4 ∧ p.2.5 = p.2.5 ∧ p.2.6 = p.2.6 ∧ True) ∧ (p.6 = p.6 ∧ ∀ (i : Nat), i < p.ln → (p.7 i).1 = (p.7 i).1 ∧ (p.7 i).2 = (p.7 i).2 ∧ (p.7 i).3 = (p.7 i).3 ∧ True) ∧ ((1 : Nat) = (1 : Nat) ∧ ∀ (i : Nat), i < (1 : Nat) → (p.7 d.1).1 = (p.7 d.1).1 ∧ (p.7 d.1).2 = (p.7 d.1).2 ∧ (p.7 d.1).3 = (p.7 d.1).3 ∧ True) ∧ True
theorem t3loop_t1_t (p : TwP) (d : TwD) : t3loop_t1 p d :=
  ⟨⟨rfl, (fun _ => (fun _ => ⟨rfl, ⟨rfl, ⟨rfl, trivial⟩⟩⟩))⟩, ⟨⟨rfl, (fun _ => (fun _ => ⟨rfl, ⟨rfl, ⟨rfl, ⟨rfl, trivial⟩⟩⟩⟩))⟩, ⟨⟨rfl, (fun _ => (fun _ => ⟨rfl, ⟨rfl, ⟨rfl, ⟨rfl, ⟨rfl, ⟨rfl, trivial⟩⟩⟩⟩⟩⟩))⟩, ⟨⟨rfl, (fun _ => (fun _ => ⟨rfl, ⟨rfl, ⟨rfl, trivial⟩⟩⟩))⟩, ⟨⟨rfl, (fun _ => (fun _ => ⟨rfl, ⟨rfl, ⟨rfl, trivial⟩⟩⟩))⟩, trivial⟩⟩⟩⟩⟩
def t3loop_t2 (p : TwP) (d : TwD) : Prop :=
  (p.4 = p.4 ∧ ∀ (i : Nat), i < p.n → (p.3 i).1 = (p.3 i).1 ∧ (p.3 i).2 = (p.3 i).2 ∧ (p.3 i).3 = (p.3 i).3 ∧ True) ∧ ((1 : Nat) = (1 : Nat) ∧ ∀ (i : Nat), i < (1 : Nat) → p.1.1 = p.1.1 ∧ p.1.2 = p.1.2 ∧ p.1.3 = p.1.3 ∧ p.1.4 = p.1.4 ∧ True) ∧ ((1 : Nat) = (1 : Nat) ∧ ∀ (i : Nat), i < (1 : Nat) → p.2.1 = p.2.1 ∧ p.2.2 = p.2.2 ∧ p.2.3 = p.2.3 ∧ p.2.4 = p.2.4 ∧ p.2.5 = p.2.5 ∧ p.2.6 = p.2.6 ∧ True) ∧ (p.6 = p.6 ∧ ∀ (i : Nat), i < p.ln → (p.7 i).1 = (p.7 i).1 ∧ (p.7 i).2 = (p.7 i).2 ∧ (p.7 i).3 = (p.7 i).3 ∧ True) ∧ ((1 : Nat) = (1 : Nat) ∧ ∀ (i : Nat), i < (1 : Nat) → d.2.1 = d.2.1 ∧ d.2.2 = d.2.2 ∧ d.2.3 = d.2.3 ∧ True) ∧ True
theorem t3loop_t2_t (p : TwP) (d : TwD) : t3loop_t2 p d :=
  ⟨⟨rfl, (fun _ => (fun _ => ⟨rfl, ⟨rfl, ⟨rfl, trivial⟩⟩⟩))⟩, ⟨⟨rfl, (fun _ => (fun _ => ⟨rfl, ⟨rfl, ⟨rfl, ⟨rfl, trivial⟩⟩⟩⟩))⟩, ⟨⟨rfl, (fun _ => (fun _ => ⟨rfl, ⟨rfl, ⟨rfl, ⟨rfl, ⟨rfl, ⟨rfl, trivial⟩⟩⟩⟩⟩⟩))⟩, ⟨⟨rfl, (fun _ => (fun _ => ⟨rfl, ⟨rfl, ⟨rfl, trivial⟩⟩⟩))⟩, ⟨⟨rfl, (fun _ => (fun _ => ⟨rfl, ⟨rfl, ⟨rfl, trivial⟩⟩⟩))⟩, trivial⟩⟩⟩⟩⟩
def t3loop_t3 (p : TwP) (d : TwD) : Prop :=
  (p.5 = p.5 ∧ ((0 : Nat) = (0 : Nat) ∧ (0 : Nat) = (0 : Nat)) ∧ ((0 : Nat) = (0 : Nat) ∧ (0 : Nat) = (0 : Nat)) ∧ p.4 = p.4 ∧ ((0 : Nat) = (0 : Nat) ∧ (0 : Nat) = (0 : Nat)) ∧ True) ∧ (p.4 = p.4 ∧ ∀ (i : Nat), i < p.n → (p.3 i).1 = (p.3 i).1 ∧ (p.3 i).2 = (p.3 i).2 ∧ (p.3 i).3 = (p.3 i).3 ∧ True) ∧ ((1 : Nat) = (1 : Nat) ∧ ∀ (i : Nat), i < (1 : Nat) → p.1.1 = p.1.1 ∧ p.1.2 = p.1.2 ∧ p.1.3 = p.1.3 ∧ p.1.4 = p.1.4 ∧ True) ∧ ((1 : Nat) = (1 : Nat) ∧ ∀ (i : Nat), i < (1 : Nat) → p.2.1 = p.2.1 ∧ p.2.2 = p.2.2 ∧ p.2.3 = p.2.3 ∧ p.2.4 = p.2.4 ∧ p.2.5 = p.2.5 ∧ p.2.6 = p.2.6 ∧ True) ∧ (p.6 = p.6 ∧ ∀ (i : Nat), i < p.ln → (p.7 i).1 = (p.7 i).1 ∧ (p.7 i).2 = (p.7 i).2 ∧ (p.7 i).3 = (p.7 i).3 ∧ True) ∧ ((1 : Nat) = (1 : Nat) ∧ ∀ (i : Nat), i < (1 : Nat) → d.2.1 = d.2.1 ∧ d.2.2 = d.2.2 ∧ d.2.3 = d.2.3 ∧ True) ∧ True
theorem t3loop_t3_t (p : TwP) (d : TwD) : t3loop_t3 p d :=
  ⟨⟨rfl, ⟨⟨rfl, rfl⟩, ⟨⟨rfl, rfl⟩, ⟨rfl, ⟨⟨rfl, rfl⟩, trivial⟩⟩⟩⟩⟩, ⟨⟨rfl, (fun _ => (fun _ => ⟨rfl, ⟨rfl, ⟨rfl, trivial⟩⟩⟩))⟩, ⟨⟨rfl, (fun _ => (fun _ => ⟨rfl, ⟨rfl, ⟨rfl, ⟨rfl, trivial⟩⟩⟩⟩))⟩, ⟨⟨rfl, (fun _ => (fun _ => ⟨rfl, ⟨rfl, ⟨rfl, ⟨rfl, ⟨rfl, ⟨rfl, trivial⟩⟩⟩⟩⟩⟩))⟩, ⟨⟨rfl, (fun _ => (fun _ => ⟨rfl, ⟨rfl, ⟨rfl, trivial⟩⟩⟩))⟩, ⟨⟨rfl, (fun _ => (fun _ => ⟨rfl, ⟨rfl, ⟨rfl, trivial⟩⟩⟩))⟩, trivial⟩⟩⟩⟩⟩⟩
def t3loop_T (p : TwP) (d : TwD) : Prop :=
  ifB (decide (Int.ofNat d.1 < Int.ofNat p.6)) (ifB (decide (Int.ofNat d.1 < (↑p.6 : Int))) (ifB (decide (d.1 < p.6)) (ifB (decide ((p.7 d.1).2 ≤ p.5)) (ifB (decide (Int.ofNat d.1 < (↑p.6 : Int))) (ifB (decide (d.1 < p.6) && true) (Leaf (d.i < p.ln) ∧ Leaf (Sta.ofC [SV.int IntKind.i64 (p.7 d.1).1, SV.int IntKind.i64 (p.7 d.1).2, SV.int IntKind.i64 (p.7 d.1).3] = if (p.V d.i).since ≤ p.t then p.V d.i else d.w) ∧ (p.5 = p.5 ∧ t3loop_t0 ∧ t3loop_t0 ∧ p.4 = p.4 ∧ p.6 = p.6 ∧ t3loop_t0 ∧ Int.ofNat (d.1 + (1 : Nat)) = IntKind.i64.wrap (Int.ofNat (d.1 + (1 : Nat))) ∧ True) ∧ t3loop_t1 p d) False) False) (Leaf (d.i < p.ln) ∧ Leaf (Sta.ofC [SV.int IntKind.i64 d.2.1, SV.int IntKind.i64 d.2.2, SV.int IntKind.i64 d.2.3] = if (p.V d.i).since ≤ p.t then p.V d.i else d.w) ∧ (p.5 = p.5 ∧ t3loop_t0 ∧ t3loop_t0 ∧ p.4 = p.4 ∧ p.6 = p.6 ∧ t3loop_t0 ∧ Int.ofNat (d.1 + (1 : Nat)) = IntKind.i64.wrap (Int.ofNat (d.1 + (1 : Nat))) ∧ True) ∧ t3loop_t2 p d)) False) False) (Leaf (p.ln ≤ d.i) ∧ t3loop_t3 p d)
theorem t3loop_eq (p : TwP) (d : TwD) : exec XL 60 6 lT3.code (lT3.I p d) (zT3 p d) = t3loop_T p d := by kernel_rfl

theorem t3loop_step (p : TwP) (d : TwD) (hJ : lT3_J p d) : t3loop_T p d := by
  obtain ⟨h1, h2, h3⟩ := hJ
  unfold t3loop_T
  repeat' (first | with_reducible refine ifB_split (fun _ => ?_) (fun _ => ?_) | with_reducible refine And.intro ?_ ?_)
  all_goals try first | with_reducible exact t3loop_t0_t | with_reducible exact t3loop_t1_t _ _ | with_reducible exact t3loop_t2_t _ _ | with_reducible exact t3loop_t3_t _ _ | with_reducible rfl | with_reducible exact trivial | with_reducible exact List.Perm.refl _
  all_goals simp only [Leaf, Nat.zero_add, Int.ofNat_eq_natCast, decide_eq_true_eq, decide_eq_false_iff_not, beq_iff_eq, beq_eq_false_iff_ne, ne_eq, Bool.and_eq_true, Bool.not_eq_true', Bool.not_eq_true, Bool.not_eq_false', Bool.and_true, Int.natCast_inj, gt_iff_lt, Int.ofNat_lt, Int.ofNat_le, Bool.and_eq_false_iff] at *
  all_goals first
    | omega
    | (rw [wrapSmall (by omega) (by omega)]; done)
    | (rw [if_pos (by assumption)]; rfl)
    | (rw [if_neg (by assumption)]; rfl)
    | trace_state
set_option maxRecDepth 100000 in
theorem t3loop_ok : LoopOK XL.P lT3.code lT3.L := by
  refine lT3.ok XL_ok 60 6 (fun p d => p.ln - d.i) zT3 (fun _ _ _ => trivial) (fun p d w q hw => ?_) (fun p d S' hJ h => ?_) (fun p d x S' hx hJ h => ?_) fun p d hJ => ?_
  · match w, hw with
    | 0, _ => exact trivial
  · unfold zT3 at h; dsimp only at h
    split at h <;> try exact h.elim
    rename_i m g _
    obtain ⟨h1, h2, h3⟩ := h
    simp only [Leaf] at h1 h2
    obtain ⟨j1, j2, j3⟩ := hJ
    refine ⟨_, ⟨d.i + 1, Sta.ofC (g 0)⟩, ?_, ⟨h1, j2, ?_⟩, h3⟩
    · show p.ln - (d.i + 1) < p.ln - d.i
      omega
    · show Sta.ofC (g 0) = wantL p.t (p.V 0) (Lst (d.i + 1) p.V)
      rw [Lst_snoc (V := p.V) (W := p.V) (fun _ _ => rfl), wantL_append, ← j3, h2]
      rfl
  · obtain ⟨j1, j2, j3⟩ := hJ
    cases x with
    | normal => exact hx.elim
    | ret => exact (show False from h).elim
    | exit k =>
      obtain ⟨h0, h1, h2⟩ := gateB_spec h
      have h0 := Nat.eq_of_beq_eq_true h0
      subst h0
      simp only [Leaf] at h1
      have hi : d.i = p.ln := by omega
      exact ⟨0, d.w, _, Nat.lt_succ_self 0, by rw [hi] at j3; exact j3, rfl, h2⟩
  · rw [t3loop_eq]
    exact t3loop_step p d hJ
noncomputable def XT3 (r : Rul) (c : Clm) (E : Nat → Evt) (n : Nat) : Ctx := (XT2 r c E n).loop 6 30 lT3.code (lT3.by exT3)
theorem XT3_ok (r : Rul) (c : Clm) (E : Nat → Evt) (n : Nat) : (XT3 r c E n).OK := Ctx.loop_ok (XT2_ok r c E n) (t3loop_ok.by exT3)
end Go.Proofs.Ytmcidfecepknpaa

namespace Go.Proofs.Ytmcidfecepknpaa
open Go Go.Sh Go.Proofs
set_option linter.unusedVariables false
set_option linter.unusedSimpArgs false
def l1loop_t0 : Prop :=
  (0 : Nat) = (0 : Nat) ∧ (0 : Nat) = (0 : Nat)
theorem l1loop_t0_t : l1loop_t0 :=
  ⟨rfl, rfl⟩
def l1loop_t1 (p : LaP) (d : LaD) : Prop :=
  (p.4 = p.4 ∧ ∀ (i : Nat), i < p.n → (p.3 i).1 = (p.3 i).1 ∧ (p.3 i).2 = (p.3 i).2 ∧ (p.3 i).3 = (p.3 i).3 ∧ True) ∧ ((1 : Nat) = (1 : Nat) ∧ ∀ (i : Nat), i < (1 : Nat) → p.1.1 = p.1.1 ∧ p.1.2 = p.1.2 ∧ p.1.3 = p.1.3 ∧ p.1.4 = p.1.4 ∧ True) ∧ ((1 : Nat) = (1 : Nat) ∧ ∀ (i : Nat), i < (1 : Nat) → p.2.1 = p.2.1 ∧ p.2.2 = p.2.2 ∧ p.2.3 = p.2.3 ∧ p.2.4 = p.2.4 ∧ p.2.5 = p.2.5 ∧ p.2.6 = p.2.6 ∧ True) ∧ (d.2 + (1 : Nat) = d.2 + (1 : Nat) ∧ ∀ (i : Nat), i < d.2 + (1 : Nat) → ((bif decide (i < d.2) then (d.3 i).1 else (p.3 d.1).1) = bif decide (i < d.2) then (d.3 i).1 else (p.3 d.1).1) ∧ ((bif decide (i < d.2) then (d.3 i).2 else (p.3 d.1).2) = bif decide (i < d.2) then (d.3 i).2 else (p.3 d.1).2) ∧ ((bif decide (i < d.2) then (d.3 i).3 else (p.3 d.1).3) = bif decide (i < d.2) then (d.3 i).3 else (p.3 d.1).3) ∧ True) ∧ True
theorem l1loop_t1_t (p : LaP) (d : LaD) : l1loop_t1 p d :=
  ⟨⟨rfl, (fun _ => (fun _ => ⟨rfl, ⟨rfl, ⟨rfl, trivial⟩⟩⟩))⟩, ⟨⟨rfl, (fun _ => (fun _ => ⟨rfl, ⟨rfl, ⟨rfl, ⟨rfl, trivial⟩⟩⟩⟩))⟩, ⟨⟨rfl, (fun _ => (fun _ => ⟨rfl, ⟨rfl, ⟨rfl, ⟨rfl, ⟨rfl, ⟨rfl, trivial⟩⟩⟩⟩⟩⟩))⟩, ⟨⟨rfl, (fun _ => (fun _ => ⟨rfl, ⟨rfl, ⟨rfl, trivial⟩⟩⟩))⟩, trivial⟩⟩⟩⟩
def l1loop_t2 (p : LaP) (d : LaD) : Prop :=
  (p.4 = p.4 ∧ ∀ (i : Nat), i < p.n → (p.3 i).1 = (p.3 i).1 ∧ (p.3 i).2 = (p.3 i).2 ∧ (p.3 i).3 = (p.3 i).3 ∧ True) ∧ ((1 : Nat) = (1 : Nat) ∧ ∀ (i : Nat), i < (1 : Nat) → p.1.1 = p.1.1 ∧ p.1.2 = p.1.2 ∧ p.1.3 = p.1.3 ∧ p.1.4 = p.1.4 ∧ True) ∧ ((1 : Nat) = (1 : Nat) ∧ ∀ (i : Nat), i < (1 : Nat) → p.2.1 = p.2.1 ∧ p.2.2 = p.2.2 ∧ p.2.3 = p.2.3 ∧ p.2.4 = p.2.4 ∧ p.2.5 = p.2.5 ∧ p.2.6 = p.2.6 ∧ True) ∧ (d.2 = d.2 ∧ ∀ (i : Nat), i < d.2 → (d.3 i).1 = (d.3 i).1 ∧ (d.3 i).2 = (d.3 i).2 ∧ (d.3 i).3 = (d.3 i).3 ∧ True) ∧ True
theorem l1loop_t2_t (p : LaP) (d : LaD) : l1loop_t2 p d :=
  ⟨⟨rfl, (fun _ => (fun _ => ⟨rfl, ⟨rfl, ⟨rfl, trivial⟩⟩⟩))⟩, ⟨⟨rfl, (fun _ => (fun _ => ⟨rfl, ⟨rfl, ⟨rfl, ⟨rfl, trivial⟩⟩⟩⟩))⟩, ⟨⟨rfl, (fun _ => (fun _ => ⟨rfl, ⟨rfl, ⟨rfl, ⟨rfl, ⟨rfl, ⟨rfl, trivial⟩⟩⟩⟩⟩⟩))⟩, ⟨⟨rfl, (fun _ => (fun _ => ⟨rfl, ⟨rfl, ⟨rfl, trivial⟩⟩⟩))⟩, trivial⟩⟩⟩⟩
def l1loop_t3 (p : LaP) (d : LaD) : Prop :=
  (p.5 = p.5 ∧ true = true ∧ ((0 : Nat) = (0 : Nat) ∧ (0 : Nat) = (0 : Nat)) ∧ ((0 : Nat) = (0 : Nat) ∧ (0 : Nat) = (0 : Nat)) ∧ p.4 = p.4 ∧ d.2 = d.2 ∧ True) ∧ (p.4 = p.4 ∧ ∀ (i : Nat), i < p.n → (p.3 i).1 = (p.3 i).1 ∧ (p.3 i).2 = (p.3 i).2 ∧ (p.3 i).3 = (p.3 i).3 ∧ True) ∧ ((1 : Nat) = (1 : Nat) ∧ ∀ (i : Nat), i < (1 : Nat) → p.1.1 = p.1.1 ∧ p.1.2 = p.1.2 ∧ p.1.3 = p.1.3 ∧ p.1.4 = p.1.4 ∧ True) ∧ ((1 : Nat) = (1 : Nat) ∧ ∀ (i : Nat), i < (1 : Nat) → p.2.1 = p.2.1 ∧ p.2.2 = p.2.2 ∧ p.2.3 = p.2.3 ∧ p.2.4 = p.2.4 ∧ p.2.5 = p.2.5 ∧ p.2.6 = p.2.6 ∧ True) ∧ (d.2 = d.2 ∧ ∀ (i : Nat), i < d.k → (d.3 i).1 = (d.3 i).1 ∧ (d.3 i).2 = (d.3 i).2 ∧ (d.3 i).3 = (d.3 i).3 ∧ True) ∧ True
theorem l1loop_t3_t (p : LaP) (d : LaD) : l1loop_t3 p d :=
  ⟨⟨rfl, ⟨rfl, ⟨⟨rfl, rfl⟩, ⟨⟨rfl, rfl⟩, ⟨rfl, ⟨rfl, trivial⟩⟩⟩⟩⟩⟩, ⟨⟨rfl, (fun _ => (fun _ => ⟨rfl, ⟨rfl, ⟨rfl, trivial⟩⟩⟩))⟩, ⟨⟨rfl, (fun _ => (fun _ => ⟨rfl, ⟨rfl, ⟨rfl, ⟨rfl, trivial⟩⟩⟩⟩))⟩, ⟨⟨rfl, (fun _ => (fun _ => ⟨rfl, ⟨rfl, ⟨rfl, ⟨rfl, ⟨rfl, ⟨rfl, trivial⟩⟩⟩⟩⟩⟩))⟩, ⟨⟨rfl, (fun _ => (fun _ => ⟨rfl, ⟨rfl, ⟨rfl, trivial⟩⟩⟩))⟩, trivial⟩⟩⟩⟩⟩
def l1loop_T (p : LaP) (d : LaD) : Prop :=
  ifB (decide (Int.ofNat d.1 < Int.ofNat p.4)) (ifB (decide (Int.ofNat d.1 < (↑p.4 : Int))) (ifB (decide (d.1 < p.4)) (ifB (decide ((p.3 d.1).2 ≤ p.5)) (ifB (decide (Int.ofNat d.1 < (↑p.4 : Int))) (ifB (decide (d.1 < p.4) && true) (ifB (decide (d.2 ≤ d.2) && decide ((d.2 + (1 : Nat)) * (24 : Nat) ≤ (140737488355328 : Nat))) (Leaf (d.i < p.n) ∧ Leaf ((p.E d.i).at' ≤ p.t ∧ d.2 + (1 : Nat) = d.k + (1 : Nat) ∧ (fun (i : Nat) => { kind := bif decide (i < d.2) then (d.3 i).1 else (p.3 d.1).1, at' := bif decide (i < d.2) then (d.3 i).2 else (p.3 d.1).2, reason := bif decide (i < d.2) then (d.3 i).3 else (p.3 d.1).3 : Evt }) = addE d.F d.k (p.E d.i) ∨ p.t < (p.E d.i).at' ∧ d.2 + (1 : Nat) = d.k ∧ (fun (i : Nat) => { kind := bif decide (i < d.2) then (d.3 i).1 else (p.3 d.1).1, at' := bif decide (i < d.2) then (d.3 i).2 else (p.3 d.1).2, reason := bif decide (i < d.2) then (d.3 i).3 else (p.3 d.1).3 : Evt }) = d.F) ∧ (p.5 = p.5 ∧ true = true ∧ l1loop_t0 ∧ l1loop_t0 ∧ p.4 = p.4 ∧ d.2 + (1 : Nat) = d.2 + (1 : Nat) ∧ Int.ofNat (d.1 + (1 : Nat)) = IntKind.i64.wrap (Int.ofNat (d.1 + (1 : Nat))) ∧ True) ∧ l1loop_t1 p d) False) False) False) (Leaf (d.i < p.n) ∧ Leaf ((p.E d.i).at' ≤ p.t ∧ d.2 = d.k + (1 : Nat) ∧ d.3 = addE d.F d.k (p.E d.i) ∨ p.t < (p.E d.i).at' ∧ d.2 = d.k ∧ d.3 = d.F) ∧ (p.5 = p.5 ∧ true = true ∧ l1loop_t0 ∧ l1loop_t0 ∧ p.4 = p.4 ∧ d.2 = d.2 ∧ Int.ofNat (d.1 + (1 : Nat)) = IntKind.i64.wrap (Int.ofNat (d.1 + (1 : Nat))) ∧ True) ∧ l1loop_t2 p d)) False) False) (Leaf (p.n ≤ d.i) ∧ l1loop_t3 p d)
theorem l1loop_eq (p : LaP) (d : LaD) : exec XL 60 5 lL1.code (lL1.I p d) (zL1 p d) = l1loop_T p d := by kernel_rfl

theorem l1loop_step (p : LaP) (d : LaD) (hJ : lL1_J p d) : l1loop_T p d := by
  obtain ⟨h1, h2, h3, h4, h5, h6, h7⟩ := hJ
  unfold l1loop_T
  repeat' (first | with_reducible refine ifB_split (fun _ => ?_) (fun _ => ?_) | with_reducible refine And.intro ?_ ?_)
  all_goals try first | with_reducible exact l1loop_t0_t | with_reducible exact l1loop_t1_t _ _ | with_reducible exact l1loop_t2_t _ _ | with_reducible exact l1loop_t3_t _ _ | with_reducible rfl | with_reducible exact trivial | with_reducible exact List.Perm.refl _
  all_goals simp only [Leaf, Nat.zero_add, Int.ofNat_eq_natCast, decide_eq_true_eq, decide_eq_false_iff_not, Bool.and_eq_true, Bool.not_eq_true', Bool.not_eq_true, Bool.not_eq_false', Bool.and_true, Int.natCast_inj, gt_iff_lt, Int.ofNat_lt, Int.ofNat_le, Bool.and_eq_false_iff] at *
  all_goals first
    | omega
    | (rw [wrapSmall (by omega) (by omega)]; done)
    | exact .inl ⟨by omega, by first | rfl | trivial, by first | rfl | trivial⟩
    | exact .inr ⟨by omega, by first | rfl | trivial, by first | rfl | trivial⟩
    | trace_state
set_option maxRecDepth 100000 in
theorem l1loop_ok : LoopOK XL.P lL1.code lL1.L := by
  refine lL1.ok XL_ok 60 5 (fun p d => p.n - d.i) zL1 (fun _ _ _ => trivial) (fun p d w q hw => ?_) (fun p d S' hJ h => ?_) (fun p d x S' hx hJ h => ?_) fun p d hJ => ?_
  · match w, hw with
    | 0, _ => exact trivial
  · unfold zL1 at h; dsimp only at h
    split at h <;> try exact h.elim
    rename_i lo k F _
    obtain ⟨h1, h2, h3⟩ := h
    simp only [Leaf] at h1 h2
    obtain ⟨j1, j2, j3, j4, j5, j6, j7⟩ := hJ
    refine ⟨_, ⟨d.i + 1, k, F⟩, ?_, ?_, h3⟩
    · show p.n - (d.i + 1) < p.n - d.i
      omega
    · have hev := ((CP.ok_iff _).1 j3.ok).2.2.2
      rcases h2 with ⟨h2, rfl, rfl⟩ | ⟨h2, rfl, rfl⟩
      · have hk : d.k = d.i := by
          rcases Nat.lt_or_ge d.k d.i with hlt | hge
          · have h7 := j7 hlt
            have := at_mono hev (k := d.k) (d.i - d.k) (by show _ < p.n; omega)
            rw [show d.k + (d.i - d.k) = d.i by omega] at this
            have this : (p.E d.k).at' ≤ (p.E d.i).at' := this
            omega
          · omega
        refine ⟨h1, j2, j3, (by show d.k + 1 ≤ d.i + 1; omega), fun j hj => ?_, fun j hj => ?_, fun hj => ?_⟩
        · show addE d.F d.k (p.E d.i) j = p.E j
          rcases Nat.lt_succ_iff_lt_or_eq.1 (show j < d.k + 1 from hj) with hj | rfl
          · rw [addE_lt hj]; exact j5 j hj
          · rw [addE_self, hk]
        · rcases Nat.lt_succ_iff_lt_or_eq.1 (show j < d.k + 1 from hj) with hj | rfl
          · exact j6 j hj
          · rw [hk]; exact h2
        · have hj : d.k + 1 < d.i + 1 := hj
          omega
      · refine ⟨h1, j2, j3, (by show d.k ≤ d.i + 1; omega), j5, j6, fun hj => ?_⟩
        have hj : d.k < d.i + 1 := hj
        rcases Nat.lt_or_ge d.k d.i with hlt | hge
        · exact j7 hlt
        · show p.t < (p.E d.k).at'
          rw [show d.k = d.i by omega]; exact h2
  · obtain ⟨j1, j2, j3, j4, j5, j6, j7⟩ := hJ
    cases x with
    | normal => exact hx.elim
    | ret => exact h.elim
    | exit k =>
      obtain ⟨h0, h1, h2⟩ := gateB_spec h
      have h0 := Nat.eq_of_beq_eq_true h0
      subst h0
      simp only [Leaf] at h1
      have hi : d.i = p.n := by omega
      refine ⟨0, d, _, Nat.lt_succ_self 0, ⟨?_, j5⟩, rfl, h2⟩
      refine (stopN_eq (by omega) j6 ?_).symm
      rcases Nat.lt_or_ge d.k d.i with hlt | hge
      · exact .inr (j7 hlt)
      · exact .inl (by omega)
  · rw [l1loop_eq]
    exact l1loop_step p d hJ
noncomputable def XLa0 (r : Rul) (c : Clm) (E : Nat → Evt) (n : Nat) : Ctx := (XH r c E n).loop 5 9 lL1.code (lL1.by exL1)
theorem XLa0_ok (r : Rul) (c : Clm) (E : Nat → Evt) (n : Nat) : (XLa0 r c E n).OK := Ctx.loop_ok (XH_ok r c E n) (l1loop_ok.by exL1)
end Go.Proofs.Ytmcidfecepknpaa

namespace Go.Proofs.Ytmcidfecepknpaa
open Go Go.Sh Go.Proofs
set_option linter.unusedVariables false
/-! ### ClaimLater: the events that are not void -/
structure LbP where
  r : Rul
  c : Clm
  E : Nat → Evt
  n : Nat
  vn : Nat
  V : Nat → Int
structure LbD where
  i : Nat
  k : Int
  m : Nat
  F : Nat → Evt
def vcnt (p : LbP) (i : Nat) : Nat := (voids p.r p.c p.E (begins p.r 1 p.c.asked) i).length
def lL2_J (p : LbP) (d : LbD) : Prop := d.i ≤ p.n ∧ p.n ≤ 10 ∧ Good p.r p.c p.E p.n ∧ (p.vn = (voidL ⟨p.r, p.c, p.E, p.n⟩).length ∧ ∀ j, j < p.vn → p.V j = (voidL ⟨p.r, p.c, p.E, p.n⟩).getD j 0) ∧ d.k = (vcnt p d.i : Int) ∧ Kept p.r p.c p.E d.i (vcnt p d.i) d.m d.F
noncomputable def heapL2 (p : LbP) (d : LbD) : Heap := [none, none, some (.arr true p.n 3 45 fun i => (p.E i).cells), boxR p.r, boxC p.c, none, none, none, some (.arr true p.vn 1 3 fun i => [iv (p.V i)]), some (.arr true d.m 3 45 fun i => (d.F i).cells)]
noncomputable def lL2 : LSpec LbP LbD LbD where
  code := loopOf Try.prog 5 21
  N := 9
  I := fun p d => blank 175 [(6, .ptr 3 0 0), (7, .ptr 4 0 0), (8, .osl 2 p.n), (15, .osl 8 p.vn), (17, .osl 9 d.m), (18, iv d.k), (19, iv d.i)] (heapL2 p d)
  J := lL2_J
  ways := 1
  E := fun w p d => (.exit 2, blank 175 [(6, .ptr 3 0 0), (7, .ptr 4 0 0), (8, .osl 2 p.n), (15, .osl 8 p.vn), (17, .osl 9 d.m), (18, iv d.k)] (heapL2 p d))
  JE := fun w p d => Leaf (d.k = (vcnt p p.n : Int) ∧ Kept p.r p.c p.E p.n (vcnt p p.n) d.m d.F)
noncomputable def zL2 (p : LbP) (d : LbD) : KX := fun x S' => match x with
  | .normal => match evsAt S'.heap (S'.get 17), S'.get 18 with
    | some (lo, m, F), .int _ k => Leaf (d.i < p.n) ∧ Leaf ((d.k < p.vn ∧ p.V d.k.toNat = d.i ∧ k = d.k + 1 ∧ m = d.m ∧ F = d.F) ∨ (¬ (d.k < p.vn ∧ p.V d.k.toNat = d.i) ∧ k = d.k ∧ m = d.m + 1 ∧ F = addE d.F d.m (p.E d.i))) ∧ Wk 9 [some lo] (lL2.I p ⟨d.i + 1, k, m, F⟩) S'
    | _, _ => False
  | .exit j => gateB (Nat.beq j 2) (Leaf (p.n ≤ d.i) ∧ Wk 9 [some 9] (lL2.E 0 p d).2 S')
  | .ret => False
def exL2 (S : SS) : Option (LbP × LbD × Ren) := match arrOf S.heap 8, arrOf S.heap 2, arrOf S.heap 3, arrOf S.heap 4 with
  | some (vn, V), some (n, E), some (_, rr), some (_, cc) => match rr 0, cc 0 with
    | [.int _ r1, .int _ r2, .int _ r3, .int _ r4], [.int _ c1, .int _ c2, .int _ c3, .int _ c4, .int _ c5, .bool c6] =>
      some (⟨⟨r1, r2, r3, r4⟩, ⟨c1, c2, c3, c4, c5, c6⟩, fun i => Evt.of (E i), n, vn, fun i => intOf (V i)⟩, ⟨0, 0, 0, fun _ => ⟨0, 0, 0⟩⟩, [none])
    | _, _ => none
  | _, _, _, _ => none
end Go.Proofs.Ytmcidfecepknpaa

namespace Go.Proofs.Ytmcidfecepknpaa
open Go Go.Sh Go.Proofs
set_option linter.unusedVariables false
set_option linter.unusedSimpArgs false
def l2loop_t0 : Prop :=
  (0 : Nat) = (0 : Nat) ∧ (0 : Nat) = (0 : Nat)
theorem l2loop_t0_t : l2loop_t0 :=
  ⟨rfl, rfl⟩
def l2loop_t1 (p : LbP) (d : LbD) : Prop :=
  (p.4 = p.4 ∧ ∀ (i : Nat), i < p.n → (p.3 i).1 = (p.3 i).1 ∧ (p.3 i).2 = (p.3 i).2 ∧ (p.3 i).3 = (p.3 i).3 ∧ True) ∧ ((1 : Nat) = (1 : Nat) ∧ ∀ (i : Nat), i < (1 : Nat) → p.1.1 = p.1.1 ∧ p.1.2 = p.1.2 ∧ p.1.3 = p.1.3 ∧ p.1.4 = p.1.4 ∧ True) ∧ ((1 : Nat) = (1 : Nat) ∧ ∀ (i : Nat), i < (1 : Nat) → p.2.1 = p.2.1 ∧ p.2.2 = p.2.2 ∧ p.2.3 = p.2.3 ∧ p.2.4 = p.2.4 ∧ p.2.5 = p.2.5 ∧ p.2.6 = p.2.6 ∧ True) ∧ (p.5 = p.5 ∧ ∀ (i : Nat), i < p.vn → p.6 i = p.6 i ∧ True) ∧ (d.3 = d.3 ∧ ∀ (i : Nat), i < d.3 → (d.4 i).1 = (d.4 i).1 ∧ (d.4 i).2 = (d.4 i).2 ∧ (d.4 i).3 = (d.4 i).3 ∧ True) ∧ True
theorem l2loop_t1_t (p : LbP) (d : LbD) : l2loop_t1 p d :=
  ⟨⟨rfl, (fun _ => (fun _ => ⟨rfl, ⟨rfl, ⟨rfl, trivial⟩⟩⟩))⟩, ⟨⟨rfl, (fun _ => (fun _ => ⟨rfl, ⟨rfl, ⟨rfl, ⟨rfl, trivial⟩⟩⟩⟩))⟩, ⟨⟨rfl, (fun _ => (fun _ => ⟨rfl, ⟨rfl, ⟨rfl, ⟨rfl, ⟨rfl, ⟨rfl, trivial⟩⟩⟩⟩⟩⟩))⟩, ⟨⟨rfl, (fun _ => (fun _ => ⟨rfl, trivial⟩))⟩, ⟨⟨rfl, (fun _ => (fun _ => ⟨rfl, ⟨rfl, ⟨rfl, trivial⟩⟩⟩))⟩, trivial⟩⟩⟩⟩⟩
def l2loop_t2 (p : LbP) (d : LbD) : Prop :=
  (p.4 = p.4 ∧ ∀ (i : Nat), i < p.n → (p.3 i).1 = (p.3 i).1 ∧ (p.3 i).2 = (p.3 i).2 ∧ (p.3 i).3 = (p.3 i).3 ∧ True) ∧ ((1 : Nat) = (1 : Nat) ∧ ∀ (i : Nat), i < (1 : Nat) → p.1.1 = p.1.1 ∧ p.1.2 = p.1.2 ∧ p.1.3 = p.1.3 ∧ p.1.4 = p.1.4 ∧ True) ∧ ((1 : Nat) = (1 : Nat) ∧ ∀ (i : Nat), i < (1 : Nat) → p.2.1 = p.2.1 ∧ p.2.2 = p.2.2 ∧ p.2.3 = p.2.3 ∧ p.2.4 = p.2.4 ∧ p.2.5 = p.2.5 ∧ p.2.6 = p.2.6 ∧ True) ∧ (p.5 = p.5 ∧ ∀ (i : Nat), i < p.vn → p.6 i = p.6 i ∧ True) ∧ (d.3 + (1 : Nat) = d.3 + (1 : Nat) ∧ ∀ (i : Nat), i < d.3 + (1 : Nat) → ((bif decide (i < d.3) then (d.4 i).1 else (p.3 d.1).1) = bif decide (i < d.3) then (d.4 i).1 else (p.3 d.1).1) ∧ ((bif decide (i < d.3) then (d.4 i).2 else (p.3 d.1).2) = bif decide (i < d.3) then (d.4 i).2 else (p.3 d.1).2) ∧ ((bif decide (i < d.3) then (d.4 i).3 else (p.3 d.1).3) = bif decide (i < d.3) then (d.4 i).3 else (p.3 d.1).3) ∧ True) ∧ True
theorem l2loop_t2_t (p : LbP) (d : LbD) : l2loop_t2 p d :=
  ⟨⟨rfl, (fun _ => (fun _ => ⟨rfl, ⟨rfl, ⟨rfl, trivial⟩⟩⟩))⟩, ⟨⟨rfl, (fun _ => (fun _ => ⟨rfl, ⟨rfl, ⟨rfl, ⟨rfl, trivial⟩⟩⟩⟩))⟩, ⟨⟨rfl, (fun _ => (fun _ => ⟨rfl, ⟨rfl, ⟨rfl, ⟨rfl, ⟨rfl, ⟨rfl, trivial⟩⟩⟩⟩⟩⟩))⟩, ⟨⟨rfl, (fun _ => (fun _ => ⟨rfl, trivial⟩))⟩, ⟨⟨rfl, (fun _ => (fun _ => ⟨rfl, ⟨rfl, ⟨rfl, trivial⟩⟩⟩))⟩, trivial⟩⟩⟩⟩⟩
def l2loop_t3 (p : LbP) (d : LbD) : Prop :=
  (((0 : Nat) = (0 : Nat) ∧ (0 : Nat) = (0 : Nat)) ∧ ((0 : Nat) = (0 : Nat) ∧ (0 : Nat) = (0 : Nat)) ∧ p.4 = p.4 ∧ p.5 = p.5 ∧ d.3 = d.3 ∧ d.2 = d.2 ∧ True) ∧ (p.4 = p.4 ∧ ∀ (i : Nat), i < p.n → (p.3 i).1 = (p.3 i).1 ∧ (p.3 i).2 = (p.3 i).2 ∧ (p.3 i).3 = (p.3 i).3 ∧ True) ∧ ((1 : Nat) = (1 : Nat) ∧ ∀ (i : Nat), i < (1 : Nat) → p.1.1 = p.1.1 ∧ p.1.2 = p.1.2 ∧ p.1.3 = p.1.3 ∧ p.1.4 = p.1.4 ∧ True) ∧ ((1 : Nat) = (1 : Nat) ∧ ∀ (i : Nat), i < (1 : Nat) → p.2.1 = p.2.1 ∧ p.2.2 = p.2.2 ∧ p.2.3 = p.2.3 ∧ p.2.4 = p.2.4 ∧ p.2.5 = p.2.5 ∧ p.2.6 = p.2.6 ∧ True) ∧ (p.5 = p.5 ∧ ∀ (i : Nat), i < p.vn → p.6 i = p.6 i ∧ True) ∧ (d.3 = d.3 ∧ ∀ (i : Nat), i < d.m → (d.4 i).1 = (d.4 i).1 ∧ (d.4 i).2 = (d.4 i).2 ∧ (d.4 i).3 = (d.4 i).3 ∧ True) ∧ True
theorem l2loop_t3_t (p : LbP) (d : LbD) : l2loop_t3 p d :=
  ⟨⟨⟨rfl, rfl⟩, ⟨⟨rfl, rfl⟩, ⟨rfl, ⟨rfl, ⟨rfl, ⟨rfl, trivial⟩⟩⟩⟩⟩⟩, ⟨⟨rfl, (fun _ => (fun _ => ⟨rfl, ⟨rfl, ⟨rfl, trivial⟩⟩⟩))⟩, ⟨⟨rfl, (fun _ => (fun _ => ⟨rfl, ⟨rfl, ⟨rfl, ⟨rfl, trivial⟩⟩⟩⟩))⟩, ⟨⟨rfl, (fun _ => (fun _ => ⟨rfl, ⟨rfl, ⟨rfl, ⟨rfl, ⟨rfl, ⟨rfl, trivial⟩⟩⟩⟩⟩⟩))⟩, ⟨⟨rfl, (fun _ => (fun _ => ⟨rfl, trivial⟩))⟩, ⟨⟨rfl, (fun _ => (fun _ => ⟨rfl, ⟨rfl, ⟨rfl, trivial⟩⟩⟩))⟩, trivial⟩⟩⟩⟩⟩⟩
def l2loop_T (p : LbP) (d : LbD) : Prop :=
  ifB (decide (Int.ofNat d.1 < Int.ofNat p.4)) (ifB (decide (d.2 < Int.ofNat p.5) == true) (ifB (decide ((0 : Int) ≤ d.2) && decide (d.2 < (↑p.5 : Int))) (ifB (decide (d.2.toNat < p.5)) (ifB (p.6 d.2.toNat == Int.ofNat d.1) (Leaf (d.i < p.n) ∧ Leaf (d.k < (↑p.vn : Int) ∧ p.V d.k.toNat = (↑d.i : Int) ∧ IntKind.i64.wrap (d.2 + (1 : Int)) = d.k + (1 : Int) ∧ d.3 = d.m ∧ d.4 = d.F ∨ ¬(d.k < (↑p.vn : Int) ∧ p.V d.k.toNat = (↑d.i : Int)) ∧ IntKind.i64.wrap (d.2 + (1 : Int)) = d.k ∧ d.3 = d.m + (1 : Nat) ∧ d.4 = addE d.F d.m (p.E d.i)) ∧ (l2loop_t0 ∧ l2loop_t0 ∧ p.4 = p.4 ∧ p.5 = p.5 ∧ d.3 = d.3 ∧ IntKind.i64.wrap (d.2 + (1 : Int)) = IntKind.i64.wrap (d.2 + (1 : Int)) ∧ Int.ofNat (d.1 + (1 : Nat)) = IntKind.i64.wrap (Int.ofNat (d.1 + (1 : Nat))) ∧ True) ∧ l2loop_t1 p d) (ifB (decide (Int.ofNat d.1 < (↑p.4 : Int))) (ifB (decide (d.1 < p.4) && true) (ifB (decide (d.3 ≤ d.3) && decide ((d.3 + (1 : Nat)) * (24 : Nat) ≤ (140737488355328 : Nat))) (Leaf (d.i < p.n) ∧ Leaf (d.k < (↑p.vn : Int) ∧ p.V d.k.toNat = (↑d.i : Int) ∧ d.2 = d.k + (1 : Int) ∧ d.3 + (1 : Nat) = d.m ∧ (fun (i : Nat) => { kind := bif decide (i < d.3) then (d.4 i).1 else (p.3 d.1).1, at' := bif decide (i < d.3) then (d.4 i).2 else (p.3 d.1).2, reason := bif decide (i < d.3) then (d.4 i).3 else (p.3 d.1).3 : Evt }) = d.F ∨ ¬(d.k < (↑p.vn : Int) ∧ p.V d.k.toNat = (↑d.i : Int)) ∧ d.2 = d.k ∧ d.3 + (1 : Nat) = d.m + (1 : Nat) ∧ (fun (i : Nat) => { kind := bif decide (i < d.3) then (d.4 i).1 else (p.3 d.1).1, at' := bif decide (i < d.3) then (d.4 i).2 else (p.3 d.1).2, reason := bif decide (i < d.3) then (d.4 i).3 else (p.3 d.1).3 : Evt }) = addE d.F d.m (p.E d.i)) ∧ (l2loop_t0 ∧ l2loop_t0 ∧ p.4 = p.4 ∧ p.5 = p.5 ∧ d.3 + (1 : Nat) = d.3 + (1 : Nat) ∧ d.2 = d.2 ∧ Int.ofNat (d.1 + (1 : Nat)) = IntKind.i64.wrap (Int.ofNat (d.1 + (1 : Nat))) ∧ True) ∧ l2loop_t2 p d) False) False) False)) False) False) (ifB (decide (Int.ofNat d.1 < (↑p.4 : Int))) (ifB (decide (d.1 < p.4) && true) (ifB (decide (d.3 ≤ d.3) && decide ((d.3 + (1 : Nat)) * (24 : Nat) ≤ (140737488355328 : Nat))) (Leaf (d.i < p.n) ∧ Leaf (d.k < (↑p.vn : Int) ∧ p.V d.k.toNat = (↑d.i : Int) ∧ d.2 = d.k + (1 : Int) ∧ d.3 + (1 : Nat) = d.m ∧ (fun (i : Nat) => { kind := bif decide (i < d.3) then (d.4 i).1 else (p.3 d.1).1, at' := bif decide (i < d.3) then (d.4 i).2 else (p.3 d.1).2, reason := bif decide (i < d.3) then (d.4 i).3 else (p.3 d.1).3 : Evt }) = d.F ∨ ¬(d.k < (↑p.vn : Int) ∧ p.V d.k.toNat = (↑d.i : Int)) ∧ d.2 = d.k ∧ d.3 + (1 : Nat) = d.m + (1 : Nat) ∧ (fun (i : Nat) => { kind := bif decide (i < d.3) then (d.4 i).1 else (p.3 d.1).1, at' := bif decide (i < d.3) then (d.4 i).2 else (p.3 d.1).2, reason := bif decide (i < d.3) then (d.4 i).3 else (p.3 d.1).3 : Evt }) = addE d.F d.m (p.E d.i)) ∧ (l2loop_t0 ∧ l2loop_t0 ∧ p.4 = p.4 ∧ p.5 = p.5 ∧ d.3 + (1 : Nat) = d.3 + (1 : Nat) ∧ d.2 = d.2 ∧ Int.ofNat (d.1 + (1 : Nat)) = IntKind.i64.wrap (Int.ofNat (d.1 + (1 : Nat))) ∧ True) ∧ l2loop_t2 p d) False) False) False)) (Leaf (p.n ≤ d.i) ∧ l2loop_t3 p d)
theorem l2loop_eq (p : LbP) (d : LbD) : exec XL 60 5 lL2.code (lL2.I p d) (zL2 p d) = l2loop_T p d := by kernel_rfl

theorem vcnt_le (p : LbP) : ∀ i, vcnt p i ≤ i
  | 0 => Nat.le_refl _
  | i + 1 => by
    have := vcnt_le p i
    unfold vcnt at this ⊢
    simp only [voids, List.length_append]
    split <;> simp only [List.length_cons, List.length_nil] <;> omega
theorem l2loop_step (p : LbP) (d : LbD) (hJ : lL2_J p d) : l2loop_T p d := by
  obtain ⟨h1, h2, h3, h4, h5, h6⟩ := hJ
  have hv := vcnt_le p d.i
  have hm := h6.le
  have hk : 0 ≤ d.k ∧ d.k ≤ 10 := by omega
  have hw : IntKind.i64.wrap (d.k + 1) = d.k + 1 := by rw [IntKind.wrap_i64]; omega
  unfold l2loop_T
  repeat' (first | with_reducible refine ifB_split (fun _ => ?_) (fun _ => ?_) | with_reducible refine And.intro ?_ ?_)
  all_goals try first | with_reducible exact l2loop_t0_t | with_reducible exact l2loop_t1_t _ _ | with_reducible exact l2loop_t2_t _ _ | with_reducible exact l2loop_t3_t _ _ | with_reducible rfl | with_reducible exact trivial | with_reducible exact List.Perm.refl _
  all_goals simp only [Leaf, Nat.zero_add, Int.ofNat_eq_natCast, decide_eq_true_eq, decide_eq_false_iff_not, beq_iff_eq, beq_eq_false_iff_ne, ne_eq, Bool.and_eq_true, Bool.not_eq_true', Bool.not_eq_true, Bool.not_eq_false', Bool.and_true, Int.natCast_inj, gt_iff_lt, Int.ofNat_lt, Int.ofNat_le, Bool.and_eq_false_iff] at *
  all_goals first
    | omega
    | (rw [wrapSmall (by omega) (by omega)]; done)
    | exact .inl ⟨by omega, by omega, hw, by first | rfl | trivial, by first | rfl | trivial⟩
    | exact .inr ⟨by omega, by first | rfl | trivial, by first | rfl | trivial, by first | rfl | trivial⟩
    | trace_state
set_option maxRecDepth 100000 in
theorem l2loop_ok : LoopOK XL.P lL2.code lL2.L := by
  refine lL2.ok XL_ok 60 5 (fun p d => p.n - d.i) zL2 (fun _ _ _ => trivial) (fun p d w q hw => ?_) (fun p d S' hJ h => ?_) (fun p d x S' hx hJ h => ?_) fun p d hJ => ?_
  · match w, hw with
    | 0, _ => exact trivial
  · unfold zL2 at h; dsimp only at h
    split at h <;> try exact h.elim
    rename_i lo m F _ k _ _
    obtain ⟨h1, h2, h3⟩ := h
    simp only [Leaf] at h1 h2
    obtain ⟨j1, j2, j3, ⟨j4, j5⟩, j6, j7⟩ := hJ
    obtain ⟨v1, v2⟩ := j7.isVoid j3 h1
    have hkn : d.k.toNat = vcnt p d.i := by omega
    refine ⟨_, ⟨d.i + 1, k, m, F⟩, ?_, ?_, h3⟩
    · show p.n - (d.i + 1) < p.n - d.i
      omega
    · cases hb : voidB p.r p.c p.E d.i with
      | true =>
        obtain ⟨w1, w2⟩ := v1 hb
        have hsk := j7.skip j3 h1 hb
        have hc : vcnt p (d.i + 1) = vcnt p d.i + 1 := hsk.cnt.symm
        rcases h2 with ⟨g1, g2, rfl, rfl, rfl⟩ | ⟨g1, rfl, rfl, rfl⟩
        · refine ⟨h1, j2, j3, ⟨j4, j5⟩, ?_, ?_⟩
          · show d.k + 1 = (vcnt p (d.i + 1) : Int)
            rw [hc]; omega
          · show Kept p.r p.c p.E (d.i + 1) (vcnt p (d.i + 1)) d.m d.F
            rw [hc]; exact hsk
        · refine (g1 ⟨by omega, ?_⟩).elim
          rw [hkn, j5 _ (by omega)]; exact w2
      | false =>
        have w := v2 hb
        rcases h2 with ⟨g1, g2, rfl, rfl, rfl⟩ | ⟨g1, rfl, rfl, rfl⟩
        · refine (w (by omega) ?_).elim
          rw [hkn, j5 _ (by omega)] at g2; exact g2
        · have htk := j7.take j3 h1 hb (G := addE d.F d.m (p.E d.i)) (fun j hj => addE_lt hj) addE_self
          have hc : vcnt p (d.i + 1) = vcnt p d.i := htk.cnt.symm
          refine ⟨h1, j2, j3, ⟨j4, j5⟩, ?_, ?_⟩
          · show d.k = (vcnt p (d.i + 1) : Int)
            rw [hc]; exact j6
          · show Kept p.r p.c p.E (d.i + 1) (vcnt p (d.i + 1)) (d.m + 1) (addE d.F d.m (p.E d.i))
            rw [hc]; exact htk
  · obtain ⟨j1, j2, j3, j4, j6, j7⟩ := hJ
    cases x with
    | normal => exact hx.elim
    | ret => exact h.elim
    | exit k =>
      obtain ⟨h0, h1, h2⟩ := gateB_spec h
      have h0 := Nat.eq_of_beq_eq_true h0
      subst h0
      simp only [Leaf] at h1
      have hi : d.i = p.n := by omega
      exact ⟨0, d, _, Nat.lt_succ_self 0, by rw [hi] at j6 j7; exact ⟨j6, j7⟩, rfl, h2⟩
  · rw [l2loop_eq]
    exact l2loop_step p d hJ
noncomputable def XLa (r : Rul) (c : Clm) (E : Nat → Evt) (n : Nat) : Ctx := (XLa0 r c E n).loop 5 21 lL2.code (lL2.by exL2)
theorem XLa_ok (r : Rul) (c : Clm) (E : Nat → Evt) (n : Nat) : (XLa r c E n).OK := Ctx.loop_ok (XLa0_ok r c E n) (l2loop_ok.by exL2)
end Go.Proofs.Ytmcidfecepknpaa

namespace Go.Proofs.Ytmcidfecepknpaa
open Go Go.Sh Go.Proofs
set_option linter.unusedVariables false
def sMoves : FSpec TX where
  J := fun p => p.x.fits ∧ i64 p.t
  A := fun p => p.x.A ++ [iv p.t]
  H := fun p => [some (zO p.x.n p.x.Z)]
  R := fun _ => .bool true
  O := fun _ => []
structure MvP where
  r : Rul
  c : Clm
  d : Clm
  E : Nat → Evt
  n : Nat
  by' : Int
structure MvD where
  i : Nat
  F : Nat → Evt
def mvE (b : Int) (e : Evt) : Evt := ⟨e.kind, w64 (e.at' + b), e.reason⟩
def lV1_J (p : MvP) (d : MvD) : Prop := d.i ≤ p.n ∧ p.n ≤ 10 ∧ ∀ j, j < d.i → d.F j = mvE p.by' (p.E j)
noncomputable def heapV1 (p : MvP) (d : MvD) : Heap := [none, none, some (.arr true p.n 3 45 fun i => (p.E i).cells), boxR p.r, boxC p.c, boxC p.d, some (.arr true d.i 3 45 fun i => (d.F i).cells)]
noncomputable def lV1 : LSpec MvP MvD MvD where
  code := loopOf Try.prog 8 10
  N := 6
  I := fun p d => blank 223 [(1, iv p.by'), (5, .bool true), (6, .ptr 3 0 0), (7, .ptr 4 0 0), (8, .osl 2 p.n), (9, .ptr 5 0 0), (10, .osl 6 d.i), (11, iv d.i)] (heapV1 p d)
  J := lV1_J
  ways := 1
  E := fun w p d => (.exit 0, blank 223 [(1, iv p.by'), (5, .bool true), (6, .ptr 3 0 0), (7, .ptr 4 0 0), (8, .osl 2 p.n), (9, .ptr 5 0 0), (10, .osl 6 d.i)] (heapV1 p d))
  JE := fun w p d => Leaf (d.i = p.n ∧ ∀ j, j < p.n → d.F j = mvE p.by' (p.E j))
noncomputable def zV1 (p : MvP) (d : MvD) : KX := fun x S' => match x with
  | .normal => match evsAt S'.heap (S'.get 10) with
    | some (lo, k, F) => Leaf (d.i < p.n) ∧ Leaf (k = d.i + 1 ∧ F = addE d.F d.i (mvE p.by' (p.E d.i))) ∧ Wk 6 [some lo] (lV1.I p ⟨d.i + 1, F⟩) S'
    | none => False
  | .exit j => gateB (Nat.beq j 0) (Leaf (p.n ≤ d.i) ∧ Wk 6 [some 6] (lV1.E 0 p d).2 S')
  | .ret => False
def exV1 (S : SS) : Option (MvP × MvD × Ren) := match S.get 1, arrOf S.heap 2, arrOf S.heap 3, arrOf S.heap 4, arrOf S.heap 5 with
  | .int _ b, some (n, E), some (_, rr), some (_, cc), some (_, dd) => match rr 0, cc 0, dd 0 with
    | [.int _ r1, .int _ r2, .int _ r3, .int _ r4], [.int _ c1, .int _ c2, .int _ c3, .int _ c4, .int _ c5, .bool c6], [.int _ d1, .int _ d2, .int _ d3, .int _ d4, .int _ d5, .bool d6] =>
      some (⟨⟨r1, r2, r3, r4⟩, ⟨c1, c2, c3, c4, c5, c6⟩, ⟨d1, d2, d3, d4, d5, d6⟩, fun i => Evt.of (E i), n, b⟩, ⟨0, fun _ => ⟨0, 0, 0⟩⟩, [none])
    | _, _, _ => none
  | _, _, _, _, _ => none
/-- Is a status the other one, later? -/
def mvS (b : Int) (s t : Sta) : Prop := t.state = s.state ∧ t.since = w64 (s.since + b) ∧ (0 ≤ s.next → t.next = w64 (s.next + b)) ∧ (¬ 0 ≤ s.next → t.next = -1)
end Go.Proofs.Ytmcidfecepknpaa

namespace Go.Proofs.Ytmcidfecepknpaa
open Go Go.Sh Go.Proofs
set_option linter.unusedVariables false
set_option linter.unusedSimpArgs false
def v1loop_t0 : Prop :=
  (0 : Nat) = (0 : Nat) ∧ (0 : Nat) = (0 : Nat)
theorem v1loop_t0_t : v1loop_t0 :=
  ⟨rfl, rfl⟩
def v1loop_t1 (p : MvP) (d : MvD) : Prop :=
  (p.5 = p.5 ∧ ∀ (i : Nat), i < p.n → (p.4 i).1 = (p.4 i).1 ∧ (p.4 i).2 = (p.4 i).2 ∧ (p.4 i).3 = (p.4 i).3 ∧ True) ∧ ((1 : Nat) = (1 : Nat) ∧ ∀ (i : Nat), i < (1 : Nat) → p.1.1 = p.1.1 ∧ p.1.2 = p.1.2 ∧ p.1.3 = p.1.3 ∧ p.1.4 = p.1.4 ∧ True) ∧ ((1 : Nat) = (1 : Nat) ∧ ∀ (i : Nat), i < (1 : Nat) → p.2.1 = p.2.1 ∧ p.2.2 = p.2.2 ∧ p.2.3 = p.2.3 ∧ p.2.4 = p.2.4 ∧ p.2.5 = p.2.5 ∧ p.2.6 = p.2.6 ∧ True) ∧ ((1 : Nat) = (1 : Nat) ∧ ∀ (i : Nat), i < (1 : Nat) → p.3.1 = p.3.1 ∧ p.3.2 = p.3.2 ∧ p.3.3 = p.3.3 ∧ p.3.4 = p.3.4 ∧ p.3.5 = p.3.5 ∧ p.3.6 = p.3.6 ∧ True) ∧ (d.1 + (1 : Nat) = d.1 + (1 : Nat) ∧ ∀ (i : Nat), i < d.1 + (1 : Nat) → ((bif decide (i < d.1) then (d.2 i).1 else (p.4 d.1).1) = bif decide (i < d.1) then (d.2 i).1 else (p.4 d.1).1) ∧ ((bif decide (i < d.1) then (d.2 i).2 else IntKind.i64.wrap ((p.4 d.1).2 + p.6)) = bif decide (i < d.1) then (d.2 i).2 else IntKind.i64.wrap ((p.4 d.1).2 + p.6)) ∧ ((bif decide (i < d.1) then (d.2 i).3 else (p.4 d.1).3) = bif decide (i < d.1) then (d.2 i).3 else (p.4 d.1).3) ∧ True) ∧ True
theorem v1loop_t1_t (p : MvP) (d : MvD) : v1loop_t1 p d :=
  ⟨⟨rfl, (fun _ => (fun _ => ⟨rfl, ⟨rfl, ⟨rfl, trivial⟩⟩⟩))⟩, ⟨⟨rfl, (fun _ => (fun _ => ⟨rfl, ⟨rfl, ⟨rfl, ⟨rfl, trivial⟩⟩⟩⟩))⟩, ⟨⟨rfl, (fun _ => (fun _ => ⟨rfl, ⟨rfl, ⟨rfl, ⟨rfl, ⟨rfl, ⟨rfl, trivial⟩⟩⟩⟩⟩⟩))⟩, ⟨⟨rfl, (fun _ => (fun _ => ⟨rfl, ⟨rfl, ⟨rfl, ⟨rfl, ⟨rfl, ⟨rfl, trivial⟩⟩⟩⟩⟩⟩))⟩, ⟨⟨rfl, (fun _ => (fun _ => ⟨rfl, ⟨rfl, ⟨rfl, trivial⟩⟩⟩))⟩, trivial⟩⟩⟩⟩⟩
def v1loop_t2 (p : MvP) (d : MvD) : Prop :=
  (p.6 = p.6 ∧ true = true ∧ ((0 : Nat) = (0 : Nat) ∧ (0 : Nat) = (0 : Nat)) ∧ ((0 : Nat) = (0 : Nat) ∧ (0 : Nat) = (0 : Nat)) ∧ p.5 = p.5 ∧ ((0 : Nat) = (0 : Nat) ∧ (0 : Nat) = (0 : Nat)) ∧ d.1 = d.1 ∧ True) ∧ (p.5 = p.5 ∧ ∀ (i : Nat), i < p.n → (p.4 i).1 = (p.4 i).1 ∧ (p.4 i).2 = (p.4 i).2 ∧ (p.4 i).3 = (p.4 i).3 ∧ True) ∧ ((1 : Nat) = (1 : Nat) ∧ ∀ (i : Nat), i < (1 : Nat) → p.1.1 = p.1.1 ∧ p.1.2 = p.1.2 ∧ p.1.3 = p.1.3 ∧ p.1.4 = p.1.4 ∧ True) ∧ ((1 : Nat) = (1 : Nat) ∧ ∀ (i : Nat), i < (1 : Nat) → p.2.1 = p.2.1 ∧ p.2.2 = p.2.2 ∧ p.2.3 = p.2.3 ∧ p.2.4 = p.2.4 ∧ p.2.5 = p.2.5 ∧ p.2.6 = p.2.6 ∧ True) ∧ ((1 : Nat) = (1 : Nat) ∧ ∀ (i : Nat), i < (1 : Nat) → p.3.1 = p.3.1 ∧ p.3.2 = p.3.2 ∧ p.3.3 = p.3.3 ∧ p.3.4 = p.3.4 ∧ p.3.5 = p.3.5 ∧ p.3.6 = p.3.6 ∧ True) ∧ (d.1 = d.1 ∧ ∀ (i : Nat), i < d.i → (d.2 i).1 = (d.2 i).1 ∧ (d.2 i).2 = (d.2 i).2 ∧ (d.2 i).3 = (d.2 i).3 ∧ True) ∧ True
theorem v1loop_t2_t (p : MvP) (d : MvD) : v1loop_t2 p d :=
  ⟨⟨rfl, ⟨rfl, ⟨⟨rfl, rfl⟩, ⟨⟨rfl, rfl⟩, ⟨rfl, ⟨⟨rfl, rfl⟩, ⟨rfl, trivial⟩⟩⟩⟩⟩⟩⟩, ⟨⟨rfl, (fun _ => (fun _ => ⟨rfl, ⟨rfl, ⟨rfl, trivial⟩⟩⟩))⟩, ⟨⟨rfl, (fun _ => (fun _ => ⟨rfl, ⟨rfl, ⟨rfl, ⟨rfl, trivial⟩⟩⟩⟩))⟩, ⟨⟨rfl, (fun _ => (fun _ => ⟨rfl, ⟨rfl, ⟨rfl, ⟨rfl, ⟨rfl, ⟨rfl, trivial⟩⟩⟩⟩⟩⟩))⟩, ⟨⟨rfl, (fun _ => (fun _ => ⟨rfl, ⟨rfl, ⟨rfl, ⟨rfl, ⟨rfl, ⟨rfl, trivial⟩⟩⟩⟩⟩⟩))⟩, ⟨⟨rfl, (fun _ => (fun _ => ⟨rfl, ⟨rfl, ⟨rfl, trivial⟩⟩⟩))⟩, trivial⟩⟩⟩⟩⟩⟩
def v1loop_T (p : MvP) (d : MvD) : Prop :=
  ifB (decide (Int.ofNat d.1 < Int.ofNat p.5)) (ifB (decide (Int.ofNat d.1 < (↑p.5 : Int))) (ifB (decide (d.1 < p.5)) (ifB (decide (Int.ofNat d.1 < (↑p.5 : Int))) (ifB (decide (d.1 < p.5)) (ifB (decide (Int.ofNat d.1 < (↑p.5 : Int))) (ifB (decide (d.1 < p.5)) (ifB (decide (d.1 ≤ d.1) && decide ((d.1 + (1 : Nat)) * (24 : Nat) ≤ (140737488355328 : Nat))) (Leaf (d.i < p.n) ∧ Leaf (d.1 + (1 : Nat) = d.i + (1 : Nat) ∧ (fun (i : Nat) => { kind := bif decide (i < d.1) then (d.2 i).1 else (p.4 d.1).1, at' := bif decide (i < d.1) then (d.2 i).2 else IntKind.i64.wrap ((p.4 d.1).2 + p.6), reason := bif decide (i < d.1) then (d.2 i).3 else (p.4 d.1).3 : Evt }) = addE d.F d.i (mvE p.by' (p.E d.i))) ∧ (p.6 = p.6 ∧ true = true ∧ v1loop_t0 ∧ v1loop_t0 ∧ p.5 = p.5 ∧ v1loop_t0 ∧ d.1 + (1 : Nat) = d.1 + (1 : Nat) ∧ Int.ofNat (d.1 + (1 : Nat)) = IntKind.i64.wrap (Int.ofNat (d.1 + (1 : Nat))) ∧ True) ∧ v1loop_t1 p d) False) False) False) False) False) False) False) (Leaf (p.n ≤ d.i) ∧ v1loop_t2 p d)
theorem v1loop_eq (p : MvP) (d : MvD) : exec XL 60 8 lV1.code (lV1.I p d) (zV1 p d) = v1loop_T p d := by kernel_rfl

theorem v1loop_step (p : MvP) (d : MvD) (hJ : lV1_J p d) : v1loop_T p d := by
  obtain ⟨h1, h2, h3⟩ := hJ
  unfold v1loop_T
  repeat' (first | with_reducible refine ifB_split (fun _ => ?_) (fun _ => ?_) | with_reducible refine And.intro ?_ ?_)
  all_goals try first | with_reducible exact v1loop_t0_t | with_reducible exact v1loop_t1_t _ _ | with_reducible exact v1loop_t2_t _ _ | with_reducible rfl | with_reducible exact trivial | with_reducible exact List.Perm.refl _
  all_goals simp only [Leaf, Nat.zero_add, Int.ofNat_eq_natCast, decide_eq_true_eq, decide_eq_false_iff_not, Bool.and_eq_true, Bool.not_eq_true', Bool.not_eq_true, Bool.not_eq_false', Bool.and_true, Int.natCast_inj, gt_iff_lt, Int.ofNat_lt, Int.ofNat_le, Bool.and_eq_false_iff] at *
  all_goals first
    | omega
    | (rw [wrapSmall (by omega) (by omega)]; done)
    | exact ⟨trivial, rfl⟩
    | exact ⟨rfl, rfl⟩
    | trace_state
set_option maxRecDepth 100000 in
theorem v1loop_ok : LoopOK XL.P lV1.code lV1.L := by
  refine lV1.ok XL_ok 60 8 (fun p d => p.n - d.i) zV1 (fun _ _ _ => trivial) (fun p d w q hw => ?_) (fun p d S' hJ h => ?_) (fun p d x S' hx hJ h => ?_) fun p d hJ => ?_
  · match w, hw with
    | 0, _ => exact trivial
  · unfold zV1 at h; dsimp only at h
    split at h <;> try exact h.elim
    rename_i lo k F _
    obtain ⟨h1, h2, h3⟩ := h
    simp only [Leaf] at h1 h2
    obtain ⟨j1, j2, j3⟩ := hJ
    refine ⟨_, ⟨d.i + 1, F⟩, ?_, ⟨h1, j2, fun j hj => ?_⟩, h3⟩
    · show p.n - (d.i + 1) < p.n - d.i
      omega
    · show F j = _
      rw [h2.2]
      rcases Nat.lt_succ_iff_lt_or_eq.1 (show j < d.i + 1 from hj) with hj | rfl
      · rw [addE_lt hj]; exact j3 j hj
      · rw [addE_self]
  · obtain ⟨j1, j2, j3⟩ := hJ
    cases x with
    | normal => exact hx.elim
    | ret => exact h.elim
    | exit k =>
      obtain ⟨h0, h1, h2⟩ := gateB_spec h
      have h0 := Nat.eq_of_beq_eq_true h0
      subst h0
      simp only [Leaf] at h1
      have hi : d.i = p.n := by omega
      exact ⟨0, d, _, Nat.lt_succ_self 0, ⟨hi, fun j hj => j3 j (by omega)⟩, rfl, h2⟩
  · rw [v1loop_eq]
    exact v1loop_step p d hJ
noncomputable def XMv0 (r : Rul) (c : Clm) (E : Nat → Evt) (n : Nat) : Ctx := (XH r c E n).loop 8 10 lV1.code (lV1.by exV1)
theorem XMv0_ok (r : Rul) (c : Clm) (E : Nat → Evt) (n : Nat) : (XMv0 r c E n).OK := Ctx.loop_ok (XH_ok r c E n) (v1loop_ok.by exV1)
end Go.Proofs.Ytmcidfecepknpaa

namespace Go.Proofs.Ytmcidfecepknpaa
open Go Go.Sh Go.Proofs
set_option linter.unusedVariables false
structure V2P where
  n : Nat
  V : Nat → Sta
  m : Nat
  W : Nat → Sta
  by' : Int
def lV2_J (p : V2P) (k : Nat) : Prop := k ≤ p.n ∧ p.n = p.m ∧ p.n ≤ 1000 ∧ ∀ j, j < p.n → mvS p.by' (p.V j) (p.W j)
noncomputable def heapV2 (p : V2P) : Heap := [none, none, none, none, none, none, none, lineO p.n p.V, lineO p.m p.W, none, none]
noncomputable def lV2 : LSpec V2P Nat Nat where
  code := loopOf Try.prog 8 22
  N := 11
  I := fun p k => blank 223 [(1, iv p.by'), (5, .bool true), (12, .osl 7 p.n), (14, .osl 8 p.m), (24, iv k)] (heapV2 p)
  J := lV2_J
  ways := 1
  E := fun w p d => (.exit 2, blank 223 [(5, .bool true)] [none, none, none, none, none, none, none, none, none, none, none])
  JE := fun w p d => Leaf True
noncomputable def zV2 (p : V2P) (k : Nat) : KX := fun x S' => match x with
  | .normal => Leaf (k < p.n) ∧ Wk 11 [] (lV2.I p (k + 1)) S'
  | .exit j => gateB (Nat.beq j 2) (Wk 11 [] (lV2.E 0 p k).2 S')
  | .ret => Leaf False
def exV2 (S : SS) : Option (V2P × Nat × Ren) := match S.get 1, lineAt S.heap (S.get 12), lineAt S.heap (S.get 14) with
  | .int _ b, some (_, n, V), some (_, m, W) => some (⟨n, V, m, W, b⟩, 0, [])
  | _, _, _ => none
end Go.Proofs.Ytmcidfecepknpaa

namespace Go.Proofs.Ytmcidfecepknpaa
open Go Go.Sh Go.Proofs
noncomputable def ops824 : Array Oper := opsOf Try.prog 8 24
def l824 : List Nat := [0, 1, 2, 3, 4, 5, 6, 7, 8, 9, 10, 11, 12, 13, 14, 15, 16, 17, 18, 19, 20, 21, 22, 23, 24, 25, 26, 27, 28, 29, 30, 31, 32, 33, 34, 35, 36, 37, 38, 39, 40, 41, 42, 43, 44, 45, 46, 47, 48, 49, 50, 51, 52, 53, 54, 55, 56, 57, 58, 59, 60, 61, 62, 63, 64]
theorem cert824 : certB (fun g => [].contains g) ops824 l824 (Array.replicate ops824.size false) = true := by kernel_rfl
noncomputable def XV : Ctx := XL.sched 8 24 ops824 [] l824
theorem len824 : l824.length = ops824.size := by kernel_rfl
theorem XV_ok : XV.OK := Ctx.sched_ok (f := 8) (i := 24) (ops := ops824) (fs := []) (l := l824) XL_ok len824 cert824 (by simp)
end Go.Proofs.Ytmcidfecepknpaa

namespace Go.Proofs.Ytmcidfecepknpaa
open Go Go.Sh Go.Proofs
set_option linter.unusedVariables false
set_option linter.unusedSimpArgs false
def v2loop_t0 (p : V2P) : Prop :=
  (p.1 = p.1 ∧ ∀ (i : Nat), i < p.n → (p.2 i).1 = (p.2 i).1 ∧ (p.2 i).2 = (p.2 i).2 ∧ (p.2 i).3 = (p.2 i).3 ∧ True) ∧ (p.3 = p.3 ∧ ∀ (i : Nat), i < p.m → (p.4 i).1 = (p.4 i).1 ∧ (p.4 i).2 = (p.4 i).2 ∧ (p.4 i).3 = (p.4 i).3 ∧ True) ∧ True
theorem v2loop_t0_t (p : V2P) : v2loop_t0 p :=
  ⟨⟨rfl, (fun _ => (fun _ => ⟨rfl, ⟨rfl, ⟨rfl, trivial⟩⟩⟩))⟩, ⟨⟨rfl, (fun _ => (fun _ => ⟨rfl, ⟨rfl, ⟨rfl, trivial⟩⟩⟩))⟩, trivial⟩⟩
def v2loop_T (p : V2P) (d : Nat) : Prop :=
  ifB (decide (Int.ofNat d < Int.ofNat p.1)) (ops824 = ops824 ∧ ifB (decide (Int.ofNat d < (↑p.1 : Int))) (ifB (decide (d < p.1)) (ifB (decide (Int.ofNat d < (↑p.3 : Int))) (ifB (decide (d < p.3)) (ifB (((p.2 d).1 != (p.4 d).1) == false) (ifB (decide (Int.ofNat d < (↑p.3 : Int))) (ifB (decide (d < p.3)) (ifB (decide (Int.ofNat d < (↑p.1 : Int))) (ifB (decide (d < p.1)) (ifB (((p.4 d).2 != IntKind.i64.wrap ((p.2 d).2 + p.5)) == false) (ifB (decide (Int.ofNat d < (↑p.1 : Int))) (ifB (decide (d < p.1)) (ifB (decide ((p.2 d).3 ≥ (0 : Int)) == true) (ifB (decide (Int.ofNat d < (↑p.3 : Int))) (ifB (decide (d < p.3)) (ifB (decide (Int.ofNat d < (↑p.1 : Int))) (ifB (decide (d < p.1)) (ifB (((p.4 d).3 != IntKind.i64.wrap ((p.2 d).3 + p.5)) == false) (ifB (decide (Int.ofNat d < (↑p.1 : Int))) (ifB (decide (d < p.1)) (ifB (decide ((p.2 d).3 < (0 : Int)) == true) (ifB (decide (Int.ofNat d < (↑p.3 : Int))) (ifB (decide (d < p.3)) (ifB ((p.4 d).3 != (-1 : Int)) (Leaf False) (Leaf (d < p.n) ∧ (p.5 = p.5 ∧ true = true ∧ p.1 = p.1 ∧ p.3 = p.3 ∧ Int.ofNat (d + (1 : Nat)) = IntKind.i64.wrap (Int.ofNat (d + (1 : Nat))) ∧ True) ∧ v2loop_t0 p)) False) False) (Leaf (d < p.n) ∧ (p.5 = p.5 ∧ true = true ∧ p.1 = p.1 ∧ p.3 = p.3 ∧ Int.ofNat (d + (1 : Nat)) = IntKind.i64.wrap (Int.ofNat (d + (1 : Nat))) ∧ True) ∧ v2loop_t0 p)) False) False) (Leaf False)) False) False) False) False) (ifB (decide (Int.ofNat d < (↑p.1 : Int))) (ifB (decide (d < p.1)) (ifB (decide ((p.2 d).3 < (0 : Int)) == true) (ifB (decide (Int.ofNat d < (↑p.3 : Int))) (ifB (decide (d < p.3)) (ifB ((p.4 d).3 != (-1 : Int)) (Leaf False) (Leaf (d < p.n) ∧ (p.5 = p.5 ∧ true = true ∧ p.1 = p.1 ∧ p.3 = p.3 ∧ Int.ofNat (d + (1 : Nat)) = IntKind.i64.wrap (Int.ofNat (d + (1 : Nat))) ∧ True) ∧ v2loop_t0 p)) False) False) (Leaf (d < p.n) ∧ (p.5 = p.5 ∧ true = true ∧ p.1 = p.1 ∧ p.3 = p.3 ∧ Int.ofNat (d + (1 : Nat)) = IntKind.i64.wrap (Int.ofNat (d + (1 : Nat))) ∧ True) ∧ v2loop_t0 p)) False) False)) False) False) (Leaf False)) False) False) False) False) (Leaf False)) False) False) False) False) ((true = true ∧ True) ∧ True)
theorem v2loop_eq (p : V2P) (d : Nat) : exec XV 60 8 lV2.code (lV2.I p d) (zV2 p d) = v2loop_T p d := by kernel_rfl

theorem v2loop_step (p : V2P) (k : Nat) (hJ : lV2_J p k) : v2loop_T p k := by
  obtain ⟨h1, h2, h3, h4⟩ := hJ
  rcases Nat.lt_or_ge k p.n with hk | hk
  · obtain ⟨m1, m2, m3, m4⟩ := h4 k hk
    unfold v2loop_T
    repeat' (first | with_reducible refine ifB_split (fun _ => ?_) (fun _ => ?_) | with_reducible refine And.intro ?_ ?_)
    all_goals try first | with_reducible exact v2loop_t0_t _ | with_reducible rfl | with_reducible exact trivial | with_reducible exact List.Perm.refl _
    all_goals simp only [Leaf, Int.ofNat_eq_natCast, decide_eq_true_eq, decide_eq_false_iff_not, beq_iff_eq, beq_eq_false_iff_ne, bne_iff_ne, ne_eq, Bool.not_eq_true, bne_eq_false_iff_eq, Bool.not_eq_false, ge_iff_le, Classical.not_not] at *
    all_goals first
      | omega
      | (rw [wrapSmall (by omega) (by omega)]; done)
      | (have := m3 (by assumption); simp_all [w64]; done)
      | (have := m4 (by omega); simp_all [w64]; done)
      | (simp_all [w64]; done)
      | (simp_all [w64]; omega)
      | trace_state
  · unfold v2loop_T
    repeat' (first | with_reducible refine ifB_split (fun _ => ?_) (fun _ => ?_) | with_reducible refine And.intro ?_ ?_)
    all_goals try first | with_reducible exact v2loop_t0_t _ | with_reducible rfl | with_reducible exact trivial | with_reducible exact List.Perm.refl _
    all_goals first
      | exact ⟨⟨rfl, trivial⟩, trivial⟩
      | (simp only [Int.ofNat_eq_natCast, decide_eq_true_eq] at *; omega)
      | trace_state
set_option maxRecDepth 100000 in
theorem v2loop_ok : LoopOK XV.P lV2.code lV2.L := by
  refine lV2.ok XV_ok 60 8 (fun p k => p.n - k) zV2 (fun _ _ _ => trivial) (fun p d w q hw => ?_) (fun p k S' hJ h => ?_) (fun p k x S' hx hJ h => ?_) fun p k hJ => ?_
  · match w, hw with
    | 0, _ => exact trivial
  · obtain ⟨h1, h2⟩ := h
    simp only [Leaf] at h1
    exact ⟨[], k + 1, by show p.n - (k + 1) < p.n - k; omega, ⟨h1, hJ.2⟩, h2⟩
  · cases x with
    | normal => exact hx.elim
    | ret => exact (show False from h).elim
    | exit j =>
      obtain ⟨h0, h2⟩ := gateB_spec h
      have h0 := Nat.eq_of_beq_eq_true h0
      subst h0
      exact ⟨0, k, [], Nat.lt_succ_self 0, trivial, rfl, h2⟩
  · rw [v2loop_eq]
    exact v2loop_step p k hJ
noncomputable def XMv (r : Rul) (c : Clm) (E : Nat → Evt) (n : Nat) : Ctx := (XMv0 r c E n).loop 8 22 lV2.code (lV2.by exV2)
theorem XMv_ok (r : Rul) (c : Clm) (E : Nat → Evt) (n : Nat) : (XMv r c E n).OK := Ctx.loop_ok (XMv0_ok r c E n) (v2loop_ok.by exV2)
end Go.Proofs.Ytmcidfecepknpaa

namespace Go.Proofs.Ytmcidfecepknpaa
open Go Go.Sh Go.Proofs
set_option linter.unusedVariables false
set_option linter.unusedSimpArgs false
def moves_t0 : Prop :=
  True ∧ (0 : Nat) = (0 : Nat) ∧ True ∧ True
theorem moves_t0_t : moves_t0 :=
  ⟨trivial, ⟨rfl, ⟨trivial, trivial⟩⟩⟩
def moves_t1 (p : TX) : Prop :=
  (1 : Nat) = (1 : Nat) ∧ ((p.1.1.1 = p.1.1.1 ∧ p.1.1.2 = p.1.1.2 ∧ p.1.1.3 = p.1.1.3 ∧ p.1.1.4 = p.1.1.4 ∧ p.1.2 = p.1.2 ∧ p.1.3 = p.1.3 ∧ p.1.4 = p.1.4 ∧ p.1.5 = p.1.5 ∧ p.1.6 = p.1.6 ∧ p.1.7 = p.1.7 ∧ ((0 : Nat) = (0 : Nat) ∧ p.1.9 = p.1.9) ∧ True) ∧ True) ∧ (p.1.9 = p.1.9 ∧ ∀ (i : Nat), i < p.1.n → (p.1.8 i).1 = (p.1.8 i).1 ∧ (p.1.8 i).2 = (p.1.8 i).2 ∧ (p.1.8 i).3 = (p.1.8 i).3 ∧ True) ∧ True
theorem moves_t1_t (p : TX) : moves_t1 p :=
  ⟨rfl, ⟨⟨⟨rfl, ⟨rfl, ⟨rfl, ⟨rfl, ⟨rfl, ⟨rfl, ⟨rfl, ⟨rfl, ⟨rfl, ⟨rfl, ⟨⟨rfl, rfl⟩, trivial⟩⟩⟩⟩⟩⟩⟩⟩⟩⟩⟩, trivial⟩, ⟨⟨rfl, (fun _ => (fun _ => ⟨rfl, ⟨rfl, ⟨rfl, trivial⟩⟩⟩))⟩, trivial⟩⟩⟩
def moves_t2 (p : TX) : Prop :=
  (0 : Nat) = (0 : Nat) ∧ (p.2 = p.2 ∧ (1000000 : Int) = (1000000 : Int) ∧ True) ∧ True
theorem moves_t2_t (p : TX) : moves_t2 p :=
  ⟨rfl, ⟨⟨rfl, ⟨rfl, trivial⟩⟩, trivial⟩⟩
def moves_t3 (p : TX) (r : Rul) (c : Clm) (E : Nat → Evt) (n : Nat) : Prop :=
  (6 : Nat) = (6 : Nat) ∧ True ∧ (pickN p.2 (1000000 : Int) = pickN p.2 (1000000 : Int) ∧ true = true ∧ ((0 : Nat) = (0 : Nat) ∧ (0 : Nat) = (0 : Nat)) ∧ ((0 : Nat) = (0 : Nat) ∧ (0 : Nat) = (0 : Nat)) ∧ n = n ∧ ((0 : Nat) = (0 : Nat) ∧ (0 : Nat) = (0 : Nat)) ∧ (0 : Nat) = (0 : Nat) ∧ (0 : Int) = (0 : Int) ∧ True) ∧ (n = n ∧ ∀ (i : Nat), i < n → (E i).1 = (E i).1 ∧ (E i).2 = (E i).2 ∧ (E i).3 = (E i).3 ∧ True) ∧ ((1 : Nat) = (1 : Nat) ∧ ∀ (i : Nat), i < (1 : Nat) → r.1 = r.1 ∧ r.2 = r.2 ∧ r.3 = r.3 ∧ r.4 = r.4 ∧ True) ∧ ((1 : Nat) = (1 : Nat) ∧ ∀ (i : Nat), i < (1 : Nat) → c.1 = c.1 ∧ c.2 = c.2 ∧ c.3 = c.3 ∧ c.4 = c.4 ∧ c.5 = c.5 ∧ c.6 = c.6 ∧ True) ∧ ((1 : Nat) = (1 : Nat) ∧ ∀ (i : Nat), i < (1 : Nat) → c.1 = c.1 ∧ c.2 = c.2 ∧ c.3 = c.3 ∧ c.4 = c.4 ∧ IntKind.i64.wrap (c.5 + pickN p.2 (1000000 : Int)) = IntKind.i64.wrap (c.5 + pickN p.2 (1000000 : Int)) ∧ c.6 = c.6 ∧ True) ∧ (0 : Nat) = (0 : Nat) ∧ True
theorem moves_t3_t (p : TX) (r : Rul) (c : Clm) (E : Nat → Evt) (n : Nat) : moves_t3 p r c E n :=
  ⟨rfl, ⟨trivial, ⟨⟨rfl, ⟨rfl, ⟨⟨rfl, rfl⟩, ⟨⟨rfl, rfl⟩, ⟨rfl, ⟨⟨rfl, rfl⟩, ⟨rfl, ⟨rfl, trivial⟩⟩⟩⟩⟩⟩⟩⟩, ⟨⟨rfl, (fun _ => (fun _ => ⟨rfl, ⟨rfl, ⟨rfl, trivial⟩⟩⟩))⟩, ⟨⟨rfl, (fun _ => (fun _ => ⟨rfl, ⟨rfl, ⟨rfl, ⟨rfl, trivial⟩⟩⟩⟩))⟩, ⟨⟨rfl, (fun _ => (fun _ => ⟨rfl, ⟨rfl, ⟨rfl, ⟨rfl, ⟨rfl, ⟨rfl, trivial⟩⟩⟩⟩⟩⟩))⟩, ⟨⟨rfl, (fun _ => (fun _ => ⟨rfl, ⟨rfl, ⟨rfl, ⟨rfl, ⟨rfl, ⟨rfl, trivial⟩⟩⟩⟩⟩⟩))⟩, ⟨rfl, trivial⟩⟩⟩⟩⟩⟩⟩⟩
def moves_t4 (r : Rul) (c : Clm) (E : Nat → Evt) (n : Nat) : Prop :=
  True ∧ (1 : Nat) = (1 : Nat) ∧ ((r.1 = r.1 ∧ r.2 = r.2 ∧ r.3 = r.3 ∧ r.4 = r.4 ∧ True) ∧ (c.1 = c.1 ∧ c.2 = c.2 ∧ c.3 = c.3 ∧ c.4 = c.4 ∧ c.5 = c.5 ∧ c.6 = c.6 ∧ True) ∧ ((0 : Nat) = (0 : Nat) ∧ n = n) ∧ True) ∧ (n = n ∧ ∀ (i : Nat), i < n → (E i).1 = (E i).1 ∧ (E i).2 = (E i).2 ∧ (E i).3 = (E i).3 ∧ True) ∧ True
theorem moves_t4_t (r : Rul) (c : Clm) (E : Nat → Evt) (n : Nat) : moves_t4 r c E n :=
  ⟨trivial, ⟨rfl, ⟨⟨⟨rfl, ⟨rfl, ⟨rfl, ⟨rfl, trivial⟩⟩⟩⟩, ⟨⟨rfl, ⟨rfl, ⟨rfl, ⟨rfl, ⟨rfl, ⟨rfl, trivial⟩⟩⟩⟩⟩⟩, ⟨⟨rfl, rfl⟩, trivial⟩⟩⟩, ⟨⟨rfl, (fun _ => (fun _ => ⟨rfl, ⟨rfl, ⟨rfl, trivial⟩⟩⟩))⟩, trivial⟩⟩⟩⟩
def moves_t5 (p : TX) (r : Rul) (c : Clm) (q : MvD) : Prop :=
  True ∧ (1 : Nat) = (1 : Nat) ∧ ((r.1 = r.1 ∧ r.2 = r.2 ∧ r.3 = r.3 ∧ r.4 = r.4 ∧ True) ∧ (c.1 = c.1 ∧ c.2 = c.2 ∧ c.3 = c.3 ∧ c.4 = c.4 ∧ IntKind.i64.wrap (c.5 + pickN p.2 (1000000 : Int)) = IntKind.i64.wrap (c.5 + pickN p.2 (1000000 : Int)) ∧ c.6 = c.6 ∧ True) ∧ ((0 : Nat) = (0 : Nat) ∧ q.1 = q.1) ∧ True) ∧ (q.1 = q.1 ∧ ∀ (i : Nat), i < q.1 → (q.2 i).1 = (q.2 i).1 ∧ (q.2 i).2 = (q.2 i).2 ∧ (q.2 i).3 = (q.2 i).3 ∧ True) ∧ True
theorem moves_t5_t (p : TX) (r : Rul) (c : Clm) (q : MvD) : moves_t5 p r c q :=
  ⟨trivial, ⟨rfl, ⟨⟨⟨rfl, ⟨rfl, ⟨rfl, ⟨rfl, trivial⟩⟩⟩⟩, ⟨⟨rfl, ⟨rfl, ⟨rfl, ⟨rfl, ⟨rfl, ⟨rfl, trivial⟩⟩⟩⟩⟩⟩, ⟨⟨rfl, rfl⟩, trivial⟩⟩⟩, ⟨⟨rfl, (fun _ => (fun _ => ⟨rfl, ⟨rfl, ⟨rfl, trivial⟩⟩⟩))⟩, trivial⟩⟩⟩⟩
def moves_t6 (r : Rul) (c : Clm) : Prop :=
  True ∧ (0 : Nat) = (0 : Nat) ∧ ((r.1 = r.1 ∧ r.2 = r.2 ∧ r.3 = r.3 ∧ r.4 = r.4 ∧ True) ∧ (c.1 = c.1 ∧ c.2 = c.2 ∧ c.3 = c.3 ∧ c.4 = c.4 ∧ c.5 = c.5 ∧ c.6 = c.6 ∧ True) ∧ True) ∧ True
theorem moves_t6_t (r : Rul) (c : Clm) : moves_t6 r c :=
  ⟨trivial, ⟨rfl, ⟨⟨⟨rfl, ⟨rfl, ⟨rfl, ⟨rfl, trivial⟩⟩⟩⟩, ⟨⟨rfl, ⟨rfl, ⟨rfl, ⟨rfl, ⟨rfl, ⟨rfl, trivial⟩⟩⟩⟩⟩⟩, trivial⟩⟩, trivial⟩⟩⟩
def moves_t7 (p : TX) (r : Rul) (c : Clm) : Prop :=
  True ∧ (0 : Nat) = (0 : Nat) ∧ ((r.1 = r.1 ∧ r.2 = r.2 ∧ r.3 = r.3 ∧ r.4 = r.4 ∧ True) ∧ (c.1 = c.1 ∧ c.2 = c.2 ∧ c.3 = c.3 ∧ c.4 = c.4 ∧ IntKind.i64.wrap (c.5 + pickN p.2 (1000000 : Int)) = IntKind.i64.wrap (c.5 + pickN p.2 (1000000 : Int)) ∧ c.6 = c.6 ∧ True) ∧ True) ∧ True
theorem moves_t7_t (p : TX) (r : Rul) (c : Clm) : moves_t7 p r c :=
  ⟨trivial, ⟨rfl, ⟨⟨⟨rfl, ⟨rfl, ⟨rfl, ⟨rfl, trivial⟩⟩⟩⟩, ⟨⟨rfl, ⟨rfl, ⟨rfl, ⟨rfl, ⟨rfl, ⟨rfl, trivial⟩⟩⟩⟩⟩⟩, trivial⟩⟩, trivial⟩⟩⟩
def moves_t8 (p : TX) (r : Rul) (c : Clm) (E : Nat → Evt) (n : Nat) (q : MvD) : Prop :=
  (2 : Nat) = (2 : Nat) ∧ (((0 : Nat) = (0 : Nat) ∧ (voidL { r := r, c := c, E := E, n := n : CP }).length = (voidL { r := r, c := c, E := E, n := n : CP }).length) ∧ ((0 : Nat) = (0 : Nat) ∧ (voidL { r := r, c := { number := c.1, src := c.2, dst := c.3, holder := c.4, asked := IntKind.i64.wrap (c.5 + pickN p.2 (1000000 : Int)), backed := c.6 : Clm }, E := q.2, n := q.1 : CP }).length = (voidL { r := r, c := { number := c.1, src := c.2, dst := c.3, holder := c.4, asked := IntKind.i64.wrap (c.5 + pickN p.2 (1000000 : Int)), backed := c.6 : Clm }, E := q.2, n := q.1 : CP }).length) ∧ True) ∧ ((voidL { r := r, c := c, E := E, n := n : CP }).length = (voidL { r := r, c := c, E := E, n := n : CP }).length ∧ ∀ (i : Nat), i < (voidL { r := r, c := c, E := E, n := n : CP }).length → (voidL { r := r, c := c, E := E, n := n : CP }).getD i (0 : Int) = (voidL { r := r, c := c, E := E, n := n : CP }).getD i (0 : Int) ∧ True) ∧ ((voidL { r := r, c := { number := c.1, src := c.2, dst := c.3, holder := c.4, asked := IntKind.i64.wrap (c.5 + pickN p.2 (1000000 : Int)), backed := c.6 : Clm }, E := q.2, n := q.1 : CP }).length = (voidL { r := r, c := { number := c.1, src := c.2, dst := c.3, holder := c.4, asked := IntKind.i64.wrap (c.5 + pickN p.2 (1000000 : Int)), backed := c.6 : Clm }, E := q.2, n := q.1 : CP }).length ∧ ∀ (i : Nat), i < (voidL { r := r, c := { number := c.1, src := c.2, dst := c.3, holder := c.4, asked := IntKind.i64.wrap (c.5 + pickN p.2 (1000000 : Int)), backed := c.6 : Clm }, E := q.2, n := q.1 : CP }).length → (voidL { r := r, c := { number := c.1, src := c.2, dst := c.3, holder := c.4, asked := IntKind.i64.wrap (c.5 + pickN p.2 (1000000 : Int)), backed := c.6 : Clm }, E := q.2, n := q.1 : CP }).getD i (0 : Int) = (voidL { r := r, c := { number := c.1, src := c.2, dst := c.3, holder := c.4, asked := IntKind.i64.wrap (c.5 + pickN p.2 (1000000 : Int)), backed := c.6 : Clm }, E := q.2, n := q.1 : CP }).getD i (0 : Int) ∧ True) ∧ True
theorem moves_t8_t (p : TX) (r : Rul) (c : Clm) (E : Nat → Evt) (n : Nat) (q : MvD) : moves_t8 p r c E n q :=
  ⟨rfl, ⟨⟨⟨rfl, rfl⟩, ⟨⟨rfl, rfl⟩, trivial⟩⟩, ⟨⟨rfl, (fun _ => (fun _ => ⟨rfl, trivial⟩))⟩, ⟨⟨rfl, (fun _ => (fun _ => ⟨rfl, trivial⟩))⟩, trivial⟩⟩⟩⟩
def moves_t9 (p : TX) (r : Rul) (c : Clm) (E : Nat → Evt) (n : Nat) (q : MvD) : Prop :=
  (11 : Nat) = (11 : Nat) ∧ True ∧ (pickN p.2 (1000000 : Int) = pickN p.2 (1000000 : Int) ∧ true = true ∧ (lineL { r := r, c := c, E := E, n := n : CP }).length = (lineL { r := r, c := c, E := E, n := n : CP }).length ∧ (lineL { r := r, c := { number := c.1, src := c.2, dst := c.3, holder := c.4, asked := IntKind.i64.wrap (c.5 + pickN p.2 (1000000 : Int)), backed := c.6 : Clm }, E := q.2, n := q.1 : CP }).length = (lineL { r := r, c := { number := c.1, src := c.2, dst := c.3, holder := c.4, asked := IntKind.i64.wrap (c.5 + pickN p.2 (1000000 : Int)), backed := c.6 : Clm }, E := q.2, n := q.1 : CP }).length ∧ (0 : Int) = (0 : Int) ∧ True) ∧ ((lineL { r := r, c := c, E := E, n := n : CP }).length = (lineL { r := r, c := c, E := E, n := n : CP }).length ∧ ∀ (i : Nat), i < (lineL { r := r, c := c, E := E, n := n : CP }).length → ((lineL { r := r, c := c, E := E, n := n : CP }).getD i { state := (0 : Int), since := (0 : Int), next := (0 : Int) : Sta }).1 = ((lineL { r := r, c := c, E := E, n := n : CP }).getD i { state := (0 : Int), since := (0 : Int), next := (0 : Int) : Sta }).1 ∧ ((lineL { r := r, c := c, E := E, n := n : CP }).getD i { state := (0 : Int), since := (0 : Int), next := (0 : Int) : Sta }).2 = ((lineL { r := r, c := c, E := E, n := n : CP }).getD i { state := (0 : Int), since := (0 : Int), next := (0 : Int) : Sta }).2 ∧ ((lineL { r := r, c := c, E := E, n := n : CP }).getD i { state := (0 : Int), since := (0 : Int), next := (0 : Int) : Sta }).3 = ((lineL { r := r, c := c, E := E, n := n : CP }).getD i { state := (0 : Int), since := (0 : Int), next := (0 : Int) : Sta }).3 ∧ True) ∧ ((lineL { r := r, c := { number := c.1, src := c.2, dst := c.3, holder := c.4, asked := IntKind.i64.wrap (c.5 + pickN p.2 (1000000 : Int)), backed := c.6 : Clm }, E := q.2, n := q.1 : CP }).length = (lineL { r := r, c := { number := c.1, src := c.2, dst := c.3, holder := c.4, asked := IntKind.i64.wrap (c.5 + pickN p.2 (1000000 : Int)), backed := c.6 : Clm }, E := q.2, n := q.1 : CP }).length ∧ ∀ (i : Nat), i < (lineL { r := r, c := { number := c.1, src := c.2, dst := c.3, holder := c.4, asked := IntKind.i64.wrap (c.5 + pickN p.2 (1000000 : Int)), backed := c.6 : Clm }, E := q.2, n := q.1 : CP }).length → ((lineL { r := r, c := { number := c.1, src := c.2, dst := c.3, holder := c.4, asked := IntKind.i64.wrap (c.5 + pickN p.2 (1000000 : Int)), backed := c.6 : Clm }, E := q.2, n := q.1 : CP }).getD i { state := (0 : Int), since := (0 : Int), next := (0 : Int) : Sta }).1 = ((lineL { r := r, c := { number := c.1, src := c.2, dst := c.3, holder := c.4, asked := IntKind.i64.wrap (c.5 + pickN p.2 (1000000 : Int)), backed := c.6 : Clm }, E := q.2, n := q.1 : CP }).getD i { state := (0 : Int), since := (0 : Int), next := (0 : Int) : Sta }).1 ∧ ((lineL { r := r, c := { number := c.1, src := c.2, dst := c.3, holder := c.4, asked := IntKind.i64.wrap (c.5 + pickN p.2 (1000000 : Int)), backed := c.6 : Clm }, E := q.2, n := q.1 : CP }).getD i { state := (0 : Int), since := (0 : Int), next := (0 : Int) : Sta }).2 = ((lineL { r := r, c := { number := c.1, src := c.2, dst := c.3, holder := c.4, asked := IntKind.i64.wrap (c.5 + pickN p.2 (1000000 : Int)), backed := c.6 : Clm }, E := q.2, n := q.1 : CP }).getD i { state := (0 : Int), since := (0 : Int), next := (0 : Int) : Sta }).2 ∧ ((lineL { r := r, c := { number := c.1, src := c.2, dst := c.3, holder := c.4, asked := IntKind.i64.wrap (c.5 + pickN p.2 (1000000 : Int)), backed := c.6 : Clm }, E := q.2, n := q.1 : CP }).getD i { state := (0 : Int), since := (0 : Int), next := (0 : Int) : Sta }).3 = ((lineL { r := r, c := { number := c.1, src := c.2, dst := c.3, holder := c.4, asked := IntKind.i64.wrap (c.5 + pickN p.2 (1000000 : Int)), backed := c.6 : Clm }, E := q.2, n := q.1 : CP }).getD i { state := (0 : Int), since := (0 : Int), next := (0 : Int) : Sta }).3 ∧ True) ∧ True
theorem moves_t9_t (p : TX) (r : Rul) (c : Clm) (E : Nat → Evt) (n : Nat) (q : MvD) : moves_t9 p r c E n q :=
  ⟨rfl, ⟨trivial, ⟨⟨rfl, ⟨rfl, ⟨rfl, ⟨rfl, ⟨rfl, trivial⟩⟩⟩⟩⟩, ⟨⟨rfl, (fun _ => (fun _ => ⟨rfl, ⟨rfl, ⟨rfl, trivial⟩⟩⟩))⟩, ⟨⟨rfl, (fun _ => (fun _ => ⟨rfl, ⟨rfl, ⟨rfl, trivial⟩⟩⟩))⟩, trivial⟩⟩⟩⟩⟩
def moves_T (p : TX) (r : Rul) (c : Clm) (E : Nat → Evt) (n : Nat) : Prop :=
  moves_t0 ∧ moves_t1 p ∧ mEq_J p.1 r c E n ∧ ((0 : Int) < (1000000 : Int) ∧ moves_t2 p) ∧ lV1.code = lV1.code ∧ (lV1_J { r := r, c := c, d := { number := c.1, src := c.2, dst := c.3, holder := c.4, asked := IntKind.i64.wrap (c.5 + pickN p.2 (1000000 : Int)), backed := c.6 : Clm }, E := E, n := n, by' := pickN p.2 (1000000 : Int) : MvP } { i := (0 : Nat), F := fun (x : Nat) => { kind := (0 : Int), at' := (0 : Int), reason := (0 : Int) : Evt } : MvD } ∧ moves_t3 p r c E n) ∧ True ∧ ∀ (q : MvD), Leaf (q.i = n ∧ ∀ (j : Nat), j < n → q.F j = mvE (pickN p.2 (1000000 : Int)) (E j)) → moves_t4 r c E n ∧ moves_t5 p r c q ∧ moves_t4 r c E n ∧ moves_t5 p r c q ∧ moves_t6 r c ∧ moves_t7 p r c ∧ ifB ((errOf { r := r, c := c, E := E, n := n : CP } != (0 : Int)) == false) (ifB ((errOf { r := r, c := { number := c.1, src := c.2, dst := c.3, holder := c.4, asked := IntKind.i64.wrap (c.5 + pickN p.2 (1000000 : Int)), backed := c.6 : Clm }, E := q.2, n := q.1 : CP } != (0 : Int)) == false) (ifB ((errOf { r := r, c := c, E := E, n := n : CP } != (0 : Int)) == false) (ifB ((errOf { r := r, c := { number := c.1, src := c.2, dst := c.3, holder := c.4, asked := IntKind.i64.wrap (c.5 + pickN p.2 (1000000 : Int)), backed := c.6 : Clm }, E := q.2, n := q.1 : CP } != (0 : Int)) == false) (ifB ((endsErr { r := r, c := c : RC } != (0 : Int)) == false) (ifB ((endsErr { r := r, c := { number := c.1, src := c.2, dst := c.3, holder := c.4, asked := IntKind.i64.wrap (c.5 + pickN p.2 (1000000 : Int)), backed := c.6 : Clm } : RC } != (0 : Int)) == false) (ifB ((Int.ofNat (lineL { r := r, c := c, E := E, n := n : CP }).length != Int.ofNat (lineL { r := r, c := { number := c.1, src := c.2, dst := c.3, holder := c.4, asked := IntKind.i64.wrap (c.5 + pickN p.2 (1000000 : Int)), backed := c.6 : Clm }, E := q.2, n := q.1 : CP }).length) == false) ((((voidL { r := r, c := c, E := E, n := n : CP }).length ≤ (100000000 : Nat) ∧ (voidL { r := r, c := { number := c.1, src := c.2, dst := c.3, holder := c.4, asked := IntKind.i64.wrap (c.5 + pickN p.2 (1000000 : Int)), backed := c.6 : Clm }, E := q.2, n := q.1 : CP }).length ≤ (100000000 : Nat)) ∧ moves_t8 p r c E n q) ∧ ifB ((!sameL BEq.beq { n := (voidL { r := r, c := c, E := E, n := n : CP }).length, V := fun (i : Nat) => (voidL { r := r, c := c, E := E, n := n : CP }).getD i (0 : Int), m := (voidL { r := r, c := { number := c.1, src := c.2, dst := c.3, holder := c.4, asked := IntKind.i64.wrap (c.5 + pickN p.2 (1000000 : Int)), backed := c.6 : Clm }, E := q.2, n := q.1 : CP }).length, W := fun (i : Nat) => (voidL { r := r, c := { number := c.1, src := c.2, dst := c.3, holder := c.4, asked := IntKind.i64.wrap (c.5 + pickN p.2 (1000000 : Int)), backed := c.6 : Clm }, E := q.2, n := q.1 : CP }).getD i (0 : Int) : SL2 Int }) == false) (ifB (ends { r := r, c := { number := c.1, src := c.2, dst := c.3, holder := c.4, asked := IntKind.i64.wrap (c.5 + pickN p.2 (1000000 : Int)), backed := c.6 : Clm } : RC } != IntKind.i64.wrap (ends { r := r, c := c : RC } + pickN p.2 (1000000 : Int))) (true = false ∧ True) (lV2.code = lV2.code ∧ (lV2_J { n := (lineL { r := r, c := c, E := E, n := n : CP }).length, V := fun (i : Nat) => (lineL { r := r, c := c, E := E, n := n : CP }).getD i { state := (0 : Int), since := (0 : Int), next := (0 : Int) : Sta }, m := (lineL { r := r, c := { number := c.1, src := c.2, dst := c.3, holder := c.4, asked := IntKind.i64.wrap (c.5 + pickN p.2 (1000000 : Int)), backed := c.6 : Clm }, E := q.2, n := q.1 : CP }).length, W := fun (i : Nat) => (lineL { r := r, c := { number := c.1, src := c.2, dst := c.3, holder := c.4, asked := IntKind.i64.wrap (c.5 + pickN p.2 (1000000 : Int)), backed := c.6 : Clm }, E := q.2, n := q.1 : CP }).getD i { state := (0 : Int), since := (0 : Int), next := (0 : Int) : Sta }, by' := pickN p.2 (1000000 : Int) : V2P } (0 : Nat) ∧ moves_t9 p r c E n q) ∧ True ∧ ∀ (q_1 : Nat), Leaf True → true = true ∧ True)) (true = false ∧ True)) (true = false ∧ True)) (true = false ∧ True)) (true = false ∧ True)) (true = false ∧ True)) (true = false ∧ True)) (true = false ∧ True)) (true = false ∧ True)
theorem moves_eq (p : TX) (r : Rul) (c : Clm) (E : Nat → Evt) (n : Nat) : callBy (XMv r c E n) (exec (XMv r c E n) 100) 8 (sMoves.A p) (sMoves.H p) (RetC (sMoves.H p).length (sMoves.R p) (sMoves.O p)) = moves_T p r c E n := by kernel_rfl

theorem made_hi {x : NP} (h : x.fits) : ∀ i, i < mN x → (mE x i).at' ≤ 1000000 := by
  intro i hi
  have hc := mC_ok h
  cases hm : madeE (mR x) (mC x) x.Z (mN x) with
  | mk E last =>
    obtain ⟨g1, g2, g3⟩ := madeE_good (n := x.n) (fun i hi => ⟨(h.Z i hi).1, (h.Z i hi).2.1, (h.Z i hi).2.2⟩) (mR_small h) hc (mN x) (Nat.min_le_left _ _) (Nat.min_le_right _ _) E last hm
    have hE : mE x = E := by rw [mE, hm]
    have h10 : mN x ≤ 10 := Nat.min_le_right _ _
    rw [hE]
    have hev := ((CP.ok_iff _).1 g1.ok).2.2.2
    obtain ⟨k, hk⟩ : ∃ k, mN x = k + 1 := ⟨mN x - 1, by omega⟩
    have hmo := at_mono hev (k := i) (k - i) (by show i + (k - i) < mN x; omega)
    rw [show i + (k - i) = k by omega] at hmo
    have hl : last = (E k).at' := by rw [g2, hk]; rfl
    have hmo : (E i).at' ≤ (E k).at' := hmo
    omega
theorem sameL_refl {L M : List Int} (h : M = L) : sameL BEq.beq (⟨L.length, fun i => L.getD i 0, M.length, fun i => M.getD i 0⟩ : SL2 Int) = true := by
  subst h
  simp [sameL]
theorem voids_len (r : Rul) (c : Clm) (E : Nat → Evt) (a : Sta) : ∀ i, (voids r c E a i).length ≤ i
  | 0 => Nat.le_refl _
  | i + 1 => by
    have := voids_len r c E a i
    simp only [voids, List.length_append]
    split <;> simp only [List.length_cons, List.length_nil] <;> omega
theorem mvS_of {r : Rul} (hr : r.small) {s : Sta} (h : s.fine r) {b : Int} (hb : 0 ≤ b ∧ b ≤ 1000000) : mvS b s (s.mv b) := by
  obtain ⟨r1, r2, r3, r4⟩ := hr
  obtain ⟨f1, f2, f3, f4⟩ := h
  have hn : s.next = -1 ∨ (0 ≤ s.next ∧ s.next ≤ 40000000) := by
    rw [f4]
    repeat' split
    all_goals omega
  refine ⟨rfl, (show s.since + b = w64 (s.since + b) from (w64_small (by omega) (by omega)).symm), fun h0 => ?_, fun h0 => ?_⟩
  · show (if 0 ≤ s.next then s.next + b else s.next) = _
    rw [if_pos h0]; exact (w64_small (by omega) (by omega)).symm
  · show (if 0 ≤ s.next then s.next + b else s.next) = -1
    rw [if_neg h0]; omega
set_option maxHeartbeats 4000000 in
theorem moves_step (p : TX) (hJ : sMoves.J p) : moves_T p (mR p.x) (mC p.x) (mE p.x) (mN p.x) := by
  obtain ⟨hx, ht⟩ := hJ
  obtain ⟨hg, hn, ha⟩ := made_good hx
  have hhi := made_hi hx
  have hm : mEq_J p.x (mR p.x) (mC p.x) (mE p.x) (mN p.x) := ⟨rfl, rfl, rfl, rfl⟩
  have hask := (mC_ok hx).2
  have hcok := (mC_ok hx).1
  generalize mR p.x = r at hg hm ⊢
  generalize mC p.x = c at hg hm ha hask hcok ⊢
  generalize mE p.x = E at hg hm hhi ⊢
  generalize mN p.x = n at hg hm hn hhi ⊢
  have hb := pickN_b ht (n := 1000000) (by omega)
  have w1 : IntKind.i64.wrap (c.asked + pickN p.t 1000000) = c.asked + pickN p.t 1000000 := w64_small (by omega) (by omega)
  have hd : ∃ d : Clm, d = ⟨c.number, c.src, c.dst, c.holder, c.asked + pickN p.t 1000000, c.backed⟩ := ⟨_, rfl⟩
  obtain ⟨d, hd⟩ := hd
  have hdok : d.ok = true := by
    rw [hd]
    simp only [Clm.ok, inB, Bool.and_eq_true, decide_eq_true_eq, Bool.not_eq_true', decide_eq_false_iff_not] at hcok ⊢
    omega
  have hmv : ∀ F : Nat → Evt, (∀ j, j < n → F j = mvE (pickN p.t 1000000) (E j)) → Moved r c d E F n (pickN p.t 1000000) := fun F hF => by
    refine ⟨hg, ⟨by omega, by omega⟩, ⟨by omega, by rw [hd]⟩, by rw [hd], fun j hj => ?_, hhi⟩
    rw [hF j hj]
    have h1 := hhi j hj
    have h2 := hg.ev hj
    have h3 := hg.last j (by omega)
    exact ⟨rfl, w64_small (by omega) (by omega), rfl⟩
  obtain ⟨e1, e2⟩ := hg.ends
  have e3 : errOf ⟨r, c, E, n⟩ = 0 := by simp only [errOf, hg.ok]
  unfold moves_T
  simp only [w1, ← hd]
  repeat' (first | with_reducible refine And.intro ?_ ?_ | with_reducible refine fun (q : MvD) hq => ?_)
  all_goals try first | with_reducible exact moves_t0_t | with_reducible exact moves_t1_t _ | with_reducible exact moves_t2_t _ | with_reducible exact moves_t3_t _ _ _ _ _ | with_reducible exact moves_t4_t _ _ _ _ | with_reducible exact moves_t5_t _ _ _ _ | with_reducible exact moves_t6_t _ _ | with_reducible exact moves_t7_t _ _ _ | with_reducible exact moves_t8_t _ _ _ _ _ _ | with_reducible exact moves_t9_t _ _ _ _ _ _ | with_reducible rfl | with_reducible exact trivial | with_reducible exact List.Perm.refl _ | decide
  · exact hm
  · exact ⟨Nat.zero_le _, hn, fun j hj => absurd hj (Nat.not_lt_zero j)⟩
  · obtain ⟨qi, hq⟩ := hq
    have M := hmv q.F hq
    obtain ⟨L1, L2, L3⟩ := M.lists hdok
    have g2 := M.good2 hdok
    obtain ⟨e4, e5⟩ := g2.ends
    have e6 : errOf ⟨r, d, q.F, n⟩ = 0 := by simp only [errOf, g2.ok]
    have hda : d.asked = c.asked + pickN p.t 1000000 := by rw [hd]
    obtain ⟨r1, r2, r3, r4⟩ := hg.small
    have w2 : IntKind.i64.wrap (c.asked + r.answer - 1 + r.settle + r.cooling + r.reverse + pickN p.t 1000000) = c.asked + r.answer - 1 + r.settle + r.cooling + r.reverse + pickN p.t 1000000 := w64_small (by omega) (by omega)
    have v1 : (voidL ⟨r, c, E, n⟩).length ≤ 100000000 := by
      have := voids_len r c E (begins r 1 c.asked) n
      simp only [voidL, hg.ok]; omega
    have l1 : (lineL ⟨r, c, E, n⟩).length ≤ 1000 := by
      have h1 := line_len r c E (begins r 1 c.asked) n
      have h2 := aloneL_len r 4611686018427387904 4 (runN r c E (begins r 1 c.asked) n)
      simp only [lineL, hg.ok, List.length_append]; omega
    have hsl := sameL_refl L2
    rw [qi]
    simp only [e1, e2, e3, e4, e5, e6, L1, List.length_map, hda, w2, hsl]
    repeat' (first | with_reducible refine ifB_split (fun _ => ?_) (fun _ => ?_) | with_reducible refine And.intro ?_ ?_ | with_reducible refine fun (q : Nat) (hq : Leaf True) => ?_)
    all_goals try first | with_reducible exact moves_t0_t | with_reducible exact moves_t1_t _ | with_reducible exact moves_t2_t _ | with_reducible exact moves_t3_t _ _ _ _ _ | with_reducible exact moves_t4_t _ _ _ _ | with_reducible exact moves_t5_t _ _ _ _ | with_reducible exact moves_t6_t _ _ | with_reducible exact moves_t7_t _ _ _ | with_reducible exact moves_t8_t _ _ _ _ _ _ | with_reducible exact moves_t9_t _ _ _ _ _ _ | with_reducible rfl | with_reducible exact trivial | with_reducible exact List.Perm.refl _ | decide
    all_goals first
      | exact v1
      | (rw [L2]; exact v1)
      | (refine ⟨Nat.zero_le _, rfl, l1, fun j hj => ?_⟩
         have hj' : j < (lineL ⟨r, c, E, n⟩).length := hj
         show mvS _ ((lineL ⟨r, c, E, n⟩).getD j _) (((lineL ⟨r, c, E, n⟩).map (Sta.mv (pickN p.t 1000000))).getD j _)
         have h1 : (lineL ⟨r, c, E, n⟩)[j]? = some ((lineL ⟨r, c, E, n⟩)[j]) := List.getElem?_eq_getElem hj'
         simp only [List.getD, List.getElem?_map, h1, Option.map_some, Option.getD_some]
         exact mvS_of hg.small (L3 _ (List.getElem_mem hj')) ⟨by omega, by omega⟩)
      | (simp at *; done)
      | (simp at *; omega)
      | trace_state
theorem moves_ok : sMoves.OK Try.prog 8 := lawX XMv XMv_ok (fun _ _ _ _ => rfl) 100 moves_T moves_eq (fun _ => rfl) (fun _ => rfl) (fun p => p.x) moves_step
end Go.Proofs.Ytmcidfecepknpaa

namespace Go.Proofs.Ytmcidfecepknpaa
open Go Go.Sh Go.Proofs
set_option linter.unusedVariables false
set_option linter.unusedSimpArgs false
def later_t0 : Prop :=
  True ∧ (0 : Nat) = (0 : Nat) ∧ True ∧ True
theorem later_t0_t : later_t0 :=
  ⟨trivial, ⟨rfl, ⟨trivial, trivial⟩⟩⟩
def later_t1 (p : TX) : Prop :=
  (1 : Nat) = (1 : Nat) ∧ ((p.1.1.1 = p.1.1.1 ∧ p.1.1.2 = p.1.1.2 ∧ p.1.1.3 = p.1.1.3 ∧ p.1.1.4 = p.1.1.4 ∧ p.1.2 = p.1.2 ∧ p.1.3 = p.1.3 ∧ p.1.4 = p.1.4 ∧ p.1.5 = p.1.5 ∧ p.1.6 = p.1.6 ∧ p.1.7 = p.1.7 ∧ ((0 : Nat) = (0 : Nat) ∧ p.1.9 = p.1.9) ∧ True) ∧ True) ∧ (p.1.9 = p.1.9 ∧ ∀ (i : Nat), i < p.1.n → (p.1.8 i).1 = (p.1.8 i).1 ∧ (p.1.8 i).2 = (p.1.8 i).2 ∧ (p.1.8 i).3 = (p.1.8 i).3 ∧ True) ∧ True
theorem later_t1_t (p : TX) : later_t1 p :=
  ⟨rfl, ⟨⟨⟨rfl, ⟨rfl, ⟨rfl, ⟨rfl, ⟨rfl, ⟨rfl, ⟨rfl, ⟨rfl, ⟨rfl, ⟨rfl, ⟨⟨rfl, rfl⟩, trivial⟩⟩⟩⟩⟩⟩⟩⟩⟩⟩⟩, trivial⟩, ⟨⟨rfl, (fun _ => (fun _ => ⟨rfl, ⟨rfl, ⟨rfl, trivial⟩⟩⟩))⟩, trivial⟩⟩⟩
def later_t2 (p : TX) : Prop :=
  (0 : Nat) = (0 : Nat) ∧ (p.2 = p.2 ∧ (80 : Int) = (80 : Int) ∧ True) ∧ True
theorem later_t2_t (p : TX) : later_t2 p :=
  ⟨rfl, ⟨⟨rfl, ⟨rfl, trivial⟩⟩, trivial⟩⟩
def later_t3 (p : TX) (r : Rul) (c : Clm) (E : Nat → Evt) (n : Nat) : Prop :=
  (5 : Nat) = (5 : Nat) ∧ True ∧ (((if (0 : Int) > IntKind.i64.wrap (IntKind.i64.wrap (c.5 + pickN p.2 (80 : Int)) - (1 : Int)) then (0 : Int) else IntKind.i64.wrap (IntKind.i64.wrap (c.5 + pickN p.2 (80 : Int)) - (1 : Int))) = if (0 : Int) > IntKind.i64.wrap (IntKind.i64.wrap (c.5 + pickN p.2 (80 : Int)) - (1 : Int)) then (0 : Int) else IntKind.i64.wrap (IntKind.i64.wrap (c.5 + pickN p.2 (80 : Int)) - (1 : Int))) ∧ true = true ∧ ((0 : Nat) = (0 : Nat) ∧ (0 : Nat) = (0 : Nat)) ∧ ((0 : Nat) = (0 : Nat) ∧ (0 : Nat) = (0 : Nat)) ∧ n = n ∧ (0 : Nat) = (0 : Nat) ∧ (0 : Int) = (0 : Int) ∧ True) ∧ (n = n ∧ ∀ (i : Nat), i < n → (E i).1 = (E i).1 ∧ (E i).2 = (E i).2 ∧ (E i).3 = (E i).3 ∧ True) ∧ ((1 : Nat) = (1 : Nat) ∧ ∀ (i : Nat), i < (1 : Nat) → r.1 = r.1 ∧ r.2 = r.2 ∧ r.3 = r.3 ∧ r.4 = r.4 ∧ True) ∧ ((1 : Nat) = (1 : Nat) ∧ ∀ (i : Nat), i < (1 : Nat) → c.1 = c.1 ∧ c.2 = c.2 ∧ c.3 = c.3 ∧ c.4 = c.4 ∧ c.5 = c.5 ∧ c.6 = c.6 ∧ True) ∧ (0 : Nat) = (0 : Nat) ∧ True
theorem later_t3_t (p : TX) (r : Rul) (c : Clm) (E : Nat → Evt) (n : Nat) : later_t3 p r c E n :=
  ⟨rfl, ⟨trivial, ⟨⟨rfl, ⟨rfl, ⟨⟨rfl, rfl⟩, ⟨⟨rfl, rfl⟩, ⟨rfl, ⟨rfl, ⟨rfl, trivial⟩⟩⟩⟩⟩⟩⟩, ⟨⟨rfl, (fun _ => (fun _ => ⟨rfl, ⟨rfl, ⟨rfl, trivial⟩⟩⟩))⟩, ⟨⟨rfl, (fun _ => (fun _ => ⟨rfl, ⟨rfl, ⟨rfl, ⟨rfl, trivial⟩⟩⟩⟩))⟩, ⟨⟨rfl, (fun _ => (fun _ => ⟨rfl, ⟨rfl, ⟨rfl, ⟨rfl, ⟨rfl, ⟨rfl, trivial⟩⟩⟩⟩⟩⟩))⟩, ⟨rfl, trivial⟩⟩⟩⟩⟩⟩⟩
def later_t4 (p : TX) (r : Rul) (c : Clm) (E : Nat → Evt) (n : Nat) : Prop :=
  True ∧ (1 : Nat) = (1 : Nat) ∧ ((r.1 = r.1 ∧ r.2 = r.2 ∧ r.3 = r.3 ∧ r.4 = r.4 ∧ True) ∧ (c.1 = c.1 ∧ c.2 = c.2 ∧ c.3 = c.3 ∧ c.4 = c.4 ∧ c.5 = c.5 ∧ c.6 = c.6 ∧ True) ∧ ((0 : Nat) = (0 : Nat) ∧ n = n) ∧ ((if (0 : Int) > IntKind.i64.wrap (IntKind.i64.wrap (c.5 + pickN p.2 (80 : Int)) - (1 : Int)) then (0 : Int) else IntKind.i64.wrap (IntKind.i64.wrap (c.5 + pickN p.2 (80 : Int)) - (1 : Int))) = if (0 : Int) > IntKind.i64.wrap (IntKind.i64.wrap (c.5 + pickN p.2 (80 : Int)) - (1 : Int)) then (0 : Int) else IntKind.i64.wrap (IntKind.i64.wrap (c.5 + pickN p.2 (80 : Int)) - (1 : Int))) ∧ True) ∧ (n = n ∧ ∀ (i : Nat), i < n → (E i).1 = (E i).1 ∧ (E i).2 = (E i).2 ∧ (E i).3 = (E i).3 ∧ True) ∧ True
theorem later_t4_t (p : TX) (r : Rul) (c : Clm) (E : Nat → Evt) (n : Nat) : later_t4 p r c E n :=
  ⟨trivial, ⟨rfl, ⟨⟨⟨rfl, ⟨rfl, ⟨rfl, ⟨rfl, trivial⟩⟩⟩⟩, ⟨⟨rfl, ⟨rfl, ⟨rfl, ⟨rfl, ⟨rfl, ⟨rfl, trivial⟩⟩⟩⟩⟩⟩, ⟨⟨rfl, rfl⟩, ⟨rfl, trivial⟩⟩⟩⟩, ⟨⟨rfl, (fun _ => (fun _ => ⟨rfl, ⟨rfl, ⟨rfl, trivial⟩⟩⟩))⟩, trivial⟩⟩⟩⟩
def later_t5 (p : TX) (r : Rul) (c : Clm) (q : LaD) : Prop :=
  True ∧ (1 : Nat) = (1 : Nat) ∧ ((r.1 = r.1 ∧ r.2 = r.2 ∧ r.3 = r.3 ∧ r.4 = r.4 ∧ True) ∧ (c.1 = c.1 ∧ c.2 = c.2 ∧ c.3 = c.3 ∧ c.4 = c.4 ∧ c.5 = c.5 ∧ c.6 = c.6 ∧ True) ∧ ((0 : Nat) = (0 : Nat) ∧ q.2 = q.2) ∧ ((if (0 : Int) > IntKind.i64.wrap (IntKind.i64.wrap (c.5 + pickN p.2 (80 : Int)) - (1 : Int)) then (0 : Int) else IntKind.i64.wrap (IntKind.i64.wrap (c.5 + pickN p.2 (80 : Int)) - (1 : Int))) = if (0 : Int) > IntKind.i64.wrap (IntKind.i64.wrap (c.5 + pickN p.2 (80 : Int)) - (1 : Int)) then (0 : Int) else IntKind.i64.wrap (IntKind.i64.wrap (c.5 + pickN p.2 (80 : Int)) - (1 : Int))) ∧ True) ∧ (q.2 = q.2 ∧ ∀ (i : Nat), i < q.2 → (q.3 i).1 = (q.3 i).1 ∧ (q.3 i).2 = (q.3 i).2 ∧ (q.3 i).3 = (q.3 i).3 ∧ True) ∧ True
theorem later_t5_t (p : TX) (r : Rul) (c : Clm) (q : LaD) : later_t5 p r c q :=
  ⟨trivial, ⟨rfl, ⟨⟨⟨rfl, ⟨rfl, ⟨rfl, ⟨rfl, trivial⟩⟩⟩⟩, ⟨⟨rfl, ⟨rfl, ⟨rfl, ⟨rfl, ⟨rfl, ⟨rfl, trivial⟩⟩⟩⟩⟩⟩, ⟨⟨rfl, rfl⟩, ⟨rfl, trivial⟩⟩⟩⟩, ⟨⟨rfl, (fun _ => (fun _ => ⟨rfl, ⟨rfl, ⟨rfl, trivial⟩⟩⟩))⟩, trivial⟩⟩⟩⟩
def later_t6 (r : Rul) (c : Clm) (E : Nat → Evt) (n : Nat) : Prop :=
  True ∧ (1 : Nat) = (1 : Nat) ∧ ((r.1 = r.1 ∧ r.2 = r.2 ∧ r.3 = r.3 ∧ r.4 = r.4 ∧ True) ∧ (c.1 = c.1 ∧ c.2 = c.2 ∧ c.3 = c.3 ∧ c.4 = c.4 ∧ c.5 = c.5 ∧ c.6 = c.6 ∧ True) ∧ ((0 : Nat) = (0 : Nat) ∧ n = n) ∧ True) ∧ (n = n ∧ ∀ (i : Nat), i < n → (E i).1 = (E i).1 ∧ (E i).2 = (E i).2 ∧ (E i).3 = (E i).3 ∧ True) ∧ True
theorem later_t6_t (r : Rul) (c : Clm) (E : Nat → Evt) (n : Nat) : later_t6 r c E n :=
  ⟨trivial, ⟨rfl, ⟨⟨⟨rfl, ⟨rfl, ⟨rfl, ⟨rfl, trivial⟩⟩⟩⟩, ⟨⟨rfl, ⟨rfl, ⟨rfl, ⟨rfl, ⟨rfl, ⟨rfl, trivial⟩⟩⟩⟩⟩⟩, ⟨⟨rfl, rfl⟩, trivial⟩⟩⟩, ⟨⟨rfl, (fun _ => (fun _ => ⟨rfl, ⟨rfl, ⟨rfl, trivial⟩⟩⟩))⟩, trivial⟩⟩⟩⟩
def later_t7 (r : Rul) (c : Clm) (E : Nat → Evt) (n : Nat) : Prop :=
  (9 : Nat) = (9 : Nat) ∧ True ∧ (((0 : Nat) = (0 : Nat) ∧ (0 : Nat) = (0 : Nat)) ∧ ((0 : Nat) = (0 : Nat) ∧ (0 : Nat) = (0 : Nat)) ∧ n = n ∧ (voidL { r := r, c := c, E := E, n := n : CP }).length = (voidL { r := r, c := c, E := E, n := n : CP }).length ∧ (0 : Nat) = (0 : Nat) ∧ (0 : Int) = (0 : Int) ∧ (0 : Int) = (0 : Int) ∧ True) ∧ (n = n ∧ ∀ (i : Nat), i < n → (E i).1 = (E i).1 ∧ (E i).2 = (E i).2 ∧ (E i).3 = (E i).3 ∧ True) ∧ ((1 : Nat) = (1 : Nat) ∧ ∀ (i : Nat), i < (1 : Nat) → r.1 = r.1 ∧ r.2 = r.2 ∧ r.3 = r.3 ∧ r.4 = r.4 ∧ True) ∧ ((1 : Nat) = (1 : Nat) ∧ ∀ (i : Nat), i < (1 : Nat) → c.1 = c.1 ∧ c.2 = c.2 ∧ c.3 = c.3 ∧ c.4 = c.4 ∧ c.5 = c.5 ∧ c.6 = c.6 ∧ True) ∧ ((voidL { r := r, c := c, E := E, n := n : CP }).length = (voidL { r := r, c := c, E := E, n := n : CP }).length ∧ ∀ (i : Nat), i < (voidL { r := r, c := c, E := E, n := n : CP }).length → (voidL { r := r, c := c, E := E, n := n : CP }).getD i (0 : Int) = (voidL { r := r, c := c, E := E, n := n : CP }).getD i (0 : Int) ∧ True) ∧ (0 : Nat) = (0 : Nat) ∧ True
theorem later_t7_t (r : Rul) (c : Clm) (E : Nat → Evt) (n : Nat) : later_t7 r c E n :=
  ⟨rfl, ⟨trivial, ⟨⟨⟨rfl, rfl⟩, ⟨⟨rfl, rfl⟩, ⟨rfl, ⟨rfl, ⟨rfl, ⟨rfl, ⟨rfl, trivial⟩⟩⟩⟩⟩⟩⟩, ⟨⟨rfl, (fun _ => (fun _ => ⟨rfl, ⟨rfl, ⟨rfl, trivial⟩⟩⟩))⟩, ⟨⟨rfl, (fun _ => (fun _ => ⟨rfl, ⟨rfl, ⟨rfl, ⟨rfl, trivial⟩⟩⟩⟩))⟩, ⟨⟨rfl, (fun _ => (fun _ => ⟨rfl, ⟨rfl, ⟨rfl, ⟨rfl, ⟨rfl, ⟨rfl, trivial⟩⟩⟩⟩⟩⟩))⟩, ⟨⟨rfl, (fun _ => (fun _ => ⟨rfl, trivial⟩))⟩, ⟨rfl, trivial⟩⟩⟩⟩⟩⟩⟩⟩
def later_t8 (r : Rul) (c : Clm) (q : LbD) : Prop :=
  True ∧ (1 : Nat) = (1 : Nat) ∧ ((r.1 = r.1 ∧ r.2 = r.2 ∧ r.3 = r.3 ∧ r.4 = r.4 ∧ True) ∧ (c.1 = c.1 ∧ c.2 = c.2 ∧ c.3 = c.3 ∧ c.4 = c.4 ∧ c.5 = c.5 ∧ c.6 = c.6 ∧ True) ∧ ((0 : Nat) = (0 : Nat) ∧ q.3 = q.3) ∧ True) ∧ (q.3 = q.3 ∧ ∀ (i : Nat), i < q.3 → (q.4 i).1 = (q.4 i).1 ∧ (q.4 i).2 = (q.4 i).2 ∧ (q.4 i).3 = (q.4 i).3 ∧ True) ∧ True
theorem later_t8_t (r : Rul) (c : Clm) (q : LbD) : later_t8 r c q :=
  ⟨trivial, ⟨rfl, ⟨⟨⟨rfl, ⟨rfl, ⟨rfl, ⟨rfl, trivial⟩⟩⟩⟩, ⟨⟨rfl, ⟨rfl, ⟨rfl, ⟨rfl, ⟨rfl, ⟨rfl, trivial⟩⟩⟩⟩⟩⟩, ⟨⟨rfl, rfl⟩, trivial⟩⟩⟩, ⟨⟨rfl, (fun _ => (fun _ => ⟨rfl, ⟨rfl, ⟨rfl, trivial⟩⟩⟩))⟩, trivial⟩⟩⟩⟩
def later_t9 (r : Rul) (c : Clm) (E : Nat → Evt) (n : Nat) (q : LbD) : Prop :=
  (2 : Nat) = (2 : Nat) ∧ (((0 : Nat) = (0 : Nat) ∧ (lineL { r := r, c := c, E := E, n := n : CP }).length = (lineL { r := r, c := c, E := E, n := n : CP }).length) ∧ ((0 : Nat) = (0 : Nat) ∧ (lineL { r := r, c := c, E := q.4, n := q.3 : CP }).length = (lineL { r := r, c := c, E := q.4, n := q.3 : CP }).length) ∧ True) ∧ ((lineL { r := r, c := c, E := E, n := n : CP }).length = (lineL { r := r, c := c, E := E, n := n : CP }).length ∧ ∀ (i : Nat), i < (lineL { r := r, c := c, E := E, n := n : CP }).length → ((lineL { r := r, c := c, E := E, n := n : CP }).getD i { state := (0 : Int), since := (0 : Int), next := (0 : Int) : Sta }).1 = ((lineL { r := r, c := c, E := E, n := n : CP }).getD i { state := (0 : Int), since := (0 : Int), next := (0 : Int) : Sta }).1 ∧ ((lineL { r := r, c := c, E := E, n := n : CP }).getD i { state := (0 : Int), since := (0 : Int), next := (0 : Int) : Sta }).2 = ((lineL { r := r, c := c, E := E, n := n : CP }).getD i { state := (0 : Int), since := (0 : Int), next := (0 : Int) : Sta }).2 ∧ ((lineL { r := r, c := c, E := E, n := n : CP }).getD i { state := (0 : Int), since := (0 : Int), next := (0 : Int) : Sta }).3 = ((lineL { r := r, c := c, E := E, n := n : CP }).getD i { state := (0 : Int), since := (0 : Int), next := (0 : Int) : Sta }).3 ∧ True) ∧ ((lineL { r := r, c := c, E := q.4, n := q.3 : CP }).length = (lineL { r := r, c := c, E := q.4, n := q.3 : CP }).length ∧ ∀ (i : Nat), i < (lineL { r := r, c := c, E := q.4, n := q.3 : CP }).length → ((lineL { r := r, c := c, E := q.4, n := q.3 : CP }).getD i { state := (0 : Int), since := (0 : Int), next := (0 : Int) : Sta }).1 = ((lineL { r := r, c := c, E := q.4, n := q.3 : CP }).getD i { state := (0 : Int), since := (0 : Int), next := (0 : Int) : Sta }).1 ∧ ((lineL { r := r, c := c, E := q.4, n := q.3 : CP }).getD i { state := (0 : Int), since := (0 : Int), next := (0 : Int) : Sta }).2 = ((lineL { r := r, c := c, E := q.4, n := q.3 : CP }).getD i { state := (0 : Int), since := (0 : Int), next := (0 : Int) : Sta }).2 ∧ ((lineL { r := r, c := c, E := q.4, n := q.3 : CP }).getD i { state := (0 : Int), since := (0 : Int), next := (0 : Int) : Sta }).3 = ((lineL { r := r, c := c, E := q.4, n := q.3 : CP }).getD i { state := (0 : Int), since := (0 : Int), next := (0 : Int) : Sta }).3 ∧ True) ∧ True
theorem later_t9_t (r : Rul) (c : Clm) (E : Nat → Evt) (n : Nat) (q : LbD) : later_t9 r c E n q :=
  ⟨rfl, ⟨⟨⟨rfl, rfl⟩, ⟨⟨rfl, rfl⟩, trivial⟩⟩, ⟨⟨rfl, (fun _ => (fun _ => ⟨rfl, ⟨rfl, ⟨rfl, trivial⟩⟩⟩))⟩, ⟨⟨rfl, (fun _ => (fun _ => ⟨rfl, ⟨rfl, ⟨rfl, trivial⟩⟩⟩))⟩, trivial⟩⟩⟩⟩
def later_T (p : TX) (r : Rul) (c : Clm) (E : Nat → Evt) (n : Nat) : Prop :=
  later_t0 ∧ later_t1 p ∧ mEq_J p.1 r c E n ∧ ((0 : Int) < (80 : Int) ∧ later_t2 p) ∧ lL1.code = lL1.code ∧ (lL1_J { r := r, c := c, E := E, n := n, t := if (0 : Int) > IntKind.i64.wrap (IntKind.i64.wrap (c.5 + pickN p.2 (80 : Int)) - (1 : Int)) then (0 : Int) else IntKind.i64.wrap (IntKind.i64.wrap (c.5 + pickN p.2 (80 : Int)) - (1 : Int)) : LaP } { i := (0 : Nat), k := (0 : Nat), F := fun (x : Nat) => { kind := (0 : Int), at' := (0 : Int), reason := (0 : Int) : Evt } : LaD } ∧ later_t3 p r c E n) ∧ True ∧ ∀ (q : LaD), Leaf (q.k = stopN E (if (0 : Int) > IntKind.i64.wrap (IntKind.i64.wrap (c.5 + pickN p.2 (80 : Int)) - (1 : Int)) then (0 : Int) else IntKind.i64.wrap (IntKind.i64.wrap (c.5 + pickN p.2 (80 : Int)) - (1 : Int))) n ∧ ∀ (j : Nat), j < q.k → q.F j = E j) → later_t4 p r c E n ∧ later_t5 p r c q ∧ later_t6 r c E n ∧ ifB ((outErr { r := r, c := c, E := E, n := n, t := if (0 : Int) > IntKind.i64.wrap (IntKind.i64.wrap (c.5 + pickN p.2 (80 : Int)) - (1 : Int)) then (0 : Int) else IntKind.i64.wrap (IntKind.i64.wrap (c.5 + pickN p.2 (80 : Int)) - (1 : Int)) : OP } != (0 : Int)) == false) (ifB ((outErr { r := r, c := c, E := q.3, n := q.2, t := if (0 : Int) > IntKind.i64.wrap (IntKind.i64.wrap (c.5 + pickN p.2 (80 : Int)) - (1 : Int)) then (0 : Int) else IntKind.i64.wrap (IntKind.i64.wrap (c.5 + pickN p.2 (80 : Int)) - (1 : Int)) : OP } != (0 : Int)) == false) (ifB ((errOf { r := r, c := c, E := E, n := n : CP } != (0 : Int)) == false) (ifB (!((outcome { r := r, c := c, E := E, n := n, t := if (0 : Int) > IntKind.i64.wrap (IntKind.i64.wrap (c.5 + pickN p.2 (80 : Int)) - (1 : Int)) then (0 : Int) else IntKind.i64.wrap (IntKind.i64.wrap (c.5 + pickN p.2 (80 : Int)) - (1 : Int)) : OP }).1 == (outcome { r := r, c := c, E := q.3, n := q.2, t := if (0 : Int) > IntKind.i64.wrap (IntKind.i64.wrap (c.5 + pickN p.2 (80 : Int)) - (1 : Int)) then (0 : Int) else IntKind.i64.wrap (IntKind.i64.wrap (c.5 + pickN p.2 (80 : Int)) - (1 : Int)) : OP }).1 && ((outcome { r := r, c := c, E := E, n := n, t := if (0 : Int) > IntKind.i64.wrap (IntKind.i64.wrap (c.5 + pickN p.2 (80 : Int)) - (1 : Int)) then (0 : Int) else IntKind.i64.wrap (IntKind.i64.wrap (c.5 + pickN p.2 (80 : Int)) - (1 : Int)) : OP }).2 == (outcome { r := r, c := c, E := q.3, n := q.2, t := if (0 : Int) > IntKind.i64.wrap (IntKind.i64.wrap (c.5 + pickN p.2 (80 : Int)) - (1 : Int)) then (0 : Int) else IntKind.i64.wrap (IntKind.i64.wrap (c.5 + pickN p.2 (80 : Int)) - (1 : Int)) : OP }).2 && ((outcome { r := r, c := c, E := E, n := n, t := if (0 : Int) > IntKind.i64.wrap (IntKind.i64.wrap (c.5 + pickN p.2 (80 : Int)) - (1 : Int)) then (0 : Int) else IntKind.i64.wrap (IntKind.i64.wrap (c.5 + pickN p.2 (80 : Int)) - (1 : Int)) : OP }).3 == (outcome { r := r, c := c, E := q.3, n := q.2, t := if (0 : Int) > IntKind.i64.wrap (IntKind.i64.wrap (c.5 + pickN p.2 (80 : Int)) - (1 : Int)) then (0 : Int) else IntKind.i64.wrap (IntKind.i64.wrap (c.5 + pickN p.2 (80 : Int)) - (1 : Int)) : OP }).3 && true)))) (true = false ∧ True) (lL2.code = lL2.code ∧ (lL2_J { r := r, c := c, E := E, n := n, vn := (voidL { r := r, c := c, E := E, n := n : CP }).length, V := fun (i : Nat) => (voidL { r := r, c := c, E := E, n := n : CP }).getD i (0 : Int) : LbP } { i := (0 : Nat), k := (0 : Int), m := (0 : Nat), F := fun (x : Nat) => { kind := (0 : Int), at' := (0 : Int), reason := (0 : Int) : Evt } : LbD } ∧ later_t7 r c E n) ∧ True ∧ ∀ (q_1 : LbD), Leaf (q_1.k = (↑(vcnt { r := r, c := c, E := E, n := n, vn := (voidL { r := r, c := c, E := E, n := n : CP }).length, V := fun (i : Nat) => (voidL { r := r, c := c, E := E, n := n : CP }).getD i (0 : Int) : LbP } n) : Int) ∧ Kept r c E n (vcnt { r := r, c := c, E := E, n := n, vn := (voidL { r := r, c := c, E := E, n := n : CP }).length, V := fun (i : Nat) => (voidL { r := r, c := c, E := E, n := n : CP }).getD i (0 : Int) : LbP } n) q_1.m q_1.F) → later_t6 r c E n ∧ later_t8 r c q_1 ∧ later_t8 r c q_1 ∧ ifB ((q_1.2 == Int.ofNat (voidL { r := r, c := c, E := E, n := n : CP }).length) == true) (ifB ((errOf { r := r, c := c, E := E, n := n : CP } == (0 : Int)) == true) (ifB ((errOf { r := r, c := c, E := q_1.4, n := q_1.3 : CP } == (0 : Int)) == true) (ifB ((errOf { r := r, c := c, E := q_1.4, n := q_1.3 : CP } == (0 : Int)) == true) (ifB ((Int.ofNat (voidL { r := r, c := c, E := q_1.4, n := q_1.3 : CP }).length == (0 : Int)) == true) ((((lineL { r := r, c := c, E := E, n := n : CP }).length ≤ (100000000 : Nat) ∧ (lineL { r := r, c := c, E := q_1.4, n := q_1.3 : CP }).length ≤ (100000000 : Nat)) ∧ later_t9 r c E n q_1) ∧ true = sameL staEq { n := (lineL { r := r, c := c, E := E, n := n : CP }).length, V := fun (i : Nat) => (lineL { r := r, c := c, E := E, n := n : CP }).getD i { state := (0 : Int), since := (0 : Int), next := (0 : Int) : Sta }, m := (lineL { r := r, c := c, E := q_1.4, n := q_1.3 : CP }).length, W := fun (i : Nat) => (lineL { r := r, c := c, E := q_1.4, n := q_1.3 : CP }).getD i { state := (0 : Int), since := (0 : Int), next := (0 : Int) : Sta } : SL2 Sta } ∧ True) (true = false ∧ True)) (true = false ∧ True)) (true = false ∧ True)) (true = false ∧ True)) (true = false ∧ True))) (true = false ∧ True)) (true = false ∧ True)) (true = false ∧ True)
theorem later_eq (p : TX) (r : Rul) (c : Clm) (E : Nat → Evt) (n : Nat) : callBy (XLa r c E n) (exec (XLa r c E n) 100) 5 (sLater.A p) (sLater.H p) (RetC (sLater.H p).length (sLater.R p) (sLater.O p)) = later_T p r c E n := by kernel_rfl

theorem Good.upto {r : Rul} {c : Clm} {E F : Nat → Evt} {n k : Nat} (h : Good r c E n) {u : Int} (h0 : 0 ≤ u) (hb : u ≤ 20000000) (hk : k = stopN E u n) (hF : ∀ j, j < k → F j = E j) :
    outErr ⟨r, c, E, n, u⟩ = 0 ∧ outErr ⟨r, c, F, k, u⟩ = 0 ∧ outcome ⟨r, c, F, k, u⟩ = outcome ⟨r, c, E, n, u⟩ := by
  subst hk
  rcases Int.lt_or_le u c.asked with hlt | hge
  · have h1 := h.early h0 hlt
    have h2 := (h.cut (stopN_spec E u n).1 hF).early h0 hlt
    exact ⟨h1.1, h2.1, by rw [h1.2, h2.2]⟩
  · have h1 := h.first hge hb hF
    exact ⟨(h.out hge hb).1, h1.1, h1.2⟩
theorem staEq_refl (s : Sta) : staEq s s = true := by simp [staEq]
theorem sameS_refl {L M : List Sta} (h : M = L) : sameL staEq (⟨L.length, fun i => L.getD i ⟨0, 0, 0⟩, M.length, fun i => M.getD i ⟨0, 0, 0⟩⟩ : SL2 Sta) = true := by
  subst h
  simp [sameL, staEq_refl]
theorem Good.line_le {r : Rul} {c : Clm} {E : Nat → Evt} {n : Nat} (h : Good r c E n) (hn : n ≤ 20) : (lineL ⟨r, c, E, n⟩).length ≤ 1000 := by
  have h1 := line_len r c E (begins r 1 c.asked) n
  have h2 := aloneL_len r 4611686018427387904 4 (runN r c E (begins r 1 c.asked) n)
  simp only [lineL, h.ok, List.length_append]; omega
set_option maxHeartbeats 4000000 in
theorem later_step (p : TX) (hJ : sLater.J p) : later_T p (mR p.x) (mC p.x) (mE p.x) (mN p.x) := by
  obtain ⟨hx, ht⟩ := hJ
  obtain ⟨hg, hn, ha⟩ := made_good hx
  have hm : mEq_J p.x (mR p.x) (mC p.x) (mE p.x) (mN p.x) := ⟨rfl, rfl, rfl, rfl⟩
  have hask := (mC_ok hx).2
  generalize mR p.x = r at hg hm ⊢
  generalize mC p.x = c at hg hm ha hask ⊢
  generalize mE p.x = E at hg hm ⊢
  generalize mN p.x = n at hg hm hn ⊢
  have hb := pickN_b ht (n := 80) (by omega)
  have w1 : IntKind.i64.wrap (c.asked + pickN p.t 80) = c.asked + pickN p.t 80 := w64_small (by omega) (by omega)
  have w2 : IntKind.i64.wrap (c.asked + pickN p.t 80 - 1) = c.asked + pickN p.t 80 - 1 := w64_small (by omega) (by omega)
  have hu : ∃ u : Int, (0 ≤ u ∧ u ≤ 2000) ∧ (if (0 : Int) > c.asked + pickN p.t 80 - 1 then 0 else c.asked + pickN p.t 80 - 1) = u := ⟨_, by split <;> omega, rfl⟩
  obtain ⟨u, hu1, hu2⟩ := hu
  have e1 : errOf ⟨r, c, E, n⟩ = 0 := by simp only [errOf, hg.ok]
  unfold later_T
  simp only [w1, w2, hu2]
  repeat' (first | with_reducible refine And.intro ?_ ?_ | with_reducible refine fun (q : LaD) hq => ?_)
  all_goals try first | with_reducible exact later_t0_t | with_reducible exact later_t1_t _ | with_reducible exact later_t2_t _ | with_reducible exact later_t3_t _ _ _ _ _ | with_reducible exact later_t4_t _ _ _ _ _ | with_reducible exact later_t5_t _ _ _ _ | with_reducible exact later_t6_t _ _ _ _ | with_reducible exact later_t7_t _ _ _ _ | with_reducible exact later_t8_t _ _ _ | with_reducible exact later_t9_t _ _ _ _ _ | with_reducible rfl | with_reducible exact trivial | with_reducible exact List.Perm.refl _ | decide
  · exact hm
  · exact ⟨Nat.zero_le _, hn, hg, Nat.le_refl _, (fun j hj => absurd hj (Nat.not_lt_zero j)), (fun j hj => absurd hj (Nat.not_lt_zero j)), fun h => absurd h (Nat.lt_irrefl 0)⟩
  · obtain ⟨o1, o2, o3⟩ := hg.upto hu1.1 (by omega) hq.1 hq.2
    have hself : (!((outcome ⟨r, c, E, n, u⟩).1 == (outcome ⟨r, c, E, n, u⟩).1 && ((outcome ⟨r, c, E, n, u⟩).2 == (outcome ⟨r, c, E, n, u⟩).2 && ((outcome ⟨r, c, E, n, u⟩).3 == (outcome ⟨r, c, E, n, u⟩).3 && true)))) = false := by simp
    simp only [o1, o2, o3, e1, hself]
    repeat' (first | with_reducible refine ifB_split (fun _ => ?_) (fun _ => ?_) | with_reducible refine And.intro ?_ ?_ | with_reducible refine fun (q : LbD) hq => ?_)
    all_goals try first | with_reducible exact later_t0_t | with_reducible exact later_t1_t _ | with_reducible exact later_t2_t _ | with_reducible exact later_t3_t _ _ _ _ _ | with_reducible exact later_t4_t _ _ _ _ _ | with_reducible exact later_t5_t _ _ _ _ | with_reducible exact later_t6_t _ _ _ _ | with_reducible exact later_t7_t _ _ _ _ | with_reducible exact later_t8_t _ _ _ | with_reducible exact later_t9_t _ _ _ _ _ | with_reducible rfl | with_reducible exact trivial | with_reducible exact List.Perm.refl _ | decide
    all_goals first
      | (exfalso; simp at *; done)
      | exact ⟨Nat.zero_le _, hn, hg, ⟨rfl, fun j _ => rfl⟩, rfl, Kept.zero hg _⟩
      | (obtain ⟨k1, k2⟩ := hq
         obtain ⟨l1, l2, l3⟩ := k2.lists hg
         have hgF := k2.good hg (Nat.le_refl _)
         have e2 : errOf ⟨r, c, q.F, q.m⟩ = 0 := by simp only [errOf, hgF.ok]
         first
         | (have := hg.line_le (by omega); show _ ≤ 100000000; omega)
         | (rw [l1]; have := hg.line_le (by omega); show _ ≤ 100000000; omega)
         | exact (sameS_refl l1).symm
         | (exfalso; rw [l3] at k1; simp_all; done))
      | trace_state
theorem later_ok : sLater.OK Try.prog 5 := lawX XLa XLa_ok (fun _ _ _ _ => rfl) 100 later_T later_eq (fun _ => rfl) (fun _ => rfl) (fun p => p.x) later_step
end Go.Proofs.Ytmcidfecepknpaa

namespace Go.Proofs.Ytmcidfecepknpaa
open Go Go.Sh Go.Proofs
set_option linter.unusedVariables false
set_option linter.unusedSimpArgs false
def timelines_t0 : Prop :=
  True ∧ (0 : Nat) = (0 : Nat) ∧ True ∧ True
theorem timelines_t0_t : timelines_t0 :=
  ⟨trivial, ⟨rfl, ⟨trivial, trivial⟩⟩⟩
def timelines_t1 (p : TX) : Prop :=
  (1 : Nat) = (1 : Nat) ∧ ((p.1.1.1 = p.1.1.1 ∧ p.1.1.2 = p.1.1.2 ∧ p.1.1.3 = p.1.1.3 ∧ p.1.1.4 = p.1.1.4 ∧ p.1.2 = p.1.2 ∧ p.1.3 = p.1.3 ∧ p.1.4 = p.1.4 ∧ p.1.5 = p.1.5 ∧ p.1.6 = p.1.6 ∧ p.1.7 = p.1.7 ∧ ((0 : Nat) = (0 : Nat) ∧ p.1.9 = p.1.9) ∧ True) ∧ True) ∧ (p.1.9 = p.1.9 ∧ ∀ (i : Nat), i < p.1.n → (p.1.8 i).1 = (p.1.8 i).1 ∧ (p.1.8 i).2 = (p.1.8 i).2 ∧ (p.1.8 i).3 = (p.1.8 i).3 ∧ True) ∧ True
theorem timelines_t1_t (p : TX) : timelines_t1 p :=
  ⟨rfl, ⟨⟨⟨rfl, ⟨rfl, ⟨rfl, ⟨rfl, ⟨rfl, ⟨rfl, ⟨rfl, ⟨rfl, ⟨rfl, ⟨rfl, ⟨⟨rfl, rfl⟩, trivial⟩⟩⟩⟩⟩⟩⟩⟩⟩⟩⟩, trivial⟩, ⟨⟨rfl, (fun _ => (fun _ => ⟨rfl, ⟨rfl, ⟨rfl, trivial⟩⟩⟩))⟩, trivial⟩⟩⟩
def timelines_t2 (r : Rul) (c : Clm) (E : Nat → Evt) (n : Nat) : Prop :=
  True ∧ (1 : Nat) = (1 : Nat) ∧ ((r.1 = r.1 ∧ r.2 = r.2 ∧ r.3 = r.3 ∧ r.4 = r.4 ∧ True) ∧ (c.1 = c.1 ∧ c.2 = c.2 ∧ c.3 = c.3 ∧ c.4 = c.4 ∧ c.5 = c.5 ∧ c.6 = c.6 ∧ True) ∧ ((0 : Nat) = (0 : Nat) ∧ n = n) ∧ True) ∧ (n = n ∧ ∀ (i : Nat), i < n → (E i).1 = (E i).1 ∧ (E i).2 = (E i).2 ∧ (E i).3 = (E i).3 ∧ True) ∧ True
theorem timelines_t2_t (r : Rul) (c : Clm) (E : Nat → Evt) (n : Nat) : timelines_t2 r c E n :=
  ⟨trivial, ⟨rfl, ⟨⟨⟨rfl, ⟨rfl, ⟨rfl, ⟨rfl, trivial⟩⟩⟩⟩, ⟨⟨rfl, ⟨rfl, ⟨rfl, ⟨rfl, ⟨rfl, ⟨rfl, trivial⟩⟩⟩⟩⟩⟩, ⟨⟨rfl, rfl⟩, trivial⟩⟩⟩, ⟨⟨rfl, (fun _ => (fun _ => ⟨rfl, ⟨rfl, ⟨rfl, trivial⟩⟩⟩))⟩, trivial⟩⟩⟩⟩
def timelines_t3 (r : Rul) (c : Clm) (E : Nat → Evt) (n : Nat) : Prop :=
  True ∧ (0 : Nat) = (0 : Nat) ∧ ((((lineL { r := r, c := c, E := E, n := n : CP }).getD (IntKind.i64.wrap (Int.ofNat (lineL { r := r, c := c, E := E, n := n : CP }).length - (1 : Int))).toNat { state := (0 : Int), since := (0 : Int), next := (0 : Int) : Sta }).1 = ((lineL { r := r, c := c, E := E, n := n : CP }).getD (IntKind.i64.wrap (Int.ofNat (lineL { r := r, c := c, E := E, n := n : CP }).length - (1 : Int))).toNat { state := (0 : Int), since := (0 : Int), next := (0 : Int) : Sta }).1 ∧ ((lineL { r := r, c := c, E := E, n := n : CP }).getD (IntKind.i64.wrap (Int.ofNat (lineL { r := r, c := c, E := E, n := n : CP }).length - (1 : Int))).toNat { state := (0 : Int), since := (0 : Int), next := (0 : Int) : Sta }).2 = ((lineL { r := r, c := c, E := E, n := n : CP }).getD (IntKind.i64.wrap (Int.ofNat (lineL { r := r, c := c, E := E, n := n : CP }).length - (1 : Int))).toNat { state := (0 : Int), since := (0 : Int), next := (0 : Int) : Sta }).2 ∧ ((lineL { r := r, c := c, E := E, n := n : CP }).getD (IntKind.i64.wrap (Int.ofNat (lineL { r := r, c := c, E := E, n := n : CP }).length - (1 : Int))).toNat { state := (0 : Int), since := (0 : Int), next := (0 : Int) : Sta }).3 = ((lineL { r := r, c := c, E := E, n := n : CP }).getD (IntKind.i64.wrap (Int.ofNat (lineL { r := r, c := c, E := E, n := n : CP }).length - (1 : Int))).toNat { state := (0 : Int), since := (0 : Int), next := (0 : Int) : Sta }).3 ∧ True) ∧ True) ∧ True
theorem timelines_t3_t (r : Rul) (c : Clm) (E : Nat → Evt) (n : Nat) : timelines_t3 r c E n :=
  ⟨trivial, ⟨rfl, ⟨⟨⟨rfl, ⟨rfl, ⟨rfl, trivial⟩⟩⟩, trivial⟩, trivial⟩⟩⟩
def timelines_t4 (p : TX) (r : Rul) (c : Clm) (E : Nat → Evt) (n : Nat) : Prop :=
  (7 : Nat) = (7 : Nat) ∧ True ∧ (p.2 = p.2 ∧ ((0 : Nat) = (0 : Nat) ∧ (0 : Nat) = (0 : Nat)) ∧ ((0 : Nat) = (0 : Nat) ∧ (0 : Nat) = (0 : Nat)) ∧ n = n ∧ (lineL { r := r, c := c, E := E, n := n : CP }).length = (lineL { r := r, c := c, E := E, n := n : CP }).length ∧ (voidL { r := r, c := c, E := E, n := n : CP }).length = (voidL { r := r, c := c, E := E, n := n : CP }).length ∧ (0 : Int) = (0 : Int) ∧ (1 : Int) = (1 : Int) ∧ True) ∧ (n = n ∧ ∀ (i : Nat), i < n → (E i).1 = (E i).1 ∧ (E i).2 = (E i).2 ∧ (E i).3 = (E i).3 ∧ True) ∧ ((1 : Nat) = (1 : Nat) ∧ ∀ (i : Nat), i < (1 : Nat) → r.1 = r.1 ∧ r.2 = r.2 ∧ r.3 = r.3 ∧ r.4 = r.4 ∧ True) ∧ ((1 : Nat) = (1 : Nat) ∧ ∀ (i : Nat), i < (1 : Nat) → c.1 = c.1 ∧ c.2 = c.2 ∧ c.3 = c.3 ∧ c.4 = c.4 ∧ c.5 = c.5 ∧ c.6 = c.6 ∧ True) ∧ ((lineL { r := r, c := c, E := E, n := n : CP }).length = (lineL { r := r, c := c, E := E, n := n : CP }).length ∧ ∀ (i : Nat), i < (lineL { r := r, c := c, E := E, n := n : CP }).length → ((lineL { r := r, c := c, E := E, n := n : CP }).getD i { state := (0 : Int), since := (0 : Int), next := (0 : Int) : Sta }).1 = ((lineL { r := r, c := c, E := E, n := n : CP }).getD i { state := (0 : Int), since := (0 : Int), next := (0 : Int) : Sta }).1 ∧ ((lineL { r := r, c := c, E := E, n := n : CP }).getD i { state := (0 : Int), since := (0 : Int), next := (0 : Int) : Sta }).2 = ((lineL { r := r, c := c, E := E, n := n : CP }).getD i { state := (0 : Int), since := (0 : Int), next := (0 : Int) : Sta }).2 ∧ ((lineL { r := r, c := c, E := E, n := n : CP }).getD i { state := (0 : Int), since := (0 : Int), next := (0 : Int) : Sta }).3 = ((lineL { r := r, c := c, E := E, n := n : CP }).getD i { state := (0 : Int), since := (0 : Int), next := (0 : Int) : Sta }).3 ∧ True) ∧ ((voidL { r := r, c := c, E := E, n := n : CP }).length = (voidL { r := r, c := c, E := E, n := n : CP }).length ∧ ∀ (i : Nat), i < (voidL { r := r, c := c, E := E, n := n : CP }).length → (voidL { r := r, c := c, E := E, n := n : CP }).getD i (0 : Int) = (voidL { r := r, c := c, E := E, n := n : CP }).getD i (0 : Int) ∧ True) ∧ True
theorem timelines_t4_t (p : TX) (r : Rul) (c : Clm) (E : Nat → Evt) (n : Nat) : timelines_t4 p r c E n :=
  ⟨rfl, ⟨trivial, ⟨⟨rfl, ⟨⟨rfl, rfl⟩, ⟨⟨rfl, rfl⟩, ⟨rfl, ⟨rfl, ⟨rfl, ⟨rfl, ⟨rfl, trivial⟩⟩⟩⟩⟩⟩⟩⟩, ⟨⟨rfl, (fun _ => (fun _ => ⟨rfl, ⟨rfl, ⟨rfl, trivial⟩⟩⟩))⟩, ⟨⟨rfl, (fun _ => (fun _ => ⟨rfl, ⟨rfl, ⟨rfl, ⟨rfl, trivial⟩⟩⟩⟩))⟩, ⟨⟨rfl, (fun _ => (fun _ => ⟨rfl, ⟨rfl, ⟨rfl, ⟨rfl, ⟨rfl, ⟨rfl, trivial⟩⟩⟩⟩⟩⟩))⟩, ⟨⟨rfl, (fun _ => (fun _ => ⟨rfl, ⟨rfl, ⟨rfl, trivial⟩⟩⟩))⟩, ⟨⟨rfl, (fun _ => (fun _ => ⟨rfl, trivial⟩))⟩, trivial⟩⟩⟩⟩⟩⟩⟩⟩
def timelines_t5 (p : TX) : Prop :=
  (0 : Nat) = (0 : Nat) ∧ (p.2 = p.2 ∧ (80 : Int) = (80 : Int) ∧ True) ∧ True
theorem timelines_t5_t (p : TX) : timelines_t5 p :=
  ⟨rfl, ⟨⟨rfl, ⟨rfl, trivial⟩⟩, trivial⟩⟩
def timelines_t6 (p : TX) (r : Rul) (c : Clm) (E : Nat → Evt) (n : Nat) : Prop :=
  (8 : Nat) = (8 : Nat) ∧ True ∧ (IntKind.i64.wrap (c.5 + pickN p.2 (80 : Int)) = IntKind.i64.wrap (c.5 + pickN p.2 (80 : Int)) ∧ ((0 : Nat) = (0 : Nat) ∧ (0 : Nat) = (0 : Nat)) ∧ ((0 : Nat) = (0 : Nat) ∧ (0 : Nat) = (0 : Nat)) ∧ n = n ∧ (lineL { r := r, c := c, E := E, n := n : CP }).length = (lineL { r := r, c := c, E := E, n := n : CP }).length ∧ ((0 : Nat) = (0 : Nat) ∧ (0 : Nat) = (0 : Nat)) ∧ (0 : Int) = (0 : Int) ∧ True) ∧ (n = n ∧ ∀ (i : Nat), i < n → (E i).1 = (E i).1 ∧ (E i).2 = (E i).2 ∧ (E i).3 = (E i).3 ∧ True) ∧ ((1 : Nat) = (1 : Nat) ∧ ∀ (i : Nat), i < (1 : Nat) → r.1 = r.1 ∧ r.2 = r.2 ∧ r.3 = r.3 ∧ r.4 = r.4 ∧ True) ∧ ((1 : Nat) = (1 : Nat) ∧ ∀ (i : Nat), i < (1 : Nat) → c.1 = c.1 ∧ c.2 = c.2 ∧ c.3 = c.3 ∧ c.4 = c.4 ∧ c.5 = c.5 ∧ c.6 = c.6 ∧ True) ∧ ((lineL { r := r, c := c, E := E, n := n : CP }).length = (lineL { r := r, c := c, E := E, n := n : CP }).length ∧ ∀ (i : Nat), i < (lineL { r := r, c := c, E := E, n := n : CP }).length → ((lineL { r := r, c := c, E := E, n := n : CP }).getD i { state := (0 : Int), since := (0 : Int), next := (0 : Int) : Sta }).1 = ((lineL { r := r, c := c, E := E, n := n : CP }).getD i { state := (0 : Int), since := (0 : Int), next := (0 : Int) : Sta }).1 ∧ ((lineL { r := r, c := c, E := E, n := n : CP }).getD i { state := (0 : Int), since := (0 : Int), next := (0 : Int) : Sta }).2 = ((lineL { r := r, c := c, E := E, n := n : CP }).getD i { state := (0 : Int), since := (0 : Int), next := (0 : Int) : Sta }).2 ∧ ((lineL { r := r, c := c, E := E, n := n : CP }).getD i { state := (0 : Int), since := (0 : Int), next := (0 : Int) : Sta }).3 = ((lineL { r := r, c := c, E := E, n := n : CP }).getD i { state := (0 : Int), since := (0 : Int), next := (0 : Int) : Sta }).3 ∧ True) ∧ ((1 : Nat) = (1 : Nat) ∧ ∀ (i : Nat), i < (1 : Nat) → ((lineL { r := r, c := c, E := E, n := n : CP }).getD (0 : Nat) { state := (0 : Int), since := (0 : Int), next := (0 : Int) : Sta }).1 = ((lineL { r := r, c := c, E := E, n := n : CP }).getD (0 : Nat) { state := (0 : Int), since := (0 : Int), next := (0 : Int) : Sta }).1 ∧ ((lineL { r := r, c := c, E := E, n := n : CP }).getD (0 : Nat) { state := (0 : Int), since := (0 : Int), next := (0 : Int) : Sta }).2 = ((lineL { r := r, c := c, E := E, n := n : CP }).getD (0 : Nat) { state := (0 : Int), since := (0 : Int), next := (0 : Int) : Sta }).2 ∧ ((lineL { r := r, c := c, E := E, n := n : CP }).getD (0 : Nat) { state := (0 : Int), since := (0 : Int), next := (0 : Int) : Sta }).3 = ((lineL { r := r, c := c, E := E, n := n : CP }).getD (0 : Nat) { state := (0 : Int), since := (0 : Int), next := (0 : Int) : Sta }).3 ∧ True) ∧ True
theorem timelines_t6_t (p : TX) (r : Rul) (c : Clm) (E : Nat → Evt) (n : Nat) : timelines_t6 p r c E n :=
  ⟨rfl, ⟨trivial, ⟨⟨rfl, ⟨⟨rfl, rfl⟩, ⟨⟨rfl, rfl⟩, ⟨rfl, ⟨rfl, ⟨⟨rfl, rfl⟩, ⟨rfl, trivial⟩⟩⟩⟩⟩⟩⟩, ⟨⟨rfl, (fun _ => (fun _ => ⟨rfl, ⟨rfl, ⟨rfl, trivial⟩⟩⟩))⟩, ⟨⟨rfl, (fun _ => (fun _ => ⟨rfl, ⟨rfl, ⟨rfl, ⟨rfl, trivial⟩⟩⟩⟩))⟩, ⟨⟨rfl, (fun _ => (fun _ => ⟨rfl, ⟨rfl, ⟨rfl, ⟨rfl, ⟨rfl, ⟨rfl, trivial⟩⟩⟩⟩⟩⟩))⟩, ⟨⟨rfl, (fun _ => (fun _ => ⟨rfl, ⟨rfl, ⟨rfl, trivial⟩⟩⟩))⟩, ⟨⟨rfl, (fun _ => (fun _ => ⟨rfl, ⟨rfl, ⟨rfl, trivial⟩⟩⟩))⟩, trivial⟩⟩⟩⟩⟩⟩⟩⟩
def timelines_t7 (p : TX) (r : Rul) (c : Clm) (E : Nat → Evt) (n : Nat) : Prop :=
  True ∧ (1 : Nat) = (1 : Nat) ∧ ((r.1 = r.1 ∧ r.2 = r.2 ∧ r.3 = r.3 ∧ r.4 = r.4 ∧ True) ∧ (c.1 = c.1 ∧ c.2 = c.2 ∧ c.3 = c.3 ∧ c.4 = c.4 ∧ c.5 = c.5 ∧ c.6 = c.6 ∧ True) ∧ ((0 : Nat) = (0 : Nat) ∧ n = n) ∧ IntKind.i64.wrap (c.5 + pickN p.2 (80 : Int)) = IntKind.i64.wrap (c.5 + pickN p.2 (80 : Int)) ∧ True) ∧ (n = n ∧ ∀ (i : Nat), i < n → (E i).1 = (E i).1 ∧ (E i).2 = (E i).2 ∧ (E i).3 = (E i).3 ∧ True) ∧ True
theorem timelines_t7_t (p : TX) (r : Rul) (c : Clm) (E : Nat → Evt) (n : Nat) : timelines_t7 p r c E n :=
  ⟨trivial, ⟨rfl, ⟨⟨⟨rfl, ⟨rfl, ⟨rfl, ⟨rfl, trivial⟩⟩⟩⟩, ⟨⟨rfl, ⟨rfl, ⟨rfl, ⟨rfl, ⟨rfl, ⟨rfl, trivial⟩⟩⟩⟩⟩⟩, ⟨⟨rfl, rfl⟩, ⟨rfl, trivial⟩⟩⟩⟩, ⟨⟨rfl, (fun _ => (fun _ => ⟨rfl, ⟨rfl, ⟨rfl, trivial⟩⟩⟩))⟩, trivial⟩⟩⟩⟩
def timelines_T (p : TX) (r : Rul) (c : Clm) (E : Nat → Evt) (n : Nat) : Prop :=
  timelines_t0 ∧ timelines_t1 p ∧ mEq_J p.1 r c E n ∧ timelines_t2 r c E n ∧ timelines_t2 r c E n ∧ ops607 = ops607 ∧ ifB ((errOf { r := r, c := c, E := E, n := n : CP } != (0 : Int)) == false) (ifB ((errOf { r := r, c := c, E := E, n := n : CP } != (0 : Int)) == false) (ifB ((Int.ofNat (lineL { r := r, c := c, E := E, n := n : CP }).length == (0 : Int)) == false) (ifB (decide ((0 : Int) < (↑(lineL { r := r, c := c, E := E, n := n : CP }).length : Int))) (ifB (decide ((0 : Nat) < (lineL { r := r, c := c, E := E, n := n : CP }).length) && true) (ifB ((!(((lineL { r := r, c := c, E := E, n := n : CP }).getD (0 : Nat) { state := (0 : Int), since := (0 : Int), next := (0 : Int) : Sta }).1 == (1 : Int) && (((lineL { r := r, c := c, E := E, n := n : CP }).getD (0 : Nat) { state := (0 : Int), since := (0 : Int), next := (0 : Int) : Sta }).2 == c.5 && (((lineL { r := r, c := c, E := E, n := n : CP }).getD (0 : Nat) { state := (0 : Int), since := (0 : Int), next := (0 : Int) : Sta }).3 == IntKind.i64.wrap (c.5 + r.1) && true)))) == false) (ifB (decide ((0 : Int) ≤ IntKind.i64.wrap (Int.ofNat (lineL { r := r, c := c, E := E, n := n : CP }).length - (1 : Int))) && decide (IntKind.i64.wrap (Int.ofNat (lineL { r := r, c := c, E := E, n := n : CP }).length - (1 : Int)) < (↑(lineL { r := r, c := c, E := E, n := n : CP }).length : Int))) (ifB (decide ((IntKind.i64.wrap (Int.ofNat (lineL { r := r, c := c, E := E, n := n : CP }).length - (1 : Int))).toNat < (lineL { r := r, c := c, E := E, n := n : CP }).length) && true) (timelines_t3 r c E n ∧ ifB (!(decide ((5 : Int) ≤ ((lineL { r := r, c := c, E := E, n := n : CP }).getD (IntKind.i64.wrap (Int.ofNat (lineL { r := r, c := c, E := E, n := n : CP }).length - (1 : Int))).toNat { state := (0 : Int), since := (0 : Int), next := (0 : Int) : Sta }).state) && ((lineL { r := r, c := c, E := E, n := n : CP }).getD (IntKind.i64.wrap (Int.ofNat (lineL { r := r, c := c, E := E, n := n : CP }).length - (1 : Int))).toNat { state := (0 : Int), since := (0 : Int), next := (0 : Int) : Sta }).3 == (-1 : Int))) (true = false ∧ True) (lT1.code = lT1.code ∧ (lT1_J { r := r, c := c, E := E, n := n, t := p.2, ln := (lineL { r := r, c := c, E := E, n := n : CP }).length, V := fun (i : Nat) => (lineL { r := r, c := c, E := E, n := n : CP }).getD i { state := (0 : Int), since := (0 : Int), next := (0 : Int) : Sta }, vn := (voidL { r := r, c := c, E := E, n := n : CP }).length, U := fun (i : Nat) => (voidL { r := r, c := c, E := E, n := n : CP }).getD i (0 : Int) : TlP } { i := (1 : Nat), al := (0 : Int) : TlD } ∧ timelines_t4 p r c E n) ∧ True ∧ ∀ (q : Int), Leaf (q = (↑(cntP (fun (i : Nat) => (lineL { r := r, c := c, E := E, n := n : CP }).getD i { state := (0 : Int), since := (0 : Int), next := (0 : Int) : Sta }) ((lineL { r := r, c := c, E := E, n := n : CP }).length - (1 : Nat))) : Int)) → ifB (Int.ofNat (lineL { r := r, c := c, E := E, n := n : CP }).length != IntKind.i64.wrap (IntKind.i64.wrap (IntKind.i64.wrap ((1 : Int) + q) + Int.ofNat n) - Int.ofNat (voidL { r := r, c := c, E := E, n := n : CP }).length)) (true = false ∧ True) (((0 : Int) < (80 : Int) ∧ timelines_t5 p) ∧ ifB (decide ((0 : Int) < (↑(lineL { r := r, c := c, E := E, n := n : CP }).length : Int))) (ifB (decide ((0 : Nat) < (lineL { r := r, c := c, E := E, n := n : CP }).length) && true) (lT3.code = lT3.code ∧ (lT3_J { r := r, c := c, E := E, n := n, t := IntKind.i64.wrap (c.5 + pickN p.2 (80 : Int)), ln := (lineL { r := r, c := c, E := E, n := n : CP }).length, V := fun (i : Nat) => (lineL { r := r, c := c, E := E, n := n : CP }).getD i { state := (0 : Int), since := (0 : Int), next := (0 : Int) : Sta } : TwP } { i := (0 : Nat), w := (lineL { r := r, c := c, E := E, n := n : CP }).getD (0 : Nat) { state := (0 : Int), since := (0 : Int), next := (0 : Int) : Sta } : TwD } ∧ timelines_t6 p r c E n) ∧ True ∧ ∀ (q_1 : Sta), Leaf (q_1 = wantL (IntKind.i64.wrap (c.5 + pickN p.2 (80 : Int))) ((lineL { r := r, c := c, E := E, n := n : CP }).getD (0 : Nat) { state := (0 : Int), since := (0 : Int), next := (0 : Int) : Sta }) (Lst (lineL { r := r, c := c, E := E, n := n : CP }).length fun (i : Nat) => (lineL { r := r, c := c, E := E, n := n : CP }).getD i { state := (0 : Int), since := (0 : Int), next := (0 : Int) : Sta })) → timelines_t7 p r c E n ∧ timelines_t7 p r c E n ∧ ifB (((outcome { r := r, c := c, E := E, n := n, t := IntKind.i64.wrap (c.5 + pickN p.2 (80 : Int)) : OP }).1 == (4 : Int)) == false) (ifB ((outErr { r := r, c := c, E := E, n := n, t := IntKind.i64.wrap (c.5 + pickN p.2 (80 : Int)) : OP } == (0 : Int)) == true) (ifB ((outErr { r := r, c := c, E := E, n := n, t := IntKind.i64.wrap (c.5 + pickN p.2 (80 : Int)) : OP } == (0 : Int)) == true) (ifB (((outcome { r := r, c := c, E := E, n := n, t := IntKind.i64.wrap (c.5 + pickN p.2 (80 : Int)) : OP }).1 == q_1.1 && ((outcome { r := r, c := c, E := E, n := n, t := IntKind.i64.wrap (c.5 + pickN p.2 (80 : Int)) : OP }).2 == q_1.2 && ((outcome { r := r, c := c, E := E, n := n, t := IntKind.i64.wrap (c.5 + pickN p.2 (80 : Int)) : OP }).3 == q_1.3 && true))) == true) (ifB (((withN { r := r, c := c, E := E, n := n, t := IntKind.i64.wrap (c.5 + pickN p.2 (80 : Int)) : OP } == c.3) == ((outcome { r := r, c := c, E := E, n := n, t := IntKind.i64.wrap (c.5 + pickN p.2 (80 : Int)) : OP }).1 == (5 : Int))) == true) (true = ((withN { r := r, c := c, E := E, n := n, t := IntKind.i64.wrap (c.5 + pickN p.2 (80 : Int)) : OP } == c.2) == !(outcome { r := r, c := c, E := E, n := n, t := IntKind.i64.wrap (c.5 + pickN p.2 (80 : Int)) : OP }).1 == (5 : Int)) ∧ True) (true = false ∧ True)) (true = false ∧ True)) (true = false ∧ True)) (true = false ∧ True)) (ifB ((outErr { r := r, c := c, E := E, n := n, t := IntKind.i64.wrap (c.5 + pickN p.2 (80 : Int)) : OP } == (0 : Int)) == true) (ifB ((outErr { r := r, c := c, E := E, n := n, t := IntKind.i64.wrap (c.5 + pickN p.2 (80 : Int)) : OP } == (0 : Int)) == true) (ifB (((outcome { r := r, c := c, E := E, n := n, t := IntKind.i64.wrap (c.5 + pickN p.2 (80 : Int)) : OP }).1 == q_1.1 && ((outcome { r := r, c := c, E := E, n := n, t := IntKind.i64.wrap (c.5 + pickN p.2 (80 : Int)) : OP }).2 == q_1.2 && ((outcome { r := r, c := c, E := E, n := n, t := IntKind.i64.wrap (c.5 + pickN p.2 (80 : Int)) : OP }).3 == q_1.3 && true))) == true) (ifB (((withN { r := r, c := c, E := E, n := n, t := IntKind.i64.wrap (c.5 + pickN p.2 (80 : Int)) : OP } == c.3) == true) == true) (true = ((withN { r := r, c := c, E := E, n := n, t := IntKind.i64.wrap (c.5 + pickN p.2 (80 : Int)) : OP } == c.2) == false) ∧ True) (true = false ∧ True)) (true = false ∧ True)) (true = false ∧ True)) (true = false ∧ True))) False) False))) False) False) (true = false ∧ True)) False) False) (true = false ∧ True)) (true = false ∧ True)) (true = false ∧ True)
theorem timelines_eq (p : TX) (r : Rul) (c : Clm) (E : Nat → Evt) (n : Nat) : callBy (XT3 r c E n) (exec (XT3 r c E n) 100) 6 (sTimelines.A p) (sTimelines.H p) (RetC (sTimelines.H p).length (sTimelines.R p) (sTimelines.O p)) = timelines_T p r c E n := by kernel_rfl

theorem Lst_self {α : Type} (L : List α) (d : α) : Lst L.length (fun i => L.getD i d) = L := by
  apply List.ext_getElem
  · simp [Lst]
  · intro i h1 h2
    simp [Lst, List.getD, List.getElem?_eq_getElem h2]
theorem chain_get {α : Type} {P : α → α → Prop} (d : α) : ∀ {l : List α} {s : α}, chain P s l → ∀ j, j + 1 < (s :: l).length → P ((s :: l).getD j d) ((s :: l).getD (j + 1) d)
  | [], s, _, j, hj => by simp at hj
  | x :: l, s, h, 0, _ => h.1
  | x :: l, s, h, j + 1, hj => chain_get d h.2 j (by simpa using hj)
theorem last_get {α : Type} (d : α) : ∀ (l : List α) (s : α), (s :: l).getD l.length d = lastS s l
  | [], s => rfl
  | x :: l, s => last_get d l x
theorem cntP_front (V : Nat → Sta) : ∀ m, cntP V (m + 1) = (if (V 1).since = (V 0).next then 1 else 0) + cntP (fun j => V (j + 1)) m
  | 0 => by simp [cntP]
  | m + 1 => by
    have h := cntP_front V m
    have h1 : cntP V (m + 1 + 1) = cntP V (m + 1) + if (V (m + 1 + 1)).since = (V (m + 1)).next then 1 else 0 := rfl
    have h2 : cntP (fun j => V (j + 1)) (m + 1) = cntP (fun j => V (j + 1)) m + if (V (m + 1 + 1)).since = (V (m + 1)).next then 1 else 0 := rfl
    rw [h1, h2, h, Nat.add_assoc]
theorem alones_cnt (d : Sta) : ∀ (l : List Sta) (s : Sta), cntP (fun i => (s :: l).getD i d) l.length = alones s l
  | [], s => rfl
  | x :: l, s => by
    have h := alones_cnt d l x
    show cntP (fun i => (s :: x :: l).getD i d) (l.length + 1) = _
    rw [cntP_front]
    show _ + cntP (fun i => (x :: l).getD i d) l.length = (if x.since = s.next then 1 else 0) + alones x l
    rw [h]
    rfl
set_option maxHeartbeats 4000000 in
theorem timelines_step (p : TX) (hJ : sTimelines.J p) : timelines_T p (mR p.x) (mC p.x) (mE p.x) (mN p.x) := by
  obtain ⟨hx, ht⟩ := hJ
  obtain ⟨hg, hn, ha⟩ := made_good hx
  have hm : mEq_J p.x (mR p.x) (mC p.x) (mE p.x) (mN p.x) := ⟨rfl, rfl, rfl, rfl⟩
  have hask := (mC_ok hx).2
  have hcok := (mC_ok hx).1
  generalize mR p.x = r at hg hm ⊢
  generalize mC p.x = c at hg hm ha hask hcok ⊢
  generalize mE p.x = E at hg hm ⊢
  generalize mN p.x = n at hg hm hn ⊢
  have hb := pickN_b ht (n := 80) (by omega)
  have w1 : IntKind.i64.wrap (c.asked + pickN p.t 80) = c.asked + pickN p.t 80 := w64_small (by omega) (by omega)
  obtain ⟨r1, r2, r3, r4⟩ := hg.small
  have w2 : IntKind.i64.wrap (c.asked + r.answer) = c.asked + r.answer := w64_small (by omega) (by omega)
  have e1 : errOf ⟨r, c, E, n⟩ = 0 := by simp only [errOf, hg.ok]
  have hll := hg.line_le (by omega)
  obtain ⟨k1, k2, k3, k4⟩ := hg.whole
  have hwant := hg.want (t := c.asked + pickN p.t 80) (by omega) (by omega)
  obtain ⟨o1, o2⟩ := hg.out (t := c.asked + pickN p.t 80) (by omega) (by omega)
  have hbe := beg1 hg.small hask.1 (t := c.asked) (by omega)
  have hfin := (hg.out_fine (t := c.asked + pickN p.t 80) (by omega) (by omega)).1.st
  rw [hg.tl] at hll k2 hwant
  have hget0 : ∀ d, (begins r 1 c.asked :: tlW r c E n).getD 0 d = ⟨1, c.asked, c.asked + r.answer⟩ := fun d => hbe
  have hgetl : (begins r 1 c.asked :: tlW r c E n).getD (tlW r c E n).length ⟨0, 0, 0⟩ = lastS (begins r 1 c.asked) (tlW r c E n) := last_get _ _ _
  have hlen : (begins r 1 c.asked :: tlW r c E n).length = (tlW r c E n).length + 1 := rfl
  have hw3 : IntKind.i64.wrap (Int.ofNat ((tlW r c E n).length + 1) - 1) = ((tlW r c E n).length : Int) := by rw [IntKind.wrap_i64]; simp only [Int.ofNat_eq_natCast]; omega
  have hcnt := alones_cnt ⟨0, 0, 0⟩ (tlW r c E n) (begins r 1 c.asked)
  have hself := Lst_self (begins r 1 c.asked :: tlW r c E n) ⟨0, 0, 0⟩
  have hch := chain_get (⟨0, 0, 0⟩ : Sta) k1
  have hw4 : withN ⟨r, c, E, n, c.asked + pickN p.t 80⟩ = if (outcome ⟨r, c, E, n, c.asked + pickN p.t 80⟩).state = 4 ∨ (outcome ⟨r, c, E, n, c.asked + pickN p.t 80⟩).state = 5 then c.dst else c.src := by
    have hok : OP.ok ⟨r, c, E, n, c.asked + pickN p.t 80⟩ = true := by
      unfold OP.ok
      rw [show OP.cp ⟨r, c, E, n, c.asked + pickN p.t 80⟩ = ⟨r, c, E, n⟩ from rfl, hg.ok, decide_eq_true (p := 0 ≤ c.asked + pickN p.t 80) (by omega), decide_eq_true (p := c.asked + pickN p.t 80 ≤ 20000000) (by omega)]
      rfl
    simp only [withN, hok]
  have hne : c.src ≠ c.dst := by
    simp only [Clm.ok, inB, Bool.and_eq_true, decide_eq_true_eq, Bool.not_eq_true', decide_eq_false_iff_not] at hcok
    omega
  unfold timelines_T
  rw [hg.tl]
  simp only [w1, w2, e1, hlen, hw3, Int.toNat_natCast, hget0, hgetl, o1, hw4]
  rw [← hlen]
  generalize hL : begins r 1 c.asked :: tlW r c E n = L at *
  generalize hO : outcome ⟨r, c, E, n, c.asked + pickN p.t 80⟩ = O at *
  have hvl : (voidL ⟨r, c, E, n⟩).length ≤ 10 := by
    have := voids_len r c E (begins r 1 c.asked) n
    simp only [voidL, hg.ok]; omega
  have hwq : ∀ q : Int, q = (cntP (fun i => L.getD i ⟨0, 0, 0⟩) (L.length - 1) : Int) → IntKind.i64.wrap (IntKind.i64.wrap (IntKind.i64.wrap (1 + q) + Int.ofNat n) - Int.ofNat (voidL ⟨r, c, E, n⟩).length) = Int.ofNat L.length := fun q hq => by
    rw [show L.length - 1 = (tlW r c E n).length by omega, hcnt] at hq
    have h1 : IntKind.i64.wrap (1 + q) = 1 + q := w64_small (by omega) (by omega)
    have h2 : IntKind.i64.wrap (1 + q + Int.ofNat n) = 1 + q + Int.ofNat n := w64_small (by simp only [Int.ofNat_eq_natCast]; omega) (by simp only [Int.ofNat_eq_natCast]; omega)
    have h3 : IntKind.i64.wrap (1 + q + Int.ofNat n - Int.ofNat (voidL ⟨r, c, E, n⟩).length) = 1 + q + Int.ofNat n - Int.ofNat (voidL ⟨r, c, E, n⟩).length := w64_small (by simp only [Int.ofNat_eq_natCast]; omega) (by simp only [Int.ofNat_eq_natCast]; omega)
    rw [h1, h2, h3]; simp only [Int.ofNat_eq_natCast]; omega
  have hpos : 0 < L.length := by omega
  clear hcnt
  have hWq : ∀ q : Sta, q = wantL (c.asked + pickN p.t 80) ⟨1, c.asked, c.asked + r.answer⟩ (Lst L.length fun i => L.getD i ⟨0, 0, 0⟩) → q = O := fun q hq => by
    rw [hself, ← hbe, hwant] at hq; exact hq
  repeat' (first | with_reducible refine ifB_split (fun _ => ?_) (fun _ => ?_) | with_reducible refine And.intro ?_ ?_ | with_reducible refine fun (q : Int) (hq : Leaf (q = _)) => ?_ | with_reducible refine fun (q : Sta) (hq : Leaf (q = _)) => ?_)
  all_goals try first | with_reducible exact timelines_t0_t | with_reducible exact timelines_t1_t _ | with_reducible exact timelines_t2_t _ _ _ _ | with_reducible exact timelines_t3_t _ _ _ _ | with_reducible exact timelines_t4_t _ _ _ _ _ | with_reducible exact timelines_t5_t _ | with_reducible exact timelines_t6_t _ _ _ _ _ | with_reducible exact timelines_t7_t _ _ _ _ _ | with_reducible rfl | with_reducible exact trivial | with_reducible exact List.Perm.refl _ | decide
  all_goals first
    | exact hm
    | exact hpos
    | exact hll
    | (exfalso; rename_i hlast; simp only [Int.ofNat_eq_natCast, beq_iff_eq, beq_eq_false_iff_ne, ne_eq, Bool.and_true, decide_eq_true_eq, decide_eq_false_iff_not, Bool.and_eq_false_iff, bne_eq_false_iff_eq, bne_iff_ne] at hlast; omega)
    | (exfalso; rename_i hlast; simp at hlast; done)
    | (exfalso; rename_i hlast; simp [k3, k4] at hlast; done)
    | (have hq0 := hwq _ hq; rename_i hlast; rw [hq0] at hlast; simp at hlast; done)
    | exact ⟨⟨Nat.le_refl _, hpos⟩, hll, hn, fun j hj => hch j hj, rfl⟩
    | exact ⟨Nat.zero_le _, hll, (hget0 _).symm⟩
    | (rename_i h4 h0 h00 hs hlast
       exfalso
       revert hlast h4
       by_cases s4 : O.state = 4
       · simp [s4]
       · by_cases s5 : O.state = 5
         · simp [s5, hne]
         · have b1 : (c.src == c.dst) = false := beq_eq_false_iff_ne.2 hne
           have b5 : (O.state == 5) = false := beq_eq_false_iff_ne.2 s5
           simp [s4, s5, b1, b5])
    | (have hq0 := hWq _ hq
       subst hq0
       by_cases s4 : q.state = 4
       · simp [s4, hw4, hne, hne.symm] at *
       · by_cases s5 : q.state = 5
         · simp [s5, hw4, hne, hne.symm] at *
         · simp [s4, s5, hw4, hne, hne.symm] at *)
    | (have hq0 := hwq _ hq; rename_i hlast; rw [hq0] at hlast; simp at hlast; done)
    | (simp [k3, k4] at *; done)
    | (simp [k3, k4] at *; omega)
    | trace_state
theorem timelines_ok : sTimelines.OK Try.prog 6 := lawX XT3 XT3_ok (fun _ _ _ _ => rfl) 100 timelines_T timelines_eq (fun _ => rfl) (fun _ => rfl) (fun p => p.x) timelines_step
end Go.Proofs.Ytmcidfecepknpaa

