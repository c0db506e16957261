/-
  Parts of the proof: the executor of states by symbols, and the contracts of the functions that the law reaches. No condition.
-/
import Derived.Test.YtmcidfecepknpaaW1
set_option linter.unusedVariables false
set_option linter.unusedSimpArgs false

namespace Go.Proofs.Ytmcidfecepknpaa
open Go Go.Sh Go.Proofs
set_option linter.unusedVariables false
set_option linter.unusedSimpArgs false
def mainV_t0 (p : MP) (d : MD) : Prop :=
  (17 : Nat) = (17 : Nat) ∧ (((((0 : Nat) = (0 : Nat) ∧ (0 : Nat) = (0 : Nat)) ∧ True) ∧ [(23 : Tmp)] = [(23 : Tmp)] ∧ asg17 = asg17 ∧ body17 = body17) ∧ True) ∧ ((p.3 ((0 : Nat) + d.1)).2 = (p.3 ((0 : Nat) + d.1)).2 ∧ ((0 : Nat) = (0 : Nat) ∧ (0 : Nat) = (0 : Nat)) ∧ ((0 : Nat) = (0 : Nat) ∧ (0 : Nat) = (0 : Nat)) ∧ ((0 : Nat) = (0 : Nat) ∧ (0 : Nat) = (0 : Nat)) ∧ True) ∧ (p.4 = p.4 ∧ ∀ (i : Nat), i < p.4 → (p.3 i).1 = (p.3 i).1 ∧ (p.3 i).2 = (p.3 i).2 ∧ (p.3 i).3 = (p.3 i).3 ∧ True) ∧ Leaf (duesE.Perm duesE) ∧ Leaf (effectsE.Perm effectsE) ∧ ((1 : Nat) = (1 : Nat) ∧ ∀ (i : Nat), i < (1 : Nat) → p.1.1 = p.1.1 ∧ p.1.2 = p.1.2 ∧ p.1.3 = p.1.3 ∧ p.1.4 = p.1.4 ∧ p.2.1 = p.2.1 ∧ p.2.2 = p.2.2 ∧ p.2.3 = p.2.3 ∧ p.2.4 = p.2.4 ∧ p.2.5 = p.2.5 ∧ p.2.6 = p.2.6 ∧ True ∧ True ∧ d.3 = d.3 ∧ True) ∧ ((1 : Nat) = (1 : Nat) ∧ ∀ (i : Nat), i < (1 : Nat) → ((0 : Nat) = (0 : Nat) ∧ (0 : Nat) = (0 : Nat)) ∧ True) ∧ True ∧ True ∧ ((1 : Nat) = (1 : Nat) ∧ ∀ (i : Nat), i < (1 : Nat) → (True ∧ True) ∧ True) ∧ ((1 : Nat) = (1 : Nat) ∧ ∀ (i : Nat), i < (1 : Nat) → d.2.1 = d.2.1 ∧ d.2.2 = d.2.2 ∧ d.2.3 = d.2.3 ∧ True) ∧ (d.3 = d.3 ∧ ∀ (i : Nat), i < d.3 → d.4 i = d.4 i ∧ True) ∧ ((1 : Nat) = (1 : Nat) ∧ ∀ (i : Nat), i < (1 : Nat) → (p.3 ((0 : Nat) + d.1)).1 = (p.3 ((0 : Nat) + d.1)).1 ∧ (p.3 ((0 : Nat) + d.1)).2 = (p.3 ((0 : Nat) + d.1)).2 ∧ (p.3 ((0 : Nat) + d.1)).3 = (p.3 ((0 : Nat) + d.1)).3 ∧ True) ∧ True
theorem mainV_t0_t (p : MP) (d : MD) : mainV_t0 p d :=
  ⟨rfl, ⟨⟨⟨⟨⟨rfl, rfl⟩, trivial⟩, ⟨rfl, ⟨rfl, rfl⟩⟩⟩, trivial⟩, ⟨⟨rfl, ⟨⟨rfl, rfl⟩, ⟨⟨rfl, rfl⟩, ⟨⟨rfl, rfl⟩, trivial⟩⟩⟩⟩, ⟨⟨rfl, (fun _ => (fun _ => ⟨rfl, ⟨rfl, ⟨rfl, trivial⟩⟩⟩))⟩, ⟨(List.Perm.refl _), ⟨(List.Perm.refl _), ⟨⟨rfl, (fun _ => (fun _ => ⟨rfl, ⟨rfl, ⟨rfl, ⟨rfl, ⟨rfl, ⟨rfl, ⟨rfl, ⟨rfl, ⟨rfl, ⟨rfl, ⟨trivial, ⟨trivial, ⟨rfl, trivial⟩⟩⟩⟩⟩⟩⟩⟩⟩⟩⟩⟩⟩))⟩, ⟨⟨rfl, (fun _ => (fun _ => ⟨⟨rfl, rfl⟩, trivial⟩))⟩, ⟨trivial, ⟨trivial, ⟨⟨rfl, (fun _ => (fun _ => ⟨⟨trivial, trivial⟩, trivial⟩))⟩, ⟨⟨rfl, (fun _ => (fun _ => ⟨rfl, ⟨rfl, ⟨rfl, trivial⟩⟩⟩))⟩, ⟨⟨rfl, (fun _ => (fun _ => ⟨rfl, trivial⟩))⟩, ⟨⟨rfl, (fun _ => (fun _ => ⟨rfl, ⟨rfl, ⟨rfl, trivial⟩⟩⟩))⟩, trivial⟩⟩⟩⟩⟩⟩⟩⟩⟩⟩⟩⟩⟩⟩
def mainV_t1 (p : MP) (d : MD) (q : Sta) : Prop :=
  True ∧ (4 : Nat) = (4 : Nat) ∧ (((0 : Nat) = (0 : Nat) ∧ (0 : Nat) = (0 : Nat)) ∧ q.1 = q.1 ∧ ((p.3 ((0 : Nat) + d.1)).1 = (p.3 ((0 : Nat) + d.1)).1 ∧ (p.3 ((0 : Nat) + d.1)).2 = (p.3 ((0 : Nat) + d.1)).2 ∧ (p.3 ((0 : Nat) + d.1)).3 = (p.3 ((0 : Nat) + d.1)).3 ∧ True) ∧ True) ∧ ((1 : Nat) = (1 : Nat) ∧ ∀ (i : Nat), i < (1 : Nat) → p.1.1 = p.1.1 ∧ p.1.2 = p.1.2 ∧ p.1.3 = p.1.3 ∧ p.1.4 = p.1.4 ∧ p.2.1 = p.2.1 ∧ p.2.2 = p.2.2 ∧ p.2.3 = p.2.3 ∧ p.2.4 = p.2.4 ∧ p.2.5 = p.2.5 ∧ p.2.6 = p.2.6 ∧ True ∧ True ∧ ((0 : Nat) = (0 : Nat) ∧ d.3 = d.3) ∧ True) ∧ Leaf (duesE.Perm duesE) ∧ Leaf (effectsE.Perm effectsE) ∧ (d.3 = d.3 ∧ ∀ (i : Nat), i < d.3 → d.4 i = d.4 i ∧ True) ∧ True
theorem mainV_t1_t (p : MP) (d : MD) (q : Sta) : mainV_t1 p d q :=
  ⟨trivial, ⟨rfl, ⟨⟨⟨rfl, rfl⟩, ⟨rfl, ⟨⟨rfl, ⟨rfl, ⟨rfl, trivial⟩⟩⟩, trivial⟩⟩⟩, ⟨⟨rfl, (fun _ => (fun _ => ⟨rfl, ⟨rfl, ⟨rfl, ⟨rfl, ⟨rfl, ⟨rfl, ⟨rfl, ⟨rfl, ⟨rfl, ⟨rfl, ⟨trivial, ⟨trivial, ⟨⟨rfl, rfl⟩, trivial⟩⟩⟩⟩⟩⟩⟩⟩⟩⟩⟩⟩⟩))⟩, ⟨(List.Perm.refl _), ⟨(List.Perm.refl _), ⟨⟨rfl, (fun _ => (fun _ => ⟨rfl, trivial⟩))⟩, trivial⟩⟩⟩⟩⟩⟩⟩
def mainV_t2 : Prop :=
  (0 : Nat) = (0 : Nat) ∧ (0 : Nat) = (0 : Nat)
theorem mainV_t2_t : mainV_t2 :=
  ⟨rfl, rfl⟩
def mainV_t3 : Prop :=
  True ∧ ((0 : Nat) = (0 : Nat) ∧ (0 : Nat) = (0 : Nat)) ∧ ((0 : Nat) = (0 : Nat) ∧ (0 : Nat) = (0 : Nat)) ∧ ((0 : Nat) = (0 : Nat) ∧ (0 : Nat) = (0 : Nat)) ∧ True
theorem mainV_t3_t : mainV_t3 :=
  ⟨trivial, ⟨⟨rfl, rfl⟩, ⟨⟨rfl, rfl⟩, ⟨⟨rfl, rfl⟩, trivial⟩⟩⟩⟩
def mainV_t4 (p : MP) : Prop :=
  (0 : Nat) = (0 : Nat) ∧ p.4 = p.4
theorem mainV_t4_t (p : MP) : mainV_t4 p :=
  ⟨rfl, rfl⟩
def mainV_t5 (p : MP) (d : MD) (q : Sta) : Prop :=
  (p.4 = p.4 ∧ ∀ (i : Nat), i < p.4 → (p.3 i).1 = (p.3 i).1 ∧ (p.3 i).2 = (p.3 i).2 ∧ (p.3 i).3 = (p.3 i).3 ∧ True) ∧ Leaf (duesE.Perm duesE) ∧ Leaf (effectsE.Perm effectsE) ∧ ((1 : Nat) = (1 : Nat) ∧ ∀ (i : Nat), i < (1 : Nat) → p.1.1 = p.1.1 ∧ p.1.2 = p.1.2 ∧ p.1.3 = p.1.3 ∧ p.1.4 = p.1.4 ∧ p.2.1 = p.2.1 ∧ p.2.2 = p.2.2 ∧ p.2.3 = p.2.3 ∧ p.2.4 = p.2.4 ∧ p.2.5 = p.2.5 ∧ p.2.6 = p.2.6 ∧ True ∧ True ∧ d.3 + (1 : Nat) = d.3 + (1 : Nat) ∧ True) ∧ ((1 : Nat) = (1 : Nat) ∧ ∀ (i : Nat), i < (1 : Nat) → ((0 : Nat) = (0 : Nat) ∧ (0 : Nat) = (0 : Nat)) ∧ True) ∧ True ∧ True ∧ ((1 : Nat) = (1 : Nat) ∧ ∀ (i : Nat), i < (1 : Nat) → (True ∧ True) ∧ True) ∧ ((1 : Nat) = (1 : Nat) ∧ ∀ (i : Nat), i < (1 : Nat) → q.1 = q.1 ∧ q.2 = q.2 ∧ q.3 = q.3 ∧ True) ∧ (d.3 + (1 : Nat) = d.3 + (1 : Nat) ∧ ∀ (i : Nat), i < d.3 + (1 : Nat) → ((bif decide (i < d.3) then d.4 i else Int.ofNat d.1) = bif decide (i < d.3) then d.4 i else Int.ofNat d.1) ∧ True) ∧ True
theorem mainV_t5_t (p : MP) (d : MD) (q : Sta) : mainV_t5 p d q :=
  ⟨⟨rfl, (fun _ => (fun _ => ⟨rfl, ⟨rfl, ⟨rfl, trivial⟩⟩⟩))⟩, ⟨(List.Perm.refl _), ⟨(List.Perm.refl _), ⟨⟨rfl, (fun _ => (fun _ => ⟨rfl, ⟨rfl, ⟨rfl, ⟨rfl, ⟨rfl, ⟨rfl, ⟨rfl, ⟨rfl, ⟨rfl, ⟨rfl, ⟨trivial, ⟨trivial, ⟨rfl, trivial⟩⟩⟩⟩⟩⟩⟩⟩⟩⟩⟩⟩⟩))⟩, ⟨⟨rfl, (fun _ => (fun _ => ⟨⟨rfl, rfl⟩, trivial⟩))⟩, ⟨trivial, ⟨trivial, ⟨⟨rfl, (fun _ => (fun _ => ⟨⟨trivial, trivial⟩, trivial⟩))⟩, ⟨⟨rfl, (fun _ => (fun _ => ⟨rfl, ⟨rfl, ⟨rfl, trivial⟩⟩⟩))⟩, ⟨⟨rfl, (fun _ => (fun _ => ⟨rfl, trivial⟩))⟩, trivial⟩⟩⟩⟩⟩⟩⟩⟩⟩⟩
def mainV_t6 (p : MP) (d : MD) (q : Sta) : Prop :=
  True ∧ (4 : Nat) = (4 : Nat) ∧ (((0 : Nat) = (0 : Nat) ∧ (0 : Nat) = (0 : Nat)) ∧ afterN p.2 q.1 (p.3 ((0 : Nat) + d.1)) = afterN p.2 q.1 (p.3 ((0 : Nat) + d.1)) ∧ (p.3 ((0 : Nat) + d.1)).2 = (p.3 ((0 : Nat) + d.1)).2 ∧ True) ∧ ((1 : Nat) = (1 : Nat) ∧ ∀ (i : Nat), i < (1 : Nat) → p.1.1 = p.1.1 ∧ p.1.2 = p.1.2 ∧ p.1.3 = p.1.3 ∧ p.1.4 = p.1.4 ∧ p.2.1 = p.2.1 ∧ p.2.2 = p.2.2 ∧ p.2.3 = p.2.3 ∧ p.2.4 = p.2.4 ∧ p.2.5 = p.2.5 ∧ p.2.6 = p.2.6 ∧ True ∧ True ∧ ((0 : Nat) = (0 : Nat) ∧ d.3 = d.3) ∧ True) ∧ Leaf (duesE.Perm duesE) ∧ Leaf (effectsE.Perm effectsE) ∧ (d.3 = d.3 ∧ ∀ (i : Nat), i < d.3 → d.4 i = d.4 i ∧ True) ∧ True
theorem mainV_t6_t (p : MP) (d : MD) (q : Sta) : mainV_t6 p d q :=
  ⟨trivial, ⟨rfl, ⟨⟨⟨rfl, rfl⟩, ⟨rfl, ⟨rfl, trivial⟩⟩⟩, ⟨⟨rfl, (fun _ => (fun _ => ⟨rfl, ⟨rfl, ⟨rfl, ⟨rfl, ⟨rfl, ⟨rfl, ⟨rfl, ⟨rfl, ⟨rfl, ⟨rfl, ⟨trivial, ⟨trivial, ⟨⟨rfl, rfl⟩, trivial⟩⟩⟩⟩⟩⟩⟩⟩⟩⟩⟩⟩⟩))⟩, ⟨(List.Perm.refl _), ⟨(List.Perm.refl _), ⟨⟨rfl, (fun _ => (fun _ => ⟨rfl, trivial⟩))⟩, trivial⟩⟩⟩⟩⟩⟩⟩
def mainV_t7 (p : MP) (d : MD) (q : Sta) : Prop :=
  (p.4 = p.4 ∧ ∀ (i : Nat), i < p.4 → (p.3 i).1 = (p.3 i).1 ∧ (p.3 i).2 = (p.3 i).2 ∧ (p.3 i).3 = (p.3 i).3 ∧ True) ∧ Leaf (duesE.Perm duesE) ∧ Leaf (effectsE.Perm effectsE) ∧ ((1 : Nat) = (1 : Nat) ∧ ∀ (i : Nat), i < (1 : Nat) → p.1.1 = p.1.1 ∧ p.1.2 = p.1.2 ∧ p.1.3 = p.1.3 ∧ p.1.4 = p.1.4 ∧ p.2.1 = p.2.1 ∧ p.2.2 = p.2.2 ∧ p.2.3 = p.2.3 ∧ p.2.4 = p.2.4 ∧ p.2.5 = p.2.5 ∧ p.2.6 = p.2.6 ∧ True ∧ True ∧ d.3 = d.3 ∧ True) ∧ ((1 : Nat) = (1 : Nat) ∧ ∀ (i : Nat), i < (1 : Nat) → ((0 : Nat) = (0 : Nat) ∧ (0 : Nat) = (0 : Nat)) ∧ True) ∧ True ∧ True ∧ ((1 : Nat) = (1 : Nat) ∧ ∀ (i : Nat), i < (1 : Nat) → (True ∧ True) ∧ True) ∧ ((1 : Nat) = (1 : Nat) ∧ ∀ (i : Nat), i < (1 : Nat) → afterN p.2 q.1 (p.3 ((0 : Nat) + d.1)) = afterN p.2 q.1 (p.3 ((0 : Nat) + d.1)) ∧ (p.3 ((0 : Nat) + d.1)).2 = (p.3 ((0 : Nat) + d.1)).2 ∧ nextOf p.1 (afterN p.2 q.1 (p.3 ((0 : Nat) + d.1))) (p.3 ((0 : Nat) + d.1)).2 = nextOf p.1 (afterN p.2 q.1 (p.3 ((0 : Nat) + d.1))) (p.3 ((0 : Nat) + d.1)).2 ∧ True) ∧ (d.3 = d.3 ∧ ∀ (i : Nat), i < d.3 → d.4 i = d.4 i ∧ True) ∧ True
theorem mainV_t7_t (p : MP) (d : MD) (q : Sta) : mainV_t7 p d q :=
  ⟨⟨rfl, (fun _ => (fun _ => ⟨rfl, ⟨rfl, ⟨rfl, trivial⟩⟩⟩))⟩, ⟨(List.Perm.refl _), ⟨(List.Perm.refl _), ⟨⟨rfl, (fun _ => (fun _ => ⟨rfl, ⟨rfl, ⟨rfl, ⟨rfl, ⟨rfl, ⟨rfl, ⟨rfl, ⟨rfl, ⟨rfl, ⟨rfl, ⟨trivial, ⟨trivial, ⟨rfl, trivial⟩⟩⟩⟩⟩⟩⟩⟩⟩⟩⟩⟩⟩))⟩, ⟨⟨rfl, (fun _ => (fun _ => ⟨⟨rfl, rfl⟩, trivial⟩))⟩, ⟨trivial, ⟨trivial, ⟨⟨rfl, (fun _ => (fun _ => ⟨⟨trivial, trivial⟩, trivial⟩))⟩, ⟨⟨rfl, (fun _ => (fun _ => ⟨rfl, ⟨rfl, ⟨rfl, trivial⟩⟩⟩))⟩, ⟨⟨rfl, (fun _ => (fun _ => ⟨rfl, trivial⟩))⟩, trivial⟩⟩⟩⟩⟩⟩⟩⟩⟩⟩
def mainV_t8 (p : MP) (d : MD) : Prop :=
  ((True ∧ ((0 : Nat) = (0 : Nat) ∧ (0 : Nat) = (0 : Nat)) ∧ ((0 : Nat) = (0 : Nat) ∧ (0 : Nat) = (0 : Nat)) ∧ ((0 : Nat) = (0 : Nat) ∧ (0 : Nat) = (0 : Nat)) ∧ True) ∧ True) ∧ (p.4 = p.4 ∧ ∀ (i : Nat), i < p.4 → (p.3 i).1 = (p.3 i).1 ∧ (p.3 i).2 = (p.3 i).2 ∧ (p.3 i).3 = (p.3 i).3 ∧ True) ∧ Leaf (duesE.Perm duesE) ∧ Leaf (effectsE.Perm effectsE) ∧ ((1 : Nat) = (1 : Nat) ∧ ∀ (i : Nat), i < (1 : Nat) → p.1.1 = p.1.1 ∧ p.1.2 = p.1.2 ∧ p.1.3 = p.1.3 ∧ p.1.4 = p.1.4 ∧ p.2.1 = p.2.1 ∧ p.2.2 = p.2.2 ∧ p.2.3 = p.2.3 ∧ p.2.4 = p.2.4 ∧ p.2.5 = p.2.5 ∧ p.2.6 = p.2.6 ∧ True ∧ True ∧ d.3 = d.3 ∧ True) ∧ ((1 : Nat) = (1 : Nat) ∧ ∀ (i : Nat), i < (1 : Nat) → ((0 : Nat) = (0 : Nat) ∧ (0 : Nat) = (0 : Nat)) ∧ True) ∧ True ∧ True ∧ ((1 : Nat) = (1 : Nat) ∧ ∀ (i : Nat), i < (1 : Nat) → (True ∧ True) ∧ True) ∧ ((1 : Nat) = (1 : Nat) ∧ ∀ (i : Nat), i < (1 : Nat) → d.2.1 = d.2.1 ∧ d.2.2 = d.2.2 ∧ d.2.3 = d.2.3 ∧ True) ∧ (d.3 = d.3 ∧ ∀ (i : Nat), i < d.3 → d.4 i = d.4 i ∧ True) ∧ True
theorem mainV_t8_t (p : MP) (d : MD) : mainV_t8 p d :=
  ⟨⟨⟨trivial, ⟨⟨rfl, rfl⟩, ⟨⟨rfl, rfl⟩, ⟨⟨rfl, rfl⟩, trivial⟩⟩⟩⟩, trivial⟩, ⟨⟨rfl, (fun _ => (fun _ => ⟨rfl, ⟨rfl, ⟨rfl, trivial⟩⟩⟩))⟩, ⟨(List.Perm.refl _), ⟨(List.Perm.refl _), ⟨⟨rfl, (fun _ => (fun _ => ⟨rfl, ⟨rfl, ⟨rfl, ⟨rfl, ⟨rfl, ⟨rfl, ⟨rfl, ⟨rfl, ⟨rfl, ⟨rfl, ⟨trivial, ⟨trivial, ⟨rfl, trivial⟩⟩⟩⟩⟩⟩⟩⟩⟩⟩⟩⟩⟩))⟩, ⟨⟨rfl, (fun _ => (fun _ => ⟨⟨rfl, rfl⟩, trivial⟩))⟩, ⟨trivial, ⟨trivial, ⟨⟨rfl, (fun _ => (fun _ => ⟨⟨trivial, trivial⟩, trivial⟩))⟩, ⟨⟨rfl, (fun _ => (fun _ => ⟨rfl, ⟨rfl, ⟨rfl, trivial⟩⟩⟩))⟩, ⟨⟨rfl, (fun _ => (fun _ => ⟨rfl, trivial⟩))⟩, trivial⟩⟩⟩⟩⟩⟩⟩⟩⟩⟩⟩
def mainV_T (p : MP) (d : MD) : Prop :=
  ifB (decide (Int.ofNat d.1 < Int.ofNat p.4)) (ifB (decide (Int.ofNat d.1 < (↑p.4 : Int))) (ifB (decide ((0 : Nat) + d.1 < p.4) && true) ((lIV true).code = (lIV true).code ∧ (lIV_J { r := p.1, c := p.2, E := p.3, n := p.4, t := (0 : Int), u := (p.3 ((0 : Nat) + d.1)).2, k := d.3, V := d.4, e := p.3 ((0 : Nat) + d.1), a := d.2 : IP } d.2 ∧ mainV_t0 p d) ∧ True ∧ ∀ (q : Sta), Leaf (goN p.1 (p.3 ((0 : Nat) + d.1)).2 (4 : Nat) d.2 = q ∧ Sta.ok p.1 q) → mainV_t1 p d q ∧ ifB (!afterB p.2 q.1 (p.3 ((0 : Nat) + d.1))) (ifB (decide (d.3 ≤ d.3) && decide ((d.3 + (1 : Nat)) * (8 : Nat) ≤ (140737488355328 : Nat))) (Leaf (d.i < p.n) ∧ Leaf (evN p.r p.c d.now (p.E d.i) = q ∧ Sta.ok p.r q) ∧ Leaf (vNext p d (d.3 + (1 : Nat)) fun (i : Nat) => bif decide (i < d.3) then d.4 i else Int.ofNat d.1) ∧ ((True ∧ True) ∧ mainV_t2 ∧ mainV_t2 ∧ mainV_t2 ∧ mainV_t3 ∧ mainV_t4 p ∧ Int.ofNat p.4 = Int.ofNat p.4 ∧ Int.ofNat (d.1 + (1 : Nat)) = IntKind.i64.wrap (Int.ofNat (d.1 + (1 : Nat))) ∧ True) ∧ mainV_t5 p d q) False ∧ ifB (decide (d.3 ≤ d.3) && decide ((d.3 + (1 : Nat)) * (8 : Nat) ≤ (140737488355328 : Nat))) (Leaf (d.i < p.n) ∧ Leaf (evN p.r p.c d.now (p.E d.i) = q ∧ Sta.ok p.r q) ∧ Leaf (vNext p d (d.3 + (1 : Nat)) fun (i : Nat) => bif decide (i < d.3) then d.4 i else Int.ofNat d.1) ∧ ((True ∧ True) ∧ mainV_t2 ∧ mainV_t2 ∧ mainV_t2 ∧ mainV_t3 ∧ mainV_t4 p ∧ Int.ofNat p.4 = Int.ofNat p.4 ∧ Int.ofNat (d.1 + (1 : Nat)) = IntKind.i64.wrap (Int.ofNat (d.1 + (1 : Nat))) ∧ True) ∧ mainV_t5 p d q) False ∧ ifB (decide (d.3 ≤ d.3) && decide ((d.3 + (1 : Nat)) * (8 : Nat) ≤ (140737488355328 : Nat))) (Leaf (d.i < p.n) ∧ Leaf (evN p.r p.c d.now (p.E d.i) = q ∧ Sta.ok p.r q) ∧ Leaf (vNext p d (d.3 + (1 : Nat)) fun (i : Nat) => bif decide (i < d.3) then d.4 i else Int.ofNat d.1) ∧ ((True ∧ True) ∧ mainV_t2 ∧ mainV_t2 ∧ mainV_t2 ∧ mainV_t3 ∧ mainV_t4 p ∧ Int.ofNat p.4 = Int.ofNat p.4 ∧ Int.ofNat (d.1 + (1 : Nat)) = IntKind.i64.wrap (Int.ofNat (d.1 + (1 : Nat))) ∧ True) ∧ mainV_t5 p d q) False) (mainV_t6 p d q ∧ Leaf (d.i < p.n) ∧ Leaf (evN p.r p.c d.now (p.E d.i) = { state := afterN p.2 q.1 (p.3 ((0 : Nat) + d.1)), since := (p.3 ((0 : Nat) + d.1)).2, next := nextOf p.1 (afterN p.2 q.1 (p.3 ((0 : Nat) + d.1))) (p.3 ((0 : Nat) + d.1)).2 : Sta } ∧ Sta.ok p.r { state := afterN p.2 q.1 (p.3 ((0 : Nat) + d.1)), since := (p.3 ((0 : Nat) + d.1)).2, next := nextOf p.1 (afterN p.2 q.1 (p.3 ((0 : Nat) + d.1))) (p.3 ((0 : Nat) + d.1)).2 : Sta }) ∧ Leaf (vNext p d d.3 d.4) ∧ ((True ∧ True) ∧ mainV_t2 ∧ mainV_t2 ∧ mainV_t2 ∧ mainV_t3 ∧ mainV_t4 p ∧ Int.ofNat p.4 = Int.ofNat p.4 ∧ Int.ofNat (d.1 + (1 : Nat)) = IntKind.i64.wrap (Int.ofNat (d.1 + (1 : Nat))) ∧ True) ∧ mainV_t7 p d q)) False) False) (Leaf (p.n ≤ d.i) ∧ mainV_t8 p d)
theorem mainV_eq (p : MP) (d : MD) : exec X3V 80 60 lMV.code (lMV.I p d) (zMV p d) = mainV_T p d := by kernel_rfl

theorem outV_spec {S : SS} {K : Sta → Nat → (Nat → Int) → Nat → Nat → Prop} (h : outV S K) : ∃ o k V ln l, K o k V ln l := by
  unfold outV at h
  split at h <;> try exact h.elim
  split at h <;> try exact h.elim
  split at h <;> try exact h.elim
  exact ⟨_, _, _, _, _, h⟩
theorem mainV_step (p : MP) (d : MD) (hJ : lMV_J p d) : mainV_T p d := by
  obtain ⟨h1, h2, h3, h4, h5, h6⟩ := hJ
  unfold mainV_T
  repeat' (first | with_reducible refine ifB_split (fun _ => ?_) (fun _ => ?_) | with_reducible refine And.intro ?_ ?_)
  all_goals try first | with_reducible exact mainV_t0_t _ _ | with_reducible exact mainV_t1_t _ _ _ | with_reducible exact mainV_t2_t | with_reducible exact mainV_t3_t | with_reducible exact mainV_t4_t _ | with_reducible exact mainV_t5_t _ _ _ | with_reducible exact mainV_t6_t _ _ _ | with_reducible exact mainV_t7_t _ _ _ | with_reducible exact mainV_t8_t _ _ | with_reducible rfl | with_reducible exact trivial | with_reducible exact List.Perm.refl _
  all_goals try (intro q hq; obtain ⟨hq1, hq2⟩ := hq)
  all_goals
    repeat' (first | with_reducible refine ifB_split (fun _ => ?_) (fun _ => ?_) | with_reducible refine And.intro ?_ ?_)
  all_goals try first | with_reducible exact mainV_t0_t _ _ | with_reducible exact mainV_t1_t _ _ _ | with_reducible exact mainV_t2_t | with_reducible exact mainV_t3_t | with_reducible exact mainV_t4_t _ | with_reducible exact mainV_t5_t _ _ _ | with_reducible exact mainV_t6_t _ _ _ | with_reducible exact mainV_t7_t _ _ _ | with_reducible exact mainV_t8_t _ _ | with_reducible rfl | with_reducible exact trivial | with_reducible exact List.Perm.refl _
  all_goals simp only [Nat.zero_add, Leaf, Int.ofNat_eq_natCast, decide_eq_true_eq, decide_eq_false_iff_not, Bool.and_eq_true, Bool.not_eq_true', Bool.not_eq_true, Bool.not_eq_false'] at *
  all_goals first
    | omega
    | exact ⟨⟨4, rank_le _, rfl⟩, h4⟩
    | (rw [wrapSmall (by omega) (by omega)]; done)
    | (rename_i hb _; rename_i hb' ; refine ⟨?_, hq2⟩; simp only [evN, hq1, hb']; done)
    | (rename_i hb _; refine ⟨?_, hq2⟩; simp only [evN, hq1, hb]; done)
    | (rename_i hb; refine ⟨?_, hq2⟩; simp only [evN, hq1, hb]; done)
    | (rename_i hb; refine ⟨?_, rfl⟩; simp only [evN, hq1, hb, begins]; done)
    | (simp only [vNext, hq1, *]; simp +contextual; done)
    | (exfalso; simp_all; done)
    | (exfalso; simp_all; omega)
    | trace_state

set_option maxRecDepth 100000 in
theorem mainV_ok : LoopOK X3V.P lMV.code lMV.L := by
  refine lMV.ok X3V_ok 80 60 (fun p d => p.n - d.i) zMV (fun _ _ _ => ⟨⟨rfl, rfl, rfl, rfl⟩, trivial⟩) (fun p d w q hw => ?_) (fun p d S' hJ h => ?_) (fun p d x S' hx hJ h => ?_) fun p d hJ => ?_
  · match w, hw with
    | 0, _ => exact ⟨⟨rfl, rfl, rfl, rfl⟩, trivial⟩
  · unfold zMV at h; dsimp only at h
    obtain ⟨o, k, V, ln, l, h1, h2, h3, h5⟩ := outV_spec h
    simp only [Leaf] at h1 h2 h3
    obtain ⟨j1, j2, j3, j4, j5, j6⟩ := hJ
    refine ⟨_, ⟨d.i + 1, o, k, V⟩, ?_, ⟨?_, j2, ?_, h2.2, ?_, ?_⟩, h5⟩
    · show p.n - (d.i + 1) < p.n - d.i
      omega
    · show d.i + 1 ≤ p.n
      omega
    · show runN _ _ _ _ (d.i + 1) = o
      rw [runN, j3]; exact h2.1
    · show k ≤ d.i + 1
      unfold vNext at h3
      split at h3 <;> omega
    · show Lst k V = voids _ _ _ _ (d.i + 1)
      rw [voids, j3, ← j6]
      unfold vNext at h3
      rcases Bool.eq_false_or_eq_true (afterB p.c (goN p.r (p.E d.i).at' 4 d.now).state (p.E d.i)) with hb | hb <;> rw [hb] at h3 ⊢
      · obtain ⟨rfl, h3⟩ := h3
        simp only [Lst, List.append_nil]
        exact List.map_congr_left fun j hj => h3 j (List.mem_range.1 hj)
      · obtain ⟨rfl, h3, h4⟩ := h3
        rw [Lst_snoc h3, h4]
  · obtain ⟨j1, j2, j3, j4, j5, j6⟩ := hJ
    cases x with
    | normal => exact hx.elim
    | ret => exact h.elim
    | exit k =>
      obtain ⟨h0, h1, h2⟩ := gateB_spec h
      have h0 := Nat.eq_of_beq_eq_true h0
      subst h0
      simp only [Leaf] at h1
      have : d.i = p.n := by omega
      refine ⟨0, d, _, Nat.lt_succ_self 0, ⟨?_, j4, ?_⟩, rfl, h2⟩
      · rw [← this]; exact j3
      · rw [← this]; exact j6
  · rw [mainV_eq]
    exact mainV_step p d hJ

def exMV (S : SS) : Option (MP × MD × Ren) := match S.get 4 with
  | .ptr ln _ _ => match arrOf S.heap 0, arrOf S.heap 7, arrOf S.heap ln with
    | some (n, E), some (_, m), some (_, a) => match machOf (m 0) with
      | some (r, c) => some (⟨r, c, fun i => Evt.of (E i), n, 0, Sta.ofC (a 0)⟩, ⟨0, Sta.ofC (a 0), 0, fun _ => 0⟩, [some ln, none])
      | none => none
    | _, _, _ => none
  | _ => none
noncomputable def X4V : Ctx := X3V.loop 60 5 lMV.code (lMV.by exMV)
theorem X4V_ok : X4V.OK := Ctx.loop_ok X3V_ok (mainV_ok.by exMV)

/-- The void events of a right question. -/
def voidL (p : CP) : List Int := match p.ok with | true => voids p.r p.c p.E (begins p.r 1 p.c.asked) p.n | false => []
def errOf (p : CP) : Int := match p.ok with | true => 0 | false => 160
def sVoid : FSpec CP where
  J := fun _ => True
  A := fun p => [p.r.sv, p.c.sv, .sl 0 0 p.n]
  H := fun p => [some (evO p.n p.E)]
  R := fun p => .tup [.osl 1 (voidL p).length, iv (errOf p)]
  O := fun p => [.arr true (voidL p).length 1 3 fun i => [iv ((voidL p).getD i 0)]]
end Go.Proofs.Ytmcidfecepknpaa

namespace Go.Proofs.Ytmcidfecepknpaa
open Go Go.Sh Go.Proofs
set_option linter.unusedVariables false
set_option linter.unusedSimpArgs false
def voidc_t0 (p : CP) : Prop :=
  True ∧ (1 : Nat) = (1 : Nat) ∧ ((p.1.1 = p.1.1 ∧ p.1.2 = p.1.2 ∧ p.1.3 = p.1.3 ∧ p.1.4 = p.1.4 ∧ True) ∧ (p.2.1 = p.2.1 ∧ p.2.2 = p.2.2 ∧ p.2.3 = p.2.3 ∧ p.2.4 = p.2.4 ∧ p.2.5 = p.2.5 ∧ p.2.6 = p.2.6 ∧ True) ∧ ((0 : Nat) = (0 : Nat) ∧ p.4 = p.4) ∧ True) ∧ (p.4 = p.4 ∧ ∀ (i : Nat), i < p.n → (p.3 i).1 = (p.3 i).1 ∧ (p.3 i).2 = (p.3 i).2 ∧ (p.3 i).3 = (p.3 i).3 ∧ True) ∧ True
theorem voidc_t0_t (p : CP) : voidc_t0 p :=
  ⟨trivial, ⟨rfl, ⟨⟨⟨rfl, ⟨rfl, ⟨rfl, ⟨rfl, trivial⟩⟩⟩⟩, ⟨⟨rfl, ⟨rfl, ⟨rfl, ⟨rfl, ⟨rfl, ⟨rfl, trivial⟩⟩⟩⟩⟩⟩, ⟨⟨rfl, rfl⟩, trivial⟩⟩⟩, ⟨⟨rfl, (fun _ => (fun _ => ⟨rfl, ⟨rfl, ⟨rfl, trivial⟩⟩⟩))⟩, trivial⟩⟩⟩⟩
def voidc_t1 : Prop :=
  True ∧ (0 : Nat) = (0 : Nat) ∧ True ∧ True
theorem voidc_t1_t : voidc_t1 :=
  ⟨trivial, ⟨rfl, ⟨trivial, trivial⟩⟩⟩
def voidc_t2 (p : CP) : Prop :=
  True ∧ (4 : Nat) = (4 : Nat) ∧ (((0 : Nat) = (0 : Nat) ∧ (0 : Nat) = (0 : Nat)) ∧ (1 : Int) = (1 : Int) ∧ p.2.5 = p.2.5 ∧ True) ∧ ((1 : Nat) = (1 : Nat) ∧ ∀ (i : Nat), i < (1 : Nat) → p.1.1 = p.1.1 ∧ p.1.2 = p.1.2 ∧ p.1.3 = p.1.3 ∧ p.1.4 = p.1.4 ∧ p.2.1 = p.2.1 ∧ p.2.2 = p.2.2 ∧ p.2.3 = p.2.3 ∧ p.2.4 = p.2.4 ∧ p.2.5 = p.2.5 ∧ p.2.6 = p.2.6 ∧ True ∧ True ∧ (0 : Nat) = (0 : Nat) ∧ True) ∧ Leaf (duesE.Perm duesE) ∧ Leaf (effectsE.Perm effectsE) ∧ (0 : Nat) = (0 : Nat) ∧ True
theorem voidc_t2_t (p : CP) : voidc_t2 p :=
  ⟨trivial, ⟨rfl, ⟨⟨⟨rfl, rfl⟩, ⟨rfl, ⟨rfl, trivial⟩⟩⟩, ⟨⟨rfl, (fun _ => (fun _ => ⟨rfl, ⟨rfl, ⟨rfl, ⟨rfl, ⟨rfl, ⟨rfl, ⟨rfl, ⟨rfl, ⟨rfl, ⟨rfl, ⟨trivial, ⟨trivial, ⟨rfl, trivial⟩⟩⟩⟩⟩⟩⟩⟩⟩⟩⟩⟩⟩))⟩, ⟨(List.Perm.refl _), ⟨(List.Perm.refl _), ⟨rfl, trivial⟩⟩⟩⟩⟩⟩⟩
def voidc_t3 (p : CP) : Prop :=
  (14 : Nat) = (14 : Nat) ∧ (((((0 : Nat) = (0 : Nat) ∧ (0 : Nat) = (0 : Nat)) ∧ True) ∧ [(23 : Tmp)] = [(23 : Tmp)] ∧ asg17 = asg17 ∧ body17 = body17) ∧ True) ∧ ((True ∧ True) ∧ ((0 : Nat) = (0 : Nat) ∧ (0 : Nat) = (0 : Nat)) ∧ ((0 : Nat) = (0 : Nat) ∧ (0 : Nat) = (0 : Nat)) ∧ ((0 : Nat) = (0 : Nat) ∧ (0 : Nat) = (0 : Nat)) ∧ (True ∧ ((0 : Nat) = (0 : Nat) ∧ (0 : Nat) = (0 : Nat)) ∧ ((0 : Nat) = (0 : Nat) ∧ (0 : Nat) = (0 : Nat)) ∧ ((0 : Nat) = (0 : Nat) ∧ (0 : Nat) = (0 : Nat)) ∧ True) ∧ ((0 : Nat) = (0 : Nat) ∧ p.4 = p.4) ∧ Int.ofNat p.4 = Int.ofNat p.4 ∧ (0 : Int) = (0 : Int) ∧ True) ∧ (p.4 = p.4 ∧ ∀ (i : Nat), i < p.4 → (p.3 i).1 = (p.3 i).1 ∧ (p.3 i).2 = (p.3 i).2 ∧ (p.3 i).3 = (p.3 i).3 ∧ True) ∧ Leaf (duesE.Perm duesE) ∧ Leaf (effectsE.Perm effectsE) ∧ ((1 : Nat) = (1 : Nat) ∧ ∀ (i : Nat), i < (1 : Nat) → p.1.1 = p.1.1 ∧ p.1.2 = p.1.2 ∧ p.1.3 = p.1.3 ∧ p.1.4 = p.1.4 ∧ p.2.1 = p.2.1 ∧ p.2.2 = p.2.2 ∧ p.2.3 = p.2.3 ∧ p.2.4 = p.2.4 ∧ p.2.5 = p.2.5 ∧ p.2.6 = p.2.6 ∧ True ∧ True ∧ (0 : Nat) = (0 : Nat) ∧ True) ∧ ((1 : Nat) = (1 : Nat) ∧ ∀ (i : Nat), i < (1 : Nat) → ((0 : Nat) = (0 : Nat) ∧ (0 : Nat) = (0 : Nat)) ∧ True) ∧ True ∧ True ∧ ((1 : Nat) = (1 : Nat) ∧ ∀ (i : Nat), i < (1 : Nat) → (True ∧ True) ∧ True) ∧ ((1 : Nat) = (1 : Nat) ∧ ∀ (i : Nat), i < (1 : Nat) → (1 : Int) = (1 : Int) ∧ p.2.5 = p.2.5 ∧ w64 (p.2.5 + p.1.1) = w64 (p.2.5 + p.1.1) ∧ True) ∧ (0 : Nat) = (0 : Nat) ∧ True
theorem voidc_t3_t (p : CP) : voidc_t3 p :=
  ⟨rfl, ⟨⟨⟨⟨⟨rfl, rfl⟩, trivial⟩, ⟨rfl, ⟨rfl, rfl⟩⟩⟩, trivial⟩, ⟨⟨⟨trivial, trivial⟩, ⟨⟨rfl, rfl⟩, ⟨⟨rfl, rfl⟩, ⟨⟨rfl, rfl⟩, ⟨⟨trivial, ⟨⟨rfl, rfl⟩, ⟨⟨rfl, rfl⟩, ⟨⟨rfl, rfl⟩, trivial⟩⟩⟩⟩, ⟨⟨rfl, rfl⟩, ⟨rfl, ⟨rfl, trivial⟩⟩⟩⟩⟩⟩⟩⟩, ⟨⟨rfl, (fun _ => (fun _ => ⟨rfl, ⟨rfl, ⟨rfl, trivial⟩⟩⟩))⟩, ⟨(List.Perm.refl _), ⟨(List.Perm.refl _), ⟨⟨rfl, (fun _ => (fun _ => ⟨rfl, ⟨rfl, ⟨rfl, ⟨rfl, ⟨rfl, ⟨rfl, ⟨rfl, ⟨rfl, ⟨rfl, ⟨rfl, ⟨trivial, ⟨trivial, ⟨rfl, trivial⟩⟩⟩⟩⟩⟩⟩⟩⟩⟩⟩⟩⟩))⟩, ⟨⟨rfl, (fun _ => (fun _ => ⟨⟨rfl, rfl⟩, trivial⟩))⟩, ⟨trivial, ⟨trivial, ⟨⟨rfl, (fun _ => (fun _ => ⟨⟨trivial, trivial⟩, trivial⟩))⟩, ⟨⟨rfl, (fun _ => (fun _ => ⟨rfl, ⟨rfl, ⟨rfl, trivial⟩⟩⟩))⟩, ⟨rfl, trivial⟩⟩⟩⟩⟩⟩⟩⟩⟩⟩⟩⟩⟩
def voidc_t4 (p : CP) (q : MD) : Prop :=
  (16 : Nat) = (16 : Nat) ∧ (((((0 : Nat) = (0 : Nat) ∧ (0 : Nat) = (0 : Nat)) ∧ True) ∧ [(23 : Tmp)] = [(23 : Tmp)] ∧ asg17 = asg17 ∧ body17 = body17) ∧ True) ∧ ((4611686018427387904 : Int) = (4611686018427387904 : Int) ∧ ((0 : Nat) = (0 : Nat) ∧ (0 : Nat) = (0 : Nat)) ∧ ((0 : Nat) = (0 : Nat) ∧ (0 : Nat) = (0 : Nat)) ∧ ((0 : Nat) = (0 : Nat) ∧ (0 : Nat) = (0 : Nat)) ∧ True) ∧ (p.4 = p.4 ∧ ∀ (i : Nat), i < p.4 → (p.3 i).1 = (p.3 i).1 ∧ (p.3 i).2 = (p.3 i).2 ∧ (p.3 i).3 = (p.3 i).3 ∧ True) ∧ Leaf (duesE.Perm duesE) ∧ Leaf (effectsE.Perm effectsE) ∧ ((1 : Nat) = (1 : Nat) ∧ ∀ (i : Nat), i < (1 : Nat) → p.1.1 = p.1.1 ∧ p.1.2 = p.1.2 ∧ p.1.3 = p.1.3 ∧ p.1.4 = p.1.4 ∧ p.2.1 = p.2.1 ∧ p.2.2 = p.2.2 ∧ p.2.3 = p.2.3 ∧ p.2.4 = p.2.4 ∧ p.2.5 = p.2.5 ∧ p.2.6 = p.2.6 ∧ True ∧ True ∧ q.3 = q.3 ∧ True) ∧ ((1 : Nat) = (1 : Nat) ∧ ∀ (i : Nat), i < (1 : Nat) → ((0 : Nat) = (0 : Nat) ∧ (0 : Nat) = (0 : Nat)) ∧ True) ∧ True ∧ True ∧ ((1 : Nat) = (1 : Nat) ∧ ∀ (i : Nat), i < (1 : Nat) → (True ∧ True) ∧ True) ∧ ((1 : Nat) = (1 : Nat) ∧ ∀ (i : Nat), i < (1 : Nat) → q.2.1 = q.2.1 ∧ q.2.2 = q.2.2 ∧ q.2.3 = q.2.3 ∧ True) ∧ (q.3 = q.3 ∧ ∀ (i : Nat), i < q.3 → q.4 i = q.4 i ∧ True) ∧ True
theorem voidc_t4_t (p : CP) (q : MD) : voidc_t4 p q :=
  ⟨rfl, ⟨⟨⟨⟨⟨rfl, rfl⟩, trivial⟩, ⟨rfl, ⟨rfl, rfl⟩⟩⟩, trivial⟩, ⟨⟨rfl, ⟨⟨rfl, rfl⟩, ⟨⟨rfl, rfl⟩, ⟨⟨rfl, rfl⟩, trivial⟩⟩⟩⟩, ⟨⟨rfl, (fun _ => (fun _ => ⟨rfl, ⟨rfl, ⟨rfl, trivial⟩⟩⟩))⟩, ⟨(List.Perm.refl _), ⟨(List.Perm.refl _), ⟨⟨rfl, (fun _ => (fun _ => ⟨rfl, ⟨rfl, ⟨rfl, ⟨rfl, ⟨rfl, ⟨rfl, ⟨rfl, ⟨rfl, ⟨rfl, ⟨rfl, ⟨trivial, ⟨trivial, ⟨rfl, trivial⟩⟩⟩⟩⟩⟩⟩⟩⟩⟩⟩⟩⟩))⟩, ⟨⟨rfl, (fun _ => (fun _ => ⟨⟨rfl, rfl⟩, trivial⟩))⟩, ⟨trivial, ⟨trivial, ⟨⟨rfl, (fun _ => (fun _ => ⟨⟨trivial, trivial⟩, trivial⟩))⟩, ⟨⟨rfl, (fun _ => (fun _ => ⟨rfl, ⟨rfl, ⟨rfl, trivial⟩⟩⟩))⟩, ⟨⟨rfl, (fun _ => (fun _ => ⟨rfl, trivial⟩))⟩, trivial⟩⟩⟩⟩⟩⟩⟩⟩⟩⟩⟩⟩⟩
def voidc_T (p : CP) : Prop :=
  voidc_t0 p ∧ ifB (!p.ok) (((voidL p).length = (0 : Nat) ∧ errOf p = (160 : Int) ∧ True) ∧ (voidL p).length = (0 : Nat) ∧ True) (voidc_t1 ∧ voidc_t1 ∧ (voidc_t2 p ∧ lMV.code = lMV.code ∧ (lMV_J { r := p.1, c := p.2, E := p.3, n := p.4, t := (0 : Int), a := { state := (1 : Int), since := p.2.5, next := w64 (p.2.5 + p.1.1) : Sta } : MP } { i := (0 : Nat), now := { state := (1 : Int), since := p.2.5, next := w64 (p.2.5 + p.1.1) : Sta }, k := (0 : Nat), V := fun (x : Nat) => (0 : Int) : MD } ∧ voidc_t3 p) ∧ True ∧ ∀ (q : MD), Leaf (Ytmcidfecepknpaa.runN p.1 p.2 p.3 { state := (1 : Int), since := p.2.5, next := w64 (p.2.5 + p.1.1) : Sta } p.4 = q.now ∧ Sta.ok p.1 q.now ∧ Lst q.k q.V = voids p.1 p.2 p.3 { state := (1 : Int), since := p.2.5, next := w64 (p.2.5 + p.1.1) : Sta } p.4) → (lIV true).code = (lIV true).code ∧ (lIV_J { r := p.1, c := p.2, E := p.3, n := p.4, t := (0 : Int), u := (4611686018427387904 : Int), k := q.3, V := q.4, e := { kind := (0 : Int), at' := (0 : Int), reason := (0 : Int) : Evt }, a := q.2 : IP } q.2 ∧ voidc_t4 p q) ∧ True ∧ ∀ (q_1 : Sta), Leaf (goN p.1 (4611686018427387904 : Int) (4 : Nat) q.2 = q_1 ∧ Sta.ok p.1 q_1) → ((voidL p).length = q.3 ∧ errOf p = (0 : Int) ∧ True) ∧ ((voidL p).length = q.3 ∧ ∀ (i : Nat), i < (voidL p).length → (voidL p).getD i (0 : Int) = q.4 i ∧ True) ∧ True) ∧ voidc_t2 p ∧ lMV.code = lMV.code ∧ (lMV_J { r := p.1, c := p.2, E := p.3, n := p.4, t := (0 : Int), a := { state := (1 : Int), since := p.2.5, next := w64 (p.2.5 + p.1.1) : Sta } : MP } { i := (0 : Nat), now := { state := (1 : Int), since := p.2.5, next := w64 (p.2.5 + p.1.1) : Sta }, k := (0 : Nat), V := fun (x : Nat) => (0 : Int) : MD } ∧ voidc_t3 p) ∧ True ∧ ∀ (q : MD), Leaf (Ytmcidfecepknpaa.runN p.1 p.2 p.3 { state := (1 : Int), since := p.2.5, next := w64 (p.2.5 + p.1.1) : Sta } p.4 = q.now ∧ Sta.ok p.1 q.now ∧ Lst q.k q.V = voids p.1 p.2 p.3 { state := (1 : Int), since := p.2.5, next := w64 (p.2.5 + p.1.1) : Sta } p.4) → (lIV true).code = (lIV true).code ∧ (lIV_J { r := p.1, c := p.2, E := p.3, n := p.4, t := (0 : Int), u := (4611686018427387904 : Int), k := q.3, V := q.4, e := { kind := (0 : Int), at' := (0 : Int), reason := (0 : Int) : Evt }, a := q.2 : IP } q.2 ∧ voidc_t4 p q) ∧ True ∧ ∀ (q_1 : Sta), Leaf (goN p.1 (4611686018427387904 : Int) (4 : Nat) q.2 = q_1 ∧ Sta.ok p.1 q_1) → ((voidL p).length = q.3 ∧ errOf p = (0 : Int) ∧ True) ∧ ((voidL p).length = q.3 ∧ ∀ (i : Nat), i < (voidL p).length → (voidL p).getD i (0 : Int) = q.4 i ∧ True) ∧ True)
theorem voidc_eq (p : CP) : callBy X4V (exec X4V 100) 17 (sVoid.A p) (sVoid.H p) (RetC (sVoid.H p).length (sVoid.R p) (sVoid.O p)) = voidc_T p := by kernel_rfl

set_option maxHeartbeats 1000000 in
theorem voidc_step (p : CP) : voidc_T p := by
  unfold voidc_T
  repeat' (first | with_reducible refine ifB_split (fun _ => ?_) (fun _ => ?_) | with_reducible refine And.intro ?_ ?_ | with_reducible refine fun q hq => ?_)
  all_goals try first | with_reducible exact voidc_t0_t _ | with_reducible exact voidc_t1_t | with_reducible exact voidc_t2_t _ | with_reducible exact voidc_t3_t _ | with_reducible exact voidc_t4_t _ _ | with_reducible rfl | with_reducible exact trivial | with_reducible exact List.Perm.refl _
  all_goals simp only [Leaf, Bool.not_eq_true', Bool.not_eq_false', decide_eq_true_eq, decide_eq_false_iff_not, beq_true] at *
  all_goals first
    | (rename_i ho; simp only [voidL, ho]; done)
    | (rename_i ho; simp only [errOf, ho]; done)
    | (rename_i ho; simp only [voidL, ho]; rfl)
    | (rename_i ho; exact ⟨Nat.zero_le _, CP.ok_n ho, rfl, rfl, Nat.le_refl _, rfl⟩)
    | (have hq' := hq.2.1; exact ⟨⟨4, rank_le _, rfl⟩, hq'⟩)
    | (rename_i m hm ho
       have hv : voidL p = Lst m.k m.V := by simp only [voidL, ho]; exact hm.2.2.symm
       rw [hv, Lst_len]; done)
    | (rename_i m hm s hs ho
       have hv : voidL p = Lst m.k m.V := by simp only [voidL, ho]; exact hm.2.2.symm
       rw [hv, Lst_len] at hq; rw [hv, Lst_getD hq]; done)
    | trace_state
theorem void_ok : sVoid.OK X4V.P 17 := .of_eq X4V_ok 100 _ voidc_eq (fun _ => rfl) (fun _ _ o h => by
  simp only [sVoid, List.mem_singleton] at h
  subst h
  exact ⟨rfl, fun i _ s hs => by simp only [List.mem_singleton] at hs; subst hs; rfl⟩) fun p _ => voidc_step p
end Go.Proofs.Ytmcidfecepknpaa

namespace Go.Proofs.Ytmcidfecepknpaa
open Go Go.Sh Go.Proofs
set_option linter.unusedVariables false

/-! ### in Timeline -/
noncomputable def asg64 : Code := (rangeOf 64).1
noncomputable def body64 : Code := (rangeOf 64).2
structure TP where
  r : Rul
  c : Clm
  E : Nat → Evt
  n : Nat
  u : Int
  k : Nat
  V : Nat → Int
  e : Evt
  a : Sta
  k0 : Nat
  W0 : Nat → Sta
structure TD where
  now : Sta
  k2 : Nat
  W : Nat → Sta
/-- The heap while Timeline's loop runs. -/
noncomputable def heapT (r : Rul) (c : Clm) (E : Nat → Evt) (n k : Nat) (V : Nat → Int) (lo k2 : Nat) (st : LoopState) (pd : Option Code) (now : Option SO) (rest : List (Option SO)) : Heap :=
  [some (evO n E), none, none, none, none, some (.tbl true duesE), some (.tbl true effectsE), machV r c (.osl 19 k), some (.arr true 1 1 85 fun _ => [.ptr 7 0 0]), none, some (.arr true 1 1 47 fun _ => [.osl lo k2]), some .defs,
   some (.loop st pd (lay 13 0 [(2, .ptr 10 0 0)]) [7] asg64 body64), some (.arr true 1 1 43 fun _ => [.fn (.yield 12) [] []]), none, none, none, none, now, voidO k V] ++ rest
def lineO (k2 : Nat) (W : Nat → Sta) : Option SO := some (.arr true k2 3 39 fun i => (W i).cells)
def nT (b : Bool) : Nat := match b with | true => 22 | false => 21
def restT (b : Bool) (e : Evt) (k2 : Nat) (W : Nat → Sta) : List (Option SO) := match b with
  | true => [none, some (.arr false 1 3 0 fun _ => e.cells), lineO k2 W]
  | false => [none, lineO k2 W]
/-- One status more. -/
def addW (k2 : Nat) (W : Nat → Sta) (s : Sta) (k2' : Nat) (W' : Nat → Sta) : Prop := k2' = k2 + 1 ∧ (∀ j, j < k2 → W' j = W j) ∧ W' k2 = s
theorem addW.lst {k2 k2' : Nat} {W W' : Nat → Sta} {s : Sta} (h : addW k2 W s k2' W') : Lst k2' W' = Lst k2 W ++ [s] := by
  obtain ⟨rfl, h1, h2⟩ := h
  rw [Lst_snoc h1, h2]
def lIT_J (p : TP) (d : TD) : Prop := (∃ m, rank d.now.state ≤ m ∧ goN p.r p.u 4 p.a = goN p.r p.u m d.now ∧ Lst p.k0 p.W0 ++ aloneL p.r p.u 4 p.a = Lst d.k2 d.W ++ aloneL p.r p.u m d.now) ∧ d.now.ok p.r ∧ d.k2 + rank d.now.state ≤ p.k0 + 4 ∧ p.k0 ≤ 200
noncomputable def lIT (b : Bool) : LSpec TP TD TD where
  code := loopOf Try.prog 62 1
  N := nT b
  I := fun p d => blank 31 [(0, iv p.u), (1, .ptr 18 0 0), (2, .ptr 8 0 0), (3, .ptr 13 0 0)] (heapT p.r p.c p.E p.n p.k p.V (nT b) d.k2 .ready none (staO d.now) (restT b p.e d.k2 d.W))
  J := lIT_J
  ways := 1
  E := fun w p d => (.exit 0, blank 31 [] (heapT p.r p.c p.E p.n p.k p.V (nT b) d.k2 .ready none (staO d.now) (restT b p.e d.k2 d.W)))
  JE := fun w p q => Leaf (goN p.r p.u 4 p.a = q.now ∧ q.now.ok p.r ∧ Lst q.k2 q.W = Lst p.k0 p.W0 ++ aloneL p.r p.u 4 p.a ∧ q.k2 ≤ p.k0 + 4)

/-- Where the statuses lie, and what they are. -/
def outT' (h : Heap) : Option (Nat × Nat × (Nat → Sta)) := match arrOf h 10 with
  | some (_, g) => match g 0 with
    | [.osl lo k2] => match arrOf h lo with
      | some (_, W) => some (lo, k2, fun i => Sta.ofC (W i))
      | none => none
    | _ => none
  | none => none
noncomputable def zIT (b : Bool) (p : TP) (d : TD) : KX := fun x S' => match x with
  | .normal => match outT' S'.heap with
    | some (lo, k2, W) => Leaf (goesOn p.u d.now = true) ∧ Leaf (addW d.k2 d.W (step1 p.r d.now) k2 W) ∧ Wk (nT b) [some lo] ((lIT b).I p ⟨step1 p.r d.now, k2, W⟩) S'
    | none => False
  | .exit k => gateB (Nat.beq k 0) (Leaf (goesOn p.u d.now = false) ∧ Wk (nT b) [some (nT b)] ((lIT b).E 0 p d).2 S')
  | .ret => False
def exIT (b : Bool) (S : SS) : Option (TP × TD × Ren) := match arrOf S.heap 0, arrOf S.heap 7, arrOf S.heap 18, arrOf S.heap 19, outT' S.heap with
  | some (n, E), some (_, m), some (_, a), some (k, V), some (lo, k2, W) => match machOf (m 0) with
    | some (r, c) => some (⟨r, c, fun i => Evt.of (E i), n, intSV (S.get 0), k, fun i => intOf (V i), match b with | true => (match arrOf S.heap 21 with | some (_, e) => Evt.of (e 0) | none => ⟨0, 0, 0⟩) | false => ⟨0, 0, 0⟩, Sta.ofC (a 0), k2, W⟩, ⟨Sta.ofC (a 0), k2, W⟩, [some lo])
    | none => none
  | _, _, _, _, _ => none
end Go.Proofs.Ytmcidfecepknpaa

namespace Go.Proofs.Ytmcidfecepknpaa
open Go Go.Sh Go.Proofs
set_option linter.unusedVariables false
set_option linter.unusedSimpArgs false
def innerTT_t0 (p : TP) (d : TD) : Prop :=
  True ∧ (4 : Nat) = (4 : Nat) ∧ (((0 : Nat) = (0 : Nat) ∧ (0 : Nat) = (0 : Nat)) ∧ (3 : Int) = (3 : Int) ∧ d.1.3 = d.1.3 ∧ True) ∧ ((1 : Nat) = (1 : Nat) ∧ ∀ (i : Nat), i < (1 : Nat) → p.1.1 = p.1.1 ∧ p.1.2 = p.1.2 ∧ p.1.3 = p.1.3 ∧ p.1.4 = p.1.4 ∧ p.2.1 = p.2.1 ∧ p.2.2 = p.2.2 ∧ p.2.3 = p.2.3 ∧ p.2.4 = p.2.4 ∧ p.2.5 = p.2.5 ∧ p.2.6 = p.2.6 ∧ True ∧ True ∧ ((0 : Nat) = (0 : Nat) ∧ p.6 = p.6) ∧ True) ∧ Leaf (duesE.Perm duesE) ∧ Leaf (effectsE.Perm effectsE) ∧ (p.6 = p.6 ∧ ∀ (i : Nat), i < p.6 → p.7 i = p.7 i ∧ True) ∧ True
theorem innerTT_t0_t (p : TP) (d : TD) : innerTT_t0 p d :=
  ⟨trivial, ⟨rfl, ⟨⟨⟨rfl, rfl⟩, ⟨rfl, ⟨rfl, trivial⟩⟩⟩, ⟨⟨rfl, (fun _ => (fun _ => ⟨rfl, ⟨rfl, ⟨rfl, ⟨rfl, ⟨rfl, ⟨rfl, ⟨rfl, ⟨rfl, ⟨rfl, ⟨rfl, ⟨trivial, ⟨trivial, ⟨⟨rfl, rfl⟩, trivial⟩⟩⟩⟩⟩⟩⟩⟩⟩⟩⟩⟩⟩))⟩, ⟨(List.Perm.refl _), ⟨(List.Perm.refl _), ⟨⟨rfl, (fun _ => (fun _ => ⟨rfl, trivial⟩))⟩, trivial⟩⟩⟩⟩⟩⟩⟩
def innerTT_t1 (p : TP) : Prop :=
  p.5 = p.5 ∧ ((0 : Nat) = (0 : Nat) ∧ (0 : Nat) = (0 : Nat)) ∧ ((0 : Nat) = (0 : Nat) ∧ (0 : Nat) = (0 : Nat)) ∧ ((0 : Nat) = (0 : Nat) ∧ (0 : Nat) = (0 : Nat)) ∧ True
theorem innerTT_t1_t (p : TP) : innerTT_t1 p :=
  ⟨rfl, ⟨⟨rfl, rfl⟩, ⟨⟨rfl, rfl⟩, ⟨⟨rfl, rfl⟩, trivial⟩⟩⟩⟩
def innerTT_t2 (p : TP) : Prop :=
  p.4 = p.4 ∧ ∀ (i : Nat), i < p.n → (p.3 i).1 = (p.3 i).1 ∧ (p.3 i).2 = (p.3 i).2 ∧ (p.3 i).3 = (p.3 i).3 ∧ True
theorem innerTT_t2_t (p : TP) : innerTT_t2 p :=
  ⟨rfl, (fun _ => (fun _ => ⟨rfl, ⟨rfl, ⟨rfl, trivial⟩⟩⟩))⟩
def innerTT_t3 (p : TP) : Prop :=
  (1 : Nat) = (1 : Nat) ∧ ∀ (i : Nat), i < (1 : Nat) → p.1.1 = p.1.1 ∧ p.1.2 = p.1.2 ∧ p.1.3 = p.1.3 ∧ p.1.4 = p.1.4 ∧ p.2.1 = p.2.1 ∧ p.2.2 = p.2.2 ∧ p.2.3 = p.2.3 ∧ p.2.4 = p.2.4 ∧ p.2.5 = p.2.5 ∧ p.2.6 = p.2.6 ∧ True ∧ True ∧ p.6 = p.6 ∧ True
theorem innerTT_t3_t (p : TP) : innerTT_t3 p :=
  ⟨rfl, (fun _ => (fun _ => ⟨rfl, ⟨rfl, ⟨rfl, ⟨rfl, ⟨rfl, ⟨rfl, ⟨rfl, ⟨rfl, ⟨rfl, ⟨rfl, ⟨trivial, ⟨trivial, ⟨rfl, trivial⟩⟩⟩⟩⟩⟩⟩⟩⟩⟩⟩⟩⟩))⟩
def innerTT_t4 : Prop :=
  (1 : Nat) = (1 : Nat) ∧ ∀ (i : Nat), i < (1 : Nat) → ((0 : Nat) = (0 : Nat) ∧ (0 : Nat) = (0 : Nat)) ∧ True
theorem innerTT_t4_t : innerTT_t4 :=
  ⟨rfl, (fun _ => (fun _ => ⟨⟨rfl, rfl⟩, trivial⟩))⟩
def innerTT_t5 (d : TD) : Prop :=
  (1 : Nat) = (1 : Nat) ∧ ∀ (i : Nat), i < (1 : Nat) → d.2 + (1 : Nat) = d.2 + (1 : Nat) ∧ True
theorem innerTT_t5_t (d : TD) : innerTT_t5 d :=
  ⟨rfl, (fun _ => (fun _ => ⟨rfl, trivial⟩))⟩
def innerTT_t6 : Prop :=
  (1 : Nat) = (1 : Nat) ∧ ∀ (i : Nat), i < (1 : Nat) → (True ∧ True) ∧ True
theorem innerTT_t6_t : innerTT_t6 :=
  ⟨rfl, (fun _ => (fun _ => ⟨⟨trivial, trivial⟩, trivial⟩))⟩
def innerTT_t7 (p : TP) (d : TD) : Prop :=
  (p.6 = p.6 ∧ ∀ (i : Nat), i < p.k → p.7 i = p.7 i ∧ True) ∧ ((1 : Nat) = (1 : Nat) ∧ ∀ (i : Nat), i < (1 : Nat) → p.8.1 = p.8.1 ∧ p.8.2 = p.8.2 ∧ p.8.3 = p.8.3 ∧ True) ∧ (d.2 + (1 : Nat) = d.2 + (1 : Nat) ∧ ∀ (i : Nat), i < d.2 + (1 : Nat) → ((bif decide (i < d.2) then (d.3 i).1 else (3 : Int)) = bif decide (i < d.2) then (d.3 i).1 else (3 : Int)) ∧ ((bif decide (i < d.2) then (d.3 i).2 else d.1.3) = bif decide (i < d.2) then (d.3 i).2 else d.1.3) ∧ ((bif decide (i < d.2) then (d.3 i).3 else w64 (d.1.3 + p.1.2)) = bif decide (i < d.2) then (d.3 i).3 else w64 (d.1.3 + p.1.2)) ∧ True) ∧ True
theorem innerTT_t7_t (p : TP) (d : TD) : innerTT_t7 p d :=
  ⟨⟨rfl, (fun _ => (fun _ => ⟨rfl, trivial⟩))⟩, ⟨⟨rfl, (fun _ => (fun _ => ⟨rfl, ⟨rfl, ⟨rfl, trivial⟩⟩⟩))⟩, ⟨⟨rfl, (fun _ => (fun _ => ⟨rfl, ⟨rfl, ⟨rfl, trivial⟩⟩⟩))⟩, trivial⟩⟩⟩
def innerTT_t8 (p : TP) (d : TD) : Prop :=
  True ∧ (4 : Nat) = (4 : Nat) ∧ (((0 : Nat) = (0 : Nat) ∧ (0 : Nat) = (0 : Nat)) ∧ (4 : Int) = (4 : Int) ∧ d.1.3 = d.1.3 ∧ True) ∧ ((1 : Nat) = (1 : Nat) ∧ ∀ (i : Nat), i < (1 : Nat) → p.1.1 = p.1.1 ∧ p.1.2 = p.1.2 ∧ p.1.3 = p.1.3 ∧ p.1.4 = p.1.4 ∧ p.2.1 = p.2.1 ∧ p.2.2 = p.2.2 ∧ p.2.3 = p.2.3 ∧ p.2.4 = p.2.4 ∧ p.2.5 = p.2.5 ∧ p.2.6 = p.2.6 ∧ True ∧ True ∧ ((0 : Nat) = (0 : Nat) ∧ p.6 = p.6) ∧ True) ∧ Leaf (duesE.Perm duesE) ∧ Leaf (effectsE.Perm effectsE) ∧ (p.6 = p.6 ∧ ∀ (i : Nat), i < p.6 → p.7 i = p.7 i ∧ True) ∧ True
theorem innerTT_t8_t (p : TP) (d : TD) : innerTT_t8 p d :=
  ⟨trivial, ⟨rfl, ⟨⟨⟨rfl, rfl⟩, ⟨rfl, ⟨rfl, trivial⟩⟩⟩, ⟨⟨rfl, (fun _ => (fun _ => ⟨rfl, ⟨rfl, ⟨rfl, ⟨rfl, ⟨rfl, ⟨rfl, ⟨rfl, ⟨rfl, ⟨rfl, ⟨rfl, ⟨trivial, ⟨trivial, ⟨⟨rfl, rfl⟩, trivial⟩⟩⟩⟩⟩⟩⟩⟩⟩⟩⟩⟩⟩))⟩, ⟨(List.Perm.refl _), ⟨(List.Perm.refl _), ⟨⟨rfl, (fun _ => (fun _ => ⟨rfl, trivial⟩))⟩, trivial⟩⟩⟩⟩⟩⟩⟩
def innerTT_t9 (p : TP) (d : TD) : Prop :=
  (p.6 = p.6 ∧ ∀ (i : Nat), i < p.k → p.7 i = p.7 i ∧ True) ∧ ((1 : Nat) = (1 : Nat) ∧ ∀ (i : Nat), i < (1 : Nat) → p.8.1 = p.8.1 ∧ p.8.2 = p.8.2 ∧ p.8.3 = p.8.3 ∧ True) ∧ (d.2 + (1 : Nat) = d.2 + (1 : Nat) ∧ ∀ (i : Nat), i < d.2 + (1 : Nat) → ((bif decide (i < d.2) then (d.3 i).1 else (4 : Int)) = bif decide (i < d.2) then (d.3 i).1 else (4 : Int)) ∧ ((bif decide (i < d.2) then (d.3 i).2 else d.1.3) = bif decide (i < d.2) then (d.3 i).2 else d.1.3) ∧ ((bif decide (i < d.2) then (d.3 i).3 else w64 (d.1.3 + p.1.4)) = bif decide (i < d.2) then (d.3 i).3 else w64 (d.1.3 + p.1.4)) ∧ True) ∧ True
theorem innerTT_t9_t (p : TP) (d : TD) : innerTT_t9 p d :=
  ⟨⟨rfl, (fun _ => (fun _ => ⟨rfl, trivial⟩))⟩, ⟨⟨rfl, (fun _ => (fun _ => ⟨rfl, ⟨rfl, ⟨rfl, trivial⟩⟩⟩))⟩, ⟨⟨rfl, (fun _ => (fun _ => ⟨rfl, ⟨rfl, ⟨rfl, trivial⟩⟩⟩))⟩, trivial⟩⟩⟩
def innerTT_t10 (p : TP) (d : TD) : Prop :=
  True ∧ (4 : Nat) = (4 : Nat) ∧ (((0 : Nat) = (0 : Nat) ∧ (0 : Nat) = (0 : Nat)) ∧ (5 : Int) = (5 : Int) ∧ d.1.3 = d.1.3 ∧ True) ∧ ((1 : Nat) = (1 : Nat) ∧ ∀ (i : Nat), i < (1 : Nat) → p.1.1 = p.1.1 ∧ p.1.2 = p.1.2 ∧ p.1.3 = p.1.3 ∧ p.1.4 = p.1.4 ∧ p.2.1 = p.2.1 ∧ p.2.2 = p.2.2 ∧ p.2.3 = p.2.3 ∧ p.2.4 = p.2.4 ∧ p.2.5 = p.2.5 ∧ p.2.6 = p.2.6 ∧ True ∧ True ∧ ((0 : Nat) = (0 : Nat) ∧ p.6 = p.6) ∧ True) ∧ Leaf (duesE.Perm duesE) ∧ Leaf (effectsE.Perm effectsE) ∧ (p.6 = p.6 ∧ ∀ (i : Nat), i < p.6 → p.7 i = p.7 i ∧ True) ∧ True
theorem innerTT_t10_t (p : TP) (d : TD) : innerTT_t10 p d :=
  ⟨trivial, ⟨rfl, ⟨⟨⟨rfl, rfl⟩, ⟨rfl, ⟨rfl, trivial⟩⟩⟩, ⟨⟨rfl, (fun _ => (fun _ => ⟨rfl, ⟨rfl, ⟨rfl, ⟨rfl, ⟨rfl, ⟨rfl, ⟨rfl, ⟨rfl, ⟨rfl, ⟨rfl, ⟨trivial, ⟨trivial, ⟨⟨rfl, rfl⟩, trivial⟩⟩⟩⟩⟩⟩⟩⟩⟩⟩⟩⟩⟩))⟩, ⟨(List.Perm.refl _), ⟨(List.Perm.refl _), ⟨⟨rfl, (fun _ => (fun _ => ⟨rfl, trivial⟩))⟩, trivial⟩⟩⟩⟩⟩⟩⟩
def innerTT_t11 (p : TP) (d : TD) : Prop :=
  (p.6 = p.6 ∧ ∀ (i : Nat), i < p.k → p.7 i = p.7 i ∧ True) ∧ ((1 : Nat) = (1 : Nat) ∧ ∀ (i : Nat), i < (1 : Nat) → p.8.1 = p.8.1 ∧ p.8.2 = p.8.2 ∧ p.8.3 = p.8.3 ∧ True) ∧ (d.2 + (1 : Nat) = d.2 + (1 : Nat) ∧ ∀ (i : Nat), i < d.2 + (1 : Nat) → ((bif decide (i < d.2) then (d.3 i).1 else (5 : Int)) = bif decide (i < d.2) then (d.3 i).1 else (5 : Int)) ∧ ((bif decide (i < d.2) then (d.3 i).2 else d.1.3) = bif decide (i < d.2) then (d.3 i).2 else d.1.3) ∧ ((bif decide (i < d.2) then (d.3 i).3 else (-1 : Int)) = bif decide (i < d.2) then (d.3 i).3 else (-1 : Int)) ∧ True) ∧ True
theorem innerTT_t11_t (p : TP) (d : TD) : innerTT_t11 p d :=
  ⟨⟨rfl, (fun _ => (fun _ => ⟨rfl, trivial⟩))⟩, ⟨⟨rfl, (fun _ => (fun _ => ⟨rfl, ⟨rfl, ⟨rfl, trivial⟩⟩⟩))⟩, ⟨⟨rfl, (fun _ => (fun _ => ⟨rfl, ⟨rfl, ⟨rfl, trivial⟩⟩⟩))⟩, trivial⟩⟩⟩
def innerTT_t12 (p : TP) (d : TD) : Prop :=
  True ∧ (4 : Nat) = (4 : Nat) ∧ (((0 : Nat) = (0 : Nat) ∧ (0 : Nat) = (0 : Nat)) ∧ (0 : Int) = (0 : Int) ∧ d.1.3 = d.1.3 ∧ True) ∧ ((1 : Nat) = (1 : Nat) ∧ ∀ (i : Nat), i < (1 : Nat) → p.1.1 = p.1.1 ∧ p.1.2 = p.1.2 ∧ p.1.3 = p.1.3 ∧ p.1.4 = p.1.4 ∧ p.2.1 = p.2.1 ∧ p.2.2 = p.2.2 ∧ p.2.3 = p.2.3 ∧ p.2.4 = p.2.4 ∧ p.2.5 = p.2.5 ∧ p.2.6 = p.2.6 ∧ True ∧ True ∧ ((0 : Nat) = (0 : Nat) ∧ p.6 = p.6) ∧ True) ∧ Leaf (duesE.Perm duesE) ∧ Leaf (effectsE.Perm effectsE) ∧ (p.6 = p.6 ∧ ∀ (i : Nat), i < p.6 → p.7 i = p.7 i ∧ True) ∧ True
theorem innerTT_t12_t (p : TP) (d : TD) : innerTT_t12 p d :=
  ⟨trivial, ⟨rfl, ⟨⟨⟨rfl, rfl⟩, ⟨rfl, ⟨rfl, trivial⟩⟩⟩, ⟨⟨rfl, (fun _ => (fun _ => ⟨rfl, ⟨rfl, ⟨rfl, ⟨rfl, ⟨rfl, ⟨rfl, ⟨rfl, ⟨rfl, ⟨rfl, ⟨rfl, ⟨trivial, ⟨trivial, ⟨⟨rfl, rfl⟩, trivial⟩⟩⟩⟩⟩⟩⟩⟩⟩⟩⟩⟩⟩))⟩, ⟨(List.Perm.refl _), ⟨(List.Perm.refl _), ⟨⟨rfl, (fun _ => (fun _ => ⟨rfl, trivial⟩))⟩, trivial⟩⟩⟩⟩⟩⟩⟩
def innerTT_t13 (p : TP) (d : TD) : Prop :=
  (p.6 = p.6 ∧ ∀ (i : Nat), i < p.k → p.7 i = p.7 i ∧ True) ∧ ((1 : Nat) = (1 : Nat) ∧ ∀ (i : Nat), i < (1 : Nat) → p.8.1 = p.8.1 ∧ p.8.2 = p.8.2 ∧ p.8.3 = p.8.3 ∧ True) ∧ (d.2 + (1 : Nat) = d.2 + (1 : Nat) ∧ ∀ (i : Nat), i < d.2 + (1 : Nat) → ((bif decide (i < d.2) then (d.3 i).1 else (0 : Int)) = bif decide (i < d.2) then (d.3 i).1 else (0 : Int)) ∧ ((bif decide (i < d.2) then (d.3 i).2 else d.1.3) = bif decide (i < d.2) then (d.3 i).2 else d.1.3) ∧ ((bif decide (i < d.2) then (d.3 i).3 else (-1 : Int)) = bif decide (i < d.2) then (d.3 i).3 else (-1 : Int)) ∧ True) ∧ True
theorem innerTT_t13_t (p : TP) (d : TD) : innerTT_t13 p d :=
  ⟨⟨rfl, (fun _ => (fun _ => ⟨rfl, trivial⟩))⟩, ⟨⟨rfl, (fun _ => (fun _ => ⟨rfl, ⟨rfl, ⟨rfl, trivial⟩⟩⟩))⟩, ⟨⟨rfl, (fun _ => (fun _ => ⟨rfl, ⟨rfl, ⟨rfl, trivial⟩⟩⟩))⟩, trivial⟩⟩⟩
def innerTT_t14 (p : TP) (d : TD) : Prop :=
  True ∧ (p.4 = p.4 ∧ ∀ (i : Nat), i < p.n → (p.3 i).1 = (p.3 i).1 ∧ (p.3 i).2 = (p.3 i).2 ∧ (p.3 i).3 = (p.3 i).3 ∧ True) ∧ Leaf (duesE.Perm duesE) ∧ Leaf (effectsE.Perm effectsE) ∧ ((1 : Nat) = (1 : Nat) ∧ ∀ (i : Nat), i < (1 : Nat) → p.1.1 = p.1.1 ∧ p.1.2 = p.1.2 ∧ p.1.3 = p.1.3 ∧ p.1.4 = p.1.4 ∧ p.2.1 = p.2.1 ∧ p.2.2 = p.2.2 ∧ p.2.3 = p.2.3 ∧ p.2.4 = p.2.4 ∧ p.2.5 = p.2.5 ∧ p.2.6 = p.2.6 ∧ True ∧ True ∧ p.6 = p.6 ∧ True) ∧ ((1 : Nat) = (1 : Nat) ∧ ∀ (i : Nat), i < (1 : Nat) → ((0 : Nat) = (0 : Nat) ∧ (0 : Nat) = (0 : Nat)) ∧ True) ∧ ((1 : Nat) = (1 : Nat) ∧ ∀ (i : Nat), i < (1 : Nat) → d.2 = d.2 ∧ True) ∧ True ∧ True ∧ ((1 : Nat) = (1 : Nat) ∧ ∀ (i : Nat), i < (1 : Nat) → (True ∧ True) ∧ True) ∧ ((1 : Nat) = (1 : Nat) ∧ ∀ (i : Nat), i < (1 : Nat) → d.1.1 = d.1.1 ∧ d.1.2 = d.1.2 ∧ d.1.3 = d.1.3 ∧ True) ∧ (p.6 = p.6 ∧ ∀ (i : Nat), i < p.k → p.7 i = p.7 i ∧ True) ∧ ((1 : Nat) = (1 : Nat) ∧ ∀ (i : Nat), i < (1 : Nat) → p.8.1 = p.8.1 ∧ p.8.2 = p.8.2 ∧ p.8.3 = p.8.3 ∧ True) ∧ (d.2 = d.2 ∧ ∀ (i : Nat), i < d.k2 → (d.3 i).1 = (d.3 i).1 ∧ (d.3 i).2 = (d.3 i).2 ∧ (d.3 i).3 = (d.3 i).3 ∧ True) ∧ True
theorem innerTT_t14_t (p : TP) (d : TD) : innerTT_t14 p d :=
  ⟨trivial, ⟨⟨rfl, (fun _ => (fun _ => ⟨rfl, ⟨rfl, ⟨rfl, trivial⟩⟩⟩))⟩, ⟨(List.Perm.refl _), ⟨(List.Perm.refl _), ⟨⟨rfl, (fun _ => (fun _ => ⟨rfl, ⟨rfl, ⟨rfl, ⟨rfl, ⟨rfl, ⟨rfl, ⟨rfl, ⟨rfl, ⟨rfl, ⟨rfl, ⟨trivial, ⟨trivial, ⟨rfl, trivial⟩⟩⟩⟩⟩⟩⟩⟩⟩⟩⟩⟩⟩))⟩, ⟨⟨rfl, (fun _ => (fun _ => ⟨⟨rfl, rfl⟩, trivial⟩))⟩, ⟨⟨rfl, (fun _ => (fun _ => ⟨rfl, trivial⟩))⟩, ⟨trivial, ⟨trivial, ⟨⟨rfl, (fun _ => (fun _ => ⟨⟨trivial, trivial⟩, trivial⟩))⟩, ⟨⟨rfl, (fun _ => (fun _ => ⟨rfl, ⟨rfl, ⟨rfl, trivial⟩⟩⟩))⟩, ⟨⟨rfl, (fun _ => (fun _ => ⟨rfl, trivial⟩))⟩, ⟨⟨rfl, (fun _ => (fun _ => ⟨rfl, ⟨rfl, ⟨rfl, trivial⟩⟩⟩))⟩, ⟨⟨rfl, (fun _ => (fun _ => ⟨rfl, ⟨rfl, ⟨rfl, trivial⟩⟩⟩))⟩, trivial⟩⟩⟩⟩⟩⟩⟩⟩⟩⟩⟩⟩⟩⟩
def innerTT_T (p : TP) (d : TD) : Prop :=
  ifB (decide (d.1.3 ≥ (0 : Int)) == true) (ifB (decide (d.1.3 ≤ p.5)) (((((d.1.1 == (1 : Int)) = true → (d.1.1 == (2 : Int)) = true → False) ∧ ((d.1.1 == (1 : Int)) = true → (d.1.1 == (3 : Int)) = true → False) ∧ ((d.1.1 == (1 : Int)) = true → (d.1.1 == (4 : Int)) = true → False) ∧ True) ∧ (((d.1.1 == (2 : Int)) = true → (d.1.1 == (3 : Int)) = true → False) ∧ ((d.1.1 == (2 : Int)) = true → (d.1.1 == (4 : Int)) = true → False) ∧ True) ∧ (((d.1.1 == (3 : Int)) = true → (d.1.1 == (4 : Int)) = true → False) ∧ True) ∧ True ∧ True) ∧ ifB (d.1.1 == (1 : Int)) (innerTT_t0 p d ∧ ifB (decide (d.2 ≤ d.2) && decide ((d.2 + (1 : Nat)) * (24 : Nat) ≤ (140737488355328 : Nat))) (Leaf (goesOn p.u d.now = true) ∧ Leaf (addW d.k2 d.W (step1 p.r d.now) (d.2 + (1 : Nat)) fun (i : Nat) => { state := bif decide (i < d.2) then (d.3 i).1 else (3 : Int), since := bif decide (i < d.2) then (d.3 i).2 else d.1.3, next := bif decide (i < d.2) then (d.3 i).3 else w64 (d.1.3 + p.1.2) : Sta }) ∧ innerTT_t1 p ∧ innerTT_t2 p ∧ Leaf (duesE.Perm duesE) ∧ Leaf (effectsE.Perm effectsE) ∧ innerTT_t3 p ∧ innerTT_t4 ∧ innerTT_t5 d ∧ True ∧ True ∧ innerTT_t6 ∧ ((1 : Nat) = (1 : Nat) ∧ ∀ (i : Nat), i < (1 : Nat) → Ytmcidfecepknpaa.follow d.1.1 = (3 : Int) ∧ d.1.3 = d.1.3 ∧ nextOf p.1 (Ytmcidfecepknpaa.follow d.1.1) d.1.3 = w64 (d.1.3 + p.1.2) ∧ True) ∧ innerTT_t7 p d) False) (ifB (d.1.1 == (2 : Int)) (innerTT_t0 p d ∧ ifB (decide (d.2 ≤ d.2) && decide ((d.2 + (1 : Nat)) * (24 : Nat) ≤ (140737488355328 : Nat))) (Leaf (goesOn p.u d.now = true) ∧ Leaf (addW d.k2 d.W (step1 p.r d.now) (d.2 + (1 : Nat)) fun (i : Nat) => { state := bif decide (i < d.2) then (d.3 i).1 else (3 : Int), since := bif decide (i < d.2) then (d.3 i).2 else d.1.3, next := bif decide (i < d.2) then (d.3 i).3 else w64 (d.1.3 + p.1.2) : Sta }) ∧ innerTT_t1 p ∧ innerTT_t2 p ∧ Leaf (duesE.Perm duesE) ∧ Leaf (effectsE.Perm effectsE) ∧ innerTT_t3 p ∧ innerTT_t4 ∧ innerTT_t5 d ∧ True ∧ True ∧ innerTT_t6 ∧ ((1 : Nat) = (1 : Nat) ∧ ∀ (i : Nat), i < (1 : Nat) → Ytmcidfecepknpaa.follow d.1.1 = (3 : Int) ∧ d.1.3 = d.1.3 ∧ nextOf p.1 (Ytmcidfecepknpaa.follow d.1.1) d.1.3 = w64 (d.1.3 + p.1.2) ∧ True) ∧ innerTT_t7 p d) False) (ifB (d.1.1 == (3 : Int)) (innerTT_t8 p d ∧ ifB (decide (d.2 ≤ d.2) && decide ((d.2 + (1 : Nat)) * (24 : Nat) ≤ (140737488355328 : Nat))) (Leaf (goesOn p.u d.now = true) ∧ Leaf (addW d.k2 d.W (step1 p.r d.now) (d.2 + (1 : Nat)) fun (i : Nat) => { state := bif decide (i < d.2) then (d.3 i).1 else (4 : Int), since := bif decide (i < d.2) then (d.3 i).2 else d.1.3, next := bif decide (i < d.2) then (d.3 i).3 else w64 (d.1.3 + p.1.4) : Sta }) ∧ innerTT_t1 p ∧ innerTT_t2 p ∧ Leaf (duesE.Perm duesE) ∧ Leaf (effectsE.Perm effectsE) ∧ innerTT_t3 p ∧ innerTT_t4 ∧ innerTT_t5 d ∧ True ∧ True ∧ innerTT_t6 ∧ ((1 : Nat) = (1 : Nat) ∧ ∀ (i : Nat), i < (1 : Nat) → Ytmcidfecepknpaa.follow d.1.1 = (4 : Int) ∧ d.1.3 = d.1.3 ∧ nextOf p.1 (Ytmcidfecepknpaa.follow d.1.1) d.1.3 = w64 (d.1.3 + p.1.4) ∧ True) ∧ innerTT_t9 p d) False) (ifB (d.1.1 == (4 : Int)) (innerTT_t10 p d ∧ ifB (decide (d.2 ≤ d.2) && decide ((d.2 + (1 : Nat)) * (24 : Nat) ≤ (140737488355328 : Nat))) (Leaf (goesOn p.u d.now = true) ∧ Leaf (addW d.k2 d.W (step1 p.r d.now) (d.2 + (1 : Nat)) fun (i : Nat) => { state := bif decide (i < d.2) then (d.3 i).1 else (5 : Int), since := bif decide (i < d.2) then (d.3 i).2 else d.1.3, next := bif decide (i < d.2) then (d.3 i).3 else (-1 : Int) : Sta }) ∧ innerTT_t1 p ∧ innerTT_t2 p ∧ Leaf (duesE.Perm duesE) ∧ Leaf (effectsE.Perm effectsE) ∧ innerTT_t3 p ∧ innerTT_t4 ∧ innerTT_t5 d ∧ True ∧ True ∧ innerTT_t6 ∧ ((1 : Nat) = (1 : Nat) ∧ ∀ (i : Nat), i < (1 : Nat) → Ytmcidfecepknpaa.follow d.1.1 = (5 : Int) ∧ d.1.3 = d.1.3 ∧ nextOf p.1 (Ytmcidfecepknpaa.follow d.1.1) d.1.3 = (-1 : Int) ∧ True) ∧ innerTT_t11 p d) False) (innerTT_t12 p d ∧ ifB (decide (d.2 ≤ d.2) && decide ((d.2 + (1 : Nat)) * (24 : Nat) ≤ (140737488355328 : Nat))) (Leaf (goesOn p.u d.now = true) ∧ Leaf (addW d.k2 d.W (step1 p.r d.now) (d.2 + (1 : Nat)) fun (i : Nat) => { state := bif decide (i < d.2) then (d.3 i).1 else (0 : Int), since := bif decide (i < d.2) then (d.3 i).2 else d.1.3, next := bif decide (i < d.2) then (d.3 i).3 else (-1 : Int) : Sta }) ∧ innerTT_t1 p ∧ innerTT_t2 p ∧ Leaf (duesE.Perm duesE) ∧ Leaf (effectsE.Perm effectsE) ∧ innerTT_t3 p ∧ innerTT_t4 ∧ innerTT_t5 d ∧ True ∧ True ∧ innerTT_t6 ∧ ((1 : Nat) = (1 : Nat) ∧ ∀ (i : Nat), i < (1 : Nat) → Ytmcidfecepknpaa.follow d.1.1 = (0 : Int) ∧ d.1.3 = d.1.3 ∧ nextOf p.1 (Ytmcidfecepknpaa.follow d.1.1) d.1.3 = (-1 : Int) ∧ True) ∧ innerTT_t13 p d) False))))) (Leaf (goesOn p.u d.now = false) ∧ innerTT_t14 p d)) (Leaf (goesOn p.u d.now = false) ∧ innerTT_t14 p d)
theorem innerTT_eq (p : TP) (d : TD) : exec X2' 60 62 (lIT true).code ((lIT true).I p d) (zIT true p d) = innerTT_T p d := by kernel_rfl

theorem innerTT_step (p : TP) (d : TD) (hok : d.now.ok p.r) (hk : d.k2 ≤ 300) : innerTT_T p d := by
  unfold innerTT_T
  repeat' (first | with_reducible refine ifB_split (fun _ => ?_) (fun _ => ?_) | with_reducible refine And.intro ?_ ?_)
  all_goals try first | with_reducible exact innerTT_t0_t _ _ | with_reducible exact innerTT_t1_t _ | with_reducible exact innerTT_t2_t _ | with_reducible exact innerTT_t3_t _ | with_reducible exact innerTT_t4_t | with_reducible exact innerTT_t5_t _ | with_reducible exact innerTT_t6_t | with_reducible exact innerTT_t7_t _ _ | with_reducible exact innerTT_t8_t _ _ | with_reducible exact innerTT_t9_t _ _ | with_reducible exact innerTT_t10_t _ _ | with_reducible exact innerTT_t11_t _ _ | with_reducible exact innerTT_t12_t _ _ | with_reducible exact innerTT_t13_t _ _ | with_reducible exact innerTT_t14_t _ _ | with_reducible rfl | with_reducible exact trivial | with_reducible exact List.Perm.refl _
  all_goals try simp only [Leaf]
  all_goals first
    | (simp_all [goesOn]; done)
    | (simp_all [goesOn]; intros; omega)
    | (exfalso; simp_all; omega)
    | (simp_all [goesOn, step1, begins, follow, nextOf, w64, Sta.ok]; done)
    | (refine ⟨rfl, fun j hj => ?_, ?_⟩ <;> (simp_all [step1, begins, follow, nextOf, w64]; done))
    | (simp_all [goesOn, step1, begins, follow, nextOf, w64, Sta.ok]; omega)
    | trace_state

set_option maxRecDepth 100000 in
theorem innerTT_ok : LoopOK X2'.P (lIT true).code (lIT true).L := by
  refine (lIT true).ok X2'_ok 60 62 (fun p d => rank d.now.state) (zIT true) (fun _ _ _ => ⟨⟨rfl, rfl, rfl, rfl⟩, trivial⟩) (fun p d w q hw => ?_) (fun p d S' hJ h => ?_) (fun p d x S' hx hJ h => ?_) fun p d hJ => ?_
  · match w, hw with
    | 0, _ => exact ⟨⟨rfl, rfl, rfl, rfl⟩, trivial⟩
  · unfold zIT at h; dsimp only at h
    split at h <;> try exact h.elim
    rename_i lo k2 W _
    obtain ⟨h1, h2, h3⟩ := h
    simp only [Leaf] at h1 h2
    obtain ⟨⟨m, hm, ha, hl⟩, hok, hk, hk0⟩ := hJ
    have hr := rank_pos hok h1
    obtain ⟨m', rfl⟩ : ∃ m', m = m' + 1 := ⟨m - 1, by omega⟩
    have h2' := h2.lst
    refine ⟨[some lo], ⟨step1 p.r d.now, k2, W⟩, ?_, ⟨⟨m', ?_, ?_, ?_⟩, rfl, ?_, hk0⟩, h3⟩
    · show rank (follow d.now.state) < rank d.now.state
      omega
    · show rank (follow d.now.state) ≤ m'
      omega
    · rw [ha]
      simp only [goN, h1]
    · rw [hl]
      simp only [aloneL, h1, h2', List.append_assoc, List.singleton_append]
    · show k2 + rank (follow d.now.state) ≤ p.k0 + 4
      have := h2.1
      omega
  · obtain ⟨⟨m, hm, ha, hl⟩, hok, hk, hk0⟩ := hJ
    cases x with
    | normal => exact hx.elim
    | ret => exact h.elim
    | exit k =>
      obtain ⟨h0, h1, h2⟩ := gateB_spec h
      have h0 := Nat.eq_of_beq_eq_true h0
      subst h0
      simp only [Leaf] at h1
      refine ⟨0, d, _, Nat.lt_succ_self 0, ⟨?_, hok, ?_, by omega⟩, rfl, h2⟩
      · rw [ha]; exact goN_done h1 m
      · rw [hl, aloneL_done h1 m, List.append_nil]
  · obtain ⟨_, hok, hk, hk0⟩ := hJ
    rw [innerTT_eq]
    exact innerTT_step p d hok (by omega)
def innerTF_t0 (p : TP) (d : TD) : Prop :=
  True ∧ (4 : Nat) = (4 : Nat) ∧ (((0 : Nat) = (0 : Nat) ∧ (0 : Nat) = (0 : Nat)) ∧ (3 : Int) = (3 : Int) ∧ d.1.3 = d.1.3 ∧ True) ∧ ((1 : Nat) = (1 : Nat) ∧ ∀ (i : Nat), i < (1 : Nat) → p.1.1 = p.1.1 ∧ p.1.2 = p.1.2 ∧ p.1.3 = p.1.3 ∧ p.1.4 = p.1.4 ∧ p.2.1 = p.2.1 ∧ p.2.2 = p.2.2 ∧ p.2.3 = p.2.3 ∧ p.2.4 = p.2.4 ∧ p.2.5 = p.2.5 ∧ p.2.6 = p.2.6 ∧ True ∧ True ∧ ((0 : Nat) = (0 : Nat) ∧ p.6 = p.6) ∧ True) ∧ Leaf (duesE.Perm duesE) ∧ Leaf (effectsE.Perm effectsE) ∧ (p.6 = p.6 ∧ ∀ (i : Nat), i < p.6 → p.7 i = p.7 i ∧ True) ∧ True
theorem innerTF_t0_t (p : TP) (d : TD) : innerTF_t0 p d :=
  ⟨trivial, ⟨rfl, ⟨⟨⟨rfl, rfl⟩, ⟨rfl, ⟨rfl, trivial⟩⟩⟩, ⟨⟨rfl, (fun _ => (fun _ => ⟨rfl, ⟨rfl, ⟨rfl, ⟨rfl, ⟨rfl, ⟨rfl, ⟨rfl, ⟨rfl, ⟨rfl, ⟨rfl, ⟨trivial, ⟨trivial, ⟨⟨rfl, rfl⟩, trivial⟩⟩⟩⟩⟩⟩⟩⟩⟩⟩⟩⟩⟩))⟩, ⟨(List.Perm.refl _), ⟨(List.Perm.refl _), ⟨⟨rfl, (fun _ => (fun _ => ⟨rfl, trivial⟩))⟩, trivial⟩⟩⟩⟩⟩⟩⟩
def innerTF_t1 (p : TP) : Prop :=
  p.5 = p.5 ∧ ((0 : Nat) = (0 : Nat) ∧ (0 : Nat) = (0 : Nat)) ∧ ((0 : Nat) = (0 : Nat) ∧ (0 : Nat) = (0 : Nat)) ∧ ((0 : Nat) = (0 : Nat) ∧ (0 : Nat) = (0 : Nat)) ∧ True
theorem innerTF_t1_t (p : TP) : innerTF_t1 p :=
  ⟨rfl, ⟨⟨rfl, rfl⟩, ⟨⟨rfl, rfl⟩, ⟨⟨rfl, rfl⟩, trivial⟩⟩⟩⟩
def innerTF_t2 (p : TP) : Prop :=
  p.4 = p.4 ∧ ∀ (i : Nat), i < p.n → (p.3 i).1 = (p.3 i).1 ∧ (p.3 i).2 = (p.3 i).2 ∧ (p.3 i).3 = (p.3 i).3 ∧ True
theorem innerTF_t2_t (p : TP) : innerTF_t2 p :=
  ⟨rfl, (fun _ => (fun _ => ⟨rfl, ⟨rfl, ⟨rfl, trivial⟩⟩⟩))⟩
def innerTF_t3 (p : TP) : Prop :=
  (1 : Nat) = (1 : Nat) ∧ ∀ (i : Nat), i < (1 : Nat) → p.1.1 = p.1.1 ∧ p.1.2 = p.1.2 ∧ p.1.3 = p.1.3 ∧ p.1.4 = p.1.4 ∧ p.2.1 = p.2.1 ∧ p.2.2 = p.2.2 ∧ p.2.3 = p.2.3 ∧ p.2.4 = p.2.4 ∧ p.2.5 = p.2.5 ∧ p.2.6 = p.2.6 ∧ True ∧ True ∧ p.6 = p.6 ∧ True
theorem innerTF_t3_t (p : TP) : innerTF_t3 p :=
  ⟨rfl, (fun _ => (fun _ => ⟨rfl, ⟨rfl, ⟨rfl, ⟨rfl, ⟨rfl, ⟨rfl, ⟨rfl, ⟨rfl, ⟨rfl, ⟨rfl, ⟨trivial, ⟨trivial, ⟨rfl, trivial⟩⟩⟩⟩⟩⟩⟩⟩⟩⟩⟩⟩⟩))⟩
def innerTF_t4 : Prop :=
  (1 : Nat) = (1 : Nat) ∧ ∀ (i : Nat), i < (1 : Nat) → ((0 : Nat) = (0 : Nat) ∧ (0 : Nat) = (0 : Nat)) ∧ True
theorem innerTF_t4_t : innerTF_t4 :=
  ⟨rfl, (fun _ => (fun _ => ⟨⟨rfl, rfl⟩, trivial⟩))⟩
def innerTF_t5 (d : TD) : Prop :=
  (1 : Nat) = (1 : Nat) ∧ ∀ (i : Nat), i < (1 : Nat) → d.2 + (1 : Nat) = d.2 + (1 : Nat) ∧ True
theorem innerTF_t5_t (d : TD) : innerTF_t5 d :=
  ⟨rfl, (fun _ => (fun _ => ⟨rfl, trivial⟩))⟩
def innerTF_t6 : Prop :=
  (1 : Nat) = (1 : Nat) ∧ ∀ (i : Nat), i < (1 : Nat) → (True ∧ True) ∧ True
theorem innerTF_t6_t : innerTF_t6 :=
  ⟨rfl, (fun _ => (fun _ => ⟨⟨trivial, trivial⟩, trivial⟩))⟩
def innerTF_t7 (p : TP) (d : TD) : Prop :=
  (p.6 = p.6 ∧ ∀ (i : Nat), i < p.k → p.7 i = p.7 i ∧ True) ∧ (d.2 + (1 : Nat) = d.2 + (1 : Nat) ∧ ∀ (i : Nat), i < d.2 + (1 : Nat) → ((bif decide (i < d.2) then (d.3 i).1 else (3 : Int)) = bif decide (i < d.2) then (d.3 i).1 else (3 : Int)) ∧ ((bif decide (i < d.2) then (d.3 i).2 else d.1.3) = bif decide (i < d.2) then (d.3 i).2 else d.1.3) ∧ ((bif decide (i < d.2) then (d.3 i).3 else w64 (d.1.3 + p.1.2)) = bif decide (i < d.2) then (d.3 i).3 else w64 (d.1.3 + p.1.2)) ∧ True) ∧ True
theorem innerTF_t7_t (p : TP) (d : TD) : innerTF_t7 p d :=
  ⟨⟨rfl, (fun _ => (fun _ => ⟨rfl, trivial⟩))⟩, ⟨⟨rfl, (fun _ => (fun _ => ⟨rfl, ⟨rfl, ⟨rfl, trivial⟩⟩⟩))⟩, trivial⟩⟩
def innerTF_t8 (p : TP) (d : TD) : Prop :=
  True ∧ (4 : Nat) = (4 : Nat) ∧ (((0 : Nat) = (0 : Nat) ∧ (0 : Nat) = (0 : Nat)) ∧ (4 : Int) = (4 : Int) ∧ d.1.3 = d.1.3 ∧ True) ∧ ((1 : Nat) = (1 : Nat) ∧ ∀ (i : Nat), i < (1 : Nat) → p.1.1 = p.1.1 ∧ p.1.2 = p.1.2 ∧ p.1.3 = p.1.3 ∧ p.1.4 = p.1.4 ∧ p.2.1 = p.2.1 ∧ p.2.2 = p.2.2 ∧ p.2.3 = p.2.3 ∧ p.2.4 = p.2.4 ∧ p.2.5 = p.2.5 ∧ p.2.6 = p.2.6 ∧ True ∧ True ∧ ((0 : Nat) = (0 : Nat) ∧ p.6 = p.6) ∧ True) ∧ Leaf (duesE.Perm duesE) ∧ Leaf (effectsE.Perm effectsE) ∧ (p.6 = p.6 ∧ ∀ (i : Nat), i < p.6 → p.7 i = p.7 i ∧ True) ∧ True
theorem innerTF_t8_t (p : TP) (d : TD) : innerTF_t8 p d :=
  ⟨trivial, ⟨rfl, ⟨⟨⟨rfl, rfl⟩, ⟨rfl, ⟨rfl, trivial⟩⟩⟩, ⟨⟨rfl, (fun _ => (fun _ => ⟨rfl, ⟨rfl, ⟨rfl, ⟨rfl, ⟨rfl, ⟨rfl, ⟨rfl, ⟨rfl, ⟨rfl, ⟨rfl, ⟨trivial, ⟨trivial, ⟨⟨rfl, rfl⟩, trivial⟩⟩⟩⟩⟩⟩⟩⟩⟩⟩⟩⟩⟩))⟩, ⟨(List.Perm.refl _), ⟨(List.Perm.refl _), ⟨⟨rfl, (fun _ => (fun _ => ⟨rfl, trivial⟩))⟩, trivial⟩⟩⟩⟩⟩⟩⟩
def innerTF_t9 (p : TP) (d : TD) : Prop :=
  (p.6 = p.6 ∧ ∀ (i : Nat), i < p.k → p.7 i = p.7 i ∧ True) ∧ (d.2 + (1 : Nat) = d.2 + (1 : Nat) ∧ ∀ (i : Nat), i < d.2 + (1 : Nat) → ((bif decide (i < d.2) then (d.3 i).1 else (4 : Int)) = bif decide (i < d.2) then (d.3 i).1 else (4 : Int)) ∧ ((bif decide (i < d.2) then (d.3 i).2 else d.1.3) = bif decide (i < d.2) then (d.3 i).2 else d.1.3) ∧ ((bif decide (i < d.2) then (d.3 i).3 else w64 (d.1.3 + p.1.4)) = bif decide (i < d.2) then (d.3 i).3 else w64 (d.1.3 + p.1.4)) ∧ True) ∧ True
theorem innerTF_t9_t (p : TP) (d : TD) : innerTF_t9 p d :=
  ⟨⟨rfl, (fun _ => (fun _ => ⟨rfl, trivial⟩))⟩, ⟨⟨rfl, (fun _ => (fun _ => ⟨rfl, ⟨rfl, ⟨rfl, trivial⟩⟩⟩))⟩, trivial⟩⟩
def innerTF_t10 (p : TP) (d : TD) : Prop :=
  True ∧ (4 : Nat) = (4 : Nat) ∧ (((0 : Nat) = (0 : Nat) ∧ (0 : Nat) = (0 : Nat)) ∧ (5 : Int) = (5 : Int) ∧ d.1.3 = d.1.3 ∧ True) ∧ ((1 : Nat) = (1 : Nat) ∧ ∀ (i : Nat), i < (1 : Nat) → p.1.1 = p.1.1 ∧ p.1.2 = p.1.2 ∧ p.1.3 = p.1.3 ∧ p.1.4 = p.1.4 ∧ p.2.1 = p.2.1 ∧ p.2.2 = p.2.2 ∧ p.2.3 = p.2.3 ∧ p.2.4 = p.2.4 ∧ p.2.5 = p.2.5 ∧ p.2.6 = p.2.6 ∧ True ∧ True ∧ ((0 : Nat) = (0 : Nat) ∧ p.6 = p.6) ∧ True) ∧ Leaf (duesE.Perm duesE) ∧ Leaf (effectsE.Perm effectsE) ∧ (p.6 = p.6 ∧ ∀ (i : Nat), i < p.6 → p.7 i = p.7 i ∧ True) ∧ True
theorem innerTF_t10_t (p : TP) (d : TD) : innerTF_t10 p d :=
  ⟨trivial, ⟨rfl, ⟨⟨⟨rfl, rfl⟩, ⟨rfl, ⟨rfl, trivial⟩⟩⟩, ⟨⟨rfl, (fun _ => (fun _ => ⟨rfl, ⟨rfl, ⟨rfl, ⟨rfl, ⟨rfl, ⟨rfl, ⟨rfl, ⟨rfl, ⟨rfl, ⟨rfl, ⟨trivial, ⟨trivial, ⟨⟨rfl, rfl⟩, trivial⟩⟩⟩⟩⟩⟩⟩⟩⟩⟩⟩⟩⟩))⟩, ⟨(List.Perm.refl _), ⟨(List.Perm.refl _), ⟨⟨rfl, (fun _ => (fun _ => ⟨rfl, trivial⟩))⟩, trivial⟩⟩⟩⟩⟩⟩⟩
def innerTF_t11 (p : TP) (d : TD) : Prop :=
  (p.6 = p.6 ∧ ∀ (i : Nat), i < p.k → p.7 i = p.7 i ∧ True) ∧ (d.2 + (1 : Nat) = d.2 + (1 : Nat) ∧ ∀ (i : Nat), i < d.2 + (1 : Nat) → ((bif decide (i < d.2) then (d.3 i).1 else (5 : Int)) = bif decide (i < d.2) then (d.3 i).1 else (5 : Int)) ∧ ((bif decide (i < d.2) then (d.3 i).2 else d.1.3) = bif decide (i < d.2) then (d.3 i).2 else d.1.3) ∧ ((bif decide (i < d.2) then (d.3 i).3 else (-1 : Int)) = bif decide (i < d.2) then (d.3 i).3 else (-1 : Int)) ∧ True) ∧ True
theorem innerTF_t11_t (p : TP) (d : TD) : innerTF_t11 p d :=
  ⟨⟨rfl, (fun _ => (fun _ => ⟨rfl, trivial⟩))⟩, ⟨⟨rfl, (fun _ => (fun _ => ⟨rfl, ⟨rfl, ⟨rfl, trivial⟩⟩⟩))⟩, trivial⟩⟩
def innerTF_t12 (p : TP) (d : TD) : Prop :=
  True ∧ (4 : Nat) = (4 : Nat) ∧ (((0 : Nat) = (0 : Nat) ∧ (0 : Nat) = (0 : Nat)) ∧ (0 : Int) = (0 : Int) ∧ d.1.3 = d.1.3 ∧ True) ∧ ((1 : Nat) = (1 : Nat) ∧ ∀ (i : Nat), i < (1 : Nat) → p.1.1 = p.1.1 ∧ p.1.2 = p.1.2 ∧ p.1.3 = p.1.3 ∧ p.1.4 = p.1.4 ∧ p.2.1 = p.2.1 ∧ p.2.2 = p.2.2 ∧ p.2.3 = p.2.3 ∧ p.2.4 = p.2.4 ∧ p.2.5 = p.2.5 ∧ p.2.6 = p.2.6 ∧ True ∧ True ∧ ((0 : Nat) = (0 : Nat) ∧ p.6 = p.6) ∧ True) ∧ Leaf (duesE.Perm duesE) ∧ Leaf (effectsE.Perm effectsE) ∧ (p.6 = p.6 ∧ ∀ (i : Nat), i < p.6 → p.7 i = p.7 i ∧ True) ∧ True
theorem innerTF_t12_t (p : TP) (d : TD) : innerTF_t12 p d :=
  ⟨trivial, ⟨rfl, ⟨⟨⟨rfl, rfl⟩, ⟨rfl, ⟨rfl, trivial⟩⟩⟩, ⟨⟨rfl, (fun _ => (fun _ => ⟨rfl, ⟨rfl, ⟨rfl, ⟨rfl, ⟨rfl, ⟨rfl, ⟨rfl, ⟨rfl, ⟨rfl, ⟨rfl, ⟨trivial, ⟨trivial, ⟨⟨rfl, rfl⟩, trivial⟩⟩⟩⟩⟩⟩⟩⟩⟩⟩⟩⟩⟩))⟩, ⟨(List.Perm.refl _), ⟨(List.Perm.refl _), ⟨⟨rfl, (fun _ => (fun _ => ⟨rfl, trivial⟩))⟩, trivial⟩⟩⟩⟩⟩⟩⟩
def innerTF_t13 (p : TP) (d : TD) : Prop :=
  (p.6 = p.6 ∧ ∀ (i : Nat), i < p.k → p.7 i = p.7 i ∧ True) ∧ (d.2 + (1 : Nat) = d.2 + (1 : Nat) ∧ ∀ (i : Nat), i < d.2 + (1 : Nat) → ((bif decide (i < d.2) then (d.3 i).1 else (0 : Int)) = bif decide (i < d.2) then (d.3 i).1 else (0 : Int)) ∧ ((bif decide (i < d.2) then (d.3 i).2 else d.1.3) = bif decide (i < d.2) then (d.3 i).2 else d.1.3) ∧ ((bif decide (i < d.2) then (d.3 i).3 else (-1 : Int)) = bif decide (i < d.2) then (d.3 i).3 else (-1 : Int)) ∧ True) ∧ True
theorem innerTF_t13_t (p : TP) (d : TD) : innerTF_t13 p d :=
  ⟨⟨rfl, (fun _ => (fun _ => ⟨rfl, trivial⟩))⟩, ⟨⟨rfl, (fun _ => (fun _ => ⟨rfl, ⟨rfl, ⟨rfl, trivial⟩⟩⟩))⟩, trivial⟩⟩
def innerTF_t14 (p : TP) (d : TD) : Prop :=
  True ∧ (p.4 = p.4 ∧ ∀ (i : Nat), i < p.n → (p.3 i).1 = (p.3 i).1 ∧ (p.3 i).2 = (p.3 i).2 ∧ (p.3 i).3 = (p.3 i).3 ∧ True) ∧ Leaf (duesE.Perm duesE) ∧ Leaf (effectsE.Perm effectsE) ∧ ((1 : Nat) = (1 : Nat) ∧ ∀ (i : Nat), i < (1 : Nat) → p.1.1 = p.1.1 ∧ p.1.2 = p.1.2 ∧ p.1.3 = p.1.3 ∧ p.1.4 = p.1.4 ∧ p.2.1 = p.2.1 ∧ p.2.2 = p.2.2 ∧ p.2.3 = p.2.3 ∧ p.2.4 = p.2.4 ∧ p.2.5 = p.2.5 ∧ p.2.6 = p.2.6 ∧ True ∧ True ∧ p.6 = p.6 ∧ True) ∧ ((1 : Nat) = (1 : Nat) ∧ ∀ (i : Nat), i < (1 : Nat) → ((0 : Nat) = (0 : Nat) ∧ (0 : Nat) = (0 : Nat)) ∧ True) ∧ ((1 : Nat) = (1 : Nat) ∧ ∀ (i : Nat), i < (1 : Nat) → d.2 = d.2 ∧ True) ∧ True ∧ True ∧ ((1 : Nat) = (1 : Nat) ∧ ∀ (i : Nat), i < (1 : Nat) → (True ∧ True) ∧ True) ∧ ((1 : Nat) = (1 : Nat) ∧ ∀ (i : Nat), i < (1 : Nat) → d.1.1 = d.1.1 ∧ d.1.2 = d.1.2 ∧ d.1.3 = d.1.3 ∧ True) ∧ (p.6 = p.6 ∧ ∀ (i : Nat), i < p.k → p.7 i = p.7 i ∧ True) ∧ (d.2 = d.2 ∧ ∀ (i : Nat), i < d.k2 → (d.3 i).1 = (d.3 i).1 ∧ (d.3 i).2 = (d.3 i).2 ∧ (d.3 i).3 = (d.3 i).3 ∧ True) ∧ True
theorem innerTF_t14_t (p : TP) (d : TD) : innerTF_t14 p d :=
  ⟨trivial, ⟨⟨rfl, (fun _ => (fun _ => ⟨rfl, ⟨rfl, ⟨rfl, trivial⟩⟩⟩))⟩, ⟨(List.Perm.refl _), ⟨(List.Perm.refl _), ⟨⟨rfl, (fun _ => (fun _ => ⟨rfl, ⟨rfl, ⟨rfl, ⟨rfl, ⟨rfl, ⟨rfl, ⟨rfl, ⟨rfl, ⟨rfl, ⟨rfl, ⟨trivial, ⟨trivial, ⟨rfl, trivial⟩⟩⟩⟩⟩⟩⟩⟩⟩⟩⟩⟩⟩))⟩, ⟨⟨rfl, (fun _ => (fun _ => ⟨⟨rfl, rfl⟩, trivial⟩))⟩, ⟨⟨rfl, (fun _ => (fun _ => ⟨rfl, trivial⟩))⟩, ⟨trivial, ⟨trivial, ⟨⟨rfl, (fun _ => (fun _ => ⟨⟨trivial, trivial⟩, trivial⟩))⟩, ⟨⟨rfl, (fun _ => (fun _ => ⟨rfl, ⟨rfl, ⟨rfl, trivial⟩⟩⟩))⟩, ⟨⟨rfl, (fun _ => (fun _ => ⟨rfl, trivial⟩))⟩, ⟨⟨rfl, (fun _ => (fun _ => ⟨rfl, ⟨rfl, ⟨rfl, trivial⟩⟩⟩))⟩, trivial⟩⟩⟩⟩⟩⟩⟩⟩⟩⟩⟩⟩⟩
def innerTF_T (p : TP) (d : TD) : Prop :=
  ifB (decide (d.1.3 ≥ (0 : Int)) == true) (ifB (decide (d.1.3 ≤ p.5)) (((((d.1.1 == (1 : Int)) = true → (d.1.1 == (2 : Int)) = true → False) ∧ ((d.1.1 == (1 : Int)) = true → (d.1.1 == (3 : Int)) = true → False) ∧ ((d.1.1 == (1 : Int)) = true → (d.1.1 == (4 : Int)) = true → False) ∧ True) ∧ (((d.1.1 == (2 : Int)) = true → (d.1.1 == (3 : Int)) = true → False) ∧ ((d.1.1 == (2 : Int)) = true → (d.1.1 == (4 : Int)) = true → False) ∧ True) ∧ (((d.1.1 == (3 : Int)) = true → (d.1.1 == (4 : Int)) = true → False) ∧ True) ∧ True ∧ True) ∧ ifB (d.1.1 == (1 : Int)) (innerTF_t0 p d ∧ ifB (decide (d.2 ≤ d.2) && decide ((d.2 + (1 : Nat)) * (24 : Nat) ≤ (140737488355328 : Nat))) (Leaf (goesOn p.u d.now = true) ∧ Leaf (addW d.k2 d.W (step1 p.r d.now) (d.2 + (1 : Nat)) fun (i : Nat) => { state := bif decide (i < d.2) then (d.3 i).1 else (3 : Int), since := bif decide (i < d.2) then (d.3 i).2 else d.1.3, next := bif decide (i < d.2) then (d.3 i).3 else w64 (d.1.3 + p.1.2) : Sta }) ∧ innerTF_t1 p ∧ innerTF_t2 p ∧ Leaf (duesE.Perm duesE) ∧ Leaf (effectsE.Perm effectsE) ∧ innerTF_t3 p ∧ innerTF_t4 ∧ innerTF_t5 d ∧ True ∧ True ∧ innerTF_t6 ∧ ((1 : Nat) = (1 : Nat) ∧ ∀ (i : Nat), i < (1 : Nat) → Ytmcidfecepknpaa.follow d.1.1 = (3 : Int) ∧ d.1.3 = d.1.3 ∧ nextOf p.1 (Ytmcidfecepknpaa.follow d.1.1) d.1.3 = w64 (d.1.3 + p.1.2) ∧ True) ∧ innerTF_t7 p d) False) (ifB (d.1.1 == (2 : Int)) (innerTF_t0 p d ∧ ifB (decide (d.2 ≤ d.2) && decide ((d.2 + (1 : Nat)) * (24 : Nat) ≤ (140737488355328 : Nat))) (Leaf (goesOn p.u d.now = true) ∧ Leaf (addW d.k2 d.W (step1 p.r d.now) (d.2 + (1 : Nat)) fun (i : Nat) => { state := bif decide (i < d.2) then (d.3 i).1 else (3 : Int), since := bif decide (i < d.2) then (d.3 i).2 else d.1.3, next := bif decide (i < d.2) then (d.3 i).3 else w64 (d.1.3 + p.1.2) : Sta }) ∧ innerTF_t1 p ∧ innerTF_t2 p ∧ Leaf (duesE.Perm duesE) ∧ Leaf (effectsE.Perm effectsE) ∧ innerTF_t3 p ∧ innerTF_t4 ∧ innerTF_t5 d ∧ True ∧ True ∧ innerTF_t6 ∧ ((1 : Nat) = (1 : Nat) ∧ ∀ (i : Nat), i < (1 : Nat) → Ytmcidfecepknpaa.follow d.1.1 = (3 : Int) ∧ d.1.3 = d.1.3 ∧ nextOf p.1 (Ytmcidfecepknpaa.follow d.1.1) d.1.3 = w64 (d.1.3 + p.1.2) ∧ True) ∧ innerTF_t7 p d) False) (ifB (d.1.1 == (3 : Int)) (innerTF_t8 p d ∧ ifB (decide (d.2 ≤ d.2) && decide ((d.2 + (1 : Nat)) * (24 : Nat) ≤ (140737488355328 : Nat))) (Leaf (goesOn p.u d.now = true) ∧ Leaf (addW d.k2 d.W (step1 p.r d.now) (d.2 + (1 : Nat)) fun (i : Nat) => { state := bif decide (i < d.2) then (d.3 i).1 else (4 : Int), since := bif decide (i < d.2) then (d.3 i).2 else d.1.3, next := bif decide (i < d.2) then (d.3 i).3 else w64 (d.1.3 + p.1.4) : Sta }) ∧ innerTF_t1 p ∧ innerTF_t2 p ∧ Leaf (duesE.Perm duesE) ∧ Leaf (effectsE.Perm effectsE) ∧ innerTF_t3 p ∧ innerTF_t4 ∧ innerTF_t5 d ∧ True ∧ True ∧ innerTF_t6 ∧ ((1 : Nat) = (1 : Nat) ∧ ∀ (i : Nat), i < (1 : Nat) → Ytmcidfecepknpaa.follow d.1.1 = (4 : Int) ∧ d.1.3 = d.1.3 ∧ nextOf p.1 (Ytmcidfecepknpaa.follow d.1.1) d.1.3 = w64 (d.1.3 + p.1.4) ∧ True) ∧ innerTF_t9 p d) False) (ifB (d.1.1 == (4 : Int)) (innerTF_t10 p d ∧ ifB (decide (d.2 ≤ d.2) && decide ((d.2 + (1 : Nat)) * (24 : Nat) ≤ (140737488355328 : Nat))) (Leaf (goesOn p.u d.now = true) ∧ Leaf (addW d.k2 d.W (step1 p.r d.now) (d.2 + (1 : Nat)) fun (i : Nat) => { state := bif decide (i < d.2) then (d.3 i).1 else (5 : Int), since := bif decide (i < d.2) then (d.3 i).2 else d.1.3, next := bif decide (i < d.2) then (d.3 i).3 else (-1 : Int) : Sta }) ∧ innerTF_t1 p ∧ innerTF_t2 p ∧ Leaf (duesE.Perm duesE) ∧ Leaf (effectsE.Perm effectsE) ∧ innerTF_t3 p ∧ innerTF_t4 ∧ innerTF_t5 d ∧ True ∧ True ∧ innerTF_t6 ∧ ((1 : Nat) = (1 : Nat) ∧ ∀ (i : Nat), i < (1 : Nat) → Ytmcidfecepknpaa.follow d.1.1 = (5 : Int) ∧ d.1.3 = d.1.3 ∧ nextOf p.1 (Ytmcidfecepknpaa.follow d.1.1) d.1.3 = (-1 : Int) ∧ True) ∧ innerTF_t11 p d) False) (innerTF_t12 p d ∧ ifB (decide (d.2 ≤ d.2) && decide ((d.2 + (1 : Nat)) * (24 : Nat) ≤ (140737488355328 : Nat))) (Leaf (goesOn p.u d.now = true) ∧ Leaf (addW d.k2 d.W (step1 p.r d.now) (d.2 + (1 : Nat)) fun (i : Nat) => { state := bif decide (i < d.2) then (d.3 i).1 else (0 : Int), since := bif decide (i < d.2) then (d.3 i).2 else d.1.3, next := bif decide (i < d.2) then (d.3 i).3 else (-1 : Int) : Sta }) ∧ innerTF_t1 p ∧ innerTF_t2 p ∧ Leaf (duesE.Perm duesE) ∧ Leaf (effectsE.Perm effectsE) ∧ innerTF_t3 p ∧ innerTF_t4 ∧ innerTF_t5 d ∧ True ∧ True ∧ innerTF_t6 ∧ ((1 : Nat) = (1 : Nat) ∧ ∀ (i : Nat), i < (1 : Nat) → Ytmcidfecepknpaa.follow d.1.1 = (0 : Int) ∧ d.1.3 = d.1.3 ∧ nextOf p.1 (Ytmcidfecepknpaa.follow d.1.1) d.1.3 = (-1 : Int) ∧ True) ∧ innerTF_t13 p d) False))))) (Leaf (goesOn p.u d.now = false) ∧ innerTF_t14 p d)) (Leaf (goesOn p.u d.now = false) ∧ innerTF_t14 p d)
theorem innerTF_eq (p : TP) (d : TD) : exec X2' 60 62 (lIT false).code ((lIT false).I p d) (zIT false p d) = innerTF_T p d := by kernel_rfl

theorem innerTF_step (p : TP) (d : TD) (hok : d.now.ok p.r) (hk : d.k2 ≤ 300) : innerTF_T p d := by
  unfold innerTF_T
  repeat' (first | with_reducible refine ifB_split (fun _ => ?_) (fun _ => ?_) | with_reducible refine And.intro ?_ ?_)
  all_goals try first | with_reducible exact innerTF_t0_t _ _ | with_reducible exact innerTF_t1_t _ | with_reducible exact innerTF_t2_t _ | with_reducible exact innerTF_t3_t _ | with_reducible exact innerTF_t4_t | with_reducible exact innerTF_t5_t _ | with_reducible exact innerTF_t6_t | with_reducible exact innerTF_t7_t _ _ | with_reducible exact innerTF_t8_t _ _ | with_reducible exact innerTF_t9_t _ _ | with_reducible exact innerTF_t10_t _ _ | with_reducible exact innerTF_t11_t _ _ | with_reducible exact innerTF_t12_t _ _ | with_reducible exact innerTF_t13_t _ _ | with_reducible exact innerTF_t14_t _ _ | with_reducible rfl | with_reducible exact trivial | with_reducible exact List.Perm.refl _
  all_goals try simp only [Leaf]
  all_goals first
    | (simp_all [goesOn]; done)
    | (simp_all [goesOn]; intros; omega)
    | (exfalso; simp_all; omega)
    | (simp_all [goesOn, step1, begins, follow, nextOf, w64, Sta.ok]; done)
    | (refine ⟨rfl, fun j hj => ?_, ?_⟩ <;> (simp_all [step1, begins, follow, nextOf, w64]; done))
    | (simp_all [goesOn, step1, begins, follow, nextOf, w64, Sta.ok]; omega)
    | trace_state

set_option maxRecDepth 100000 in
theorem innerTF_ok : LoopOK X2'.P (lIT false).code (lIT false).L := by
  refine (lIT false).ok X2'_ok 60 62 (fun p d => rank d.now.state) (zIT false) (fun _ _ _ => ⟨⟨rfl, rfl, rfl, rfl⟩, trivial⟩) (fun p d w q hw => ?_) (fun p d S' hJ h => ?_) (fun p d x S' hx hJ h => ?_) fun p d hJ => ?_
  · match w, hw with
    | 0, _ => exact ⟨⟨rfl, rfl, rfl, rfl⟩, trivial⟩
  · unfold zIT at h; dsimp only at h
    split at h <;> try exact h.elim
    rename_i lo k2 W _
    obtain ⟨h1, h2, h3⟩ := h
    simp only [Leaf] at h1 h2
    obtain ⟨⟨m, hm, ha, hl⟩, hok, hk, hk0⟩ := hJ
    have hr := rank_pos hok h1
    obtain ⟨m', rfl⟩ : ∃ m', m = m' + 1 := ⟨m - 1, by omega⟩
    have h2' := h2.lst
    refine ⟨[some lo], ⟨step1 p.r d.now, k2, W⟩, ?_, ⟨⟨m', ?_, ?_, ?_⟩, rfl, ?_, hk0⟩, h3⟩
    · show rank (follow d.now.state) < rank d.now.state
      omega
    · show rank (follow d.now.state) ≤ m'
      omega
    · rw [ha]
      simp only [goN, h1]
    · rw [hl]
      simp only [aloneL, h1, h2', List.append_assoc, List.singleton_append]
    · show k2 + rank (follow d.now.state) ≤ p.k0 + 4
      have := h2.1
      omega
  · obtain ⟨⟨m, hm, ha, hl⟩, hok, hk, hk0⟩ := hJ
    cases x with
    | normal => exact hx.elim
    | ret => exact h.elim
    | exit k =>
      obtain ⟨h0, h1, h2⟩ := gateB_spec h
      have h0 := Nat.eq_of_beq_eq_true h0
      subst h0
      simp only [Leaf] at h1
      refine ⟨0, d, _, Nat.lt_succ_self 0, ⟨?_, hok, ?_, by omega⟩, rfl, h2⟩
      · rw [ha]; exact goN_done h1 m
      · rw [hl, aloneL_done h1 m, List.append_nil]
  · obtain ⟨_, hok, hk, hk0⟩ := hJ
    rw [innerTF_eq]
    exact innerTF_step p d hok (by omega)
end Go.Proofs.Ytmcidfecepknpaa

namespace Go.Proofs.Ytmcidfecepknpaa
open Go Go.Sh Go.Proofs
set_option linter.unusedVariables false
noncomputable def X3T : Ctx := X2'.loop 62 1 (lIT true).code (orL 22 ((lIT true).by (exIT true)) ((lIT false).by (exIT false)))
theorem X3T_ok : X3T.OK := Ctx.loop_ok X2'_ok (orL_ok (innerTT_ok.by (exIT true)) (innerTF_ok.by (exIT false)) 22)

structure TM where
  i : Nat
  now : Sta
  k : Nat
  V : Nat → Int
  k2 : Nat
  W : Nat → Sta
def lMT_J (p : CP) (d : TM) : Prop := d.i ≤ p.n ∧ p.n ≤ 20 ∧ runN p.r p.c p.E (begins p.r 1 p.c.asked) d.i = d.now ∧ d.now.ok p.r ∧ d.k ≤ d.i ∧ Lst d.k2 d.W = line p.r p.c p.E (begins p.r 1 p.c.asked) d.i ∧ d.k2 ≤ 1 + 5 * d.i
noncomputable def hpM (p : CP) (d : TM) : Heap := heapT p.r p.c p.E p.n d.k d.V 20 d.k2 .ready none (staO d.now) [lineO d.k2 d.W]
noncomputable def lMT : LSpec CP TM TM where
  code := loopOf Try.prog 60 5
  N := 18
  I := fun p d => blank 66 [(0, .fn (.yield 12) [] []), (1, .ptr 8 0 0), (3, .ptr 13 0 0), (4, .ptr 18 0 0), (5, .fn (.func 62) [] [.ptr 18 0 0, .ptr 8 0 0, .ptr 13 0 0]), (22, .sl 0 0 p.n), (23, iv p.n), (24, iv d.i)] (hpM p d)
  J := lMT_J
  ways := 1
  E := fun w p d => (.exit 0, blank 66 [(5, .fn (.func 62) [] [.ptr 18 0 0, .ptr 8 0 0, .ptr 13 0 0])] (hpM p d))
  JE := fun w p q => Leaf (runN p.r p.c p.E (begins p.r 1 p.c.asked) p.n = q.now ∧ q.now.ok p.r ∧ Lst q.k2 q.W = line p.r p.c p.E (begins p.r 1 p.c.asked) p.n ∧ q.k2 ≤ 1 + 5 * p.n)

/-- The state of Timeline's loop after a round. -/
def outTM (S : SS) (k : Sta → Nat → (Nat → Int) → Nat → (Nat → Sta) → Ren → Prop) : Prop := match S.get 4, arrOf S.heap 7 with
  | .ptr ln _ _, some (_, m) => match arrOf S.heap ln, m 0, outT' S.heap with
    | some (_, a), [_, _, _, _, _, _, _, _, _, _, _, _, .osl l n], some (lo, k2, W) => match arrOf S.heap l with
      | some (_, V) => k (Sta.ofC (a 0)) n (fun i => intOf (V i)) k2 W [some ln, some l, some lo]
      | none => False
    | _, _, _ => False
  | _, _ => False
noncomputable def zMT (p : CP) (d : TM) : KX := fun x S' => match x with
  | .normal => outTM S' fun o k V k2 W ρ => Leaf (d.i < p.n) ∧ Leaf (evN p.r p.c d.now (p.E d.i) = o ∧ o.ok p.r) ∧ Leaf (k ≤ d.i + 1) ∧ Leaf (Lst k2 W = Lst d.k2 d.W ++ evL p.r p.c d.now (p.E d.i) ∧ k2 ≤ d.k2 + 5) ∧ Wk 18 ρ (lMT.I p ⟨d.i + 1, o, k, V, k2, W⟩) S'
  | .exit j => gateB (Nat.beq j 0) (Leaf (p.n ≤ d.i) ∧ Wk 18 [some 18, some 19, some 20] (lMT.E 0 p d).2 S')
  | .ret => False
def exMT (S : SS) : Option (CP × TM × Ren) := match S.get 4, outT' S.heap with
  | .ptr ln _ _, some (lo, k2, W) => match arrOf S.heap 0, arrOf S.heap 7, arrOf S.heap ln with
    | some (n, E), some (_, m), some (_, a) => match machOf (m 0) with
      | some (r, c) => some (⟨r, c, fun i => Evt.of (E i), n⟩, ⟨0, Sta.ofC (a 0), 0, fun _ => 0, k2, W⟩, [some ln, none, some lo])
      | none => none
    | _, _, _ => none
  | _, _ => none
end Go.Proofs.Ytmcidfecepknpaa

namespace Go.Proofs.Ytmcidfecepknpaa
open Go Go.Sh Go.Proofs
set_option linter.unusedVariables false
set_option linter.unusedSimpArgs false
def mainT_t0 (p : CP) (d : TM) : Prop :=
  (22 : Nat) = (22 : Nat) ∧ (((((0 : Nat) = (0 : Nat) ∧ (0 : Nat) = (0 : Nat)) ∧ True) ∧ [(7 : Tmp)] = [(7 : Tmp)] ∧ asg64 = asg64 ∧ body64 = body64) ∧ True) ∧ ((p.3 ((0 : Nat) + d.1)).2 = (p.3 ((0 : Nat) + d.1)).2 ∧ ((0 : Nat) = (0 : Nat) ∧ (0 : Nat) = (0 : Nat)) ∧ ((0 : Nat) = (0 : Nat) ∧ (0 : Nat) = (0 : Nat)) ∧ ((0 : Nat) = (0 : Nat) ∧ (0 : Nat) = (0 : Nat)) ∧ True) ∧ (p.4 = p.4 ∧ ∀ (i : Nat), i < p.4 → (p.3 i).1 = (p.3 i).1 ∧ (p.3 i).2 = (p.3 i).2 ∧ (p.3 i).3 = (p.3 i).3 ∧ True) ∧ Leaf (duesE.Perm duesE) ∧ Leaf (effectsE.Perm effectsE) ∧ ((1 : Nat) = (1 : Nat) ∧ ∀ (i : Nat), i < (1 : Nat) → p.1.1 = p.1.1 ∧ p.1.2 = p.1.2 ∧ p.1.3 = p.1.3 ∧ p.1.4 = p.1.4 ∧ p.2.1 = p.2.1 ∧ p.2.2 = p.2.2 ∧ p.2.3 = p.2.3 ∧ p.2.4 = p.2.4 ∧ p.2.5 = p.2.5 ∧ p.2.6 = p.2.6 ∧ True ∧ True ∧ d.3 = d.3 ∧ True) ∧ ((1 : Nat) = (1 : Nat) ∧ ∀ (i : Nat), i < (1 : Nat) → ((0 : Nat) = (0 : Nat) ∧ (0 : Nat) = (0 : Nat)) ∧ True) ∧ ((1 : Nat) = (1 : Nat) ∧ ∀ (i : Nat), i < (1 : Nat) → d.5 = d.5 ∧ True) ∧ True ∧ True ∧ ((1 : Nat) = (1 : Nat) ∧ ∀ (i : Nat), i < (1 : Nat) → (True ∧ True) ∧ True) ∧ ((1 : Nat) = (1 : Nat) ∧ ∀ (i : Nat), i < (1 : Nat) → d.2.1 = d.2.1 ∧ d.2.2 = d.2.2 ∧ d.2.3 = d.2.3 ∧ True) ∧ (d.3 = d.3 ∧ ∀ (i : Nat), i < d.3 → d.4 i = d.4 i ∧ True) ∧ ((1 : Nat) = (1 : Nat) ∧ ∀ (i : Nat), i < (1 : Nat) → (p.3 ((0 : Nat) + d.1)).1 = (p.3 ((0 : Nat) + d.1)).1 ∧ (p.3 ((0 : Nat) + d.1)).2 = (p.3 ((0 : Nat) + d.1)).2 ∧ (p.3 ((0 : Nat) + d.1)).3 = (p.3 ((0 : Nat) + d.1)).3 ∧ True) ∧ (d.5 = d.5 ∧ ∀ (i : Nat), i < d.5 → (d.6 i).1 = (d.6 i).1 ∧ (d.6 i).2 = (d.6 i).2 ∧ (d.6 i).3 = (d.6 i).3 ∧ True) ∧ True
theorem mainT_t0_t (p : CP) (d : TM) : mainT_t0 p d :=
  ⟨rfl, ⟨⟨⟨⟨⟨rfl, rfl⟩, trivial⟩, ⟨rfl, ⟨rfl, rfl⟩⟩⟩, trivial⟩, ⟨⟨rfl, ⟨⟨rfl, rfl⟩, ⟨⟨rfl, rfl⟩, ⟨⟨rfl, rfl⟩, trivial⟩⟩⟩⟩, ⟨⟨rfl, (fun _ => (fun _ => ⟨rfl, ⟨rfl, ⟨rfl, trivial⟩⟩⟩))⟩, ⟨(List.Perm.refl _), ⟨(List.Perm.refl _), ⟨⟨rfl, (fun _ => (fun _ => ⟨rfl, ⟨rfl, ⟨rfl, ⟨rfl, ⟨rfl, ⟨rfl, ⟨rfl, ⟨rfl, ⟨rfl, ⟨rfl, ⟨trivial, ⟨trivial, ⟨rfl, trivial⟩⟩⟩⟩⟩⟩⟩⟩⟩⟩⟩⟩⟩))⟩, ⟨⟨rfl, (fun _ => (fun _ => ⟨⟨rfl, rfl⟩, trivial⟩))⟩, ⟨⟨rfl, (fun _ => (fun _ => ⟨rfl, trivial⟩))⟩, ⟨trivial, ⟨trivial, ⟨⟨rfl, (fun _ => (fun _ => ⟨⟨trivial, trivial⟩, trivial⟩))⟩, ⟨⟨rfl, (fun _ => (fun _ => ⟨rfl, ⟨rfl, ⟨rfl, trivial⟩⟩⟩))⟩, ⟨⟨rfl, (fun _ => (fun _ => ⟨rfl, trivial⟩))⟩, ⟨⟨rfl, (fun _ => (fun _ => ⟨rfl, ⟨rfl, ⟨rfl, trivial⟩⟩⟩))⟩, ⟨⟨rfl, (fun _ => (fun _ => ⟨rfl, ⟨rfl, ⟨rfl, trivial⟩⟩⟩))⟩, trivial⟩⟩⟩⟩⟩⟩⟩⟩⟩⟩⟩⟩⟩⟩⟩⟩
def mainT_t1 (p : CP) (d : TM) (q : TD) : Prop :=
  True ∧ (4 : Nat) = (4 : Nat) ∧ (((0 : Nat) = (0 : Nat) ∧ (0 : Nat) = (0 : Nat)) ∧ q.1.1 = q.1.1 ∧ ((p.3 ((0 : Nat) + d.1)).1 = (p.3 ((0 : Nat) + d.1)).1 ∧ (p.3 ((0 : Nat) + d.1)).2 = (p.3 ((0 : Nat) + d.1)).2 ∧ (p.3 ((0 : Nat) + d.1)).3 = (p.3 ((0 : Nat) + d.1)).3 ∧ True) ∧ True) ∧ ((1 : Nat) = (1 : Nat) ∧ ∀ (i : Nat), i < (1 : Nat) → p.1.1 = p.1.1 ∧ p.1.2 = p.1.2 ∧ p.1.3 = p.1.3 ∧ p.1.4 = p.1.4 ∧ p.2.1 = p.2.1 ∧ p.2.2 = p.2.2 ∧ p.2.3 = p.2.3 ∧ p.2.4 = p.2.4 ∧ p.2.5 = p.2.5 ∧ p.2.6 = p.2.6 ∧ True ∧ True ∧ ((0 : Nat) = (0 : Nat) ∧ d.3 = d.3) ∧ True) ∧ Leaf (duesE.Perm duesE) ∧ Leaf (effectsE.Perm effectsE) ∧ (d.3 = d.3 ∧ ∀ (i : Nat), i < d.3 → d.4 i = d.4 i ∧ True) ∧ True
theorem mainT_t1_t (p : CP) (d : TM) (q : TD) : mainT_t1 p d q :=
  ⟨trivial, ⟨rfl, ⟨⟨⟨rfl, rfl⟩, ⟨rfl, ⟨⟨rfl, ⟨rfl, ⟨rfl, trivial⟩⟩⟩, trivial⟩⟩⟩, ⟨⟨rfl, (fun _ => (fun _ => ⟨rfl, ⟨rfl, ⟨rfl, ⟨rfl, ⟨rfl, ⟨rfl, ⟨rfl, ⟨rfl, ⟨rfl, ⟨rfl, ⟨trivial, ⟨trivial, ⟨⟨rfl, rfl⟩, trivial⟩⟩⟩⟩⟩⟩⟩⟩⟩⟩⟩⟩⟩))⟩, ⟨(List.Perm.refl _), ⟨(List.Perm.refl _), ⟨⟨rfl, (fun _ => (fun _ => ⟨rfl, trivial⟩))⟩, trivial⟩⟩⟩⟩⟩⟩⟩
def mainT_t2 : Prop :=
  (0 : Nat) = (0 : Nat) ∧ (0 : Nat) = (0 : Nat)
theorem mainT_t2_t : mainT_t2 :=
  ⟨rfl, rfl⟩
def mainT_t3 : Prop :=
  True ∧ ((0 : Nat) = (0 : Nat) ∧ (0 : Nat) = (0 : Nat)) ∧ ((0 : Nat) = (0 : Nat) ∧ (0 : Nat) = (0 : Nat)) ∧ ((0 : Nat) = (0 : Nat) ∧ (0 : Nat) = (0 : Nat)) ∧ True
theorem mainT_t3_t : mainT_t3 :=
  ⟨trivial, ⟨⟨rfl, rfl⟩, ⟨⟨rfl, rfl⟩, ⟨⟨rfl, rfl⟩, trivial⟩⟩⟩⟩
def mainT_t4 (p : CP) : Prop :=
  (0 : Nat) = (0 : Nat) ∧ p.4 = p.4
theorem mainT_t4_t (p : CP) : mainT_t4 p :=
  ⟨rfl, rfl⟩
def mainT_t5 (p : CP) (d : TM) (q : TD) : Prop :=
  (p.4 = p.4 ∧ ∀ (i : Nat), i < p.n → (p.3 i).1 = (p.3 i).1 ∧ (p.3 i).2 = (p.3 i).2 ∧ (p.3 i).3 = (p.3 i).3 ∧ True) ∧ Leaf (duesE.Perm duesE) ∧ Leaf (effectsE.Perm effectsE) ∧ ((1 : Nat) = (1 : Nat) ∧ ∀ (i : Nat), i < (1 : Nat) → p.1.1 = p.1.1 ∧ p.1.2 = p.1.2 ∧ p.1.3 = p.1.3 ∧ p.1.4 = p.1.4 ∧ p.2.1 = p.2.1 ∧ p.2.2 = p.2.2 ∧ p.2.3 = p.2.3 ∧ p.2.4 = p.2.4 ∧ p.2.5 = p.2.5 ∧ p.2.6 = p.2.6 ∧ True ∧ True ∧ d.3 + (1 : Nat) = d.3 + (1 : Nat) ∧ True) ∧ ((1 : Nat) = (1 : Nat) ∧ ∀ (i : Nat), i < (1 : Nat) → ((0 : Nat) = (0 : Nat) ∧ (0 : Nat) = (0 : Nat)) ∧ True) ∧ ((1 : Nat) = (1 : Nat) ∧ ∀ (i : Nat), i < (1 : Nat) → q.2 = q.2 ∧ True) ∧ True ∧ True ∧ ((1 : Nat) = (1 : Nat) ∧ ∀ (i : Nat), i < (1 : Nat) → (True ∧ True) ∧ True) ∧ ((1 : Nat) = (1 : Nat) ∧ ∀ (i : Nat), i < (1 : Nat) → q.1.1 = q.1.1 ∧ q.1.2 = q.1.2 ∧ q.1.3 = q.1.3 ∧ True) ∧ (d.3 + (1 : Nat) = d.3 + (1 : Nat) ∧ ∀ (i : Nat), i < d.3 + (1 : Nat) → ((bif decide (i < d.3) then d.4 i else Int.ofNat d.1) = bif decide (i < d.3) then d.4 i else Int.ofNat d.1) ∧ True) ∧ (q.2 = q.2 ∧ ∀ (i : Nat), i < q.2 → (q.3 i).1 = (q.3 i).1 ∧ (q.3 i).2 = (q.3 i).2 ∧ (q.3 i).3 = (q.3 i).3 ∧ True) ∧ True
theorem mainT_t5_t (p : CP) (d : TM) (q : TD) : mainT_t5 p d q :=
  ⟨⟨rfl, (fun _ => (fun _ => ⟨rfl, ⟨rfl, ⟨rfl, trivial⟩⟩⟩))⟩, ⟨(List.Perm.refl _), ⟨(List.Perm.refl _), ⟨⟨rfl, (fun _ => (fun _ => ⟨rfl, ⟨rfl, ⟨rfl, ⟨rfl, ⟨rfl, ⟨rfl, ⟨rfl, ⟨rfl, ⟨rfl, ⟨rfl, ⟨trivial, ⟨trivial, ⟨rfl, trivial⟩⟩⟩⟩⟩⟩⟩⟩⟩⟩⟩⟩⟩))⟩, ⟨⟨rfl, (fun _ => (fun _ => ⟨⟨rfl, rfl⟩, trivial⟩))⟩, ⟨⟨rfl, (fun _ => (fun _ => ⟨rfl, trivial⟩))⟩, ⟨trivial, ⟨trivial, ⟨⟨rfl, (fun _ => (fun _ => ⟨⟨trivial, trivial⟩, trivial⟩))⟩, ⟨⟨rfl, (fun _ => (fun _ => ⟨rfl, ⟨rfl, ⟨rfl, trivial⟩⟩⟩))⟩, ⟨⟨rfl, (fun _ => (fun _ => ⟨rfl, trivial⟩))⟩, ⟨⟨rfl, (fun _ => (fun _ => ⟨rfl, ⟨rfl, ⟨rfl, trivial⟩⟩⟩))⟩, trivial⟩⟩⟩⟩⟩⟩⟩⟩⟩⟩⟩⟩
def mainT_t6 (p : CP) (d : TM) (q : TD) : Prop :=
  True ∧ (4 : Nat) = (4 : Nat) ∧ (((0 : Nat) = (0 : Nat) ∧ (0 : Nat) = (0 : Nat)) ∧ afterN p.2 q.1.1 (p.3 ((0 : Nat) + d.1)) = afterN p.2 q.1.1 (p.3 ((0 : Nat) + d.1)) ∧ (p.3 ((0 : Nat) + d.1)).2 = (p.3 ((0 : Nat) + d.1)).2 ∧ True) ∧ ((1 : Nat) = (1 : Nat) ∧ ∀ (i : Nat), i < (1 : Nat) → p.1.1 = p.1.1 ∧ p.1.2 = p.1.2 ∧ p.1.3 = p.1.3 ∧ p.1.4 = p.1.4 ∧ p.2.1 = p.2.1 ∧ p.2.2 = p.2.2 ∧ p.2.3 = p.2.3 ∧ p.2.4 = p.2.4 ∧ p.2.5 = p.2.5 ∧ p.2.6 = p.2.6 ∧ True ∧ True ∧ ((0 : Nat) = (0 : Nat) ∧ d.3 = d.3) ∧ True) ∧ Leaf (duesE.Perm duesE) ∧ Leaf (effectsE.Perm effectsE) ∧ (d.3 = d.3 ∧ ∀ (i : Nat), i < d.3 → d.4 i = d.4 i ∧ True) ∧ True
theorem mainT_t6_t (p : CP) (d : TM) (q : TD) : mainT_t6 p d q :=
  ⟨trivial, ⟨rfl, ⟨⟨⟨rfl, rfl⟩, ⟨rfl, ⟨rfl, trivial⟩⟩⟩, ⟨⟨rfl, (fun _ => (fun _ => ⟨rfl, ⟨rfl, ⟨rfl, ⟨rfl, ⟨rfl, ⟨rfl, ⟨rfl, ⟨rfl, ⟨rfl, ⟨rfl, ⟨trivial, ⟨trivial, ⟨⟨rfl, rfl⟩, trivial⟩⟩⟩⟩⟩⟩⟩⟩⟩⟩⟩⟩⟩))⟩, ⟨(List.Perm.refl _), ⟨(List.Perm.refl _), ⟨⟨rfl, (fun _ => (fun _ => ⟨rfl, trivial⟩))⟩, trivial⟩⟩⟩⟩⟩⟩⟩
def mainT_t7 (p : CP) (d : TM) (q : TD) : Prop :=
  (p.4 = p.4 ∧ ∀ (i : Nat), i < p.n → (p.3 i).1 = (p.3 i).1 ∧ (p.3 i).2 = (p.3 i).2 ∧ (p.3 i).3 = (p.3 i).3 ∧ True) ∧ Leaf (duesE.Perm duesE) ∧ Leaf (effectsE.Perm effectsE) ∧ ((1 : Nat) = (1 : Nat) ∧ ∀ (i : Nat), i < (1 : Nat) → p.1.1 = p.1.1 ∧ p.1.2 = p.1.2 ∧ p.1.3 = p.1.3 ∧ p.1.4 = p.1.4 ∧ p.2.1 = p.2.1 ∧ p.2.2 = p.2.2 ∧ p.2.3 = p.2.3 ∧ p.2.4 = p.2.4 ∧ p.2.5 = p.2.5 ∧ p.2.6 = p.2.6 ∧ True ∧ True ∧ d.3 = d.3 ∧ True) ∧ ((1 : Nat) = (1 : Nat) ∧ ∀ (i : Nat), i < (1 : Nat) → ((0 : Nat) = (0 : Nat) ∧ (0 : Nat) = (0 : Nat)) ∧ True) ∧ ((1 : Nat) = (1 : Nat) ∧ ∀ (i : Nat), i < (1 : Nat) → q.2 + (1 : Nat) = q.2 + (1 : Nat) ∧ True) ∧ True ∧ True ∧ ((1 : Nat) = (1 : Nat) ∧ ∀ (i : Nat), i < (1 : Nat) → (True ∧ True) ∧ True) ∧ ((1 : Nat) = (1 : Nat) ∧ ∀ (i : Nat), i < (1 : Nat) → afterN p.2 q.1.1 (p.3 ((0 : Nat) + d.1)) = afterN p.2 q.1.1 (p.3 ((0 : Nat) + d.1)) ∧ (p.3 ((0 : Nat) + d.1)).2 = (p.3 ((0 : Nat) + d.1)).2 ∧ nextOf p.1 (afterN p.2 q.1.1 (p.3 ((0 : Nat) + d.1))) (p.3 ((0 : Nat) + d.1)).2 = nextOf p.1 (afterN p.2 q.1.1 (p.3 ((0 : Nat) + d.1))) (p.3 ((0 : Nat) + d.1)).2 ∧ True) ∧ (d.3 = d.3 ∧ ∀ (i : Nat), i < d.3 → d.4 i = d.4 i ∧ True) ∧ (q.2 + (1 : Nat) = q.2 + (1 : Nat) ∧ ∀ (i : Nat), i < q.2 + (1 : Nat) → ((bif decide (i < q.2) then (q.3 i).1 else afterN p.2 q.1.1 (p.3 ((0 : Nat) + d.1))) = bif decide (i < q.2) then (q.3 i).1 else afterN p.2 q.1.1 (p.3 ((0 : Nat) + d.1))) ∧ ((bif decide (i < q.2) then (q.3 i).2 else (p.3 ((0 : Nat) + d.1)).2) = bif decide (i < q.2) then (q.3 i).2 else (p.3 ((0 : Nat) + d.1)).2) ∧ ((bif decide (i < q.2) then (q.3 i).3 else nextOf p.1 (afterN p.2 q.1.1 (p.3 ((0 : Nat) + d.1))) (p.3 ((0 : Nat) + d.1)).2) = bif decide (i < q.2) then (q.3 i).3 else nextOf p.1 (afterN p.2 q.1.1 (p.3 ((0 : Nat) + d.1))) (p.3 ((0 : Nat) + d.1)).2) ∧ True) ∧ True
theorem mainT_t7_t (p : CP) (d : TM) (q : TD) : mainT_t7 p d q :=
  ⟨⟨rfl, (fun _ => (fun _ => ⟨rfl, ⟨rfl, ⟨rfl, trivial⟩⟩⟩))⟩, ⟨(List.Perm.refl _), ⟨(List.Perm.refl _), ⟨⟨rfl, (fun _ => (fun _ => ⟨rfl, ⟨rfl, ⟨rfl, ⟨rfl, ⟨rfl, ⟨rfl, ⟨rfl, ⟨rfl, ⟨rfl, ⟨rfl, ⟨trivial, ⟨trivial, ⟨rfl, trivial⟩⟩⟩⟩⟩⟩⟩⟩⟩⟩⟩⟩⟩))⟩, ⟨⟨rfl, (fun _ => (fun _ => ⟨⟨rfl, rfl⟩, trivial⟩))⟩, ⟨⟨rfl, (fun _ => (fun _ => ⟨rfl, trivial⟩))⟩, ⟨trivial, ⟨trivial, ⟨⟨rfl, (fun _ => (fun _ => ⟨⟨trivial, trivial⟩, trivial⟩))⟩, ⟨⟨rfl, (fun _ => (fun _ => ⟨rfl, ⟨rfl, ⟨rfl, trivial⟩⟩⟩))⟩, ⟨⟨rfl, (fun _ => (fun _ => ⟨rfl, trivial⟩))⟩, ⟨⟨rfl, (fun _ => (fun _ => ⟨rfl, ⟨rfl, ⟨rfl, trivial⟩⟩⟩))⟩, trivial⟩⟩⟩⟩⟩⟩⟩⟩⟩⟩⟩⟩
def mainT_t8 (p : CP) (d : TM) : Prop :=
  ((True ∧ ((0 : Nat) = (0 : Nat) ∧ (0 : Nat) = (0 : Nat)) ∧ ((0 : Nat) = (0 : Nat) ∧ (0 : Nat) = (0 : Nat)) ∧ ((0 : Nat) = (0 : Nat) ∧ (0 : Nat) = (0 : Nat)) ∧ True) ∧ True) ∧ (p.4 = p.4 ∧ ∀ (i : Nat), i < p.n → (p.3 i).1 = (p.3 i).1 ∧ (p.3 i).2 = (p.3 i).2 ∧ (p.3 i).3 = (p.3 i).3 ∧ True) ∧ Leaf (duesE.Perm duesE) ∧ Leaf (effectsE.Perm effectsE) ∧ ((1 : Nat) = (1 : Nat) ∧ ∀ (i : Nat), i < (1 : Nat) → p.1.1 = p.1.1 ∧ p.1.2 = p.1.2 ∧ p.1.3 = p.1.3 ∧ p.1.4 = p.1.4 ∧ p.2.1 = p.2.1 ∧ p.2.2 = p.2.2 ∧ p.2.3 = p.2.3 ∧ p.2.4 = p.2.4 ∧ p.2.5 = p.2.5 ∧ p.2.6 = p.2.6 ∧ True ∧ True ∧ d.3 = d.3 ∧ True) ∧ ((1 : Nat) = (1 : Nat) ∧ ∀ (i : Nat), i < (1 : Nat) → ((0 : Nat) = (0 : Nat) ∧ (0 : Nat) = (0 : Nat)) ∧ True) ∧ ((1 : Nat) = (1 : Nat) ∧ ∀ (i : Nat), i < (1 : Nat) → d.5 = d.5 ∧ True) ∧ True ∧ True ∧ ((1 : Nat) = (1 : Nat) ∧ ∀ (i : Nat), i < (1 : Nat) → (True ∧ True) ∧ True) ∧ ((1 : Nat) = (1 : Nat) ∧ ∀ (i : Nat), i < (1 : Nat) → d.2.1 = d.2.1 ∧ d.2.2 = d.2.2 ∧ d.2.3 = d.2.3 ∧ True) ∧ (d.3 = d.3 ∧ ∀ (i : Nat), i < d.k → d.4 i = d.4 i ∧ True) ∧ (d.5 = d.5 ∧ ∀ (i : Nat), i < d.k2 → (d.6 i).1 = (d.6 i).1 ∧ (d.6 i).2 = (d.6 i).2 ∧ (d.6 i).3 = (d.6 i).3 ∧ True) ∧ True
theorem mainT_t8_t (p : CP) (d : TM) : mainT_t8 p d :=
  ⟨⟨⟨trivial, ⟨⟨rfl, rfl⟩, ⟨⟨rfl, rfl⟩, ⟨⟨rfl, rfl⟩, trivial⟩⟩⟩⟩, trivial⟩, ⟨⟨rfl, (fun _ => (fun _ => ⟨rfl, ⟨rfl, ⟨rfl, trivial⟩⟩⟩))⟩, ⟨(List.Perm.refl _), ⟨(List.Perm.refl _), ⟨⟨rfl, (fun _ => (fun _ => ⟨rfl, ⟨rfl, ⟨rfl, ⟨rfl, ⟨rfl, ⟨rfl, ⟨rfl, ⟨rfl, ⟨rfl, ⟨rfl, ⟨trivial, ⟨trivial, ⟨rfl, trivial⟩⟩⟩⟩⟩⟩⟩⟩⟩⟩⟩⟩⟩))⟩, ⟨⟨rfl, (fun _ => (fun _ => ⟨⟨rfl, rfl⟩, trivial⟩))⟩, ⟨⟨rfl, (fun _ => (fun _ => ⟨rfl, trivial⟩))⟩, ⟨trivial, ⟨trivial, ⟨⟨rfl, (fun _ => (fun _ => ⟨⟨trivial, trivial⟩, trivial⟩))⟩, ⟨⟨rfl, (fun _ => (fun _ => ⟨rfl, ⟨rfl, ⟨rfl, trivial⟩⟩⟩))⟩, ⟨⟨rfl, (fun _ => (fun _ => ⟨rfl, trivial⟩))⟩, ⟨⟨rfl, (fun _ => (fun _ => ⟨rfl, ⟨rfl, ⟨rfl, trivial⟩⟩⟩))⟩, trivial⟩⟩⟩⟩⟩⟩⟩⟩⟩⟩⟩⟩⟩
def mainT_T (p : CP) (d : TM) : Prop :=
  ifB (decide (Int.ofNat d.1 < Int.ofNat p.4)) (ifB (decide (Int.ofNat d.1 < (↑p.4 : Int))) (ifB (decide ((0 : Nat) + d.1 < p.4) && true) ((lIT true).code = (lIT true).code ∧ (lIT_J { r := p.1, c := p.2, E := p.3, n := p.4, u := (p.3 ((0 : Nat) + d.1)).2, k := d.3, V := d.4, e := p.3 ((0 : Nat) + d.1), a := d.2, k0 := d.5, W0 := d.6 : TP } { now := d.2, k2 := d.5, W := d.6 : TD } ∧ mainT_t0 p d) ∧ True ∧ ∀ (q : TD), Leaf (goN p.1 (p.3 ((0 : Nat) + d.1)).2 (4 : Nat) d.2 = q.now ∧ Sta.ok p.1 q.now ∧ Lst q.k2 q.W = Lst d.5 d.6 ++ aloneL p.1 (p.3 ((0 : Nat) + d.1)).2 (4 : Nat) d.2 ∧ q.k2 ≤ d.5 + (4 : Nat)) → mainT_t1 p d q ∧ ifB (!afterB p.2 q.1.1 (p.3 ((0 : Nat) + d.1))) (ifB (decide (d.3 ≤ d.3) && decide ((d.3 + (1 : Nat)) * (8 : Nat) ≤ (140737488355328 : Nat))) (Leaf (d.i < p.n) ∧ Leaf (evN p.r p.c d.now (p.E d.i) = q.1 ∧ Sta.ok p.r q.1) ∧ Leaf (d.3 + (1 : Nat) ≤ d.i + (1 : Nat)) ∧ Leaf (Lst q.2 q.3 = Lst d.k2 d.W ++ evL p.r p.c d.now (p.E d.i) ∧ q.2 ≤ d.k2 + (5 : Nat)) ∧ ((True ∧ True) ∧ mainT_t2 ∧ mainT_t2 ∧ mainT_t2 ∧ mainT_t3 ∧ mainT_t4 p ∧ Int.ofNat p.4 = Int.ofNat p.4 ∧ Int.ofNat (d.1 + (1 : Nat)) = IntKind.i64.wrap (Int.ofNat (d.1 + (1 : Nat))) ∧ True) ∧ mainT_t5 p d q) False ∧ ifB (decide (d.3 ≤ d.3) && decide ((d.3 + (1 : Nat)) * (8 : Nat) ≤ (140737488355328 : Nat))) (Leaf (d.i < p.n) ∧ Leaf (evN p.r p.c d.now (p.E d.i) = q.1 ∧ Sta.ok p.r q.1) ∧ Leaf (d.3 + (1 : Nat) ≤ d.i + (1 : Nat)) ∧ Leaf (Lst q.2 q.3 = Lst d.k2 d.W ++ evL p.r p.c d.now (p.E d.i) ∧ q.2 ≤ d.k2 + (5 : Nat)) ∧ ((True ∧ True) ∧ mainT_t2 ∧ mainT_t2 ∧ mainT_t2 ∧ mainT_t3 ∧ mainT_t4 p ∧ Int.ofNat p.4 = Int.ofNat p.4 ∧ Int.ofNat (d.1 + (1 : Nat)) = IntKind.i64.wrap (Int.ofNat (d.1 + (1 : Nat))) ∧ True) ∧ mainT_t5 p d q) False ∧ ifB (decide (d.3 ≤ d.3) && decide ((d.3 + (1 : Nat)) * (8 : Nat) ≤ (140737488355328 : Nat))) (Leaf (d.i < p.n) ∧ Leaf (evN p.r p.c d.now (p.E d.i) = q.1 ∧ Sta.ok p.r q.1) ∧ Leaf (d.3 + (1 : Nat) ≤ d.i + (1 : Nat)) ∧ Leaf (Lst q.2 q.3 = Lst d.k2 d.W ++ evL p.r p.c d.now (p.E d.i) ∧ q.2 ≤ d.k2 + (5 : Nat)) ∧ ((True ∧ True) ∧ mainT_t2 ∧ mainT_t2 ∧ mainT_t2 ∧ mainT_t3 ∧ mainT_t4 p ∧ Int.ofNat p.4 = Int.ofNat p.4 ∧ Int.ofNat (d.1 + (1 : Nat)) = IntKind.i64.wrap (Int.ofNat (d.1 + (1 : Nat))) ∧ True) ∧ mainT_t5 p d q) False) (mainT_t6 p d q ∧ ifB (decide (q.2 ≤ q.2) && decide ((q.2 + (1 : Nat)) * (24 : Nat) ≤ (140737488355328 : Nat))) (Leaf (d.i < p.n) ∧ Leaf (evN p.r p.c d.now (p.E d.i) = { state := afterN p.2 q.1.1 (p.3 ((0 : Nat) + d.1)), since := (p.3 ((0 : Nat) + d.1)).2, next := nextOf p.1 (afterN p.2 q.1.1 (p.3 ((0 : Nat) + d.1))) (p.3 ((0 : Nat) + d.1)).2 : Sta } ∧ Sta.ok p.r { state := afterN p.2 q.1.1 (p.3 ((0 : Nat) + d.1)), since := (p.3 ((0 : Nat) + d.1)).2, next := nextOf p.1 (afterN p.2 q.1.1 (p.3 ((0 : Nat) + d.1))) (p.3 ((0 : Nat) + d.1)).2 : Sta }) ∧ Leaf (d.3 ≤ d.i + (1 : Nat)) ∧ Leaf ((Lst (q.2 + (1 : Nat)) fun (i : Nat) => { state := bif decide (i < q.2) then (q.3 i).1 else afterN p.2 q.1.1 (p.3 ((0 : Nat) + d.1)), since := bif decide (i < q.2) then (q.3 i).2 else (p.3 ((0 : Nat) + d.1)).2, next := bif decide (i < q.2) then (q.3 i).3 else nextOf p.1 (afterN p.2 q.1.1 (p.3 ((0 : Nat) + d.1))) (p.3 ((0 : Nat) + d.1)).2 : Sta }) = Lst d.k2 d.W ++ evL p.r p.c d.now (p.E d.i) ∧ q.2 + (1 : Nat) ≤ d.k2 + (5 : Nat)) ∧ ((True ∧ True) ∧ mainT_t2 ∧ mainT_t2 ∧ mainT_t2 ∧ mainT_t3 ∧ mainT_t4 p ∧ Int.ofNat p.4 = Int.ofNat p.4 ∧ Int.ofNat (d.1 + (1 : Nat)) = IntKind.i64.wrap (Int.ofNat (d.1 + (1 : Nat))) ∧ True) ∧ mainT_t7 p d q) False)) False) False) (Leaf (p.n ≤ d.i) ∧ mainT_t8 p d)
theorem mainT_eq (p : CP) (d : TM) : exec X3T 80 60 lMT.code (lMT.I p d) (zMT p d) = mainT_T p d := by kernel_rfl

theorem outTM_spec {S : SS} {K : Sta → Nat → (Nat → Int) → Nat → (Nat → Sta) → Ren → Prop} (h : outTM S K) : ∃ o k V k2 W ρ, K o k V k2 W ρ := by
  unfold outTM at h
  split at h <;> try exact h.elim
  split at h <;> try exact h.elim
  split at h <;> try exact h.elim
  exact ⟨_, _, _, _, _, _, h⟩
theorem snocSta (k : Nat) (W : Nat → Sta) (s : Sta) : Lst (k + 1) (fun i => (⟨bif decide (i < k) then (W i).state else s.state, bif decide (i < k) then (W i).since else s.since, bif decide (i < k) then (W i).next else s.next⟩ : Sta)) = Lst k W ++ [s] := by
  rw [Lst_snoc (V := W) fun j hj => by simp [hj]]
  simp
theorem mainT_step (p : CP) (d : TM) (hJ : lMT_J p d) : mainT_T p d := by
  obtain ⟨h1, h2, h3, h4, h5, h6, h7⟩ := hJ
  unfold mainT_T
  repeat' (first | with_reducible refine ifB_split (fun _ => ?_) (fun _ => ?_) | with_reducible refine And.intro ?_ ?_)
  all_goals try first | with_reducible exact mainT_t0_t _ _ | with_reducible exact mainT_t1_t _ _ _ | with_reducible exact mainT_t2_t | with_reducible exact mainT_t3_t | with_reducible exact mainT_t4_t _ | with_reducible exact mainT_t5_t _ _ _ | with_reducible exact mainT_t6_t _ _ _ | with_reducible exact mainT_t7_t _ _ _ | with_reducible exact mainT_t8_t _ _ | with_reducible rfl | with_reducible exact trivial | with_reducible exact List.Perm.refl _
  all_goals try (intro q hq; obtain ⟨hq1, hq2, hq3, hq4⟩ := hq)
  all_goals
    repeat' (first | with_reducible refine ifB_split (fun _ => ?_) (fun _ => ?_) | with_reducible refine And.intro ?_ ?_)
  all_goals try first | with_reducible exact mainT_t0_t _ _ | with_reducible exact mainT_t1_t _ _ _ | with_reducible exact mainT_t2_t | with_reducible exact mainT_t3_t | with_reducible exact mainT_t4_t _ | with_reducible exact mainT_t5_t _ _ _ | with_reducible exact mainT_t6_t _ _ _ | with_reducible exact mainT_t7_t _ _ _ | with_reducible exact mainT_t8_t _ _ | with_reducible rfl | with_reducible exact trivial | with_reducible exact List.Perm.refl _
  all_goals simp only [Nat.zero_add, Leaf, Int.ofNat_eq_natCast, decide_eq_true_eq, decide_eq_false_iff_not, Bool.and_eq_true, Bool.not_eq_true', Bool.not_eq_true, Bool.not_eq_false'] at *
  all_goals first
    | omega
    | exact ⟨⟨4, rank_le _, rfl, rfl⟩, h4, by have := rank_le d.now.state; show d.k2 + rank d.now.state ≤ d.k2 + 4; omega, by show d.k2 ≤ 200; omega⟩
    | (rw [wrapSmall (by omega) (by omega)]; done)
    | (rename_i hb _; refine ⟨?_, hq2⟩; simp only [evN, hq1, hb]; done)
    | (rename_i hb; refine ⟨?_, hq2⟩; simp only [evN, hq1, hb]; done)
    | (rename_i hb _; refine ⟨?_, rfl⟩; simp only [evN, hq1, hb, begins]; done)
    | (rename_i hb _; refine ⟨?_, by omega⟩; simp only [evL, hq1, hq3, hb, List.append_nil]; done)
    | (rename_i hb _; refine ⟨?_, by omega⟩; exact (snocSta q.k2 q.W (begins p.r (afterN p.c q.now.state (p.E d.i)) (p.E d.i).at')).trans (by simp only [evL, hq1, hq3, hb, List.append_assoc]))
    | (exfalso; simp_all; done)
    | (exfalso; simp_all; omega)
    | trace_state

set_option maxRecDepth 100000 in
theorem mainT_ok : LoopOK X3T.P lMT.code lMT.L := by
  refine lMT.ok X3T_ok 80 60 (fun p d => p.n - d.i) zMT (fun _ _ _ => ⟨⟨rfl, rfl, rfl, rfl⟩, trivial⟩) (fun p d w q hw => ?_) (fun p d S' hJ h => ?_) (fun p d x S' hx hJ h => ?_) fun p d hJ => ?_
  · match w, hw with
    | 0, _ => exact ⟨⟨rfl, rfl, rfl, rfl⟩, trivial⟩
  · unfold zMT at h; dsimp only at h
    obtain ⟨o, k, V, k2, W, ρ, h1, h2, h3, h4, h5⟩ := outTM_spec h
    simp only [Leaf] at h1 h2 h3 h4
    obtain ⟨j1, j2, j3, j4, j5, j6, j7⟩ := hJ
    refine ⟨_, ⟨d.i + 1, o, k, V, k2, W⟩, ?_, ⟨?_, j2, ?_, h2.2, h3, ?_, ?_⟩, h5⟩
    · show p.n - (d.i + 1) < p.n - d.i
      omega
    · show d.i + 1 ≤ p.n
      omega
    · show runN _ _ _ _ (d.i + 1) = o
      rw [runN, j3]; exact h2.1
    · show Lst k2 W = line _ _ _ _ (d.i + 1)
      rw [line, j3, ← j6]; exact h4.1
    · show k2 ≤ 1 + 5 * (d.i + 1)
      omega
  · obtain ⟨j1, j2, j3, j4, j5, j6, j7⟩ := hJ
    cases x with
    | normal => exact hx.elim
    | ret => exact h.elim
    | exit k =>
      obtain ⟨h0, h1, h2⟩ := gateB_spec h
      have h0 := Nat.eq_of_beq_eq_true h0
      subst h0
      simp only [Leaf] at h1
      have : d.i = p.n := by omega
      refine ⟨0, d, _, Nat.lt_succ_self 0, ⟨?_, j4, ?_, by omega⟩, rfl, h2⟩
      · rw [← this]; exact j3
      · rw [← this]; exact j6
  · rw [mainT_eq]
    exact mainT_step p d hJ

noncomputable def X4T : Ctx := X3T.loop 60 5 lMT.code (lMT.by exMT)
theorem X4T_ok : X4T.OK := Ctx.loop_ok X3T_ok (mainT_ok.by exMT)

/-- The timeline of a right question. -/
def lineL (p : CP) : List Sta := match p.ok with
  | true => line p.r p.c p.E (begins p.r 1 p.c.asked) p.n ++ aloneL p.r 4611686018427387904 4 (runN p.r p.c p.E (begins p.r 1 p.c.asked) p.n)
  | false => []
def sTime : FSpec CP where
  J := fun _ => True
  A := fun p => [p.r.sv, p.c.sv, .sl 0 0 p.n]
  H := fun p => [some (evO p.n p.E)]
  R := fun p => .tup [.osl 1 (lineL p).length, iv (errOf p)]
  O := fun p => [.arr true (lineL p).length 3 39 fun i => ((lineL p).getD i ⟨0, 0, 0⟩).cells]
end Go.Proofs.Ytmcidfecepknpaa

namespace Go.Proofs.Ytmcidfecepknpaa
open Go Go.Sh Go.Proofs
set_option linter.unusedVariables false
set_option linter.unusedSimpArgs false
def timec_t0 (p : CP) : Prop :=
  True ∧ (1 : Nat) = (1 : Nat) ∧ ((p.1.1 = p.1.1 ∧ p.1.2 = p.1.2 ∧ p.1.3 = p.1.3 ∧ p.1.4 = p.1.4 ∧ True) ∧ (p.2.1 = p.2.1 ∧ p.2.2 = p.2.2 ∧ p.2.3 = p.2.3 ∧ p.2.4 = p.2.4 ∧ p.2.5 = p.2.5 ∧ p.2.6 = p.2.6 ∧ True) ∧ ((0 : Nat) = (0 : Nat) ∧ p.4 = p.4) ∧ True) ∧ (p.4 = p.4 ∧ ∀ (i : Nat), i < p.n → (p.3 i).1 = (p.3 i).1 ∧ (p.3 i).2 = (p.3 i).2 ∧ (p.3 i).3 = (p.3 i).3 ∧ True) ∧ True
theorem timec_t0_t (p : CP) : timec_t0 p :=
  ⟨trivial, ⟨rfl, ⟨⟨⟨rfl, ⟨rfl, ⟨rfl, ⟨rfl, trivial⟩⟩⟩⟩, ⟨⟨rfl, ⟨rfl, ⟨rfl, ⟨rfl, ⟨rfl, ⟨rfl, trivial⟩⟩⟩⟩⟩⟩, ⟨⟨rfl, rfl⟩, trivial⟩⟩⟩, ⟨⟨rfl, (fun _ => (fun _ => ⟨rfl, ⟨rfl, ⟨rfl, trivial⟩⟩⟩))⟩, trivial⟩⟩⟩⟩
def timec_t1 : Prop :=
  True ∧ (0 : Nat) = (0 : Nat) ∧ True ∧ True
theorem timec_t1_t : timec_t1 :=
  ⟨trivial, ⟨rfl, ⟨trivial, trivial⟩⟩⟩
def timec_t2 (p : CP) : Prop :=
  True ∧ (4 : Nat) = (4 : Nat) ∧ (((0 : Nat) = (0 : Nat) ∧ (0 : Nat) = (0 : Nat)) ∧ (1 : Int) = (1 : Int) ∧ p.2.5 = p.2.5 ∧ True) ∧ ((1 : Nat) = (1 : Nat) ∧ ∀ (i : Nat), i < (1 : Nat) → p.1.1 = p.1.1 ∧ p.1.2 = p.1.2 ∧ p.1.3 = p.1.3 ∧ p.1.4 = p.1.4 ∧ p.2.1 = p.2.1 ∧ p.2.2 = p.2.2 ∧ p.2.3 = p.2.3 ∧ p.2.4 = p.2.4 ∧ p.2.5 = p.2.5 ∧ p.2.6 = p.2.6 ∧ True ∧ True ∧ (0 : Nat) = (0 : Nat) ∧ True) ∧ Leaf (duesE.Perm duesE) ∧ Leaf (effectsE.Perm effectsE) ∧ (0 : Nat) = (0 : Nat) ∧ True
theorem timec_t2_t (p : CP) : timec_t2 p :=
  ⟨trivial, ⟨rfl, ⟨⟨⟨rfl, rfl⟩, ⟨rfl, ⟨rfl, trivial⟩⟩⟩, ⟨⟨rfl, (fun _ => (fun _ => ⟨rfl, ⟨rfl, ⟨rfl, ⟨rfl, ⟨rfl, ⟨rfl, ⟨rfl, ⟨rfl, ⟨rfl, ⟨rfl, ⟨trivial, ⟨trivial, ⟨rfl, trivial⟩⟩⟩⟩⟩⟩⟩⟩⟩⟩⟩⟩⟩))⟩, ⟨(List.Perm.refl _), ⟨(List.Perm.refl _), ⟨rfl, trivial⟩⟩⟩⟩⟩⟩⟩
def timec_t3 (p : CP) : Prop :=
  (18 : Nat) = (18 : Nat) ∧ (((((0 : Nat) = (0 : Nat) ∧ (0 : Nat) = (0 : Nat)) ∧ True) ∧ [(7 : Tmp)] = [(7 : Tmp)] ∧ asg64 = asg64 ∧ body64 = body64) ∧ True) ∧ ((True ∧ True) ∧ ((0 : Nat) = (0 : Nat) ∧ (0 : Nat) = (0 : Nat)) ∧ ((0 : Nat) = (0 : Nat) ∧ (0 : Nat) = (0 : Nat)) ∧ ((0 : Nat) = (0 : Nat) ∧ (0 : Nat) = (0 : Nat)) ∧ (True ∧ ((0 : Nat) = (0 : Nat) ∧ (0 : Nat) = (0 : Nat)) ∧ ((0 : Nat) = (0 : Nat) ∧ (0 : Nat) = (0 : Nat)) ∧ ((0 : Nat) = (0 : Nat) ∧ (0 : Nat) = (0 : Nat)) ∧ True) ∧ ((0 : Nat) = (0 : Nat) ∧ p.4 = p.4) ∧ Int.ofNat p.4 = Int.ofNat p.4 ∧ (0 : Int) = (0 : Int) ∧ True) ∧ (p.4 = p.4 ∧ ∀ (i : Nat), i < p.n → (p.3 i).1 = (p.3 i).1 ∧ (p.3 i).2 = (p.3 i).2 ∧ (p.3 i).3 = (p.3 i).3 ∧ True) ∧ Leaf (duesE.Perm duesE) ∧ Leaf (effectsE.Perm effectsE) ∧ ((1 : Nat) = (1 : Nat) ∧ ∀ (i : Nat), i < (1 : Nat) → p.1.1 = p.1.1 ∧ p.1.2 = p.1.2 ∧ p.1.3 = p.1.3 ∧ p.1.4 = p.1.4 ∧ p.2.1 = p.2.1 ∧ p.2.2 = p.2.2 ∧ p.2.3 = p.2.3 ∧ p.2.4 = p.2.4 ∧ p.2.5 = p.2.5 ∧ p.2.6 = p.2.6 ∧ True ∧ True ∧ (0 : Nat) = (0 : Nat) ∧ True) ∧ ((1 : Nat) = (1 : Nat) ∧ ∀ (i : Nat), i < (1 : Nat) → ((0 : Nat) = (0 : Nat) ∧ (0 : Nat) = (0 : Nat)) ∧ True) ∧ ((1 : Nat) = (1 : Nat) ∧ ∀ (i : Nat), i < (1 : Nat) → (1 : Nat) = (1 : Nat) ∧ True) ∧ True ∧ True ∧ ((1 : Nat) = (1 : Nat) ∧ ∀ (i : Nat), i < (1 : Nat) → (True ∧ True) ∧ True) ∧ ((1 : Nat) = (1 : Nat) ∧ ∀ (i : Nat), i < (1 : Nat) → (1 : Int) = (1 : Int) ∧ p.2.5 = p.2.5 ∧ w64 (p.2.5 + p.1.1) = w64 (p.2.5 + p.1.1) ∧ True) ∧ (0 : Nat) = (0 : Nat) ∧ ((1 : Nat) = (1 : Nat) ∧ ∀ (i : Nat), i < (1 : Nat) → (1 : Int) = (1 : Int) ∧ p.2.5 = p.2.5 ∧ w64 (p.2.5 + p.1.1) = w64 (p.2.5 + p.1.1) ∧ True) ∧ True
theorem timec_t3_t (p : CP) : timec_t3 p :=
  ⟨rfl, ⟨⟨⟨⟨⟨rfl, rfl⟩, trivial⟩, ⟨rfl, ⟨rfl, rfl⟩⟩⟩, trivial⟩, ⟨⟨⟨trivial, trivial⟩, ⟨⟨rfl, rfl⟩, ⟨⟨rfl, rfl⟩, ⟨⟨rfl, rfl⟩, ⟨⟨trivial, ⟨⟨rfl, rfl⟩, ⟨⟨rfl, rfl⟩, ⟨⟨rfl, rfl⟩, trivial⟩⟩⟩⟩, ⟨⟨rfl, rfl⟩, ⟨rfl, ⟨rfl, trivial⟩⟩⟩⟩⟩⟩⟩⟩, ⟨⟨rfl, (fun _ => (fun _ => ⟨rfl, ⟨rfl, ⟨rfl, trivial⟩⟩⟩))⟩, ⟨(List.Perm.refl _), ⟨(List.Perm.refl _), ⟨⟨rfl, (fun _ => (fun _ => ⟨rfl, ⟨rfl, ⟨rfl, ⟨rfl, ⟨rfl, ⟨rfl, ⟨rfl, ⟨rfl, ⟨rfl, ⟨rfl, ⟨trivial, ⟨trivial, ⟨rfl, trivial⟩⟩⟩⟩⟩⟩⟩⟩⟩⟩⟩⟩⟩))⟩, ⟨⟨rfl, (fun _ => (fun _ => ⟨⟨rfl, rfl⟩, trivial⟩))⟩, ⟨⟨rfl, (fun _ => (fun _ => ⟨rfl, trivial⟩))⟩, ⟨trivial, ⟨trivial, ⟨⟨rfl, (fun _ => (fun _ => ⟨⟨trivial, trivial⟩, trivial⟩))⟩, ⟨⟨rfl, (fun _ => (fun _ => ⟨rfl, ⟨rfl, ⟨rfl, trivial⟩⟩⟩))⟩, ⟨rfl, ⟨⟨rfl, (fun _ => (fun _ => ⟨rfl, ⟨rfl, ⟨rfl, trivial⟩⟩⟩))⟩, trivial⟩⟩⟩⟩⟩⟩⟩⟩⟩⟩⟩⟩⟩⟩⟩
def timec_t4 (p : CP) (q : TM) : Prop :=
  (21 : Nat) = (21 : Nat) ∧ (((((0 : Nat) = (0 : Nat) ∧ (0 : Nat) = (0 : Nat)) ∧ True) ∧ [(7 : Tmp)] = [(7 : Tmp)] ∧ asg64 = asg64 ∧ body64 = body64) ∧ True) ∧ ((4611686018427387904 : Int) = (4611686018427387904 : Int) ∧ ((0 : Nat) = (0 : Nat) ∧ (0 : Nat) = (0 : Nat)) ∧ ((0 : Nat) = (0 : Nat) ∧ (0 : Nat) = (0 : Nat)) ∧ ((0 : Nat) = (0 : Nat) ∧ (0 : Nat) = (0 : Nat)) ∧ True) ∧ (p.4 = p.4 ∧ ∀ (i : Nat), i < p.4 → (p.3 i).1 = (p.3 i).1 ∧ (p.3 i).2 = (p.3 i).2 ∧ (p.3 i).3 = (p.3 i).3 ∧ True) ∧ Leaf (duesE.Perm duesE) ∧ Leaf (effectsE.Perm effectsE) ∧ ((1 : Nat) = (1 : Nat) ∧ ∀ (i : Nat), i < (1 : Nat) → p.1.1 = p.1.1 ∧ p.1.2 = p.1.2 ∧ p.1.3 = p.1.3 ∧ p.1.4 = p.1.4 ∧ p.2.1 = p.2.1 ∧ p.2.2 = p.2.2 ∧ p.2.3 = p.2.3 ∧ p.2.4 = p.2.4 ∧ p.2.5 = p.2.5 ∧ p.2.6 = p.2.6 ∧ True ∧ True ∧ q.3 = q.3 ∧ True) ∧ ((1 : Nat) = (1 : Nat) ∧ ∀ (i : Nat), i < (1 : Nat) → ((0 : Nat) = (0 : Nat) ∧ (0 : Nat) = (0 : Nat)) ∧ True) ∧ ((1 : Nat) = (1 : Nat) ∧ ∀ (i : Nat), i < (1 : Nat) → q.5 = q.5 ∧ True) ∧ True ∧ True ∧ ((1 : Nat) = (1 : Nat) ∧ ∀ (i : Nat), i < (1 : Nat) → (True ∧ True) ∧ True) ∧ ((1 : Nat) = (1 : Nat) ∧ ∀ (i : Nat), i < (1 : Nat) → q.2.1 = q.2.1 ∧ q.2.2 = q.2.2 ∧ q.2.3 = q.2.3 ∧ True) ∧ (q.3 = q.3 ∧ ∀ (i : Nat), i < q.3 → q.4 i = q.4 i ∧ True) ∧ (q.5 = q.5 ∧ ∀ (i : Nat), i < q.5 → (q.6 i).1 = (q.6 i).1 ∧ (q.6 i).2 = (q.6 i).2 ∧ (q.6 i).3 = (q.6 i).3 ∧ True) ∧ True
theorem timec_t4_t (p : CP) (q : TM) : timec_t4 p q :=
  ⟨rfl, ⟨⟨⟨⟨⟨rfl, rfl⟩, trivial⟩, ⟨rfl, ⟨rfl, rfl⟩⟩⟩, trivial⟩, ⟨⟨rfl, ⟨⟨rfl, rfl⟩, ⟨⟨rfl, rfl⟩, ⟨⟨rfl, rfl⟩, trivial⟩⟩⟩⟩, ⟨⟨rfl, (fun _ => (fun _ => ⟨rfl, ⟨rfl, ⟨rfl, trivial⟩⟩⟩))⟩, ⟨(List.Perm.refl _), ⟨(List.Perm.refl _), ⟨⟨rfl, (fun _ => (fun _ => ⟨rfl, ⟨rfl, ⟨rfl, ⟨rfl, ⟨rfl, ⟨rfl, ⟨rfl, ⟨rfl, ⟨rfl, ⟨rfl, ⟨trivial, ⟨trivial, ⟨rfl, trivial⟩⟩⟩⟩⟩⟩⟩⟩⟩⟩⟩⟩⟩))⟩, ⟨⟨rfl, (fun _ => (fun _ => ⟨⟨rfl, rfl⟩, trivial⟩))⟩, ⟨⟨rfl, (fun _ => (fun _ => ⟨rfl, trivial⟩))⟩, ⟨trivial, ⟨trivial, ⟨⟨rfl, (fun _ => (fun _ => ⟨⟨trivial, trivial⟩, trivial⟩))⟩, ⟨⟨rfl, (fun _ => (fun _ => ⟨rfl, ⟨rfl, ⟨rfl, trivial⟩⟩⟩))⟩, ⟨⟨rfl, (fun _ => (fun _ => ⟨rfl, trivial⟩))⟩, ⟨⟨rfl, (fun _ => (fun _ => ⟨rfl, ⟨rfl, ⟨rfl, trivial⟩⟩⟩))⟩, trivial⟩⟩⟩⟩⟩⟩⟩⟩⟩⟩⟩⟩⟩⟩⟩
def timec_T (p : CP) : Prop :=
  timec_t0 p ∧ ifB (!p.ok) (((lineL p).length = (0 : Nat) ∧ errOf p = (160 : Int) ∧ True) ∧ (lineL p).length = (0 : Nat) ∧ True) (timec_t1 ∧ timec_t1 ∧ (timec_t2 p ∧ lMT.code = lMT.code ∧ (lMT_J p { i := (0 : Nat), now := { state := (1 : Int), since := p.2.5, next := w64 (p.2.5 + p.1.1) : Sta }, k := (0 : Nat), V := fun (x : Nat) => (0 : Int), k2 := (1 : Nat), W := fun (i : Nat) => { state := (1 : Int), since := p.2.5, next := w64 (p.2.5 + p.1.1) : Sta } : TM } ∧ timec_t3 p) ∧ True ∧ ∀ (q : TM), Leaf (Ytmcidfecepknpaa.runN p.r p.c p.E (begins p.r (1 : Int) p.c.asked) p.n = q.now ∧ Sta.ok p.r q.now ∧ Lst q.k2 q.W = line p.r p.c p.E (begins p.r (1 : Int) p.c.asked) p.n ∧ q.k2 ≤ (1 : Nat) + (5 : Nat) * p.n) → (lIT true).code = (lIT true).code ∧ (lIT_J { r := p.1, c := p.2, E := p.3, n := p.4, u := (4611686018427387904 : Int), k := q.3, V := q.4, e := { kind := (0 : Int), at' := (0 : Int), reason := (0 : Int) : Evt }, a := q.2, k0 := q.5, W0 := q.6 : TP } { now := q.2, k2 := q.5, W := q.6 : TD } ∧ timec_t4 p q) ∧ True ∧ ∀ (q_1 : TD), Leaf (goN p.1 (4611686018427387904 : Int) (4 : Nat) q.2 = q_1.now ∧ Sta.ok p.1 q_1.now ∧ Lst q_1.k2 q_1.W = Lst q.5 q.6 ++ aloneL p.1 (4611686018427387904 : Int) (4 : Nat) q.2 ∧ q_1.k2 ≤ q.5 + (4 : Nat)) → ((lineL p).length = q_1.2 ∧ errOf p = (0 : Int) ∧ True) ∧ ((lineL p).length = q_1.2 ∧ ∀ (i : Nat), i < (lineL p).length → ((lineL p).getD i { state := (0 : Int), since := (0 : Int), next := (0 : Int) : Sta }).1 = (q_1.3 i).1 ∧ ((lineL p).getD i { state := (0 : Int), since := (0 : Int), next := (0 : Int) : Sta }).2 = (q_1.3 i).2 ∧ ((lineL p).getD i { state := (0 : Int), since := (0 : Int), next := (0 : Int) : Sta }).3 = (q_1.3 i).3 ∧ True) ∧ True) ∧ timec_t2 p ∧ lMT.code = lMT.code ∧ (lMT_J p { i := (0 : Nat), now := { state := (1 : Int), since := p.2.5, next := w64 (p.2.5 + p.1.1) : Sta }, k := (0 : Nat), V := fun (x : Nat) => (0 : Int), k2 := (1 : Nat), W := fun (i : Nat) => { state := (1 : Int), since := p.2.5, next := w64 (p.2.5 + p.1.1) : Sta } : TM } ∧ timec_t3 p) ∧ True ∧ ∀ (q : TM), Leaf (Ytmcidfecepknpaa.runN p.r p.c p.E (begins p.r (1 : Int) p.c.asked) p.n = q.now ∧ Sta.ok p.r q.now ∧ Lst q.k2 q.W = line p.r p.c p.E (begins p.r (1 : Int) p.c.asked) p.n ∧ q.k2 ≤ (1 : Nat) + (5 : Nat) * p.n) → (lIT true).code = (lIT true).code ∧ (lIT_J { r := p.1, c := p.2, E := p.3, n := p.4, u := (4611686018427387904 : Int), k := q.3, V := q.4, e := { kind := (0 : Int), at' := (0 : Int), reason := (0 : Int) : Evt }, a := q.2, k0 := q.5, W0 := q.6 : TP } { now := q.2, k2 := q.5, W := q.6 : TD } ∧ timec_t4 p q) ∧ True ∧ ∀ (q_1 : TD), Leaf (goN p.1 (4611686018427387904 : Int) (4 : Nat) q.2 = q_1.now ∧ Sta.ok p.1 q_1.now ∧ Lst q_1.k2 q_1.W = Lst q.5 q.6 ++ aloneL p.1 (4611686018427387904 : Int) (4 : Nat) q.2 ∧ q_1.k2 ≤ q.5 + (4 : Nat)) → ((lineL p).length = q_1.2 ∧ errOf p = (0 : Int) ∧ True) ∧ ((lineL p).length = q_1.2 ∧ ∀ (i : Nat), i < (lineL p).length → ((lineL p).getD i { state := (0 : Int), since := (0 : Int), next := (0 : Int) : Sta }).1 = (q_1.3 i).1 ∧ ((lineL p).getD i { state := (0 : Int), since := (0 : Int), next := (0 : Int) : Sta }).2 = (q_1.3 i).2 ∧ ((lineL p).getD i { state := (0 : Int), since := (0 : Int), next := (0 : Int) : Sta }).3 = (q_1.3 i).3 ∧ True) ∧ True)
theorem timec_eq (p : CP) : callBy X4T (exec X4T 100) 18 (sTime.A p) (sTime.H p) (RetC (sTime.H p).length (sTime.R p) (sTime.O p)) = timec_T p := by kernel_rfl

set_option maxHeartbeats 1000000 in
theorem timec_step (p : CP) : timec_T p := by
  unfold timec_T
  repeat' (first | with_reducible refine ifB_split (fun _ => ?_) (fun _ => ?_) | with_reducible refine And.intro ?_ ?_ | with_reducible refine fun q hq => ?_)
  all_goals try first | with_reducible exact timec_t0_t _ | with_reducible exact timec_t1_t | with_reducible exact timec_t2_t _ | with_reducible exact timec_t3_t _ | with_reducible exact timec_t4_t _ _ | with_reducible rfl | with_reducible exact trivial | with_reducible exact List.Perm.refl _
  all_goals simp only [Leaf, Bool.not_eq_true', Bool.not_eq_false', decide_eq_true_eq, decide_eq_false_iff_not, beq_true] at *
  all_goals first
    | (rename_i ho; simp only [lineL, ho]; done)
    | (rename_i ho; simp only [errOf, ho]; done)
    | (rename_i ho; simp only [lineL, ho]; rfl)
    | (rename_i ho; exact ⟨Nat.zero_le _, CP.ok_n ho, rfl, rfl, Nat.le_refl _, rfl, Nat.le_refl _⟩)
    | (rename_i ho
       have hn := CP.ok_n ho
       have hq' := hq.2.1
       have hq2 := hq.2.2.2
       exact ⟨⟨4, rank_le _, rfl, rfl⟩, hq', by have := rank_le q.now.state; show q.k2 + rank q.now.state ≤ q.k2 + 4; omega, by show q.k2 ≤ 200; omega⟩)
    | (rename_i m hm ho
       have hv : lineL p = Lst q.k2 q.W := by simp only [lineL, ho]; rw [hm.1, ← hm.2.2.1]; exact hq.2.2.1.symm
       rw [hv, Lst_len]; done)
    | (rename_i m hm s hs ho
       have hv : lineL p = Lst s.k2 s.W := by simp only [lineL, ho]; rw [hm.1, ← hm.2.2.1]; exact hs.2.2.1.symm
       rw [hv, Lst_len] at hq; rw [hv, Lst_getD hq]; done)
    | trace_state
theorem time_ok : sTime.OK X4T.P 18 := .of_eq X4T_ok 100 _ timec_eq (fun _ => rfl) (fun _ _ o h => by
  simp only [sTime, List.mem_singleton] at h
  subst h
  exact ⟨rfl, fun i _ s hs => by simp only [Sta.cells, List.mem_cons, List.not_mem_nil, or_false] at hs; rcases hs with rfl | rfl | rfl <;> rfl⟩) fun p _ => timec_step p
end Go.Proofs.Ytmcidfecepknpaa

namespace Go.Proofs.Ytmcidfecepknpaa
open Go Go.Sh Go.Proofs
set_option linter.unusedVariables false

/-! ### the reference: parts -/
structure SP where
  r : Rul
  s : Int
  t : Int
def sStatus : FSpec SP := { J := fun _ => True, A := fun p => [p.r.sv, iv p.s, iv p.t], H := fun _ => [], R := fun p => .agg (begins p.r p.s p.t).cells, O := fun _ => [] }
def followR (s : Int) : Int := if s = 3 then 4 else if s = 4 then 5 else 3
def sFollow : FSpec Int := { J := fun _ => True, A := fun s => [iv s], H := fun _ => [], R := fun s => iv (followR s), O := fun _ => [] }
structure EP where
  c : Clm
  s : Int
  e : Evt
def becN (c : Clm) (s : Int) (e : Evt) : Int := match afterB c s e with | true => afterN c s e | false => -1
def sBecomes : FSpec EP := { J := fun p => (p.e.kind = 1 ∨ p.e.kind = 2 ∨ p.e.kind = 3 ∨ p.e.kind = 4 ∨ p.e.kind = 5 ∨ p.e.kind = 6) ∧ (p.e.kind = 1 ∨ p.e.kind = 3 ∨ p.e.kind = 4 ∨ p.e.kind = 5 → p.e.reason = 0), A := fun p => [p.c.sv, iv p.s, .agg p.e.cells], H := fun _ => [], R := fun p => iv (becN p.c p.s p.e), O := fun _ => [] }
def exStatus (args : List SV) (_ : Heap) : Option (SP × List (Option Nat)) := match args with
  | [.agg [.int _ a, .int _ b, .int _ c, .int _ d], .int _ s, .int _ t] => some (⟨⟨a, b, c, d⟩, s, t⟩, [])
  | _ => none
def exInt (args : List SV) (_ : Heap) : Option (Int × List (Option Nat)) := match args with
  | [.int _ s] => some (s, [])
  | _ => none
def exBecomes (args : List SV) (_ : Heap) : Option (EP × List (Option Nat)) := match args with
  | [.agg [.int _ a, .int _ b, .int _ c, .int _ d, .int _ e, .bool f], .int _ s, .agg g] => some (⟨⟨a, b, c, d, e, f⟩, s, Evt.of g⟩, [])
  | _ => none

/-! ### other small functions -/
def pickN (c n : Int) : Int := if c < 0 then (w64 (0 - w64 (c + 1))).tmod n else c.tmod n
structure PP where
  c : Int
  n : Int
def sPick : FSpec PP := { J := fun p => 0 < p.n, A := fun p => [iv p.c, iv p.n], H := fun _ => [], R := fun p => iv (pickN p.c p.n), O := fun _ => [] }
def exPick (args : List SV) (_ : Heap) : Option (PP × List (Option Nat)) := match args with
  | [.int _ s, .int _ t] => some (⟨s, t⟩, [])
  | _ => none
structure RC where
  r : Rul
  c : Clm
def endsOk (p : RC) : Bool := p.r.ok && p.c.ok
def ends (p : RC) : Int := match endsOk p with | true => p.c.asked + p.r.answer - 1 + p.r.settle + p.r.cooling + p.r.reverse | false => 0
def endsErr (p : RC) : Int := match endsOk p with | true => 0 | false => 160
def sEnds : FSpec RC := { J := fun _ => True, A := fun p => [p.r.sv, p.c.sv], H := fun _ => [], R := fun p => .tup [iv (ends p), iv (endsErr p)], O := fun _ => [] }
def exRC (args : List SV) (_ : Heap) : Option (RC × List (Option Nat)) := match args with
  | [.agg [.int _ a, .int _ b, .int _ c, .int _ d], .agg [.int _ e, .int _ f, .int _ g, .int _ i, .int _ j, .bool k]] => some (⟨⟨a, b, c, d⟩, ⟨e, f, g, i, j, k⟩⟩, [])
  | _ => none
def withN (p : OP) : Int := match p.ok with | true => (if (outcome p).state = 4 ∨ (outcome p).state = 5 then p.c.dst else p.c.src) | false => 0
def sWith : FSpec OP := { J := fun _ => True, A := fun p => [p.r.sv, p.c.sv, .sl 0 0 p.n, iv p.t], H := fun p => [some (evO p.n p.E)], R := fun p => .tup [iv (withN p), iv (outErr p)], O := fun _ => [] }
def sClosed : FSpec Sta := { J := fun _ => True, A := fun s => [.agg s.cells], H := fun _ => [], R := fun s => .bool (decide (5 ≤ s.state) && (s.next == -1)), O := fun _ => [] }
def exSta (args : List SV) (_ : Heap) : Option (Sta × List (Option Nat)) := match args with
  | [.agg g] => some (Sta.ofC g, [])
  | _ => none
def exOP (args : List SV) (h : Heap) : Option (OP × List (Option Nat)) := match args with
  | [.agg [.int _ a, .int _ b, .int _ c, .int _ d], .agg [.int _ e, .int _ f, .int _ g, .int _ i, .int _ j, .bool k], s, .int _ t] => match s with
    | .nils => some (⟨⟨a, b, c, d⟩, ⟨e, f, g, i, j, k⟩, fun _ => ⟨0, 0, 0⟩, 0, t⟩, [none])
    | .sl l _ n => match hget h l with
      | some (.arr _ _ _ _ u) => some (⟨⟨a, b, c, d⟩, ⟨e, f, g, i, j, k⟩, fun x => Evt.of (u x), n, t⟩, [some l])
      | _ => none
    | .osl l n => match hget h l with
      | some (.arr _ _ _ _ u) => some (⟨⟨a, b, c, d⟩, ⟨e, f, g, i, j, k⟩, fun x => Evt.of (u x), n, t⟩, [some l])
      | _ => none
    | _ => none
  | _ => none
noncomputable def XO : Ctx := ((X0.with 37 (sAreValid.by exRul)).with 38 (sIsClaim.by exClm)).with 14 (sOutcome.by exOP)
theorem XO_ok : XO.OK := Ctx.with_ok (Ctx.with_ok (Ctx.with_ok X0_ok (areValid_ok.by exRul)) (isClaim_ok.by exClm)) (outcome_ok.by exOP)
end Go.Proofs.Ytmcidfecepknpaa

namespace Go.Proofs.Ytmcidfecepknpaa
open Go Go.Sh Go.Proofs
set_option linter.unusedVariables false
set_option linter.unusedSimpArgs false
def status_T (p : SP) : Prop :=
  ifB (p.2 == (1 : Int)) ((p.2 = p.2 ∧ p.3 = p.3 ∧ nextOf p.1 p.2 p.3 = IntKind.i64.wrap (p.3 + p.1.1) ∧ True) ∧ True) (ifB (p.2 == (2 : Int)) ((p.2 = p.2 ∧ p.3 = p.3 ∧ nextOf p.1 p.2 p.3 = IntKind.i64.wrap (p.3 + p.1.3) ∧ True) ∧ True) (ifB (p.2 == (3 : Int)) ((p.2 = p.2 ∧ p.3 = p.3 ∧ nextOf p.1 p.2 p.3 = IntKind.i64.wrap (p.3 + p.1.2) ∧ True) ∧ True) (ifB (p.2 == (4 : Int)) ((p.2 = p.2 ∧ p.3 = p.3 ∧ nextOf p.1 p.2 p.3 = IntKind.i64.wrap (p.3 + p.1.4) ∧ True) ∧ True) ((p.2 = p.2 ∧ p.3 = p.3 ∧ nextOf p.1 p.2 p.3 = (-1 : Int) ∧ True) ∧ True))))
theorem status_eq (p : SP) : callBy X0 (exec X0 60) 84 (sStatus.A p) (sStatus.H p) (RetC (sStatus.H p).length (sStatus.R p) (sStatus.O p)) = status_T p := by kernel_rfl

theorem status_step (p : SP) (hJ : sStatus.J p) : status_T p := by
  unfold status_T
  repeat' (first | with_reducible refine ifB_split (fun _ => ?_) (fun _ => ?_) | with_reducible refine And.intro ?_ ?_)
  all_goals try first | with_reducible rfl | with_reducible exact trivial | with_reducible exact List.Perm.refl _
  all_goals first
    | (simp_all [nextOf, w64]; done)
    | (simp_all [nextOf, w64]; omega)
    | trace_state
theorem status_ok : sStatus.OK X0.P 84 := .of_eq X0_ok 60 _ status_eq (fun _ => rfl) (fun _ _ o h => by cases h) fun p hJ => status_step p hJ
def followR_T (p : Int) : Prop :=
  ifB (p == (3 : Int)) (followR p = (4 : Int) ∧ True) (ifB (p == (4 : Int)) (followR p = (5 : Int) ∧ True) (followR p = (3 : Int) ∧ True))
theorem followR_eq (p : Int) : callBy X0 (exec X0 60) 85 (sFollow.A p) (sFollow.H p) (RetC (sFollow.H p).length (sFollow.R p) (sFollow.O p)) = followR_T p := by kernel_rfl

theorem followR_step (p : Int) (hJ : sFollow.J p) : followR_T p := by
  unfold followR_T
  repeat' (first | with_reducible refine ifB_split (fun _ => ?_) (fun _ => ?_) | with_reducible refine And.intro ?_ ?_)
  all_goals try first | with_reducible rfl | with_reducible exact trivial | with_reducible exact List.Perm.refl _
  all_goals first
    | (simp_all [followR]; done)
    | (simp_all [followR]; omega)
    | trace_state
theorem followR_ok : sFollow.OK X0.P 85 := .of_eq X0_ok 60 _ followR_eq (fun _ => rfl) (fun _ _ o h => by cases h) fun p hJ => followR_step p hJ
def pickR_T (p : PP) : Prop :=
  ifB (decide (p.1 < (0 : Int))) (ifB (p.2 != (0 : Int)) (pickN p.1 p.2 = (IntKind.i64.wrap ((0 : Int) - IntKind.i64.wrap (p.1 + (1 : Int)))).tmod p.2 ∧ True) False) (ifB (p.2 != (0 : Int)) (pickN p.1 p.2 = p.1.tmod p.2 ∧ True) False)
theorem pickR_eq (p : PP) : callBy X0 (exec X0 60) 35 (sPick.A p) (sPick.H p) (RetC (sPick.H p).length (sPick.R p) (sPick.O p)) = pickR_T p := by kernel_rfl

theorem pickR_step (p : PP) (hJ : sPick.J p) : pickR_T p := by
  have hJ : 0 < p.n := hJ
  unfold pickR_T
  repeat' (first | with_reducible refine ifB_split (fun _ => ?_) (fun _ => ?_) | with_reducible refine And.intro ?_ ?_)
  all_goals try first | with_reducible rfl | with_reducible exact trivial | with_reducible exact List.Perm.refl _
  all_goals first
    | (simp_all [pickN, w64]; done)
    | (simp_all [pickN, w64]; omega)
    | trace_state
theorem pickR_ok : sPick.OK X0.P 35 := .of_eq X0_ok 60 _ pickR_eq (fun _ => rfl) (fun _ _ o h => by cases h) fun p hJ => pickR_step p hJ
def pickL_T (p : PP) : Prop :=
  ifB (decide (p.1 < (0 : Int))) (ifB (p.2 != (0 : Int)) (pickN p.1 p.2 = (IntKind.i64.wrap ((0 : Int) - IntKind.i64.wrap (p.1 + (1 : Int)))).tmod p.2 ∧ True) False) (ifB (p.2 != (0 : Int)) (pickN p.1 p.2 = p.1.tmod p.2 ∧ True) False)
theorem pickL_eq (p : PP) : callBy X0 (exec X0 60) 15 (sPick.A p) (sPick.H p) (RetC (sPick.H p).length (sPick.R p) (sPick.O p)) = pickL_T p := by kernel_rfl

theorem pickL_step (p : PP) (hJ : sPick.J p) : pickL_T p := by
  have hJ : 0 < p.n := hJ
  unfold pickL_T
  repeat' (first | with_reducible refine ifB_split (fun _ => ?_) (fun _ => ?_) | with_reducible refine And.intro ?_ ?_)
  all_goals try first | with_reducible rfl | with_reducible exact trivial | with_reducible exact List.Perm.refl _
  all_goals first
    | (simp_all [pickN, w64]; done)
    | (simp_all [pickN, w64]; omega)
    | trace_state
theorem pickL_ok : sPick.OK X0.P 15 := .of_eq X0_ok 60 _ pickL_eq (fun _ => rfl) (fun _ _ o h => by cases h) fun p hJ => pickL_step p hJ
def closedc_T (p : Sta) : Prop :=
  ifB (decide (p.1 ≥ (5 : Int)) == true) ((decide ((5 : Int) ≤ p.state) && p.3 == (-1 : Int)) = (p.3 == (-1 : Int)) ∧ True) ((decide ((5 : Int) ≤ p.state) && p.3 == (-1 : Int)) = false ∧ True)
theorem closedc_eq (p : Sta) : callBy X0 (exec X0 60) 16 (sClosed.A p) (sClosed.H p) (RetC (sClosed.H p).length (sClosed.R p) (sClosed.O p)) = closedc_T p := by kernel_rfl

theorem closedc_step (p : Sta) (hJ : sClosed.J p) : closedc_T p := by
  unfold closedc_T
  repeat' (first | with_reducible refine ifB_split (fun _ => ?_) (fun _ => ?_) | with_reducible refine And.intro ?_ ?_)
  all_goals try first | with_reducible rfl | with_reducible exact trivial | with_reducible exact List.Perm.refl _
  all_goals first
    | (simp_all []; done)
    | (simp_all []; omega)
    | trace_state
theorem closedc_ok : sClosed.OK X0.P 16 := .of_eq X0_ok 60 _ closedc_eq (fun _ => rfl) (fun _ _ o h => by cases h) fun p hJ => closedc_step p hJ
def endsc_t0 (p : RC) : Prop :=
  True ∧ (0 : Nat) = (0 : Nat) ∧ ((p.1.1 = p.1.1 ∧ p.1.2 = p.1.2 ∧ p.1.3 = p.1.3 ∧ p.1.4 = p.1.4 ∧ True) ∧ True) ∧ True
theorem endsc_t0_t (p : RC) : endsc_t0 p :=
  ⟨trivial, ⟨rfl, ⟨⟨⟨rfl, ⟨rfl, ⟨rfl, ⟨rfl, trivial⟩⟩⟩⟩, trivial⟩, trivial⟩⟩⟩
def endsc_t1 (p : RC) : Prop :=
  True ∧ (0 : Nat) = (0 : Nat) ∧ ((p.2.1 = p.2.1 ∧ p.2.2 = p.2.2 ∧ p.2.3 = p.2.3 ∧ p.2.4 = p.2.4 ∧ p.2.5 = p.2.5 ∧ p.2.6 = p.2.6 ∧ True) ∧ True) ∧ True
theorem endsc_t1_t (p : RC) : endsc_t1 p :=
  ⟨trivial, ⟨rfl, ⟨⟨⟨rfl, ⟨rfl, ⟨rfl, ⟨rfl, ⟨rfl, ⟨rfl, trivial⟩⟩⟩⟩⟩⟩, trivial⟩, trivial⟩⟩⟩
def endsc_T (p : RC) : Prop :=
  endsc_t0 p ∧ ifB ((!p.1.ok) == false) (endsc_t1 p ∧ ifB (!p.2.ok) ((ends p = (0 : Int) ∧ endsErr p = (160 : Int) ∧ True) ∧ True) ((ends p = IntKind.i64.wrap (IntKind.i64.wrap (IntKind.i64.wrap (IntKind.i64.wrap (IntKind.i64.wrap (p.2.5 + p.1.1) - (1 : Int)) + p.1.3) + p.1.2) + p.1.4) ∧ endsErr p = (0 : Int) ∧ True) ∧ True)) ((ends p = (0 : Int) ∧ endsErr p = (160 : Int) ∧ True) ∧ True)
theorem endsc_eq (p : RC) : callBy XO (exec XO 60) 13 (sEnds.A p) (sEnds.H p) (RetC (sEnds.H p).length (sEnds.R p) (sEnds.O p)) = endsc_T p := by kernel_rfl
def withc_t0 (p : OP) : Prop :=
  True ∧ (1 : Nat) = (1 : Nat) ∧ ((p.1.1 = p.1.1 ∧ p.1.2 = p.1.2 ∧ p.1.3 = p.1.3 ∧ p.1.4 = p.1.4 ∧ True) ∧ (p.2.1 = p.2.1 ∧ p.2.2 = p.2.2 ∧ p.2.3 = p.2.3 ∧ p.2.4 = p.2.4 ∧ p.2.5 = p.2.5 ∧ p.2.6 = p.2.6 ∧ True) ∧ ((0 : Nat) = (0 : Nat) ∧ p.4 = p.4) ∧ p.5 = p.5 ∧ True) ∧ (p.4 = p.4 ∧ ∀ (i : Nat), i < p.n → (p.3 i).1 = (p.3 i).1 ∧ (p.3 i).2 = (p.3 i).2 ∧ (p.3 i).3 = (p.3 i).3 ∧ True) ∧ True
theorem withc_t0_t (p : OP) : withc_t0 p :=
  ⟨trivial, ⟨rfl, ⟨⟨⟨rfl, ⟨rfl, ⟨rfl, ⟨rfl, trivial⟩⟩⟩⟩, ⟨⟨rfl, ⟨rfl, ⟨rfl, ⟨rfl, ⟨rfl, ⟨rfl, trivial⟩⟩⟩⟩⟩⟩, ⟨⟨rfl, rfl⟩, ⟨rfl, trivial⟩⟩⟩⟩, ⟨⟨rfl, (fun _ => (fun _ => ⟨rfl, ⟨rfl, ⟨rfl, trivial⟩⟩⟩))⟩, trivial⟩⟩⟩⟩
def withc_T (p : OP) : Prop :=
  withc_t0 p ∧ ifB (outErr p != (0 : Int)) ((withN p = (0 : Int) ∧ outErr p = outErr p ∧ True) ∧ True) (ifB (((outcome p).1 == (4 : Int)) == false) (ifB ((outcome p).1 == (5 : Int)) ((withN p = p.2.3 ∧ outErr p = (0 : Int) ∧ True) ∧ True) ((withN p = p.2.2 ∧ outErr p = (0 : Int) ∧ True) ∧ True)) ((withN p = p.2.3 ∧ outErr p = (0 : Int) ∧ True) ∧ True))
theorem withc_eq (p : OP) : callBy XO (exec XO 60) 20 (sWith.A p) (sWith.H p) (RetC (sWith.H p).length (sWith.R p) (sWith.O p)) = withc_T p := by kernel_rfl

theorem Rul.ok_b {r : Rul} (h : r.ok = true) : (1 ≤ r.answer ∧ r.answer ≤ 1000000) ∧ (1 ≤ r.settle ∧ r.settle ≤ 1000000) ∧ (1 ≤ r.cooling ∧ r.cooling ≤ 1000000) ∧ (1 ≤ r.reverse ∧ r.reverse ≤ 1000000) := by
  simp only [Rul.ok, inB, Bool.and_eq_true, decide_eq_true_eq] at h
  omega
theorem Clm.ok_b {c : Clm} (h : c.ok = true) : 0 ≤ c.asked ∧ c.asked ≤ 10000000 := by
  simp only [Clm.ok, inB, Bool.and_eq_true, decide_eq_true_eq] at h
  omega
theorem endsc_step (p : RC) : endsc_T p := by
  unfold endsc_T
  repeat' (first | with_reducible refine ifB_split (fun _ => ?_) (fun _ => ?_) | with_reducible refine And.intro ?_ ?_)
  all_goals try first | with_reducible exact endsc_t0_t _ | with_reducible exact endsc_t1_t _ | with_reducible rfl | with_reducible exact trivial | with_reducible exact List.Perm.refl _
  all_goals cases h1 : p.r.ok <;> cases h2 : p.c.ok <;> simp_all [ends, endsErr, endsOk]
  all_goals
    have b1 := Rul.ok_b h1
    have b2 := Clm.ok_b h2
    rw [wrapSmall (n := p.c.asked + p.r.answer) (by omega) (by omega), wrapSmall (n := p.c.asked + p.r.answer - 1) (by omega) (by omega), wrapSmall (n := p.c.asked + p.r.answer - 1 + p.r.settle) (by omega) (by omega), wrapSmall (n := p.c.asked + p.r.answer - 1 + p.r.settle + p.r.cooling) (by omega) (by omega), wrapSmall (by omega) (by omega)]
theorem ends_ok : sEnds.OK XO.P 13 := .of_eq XO_ok 60 _ endsc_eq (fun _ => rfl) (fun _ _ o h => by cases h) fun p _ => endsc_step p
theorem withc_step (p : OP) : withc_T p := by
  unfold withc_T
  repeat' (first | with_reducible refine ifB_split (fun _ => ?_) (fun _ => ?_) | with_reducible refine And.intro ?_ ?_)
  all_goals try first | with_reducible exact withc_t0_t _ | with_reducible rfl | with_reducible exact trivial | with_reducible exact List.Perm.refl _
  all_goals first
    | (simp_all [withN, outErr]; done)
    | (simp_all [withN, outErr]; split <;> simp_all; done)
    | (cases ho : p.ok <;> simp_all [withN, outErr]; done)
    | trace_state
theorem with_ok' : sWith.OK XO.P 20 := .of_eq XO_ok 60 _ withc_eq (fun _ => rfl) (fun _ _ o h => by cases h) fun p _ => withc_step p
def becomes1_T (c : Clm) (s a x : Int) : Prop :=
  ifB (s == (1 : Int)) (becN c s { kind := (1 : Int), at' := a, reason := x : Evt } = (3 : Int) ∧ True) (becN c s { kind := (1 : Int), at' := a, reason := x : Evt } = (-1 : Int) ∧ True)
theorem becomes1_eq (c : Clm) (s a x : Int) : callBy X0 (exec X0 60) 86 (sBecomes.A ⟨c, s, ⟨1, a, x⟩⟩) (sBecomes.H ⟨c, s, ⟨1, a, x⟩⟩) (RetC (sBecomes.H ⟨c, s, ⟨1, a, x⟩⟩).length (sBecomes.R ⟨c, s, ⟨1, a, x⟩⟩) (sBecomes.O ⟨c, s, ⟨1, a, x⟩⟩)) = becomes1_T c s a x := by kernel_rfl
theorem becomes1_step (c : Clm) (s a x : Int) (hx : x = 0) : becomes1_T c s a x := by
  unfold becomes1_T
  repeat' (first | with_reducible refine ifB_split (fun _ => ?_) (fun _ => ?_) | with_reducible refine And.intro ?_ ?_)
  all_goals try first | with_reducible rfl | with_reducible exact trivial | with_reducible exact List.Perm.refl _
  all_goals first
    | (simp_all [becN, afterB, afterN, effN]; done)
    | (have hx1 : (x == 1) = false := by simp_all
       have hx2 : ¬ x = 1 := by simp_all
       first
       | (obtain rfl : s = 1 := by simp_all
          simp [becN, afterB, afterN, effN, hx1, hx2]; done)
       | (obtain rfl : s = 4 := by simp_all
          simp [becN, afterB, afterN, effN, hx1, hx2]; done))
    | (cases hb : c.backed <;> simp_all [becN, afterB, afterN, effN] <;> omega)
    | (simp_all [becN, afterB, afterN, effN]; omega)
    | trace_state
def becomes2_T (c : Clm) (s a x : Int) : Prop :=
  ifB ((s == (1 : Int)) == true) (ifB ((x == (1 : Int)) == true) (ifB (!c.6) (becN c s { kind := (2 : Int), at' := a, reason := x : Evt } = (6 : Int) ∧ True) (ifB ((s == (1 : Int)) == true) (ifB (!x == (1 : Int)) (becN c s { kind := (2 : Int), at' := a, reason := x : Evt } = (2 : Int) ∧ True) (becN c s { kind := (2 : Int), at' := a, reason := x : Evt } = (-1 : Int) ∧ True)) (becN c s { kind := (2 : Int), at' := a, reason := x : Evt } = (-1 : Int) ∧ True))) (ifB ((s == (1 : Int)) == true) (ifB (!x == (1 : Int)) (becN c s { kind := (2 : Int), at' := a, reason := x : Evt } = (2 : Int) ∧ True) (becN c s { kind := (2 : Int), at' := a, reason := x : Evt } = (-1 : Int) ∧ True)) (becN c s { kind := (2 : Int), at' := a, reason := x : Evt } = (-1 : Int) ∧ True))) (ifB ((s == (1 : Int)) == true) (ifB (!x == (1 : Int)) (becN c s { kind := (2 : Int), at' := a, reason := x : Evt } = (2 : Int) ∧ True) (becN c s { kind := (2 : Int), at' := a, reason := x : Evt } = (-1 : Int) ∧ True)) (becN c s { kind := (2 : Int), at' := a, reason := x : Evt } = (-1 : Int) ∧ True))
theorem becomes2_eq (c : Clm) (s a x : Int) : callBy X0 (exec X0 60) 86 (sBecomes.A ⟨c, s, ⟨2, a, x⟩⟩) (sBecomes.H ⟨c, s, ⟨2, a, x⟩⟩) (RetC (sBecomes.H ⟨c, s, ⟨2, a, x⟩⟩).length (sBecomes.R ⟨c, s, ⟨2, a, x⟩⟩) (sBecomes.O ⟨c, s, ⟨2, a, x⟩⟩)) = becomes2_T c s a x := by kernel_rfl
theorem becomes2_step (c : Clm) (s a x : Int) (hx : True) : becomes2_T c s a x := by
  unfold becomes2_T
  repeat' (first | with_reducible refine ifB_split (fun _ => ?_) (fun _ => ?_) | with_reducible refine And.intro ?_ ?_)
  all_goals try first | with_reducible rfl | with_reducible exact trivial | with_reducible exact List.Perm.refl _
  all_goals first
    | (simp_all [becN, afterB, afterN, effN]; done)
    | (have hx1 : (x == 1) = false := by simp_all
       have hx2 : ¬ x = 1 := by simp_all
       first
       | (obtain rfl : s = 1 := by simp_all
          simp [becN, afterB, afterN, effN, hx1, hx2]; done)
       | (obtain rfl : s = 4 := by simp_all
          simp [becN, afterB, afterN, effN, hx1, hx2]; done))
    | (cases hb : c.backed <;> simp_all [becN, afterB, afterN, effN] <;> omega)
    | (simp_all [becN, afterB, afterN, effN]; omega)
    | trace_state
def becomes3_T (c : Clm) (s a x : Int) : Prop :=
  ifB (s == (2 : Int)) (becN c s { kind := (3 : Int), at' := a, reason := x : Evt } = (3 : Int) ∧ True) (becN c s { kind := (3 : Int), at' := a, reason := x : Evt } = (-1 : Int) ∧ True)
theorem becomes3_eq (c : Clm) (s a x : Int) : callBy X0 (exec X0 60) 86 (sBecomes.A ⟨c, s, ⟨3, a, x⟩⟩) (sBecomes.H ⟨c, s, ⟨3, a, x⟩⟩) (RetC (sBecomes.H ⟨c, s, ⟨3, a, x⟩⟩).length (sBecomes.R ⟨c, s, ⟨3, a, x⟩⟩) (sBecomes.O ⟨c, s, ⟨3, a, x⟩⟩)) = becomes3_T c s a x := by kernel_rfl
theorem becomes3_step (c : Clm) (s a x : Int) (hx : x = 0) : becomes3_T c s a x := by
  unfold becomes3_T
  repeat' (first | with_reducible refine ifB_split (fun _ => ?_) (fun _ => ?_) | with_reducible refine And.intro ?_ ?_)
  all_goals try first | with_reducible rfl | with_reducible exact trivial | with_reducible exact List.Perm.refl _
  all_goals first
    | (simp_all [becN, afterB, afterN, effN]; done)
    | (have hx1 : (x == 1) = false := by simp_all
       have hx2 : ¬ x = 1 := by simp_all
       first
       | (obtain rfl : s = 1 := by simp_all
          simp [becN, afterB, afterN, effN, hx1, hx2]; done)
       | (obtain rfl : s = 4 := by simp_all
          simp [becN, afterB, afterN, effN, hx1, hx2]; done))
    | (cases hb : c.backed <;> simp_all [becN, afterB, afterN, effN] <;> omega)
    | (simp_all [becN, afterB, afterN, effN]; omega)
    | trace_state
def becomes4_T (c : Clm) (s a x : Int) : Prop :=
  ifB (s == (2 : Int)) (becN c s { kind := (4 : Int), at' := a, reason := x : Evt } = (6 : Int) ∧ True) (becN c s { kind := (4 : Int), at' := a, reason := x : Evt } = (-1 : Int) ∧ True)
theorem becomes4_eq (c : Clm) (s a x : Int) : callBy X0 (exec X0 60) 86 (sBecomes.A ⟨c, s, ⟨4, a, x⟩⟩) (sBecomes.H ⟨c, s, ⟨4, a, x⟩⟩) (RetC (sBecomes.H ⟨c, s, ⟨4, a, x⟩⟩).length (sBecomes.R ⟨c, s, ⟨4, a, x⟩⟩) (sBecomes.O ⟨c, s, ⟨4, a, x⟩⟩)) = becomes4_T c s a x := by kernel_rfl
theorem becomes4_step (c : Clm) (s a x : Int) (hx : x = 0) : becomes4_T c s a x := by
  unfold becomes4_T
  repeat' (first | with_reducible refine ifB_split (fun _ => ?_) (fun _ => ?_) | with_reducible refine And.intro ?_ ?_)
  all_goals try first | with_reducible rfl | with_reducible exact trivial | with_reducible exact List.Perm.refl _
  all_goals first
    | (simp_all [becN, afterB, afterN, effN]; done)
    | (have hx1 : (x == 1) = false := by simp_all
       have hx2 : ¬ x = 1 := by simp_all
       first
       | (obtain rfl : s = 1 := by simp_all
          simp [becN, afterB, afterN, effN, hx1, hx2]; done)
       | (obtain rfl : s = 4 := by simp_all
          simp [becN, afterB, afterN, effN, hx1, hx2]; done))
    | (cases hb : c.backed <;> simp_all [becN, afterB, afterN, effN] <;> omega)
    | (simp_all [becN, afterB, afterN, effN]; omega)
    | trace_state
def becomes5_T (c : Clm) (s a x : Int) : Prop :=
  ifB ((s == (1 : Int)) == false) (ifB ((s == (2 : Int)) == false) (ifB (s == (3 : Int)) (becN c s { kind := (5 : Int), at' := a, reason := x : Evt } = (7 : Int) ∧ True) (becN c s { kind := (5 : Int), at' := a, reason := x : Evt } = (-1 : Int) ∧ True)) (becN c s { kind := (5 : Int), at' := a, reason := x : Evt } = (7 : Int) ∧ True)) (becN c s { kind := (5 : Int), at' := a, reason := x : Evt } = (7 : Int) ∧ True)
theorem becomes5_eq (c : Clm) (s a x : Int) : callBy X0 (exec X0 60) 86 (sBecomes.A ⟨c, s, ⟨5, a, x⟩⟩) (sBecomes.H ⟨c, s, ⟨5, a, x⟩⟩) (RetC (sBecomes.H ⟨c, s, ⟨5, a, x⟩⟩).length (sBecomes.R ⟨c, s, ⟨5, a, x⟩⟩) (sBecomes.O ⟨c, s, ⟨5, a, x⟩⟩)) = becomes5_T c s a x := by kernel_rfl
theorem becomes5_step (c : Clm) (s a x : Int) (hx : x = 0) : becomes5_T c s a x := by
  unfold becomes5_T
  repeat' (first | with_reducible refine ifB_split (fun _ => ?_) (fun _ => ?_) | with_reducible refine And.intro ?_ ?_)
  all_goals try first | with_reducible rfl | with_reducible exact trivial | with_reducible exact List.Perm.refl _
  all_goals first
    | (simp_all [becN, afterB, afterN, effN]; done)
    | (have hx1 : (x == 1) = false := by simp_all
       have hx2 : ¬ x = 1 := by simp_all
       first
       | (obtain rfl : s = 1 := by simp_all
          simp [becN, afterB, afterN, effN, hx1, hx2]; done)
       | (obtain rfl : s = 4 := by simp_all
          simp [becN, afterB, afterN, effN, hx1, hx2]; done))
    | (cases hb : c.backed <;> simp_all [becN, afterB, afterN, effN] <;> omega)
    | (simp_all [becN, afterB, afterN, effN]; omega)
    | trace_state
def becomes6_T (c : Clm) (s a x : Int) : Prop :=
  ifB ((s == (4 : Int)) == true) (ifB ((!x == (1 : Int)) == false) (ifB (!c.6) (becN c s { kind := (6 : Int), at' := a, reason := x : Evt } = (8 : Int) ∧ True) (becN c s { kind := (6 : Int), at' := a, reason := x : Evt } = (-1 : Int) ∧ True)) (becN c s { kind := (6 : Int), at' := a, reason := x : Evt } = (8 : Int) ∧ True)) (becN c s { kind := (6 : Int), at' := a, reason := x : Evt } = (-1 : Int) ∧ True)
theorem becomes6_eq (c : Clm) (s a x : Int) : callBy X0 (exec X0 60) 86 (sBecomes.A ⟨c, s, ⟨6, a, x⟩⟩) (sBecomes.H ⟨c, s, ⟨6, a, x⟩⟩) (RetC (sBecomes.H ⟨c, s, ⟨6, a, x⟩⟩).length (sBecomes.R ⟨c, s, ⟨6, a, x⟩⟩) (sBecomes.O ⟨c, s, ⟨6, a, x⟩⟩)) = becomes6_T c s a x := by kernel_rfl
theorem becomes6_step (c : Clm) (s a x : Int) (hx : True) : becomes6_T c s a x := by
  unfold becomes6_T
  repeat' (first | with_reducible refine ifB_split (fun _ => ?_) (fun _ => ?_) | with_reducible refine And.intro ?_ ?_)
  all_goals try first | with_reducible rfl | with_reducible exact trivial | with_reducible exact List.Perm.refl _
  all_goals first
    | (simp_all [becN, afterB, afterN, effN]; done)
    | (have hx1 : (x == 1) = false := by simp_all
       have hx2 : ¬ x = 1 := by simp_all
       first
       | (obtain rfl : s = 1 := by simp_all
          simp [becN, afterB, afterN, effN, hx1, hx2]; done)
       | (obtain rfl : s = 4 := by simp_all
          simp [becN, afterB, afterN, effN, hx1, hx2]; done))
    | (cases hb : c.backed <;> simp_all [becN, afterB, afterN, effN] <;> omega)
    | (simp_all [becN, afterB, afterN, effN]; omega)
    | trace_state

theorem six {P : Int → Prop} {k : Int} (hk : k = 1 ∨ k = 2 ∨ k = 3 ∨ k = 4 ∨ k = 5 ∨ k = 6) (h1 : P 1) (h2 : P 2) (h3 : P 3) (h4 : P 4) (h5 : P 5) (h6 : P 6) : P k := by
  rcases hk with rfl | rfl | rfl | rfl | rfl | rfl
  · exact h1
  · exact h2
  · exact h3
  · exact h4
  · exact h5
  · exact h6
structure Wrap (P : Prop) : Prop where
  h : P
theorem Wrap.of_true {P : Prop} (h : P = True) : Wrap P := ⟨of_eq_true h⟩
theorem becomes_run (c : Clm) (s k a x : Int) (hk : k = 1 ∨ k = 2 ∨ k = 3 ∨ k = 4 ∨ k = 5 ∨ k = 6) (hr : k = 1 ∨ k = 3 ∨ k = 4 ∨ k = 5 → x = 0) :
    Wrap (callBy X0 (exec X0 60) 86 (sBecomes.A ⟨c, s, ⟨k, a, x⟩⟩) (sBecomes.H ⟨c, s, ⟨k, a, x⟩⟩) (RetC (sBecomes.H ⟨c, s, ⟨k, a, x⟩⟩).length (sBecomes.R ⟨c, s, ⟨k, a, x⟩⟩) (sBecomes.O ⟨c, s, ⟨k, a, x⟩⟩))) :=
  six (P := fun k => (k = 1 ∨ k = 3 ∨ k = 4 ∨ k = 5 → x = 0) → Wrap (callBy X0 (exec X0 60) 86 (sBecomes.A ⟨c, s, ⟨k, a, x⟩⟩) (sBecomes.H ⟨c, s, ⟨k, a, x⟩⟩) (RetC (sBecomes.H ⟨c, s, ⟨k, a, x⟩⟩).length (sBecomes.R ⟨c, s, ⟨k, a, x⟩⟩) (sBecomes.O ⟨c, s, ⟨k, a, x⟩⟩)))) hk
    (fun hr => Wrap.of_true ((becomes1_eq c s a x).trans (eq_true (becomes1_step c s a x (hr (by omega))))))
    (fun hr => Wrap.of_true ((becomes2_eq c s a x).trans (eq_true (becomes2_step c s a x trivial))))
    (fun hr => Wrap.of_true ((becomes3_eq c s a x).trans (eq_true (becomes3_step c s a x (hr (by omega))))))
    (fun hr => Wrap.of_true ((becomes4_eq c s a x).trans (eq_true (becomes4_step c s a x (hr (by omega))))))
    (fun hr => Wrap.of_true ((becomes5_eq c s a x).trans (eq_true (becomes5_step c s a x (hr (by omega))))))
    (fun hr => Wrap.of_true ((becomes6_eq c s a x).trans (eq_true (becomes6_step c s a x trivial))))
    hr
theorem becomes_all (p : EP) : (callBy X0 (exec X0 60) 86 (sBecomes.A ⟨p.c, p.s, ⟨p.e.kind, p.e.at', p.e.reason⟩⟩) (sBecomes.H ⟨p.c, p.s, ⟨p.e.kind, p.e.at', p.e.reason⟩⟩) (RetC (sBecomes.H ⟨p.c, p.s, ⟨p.e.kind, p.e.at', p.e.reason⟩⟩).length (sBecomes.R ⟨p.c, p.s, ⟨p.e.kind, p.e.at', p.e.reason⟩⟩) (sBecomes.O ⟨p.c, p.s, ⟨p.e.kind, p.e.at', p.e.reason⟩⟩))) = (callBy X0 (exec X0 60) 86 (sBecomes.A p) (sBecomes.H p) (RetC (sBecomes.H p).length (sBecomes.R p) (sBecomes.O p))) := by kernel_rfl
def becomes_T (p : EP) : Prop := Wrap (callBy X0 (exec X0 60) 86 (sBecomes.A ⟨p.c, p.s, ⟨p.e.kind, p.e.at', p.e.reason⟩⟩) (sBecomes.H ⟨p.c, p.s, ⟨p.e.kind, p.e.at', p.e.reason⟩⟩) (RetC (sBecomes.H ⟨p.c, p.s, ⟨p.e.kind, p.e.at', p.e.reason⟩⟩).length (sBecomes.R ⟨p.c, p.s, ⟨p.e.kind, p.e.at', p.e.reason⟩⟩) (sBecomes.O ⟨p.c, p.s, ⟨p.e.kind, p.e.at', p.e.reason⟩⟩)))
theorem becomes_ok : sBecomes.OK X0.P 86 := .of_eq X0_ok 60 becomes_T (fun p => (becomes_all p).symm.trans (propext ⟨Wrap.mk, Wrap.h⟩)) (fun _ => rfl) (fun _ _ o h => by cases h) fun p hJ => becomes_run p.c p.s p.e.kind p.e.at' p.e.reason hJ.1 hJ.2
end Go.Proofs.Ytmcidfecepknpaa

namespace Go.Proofs.Ytmcidfecepknpaa
open Go Go.Sh Go.Proofs
set_option linter.unusedVariables false
noncomputable def lRV : LSpec VP Nat Nat where
  code := loopOf Try.prog 55 5
  N := 3
  I := fun p i => blank 63 [(2, .sl 0 0 p.n), (7, iv (lastOf p.a p.E i)), (8, iv i)] [some (evO p.n p.E), none, none]
  J := fun p i => i ≤ p.n ∧ p.n ≤ 20 ∧ ∀ j, j < i → evOk (lastOf p.a p.E j) (p.E j) = true
  ways := 2
  E := fun w p q => match w with
    | 0 => (.exit 0, blank 63 [] [none, none, none])
    | _ => (.ret, blank 63 [(6, .bool false)] [none, none, none])
  JE := fun w p q => match w with
    | 0 => Leaf (∀ j, j < p.n → evOk (lastOf p.a p.E j) (p.E j) = true)
    | _ => Leaf (q < p.n ∧ evOk (lastOf p.a p.E q) (p.E q) = false)
noncomputable def zRV (p : VP) (i : Nat) : KX := fun x S' => match x with
  | .normal => Leaf (i < p.n) ∧ Leaf (evOk (lastOf p.a p.E i) (p.E i) = true) ∧ Wk 3 [] (lRV.I p (i + 1)) S'
  | .exit k => gateB (Nat.beq k 0) (Leaf (p.n ≤ i) ∧ Wk 3 [] (lRV.E 0 p 0).2 S')
  | .ret => Leaf (i < p.n) ∧ Leaf (evOk (lastOf p.a p.E i) (p.E i) = false) ∧ Wk 3 [] (lRV.E 1 p i).2 S'
def exRV (S : SS) : Option (VP × Nat × Ren) := match S.get 2, S.get 7, hget S.heap 0 with
  | .sl _ _ n, .int _ a, some (.arr _ _ _ _ g) => some (⟨a, fun i => Evt.of (g i), n⟩, 0, [])
  | _, _, _ => none
end Go.Proofs.Ytmcidfecepknpaa

namespace Go.Proofs.Ytmcidfecepknpaa
open Go Go.Sh Go.Proofs
set_option linter.unusedVariables false
set_option linter.unusedSimpArgs false
def rulesR_T (p : Rul) : Prop :=
  ifB (decide (p.1 ≥ (1 : Int)) == true) (ifB (decide (p.1 ≤ (1000000 : Int)) == true) (ifB (decide (p.2 ≥ (1 : Int)) == true) (ifB (decide (p.2 ≤ (1000000 : Int)) == true) (ifB (decide (p.3 ≥ (1 : Int)) == true) (ifB (decide (p.3 ≤ (1000000 : Int)) == true) (ifB (decide (p.4 ≥ (1 : Int)) == true) (p.ok = decide (p.4 ≤ (1000000 : Int)) ∧ True) (p.ok = false ∧ True)) (p.ok = false ∧ True)) (p.ok = false ∧ True)) (p.ok = false ∧ True)) (p.ok = false ∧ True)) (p.ok = false ∧ True)) (p.ok = false ∧ True)
theorem rulesR_eq (p : Rul) : callBy X0 (exec X0 60) 82 (sAreValid.A p) (sAreValid.H p) (RetC (sAreValid.H p).length (sAreValid.R p) (sAreValid.O p)) = rulesR_T p := by kernel_rfl
def claimR_T (p : Clm) : Prop :=
  ifB (decide (p.1 ≥ (0 : Int)) == true) (ifB (decide (p.1 ≤ (99999999 : Int)) == true) (ifB (decide (p.2 ≥ (0 : Int)) == true) (ifB (decide (p.2 ≤ (7 : Int)) == true) (ifB (decide (p.3 ≥ (0 : Int)) == true) (ifB (decide (p.3 ≤ (7 : Int)) == true) (ifB ((p.2 != p.3) == true) (ifB (decide (p.4 ≥ (0 : Int)) == true) (ifB (decide (p.4 ≤ (63 : Int)) == true) (ifB (decide (p.5 ≥ (0 : Int)) == true) (p.ok = decide (p.5 ≤ (10000000 : Int)) ∧ True) (p.ok = false ∧ True)) (p.ok = false ∧ True)) (p.ok = false ∧ True)) (p.ok = false ∧ True)) (p.ok = false ∧ True)) (p.ok = false ∧ True)) (p.ok = false ∧ True)) (p.ok = false ∧ True)) (p.ok = false ∧ True)) (p.ok = false ∧ True)
theorem claimR_eq (p : Clm) : callBy X0 (exec X0 60) 83 (sIsClaim.A p) (sIsClaim.H p) (RetC (sIsClaim.H p).length (sIsClaim.R p) (sIsClaim.O p)) = claimR_T p := by kernel_rfl

theorem rulesR_step (p : Rul) : rulesR_T p := by
  unfold rulesR_T
  repeat' (first | with_reducible refine ifB_split (fun _ => ?_) (fun _ => ?_) | with_reducible refine And.intro ?_ ?_)
  all_goals try first | with_reducible rfl | with_reducible exact trivial | with_reducible exact List.Perm.refl _
  all_goals (simp_all [Rul.ok, inB] <;> omega)
theorem rulesR_ok : sAreValid.OK X0.P 82 := .of_eq X0_ok 60 _ rulesR_eq (fun _ => rfl) (fun _ _ o h => by cases h) fun p _ => rulesR_step p
theorem claimR_step (p : Clm) : claimR_T p := by
  unfold claimR_T
  repeat' (first | with_reducible refine ifB_split (fun _ => ?_) (fun _ => ?_) | with_reducible refine And.intro ?_ ?_)
  all_goals try first | with_reducible rfl | with_reducible exact trivial | with_reducible exact List.Perm.refl _
  all_goals (simp_all [Clm.ok, inB] <;> omega)
theorem claimR_ok : sIsClaim.OK X0.P 83 := .of_eq X0_ok 60 _ claimR_eq (fun _ => rfl) (fun _ _ o h => by cases h) fun p _ => claimR_step p
def rvLoop_t0 (p : VP) : Prop :=
  (0 : Nat) = (0 : Nat) ∧ p.3 = p.3
theorem rvLoop_t0_t (p : VP) : rvLoop_t0 p :=
  ⟨rfl, rfl⟩
def rvLoop_t1 (p : VP) : Prop :=
  (p.3 = p.3 ∧ ∀ (i_1 : Nat), i_1 < p.n → (p.2 i_1).1 = (p.2 i_1).1 ∧ (p.2 i_1).2 = (p.2 i_1).2 ∧ (p.2 i_1).3 = (p.2 i_1).3 ∧ True) ∧ True
theorem rvLoop_t1_t (p : VP) : rvLoop_t1 p :=
  ⟨⟨rfl, (fun _ => (fun _ => ⟨rfl, ⟨rfl, ⟨rfl, trivial⟩⟩⟩))⟩, trivial⟩
def rvLoop_T (p : VP) (i : Nat) : Prop :=
  ifB (decide (Int.ofNat i < Int.ofNat p.3)) (ifB (decide (Int.ofNat i < (↑p.3 : Int))) (ifB (decide ((0 : Nat) + i < p.3) && true) (ifB (decide ((p.2 ((0 : Nat) + i)).1 ≥ (1 : Int)) == true) (ifB ((!decide ((p.2 ((0 : Nat) + i)).1 ≤ (6 : Int))) == false) (ifB (decide ((p.2 ((0 : Nat) + i)).2 ≥ lastOf p.1 p.2 i) == true) (ifB (!decide ((p.2 ((0 : Nat) + i)).2 ≤ (20000000 : Int))) (Leaf (i < p.n) ∧ Leaf (evOk (lastOf p.a p.E i) (p.E i) = false) ∧ (false = false ∧ True) ∧ True) (ifB (((p.2 ((0 : Nat) + i)).1 == (2 : Int)) == false) (ifB ((p.2 ((0 : Nat) + i)).1 == (6 : Int)) (ifB (decide ((p.2 ((0 : Nat) + i)).3 ≥ (1 : Int)) == true) (ifB (!decide ((p.2 ((0 : Nat) + i)).3 ≤ (9 : Int))) (Leaf (i < p.n) ∧ Leaf (evOk (lastOf p.a p.E i) (p.E i) = false) ∧ (false = false ∧ True) ∧ True) (Leaf (i < p.n) ∧ Leaf (evOk (lastOf p.a p.E i) (p.E i) = true) ∧ (rvLoop_t0 p ∧ (p.2 i).2 = (p.2 ((0 : Nat) + i)).2 ∧ Int.ofNat (i + (1 : Nat)) = IntKind.i64.wrap (Int.ofNat (i + (1 : Nat))) ∧ True) ∧ rvLoop_t1 p)) (Leaf (i < p.n) ∧ Leaf (evOk (lastOf p.a p.E i) (p.E i) = false) ∧ (false = false ∧ True) ∧ True)) (ifB ((p.2 ((0 : Nat) + i)).3 != (0 : Int)) (Leaf (i < p.n) ∧ Leaf (evOk (lastOf p.a p.E i) (p.E i) = false) ∧ (false = false ∧ True) ∧ True) (Leaf (i < p.n) ∧ Leaf (evOk (lastOf p.a p.E i) (p.E i) = true) ∧ (rvLoop_t0 p ∧ (p.2 i).2 = (p.2 ((0 : Nat) + i)).2 ∧ Int.ofNat (i + (1 : Nat)) = IntKind.i64.wrap (Int.ofNat (i + (1 : Nat))) ∧ True) ∧ rvLoop_t1 p))) (ifB (decide ((p.2 ((0 : Nat) + i)).3 ≥ (1 : Int)) == true) (ifB (!decide ((p.2 ((0 : Nat) + i)).3 ≤ (9 : Int))) (Leaf (i < p.n) ∧ Leaf (evOk (lastOf p.a p.E i) (p.E i) = false) ∧ (false = false ∧ True) ∧ True) (Leaf (i < p.n) ∧ Leaf (evOk (lastOf p.a p.E i) (p.E i) = true) ∧ (rvLoop_t0 p ∧ (p.2 i).2 = (p.2 ((0 : Nat) + i)).2 ∧ Int.ofNat (i + (1 : Nat)) = IntKind.i64.wrap (Int.ofNat (i + (1 : Nat))) ∧ True) ∧ rvLoop_t1 p)) (Leaf (i < p.n) ∧ Leaf (evOk (lastOf p.a p.E i) (p.E i) = false) ∧ (false = false ∧ True) ∧ True)))) (Leaf (i < p.n) ∧ Leaf (evOk (lastOf p.a p.E i) (p.E i) = false) ∧ (false = false ∧ True) ∧ True)) (Leaf (i < p.n) ∧ Leaf (evOk (lastOf p.a p.E i) (p.E i) = false) ∧ (false = false ∧ True) ∧ True)) (Leaf (i < p.n) ∧ Leaf (evOk (lastOf p.a p.E i) (p.E i) = false) ∧ (false = false ∧ True) ∧ True)) False) False) (Leaf (p.n ≤ i) ∧ True ∧ True)
theorem rvLoop_eq (p : VP) (i : Nat) : exec X0 60 55 lRV.code (lRV.I p i) (zRV p i) = rvLoop_T p i := by kernel_rfl

theorem rvLoop_step (p : VP) (i : Nat) (j1 : i ≤ p.n) (j2 : p.n ≤ 20) : rvLoop_T p i := by
  unfold rvLoop_T
  repeat' (first | with_reducible refine ifB_split (fun _ => ?_) (fun _ => ?_) | with_reducible refine And.intro ?_ ?_)
  all_goals try first | with_reducible exact rvLoop_t0_t _ | with_reducible exact rvLoop_t1_t _ | with_reducible rfl | with_reducible exact trivial | with_reducible exact List.Perm.refl _
  all_goals simp only [Nat.zero_add, Leaf, Int.ofNat_eq_natCast, decide_eq_true_eq, decide_eq_false_iff_not, Bool.and_eq_true, Bool.not_eq_true', Bool.not_eq_true, Bool.not_eq_false', beq_iff_eq, Bool.not_false, Bool.not_true] at *
  all_goals first
    | omega
    | (rw [wrapSmall (by omega) (by omega)]; done)
    | (simp_all [evOk, inB]; done)
    | (simp_all [evOk, inB]; omega)
    | (exfalso; simp_all; omega)
    | trace_state
set_option maxRecDepth 100000 in
theorem rvLoop_ok : LoopOK X0.P lRV.code lRV.L := by
  refine lRV.ok X0_ok 60 55 (fun p i => p.n - i) zRV (fun _ _ _ => trivial) (fun p d w q hw => ?_) (fun p i S' hJ h => ?_) (fun p i x S' hx hJ h => ?_) fun p i hJ => ?_
  · match w, hw with
    | 0, _ => exact trivial
    | 1, _ => exact trivial
  · obtain ⟨h1, h2, h3⟩ := h
    obtain ⟨j1, j2, j3⟩ := hJ
    simp only [Leaf] at h1 h2
    refine ⟨[], i + 1, by omega, ⟨by omega, j2, fun j hj => ?_⟩, h3⟩
    rcases Nat.lt_succ_iff_lt_or_eq.1 hj with hj | rfl
    · exact j3 j hj
    · exact h2
  · obtain ⟨j1, j2, j3⟩ := hJ
    cases x with
    | normal => exact hx.elim
    | ret =>
      obtain ⟨h1, h2, h3⟩ := h
      exact ⟨1, i, [], by decide, ⟨h1, h2⟩, rfl, h3⟩
    | exit k =>
      obtain ⟨h0, h1, h2⟩ := gateB_spec h
      have h0 := Nat.eq_of_beq_eq_true h0
      subst h0
      simp only [Leaf] at h1
      exact ⟨0, 0, [], by decide, fun j hj => j3 j (by omega), rfl, h2⟩
  · obtain ⟨j1, j2, j3⟩ := hJ
    rw [rvLoop_eq]
    exact rvLoop_step p i j1 j2

noncomputable def XR1 : Ctx := ((X0.with 82 (sAreValid.by exRul)).with 83 (sIsClaim.by exClm)).loop 55 5 lRV.code (lRV.by exRV)
theorem XR1_ok : XR1.OK := Ctx.loop_ok (Ctx.with_ok (Ctx.with_ok X0_ok (rulesR_ok.by exRul)) (claimR_ok.by exClm)) (rvLoop_ok.by exRV)
end Go.Proofs.Ytmcidfecepknpaa

namespace Go.Proofs.Ytmcidfecepknpaa
open Go Go.Sh Go.Proofs
set_option linter.unusedVariables false
set_option linter.unusedSimpArgs false
def rvalid_t0 (p : CP) : Prop :=
  True ∧ (0 : Nat) = (0 : Nat) ∧ ((p.1.1 = p.1.1 ∧ p.1.2 = p.1.2 ∧ p.1.3 = p.1.3 ∧ p.1.4 = p.1.4 ∧ True) ∧ True) ∧ True
theorem rvalid_t0_t (p : CP) : rvalid_t0 p :=
  ⟨trivial, ⟨rfl, ⟨⟨⟨rfl, ⟨rfl, ⟨rfl, ⟨rfl, trivial⟩⟩⟩⟩, trivial⟩, trivial⟩⟩⟩
def rvalid_t1 (p : CP) : Prop :=
  True ∧ (0 : Nat) = (0 : Nat) ∧ ((p.2.1 = p.2.1 ∧ p.2.2 = p.2.2 ∧ p.2.3 = p.2.3 ∧ p.2.4 = p.2.4 ∧ p.2.5 = p.2.5 ∧ p.2.6 = p.2.6 ∧ True) ∧ True) ∧ True
theorem rvalid_t1_t (p : CP) : rvalid_t1 p :=
  ⟨trivial, ⟨rfl, ⟨⟨⟨rfl, ⟨rfl, ⟨rfl, ⟨rfl, ⟨rfl, ⟨rfl, trivial⟩⟩⟩⟩⟩⟩, trivial⟩, trivial⟩⟩⟩
def rvalid_t2 (p : CP) : Prop :=
  (3 : Nat) = (3 : Nat) ∧ True ∧ (((0 : Nat) = (0 : Nat) ∧ p.4 = p.4) ∧ p.2.5 = p.2.5 ∧ (0 : Int) = (0 : Int) ∧ True) ∧ (p.4 = p.4 ∧ ∀ (i : Nat), i < p.4 → (p.3 i).1 = (p.3 i).1 ∧ (p.3 i).2 = (p.3 i).2 ∧ (p.3 i).3 = (p.3 i).3 ∧ True) ∧ True
theorem rvalid_t2_t (p : CP) : rvalid_t2 p :=
  ⟨rfl, ⟨trivial, ⟨⟨⟨rfl, rfl⟩, ⟨rfl, ⟨rfl, trivial⟩⟩⟩, ⟨⟨rfl, (fun _ => (fun _ => ⟨rfl, ⟨rfl, ⟨rfl, trivial⟩⟩⟩))⟩, trivial⟩⟩⟩⟩
def rvalid_T (p : CP) : Prop :=
  rvalid_t0 p ∧ ifB ((!p.1.ok) == false) (rvalid_t1 p ∧ ifB ((!p.2.ok) == false) (ifB (decide (Int.ofNat p.4 > (20 : Int))) (p.ok = false ∧ True) (lRV.code = lRV.code ∧ (((0 : Nat) ≤ p.4 ∧ p.4 ≤ (20 : Nat) ∧ ∀ (j : Nat), j < (0 : Nat) → evOk (lastOf p.2.5 p.3 j) (p.3 j) = true) ∧ rvalid_t2 p) ∧ (True ∧ ∀ (q : Nat), Leaf (∀ (j : Nat), j < p.4 → evOk (lastOf p.2.5 p.3 j) (p.3 j) = true) → p.ok = true ∧ True) ∧ ∀ (q : Nat), Leaf (q < p.4 ∧ evOk (lastOf p.2.5 p.3 q) (p.3 q) = false) → p.ok = false ∧ True)) (p.ok = false ∧ True)) (p.ok = false ∧ True)
theorem rvalid_eq (p : CP) : callBy XR1 (exec XR1 100) 55 (sValid.A p) (sValid.H p) (RetC (sValid.H p).length (sValid.R p) (sValid.O p)) = rvalid_T p := by kernel_rfl

theorem CP.ok_iff (p : CP) : p.ok = true ↔ p.r.ok = true ∧ p.c.ok = true ∧ p.n ≤ 20 ∧ ∀ j, j < p.n → evOk (lastOf p.c.asked p.E j) (p.E j) = true := by
  simp only [CP.ok, evsOk, Bool.and_eq_true, decide_eq_true_eq, List.all_eq_true, List.mem_range]
  constructor
  · rintro ⟨⟨⟨h1, h2⟩, h3⟩, h4⟩; exact ⟨h1, h2, h3, h4⟩
  · rintro ⟨h1, h2, h3, h4⟩; exact ⟨⟨⟨h1, h2⟩, h3⟩, h4⟩
theorem CP.nok {p : CP} (h : ¬ (p.r.ok = true ∧ p.c.ok = true ∧ p.n ≤ 20 ∧ ∀ j, j < p.n → evOk (lastOf p.c.asked p.E j) (p.E j) = true)) : p.ok = false := by
  cases ho : p.ok with
  | false => rfl
  | true => exact (h ((CP.ok_iff p).1 ho)).elim
theorem rvalid_step (p : CP) : rvalid_T p := by
  unfold rvalid_T
  repeat' (first | with_reducible refine ifB_split (fun _ => ?_) (fun _ => ?_) | with_reducible refine And.intro ?_ ?_ | with_reducible refine fun q hq => ?_)
  all_goals try first | with_reducible exact rvalid_t0_t _ | with_reducible exact rvalid_t1_t _ | with_reducible exact rvalid_t2_t _ | with_reducible rfl | with_reducible exact trivial | with_reducible exact List.Perm.refl _
  all_goals simp only [Leaf, Int.ofNat_eq_natCast, decide_eq_true_eq, decide_eq_false_iff_not, beq_iff_eq, Bool.not_eq_true', Bool.not_eq_false', Bool.not_eq_true, beq_eq_false_iff_ne, ne_eq, Bool.not_eq_false] at *
  all_goals first
    | omega
    | (refine CP.nok fun h => ?_
       obtain ⟨h1, h2, h3, h4⟩ := h
       first
       | omega
       | (simp_all; done)
       | (have := h4 _ hq.1; rw [hq.2] at this; cases this)
       | (rename_i g _ _; rw [g] at h1; cases h1)
       | trace_state)
    | (refine (CP.ok_iff p).2 ⟨by assumption, by assumption, by omega, hq⟩)
    | trace_state
theorem rvalid_ok : sValid.OK XR1.P 55 := .of_eq XR1_ok 100 _ rvalid_eq (fun _ => rfl) (fun _ _ o h => by cases h) fun p _ => rvalid_step p
end Go.Proofs.Ytmcidfecepknpaa

namespace Go.Proofs.Ytmcidfecepknpaa
open Go Go.Sh Go.Proofs
set_option linter.unusedVariables false

/-! ### the reference's run -/
structure RP where
  p : OP
  i : Nat
  k : Nat
  V : Nat → Int
  u : Int
  a : Sta
  k0 : Nat
  W0 : Nat → Sta
def boxR (r : Rul) : Option SO := some (.arr true 1 4 29 fun _ => [iv r.answer, iv r.cooling, iv r.settle, iv r.reverse])
def boxC (c : Clm) : Option SO := some (.arr true 1 6 31 fun _ => [iv c.number, iv c.src, iv c.dst, iv c.holder, iv c.asked, .bool c.backed])
def heapR (p : OP) (rest : List (Option SO)) : Heap := [some (evO p.n p.E), boxR p.r, boxC p.c, none] ++ rest
def stepR (r : Rul) (s : Sta) : Sta := begins r (followR s.state) s.next
theorem stepR_eq {r : Rul} {s : Sta} (hok : s.ok r) {u : Int} (h : goesOn u s = true) : stepR r s = step1 r s := by
  simp only [goesOn, Bool.and_eq_true, decide_eq_true_eq] at h
  have h1 := h.1
  unfold Sta.ok nextOf at hok
  unfold stepR step1 followR follow
  split at hok
  · simp_all
  · split at hok
    · simp_all
    · split at hok
      · simp_all
      · split at hok
        · simp_all
        · omega
def lIR_J (p : RP) (d : TD) : Prop := (∃ m, rank d.now.state ≤ m ∧ goN p.p.r p.u 4 p.a = goN p.p.r p.u m d.now ∧ Lst p.k0 p.W0 ++ aloneL p.p.r p.u 4 p.a = Lst d.k2 d.W ++ aloneL p.p.r p.u m d.now) ∧ d.now.ok p.p.r ∧ d.k2 + rank d.now.state ≤ p.k0 + 4 ∧ p.k0 ≤ 200
noncomputable def lIR : LSpec RP TD TD where
  code := loopOf Try.prog 57 10
  N := 7
  I := fun p d => blank 107 [(2, .sl 0 0 p.p.n), (3, iv p.p.t), (4, .ptr 1 0 0), (5, .ptr 2 0 0), (10, .osl 7 d.k2), (11, .osl 5 p.k), (12, iv p.i), (13, iv p.u), (14, .ptr 6 0 0)] (heapR p.p [none, voidO p.k p.V, staO d.now, lineO d.k2 d.W])
  J := lIR_J
  ways := 1
  E := fun w p d => (.exit 2, blank 107 [(2, .sl 0 0 p.p.n), (3, iv p.p.t), (4, .ptr 1 0 0), (5, .ptr 2 0 0), (10, .osl 7 d.k2), (11, .osl 5 p.k), (12, iv p.i), (14, .ptr 6 0 0)] (heapR p.p [none, voidO p.k p.V, staO d.now, lineO d.k2 d.W]))
  JE := fun w p q => Leaf (goN p.p.r p.u 4 p.a = q.now ∧ q.now.ok p.p.r ∧ Lst q.k2 q.W = Lst p.k0 p.W0 ++ aloneL p.p.r p.u 4 p.a ∧ q.k2 ≤ p.k0 + 4)
/-- A list of statuses that a value is. -/
def lineAt (h : Heap) (v : SV) : Option (Nat × Nat × (Nat → Sta)) := match v with
  | .osl lo k2 => match arrOf h lo with
    | some (_, W) => some (lo, k2, fun i => Sta.ofC (W i))
    | none => none
  | _ => none
def intsAt (h : Heap) (v : SV) : Option (Nat × Nat × (Nat → Int)) := match v with
  | .osl lo k2 => match arrOf h lo with
    | some (_, W) => some (lo, k2, fun i => intOf (W i))
    | none => none
  | _ => none
noncomputable def zIR (p : RP) (d : TD) : KX := fun x S' => match x with
  | .normal => match lineAt S'.heap (S'.get 10) with
    | some (lo, k2, W) => Leaf (goesOn p.u d.now = true) ∧ Leaf (addW d.k2 d.W (stepR p.p.r d.now) k2 W) ∧ Wk 7 [some lo] (lIR.I p ⟨stepR p.p.r d.now, k2, W⟩) S'
    | none => False
  | .exit k => gateB (Nat.beq k 2) (Leaf (goesOn p.u d.now = false) ∧ Wk 7 [some 7] (lIR.E 0 p d).2 S')
  | .ret => False
noncomputable def XR0 : Ctx := (((X0.with 84 (sStatus.by exStatus)).with 85 (sFollow.by exInt)).with 86 (sBecomes.by exBecomes)).with 55 (sValid.by exCP)
theorem XR0_ok : XR0.OK := Ctx.with_ok (Ctx.with_ok (Ctx.with_ok (Ctx.with_ok X0_ok (status_ok.by exStatus)) (followR_ok.by exInt)) (becomes_ok.by exBecomes)) (rvalid_ok.by exCP)
end Go.Proofs.Ytmcidfecepknpaa

namespace Go.Proofs.Ytmcidfecepknpaa
open Go Go.Sh Go.Proofs
set_option linter.unusedVariables false
set_option linter.unusedSimpArgs false
def innerR_t0 (d : TD) : Prop :=
  True ∧ (0 : Nat) = (0 : Nat) ∧ (d.1.1 = d.1.1 ∧ True) ∧ True
theorem innerR_t0_t (d : TD) : innerR_t0 d :=
  ⟨trivial, ⟨rfl, ⟨⟨rfl, trivial⟩, trivial⟩⟩⟩
def innerR_t1 (p : RP) (d : TD) : Prop :=
  True ∧ (0 : Nat) = (0 : Nat) ∧ ((p.1.1.1 = p.1.1.1 ∧ p.1.1.2 = p.1.1.2 ∧ p.1.1.3 = p.1.1.3 ∧ p.1.1.4 = p.1.1.4 ∧ True) ∧ followR d.1.1 = followR d.1.1 ∧ d.1.3 = d.1.3 ∧ True) ∧ True
theorem innerR_t1_t (p : RP) (d : TD) : innerR_t1 p d :=
  ⟨trivial, ⟨rfl, ⟨⟨⟨rfl, ⟨rfl, ⟨rfl, ⟨rfl, trivial⟩⟩⟩⟩, ⟨rfl, ⟨rfl, trivial⟩⟩⟩, trivial⟩⟩⟩
def innerR_t2 (p : RP) (d : TD) : Prop :=
  (((0 : Nat) = (0 : Nat) ∧ p.1.4 = p.1.4) ∧ p.1.5 = p.1.5 ∧ ((0 : Nat) = (0 : Nat) ∧ (0 : Nat) = (0 : Nat)) ∧ ((0 : Nat) = (0 : Nat) ∧ (0 : Nat) = (0 : Nat)) ∧ d.2 + (1 : Nat) = d.2 + (1 : Nat) ∧ p.3 = p.3 ∧ Int.ofNat p.2 = Int.ofNat p.2 ∧ p.5 = p.5 ∧ ((0 : Nat) = (0 : Nat) ∧ (0 : Nat) = (0 : Nat)) ∧ True) ∧ (p.1.4 = p.1.4 ∧ ∀ (i : Nat), i < p.1.n → (p.1.3 i).1 = (p.1.3 i).1 ∧ (p.1.3 i).2 = (p.1.3 i).2 ∧ (p.1.3 i).3 = (p.1.3 i).3 ∧ True) ∧ ((1 : Nat) = (1 : Nat) ∧ ∀ (i : Nat), i < (1 : Nat) → p.1.1.1 = p.1.1.1 ∧ p.1.1.2 = p.1.1.2 ∧ p.1.1.3 = p.1.1.3 ∧ p.1.1.4 = p.1.1.4 ∧ True) ∧ ((1 : Nat) = (1 : Nat) ∧ ∀ (i : Nat), i < (1 : Nat) → p.1.2.1 = p.1.2.1 ∧ p.1.2.2 = p.1.2.2 ∧ p.1.2.3 = p.1.2.3 ∧ p.1.2.4 = p.1.2.4 ∧ p.1.2.5 = p.1.2.5 ∧ p.1.2.6 = p.1.2.6 ∧ True) ∧ (p.3 = p.3 ∧ ∀ (i : Nat), i < p.k → p.4 i = p.4 i ∧ True) ∧ ((1 : Nat) = (1 : Nat) ∧ ∀ (i : Nat), i < (1 : Nat) → followR d.1.1 = followR d.1.1 ∧ d.1.3 = d.1.3 ∧ nextOf p.1.1 (followR d.1.1) d.1.3 = nextOf p.1.1 (followR d.1.1) d.1.3 ∧ True) ∧ (d.2 + (1 : Nat) = d.2 + (1 : Nat) ∧ ∀ (i : Nat), i < d.2 + (1 : Nat) → ((bif decide (i < d.2) then (d.3 i).1 else followR d.1.1) = bif decide (i < d.2) then (d.3 i).1 else followR d.1.1) ∧ ((bif decide (i < d.2) then (d.3 i).2 else d.1.3) = bif decide (i < d.2) then (d.3 i).2 else d.1.3) ∧ ((bif decide (i < d.2) then (d.3 i).3 else nextOf p.1.1 (followR d.1.1) d.1.3) = bif decide (i < d.2) then (d.3 i).3 else nextOf p.1.1 (followR d.1.1) d.1.3) ∧ True) ∧ True
theorem innerR_t2_t (p : RP) (d : TD) : innerR_t2 p d :=
  ⟨⟨⟨rfl, rfl⟩, ⟨rfl, ⟨⟨rfl, rfl⟩, ⟨⟨rfl, rfl⟩, ⟨rfl, ⟨rfl, ⟨rfl, ⟨rfl, ⟨⟨rfl, rfl⟩, trivial⟩⟩⟩⟩⟩⟩⟩⟩⟩, ⟨⟨rfl, (fun _ => (fun _ => ⟨rfl, ⟨rfl, ⟨rfl, trivial⟩⟩⟩))⟩, ⟨⟨rfl, (fun _ => (fun _ => ⟨rfl, ⟨rfl, ⟨rfl, ⟨rfl, trivial⟩⟩⟩⟩))⟩, ⟨⟨rfl, (fun _ => (fun _ => ⟨rfl, ⟨rfl, ⟨rfl, ⟨rfl, ⟨rfl, ⟨rfl, trivial⟩⟩⟩⟩⟩⟩))⟩, ⟨⟨rfl, (fun _ => (fun _ => ⟨rfl, trivial⟩))⟩, ⟨⟨rfl, (fun _ => (fun _ => ⟨rfl, ⟨rfl, ⟨rfl, trivial⟩⟩⟩))⟩, ⟨⟨rfl, (fun _ => (fun _ => ⟨rfl, ⟨rfl, ⟨rfl, trivial⟩⟩⟩))⟩, trivial⟩⟩⟩⟩⟩⟩⟩
def innerR_t3 (p : RP) (d : TD) : Prop :=
  (((0 : Nat) = (0 : Nat) ∧ p.1.4 = p.1.4) ∧ p.1.5 = p.1.5 ∧ ((0 : Nat) = (0 : Nat) ∧ (0 : Nat) = (0 : Nat)) ∧ ((0 : Nat) = (0 : Nat) ∧ (0 : Nat) = (0 : Nat)) ∧ d.2 = d.2 ∧ p.3 = p.3 ∧ Int.ofNat p.2 = Int.ofNat p.2 ∧ ((0 : Nat) = (0 : Nat) ∧ (0 : Nat) = (0 : Nat)) ∧ True) ∧ (p.1.4 = p.1.4 ∧ ∀ (i : Nat), i < p.1.n → (p.1.3 i).1 = (p.1.3 i).1 ∧ (p.1.3 i).2 = (p.1.3 i).2 ∧ (p.1.3 i).3 = (p.1.3 i).3 ∧ True) ∧ ((1 : Nat) = (1 : Nat) ∧ ∀ (i : Nat), i < (1 : Nat) → p.1.1.1 = p.1.1.1 ∧ p.1.1.2 = p.1.1.2 ∧ p.1.1.3 = p.1.1.3 ∧ p.1.1.4 = p.1.1.4 ∧ True) ∧ ((1 : Nat) = (1 : Nat) ∧ ∀ (i : Nat), i < (1 : Nat) → p.1.2.1 = p.1.2.1 ∧ p.1.2.2 = p.1.2.2 ∧ p.1.2.3 = p.1.2.3 ∧ p.1.2.4 = p.1.2.4 ∧ p.1.2.5 = p.1.2.5 ∧ p.1.2.6 = p.1.2.6 ∧ True) ∧ (p.3 = p.3 ∧ ∀ (i : Nat), i < p.k → p.4 i = p.4 i ∧ True) ∧ ((1 : Nat) = (1 : Nat) ∧ ∀ (i : Nat), i < (1 : Nat) → d.1.1 = d.1.1 ∧ d.1.2 = d.1.2 ∧ d.1.3 = d.1.3 ∧ True) ∧ (d.2 = d.2 ∧ ∀ (i : Nat), i < d.k2 → (d.3 i).1 = (d.3 i).1 ∧ (d.3 i).2 = (d.3 i).2 ∧ (d.3 i).3 = (d.3 i).3 ∧ True) ∧ True
theorem innerR_t3_t (p : RP) (d : TD) : innerR_t3 p d :=
  ⟨⟨⟨rfl, rfl⟩, ⟨rfl, ⟨⟨rfl, rfl⟩, ⟨⟨rfl, rfl⟩, ⟨rfl, ⟨rfl, ⟨rfl, ⟨⟨rfl, rfl⟩, trivial⟩⟩⟩⟩⟩⟩⟩⟩, ⟨⟨rfl, (fun _ => (fun _ => ⟨rfl, ⟨rfl, ⟨rfl, trivial⟩⟩⟩))⟩, ⟨⟨rfl, (fun _ => (fun _ => ⟨rfl, ⟨rfl, ⟨rfl, ⟨rfl, trivial⟩⟩⟩⟩))⟩, ⟨⟨rfl, (fun _ => (fun _ => ⟨rfl, ⟨rfl, ⟨rfl, ⟨rfl, ⟨rfl, ⟨rfl, trivial⟩⟩⟩⟩⟩⟩))⟩, ⟨⟨rfl, (fun _ => (fun _ => ⟨rfl, trivial⟩))⟩, ⟨⟨rfl, (fun _ => (fun _ => ⟨rfl, ⟨rfl, ⟨rfl, trivial⟩⟩⟩))⟩, ⟨⟨rfl, (fun _ => (fun _ => ⟨rfl, ⟨rfl, ⟨rfl, trivial⟩⟩⟩))⟩, trivial⟩⟩⟩⟩⟩⟩⟩
def innerR_T (p : RP) (d : TD) : Prop :=
  ifB (decide (d.1.3 ≥ (0 : Int)) == true) (ifB (decide (d.1.3 ≤ p.5)) (innerR_t0 d ∧ innerR_t1 p d ∧ ifB (decide (d.2 ≤ d.2) && decide ((d.2 + (1 : Nat)) * (24 : Nat) ≤ (140737488355328 : Nat))) (Leaf (goesOn p.u d.now = true) ∧ Leaf (addW d.k2 d.W (stepR p.p.r d.now) (d.2 + (1 : Nat)) fun (i : Nat) => { state := bif decide (i < d.2) then (d.3 i).1 else followR d.1.1, since := bif decide (i < d.2) then (d.3 i).2 else d.1.3, next := bif decide (i < d.2) then (d.3 i).3 else nextOf p.1.1 (followR d.1.1) d.1.3 : Sta }) ∧ innerR_t2 p d) False) (Leaf (goesOn p.u d.now = false) ∧ innerR_t3 p d)) (Leaf (goesOn p.u d.now = false) ∧ innerR_t3 p d)
theorem innerR_eq (p : RP) (d : TD) : exec XR0 60 57 lIR.code (lIR.I p d) (zIR p d) = innerR_T p d := by kernel_rfl

theorem innerR_step (p : RP) (d : TD) (hk : d.k2 ≤ 300) : innerR_T p d := by
  unfold innerR_T
  repeat' (first | with_reducible refine ifB_split (fun _ => ?_) (fun _ => ?_) | with_reducible refine And.intro ?_ ?_)
  all_goals try first | with_reducible exact innerR_t0_t _ | with_reducible exact innerR_t1_t _ _ | with_reducible exact innerR_t2_t _ _ | with_reducible exact innerR_t3_t _ _ | with_reducible rfl | with_reducible exact trivial | with_reducible exact List.Perm.refl _
  all_goals try simp only [Leaf]
  all_goals first
    | (simp_all [goesOn]; done)
    | (simp_all [goesOn]; intros; omega)
    | (exfalso; simp_all; omega)
    | (refine ⟨rfl, fun j hj => ?_, ?_⟩ <;> (simp_all [stepR, begins]; done))
    | trace_state

set_option maxRecDepth 100000 in
theorem innerR_ok : LoopOK XR0.P lIR.code lIR.L := by
  refine lIR.ok XR0_ok 60 57 (fun p d => rank d.now.state) zIR (fun _ _ _ => trivial) (fun p d w q hw => ?_) (fun p d S' hJ h => ?_) (fun p d x S' hx hJ h => ?_) fun p d hJ => ?_
  · match w, hw with
    | 0, _ => exact trivial
  · unfold zIR at h; dsimp only at h
    split at h <;> try exact h.elim
    rename_i lo k2 W _
    obtain ⟨h1, h2, h3⟩ := h
    simp only [Leaf] at h1 h2
    obtain ⟨⟨m, hm, ha, hl⟩, hok, hk, hk0⟩ := hJ
    have hr := rank_pos hok h1
    have he := stepR_eq hok h1
    rw [he] at h2
    obtain ⟨m', rfl⟩ : ∃ m', m = m' + 1 := ⟨m - 1, by omega⟩
    have h2' := h2.lst
    refine ⟨[some lo], ⟨stepR p.p.r d.now, k2, W⟩, ?_, ⟨⟨m', ?_, ?_, ?_⟩, ?_, ?_, hk0⟩, h3⟩
    · show rank (stepR p.p.r d.now).state < rank d.now.state
      rw [he]
      show rank (follow d.now.state) < rank d.now.state
      omega
    · show rank (stepR p.p.r d.now).state ≤ m'
      rw [he]
      show rank (follow d.now.state) ≤ m'
      omega
    · show _ = goN p.p.r p.u m' (stepR p.p.r d.now)
      rw [ha, he]
      simp only [goN, h1]
    · show _ = Lst k2 W ++ aloneL p.p.r p.u m' (stepR p.p.r d.now)
      rw [hl, he]
      simp only [aloneL, h1, h2', List.append_assoc, List.singleton_append]
    · rfl
    · show k2 + rank (stepR p.p.r d.now).state ≤ p.k0 + 4
      rw [he]
      show k2 + rank (follow d.now.state) ≤ p.k0 + 4
      have := h2.1
      omega
  · obtain ⟨⟨m, hm, ha, hl⟩, hok, hk, hk0⟩ := hJ
    cases x with
    | normal => exact hx.elim
    | ret => exact h.elim
    | exit k =>
      obtain ⟨h0, h1, h2⟩ := gateB_spec h
      have h0 := Nat.eq_of_beq_eq_true h0
      subst h0
      simp only [Leaf] at h1
      refine ⟨0, d, _, Nat.lt_succ_self 0, ⟨?_, hok, ?_, by omega⟩, rfl, h2⟩
      · rw [ha]; exact goN_done h1 m
      · rw [hl, aloneL_done h1 m, List.append_nil]
  · obtain ⟨_, hok, hk, hk0⟩ := hJ
    rw [innerR_eq]
    exact innerR_step p d (by omega)
end Go.Proofs.Ytmcidfecepknpaa

namespace Go.Proofs.Ytmcidfecepknpaa
open Go Go.Sh Go.Proofs
set_option linter.unusedVariables false

def exIR (S : SS) : Option (RP × TD × Ren) := match arrOf S.heap 0, arrOf S.heap 1, arrOf S.heap 2, lineAt S.heap (S.get 10), intsAt S.heap (S.get 11), arrOf S.heap 6 with
  | some (n, E), some (_, rr), some (_, cc), some (lo, k2, W), some (lv, k, V), some (_, a) => match rr 0, cc 0 with
    | [.int _ r1, .int _ r2, .int _ r3, .int _ r4], [.int _ c1, .int _ c2, .int _ c3, .int _ c4, .int _ c5, .bool c6] =>
      some (⟨⟨⟨r1, r2, r3, r4⟩, ⟨c1, c2, c3, c4, c5, c6⟩, fun i => Evt.of (E i), n, intSV (S.get 3)⟩, (intSV (S.get 12)).toNat, k, V, intSV (S.get 13), Sta.ofC (a 0), k2, W⟩, ⟨Sta.ofC (a 0), k2, W⟩, [some lo])
    | _, _ => none
  | _, _, _, _, _, _ => none
noncomputable def XR2 : Ctx := XR0.loop 57 10 lIR.code (lIR.by exIR)
theorem XR2_ok : XR2.OK := Ctx.loop_ok XR0_ok (innerR_ok.by exIR)

structure RD where
  i : Nat
  k : Nat
  V : Nat → Int
  k2 : Nat
  W : Nat → Sta
def a0 (p : OP) : Sta := begins p.r 1 p.c.asked
def runR (p : OP) (i : Nat) : Sta := runN p.r p.c p.E (a0 p) i
def lMR_J (p : OP) (d : RD) : Prop := d.i ≤ p.n ∧ p.cp.ok = true ∧ d.k ≤ d.i ∧ Lst d.k d.V = voids p.r p.c p.E (a0 p) d.i ∧ Lst d.k2 d.W = line p.r p.c p.E (a0 p) d.i ∧ d.k2 ≤ 1 + 5 * d.i ∧ 1 ≤ d.k2 ∧ d.W (d.k2 - 1) = runR p d.i ∧ (runR p d.i).ok p.r ∧ ∀ j, j < d.i → (p.E j).at' ≤ p.t
noncomputable def lMR : LSpec OP RD RD where
  code := loopOf Try.prog 57 4
  N := 4
  I := fun p d => blank 107 [(2, .sl 0 0 p.n), (3, iv p.t), (4, .ptr 1 0 0), (5, .ptr 2 0 0), (10, .osl 4 d.k2), (11, .osl 5 d.k), (12, iv d.i)] (heapR p [lineO d.k2 d.W, voidO d.k d.V])
  J := lMR_J
  ways := 1
  E := fun w p d => (.ret, blank 107 [(8, .osl 4 d.k2), (9, .osl 5 d.k)] [none, none, none, none, lineO d.k2 d.W, voidO d.k d.V])
  JE := fun w p q => Leaf (q.i ≤ p.n ∧ (∀ j, j < q.i → (p.E j).at' ≤ p.t) ∧ (q.i = p.n ∨ p.t < (p.E q.i).at') ∧ Lst q.k q.V = voids p.r p.c p.E (a0 p) q.i ∧ Lst q.k2 q.W = line p.r p.c p.E (a0 p) q.i ++ aloneL p.r p.t 4 (runR p q.i))
def endR (S : SS) (v w : SV) (K : Nat → (Nat → Int) → Nat → (Nat → Sta) → Ren → Prop) : Prop := match lineAt S.heap v, intsAt S.heap w with
  | some (lo, k2, W), some (lv, k, V) => K k V k2 W [some lo, some lv]
  | _, _ => False
noncomputable def zMR (p : OP) (d : RD) : KX := fun x S' => match x with
  | .normal => endR S' (S'.get 10) (S'.get 11) fun k V k2 W ρ => Leaf (d.i < p.n ∧ (p.E d.i).at' ≤ p.t) ∧ Leaf (vNext ⟨p.r, p.c, p.E, p.n, 0, a0 p⟩ ⟨d.i, runR p d.i, d.k, d.V⟩ k V) ∧ Leaf (Lst k2 W = Lst d.k2 d.W ++ evL p.r p.c (runR p d.i) (p.E d.i) ∧ k2 ≤ d.k2 + 5) ∧ Wk 4 ρ (lMR.I p ⟨d.i + 1, k, V, k2, W⟩) S'
  | .ret => endR S' (S'.get 8) (S'.get 9) fun k V k2 W ρ => Leaf (d.i = p.n ∨ p.t < (p.E d.i).at') ∧ Leaf (Lst k2 W = Lst d.k2 d.W ++ aloneL p.r p.t 4 (runR p d.i)) ∧ Leaf (k = d.k ∧ V = d.V) ∧ Wk 4 ρ (lMR.E 0 p ⟨d.i, k, V, k2, W⟩).2 S'
  | .exit _ => Leaf False
end Go.Proofs.Ytmcidfecepknpaa

namespace Go.Proofs.Ytmcidfecepknpaa
open Go Go.Sh Go.Proofs
set_option linter.unusedVariables false
set_option linter.unusedSimpArgs false
def mainR_t0 (p : OP) (d : RD) : Prop :=
  (7 : Nat) = (7 : Nat) ∧ True ∧ (((0 : Nat) = (0 : Nat) ∧ p.4 = p.4) ∧ p.5 = p.5 ∧ ((0 : Nat) = (0 : Nat) ∧ (0 : Nat) = (0 : Nat)) ∧ ((0 : Nat) = (0 : Nat) ∧ (0 : Nat) = (0 : Nat)) ∧ d.4 = d.4 ∧ d.2 = d.2 ∧ Int.ofNat d.1 = Int.ofNat d.1 ∧ ((if p.5 < (p.3 ((0 : Nat) + d.1)).2 then p.5 else (p.3 ((0 : Nat) + d.1)).2) = if p.5 < (p.3 ((0 : Nat) + d.1)).2 then p.5 else (p.3 ((0 : Nat) + d.1)).2) ∧ ((0 : Nat) = (0 : Nat) ∧ (0 : Nat) = (0 : Nat)) ∧ True) ∧ (p.4 = p.4 ∧ ∀ (i : Nat), i < p.n → (p.3 i).1 = (p.3 i).1 ∧ (p.3 i).2 = (p.3 i).2 ∧ (p.3 i).3 = (p.3 i).3 ∧ True) ∧ ((1 : Nat) = (1 : Nat) ∧ ∀ (i : Nat), i < (1 : Nat) → p.1.1 = p.1.1 ∧ p.1.2 = p.1.2 ∧ p.1.3 = p.1.3 ∧ p.1.4 = p.1.4 ∧ True) ∧ ((1 : Nat) = (1 : Nat) ∧ ∀ (i : Nat), i < (1 : Nat) → p.2.1 = p.2.1 ∧ p.2.2 = p.2.2 ∧ p.2.3 = p.2.3 ∧ p.2.4 = p.2.4 ∧ p.2.5 = p.2.5 ∧ p.2.6 = p.2.6 ∧ True) ∧ (d.2 = d.2 ∧ ∀ (i : Nat), i < d.2 → d.3 i = d.3 i ∧ True) ∧ ((1 : Nat) = (1 : Nat) ∧ ∀ (i : Nat), i < (1 : Nat) → (d.5 (IntKind.i64.wrap (Int.ofNat d.4 - (1 : Int))).toNat).1 = (d.5 (IntKind.i64.wrap (Int.ofNat d.4 - (1 : Int))).toNat).1 ∧ (d.5 (IntKind.i64.wrap (Int.ofNat d.4 - (1 : Int))).toNat).2 = (d.5 (IntKind.i64.wrap (Int.ofNat d.4 - (1 : Int))).toNat).2 ∧ (d.5 (IntKind.i64.wrap (Int.ofNat d.4 - (1 : Int))).toNat).3 = (d.5 (IntKind.i64.wrap (Int.ofNat d.4 - (1 : Int))).toNat).3 ∧ True) ∧ (d.4 = d.4 ∧ ∀ (i : Nat), i < d.4 → (d.5 i).1 = (d.5 i).1 ∧ (d.5 i).2 = (d.5 i).2 ∧ (d.5 i).3 = (d.5 i).3 ∧ True) ∧ True
theorem mainR_t0_t (p : OP) (d : RD) : mainR_t0 p d :=
  ⟨rfl, ⟨trivial, ⟨⟨⟨rfl, rfl⟩, ⟨rfl, ⟨⟨rfl, rfl⟩, ⟨⟨rfl, rfl⟩, ⟨rfl, ⟨rfl, ⟨rfl, ⟨rfl, ⟨⟨rfl, rfl⟩, trivial⟩⟩⟩⟩⟩⟩⟩⟩⟩, ⟨⟨rfl, (fun _ => (fun _ => ⟨rfl, ⟨rfl, ⟨rfl, trivial⟩⟩⟩))⟩, ⟨⟨rfl, (fun _ => (fun _ => ⟨rfl, ⟨rfl, ⟨rfl, ⟨rfl, trivial⟩⟩⟩⟩))⟩, ⟨⟨rfl, (fun _ => (fun _ => ⟨rfl, ⟨rfl, ⟨rfl, ⟨rfl, ⟨rfl, ⟨rfl, trivial⟩⟩⟩⟩⟩⟩))⟩, ⟨⟨rfl, (fun _ => (fun _ => ⟨rfl, trivial⟩))⟩, ⟨⟨rfl, (fun _ => (fun _ => ⟨rfl, ⟨rfl, ⟨rfl, trivial⟩⟩⟩))⟩, ⟨⟨rfl, (fun _ => (fun _ => ⟨rfl, ⟨rfl, ⟨rfl, trivial⟩⟩⟩))⟩, trivial⟩⟩⟩⟩⟩⟩⟩⟩⟩
def mainR_t1 (d : RD) (q : TD) : Prop :=
  (q.2 = q.2 ∧ d.2 = d.2 ∧ True) ∧ (q.2 = q.2 ∧ ∀ (i : Nat), i < q.2 → (q.3 i).1 = (q.3 i).1 ∧ (q.3 i).2 = (q.3 i).2 ∧ (q.3 i).3 = (q.3 i).3 ∧ True) ∧ (d.2 = d.2 ∧ ∀ (i : Nat), i < d.2 → d.3 i = d.3 i ∧ True) ∧ True
theorem mainR_t1_t (d : RD) (q : TD) : mainR_t1 d q :=
  ⟨⟨rfl, ⟨rfl, trivial⟩⟩, ⟨⟨rfl, (fun _ => (fun _ => ⟨rfl, ⟨rfl, ⟨rfl, trivial⟩⟩⟩))⟩, ⟨⟨rfl, (fun _ => (fun _ => ⟨rfl, trivial⟩))⟩, trivial⟩⟩⟩
def mainR_t2 (p : OP) (d : RD) (q : TD) : Prop :=
  (0 : Nat) = (0 : Nat) ∧ ((p.2.1 = p.2.1 ∧ p.2.2 = p.2.2 ∧ p.2.3 = p.2.3 ∧ p.2.4 = p.2.4 ∧ p.2.5 = p.2.5 ∧ p.2.6 = p.2.6 ∧ True) ∧ q.1.1 = q.1.1 ∧ ((p.3 ((0 : Nat) + d.1)).1 = (p.3 ((0 : Nat) + d.1)).1 ∧ (p.3 ((0 : Nat) + d.1)).2 = (p.3 ((0 : Nat) + d.1)).2 ∧ (p.3 ((0 : Nat) + d.1)).3 = (p.3 ((0 : Nat) + d.1)).3 ∧ True) ∧ True) ∧ True
theorem mainR_t2_t (p : OP) (d : RD) (q : TD) : mainR_t2 p d q :=
  ⟨rfl, ⟨⟨⟨rfl, ⟨rfl, ⟨rfl, ⟨rfl, ⟨rfl, ⟨rfl, trivial⟩⟩⟩⟩⟩⟩, ⟨rfl, ⟨⟨rfl, ⟨rfl, ⟨rfl, trivial⟩⟩⟩, trivial⟩⟩⟩, trivial⟩⟩
def mainR_t3 (p : OP) : Prop :=
  (0 : Nat) = (0 : Nat) ∧ p.4 = p.4
theorem mainR_t3_t (p : OP) : mainR_t3 p :=
  ⟨rfl, rfl⟩
def mainR_t4 : Prop :=
  (0 : Nat) = (0 : Nat) ∧ (0 : Nat) = (0 : Nat)
theorem mainR_t4_t : mainR_t4 :=
  ⟨rfl, rfl⟩
def mainR_t5 (p : OP) (d : RD) (q : TD) : Prop :=
  (p.4 = p.4 ∧ ∀ (i : Nat), i < p.n → (p.3 i).1 = (p.3 i).1 ∧ (p.3 i).2 = (p.3 i).2 ∧ (p.3 i).3 = (p.3 i).3 ∧ True) ∧ ((1 : Nat) = (1 : Nat) ∧ ∀ (i : Nat), i < (1 : Nat) → p.1.1 = p.1.1 ∧ p.1.2 = p.1.2 ∧ p.1.3 = p.1.3 ∧ p.1.4 = p.1.4 ∧ True) ∧ ((1 : Nat) = (1 : Nat) ∧ ∀ (i : Nat), i < (1 : Nat) → p.2.1 = p.2.1 ∧ p.2.2 = p.2.2 ∧ p.2.3 = p.2.3 ∧ p.2.4 = p.2.4 ∧ p.2.5 = p.2.5 ∧ p.2.6 = p.2.6 ∧ True) ∧ (q.2 = q.2 ∧ ∀ (i : Nat), i < q.2 → (q.3 i).1 = (q.3 i).1 ∧ (q.3 i).2 = (q.3 i).2 ∧ (q.3 i).3 = (q.3 i).3 ∧ True) ∧ (d.2 + (1 : Nat) = d.2 + (1 : Nat) ∧ ∀ (i : Nat), i < d.2 + (1 : Nat) → ((bif decide (i < d.2) then d.3 i else Int.ofNat d.1) = bif decide (i < d.2) then d.3 i else Int.ofNat d.1) ∧ True) ∧ True
theorem mainR_t5_t (p : OP) (d : RD) (q : TD) : mainR_t5 p d q :=
  ⟨⟨rfl, (fun _ => (fun _ => ⟨rfl, ⟨rfl, ⟨rfl, trivial⟩⟩⟩))⟩, ⟨⟨rfl, (fun _ => (fun _ => ⟨rfl, ⟨rfl, ⟨rfl, ⟨rfl, trivial⟩⟩⟩⟩))⟩, ⟨⟨rfl, (fun _ => (fun _ => ⟨rfl, ⟨rfl, ⟨rfl, ⟨rfl, ⟨rfl, ⟨rfl, trivial⟩⟩⟩⟩⟩⟩))⟩, ⟨⟨rfl, (fun _ => (fun _ => ⟨rfl, ⟨rfl, ⟨rfl, trivial⟩⟩⟩))⟩, ⟨⟨rfl, (fun _ => (fun _ => ⟨rfl, trivial⟩))⟩, trivial⟩⟩⟩⟩⟩
def mainR_t6 (p : OP) (d : RD) (q : TD) : Prop :=
  True ∧ (0 : Nat) = (0 : Nat) ∧ ((p.1.1 = p.1.1 ∧ p.1.2 = p.1.2 ∧ p.1.3 = p.1.3 ∧ p.1.4 = p.1.4 ∧ True) ∧ becN p.2 q.1.1 (p.3 ((0 : Nat) + d.1)) = becN p.2 q.1.1 (p.3 ((0 : Nat) + d.1)) ∧ (p.3 ((0 : Nat) + d.1)).2 = (p.3 ((0 : Nat) + d.1)).2 ∧ True) ∧ True
theorem mainR_t6_t (p : OP) (d : RD) (q : TD) : mainR_t6 p d q :=
  ⟨trivial, ⟨rfl, ⟨⟨⟨rfl, ⟨rfl, ⟨rfl, ⟨rfl, trivial⟩⟩⟩⟩, ⟨rfl, ⟨rfl, trivial⟩⟩⟩, trivial⟩⟩⟩
def mainR_t7 (p : OP) (d : RD) (q : TD) : Prop :=
  (p.4 = p.4 ∧ ∀ (i : Nat), i < p.n → (p.3 i).1 = (p.3 i).1 ∧ (p.3 i).2 = (p.3 i).2 ∧ (p.3 i).3 = (p.3 i).3 ∧ True) ∧ ((1 : Nat) = (1 : Nat) ∧ ∀ (i : Nat), i < (1 : Nat) → p.1.1 = p.1.1 ∧ p.1.2 = p.1.2 ∧ p.1.3 = p.1.3 ∧ p.1.4 = p.1.4 ∧ True) ∧ ((1 : Nat) = (1 : Nat) ∧ ∀ (i : Nat), i < (1 : Nat) → p.2.1 = p.2.1 ∧ p.2.2 = p.2.2 ∧ p.2.3 = p.2.3 ∧ p.2.4 = p.2.4 ∧ p.2.5 = p.2.5 ∧ p.2.6 = p.2.6 ∧ True) ∧ (q.2 + (1 : Nat) = q.2 + (1 : Nat) ∧ ∀ (i : Nat), i < q.2 + (1 : Nat) → ((bif decide (i < q.2) then (q.3 i).1 else becN p.2 q.1.1 (p.3 ((0 : Nat) + d.1))) = bif decide (i < q.2) then (q.3 i).1 else becN p.2 q.1.1 (p.3 ((0 : Nat) + d.1))) ∧ ((bif decide (i < q.2) then (q.3 i).2 else (p.3 ((0 : Nat) + d.1)).2) = bif decide (i < q.2) then (q.3 i).2 else (p.3 ((0 : Nat) + d.1)).2) ∧ ((bif decide (i < q.2) then (q.3 i).3 else nextOf p.1 (becN p.2 q.1.1 (p.3 ((0 : Nat) + d.1))) (p.3 ((0 : Nat) + d.1)).2) = bif decide (i < q.2) then (q.3 i).3 else nextOf p.1 (becN p.2 q.1.1 (p.3 ((0 : Nat) + d.1))) (p.3 ((0 : Nat) + d.1)).2) ∧ True) ∧ (d.2 = d.2 ∧ ∀ (i : Nat), i < d.2 → d.3 i = d.3 i ∧ True) ∧ True
theorem mainR_t7_t (p : OP) (d : RD) (q : TD) : mainR_t7 p d q :=
  ⟨⟨rfl, (fun _ => (fun _ => ⟨rfl, ⟨rfl, ⟨rfl, trivial⟩⟩⟩))⟩, ⟨⟨rfl, (fun _ => (fun _ => ⟨rfl, ⟨rfl, ⟨rfl, ⟨rfl, trivial⟩⟩⟩⟩))⟩, ⟨⟨rfl, (fun _ => (fun _ => ⟨rfl, ⟨rfl, ⟨rfl, ⟨rfl, ⟨rfl, ⟨rfl, trivial⟩⟩⟩⟩⟩⟩))⟩, ⟨⟨rfl, (fun _ => (fun _ => ⟨rfl, ⟨rfl, ⟨rfl, trivial⟩⟩⟩))⟩, ⟨⟨rfl, (fun _ => (fun _ => ⟨rfl, trivial⟩))⟩, trivial⟩⟩⟩⟩⟩
def mainR_t8 (p : OP) (d : RD) : Prop :=
  (7 : Nat) = (7 : Nat) ∧ True ∧ (((0 : Nat) = (0 : Nat) ∧ p.4 = p.4) ∧ p.5 = p.5 ∧ ((0 : Nat) = (0 : Nat) ∧ (0 : Nat) = (0 : Nat)) ∧ ((0 : Nat) = (0 : Nat) ∧ (0 : Nat) = (0 : Nat)) ∧ d.4 = d.4 ∧ d.2 = d.2 ∧ Int.ofNat d.1 = Int.ofNat d.1 ∧ p.5 = p.5 ∧ ((0 : Nat) = (0 : Nat) ∧ (0 : Nat) = (0 : Nat)) ∧ True) ∧ (p.4 = p.4 ∧ ∀ (i : Nat), i < p.n → (p.3 i).1 = (p.3 i).1 ∧ (p.3 i).2 = (p.3 i).2 ∧ (p.3 i).3 = (p.3 i).3 ∧ True) ∧ ((1 : Nat) = (1 : Nat) ∧ ∀ (i : Nat), i < (1 : Nat) → p.1.1 = p.1.1 ∧ p.1.2 = p.1.2 ∧ p.1.3 = p.1.3 ∧ p.1.4 = p.1.4 ∧ True) ∧ ((1 : Nat) = (1 : Nat) ∧ ∀ (i : Nat), i < (1 : Nat) → p.2.1 = p.2.1 ∧ p.2.2 = p.2.2 ∧ p.2.3 = p.2.3 ∧ p.2.4 = p.2.4 ∧ p.2.5 = p.2.5 ∧ p.2.6 = p.2.6 ∧ True) ∧ (d.2 = d.2 ∧ ∀ (i : Nat), i < d.2 → d.3 i = d.3 i ∧ True) ∧ ((1 : Nat) = (1 : Nat) ∧ ∀ (i : Nat), i < (1 : Nat) → (d.5 (IntKind.i64.wrap (Int.ofNat d.4 - (1 : Int))).toNat).1 = (d.5 (IntKind.i64.wrap (Int.ofNat d.4 - (1 : Int))).toNat).1 ∧ (d.5 (IntKind.i64.wrap (Int.ofNat d.4 - (1 : Int))).toNat).2 = (d.5 (IntKind.i64.wrap (Int.ofNat d.4 - (1 : Int))).toNat).2 ∧ (d.5 (IntKind.i64.wrap (Int.ofNat d.4 - (1 : Int))).toNat).3 = (d.5 (IntKind.i64.wrap (Int.ofNat d.4 - (1 : Int))).toNat).3 ∧ True) ∧ (d.4 = d.4 ∧ ∀ (i : Nat), i < d.4 → (d.5 i).1 = (d.5 i).1 ∧ (d.5 i).2 = (d.5 i).2 ∧ (d.5 i).3 = (d.5 i).3 ∧ True) ∧ True
theorem mainR_t8_t (p : OP) (d : RD) : mainR_t8 p d :=
  ⟨rfl, ⟨trivial, ⟨⟨⟨rfl, rfl⟩, ⟨rfl, ⟨⟨rfl, rfl⟩, ⟨⟨rfl, rfl⟩, ⟨rfl, ⟨rfl, ⟨rfl, ⟨rfl, ⟨⟨rfl, rfl⟩, trivial⟩⟩⟩⟩⟩⟩⟩⟩⟩, ⟨⟨rfl, (fun _ => (fun _ => ⟨rfl, ⟨rfl, ⟨rfl, trivial⟩⟩⟩))⟩, ⟨⟨rfl, (fun _ => (fun _ => ⟨rfl, ⟨rfl, ⟨rfl, ⟨rfl, trivial⟩⟩⟩⟩))⟩, ⟨⟨rfl, (fun _ => (fun _ => ⟨rfl, ⟨rfl, ⟨rfl, ⟨rfl, ⟨rfl, ⟨rfl, trivial⟩⟩⟩⟩⟩⟩))⟩, ⟨⟨rfl, (fun _ => (fun _ => ⟨rfl, trivial⟩))⟩, ⟨⟨rfl, (fun _ => (fun _ => ⟨rfl, ⟨rfl, ⟨rfl, trivial⟩⟩⟩))⟩, ⟨⟨rfl, (fun _ => (fun _ => ⟨rfl, ⟨rfl, ⟨rfl, trivial⟩⟩⟩))⟩, trivial⟩⟩⟩⟩⟩⟩⟩⟩⟩
def mainR_T (p : OP) (d : RD) : Prop :=
  ifB (decide (Int.ofNat d.1 ≤ Int.ofNat p.4)) (ifB (decide (Int.ofNat d.1 < Int.ofNat p.4)) (ifB (decide (Int.ofNat d.1 < (↑p.4 : Int))) (ifB (decide ((0 : Nat) + d.1 < p.4)) (ifB (decide ((0 : Int) ≤ IntKind.i64.wrap (Int.ofNat d.4 - (1 : Int))) && decide (IntKind.i64.wrap (Int.ofNat d.4 - (1 : Int)) < (↑d.4 : Int))) (ifB (decide ((IntKind.i64.wrap (Int.ofNat d.4 - (1 : Int))).toNat < d.4) && true) (lIR.code = lIR.code ∧ (lIR_J { p := p, i := d.1, k := d.2, V := d.3, u := if p.5 < (p.3 ((0 : Nat) + d.1)).2 then p.5 else (p.3 ((0 : Nat) + d.1)).2, a := d.5 (IntKind.i64.wrap (Int.ofNat d.4 - (1 : Int))).toNat, k0 := d.4, W0 := d.5 : RP } { now := d.5 (IntKind.i64.wrap (Int.ofNat d.4 - (1 : Int))).toNat, k2 := d.4, W := d.5 : TD } ∧ mainR_t0 p d) ∧ True ∧ ∀ (q : TD), Leaf (goN p.r (if p.5 < (p.3 ((0 : Nat) + d.1)).2 then p.5 else (p.3 ((0 : Nat) + d.1)).2) (4 : Nat) (d.5 (IntKind.i64.wrap (Int.ofNat d.4 - (1 : Int))).toNat) = q.now ∧ Sta.ok p.r q.now ∧ Lst q.k2 q.W = Lst d.4 d.5 ++ aloneL p.r (if p.5 < (p.3 ((0 : Nat) + d.1)).2 then p.5 else (p.3 ((0 : Nat) + d.1)).2) (4 : Nat) (d.5 (IntKind.i64.wrap (Int.ofNat d.4 - (1 : Int))).toNat) ∧ q.k2 ≤ d.4 + (4 : Nat)) → ifB ((Int.ofNat d.1 == Int.ofNat p.4) == false) (ifB (decide (Int.ofNat d.1 < (↑p.4 : Int))) (ifB (decide ((0 : Nat) + d.1 < p.4)) (ifB (decide ((p.3 ((0 : Nat) + d.1)).2 > p.5)) (Leaf (d.i = p.n ∨ p.t < (p.E d.i).at') ∧ Leaf (Lst q.2 q.3 = Lst d.k2 d.W ++ aloneL p.r p.t (4 : Nat) (runR p d.i)) ∧ Leaf (d.2 = d.k ∧ d.3 = d.V) ∧ mainR_t1 d q) (ifB (decide (Int.ofNat d.1 < (↑p.4 : Int))) (ifB (decide ((0 : Nat) + d.1 < p.4) && true) (((((p.3 ((0 : Nat) + d.1)).kind = (1 : Int) ∨ (p.3 ((0 : Nat) + d.1)).kind = (2 : Int) ∨ (p.3 ((0 : Nat) + d.1)).kind = (3 : Int) ∨ (p.3 ((0 : Nat) + d.1)).kind = (4 : Int) ∨ (p.3 ((0 : Nat) + d.1)).kind = (5 : Int) ∨ (p.3 ((0 : Nat) + d.1)).kind = (6 : Int)) ∧ ((p.3 ((0 : Nat) + d.1)).kind = (1 : Int) ∨ (p.3 ((0 : Nat) + d.1)).kind = (3 : Int) ∨ (p.3 ((0 : Nat) + d.1)).kind = (4 : Int) ∨ (p.3 ((0 : Nat) + d.1)).kind = (5 : Int) → (p.3 ((0 : Nat) + d.1)).3 = (0 : Int))) ∧ mainR_t2 p d q) ∧ ifB (decide (becN p.2 q.1.1 (p.3 ((0 : Nat) + d.1)) < (0 : Int))) (ifB (decide (d.2 ≤ d.2) && decide ((d.2 + (1 : Nat)) * (8 : Nat) ≤ (140737488355328 : Nat))) (Leaf (d.i < p.n ∧ (p.E d.i).at' ≤ p.t) ∧ Leaf (vNext { r := p.r, c := p.c, E := p.E, n := p.n, t := (0 : Int), a := a0 p : MP } { i := d.i, now := runR p d.i, k := d.k, V := d.V : MD } (d.2 + (1 : Nat)) fun (i : Nat) => bif decide (i < d.2) then d.3 i else Int.ofNat d.1) ∧ Leaf (Lst q.2 q.3 = Lst d.k2 d.W ++ evL p.r p.c (runR p d.i) (p.E d.i) ∧ q.2 ≤ d.k2 + (5 : Nat)) ∧ (mainR_t3 p ∧ p.5 = p.5 ∧ mainR_t4 ∧ mainR_t4 ∧ q.2 = q.2 ∧ d.2 + (1 : Nat) = d.2 + (1 : Nat) ∧ Int.ofNat (d.1 + (1 : Nat)) = IntKind.i64.wrap (Int.ofNat (d.1 + (1 : Nat))) ∧ True) ∧ mainR_t5 p d q) False) (ifB (decide (Int.ofNat d.1 < (↑p.4 : Int))) (ifB (decide ((0 : Nat) + d.1 < p.4)) (mainR_t6 p d q ∧ ifB (decide (q.2 ≤ q.2) && decide ((q.2 + (1 : Nat)) * (24 : Nat) ≤ (140737488355328 : Nat))) (Leaf (d.i < p.n ∧ (p.E d.i).at' ≤ p.t) ∧ Leaf (vNext { r := p.r, c := p.c, E := p.E, n := p.n, t := (0 : Int), a := a0 p : MP } { i := d.i, now := runR p d.i, k := d.k, V := d.V : MD } d.2 d.3) ∧ Leaf ((Lst (q.2 + (1 : Nat)) fun (i : Nat) => { state := bif decide (i < q.2) then (q.3 i).1 else becN p.2 q.1.1 (p.3 ((0 : Nat) + d.1)), since := bif decide (i < q.2) then (q.3 i).2 else (p.3 ((0 : Nat) + d.1)).2, next := bif decide (i < q.2) then (q.3 i).3 else nextOf p.1 (becN p.2 q.1.1 (p.3 ((0 : Nat) + d.1))) (p.3 ((0 : Nat) + d.1)).2 : Sta }) = Lst d.k2 d.W ++ evL p.r p.c (runR p d.i) (p.E d.i) ∧ q.2 + (1 : Nat) ≤ d.k2 + (5 : Nat)) ∧ (mainR_t3 p ∧ p.5 = p.5 ∧ mainR_t4 ∧ mainR_t4 ∧ q.2 + (1 : Nat) = q.2 + (1 : Nat) ∧ d.2 = d.2 ∧ Int.ofNat (d.1 + (1 : Nat)) = IntKind.i64.wrap (Int.ofNat (d.1 + (1 : Nat))) ∧ True) ∧ mainR_t7 p d q) False) False) False)) False) False)) False) False) (Leaf (d.i = p.n ∨ p.t < (p.E d.i).at') ∧ Leaf (Lst q.2 q.3 = Lst d.k2 d.W ++ aloneL p.r p.t (4 : Nat) (runR p d.i)) ∧ Leaf (d.2 = d.k ∧ d.3 = d.V) ∧ mainR_t1 d q)) False) False) False) False) (ifB (decide ((0 : Int) ≤ IntKind.i64.wrap (Int.ofNat d.4 - (1 : Int))) && decide (IntKind.i64.wrap (Int.ofNat d.4 - (1 : Int)) < (↑d.4 : Int))) (ifB (decide ((IntKind.i64.wrap (Int.ofNat d.4 - (1 : Int))).toNat < d.4) && true) (lIR.code = lIR.code ∧ (lIR_J { p := p, i := d.1, k := d.2, V := d.3, u := p.5, a := d.5 (IntKind.i64.wrap (Int.ofNat d.4 - (1 : Int))).toNat, k0 := d.4, W0 := d.5 : RP } { now := d.5 (IntKind.i64.wrap (Int.ofNat d.4 - (1 : Int))).toNat, k2 := d.4, W := d.5 : TD } ∧ mainR_t8 p d) ∧ True ∧ ∀ (q : TD), Leaf (goN p.r p.5 (4 : Nat) (d.5 (IntKind.i64.wrap (Int.ofNat d.4 - (1 : Int))).toNat) = q.now ∧ Sta.ok p.r q.now ∧ Lst q.k2 q.W = Lst d.4 d.5 ++ aloneL p.r p.5 (4 : Nat) (d.5 (IntKind.i64.wrap (Int.ofNat d.4 - (1 : Int))).toNat) ∧ q.k2 ≤ d.4 + (4 : Nat)) → ifB ((Int.ofNat d.1 == Int.ofNat p.4) == false) (ifB (decide (Int.ofNat d.1 < (↑p.4 : Int))) (ifB (decide ((0 : Nat) + d.1 < p.4)) (ifB (decide ((p.3 ((0 : Nat) + d.1)).2 > p.5)) (Leaf (d.i = p.n ∨ p.t < (p.E d.i).at') ∧ Leaf (Lst q.2 q.3 = Lst d.k2 d.W ++ aloneL p.r p.t (4 : Nat) (runR p d.i)) ∧ Leaf (d.2 = d.k ∧ d.3 = d.V) ∧ mainR_t1 d q) (ifB (decide (Int.ofNat d.1 < (↑p.4 : Int))) (ifB (decide ((0 : Nat) + d.1 < p.4) && true) (((((p.3 ((0 : Nat) + d.1)).kind = (1 : Int) ∨ (p.3 ((0 : Nat) + d.1)).kind = (2 : Int) ∨ (p.3 ((0 : Nat) + d.1)).kind = (3 : Int) ∨ (p.3 ((0 : Nat) + d.1)).kind = (4 : Int) ∨ (p.3 ((0 : Nat) + d.1)).kind = (5 : Int) ∨ (p.3 ((0 : Nat) + d.1)).kind = (6 : Int)) ∧ ((p.3 ((0 : Nat) + d.1)).kind = (1 : Int) ∨ (p.3 ((0 : Nat) + d.1)).kind = (3 : Int) ∨ (p.3 ((0 : Nat) + d.1)).kind = (4 : Int) ∨ (p.3 ((0 : Nat) + d.1)).kind = (5 : Int) → (p.3 ((0 : Nat) + d.1)).3 = (0 : Int))) ∧ mainR_t2 p d q) ∧ ifB (decide (becN p.2 q.1.1 (p.3 ((0 : Nat) + d.1)) < (0 : Int))) (ifB (decide (d.2 ≤ d.2) && decide ((d.2 + (1 : Nat)) * (8 : Nat) ≤ (140737488355328 : Nat))) (Leaf (d.i < p.n ∧ (p.E d.i).at' ≤ p.t) ∧ Leaf (vNext { r := p.r, c := p.c, E := p.E, n := p.n, t := (0 : Int), a := a0 p : MP } { i := d.i, now := runR p d.i, k := d.k, V := d.V : MD } (d.2 + (1 : Nat)) fun (i : Nat) => bif decide (i < d.2) then d.3 i else Int.ofNat d.1) ∧ Leaf (Lst q.2 q.3 = Lst d.k2 d.W ++ evL p.r p.c (runR p d.i) (p.E d.i) ∧ q.2 ≤ d.k2 + (5 : Nat)) ∧ (mainR_t3 p ∧ p.5 = p.5 ∧ mainR_t4 ∧ mainR_t4 ∧ q.2 = q.2 ∧ d.2 + (1 : Nat) = d.2 + (1 : Nat) ∧ Int.ofNat (d.1 + (1 : Nat)) = IntKind.i64.wrap (Int.ofNat (d.1 + (1 : Nat))) ∧ True) ∧ mainR_t5 p d q) False) (ifB (decide (Int.ofNat d.1 < (↑p.4 : Int))) (ifB (decide ((0 : Nat) + d.1 < p.4)) (mainR_t6 p d q ∧ ifB (decide (q.2 ≤ q.2) && decide ((q.2 + (1 : Nat)) * (24 : Nat) ≤ (140737488355328 : Nat))) (Leaf (d.i < p.n ∧ (p.E d.i).at' ≤ p.t) ∧ Leaf (vNext { r := p.r, c := p.c, E := p.E, n := p.n, t := (0 : Int), a := a0 p : MP } { i := d.i, now := runR p d.i, k := d.k, V := d.V : MD } d.2 d.3) ∧ Leaf ((Lst (q.2 + (1 : Nat)) fun (i : Nat) => { state := bif decide (i < q.2) then (q.3 i).1 else becN p.2 q.1.1 (p.3 ((0 : Nat) + d.1)), since := bif decide (i < q.2) then (q.3 i).2 else (p.3 ((0 : Nat) + d.1)).2, next := bif decide (i < q.2) then (q.3 i).3 else nextOf p.1 (becN p.2 q.1.1 (p.3 ((0 : Nat) + d.1))) (p.3 ((0 : Nat) + d.1)).2 : Sta }) = Lst d.k2 d.W ++ evL p.r p.c (runR p d.i) (p.E d.i) ∧ q.2 + (1 : Nat) ≤ d.k2 + (5 : Nat)) ∧ (mainR_t3 p ∧ p.5 = p.5 ∧ mainR_t4 ∧ mainR_t4 ∧ q.2 + (1 : Nat) = q.2 + (1 : Nat) ∧ d.2 = d.2 ∧ Int.ofNat (d.1 + (1 : Nat)) = IntKind.i64.wrap (Int.ofNat (d.1 + (1 : Nat))) ∧ True) ∧ mainR_t7 p d q) False) False) False)) False) False)) False) False) (Leaf (d.i = p.n ∨ p.t < (p.E d.i).at') ∧ Leaf (Lst q.2 q.3 = Lst d.k2 d.W ++ aloneL p.r p.t (4 : Nat) (runR p d.i)) ∧ Leaf (d.2 = d.k ∧ d.3 = d.V) ∧ mainR_t1 d q)) False) False)) (Leaf False)
theorem mainR_eq (p : OP) (d : RD) : exec XR2 60 57 lMR.code (lMR.I p d) (zMR p d) = mainR_T p d := by kernel_rfl

theorem effN_nn (k s : Int) : 0 ≤ effN k s := by
  unfold effN
  repeat' split
  all_goals omega
theorem becN_neg {c : Clm} {s : Int} {e : Evt} (h : becN c s e < 0) : afterB c s e = false := by
  unfold becN at h
  cases hb : afterB c s e with
  | false => rfl
  | true =>
    rw [hb] at h
    have := effN_nn e.kind s
    simp only [afterN] at h
    split at h <;> omega
theorem becN_pos {c : Clm} {s : Int} {e : Evt} (h : ¬ becN c s e < 0) : afterB c s e = true ∧ becN c s e = afterN c s e := by
  unfold becN at h ⊢
  cases hb : afterB c s e with
  | true => exact ⟨rfl, rfl⟩
  | false => rw [hb] at h; exact absurd (show (-1 : Int) < 0 by omega) h
theorem evOk_kind {a : Int} {e : Evt} (h : evOk a e = true) : e.kind = 1 ∨ e.kind = 2 ∨ e.kind = 3 ∨ e.kind = 4 ∨ e.kind = 5 ∨ e.kind = 6 := by
  simp only [evOk, inB, Bool.and_eq_true, decide_eq_true_eq] at h
  omega
theorem evOk_reason {a : Int} {e : Evt} (h : evOk a e = true) (hk : e.kind = 1 ∨ e.kind = 3 ∨ e.kind = 4 ∨ e.kind = 5) : e.reason = 0 := by
  simp only [evOk, inB, Bool.and_eq_true, decide_eq_true_eq] at h
  have h2 := h.2
  rw [if_neg (by omega)] at h2
  exact of_decide_eq_true h2
theorem aloneL_last {r : Rul} {u : Int} : ∀ (m : Nat) (s : Sta), (s :: aloneL r u m s).getLast? = some (goN r u m s)
  | 0, s => rfl
  | m + 1, s => by
    unfold aloneL goN
    cases goesOn u s with
    | false => rfl
    | true => simpa using aloneL_last m (step1 r s)
theorem snoc_alone {r : Rul} {u : Int} {L : List Sta} {m : Nat} {s : Sta} (h : L.getLast? = some s) : (L ++ aloneL r u m s).getLast? = some (goN r u m s) := by
  have := aloneL_last (r := r) (u := u) m s
  cases ha : aloneL r u m s with
  | nil => rw [ha] at this; simp only [List.getLast?_singleton, Option.some.injEq] at this; rw [List.append_nil, h]; exact congrArg some this
  | cons a b => rw [ha, List.getLast?_cons_cons] at this; rw [List.getLast?_append, this]; rfl
theorem line_last (r : Rul) (c : Clm) (E : Nat → Evt) (a : Sta) : ∀ i, (line r c E a i).getLast? = some (runN r c E a i)
  | 0 => rfl
  | i + 1 => by
    have h := snoc_alone (r := r) (u := (E i).at') (m := 4) (line_last r c E a i)
    simp only [line, evL, runN, evN]
    cases afterB c (goN r (E i).at' 4 (runN r c E a i)).state (E i) with
    | false => simp only [List.append_nil]; exact h
    | true => rw [← List.append_assoc]; simp
theorem last_line {r : Rul} {c : Clm} {E : Nat → Evt} {a : Sta} {i k : Nat} {W : Nat → Sta} (h : Lst k W = line r c E a i) : W (k - 1) = runN r c E a i ∧ 1 ≤ k := by
  have := line_last r c E a i
  rw [← h] at this
  cases k with
  | zero => simp [Lst] at this
  | succ k =>
    rw [Lst_snoc (V := W) fun _ _ => rfl] at this
    simp at this
    exact ⟨this, by omega⟩
theorem goN_ok {r : Rul} {u : Int} : ∀ (m : Nat) {s : Sta}, s.ok r → (goN r u m s).ok r
  | 0, s, h => h
  | m + 1, s, h => by
    unfold goN
    cases goesOn u s with
    | false => exact h
    | true => exact goN_ok m rfl
theorem evN_ok {r : Rul} {c : Clm} {s : Sta} (h : s.ok r) (e : Evt) : (evN r c s e).ok r := by
  unfold evN
  split
  · rfl
  · exact goN_ok 4 h
set_option maxHeartbeats 2000000 in
theorem mainR_step (p : OP) (d : RD) (hJ : lMR_J p d) : mainR_T p d := by
  obtain ⟨h1, h2, h3, h4, h5, h6, h7, h8, h9, h10⟩ := hJ
  have hn := CP.ok_n h2
  have hn : p.n ≤ 20 := hn
  have hw1 : IntKind.i64.wrap (Int.ofNat d.k2 - 1) = (d.k2 : Int) - 1 := wrapSmall (by simp only [Int.ofNat_eq_natCast]; omega) (by simp only [Int.ofNat_eq_natCast]; omega)
  have hw2 : ((d.k2 : Int) - 1).toNat = d.k2 - 1 := by omega
  have hev : d.i < p.n → evOk (lastOf p.c.asked p.E d.i) (p.E d.i) = true := fun h => ((CP.ok_iff _).1 h2).2.2.2 _ h
  have hwi : d.i < p.n → IntKind.i64.wrap (Int.ofNat (d.i + 1)) = Int.ofNat (d.i + 1) := fun h => wrapSmall (by simp only [Int.ofNat_eq_natCast]; omega) (by simp only [Int.ofNat_eq_natCast]; omega)
  unfold mainR_T
  simp only [hw1, hw2, h8, Nat.zero_add]
  repeat' (first | with_reducible refine ifB_split (fun _ => ?_) (fun _ => ?_) | with_reducible refine And.intro ?_ ?_ | with_reducible refine fun (q : TD) hq => ?_)
  all_goals try first | with_reducible exact mainR_t0_t _ _ | with_reducible exact mainR_t1_t _ _ | with_reducible exact mainR_t2_t _ _ _ | with_reducible exact mainR_t3_t _ | with_reducible exact mainR_t4_t | with_reducible exact mainR_t5_t _ _ _ | with_reducible exact mainR_t6_t _ _ _ | with_reducible exact mainR_t7_t _ _ _ | with_reducible exact mainR_t8_t _ _ | with_reducible rfl | with_reducible exact trivial | with_reducible exact List.Perm.refl _
  all_goals simp only [Leaf, Int.ofNat_eq_natCast, decide_eq_true_eq, decide_eq_false_iff_not, Bool.and_eq_true, Bool.not_eq_true', Bool.not_eq_true, Bool.not_eq_false', beq_iff_eq, beq_eq_false_iff_ne, ne_eq, Bool.and_true, Int.natCast_inj, gt_iff_lt, Bool.and_eq_false_iff, Int.ofNat_lt, Int.ofNat_le] at *
  all_goals first
    | omega
    | exact ⟨trivial, trivial⟩
    | exact evOk_kind (hev (by assumption))
    | exact evOk_reason (hev (by assumption))
    | exact (hwi (by omega)).symm
    | exact ⟨⟨4, rank_le _, rfl, rfl⟩, h9, by have := rank_le (runR p d.i).state; show d.k2 + rank (runR p d.i).state ≤ d.k2 + 4; omega, by show d.k2 ≤ 200; omega⟩
    | (obtain ⟨q1, q2, q3, q4⟩ := hq
       first
       | exact q3
       | (rw [if_pos (by assumption)] at q3; exact q3)
       | (rw [if_neg (by assumption)] at q1 q3
          first
          | (have hb := becN_neg (by assumption)
             first
             | (unfold vNext; dsimp only; rw [q1, hb]; exact ⟨rfl, fun j hj => by simp [hj], by simp⟩)
             | (refine ⟨?_, by omega⟩; simp only [evL, q1, q3, hb, List.append_nil]; done))
          | (have hb := becN_pos (by assumption)
             first
             | (unfold vNext; dsimp only; rw [q1, hb.1]; exact ⟨rfl, fun _ _ => rfl⟩)
             | (refine ⟨?_, by omega⟩
                rw [hb.2]
                exact (snocSta q.k2 q.W (begins p.r (afterN p.c q.now.state (p.E d.i)) (p.E d.i).at')).trans (by simp only [evL, q1, q3, hb.1, List.append_assoc])))))
    | trace_state

set_option maxRecDepth 100000 in
theorem mainR_ok : LoopOK XR2.P lMR.code lMR.L := by
  refine lMR.ok XR2_ok 60 57 (fun p d => p.n - d.i) zMR (fun _ _ _ => trivial) (fun p d w q hw => ?_) (fun p d S' hJ h => ?_) (fun p d x S' hx hJ h => ?_) fun p d hJ => ?_
  · match w, hw with
    | 0, _ => exact trivial
  · unfold zMR endR at h; dsimp only at h
    split at h <;> try exact h.elim
    rename_i lo k2 W lv k V _ _
    obtain ⟨h1, h2, h3, h4⟩ := h
    simp only [Leaf] at h1 h2 h3
    obtain ⟨j1, j2, j3, j4, j5, j6, j7, j8, j9, j10⟩ := hJ
    have hev : evOk (lastOf p.c.asked p.E d.i) (p.E d.i) = true := ((CP.ok_iff _).1 j2).2.2.2 _ h1.1
    have hl : Lst k2 W = line p.r p.c p.E (a0 p) (d.i + 1) := by rw [h3.1, j5]; rfl
    have hlast : W (k2 - 1) = runR p (d.i + 1) ∧ 1 ≤ k2 := last_line hl
    refine ⟨_, ⟨d.i + 1, k, V, k2, W⟩, ?_, ⟨h1.1, j2, ?_, ?_, hl, ?_, hlast.2, hlast.1, ?_, ?_⟩, h4⟩
    · show p.n - (d.i + 1) < p.n - d.i
      omega
    · show k ≤ d.i + 1
      unfold vNext at h2
      dsimp only at h2
      split at h2 <;> omega
    · show Lst k V = voids _ _ _ _ (d.i + 1)
      rw [voids, ← j4]
      unfold vNext at h2
      dsimp only [runR] at h2
      rcases Bool.eq_false_or_eq_true (afterB p.c (goN p.r (p.E d.i).at' 4 (runN p.r p.c p.E (a0 p) d.i)).state (p.E d.i)) with hb | hb <;> rw [hb] at h2 ⊢
      · obtain ⟨rfl, h3⟩ := h2
        simp only [Lst, List.append_nil]
        exact List.map_congr_left fun j hj => h3 j (List.mem_range.1 hj)
      · obtain ⟨rfl, h3, h4⟩ := h2
        rw [Lst_snoc h3, h4]
    · show k2 ≤ 1 + 5 * (d.i + 1)
      have := h3.2
      omega
    · exact evN_ok j9 _
    · intro j hj
      rcases Nat.lt_succ_iff_lt_or_eq.1 hj with hj | rfl
      · exact j10 j hj
      · exact h1.2
  · obtain ⟨j1, j2, j3, j4, j5, j6, j7, j8, j9, j10⟩ := hJ
    cases x with
    | normal => exact hx.elim
    | exit k => exact (show False from h).elim
    | ret =>
      unfold zMR endR at h; dsimp only at h
      split at h <;> try exact h.elim
      rename_i lo k2 W lv k V _ _
      obtain ⟨h1, h2, h3, h4⟩ := h
      simp only [Leaf] at h1 h2 h3
      refine ⟨0, ⟨d.i, k, V, k2, W⟩, _, Nat.lt_succ_self 0, ⟨j1, j10, h1, ?_, ?_⟩, rfl, h4⟩
      · rw [h3.1, h3.2]; exact j4
      · rw [h2, j5]
  · rw [mainR_eq]
    exact mainR_step p d hJ
end Go.Proofs.Ytmcidfecepknpaa

namespace Go.Proofs.Ytmcidfecepknpaa
open Go Go.Sh Go.Proofs
set_option linter.unusedVariables false

/-! ### how the three accounts agree -/
theorem aloneT_ge {r : Rul} {t u : Int} (h : t ≤ u) : ∀ (m : Nat) (s : Sta), (aloneT r t u m s).2 = goN r t m s
  | 0, s => rfl
  | m + 1, s => by
    unfold aloneT goN
    cases hu : goesOn u s with
    | false =>
      have : goesOn t s = false := by
        simp only [goesOn, Bool.and_eq_false_iff, decide_eq_false_iff_not] at hu ⊢
        omega
      rw [this]
    | true =>
      dsimp only
      cases hd : decide (t < (step1 r s).since) with
      | true =>
        have : goesOn t s = false := by
          have hd : t < s.next := of_decide_eq_true hd
          simp only [goesOn, Bool.and_eq_false_iff, decide_eq_false_iff_not]
          omega
        rw [this]
      | false =>
        have : goesOn t s = true := by
          have hd : ¬ t < s.next := of_decide_eq_false hd
          simp only [goesOn, Bool.and_eq_true, decide_eq_true_eq] at hu ⊢
          omega
        rw [this]
        exact aloneT_ge h m (step1 r s)
theorem aloneT_le {r : Rul} {t u : Int} (h : u ≤ t) : ∀ (m : Nat) (s : Sta), aloneT r t u m s = (false, goN r u m s)
  | 0, s => rfl
  | m + 1, s => by
    unfold aloneT goN
    cases hu : goesOn u s with
    | false => rfl
    | true =>
      have : decide (t < (step1 r s).since) = false := by
        refine decide_eq_false ?_
        show ¬ t < s.next
        simp only [goesOn, Bool.and_eq_true, decide_eq_true_eq] at hu
        omega
      rw [this]
      exact aloneT_le h m (step1 r s)
theorem goN_end {r : Rul} {u : Int} : ∀ (m : Nat) {s : Sta}, s.ok r → rank s.state ≤ m → goesOn u (goN r u m s) = false
  | 0, s, hok, hr => by
    cases hg : goesOn u s with
    | false => exact hg
    | true => have := rank_pos hok hg; omega
  | m + 1, s, hok, hr => by
    unfold goN
    cases hg : goesOn u s with
    | false => exact hg
    | true =>
      have := rank_pos hok hg
      exact goN_end m (s := step1 r s) rfl (by show rank (follow s.state) ≤ m; omega)
theorem goN_twice {r : Rul} {u : Int} {s : Sta} (hok : s.ok r) : goN r u 4 (goN r u 4 s) = goN r u 4 s := goN_done (goN_end 4 hok (rank_le _)) 4
theorem evT_le {r : Rul} {c : Clm} {t : Int} {s : Sta} {e : Evt} (h : e.at' ≤ t) : evT r c t s e = (false, evN r c s e) := by
  unfold evT evN
  rw [aloneT_le h]
  dsimp only
  cases afterB c (goN r e.at' 4 s).state e with
  | false => rfl
  | true =>
    dsimp only
    rw [decide_eq_false (by omega)]
theorem evT_gt {r : Rul} {c : Clm} {t : Int} {s : Sta} {e : Evt} (h : t < e.at') : (evT r c t s e).2 = goN r t 4 s := by
  have h1 := aloneT_ge (r := r) (t := t) (u := e.at') (by omega) 4 s
  unfold evT
  cases hb : aloneT r t e.at' 4 s with
  | mk b o =>
    rw [hb] at h1
    cases b with
    | true => exact h1
    | false =>
      dsimp only at h1 ⊢
      rw [decide_eq_true h]
      cases afterB c o.state e <;> exact h1
theorem runT_pre {r : Rul} {c : Clm} {t : Int} {E : Nat → Evt} {a : Sta} : ∀ i, (∀ j, j < i → (E j).at' ≤ t) → runT r c t E a i = (false, runN r c E a i)
  | 0, _ => rfl
  | i + 1, h => by
    rw [runT, runT_pre i fun j hj => h j (by omega)]
    exact evT_le (h i (by omega))
theorem runN_ok {r : Rul} {c : Clm} {E : Nat → Evt} {a : Sta} (h : a.ok r) : ∀ i, (runN r c E a i).ok r
  | 0 => h
  | i + 1 => evN_ok (runN_ok h i) _
theorem runT_post {r : Rul} {c : Clm} {t : Int} {E : Nat → Evt} {a : Sta} (ha : a.ok r) {k : Nat} (h1 : ∀ j, j < k → (E j).at' ≤ t) : ∀ m, (∀ j, k ≤ j → j < k + m → t < (E j).at') →
    runT r c t E a (k + m) = (false, runN r c E a k) ∨ (runT r c t E a (k + m)).2 = goN r t 4 (runN r c E a k)
  | 0, _ => .inl (runT_pre k h1)
  | m + 1, h2 => by
    have ih := runT_post (c := c) ha h1 m fun j hj hj' => h2 j hj (by omega)
    have he := h2 (k + m) (by omega) (by omega)
    refine .inr ?_
    rw [show k + (m + 1) = k + m + 1 by omega, runT]
    rcases ih with ih | ih
    · rw [ih]
      exact evT_gt he
    · cases hb : runT r c t E a (k + m) with
      | mk b o =>
        rw [hb] at ih
        cases b with
        | true => exact ih
        | false =>
          dsimp only at ih ⊢
          rw [evT_gt he, ih]
          exact goN_twice (runN_ok ha k)
/-- Up to which event things have come at a time. -/
def stopN (E : Nat → Evt) (t : Int) : Nat → Nat
  | 0 => 0
  | n + 1 => match decide (stopN E t n < n) with
    | true => stopN E t n
    | false => match decide (t < (E n).at') with | true => n | false => n + 1
theorem stopN_spec (E : Nat → Evt) (t : Int) : ∀ n, stopN E t n ≤ n ∧ (∀ j, j < stopN E t n → (E j).at' ≤ t) ∧ (stopN E t n < n → t < (E (stopN E t n)).at')
  | 0 => ⟨Nat.le_refl _, (fun j hj => by simp [stopN] at hj), fun h => by simp [stopN] at h⟩
  | n + 1 => by
    obtain ⟨h1, h2, h3⟩ := stopN_spec E t n
    unfold stopN
    cases hd : decide (stopN E t n < n) with
    | true =>
      have hd := of_decide_eq_true hd
      exact ⟨by dsimp only; omega, h2, fun _ => h3 hd⟩
    | false =>
      have hd := of_decide_eq_false hd
      have he : stopN E t n = n := by omega
      rw [he] at h2
      dsimp only
      cases ht : decide (t < (E n).at') with
      | true => exact ⟨by dsimp only; omega, h2, fun _ => of_decide_eq_true ht⟩
      | false =>
        have ht := of_decide_eq_false ht
        refine ⟨Nat.le_refl _, fun j hj => ?_, fun h => by dsimp only at h; omega⟩
        dsimp only at hj
        rcases Nat.lt_succ_iff_lt_or_eq.1 hj with hj | rfl
        · exact h2 j hj
        · omega
theorem stopN_eq {E : Nat → Evt} {t : Int} {n i : Nat} (h1 : i ≤ n) (h2 : ∀ j, j < i → (E j).at' ≤ t) (h3 : i = n ∨ t < (E i).at') : stopN E t n = i := by
  obtain ⟨g1, g2, g3⟩ := stopN_spec E t n
  rcases Nat.lt_trichotomy (stopN E t n) i with h | h | h
  · have := g3 (by omega)
    have := h2 _ h
    omega
  · exact h
  · have := g2 _ h
    rcases h3 with h3 | h3 <;> omega
theorem at_mono {a : Int} {E : Nat → Evt} {n : Nat} (h : ∀ j, j < n → evOk (lastOf a E j) (E j) = true) {k : Nat} : ∀ m, k + m < n → (E k).at' ≤ (E (k + m)).at'
  | 0, _ => Int.le_refl _
  | m + 1, hm => by
    have ih := at_mono h (k := k) m (by omega)
    have := h (k + m + 1) hm
    simp only [evOk, inB, Bool.and_eq_true, decide_eq_true_eq] at this
    have h2 : (E (k + m)).at' ≤ (E (k + m + 1)).at' := this.1.2.1
    rw [show k + (m + 1) = k + m + 1 by omega]
    omega
/-- The outcome is what the reference's run comes to. -/
theorem outT_eq {p : OP} (hok : p.cp.ok = true) (ht : ¬ p.t < p.c.asked) (hb : p.t ≤ 20000000) : outT p = goN p.r p.t 4 (runR p (stopN p.E p.t p.n)) := by
  obtain ⟨h1, h2, h3⟩ := stopN_spec p.E p.t p.n
  have hev := ((CP.ok_iff _).1 hok).2.2.2
  have hpost : ∀ j, stopN p.E p.t p.n ≤ j → j < stopN p.E p.t p.n + (p.n - stopN p.E p.t p.n) → p.t < (p.E j).at' := fun j hj hj' => by
    have hlt : stopN p.E p.t p.n < p.n := by omega
    have := at_mono hev (k := stopN p.E p.t p.n) (j - stopN p.E p.t p.n) (by show _ < p.n; omega)
    rw [show stopN p.E p.t p.n + (j - stopN p.E p.t p.n) = j by omega] at this
    have h4 := h3 hlt
    exact Int.lt_of_lt_of_le h4 this
  have hr := runT_post (c := p.c) (a := a0 p) (r := p.r) rfl h2 (p.n - stopN p.E p.t p.n) hpost
  rw [show stopN p.E p.t p.n + (p.n - stopN p.E p.t p.n) = p.n by omega] at hr
  unfold outT
  rw [decide_eq_false ht]
  dsimp only
  show (match runT p.r p.c p.t p.E (a0 p) p.n with | (true, o) => o | (false, s) => (aloneT p.r p.t 4611686018427387904 4 s).2) = _
  rcases hr with hr | hr
  · rw [hr]
    exact aloneT_ge (by omega) 4 _
  · cases hx : runT p.r p.c p.t p.E (a0 p) p.n with
    | mk b o =>
      rw [hx] at hr
      cases b with
      | true => exact hr
      | false =>
        dsimp only at hr ⊢
        rw [aloneT_ge (by omega), hr]
        exact goN_twice (runN_ok (a := a0 p) rfl _)
end Go.Proofs.Ytmcidfecepknpaa

namespace Go.Proofs.Ytmcidfecepknpaa
open Go Go.Sh Go.Proofs
set_option linter.unusedVariables false
def exMR (S : SS) : Option (OP × RD × Ren) := match arrOf S.heap 0, arrOf S.heap 1, arrOf S.heap 2, lineAt S.heap (S.get 10) with
  | some (n, E), some (_, rr), some (_, cc), some (lo, k2, W) => match rr 0, cc 0 with
    | [.int _ r1, .int _ r2, .int _ r3, .int _ r4], [.int _ c1, .int _ c2, .int _ c3, .int _ c4, .int _ c5, .bool c6] =>
      some (⟨⟨r1, r2, r3, r4⟩, ⟨c1, c2, c3, c4, c5, c6⟩, fun i => Evt.of (E i), n, intSV (S.get 3)⟩, ⟨0, 0, fun _ => 0, k2, W⟩, [some lo, none])
    | _, _ => none
  | _, _, _, _ => none
noncomputable def XR3 : Ctx := XR2.loop 57 4 lMR.code (lMR.by exMR)
theorem XR3_ok : XR3.OK := Ctx.loop_ok XR2_ok (mainR_ok.by exMR)
def refLine (p : OP) : List Sta := line p.r p.c p.E (a0 p) (stopN p.E p.t p.n) ++ aloneL p.r p.t 4 (runR p (stopN p.E p.t p.n))
def refVoid (p : OP) : List Int := voids p.r p.c p.E (a0 p) (stopN p.E p.t p.n)
def sRun : FSpec OP where
  J := fun p => p.cp.ok = true
  A := fun p => [p.r.sv, p.c.sv, .sl 0 0 p.n, iv p.t]
  H := fun p => [some (evO p.n p.E)]
  R := fun p => .tup [.osl 1 (refLine p).length, .osl 2 (refVoid p).length]
  O := fun p => [.arr true (refLine p).length 3 39 fun i => ((refLine p).getD i ⟨0, 0, 0⟩).cells, .arr true (refVoid p).length 1 3 fun i => [iv ((refVoid p).getD i 0)]]
end Go.Proofs.Ytmcidfecepknpaa

namespace Go.Proofs.Ytmcidfecepknpaa
open Go Go.Sh Go.Proofs
set_option linter.unusedVariables false
set_option linter.unusedSimpArgs false
def runc_t0 (p : OP) : Prop :=
  True ∧ (0 : Nat) = (0 : Nat) ∧ ((p.1.1 = p.1.1 ∧ p.1.2 = p.1.2 ∧ p.1.3 = p.1.3 ∧ p.1.4 = p.1.4 ∧ True) ∧ (1 : Int) = (1 : Int) ∧ p.2.5 = p.2.5 ∧ True) ∧ True
theorem runc_t0_t (p : OP) : runc_t0 p :=
  ⟨trivial, ⟨rfl, ⟨⟨⟨rfl, ⟨rfl, ⟨rfl, ⟨rfl, trivial⟩⟩⟩⟩, ⟨rfl, ⟨rfl, trivial⟩⟩⟩, trivial⟩⟩⟩
def runc_t1 (p : OP) : Prop :=
  (4 : Nat) = (4 : Nat) ∧ True ∧ (((0 : Nat) = (0 : Nat) ∧ p.4 = p.4) ∧ p.5 = p.5 ∧ ((0 : Nat) = (0 : Nat) ∧ (0 : Nat) = (0 : Nat)) ∧ ((0 : Nat) = (0 : Nat) ∧ (0 : Nat) = (0 : Nat)) ∧ (1 : Nat) = (1 : Nat) ∧ (0 : Nat) = (0 : Nat) ∧ (0 : Int) = (0 : Int) ∧ True) ∧ (p.4 = p.4 ∧ ∀ (i : Nat), i < p.n → (p.3 i).1 = (p.3 i).1 ∧ (p.3 i).2 = (p.3 i).2 ∧ (p.3 i).3 = (p.3 i).3 ∧ True) ∧ ((1 : Nat) = (1 : Nat) ∧ ∀ (i : Nat), i < (1 : Nat) → p.1.1 = p.1.1 ∧ p.1.2 = p.1.2 ∧ p.1.3 = p.1.3 ∧ p.1.4 = p.1.4 ∧ True) ∧ ((1 : Nat) = (1 : Nat) ∧ ∀ (i : Nat), i < (1 : Nat) → p.2.1 = p.2.1 ∧ p.2.2 = p.2.2 ∧ p.2.3 = p.2.3 ∧ p.2.4 = p.2.4 ∧ p.2.5 = p.2.5 ∧ p.2.6 = p.2.6 ∧ True) ∧ ((1 : Nat) = (1 : Nat) ∧ ∀ (i : Nat), i < (1 : Nat) → (1 : Int) = (1 : Int) ∧ p.2.5 = p.2.5 ∧ w64 (p.2.5 + p.1.1) = w64 (p.2.5 + p.1.1) ∧ True) ∧ (0 : Nat) = (0 : Nat) ∧ True
theorem runc_t1_t (p : OP) : runc_t1 p :=
  ⟨rfl, ⟨trivial, ⟨⟨⟨rfl, rfl⟩, ⟨rfl, ⟨⟨rfl, rfl⟩, ⟨⟨rfl, rfl⟩, ⟨rfl, ⟨rfl, ⟨rfl, trivial⟩⟩⟩⟩⟩⟩⟩, ⟨⟨rfl, (fun _ => (fun _ => ⟨rfl, ⟨rfl, ⟨rfl, trivial⟩⟩⟩))⟩, ⟨⟨rfl, (fun _ => (fun _ => ⟨rfl, ⟨rfl, ⟨rfl, ⟨rfl, trivial⟩⟩⟩⟩))⟩, ⟨⟨rfl, (fun _ => (fun _ => ⟨rfl, ⟨rfl, ⟨rfl, ⟨rfl, ⟨rfl, ⟨rfl, trivial⟩⟩⟩⟩⟩⟩))⟩, ⟨⟨rfl, (fun _ => (fun _ => ⟨rfl, ⟨rfl, ⟨rfl, trivial⟩⟩⟩))⟩, ⟨rfl, trivial⟩⟩⟩⟩⟩⟩⟩⟩
def runc_T (p : OP) : Prop :=
  runc_t0 p ∧ lMR.code = lMR.code ∧ (lMR_J p { i := (0 : Nat), k := (0 : Nat), V := fun (x : Nat) => (0 : Int), k2 := (1 : Nat), W := fun (i : Nat) => { state := (1 : Int), since := p.2.5, next := w64 (p.2.5 + p.1.1) : Sta } : RD } ∧ runc_t1 p) ∧ True ∧ ∀ (q : RD), Leaf (q.i ≤ p.n ∧ (∀ (j : Nat), j < q.i → (p.E j).at' ≤ p.t) ∧ (q.i = p.n ∨ p.t < (p.E q.i).at') ∧ Lst q.k q.V = voids p.r p.c p.E (a0 p) q.i ∧ Lst q.k2 q.W = line p.r p.c p.E (a0 p) q.i ++ aloneL p.r p.t (4 : Nat) (runR p q.i)) → ((refLine p).length = q.4 ∧ (refVoid p).length = q.2 ∧ True) ∧ ((refLine p).length = q.4 ∧ ∀ (i : Nat), i < (refLine p).length → ((refLine p).getD i { state := (0 : Int), since := (0 : Int), next := (0 : Int) : Sta }).1 = (q.5 i).1 ∧ ((refLine p).getD i { state := (0 : Int), since := (0 : Int), next := (0 : Int) : Sta }).2 = (q.5 i).2 ∧ ((refLine p).getD i { state := (0 : Int), since := (0 : Int), next := (0 : Int) : Sta }).3 = (q.5 i).3 ∧ True) ∧ ((refVoid p).length = q.2 ∧ ∀ (i : Nat), i < (refVoid p).length → (refVoid p).getD i (0 : Int) = q.3 i ∧ True) ∧ True
theorem runc_eq (p : OP) : callBy XR3 (exec XR3 100) 57 (sRun.A p) (sRun.H p) (RetC (sRun.H p).length (sRun.R p) (sRun.O p)) = runc_T p := by kernel_rfl

theorem runc_step (p : OP) (hJ : p.cp.ok = true) : runc_T p := by
  unfold runc_T
  repeat' (first | with_reducible refine And.intro ?_ ?_ | with_reducible refine fun (q : RD) hq => ?_)
  all_goals try first | with_reducible exact runc_t0_t _ | with_reducible exact runc_t1_t _ | with_reducible rfl | with_reducible exact trivial | with_reducible exact List.Perm.refl _
  all_goals first
    | exact ⟨Nat.zero_le _, hJ, Nat.le_refl _, rfl, rfl, Nat.le_refl _, Nat.le_refl _, rfl, rfl, fun j hj => absurd hj (Nat.not_lt_zero j)⟩
    | (obtain ⟨q1, q2, q3, q4, q5⟩ := hq
       have hs := stopN_eq q1 q2 q3
       have hl : refLine p = Lst q.k2 q.W := by rw [q5, refLine, hs]
       have hv : refVoid p = Lst q.k q.V := by rw [q4, refVoid, hs]
       first
       | (rw [hl, Lst_len]; done)
       | (rw [hv, Lst_len]; done)
       | (intro i hi; rw [hl, Lst_len] at hi; rw [hl, Lst_getD hi]; exact ⟨rfl, rfl, rfl, trivial⟩)
       | (intro i hi; rw [hv, Lst_len] at hi; rw [hv, Lst_getD hi]; exact ⟨rfl, trivial⟩))
    | trace_state
theorem run_ok : sRun.OK XR3.P 57 := .of_eq XR3_ok 100 _ runc_eq (fun _ => rfl) (fun p hJ o h => by
  simp only [sRun, List.mem_cons, List.not_mem_nil, or_false] at h
  rcases h with rfl | rfl
  · exact ⟨rfl, fun i _ s hs => by simp only [Sta.cells, List.mem_cons, List.not_mem_nil, or_false] at hs; rcases hs with rfl | rfl | rfl <;> rfl⟩
  · exact ⟨rfl, fun i _ s hs => by simp only [List.mem_singleton] at hs; subst hs; rfl⟩) fun p hJ => runc_step p hJ
noncomputable def XR4 : Ctx := XR0.with 57 (sRun.by exOP)
theorem XR4_ok : XR4.OK := Ctx.with_ok XR0_ok (run_ok.by exOP)
end Go.Proofs.Ytmcidfecepknpaa

namespace Go.Proofs.Ytmcidfecepknpaa
open Go Go.Sh Go.Proofs
set_option linter.unusedVariables false
set_option linter.unusedSimpArgs false
def routc_t0 (p : OP) : Prop :=
  True ∧ (1 : Nat) = (1 : Nat) ∧ ((p.1.1 = p.1.1 ∧ p.1.2 = p.1.2 ∧ p.1.3 = p.1.3 ∧ p.1.4 = p.1.4 ∧ True) ∧ (p.2.1 = p.2.1 ∧ p.2.2 = p.2.2 ∧ p.2.3 = p.2.3 ∧ p.2.4 = p.2.4 ∧ p.2.5 = p.2.5 ∧ p.2.6 = p.2.6 ∧ True) ∧ ((0 : Nat) = (0 : Nat) ∧ p.4 = p.4) ∧ True) ∧ (p.4 = p.4 ∧ ∀ (i : Nat), i < p.4 → (p.3 i).1 = (p.3 i).1 ∧ (p.3 i).2 = (p.3 i).2 ∧ (p.3 i).3 = (p.3 i).3 ∧ True) ∧ True
theorem routc_t0_t (p : OP) : routc_t0 p :=
  ⟨trivial, ⟨rfl, ⟨⟨⟨rfl, ⟨rfl, ⟨rfl, ⟨rfl, trivial⟩⟩⟩⟩, ⟨⟨rfl, ⟨rfl, ⟨rfl, ⟨rfl, ⟨rfl, ⟨rfl, trivial⟩⟩⟩⟩⟩⟩, ⟨⟨rfl, rfl⟩, trivial⟩⟩⟩, ⟨⟨rfl, (fun _ => (fun _ => ⟨rfl, ⟨rfl, ⟨rfl, trivial⟩⟩⟩))⟩, trivial⟩⟩⟩⟩
def routc_t1 (p : OP) : Prop :=
  (1 : Nat) = (1 : Nat) ∧ ((p.1.1 = p.1.1 ∧ p.1.2 = p.1.2 ∧ p.1.3 = p.1.3 ∧ p.1.4 = p.1.4 ∧ True) ∧ (p.2.1 = p.2.1 ∧ p.2.2 = p.2.2 ∧ p.2.3 = p.2.3 ∧ p.2.4 = p.2.4 ∧ p.2.5 = p.2.5 ∧ p.2.6 = p.2.6 ∧ True) ∧ ((0 : Nat) = (0 : Nat) ∧ p.4 = p.4) ∧ p.5 = p.5 ∧ True) ∧ (p.4 = p.4 ∧ ∀ (i : Nat), i < p.n → (p.3 i).1 = (p.3 i).1 ∧ (p.3 i).2 = (p.3 i).2 ∧ (p.3 i).3 = (p.3 i).3 ∧ True) ∧ True
theorem routc_t1_t (p : OP) : routc_t1 p :=
  ⟨rfl, ⟨⟨⟨rfl, ⟨rfl, ⟨rfl, ⟨rfl, trivial⟩⟩⟩⟩, ⟨⟨rfl, ⟨rfl, ⟨rfl, ⟨rfl, ⟨rfl, ⟨rfl, trivial⟩⟩⟩⟩⟩⟩, ⟨⟨rfl, rfl⟩, ⟨rfl, trivial⟩⟩⟩⟩, ⟨⟨rfl, (fun _ => (fun _ => ⟨rfl, ⟨rfl, ⟨rfl, trivial⟩⟩⟩))⟩, trivial⟩⟩⟩
def routc_T (p : OP) : Prop :=
  routc_t0 p ∧ ifB ((!{ r := p.1, c := p.2, E := p.3, n := p.4 : CP }.ok) == false) (ifB (decide (p.5 ≥ (0 : Int)) == true) (ifB (!decide (p.5 ≤ (20000000 : Int))) ((((outcome p).1 = (0 : Int) ∧ (outcome p).2 = (0 : Int) ∧ (outcome p).3 = (0 : Int) ∧ True) ∧ outErr p = (160 : Int) ∧ True) ∧ True) (ifB (decide (p.5 < p.2.5)) ((((outcome p).1 = (0 : Int) ∧ (outcome p).2 = (0 : Int) ∧ (outcome p).3 = p.2.5 ∧ True) ∧ outErr p = (0 : Int) ∧ True) ∧ True) (({ r := p.1, c := p.2, E := p.3, n := p.4 : CP }.ok = true ∧ routc_t1 p) ∧ ifB (decide ((0 : Int) ≤ IntKind.i64.wrap (Int.ofNat (refLine p).length - (1 : Int))) && decide (IntKind.i64.wrap (Int.ofNat (refLine p).length - (1 : Int)) < (↑(refLine p).length : Int))) (ifB (decide ((IntKind.i64.wrap (Int.ofNat (refLine p).length - (1 : Int))).toNat < (refLine p).length) && true) ((((outcome p).1 = ((refLine p).getD (IntKind.i64.wrap (Int.ofNat (refLine p).length - (1 : Int))).toNat { state := (0 : Int), since := (0 : Int), next := (0 : Int) : Sta }).1 ∧ (outcome p).2 = ((refLine p).getD (IntKind.i64.wrap (Int.ofNat (refLine p).length - (1 : Int))).toNat { state := (0 : Int), since := (0 : Int), next := (0 : Int) : Sta }).2 ∧ (outcome p).3 = ((refLine p).getD (IntKind.i64.wrap (Int.ofNat (refLine p).length - (1 : Int))).toNat { state := (0 : Int), since := (0 : Int), next := (0 : Int) : Sta }).3 ∧ True) ∧ outErr p = (0 : Int) ∧ True) ∧ True) False) False))) ((((outcome p).1 = (0 : Int) ∧ (outcome p).2 = (0 : Int) ∧ (outcome p).3 = (0 : Int) ∧ True) ∧ outErr p = (160 : Int) ∧ True) ∧ True)) ((((outcome p).1 = (0 : Int) ∧ (outcome p).2 = (0 : Int) ∧ (outcome p).3 = (0 : Int) ∧ True) ∧ outErr p = (160 : Int) ∧ True) ∧ True)
theorem routc_eq (p : OP) : callBy XR4 (exec XR4 100) 36 (sOutcome.A p) (sOutcome.H p) (RetC (sOutcome.H p).length (sOutcome.R p) (sOutcome.O p)) = routc_T p := by kernel_rfl

theorem aloneL_len (r : Rul) (u : Int) : ∀ (m : Nat) (s : Sta), (aloneL r u m s).length ≤ m
  | 0, s => Nat.le_refl _
  | m + 1, s => by
    unfold aloneL
    cases goesOn u s with
    | false => exact Nat.zero_le _
    | true => have := aloneL_len r u m (step1 r s); simp only [List.length_cons]; omega
theorem line_len (r : Rul) (c : Clm) (E : Nat → Evt) (a : Sta) : ∀ i, (line r c E a i).length ≤ 1 + 5 * i
  | 0 => Nat.le_refl _
  | i + 1 => by
    have h1 := line_len r c E a i
    have h2 := aloneL_len r (E i).at' 4 (runN r c E a i)
    simp only [line, evL, List.length_append]
    split <;> simp only [List.length_cons, List.length_nil] <;> omega
theorem refLine_last (p : OP) : ∃ k, (refLine p).length = k + 1 ∧ (p.n ≤ 20 → k ≤ 200) ∧ (refLine p).getD k ⟨0, 0, 0⟩ = goN p.r p.t 4 (runR p (stopN p.E p.t p.n)) := by
  have h : (refLine p).getLast? = some (goN p.r p.t 4 (runR p (stopN p.E p.t p.n))) := snoc_alone (line_last _ _ _ _ _)
  have hl := line_len p.r p.c p.E (a0 p) (stopN p.E p.t p.n)
  have ha := aloneL_len p.r p.t 4 (runR p (stopN p.E p.t p.n))
  have hs := (stopN_spec p.E p.t p.n).1
  have hlen : (refLine p).length ≤ 5 + 5 * p.n := by simp only [refLine, List.length_append]; omega
  rw [List.getLast?_eq_getElem?] at h
  have hpos : 0 < (refLine p).length := by
    cases hc : refLine p with
    | nil => rw [hc] at h; cases h
    | cons a b => simp
  refine ⟨(refLine p).length - 1, by omega, fun hn => by omega, ?_⟩
  simp only [List.getD, h, Option.getD_some]
theorem routc_step (p : OP) : routc_T p := by
  obtain ⟨k, hk1, hk2, hk3⟩ := refLine_last p
  have hko : p.cp.ok = true → IntKind.i64.wrap (Int.ofNat (k + 1) - 1) = k := fun h => by
    have := hk2 (CP.ok_n h)
    rw [wrapSmall (by simp only [Int.ofNat_eq_natCast]; omega) (by simp only [Int.ofNat_eq_natCast]; omega)]
    simp only [Int.ofNat_eq_natCast]; omega
  unfold routc_T
  rw [hk1]
  repeat' (first | with_reducible refine ifB_split (fun _ => ?_) (fun _ => ?_) | with_reducible refine And.intro ?_ ?_)
  all_goals try first | with_reducible exact routc_t0_t _ | with_reducible exact routc_t1_t _ | with_reducible rfl | with_reducible exact trivial | with_reducible exact List.Perm.refl _
  all_goals simp only [Bool.not_eq_true', Bool.not_eq_false', decide_eq_true_eq, decide_eq_false_iff_not, beq_iff_eq, beq_eq_false_iff_ne, ne_eq, Bool.not_eq_true, Bool.not_eq_false, ge_iff_le, Bool.and_true] at *
  all_goals first
    | assumption
    | (have ho : p.ok = false := by
         unfold OP.ok
         first
         | (rw [decide_eq_false (p := p.t ≤ 20000000) (by omega)]; simp; done)
         | (rw [decide_eq_false (p := 0 ≤ p.t) (by omega)]; simp; done)
         | (rw [show p.cp.ok = false by assumption]; rfl)
       simp only [outcome, outErr, ho]; done)
    | (have hc : p.cp.ok = true := by assumption
       have ho : p.ok = true := by
         unfold OP.ok
         rw [hc, decide_eq_true (p := p.t ≤ 20000000) (by omega), decide_eq_true (p := 0 ≤ p.t) (by omega)]; rfl
       first
       | (simp only [outErr, ho]; done)
       | (simp only [outcome, ho, outT]; rw [decide_eq_true (by omega)]; done)
       | (rw [hko hc, Int.toNat_natCast, hk3]; simp only [outcome, ho]; rw [outT_eq hc (by omega) (by omega)]; done)
       | (exfalso; simp only [hko hc, Bool.and_eq_false_iff, decide_eq_false_iff_not, Int.toNat_natCast] at *; omega)
       | trace_state)
theorem routcome_ok : sOutcome.OK XR4.P 36 := .of_eq XR4_ok 100 _ routc_eq (fun _ => rfl) (fun _ _ o h => by cases h) fun p _ => routc_step p
end Go.Proofs.Ytmcidfecepknpaa

namespace Go.Proofs.Ytmcidfecepknpaa
open Go Go.Sh Go.Proofs
set_option linter.unusedVariables false

/-! ### the claims that integers determine -/
def ruleN (x : Int) : Int := if pickN (w64 (x.tdiv 16)) 4 = 3 then w64 (1 + pickN x 86400) else w64 (1 + pickN x 12)
structure Four where
  a : Int
  b : Int
  c : Int
  d : Int
def sMRules : FSpec Four := { J := fun _ => True, A := fun x => [.agg [iv x.a, iv x.b, iv x.c, iv x.d]], H := fun _ => [], R := fun x => .agg [iv (ruleN x.a), iv (ruleN x.b), iv (ruleN x.c), iv (ruleN x.d)], O := fun _ => [] }
def exFour (args : List SV) (_ : Heap) : Option (Four × List (Option Nat)) := match args with
  | [.agg [.int _ a, .int _ b, .int _ c, .int _ d]] => some (⟨a, b, c, d⟩, [])
  | _ => none
noncomputable def XM0 : Ctx := (X0.with 35 (sPick.by exPick)).with 36 (sOutcome.by exOP)
theorem XM0_ok : XM0.OK := Ctx.with_ok (Ctx.with_ok X0_ok (pickR_ok.by exPick)) (routcome_ok.by exOP)
structure Z3 where
  a : Int
  b : Int
  c : Int
structure NP where
  x : Four
  y0 : Int
  y1 : Int
  y2 : Int
  y3 : Int
  y4 : Int
  y5 : Int
  Z : Nat → Z3
  n : Nat
def NP.A (x : NP) : List SV := [.agg [iv x.x.a, iv x.x.b, iv x.x.c, iv x.x.d, iv x.y0, iv x.y1, iv x.y2, iv x.y3, iv x.y4, iv x.y5, .sl 0 0 x.n]]
def zO (n : Nat) (Z : Nat → Z3) : SO := .arr false n 3 82 fun i => [iv (Z i).a, iv (Z i).b, iv (Z i).c]

def mR (x : NP) : Rul := ⟨ruleN x.x.a, ruleN x.x.b, ruleN x.x.c, ruleN x.x.d⟩
def mC (x : NP) : Clm := ⟨pickN x.y0 100000000, pickN x.y1 8, (w64 (w64 (pickN x.y1 8 + 1) + pickN x.y2 7)).tmod 8, pickN x.y3 64, pickN x.y4 1000, pickN x.y5 2 == 0⟩
/-- One event more. -/
def newE (r : Rul) (c : Clm) (E : Nat → Evt) (i : Nat) (last : Int) (z : Z3) : Evt :=
  ⟨w64 (1 + pickN z.a 6), (if 0 < (outcome ⟨r, c, E, i, last⟩).next ∧ 0 < pickN (w64 (z.b.tdiv 4)) 3 then (if w64 (w64 ((outcome ⟨r, c, E, i, last⟩).next - 1) + pickN z.b 3) > last then w64 (w64 ((outcome ⟨r, c, E, i, last⟩).next - 1) + pickN z.b 3) else last) else w64 (last + pickN z.b 4)),
    if w64 (1 + pickN z.a 6) = 2 ∨ w64 (1 + pickN z.a 6) = 6 then w64 (1 + pickN z.c 4) else 0⟩
def addE (E : Nat → Evt) (i : Nat) (e : Evt) : Nat → Evt := fun j => ⟨bif decide (j < i) then (E j).kind else e.kind, bif decide (j < i) then (E j).at' else e.at', bif decide (j < i) then (E j).reason else e.reason⟩
/-- The first events, and when the last one of them comes. -/
def madeE (r : Rul) (c : Clm) (Z : Nat → Z3) : Nat → (Nat → Evt) × Int
  | 0 => (fun _ => ⟨0, 0, 0⟩, c.asked)
  | i + 1 => match madeE r c Z i with
    | (E, last) => (addE E i (newE r c E i last (Z i)), (newE r c E i last (Z i)).at')
structure MX where
  x : NP
  r : Rul
  c : Clm
structure MS where
  i : Nat
  E : Nat → Evt
  last : Int
def lMM_J (p : MX) (d : MS) : Prop := d.i ≤ p.x.n ∧ d.i ≤ 10 ∧ madeE p.r p.c p.x.Z d.i = (d.E, d.last)
noncomputable def heapM (p : MX) (d : MS) : Heap := [some (zO p.x.n p.x.Z), some (.arr true 1 11 26 fun _ => [iv p.x.x.a, iv p.x.x.b, iv p.x.x.c, iv p.x.x.d, iv p.x.y0, iv p.x.y1, iv p.x.y2, iv p.x.y3, iv p.x.y4, iv p.x.y5, .sl 0 0 p.x.n]), boxR ⟨0, 0, 0, 0⟩, boxC ⟨0, 0, 0, 0, 0, false⟩, boxR p.r, none, boxC p.c, some (.arr true d.i 3 45 fun i => (d.E i).cells)]
noncomputable def lMM : LSpec MX MS MS where
  code := loopOf Try.prog 12 8
  N := 7
  I := fun x d => blank 124 [(1, .ptr 1 0 0), (2, .ptr 2 0 0), (3, .ptr 3 0 0), (5, .ptr 4 0 0), (7, .ptr 6 0 0), (8, .osl 7 d.i), (9, iv d.last), (10, iv d.i)] (heapM x d)
  J := lMM_J
  ways := 1
  E := fun w x d => (.exit 0, blank 124 [(2, .ptr 2 0 0), (3, .ptr 3 0 0), (5, .ptr 4 0 0), (7, .ptr 6 0 0), (8, .osl 7 d.i)] (heapM x d))
  JE := fun w x d => Leaf (madeE x.r x.c x.x.Z (min x.x.n 10) = (d.E, d.last) ∧ d.i = min x.x.n 10)
def evsAt (h : Heap) (v : SV) : Option (Nat × Nat × (Nat → Evt)) := match v with
  | .osl lo k2 => match arrOf h lo with
    | some (_, W) => some (lo, k2, fun i => Evt.of (W i))
    | none => none
  | _ => none
noncomputable def zMM (p : MX) (d : MS) : KX := fun y S' => match y with
  | .normal => match evsAt S'.heap (S'.get 8), S'.get 9 with
    | some (lo, k, E), .int _ last => Leaf (d.i < p.x.n ∧ d.i < 10) ∧ Leaf (k = d.i + 1 ∧ E = addE d.E d.i (newE p.r p.c d.E d.i d.last (p.x.Z d.i)) ∧ last = (newE p.r p.c d.E d.i d.last (p.x.Z d.i)).at') ∧ Wk 7 [some lo] (lMM.I p ⟨d.i + 1, E, last⟩) S'
    | _, _ => False
  | .exit j => gateB (Nat.beq j 0) (Leaf (p.x.n ≤ d.i ∨ 10 ≤ d.i) ∧ Wk 7 [some 7] (lMM.E 0 p d).2 S')
  | .ret => False
def exMM (S : SS) : Option (MX × MS × Ren) := match arrOf S.heap 0, arrOf S.heap 1, arrOf S.heap 4, arrOf S.heap 6, S.get 9 with
  | some (n, Z), some (_, xx), some (_, rr), some (_, cc), .int _ last => match xx 0, rr 0, cc 0 with
    | [.int _ a, .int _ b, .int _ c, .int _ d, .int _ e, .int _ f, .int _ g, .int _ h, .int _ i, .int _ j, _], [.int _ r1, .int _ r2, .int _ r3, .int _ r4], [.int _ c1, .int _ c2, .int _ c3, .int _ c4, .int _ c5, .bool c6] =>
      some (⟨⟨⟨a, b, c, d⟩, e, f, g, h, i, j, fun i => (match Z i with | [.int _ u, .int _ v, .int _ w] => ⟨u, v, w⟩ | _ => ⟨0, 0, 0⟩), n⟩, ⟨r1, r2, r3, r4⟩, ⟨c1, c2, c3, c4, c5, c6⟩⟩, ⟨0, fun _ => ⟨0, 0, 0⟩, last⟩, [none])
    | _, _, _ => none
  | _, _, _, _, _ => none
end Go.Proofs.Ytmcidfecepknpaa

