/-
  Parts of the proof: the executor of states by symbols, and the contracts of the functions that the law reaches. No condition.
-/
import Derived.ProofKit
import Derived.Deep.Strs
import Derived.WideKeyArgs
import Derived.OpenShut
import Derived.Test.YtmcidfecepknpaaW2
set_option linter.unusedVariables false
set_option linter.unusedSimpArgs false

namespace Go.Proofs.Ytmcidfecepknpaa
open Go Go.Sh Go.Proofs
set_option linter.unusedVariables false
set_option linter.unusedSimpArgs false
def mrules_t0 (p : Four) : Prop :=
  (0 : Nat) = (0 : Nat) ∧ (p.1 = p.1 ∧ (12 : Int) = (12 : Int) ∧ True) ∧ True
theorem mrules_t0_t (p : Four) : mrules_t0 p :=
  ⟨rfl, ⟨⟨rfl, ⟨rfl, trivial⟩⟩, trivial⟩⟩
def mrules_t1 (p : Four) : Prop :=
  (0 : Nat) = (0 : Nat) ∧ (IntKind.i64.wrap (p.1.tdiv (16 : Int)) = IntKind.i64.wrap (p.1.tdiv (16 : Int)) ∧ (4 : Int) = (4 : Int) ∧ True) ∧ True
theorem mrules_t1_t (p : Four) : mrules_t1 p :=
  ⟨rfl, ⟨⟨rfl, ⟨rfl, trivial⟩⟩, trivial⟩⟩
def mrules_t2 (p : Four) : Prop :=
  (0 : Nat) = (0 : Nat) ∧ (p.1 = p.1 ∧ (86400 : Int) = (86400 : Int) ∧ True) ∧ True
theorem mrules_t2_t (p : Four) : mrules_t2 p :=
  ⟨rfl, ⟨⟨rfl, ⟨rfl, trivial⟩⟩, trivial⟩⟩
def mrules_t3 (p : Four) : Prop :=
  (0 : Nat) = (0 : Nat) ∧ (p.2 = p.2 ∧ (12 : Int) = (12 : Int) ∧ True) ∧ True
theorem mrules_t3_t (p : Four) : mrules_t3 p :=
  ⟨rfl, ⟨⟨rfl, ⟨rfl, trivial⟩⟩, trivial⟩⟩
def mrules_t4 (p : Four) : Prop :=
  (0 : Nat) = (0 : Nat) ∧ (IntKind.i64.wrap (p.2.tdiv (16 : Int)) = IntKind.i64.wrap (p.2.tdiv (16 : Int)) ∧ (4 : Int) = (4 : Int) ∧ True) ∧ True
theorem mrules_t4_t (p : Four) : mrules_t4 p :=
  ⟨rfl, ⟨⟨rfl, ⟨rfl, trivial⟩⟩, trivial⟩⟩
def mrules_t5 (p : Four) : Prop :=
  (0 : Nat) = (0 : Nat) ∧ (p.2 = p.2 ∧ (86400 : Int) = (86400 : Int) ∧ True) ∧ True
theorem mrules_t5_t (p : Four) : mrules_t5 p :=
  ⟨rfl, ⟨⟨rfl, ⟨rfl, trivial⟩⟩, trivial⟩⟩
def mrules_t6 (p : Four) : Prop :=
  (0 : Nat) = (0 : Nat) ∧ (p.3 = p.3 ∧ (12 : Int) = (12 : Int) ∧ True) ∧ True
theorem mrules_t6_t (p : Four) : mrules_t6 p :=
  ⟨rfl, ⟨⟨rfl, ⟨rfl, trivial⟩⟩, trivial⟩⟩
def mrules_t7 (p : Four) : Prop :=
  (0 : Nat) = (0 : Nat) ∧ (IntKind.i64.wrap (p.3.tdiv (16 : Int)) = IntKind.i64.wrap (p.3.tdiv (16 : Int)) ∧ (4 : Int) = (4 : Int) ∧ True) ∧ True
theorem mrules_t7_t (p : Four) : mrules_t7 p :=
  ⟨rfl, ⟨⟨rfl, ⟨rfl, trivial⟩⟩, trivial⟩⟩
def mrules_t8 (p : Four) : Prop :=
  (0 : Nat) = (0 : Nat) ∧ (p.3 = p.3 ∧ (86400 : Int) = (86400 : Int) ∧ True) ∧ True
theorem mrules_t8_t (p : Four) : mrules_t8 p :=
  ⟨rfl, ⟨⟨rfl, ⟨rfl, trivial⟩⟩, trivial⟩⟩
def mrules_t9 (p : Four) : Prop :=
  (0 : Nat) = (0 : Nat) ∧ (p.4 = p.4 ∧ (12 : Int) = (12 : Int) ∧ True) ∧ True
theorem mrules_t9_t (p : Four) : mrules_t9 p :=
  ⟨rfl, ⟨⟨rfl, ⟨rfl, trivial⟩⟩, trivial⟩⟩
def mrules_t10 (p : Four) : Prop :=
  (0 : Nat) = (0 : Nat) ∧ (IntKind.i64.wrap (p.4.tdiv (16 : Int)) = IntKind.i64.wrap (p.4.tdiv (16 : Int)) ∧ (4 : Int) = (4 : Int) ∧ True) ∧ True
theorem mrules_t10_t (p : Four) : mrules_t10 p :=
  ⟨rfl, ⟨⟨rfl, ⟨rfl, trivial⟩⟩, trivial⟩⟩
def mrules_t11 (p : Four) : Prop :=
  (0 : Nat) = (0 : Nat) ∧ (p.4 = p.4 ∧ (86400 : Int) = (86400 : Int) ∧ True) ∧ True
theorem mrules_t11_t (p : Four) : mrules_t11 p :=
  ⟨rfl, ⟨⟨rfl, ⟨rfl, trivial⟩⟩, trivial⟩⟩
def mrules_T (p : Four) : Prop :=
  ((0 : Int) < (12 : Int) ∧ mrules_t0 p) ∧ ((0 : Int) < (4 : Int) ∧ mrules_t1 p) ∧ ifB (pickN (IntKind.i64.wrap (p.1.tdiv (16 : Int))) (4 : Int) == (3 : Int)) (((0 : Int) < (86400 : Int) ∧ mrules_t2 p) ∧ ((0 : Int) < (12 : Int) ∧ mrules_t3 p) ∧ ((0 : Int) < (4 : Int) ∧ mrules_t4 p) ∧ ifB (pickN (IntKind.i64.wrap (p.2.tdiv (16 : Int))) (4 : Int) == (3 : Int)) (((0 : Int) < (86400 : Int) ∧ mrules_t5 p) ∧ ((0 : Int) < (12 : Int) ∧ mrules_t6 p) ∧ ((0 : Int) < (4 : Int) ∧ mrules_t7 p) ∧ ifB (pickN (IntKind.i64.wrap (p.3.tdiv (16 : Int))) (4 : Int) == (3 : Int)) (((0 : Int) < (86400 : Int) ∧ mrules_t8 p) ∧ ((0 : Int) < (12 : Int) ∧ mrules_t9 p) ∧ ((0 : Int) < (4 : Int) ∧ mrules_t10 p) ∧ ifB (pickN (IntKind.i64.wrap (p.4.tdiv (16 : Int))) (4 : Int) == (3 : Int)) (((0 : Int) < (86400 : Int) ∧ mrules_t11 p) ∧ (ruleN p.1 = IntKind.i64.wrap ((1 : Int) + pickN p.1 (86400 : Int)) ∧ ruleN p.2 = IntKind.i64.wrap ((1 : Int) + pickN p.2 (86400 : Int)) ∧ ruleN p.3 = IntKind.i64.wrap ((1 : Int) + pickN p.3 (86400 : Int)) ∧ ruleN p.4 = IntKind.i64.wrap ((1 : Int) + pickN p.4 (86400 : Int)) ∧ True) ∧ True) ((ruleN p.1 = IntKind.i64.wrap ((1 : Int) + pickN p.1 (86400 : Int)) ∧ ruleN p.2 = IntKind.i64.wrap ((1 : Int) + pickN p.2 (86400 : Int)) ∧ ruleN p.3 = IntKind.i64.wrap ((1 : Int) + pickN p.3 (86400 : Int)) ∧ ruleN p.4 = IntKind.i64.wrap ((1 : Int) + pickN p.4 (12 : Int)) ∧ True) ∧ True)) (((0 : Int) < (12 : Int) ∧ mrules_t9 p) ∧ ((0 : Int) < (4 : Int) ∧ mrules_t10 p) ∧ ifB (pickN (IntKind.i64.wrap (p.4.tdiv (16 : Int))) (4 : Int) == (3 : Int)) (((0 : Int) < (86400 : Int) ∧ mrules_t11 p) ∧ (ruleN p.1 = IntKind.i64.wrap ((1 : Int) + pickN p.1 (86400 : Int)) ∧ ruleN p.2 = IntKind.i64.wrap ((1 : Int) + pickN p.2 (86400 : Int)) ∧ ruleN p.3 = IntKind.i64.wrap ((1 : Int) + pickN p.3 (12 : Int)) ∧ ruleN p.4 = IntKind.i64.wrap ((1 : Int) + pickN p.4 (86400 : Int)) ∧ True) ∧ True) ((ruleN p.1 = IntKind.i64.wrap ((1 : Int) + pickN p.1 (86400 : Int)) ∧ ruleN p.2 = IntKind.i64.wrap ((1 : Int) + pickN p.2 (86400 : Int)) ∧ ruleN p.3 = IntKind.i64.wrap ((1 : Int) + pickN p.3 (12 : Int)) ∧ ruleN p.4 = IntKind.i64.wrap ((1 : Int) + pickN p.4 (12 : Int)) ∧ True) ∧ True))) (((0 : Int) < (12 : Int) ∧ mrules_t6 p) ∧ ((0 : Int) < (4 : Int) ∧ mrules_t7 p) ∧ ifB (pickN (IntKind.i64.wrap (p.3.tdiv (16 : Int))) (4 : Int) == (3 : Int)) (((0 : Int) < (86400 : Int) ∧ mrules_t8 p) ∧ ((0 : Int) < (12 : Int) ∧ mrules_t9 p) ∧ ((0 : Int) < (4 : Int) ∧ mrules_t10 p) ∧ ifB (pickN (IntKind.i64.wrap (p.4.tdiv (16 : Int))) (4 : Int) == (3 : Int)) (((0 : Int) < (86400 : Int) ∧ mrules_t11 p) ∧ (ruleN p.1 = IntKind.i64.wrap ((1 : Int) + pickN p.1 (86400 : Int)) ∧ ruleN p.2 = IntKind.i64.wrap ((1 : Int) + pickN p.2 (12 : Int)) ∧ ruleN p.3 = IntKind.i64.wrap ((1 : Int) + pickN p.3 (86400 : Int)) ∧ ruleN p.4 = IntKind.i64.wrap ((1 : Int) + pickN p.4 (86400 : Int)) ∧ True) ∧ True) ((ruleN p.1 = IntKind.i64.wrap ((1 : Int) + pickN p.1 (86400 : Int)) ∧ ruleN p.2 = IntKind.i64.wrap ((1 : Int) + pickN p.2 (12 : Int)) ∧ ruleN p.3 = IntKind.i64.wrap ((1 : Int) + pickN p.3 (86400 : Int)) ∧ ruleN p.4 = IntKind.i64.wrap ((1 : Int) + pickN p.4 (12 : Int)) ∧ True) ∧ True)) (((0 : Int) < (12 : Int) ∧ mrules_t9 p) ∧ ((0 : Int) < (4 : Int) ∧ mrules_t10 p) ∧ ifB (pickN (IntKind.i64.wrap (p.4.tdiv (16 : Int))) (4 : Int) == (3 : Int)) (((0 : Int) < (86400 : Int) ∧ mrules_t11 p) ∧ (ruleN p.1 = IntKind.i64.wrap ((1 : Int) + pickN p.1 (86400 : Int)) ∧ ruleN p.2 = IntKind.i64.wrap ((1 : Int) + pickN p.2 (12 : Int)) ∧ ruleN p.3 = IntKind.i64.wrap ((1 : Int) + pickN p.3 (12 : Int)) ∧ ruleN p.4 = IntKind.i64.wrap ((1 : Int) + pickN p.4 (86400 : Int)) ∧ True) ∧ True) ((ruleN p.1 = IntKind.i64.wrap ((1 : Int) + pickN p.1 (86400 : Int)) ∧ ruleN p.2 = IntKind.i64.wrap ((1 : Int) + pickN p.2 (12 : Int)) ∧ ruleN p.3 = IntKind.i64.wrap ((1 : Int) + pickN p.3 (12 : Int)) ∧ ruleN p.4 = IntKind.i64.wrap ((1 : Int) + pickN p.4 (12 : Int)) ∧ True) ∧ True)))) (((0 : Int) < (12 : Int) ∧ mrules_t3 p) ∧ ((0 : Int) < (4 : Int) ∧ mrules_t4 p) ∧ ifB (pickN (IntKind.i64.wrap (p.2.tdiv (16 : Int))) (4 : Int) == (3 : Int)) (((0 : Int) < (86400 : Int) ∧ mrules_t5 p) ∧ ((0 : Int) < (12 : Int) ∧ mrules_t6 p) ∧ ((0 : Int) < (4 : Int) ∧ mrules_t7 p) ∧ ifB (pickN (IntKind.i64.wrap (p.3.tdiv (16 : Int))) (4 : Int) == (3 : Int)) (((0 : Int) < (86400 : Int) ∧ mrules_t8 p) ∧ ((0 : Int) < (12 : Int) ∧ mrules_t9 p) ∧ ((0 : Int) < (4 : Int) ∧ mrules_t10 p) ∧ ifB (pickN (IntKind.i64.wrap (p.4.tdiv (16 : Int))) (4 : Int) == (3 : Int)) (((0 : Int) < (86400 : Int) ∧ mrules_t11 p) ∧ (ruleN p.1 = IntKind.i64.wrap ((1 : Int) + pickN p.1 (12 : Int)) ∧ ruleN p.2 = IntKind.i64.wrap ((1 : Int) + pickN p.2 (86400 : Int)) ∧ ruleN p.3 = IntKind.i64.wrap ((1 : Int) + pickN p.3 (86400 : Int)) ∧ ruleN p.4 = IntKind.i64.wrap ((1 : Int) + pickN p.4 (86400 : Int)) ∧ True) ∧ True) ((ruleN p.1 = IntKind.i64.wrap ((1 : Int) + pickN p.1 (12 : Int)) ∧ ruleN p.2 = IntKind.i64.wrap ((1 : Int) + pickN p.2 (86400 : Int)) ∧ ruleN p.3 = IntKind.i64.wrap ((1 : Int) + pickN p.3 (86400 : Int)) ∧ ruleN p.4 = IntKind.i64.wrap ((1 : Int) + pickN p.4 (12 : Int)) ∧ True) ∧ True)) (((0 : Int) < (12 : Int) ∧ mrules_t9 p) ∧ ((0 : Int) < (4 : Int) ∧ mrules_t10 p) ∧ ifB (pickN (IntKind.i64.wrap (p.4.tdiv (16 : Int))) (4 : Int) == (3 : Int)) (((0 : Int) < (86400 : Int) ∧ mrules_t11 p) ∧ (ruleN p.1 = IntKind.i64.wrap ((1 : Int) + pickN p.1 (12 : Int)) ∧ ruleN p.2 = IntKind.i64.wrap ((1 : Int) + pickN p.2 (86400 : Int)) ∧ ruleN p.3 = IntKind.i64.wrap ((1 : Int) + pickN p.3 (12 : Int)) ∧ ruleN p.4 = IntKind.i64.wrap ((1 : Int) + pickN p.4 (86400 : Int)) ∧ True) ∧ True) ((ruleN p.1 = IntKind.i64.wrap ((1 : Int) + pickN p.1 (12 : Int)) ∧ ruleN p.2 = IntKind.i64.wrap ((1 : Int) + pickN p.2 (86400 : Int)) ∧ ruleN p.3 = IntKind.i64.wrap ((1 : Int) + pickN p.3 (12 : Int)) ∧ ruleN p.4 = IntKind.i64.wrap ((1 : Int) + pickN p.4 (12 : Int)) ∧ True) ∧ True))) (((0 : Int) < (12 : Int) ∧ mrules_t6 p) ∧ ((0 : Int) < (4 : Int) ∧ mrules_t7 p) ∧ ifB (pickN (IntKind.i64.wrap (p.3.tdiv (16 : Int))) (4 : Int) == (3 : Int)) (((0 : Int) < (86400 : Int) ∧ mrules_t8 p) ∧ ((0 : Int) < (12 : Int) ∧ mrules_t9 p) ∧ ((0 : Int) < (4 : Int) ∧ mrules_t10 p) ∧ ifB (pickN (IntKind.i64.wrap (p.4.tdiv (16 : Int))) (4 : Int) == (3 : Int)) (((0 : Int) < (86400 : Int) ∧ mrules_t11 p) ∧ (ruleN p.1 = IntKind.i64.wrap ((1 : Int) + pickN p.1 (12 : Int)) ∧ ruleN p.2 = IntKind.i64.wrap ((1 : Int) + pickN p.2 (12 : Int)) ∧ ruleN p.3 = IntKind.i64.wrap ((1 : Int) + pickN p.3 (86400 : Int)) ∧ ruleN p.4 = IntKind.i64.wrap ((1 : Int) + pickN p.4 (86400 : Int)) ∧ True) ∧ True) ((ruleN p.1 = IntKind.i64.wrap ((1 : Int) + pickN p.1 (12 : Int)) ∧ ruleN p.2 = IntKind.i64.wrap ((1 : Int) + pickN p.2 (12 : Int)) ∧ ruleN p.3 = IntKind.i64.wrap ((1 : Int) + pickN p.3 (86400 : Int)) ∧ ruleN p.4 = IntKind.i64.wrap ((1 : Int) + pickN p.4 (12 : Int)) ∧ True) ∧ True)) (((0 : Int) < (12 : Int) ∧ mrules_t9 p) ∧ ((0 : Int) < (4 : Int) ∧ mrules_t10 p) ∧ ifB (pickN (IntKind.i64.wrap (p.4.tdiv (16 : Int))) (4 : Int) == (3 : Int)) (((0 : Int) < (86400 : Int) ∧ mrules_t11 p) ∧ (ruleN p.1 = IntKind.i64.wrap ((1 : Int) + pickN p.1 (12 : Int)) ∧ ruleN p.2 = IntKind.i64.wrap ((1 : Int) + pickN p.2 (12 : Int)) ∧ ruleN p.3 = IntKind.i64.wrap ((1 : Int) + pickN p.3 (12 : Int)) ∧ ruleN p.4 = IntKind.i64.wrap ((1 : Int) + pickN p.4 (86400 : Int)) ∧ True) ∧ True) ((ruleN p.1 = IntKind.i64.wrap ((1 : Int) + pickN p.1 (12 : Int)) ∧ ruleN p.2 = IntKind.i64.wrap ((1 : Int) + pickN p.2 (12 : Int)) ∧ ruleN p.3 = IntKind.i64.wrap ((1 : Int) + pickN p.3 (12 : Int)) ∧ ruleN p.4 = IntKind.i64.wrap ((1 : Int) + pickN p.4 (12 : Int)) ∧ True) ∧ True))))
theorem mrules_eq (p : Four) : callBy XM0 (exec XM0 60) 34 (sMRules.A p) (sMRules.H p) (RetC (sMRules.H p).length (sMRules.R p) (sMRules.O p)) = mrules_T p := by kernel_rfl

theorem mrules_step (p : Four) : mrules_T p := by
  unfold mrules_T
  repeat' (first | with_reducible refine ifB_split (fun _ => ?_) (fun _ => ?_) | with_reducible refine And.intro ?_ ?_)
  all_goals try first | with_reducible exact mrules_t0_t _ | with_reducible exact mrules_t1_t _ | with_reducible exact mrules_t2_t _ | with_reducible exact mrules_t3_t _ | with_reducible exact mrules_t4_t _ | with_reducible exact mrules_t5_t _ | with_reducible exact mrules_t6_t _ | with_reducible exact mrules_t7_t _ | with_reducible exact mrules_t8_t _ | with_reducible exact mrules_t9_t _ | with_reducible exact mrules_t10_t _ | with_reducible exact mrules_t11_t _ | with_reducible rfl | with_reducible exact trivial | with_reducible exact List.Perm.refl _
  all_goals first
    | decide
    | (simp_all [ruleN, w64]; done)
    | trace_state
theorem mrules_ok : sMRules.OK XM0.P 34 := .of_eq XM0_ok 60 _ mrules_eq (fun _ => rfl) (fun _ _ o h => by cases h) fun p _ => mrules_step p
def mloop_t0 (p : MX) (d : MS) : Prop :=
  (0 : Nat) = (0 : Nat) ∧ ((p.1.8 ((0 : Nat) + d.1)).1 = (p.1.8 ((0 : Nat) + d.1)).1 ∧ (6 : Int) = (6 : Int) ∧ True) ∧ True
theorem mloop_t0_t (p : MX) (d : MS) : mloop_t0 p d :=
  ⟨rfl, ⟨⟨rfl, ⟨rfl, trivial⟩⟩, trivial⟩⟩
def mloop_t1 (p : MX) (d : MS) : Prop :=
  (0 : Nat) = (0 : Nat) ∧ ((p.1.8 ((0 : Nat) + d.1)).2 = (p.1.8 ((0 : Nat) + d.1)).2 ∧ (4 : Int) = (4 : Int) ∧ True) ∧ True
theorem mloop_t1_t (p : MX) (d : MS) : mloop_t1 p d :=
  ⟨rfl, ⟨⟨rfl, ⟨rfl, trivial⟩⟩, trivial⟩⟩
def mloop_t2 (p : MX) (d : MS) : Prop :=
  True ∧ (1 : Nat) = (1 : Nat) ∧ ((p.2.1 = p.2.1 ∧ p.2.2 = p.2.2 ∧ p.2.3 = p.2.3 ∧ p.2.4 = p.2.4 ∧ True) ∧ (p.3.1 = p.3.1 ∧ p.3.2 = p.3.2 ∧ p.3.3 = p.3.3 ∧ p.3.4 = p.3.4 ∧ p.3.5 = p.3.5 ∧ p.3.6 = p.3.6 ∧ True) ∧ ((0 : Nat) = (0 : Nat) ∧ d.1 = d.1) ∧ d.3 = d.3 ∧ True) ∧ (d.1 = d.1 ∧ ∀ (i : Nat), i < d.1 → (d.2 i).1 = (d.2 i).1 ∧ (d.2 i).2 = (d.2 i).2 ∧ (d.2 i).3 = (d.2 i).3 ∧ True) ∧ True
theorem mloop_t2_t (p : MX) (d : MS) : mloop_t2 p d :=
  ⟨trivial, ⟨rfl, ⟨⟨⟨rfl, ⟨rfl, ⟨rfl, ⟨rfl, trivial⟩⟩⟩⟩, ⟨⟨rfl, ⟨rfl, ⟨rfl, ⟨rfl, ⟨rfl, ⟨rfl, trivial⟩⟩⟩⟩⟩⟩, ⟨⟨rfl, rfl⟩, ⟨rfl, trivial⟩⟩⟩⟩, ⟨⟨rfl, (fun _ => (fun _ => ⟨rfl, ⟨rfl, ⟨rfl, trivial⟩⟩⟩))⟩, trivial⟩⟩⟩⟩
def mloop_t3 (p : MX) (d : MS) : Prop :=
  (0 : Nat) = (0 : Nat) ∧ (IntKind.i64.wrap ((p.1.8 ((0 : Nat) + d.1)).2.tdiv (4 : Int)) = IntKind.i64.wrap ((p.1.8 ((0 : Nat) + d.1)).2.tdiv (4 : Int)) ∧ (3 : Int) = (3 : Int) ∧ True) ∧ True
theorem mloop_t3_t (p : MX) (d : MS) : mloop_t3 p d :=
  ⟨rfl, ⟨⟨rfl, ⟨rfl, trivial⟩⟩, trivial⟩⟩
def mloop_t4 (p : MX) (d : MS) : Prop :=
  (0 : Nat) = (0 : Nat) ∧ ((p.1.8 ((0 : Nat) + d.1)).2 = (p.1.8 ((0 : Nat) + d.1)).2 ∧ (3 : Int) = (3 : Int) ∧ True) ∧ True
theorem mloop_t4_t (p : MX) (d : MS) : mloop_t4 p d :=
  ⟨rfl, ⟨⟨rfl, ⟨rfl, trivial⟩⟩, trivial⟩⟩
def mloop_t5 (p : MX) (d : MS) : Prop :=
  (0 : Nat) = (0 : Nat) ∧ ((p.1.8 ((0 : Nat) + d.1)).3 = (p.1.8 ((0 : Nat) + d.1)).3 ∧ (4 : Int) = (4 : Int) ∧ True) ∧ True
theorem mloop_t5_t (p : MX) (d : MS) : mloop_t5 p d :=
  ⟨rfl, ⟨⟨rfl, ⟨rfl, trivial⟩⟩, trivial⟩⟩
def mloop_t6 : Prop :=
  (0 : Nat) = (0 : Nat) ∧ (0 : Nat) = (0 : Nat)
theorem mloop_t6_t : mloop_t6 :=
  ⟨rfl, rfl⟩
def mloop_t7 (p : MX) (d : MS) : Prop :=
  (p.1.9 = p.1.9 ∧ ∀ (i : Nat), i < p.x.n → (p.1.8 i).1 = (p.1.8 i).1 ∧ (p.1.8 i).2 = (p.1.8 i).2 ∧ (p.1.8 i).3 = (p.1.8 i).3 ∧ True) ∧ ((1 : Nat) = (1 : Nat) ∧ ∀ (i : Nat), i < (1 : Nat) → p.1.1.1 = p.1.1.1 ∧ p.1.1.2 = p.1.1.2 ∧ p.1.1.3 = p.1.1.3 ∧ p.1.1.4 = p.1.1.4 ∧ p.1.2 = p.1.2 ∧ p.1.3 = p.1.3 ∧ p.1.4 = p.1.4 ∧ p.1.5 = p.1.5 ∧ p.1.6 = p.1.6 ∧ p.1.7 = p.1.7 ∧ ((0 : Nat) = (0 : Nat) ∧ p.1.9 = p.1.9) ∧ True) ∧ ((1 : Nat) = (1 : Nat) ∧ ∀ (i : Nat), i < (1 : Nat) → (0 : Int) = (0 : Int) ∧ (0 : Int) = (0 : Int) ∧ (0 : Int) = (0 : Int) ∧ (0 : Int) = (0 : Int) ∧ True) ∧ ((1 : Nat) = (1 : Nat) ∧ ∀ (i : Nat), i < (1 : Nat) → (0 : Int) = (0 : Int) ∧ (0 : Int) = (0 : Int) ∧ (0 : Int) = (0 : Int) ∧ (0 : Int) = (0 : Int) ∧ (0 : Int) = (0 : Int) ∧ false = false ∧ True) ∧ ((1 : Nat) = (1 : Nat) ∧ ∀ (i : Nat), i < (1 : Nat) → p.2.1 = p.2.1 ∧ p.2.2 = p.2.2 ∧ p.2.3 = p.2.3 ∧ p.2.4 = p.2.4 ∧ True) ∧ ((1 : Nat) = (1 : Nat) ∧ ∀ (i : Nat), i < (1 : Nat) → p.3.1 = p.3.1 ∧ p.3.2 = p.3.2 ∧ p.3.3 = p.3.3 ∧ p.3.4 = p.3.4 ∧ p.3.5 = p.3.5 ∧ p.3.6 = p.3.6 ∧ True) ∧ (d.1 + (1 : Nat) = d.1 + (1 : Nat) ∧ ∀ (i : Nat), i < d.1 + (1 : Nat) → ((bif decide (i < d.1) then (d.2 i).1 else IntKind.i64.wrap ((1 : Int) + pickN (p.1.8 ((0 : Nat) + d.1)).1 (6 : Int))) = bif decide (i < d.1) then (d.2 i).1 else IntKind.i64.wrap ((1 : Int) + pickN (p.1.8 ((0 : Nat) + d.1)).1 (6 : Int))) ∧ ((bif decide (i < d.1) then (d.2 i).2 else if IntKind.i64.wrap (IntKind.i64.wrap ((outcome { r := p.2, c := p.3, E := d.2, n := d.1, t := d.3 : OP }).3 - (1 : Int)) + pickN (p.1.8 ((0 : Nat) + d.1)).2 (3 : Int)) > d.3 then IntKind.i64.wrap (IntKind.i64.wrap ((outcome { r := p.2, c := p.3, E := d.2, n := d.1, t := d.3 : OP }).3 - (1 : Int)) + pickN (p.1.8 ((0 : Nat) + d.1)).2 (3 : Int)) else d.3) = bif decide (i < d.1) then (d.2 i).2 else if IntKind.i64.wrap (IntKind.i64.wrap ((outcome { r := p.2, c := p.3, E := d.2, n := d.1, t := d.3 : OP }).3 - (1 : Int)) + pickN (p.1.8 ((0 : Nat) + d.1)).2 (3 : Int)) > d.3 then IntKind.i64.wrap (IntKind.i64.wrap ((outcome { r := p.2, c := p.3, E := d.2, n := d.1, t := d.3 : OP }).3 - (1 : Int)) + pickN (p.1.8 ((0 : Nat) + d.1)).2 (3 : Int)) else d.3) ∧ ((bif decide (i < d.1) then (d.2 i).3 else IntKind.i64.wrap ((1 : Int) + pickN (p.1.8 ((0 : Nat) + d.1)).3 (4 : Int))) = bif decide (i < d.1) then (d.2 i).3 else IntKind.i64.wrap ((1 : Int) + pickN (p.1.8 ((0 : Nat) + d.1)).3 (4 : Int))) ∧ True) ∧ True
theorem mloop_t7_t (p : MX) (d : MS) : mloop_t7 p d :=
  ⟨⟨rfl, (fun _ => (fun _ => ⟨rfl, ⟨rfl, ⟨rfl, trivial⟩⟩⟩))⟩, ⟨⟨rfl, (fun _ => (fun _ => ⟨rfl, ⟨rfl, ⟨rfl, ⟨rfl, ⟨rfl, ⟨rfl, ⟨rfl, ⟨rfl, ⟨rfl, ⟨rfl, ⟨⟨rfl, rfl⟩, trivial⟩⟩⟩⟩⟩⟩⟩⟩⟩⟩⟩))⟩, ⟨⟨rfl, (fun _ => (fun _ => ⟨rfl, ⟨rfl, ⟨rfl, ⟨rfl, trivial⟩⟩⟩⟩))⟩, ⟨⟨rfl, (fun _ => (fun _ => ⟨rfl, ⟨rfl, ⟨rfl, ⟨rfl, ⟨rfl, ⟨rfl, trivial⟩⟩⟩⟩⟩⟩))⟩, ⟨⟨rfl, (fun _ => (fun _ => ⟨rfl, ⟨rfl, ⟨rfl, ⟨rfl, trivial⟩⟩⟩⟩))⟩, ⟨⟨rfl, (fun _ => (fun _ => ⟨rfl, ⟨rfl, ⟨rfl, ⟨rfl, ⟨rfl, ⟨rfl, trivial⟩⟩⟩⟩⟩⟩))⟩, ⟨⟨rfl, (fun _ => (fun _ => ⟨rfl, ⟨rfl, ⟨rfl, trivial⟩⟩⟩))⟩, trivial⟩⟩⟩⟩⟩⟩⟩
def mloop_t8 (p : MX) (d : MS) : Prop :=
  (p.1.9 = p.1.9 ∧ ∀ (i : Nat), i < p.x.n → (p.1.8 i).1 = (p.1.8 i).1 ∧ (p.1.8 i).2 = (p.1.8 i).2 ∧ (p.1.8 i).3 = (p.1.8 i).3 ∧ True) ∧ ((1 : Nat) = (1 : Nat) ∧ ∀ (i : Nat), i < (1 : Nat) → p.1.1.1 = p.1.1.1 ∧ p.1.1.2 = p.1.1.2 ∧ p.1.1.3 = p.1.1.3 ∧ p.1.1.4 = p.1.1.4 ∧ p.1.2 = p.1.2 ∧ p.1.3 = p.1.3 ∧ p.1.4 = p.1.4 ∧ p.1.5 = p.1.5 ∧ p.1.6 = p.1.6 ∧ p.1.7 = p.1.7 ∧ ((0 : Nat) = (0 : Nat) ∧ p.1.9 = p.1.9) ∧ True) ∧ ((1 : Nat) = (1 : Nat) ∧ ∀ (i : Nat), i < (1 : Nat) → (0 : Int) = (0 : Int) ∧ (0 : Int) = (0 : Int) ∧ (0 : Int) = (0 : Int) ∧ (0 : Int) = (0 : Int) ∧ True) ∧ ((1 : Nat) = (1 : Nat) ∧ ∀ (i : Nat), i < (1 : Nat) → (0 : Int) = (0 : Int) ∧ (0 : Int) = (0 : Int) ∧ (0 : Int) = (0 : Int) ∧ (0 : Int) = (0 : Int) ∧ (0 : Int) = (0 : Int) ∧ false = false ∧ True) ∧ ((1 : Nat) = (1 : Nat) ∧ ∀ (i : Nat), i < (1 : Nat) → p.2.1 = p.2.1 ∧ p.2.2 = p.2.2 ∧ p.2.3 = p.2.3 ∧ p.2.4 = p.2.4 ∧ True) ∧ ((1 : Nat) = (1 : Nat) ∧ ∀ (i : Nat), i < (1 : Nat) → p.3.1 = p.3.1 ∧ p.3.2 = p.3.2 ∧ p.3.3 = p.3.3 ∧ p.3.4 = p.3.4 ∧ p.3.5 = p.3.5 ∧ p.3.6 = p.3.6 ∧ True) ∧ (d.1 + (1 : Nat) = d.1 + (1 : Nat) ∧ ∀ (i : Nat), i < d.1 + (1 : Nat) → ((bif decide (i < d.1) then (d.2 i).1 else IntKind.i64.wrap ((1 : Int) + pickN (p.1.8 ((0 : Nat) + d.1)).1 (6 : Int))) = bif decide (i < d.1) then (d.2 i).1 else IntKind.i64.wrap ((1 : Int) + pickN (p.1.8 ((0 : Nat) + d.1)).1 (6 : Int))) ∧ ((bif decide (i < d.1) then (d.2 i).2 else if IntKind.i64.wrap (IntKind.i64.wrap ((outcome { r := p.2, c := p.3, E := d.2, n := d.1, t := d.3 : OP }).3 - (1 : Int)) + pickN (p.1.8 ((0 : Nat) + d.1)).2 (3 : Int)) > d.3 then IntKind.i64.wrap (IntKind.i64.wrap ((outcome { r := p.2, c := p.3, E := d.2, n := d.1, t := d.3 : OP }).3 - (1 : Int)) + pickN (p.1.8 ((0 : Nat) + d.1)).2 (3 : Int)) else d.3) = bif decide (i < d.1) then (d.2 i).2 else if IntKind.i64.wrap (IntKind.i64.wrap ((outcome { r := p.2, c := p.3, E := d.2, n := d.1, t := d.3 : OP }).3 - (1 : Int)) + pickN (p.1.8 ((0 : Nat) + d.1)).2 (3 : Int)) > d.3 then IntKind.i64.wrap (IntKind.i64.wrap ((outcome { r := p.2, c := p.3, E := d.2, n := d.1, t := d.3 : OP }).3 - (1 : Int)) + pickN (p.1.8 ((0 : Nat) + d.1)).2 (3 : Int)) else d.3) ∧ ((bif decide (i < d.1) then (d.2 i).3 else (0 : Int)) = bif decide (i < d.1) then (d.2 i).3 else (0 : Int)) ∧ True) ∧ True
theorem mloop_t8_t (p : MX) (d : MS) : mloop_t8 p d :=
  ⟨⟨rfl, (fun _ => (fun _ => ⟨rfl, ⟨rfl, ⟨rfl, trivial⟩⟩⟩))⟩, ⟨⟨rfl, (fun _ => (fun _ => ⟨rfl, ⟨rfl, ⟨rfl, ⟨rfl, ⟨rfl, ⟨rfl, ⟨rfl, ⟨rfl, ⟨rfl, ⟨rfl, ⟨⟨rfl, rfl⟩, trivial⟩⟩⟩⟩⟩⟩⟩⟩⟩⟩⟩))⟩, ⟨⟨rfl, (fun _ => (fun _ => ⟨rfl, ⟨rfl, ⟨rfl, ⟨rfl, trivial⟩⟩⟩⟩))⟩, ⟨⟨rfl, (fun _ => (fun _ => ⟨rfl, ⟨rfl, ⟨rfl, ⟨rfl, ⟨rfl, ⟨rfl, trivial⟩⟩⟩⟩⟩⟩))⟩, ⟨⟨rfl, (fun _ => (fun _ => ⟨rfl, ⟨rfl, ⟨rfl, ⟨rfl, trivial⟩⟩⟩⟩))⟩, ⟨⟨rfl, (fun _ => (fun _ => ⟨rfl, ⟨rfl, ⟨rfl, ⟨rfl, ⟨rfl, ⟨rfl, trivial⟩⟩⟩⟩⟩⟩))⟩, ⟨⟨rfl, (fun _ => (fun _ => ⟨rfl, ⟨rfl, ⟨rfl, trivial⟩⟩⟩))⟩, trivial⟩⟩⟩⟩⟩⟩⟩
def mloop_t9 (p : MX) (d : MS) : Prop :=
  (p.1.9 = p.1.9 ∧ ∀ (i : Nat), i < p.x.n → (p.1.8 i).1 = (p.1.8 i).1 ∧ (p.1.8 i).2 = (p.1.8 i).2 ∧ (p.1.8 i).3 = (p.1.8 i).3 ∧ True) ∧ ((1 : Nat) = (1 : Nat) ∧ ∀ (i : Nat), i < (1 : Nat) → p.1.1.1 = p.1.1.1 ∧ p.1.1.2 = p.1.1.2 ∧ p.1.1.3 = p.1.1.3 ∧ p.1.1.4 = p.1.1.4 ∧ p.1.2 = p.1.2 ∧ p.1.3 = p.1.3 ∧ p.1.4 = p.1.4 ∧ p.1.5 = p.1.5 ∧ p.1.6 = p.1.6 ∧ p.1.7 = p.1.7 ∧ ((0 : Nat) = (0 : Nat) ∧ p.1.9 = p.1.9) ∧ True) ∧ ((1 : Nat) = (1 : Nat) ∧ ∀ (i : Nat), i < (1 : Nat) → (0 : Int) = (0 : Int) ∧ (0 : Int) = (0 : Int) ∧ (0 : Int) = (0 : Int) ∧ (0 : Int) = (0 : Int) ∧ True) ∧ ((1 : Nat) = (1 : Nat) ∧ ∀ (i : Nat), i < (1 : Nat) → (0 : Int) = (0 : Int) ∧ (0 : Int) = (0 : Int) ∧ (0 : Int) = (0 : Int) ∧ (0 : Int) = (0 : Int) ∧ (0 : Int) = (0 : Int) ∧ false = false ∧ True) ∧ ((1 : Nat) = (1 : Nat) ∧ ∀ (i : Nat), i < (1 : Nat) → p.2.1 = p.2.1 ∧ p.2.2 = p.2.2 ∧ p.2.3 = p.2.3 ∧ p.2.4 = p.2.4 ∧ True) ∧ ((1 : Nat) = (1 : Nat) ∧ ∀ (i : Nat), i < (1 : Nat) → p.3.1 = p.3.1 ∧ p.3.2 = p.3.2 ∧ p.3.3 = p.3.3 ∧ p.3.4 = p.3.4 ∧ p.3.5 = p.3.5 ∧ p.3.6 = p.3.6 ∧ True) ∧ (d.1 + (1 : Nat) = d.1 + (1 : Nat) ∧ ∀ (i : Nat), i < d.1 + (1 : Nat) → ((bif decide (i < d.1) then (d.2 i).1 else IntKind.i64.wrap ((1 : Int) + pickN (p.1.8 ((0 : Nat) + d.1)).1 (6 : Int))) = bif decide (i < d.1) then (d.2 i).1 else IntKind.i64.wrap ((1 : Int) + pickN (p.1.8 ((0 : Nat) + d.1)).1 (6 : Int))) ∧ ((bif decide (i < d.1) then (d.2 i).2 else IntKind.i64.wrap (d.3 + pickN (p.1.8 ((0 : Nat) + d.1)).2 (4 : Int))) = bif decide (i < d.1) then (d.2 i).2 else IntKind.i64.wrap (d.3 + pickN (p.1.8 ((0 : Nat) + d.1)).2 (4 : Int))) ∧ ((bif decide (i < d.1) then (d.2 i).3 else IntKind.i64.wrap ((1 : Int) + pickN (p.1.8 ((0 : Nat) + d.1)).3 (4 : Int))) = bif decide (i < d.1) then (d.2 i).3 else IntKind.i64.wrap ((1 : Int) + pickN (p.1.8 ((0 : Nat) + d.1)).3 (4 : Int))) ∧ True) ∧ True
theorem mloop_t9_t (p : MX) (d : MS) : mloop_t9 p d :=
  ⟨⟨rfl, (fun _ => (fun _ => ⟨rfl, ⟨rfl, ⟨rfl, trivial⟩⟩⟩))⟩, ⟨⟨rfl, (fun _ => (fun _ => ⟨rfl, ⟨rfl, ⟨rfl, ⟨rfl, ⟨rfl, ⟨rfl, ⟨rfl, ⟨rfl, ⟨rfl, ⟨rfl, ⟨⟨rfl, rfl⟩, trivial⟩⟩⟩⟩⟩⟩⟩⟩⟩⟩⟩))⟩, ⟨⟨rfl, (fun _ => (fun _ => ⟨rfl, ⟨rfl, ⟨rfl, ⟨rfl, trivial⟩⟩⟩⟩))⟩, ⟨⟨rfl, (fun _ => (fun _ => ⟨rfl, ⟨rfl, ⟨rfl, ⟨rfl, ⟨rfl, ⟨rfl, trivial⟩⟩⟩⟩⟩⟩))⟩, ⟨⟨rfl, (fun _ => (fun _ => ⟨rfl, ⟨rfl, ⟨rfl, ⟨rfl, trivial⟩⟩⟩⟩))⟩, ⟨⟨rfl, (fun _ => (fun _ => ⟨rfl, ⟨rfl, ⟨rfl, ⟨rfl, ⟨rfl, ⟨rfl, trivial⟩⟩⟩⟩⟩⟩))⟩, ⟨⟨rfl, (fun _ => (fun _ => ⟨rfl, ⟨rfl, ⟨rfl, trivial⟩⟩⟩))⟩, trivial⟩⟩⟩⟩⟩⟩⟩
def mloop_t10 (p : MX) (d : MS) : Prop :=
  (p.1.9 = p.1.9 ∧ ∀ (i : Nat), i < p.x.n → (p.1.8 i).1 = (p.1.8 i).1 ∧ (p.1.8 i).2 = (p.1.8 i).2 ∧ (p.1.8 i).3 = (p.1.8 i).3 ∧ True) ∧ ((1 : Nat) = (1 : Nat) ∧ ∀ (i : Nat), i < (1 : Nat) → p.1.1.1 = p.1.1.1 ∧ p.1.1.2 = p.1.1.2 ∧ p.1.1.3 = p.1.1.3 ∧ p.1.1.4 = p.1.1.4 ∧ p.1.2 = p.1.2 ∧ p.1.3 = p.1.3 ∧ p.1.4 = p.1.4 ∧ p.1.5 = p.1.5 ∧ p.1.6 = p.1.6 ∧ p.1.7 = p.1.7 ∧ ((0 : Nat) = (0 : Nat) ∧ p.1.9 = p.1.9) ∧ True) ∧ ((1 : Nat) = (1 : Nat) ∧ ∀ (i : Nat), i < (1 : Nat) → (0 : Int) = (0 : Int) ∧ (0 : Int) = (0 : Int) ∧ (0 : Int) = (0 : Int) ∧ (0 : Int) = (0 : Int) ∧ True) ∧ ((1 : Nat) = (1 : Nat) ∧ ∀ (i : Nat), i < (1 : Nat) → (0 : Int) = (0 : Int) ∧ (0 : Int) = (0 : Int) ∧ (0 : Int) = (0 : Int) ∧ (0 : Int) = (0 : Int) ∧ (0 : Int) = (0 : Int) ∧ false = false ∧ True) ∧ ((1 : Nat) = (1 : Nat) ∧ ∀ (i : Nat), i < (1 : Nat) → p.2.1 = p.2.1 ∧ p.2.2 = p.2.2 ∧ p.2.3 = p.2.3 ∧ p.2.4 = p.2.4 ∧ True) ∧ ((1 : Nat) = (1 : Nat) ∧ ∀ (i : Nat), i < (1 : Nat) → p.3.1 = p.3.1 ∧ p.3.2 = p.3.2 ∧ p.3.3 = p.3.3 ∧ p.3.4 = p.3.4 ∧ p.3.5 = p.3.5 ∧ p.3.6 = p.3.6 ∧ True) ∧ (d.1 + (1 : Nat) = d.1 + (1 : Nat) ∧ ∀ (i : Nat), i < d.1 + (1 : Nat) → ((bif decide (i < d.1) then (d.2 i).1 else IntKind.i64.wrap ((1 : Int) + pickN (p.1.8 ((0 : Nat) + d.1)).1 (6 : Int))) = bif decide (i < d.1) then (d.2 i).1 else IntKind.i64.wrap ((1 : Int) + pickN (p.1.8 ((0 : Nat) + d.1)).1 (6 : Int))) ∧ ((bif decide (i < d.1) then (d.2 i).2 else IntKind.i64.wrap (d.3 + pickN (p.1.8 ((0 : Nat) + d.1)).2 (4 : Int))) = bif decide (i < d.1) then (d.2 i).2 else IntKind.i64.wrap (d.3 + pickN (p.1.8 ((0 : Nat) + d.1)).2 (4 : Int))) ∧ ((bif decide (i < d.1) then (d.2 i).3 else (0 : Int)) = bif decide (i < d.1) then (d.2 i).3 else (0 : Int)) ∧ True) ∧ True
theorem mloop_t10_t (p : MX) (d : MS) : mloop_t10 p d :=
  ⟨⟨rfl, (fun _ => (fun _ => ⟨rfl, ⟨rfl, ⟨rfl, trivial⟩⟩⟩))⟩, ⟨⟨rfl, (fun _ => (fun _ => ⟨rfl, ⟨rfl, ⟨rfl, ⟨rfl, ⟨rfl, ⟨rfl, ⟨rfl, ⟨rfl, ⟨rfl, ⟨rfl, ⟨⟨rfl, rfl⟩, trivial⟩⟩⟩⟩⟩⟩⟩⟩⟩⟩⟩))⟩, ⟨⟨rfl, (fun _ => (fun _ => ⟨rfl, ⟨rfl, ⟨rfl, ⟨rfl, trivial⟩⟩⟩⟩))⟩, ⟨⟨rfl, (fun _ => (fun _ => ⟨rfl, ⟨rfl, ⟨rfl, ⟨rfl, ⟨rfl, ⟨rfl, trivial⟩⟩⟩⟩⟩⟩))⟩, ⟨⟨rfl, (fun _ => (fun _ => ⟨rfl, ⟨rfl, ⟨rfl, ⟨rfl, trivial⟩⟩⟩⟩))⟩, ⟨⟨rfl, (fun _ => (fun _ => ⟨rfl, ⟨rfl, ⟨rfl, ⟨rfl, ⟨rfl, ⟨rfl, trivial⟩⟩⟩⟩⟩⟩))⟩, ⟨⟨rfl, (fun _ => (fun _ => ⟨rfl, ⟨rfl, ⟨rfl, trivial⟩⟩⟩))⟩, trivial⟩⟩⟩⟩⟩⟩⟩
def mloop_t11 (p : MX) (d : MS) : Prop :=
  (((0 : Nat) = (0 : Nat) ∧ (0 : Nat) = (0 : Nat)) ∧ ((0 : Nat) = (0 : Nat) ∧ (0 : Nat) = (0 : Nat)) ∧ ((0 : Nat) = (0 : Nat) ∧ (0 : Nat) = (0 : Nat)) ∧ ((0 : Nat) = (0 : Nat) ∧ (0 : Nat) = (0 : Nat)) ∧ d.1 = d.1 ∧ True) ∧ (p.1.9 = p.1.9 ∧ ∀ (i : Nat), i < p.x.n → (p.1.8 i).1 = (p.1.8 i).1 ∧ (p.1.8 i).2 = (p.1.8 i).2 ∧ (p.1.8 i).3 = (p.1.8 i).3 ∧ True) ∧ ((1 : Nat) = (1 : Nat) ∧ ∀ (i : Nat), i < (1 : Nat) → p.1.1.1 = p.1.1.1 ∧ p.1.1.2 = p.1.1.2 ∧ p.1.1.3 = p.1.1.3 ∧ p.1.1.4 = p.1.1.4 ∧ p.1.2 = p.1.2 ∧ p.1.3 = p.1.3 ∧ p.1.4 = p.1.4 ∧ p.1.5 = p.1.5 ∧ p.1.6 = p.1.6 ∧ p.1.7 = p.1.7 ∧ ((0 : Nat) = (0 : Nat) ∧ p.1.9 = p.1.9) ∧ True) ∧ ((1 : Nat) = (1 : Nat) ∧ ∀ (i : Nat), i < (1 : Nat) → (0 : Int) = (0 : Int) ∧ (0 : Int) = (0 : Int) ∧ (0 : Int) = (0 : Int) ∧ (0 : Int) = (0 : Int) ∧ True) ∧ ((1 : Nat) = (1 : Nat) ∧ ∀ (i : Nat), i < (1 : Nat) → (0 : Int) = (0 : Int) ∧ (0 : Int) = (0 : Int) ∧ (0 : Int) = (0 : Int) ∧ (0 : Int) = (0 : Int) ∧ (0 : Int) = (0 : Int) ∧ false = false ∧ True) ∧ ((1 : Nat) = (1 : Nat) ∧ ∀ (i : Nat), i < (1 : Nat) → p.2.1 = p.2.1 ∧ p.2.2 = p.2.2 ∧ p.2.3 = p.2.3 ∧ p.2.4 = p.2.4 ∧ True) ∧ ((1 : Nat) = (1 : Nat) ∧ ∀ (i : Nat), i < (1 : Nat) → p.3.1 = p.3.1 ∧ p.3.2 = p.3.2 ∧ p.3.3 = p.3.3 ∧ p.3.4 = p.3.4 ∧ p.3.5 = p.3.5 ∧ p.3.6 = p.3.6 ∧ True) ∧ (d.1 = d.1 ∧ ∀ (i : Nat), i < d.i → (d.2 i).1 = (d.2 i).1 ∧ (d.2 i).2 = (d.2 i).2 ∧ (d.2 i).3 = (d.2 i).3 ∧ True) ∧ True
theorem mloop_t11_t (p : MX) (d : MS) : mloop_t11 p d :=
  ⟨⟨⟨rfl, rfl⟩, ⟨⟨rfl, rfl⟩, ⟨⟨rfl, rfl⟩, ⟨⟨rfl, rfl⟩, ⟨rfl, trivial⟩⟩⟩⟩⟩, ⟨⟨rfl, (fun _ => (fun _ => ⟨rfl, ⟨rfl, ⟨rfl, trivial⟩⟩⟩))⟩, ⟨⟨rfl, (fun _ => (fun _ => ⟨rfl, ⟨rfl, ⟨rfl, ⟨rfl, ⟨rfl, ⟨rfl, ⟨rfl, ⟨rfl, ⟨rfl, ⟨rfl, ⟨⟨rfl, rfl⟩, trivial⟩⟩⟩⟩⟩⟩⟩⟩⟩⟩⟩))⟩, ⟨⟨rfl, (fun _ => (fun _ => ⟨rfl, ⟨rfl, ⟨rfl, ⟨rfl, trivial⟩⟩⟩⟩))⟩, ⟨⟨rfl, (fun _ => (fun _ => ⟨rfl, ⟨rfl, ⟨rfl, ⟨rfl, ⟨rfl, ⟨rfl, trivial⟩⟩⟩⟩⟩⟩))⟩, ⟨⟨rfl, (fun _ => (fun _ => ⟨rfl, ⟨rfl, ⟨rfl, ⟨rfl, trivial⟩⟩⟩⟩))⟩, ⟨⟨rfl, (fun _ => (fun _ => ⟨rfl, ⟨rfl, ⟨rfl, ⟨rfl, ⟨rfl, ⟨rfl, trivial⟩⟩⟩⟩⟩⟩))⟩, ⟨⟨rfl, (fun _ => (fun _ => ⟨rfl, ⟨rfl, ⟨rfl, trivial⟩⟩⟩))⟩, trivial⟩⟩⟩⟩⟩⟩⟩⟩
def mloop_T (p : MX) (d : MS) : Prop :=
  ifB (decide (Int.ofNat d.1 < Int.ofNat p.1.9) == true) (ifB (decide (Int.ofNat d.1 < (10 : Int))) (ifB (decide (Int.ofNat d.1 < (↑p.1.9 : Int))) (ifB (decide ((0 : Nat) + d.1 < p.1.9) && true) ((((0 : Int) < (6 : Int) ∧ mloop_t0 p d) ∧ (((0 : Int) < (4 : Int) ∧ mloop_t1 p d) ∧ mloop_t2 p d ∧ ifB (decide ((outcome { r := p.2, c := p.3, E := d.2, n := d.1, t := d.3 : OP }).3 > (0 : Int)) == true) (((0 : Int) < (3 : Int) ∧ mloop_t3 p d) ∧ ifB (decide (pickN (IntKind.i64.wrap ((p.1.8 ((0 : Nat) + d.1)).2.tdiv (4 : Int))) (3 : Int) > (0 : Int))) (((0 : Int) < (3 : Int) ∧ mloop_t4 p d) ∧ ifB ((IntKind.i64.wrap ((1 : Int) + pickN (p.1.8 ((0 : Nat) + d.1)).1 (6 : Int)) == (2 : Int)) == false) (ifB (IntKind.i64.wrap ((1 : Int) + pickN (p.1.8 ((0 : Nat) + d.1)).1 (6 : Int)) == (6 : Int)) (((0 : Int) < (4 : Int) ∧ mloop_t5 p d) ∧ ifB (decide (d.1 ≤ d.1) && decide ((d.1 + (1 : Nat)) * (24 : Nat) ≤ (140737488355328 : Nat))) (Leaf (d.i < p.x.n ∧ d.i < (10 : Nat)) ∧ Leaf (d.1 + (1 : Nat) = d.i + (1 : Nat) ∧ (fun (i : Nat) => { kind := bif decide (i < d.1) then (d.2 i).1 else IntKind.i64.wrap ((1 : Int) + pickN (p.1.8 ((0 : Nat) + d.1)).1 (6 : Int)), at' := bif decide (i < d.1) then (d.2 i).2 else if IntKind.i64.wrap (IntKind.i64.wrap ((outcome { r := p.2, c := p.3, E := d.2, n := d.1, t := d.3 : OP }).3 - (1 : Int)) + pickN (p.1.8 ((0 : Nat) + d.1)).2 (3 : Int)) > d.3 then IntKind.i64.wrap (IntKind.i64.wrap ((outcome { r := p.2, c := p.3, E := d.2, n := d.1, t := d.3 : OP }).3 - (1 : Int)) + pickN (p.1.8 ((0 : Nat) + d.1)).2 (3 : Int)) else d.3, reason := bif decide (i < d.1) then (d.2 i).3 else IntKind.i64.wrap ((1 : Int) + pickN (p.1.8 ((0 : Nat) + d.1)).3 (4 : Int)) : Evt }) = addE d.E d.i (newE p.r p.c d.E d.i d.last (p.x.Z d.i)) ∧ (if IntKind.i64.wrap (IntKind.i64.wrap ((outcome { r := p.2, c := p.3, E := d.2, n := d.1, t := d.3 : OP }).3 - (1 : Int)) + pickN (p.1.8 ((0 : Nat) + d.1)).2 (3 : Int)) > d.3 then IntKind.i64.wrap (IntKind.i64.wrap ((outcome { r := p.2, c := p.3, E := d.2, n := d.1, t := d.3 : OP }).3 - (1 : Int)) + pickN (p.1.8 ((0 : Nat) + d.1)).2 (3 : Int)) else d.3) = (newE p.r p.c d.E d.i d.last (p.x.Z d.i)).at') ∧ (mloop_t6 ∧ mloop_t6 ∧ mloop_t6 ∧ mloop_t6 ∧ mloop_t6 ∧ d.1 + (1 : Nat) = d.1 + (1 : Nat) ∧ ((if IntKind.i64.wrap (IntKind.i64.wrap ((outcome { r := p.2, c := p.3, E := d.2, n := d.1, t := d.3 : OP }).3 - (1 : Int)) + pickN (p.1.8 ((0 : Nat) + d.1)).2 (3 : Int)) > d.3 then IntKind.i64.wrap (IntKind.i64.wrap ((outcome { r := p.2, c := p.3, E := d.2, n := d.1, t := d.3 : OP }).3 - (1 : Int)) + pickN (p.1.8 ((0 : Nat) + d.1)).2 (3 : Int)) else d.3) = if IntKind.i64.wrap (IntKind.i64.wrap ((outcome { r := p.2, c := p.3, E := d.2, n := d.1, t := d.3 : OP }).3 - (1 : Int)) + pickN (p.1.8 ((0 : Nat) + d.1)).2 (3 : Int)) > d.3 then IntKind.i64.wrap (IntKind.i64.wrap ((outcome { r := p.2, c := p.3, E := d.2, n := d.1, t := d.3 : OP }).3 - (1 : Int)) + pickN (p.1.8 ((0 : Nat) + d.1)).2 (3 : Int)) else d.3) ∧ Int.ofNat (d.1 + (1 : Nat)) = IntKind.i64.wrap (Int.ofNat (d.1 + (1 : Nat))) ∧ True) ∧ mloop_t7 p d) False) (ifB (decide (d.1 ≤ d.1) && decide ((d.1 + (1 : Nat)) * (24 : Nat) ≤ (140737488355328 : Nat))) (Leaf (d.i < p.x.n ∧ d.i < (10 : Nat)) ∧ Leaf (d.1 + (1 : Nat) = d.i + (1 : Nat) ∧ (fun (i : Nat) => { kind := bif decide (i < d.1) then (d.2 i).1 else IntKind.i64.wrap ((1 : Int) + pickN (p.1.8 ((0 : Nat) + d.1)).1 (6 : Int)), at' := bif decide (i < d.1) then (d.2 i).2 else if IntKind.i64.wrap (IntKind.i64.wrap ((outcome { r := p.2, c := p.3, E := d.2, n := d.1, t := d.3 : OP }).3 - (1 : Int)) + pickN (p.1.8 ((0 : Nat) + d.1)).2 (3 : Int)) > d.3 then IntKind.i64.wrap (IntKind.i64.wrap ((outcome { r := p.2, c := p.3, E := d.2, n := d.1, t := d.3 : OP }).3 - (1 : Int)) + pickN (p.1.8 ((0 : Nat) + d.1)).2 (3 : Int)) else d.3, reason := bif decide (i < d.1) then (d.2 i).3 else (0 : Int) : Evt }) = addE d.E d.i (newE p.r p.c d.E d.i d.last (p.x.Z d.i)) ∧ (if IntKind.i64.wrap (IntKind.i64.wrap ((outcome { r := p.2, c := p.3, E := d.2, n := d.1, t := d.3 : OP }).3 - (1 : Int)) + pickN (p.1.8 ((0 : Nat) + d.1)).2 (3 : Int)) > d.3 then IntKind.i64.wrap (IntKind.i64.wrap ((outcome { r := p.2, c := p.3, E := d.2, n := d.1, t := d.3 : OP }).3 - (1 : Int)) + pickN (p.1.8 ((0 : Nat) + d.1)).2 (3 : Int)) else d.3) = (newE p.r p.c d.E d.i d.last (p.x.Z d.i)).at') ∧ (mloop_t6 ∧ mloop_t6 ∧ mloop_t6 ∧ mloop_t6 ∧ mloop_t6 ∧ d.1 + (1 : Nat) = d.1 + (1 : Nat) ∧ ((if IntKind.i64.wrap (IntKind.i64.wrap ((outcome { r := p.2, c := p.3, E := d.2, n := d.1, t := d.3 : OP }).3 - (1 : Int)) + pickN (p.1.8 ((0 : Nat) + d.1)).2 (3 : Int)) > d.3 then IntKind.i64.wrap (IntKind.i64.wrap ((outcome { r := p.2, c := p.3, E := d.2, n := d.1, t := d.3 : OP }).3 - (1 : Int)) + pickN (p.1.8 ((0 : Nat) + d.1)).2 (3 : Int)) else d.3) = if IntKind.i64.wrap (IntKind.i64.wrap ((outcome { r := p.2, c := p.3, E := d.2, n := d.1, t := d.3 : OP }).3 - (1 : Int)) + pickN (p.1.8 ((0 : Nat) + d.1)).2 (3 : Int)) > d.3 then IntKind.i64.wrap (IntKind.i64.wrap ((outcome { r := p.2, c := p.3, E := d.2, n := d.1, t := d.3 : OP }).3 - (1 : Int)) + pickN (p.1.8 ((0 : Nat) + d.1)).2 (3 : Int)) else d.3) ∧ Int.ofNat (d.1 + (1 : Nat)) = IntKind.i64.wrap (Int.ofNat (d.1 + (1 : Nat))) ∧ True) ∧ mloop_t8 p d) False)) (((0 : Int) < (4 : Int) ∧ mloop_t5 p d) ∧ ifB (decide (d.1 ≤ d.1) && decide ((d.1 + (1 : Nat)) * (24 : Nat) ≤ (140737488355328 : Nat))) (Leaf (d.i < p.x.n ∧ d.i < (10 : Nat)) ∧ Leaf (d.1 + (1 : Nat) = d.i + (1 : Nat) ∧ (fun (i : Nat) => { kind := bif decide (i < d.1) then (d.2 i).1 else IntKind.i64.wrap ((1 : Int) + pickN (p.1.8 ((0 : Nat) + d.1)).1 (6 : Int)), at' := bif decide (i < d.1) then (d.2 i).2 else if IntKind.i64.wrap (IntKind.i64.wrap ((outcome { r := p.2, c := p.3, E := d.2, n := d.1, t := d.3 : OP }).3 - (1 : Int)) + pickN (p.1.8 ((0 : Nat) + d.1)).2 (3 : Int)) > d.3 then IntKind.i64.wrap (IntKind.i64.wrap ((outcome { r := p.2, c := p.3, E := d.2, n := d.1, t := d.3 : OP }).3 - (1 : Int)) + pickN (p.1.8 ((0 : Nat) + d.1)).2 (3 : Int)) else d.3, reason := bif decide (i < d.1) then (d.2 i).3 else IntKind.i64.wrap ((1 : Int) + pickN (p.1.8 ((0 : Nat) + d.1)).3 (4 : Int)) : Evt }) = addE d.E d.i (newE p.r p.c d.E d.i d.last (p.x.Z d.i)) ∧ (if IntKind.i64.wrap (IntKind.i64.wrap ((outcome { r := p.2, c := p.3, E := d.2, n := d.1, t := d.3 : OP }).3 - (1 : Int)) + pickN (p.1.8 ((0 : Nat) + d.1)).2 (3 : Int)) > d.3 then IntKind.i64.wrap (IntKind.i64.wrap ((outcome { r := p.2, c := p.3, E := d.2, n := d.1, t := d.3 : OP }).3 - (1 : Int)) + pickN (p.1.8 ((0 : Nat) + d.1)).2 (3 : Int)) else d.3) = (newE p.r p.c d.E d.i d.last (p.x.Z d.i)).at') ∧ (mloop_t6 ∧ mloop_t6 ∧ mloop_t6 ∧ mloop_t6 ∧ mloop_t6 ∧ d.1 + (1 : Nat) = d.1 + (1 : Nat) ∧ ((if IntKind.i64.wrap (IntKind.i64.wrap ((outcome { r := p.2, c := p.3, E := d.2, n := d.1, t := d.3 : OP }).3 - (1 : Int)) + pickN (p.1.8 ((0 : Nat) + d.1)).2 (3 : Int)) > d.3 then IntKind.i64.wrap (IntKind.i64.wrap ((outcome { r := p.2, c := p.3, E := d.2, n := d.1, t := d.3 : OP }).3 - (1 : Int)) + pickN (p.1.8 ((0 : Nat) + d.1)).2 (3 : Int)) else d.3) = if IntKind.i64.wrap (IntKind.i64.wrap ((outcome { r := p.2, c := p.3, E := d.2, n := d.1, t := d.3 : OP }).3 - (1 : Int)) + pickN (p.1.8 ((0 : Nat) + d.1)).2 (3 : Int)) > d.3 then IntKind.i64.wrap (IntKind.i64.wrap ((outcome { r := p.2, c := p.3, E := d.2, n := d.1, t := d.3 : OP }).3 - (1 : Int)) + pickN (p.1.8 ((0 : Nat) + d.1)).2 (3 : Int)) else d.3) ∧ Int.ofNat (d.1 + (1 : Nat)) = IntKind.i64.wrap (Int.ofNat (d.1 + (1 : Nat))) ∧ True) ∧ mloop_t7 p d) False)) (ifB ((IntKind.i64.wrap ((1 : Int) + pickN (p.1.8 ((0 : Nat) + d.1)).1 (6 : Int)) == (2 : Int)) == false) (ifB (IntKind.i64.wrap ((1 : Int) + pickN (p.1.8 ((0 : Nat) + d.1)).1 (6 : Int)) == (6 : Int)) (((0 : Int) < (4 : Int) ∧ mloop_t5 p d) ∧ ifB (decide (d.1 ≤ d.1) && decide ((d.1 + (1 : Nat)) * (24 : Nat) ≤ (140737488355328 : Nat))) (Leaf (d.i < p.x.n ∧ d.i < (10 : Nat)) ∧ Leaf (d.1 + (1 : Nat) = d.i + (1 : Nat) ∧ (fun (i : Nat) => { kind := bif decide (i < d.1) then (d.2 i).1 else IntKind.i64.wrap ((1 : Int) + pickN (p.1.8 ((0 : Nat) + d.1)).1 (6 : Int)), at' := bif decide (i < d.1) then (d.2 i).2 else IntKind.i64.wrap (d.3 + pickN (p.1.8 ((0 : Nat) + d.1)).2 (4 : Int)), reason := bif decide (i < d.1) then (d.2 i).3 else IntKind.i64.wrap ((1 : Int) + pickN (p.1.8 ((0 : Nat) + d.1)).3 (4 : Int)) : Evt }) = addE d.E d.i (newE p.r p.c d.E d.i d.last (p.x.Z d.i)) ∧ IntKind.i64.wrap (d.3 + pickN (p.1.8 ((0 : Nat) + d.1)).2 (4 : Int)) = (newE p.r p.c d.E d.i d.last (p.x.Z d.i)).at') ∧ (mloop_t6 ∧ mloop_t6 ∧ mloop_t6 ∧ mloop_t6 ∧ mloop_t6 ∧ d.1 + (1 : Nat) = d.1 + (1 : Nat) ∧ IntKind.i64.wrap (d.3 + pickN (p.1.8 ((0 : Nat) + d.1)).2 (4 : Int)) = IntKind.i64.wrap (d.3 + pickN (p.1.8 ((0 : Nat) + d.1)).2 (4 : Int)) ∧ Int.ofNat (d.1 + (1 : Nat)) = IntKind.i64.wrap (Int.ofNat (d.1 + (1 : Nat))) ∧ True) ∧ mloop_t9 p d) False) (ifB (decide (d.1 ≤ d.1) && decide ((d.1 + (1 : Nat)) * (24 : Nat) ≤ (140737488355328 : Nat))) (Leaf (d.i < p.x.n ∧ d.i < (10 : Nat)) ∧ Leaf (d.1 + (1 : Nat) = d.i + (1 : Nat) ∧ (fun (i : Nat) => { kind := bif decide (i < d.1) then (d.2 i).1 else IntKind.i64.wrap ((1 : Int) + pickN (p.1.8 ((0 : Nat) + d.1)).1 (6 : Int)), at' := bif decide (i < d.1) then (d.2 i).2 else IntKind.i64.wrap (d.3 + pickN (p.1.8 ((0 : Nat) + d.1)).2 (4 : Int)), reason := bif decide (i < d.1) then (d.2 i).3 else (0 : Int) : Evt }) = addE d.E d.i (newE p.r p.c d.E d.i d.last (p.x.Z d.i)) ∧ IntKind.i64.wrap (d.3 + pickN (p.1.8 ((0 : Nat) + d.1)).2 (4 : Int)) = (newE p.r p.c d.E d.i d.last (p.x.Z d.i)).at') ∧ (mloop_t6 ∧ mloop_t6 ∧ mloop_t6 ∧ mloop_t6 ∧ mloop_t6 ∧ d.1 + (1 : Nat) = d.1 + (1 : Nat) ∧ IntKind.i64.wrap (d.3 + pickN (p.1.8 ((0 : Nat) + d.1)).2 (4 : Int)) = IntKind.i64.wrap (d.3 + pickN (p.1.8 ((0 : Nat) + d.1)).2 (4 : Int)) ∧ Int.ofNat (d.1 + (1 : Nat)) = IntKind.i64.wrap (Int.ofNat (d.1 + (1 : Nat))) ∧ True) ∧ mloop_t10 p d) False)) (((0 : Int) < (4 : Int) ∧ mloop_t5 p d) ∧ ifB (decide (d.1 ≤ d.1) && decide ((d.1 + (1 : Nat)) * (24 : Nat) ≤ (140737488355328 : Nat))) (Leaf (d.i < p.x.n ∧ d.i < (10 : Nat)) ∧ Leaf (d.1 + (1 : Nat) = d.i + (1 : Nat) ∧ (fun (i : Nat) => { kind := bif decide (i < d.1) then (d.2 i).1 else IntKind.i64.wrap ((1 : Int) + pickN (p.1.8 ((0 : Nat) + d.1)).1 (6 : Int)), at' := bif decide (i < d.1) then (d.2 i).2 else IntKind.i64.wrap (d.3 + pickN (p.1.8 ((0 : Nat) + d.1)).2 (4 : Int)), reason := bif decide (i < d.1) then (d.2 i).3 else IntKind.i64.wrap ((1 : Int) + pickN (p.1.8 ((0 : Nat) + d.1)).3 (4 : Int)) : Evt }) = addE d.E d.i (newE p.r p.c d.E d.i d.last (p.x.Z d.i)) ∧ IntKind.i64.wrap (d.3 + pickN (p.1.8 ((0 : Nat) + d.1)).2 (4 : Int)) = (newE p.r p.c d.E d.i d.last (p.x.Z d.i)).at') ∧ (mloop_t6 ∧ mloop_t6 ∧ mloop_t6 ∧ mloop_t6 ∧ mloop_t6 ∧ d.1 + (1 : Nat) = d.1 + (1 : Nat) ∧ IntKind.i64.wrap (d.3 + pickN (p.1.8 ((0 : Nat) + d.1)).2 (4 : Int)) = IntKind.i64.wrap (d.3 + pickN (p.1.8 ((0 : Nat) + d.1)).2 (4 : Int)) ∧ Int.ofNat (d.1 + (1 : Nat)) = IntKind.i64.wrap (Int.ofNat (d.1 + (1 : Nat))) ∧ True) ∧ mloop_t9 p d) False))) (ifB ((IntKind.i64.wrap ((1 : Int) + pickN (p.1.8 ((0 : Nat) + d.1)).1 (6 : Int)) == (2 : Int)) == false) (ifB (IntKind.i64.wrap ((1 : Int) + pickN (p.1.8 ((0 : Nat) + d.1)).1 (6 : Int)) == (6 : Int)) (((0 : Int) < (4 : Int) ∧ mloop_t5 p d) ∧ ifB (decide (d.1 ≤ d.1) && decide ((d.1 + (1 : Nat)) * (24 : Nat) ≤ (140737488355328 : Nat))) (Leaf (d.i < p.x.n ∧ d.i < (10 : Nat)) ∧ Leaf (d.1 + (1 : Nat) = d.i + (1 : Nat) ∧ (fun (i : Nat) => { kind := bif decide (i < d.1) then (d.2 i).1 else IntKind.i64.wrap ((1 : Int) + pickN (p.1.8 ((0 : Nat) + d.1)).1 (6 : Int)), at' := bif decide (i < d.1) then (d.2 i).2 else IntKind.i64.wrap (d.3 + pickN (p.1.8 ((0 : Nat) + d.1)).2 (4 : Int)), reason := bif decide (i < d.1) then (d.2 i).3 else IntKind.i64.wrap ((1 : Int) + pickN (p.1.8 ((0 : Nat) + d.1)).3 (4 : Int)) : Evt }) = addE d.E d.i (newE p.r p.c d.E d.i d.last (p.x.Z d.i)) ∧ IntKind.i64.wrap (d.3 + pickN (p.1.8 ((0 : Nat) + d.1)).2 (4 : Int)) = (newE p.r p.c d.E d.i d.last (p.x.Z d.i)).at') ∧ (mloop_t6 ∧ mloop_t6 ∧ mloop_t6 ∧ mloop_t6 ∧ mloop_t6 ∧ d.1 + (1 : Nat) = d.1 + (1 : Nat) ∧ IntKind.i64.wrap (d.3 + pickN (p.1.8 ((0 : Nat) + d.1)).2 (4 : Int)) = IntKind.i64.wrap (d.3 + pickN (p.1.8 ((0 : Nat) + d.1)).2 (4 : Int)) ∧ Int.ofNat (d.1 + (1 : Nat)) = IntKind.i64.wrap (Int.ofNat (d.1 + (1 : Nat))) ∧ True) ∧ mloop_t9 p d) False) (ifB (decide (d.1 ≤ d.1) && decide ((d.1 + (1 : Nat)) * (24 : Nat) ≤ (140737488355328 : Nat))) (Leaf (d.i < p.x.n ∧ d.i < (10 : Nat)) ∧ Leaf (d.1 + (1 : Nat) = d.i + (1 : Nat) ∧ (fun (i : Nat) => { kind := bif decide (i < d.1) then (d.2 i).1 else IntKind.i64.wrap ((1 : Int) + pickN (p.1.8 ((0 : Nat) + d.1)).1 (6 : Int)), at' := bif decide (i < d.1) then (d.2 i).2 else IntKind.i64.wrap (d.3 + pickN (p.1.8 ((0 : Nat) + d.1)).2 (4 : Int)), reason := bif decide (i < d.1) then (d.2 i).3 else (0 : Int) : Evt }) = addE d.E d.i (newE p.r p.c d.E d.i d.last (p.x.Z d.i)) ∧ IntKind.i64.wrap (d.3 + pickN (p.1.8 ((0 : Nat) + d.1)).2 (4 : Int)) = (newE p.r p.c d.E d.i d.last (p.x.Z d.i)).at') ∧ (mloop_t6 ∧ mloop_t6 ∧ mloop_t6 ∧ mloop_t6 ∧ mloop_t6 ∧ d.1 + (1 : Nat) = d.1 + (1 : Nat) ∧ IntKind.i64.wrap (d.3 + pickN (p.1.8 ((0 : Nat) + d.1)).2 (4 : Int)) = IntKind.i64.wrap (d.3 + pickN (p.1.8 ((0 : Nat) + d.1)).2 (4 : Int)) ∧ Int.ofNat (d.1 + (1 : Nat)) = IntKind.i64.wrap (Int.ofNat (d.1 + (1 : Nat))) ∧ True) ∧ mloop_t10 p d) False)) (((0 : Int) < (4 : Int) ∧ mloop_t5 p d) ∧ ifB (decide (d.1 ≤ d.1) && decide ((d.1 + (1 : Nat)) * (24 : Nat) ≤ (140737488355328 : Nat))) (Leaf (d.i < p.x.n ∧ d.i < (10 : Nat)) ∧ Leaf (d.1 + (1 : Nat) = d.i + (1 : Nat) ∧ (fun (i : Nat) => { kind := bif decide (i < d.1) then (d.2 i).1 else IntKind.i64.wrap ((1 : Int) + pickN (p.1.8 ((0 : Nat) + d.1)).1 (6 : Int)), at' := bif decide (i < d.1) then (d.2 i).2 else IntKind.i64.wrap (d.3 + pickN (p.1.8 ((0 : Nat) + d.1)).2 (4 : Int)), reason := bif decide (i < d.1) then (d.2 i).3 else IntKind.i64.wrap ((1 : Int) + pickN (p.1.8 ((0 : Nat) + d.1)).3 (4 : Int)) : Evt }) = addE d.E d.i (newE p.r p.c d.E d.i d.last (p.x.Z d.i)) ∧ IntKind.i64.wrap (d.3 + pickN (p.1.8 ((0 : Nat) + d.1)).2 (4 : Int)) = (newE p.r p.c d.E d.i d.last (p.x.Z d.i)).at') ∧ (mloop_t6 ∧ mloop_t6 ∧ mloop_t6 ∧ mloop_t6 ∧ mloop_t6 ∧ d.1 + (1 : Nat) = d.1 + (1 : Nat) ∧ IntKind.i64.wrap (d.3 + pickN (p.1.8 ((0 : Nat) + d.1)).2 (4 : Int)) = IntKind.i64.wrap (d.3 + pickN (p.1.8 ((0 : Nat) + d.1)).2 (4 : Int)) ∧ Int.ofNat (d.1 + (1 : Nat)) = IntKind.i64.wrap (Int.ofNat (d.1 + (1 : Nat))) ∧ True) ∧ mloop_t9 p d) False))) ∧ ((0 : Int) < (4 : Int) ∧ mloop_t1 p d) ∧ mloop_t2 p d ∧ ifB (decide ((outcome { r := p.2, c := p.3, E := d.2, n := d.1, t := d.3 : OP }).3 > (0 : Int)) == true) (((0 : Int) < (3 : Int) ∧ mloop_t3 p d) ∧ ifB (decide (pickN (IntKind.i64.wrap ((p.1.8 ((0 : Nat) + d.1)).2.tdiv (4 : Int))) (3 : Int) > (0 : Int))) (((0 : Int) < (3 : Int) ∧ mloop_t4 p d) ∧ ifB ((IntKind.i64.wrap ((1 : Int) + pickN (p.1.8 ((0 : Nat) + d.1)).1 (6 : Int)) == (2 : Int)) == false) (ifB (IntKind.i64.wrap ((1 : Int) + pickN (p.1.8 ((0 : Nat) + d.1)).1 (6 : Int)) == (6 : Int)) (((0 : Int) < (4 : Int) ∧ mloop_t5 p d) ∧ ifB (decide (d.1 ≤ d.1) && decide ((d.1 + (1 : Nat)) * (24 : Nat) ≤ (140737488355328 : Nat))) (Leaf (d.i < p.x.n ∧ d.i < (10 : Nat)) ∧ Leaf (d.1 + (1 : Nat) = d.i + (1 : Nat) ∧ (fun (i : Nat) => { kind := bif decide (i < d.1) then (d.2 i).1 else IntKind.i64.wrap ((1 : Int) + pickN (p.1.8 ((0 : Nat) + d.1)).1 (6 : Int)), at' := bif decide (i < d.1) then (d.2 i).2 else if IntKind.i64.wrap (IntKind.i64.wrap ((outcome { r := p.2, c := p.3, E := d.2, n := d.1, t := d.3 : OP }).3 - (1 : Int)) + pickN (p.1.8 ((0 : Nat) + d.1)).2 (3 : Int)) > d.3 then IntKind.i64.wrap (IntKind.i64.wrap ((outcome { r := p.2, c := p.3, E := d.2, n := d.1, t := d.3 : OP }).3 - (1 : Int)) + pickN (p.1.8 ((0 : Nat) + d.1)).2 (3 : Int)) else d.3, reason := bif decide (i < d.1) then (d.2 i).3 else IntKind.i64.wrap ((1 : Int) + pickN (p.1.8 ((0 : Nat) + d.1)).3 (4 : Int)) : Evt }) = addE d.E d.i (newE p.r p.c d.E d.i d.last (p.x.Z d.i)) ∧ (if IntKind.i64.wrap (IntKind.i64.wrap ((outcome { r := p.2, c := p.3, E := d.2, n := d.1, t := d.3 : OP }).3 - (1 : Int)) + pickN (p.1.8 ((0 : Nat) + d.1)).2 (3 : Int)) > d.3 then IntKind.i64.wrap (IntKind.i64.wrap ((outcome { r := p.2, c := p.3, E := d.2, n := d.1, t := d.3 : OP }).3 - (1 : Int)) + pickN (p.1.8 ((0 : Nat) + d.1)).2 (3 : Int)) else d.3) = (newE p.r p.c d.E d.i d.last (p.x.Z d.i)).at') ∧ (mloop_t6 ∧ mloop_t6 ∧ mloop_t6 ∧ mloop_t6 ∧ mloop_t6 ∧ d.1 + (1 : Nat) = d.1 + (1 : Nat) ∧ ((if IntKind.i64.wrap (IntKind.i64.wrap ((outcome { r := p.2, c := p.3, E := d.2, n := d.1, t := d.3 : OP }).3 - (1 : Int)) + pickN (p.1.8 ((0 : Nat) + d.1)).2 (3 : Int)) > d.3 then IntKind.i64.wrap (IntKind.i64.wrap ((outcome { r := p.2, c := p.3, E := d.2, n := d.1, t := d.3 : OP }).3 - (1 : Int)) + pickN (p.1.8 ((0 : Nat) + d.1)).2 (3 : Int)) else d.3) = if IntKind.i64.wrap (IntKind.i64.wrap ((outcome { r := p.2, c := p.3, E := d.2, n := d.1, t := d.3 : OP }).3 - (1 : Int)) + pickN (p.1.8 ((0 : Nat) + d.1)).2 (3 : Int)) > d.3 then IntKind.i64.wrap (IntKind.i64.wrap ((outcome { r := p.2, c := p.3, E := d.2, n := d.1, t := d.3 : OP }).3 - (1 : Int)) + pickN (p.1.8 ((0 : Nat) + d.1)).2 (3 : Int)) else d.3) ∧ Int.ofNat (d.1 + (1 : Nat)) = IntKind.i64.wrap (Int.ofNat (d.1 + (1 : Nat))) ∧ True) ∧ mloop_t7 p d) False) (ifB (decide (d.1 ≤ d.1) && decide ((d.1 + (1 : Nat)) * (24 : Nat) ≤ (140737488355328 : Nat))) (Leaf (d.i < p.x.n ∧ d.i < (10 : Nat)) ∧ Leaf (d.1 + (1 : Nat) = d.i + (1 : Nat) ∧ (fun (i : Nat) => { kind := bif decide (i < d.1) then (d.2 i).1 else IntKind.i64.wrap ((1 : Int) + pickN (p.1.8 ((0 : Nat) + d.1)).1 (6 : Int)), at' := bif decide (i < d.1) then (d.2 i).2 else if IntKind.i64.wrap (IntKind.i64.wrap ((outcome { r := p.2, c := p.3, E := d.2, n := d.1, t := d.3 : OP }).3 - (1 : Int)) + pickN (p.1.8 ((0 : Nat) + d.1)).2 (3 : Int)) > d.3 then IntKind.i64.wrap (IntKind.i64.wrap ((outcome { r := p.2, c := p.3, E := d.2, n := d.1, t := d.3 : OP }).3 - (1 : Int)) + pickN (p.1.8 ((0 : Nat) + d.1)).2 (3 : Int)) else d.3, reason := bif decide (i < d.1) then (d.2 i).3 else (0 : Int) : Evt }) = addE d.E d.i (newE p.r p.c d.E d.i d.last (p.x.Z d.i)) ∧ (if IntKind.i64.wrap (IntKind.i64.wrap ((outcome { r := p.2, c := p.3, E := d.2, n := d.1, t := d.3 : OP }).3 - (1 : Int)) + pickN (p.1.8 ((0 : Nat) + d.1)).2 (3 : Int)) > d.3 then IntKind.i64.wrap (IntKind.i64.wrap ((outcome { r := p.2, c := p.3, E := d.2, n := d.1, t := d.3 : OP }).3 - (1 : Int)) + pickN (p.1.8 ((0 : Nat) + d.1)).2 (3 : Int)) else d.3) = (newE p.r p.c d.E d.i d.last (p.x.Z d.i)).at') ∧ (mloop_t6 ∧ mloop_t6 ∧ mloop_t6 ∧ mloop_t6 ∧ mloop_t6 ∧ d.1 + (1 : Nat) = d.1 + (1 : Nat) ∧ ((if IntKind.i64.wrap (IntKind.i64.wrap ((outcome { r := p.2, c := p.3, E := d.2, n := d.1, t := d.3 : OP }).3 - (1 : Int)) + pickN (p.1.8 ((0 : Nat) + d.1)).2 (3 : Int)) > d.3 then IntKind.i64.wrap (IntKind.i64.wrap ((outcome { r := p.2, c := p.3, E := d.2, n := d.1, t := d.3 : OP }).3 - (1 : Int)) + pickN (p.1.8 ((0 : Nat) + d.1)).2 (3 : Int)) else d.3) = if IntKind.i64.wrap (IntKind.i64.wrap ((outcome { r := p.2, c := p.3, E := d.2, n := d.1, t := d.3 : OP }).3 - (1 : Int)) + pickN (p.1.8 ((0 : Nat) + d.1)).2 (3 : Int)) > d.3 then IntKind.i64.wrap (IntKind.i64.wrap ((outcome { r := p.2, c := p.3, E := d.2, n := d.1, t := d.3 : OP }).3 - (1 : Int)) + pickN (p.1.8 ((0 : Nat) + d.1)).2 (3 : Int)) else d.3) ∧ Int.ofNat (d.1 + (1 : Nat)) = IntKind.i64.wrap (Int.ofNat (d.1 + (1 : Nat))) ∧ True) ∧ mloop_t8 p d) False)) (((0 : Int) < (4 : Int) ∧ mloop_t5 p d) ∧ ifB (decide (d.1 ≤ d.1) && decide ((d.1 + (1 : Nat)) * (24 : Nat) ≤ (140737488355328 : Nat))) (Leaf (d.i < p.x.n ∧ d.i < (10 : Nat)) ∧ Leaf (d.1 + (1 : Nat) = d.i + (1 : Nat) ∧ (fun (i : Nat) => { kind := bif decide (i < d.1) then (d.2 i).1 else IntKind.i64.wrap ((1 : Int) + pickN (p.1.8 ((0 : Nat) + d.1)).1 (6 : Int)), at' := bif decide (i < d.1) then (d.2 i).2 else if IntKind.i64.wrap (IntKind.i64.wrap ((outcome { r := p.2, c := p.3, E := d.2, n := d.1, t := d.3 : OP }).3 - (1 : Int)) + pickN (p.1.8 ((0 : Nat) + d.1)).2 (3 : Int)) > d.3 then IntKind.i64.wrap (IntKind.i64.wrap ((outcome { r := p.2, c := p.3, E := d.2, n := d.1, t := d.3 : OP }).3 - (1 : Int)) + pickN (p.1.8 ((0 : Nat) + d.1)).2 (3 : Int)) else d.3, reason := bif decide (i < d.1) then (d.2 i).3 else IntKind.i64.wrap ((1 : Int) + pickN (p.1.8 ((0 : Nat) + d.1)).3 (4 : Int)) : Evt }) = addE d.E d.i (newE p.r p.c d.E d.i d.last (p.x.Z d.i)) ∧ (if IntKind.i64.wrap (IntKind.i64.wrap ((outcome { r := p.2, c := p.3, E := d.2, n := d.1, t := d.3 : OP }).3 - (1 : Int)) + pickN (p.1.8 ((0 : Nat) + d.1)).2 (3 : Int)) > d.3 then IntKind.i64.wrap (IntKind.i64.wrap ((outcome { r := p.2, c := p.3, E := d.2, n := d.1, t := d.3 : OP }).3 - (1 : Int)) + pickN (p.1.8 ((0 : Nat) + d.1)).2 (3 : Int)) else d.3) = (newE p.r p.c d.E d.i d.last (p.x.Z d.i)).at') ∧ (mloop_t6 ∧ mloop_t6 ∧ mloop_t6 ∧ mloop_t6 ∧ mloop_t6 ∧ d.1 + (1 : Nat) = d.1 + (1 : Nat) ∧ ((if IntKind.i64.wrap (IntKind.i64.wrap ((outcome { r := p.2, c := p.3, E := d.2, n := d.1, t := d.3 : OP }).3 - (1 : Int)) + pickN (p.1.8 ((0 : Nat) + d.1)).2 (3 : Int)) > d.3 then IntKind.i64.wrap (IntKind.i64.wrap ((outcome { r := p.2, c := p.3, E := d.2, n := d.1, t := d.3 : OP }).3 - (1 : Int)) + pickN (p.1.8 ((0 : Nat) + d.1)).2 (3 : Int)) else d.3) = if IntKind.i64.wrap (IntKind.i64.wrap ((outcome { r := p.2, c := p.3, E := d.2, n := d.1, t := d.3 : OP }).3 - (1 : Int)) + pickN (p.1.8 ((0 : Nat) + d.1)).2 (3 : Int)) > d.3 then IntKind.i64.wrap (IntKind.i64.wrap ((outcome { r := p.2, c := p.3, E := d.2, n := d.1, t := d.3 : OP }).3 - (1 : Int)) + pickN (p.1.8 ((0 : Nat) + d.1)).2 (3 : Int)) else d.3) ∧ Int.ofNat (d.1 + (1 : Nat)) = IntKind.i64.wrap (Int.ofNat (d.1 + (1 : Nat))) ∧ True) ∧ mloop_t7 p d) False)) (ifB ((IntKind.i64.wrap ((1 : Int) + pickN (p.1.8 ((0 : Nat) + d.1)).1 (6 : Int)) == (2 : Int)) == false) (ifB (IntKind.i64.wrap ((1 : Int) + pickN (p.1.8 ((0 : Nat) + d.1)).1 (6 : Int)) == (6 : Int)) (((0 : Int) < (4 : Int) ∧ mloop_t5 p d) ∧ ifB (decide (d.1 ≤ d.1) && decide ((d.1 + (1 : Nat)) * (24 : Nat) ≤ (140737488355328 : Nat))) (Leaf (d.i < p.x.n ∧ d.i < (10 : Nat)) ∧ Leaf (d.1 + (1 : Nat) = d.i + (1 : Nat) ∧ (fun (i : Nat) => { kind := bif decide (i < d.1) then (d.2 i).1 else IntKind.i64.wrap ((1 : Int) + pickN (p.1.8 ((0 : Nat) + d.1)).1 (6 : Int)), at' := bif decide (i < d.1) then (d.2 i).2 else IntKind.i64.wrap (d.3 + pickN (p.1.8 ((0 : Nat) + d.1)).2 (4 : Int)), reason := bif decide (i < d.1) then (d.2 i).3 else IntKind.i64.wrap ((1 : Int) + pickN (p.1.8 ((0 : Nat) + d.1)).3 (4 : Int)) : Evt }) = addE d.E d.i (newE p.r p.c d.E d.i d.last (p.x.Z d.i)) ∧ IntKind.i64.wrap (d.3 + pickN (p.1.8 ((0 : Nat) + d.1)).2 (4 : Int)) = (newE p.r p.c d.E d.i d.last (p.x.Z d.i)).at') ∧ (mloop_t6 ∧ mloop_t6 ∧ mloop_t6 ∧ mloop_t6 ∧ mloop_t6 ∧ d.1 + (1 : Nat) = d.1 + (1 : Nat) ∧ IntKind.i64.wrap (d.3 + pickN (p.1.8 ((0 : Nat) + d.1)).2 (4 : Int)) = IntKind.i64.wrap (d.3 + pickN (p.1.8 ((0 : Nat) + d.1)).2 (4 : Int)) ∧ Int.ofNat (d.1 + (1 : Nat)) = IntKind.i64.wrap (Int.ofNat (d.1 + (1 : Nat))) ∧ True) ∧ mloop_t9 p d) False) (ifB (decide (d.1 ≤ d.1) && decide ((d.1 + (1 : Nat)) * (24 : Nat) ≤ (140737488355328 : Nat))) (Leaf (d.i < p.x.n ∧ d.i < (10 : Nat)) ∧ Leaf (d.1 + (1 : Nat) = d.i + (1 : Nat) ∧ (fun (i : Nat) => { kind := bif decide (i < d.1) then (d.2 i).1 else IntKind.i64.wrap ((1 : Int) + pickN (p.1.8 ((0 : Nat) + d.1)).1 (6 : Int)), at' := bif decide (i < d.1) then (d.2 i).2 else IntKind.i64.wrap (d.3 + pickN (p.1.8 ((0 : Nat) + d.1)).2 (4 : Int)), reason := bif decide (i < d.1) then (d.2 i).3 else (0 : Int) : Evt }) = addE d.E d.i (newE p.r p.c d.E d.i d.last (p.x.Z d.i)) ∧ IntKind.i64.wrap (d.3 + pickN (p.1.8 ((0 : Nat) + d.1)).2 (4 : Int)) = (newE p.r p.c d.E d.i d.last (p.x.Z d.i)).at') ∧ (mloop_t6 ∧ mloop_t6 ∧ mloop_t6 ∧ mloop_t6 ∧ mloop_t6 ∧ d.1 + (1 : Nat) = d.1 + (1 : Nat) ∧ IntKind.i64.wrap (d.3 + pickN (p.1.8 ((0 : Nat) + d.1)).2 (4 : Int)) = IntKind.i64.wrap (d.3 + pickN (p.1.8 ((0 : Nat) + d.1)).2 (4 : Int)) ∧ Int.ofNat (d.1 + (1 : Nat)) = IntKind.i64.wrap (Int.ofNat (d.1 + (1 : Nat))) ∧ True) ∧ mloop_t10 p d) False)) (((0 : Int) < (4 : Int) ∧ mloop_t5 p d) ∧ ifB (decide (d.1 ≤ d.1) && decide ((d.1 + (1 : Nat)) * (24 : Nat) ≤ (140737488355328 : Nat))) (Leaf (d.i < p.x.n ∧ d.i < (10 : Nat)) ∧ Leaf (d.1 + (1 : Nat) = d.i + (1 : Nat) ∧ (fun (i : Nat) => { kind := bif decide (i < d.1) then (d.2 i).1 else IntKind.i64.wrap ((1 : Int) + pickN (p.1.8 ((0 : Nat) + d.1)).1 (6 : Int)), at' := bif decide (i < d.1) then (d.2 i).2 else IntKind.i64.wrap (d.3 + pickN (p.1.8 ((0 : Nat) + d.1)).2 (4 : Int)), reason := bif decide (i < d.1) then (d.2 i).3 else IntKind.i64.wrap ((1 : Int) + pickN (p.1.8 ((0 : Nat) + d.1)).3 (4 : Int)) : Evt }) = addE d.E d.i (newE p.r p.c d.E d.i d.last (p.x.Z d.i)) ∧ IntKind.i64.wrap (d.3 + pickN (p.1.8 ((0 : Nat) + d.1)).2 (4 : Int)) = (newE p.r p.c d.E d.i d.last (p.x.Z d.i)).at') ∧ (mloop_t6 ∧ mloop_t6 ∧ mloop_t6 ∧ mloop_t6 ∧ mloop_t6 ∧ d.1 + (1 : Nat) = d.1 + (1 : Nat) ∧ IntKind.i64.wrap (d.3 + pickN (p.1.8 ((0 : Nat) + d.1)).2 (4 : Int)) = IntKind.i64.wrap (d.3 + pickN (p.1.8 ((0 : Nat) + d.1)).2 (4 : Int)) ∧ Int.ofNat (d.1 + (1 : Nat)) = IntKind.i64.wrap (Int.ofNat (d.1 + (1 : Nat))) ∧ True) ∧ mloop_t9 p d) False))) (ifB ((IntKind.i64.wrap ((1 : Int) + pickN (p.1.8 ((0 : Nat) + d.1)).1 (6 : Int)) == (2 : Int)) == false) (ifB (IntKind.i64.wrap ((1 : Int) + pickN (p.1.8 ((0 : Nat) + d.1)).1 (6 : Int)) == (6 : Int)) (((0 : Int) < (4 : Int) ∧ mloop_t5 p d) ∧ ifB (decide (d.1 ≤ d.1) && decide ((d.1 + (1 : Nat)) * (24 : Nat) ≤ (140737488355328 : Nat))) (Leaf (d.i < p.x.n ∧ d.i < (10 : Nat)) ∧ Leaf (d.1 + (1 : Nat) = d.i + (1 : Nat) ∧ (fun (i : Nat) => { kind := bif decide (i < d.1) then (d.2 i).1 else IntKind.i64.wrap ((1 : Int) + pickN (p.1.8 ((0 : Nat) + d.1)).1 (6 : Int)), at' := bif decide (i < d.1) then (d.2 i).2 else IntKind.i64.wrap (d.3 + pickN (p.1.8 ((0 : Nat) + d.1)).2 (4 : Int)), reason := bif decide (i < d.1) then (d.2 i).3 else IntKind.i64.wrap ((1 : Int) + pickN (p.1.8 ((0 : Nat) + d.1)).3 (4 : Int)) : Evt }) = addE d.E d.i (newE p.r p.c d.E d.i d.last (p.x.Z d.i)) ∧ IntKind.i64.wrap (d.3 + pickN (p.1.8 ((0 : Nat) + d.1)).2 (4 : Int)) = (newE p.r p.c d.E d.i d.last (p.x.Z d.i)).at') ∧ (mloop_t6 ∧ mloop_t6 ∧ mloop_t6 ∧ mloop_t6 ∧ mloop_t6 ∧ d.1 + (1 : Nat) = d.1 + (1 : Nat) ∧ IntKind.i64.wrap (d.3 + pickN (p.1.8 ((0 : Nat) + d.1)).2 (4 : Int)) = IntKind.i64.wrap (d.3 + pickN (p.1.8 ((0 : Nat) + d.1)).2 (4 : Int)) ∧ Int.ofNat (d.1 + (1 : Nat)) = IntKind.i64.wrap (Int.ofNat (d.1 + (1 : Nat))) ∧ True) ∧ mloop_t9 p d) False) (ifB (decide (d.1 ≤ d.1) && decide ((d.1 + (1 : Nat)) * (24 : Nat) ≤ (140737488355328 : Nat))) (Leaf (d.i < p.x.n ∧ d.i < (10 : Nat)) ∧ Leaf (d.1 + (1 : Nat) = d.i + (1 : Nat) ∧ (fun (i : Nat) => { kind := bif decide (i < d.1) then (d.2 i).1 else IntKind.i64.wrap ((1 : Int) + pickN (p.1.8 ((0 : Nat) + d.1)).1 (6 : Int)), at' := bif decide (i < d.1) then (d.2 i).2 else IntKind.i64.wrap (d.3 + pickN (p.1.8 ((0 : Nat) + d.1)).2 (4 : Int)), reason := bif decide (i < d.1) then (d.2 i).3 else (0 : Int) : Evt }) = addE d.E d.i (newE p.r p.c d.E d.i d.last (p.x.Z d.i)) ∧ IntKind.i64.wrap (d.3 + pickN (p.1.8 ((0 : Nat) + d.1)).2 (4 : Int)) = (newE p.r p.c d.E d.i d.last (p.x.Z d.i)).at') ∧ (mloop_t6 ∧ mloop_t6 ∧ mloop_t6 ∧ mloop_t6 ∧ mloop_t6 ∧ d.1 + (1 : Nat) = d.1 + (1 : Nat) ∧ IntKind.i64.wrap (d.3 + pickN (p.1.8 ((0 : Nat) + d.1)).2 (4 : Int)) = IntKind.i64.wrap (d.3 + pickN (p.1.8 ((0 : Nat) + d.1)).2 (4 : Int)) ∧ Int.ofNat (d.1 + (1 : Nat)) = IntKind.i64.wrap (Int.ofNat (d.1 + (1 : Nat))) ∧ True) ∧ mloop_t10 p d) False)) (((0 : Int) < (4 : Int) ∧ mloop_t5 p d) ∧ ifB (decide (d.1 ≤ d.1) && decide ((d.1 + (1 : Nat)) * (24 : Nat) ≤ (140737488355328 : Nat))) (Leaf (d.i < p.x.n ∧ d.i < (10 : Nat)) ∧ Leaf (d.1 + (1 : Nat) = d.i + (1 : Nat) ∧ (fun (i : Nat) => { kind := bif decide (i < d.1) then (d.2 i).1 else IntKind.i64.wrap ((1 : Int) + pickN (p.1.8 ((0 : Nat) + d.1)).1 (6 : Int)), at' := bif decide (i < d.1) then (d.2 i).2 else IntKind.i64.wrap (d.3 + pickN (p.1.8 ((0 : Nat) + d.1)).2 (4 : Int)), reason := bif decide (i < d.1) then (d.2 i).3 else IntKind.i64.wrap ((1 : Int) + pickN (p.1.8 ((0 : Nat) + d.1)).3 (4 : Int)) : Evt }) = addE d.E d.i (newE p.r p.c d.E d.i d.last (p.x.Z d.i)) ∧ IntKind.i64.wrap (d.3 + pickN (p.1.8 ((0 : Nat) + d.1)).2 (4 : Int)) = (newE p.r p.c d.E d.i d.last (p.x.Z d.i)).at') ∧ (mloop_t6 ∧ mloop_t6 ∧ mloop_t6 ∧ mloop_t6 ∧ mloop_t6 ∧ d.1 + (1 : Nat) = d.1 + (1 : Nat) ∧ IntKind.i64.wrap (d.3 + pickN (p.1.8 ((0 : Nat) + d.1)).2 (4 : Int)) = IntKind.i64.wrap (d.3 + pickN (p.1.8 ((0 : Nat) + d.1)).2 (4 : Int)) ∧ Int.ofNat (d.1 + (1 : Nat)) = IntKind.i64.wrap (Int.ofNat (d.1 + (1 : Nat))) ∧ True) ∧ mloop_t9 p d) False))) ∧ ((0 : Int) < (6 : Int) ∧ mloop_t0 p d) ∧ ((0 : Int) < (4 : Int) ∧ mloop_t1 p d) ∧ mloop_t2 p d ∧ ifB (decide ((outcome { r := p.2, c := p.3, E := d.2, n := d.1, t := d.3 : OP }).3 > (0 : Int)) == true) (((0 : Int) < (3 : Int) ∧ mloop_t3 p d) ∧ ifB (decide (pickN (IntKind.i64.wrap ((p.1.8 ((0 : Nat) + d.1)).2.tdiv (4 : Int))) (3 : Int) > (0 : Int))) (((0 : Int) < (3 : Int) ∧ mloop_t4 p d) ∧ ifB ((IntKind.i64.wrap ((1 : Int) + pickN (p.1.8 ((0 : Nat) + d.1)).1 (6 : Int)) == (2 : Int)) == false) (ifB (IntKind.i64.wrap ((1 : Int) + pickN (p.1.8 ((0 : Nat) + d.1)).1 (6 : Int)) == (6 : Int)) (((0 : Int) < (4 : Int) ∧ mloop_t5 p d) ∧ ifB (decide (d.1 ≤ d.1) && decide ((d.1 + (1 : Nat)) * (24 : Nat) ≤ (140737488355328 : Nat))) (Leaf (d.i < p.x.n ∧ d.i < (10 : Nat)) ∧ Leaf (d.1 + (1 : Nat) = d.i + (1 : Nat) ∧ (fun (i : Nat) => { kind := bif decide (i < d.1) then (d.2 i).1 else IntKind.i64.wrap ((1 : Int) + pickN (p.1.8 ((0 : Nat) + d.1)).1 (6 : Int)), at' := bif decide (i < d.1) then (d.2 i).2 else if IntKind.i64.wrap (IntKind.i64.wrap ((outcome { r := p.2, c := p.3, E := d.2, n := d.1, t := d.3 : OP }).3 - (1 : Int)) + pickN (p.1.8 ((0 : Nat) + d.1)).2 (3 : Int)) > d.3 then IntKind.i64.wrap (IntKind.i64.wrap ((outcome { r := p.2, c := p.3, E := d.2, n := d.1, t := d.3 : OP }).3 - (1 : Int)) + pickN (p.1.8 ((0 : Nat) + d.1)).2 (3 : Int)) else d.3, reason := bif decide (i < d.1) then (d.2 i).3 else IntKind.i64.wrap ((1 : Int) + pickN (p.1.8 ((0 : Nat) + d.1)).3 (4 : Int)) : Evt }) = addE d.E d.i (newE p.r p.c d.E d.i d.last (p.x.Z d.i)) ∧ (if IntKind.i64.wrap (IntKind.i64.wrap ((outcome { r := p.2, c := p.3, E := d.2, n := d.1, t := d.3 : OP }).3 - (1 : Int)) + pickN (p.1.8 ((0 : Nat) + d.1)).2 (3 : Int)) > d.3 then IntKind.i64.wrap (IntKind.i64.wrap ((outcome { r := p.2, c := p.3, E := d.2, n := d.1, t := d.3 : OP }).3 - (1 : Int)) + pickN (p.1.8 ((0 : Nat) + d.1)).2 (3 : Int)) else d.3) = (newE p.r p.c d.E d.i d.last (p.x.Z d.i)).at') ∧ (mloop_t6 ∧ mloop_t6 ∧ mloop_t6 ∧ mloop_t6 ∧ mloop_t6 ∧ d.1 + (1 : Nat) = d.1 + (1 : Nat) ∧ ((if IntKind.i64.wrap (IntKind.i64.wrap ((outcome { r := p.2, c := p.3, E := d.2, n := d.1, t := d.3 : OP }).3 - (1 : Int)) + pickN (p.1.8 ((0 : Nat) + d.1)).2 (3 : Int)) > d.3 then IntKind.i64.wrap (IntKind.i64.wrap ((outcome { r := p.2, c := p.3, E := d.2, n := d.1, t := d.3 : OP }).3 - (1 : Int)) + pickN (p.1.8 ((0 : Nat) + d.1)).2 (3 : Int)) else d.3) = if IntKind.i64.wrap (IntKind.i64.wrap ((outcome { r := p.2, c := p.3, E := d.2, n := d.1, t := d.3 : OP }).3 - (1 : Int)) + pickN (p.1.8 ((0 : Nat) + d.1)).2 (3 : Int)) > d.3 then IntKind.i64.wrap (IntKind.i64.wrap ((outcome { r := p.2, c := p.3, E := d.2, n := d.1, t := d.3 : OP }).3 - (1 : Int)) + pickN (p.1.8 ((0 : Nat) + d.1)).2 (3 : Int)) else d.3) ∧ Int.ofNat (d.1 + (1 : Nat)) = IntKind.i64.wrap (Int.ofNat (d.1 + (1 : Nat))) ∧ True) ∧ mloop_t7 p d) False) (ifB (decide (d.1 ≤ d.1) && decide ((d.1 + (1 : Nat)) * (24 : Nat) ≤ (140737488355328 : Nat))) (Leaf (d.i < p.x.n ∧ d.i < (10 : Nat)) ∧ Leaf (d.1 + (1 : Nat) = d.i + (1 : Nat) ∧ (fun (i : Nat) => { kind := bif decide (i < d.1) then (d.2 i).1 else IntKind.i64.wrap ((1 : Int) + pickN (p.1.8 ((0 : Nat) + d.1)).1 (6 : Int)), at' := bif decide (i < d.1) then (d.2 i).2 else if IntKind.i64.wrap (IntKind.i64.wrap ((outcome { r := p.2, c := p.3, E := d.2, n := d.1, t := d.3 : OP }).3 - (1 : Int)) + pickN (p.1.8 ((0 : Nat) + d.1)).2 (3 : Int)) > d.3 then IntKind.i64.wrap (IntKind.i64.wrap ((outcome { r := p.2, c := p.3, E := d.2, n := d.1, t := d.3 : OP }).3 - (1 : Int)) + pickN (p.1.8 ((0 : Nat) + d.1)).2 (3 : Int)) else d.3, reason := bif decide (i < d.1) then (d.2 i).3 else (0 : Int) : Evt }) = addE d.E d.i (newE p.r p.c d.E d.i d.last (p.x.Z d.i)) ∧ (if IntKind.i64.wrap (IntKind.i64.wrap ((outcome { r := p.2, c := p.3, E := d.2, n := d.1, t := d.3 : OP }).3 - (1 : Int)) + pickN (p.1.8 ((0 : Nat) + d.1)).2 (3 : Int)) > d.3 then IntKind.i64.wrap (IntKind.i64.wrap ((outcome { r := p.2, c := p.3, E := d.2, n := d.1, t := d.3 : OP }).3 - (1 : Int)) + pickN (p.1.8 ((0 : Nat) + d.1)).2 (3 : Int)) else d.3) = (newE p.r p.c d.E d.i d.last (p.x.Z d.i)).at') ∧ (mloop_t6 ∧ mloop_t6 ∧ mloop_t6 ∧ mloop_t6 ∧ mloop_t6 ∧ d.1 + (1 : Nat) = d.1 + (1 : Nat) ∧ ((if IntKind.i64.wrap (IntKind.i64.wrap ((outcome { r := p.2, c := p.3, E := d.2, n := d.1, t := d.3 : OP }).3 - (1 : Int)) + pickN (p.1.8 ((0 : Nat) + d.1)).2 (3 : Int)) > d.3 then IntKind.i64.wrap (IntKind.i64.wrap ((outcome { r := p.2, c := p.3, E := d.2, n := d.1, t := d.3 : OP }).3 - (1 : Int)) + pickN (p.1.8 ((0 : Nat) + d.1)).2 (3 : Int)) else d.3) = if IntKind.i64.wrap (IntKind.i64.wrap ((outcome { r := p.2, c := p.3, E := d.2, n := d.1, t := d.3 : OP }).3 - (1 : Int)) + pickN (p.1.8 ((0 : Nat) + d.1)).2 (3 : Int)) > d.3 then IntKind.i64.wrap (IntKind.i64.wrap ((outcome { r := p.2, c := p.3, E := d.2, n := d.1, t := d.3 : OP }).3 - (1 : Int)) + pickN (p.1.8 ((0 : Nat) + d.1)).2 (3 : Int)) else d.3) ∧ Int.ofNat (d.1 + (1 : Nat)) = IntKind.i64.wrap (Int.ofNat (d.1 + (1 : Nat))) ∧ True) ∧ mloop_t8 p d) False)) (((0 : Int) < (4 : Int) ∧ mloop_t5 p d) ∧ ifB (decide (d.1 ≤ d.1) && decide ((d.1 + (1 : Nat)) * (24 : Nat) ≤ (140737488355328 : Nat))) (Leaf (d.i < p.x.n ∧ d.i < (10 : Nat)) ∧ Leaf (d.1 + (1 : Nat) = d.i + (1 : Nat) ∧ (fun (i : Nat) => { kind := bif decide (i < d.1) then (d.2 i).1 else IntKind.i64.wrap ((1 : Int) + pickN (p.1.8 ((0 : Nat) + d.1)).1 (6 : Int)), at' := bif decide (i < d.1) then (d.2 i).2 else if IntKind.i64.wrap (IntKind.i64.wrap ((outcome { r := p.2, c := p.3, E := d.2, n := d.1, t := d.3 : OP }).3 - (1 : Int)) + pickN (p.1.8 ((0 : Nat) + d.1)).2 (3 : Int)) > d.3 then IntKind.i64.wrap (IntKind.i64.wrap ((outcome { r := p.2, c := p.3, E := d.2, n := d.1, t := d.3 : OP }).3 - (1 : Int)) + pickN (p.1.8 ((0 : Nat) + d.1)).2 (3 : Int)) else d.3, reason := bif decide (i < d.1) then (d.2 i).3 else IntKind.i64.wrap ((1 : Int) + pickN (p.1.8 ((0 : Nat) + d.1)).3 (4 : Int)) : Evt }) = addE d.E d.i (newE p.r p.c d.E d.i d.last (p.x.Z d.i)) ∧ (if IntKind.i64.wrap (IntKind.i64.wrap ((outcome { r := p.2, c := p.3, E := d.2, n := d.1, t := d.3 : OP }).3 - (1 : Int)) + pickN (p.1.8 ((0 : Nat) + d.1)).2 (3 : Int)) > d.3 then IntKind.i64.wrap (IntKind.i64.wrap ((outcome { r := p.2, c := p.3, E := d.2, n := d.1, t := d.3 : OP }).3 - (1 : Int)) + pickN (p.1.8 ((0 : Nat) + d.1)).2 (3 : Int)) else d.3) = (newE p.r p.c d.E d.i d.last (p.x.Z d.i)).at') ∧ (mloop_t6 ∧ mloop_t6 ∧ mloop_t6 ∧ mloop_t6 ∧ mloop_t6 ∧ d.1 + (1 : Nat) = d.1 + (1 : Nat) ∧ ((if IntKind.i64.wrap (IntKind.i64.wrap ((outcome { r := p.2, c := p.3, E := d.2, n := d.1, t := d.3 : OP }).3 - (1 : Int)) + pickN (p.1.8 ((0 : Nat) + d.1)).2 (3 : Int)) > d.3 then IntKind.i64.wrap (IntKind.i64.wrap ((outcome { r := p.2, c := p.3, E := d.2, n := d.1, t := d.3 : OP }).3 - (1 : Int)) + pickN (p.1.8 ((0 : Nat) + d.1)).2 (3 : Int)) else d.3) = if IntKind.i64.wrap (IntKind.i64.wrap ((outcome { r := p.2, c := p.3, E := d.2, n := d.1, t := d.3 : OP }).3 - (1 : Int)) + pickN (p.1.8 ((0 : Nat) + d.1)).2 (3 : Int)) > d.3 then IntKind.i64.wrap (IntKind.i64.wrap ((outcome { r := p.2, c := p.3, E := d.2, n := d.1, t := d.3 : OP }).3 - (1 : Int)) + pickN (p.1.8 ((0 : Nat) + d.1)).2 (3 : Int)) else d.3) ∧ Int.ofNat (d.1 + (1 : Nat)) = IntKind.i64.wrap (Int.ofNat (d.1 + (1 : Nat))) ∧ True) ∧ mloop_t7 p d) False)) (ifB ((IntKind.i64.wrap ((1 : Int) + pickN (p.1.8 ((0 : Nat) + d.1)).1 (6 : Int)) == (2 : Int)) == false) (ifB (IntKind.i64.wrap ((1 : Int) + pickN (p.1.8 ((0 : Nat) + d.1)).1 (6 : Int)) == (6 : Int)) (((0 : Int) < (4 : Int) ∧ mloop_t5 p d) ∧ ifB (decide (d.1 ≤ d.1) && decide ((d.1 + (1 : Nat)) * (24 : Nat) ≤ (140737488355328 : Nat))) (Leaf (d.i < p.x.n ∧ d.i < (10 : Nat)) ∧ Leaf (d.1 + (1 : Nat) = d.i + (1 : Nat) ∧ (fun (i : Nat) => { kind := bif decide (i < d.1) then (d.2 i).1 else IntKind.i64.wrap ((1 : Int) + pickN (p.1.8 ((0 : Nat) + d.1)).1 (6 : Int)), at' := bif decide (i < d.1) then (d.2 i).2 else IntKind.i64.wrap (d.3 + pickN (p.1.8 ((0 : Nat) + d.1)).2 (4 : Int)), reason := bif decide (i < d.1) then (d.2 i).3 else IntKind.i64.wrap ((1 : Int) + pickN (p.1.8 ((0 : Nat) + d.1)).3 (4 : Int)) : Evt }) = addE d.E d.i (newE p.r p.c d.E d.i d.last (p.x.Z d.i)) ∧ IntKind.i64.wrap (d.3 + pickN (p.1.8 ((0 : Nat) + d.1)).2 (4 : Int)) = (newE p.r p.c d.E d.i d.last (p.x.Z d.i)).at') ∧ (mloop_t6 ∧ mloop_t6 ∧ mloop_t6 ∧ mloop_t6 ∧ mloop_t6 ∧ d.1 + (1 : Nat) = d.1 + (1 : Nat) ∧ IntKind.i64.wrap (d.3 + pickN (p.1.8 ((0 : Nat) + d.1)).2 (4 : Int)) = IntKind.i64.wrap (d.3 + pickN (p.1.8 ((0 : Nat) + d.1)).2 (4 : Int)) ∧ Int.ofNat (d.1 + (1 : Nat)) = IntKind.i64.wrap (Int.ofNat (d.1 + (1 : Nat))) ∧ True) ∧ mloop_t9 p d) False) (ifB (decide (d.1 ≤ d.1) && decide ((d.1 + (1 : Nat)) * (24 : Nat) ≤ (140737488355328 : Nat))) (Leaf (d.i < p.x.n ∧ d.i < (10 : Nat)) ∧ Leaf (d.1 + (1 : Nat) = d.i + (1 : Nat) ∧ (fun (i : Nat) => { kind := bif decide (i < d.1) then (d.2 i).1 else IntKind.i64.wrap ((1 : Int) + pickN (p.1.8 ((0 : Nat) + d.1)).1 (6 : Int)), at' := bif decide (i < d.1) then (d.2 i).2 else IntKind.i64.wrap (d.3 + pickN (p.1.8 ((0 : Nat) + d.1)).2 (4 : Int)), reason := bif decide (i < d.1) then (d.2 i).3 else (0 : Int) : Evt }) = addE d.E d.i (newE p.r p.c d.E d.i d.last (p.x.Z d.i)) ∧ IntKind.i64.wrap (d.3 + pickN (p.1.8 ((0 : Nat) + d.1)).2 (4 : Int)) = (newE p.r p.c d.E d.i d.last (p.x.Z d.i)).at') ∧ (mloop_t6 ∧ mloop_t6 ∧ mloop_t6 ∧ mloop_t6 ∧ mloop_t6 ∧ d.1 + (1 : Nat) = d.1 + (1 : Nat) ∧ IntKind.i64.wrap (d.3 + pickN (p.1.8 ((0 : Nat) + d.1)).2 (4 : Int)) = IntKind.i64.wrap (d.3 + pickN (p.1.8 ((0 : Nat) + d.1)).2 (4 : Int)) ∧ Int.ofNat (d.1 + (1 : Nat)) = IntKind.i64.wrap (Int.ofNat (d.1 + (1 : Nat))) ∧ True) ∧ mloop_t10 p d) False)) (((0 : Int) < (4 : Int) ∧ mloop_t5 p d) ∧ ifB (decide (d.1 ≤ d.1) && decide ((d.1 + (1 : Nat)) * (24 : Nat) ≤ (140737488355328 : Nat))) (Leaf (d.i < p.x.n ∧ d.i < (10 : Nat)) ∧ Leaf (d.1 + (1 : Nat) = d.i + (1 : Nat) ∧ (fun (i : Nat) => { kind := bif decide (i < d.1) then (d.2 i).1 else IntKind.i64.wrap ((1 : Int) + pickN (p.1.8 ((0 : Nat) + d.1)).1 (6 : Int)), at' := bif decide (i < d.1) then (d.2 i).2 else IntKind.i64.wrap (d.3 + pickN (p.1.8 ((0 : Nat) + d.1)).2 (4 : Int)), reason := bif decide (i < d.1) then (d.2 i).3 else IntKind.i64.wrap ((1 : Int) + pickN (p.1.8 ((0 : Nat) + d.1)).3 (4 : Int)) : Evt }) = addE d.E d.i (newE p.r p.c d.E d.i d.last (p.x.Z d.i)) ∧ IntKind.i64.wrap (d.3 + pickN (p.1.8 ((0 : Nat) + d.1)).2 (4 : Int)) = (newE p.r p.c d.E d.i d.last (p.x.Z d.i)).at') ∧ (mloop_t6 ∧ mloop_t6 ∧ mloop_t6 ∧ mloop_t6 ∧ mloop_t6 ∧ d.1 + (1 : Nat) = d.1 + (1 : Nat) ∧ IntKind.i64.wrap (d.3 + pickN (p.1.8 ((0 : Nat) + d.1)).2 (4 : Int)) = IntKind.i64.wrap (d.3 + pickN (p.1.8 ((0 : Nat) + d.1)).2 (4 : Int)) ∧ Int.ofNat (d.1 + (1 : Nat)) = IntKind.i64.wrap (Int.ofNat (d.1 + (1 : Nat))) ∧ True) ∧ mloop_t9 p d) False))) (ifB ((IntKind.i64.wrap ((1 : Int) + pickN (p.1.8 ((0 : Nat) + d.1)).1 (6 : Int)) == (2 : Int)) == false) (ifB (IntKind.i64.wrap ((1 : Int) + pickN (p.1.8 ((0 : Nat) + d.1)).1 (6 : Int)) == (6 : Int)) (((0 : Int) < (4 : Int) ∧ mloop_t5 p d) ∧ ifB (decide (d.1 ≤ d.1) && decide ((d.1 + (1 : Nat)) * (24 : Nat) ≤ (140737488355328 : Nat))) (Leaf (d.i < p.x.n ∧ d.i < (10 : Nat)) ∧ Leaf (d.1 + (1 : Nat) = d.i + (1 : Nat) ∧ (fun (i : Nat) => { kind := bif decide (i < d.1) then (d.2 i).1 else IntKind.i64.wrap ((1 : Int) + pickN (p.1.8 ((0 : Nat) + d.1)).1 (6 : Int)), at' := bif decide (i < d.1) then (d.2 i).2 else IntKind.i64.wrap (d.3 + pickN (p.1.8 ((0 : Nat) + d.1)).2 (4 : Int)), reason := bif decide (i < d.1) then (d.2 i).3 else IntKind.i64.wrap ((1 : Int) + pickN (p.1.8 ((0 : Nat) + d.1)).3 (4 : Int)) : Evt }) = addE d.E d.i (newE p.r p.c d.E d.i d.last (p.x.Z d.i)) ∧ IntKind.i64.wrap (d.3 + pickN (p.1.8 ((0 : Nat) + d.1)).2 (4 : Int)) = (newE p.r p.c d.E d.i d.last (p.x.Z d.i)).at') ∧ (mloop_t6 ∧ mloop_t6 ∧ mloop_t6 ∧ mloop_t6 ∧ mloop_t6 ∧ d.1 + (1 : Nat) = d.1 + (1 : Nat) ∧ IntKind.i64.wrap (d.3 + pickN (p.1.8 ((0 : Nat) + d.1)).2 (4 : Int)) = IntKind.i64.wrap (d.3 + pickN (p.1.8 ((0 : Nat) + d.1)).2 (4 : Int)) ∧ Int.ofNat (d.1 + (1 : Nat)) = IntKind.i64.wrap (Int.ofNat (d.1 + (1 : Nat))) ∧ True) ∧ mloop_t9 p d) False) (ifB (decide (d.1 ≤ d.1) && decide ((d.1 + (1 : Nat)) * (24 : Nat) ≤ (140737488355328 : Nat))) (Leaf (d.i < p.x.n ∧ d.i < (10 : Nat)) ∧ Leaf (d.1 + (1 : Nat) = d.i + (1 : Nat) ∧ (fun (i : Nat) => { kind := bif decide (i < d.1) then (d.2 i).1 else IntKind.i64.wrap ((1 : Int) + pickN (p.1.8 ((0 : Nat) + d.1)).1 (6 : Int)), at' := bif decide (i < d.1) then (d.2 i).2 else IntKind.i64.wrap (d.3 + pickN (p.1.8 ((0 : Nat) + d.1)).2 (4 : Int)), reason := bif decide (i < d.1) then (d.2 i).3 else (0 : Int) : Evt }) = addE d.E d.i (newE p.r p.c d.E d.i d.last (p.x.Z d.i)) ∧ IntKind.i64.wrap (d.3 + pickN (p.1.8 ((0 : Nat) + d.1)).2 (4 : Int)) = (newE p.r p.c d.E d.i d.last (p.x.Z d.i)).at') ∧ (mloop_t6 ∧ mloop_t6 ∧ mloop_t6 ∧ mloop_t6 ∧ mloop_t6 ∧ d.1 + (1 : Nat) = d.1 + (1 : Nat) ∧ IntKind.i64.wrap (d.3 + pickN (p.1.8 ((0 : Nat) + d.1)).2 (4 : Int)) = IntKind.i64.wrap (d.3 + pickN (p.1.8 ((0 : Nat) + d.1)).2 (4 : Int)) ∧ Int.ofNat (d.1 + (1 : Nat)) = IntKind.i64.wrap (Int.ofNat (d.1 + (1 : Nat))) ∧ True) ∧ mloop_t10 p d) False)) (((0 : Int) < (4 : Int) ∧ mloop_t5 p d) ∧ ifB (decide (d.1 ≤ d.1) && decide ((d.1 + (1 : Nat)) * (24 : Nat) ≤ (140737488355328 : Nat))) (Leaf (d.i < p.x.n ∧ d.i < (10 : Nat)) ∧ Leaf (d.1 + (1 : Nat) = d.i + (1 : Nat) ∧ (fun (i : Nat) => { kind := bif decide (i < d.1) then (d.2 i).1 else IntKind.i64.wrap ((1 : Int) + pickN (p.1.8 ((0 : Nat) + d.1)).1 (6 : Int)), at' := bif decide (i < d.1) then (d.2 i).2 else IntKind.i64.wrap (d.3 + pickN (p.1.8 ((0 : Nat) + d.1)).2 (4 : Int)), reason := bif decide (i < d.1) then (d.2 i).3 else IntKind.i64.wrap ((1 : Int) + pickN (p.1.8 ((0 : Nat) + d.1)).3 (4 : Int)) : Evt }) = addE d.E d.i (newE p.r p.c d.E d.i d.last (p.x.Z d.i)) ∧ IntKind.i64.wrap (d.3 + pickN (p.1.8 ((0 : Nat) + d.1)).2 (4 : Int)) = (newE p.r p.c d.E d.i d.last (p.x.Z d.i)).at') ∧ (mloop_t6 ∧ mloop_t6 ∧ mloop_t6 ∧ mloop_t6 ∧ mloop_t6 ∧ d.1 + (1 : Nat) = d.1 + (1 : Nat) ∧ IntKind.i64.wrap (d.3 + pickN (p.1.8 ((0 : Nat) + d.1)).2 (4 : Int)) = IntKind.i64.wrap (d.3 + pickN (p.1.8 ((0 : Nat) + d.1)).2 (4 : Int)) ∧ Int.ofNat (d.1 + (1 : Nat)) = IntKind.i64.wrap (Int.ofNat (d.1 + (1 : Nat))) ∧ True) ∧ mloop_t9 p d) False))) False) False) (Leaf (p.x.n ≤ d.i ∨ (10 : Nat) ≤ d.i) ∧ mloop_t11 p d)) (Leaf (p.x.n ≤ d.i ∨ (10 : Nat) ≤ d.i) ∧ mloop_t11 p d)
theorem mloop_eq (p : MX) (d : MS) : exec XM0 60 12 lMM.code (lMM.I p d) (zMM p d) = mloop_T p d := by kernel_rfl

theorem newE_eq {r : Rul} {c : Clm} {E : Nat → Evt} {i : Nat} {last : Int} {z : Z3} {a b : Int}
    (h : (if 0 < (outcome ⟨r, c, E, i, last⟩).next ∧ 0 < pickN (w64 (z.b.tdiv 4)) 3 then (if w64 (w64 ((outcome ⟨r, c, E, i, last⟩).next - 1) + pickN z.b 3) > last then w64 (w64 ((outcome ⟨r, c, E, i, last⟩).next - 1) + pickN z.b 3) else last) else w64 (last + pickN z.b 4)) = a)
    (h' : (if w64 (1 + pickN z.a 6) = 2 ∨ w64 (1 + pickN z.a 6) = 6 then w64 (1 + pickN z.c 4) else 0) = b) : newE r c E i last z = ⟨w64 (1 + pickN z.a 6), a, b⟩ := by
  unfold newE
  rw [h, h']
set_option maxHeartbeats 4000000 in
theorem mloop_step (p : MX) (d : MS) (h1 : d.i ≤ p.x.n) (h2 : d.i ≤ 10) : mloop_T p d := by
  unfold mloop_T
  repeat' (first | with_reducible refine ifB_split (fun _ => ?_) (fun _ => ?_) | with_reducible refine And.intro ?_ ?_)
  all_goals try first | with_reducible exact mloop_t0_t _ _ | with_reducible exact mloop_t1_t _ _ | with_reducible exact mloop_t2_t _ _ | with_reducible exact mloop_t3_t _ _ | with_reducible exact mloop_t4_t _ _ | with_reducible exact mloop_t5_t _ _ | with_reducible exact mloop_t6_t | with_reducible exact mloop_t7_t _ _ | with_reducible exact mloop_t8_t _ _ | with_reducible exact mloop_t9_t _ _ | with_reducible exact mloop_t10_t _ _ | with_reducible exact mloop_t11_t _ _ | with_reducible rfl | with_reducible exact trivial | with_reducible exact List.Perm.refl _
  all_goals simp only [Leaf, Nat.zero_add, Int.ofNat_eq_natCast, decide_eq_true_eq, decide_eq_false_iff_not, Bool.and_eq_true, Bool.not_eq_true', Bool.not_eq_true, Bool.not_eq_false', Bool.not_eq_false, beq_iff_eq, beq_eq_false_iff_ne, ne_eq, Bool.and_true, Int.natCast_inj, gt_iff_lt, Int.ofNat_lt, Int.ofNat_le, Bool.and_eq_false_iff, Classical.not_not] at *
  all_goals first
    | omega
    | (rw [wrapSmall (by omega) (by omega)]; done)
    | (rw [newE_eq (if_pos (by simp only [w64]; omega)) (if_pos (by simp only [w64]; omega))]; exact ⟨trivial, rfl, rfl⟩)
    | (rw [newE_eq (if_pos (by simp only [w64]; omega)) (if_neg (by simp only [w64]; omega))]; exact ⟨trivial, rfl, rfl⟩)
    | (rw [newE_eq (if_neg (by simp only [w64]; omega)) (if_pos (by simp only [w64]; omega))]; exact ⟨trivial, rfl, rfl⟩)
    | (rw [newE_eq (if_neg (by simp only [w64]; omega)) (if_neg (by simp only [w64]; omega))]; exact ⟨trivial, rfl, rfl⟩)
    | trace_state

set_option maxRecDepth 100000 in
theorem mloop_ok : LoopOK XM0.P lMM.code lMM.L := by
  refine lMM.ok XM0_ok 60 12 (fun p d => p.x.n - d.i) zMM (fun _ _ _ => trivial) (fun p d w q hw => ?_) (fun p d S' hJ h => ?_) (fun p d x S' hx hJ h => ?_) fun p d hJ => ?_
  · match w, hw with
    | 0, _ => exact trivial
  · unfold zMM at h; dsimp only at h
    split at h <;> try exact h.elim
    rename_i lo k E kd last _ _
    obtain ⟨h1, h2, h3⟩ := h
    simp only [Leaf] at h1 h2
    obtain ⟨j1, j2, j3⟩ := hJ
    obtain ⟨h2, h4, h5⟩ := h2
    refine ⟨_, ⟨d.i + 1, E, last⟩, ?_, ⟨h1.1, h1.2, ?_⟩, h3⟩
    · show p.x.n - (d.i + 1) < p.x.n - d.i
      omega
    · show madeE _ _ _ (d.i + 1) = (E, last)
      rw [madeE, j3, h4, h5]
  · obtain ⟨j1, j2, j3⟩ := hJ
    cases x with
    | normal => exact hx.elim
    | ret => exact h.elim
    | exit k =>
      obtain ⟨h0, h1, h2⟩ := gateB_spec h
      have h0 := Nat.eq_of_beq_eq_true h0
      subst h0
      simp only [Leaf] at h1
      have hi : d.i = min p.x.n 10 := by omega
      refine ⟨0, d, _, Nat.lt_succ_self 0, ⟨?_, hi⟩, rfl, h2⟩
      rw [← hi]; exact j3
  · obtain ⟨j1, j2, j3⟩ := hJ
    rw [mloop_eq]
    exact mloop_step p d j1 j2
noncomputable def XM1 : Ctx := (XM0.with 34 (sMRules.by exFour)).loop 12 8 lMM.code (lMM.by exMM)
theorem XM1_ok : XM1.OK := Ctx.loop_ok (Ctx.with_ok XM0_ok (mrules_ok.by exFour)) (mloop_ok.by exMM)
def mN (x : NP) : Nat := min x.n 10
def mE (x : NP) : Nat → Evt := (madeE (mR x) (mC x) x.Z (mN x)).1
def sMade : FSpec NP where
  J := fun _ => True
  A := NP.A
  H := fun x => [some (zO x.n x.Z)]
  R := fun x => .tup [(mR x).sv, (mC x).sv, .osl 1 (mN x)]
  O := fun x => [.arr true (mN x) 3 45 fun i => (mE x i).cells]
end Go.Proofs.Ytmcidfecepknpaa

namespace Go.Proofs.Ytmcidfecepknpaa
open Go Go.Sh Go.Proofs
set_option linter.unusedVariables false
set_option linter.unusedSimpArgs false
def made_t0 (p : NP) : Prop :=
  True ∧ (0 : Nat) = (0 : Nat) ∧ ((p.1.1 = p.1.1 ∧ p.1.2 = p.1.2 ∧ p.1.3 = p.1.3 ∧ p.1.4 = p.1.4 ∧ True) ∧ True) ∧ True
theorem made_t0_t (p : NP) : made_t0 p :=
  ⟨trivial, ⟨rfl, ⟨⟨⟨rfl, ⟨rfl, ⟨rfl, ⟨rfl, trivial⟩⟩⟩⟩, trivial⟩, trivial⟩⟩⟩
def made_t1 (p : NP) : Prop :=
  (0 : Nat) = (0 : Nat) ∧ (p.2 = p.2 ∧ (100000000 : Int) = (100000000 : Int) ∧ True) ∧ True
theorem made_t1_t (p : NP) : made_t1 p :=
  ⟨rfl, ⟨⟨rfl, ⟨rfl, trivial⟩⟩, trivial⟩⟩
def made_t2 (p : NP) : Prop :=
  (0 : Nat) = (0 : Nat) ∧ (p.3 = p.3 ∧ (8 : Int) = (8 : Int) ∧ True) ∧ True
theorem made_t2_t (p : NP) : made_t2 p :=
  ⟨rfl, ⟨⟨rfl, ⟨rfl, trivial⟩⟩, trivial⟩⟩
def made_t3 (p : NP) : Prop :=
  (0 : Nat) = (0 : Nat) ∧ (p.5 = p.5 ∧ (64 : Int) = (64 : Int) ∧ True) ∧ True
theorem made_t3_t (p : NP) : made_t3 p :=
  ⟨rfl, ⟨⟨rfl, ⟨rfl, trivial⟩⟩, trivial⟩⟩
def made_t4 (p : NP) : Prop :=
  (0 : Nat) = (0 : Nat) ∧ (p.6 = p.6 ∧ (1000 : Int) = (1000 : Int) ∧ True) ∧ True
theorem made_t4_t (p : NP) : made_t4 p :=
  ⟨rfl, ⟨⟨rfl, ⟨rfl, trivial⟩⟩, trivial⟩⟩
def made_t5 (p : NP) : Prop :=
  (0 : Nat) = (0 : Nat) ∧ (p.7 = p.7 ∧ (2 : Int) = (2 : Int) ∧ True) ∧ True
theorem made_t5_t (p : NP) : made_t5 p :=
  ⟨rfl, ⟨⟨rfl, ⟨rfl, trivial⟩⟩, trivial⟩⟩
def made_t6 (p : NP) : Prop :=
  (0 : Nat) = (0 : Nat) ∧ (p.4 = p.4 ∧ (7 : Int) = (7 : Int) ∧ True) ∧ True
theorem made_t6_t (p : NP) : made_t6 p :=
  ⟨rfl, ⟨⟨rfl, ⟨rfl, trivial⟩⟩, trivial⟩⟩
def made_t7 (p : NP) : Prop :=
  (7 : Nat) = (7 : Nat) ∧ True ∧ (((0 : Nat) = (0 : Nat) ∧ (0 : Nat) = (0 : Nat)) ∧ ((0 : Nat) = (0 : Nat) ∧ (0 : Nat) = (0 : Nat)) ∧ ((0 : Nat) = (0 : Nat) ∧ (0 : Nat) = (0 : Nat)) ∧ ((0 : Nat) = (0 : Nat) ∧ (0 : Nat) = (0 : Nat)) ∧ ((0 : Nat) = (0 : Nat) ∧ (0 : Nat) = (0 : Nat)) ∧ (0 : Nat) = (0 : Nat) ∧ pickN p.6 (1000 : Int) = pickN p.6 (1000 : Int) ∧ (0 : Int) = (0 : Int) ∧ True) ∧ (p.9 = p.9 ∧ ∀ (i : Nat), i < p.n → (p.8 i).1 = (p.8 i).1 ∧ (p.8 i).2 = (p.8 i).2 ∧ (p.8 i).3 = (p.8 i).3 ∧ True) ∧ ((1 : Nat) = (1 : Nat) ∧ ∀ (i : Nat), i < (1 : Nat) → p.1.1 = p.1.1 ∧ p.1.2 = p.1.2 ∧ p.1.3 = p.1.3 ∧ p.1.4 = p.1.4 ∧ p.2 = p.2 ∧ p.3 = p.3 ∧ p.4 = p.4 ∧ p.5 = p.5 ∧ p.6 = p.6 ∧ p.7 = p.7 ∧ ((0 : Nat) = (0 : Nat) ∧ p.9 = p.9) ∧ True) ∧ ((1 : Nat) = (1 : Nat) ∧ ∀ (i : Nat), i < (1 : Nat) → (0 : Int) = (0 : Int) ∧ (0 : Int) = (0 : Int) ∧ (0 : Int) = (0 : Int) ∧ (0 : Int) = (0 : Int) ∧ True) ∧ ((1 : Nat) = (1 : Nat) ∧ ∀ (i : Nat), i < (1 : Nat) → (0 : Int) = (0 : Int) ∧ (0 : Int) = (0 : Int) ∧ (0 : Int) = (0 : Int) ∧ (0 : Int) = (0 : Int) ∧ (0 : Int) = (0 : Int) ∧ false = false ∧ True) ∧ ((1 : Nat) = (1 : Nat) ∧ ∀ (i : Nat), i < (1 : Nat) → ruleN p.1.1 = ruleN p.1.1 ∧ ruleN p.1.2 = ruleN p.1.2 ∧ ruleN p.1.3 = ruleN p.1.3 ∧ ruleN p.1.4 = ruleN p.1.4 ∧ True) ∧ ((1 : Nat) = (1 : Nat) ∧ ∀ (i : Nat), i < (1 : Nat) → pickN p.2 (100000000 : Int) = pickN p.2 (100000000 : Int) ∧ pickN p.3 (8 : Int) = pickN p.3 (8 : Int) ∧ (IntKind.i64.wrap (IntKind.i64.wrap (pickN p.3 (8 : Int) + (1 : Int)) + pickN p.4 (7 : Int))).tmod (8 : Int) = (IntKind.i64.wrap (IntKind.i64.wrap (pickN p.3 (8 : Int) + (1 : Int)) + pickN p.4 (7 : Int))).tmod (8 : Int) ∧ pickN p.5 (64 : Int) = pickN p.5 (64 : Int) ∧ pickN p.6 (1000 : Int) = pickN p.6 (1000 : Int) ∧ (pickN p.7 (2 : Int) == (0 : Int)) = (pickN p.7 (2 : Int) == (0 : Int)) ∧ True) ∧ (0 : Nat) = (0 : Nat) ∧ True
theorem made_t7_t (p : NP) : made_t7 p :=
  ⟨rfl, ⟨trivial, ⟨⟨⟨rfl, rfl⟩, ⟨⟨rfl, rfl⟩, ⟨⟨rfl, rfl⟩, ⟨⟨rfl, rfl⟩, ⟨⟨rfl, rfl⟩, ⟨rfl, ⟨rfl, ⟨rfl, trivial⟩⟩⟩⟩⟩⟩⟩⟩, ⟨⟨rfl, (fun _ => (fun _ => ⟨rfl, ⟨rfl, ⟨rfl, trivial⟩⟩⟩))⟩, ⟨⟨rfl, (fun _ => (fun _ => ⟨rfl, ⟨rfl, ⟨rfl, ⟨rfl, ⟨rfl, ⟨rfl, ⟨rfl, ⟨rfl, ⟨rfl, ⟨rfl, ⟨⟨rfl, rfl⟩, trivial⟩⟩⟩⟩⟩⟩⟩⟩⟩⟩⟩))⟩, ⟨⟨rfl, (fun _ => (fun _ => ⟨rfl, ⟨rfl, ⟨rfl, ⟨rfl, trivial⟩⟩⟩⟩))⟩, ⟨⟨rfl, (fun _ => (fun _ => ⟨rfl, ⟨rfl, ⟨rfl, ⟨rfl, ⟨rfl, ⟨rfl, trivial⟩⟩⟩⟩⟩⟩))⟩, ⟨⟨rfl, (fun _ => (fun _ => ⟨rfl, ⟨rfl, ⟨rfl, ⟨rfl, trivial⟩⟩⟩⟩))⟩, ⟨⟨rfl, (fun _ => (fun _ => ⟨rfl, ⟨rfl, ⟨rfl, ⟨rfl, ⟨rfl, ⟨rfl, trivial⟩⟩⟩⟩⟩⟩))⟩, ⟨rfl, trivial⟩⟩⟩⟩⟩⟩⟩⟩⟩⟩
def made_t8 (p : NP) : Prop :=
  ruleN p.1.1 = ruleN p.1.1 ∧ ruleN p.1.2 = ruleN p.1.2 ∧ ruleN p.1.3 = ruleN p.1.3 ∧ ruleN p.1.4 = ruleN p.1.4 ∧ True
theorem made_t8_t (p : NP) : made_t8 p :=
  ⟨rfl, ⟨rfl, ⟨rfl, ⟨rfl, trivial⟩⟩⟩⟩
def made_t9 (p : NP) : Prop :=
  pickN p.5 (64 : Int) = pickN p.5 (64 : Int) ∧ pickN p.6 (1000 : Int) = pickN p.6 (1000 : Int) ∧ (pickN p.7 (2 : Int) == (0 : Int)) = (pickN p.7 (2 : Int) == (0 : Int)) ∧ True
theorem made_t9_t (p : NP) : made_t9 p :=
  ⟨rfl, ⟨rfl, ⟨rfl, trivial⟩⟩⟩
def made_T (p : NP) : Prop :=
  made_t0 p ∧ (((0 : Int) < (100000000 : Int) ∧ made_t1 p) ∧ (((0 : Int) < (8 : Int) ∧ made_t2 p) ∧ (((0 : Int) < (64 : Int) ∧ made_t3 p) ∧ (((0 : Int) < (1000 : Int) ∧ made_t4 p) ∧ (((0 : Int) < (2 : Int) ∧ made_t5 p) ∧ ((0 : Int) < (7 : Int) ∧ made_t6 p) ∧ lMM.code = lMM.code ∧ (lMM_J { x := p, r := { answer := ruleN p.1.1, cooling := ruleN p.1.2, settle := ruleN p.1.3, reverse := ruleN p.1.4 : Rul }, c := { number := pickN p.2 (100000000 : Int), src := pickN p.3 (8 : Int), dst := (IntKind.i64.wrap (IntKind.i64.wrap (pickN p.3 (8 : Int) + (1 : Int)) + pickN p.4 (7 : Int))).tmod (8 : Int), holder := pickN p.5 (64 : Int), asked := pickN p.6 (1000 : Int), backed := pickN p.7 (2 : Int) == (0 : Int) : Clm } : MX } { i := (0 : Nat), E := fun (x : Nat) => { kind := (0 : Int), at' := (0 : Int), reason := (0 : Int) : Evt }, last := pickN p.6 (1000 : Int) : MS } ∧ made_t7 p) ∧ True ∧ ∀ (q : MS), Leaf (madeE { answer := ruleN p.1.1, cooling := ruleN p.1.2, settle := ruleN p.1.3, reverse := ruleN p.1.4 : Rul } { number := pickN p.2 (100000000 : Int), src := pickN p.3 (8 : Int), dst := (IntKind.i64.wrap (IntKind.i64.wrap (pickN p.3 (8 : Int) + (1 : Int)) + pickN p.4 (7 : Int))).tmod (8 : Int), holder := pickN p.5 (64 : Int), asked := pickN p.6 (1000 : Int), backed := pickN p.7 (2 : Int) == (0 : Int) : Clm } p.Z (min p.n (10 : Nat)) = (q.E, q.last) ∧ q.i = min p.n (10 : Nat)) → ((made_t8 p ∧ (pickN p.2 (100000000 : Int) = pickN p.2 (100000000 : Int) ∧ pickN p.3 (8 : Int) = pickN p.3 (8 : Int) ∧ (w64 (w64 (pickN p.3 (8 : Int) + (1 : Int)) + pickN p.4 (7 : Int))).tmod (8 : Int) = (IntKind.i64.wrap (IntKind.i64.wrap (pickN p.3 (8 : Int) + (1 : Int)) + pickN p.4 (7 : Int))).tmod (8 : Int) ∧ made_t9 p) ∧ mN p = q.1 ∧ True) ∧ (mN p = q.1 ∧ ∀ (i : Nat), i < mN p → ((madeE { answer := ruleN p.1.1, cooling := ruleN p.1.2, settle := ruleN p.1.3, reverse := ruleN p.1.4 : Rul } { number := pickN p.2 (100000000 : Int), src := pickN p.3 (8 : Int), dst := (w64 (w64 (pickN p.3 (8 : Int) + (1 : Int)) + pickN p.4 (7 : Int))).tmod (8 : Int), holder := pickN p.5 (64 : Int), asked := pickN p.6 (1000 : Int), backed := pickN p.7 (2 : Int) == (0 : Int) : Clm } p.8 (mN p)).1 i).1 = (q.2 i).1 ∧ ((madeE { answer := ruleN p.1.1, cooling := ruleN p.1.2, settle := ruleN p.1.3, reverse := ruleN p.1.4 : Rul } { number := pickN p.2 (100000000 : Int), src := pickN p.3 (8 : Int), dst := (w64 (w64 (pickN p.3 (8 : Int) + (1 : Int)) + pickN p.4 (7 : Int))).tmod (8 : Int), holder := pickN p.5 (64 : Int), asked := pickN p.6 (1000 : Int), backed := pickN p.7 (2 : Int) == (0 : Int) : Clm } p.8 (mN p)).1 i).2 = (q.2 i).2 ∧ ((madeE { answer := ruleN p.1.1, cooling := ruleN p.1.2, settle := ruleN p.1.3, reverse := ruleN p.1.4 : Rul } { number := pickN p.2 (100000000 : Int), src := pickN p.3 (8 : Int), dst := (w64 (w64 (pickN p.3 (8 : Int) + (1 : Int)) + pickN p.4 (7 : Int))).tmod (8 : Int), holder := pickN p.5 (64 : Int), asked := pickN p.6 (1000 : Int), backed := pickN p.7 (2 : Int) == (0 : Int) : Clm } p.8 (mN p)).1 i).3 = (q.2 i).3 ∧ True) ∧ True) ∧ (made_t8 p ∧ (pickN p.2 (100000000 : Int) = pickN p.2 (100000000 : Int) ∧ pickN p.3 (8 : Int) = pickN p.3 (8 : Int) ∧ (w64 (w64 (pickN p.3 (8 : Int) + (1 : Int)) + pickN p.4 (7 : Int))).tmod (8 : Int) = (IntKind.i64.wrap (IntKind.i64.wrap (pickN p.3 (8 : Int) + (1 : Int)) + pickN p.4 (7 : Int))).tmod (8 : Int) ∧ made_t9 p) ∧ mN p = q.1 ∧ True) ∧ (mN p = q.1 ∧ ∀ (i : Nat), i < mN p → ((madeE { answer := ruleN p.1.1, cooling := ruleN p.1.2, settle := ruleN p.1.3, reverse := ruleN p.1.4 : Rul } { number := pickN p.2 (100000000 : Int), src := pickN p.3 (8 : Int), dst := (w64 (w64 (pickN p.3 (8 : Int) + (1 : Int)) + pickN p.4 (7 : Int))).tmod (8 : Int), holder := pickN p.5 (64 : Int), asked := pickN p.6 (1000 : Int), backed := pickN p.7 (2 : Int) == (0 : Int) : Clm } p.8 (mN p)).1 i).1 = (q.2 i).1 ∧ ((madeE { answer := ruleN p.1.1, cooling := ruleN p.1.2, settle := ruleN p.1.3, reverse := ruleN p.1.4 : Rul } { number := pickN p.2 (100000000 : Int), src := pickN p.3 (8 : Int), dst := (w64 (w64 (pickN p.3 (8 : Int) + (1 : Int)) + pickN p.4 (7 : Int))).tmod (8 : Int), holder := pickN p.5 (64 : Int), asked := pickN p.6 (1000 : Int), backed := pickN p.7 (2 : Int) == (0 : Int) : Clm } p.8 (mN p)).1 i).2 = (q.2 i).2 ∧ ((madeE { answer := ruleN p.1.1, cooling := ruleN p.1.2, settle := ruleN p.1.3, reverse := ruleN p.1.4 : Rul } { number := pickN p.2 (100000000 : Int), src := pickN p.3 (8 : Int), dst := (w64 (w64 (pickN p.3 (8 : Int) + (1 : Int)) + pickN p.4 (7 : Int))).tmod (8 : Int), holder := pickN p.5 (64 : Int), asked := pickN p.6 (1000 : Int), backed := pickN p.7 (2 : Int) == (0 : Int) : Clm } p.8 (mN p)).1 i).3 = (q.2 i).3 ∧ True) ∧ True) ∧ ((0 : Int) < (2 : Int) ∧ made_t5 p) ∧ ((0 : Int) < (7 : Int) ∧ made_t6 p) ∧ lMM.code = lMM.code ∧ (lMM_J { x := p, r := { answer := ruleN p.1.1, cooling := ruleN p.1.2, settle := ruleN p.1.3, reverse := ruleN p.1.4 : Rul }, c := { number := pickN p.2 (100000000 : Int), src := pickN p.3 (8 : Int), dst := (IntKind.i64.wrap (IntKind.i64.wrap (pickN p.3 (8 : Int) + (1 : Int)) + pickN p.4 (7 : Int))).tmod (8 : Int), holder := pickN p.5 (64 : Int), asked := pickN p.6 (1000 : Int), backed := pickN p.7 (2 : Int) == (0 : Int) : Clm } : MX } { i := (0 : Nat), E := fun (x : Nat) => { kind := (0 : Int), at' := (0 : Int), reason := (0 : Int) : Evt }, last := pickN p.6 (1000 : Int) : MS } ∧ made_t7 p) ∧ True ∧ ∀ (q : MS), Leaf (madeE { answer := ruleN p.1.1, cooling := ruleN p.1.2, settle := ruleN p.1.3, reverse := ruleN p.1.4 : Rul } { number := pickN p.2 (100000000 : Int), src := pickN p.3 (8 : Int), dst := (IntKind.i64.wrap (IntKind.i64.wrap (pickN p.3 (8 : Int) + (1 : Int)) + pickN p.4 (7 : Int))).tmod (8 : Int), holder := pickN p.5 (64 : Int), asked := pickN p.6 (1000 : Int), backed := pickN p.7 (2 : Int) == (0 : Int) : Clm } p.Z (min p.n (10 : Nat)) = (q.E, q.last) ∧ q.i = min p.n (10 : Nat)) → ((made_t8 p ∧ (pickN p.2 (100000000 : Int) = pickN p.2 (100000000 : Int) ∧ pickN p.3 (8 : Int) = pickN p.3 (8 : Int) ∧ (w64 (w64 (pickN p.3 (8 : Int) + (1 : Int)) + pickN p.4 (7 : Int))).tmod (8 : Int) = (IntKind.i64.wrap (IntKind.i64.wrap (pickN p.3 (8 : Int) + (1 : Int)) + pickN p.4 (7 : Int))).tmod (8 : Int) ∧ made_t9 p) ∧ mN p = q.1 ∧ True) ∧ (mN p = q.1 ∧ ∀ (i : Nat), i < mN p → ((madeE { answer := ruleN p.1.1, cooling := ruleN p.1.2, settle := ruleN p.1.3, reverse := ruleN p.1.4 : Rul } { number := pickN p.2 (100000000 : Int), src := pickN p.3 (8 : Int), dst := (w64 (w64 (pickN p.3 (8 : Int) + (1 : Int)) + pickN p.4 (7 : Int))).tmod (8 : Int), holder := pickN p.5 (64 : Int), asked := pickN p.6 (1000 : Int), backed := pickN p.7 (2 : Int) == (0 : Int) : Clm } p.8 (mN p)).1 i).1 = (q.2 i).1 ∧ ((madeE { answer := ruleN p.1.1, cooling := ruleN p.1.2, settle := ruleN p.1.3, reverse := ruleN p.1.4 : Rul } { number := pickN p.2 (100000000 : Int), src := pickN p.3 (8 : Int), dst := (w64 (w64 (pickN p.3 (8 : Int) + (1 : Int)) + pickN p.4 (7 : Int))).tmod (8 : Int), holder := pickN p.5 (64 : Int), asked := pickN p.6 (1000 : Int), backed := pickN p.7 (2 : Int) == (0 : Int) : Clm } p.8 (mN p)).1 i).2 = (q.2 i).2 ∧ ((madeE { answer := ruleN p.1.1, cooling := ruleN p.1.2, settle := ruleN p.1.3, reverse := ruleN p.1.4 : Rul } { number := pickN p.2 (100000000 : Int), src := pickN p.3 (8 : Int), dst := (w64 (w64 (pickN p.3 (8 : Int) + (1 : Int)) + pickN p.4 (7 : Int))).tmod (8 : Int), holder := pickN p.5 (64 : Int), asked := pickN p.6 (1000 : Int), backed := pickN p.7 (2 : Int) == (0 : Int) : Clm } p.8 (mN p)).1 i).3 = (q.2 i).3 ∧ True) ∧ True) ∧ (made_t8 p ∧ (pickN p.2 (100000000 : Int) = pickN p.2 (100000000 : Int) ∧ pickN p.3 (8 : Int) = pickN p.3 (8 : Int) ∧ (w64 (w64 (pickN p.3 (8 : Int) + (1 : Int)) + pickN p.4 (7 : Int))).tmod (8 : Int) = (IntKind.i64.wrap (IntKind.i64.wrap (pickN p.3 (8 : Int) + (1 : Int)) + pickN p.4 (7 : Int))).tmod (8 : Int) ∧ made_t9 p) ∧ mN p = q.1 ∧ True) ∧ (mN p = q.1 ∧ ∀ (i : Nat), i < mN p → ((madeE { answer := ruleN p.1.1, cooling := ruleN p.1.2, settle := ruleN p.1.3, reverse := ruleN p.1.4 : Rul } { number := pickN p.2 (100000000 : Int), src := pickN p.3 (8 : Int), dst := (w64 (w64 (pickN p.3 (8 : Int) + (1 : Int)) + pickN p.4 (7 : Int))).tmod (8 : Int), holder := pickN p.5 (64 : Int), asked := pickN p.6 (1000 : Int), backed := pickN p.7 (2 : Int) == (0 : Int) : Clm } p.8 (mN p)).1 i).1 = (q.2 i).1 ∧ ((madeE { answer := ruleN p.1.1, cooling := ruleN p.1.2, settle := ruleN p.1.3, reverse := ruleN p.1.4 : Rul } { number := pickN p.2 (100000000 : Int), src := pickN p.3 (8 : Int), dst := (w64 (w64 (pickN p.3 (8 : Int) + (1 : Int)) + pickN p.4 (7 : Int))).tmod (8 : Int), holder := pickN p.5 (64 : Int), asked := pickN p.6 (1000 : Int), backed := pickN p.7 (2 : Int) == (0 : Int) : Clm } p.8 (mN p)).1 i).2 = (q.2 i).2 ∧ ((madeE { answer := ruleN p.1.1, cooling := ruleN p.1.2, settle := ruleN p.1.3, reverse := ruleN p.1.4 : Rul } { number := pickN p.2 (100000000 : Int), src := pickN p.3 (8 : Int), dst := (w64 (w64 (pickN p.3 (8 : Int) + (1 : Int)) + pickN p.4 (7 : Int))).tmod (8 : Int), holder := pickN p.5 (64 : Int), asked := pickN p.6 (1000 : Int), backed := pickN p.7 (2 : Int) == (0 : Int) : Clm } p.8 (mN p)).1 i).3 = (q.2 i).3 ∧ True) ∧ True) ∧ ((0 : Int) < (1000 : Int) ∧ made_t4 p) ∧ ((0 : Int) < (2 : Int) ∧ made_t5 p) ∧ ((0 : Int) < (7 : Int) ∧ made_t6 p) ∧ lMM.code = lMM.code ∧ (lMM_J { x := p, r := { answer := ruleN p.1.1, cooling := ruleN p.1.2, settle := ruleN p.1.3, reverse := ruleN p.1.4 : Rul }, c := { number := pickN p.2 (100000000 : Int), src := pickN p.3 (8 : Int), dst := (IntKind.i64.wrap (IntKind.i64.wrap (pickN p.3 (8 : Int) + (1 : Int)) + pickN p.4 (7 : Int))).tmod (8 : Int), holder := pickN p.5 (64 : Int), asked := pickN p.6 (1000 : Int), backed := pickN p.7 (2 : Int) == (0 : Int) : Clm } : MX } { i := (0 : Nat), E := fun (x : Nat) => { kind := (0 : Int), at' := (0 : Int), reason := (0 : Int) : Evt }, last := pickN p.6 (1000 : Int) : MS } ∧ made_t7 p) ∧ True ∧ ∀ (q : MS), Leaf (madeE { answer := ruleN p.1.1, cooling := ruleN p.1.2, settle := ruleN p.1.3, reverse := ruleN p.1.4 : Rul } { number := pickN p.2 (100000000 : Int), src := pickN p.3 (8 : Int), dst := (IntKind.i64.wrap (IntKind.i64.wrap (pickN p.3 (8 : Int) + (1 : Int)) + pickN p.4 (7 : Int))).tmod (8 : Int), holder := pickN p.5 (64 : Int), asked := pickN p.6 (1000 : Int), backed := pickN p.7 (2 : Int) == (0 : Int) : Clm } p.Z (min p.n (10 : Nat)) = (q.E, q.last) ∧ q.i = min p.n (10 : Nat)) → ((made_t8 p ∧ (pickN p.2 (100000000 : Int) = pickN p.2 (100000000 : Int) ∧ pickN p.3 (8 : Int) = pickN p.3 (8 : Int) ∧ (w64 (w64 (pickN p.3 (8 : Int) + (1 : Int)) + pickN p.4 (7 : Int))).tmod (8 : Int) = (IntKind.i64.wrap (IntKind.i64.wrap (pickN p.3 (8 : Int) + (1 : Int)) + pickN p.4 (7 : Int))).tmod (8 : Int) ∧ made_t9 p) ∧ mN p = q.1 ∧ True) ∧ (mN p = q.1 ∧ ∀ (i : Nat), i < mN p → ((madeE { answer := ruleN p.1.1, cooling := ruleN p.1.2, settle := ruleN p.1.3, reverse := ruleN p.1.4 : Rul } { number := pickN p.2 (100000000 : Int), src := pickN p.3 (8 : Int), dst := (w64 (w64 (pickN p.3 (8 : Int) + (1 : Int)) + pickN p.4 (7 : Int))).tmod (8 : Int), holder := pickN p.5 (64 : Int), asked := pickN p.6 (1000 : Int), backed := pickN p.7 (2 : Int) == (0 : Int) : Clm } p.8 (mN p)).1 i).1 = (q.2 i).1 ∧ ((madeE { answer := ruleN p.1.1, cooling := ruleN p.1.2, settle := ruleN p.1.3, reverse := ruleN p.1.4 : Rul } { number := pickN p.2 (100000000 : Int), src := pickN p.3 (8 : Int), dst := (w64 (w64 (pickN p.3 (8 : Int) + (1 : Int)) + pickN p.4 (7 : Int))).tmod (8 : Int), holder := pickN p.5 (64 : Int), asked := pickN p.6 (1000 : Int), backed := pickN p.7 (2 : Int) == (0 : Int) : Clm } p.8 (mN p)).1 i).2 = (q.2 i).2 ∧ ((madeE { answer := ruleN p.1.1, cooling := ruleN p.1.2, settle := ruleN p.1.3, reverse := ruleN p.1.4 : Rul } { number := pickN p.2 (100000000 : Int), src := pickN p.3 (8 : Int), dst := (w64 (w64 (pickN p.3 (8 : Int) + (1 : Int)) + pickN p.4 (7 : Int))).tmod (8 : Int), holder := pickN p.5 (64 : Int), asked := pickN p.6 (1000 : Int), backed := pickN p.7 (2 : Int) == (0 : Int) : Clm } p.8 (mN p)).1 i).3 = (q.2 i).3 ∧ True) ∧ True) ∧ (made_t8 p ∧ (pickN p.2 (100000000 : Int) = pickN p.2 (100000000 : Int) ∧ pickN p.3 (8 : Int) = pickN p.3 (8 : Int) ∧ (w64 (w64 (pickN p.3 (8 : Int) + (1 : Int)) + pickN p.4 (7 : Int))).tmod (8 : Int) = (IntKind.i64.wrap (IntKind.i64.wrap (pickN p.3 (8 : Int) + (1 : Int)) + pickN p.4 (7 : Int))).tmod (8 : Int) ∧ made_t9 p) ∧ mN p = q.1 ∧ True) ∧ (mN p = q.1 ∧ ∀ (i : Nat), i < mN p → ((madeE { answer := ruleN p.1.1, cooling := ruleN p.1.2, settle := ruleN p.1.3, reverse := ruleN p.1.4 : Rul } { number := pickN p.2 (100000000 : Int), src := pickN p.3 (8 : Int), dst := (w64 (w64 (pickN p.3 (8 : Int) + (1 : Int)) + pickN p.4 (7 : Int))).tmod (8 : Int), holder := pickN p.5 (64 : Int), asked := pickN p.6 (1000 : Int), backed := pickN p.7 (2 : Int) == (0 : Int) : Clm } p.8 (mN p)).1 i).1 = (q.2 i).1 ∧ ((madeE { answer := ruleN p.1.1, cooling := ruleN p.1.2, settle := ruleN p.1.3, reverse := ruleN p.1.4 : Rul } { number := pickN p.2 (100000000 : Int), src := pickN p.3 (8 : Int), dst := (w64 (w64 (pickN p.3 (8 : Int) + (1 : Int)) + pickN p.4 (7 : Int))).tmod (8 : Int), holder := pickN p.5 (64 : Int), asked := pickN p.6 (1000 : Int), backed := pickN p.7 (2 : Int) == (0 : Int) : Clm } p.8 (mN p)).1 i).2 = (q.2 i).2 ∧ ((madeE { answer := ruleN p.1.1, cooling := ruleN p.1.2, settle := ruleN p.1.3, reverse := ruleN p.1.4 : Rul } { number := pickN p.2 (100000000 : Int), src := pickN p.3 (8 : Int), dst := (w64 (w64 (pickN p.3 (8 : Int) + (1 : Int)) + pickN p.4 (7 : Int))).tmod (8 : Int), holder := pickN p.5 (64 : Int), asked := pickN p.6 (1000 : Int), backed := pickN p.7 (2 : Int) == (0 : Int) : Clm } p.8 (mN p)).1 i).3 = (q.2 i).3 ∧ True) ∧ True) ∧ ((0 : Int) < (64 : Int) ∧ made_t3 p) ∧ ((0 : Int) < (1000 : Int) ∧ made_t4 p) ∧ ((0 : Int) < (2 : Int) ∧ made_t5 p) ∧ ((0 : Int) < (7 : Int) ∧ made_t6 p) ∧ lMM.code = lMM.code ∧ (lMM_J { x := p, r := { answer := ruleN p.1.1, cooling := ruleN p.1.2, settle := ruleN p.1.3, reverse := ruleN p.1.4 : Rul }, c := { number := pickN p.2 (100000000 : Int), src := pickN p.3 (8 : Int), dst := (IntKind.i64.wrap (IntKind.i64.wrap (pickN p.3 (8 : Int) + (1 : Int)) + pickN p.4 (7 : Int))).tmod (8 : Int), holder := pickN p.5 (64 : Int), asked := pickN p.6 (1000 : Int), backed := pickN p.7 (2 : Int) == (0 : Int) : Clm } : MX } { i := (0 : Nat), E := fun (x : Nat) => { kind := (0 : Int), at' := (0 : Int), reason := (0 : Int) : Evt }, last := pickN p.6 (1000 : Int) : MS } ∧ made_t7 p) ∧ True ∧ ∀ (q : MS), Leaf (madeE { answer := ruleN p.1.1, cooling := ruleN p.1.2, settle := ruleN p.1.3, reverse := ruleN p.1.4 : Rul } { number := pickN p.2 (100000000 : Int), src := pickN p.3 (8 : Int), dst := (IntKind.i64.wrap (IntKind.i64.wrap (pickN p.3 (8 : Int) + (1 : Int)) + pickN p.4 (7 : Int))).tmod (8 : Int), holder := pickN p.5 (64 : Int), asked := pickN p.6 (1000 : Int), backed := pickN p.7 (2 : Int) == (0 : Int) : Clm } p.Z (min p.n (10 : Nat)) = (q.E, q.last) ∧ q.i = min p.n (10 : Nat)) → ((made_t8 p ∧ (pickN p.2 (100000000 : Int) = pickN p.2 (100000000 : Int) ∧ pickN p.3 (8 : Int) = pickN p.3 (8 : Int) ∧ (w64 (w64 (pickN p.3 (8 : Int) + (1 : Int)) + pickN p.4 (7 : Int))).tmod (8 : Int) = (IntKind.i64.wrap (IntKind.i64.wrap (pickN p.3 (8 : Int) + (1 : Int)) + pickN p.4 (7 : Int))).tmod (8 : Int) ∧ made_t9 p) ∧ mN p = q.1 ∧ True) ∧ (mN p = q.1 ∧ ∀ (i : Nat), i < mN p → ((madeE { answer := ruleN p.1.1, cooling := ruleN p.1.2, settle := ruleN p.1.3, reverse := ruleN p.1.4 : Rul } { number := pickN p.2 (100000000 : Int), src := pickN p.3 (8 : Int), dst := (w64 (w64 (pickN p.3 (8 : Int) + (1 : Int)) + pickN p.4 (7 : Int))).tmod (8 : Int), holder := pickN p.5 (64 : Int), asked := pickN p.6 (1000 : Int), backed := pickN p.7 (2 : Int) == (0 : Int) : Clm } p.8 (mN p)).1 i).1 = (q.2 i).1 ∧ ((madeE { answer := ruleN p.1.1, cooling := ruleN p.1.2, settle := ruleN p.1.3, reverse := ruleN p.1.4 : Rul } { number := pickN p.2 (100000000 : Int), src := pickN p.3 (8 : Int), dst := (w64 (w64 (pickN p.3 (8 : Int) + (1 : Int)) + pickN p.4 (7 : Int))).tmod (8 : Int), holder := pickN p.5 (64 : Int), asked := pickN p.6 (1000 : Int), backed := pickN p.7 (2 : Int) == (0 : Int) : Clm } p.8 (mN p)).1 i).2 = (q.2 i).2 ∧ ((madeE { answer := ruleN p.1.1, cooling := ruleN p.1.2, settle := ruleN p.1.3, reverse := ruleN p.1.4 : Rul } { number := pickN p.2 (100000000 : Int), src := pickN p.3 (8 : Int), dst := (w64 (w64 (pickN p.3 (8 : Int) + (1 : Int)) + pickN p.4 (7 : Int))).tmod (8 : Int), holder := pickN p.5 (64 : Int), asked := pickN p.6 (1000 : Int), backed := pickN p.7 (2 : Int) == (0 : Int) : Clm } p.8 (mN p)).1 i).3 = (q.2 i).3 ∧ True) ∧ True) ∧ (made_t8 p ∧ (pickN p.2 (100000000 : Int) = pickN p.2 (100000000 : Int) ∧ pickN p.3 (8 : Int) = pickN p.3 (8 : Int) ∧ (w64 (w64 (pickN p.3 (8 : Int) + (1 : Int)) + pickN p.4 (7 : Int))).tmod (8 : Int) = (IntKind.i64.wrap (IntKind.i64.wrap (pickN p.3 (8 : Int) + (1 : Int)) + pickN p.4 (7 : Int))).tmod (8 : Int) ∧ made_t9 p) ∧ mN p = q.1 ∧ True) ∧ (mN p = q.1 ∧ ∀ (i : Nat), i < mN p → ((madeE { answer := ruleN p.1.1, cooling := ruleN p.1.2, settle := ruleN p.1.3, reverse := ruleN p.1.4 : Rul } { number := pickN p.2 (100000000 : Int), src := pickN p.3 (8 : Int), dst := (w64 (w64 (pickN p.3 (8 : Int) + (1 : Int)) + pickN p.4 (7 : Int))).tmod (8 : Int), holder := pickN p.5 (64 : Int), asked := pickN p.6 (1000 : Int), backed := pickN p.7 (2 : Int) == (0 : Int) : Clm } p.8 (mN p)).1 i).1 = (q.2 i).1 ∧ ((madeE { answer := ruleN p.1.1, cooling := ruleN p.1.2, settle := ruleN p.1.3, reverse := ruleN p.1.4 : Rul } { number := pickN p.2 (100000000 : Int), src := pickN p.3 (8 : Int), dst := (w64 (w64 (pickN p.3 (8 : Int) + (1 : Int)) + pickN p.4 (7 : Int))).tmod (8 : Int), holder := pickN p.5 (64 : Int), asked := pickN p.6 (1000 : Int), backed := pickN p.7 (2 : Int) == (0 : Int) : Clm } p.8 (mN p)).1 i).2 = (q.2 i).2 ∧ ((madeE { answer := ruleN p.1.1, cooling := ruleN p.1.2, settle := ruleN p.1.3, reverse := ruleN p.1.4 : Rul } { number := pickN p.2 (100000000 : Int), src := pickN p.3 (8 : Int), dst := (w64 (w64 (pickN p.3 (8 : Int) + (1 : Int)) + pickN p.4 (7 : Int))).tmod (8 : Int), holder := pickN p.5 (64 : Int), asked := pickN p.6 (1000 : Int), backed := pickN p.7 (2 : Int) == (0 : Int) : Clm } p.8 (mN p)).1 i).3 = (q.2 i).3 ∧ True) ∧ True) ∧ ((0 : Int) < (8 : Int) ∧ made_t2 p) ∧ ((0 : Int) < (64 : Int) ∧ made_t3 p) ∧ ((0 : Int) < (1000 : Int) ∧ made_t4 p) ∧ ((0 : Int) < (2 : Int) ∧ made_t5 p) ∧ ((0 : Int) < (7 : Int) ∧ made_t6 p) ∧ lMM.code = lMM.code ∧ (lMM_J { x := p, r := { answer := ruleN p.1.1, cooling := ruleN p.1.2, settle := ruleN p.1.3, reverse := ruleN p.1.4 : Rul }, c := { number := pickN p.2 (100000000 : Int), src := pickN p.3 (8 : Int), dst := (IntKind.i64.wrap (IntKind.i64.wrap (pickN p.3 (8 : Int) + (1 : Int)) + pickN p.4 (7 : Int))).tmod (8 : Int), holder := pickN p.5 (64 : Int), asked := pickN p.6 (1000 : Int), backed := pickN p.7 (2 : Int) == (0 : Int) : Clm } : MX } { i := (0 : Nat), E := fun (x : Nat) => { kind := (0 : Int), at' := (0 : Int), reason := (0 : Int) : Evt }, last := pickN p.6 (1000 : Int) : MS } ∧ made_t7 p) ∧ True ∧ ∀ (q : MS), Leaf (madeE { answer := ruleN p.1.1, cooling := ruleN p.1.2, settle := ruleN p.1.3, reverse := ruleN p.1.4 : Rul } { number := pickN p.2 (100000000 : Int), src := pickN p.3 (8 : Int), dst := (IntKind.i64.wrap (IntKind.i64.wrap (pickN p.3 (8 : Int) + (1 : Int)) + pickN p.4 (7 : Int))).tmod (8 : Int), holder := pickN p.5 (64 : Int), asked := pickN p.6 (1000 : Int), backed := pickN p.7 (2 : Int) == (0 : Int) : Clm } p.Z (min p.n (10 : Nat)) = (q.E, q.last) ∧ q.i = min p.n (10 : Nat)) → ((made_t8 p ∧ (pickN p.2 (100000000 : Int) = pickN p.2 (100000000 : Int) ∧ pickN p.3 (8 : Int) = pickN p.3 (8 : Int) ∧ (w64 (w64 (pickN p.3 (8 : Int) + (1 : Int)) + pickN p.4 (7 : Int))).tmod (8 : Int) = (IntKind.i64.wrap (IntKind.i64.wrap (pickN p.3 (8 : Int) + (1 : Int)) + pickN p.4 (7 : Int))).tmod (8 : Int) ∧ made_t9 p) ∧ mN p = q.1 ∧ True) ∧ (mN p = q.1 ∧ ∀ (i : Nat), i < mN p → ((madeE { answer := ruleN p.1.1, cooling := ruleN p.1.2, settle := ruleN p.1.3, reverse := ruleN p.1.4 : Rul } { number := pickN p.2 (100000000 : Int), src := pickN p.3 (8 : Int), dst := (w64 (w64 (pickN p.3 (8 : Int) + (1 : Int)) + pickN p.4 (7 : Int))).tmod (8 : Int), holder := pickN p.5 (64 : Int), asked := pickN p.6 (1000 : Int), backed := pickN p.7 (2 : Int) == (0 : Int) : Clm } p.8 (mN p)).1 i).1 = (q.2 i).1 ∧ ((madeE { answer := ruleN p.1.1, cooling := ruleN p.1.2, settle := ruleN p.1.3, reverse := ruleN p.1.4 : Rul } { number := pickN p.2 (100000000 : Int), src := pickN p.3 (8 : Int), dst := (w64 (w64 (pickN p.3 (8 : Int) + (1 : Int)) + pickN p.4 (7 : Int))).tmod (8 : Int), holder := pickN p.5 (64 : Int), asked := pickN p.6 (1000 : Int), backed := pickN p.7 (2 : Int) == (0 : Int) : Clm } p.8 (mN p)).1 i).2 = (q.2 i).2 ∧ ((madeE { answer := ruleN p.1.1, cooling := ruleN p.1.2, settle := ruleN p.1.3, reverse := ruleN p.1.4 : Rul } { number := pickN p.2 (100000000 : Int), src := pickN p.3 (8 : Int), dst := (w64 (w64 (pickN p.3 (8 : Int) + (1 : Int)) + pickN p.4 (7 : Int))).tmod (8 : Int), holder := pickN p.5 (64 : Int), asked := pickN p.6 (1000 : Int), backed := pickN p.7 (2 : Int) == (0 : Int) : Clm } p.8 (mN p)).1 i).3 = (q.2 i).3 ∧ True) ∧ True) ∧ (made_t8 p ∧ (pickN p.2 (100000000 : Int) = pickN p.2 (100000000 : Int) ∧ pickN p.3 (8 : Int) = pickN p.3 (8 : Int) ∧ (w64 (w64 (pickN p.3 (8 : Int) + (1 : Int)) + pickN p.4 (7 : Int))).tmod (8 : Int) = (IntKind.i64.wrap (IntKind.i64.wrap (pickN p.3 (8 : Int) + (1 : Int)) + pickN p.4 (7 : Int))).tmod (8 : Int) ∧ made_t9 p) ∧ mN p = q.1 ∧ True) ∧ (mN p = q.1 ∧ ∀ (i : Nat), i < mN p → ((madeE { answer := ruleN p.1.1, cooling := ruleN p.1.2, settle := ruleN p.1.3, reverse := ruleN p.1.4 : Rul } { number := pickN p.2 (100000000 : Int), src := pickN p.3 (8 : Int), dst := (w64 (w64 (pickN p.3 (8 : Int) + (1 : Int)) + pickN p.4 (7 : Int))).tmod (8 : Int), holder := pickN p.5 (64 : Int), asked := pickN p.6 (1000 : Int), backed := pickN p.7 (2 : Int) == (0 : Int) : Clm } p.8 (mN p)).1 i).1 = (q.2 i).1 ∧ ((madeE { answer := ruleN p.1.1, cooling := ruleN p.1.2, settle := ruleN p.1.3, reverse := ruleN p.1.4 : Rul } { number := pickN p.2 (100000000 : Int), src := pickN p.3 (8 : Int), dst := (w64 (w64 (pickN p.3 (8 : Int) + (1 : Int)) + pickN p.4 (7 : Int))).tmod (8 : Int), holder := pickN p.5 (64 : Int), asked := pickN p.6 (1000 : Int), backed := pickN p.7 (2 : Int) == (0 : Int) : Clm } p.8 (mN p)).1 i).2 = (q.2 i).2 ∧ ((madeE { answer := ruleN p.1.1, cooling := ruleN p.1.2, settle := ruleN p.1.3, reverse := ruleN p.1.4 : Rul } { number := pickN p.2 (100000000 : Int), src := pickN p.3 (8 : Int), dst := (w64 (w64 (pickN p.3 (8 : Int) + (1 : Int)) + pickN p.4 (7 : Int))).tmod (8 : Int), holder := pickN p.5 (64 : Int), asked := pickN p.6 (1000 : Int), backed := pickN p.7 (2 : Int) == (0 : Int) : Clm } p.8 (mN p)).1 i).3 = (q.2 i).3 ∧ True) ∧ True) ∧ ((0 : Int) < (100000000 : Int) ∧ made_t1 p) ∧ ((0 : Int) < (8 : Int) ∧ made_t2 p) ∧ ((0 : Int) < (64 : Int) ∧ made_t3 p) ∧ ((0 : Int) < (1000 : Int) ∧ made_t4 p) ∧ ((0 : Int) < (2 : Int) ∧ made_t5 p) ∧ ((0 : Int) < (7 : Int) ∧ made_t6 p) ∧ lMM.code = lMM.code ∧ (lMM_J { x := p, r := { answer := ruleN p.1.1, cooling := ruleN p.1.2, settle := ruleN p.1.3, reverse := ruleN p.1.4 : Rul }, c := { number := pickN p.2 (100000000 : Int), src := pickN p.3 (8 : Int), dst := (IntKind.i64.wrap (IntKind.i64.wrap (pickN p.3 (8 : Int) + (1 : Int)) + pickN p.4 (7 : Int))).tmod (8 : Int), holder := pickN p.5 (64 : Int), asked := pickN p.6 (1000 : Int), backed := pickN p.7 (2 : Int) == (0 : Int) : Clm } : MX } { i := (0 : Nat), E := fun (x : Nat) => { kind := (0 : Int), at' := (0 : Int), reason := (0 : Int) : Evt }, last := pickN p.6 (1000 : Int) : MS } ∧ made_t7 p) ∧ True ∧ ∀ (q : MS), Leaf (madeE { answer := ruleN p.1.1, cooling := ruleN p.1.2, settle := ruleN p.1.3, reverse := ruleN p.1.4 : Rul } { number := pickN p.2 (100000000 : Int), src := pickN p.3 (8 : Int), dst := (IntKind.i64.wrap (IntKind.i64.wrap (pickN p.3 (8 : Int) + (1 : Int)) + pickN p.4 (7 : Int))).tmod (8 : Int), holder := pickN p.5 (64 : Int), asked := pickN p.6 (1000 : Int), backed := pickN p.7 (2 : Int) == (0 : Int) : Clm } p.Z (min p.n (10 : Nat)) = (q.E, q.last) ∧ q.i = min p.n (10 : Nat)) → ((made_t8 p ∧ (pickN p.2 (100000000 : Int) = pickN p.2 (100000000 : Int) ∧ pickN p.3 (8 : Int) = pickN p.3 (8 : Int) ∧ (w64 (w64 (pickN p.3 (8 : Int) + (1 : Int)) + pickN p.4 (7 : Int))).tmod (8 : Int) = (IntKind.i64.wrap (IntKind.i64.wrap (pickN p.3 (8 : Int) + (1 : Int)) + pickN p.4 (7 : Int))).tmod (8 : Int) ∧ made_t9 p) ∧ mN p = q.1 ∧ True) ∧ (mN p = q.1 ∧ ∀ (i : Nat), i < mN p → ((madeE { answer := ruleN p.1.1, cooling := ruleN p.1.2, settle := ruleN p.1.3, reverse := ruleN p.1.4 : Rul } { number := pickN p.2 (100000000 : Int), src := pickN p.3 (8 : Int), dst := (w64 (w64 (pickN p.3 (8 : Int) + (1 : Int)) + pickN p.4 (7 : Int))).tmod (8 : Int), holder := pickN p.5 (64 : Int), asked := pickN p.6 (1000 : Int), backed := pickN p.7 (2 : Int) == (0 : Int) : Clm } p.8 (mN p)).1 i).1 = (q.2 i).1 ∧ ((madeE { answer := ruleN p.1.1, cooling := ruleN p.1.2, settle := ruleN p.1.3, reverse := ruleN p.1.4 : Rul } { number := pickN p.2 (100000000 : Int), src := pickN p.3 (8 : Int), dst := (w64 (w64 (pickN p.3 (8 : Int) + (1 : Int)) + pickN p.4 (7 : Int))).tmod (8 : Int), holder := pickN p.5 (64 : Int), asked := pickN p.6 (1000 : Int), backed := pickN p.7 (2 : Int) == (0 : Int) : Clm } p.8 (mN p)).1 i).2 = (q.2 i).2 ∧ ((madeE { answer := ruleN p.1.1, cooling := ruleN p.1.2, settle := ruleN p.1.3, reverse := ruleN p.1.4 : Rul } { number := pickN p.2 (100000000 : Int), src := pickN p.3 (8 : Int), dst := (w64 (w64 (pickN p.3 (8 : Int) + (1 : Int)) + pickN p.4 (7 : Int))).tmod (8 : Int), holder := pickN p.5 (64 : Int), asked := pickN p.6 (1000 : Int), backed := pickN p.7 (2 : Int) == (0 : Int) : Clm } p.8 (mN p)).1 i).3 = (q.2 i).3 ∧ True) ∧ True) ∧ (made_t8 p ∧ (pickN p.2 (100000000 : Int) = pickN p.2 (100000000 : Int) ∧ pickN p.3 (8 : Int) = pickN p.3 (8 : Int) ∧ (w64 (w64 (pickN p.3 (8 : Int) + (1 : Int)) + pickN p.4 (7 : Int))).tmod (8 : Int) = (IntKind.i64.wrap (IntKind.i64.wrap (pickN p.3 (8 : Int) + (1 : Int)) + pickN p.4 (7 : Int))).tmod (8 : Int) ∧ made_t9 p) ∧ mN p = q.1 ∧ True) ∧ (mN p = q.1 ∧ ∀ (i : Nat), i < mN p → ((madeE { answer := ruleN p.1.1, cooling := ruleN p.1.2, settle := ruleN p.1.3, reverse := ruleN p.1.4 : Rul } { number := pickN p.2 (100000000 : Int), src := pickN p.3 (8 : Int), dst := (w64 (w64 (pickN p.3 (8 : Int) + (1 : Int)) + pickN p.4 (7 : Int))).tmod (8 : Int), holder := pickN p.5 (64 : Int), asked := pickN p.6 (1000 : Int), backed := pickN p.7 (2 : Int) == (0 : Int) : Clm } p.8 (mN p)).1 i).1 = (q.2 i).1 ∧ ((madeE { answer := ruleN p.1.1, cooling := ruleN p.1.2, settle := ruleN p.1.3, reverse := ruleN p.1.4 : Rul } { number := pickN p.2 (100000000 : Int), src := pickN p.3 (8 : Int), dst := (w64 (w64 (pickN p.3 (8 : Int) + (1 : Int)) + pickN p.4 (7 : Int))).tmod (8 : Int), holder := pickN p.5 (64 : Int), asked := pickN p.6 (1000 : Int), backed := pickN p.7 (2 : Int) == (0 : Int) : Clm } p.8 (mN p)).1 i).2 = (q.2 i).2 ∧ ((madeE { answer := ruleN p.1.1, cooling := ruleN p.1.2, settle := ruleN p.1.3, reverse := ruleN p.1.4 : Rul } { number := pickN p.2 (100000000 : Int), src := pickN p.3 (8 : Int), dst := (w64 (w64 (pickN p.3 (8 : Int) + (1 : Int)) + pickN p.4 (7 : Int))).tmod (8 : Int), holder := pickN p.5 (64 : Int), asked := pickN p.6 (1000 : Int), backed := pickN p.7 (2 : Int) == (0 : Int) : Clm } p.8 (mN p)).1 i).3 = (q.2 i).3 ∧ True) ∧ True
theorem made_eq (p : NP) : callBy XM1 (exec XM1 100) 12 (sMade.A p) (sMade.H p) (RetC (sMade.H p).length (sMade.R p) (sMade.O p)) = made_T p := by kernel_rfl

set_option maxHeartbeats 1000000 in
theorem made_step (p : NP) : made_T p := by
  unfold made_T
  repeat' (first | with_reducible refine And.intro ?_ ?_ | with_reducible refine fun (q : MS) hq => ?_)
  all_goals try first | with_reducible exact made_t0_t _ | with_reducible exact made_t1_t _ | with_reducible exact made_t2_t _ | with_reducible exact made_t3_t _ | with_reducible exact made_t4_t _ | with_reducible exact made_t5_t _ | with_reducible exact made_t6_t _ | with_reducible exact made_t7_t _ | with_reducible exact made_t8_t _ | with_reducible exact made_t9_t _ | with_reducible rfl | with_reducible exact trivial | with_reducible exact List.Perm.refl _
  all_goals first
    | decide
    | exact ⟨Nat.zero_le _, Nat.zero_le _, rfl⟩
    | rfl
    | exact hq.2.symm
    | (intro i hi
       have h1 : madeE (mR p) (mC p) p.Z (mN p) = (q.E, q.last) := hq.1
       have h2 : mE p = q.E := by rw [mE, h1]
       have h3 : ((madeE (mR p) (mC p) p.Z (mN p)).1 i) = q.E i := by rw [h1]
       exact ⟨congrArg Evt.kind h3, congrArg Evt.at' h3, congrArg Evt.reason h3, trivial⟩)
    | trace_state
theorem made_ok : sMade.OK XM1.P 12 := .of_eq XM1_ok 100 _ made_eq (fun _ => rfl) (fun p hJ o h => by
  simp only [sMade, List.mem_singleton] at h
  subst h
  exact ⟨rfl, fun i _ s hs => by simp only [Evt.cells, List.mem_cons, List.not_mem_nil, or_false] at hs; rcases hs with rfl | rfl | rfl <;> rfl⟩) fun p _ => made_step p
end Go.Proofs.Ytmcidfecepknpaa

namespace Go.Proofs.Ytmcidfecepknpaa
open Go Go.Sh Go.Proofs
set_option linter.unusedVariables false
def rulesE : Rul := ⟨100, 50, 200, 300⟩
def claimE : Clm := ⟨55, 1, 2, 9, 1000, false⟩
def sRulesE : FSpec Unit := { J := fun _ => True, A := fun _ => [], H := fun _ => [], R := fun _ => rulesE.sv, O := fun _ => [] }
def sClaimE : FSpec Unit := { J := fun _ => True, A := fun _ => [], H := fun _ => [], R := fun _ => claimE.sv, O := fun _ => [] }
def sSane : FSpec Unit := { J := fun _ => True, A := fun _ => [], H := fun _ => [], R := fun _ => .bool true, O := fun _ => [] }
end Go.Proofs.Ytmcidfecepknpaa

namespace Go.Proofs.Ytmcidfecepknpaa
open Go Go.Sh Go.Proofs
set_option linter.unusedVariables false
set_option linter.unusedSimpArgs false
def rulesE_t0 : Prop :=
  ((100 : Int) = (100 : Int) ∧ (50 : Int) = (50 : Int) ∧ (200 : Int) = (200 : Int) ∧ (300 : Int) = (300 : Int) ∧ True) ∧ True
theorem rulesE_t0_t : rulesE_t0 :=
  ⟨⟨rfl, ⟨rfl, ⟨rfl, ⟨rfl, trivial⟩⟩⟩⟩, trivial⟩
def rulesE_T (p : Unit) : Prop :=
  rulesE_t0
theorem rulesE_eq (p : Unit) : callBy X0 (exec X0 100) 31 (sRulesE.A p) (sRulesE.H p) (RetC (sRulesE.H p).length (sRulesE.R p) (sRulesE.O p)) = rulesE_T p := by kernel_rfl
def claimE_t0 : Prop :=
  ((55 : Int) = (55 : Int) ∧ (1 : Int) = (1 : Int) ∧ (2 : Int) = (2 : Int) ∧ (9 : Int) = (9 : Int) ∧ (1000 : Int) = (1000 : Int) ∧ false = false ∧ True) ∧ True
theorem claimE_t0_t : claimE_t0 :=
  ⟨⟨rfl, ⟨rfl, ⟨rfl, ⟨rfl, ⟨rfl, ⟨rfl, trivial⟩⟩⟩⟩⟩⟩, trivial⟩
def claimE_T (p : Unit) : Prop :=
  claimE_t0
theorem claimE_eq (p : Unit) : callBy X0 (exec X0 100) 30 (sClaimE.A p) (sClaimE.H p) (RetC (sClaimE.H p).length (sClaimE.R p) (sClaimE.O p)) = claimE_T p := by kernel_rfl

theorem rulesE_step (p : Unit) : rulesE_T p := by
  unfold rulesE_T
  repeat' (first | with_reducible refine ifB_split (fun _ => ?_) (fun _ => ?_) | with_reducible refine And.intro ?_ ?_)
  all_goals try first | with_reducible exact rulesE_t0_t | with_reducible rfl | with_reducible exact trivial | with_reducible exact List.Perm.refl _

theorem rulesE_ok : sRulesE.OK X0.P 31 := .of_eq X0_ok 100 _ rulesE_eq (fun _ => rfl) (fun _ _ o h => by cases h) fun p _ => rulesE_step p

theorem claimE_step (p : Unit) : claimE_T p := by
  unfold claimE_T
  repeat' (first | with_reducible refine ifB_split (fun _ => ?_) (fun _ => ?_) | with_reducible refine And.intro ?_ ?_)
  all_goals try first | with_reducible exact claimE_t0_t | with_reducible rfl | with_reducible exact trivial | with_reducible exact List.Perm.refl _

theorem claimE_ok : sClaimE.OK X0.P 30 := .of_eq X0_ok 100 _ claimE_eq (fun _ => rfl) (fun _ _ o h => by cases h) fun p _ => claimE_step p

noncomputable def XS0 : Ctx := (((((((X0.with 13 (sEnds.by exRC)).with 14 (sOutcome.by exOP)).with 17 (sVoid.by exCP)).with 18 (sTime.by exCP)).with 20 (sWith.by exOP)).with 33 (sValid.by exCP)).with 31 (sRulesE.by exUnit)).with 30 (sClaimE.by exUnit)
theorem XS0_ok : XS0.OK := Ctx.with_ok (Ctx.with_ok (Ctx.with_ok (Ctx.with_ok (Ctx.with_ok (Ctx.with_ok (Ctx.with_ok (Ctx.with_ok X0_ok (ends_ok.by exRC)) (outcome_ok.by exOP)) (void_ok.by exCP)) (time_ok.by exCP)) (with_ok'.by exOP)) (valid_ok.by exCP)) (rulesE_ok.by exUnit)) (claimE_ok.by exUnit)
end Go.Proofs.Ytmcidfecepknpaa

namespace Go.Proofs.Ytmcidfecepknpaa
open Go Go.Sh Go.Proofs
set_option linter.unusedVariables false
set_option linter.unusedSimpArgs false
def sane_t0 : Prop :=
  True ∧ (0 : Nat) = (0 : Nat) ∧ True ∧ True
theorem sane_t0_t : sane_t0 :=
  ⟨trivial, ⟨rfl, ⟨trivial, trivial⟩⟩⟩
def sane_t1 : Prop :=
  True ∧ (0 : Nat) = (0 : Nat) ∧ (((100 : Int) = (100 : Int) ∧ (50 : Int) = (50 : Int) ∧ (200 : Int) = (200 : Int) ∧ (300 : Int) = (300 : Int) ∧ True) ∧ ((55 : Int) = (55 : Int) ∧ (1 : Int) = (1 : Int) ∧ (2 : Int) = (2 : Int) ∧ (9 : Int) = (9 : Int) ∧ (1000 : Int) = (1000 : Int) ∧ false = false ∧ True) ∧ True) ∧ True
theorem sane_t1_t : sane_t1 :=
  ⟨trivial, ⟨rfl, ⟨⟨⟨rfl, ⟨rfl, ⟨rfl, ⟨rfl, trivial⟩⟩⟩⟩, ⟨⟨rfl, ⟨rfl, ⟨rfl, ⟨rfl, ⟨rfl, ⟨rfl, trivial⟩⟩⟩⟩⟩⟩, trivial⟩⟩, trivial⟩⟩⟩
def sane_t2 : Prop :=
  True ∧ (1 : Nat) = (1 : Nat) ∧ (((100 : Int) = (100 : Int) ∧ (50 : Int) = (50 : Int) ∧ (200 : Int) = (200 : Int) ∧ (300 : Int) = (300 : Int) ∧ True) ∧ ((55 : Int) = (55 : Int) ∧ (1 : Int) = (1 : Int) ∧ (2 : Int) = (2 : Int) ∧ (9 : Int) = (9 : Int) ∧ (1000 : Int) = (1000 : Int) ∧ false = false ∧ True) ∧ ((0 : Nat) = (0 : Nat) ∧ (1 : Nat) = (1 : Nat)) ∧ True) ∧ ((1 : Nat) = (1 : Nat) ∧ ∀ (i : Nat), i < (1 : Nat) → (2 : Int) = (2 : Int) ∧ (1100 : Int) = (1100 : Int) ∧ (1 : Int) = (1 : Int) ∧ True) ∧ True
theorem sane_t2_t : sane_t2 :=
  ⟨trivial, ⟨rfl, ⟨⟨⟨rfl, ⟨rfl, ⟨rfl, ⟨rfl, trivial⟩⟩⟩⟩, ⟨⟨rfl, ⟨rfl, ⟨rfl, ⟨rfl, ⟨rfl, ⟨rfl, trivial⟩⟩⟩⟩⟩⟩, ⟨⟨rfl, rfl⟩, trivial⟩⟩⟩, ⟨⟨rfl, (fun _ => (fun _ => ⟨rfl, ⟨rfl, ⟨rfl, trivial⟩⟩⟩))⟩, trivial⟩⟩⟩⟩
def sane_t3 : Prop :=
  ((100 : Int) = (100 : Int) ∧ (50 : Int) = (50 : Int) ∧ (200 : Int) = (200 : Int) ∧ (300 : Int) = (300 : Int) ∧ True) ∧ ((55 : Int) = (55 : Int) ∧ (1 : Int) = (1 : Int) ∧ (2 : Int) = (2 : Int) ∧ (9 : Int) = (9 : Int) ∧ (1000 : Int) = (1000 : Int) ∧ false = false ∧ True) ∧ ((0 : Nat) = (0 : Nat) ∧ (3 : Nat) = (3 : Nat)) ∧ True
theorem sane_t3_t : sane_t3 :=
  ⟨⟨rfl, ⟨rfl, ⟨rfl, ⟨rfl, trivial⟩⟩⟩⟩, ⟨⟨rfl, ⟨rfl, ⟨rfl, ⟨rfl, ⟨rfl, ⟨rfl, trivial⟩⟩⟩⟩⟩⟩, ⟨⟨rfl, rfl⟩, trivial⟩⟩⟩
def sane_t4 : Prop :=
  True ∧ (1 : Nat) = (1 : Nat) ∧ (((100 : Int) = (100 : Int) ∧ (50 : Int) = (50 : Int) ∧ (200 : Int) = (200 : Int) ∧ (300 : Int) = (300 : Int) ∧ True) ∧ ((55 : Int) = (55 : Int) ∧ (1 : Int) = (1 : Int) ∧ (2 : Int) = (2 : Int) ∧ (9 : Int) = (9 : Int) ∧ (1000 : Int) = (1000 : Int) ∧ false = false ∧ True) ∧ (0 : Nat) = (0 : Nat) ∧ (1149 : Int) = (1149 : Int) ∧ True) ∧ (0 : Nat) = (0 : Nat) ∧ True
theorem sane_t4_t : sane_t4 :=
  ⟨trivial, ⟨rfl, ⟨⟨⟨rfl, ⟨rfl, ⟨rfl, ⟨rfl, trivial⟩⟩⟩⟩, ⟨⟨rfl, ⟨rfl, ⟨rfl, ⟨rfl, ⟨rfl, ⟨rfl, trivial⟩⟩⟩⟩⟩⟩, ⟨rfl, ⟨rfl, trivial⟩⟩⟩⟩, ⟨rfl, trivial⟩⟩⟩⟩
def sane_t5 : Prop :=
  True ∧ (1 : Nat) = (1 : Nat) ∧ (((100 : Int) = (100 : Int) ∧ (50 : Int) = (50 : Int) ∧ (200 : Int) = (200 : Int) ∧ (300 : Int) = (300 : Int) ∧ True) ∧ ((55 : Int) = (55 : Int) ∧ (1 : Int) = (1 : Int) ∧ (2 : Int) = (2 : Int) ∧ (9 : Int) = (9 : Int) ∧ (1000 : Int) = (1000 : Int) ∧ false = false ∧ True) ∧ (0 : Nat) = (0 : Nat) ∧ (1150 : Int) = (1150 : Int) ∧ True) ∧ (0 : Nat) = (0 : Nat) ∧ True
theorem sane_t5_t : sane_t5 :=
  ⟨trivial, ⟨rfl, ⟨⟨⟨rfl, ⟨rfl, ⟨rfl, ⟨rfl, trivial⟩⟩⟩⟩, ⟨⟨rfl, ⟨rfl, ⟨rfl, ⟨rfl, ⟨rfl, ⟨rfl, trivial⟩⟩⟩⟩⟩⟩, ⟨rfl, ⟨rfl, trivial⟩⟩⟩⟩, ⟨rfl, trivial⟩⟩⟩⟩
def sane_t6 : Prop :=
  True ∧ (1 : Nat) = (1 : Nat) ∧ (((100 : Int) = (100 : Int) ∧ (50 : Int) = (50 : Int) ∧ (200 : Int) = (200 : Int) ∧ (300 : Int) = (300 : Int) ∧ True) ∧ ((55 : Int) = (55 : Int) ∧ (1 : Int) = (1 : Int) ∧ (2 : Int) = (2 : Int) ∧ (9 : Int) = (9 : Int) ∧ (1000 : Int) = (1000 : Int) ∧ false = false ∧ True) ∧ (0 : Nat) = (0 : Nat) ∧ (-1 : Int) = (-1 : Int) ∧ True) ∧ (0 : Nat) = (0 : Nat) ∧ True
theorem sane_t6_t : sane_t6 :=
  ⟨trivial, ⟨rfl, ⟨⟨⟨rfl, ⟨rfl, ⟨rfl, ⟨rfl, trivial⟩⟩⟩⟩, ⟨⟨rfl, ⟨rfl, ⟨rfl, ⟨rfl, ⟨rfl, ⟨rfl, trivial⟩⟩⟩⟩⟩⟩, ⟨rfl, ⟨rfl, trivial⟩⟩⟩⟩, ⟨rfl, trivial⟩⟩⟩⟩
def sane_t7 : Prop :=
  True ∧ (1 : Nat) = (1 : Nat) ∧ (((100 : Int) = (100 : Int) ∧ (50 : Int) = (50 : Int) ∧ (200 : Int) = (200 : Int) ∧ (300 : Int) = (300 : Int) ∧ True) ∧ ((55 : Int) = (55 : Int) ∧ (1 : Int) = (1 : Int) ∧ (2 : Int) = (2 : Int) ∧ (9 : Int) = (9 : Int) ∧ (1000 : Int) = (1000 : Int) ∧ false = false ∧ True) ∧ (0 : Nat) = (0 : Nat) ∧ (999 : Int) = (999 : Int) ∧ True) ∧ (0 : Nat) = (0 : Nat) ∧ True
theorem sane_t7_t : sane_t7 :=
  ⟨trivial, ⟨rfl, ⟨⟨⟨rfl, ⟨rfl, ⟨rfl, ⟨rfl, trivial⟩⟩⟩⟩, ⟨⟨rfl, ⟨rfl, ⟨rfl, ⟨rfl, ⟨rfl, ⟨rfl, trivial⟩⟩⟩⟩⟩⟩, ⟨rfl, ⟨rfl, trivial⟩⟩⟩⟩, ⟨rfl, trivial⟩⟩⟩⟩
def sane_t8 : Prop :=
  True ∧ (1 : Nat) = (1 : Nat) ∧ (((100 : Int) = (100 : Int) ∧ (50 : Int) = (50 : Int) ∧ (200 : Int) = (200 : Int) ∧ (300 : Int) = (300 : Int) ∧ True) ∧ ((55 : Int) = (55 : Int) ∧ (1 : Int) = (1 : Int) ∧ (2 : Int) = (2 : Int) ∧ (9 : Int) = (9 : Int) ∧ (1000 : Int) = (1000 : Int) ∧ false = false ∧ True) ∧ (0 : Nat) = (0 : Nat) ∧ (1099 : Int) = (1099 : Int) ∧ True) ∧ (0 : Nat) = (0 : Nat) ∧ True
theorem sane_t8_t : sane_t8 :=
  ⟨trivial, ⟨rfl, ⟨⟨⟨rfl, ⟨rfl, ⟨rfl, ⟨rfl, trivial⟩⟩⟩⟩, ⟨⟨rfl, ⟨rfl, ⟨rfl, ⟨rfl, ⟨rfl, ⟨rfl, trivial⟩⟩⟩⟩⟩⟩, ⟨rfl, ⟨rfl, trivial⟩⟩⟩⟩, ⟨rfl, trivial⟩⟩⟩⟩
def sane_t9 : Prop :=
  True ∧ (1 : Nat) = (1 : Nat) ∧ (((100 : Int) = (100 : Int) ∧ (50 : Int) = (50 : Int) ∧ (200 : Int) = (200 : Int) ∧ (300 : Int) = (300 : Int) ∧ True) ∧ ((55 : Int) = (55 : Int) ∧ (1 : Int) = (1 : Int) ∧ (2 : Int) = (2 : Int) ∧ (9 : Int) = (9 : Int) ∧ (1000 : Int) = (1000 : Int) ∧ false = false ∧ True) ∧ (0 : Nat) = (0 : Nat) ∧ (1100 : Int) = (1100 : Int) ∧ True) ∧ (0 : Nat) = (0 : Nat) ∧ True
theorem sane_t9_t : sane_t9 :=
  ⟨trivial, ⟨rfl, ⟨⟨⟨rfl, ⟨rfl, ⟨rfl, ⟨rfl, trivial⟩⟩⟩⟩, ⟨⟨rfl, ⟨rfl, ⟨rfl, ⟨rfl, ⟨rfl, ⟨rfl, trivial⟩⟩⟩⟩⟩⟩, ⟨rfl, ⟨rfl, trivial⟩⟩⟩⟩, ⟨rfl, trivial⟩⟩⟩⟩
def sane_t10 : Prop :=
  True ∧ (1 : Nat) = (1 : Nat) ∧ (((100 : Int) = (100 : Int) ∧ (50 : Int) = (50 : Int) ∧ (200 : Int) = (200 : Int) ∧ (300 : Int) = (300 : Int) ∧ True) ∧ ((55 : Int) = (55 : Int) ∧ (1 : Int) = (1 : Int) ∧ (2 : Int) = (2 : Int) ∧ (9 : Int) = (9 : Int) ∧ (1000 : Int) = (1000 : Int) ∧ false = false ∧ True) ∧ (0 : Nat) = (0 : Nat) ∧ (1450 : Int) = (1450 : Int) ∧ True) ∧ (0 : Nat) = (0 : Nat) ∧ True
theorem sane_t10_t : sane_t10 :=
  ⟨trivial, ⟨rfl, ⟨⟨⟨rfl, ⟨rfl, ⟨rfl, ⟨rfl, trivial⟩⟩⟩⟩, ⟨⟨rfl, ⟨rfl, ⟨rfl, ⟨rfl, ⟨rfl, ⟨rfl, trivial⟩⟩⟩⟩⟩⟩, ⟨rfl, ⟨rfl, trivial⟩⟩⟩⟩, ⟨rfl, trivial⟩⟩⟩⟩
def sane_t11 : Prop :=
  True ∧ (1 : Nat) = (1 : Nat) ∧ (((100 : Int) = (100 : Int) ∧ (50 : Int) = (50 : Int) ∧ (200 : Int) = (200 : Int) ∧ (300 : Int) = (300 : Int) ∧ True) ∧ ((55 : Int) = (55 : Int) ∧ (1 : Int) = (1 : Int) ∧ (2 : Int) = (2 : Int) ∧ (9 : Int) = (9 : Int) ∧ (1000 : Int) = (1000 : Int) ∧ false = false ∧ True) ∧ ((0 : Nat) = (0 : Nat) ∧ (1 : Nat) = (1 : Nat)) ∧ (1060 : Int) = (1060 : Int) ∧ True) ∧ ((1 : Nat) = (1 : Nat) ∧ ∀ (i : Nat), i < (1 : Nat) → (1 : Int) = (1 : Int) ∧ (1010 : Int) = (1010 : Int) ∧ (0 : Int) = (0 : Int) ∧ True) ∧ True
theorem sane_t11_t : sane_t11 :=
  ⟨trivial, ⟨rfl, ⟨⟨⟨rfl, ⟨rfl, ⟨rfl, ⟨rfl, trivial⟩⟩⟩⟩, ⟨⟨rfl, ⟨rfl, ⟨rfl, ⟨rfl, ⟨rfl, ⟨rfl, trivial⟩⟩⟩⟩⟩⟩, ⟨⟨rfl, rfl⟩, ⟨rfl, trivial⟩⟩⟩⟩, ⟨⟨rfl, (fun _ => (fun _ => ⟨rfl, ⟨rfl, ⟨rfl, trivial⟩⟩⟩))⟩, trivial⟩⟩⟩⟩
def sane_t12 : Prop :=
  True ∧ (1 : Nat) = (1 : Nat) ∧ (((100 : Int) = (100 : Int) ∧ (50 : Int) = (50 : Int) ∧ (200 : Int) = (200 : Int) ∧ (300 : Int) = (300 : Int) ∧ True) ∧ ((55 : Int) = (55 : Int) ∧ (1 : Int) = (1 : Int) ∧ (2 : Int) = (2 : Int) ∧ (9 : Int) = (9 : Int) ∧ (1000 : Int) = (1000 : Int) ∧ false = false ∧ True) ∧ ((0 : Nat) = (0 : Nat) ∧ (1 : Nat) = (1 : Nat)) ∧ (1648 : Int) = (1648 : Int) ∧ True) ∧ ((1 : Nat) = (1 : Nat) ∧ ∀ (i : Nat), i < (1 : Nat) → (2 : Int) = (2 : Int) ∧ (1099 : Int) = (1099 : Int) ∧ (3 : Int) = (3 : Int) ∧ True) ∧ True
theorem sane_t12_t : sane_t12 :=
  ⟨trivial, ⟨rfl, ⟨⟨⟨rfl, ⟨rfl, ⟨rfl, ⟨rfl, trivial⟩⟩⟩⟩, ⟨⟨rfl, ⟨rfl, ⟨rfl, ⟨rfl, ⟨rfl, ⟨rfl, trivial⟩⟩⟩⟩⟩⟩, ⟨⟨rfl, rfl⟩, ⟨rfl, trivial⟩⟩⟩⟩, ⟨⟨rfl, (fun _ => (fun _ => ⟨rfl, ⟨rfl, ⟨rfl, trivial⟩⟩⟩))⟩, trivial⟩⟩⟩⟩
def sane_t13 : Prop :=
  True ∧ (1 : Nat) = (1 : Nat) ∧ (((100 : Int) = (100 : Int) ∧ (50 : Int) = (50 : Int) ∧ (200 : Int) = (200 : Int) ∧ (300 : Int) = (300 : Int) ∧ True) ∧ ((55 : Int) = (55 : Int) ∧ (1 : Int) = (1 : Int) ∧ (2 : Int) = (2 : Int) ∧ (9 : Int) = (9 : Int) ∧ (1000 : Int) = (1000 : Int) ∧ false = false ∧ True) ∧ ((0 : Nat) = (0 : Nat) ∧ (1 : Nat) = (1 : Nat)) ∧ (1649 : Int) = (1649 : Int) ∧ True) ∧ ((1 : Nat) = (1 : Nat) ∧ ∀ (i : Nat), i < (1 : Nat) → (2 : Int) = (2 : Int) ∧ (1099 : Int) = (1099 : Int) ∧ (3 : Int) = (3 : Int) ∧ True) ∧ True
theorem sane_t13_t : sane_t13 :=
  ⟨trivial, ⟨rfl, ⟨⟨⟨rfl, ⟨rfl, ⟨rfl, ⟨rfl, trivial⟩⟩⟩⟩, ⟨⟨rfl, ⟨rfl, ⟨rfl, ⟨rfl, ⟨rfl, ⟨rfl, trivial⟩⟩⟩⟩⟩⟩, ⟨⟨rfl, rfl⟩, ⟨rfl, trivial⟩⟩⟩⟩, ⟨⟨rfl, (fun _ => (fun _ => ⟨rfl, ⟨rfl, ⟨rfl, trivial⟩⟩⟩))⟩, trivial⟩⟩⟩⟩
def sane_t14 : Prop :=
  True ∧ (1 : Nat) = (1 : Nat) ∧ (((100 : Int) = (100 : Int) ∧ (50 : Int) = (50 : Int) ∧ (200 : Int) = (200 : Int) ∧ (300 : Int) = (300 : Int) ∧ True) ∧ ((55 : Int) = (55 : Int) ∧ (1 : Int) = (1 : Int) ∧ (2 : Int) = (2 : Int) ∧ (9 : Int) = (9 : Int) ∧ (1000 : Int) = (1000 : Int) ∧ false = false ∧ True) ∧ ((0 : Nat) = (0 : Nat) ∧ (1 : Nat) = (1 : Nat)) ∧ (1050 : Int) = (1050 : Int) ∧ True) ∧ ((1 : Nat) = (1 : Nat) ∧ ∀ (i : Nat), i < (1 : Nat) → (2 : Int) = (2 : Int) ∧ (1050 : Int) = (1050 : Int) ∧ (1 : Int) = (1 : Int) ∧ True) ∧ True
theorem sane_t14_t : sane_t14 :=
  ⟨trivial, ⟨rfl, ⟨⟨⟨rfl, ⟨rfl, ⟨rfl, ⟨rfl, trivial⟩⟩⟩⟩, ⟨⟨rfl, ⟨rfl, ⟨rfl, ⟨rfl, ⟨rfl, ⟨rfl, trivial⟩⟩⟩⟩⟩⟩, ⟨⟨rfl, rfl⟩, ⟨rfl, trivial⟩⟩⟩⟩, ⟨⟨rfl, (fun _ => (fun _ => ⟨rfl, ⟨rfl, ⟨rfl, trivial⟩⟩⟩))⟩, trivial⟩⟩⟩⟩
def sane_t15 : Prop :=
  True ∧ (1 : Nat) = (1 : Nat) ∧ (((100 : Int) = (100 : Int) ∧ (50 : Int) = (50 : Int) ∧ (200 : Int) = (200 : Int) ∧ (300 : Int) = (300 : Int) ∧ True) ∧ ((55 : Int) = (55 : Int) ∧ (1 : Int) = (1 : Int) ∧ (2 : Int) = (2 : Int) ∧ (9 : Int) = (9 : Int) ∧ (1000 : Int) = (1000 : Int) ∧ false = false ∧ True) ∧ ((0 : Nat) = (0 : Nat) ∧ (1 : Nat) = (1 : Nat)) ∧ (1100 : Int) = (1100 : Int) ∧ True) ∧ ((1 : Nat) = (1 : Nat) ∧ ∀ (i : Nat), i < (1 : Nat) → (2 : Int) = (2 : Int) ∧ (1100 : Int) = (1100 : Int) ∧ (1 : Int) = (1 : Int) ∧ True) ∧ True
theorem sane_t15_t : sane_t15 :=
  ⟨trivial, ⟨rfl, ⟨⟨⟨rfl, ⟨rfl, ⟨rfl, ⟨rfl, trivial⟩⟩⟩⟩, ⟨⟨rfl, ⟨rfl, ⟨rfl, ⟨rfl, ⟨rfl, ⟨rfl, trivial⟩⟩⟩⟩⟩⟩, ⟨⟨rfl, rfl⟩, ⟨rfl, trivial⟩⟩⟩⟩, ⟨⟨rfl, (fun _ => (fun _ => ⟨rfl, ⟨rfl, ⟨rfl, trivial⟩⟩⟩))⟩, trivial⟩⟩⟩⟩
def sane_t16 : Prop :=
  ((100 : Int) = (100 : Int) ∧ (50 : Int) = (50 : Int) ∧ (200 : Int) = (200 : Int) ∧ (300 : Int) = (300 : Int) ∧ True) ∧ ((55 : Int) = (55 : Int) ∧ (1 : Int) = (1 : Int) ∧ (2 : Int) = (2 : Int) ∧ (9 : Int) = (9 : Int) ∧ (1000 : Int) = (1000 : Int) ∧ false = false ∧ True) ∧ ((0 : Nat) = (0 : Nat) ∧ (3 : Nat) = (3 : Nat)) ∧ (1200 : Int) = (1200 : Int) ∧ True
theorem sane_t16_t : sane_t16 :=
  ⟨⟨rfl, ⟨rfl, ⟨rfl, ⟨rfl, trivial⟩⟩⟩⟩, ⟨⟨rfl, ⟨rfl, ⟨rfl, ⟨rfl, ⟨rfl, ⟨rfl, trivial⟩⟩⟩⟩⟩⟩, ⟨⟨rfl, rfl⟩, ⟨rfl, trivial⟩⟩⟩⟩
def sane_t17 : Prop :=
  True ∧ (1 : Nat) = (1 : Nat) ∧ (((100 : Int) = (100 : Int) ∧ (50 : Int) = (50 : Int) ∧ (200 : Int) = (200 : Int) ∧ (300 : Int) = (300 : Int) ∧ True) ∧ ((55 : Int) = (55 : Int) ∧ (1 : Int) = (1 : Int) ∧ (2 : Int) = (2 : Int) ∧ (9 : Int) = (9 : Int) ∧ (1000 : Int) = (1000 : Int) ∧ false = false ∧ True) ∧ ((0 : Nat) = (0 : Nat) ∧ (1 : Nat) = (1 : Nat)) ∧ (1449 : Int) = (1449 : Int) ∧ True) ∧ ((1 : Nat) = (1 : Nat) ∧ ∀ (i : Nat), i < (1 : Nat) → (6 : Int) = (6 : Int) ∧ (1449 : Int) = (1449 : Int) ∧ (2 : Int) = (2 : Int) ∧ True) ∧ True
theorem sane_t17_t : sane_t17 :=
  ⟨trivial, ⟨rfl, ⟨⟨⟨rfl, ⟨rfl, ⟨rfl, ⟨rfl, trivial⟩⟩⟩⟩, ⟨⟨rfl, ⟨rfl, ⟨rfl, ⟨rfl, ⟨rfl, ⟨rfl, trivial⟩⟩⟩⟩⟩⟩, ⟨⟨rfl, rfl⟩, ⟨rfl, trivial⟩⟩⟩⟩, ⟨⟨rfl, (fun _ => (fun _ => ⟨rfl, ⟨rfl, ⟨rfl, trivial⟩⟩⟩))⟩, trivial⟩⟩⟩⟩
def sane_t18 : Prop :=
  True ∧ (1 : Nat) = (1 : Nat) ∧ (((100 : Int) = (100 : Int) ∧ (50 : Int) = (50 : Int) ∧ (200 : Int) = (200 : Int) ∧ (300 : Int) = (300 : Int) ∧ True) ∧ ((55 : Int) = (55 : Int) ∧ (1 : Int) = (1 : Int) ∧ (2 : Int) = (2 : Int) ∧ (9 : Int) = (9 : Int) ∧ (1000 : Int) = (1000 : Int) ∧ false = false ∧ True) ∧ ((0 : Nat) = (0 : Nat) ∧ (1 : Nat) = (1 : Nat)) ∧ (1450 : Int) = (1450 : Int) ∧ True) ∧ ((1 : Nat) = (1 : Nat) ∧ ∀ (i : Nat), i < (1 : Nat) → (6 : Int) = (6 : Int) ∧ (1450 : Int) = (1450 : Int) ∧ (2 : Int) = (2 : Int) ∧ True) ∧ True
theorem sane_t18_t : sane_t18 :=
  ⟨trivial, ⟨rfl, ⟨⟨⟨rfl, ⟨rfl, ⟨rfl, ⟨rfl, trivial⟩⟩⟩⟩, ⟨⟨rfl, ⟨rfl, ⟨rfl, ⟨rfl, ⟨rfl, ⟨rfl, trivial⟩⟩⟩⟩⟩⟩, ⟨⟨rfl, rfl⟩, ⟨rfl, trivial⟩⟩⟩⟩, ⟨⟨rfl, (fun _ => (fun _ => ⟨rfl, ⟨rfl, ⟨rfl, trivial⟩⟩⟩))⟩, trivial⟩⟩⟩⟩
def sane_t19 : Prop :=
  (True ∧ (1 : Nat) = (1 : Nat) ∧ (((0 : Int) = (0 : Int) ∧ (0 : Int) = (0 : Int) ∧ (0 : Int) = (0 : Int) ∧ (0 : Int) = (0 : Int) ∧ True) ∧ ((55 : Int) = (55 : Int) ∧ (1 : Int) = (1 : Int) ∧ (2 : Int) = (2 : Int) ∧ (9 : Int) = (9 : Int) ∧ (1000 : Int) = (1000 : Int) ∧ false = false ∧ True) ∧ (0 : Nat) = (0 : Nat) ∧ True) ∧ (0 : Nat) = (0 : Nat) ∧ True) ∧ true = true ∧ True
theorem sane_t19_t : sane_t19 :=
  ⟨⟨trivial, ⟨rfl, ⟨⟨⟨rfl, ⟨rfl, ⟨rfl, ⟨rfl, trivial⟩⟩⟩⟩, ⟨⟨rfl, ⟨rfl, ⟨rfl, ⟨rfl, ⟨rfl, ⟨rfl, trivial⟩⟩⟩⟩⟩⟩, ⟨rfl, trivial⟩⟩⟩, ⟨rfl, trivial⟩⟩⟩⟩, ⟨rfl, trivial⟩⟩
def sane_T (p : Unit) : Prop :=
  sane_t0 ∧
  sane_t0 ∧
    sane_t1 ∧
      sane_t0 ∧
        sane_t2 ∧
          sane_t0 ∧
            (True ∧
                (1 : Nat) = (1 : Nat) ∧
                  sane_t3 ∧
                    ((3 : Nat) = (3 : Nat) ∧
                        ∀ (i : Nat),
                          i < (3 : Nat) →
                            wkVs
                              (fun (l : Nat) =>
                                match [some (4 : Nat)][l]? with
                                | some (some val) => some val
                                | x => none)
                              (fun (l : Nat) =>
                                match [some (4 : Nat)][l]? with
                                | some none => true
                                | x => false)
                              [SV.int IntKind.i64 (Evt.of (List.take (3 : Nat) (List.drop (i * (3 : Nat)) [SV.int IntKind.i64 (2 : Int), SV.int IntKind.i64 (1050 : Int), SV.int IntKind.i64 (3 : Int), SV.int IntKind.i64 (3 : Int), SV.int IntKind.i64 (1050 : Int), SV.int IntKind.i64 (0 : Int), SV.int IntKind.i64 (5 : Int), SV.int IntKind.i64 (1099 : Int), SV.int IntKind.i64 (0 : Int)]))).1, SV.int IntKind.i64 (Evt.of (List.take (3 : Nat) (List.drop (i * (3 : Nat)) [SV.int IntKind.i64 (2 : Int), SV.int IntKind.i64 (1050 : Int), SV.int IntKind.i64 (3 : Int), SV.int IntKind.i64 (3 : Int), SV.int IntKind.i64 (1050 : Int), SV.int IntKind.i64 (0 : Int), SV.int IntKind.i64 (5 : Int), SV.int IntKind.i64 (1099 : Int), SV.int IntKind.i64 (0 : Int)]))).2, SV.int IntKind.i64 (Evt.of (List.take (3 : Nat) (List.drop (i * (3 : Nat)) [SV.int IntKind.i64 (2 : Int), SV.int IntKind.i64 (1050 : Int), SV.int IntKind.i64 (3 : Int), SV.int IntKind.i64 (3 : Int), SV.int IntKind.i64 (1050 : Int), SV.int IntKind.i64 (0 : Int), SV.int IntKind.i64 (5 : Int), SV.int IntKind.i64 (1099 : Int), SV.int IntKind.i64 (0 : Int)]))).3] (List.take (3 : Nat) (List.drop (i * (3 : Nat)) [SV.int IntKind.i64 (2 : Int), SV.int IntKind.i64 (1050 : Int), SV.int IntKind.i64 (3 : Int), SV.int IntKind.i64 (3 : Int), SV.int IntKind.i64 (1050 : Int), SV.int IntKind.i64 (0 : Int), SV.int IntKind.i64 (5 : Int), SV.int IntKind.i64 (1099 : Int), SV.int IntKind.i64 (0 : Int)]))) ∧
                      True) ∧
              sane_t0 ∧
                (True ∧
                    (1 : Nat) = (1 : Nat) ∧
                      sane_t3 ∧
                        ((3 : Nat) = (3 : Nat) ∧
                            ∀ (i : Nat),
                              i < (3 : Nat) →
                                wkVs
                                  (fun (l : Nat) =>
                                    match [some (4 : Nat)][l]? with
                                    | some (some val) => some val
                                    | x => none)
                                  (fun (l : Nat) =>
                                    match [some (4 : Nat)][l]? with
                                    | some none => true
                                    | x => false)
                                  [SV.int IntKind.i64 (Evt.of (List.take (3 : Nat) (List.drop (i * (3 : Nat)) [SV.int IntKind.i64 (2 : Int), SV.int IntKind.i64 (1050 : Int), SV.int IntKind.i64 (3 : Int), SV.int IntKind.i64 (3 : Int), SV.int IntKind.i64 (1050 : Int), SV.int IntKind.i64 (0 : Int), SV.int IntKind.i64 (5 : Int), SV.int IntKind.i64 (1099 : Int), SV.int IntKind.i64 (0 : Int)]))).1, SV.int IntKind.i64 (Evt.of (List.take (3 : Nat) (List.drop (i * (3 : Nat)) [SV.int IntKind.i64 (2 : Int), SV.int IntKind.i64 (1050 : Int), SV.int IntKind.i64 (3 : Int), SV.int IntKind.i64 (3 : Int), SV.int IntKind.i64 (1050 : Int), SV.int IntKind.i64 (0 : Int), SV.int IntKind.i64 (5 : Int), SV.int IntKind.i64 (1099 : Int), SV.int IntKind.i64 (0 : Int)]))).2, SV.int IntKind.i64 (Evt.of (List.take (3 : Nat) (List.drop (i * (3 : Nat)) [SV.int IntKind.i64 (2 : Int), SV.int IntKind.i64 (1050 : Int), SV.int IntKind.i64 (3 : Int), SV.int IntKind.i64 (3 : Int), SV.int IntKind.i64 (1050 : Int), SV.int IntKind.i64 (0 : Int), SV.int IntKind.i64 (5 : Int), SV.int IntKind.i64 (1099 : Int), SV.int IntKind.i64 (0 : Int)]))).3] (List.take (3 : Nat) (List.drop (i * (3 : Nat)) [SV.int IntKind.i64 (2 : Int), SV.int IntKind.i64 (1050 : Int), SV.int IntKind.i64 (3 : Int), SV.int IntKind.i64 (3 : Int), SV.int IntKind.i64 (1050 : Int), SV.int IntKind.i64 (0 : Int), SV.int IntKind.i64 (5 : Int), SV.int IntKind.i64 (1099 : Int), SV.int IntKind.i64 (0 : Int)]))) ∧
                          True) ∧
                  sane_t0 ∧
                    sane_t4 ∧
                      sane_t0 ∧
                        sane_t5 ∧
                          (sane_t0 ∧
                              (sane_t6 ∧
                                  sane_t0 ∧
                                    sane_t0 ∧
                                      sane_t7 ∧
                                        sane_t0 ∧
                                          sane_t0 ∧
                                            sane_t8 ∧
                                              sane_t0 ∧
                                                sane_t0 ∧
                                                  sane_t9 ∧
                                                    sane_t0 ∧
                                                      sane_t0 ∧
                                                        sane_t5 ∧
                                                          sane_t0 ∧
                                                            sane_t0 ∧
                                                              sane_t10 ∧
                                                                sane_t0 ∧
                                                                  sane_t0 ∧
                                                                    sane_t11 ∧
                                                                      sane_t0 ∧
                                                                        sane_t0 ∧
                                                                          sane_t12 ∧
                                                                            sane_t0 ∧
                                                                              sane_t0 ∧
                                                                                sane_t13 ∧
                                                                                  sane_t0 ∧
                                                                                    sane_t0 ∧
                                                                                      sane_t14 ∧
                                                                                        sane_t0 ∧
                                                                                          sane_t0 ∧
                                                                                            sane_t15 ∧
                                                                                              sane_t0 ∧
                                                                                                sane_t0 ∧
                                                                                                  (True ∧
                                                                                                      (1 : Nat) = (1 : Nat) ∧
                                                                                                        sane_t16 ∧
                                                                                                          ((3 : Nat) = (3 : Nat) ∧
                                                                                                              ∀ (i : Nat),
                                                                                                                i < (3 : Nat) →
                                                                                                                  wkVs
                                                                                                                    (fun (l : Nat) =>
                                                                                                                      match [some (4 : Nat)][l]? with
                                                                                                                      | some (some val) => some val
                                                                                                                      | x => none)
                                                                                                                    (fun (l : Nat) =>
                                                                                                                      match [some (4 : Nat)][l]? with
                                                                                                                      | some none => true
                                                                                                                      | x => false)
                                                                                                                    [SV.int IntKind.i64 (Evt.of (List.take (3 : Nat) (List.drop (i * (3 : Nat)) [SV.int IntKind.i64 (2 : Int), SV.int IntKind.i64 (1050 : Int), SV.int IntKind.i64 (3 : Int), SV.int IntKind.i64 (3 : Int), SV.int IntKind.i64 (1050 : Int), SV.int IntKind.i64 (0 : Int), SV.int IntKind.i64 (5 : Int), SV.int IntKind.i64 (1099 : Int), SV.int IntKind.i64 (0 : Int)]))).1, SV.int IntKind.i64 (Evt.of (List.take (3 : Nat) (List.drop (i * (3 : Nat)) [SV.int IntKind.i64 (2 : Int), SV.int IntKind.i64 (1050 : Int), SV.int IntKind.i64 (3 : Int), SV.int IntKind.i64 (3 : Int), SV.int IntKind.i64 (1050 : Int), SV.int IntKind.i64 (0 : Int), SV.int IntKind.i64 (5 : Int), SV.int IntKind.i64 (1099 : Int), SV.int IntKind.i64 (0 : Int)]))).2, SV.int IntKind.i64 (Evt.of (List.take (3 : Nat) (List.drop (i * (3 : Nat)) [SV.int IntKind.i64 (2 : Int), SV.int IntKind.i64 (1050 : Int), SV.int IntKind.i64 (3 : Int), SV.int IntKind.i64 (3 : Int), SV.int IntKind.i64 (1050 : Int), SV.int IntKind.i64 (0 : Int), SV.int IntKind.i64 (5 : Int), SV.int IntKind.i64 (1099 : Int), SV.int IntKind.i64 (0 : Int)]))).3] (List.take (3 : Nat) (List.drop (i * (3 : Nat)) [SV.int IntKind.i64 (2 : Int), SV.int IntKind.i64 (1050 : Int), SV.int IntKind.i64 (3 : Int), SV.int IntKind.i64 (3 : Int), SV.int IntKind.i64 (1050 : Int), SV.int IntKind.i64 (0 : Int), SV.int IntKind.i64 (5 : Int), SV.int IntKind.i64 (1099 : Int), SV.int IntKind.i64 (0 : Int)]))) ∧
                                                                                                            True) ∧
                                                                                                    sane_t0 ∧
                                                                                                      sane_t0 ∧
                                                                                                        sane_t17 ∧
                                                                                                          sane_t0 ∧
                                                                                                            sane_t0 ∧
                                                                                                              sane_t18 ∧
                                                                                                                sane_t0 ∧
                                                                                                                  (True ∧
                                                                                                                      (1 : Nat) = (1 : Nat) ∧
                                                                                                                        sane_t3 ∧
                                                                                                                          ((3 : Nat) = (3 : Nat) ∧
                                                                                                                              ∀ (i : Nat),
                                                                                                                                i < (3 : Nat) →
                                                                                                                                  wkVs
                                                                                                                                    (fun (l : Nat) =>
                                                                                                                                      match [some (4 : Nat)][l]? with
                                                                                                                                      | some (some val) => some val
                                                                                                                                      | x => none)
                                                                                                                                    (fun (l : Nat) =>
                                                                                                                                      match [some (4 : Nat)][l]? with
                                                                                                                                      | some none => true
                                                                                                                                      | x => false)
                                                                                                                                    [SV.int IntKind.i64 (Evt.of (List.take (3 : Nat) (List.drop (i * (3 : Nat)) [SV.int IntKind.i64 (2 : Int), SV.int IntKind.i64 (1050 : Int), SV.int IntKind.i64 (3 : Int), SV.int IntKind.i64 (3 : Int), SV.int IntKind.i64 (1050 : Int), SV.int IntKind.i64 (0 : Int), SV.int IntKind.i64 (5 : Int), SV.int IntKind.i64 (1099 : Int), SV.int IntKind.i64 (0 : Int)]))).1, SV.int IntKind.i64 (Evt.of (List.take (3 : Nat) (List.drop (i * (3 : Nat)) [SV.int IntKind.i64 (2 : Int), SV.int IntKind.i64 (1050 : Int), SV.int IntKind.i64 (3 : Int), SV.int IntKind.i64 (3 : Int), SV.int IntKind.i64 (1050 : Int), SV.int IntKind.i64 (0 : Int), SV.int IntKind.i64 (5 : Int), SV.int IntKind.i64 (1099 : Int), SV.int IntKind.i64 (0 : Int)]))).2, SV.int IntKind.i64 (Evt.of (List.take (3 : Nat) (List.drop (i * (3 : Nat)) [SV.int IntKind.i64 (2 : Int), SV.int IntKind.i64 (1050 : Int), SV.int IntKind.i64 (3 : Int), SV.int IntKind.i64 (3 : Int), SV.int IntKind.i64 (1050 : Int), SV.int IntKind.i64 (0 : Int), SV.int IntKind.i64 (5 : Int), SV.int IntKind.i64 (1099 : Int), SV.int IntKind.i64 (0 : Int)]))).3] (List.take (3 : Nat) (List.drop (i * (3 : Nat)) [SV.int IntKind.i64 (2 : Int), SV.int IntKind.i64 (1050 : Int), SV.int IntKind.i64 (3 : Int), SV.int IntKind.i64 (3 : Int), SV.int IntKind.i64 (1050 : Int), SV.int IntKind.i64 (0 : Int), SV.int IntKind.i64 (5 : Int), SV.int IntKind.i64 (1099 : Int), SV.int IntKind.i64 (0 : Int)]))) ∧
                                                                                                                            True) ∧
                                                                                                                    sane_t19) ∧
                                sane_t6 ∧
                                  sane_t0 ∧
                                    sane_t0 ∧
                                      sane_t7 ∧
                                        sane_t0 ∧
                                          sane_t0 ∧
                                            sane_t8 ∧
                                              sane_t0 ∧
                                                sane_t0 ∧
                                                  sane_t9 ∧
                                                    sane_t0 ∧
                                                      sane_t0 ∧
                                                        sane_t5 ∧
                                                          sane_t0 ∧
                                                            sane_t0 ∧
                                                              sane_t10 ∧
                                                                sane_t0 ∧
                                                                  sane_t0 ∧
                                                                    sane_t11 ∧
                                                                      sane_t0 ∧
                                                                        sane_t0 ∧
                                                                          sane_t12 ∧
                                                                            sane_t0 ∧
                                                                              sane_t0 ∧
                                                                                sane_t13 ∧
                                                                                  sane_t0 ∧
                                                                                    sane_t0 ∧
                                                                                      sane_t14 ∧
                                                                                        sane_t0 ∧
                                                                                          sane_t0 ∧
                                                                                            sane_t15 ∧
                                                                                              sane_t0 ∧
                                                                                                sane_t0 ∧
                                                                                                  (True ∧
                                                                                                      (1 : Nat) = (1 : Nat) ∧
                                                                                                        sane_t16 ∧
                                                                                                          ((3 : Nat) = (3 : Nat) ∧
                                                                                                              ∀ (i : Nat),
                                                                                                                i < (3 : Nat) →
                                                                                                                  wkVs
                                                                                                                    (fun (l : Nat) =>
                                                                                                                      match [some (4 : Nat)][l]? with
                                                                                                                      | some (some val) => some val
                                                                                                                      | x => none)
                                                                                                                    (fun (l : Nat) =>
                                                                                                                      match [some (4 : Nat)][l]? with
                                                                                                                      | some none => true
                                                                                                                      | x => false)
                                                                                                                    [SV.int IntKind.i64 (Evt.of (List.take (3 : Nat) (List.drop (i * (3 : Nat)) [SV.int IntKind.i64 (2 : Int), SV.int IntKind.i64 (1050 : Int), SV.int IntKind.i64 (3 : Int), SV.int IntKind.i64 (3 : Int), SV.int IntKind.i64 (1050 : Int), SV.int IntKind.i64 (0 : Int), SV.int IntKind.i64 (5 : Int), SV.int IntKind.i64 (1099 : Int), SV.int IntKind.i64 (0 : Int)]))).1, SV.int IntKind.i64 (Evt.of (List.take (3 : Nat) (List.drop (i * (3 : Nat)) [SV.int IntKind.i64 (2 : Int), SV.int IntKind.i64 (1050 : Int), SV.int IntKind.i64 (3 : Int), SV.int IntKind.i64 (3 : Int), SV.int IntKind.i64 (1050 : Int), SV.int IntKind.i64 (0 : Int), SV.int IntKind.i64 (5 : Int), SV.int IntKind.i64 (1099 : Int), SV.int IntKind.i64 (0 : Int)]))).2, SV.int IntKind.i64 (Evt.of (List.take (3 : Nat) (List.drop (i * (3 : Nat)) [SV.int IntKind.i64 (2 : Int), SV.int IntKind.i64 (1050 : Int), SV.int IntKind.i64 (3 : Int), SV.int IntKind.i64 (3 : Int), SV.int IntKind.i64 (1050 : Int), SV.int IntKind.i64 (0 : Int), SV.int IntKind.i64 (5 : Int), SV.int IntKind.i64 (1099 : Int), SV.int IntKind.i64 (0 : Int)]))).3] (List.take (3 : Nat) (List.drop (i * (3 : Nat)) [SV.int IntKind.i64 (2 : Int), SV.int IntKind.i64 (1050 : Int), SV.int IntKind.i64 (3 : Int), SV.int IntKind.i64 (3 : Int), SV.int IntKind.i64 (1050 : Int), SV.int IntKind.i64 (0 : Int), SV.int IntKind.i64 (5 : Int), SV.int IntKind.i64 (1099 : Int), SV.int IntKind.i64 (0 : Int)]))) ∧
                                                                                                            True) ∧
                                                                                                    sane_t0 ∧
                                                                                                      sane_t0 ∧
                                                                                                        sane_t17 ∧
                                                                                                          sane_t0 ∧
                                                                                                            sane_t0 ∧
                                                                                                              sane_t18 ∧
                                                                                                                sane_t0 ∧
                                                                                                                  (True ∧
                                                                                                                      (1 : Nat) = (1 : Nat) ∧
                                                                                                                        sane_t3 ∧
                                                                                                                          ((3 : Nat) = (3 : Nat) ∧
                                                                                                                              ∀ (i : Nat),
                                                                                                                                i < (3 : Nat) →
                                                                                                                                  wkVs
                                                                                                                                    (fun (l : Nat) =>
                                                                                                                                      match [some (4 : Nat)][l]? with
                                                                                                                                      | some (some val) => some val
                                                                                                                                      | x => none)
                                                                                                                                    (fun (l : Nat) =>
                                                                                                                                      match [some (4 : Nat)][l]? with
                                                                                                                                      | some none => true
                                                                                                                                      | x => false)
                                                                                                                                    [SV.int IntKind.i64 (Evt.of (List.take (3 : Nat) (List.drop (i * (3 : Nat)) [SV.int IntKind.i64 (2 : Int), SV.int IntKind.i64 (1050 : Int), SV.int IntKind.i64 (3 : Int), SV.int IntKind.i64 (3 : Int), SV.int IntKind.i64 (1050 : Int), SV.int IntKind.i64 (0 : Int), SV.int IntKind.i64 (5 : Int), SV.int IntKind.i64 (1099 : Int), SV.int IntKind.i64 (0 : Int)]))).1, SV.int IntKind.i64 (Evt.of (List.take (3 : Nat) (List.drop (i * (3 : Nat)) [SV.int IntKind.i64 (2 : Int), SV.int IntKind.i64 (1050 : Int), SV.int IntKind.i64 (3 : Int), SV.int IntKind.i64 (3 : Int), SV.int IntKind.i64 (1050 : Int), SV.int IntKind.i64 (0 : Int), SV.int IntKind.i64 (5 : Int), SV.int IntKind.i64 (1099 : Int), SV.int IntKind.i64 (0 : Int)]))).2, SV.int IntKind.i64 (Evt.of (List.take (3 : Nat) (List.drop (i * (3 : Nat)) [SV.int IntKind.i64 (2 : Int), SV.int IntKind.i64 (1050 : Int), SV.int IntKind.i64 (3 : Int), SV.int IntKind.i64 (3 : Int), SV.int IntKind.i64 (1050 : Int), SV.int IntKind.i64 (0 : Int), SV.int IntKind.i64 (5 : Int), SV.int IntKind.i64 (1099 : Int), SV.int IntKind.i64 (0 : Int)]))).3] (List.take (3 : Nat) (List.drop (i * (3 : Nat)) [SV.int IntKind.i64 (2 : Int), SV.int IntKind.i64 (1050 : Int), SV.int IntKind.i64 (3 : Int), SV.int IntKind.i64 (3 : Int), SV.int IntKind.i64 (1050 : Int), SV.int IntKind.i64 (0 : Int), SV.int IntKind.i64 (5 : Int), SV.int IntKind.i64 (1099 : Int), SV.int IntKind.i64 (0 : Int)]))) ∧
                                                                                                                            True) ∧
                                                                                                                    sane_t19) ∧
                            sane_t0 ∧
                              sane_t6 ∧
                                sane_t0 ∧
                                  sane_t0 ∧
                                    sane_t7 ∧
                                      sane_t0 ∧
                                        sane_t0 ∧
                                          sane_t8 ∧
                                            sane_t0 ∧
                                              sane_t0 ∧
                                                sane_t9 ∧
                                                  sane_t0 ∧
                                                    sane_t0 ∧
                                                      sane_t5 ∧
                                                        sane_t0 ∧
                                                          sane_t0 ∧
                                                            sane_t10 ∧
                                                              sane_t0 ∧
                                                                sane_t0 ∧
                                                                  sane_t11 ∧
                                                                    sane_t0 ∧
                                                                      sane_t0 ∧
                                                                        sane_t12 ∧
                                                                          sane_t0 ∧
                                                                            sane_t0 ∧
                                                                              sane_t13 ∧
                                                                                sane_t0 ∧
                                                                                  sane_t0 ∧
                                                                                    sane_t14 ∧
                                                                                      sane_t0 ∧
                                                                                        sane_t0 ∧
                                                                                          sane_t15 ∧
                                                                                            sane_t0 ∧
                                                                                              sane_t0 ∧
                                                                                                (True ∧
                                                                                                    (1 : Nat) = (1 : Nat) ∧
                                                                                                      sane_t16 ∧
                                                                                                        ((3 : Nat) = (3 : Nat) ∧
                                                                                                            ∀ (i : Nat),
                                                                                                              i < (3 : Nat) →
                                                                                                                wkVs
                                                                                                                  (fun (l : Nat) =>
                                                                                                                    match [some (4 : Nat)][l]? with
                                                                                                                    | some (some val) => some val
                                                                                                                    | x => none)
                                                                                                                  (fun (l : Nat) =>
                                                                                                                    match [some (4 : Nat)][l]? with
                                                                                                                    | some none => true
                                                                                                                    | x => false)
                                                                                                                  [SV.int IntKind.i64 (Evt.of (List.take (3 : Nat) (List.drop (i * (3 : Nat)) [SV.int IntKind.i64 (2 : Int), SV.int IntKind.i64 (1050 : Int), SV.int IntKind.i64 (3 : Int), SV.int IntKind.i64 (3 : Int), SV.int IntKind.i64 (1050 : Int), SV.int IntKind.i64 (0 : Int), SV.int IntKind.i64 (5 : Int), SV.int IntKind.i64 (1099 : Int), SV.int IntKind.i64 (0 : Int)]))).1, SV.int IntKind.i64 (Evt.of (List.take (3 : Nat) (List.drop (i * (3 : Nat)) [SV.int IntKind.i64 (2 : Int), SV.int IntKind.i64 (1050 : Int), SV.int IntKind.i64 (3 : Int), SV.int IntKind.i64 (3 : Int), SV.int IntKind.i64 (1050 : Int), SV.int IntKind.i64 (0 : Int), SV.int IntKind.i64 (5 : Int), SV.int IntKind.i64 (1099 : Int), SV.int IntKind.i64 (0 : Int)]))).2, SV.int IntKind.i64 (Evt.of (List.take (3 : Nat) (List.drop (i * (3 : Nat)) [SV.int IntKind.i64 (2 : Int), SV.int IntKind.i64 (1050 : Int), SV.int IntKind.i64 (3 : Int), SV.int IntKind.i64 (3 : Int), SV.int IntKind.i64 (1050 : Int), SV.int IntKind.i64 (0 : Int), SV.int IntKind.i64 (5 : Int), SV.int IntKind.i64 (1099 : Int), SV.int IntKind.i64 (0 : Int)]))).3] (List.take (3 : Nat) (List.drop (i * (3 : Nat)) [SV.int IntKind.i64 (2 : Int), SV.int IntKind.i64 (1050 : Int), SV.int IntKind.i64 (3 : Int), SV.int IntKind.i64 (3 : Int), SV.int IntKind.i64 (1050 : Int), SV.int IntKind.i64 (0 : Int), SV.int IntKind.i64 (5 : Int), SV.int IntKind.i64 (1099 : Int), SV.int IntKind.i64 (0 : Int)]))) ∧
                                                                                                          True) ∧
                                                                                                  sane_t0 ∧
                                                                                                    sane_t0 ∧
                                                                                                      sane_t17 ∧
                                                                                                        sane_t0 ∧
                                                                                                          sane_t0 ∧
                                                                                                            sane_t18 ∧
                                                                                                              sane_t0 ∧
                                                                                                                (True ∧
                                                                                                                    (1 : Nat) = (1 : Nat) ∧
                                                                                                                      sane_t3 ∧
                                                                                                                        ((3 : Nat) = (3 : Nat) ∧
                                                                                                                            ∀ (i : Nat),
                                                                                                                              i < (3 : Nat) →
                                                                                                                                wkVs
                                                                                                                                  (fun (l : Nat) =>
                                                                                                                                    match [some (4 : Nat)][l]? with
                                                                                                                                    | some (some val) => some val
                                                                                                                                    | x => none)
                                                                                                                                  (fun (l : Nat) =>
                                                                                                                                    match [some (4 : Nat)][l]? with
                                                                                                                                    | some none => true
                                                                                                                                    | x => false)
                                                                                                                                  [SV.int IntKind.i64 (Evt.of (List.take (3 : Nat) (List.drop (i * (3 : Nat)) [SV.int IntKind.i64 (2 : Int), SV.int IntKind.i64 (1050 : Int), SV.int IntKind.i64 (3 : Int), SV.int IntKind.i64 (3 : Int), SV.int IntKind.i64 (1050 : Int), SV.int IntKind.i64 (0 : Int), SV.int IntKind.i64 (5 : Int), SV.int IntKind.i64 (1099 : Int), SV.int IntKind.i64 (0 : Int)]))).1, SV.int IntKind.i64 (Evt.of (List.take (3 : Nat) (List.drop (i * (3 : Nat)) [SV.int IntKind.i64 (2 : Int), SV.int IntKind.i64 (1050 : Int), SV.int IntKind.i64 (3 : Int), SV.int IntKind.i64 (3 : Int), SV.int IntKind.i64 (1050 : Int), SV.int IntKind.i64 (0 : Int), SV.int IntKind.i64 (5 : Int), SV.int IntKind.i64 (1099 : Int), SV.int IntKind.i64 (0 : Int)]))).2, SV.int IntKind.i64 (Evt.of (List.take (3 : Nat) (List.drop (i * (3 : Nat)) [SV.int IntKind.i64 (2 : Int), SV.int IntKind.i64 (1050 : Int), SV.int IntKind.i64 (3 : Int), SV.int IntKind.i64 (3 : Int), SV.int IntKind.i64 (1050 : Int), SV.int IntKind.i64 (0 : Int), SV.int IntKind.i64 (5 : Int), SV.int IntKind.i64 (1099 : Int), SV.int IntKind.i64 (0 : Int)]))).3] (List.take (3 : Nat) (List.drop (i * (3 : Nat)) [SV.int IntKind.i64 (2 : Int), SV.int IntKind.i64 (1050 : Int), SV.int IntKind.i64 (3 : Int), SV.int IntKind.i64 (3 : Int), SV.int IntKind.i64 (1050 : Int), SV.int IntKind.i64 (0 : Int), SV.int IntKind.i64 (5 : Int), SV.int IntKind.i64 (1099 : Int), SV.int IntKind.i64 (0 : Int)]))) ∧
                                                                                                                          True) ∧
                                                                                                                  sane_t19
theorem sane_eq (p : Unit) : callBy XS0 (exec XS0 100) 11 (sSane.A p) (sSane.H p) (RetC (sSane.H p).length (sSane.R p) (sSane.O p)) = sane_T p := by kernel_rfl

set_option maxRecDepth 100000 in
theorem sane_step (p : Unit) : sane_T p := by
  unfold sane_T
  repeat' (first | with_reducible refine ifB_split (fun _ => ?_) (fun _ => ?_) | with_reducible refine And.intro ?_ ?_)
  all_goals try first | with_reducible exact sane_t0_t | with_reducible exact sane_t1_t | with_reducible exact sane_t2_t | with_reducible exact sane_t3_t | with_reducible exact sane_t4_t | with_reducible exact sane_t5_t | with_reducible exact sane_t6_t | with_reducible exact sane_t7_t | with_reducible exact sane_t8_t | with_reducible exact sane_t9_t | with_reducible exact sane_t10_t | with_reducible exact sane_t11_t | with_reducible exact sane_t12_t | with_reducible exact sane_t13_t | with_reducible exact sane_t14_t | with_reducible exact sane_t15_t | with_reducible exact sane_t16_t | with_reducible exact sane_t17_t | with_reducible exact sane_t18_t | with_reducible exact sane_t19_t | with_reducible rfl | with_reducible exact trivial | with_reducible exact List.Perm.refl _
  all_goals first
    | (intro i hi
       obtain rfl | rfl | rfl : i = 0 ∨ i = 1 ∨ i = 2 := by omega
       all_goals exact ⟨rfl, rfl, rfl, trivial⟩)
    | trace_state
theorem sane_ok : sSane.OK XS0.P 11 := .of_eq XS0_ok 100 _ sane_eq (fun _ => rfl) (fun _ _ o h => by cases h) fun p _ => sane_step p
def exNP (args : List SV) (h : Heap) : Option (NP × List (Option Nat)) := match args with
  | [.agg [.int _ a, .int _ b, .int _ c, .int _ d, .int _ y0, .int _ y1, .int _ y2, .int _ y3, .int _ y4, .int _ y5, s]] => match s with
    | .nils => some (⟨⟨a, b, c, d⟩, y0, y1, y2, y3, y4, y5, fun _ => ⟨0, 0, 0⟩, 0⟩, [none])
    | .sl l _ n => match hget h l with
      | some (.arr _ _ _ _ u) => some (⟨⟨a, b, c, d⟩, y0, y1, y2, y3, y4, y5, fun i => (match u i with | [.int _ u, .int _ v, .int _ w] => ⟨u, v, w⟩ | _ => ⟨0, 0, 0⟩), n⟩, [some l])
      | _ => none
    | _ => none
  | _ => none
noncomputable def XL : Ctx := ((((XS0.with 11 (sSane.by exUnit)).with 12 (sMade.by exNP)).with 15 (sPick.by exPick)).with 16 (sClosed.by exSta))
theorem XL_ok : XL.OK := Ctx.with_ok (Ctx.with_ok (Ctx.with_ok (Ctx.with_ok XS0_ok (sane_ok.by exUnit)) (made_ok.by exNP)) (pickL_ok.by exPick)) (closedc_ok.by exSta)
end Go.Proofs.Ytmcidfecepknpaa

/-
  The frame of a law's statement, once for all laws: the walk's contract, the arguments as they read, and what they are to the executor.
-/
namespace Go.Proofs.Ytmcidfecepknpaa
open Go Go.Sh Go.Proofs
open Go.ChangeShapes Go.WideShapes Go.ChangeAt Go.RowKit
set_option linter.unusedVariables false

theorem law_walk {π : Type} {P : Program} {f : FuncId} {s : FSpec π} (ok : s.OK P f) {p : π} (hJ : s.J p) (hR : s.R p = .bool true) {W : World} {env : Env} {vs : Array Value}
    (R : Rel W.heap.size W env (s.H p) W) (hv : VRs env (s.A p) vs.toList) : Calls P f vs W fun e W' => e = .returned (.bool true) ∧ Below W.heap.size W W' := by
  refine Calls.mono (ok.run p hJ W.heap.size W env vs W R hv) fun e W' he => ?_
  obtain ⟨v', rfl, env', v, h', hle, R', hvr, ρ, hρ, hsep, hw, hh⟩ := he
  rw [hR] at hw
  cases v <;> first | exact hw.elim | skip
  rename_i c
  obtain rfl : true = c := hw
  simp only [VR] at hvr
  exact ⟨by rw [hvr], R'.below⟩

variable {H : Type} {enc : TypeId × Value → H} {P : Program}

theorem trodAll_stays (hl : laidOutB P = true) {W W' : World} {sp : Nat → Bool} : ∀ {ts : List TypeId} {vs : List Value} {ds : List (DataW H)} {ps : List MemPlace}, (∀ t ∈ ts, P.readableRec t = true ∧ t < P.types.size) →
    DataW.TrodAll enc P W 0 (fun _ => true) true ts vs ds ps → (∀ x ∈ ps, W.sameAt W' x ∧ sp x.block = true) → DataW.TrodAll enc P W' 0 sp true ts vs ds ps
  | [], vs, ds, ps, _, h, _ => by
    obtain ⟨rfl, rfl, rfl⟩ := trodAll_nil h
    exact trodAll_mk0
  | t :: ts, vs, ds, ps, ht, h, hp => by
    obtain ⟨v, vs1, d, ds1, a, b, rfl, rfl, rfl, h1, h2⟩ := trodAll_cons h
    have h3 := WideElems.Trod_stays hl (ht t (by simp)).1 (ht t (by simp)).2 (sp' := sp) h1 (fun x hx => (hp x (by simp [hx])).1) (fun x hx => (hp x (by simp [hx])).2)
    exact trodAll_cons_mk h3 (trodAll_stays hl (fun t' ht' => ht t' (by simp [ht'])) h2 fun x hx => hp x (by simp [hx]))

/-- A law's contract from its walk: it answers true, and below the heap's old size nothing has turned. -/
theorem law_contract (hl : laidOutB P = true) {f : FuncId} {fn : Func} {s : ChangeSpec} {tb : TypeId} {W : World} {args : Array Value} {ds gs : List (DataW H)} {before : List MemPlace}
    (hr : ∀ t ∈ fn.params.toList, P.readableRec t = true ∧ t < P.types.size) (hvars : s.vars = []) (htb : P.underlying tb = some .bool) (hrt : fn.resultTypes = #[tb])
    (hres : (s.fn H ds).results = [.lit (.bool true)]) (hargs : (s.fn H ds).args = ds) (hv : (s.fn H ds).vars = [])
    (hW : DataW.Whole enc P fn.params.toList s.vars false W args.toList ds gs before)
    (hc : Calls P f args W fun e W' => e = .returned (.bool true) ∧ Below W.heap.size W W') :
    Calls P f args W fun e W' => ∃ v, e = .returned v ∧ s.post enc P fn false true false false W args v W' := by
  refine hc.mono fun e W' ⟨he, hb⟩ => ⟨_, he, ?_⟩
  have hlt : ∀ x ∈ before, x.block < W.heap.size := fun x hx => hW.lt x hx
  have hW' := hW
  obtain ⟨p, q, hA, hV, hpq, hz, hn⟩ := hW
  rw [hvars] at hV
  obtain ⟨rfl, rfl⟩ := trodVars_none hV
  rw [List.append_nil] at hpq
  subst hpq
  have hsame : ∀ x ∈ before, W.sameAt W' x := fun x hx => hb.same (hlt x hx)
  have ha : ∀ sp : Nat → Bool, (∀ x ∈ before, sp x.block = true) → DataW.TrodAll enc P W' 0 sp true fn.params.toList args.toList (s.fn H (ds ++ [])).args before := fun sp hsp => by
    rw [List.append_nil, hargs]
    exact trodAll_stays hl hr hA fun x hx => ⟨hsame x hx, hsp x hx⟩
  have hb' : ∀ (b : Nat) (sp : Nat → Bool) (hd : Bool), DataW.TrodAll enc P W' b sp hd fn.resultTypes.toList ((Value.bool true).resultList fn.resultTypes.size) (s.fn H (ds ++ [])).results [] := fun b sp hd => by
    rw [List.append_nil, hres, hrt]
    exact trodAll_mk1 (shut_bool htb true)
  have hvs : ∀ sp : Nat → Bool, DataW.TrodVars enc P W' sp s.vars (s.fn H (ds ++ [])).vars [] := fun sp => by
    rw [List.append_nil, hvars, hv]; rfl
  refine ⟨ds, [], before, [], before, [], hW', hb' _ _ _, ha _ (fun x hx => by simpa using hlt x hx), hvs _, hb.frame _, fun _ => ?_⟩
  refine ⟨ok_one hrt rfl (okWide_bool_mk htb _), _, _, ([] ++ before) ++ [], ⟨[] ++ before, [], trodAll_append (ha _ (fun _ _ => rfl)) (hb' _ _ _), hvs _, rfl, ?_, ?_⟩, ?_⟩
  · intro b off hp
    have hp' : MemPlace.cell b off ∈ before := by simpa using hp
    rw [hb.frozen (hlt _ hp')]
    exact hz b off (by simpa using hp')
  · intro h; cases h
  · intro x hx _
    simpa using hx

/-! ### integers in arrays -/
theorem cells_one {cs : List Value} {i : Nat} {y : Value} (h : (cs.drop i).take 1 = [y]) : cs[i]? = some y := by
  have h2 : ((cs.drop i).take 1)[0]? = some y := by rw [h]; rfl
  simpa [List.getElem?_take, List.getElem?_drop] using h2
/-- The cells of an array of integers. -/
theorem open_arr {w : World} {base : Nat} {sp : Nat → Bool} {held : Bool} {t e : TypeId} {n : Nat} {k : IntKind} (ht : P.underlying t = some (.array n e)) (he : P.underlying e = some (.int k)) (hc : P.cellsOf e = 1) (hct : P.cellsOf t = n) {fuel : Nat} {cs : List Value} {x : DataW H × List MemPlace}
    (h : DataW.trod enc P w base sp held fuel t cs = some x) : cs.length = n ∧ ∀ i, i < n → ∃ z, cs[i]? = some (.int k z) ∧ (Lit.int k z).wf = true := by
  obtain ⟨xs, m, rfl, rfl, hl, hlen, hx⟩ := DataW.trod_array ht h
  refine ⟨hl.trans hct, fun i hi => ?_⟩
  have h3 := hx i hi
  rw [hc, Nat.mul_one, List.getElem?_eq_getElem (by omega)] at h3
  obtain ⟨z, hcs, _, hw⟩ := DataW.trod_int he h3
  exact ⟨z, cells_one hcs, hw⟩
end Go.Proofs.Ytmcidfecepknpaa

/-
  Numbers, as an argument.
-/
namespace Go.Proofs.Ytmcidfecepknpaa
open Go Go.Sh Go.Proofs
open Go.ChangeShapes Go.WideShapes Go.ChangeAt Go.RowKit
set_option linter.unusedVariables false

def i64 (n : Int) : Prop := -9223372036854775808 ≤ n ∧ n ≤ 9223372036854775807
theorem i64_of {n : Int} (h : (Lit.int .i64 n).wf = true) : i64 n := by
  simpa [Lit.wf, IntKind.min, IntKind.max, IntKind.signed, IntKind.bits, i64] using h
structure NP.fits (p : NP) : Prop where
  a : i64 p.x.a
  b : i64 p.x.b
  c : i64 p.x.c
  d : i64 p.x.d
  y0 : i64 p.y0
  y1 : i64 p.y1
  y2 : i64 p.y2
  y3 : i64 p.y3
  y4 : i64 p.y4
  y5 : i64 p.y5
  Z : ∀ i, i < p.n → i64 (p.Z i).a ∧ i64 (p.Z i).b ∧ i64 (p.Z i).c

theorem laidOut : laidOutB Try.prog = true := by kernel_rfl
theorem tryOwn : ownKnob Try.prog.godebug = none := by kernel_rfl
theorem c3 : Try.prog.cellsOf 3 = 1 := by kernel_rfl
theorem c22 : Try.prog.cellsOf 22 = 4 := by kernel_rfl
theorem c23 : Try.prog.cellsOf 23 = 6 := by kernel_rfl
theorem c24 : Try.prog.cellsOf 24 = 1 := by kernel_rfl
theorem c26 : Try.prog.cellsOf 26 = 11 := by kernel_rfl
theorem c82 : Try.prog.cellsOf 82 = 3 := by kernel_rfl

theorem add_zero' (a : Addr) : a.add 0 = a := by simp [Addr.add]
theorem add_flat {a : Addr} (h : a.spot = none) (n : Nat) : a.add n = ⟨a.block, a.off + n, none⟩ := by
  cases a with
  | mk b o s =>
    simp only at h
    subst h
    by_cases hn : n = 0
    · subst hn; simp [Addr.add]
    · simp [Addr.add, hn]
theorem cell_spot {W : World} {a : Addr} {v : Value} (h : W.cell? a = some v) : a.spot = none := by
  unfold World.cell? at h
  split at h
  · split at h
    · cases h
    · rename_i hn
      cases hs : a.spot with
      | none => rfl
      | some q => rw [hs] at hn; simp at hn
  · cases h
section
variable {H : Type} {enc : TypeId × Value → H}
def zOf (W : World) (a : Addr) (i j : Nat) : Int := match W.cell? ⟨a.block, a.off + (i * 3 + j), none⟩ with | some (.int _ z) => z | _ => 0
set_option maxRecDepth 100000 in
/-- A slice of triples of integers: the object that it is to the executor. -/
theorem open_triples {W : World} {fuel : Nat} {c : Value} {x : DataW H × List MemPlace} (h : DataW.trod enc Try.prog W 0 (fun _ => true) true fuel 24 [c] = some x) :
    ∃ (n : Nat) (Z : Nat → Z3) (e : Ent), OR (fun l => if l = 0 then some e else none) W W.heap.size e (zO n Z) ∧ VR (fun l => if l = 0 then some e else none) (.sl 0 0 n) c ∧
      ∀ i, i < n → i64 (Z i).a ∧ i64 (Z i).b ∧ i64 (Z i).c := by
  rcases Deep.open_slice Try.underlying24 h with ⟨hc, _⟩ | ⟨a, len, cap, m, k, D, Pl, hc, _, hle, hcap, hm, _, hx⟩
  · obtain rfl : c = .slice none 0 0 := by simpa using hc
    refine ⟨0, fun _ => ⟨0, 0, 0⟩, { blk := 0, base := 0, cap := 0, w := 3, nil := true }, ⟨rfl, fun _ => rfl, fun h => by cases h⟩, ?_, fun i hi => by omega⟩
    exact ⟨_, none, 0, rfl, rfl, Nat.le_refl _, .inl rfl⟩
  · obtain rfl : c = .slice (some a) len cap := by simpa using hc
    have hlm : len ≤ m := by rw [hm]; simpa using hle
    have hs : 0 < len → a.spot = none := by
      intro hi
      obtain ⟨cs', h1, h2⟩ := hx 0 (by omega)
      rw [c82] at h1
      obtain ⟨_, hl, hg⟩ := World.cells?_some h1
      obtain ⟨_, hz⟩ := open_arr Try.underlying82 Try.underlying3 c3 c82 h2
      obtain ⟨z, hz0, _⟩ := hz 0 (by omega)
      have hg0 := hg 0 (by omega)
      rw [hz0, Nat.zero_mul, add_zero', add_zero'] at hg0
      exact cell_spot hg0
    have hcell : ∀ i, i < len → a.spot = none ∧ a.block < W.heap.size ∧ ∀ j, j < 3 → ∃ z, W.cell? ⟨a.block, a.off + (i * 3 + j), none⟩ = some (.int .i64 z) ∧ (Lit.int .i64 z).wf = true := by
      intro i hi
      have hsp := hs (by omega)
      obtain ⟨cs', h1, h2⟩ := hx i (by omega)
      rw [c82, add_flat hsp] at h1
      obtain ⟨_, hl, hg⟩ := World.cells?_some h1
      obtain ⟨_, hz⟩ := open_arr Try.underlying82 Try.underlying3 c3 c82 h2
      have hblk := World.cells?_block h1 (Nat.succ_pos 2)
      refine ⟨hsp, hblk, fun j hj => ?_⟩
      obtain ⟨z, hzj, hw⟩ := hz j hj
      refine ⟨z, ?_, hw⟩
      have := hg j hj
      rw [hzj, add_flat rfl] at this
      rw [← Nat.add_assoc]
      exact this
    have hZ : ∀ i, i < len → ∀ j, j < 3 → W.cell? ⟨a.block, a.off + (i * 3 + j), none⟩ = some (.int .i64 (zOf W a i j)) ∧ i64 (zOf W a i j) := by
      intro i hi j hj
      obtain ⟨z, h1, h2⟩ := (hcell i hi).2.2 j hj
      have : zOf W a i j = z := by unfold zOf; rw [h1]
      rw [this]
      exact ⟨h1, i64_of h2⟩
    refine ⟨len, fun i => ⟨zOf W a i 0, zOf W a i 1, zOf W a i 2⟩, { blk := a.block, base := a.off, cap := 0, w := 3, nil := decide (len = 0) }, ⟨rfl, ?_, ?_⟩, ?_, fun i hi => ⟨(hZ i hi 0 (by omega)).2, (hZ i hi 1 (by omega)).2, (hZ i hi 2 (by omega)).2⟩⟩
    · intro h0; simpa using h0
    · intro h0
      have h0 : ¬ len = 0 := by simpa using h0
      refine ⟨(hcell 0 (by omega)).2.1, fun i hi => ⟨rfl, fun j sv hj => ?_⟩, fun h => by cases h⟩
      match j, hj with
      | 0, hj => cases hj; exact ⟨rfl, _, (hZ i hi 0 (by omega)).1, rfl⟩
      | 1, hj => cases hj; exact ⟨rfl, _, (hZ i hi 1 (by omega)).1, rfl⟩
      | 2, hj => cases hj; exact ⟨rfl, _, (hZ i hi 2 (by omega)).1, rfl⟩
    · refine ⟨_, some a, cap, rfl, rfl, hle, ?_⟩
      rcases Nat.eq_zero_or_pos len with h0 | h0
      · exact .inl h0
      · refine .inr ⟨by simp; omega, ?_⟩
        have := (hcell 0 h0).1
        cases a with
        | mk b o s => simp only at this; subst this; simp
set_option maxRecDepth 100000 in
/-- Numbers are read. -/
theorem open_np {W : World} {r : Reach} {b0 : Nat} {v : Value} {d : DataW H} {ps : List MemPlace} (hval : Value.okWide Try.prog W r b0 26 v) (h : DataW.Trod enc Try.prog W 0 (fun _ => true) true 26 v d ps) :
    ∃ (p : NP) (e : Ent), p.fits ∧ OR (fun l => if l = 0 then some e else none) W W.heap.size e (zO p.n p.Z) ∧ VRs (fun l => if l = 0 then some e else none) p.A [v] := by
  obtain ⟨cs, rfl, hsz⟩ := okWide_struct Try.underlying26 hval
  obtain ⟨fuel, h⟩ := h
  obtain ⟨y0, y1, y2, n, _, hl, h0, h1, h2⟩ := Deep.trod_struct3 Try.underlying26 h
  dsimp only at h0 h1 h2
  rw [c26] at hsz
  rw [c22] at h0
  rw [c23] at h1
  rw [c24] at h2
  simp only [Value.cells] at h0 h1 h2
  obtain ⟨g0, q0⟩ := open_arr Try.underlying22 Try.underlying3 c3 c22 h0
  obtain ⟨g1, q1⟩ := open_arr Try.underlying23 Try.underlying3 c3 c23 h1
  have hl11 : cs.toList.length = 11 := by simpa using hsz
  match hcs : cs.toList, hl11 with
  | [v0, v1, v2, v3, v4, v5, v6, v7, v8, v9, v10], _ =>
    rw [hcs] at q0 q1 h2
    obtain ⟨n, Z, e, hor, hvr, hz⟩ := open_triples (c := v10) (by simpa using h2)
    obtain ⟨z0, e0, w0⟩ := q0 0 (by omega)
    obtain ⟨z1, e1, w1⟩ := q0 1 (by omega)
    obtain ⟨z2, e2, w2⟩ := q0 2 (by omega)
    obtain ⟨z3, e3, w3⟩ := q0 3 (by omega)
    obtain ⟨z4, e4, w4⟩ := q1 0 (by omega)
    obtain ⟨z5, e5, w5⟩ := q1 1 (by omega)
    obtain ⟨z6, e6, w6⟩ := q1 2 (by omega)
    obtain ⟨z7, e7, w7⟩ := q1 3 (by omega)
    obtain ⟨z8, e8, w8⟩ := q1 4 (by omega)
    obtain ⟨z9, e9, w9⟩ := q1 5 (by omega)
    simp at e0 e1 e2 e3 e4 e5 e6 e7 e8 e9
    subst e0 e1 e2 e3 e4 e5 e6 e7 e8 e9
    refine ⟨⟨⟨z0, z1, z2, z3⟩, z4, z5, z6, z7, z8, z9, Z, n⟩, e, ⟨i64_of w0, i64_of w1, i64_of w2, i64_of w3, i64_of w4, i64_of w5, i64_of w6, i64_of w7, i64_of w8, i64_of w9, hz⟩, hor, ⟨⟨cs, rfl, ?_⟩, trivial⟩⟩
    rw [hcs]
    exact ⟨rfl, rfl, rfl, rfl, rfl, rfl, rfl, rfl, rfl, rfl, hvr, trivial⟩
theorem rel_one {W : World} {e : Ent} {n k t : Nat} {g : Nat → List SV} (h : OR (fun l => if l = 0 then some e else none) W W.heap.size e (.arr false n k t g)) : Rel W.heap.size W (fun l => if l = 0 then some e else none) [some (.arr false n k t g)] W := by
  refine ⟨Nat.le_refl _, Below.refl _ _, fun l o hl => ?_, fun l l' o o' e e' hne h1 hm h2 => ?_, fun l hl => ?_⟩
  · have h0 : l = 0 := by have := hget_lt hl; simpa using this
    subst h0
    cases hl
    exact ⟨e, rfl, h⟩
  · have h0 : l = 0 := by have := hget_lt h1; simpa using this
    subst h0
    cases h1
    cases hm
  · have : l ≠ 0 := by simp at hl; omega
    simp [this]
end
end Go.Proofs.Ytmcidfecepknpaa

/-
  Plain laws: what is made is valid; statuses are bounded.
-/
namespace Go.Proofs.Ytmcidfecepknpaa
open Go Go.Sh Go.Proofs
set_option linter.unusedVariables false

theorem w64_small {n : Int} (h : -1000000000 ≤ n) (h' : n ≤ 1000000000) : w64 n = n := by
  unfold w64; rw [IntKind.wrap_i64]; omega
theorem pickN_b {c n : Int} (hc : i64 c) (hn : 0 < n) : 0 ≤ pickN c n ∧ pickN c n < n := by
  unfold i64 at hc
  unfold pickN
  split
  · have h1 : w64 (c + 1) = c + 1 := by unfold w64; rw [IntKind.wrap_i64]; omega
    have h2 : w64 (0 - (c + 1)) = 0 - (c + 1) := by unfold w64; rw [IntKind.wrap_i64]; omega
    rw [h1, h2]
    exact ⟨Int.tmod_nonneg _ (by omega), Int.tmod_lt_of_pos _ hn⟩
  · exact ⟨Int.tmod_nonneg _ (by omega), Int.tmod_lt_of_pos _ hn⟩
theorem i64_w64 (n : Int) : i64 (w64 n) := by
  unfold i64 w64; rw [IntKind.wrap_i64]; omega
theorem ruleN_b {x : Int} (h : i64 x) : 1 ≤ ruleN x ∧ ruleN x ≤ 86400 := by
  have h1 := pickN_b h (n := 86400) (by omega)
  have h2 := pickN_b h (n := 12) (by omega)
  unfold ruleN
  split
  · rw [w64_small (by omega) (by omega)]; omega
  · rw [w64_small (by omega) (by omega)]; omega
/-- Rules of a made claim. -/
structure Rul.small (r : Rul) : Prop where
  a : 1 ≤ r.answer ∧ r.answer ≤ 86400
  c : 1 ≤ r.cooling ∧ r.cooling ≤ 86400
  s : 1 ≤ r.settle ∧ r.settle ≤ 86400
  v : 1 ≤ r.reverse ∧ r.reverse ≤ 86400
theorem mR_small {x : NP} (h : x.fits) : (mR x).small := ⟨ruleN_b h.a, ruleN_b h.b, ruleN_b h.c, ruleN_b h.d⟩
theorem Rul.small.ok {r : Rul} (h : r.small) : r.ok = true := by
  obtain ⟨a, c, s, v⟩ := h
  simp only [Rul.ok, inB, Bool.and_eq_true, decide_eq_true_eq]
  omega
theorem mC_ok {x : NP} (h : x.fits) : (mC x).ok = true ∧ 0 ≤ (mC x).asked ∧ (mC x).asked ≤ 999 := by
  have h0 := pickN_b h.y0 (n := 100000000) (by omega)
  have h1 := pickN_b h.y1 (n := 8) (by omega)
  have h2 := pickN_b h.y2 (n := 7) (by omega)
  have h3 := pickN_b h.y3 (n := 64) (by omega)
  have h4 := pickN_b h.y4 (n := 1000) (by omega)
  have hd : (w64 (w64 (pickN x.y1 8 + 1) + pickN x.y2 7)).tmod 8 = (pickN x.y1 8 + 1 + pickN x.y2 7) % 8 := by
    rw [w64_small (n := pickN x.y1 8 + 1) (by omega) (by omega), w64_small (by omega) (by omega), Int.tmod_eq_emod_of_nonneg (by omega)]
  refine ⟨?_, ?_, ?_⟩
  · have e0 : (mC x).number = pickN x.y0 100000000 := rfl
    have e1 : (mC x).src = pickN x.y1 8 := rfl
    have e2 : (mC x).dst = (pickN x.y1 8 + 1 + pickN x.y2 7) % 8 := hd
    have e3 : (mC x).holder = pickN x.y3 64 := rfl
    have e4 : (mC x).asked = pickN x.y4 1000 := rfl
    simp only [Clm.ok, inB, Bool.and_eq_true, decide_eq_true_eq, Bool.not_eq_true', decide_eq_false_iff_not]
    omega
  · show 0 ≤ pickN x.y4 1000; omega
  · show pickN x.y4 1000 ≤ 999; omega

/-! ### statuses are bounded -/
/-- A status of a claim: its state, its beginning, its end. -/
structure Sta.fine (r : Rul) (s : Sta) : Prop where
  st : 1 ≤ s.state ∧ s.state ≤ 8
  lo : 0 ≤ s.since
  hi : s.since ≤ 30000000
  nx : s.next = if s.state = 1 then s.since + r.answer else if s.state = 2 then s.since + r.settle else if s.state = 3 then s.since + r.cooling else if s.state = 4 then s.since + r.reverse else -1
theorem nextOf_small {r : Rul} (hr : r.small) {s t : Int} (h0 : 0 ≤ t) (h1 : t ≤ 30000000) : nextOf r s t = if s = 1 then t + r.answer else if s = 2 then t + r.settle else if s = 3 then t + r.cooling else if s = 4 then t + r.reverse else -1 := by
  obtain ⟨a, c, s', v⟩ := hr
  unfold nextOf
  rw [w64_small (by omega) (by omega), w64_small (by omega) (by omega), w64_small (by omega) (by omega), w64_small (by omega) (by omega)]
theorem begins_fine {r : Rul} (hr : r.small) {s t : Int} (hs : 1 ≤ s ∧ s ≤ 8) (h0 : 0 ≤ t) (h1 : t ≤ 30000000) : (begins r s t).fine r := ⟨hs, h0, h1, nextOf_small hr h0 h1⟩
theorem follow_st (s : Int) (h : s = 1 ∨ s = 2 ∨ s = 3 ∨ s = 4) : 1 ≤ follow s ∧ follow s ≤ 8 := by
  rcases h with rfl | rfl | rfl | rfl <;> decide
theorem Sta.fine.goes {r : Rul} {s : Sta} (h : s.fine r) {u : Int} (hg : goesOn u s = true) : (s.state = 1 ∨ s.state = 2 ∨ s.state = 3 ∨ s.state = 4) ∧ 0 ≤ s.next ∧ s.next ≤ u := by
  simp only [goesOn, Bool.and_eq_true, decide_eq_true_eq] at hg
  obtain ⟨a, b, c, d⟩ := h
  refine ⟨?_, hg⟩
  rw [d] at hg
  by_cases h1 : s.state = 1
  · exact .inl h1
  by_cases h2 : s.state = 2
  · exact .inr (.inl h2)
  by_cases h3 : s.state = 3
  · exact .inr (.inr (.inl h3))
  by_cases h4 : s.state = 4
  · exact .inr (.inr (.inr h4))
  rw [if_neg h1, if_neg h2, if_neg h3, if_neg h4] at hg
  omega
theorem goN_fine {r : Rul} (hr : r.small) {u : Int} (hu : u ≤ 30000000) : ∀ (m : Nat) {s : Sta}, s.fine r → (goN r u m s).fine r ∧ ((goN r u m s).since ≤ u ∨ goN r u m s = s)
  | 0, s, h => ⟨h, .inr rfl⟩
  | m + 1, s, h => by
    unfold goN
    cases hg : goesOn u s with
    | false => exact ⟨h, .inr rfl⟩
    | true =>
      obtain ⟨h1, h2, h3⟩ := h.goes hg
      have hf : (step1 r s).fine r := begins_fine hr (follow_st _ h1) h2 (by omega)
      obtain ⟨g1, g2⟩ := goN_fine hr hu m hf
      refine ⟨g1, .inl ?_⟩
      dsimp only
      rcases g2 with g2 | g2
      · exact g2
      · rw [g2]; exact h3
theorem effN_b (k s : Int) (h : effN k s ≠ 0) : 1 ≤ effN k s ∧ effN k s ≤ 8 ∧ (s = 1 ∨ s = 2 ∨ s = 3 ∨ s = 4) := by
  unfold effN at h ⊢
  by_cases h0 : k = 1 ∧ s = 1
  · rw [if_pos h0]; omega
  rw [if_neg h0] at h ⊢
  by_cases h1 : k = 2 ∧ s = 1
  · rw [if_pos h1]; omega
  rw [if_neg h1] at h ⊢
  by_cases h2 : k = 3 ∧ s = 2
  · rw [if_pos h2]; omega
  rw [if_neg h2] at h ⊢
  by_cases h3 : k = 4 ∧ s = 2
  · rw [if_pos h3]; omega
  rw [if_neg h3] at h ⊢
  by_cases h4 : k = 5 ∧ s = 1
  · rw [if_pos h4]; omega
  rw [if_neg h4] at h ⊢
  by_cases h5 : k = 5 ∧ s = 2
  · rw [if_pos h5]; omega
  rw [if_neg h5] at h ⊢
  by_cases h6 : k = 5 ∧ s = 3
  · rw [if_pos h6]; omega
  rw [if_neg h6] at h ⊢
  by_cases h7 : k = 6 ∧ s = 4
  · rw [if_pos h7]; omega
  rw [if_neg h7] at h ⊢
  exact (h rfl).elim
theorem afterN_b {c : Clm} {s : Int} {e : Evt} (h : afterB c s e = true) : 1 ≤ afterN c s e ∧ afterN c s e ≤ 8 := by
  simp only [afterB, Bool.and_eq_true, bne_iff_ne, ne_eq] at h
  have := effN_b _ _ h.1
  unfold afterN
  split <;> omega
theorem evN_fine {r : Rul} (hr : r.small) {c : Clm} {s : Sta} {e : Evt} (h : s.fine r) (h0 : 0 ≤ e.at') (h1 : e.at' ≤ 30000000) (hs : s.since ≤ e.at') : (evN r c s e).fine r ∧ (evN r c s e).since ≤ e.at' := by
  obtain ⟨g1, g2⟩ := goN_fine hr h1 4 h
  unfold evN
  cases hb : afterB c (goN r e.at' 4 s).state e with
  | true => exact ⟨begins_fine hr (afterN_b hb) h0 h1, Int.le_refl _⟩
  | false =>
    refine ⟨g1, ?_⟩
    dsimp only
    rcases g2 with g2 | g2
    · exact g2
    · rw [g2]; exact hs
/-- A right claim with small rules. -/
structure Good (r : Rul) (c : Clm) (E : Nat → Evt) (n : Nat) : Prop where
  small : r.small
  ok : (CP.mk r c E n).ok = true
theorem Good.asked {r : Rul} {c : Clm} {E : Nat → Evt} {n : Nat} (h : Good r c E n) : 0 ≤ c.asked ∧ c.asked ≤ 10000000 := Clm.ok_b ((CP.ok_iff _).1 h.ok).2.1
theorem Good.ev {r : Rul} {c : Clm} {E : Nat → Evt} {n : Nat} (h : Good r c E n) {i : Nat} (hi : i < n) : lastOf c.asked E i ≤ (E i).at' ∧ (E i).at' ≤ 20000000 := by
  have := ((CP.ok_iff _).1 h.ok).2.2.2 i hi
  simp only [evOk, inB, Bool.and_eq_true, decide_eq_true_eq] at this
  exact this.1.2
theorem Good.last {r : Rul} {c : Clm} {E : Nat → Evt} {n : Nat} (h : Good r c E n) : ∀ i, i ≤ n → 0 ≤ lastOf c.asked E i ∧ lastOf c.asked E i ≤ 20000000
  | 0, _ => by have := h.asked; exact ⟨this.1, by show c.asked ≤ _; omega⟩
  | i + 1, hi => by
    have h1 := h.last i (by omega)
    have h2 := h.ev (i := i) (by omega)
    exact ⟨by show 0 ≤ (E i).at'; omega, h2.2⟩
theorem Good.run {r : Rul} {c : Clm} {E : Nat → Evt} {n : Nat} (h : Good r c E n) : ∀ i, i ≤ n → (runN r c E (begins r 1 c.asked) i).fine r ∧ (runN r c E (begins r 1 c.asked) i).since ≤ lastOf c.asked E i
  | 0, _ => by have := h.asked; exact ⟨begins_fine h.small (by omega) this.1 (by omega), Int.le_refl _⟩
  | i + 1, hi => by
    obtain ⟨h1, h2⟩ := h.run i (by omega)
    have h3 := h.ev (i := i) (by omega)
    have h4 := h.last i (by omega)
    exact evN_fine h.small h1 (by omega) (by omega) (by omega)
/-- What the outcome of a right question is. -/
theorem Good.out {r : Rul} {c : Clm} {E : Nat → Evt} {n : Nat} (h : Good r c E n) {t : Int} (ht : c.asked ≤ t) (hb : t ≤ 20000000) :
    outErr ⟨r, c, E, n, t⟩ = 0 ∧ outcome ⟨r, c, E, n, t⟩ = goN r t 4 (runN r c E (begins r 1 c.asked) (stopN E t n)) := by
  have ha := h.asked
  have hok : OP.ok ⟨r, c, E, n, t⟩ = true := by
    unfold OP.ok
    rw [show OP.cp ⟨r, c, E, n, t⟩ = ⟨r, c, E, n⟩ from rfl, h.ok, decide_eq_true (p := 0 ≤ t) (by omega), decide_eq_true (p := t ≤ 20000000) hb]
    rfl
  refine ⟨by simp only [outErr, hok], ?_⟩
  simp only [outcome, hok]
  exact outT_eq (p := ⟨r, c, E, n, t⟩) h.ok (by show ¬ t < c.asked; omega) hb
theorem Good.out_fine {r : Rul} {c : Clm} {E : Nat → Evt} {n : Nat} (h : Good r c E n) {t : Int} (ht : c.asked ≤ t) (hb : t ≤ 20000000) : (outcome ⟨r, c, E, n, t⟩).fine r ∧ (outcome ⟨r, c, E, n, t⟩).since ≤ t := by
  rw [(h.out ht hb).2]
  obtain ⟨s1, s2, s3⟩ := stopN_spec E t n
  obtain ⟨g1, g2⟩ := h.run _ s1
  have hl : lastOf c.asked E (stopN E t n) ≤ t := by
    cases hk : stopN E t n with
    | zero => exact ht
    | succ k => exact s2 k (by omega)
  obtain ⟨f1, f2⟩ := goN_fine h.small (u := t) (by omega) 4 g1
  refine ⟨f1, ?_⟩
  rcases f2 with f2 | f2
  · exact f2
  · rw [f2]; omega
theorem Good.out_next {r : Rul} {c : Clm} {E : Nat → Evt} {n : Nat} (h : Good r c E n) {t : Int} (ht : c.asked ≤ t) (hb : t ≤ 20000000) : (outcome ⟨r, c, E, n, t⟩).next ≤ t + 86400 ∧ -1 ≤ (outcome ⟨r, c, E, n, t⟩).next := by
  obtain ⟨⟨f1, f2, f3, f4⟩, g⟩ := h.out_fine ht hb
  obtain ⟨a, c', s', v⟩ := h.small
  have ha := h.asked
  rw [f4]
  repeat' split
  all_goals omega
end Go.Proofs.Ytmcidfecepknpaa

namespace Go.Proofs.Ytmcidfecepknpaa
open Go Go.Sh Go.Proofs
set_option linter.unusedVariables false

theorem addE_lt {E : Nat → Evt} {i j : Nat} {e : Evt} (h : j < i) : addE E i e j = E j := by simp [addE, h]
theorem addE_self {E : Nat → Evt} {i : Nat} {e : Evt} : addE E i e i = e := by simp [addE]
theorem lastOf_add {a : Int} {E : Nat → Evt} {i : Nat} {e : Evt} : ∀ j, j ≤ i → lastOf a (addE E i e) j = lastOf a E j
  | 0, _ => rfl
  | j + 1, h => by show (addE E i e j).at' = (E j).at'; rw [addE_lt (by omega)]
structure Z3.fits (z : Z3) : Prop where
  a : i64 z.a
  b : i64 z.b
  c : i64 z.c
theorem i64_quo {n : Int} (h : i64 n) : i64 (w64 (n.tdiv 4)) := i64_w64 _
theorem newE_b {r : Rul} {c : Clm} {E : Nat → Evt} {i : Nat} {z : Z3} (hz : z.fits) (h : Good r c E i) (hb : lastOf c.asked E i ≤ 10000000) :
    evOk (lastOf c.asked E i) (newE r c E i (lastOf c.asked E i) z) = true ∧ (newE r c E i (lastOf c.asked E i) z).at' ≤ lastOf c.asked E i + 86405 := by
  have hl := h.last i (Nat.le_refl _)
  have ha : c.asked ≤ lastOf c.asked E i := by
    have : ∀ j, j ≤ i → c.asked ≤ lastOf c.asked E j := fun j => by
      induction j with
      | zero => intro _; exact Int.le_refl _
      | succ j ih =>
        intro hj
        have h1 := ih (by omega)
        have h2 := h.ev (i := j) (by omega)
        show c.asked ≤ (E j).at'
        omega
    exact this i (Nat.le_refl _)
  have hn := h.out_next (t := lastOf c.asked E i) ha (by omega)
  have p6 := pickN_b hz.a (n := 6) (by omega)
  have p4 := pickN_b hz.b (n := 4) (by omega)
  have p3 := pickN_b hz.b (n := 3) (by omega)
  have c4 := pickN_b hz.c (n := 4) (by omega)
  have hk : w64 (1 + pickN z.a 6) = 1 + pickN z.a 6 := w64_small (by omega) (by omega)
  have hat : lastOf c.asked E i ≤ (newE r c E i (lastOf c.asked E i) z).at' ∧ (newE r c E i (lastOf c.asked E i) z).at' ≤ lastOf c.asked E i + 86405 := by
    have h1 : w64 ((outcome ⟨r, c, E, i, lastOf c.asked E i⟩).next - 1) = (outcome ⟨r, c, E, i, lastOf c.asked E i⟩).next - 1 := w64_small (by omega) (by omega)
    have h2 : w64 ((outcome ⟨r, c, E, i, lastOf c.asked E i⟩).next - 1 + pickN z.b 3) = (outcome ⟨r, c, E, i, lastOf c.asked E i⟩).next - 1 + pickN z.b 3 := w64_small (by omega) (by omega)
    have h3 : w64 (lastOf c.asked E i + pickN z.b 4) = lastOf c.asked E i + pickN z.b 4 := w64_small (by omega) (by omega)
    unfold newE
    dsimp only
    rw [h1, h2, h3]
    split
    · split <;> omega
    · omega
  refine ⟨?_, hat.2⟩
  have hkind : (newE r c E i (lastOf c.asked E i) z).kind = 1 + pickN z.a 6 := hk
  have hreason : (newE r c E i (lastOf c.asked E i) z).reason = if 1 + pickN z.a 6 = 2 ∨ 1 + pickN z.a 6 = 6 then 1 + pickN z.c 4 else 0 := by
    unfold newE
    dsimp only
    rw [hk, w64_small (n := 1 + pickN z.c 4) (by omega) (by omega)]
  simp only [evOk, inB, Bool.and_eq_true, decide_eq_true_eq]
  rw [hkind, hreason]
  refine ⟨⟨by omega, by omega⟩, ?_⟩
  split
  · simp only [Bool.and_eq_true, decide_eq_true_eq]; omega
  · exact decide_eq_true rfl
theorem madeE_good {r : Rul} {c : Clm} {Z : Nat → Z3} {n : Nat} (hZ : ∀ i, i < n → (Z i).fits) (hr : r.small) (hc : c.ok = true ∧ 0 ≤ c.asked ∧ c.asked ≤ 999) : ∀ i, i ≤ n → i ≤ 10 → ∀ E last, madeE r c Z i = (E, last) →
    Good r c E i ∧ last = lastOf c.asked E i ∧ last ≤ 999 + 86405 * i
  | 0, _, _, E, last, h => by
    obtain ⟨rfl, rfl⟩ := Prod.mk.inj h
    exact ⟨⟨hr, (CP.ok_iff _).2 ⟨hr.ok, hc.1, by show 0 ≤ 20; omega, fun j hj => absurd hj (Nat.not_lt_zero j)⟩⟩, rfl, by omega⟩
  | i + 1, h1, h2, E, last, h => by
    cases hm : madeE r c Z i with
    | mk E0 l0 =>
      obtain ⟨g1, g2, g3⟩ := madeE_good hZ hr hc i (by omega) (by omega) E0 l0 hm
      rw [madeE, hm] at h
      obtain ⟨rfl, rfl⟩ := Prod.mk.inj h
      subst g2
      obtain ⟨n1, n2⟩ := newE_b (hZ i (by omega)) g1 (by omega)
      refine ⟨⟨hr, (CP.ok_iff _).2 ⟨hr.ok, hc.1, by show i + 1 ≤ 20; omega, fun j hj => ?_⟩⟩, ?_, ?_⟩
      · show evOk (lastOf c.asked (addE E0 i _) j) (addE E0 i _ j) = true
        rcases Nat.lt_succ_iff_lt_or_eq.1 (show j < i + 1 from hj) with hj | rfl
        · rw [lastOf_add j (by omega), addE_lt hj]
          exact ((CP.ok_iff _).1 g1.ok).2.2.2 j hj
        · rw [lastOf_add j (by omega), addE_self]
          exact n1
      · show _ = (addE E0 i _ i).at'
        rw [addE_self]
      · omega
theorem made_good {x : NP} (h : x.fits) : Good (mR x) (mC x) (mE x) (mN x) ∧ mN x ≤ 10 ∧ (mC x).asked ≤ 999 := by
  have hc := mC_ok h
  cases hm : madeE (mR x) (mC x) x.Z (mN x) with
  | mk E last =>
    obtain ⟨g1, g2, g3⟩ := madeE_good (n := x.n) (fun i hi => ⟨(h.Z i hi).1, (h.Z i hi).2.1, (h.Z i hi).2.2⟩) (mR_small h) hc (mN x) (Nat.min_le_left _ _) (Nat.min_le_right _ _) E last hm
    refine ⟨?_, Nat.min_le_right _ _, hc.2.2⟩
    have : mE x = E := by rw [mE, hm]
    rw [this]; exact g1

/-! ### the deadline -/
/-- When a claim with this status is closed at the latest. -/
def dl (r : Rul) (s : Sta) : Int := if s.state = 1 then s.since + r.answer - 1 + r.settle + r.cooling + r.reverse else if s.state = 2 then s.since + r.settle + r.cooling + r.reverse else if s.state = 3 then s.since + r.cooling + r.reverse else if s.state = 4 then s.since + r.reverse else s.since
theorem dl_next {r : Rul} (hr : r.small) {s : Sta} (h : s.fine r) : s.since ≤ dl r s ∧ (s.next = -1 ∨ s.next ≤ dl r s) := by
  obtain ⟨a, b, c, d⟩ := h
  obtain ⟨r1, r2, r3, r4⟩ := hr
  rw [d]
  unfold dl
  by_cases h1 : s.state = 1
  · rw [if_pos h1, if_pos h1]; omega
  rw [if_neg h1, if_neg h1]
  by_cases h2 : s.state = 2
  · rw [if_pos h2, if_pos h2]; omega
  rw [if_neg h2, if_neg h2]
  by_cases h3 : s.state = 3
  · rw [if_pos h3, if_pos h3]; omega
  rw [if_neg h3, if_neg h3]
  by_cases h4 : s.state = 4
  · rw [if_pos h4, if_pos h4]; omega
  rw [if_neg h4, if_neg h4]; omega
theorem dl_step {r : Rul} (hr : r.small) {s : Sta} (h : s.fine r) {u : Int} (hg : goesOn u s = true) : dl r (step1 r s) ≤ dl r s := by
  obtain ⟨h1, h2, h3⟩ := h.goes hg
  have d := h.nx
  obtain ⟨r1, r2, r3, r4⟩ := hr
  unfold step1 begins dl
  dsimp only
  rcases h1 with h1 | h1 | h1 | h1 <;> rw [h1] at d ⊢ <;> simp [follow] at d ⊢ <;> omega
theorem dl_goN {r : Rul} (hr : r.small) {u : Int} (hu : u ≤ 30000000) : ∀ (m : Nat) {s : Sta}, s.fine r → dl r (goN r u m s) ≤ dl r s
  | 0, s, h => Int.le_refl _
  | m + 1, s, h => by
    unfold goN
    cases hg : goesOn u s with
    | false => exact Int.le_refl _
    | true =>
      obtain ⟨h1, h2, h3⟩ := h.goes hg
      have := dl_goN hr hu m (s := step1 r s) (begins_fine hr (follow_st _ h1) h2 (by omega))
      have := dl_step hr h hg
      dsimp only
      omega
theorem fine_ok {r : Rul} (hr : r.small) {s : Sta} (h : s.fine r) : s.ok r := by
  unfold Sta.ok
  rw [nextOf_small hr h.lo h.hi]
  exact h.nx
theorem dl_evN {r : Rul} (hr : r.small) {c : Clm} {s : Sta} {e : Evt} (h : s.fine r) (h0 : 0 ≤ e.at') (h1 : e.at' ≤ 20000000) (hs : s.since ≤ e.at') : dl r (evN r c s e) ≤ dl r s := by
  obtain ⟨g1, g2⟩ := goN_fine hr (u := e.at') (by omega) 4 h
  have g3 := dl_goN hr (u := e.at') (by omega) 4 h
  have g4 := goN_end (u := e.at') 4 (fine_ok hr h) (rank_le _)
  unfold evN
  cases hb : afterB c (goN r e.at' 4 s).state e with
  | false => exact g3
  | true =>
    dsimp only
    refine Int.le_trans ?_ g3
    have hc : (goN r e.at' 4 s).since ≤ e.at' := by
      rcases g2 with g2 | g2
      · exact g2
      · rw [g2]; exact hs
    generalize goN r e.at' 4 s = q at g1 g4 hb hc
    simp only [goesOn, Bool.and_eq_false_iff, decide_eq_false_iff_not] at g4
    obtain ⟨q1, q2, q3, q4⟩ := g1
    simp only [afterB, Bool.and_eq_true, bne_iff_ne, ne_eq] at hb
    have hst := effN_b _ _ hb.1
    obtain ⟨r1, r2, r3, r4⟩ := hr
    have hn := hb.1
    unfold begins dl afterN
    dsimp only
    unfold effN at hn ⊢
    rcases hst.2.2 with h1 | h1 | h1 | h1 <;> simp [h1] at q4 hn ⊢ <;> (repeat' split) <;> (try omega) <;> simp_all <;> omega
end Go.Proofs.Ytmcidfecepknpaa

namespace Go.Proofs.Ytmcidfecepknpaa
open Go Go.Sh Go.Proofs
set_option linter.unusedVariables false

theorem Good.ends {r : Rul} {c : Clm} {E : Nat → Evt} {n : Nat} (h : Good r c E n) : endsErr ⟨r, c⟩ = 0 ∧ ends ⟨r, c⟩ = c.asked + r.answer - 1 + r.settle + r.cooling + r.reverse := by
  have h1 : endsOk ⟨r, c⟩ = true := by
    have := (CP.ok_iff _).1 h.ok
    simp only [endsOk, this.1, this.2.1, Bool.and_self]
  exact ⟨by simp only [endsErr, h1], by simp only [Go.Proofs.Ytmcidfecepknpaa.ends, h1]⟩
theorem dl_begin {r : Rul} {a : Int} : dl r (begins r 1 a) = a + r.answer - 1 + r.settle + r.cooling + r.reverse := by
  simp [dl, begins]
theorem Good.dl_run {r : Rul} {c : Clm} {E : Nat → Evt} {n : Nat} (h : Good r c E n) : ∀ i, i ≤ n → dl r (runN r c E (begins r 1 c.asked) i) ≤ c.asked + r.answer - 1 + r.settle + r.cooling + r.reverse
  | 0, _ => by show dl r (begins r 1 c.asked) ≤ _; rw [dl_begin]; exact Int.le_refl _
  | i + 1, hi => by
    have h1 := h.dl_run i (by omega)
    obtain ⟨h2, h3⟩ := h.run i (by omega)
    have h4 := h.ev (i := i) (by omega)
    have h5 := h.last i (by omega)
    have := dl_evN h.small (c := c) (e := E i) h2 (by omega) h4.2 (by omega)
    show dl r (evN r c _ (E i)) ≤ _
    omega
theorem closed_mono {r : Rul} {u u' : Int} (h : u ≤ u') : ∀ (m : Nat) {s : Sta}, (goN r u m s).next < 0 → goN r u' m s = goN r u m s
  | 0, s, _ => rfl
  | m + 1, s, hn => by
    unfold goN at hn ⊢
    cases hg : goesOn u s with
    | false =>
      rw [hg] at hn
      have : goesOn u' s = false := by
        simp only [goesOn, Bool.and_eq_false_iff, decide_eq_false_iff_not]
        have hn : s.next < 0 := hn
        omega
      rw [this]
    | true =>
      rw [hg] at hn
      have : goesOn u' s = true := by
        simp only [goesOn, Bool.and_eq_true, decide_eq_true_eq] at hg ⊢
        omega
      rw [this]
      exact closed_mono h m hn
theorem not_goes {s : Sta} (h : s.next < 0) (u : Int) : goesOn u s = false := by
  simp only [goesOn, Bool.and_eq_false_iff, decide_eq_false_iff_not]; omega
theorem effN_closed {k s : Int} (h : 5 ≤ s) : effN k s = 0 := by
  cases hd : decide (effN k s = 0) with
  | true => exact of_decide_eq_true hd
  | false => have := (effN_b k s (of_decide_eq_false hd)).2.2; omega
theorem afterB_closed {c : Clm} {s : Int} {e : Evt} (h : 5 ≤ s) : afterB c s e = false := by
  simp [afterB, effN_closed h]
/-- From the deadline on a claim is closed, and stays as it is. -/
theorem Good.closed {r : Rul} {c : Clm} {E : Nat → Evt} {n : Nat} (h : Good r c E n) {t : Int} (ht : c.asked + r.answer - 1 + r.settle + r.cooling + r.reverse ≤ t) (hb : t ≤ 20000000) :
    5 ≤ (outcome ⟨r, c, E, n, t⟩).state ∧ (outcome ⟨r, c, E, n, t⟩).next = -1 ∧ (outcome ⟨r, c, E, n, t⟩).since ≤ c.asked + r.answer - 1 + r.settle + r.cooling + r.reverse := by
  obtain ⟨r1, r2, r3, r4⟩ := h.small
  have ha : c.asked ≤ t := by omega
  have hf := (h.out_fine ha hb).1
  rw [(h.out ha hb).2] at hf ⊢
  obtain ⟨s1, s2, s3⟩ := stopN_spec E t n
  have hd := h.dl_run _ s1
  have hr := (h.run _ s1).1
  have hg := dl_goN h.small (u := t) (by omega) 4 hr
  have he := goN_end (u := t) 4 (fine_ok h.small hr) (rank_le _)
  generalize goN r t 4 (runN r c E (begins r 1 c.asked) (stopN E t n)) = o at hf hg he
  obtain ⟨d1, d2⟩ := dl_next h.small hf
  simp only [goesOn, Bool.and_eq_false_iff, decide_eq_false_iff_not] at he
  have hn : o.next < 0 := by omega
  obtain ⟨f1, f2, f3, f4⟩ := hf
  by_cases h1 : o.state = 1
  · rw [if_pos h1] at f4; omega
  rw [if_neg h1] at f4
  by_cases h2 : o.state = 2
  · rw [if_pos h2] at f4; omega
  rw [if_neg h2] at f4
  by_cases h3 : o.state = 3
  · rw [if_pos h3] at f4; omega
  rw [if_neg h3] at f4
  by_cases h4 : o.state = 4
  · rw [if_pos h4] at f4; omega
  rw [if_neg h4] at f4
  omega
theorem stopN_mono {E : Nat → Evt} {n : Nat} {t t' : Int} (h : t ≤ t') : stopN E t n ≤ stopN E t' n := by
  obtain ⟨a1, a2, a3⟩ := stopN_spec E t n
  obtain ⟨b1, b2, b3⟩ := stopN_spec E t' n
  rcases Nat.lt_or_ge (stopN E t' n) (stopN E t n) with hl | hl
  · have := b3 (by omega)
    have := a2 _ hl
    omega
  · exact hl
theorem Good.stays {r : Rul} {c : Clm} {E : Nat → Evt} {n : Nat} (h : Good r c E n) {t t' : Int} (ht : c.asked + r.answer - 1 + r.settle + r.cooling + r.reverse ≤ t) (htt : t ≤ t') (hb : t' ≤ 20000000) :
    outcome ⟨r, c, E, n, t'⟩ = outcome ⟨r, c, E, n, t⟩ := by
  obtain ⟨r1, r2, r3, r4⟩ := h.small
  have hc := h.closed ht (by omega)
  rw [(h.out (t := t) (by omega) (by omega)).2] at hc
  rw [(h.out (t := t') (by omega) hb).2, (h.out (t := t) (by omega) (by omega)).2]
  have hm := stopN_mono (E := E) (n := n) htt
  obtain ⟨a1, a2, a3⟩ := stopN_spec E t n
  obtain ⟨b1, b2, b3⟩ := stopN_spec E t' n
  have hev := ((CP.ok_iff _).1 h.ok).2.2.2
  have key : ∀ m, stopN E t n + m ≤ n → m = 0 ∨ runN r c E (begins r 1 c.asked) (stopN E t n + m) = goN r t 4 (runN r c E (begins r 1 c.asked) (stopN E t n)) := fun m => by
    induction m with
    | zero => intro _; exact .inl rfl
    | succ m ih =>
      intro hle
      have ih := ih (by omega)
      refine .inr ?_
      have hat : t < (E (stopN E t n + m)).at' := by
        have h1 := a3 (by omega)
        have h2 := at_mono hev (k := stopN E t n) m (by show _ < n; omega)
        exact Int.lt_of_lt_of_le h1 h2
      rw [show stopN E t n + (m + 1) = stopN E t n + m + 1 by omega, runN]
      have hgo : goN r (E (stopN E t n + m)).at' 4 (runN r c E (begins r 1 c.asked) (stopN E t n + m)) = goN r t 4 (runN r c E (begins r 1 c.asked) (stopN E t n)) := by
        rcases ih with rfl | ih
        · exact closed_mono (by omega) 4 (by rw [Nat.add_zero, hc.2.1]; omega)
        · rw [ih]; exact goN_done (not_goes (by rw [hc.2.1]; omega) _) 4
      unfold evN
      rw [hgo, afterB_closed hc.1]
  have hk := key (stopN E t' n - stopN E t n) (by omega)
  rw [show stopN E t n + (stopN E t' n - stopN E t n) = stopN E t' n by omega] at hk
  rcases hk with hk | hk
  · rw [show stopN E t' n = stopN E t n by omega]
    exact closed_mono htt 4 (by rw [hc.2.1]; omega)
  · rw [hk]; exact goN_done (not_goes (by rw [hc.2.1]; omega) _) 4
/-! ### going on by itself -/
theorem goN_go {r : Rul} {u : Int} {m : Nat} {s : Sta} (h0 : 0 ≤ s.next) (h1 : s.next ≤ u) : goN r u (m + 1) s = goN r u m (step1 r s) := by
  have : goesOn u s = true := by simp only [goesOn, Bool.and_eq_true, decide_eq_true_eq]; exact ⟨h0, h1⟩
  simp only [goN, this]
theorem goN_halt {r : Rul} {u : Int} {m : Nat} {s : Sta} (h : s.next < 0 ∨ u < s.next) : goN r u m s = s := by
  refine goN_done ?_ m
  simp only [goesOn, Bool.and_eq_false_iff, decide_eq_false_iff_not]; omega
theorem beg1 {r : Rul} (hr : r.small) {t : Int} (h0 : 0 ≤ t) (h1 : t ≤ 30000000) : begins r 1 t = ⟨1, t, t + r.answer⟩ := by simp [begins, nextOf_small hr h0 h1]
theorem beg2 {r : Rul} (hr : r.small) {t : Int} (h0 : 0 ≤ t) (h1 : t ≤ 30000000) : begins r 2 t = ⟨2, t, t + r.settle⟩ := by simp [begins, nextOf_small hr h0 h1]
theorem beg3 {r : Rul} (hr : r.small) {t : Int} (h0 : 0 ≤ t) (h1 : t ≤ 30000000) : begins r 3 t = ⟨3, t, t + r.cooling⟩ := by simp [begins, nextOf_small hr h0 h1]
theorem beg4 {r : Rul} (hr : r.small) {t : Int} (h0 : 0 ≤ t) (h1 : t ≤ 30000000) : begins r 4 t = ⟨4, t, t + r.reverse⟩ := by simp [begins, nextOf_small hr h0 h1]
theorem beg5 {r : Rul} (hr : r.small) {t : Int} (h0 : 0 ≤ t) (h1 : t ≤ 30000000) : begins r 5 t = ⟨5, t, -1⟩ := by simp [begins, nextOf_small hr h0 h1]
theorem st1 {r : Rul} (hr : r.small) {t u : Int} (h0 : 0 ≤ u) (h1 : u ≤ 30000000) : step1 r ⟨1, t, u⟩ = ⟨3, u, u + r.cooling⟩ := beg3 hr h0 h1
theorem st2 {r : Rul} (hr : r.small) {t u : Int} (h0 : 0 ≤ u) (h1 : u ≤ 30000000) : step1 r ⟨2, t, u⟩ = ⟨3, u, u + r.cooling⟩ := beg3 hr h0 h1
theorem st3 {r : Rul} (hr : r.small) {t u : Int} (h0 : 0 ≤ u) (h1 : u ≤ 30000000) : step1 r ⟨3, t, u⟩ = ⟨4, u, u + r.reverse⟩ := beg4 hr h0 h1
theorem st4 {r : Rul} (hr : r.small) {t u : Int} (h0 : 0 ≤ u) (h1 : u ≤ 30000000) : step1 r ⟨4, t, u⟩ = ⟨5, u, -1⟩ := beg5 hr h0 h1
/-- One event. -/
theorem Good.one {r : Rul} {c : Clm} (hr : r.small) (hc : c.ok = true) {e : Evt} (he : evOk c.asked e = true) : Good r c (fun _ => e) 1 :=
  ⟨hr, (CP.ok_iff _).2 ⟨hr.ok, hc, by show 1 ≤ 20; omega, fun j hj => by
    have : j = 0 := by have : j < 1 := hj; omega
    subst this; exact he⟩⟩
theorem stopN_one {e : Evt} {t : Int} (h : e.at' ≤ t) : stopN (fun _ => e) t 1 = 1 := stopN_eq (Nat.le_refl _) (fun _ _ => h) (.inl rfl)
/-- An objection in the last second. -/
theorem last_objection {r : Rul} {c : Clm} (hr : r.small) (hc : c.ok = true) (ha : 0 ≤ c.asked ∧ c.asked ≤ 999) {w : Int} (hw : 2 ≤ w ∧ w ≤ 9) :
    Good r c (fun _ => ⟨2, c.asked + r.answer - 1, w⟩) 1 ∧
    outcome ⟨r, c, fun _ => ⟨2, c.asked + r.answer - 1, w⟩, 1, c.asked + r.answer - 1 + r.settle + r.cooling + r.reverse⟩ = ⟨5, c.asked + r.answer - 1 + r.settle + r.cooling + r.reverse, -1⟩ ∧
    outcome ⟨r, c, fun _ => ⟨2, c.asked + r.answer - 1, w⟩, 1, c.asked + r.answer - 1 + r.settle + r.cooling + r.reverse - 1⟩ = ⟨4, c.asked + r.answer - 1 + r.settle + r.cooling, c.asked + r.answer - 1 + r.settle + r.cooling + r.reverse⟩ := by
  obtain ⟨r1, r2, r3, r4⟩ := hr
  have hr : r.small := ⟨r1, r2, r3, r4⟩
  have hg : Good r c (fun _ => ⟨2, c.asked + r.answer - 1, w⟩) 1 := by
    refine Good.one hr hc ?_
    simp only [evOk, inB, Bool.and_eq_true, decide_eq_true_eq]
    refine ⟨⟨by omega, by omega⟩, ?_⟩
    rw [if_pos (by simp)]
    simp only [Bool.and_eq_true, decide_eq_true_eq]; omega
  have hrun : runN r c (fun _ => ⟨2, c.asked + r.answer - 1, w⟩) (begins r 1 c.asked) 1 = ⟨2, c.asked + r.answer - 1, c.asked + r.answer - 1 + r.settle⟩ := by
    show evN r c (begins r 1 c.asked) ⟨2, c.asked + r.answer - 1, w⟩ = _
    have h1 : goN r (c.asked + r.answer - 1) 4 (begins r 1 c.asked) = ⟨1, c.asked, c.asked + r.answer⟩ := by
      rw [beg1 hr (by omega) (by omega)]
      exact goN_halt (by dsimp only; omega)
    unfold evN
    dsimp only
    rw [h1]
    have hb : afterB c 1 ⟨2, c.asked + r.answer - 1, w⟩ = true := by
      have : ¬ w = 1 := by omega
      simp [afterB, effN, this]
    have hn : afterN c 1 ⟨2, c.asked + r.answer - 1, w⟩ = 2 := by
      have : ¬ w = 1 := by omega
      simp [afterN, effN, this]
    rw [hb, hn]
    exact beg2 hr (by omega) (by omega)
  refine ⟨hg, ?_, ?_⟩
  · rw [(hg.out (by omega) (by omega)).2, stopN_one (by dsimp only; omega), hrun, goN_go (by dsimp only; omega) (by dsimp only; omega), st2 hr (by omega) (by omega), goN_go (by dsimp only; omega) (by dsimp only; omega), st3 hr (by omega) (by omega),
      goN_go (by dsimp only; omega) (by dsimp only; omega), st4 hr (by omega) (by omega), goN_halt (.inl (by dsimp only; omega))]
  · rw [(hg.out (by omega) (by omega)).2, stopN_one (by dsimp only; omega), hrun, goN_go (by dsimp only; omega) (by dsimp only; omega), st2 hr (by omega) (by omega), goN_go (by dsimp only; omega) (by dsimp only; omega), st3 hr (by omega) (by omega),
      goN_halt (.inr (by dsimp only; omega))]
end Go.Proofs.Ytmcidfecepknpaa

namespace Go.Proofs.Ytmcidfecepknpaa
open Go Go.Sh Go.Proofs
set_option linter.unusedVariables false

/-- What is made, by names. -/
def mEq_J (x : NP) (r : Rul) (c : Clm) (E : Nat → Evt) (n : Nat) : Prop := mR x = r ∧ mC x = c ∧ mE x = E ∧ mN x = n
/-- The contract of Made, what is made being named. -/
def madeG (r : Rul) (c : Clm) (E : Nat → Evt) (n : Nat) : Con := fun args h k => match exNP args h with
  | some (x, src) => (src.length = 1 ∧ wkVs (srcF src) (srcZ src) x.A args ∧ wkH (srcF src) (srcZ src) h [some (zO x.n x.Z)] 0) ∧ mEq_J x r c E n ∧ k (.tup [r.sv, c.sv, .osl h.length n]) (h ++ [some (.arr true n 3 45 fun i => (E i).cells)])
  | none => False
theorem madeG_by {r : Rul} {c : Clm} {E : Nat → Evt} {n : Nat} {args : List SV} {h : Heap} {k : KV} (H : madeG r c E n args h k) : sMade.by exNP args h k := by
  unfold madeG at H
  unfold FSpec.by
  cases hx : exNP args h with
  | none => rw [hx] at H; exact H.elim
  | some y =>
    obtain ⟨x, src⟩ := y
    rw [hx] at H
    obtain ⟨h1, ⟨rfl, rfl, rfl, rfl⟩, h2⟩ := H
    exact ⟨⟨trivial, h1⟩, h2⟩
theorem madeG_ok (r : Rul) (c : Clm) (E : Nat → Evt) (n : Nat) : ConOK XM1.P 12 (madeG r c E n) := by
  refine ⟨fun args h k H => (made_ok.by exNP).call args h k (madeG_by H), fun args h k k' hk H => ?_, fun args h k H => ?_⟩
  · unfold madeG at H ⊢
    split at H
    · exact ⟨H.1, H.2.1, hk _ _ H.2.2⟩
    · exact H.elim
  · unfold madeG at H ⊢
    split at H
    · exact ⟨H.1, H.2.1, HExt.appends _ _, H.2.2⟩
    · exact H.elim
noncomputable def XG (r : Rul) (c : Clm) (E : Nat → Evt) (n : Nat) : Ctx := XL.with 12 (madeG r c E n)
theorem XG_ok (r : Rul) (c : Clm) (E : Nat → Evt) (n : Nat) : (XG r c E n).OK := Ctx.with_ok XL_ok (madeG_ok r c E n)

/-- A law's contract, from its run with what is made by name. -/
theorem lawG {π : Type} {f : FuncId} {s : FSpec π} (N : Nat) (views : ∀ p, viewsB (s.H p) = true) (hO : ∀ p, s.O p = []) (g : π → NP)
    (run : ∀ p, s.J p → callBy (XG (mR (g p)) (mC (g p)) (mE (g p)) (mN (g p))) (exec (XG (mR (g p)) (mC (g p)) (mE (g p)) (mN (g p))) N) f (s.A p) (s.H p) (RetC (s.H p).length (s.R p) (s.O p))) : s.OK Try.prog f :=
  ⟨views, fun p _ o ho => (by rw [hO] at ho; cases ho), fun p hJ => (callBy_ok (XG_ok _ _ _ _) (exec_sound (XG_ok _ _ _ _) N) _ _ _ _ (run p hJ)).mono fun _ _ => RetC.wk⟩

theorem lawT {π : Type} {f : FuncId} {s : FSpec π} (N : Nat) (T : π → Rul → Clm → (Nat → Evt) → Nat → Prop) (eq : ∀ p r c E n, callBy (XG r c E n) (exec (XG r c E n) N) f (s.A p) (s.H p) (RetC (s.H p).length (s.R p) (s.O p)) = T p r c E n)
    (views : ∀ p, viewsB (s.H p) = true) (hO : ∀ p, s.O p = []) (g : π → NP) (run : ∀ p, s.J p → T p (mR (g p)) (mC (g p)) (mE (g p)) (mN (g p))) : s.OK Try.prog f :=
  lawG N views hO g fun p hJ => (eq p _ _ _ _).mpr (run p hJ)

structure DP where
  x : NP
  later : Int
  reason : Int
def sDecided : FSpec DP where
  J := fun p => p.x.fits ∧ i64 p.later ∧ i64 p.reason
  A := fun p => p.x.A ++ [iv p.later, iv p.reason]
  H := fun p => [some (zO p.x.n p.x.Z)]
  R := fun _ => .bool true
  O := fun _ => []
structure TX where
  x : NP
  t : Int
def sSilence : FSpec TX where
  J := fun p => p.x.fits ∧ i64 p.t
  A := fun p => p.x.A ++ [iv p.t]
  H := fun p => [some (zO p.x.n p.x.Z)]
  R := fun _ => .bool true
  O := fun _ => []
end Go.Proofs.Ytmcidfecepknpaa

