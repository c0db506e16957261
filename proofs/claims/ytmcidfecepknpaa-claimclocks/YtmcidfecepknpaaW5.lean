/-
  Parts of the proof: the executor of states by symbols, and the contracts of the functions that the law reaches. No condition.
-/
import Derived.Test.YtmcidfecepknpaaW4
set_option linter.unusedVariables false
set_option linter.unusedSimpArgs false

namespace Go.Proofs.Ytmcidfecepknpaa
open Go Go.Sh Go.Proofs
set_option linter.unusedVariables false
set_option linter.unusedSimpArgs false
def moves_t0 : Prop :=
  True ∧ (0 : Nat) = (0 : Nat) ∧ True ∧ True
theorem moves_t0_t : moves_t0 :=
  ⟨trivial, ⟨rfl, ⟨trivial, trivial⟩⟩⟩
def moves_t1 (p : TX) : Prop :=
  (1 : Nat) = (1 : Nat) ∧ ((p.1.1.1 = p.1.1.1 ∧ p.1.1.2 = p.1.1.2 ∧ p.1.1.3 = p.1.1.3 ∧ p.1.1.4 = p.1.1.4 ∧ p.1.2 = p.1.2 ∧ p.1.3 = p.1.3 ∧ p.1.4 = p.1.4 ∧ p.1.5 = p.1.5 ∧ p.1.6 = p.1.6 ∧ p.1.7 = p.1.7 ∧ ((0 : Nat) = (0 : Nat) ∧ p.1.9 = p.1.9) ∧ True) ∧ True) ∧ (p.1.9 = p.1.9 ∧ ∀ (i : Nat), i < p.1.n → (p.1.8 i).1 = (p.1.8 i).1 ∧ (p.1.8 i).2 = (p.1.8 i).2 ∧ (p.1.8 i).3 = (p.1.8 i).3 ∧ True) ∧ True
theorem moves_t1_t (p : TX) : moves_t1 p :=
  ⟨rfl, ⟨⟨⟨rfl, ⟨rfl, ⟨rfl, ⟨rfl, ⟨rfl, ⟨rfl, ⟨rfl, ⟨rfl, ⟨rfl, ⟨rfl, ⟨⟨rfl, rfl⟩, trivial⟩⟩⟩⟩⟩⟩⟩⟩⟩⟩⟩, trivial⟩, ⟨⟨rfl, (fun _ => (fun _ => ⟨rfl, ⟨rfl, ⟨rfl, trivial⟩⟩⟩))⟩, trivial⟩⟩⟩
def moves_t2 (p : TX) : Prop :=
  (0 : Nat) = (0 : Nat) ∧ (p.2 = p.2 ∧ (1000000 : Int) = (1000000 : Int) ∧ True) ∧ True
theorem moves_t2_t (p : TX) : moves_t2 p :=
  ⟨rfl, ⟨⟨rfl, ⟨rfl, trivial⟩⟩, trivial⟩⟩
def moves_t3 (p : TX) (r : Rul) (c : Clm) (E : Nat → Evt) (n : Nat) : Prop :=
  (6 : Nat) = (6 : Nat) ∧ True ∧ (pickN p.2 (1000000 : Int) = pickN p.2 (1000000 : Int) ∧ true = true ∧ ((0 : Nat) = (0 : Nat) ∧ (0 : Nat) = (0 : Nat)) ∧ ((0 : Nat) = (0 : Nat) ∧ (0 : Nat) = (0 : Nat)) ∧ n = n ∧ ((0 : Nat) = (0 : Nat) ∧ (0 : Nat) = (0 : Nat)) ∧ (0 : Nat) = (0 : Nat) ∧ (0 : Int) = (0 : Int) ∧ True) ∧ (n = n ∧ ∀ (i : Nat), i < n → (E i).1 = (E i).1 ∧ (E i).2 = (E i).2 ∧ (E i).3 = (E i).3 ∧ True) ∧ ((1 : Nat) = (1 : Nat) ∧ ∀ (i : Nat), i < (1 : Nat) → r.1 = r.1 ∧ r.2 = r.2 ∧ r.3 = r.3 ∧ r.4 = r.4 ∧ True) ∧ ((1 : Nat) = (1 : Nat) ∧ ∀ (i : Nat), i < (1 : Nat) → c.1 = c.1 ∧ c.2 = c.2 ∧ c.3 = c.3 ∧ c.4 = c.4 ∧ c.5 = c.5 ∧ c.6 = c.6 ∧ True) ∧ ((1 : Nat) = (1 : Nat) ∧ ∀ (i : Nat), i < (1 : Nat) → c.1 = c.1 ∧ c.2 = c.2 ∧ c.3 = c.3 ∧ c.4 = c.4 ∧ IntKind.i64.wrap (c.5 + pickN p.2 (1000000 : Int)) = IntKind.i64.wrap (c.5 + pickN p.2 (1000000 : Int)) ∧ c.6 = c.6 ∧ True) ∧ (0 : Nat) = (0 : Nat) ∧ True
theorem moves_t3_t (p : TX) (r : Rul) (c : Clm) (E : Nat → Evt) (n : Nat) : moves_t3 p r c E n :=
  ⟨rfl, ⟨trivial, ⟨⟨rfl, ⟨rfl, ⟨⟨rfl, rfl⟩, ⟨⟨rfl, rfl⟩, ⟨rfl, ⟨⟨rfl, rfl⟩, ⟨rfl, ⟨rfl, trivial⟩⟩⟩⟩⟩⟩⟩⟩, ⟨⟨rfl, (fun _ => (fun _ => ⟨rfl, ⟨rfl, ⟨rfl, trivial⟩⟩⟩))⟩, ⟨⟨rfl, (fun _ => (fun _ => ⟨rfl, ⟨rfl, ⟨rfl, ⟨rfl, trivial⟩⟩⟩⟩))⟩, ⟨⟨rfl, (fun _ => (fun _ => ⟨rfl, ⟨rfl, ⟨rfl, ⟨rfl, ⟨rfl, ⟨rfl, trivial⟩⟩⟩⟩⟩⟩))⟩, ⟨⟨rfl, (fun _ => (fun _ => ⟨rfl, ⟨rfl, ⟨rfl, ⟨rfl, ⟨rfl, ⟨rfl, trivial⟩⟩⟩⟩⟩⟩))⟩, ⟨rfl, trivial⟩⟩⟩⟩⟩⟩⟩⟩
def moves_t4 (r : Rul) (c : Clm) (E : Nat → Evt) (n : Nat) : Prop :=
  True ∧ (1 : Nat) = (1 : Nat) ∧ ((r.1 = r.1 ∧ r.2 = r.2 ∧ r.3 = r.3 ∧ r.4 = r.4 ∧ True) ∧ (c.1 = c.1 ∧ c.2 = c.2 ∧ c.3 = c.3 ∧ c.4 = c.4 ∧ c.5 = c.5 ∧ c.6 = c.6 ∧ True) ∧ ((0 : Nat) = (0 : Nat) ∧ n = n) ∧ True) ∧ (n = n ∧ ∀ (i : Nat), i < n → (E i).1 = (E i).1 ∧ (E i).2 = (E i).2 ∧ (E i).3 = (E i).3 ∧ True) ∧ True
theorem moves_t4_t (r : Rul) (c : Clm) (E : Nat → Evt) (n : Nat) : moves_t4 r c E n :=
  ⟨trivial, ⟨rfl, ⟨⟨⟨rfl, ⟨rfl, ⟨rfl, ⟨rfl, trivial⟩⟩⟩⟩, ⟨⟨rfl, ⟨rfl, ⟨rfl, ⟨rfl, ⟨rfl, ⟨rfl, trivial⟩⟩⟩⟩⟩⟩, ⟨⟨rfl, rfl⟩, trivial⟩⟩⟩, ⟨⟨rfl, (fun _ => (fun _ => ⟨rfl, ⟨rfl, ⟨rfl, trivial⟩⟩⟩))⟩, trivial⟩⟩⟩⟩
def moves_t5 (p : TX) (r : Rul) (c : Clm) (q : MvD) : Prop :=
  True ∧ (1 : Nat) = (1 : Nat) ∧ ((r.1 = r.1 ∧ r.2 = r.2 ∧ r.3 = r.3 ∧ r.4 = r.4 ∧ True) ∧ (c.1 = c.1 ∧ c.2 = c.2 ∧ c.3 = c.3 ∧ c.4 = c.4 ∧ IntKind.i64.wrap (c.5 + pickN p.2 (1000000 : Int)) = IntKind.i64.wrap (c.5 + pickN p.2 (1000000 : Int)) ∧ c.6 = c.6 ∧ True) ∧ ((0 : Nat) = (0 : Nat) ∧ q.1 = q.1) ∧ True) ∧ (q.1 = q.1 ∧ ∀ (i : Nat), i < q.1 → (q.2 i).1 = (q.2 i).1 ∧ (q.2 i).2 = (q.2 i).2 ∧ (q.2 i).3 = (q.2 i).3 ∧ True) ∧ True
theorem moves_t5_t (p : TX) (r : Rul) (c : Clm) (q : MvD) : moves_t5 p r c q :=
  ⟨trivial, ⟨rfl, ⟨⟨⟨rfl, ⟨rfl, ⟨rfl, ⟨rfl, trivial⟩⟩⟩⟩, ⟨⟨rfl, ⟨rfl, ⟨rfl, ⟨rfl, ⟨rfl, ⟨rfl, trivial⟩⟩⟩⟩⟩⟩, ⟨⟨rfl, rfl⟩, trivial⟩⟩⟩, ⟨⟨rfl, (fun _ => (fun _ => ⟨rfl, ⟨rfl, ⟨rfl, trivial⟩⟩⟩))⟩, trivial⟩⟩⟩⟩
def moves_t6 (r : Rul) (c : Clm) : Prop :=
  True ∧ (0 : Nat) = (0 : Nat) ∧ ((r.1 = r.1 ∧ r.2 = r.2 ∧ r.3 = r.3 ∧ r.4 = r.4 ∧ True) ∧ (c.1 = c.1 ∧ c.2 = c.2 ∧ c.3 = c.3 ∧ c.4 = c.4 ∧ c.5 = c.5 ∧ c.6 = c.6 ∧ True) ∧ True) ∧ True
theorem moves_t6_t (r : Rul) (c : Clm) : moves_t6 r c :=
  ⟨trivial, ⟨rfl, ⟨⟨⟨rfl, ⟨rfl, ⟨rfl, ⟨rfl, trivial⟩⟩⟩⟩, ⟨⟨rfl, ⟨rfl, ⟨rfl, ⟨rfl, ⟨rfl, ⟨rfl, trivial⟩⟩⟩⟩⟩⟩, trivial⟩⟩, trivial⟩⟩⟩
def moves_t7 (p : TX) (r : Rul) (c : Clm) : Prop :=
  True ∧ (0 : Nat) = (0 : Nat) ∧ ((r.1 = r.1 ∧ r.2 = r.2 ∧ r.3 = r.3 ∧ r.4 = r.4 ∧ True) ∧ (c.1 = c.1 ∧ c.2 = c.2 ∧ c.3 = c.3 ∧ c.4 = c.4 ∧ IntKind.i64.wrap (c.5 + pickN p.2 (1000000 : Int)) = IntKind.i64.wrap (c.5 + pickN p.2 (1000000 : Int)) ∧ c.6 = c.6 ∧ True) ∧ True) ∧ True
theorem moves_t7_t (p : TX) (r : Rul) (c : Clm) : moves_t7 p r c :=
  ⟨trivial, ⟨rfl, ⟨⟨⟨rfl, ⟨rfl, ⟨rfl, ⟨rfl, trivial⟩⟩⟩⟩, ⟨⟨rfl, ⟨rfl, ⟨rfl, ⟨rfl, ⟨rfl, ⟨rfl, trivial⟩⟩⟩⟩⟩⟩, trivial⟩⟩, trivial⟩⟩⟩
def moves_t8 (p : TX) (r : Rul) (c : Clm) (E : Nat → Evt) (n : Nat) (q : MvD) : Prop :=
  (2 : Nat) = (2 : Nat) ∧ (((0 : Nat) = (0 : Nat) ∧ (voidL { r := r, c := c, E := E, n := n : CP }).length = (voidL { r := r, c := c, E := E, n := n : CP }).length) ∧ ((0 : Nat) = (0 : Nat) ∧ (voidL { r := r, c := { number := c.1, src := c.2, dst := c.3, holder := c.4, asked := IntKind.i64.wrap (c.5 + pickN p.2 (1000000 : Int)), backed := c.6 : Clm }, E := q.2, n := q.1 : CP }).length = (voidL { r := r, c := { number := c.1, src := c.2, dst := c.3, holder := c.4, asked := IntKind.i64.wrap (c.5 + pickN p.2 (1000000 : Int)), backed := c.6 : Clm }, E := q.2, n := q.1 : CP }).length) ∧ True) ∧ ((voidL { r := r, c := c, E := E, n := n : CP }).length = (voidL { r := r, c := c, E := E, n := n : CP }).length ∧ ∀ (i : Nat), i < (voidL { r := r, c := c, E := E, n := n : CP }).length → (voidL { r := r, c := c, E := E, n := n : CP }).getD i (0 : Int) = (voidL { r := r, c := c, E := E, n := n : CP }).getD i (0 : Int) ∧ True) ∧ ((voidL { r := r, c := { number := c.1, src := c.2, dst := c.3, holder := c.4, asked := IntKind.i64.wrap (c.5 + pickN p.2 (1000000 : Int)), backed := c.6 : Clm }, E := q.2, n := q.1 : CP }).length = (voidL { r := r, c := { number := c.1, src := c.2, dst := c.3, holder := c.4, asked := IntKind.i64.wrap (c.5 + pickN p.2 (1000000 : Int)), backed := c.6 : Clm }, E := q.2, n := q.1 : CP }).length ∧ ∀ (i : Nat), i < (voidL { r := r, c := { number := c.1, src := c.2, dst := c.3, holder := c.4, asked := IntKind.i64.wrap (c.5 + pickN p.2 (1000000 : Int)), backed := c.6 : Clm }, E := q.2, n := q.1 : CP }).length → (voidL { r := r, c := { number := c.1, src := c.2, dst := c.3, holder := c.4, asked := IntKind.i64.wrap (c.5 + pickN p.2 (1000000 : Int)), backed := c.6 : Clm }, E := q.2, n := q.1 : CP }).getD i (0 : Int) = (voidL { r := r, c := { number := c.1, src := c.2, dst := c.3, holder := c.4, asked := IntKind.i64.wrap (c.5 + pickN p.2 (1000000 : Int)), backed := c.6 : Clm }, E := q.2, n := q.1 : CP }).getD i (0 : Int) ∧ True) ∧ True
theorem moves_t8_t (p : TX) (r : Rul) (c : Clm) (E : Nat → Evt) (n : Nat) (q : MvD) : moves_t8 p r c E n q :=
  ⟨rfl, ⟨⟨⟨rfl, rfl⟩, ⟨⟨rfl, rfl⟩, trivial⟩⟩, ⟨⟨rfl, (fun _ => (fun _ => ⟨rfl, trivial⟩))⟩, ⟨⟨rfl, (fun _ => (fun _ => ⟨rfl, trivial⟩))⟩, trivial⟩⟩⟩⟩
def moves_t9 (p : TX) (r : Rul) (c : Clm) (E : Nat → Evt) (n : Nat) (q : MvD) : Prop :=
  (11 : Nat) = (11 : Nat) ∧ True ∧ (pickN p.2 (1000000 : Int) = pickN p.2 (1000000 : Int) ∧ true = true ∧ (lineL { r := r, c := c, E := E, n := n : CP }).length = (lineL { r := r, c := c, E := E, n := n : CP }).length ∧ (lineL { r := r, c := { number := c.1, src := c.2, dst := c.3, holder := c.4, asked := IntKind.i64.wrap (c.5 + pickN p.2 (1000000 : Int)), backed := c.6 : Clm }, E := q.2, n := q.1 : CP }).length = (lineL { r := r, c := { number := c.1, src := c.2, dst := c.3, holder := c.4, asked := IntKind.i64.wrap (c.5 + pickN p.2 (1000000 : Int)), backed := c.6 : Clm }, E := q.2, n := q.1 : CP }).length ∧ (0 : Int) = (0 : Int) ∧ True) ∧ ((lineL { r := r, c := c, E := E, n := n : CP }).length = (lineL { r := r, c := c, E := E, n := n : CP }).length ∧ ∀ (i : Nat), i < (lineL { r := r, c := c, E := E, n := n : CP }).length → ((lineL { r := r, c := c, E := E, n := n : CP }).getD i { state := (0 : Int), since := (0 : Int), next := (0 : Int) : Sta }).1 = ((lineL { r := r, c := c, E := E, n := n : CP }).getD i { state := (0 : Int), since := (0 : Int), next := (0 : Int) : Sta }).1 ∧ ((lineL { r := r, c := c, E := E, n := n : CP }).getD i { state := (0 : Int), since := (0 : Int), next := (0 : Int) : Sta }).2 = ((lineL { r := r, c := c, E := E, n := n : CP }).getD i { state := (0 : Int), since := (0 : Int), next := (0 : Int) : Sta }).2 ∧ ((lineL { r := r, c := c, E := E, n := n : CP }).getD i { state := (0 : Int), since := (0 : Int), next := (0 : Int) : Sta }).3 = ((lineL { r := r, c := c, E := E, n := n : CP }).getD i { state := (0 : Int), since := (0 : Int), next := (0 : Int) : Sta }).3 ∧ True) ∧ ((lineL { r := r, c := { number := c.1, src := c.2, dst := c.3, holder := c.4, asked := IntKind.i64.wrap (c.5 + pickN p.2 (1000000 : Int)), backed := c.6 : Clm }, E := q.2, n := q.1 : CP }).length = (lineL { r := r, c := { number := c.1, src := c.2, dst := c.3, holder := c.4, asked := IntKind.i64.wrap (c.5 + pickN p.2 (1000000 : Int)), backed := c.6 : Clm }, E := q.2, n := q.1 : CP }).length ∧ ∀ (i : Nat), i < (lineL { r := r, c := { number := c.1, src := c.2, dst := c.3, holder := c.4, asked := IntKind.i64.wrap (c.5 + pickN p.2 (1000000 : Int)), backed := c.6 : Clm }, E := q.2, n := q.1 : CP }).length → ((lineL { r := r, c := { number := c.1, src := c.2, dst := c.3, holder := c.4, asked := IntKind.i64.wrap (c.5 + pickN p.2 (1000000 : Int)), backed := c.6 : Clm }, E := q.2, n := q.1 : CP }).getD i { state := (0 : Int), since := (0 : Int), next := (0 : Int) : Sta }).1 = ((lineL { r := r, c := { number := c.1, src := c.2, dst := c.3, holder := c.4, asked := IntKind.i64.wrap (c.5 + pickN p.2 (1000000 : Int)), backed := c.6 : Clm }, E := q.2, n := q.1 : CP }).getD i { state := (0 : Int), since := (0 : Int), next := (0 : Int) : Sta }).1 ∧ ((lineL { r := r, c := { number := c.1, src := c.2, dst := c.3, holder := c.4, asked := IntKind.i64.wrap (c.5 + pickN p.2 (1000000 : Int)), backed := c.6 : Clm }, E := q.2, n := q.1 : CP }).getD i { state := (0 : Int), since := (0 : Int), next := (0 : Int) : Sta }).2 = ((lineL { r := r, c := { number := c.1, src := c.2, dst := c.3, holder := c.4, asked := IntKind.i64.wrap (c.5 + pickN p.2 (1000000 : Int)), backed := c.6 : Clm }, E := q.2, n := q.1 : CP }).getD i { state := (0 : Int), since := (0 : Int), next := (0 : Int) : Sta }).2 ∧ ((lineL { r := r, c := { number := c.1, src := c.2, dst := c.3, holder := c.4, asked := IntKind.i64.wrap (c.5 + pickN p.2 (1000000 : Int)), backed := c.6 : Clm }, E := q.2, n := q.1 : CP }).getD i { state := (0 : Int), since := (0 : Int), next := (0 : Int) : Sta }).3 = ((lineL { r := r, c := { number := c.1, src := c.2, dst := c.3, holder := c.4, asked := IntKind.i64.wrap (c.5 + pickN p.2 (1000000 : Int)), backed := c.6 : Clm }, E := q.2, n := q.1 : CP }).getD i { state := (0 : Int), since := (0 : Int), next := (0 : Int) : Sta }).3 ∧ True) ∧ True
theorem moves_t9_t (p : TX) (r : Rul) (c : Clm) (E : Nat → Evt) (n : Nat) (q : MvD) : moves_t9 p r c E n q :=
  ⟨rfl, ⟨trivial, ⟨⟨rfl, ⟨rfl, ⟨rfl, ⟨rfl, ⟨rfl, trivial⟩⟩⟩⟩⟩, ⟨⟨rfl, (fun _ => (fun _ => ⟨rfl, ⟨rfl, ⟨rfl, trivial⟩⟩⟩))⟩, ⟨⟨rfl, (fun _ => (fun _ => ⟨rfl, ⟨rfl, ⟨rfl, trivial⟩⟩⟩))⟩, trivial⟩⟩⟩⟩⟩
def moves_T (p : TX) (r : Rul) (c : Clm) (E : Nat → Evt) (n : Nat) : Prop :=
  moves_t0 ∧ moves_t1 p ∧ mEq_J p.1 r c E n ∧ ((0 : Int) < (1000000 : Int) ∧ moves_t2 p) ∧ lV1.code = lV1.code ∧ (lV1_J { r := r, c := c, d := { number := c.1, src := c.2, dst := c.3, holder := c.4, asked := IntKind.i64.wrap (c.5 + pickN p.2 (1000000 : Int)), backed := c.6 : Clm }, E := E, n := n, by' := pickN p.2 (1000000 : Int) : MvP } { i := (0 : Nat), F := fun (x : Nat) => { kind := (0 : Int), at' := (0 : Int), reason := (0 : Int) : Evt } : MvD } ∧ moves_t3 p r c E n) ∧ True ∧ ∀ (q : MvD), Leaf (q.i = n ∧ ∀ (j : Nat), j < n → q.F j = mvE (pickN p.2 (1000000 : Int)) (E j)) → moves_t4 r c E n ∧ moves_t5 p r c q ∧ moves_t4 r c E n ∧ moves_t5 p r c q ∧ moves_t6 r c ∧ moves_t7 p r c ∧ ifB ((errOf { r := r, c := c, E := E, n := n : CP } != (0 : Int)) == false) (ifB ((errOf { r := r, c := { number := c.1, src := c.2, dst := c.3, holder := c.4, asked := IntKind.i64.wrap (c.5 + pickN p.2 (1000000 : Int)), backed := c.6 : Clm }, E := q.2, n := q.1 : CP } != (0 : Int)) == false) (ifB ((errOf { r := r, c := c, E := E, n := n : CP } != (0 : Int)) == false) (ifB ((errOf { r := r, c := { number := c.1, src := c.2, dst := c.3, holder := c.4, asked := IntKind.i64.wrap (c.5 + pickN p.2 (1000000 : Int)), backed := c.6 : Clm }, E := q.2, n := q.1 : CP } != (0 : Int)) == false) (ifB ((endsErr { r := r, c := c : RC } != (0 : Int)) == false) (ifB ((endsErr { r := r, c := { number := c.1, src := c.2, dst := c.3, holder := c.4, asked := IntKind.i64.wrap (c.5 + pickN p.2 (1000000 : Int)), backed := c.6 : Clm } : RC } != (0 : Int)) == false) (ifB ((Int.ofNat (lineL { r := r, c := c, E := E, n := n : CP }).length != Int.ofNat (lineL { r := r, c := { number := c.1, src := c.2, dst := c.3, holder := c.4, asked := IntKind.i64.wrap (c.5 + pickN p.2 (1000000 : Int)), backed := c.6 : Clm }, E := q.2, n := q.1 : CP }).length) == false) ((((voidL { r := r, c := c, E := E, n := n : CP }).length ≤ (100000000 : Nat) ∧ (voidL { r := r, c := { number := c.1, src := c.2, dst := c.3, holder := c.4, asked := IntKind.i64.wrap (c.5 + pickN p.2 (1000000 : Int)), backed := c.6 : Clm }, E := q.2, n := q.1 : CP }).length ≤ (100000000 : Nat)) ∧ moves_t8 p r c E n q) ∧ ifB ((!sameL BEq.beq { n := (voidL { r := r, c := c, E := E, n := n : CP }).length, V := fun (i : Nat) => (voidL { r := r, c := c, E := E, n := n : CP }).getD i (0 : Int), m := (voidL { r := r, c := { number := c.1, src := c.2, dst := c.3, holder := c.4, asked := IntKind.i64.wrap (c.5 + pickN p.2 (1000000 : Int)), backed := c.6 : Clm }, E := q.2, n := q.1 : CP }).length, W := fun (i : Nat) => (voidL { r := r, c := { number := c.1, src := c.2, dst := c.3, holder := c.4, asked := IntKind.i64.wrap (c.5 + pickN p.2 (1000000 : Int)), backed := c.6 : Clm }, E := q.2, n := q.1 : CP }).getD i (0 : Int) : SL2 Int }) == false) (ifB (ends { r := r, c := { number := c.1, src := c.2, dst := c.3, holder := c.4, asked := IntKind.i64.wrap (c.5 + pickN p.2 (1000000 : Int)), backed := c.6 : Clm } : RC } != IntKind.i64.wrap (ends { r := r, c := c : RC } + pickN p.2 (1000000 : Int))) (true = false ∧ True) (lV2.code = lV2.code ∧ (lV2_J { n := (lineL { r := r, c := c, E := E, n := n : CP }).length, V := fun (i : Nat) => (lineL { r := r, c := c, E := E, n := n : CP }).getD i { state := (0 : Int), since := (0 : Int), next := (0 : Int) : Sta }, m := (lineL { r := r, c := { number := c.1, src := c.2, dst := c.3, holder := c.4, asked := IntKind.i64.wrap (c.5 + pickN p.2 (1000000 : Int)), backed := c.6 : Clm }, E := q.2, n := q.1 : CP }).length, W := fun (i : Nat) => (lineL { r := r, c := { number := c.1, src := c.2, dst := c.3, holder := c.4, asked := IntKind.i64.wrap (c.5 + pickN p.2 (1000000 : Int)), backed := c.6 : Clm }, E := q.2, n := q.1 : CP }).getD i { state := (0 : Int), since := (0 : Int), next := (0 : Int) : Sta }, by' := pickN p.2 (1000000 : Int) : V2P } (0 : Nat) ∧ moves_t9 p r c E n q) ∧ True ∧ ∀ (q_1 : Nat), Leaf True → true = true ∧ True)) (true = false ∧ True)) (true = false ∧ True)) (true = false ∧ True)) (true = false ∧ True)) (true = false ∧ True)) (true = false ∧ True)) (true = false ∧ True)) (true = false ∧ True)
theorem moves_eq (p : TX) (r : Rul) (c : Clm) (E : Nat → Evt) (n : Nat) : callBy (XMv r c E n) (exec (XMv r c E n) 100) 8 (sMoves.A p) (sMoves.H p) (RetC (sMoves.H p).length (sMoves.R p) (sMoves.O p)) = moves_T p r c E n := by kernel_rfl

theorem made_hi {x : NP} (h : x.fits) : ∀ i, i < mN x → (mE x i).at' ≤ 1000000 := by
  intro i hi
  have hc := mC_ok h
  cases hm : madeE (mR x) (mC x) x.Z (mN x) with
  | mk E last =>
    obtain ⟨g1, g2, g3⟩ := madeE_good (n := x.n) (fun i hi => ⟨(h.Z i hi).1, (h.Z i hi).2.1, (h.Z i hi).2.2⟩) (mR_small h) hc (mN x) (Nat.min_le_left _ _) (Nat.min_le_right _ _) E last hm
    have hE : mE x = E := by rw [mE, hm]
    have h10 : mN x ≤ 10 := Nat.min_le_right _ _
    rw [hE]
    have hev := ((CP.ok_iff _).1 g1.ok).2.2.2
    obtain ⟨k, hk⟩ : ∃ k, mN x = k + 1 := ⟨mN x - 1, by omega⟩
    have hmo := at_mono hev (k := i) (k - i) (by show i + (k - i) < mN x; omega)
    rw [show i + (k - i) = k by omega] at hmo
    have hl : last = (E k).at' := by rw [g2, hk]; rfl
    have hmo : (E i).at' ≤ (E k).at' := hmo
    omega
theorem sameL_refl {L M : List Int} (h : M = L) : sameL BEq.beq (⟨L.length, fun i => L.getD i 0, M.length, fun i => M.getD i 0⟩ : SL2 Int) = true := by
  subst h
  simp [sameL]
theorem voids_len (r : Rul) (c : Clm) (E : Nat → Evt) (a : Sta) : ∀ i, (voids r c E a i).length ≤ i
  | 0 => Nat.le_refl _
  | i + 1 => by
    have := voids_len r c E a i
    simp only [voids, List.length_append]
    split <;> simp only [List.length_cons, List.length_nil] <;> omega
theorem mvS_of {r : Rul} (hr : r.small) {s : Sta} (h : s.fine r) {b : Int} (hb : 0 ≤ b ∧ b ≤ 1000000) : mvS b s (s.mv b) := by
  obtain ⟨r1, r2, r3, r4⟩ := hr
  obtain ⟨f1, f2, f3, f4⟩ := h
  have hn : s.next = -1 ∨ (0 ≤ s.next ∧ s.next ≤ 40000000) := by
    rw [f4]
    repeat' split
    all_goals omega
  refine ⟨rfl, (show s.since + b = w64 (s.since + b) from (w64_small (by omega) (by omega)).symm), fun h0 => ?_, fun h0 => ?_⟩
  · show (if 0 ≤ s.next then s.next + b else s.next) = _
    rw [if_pos h0]; exact (w64_small (by omega) (by omega)).symm
  · show (if 0 ≤ s.next then s.next + b else s.next) = -1
    rw [if_neg h0]; omega
set_option maxHeartbeats 4000000 in
theorem moves_step (p : TX) (hJ : sMoves.J p) : moves_T p (mR p.x) (mC p.x) (mE p.x) (mN p.x) := by
  obtain ⟨hx, ht⟩ := hJ
  obtain ⟨hg, hn, ha⟩ := made_good hx
  have hhi := made_hi hx
  have hm : mEq_J p.x (mR p.x) (mC p.x) (mE p.x) (mN p.x) := ⟨rfl, rfl, rfl, rfl⟩
  have hask := (mC_ok hx).2
  have hcok := (mC_ok hx).1
  generalize mR p.x = r at hg hm ⊢
  generalize mC p.x = c at hg hm ha hask hcok ⊢
  generalize mE p.x = E at hg hm hhi ⊢
  generalize mN p.x = n at hg hm hn hhi ⊢
  have hb := pickN_b ht (n := 1000000) (by omega)
  have w1 : IntKind.i64.wrap (c.asked + pickN p.t 1000000) = c.asked + pickN p.t 1000000 := w64_small (by omega) (by omega)
  have hd : ∃ d : Clm, d = ⟨c.number, c.src, c.dst, c.holder, c.asked + pickN p.t 1000000, c.backed⟩ := ⟨_, rfl⟩
  obtain ⟨d, hd⟩ := hd
  have hdok : d.ok = true := by
    rw [hd]
    simp only [Clm.ok, inB, Bool.and_eq_true, decide_eq_true_eq, Bool.not_eq_true', decide_eq_false_iff_not] at hcok ⊢
    omega
  have hmv : ∀ F : Nat → Evt, (∀ j, j < n → F j = mvE (pickN p.t 1000000) (E j)) → Moved r c d E F n (pickN p.t 1000000) := fun F hF => by
    refine ⟨hg, ⟨by omega, by omega⟩, ⟨by omega, by rw [hd]⟩, by rw [hd], fun j hj => ?_, hhi⟩
    rw [hF j hj]
    have h1 := hhi j hj
    have h2 := hg.ev hj
    have h3 := hg.last j (by omega)
    exact ⟨rfl, w64_small (by omega) (by omega), rfl⟩
  obtain ⟨e1, e2⟩ := hg.ends
  have e3 : errOf ⟨r, c, E, n⟩ = 0 := by simp only [errOf, hg.ok]
  unfold moves_T
  simp only [w1, ← hd]
  repeat' (first | with_reducible refine And.intro ?_ ?_ | with_reducible refine fun (q : MvD) hq => ?_)
  all_goals try first | with_reducible exact moves_t0_t | with_reducible exact moves_t1_t _ | with_reducible exact moves_t2_t _ | with_reducible exact moves_t3_t _ _ _ _ _ | with_reducible exact moves_t4_t _ _ _ _ | with_reducible exact moves_t5_t _ _ _ _ | with_reducible exact moves_t6_t _ _ | with_reducible exact moves_t7_t _ _ _ | with_reducible exact moves_t8_t _ _ _ _ _ _ | with_reducible exact moves_t9_t _ _ _ _ _ _ | with_reducible rfl | with_reducible exact trivial | with_reducible exact List.Perm.refl _ | decide
  · exact hm
  · exact ⟨Nat.zero_le _, hn, fun j hj => absurd hj (Nat.not_lt_zero j)⟩
  · obtain ⟨qi, hq⟩ := hq
    have M := hmv q.F hq
    obtain ⟨L1, L2, L3⟩ := M.lists hdok
    have g2 := M.good2 hdok
    obtain ⟨e4, e5⟩ := g2.ends
    have e6 : errOf ⟨r, d, q.F, n⟩ = 0 := by simp only [errOf, g2.ok]
    have hda : d.asked = c.asked + pickN p.t 1000000 := by rw [hd]
    obtain ⟨r1, r2, r3, r4⟩ := hg.small
    have w2 : IntKind.i64.wrap (c.asked + r.answer - 1 + r.settle + r.cooling + r.reverse + pickN p.t 1000000) = c.asked + r.answer - 1 + r.settle + r.cooling + r.reverse + pickN p.t 1000000 := w64_small (by omega) (by omega)
    have v1 : (voidL ⟨r, c, E, n⟩).length ≤ 100000000 := by
      have := voids_len r c E (begins r 1 c.asked) n
      simp only [voidL, hg.ok]; omega
    have l1 : (lineL ⟨r, c, E, n⟩).length ≤ 1000 := by
      have h1 := line_len r c E (begins r 1 c.asked) n
      have h2 := aloneL_len r 4611686018427387904 4 (runN r c E (begins r 1 c.asked) n)
      simp only [lineL, hg.ok, List.length_append]; omega
    have hsl := sameL_refl L2
    rw [qi]
    simp only [e1, e2, e3, e4, e5, e6, L1, List.length_map, hda, w2, hsl]
    repeat' (first | with_reducible refine ifB_split (fun _ => ?_) (fun _ => ?_) | with_reducible refine And.intro ?_ ?_ | with_reducible refine fun (q : Nat) (hq : Leaf True) => ?_)
    all_goals try first | with_reducible exact moves_t0_t | with_reducible exact moves_t1_t _ | with_reducible exact moves_t2_t _ | with_reducible exact moves_t3_t _ _ _ _ _ | with_reducible exact moves_t4_t _ _ _ _ | with_reducible exact moves_t5_t _ _ _ _ | with_reducible exact moves_t6_t _ _ | with_reducible exact moves_t7_t _ _ _ | with_reducible exact moves_t8_t _ _ _ _ _ _ | with_reducible exact moves_t9_t _ _ _ _ _ _ | with_reducible rfl | with_reducible exact trivial | with_reducible exact List.Perm.refl _ | decide
    all_goals first
      | exact v1
      | (rw [L2]; exact v1)
      | (refine ⟨Nat.zero_le _, rfl, l1, fun j hj => ?_⟩
         have hj' : j < (lineL ⟨r, c, E, n⟩).length := hj
         show mvS _ ((lineL ⟨r, c, E, n⟩).getD j _) (((lineL ⟨r, c, E, n⟩).map (Sta.mv (pickN p.t 1000000))).getD j _)
         have h1 : (lineL ⟨r, c, E, n⟩)[j]? = some ((lineL ⟨r, c, E, n⟩)[j]) := List.getElem?_eq_getElem hj'
         simp only [List.getD, List.getElem?_map, h1, Option.map_some, Option.getD_some]
         exact mvS_of hg.small (L3 _ (List.getElem_mem hj')) ⟨by omega, by omega⟩)
      | (simp at *; done)
      | (simp at *; omega)
      | trace_state
theorem moves_ok : sMoves.OK Try.prog 8 := lawX XMv XMv_ok (fun _ _ _ _ => rfl) 100 moves_T moves_eq (fun _ => rfl) (fun _ => rfl) (fun p => p.x) moves_step
end Go.Proofs.Ytmcidfecepknpaa

namespace Go.Proofs.Ytmcidfecepknpaa
open Go Go.Sh Go.Proofs
set_option linter.unusedVariables false
set_option linter.unusedSimpArgs false
def later_t0 : Prop :=
  True ∧ (0 : Nat) = (0 : Nat) ∧ True ∧ True
theorem later_t0_t : later_t0 :=
  ⟨trivial, ⟨rfl, ⟨trivial, trivial⟩⟩⟩
def later_t1 (p : TX) : Prop :=
  (1 : Nat) = (1 : Nat) ∧ ((p.1.1.1 = p.1.1.1 ∧ p.1.1.2 = p.1.1.2 ∧ p.1.1.3 = p.1.1.3 ∧ p.1.1.4 = p.1.1.4 ∧ p.1.2 = p.1.2 ∧ p.1.3 = p.1.3 ∧ p.1.4 = p.1.4 ∧ p.1.5 = p.1.5 ∧ p.1.6 = p.1.6 ∧ p.1.7 = p.1.7 ∧ ((0 : Nat) = (0 : Nat) ∧ p.1.9 = p.1.9) ∧ True) ∧ True) ∧ (p.1.9 = p.1.9 ∧ ∀ (i : Nat), i < p.1.n → (p.1.8 i).1 = (p.1.8 i).1 ∧ (p.1.8 i).2 = (p.1.8 i).2 ∧ (p.1.8 i).3 = (p.1.8 i).3 ∧ True) ∧ True
theorem later_t1_t (p : TX) : later_t1 p :=
  ⟨rfl, ⟨⟨⟨rfl, ⟨rfl, ⟨rfl, ⟨rfl, ⟨rfl, ⟨rfl, ⟨rfl, ⟨rfl, ⟨rfl, ⟨rfl, ⟨⟨rfl, rfl⟩, trivial⟩⟩⟩⟩⟩⟩⟩⟩⟩⟩⟩, trivial⟩, ⟨⟨rfl, (fun _ => (fun _ => ⟨rfl, ⟨rfl, ⟨rfl, trivial⟩⟩⟩))⟩, trivial⟩⟩⟩
def later_t2 (p : TX) : Prop :=
  (0 : Nat) = (0 : Nat) ∧ (p.2 = p.2 ∧ (80 : Int) = (80 : Int) ∧ True) ∧ True
theorem later_t2_t (p : TX) : later_t2 p :=
  ⟨rfl, ⟨⟨rfl, ⟨rfl, trivial⟩⟩, trivial⟩⟩
def later_t3 (p : TX) (r : Rul) (c : Clm) (E : Nat → Evt) (n : Nat) : Prop :=
  (5 : Nat) = (5 : Nat) ∧ True ∧ (((if (0 : Int) > IntKind.i64.wrap (IntKind.i64.wrap (c.5 + pickN p.2 (80 : Int)) - (1 : Int)) then (0 : Int) else IntKind.i64.wrap (IntKind.i64.wrap (c.5 + pickN p.2 (80 : Int)) - (1 : Int))) = if (0 : Int) > IntKind.i64.wrap (IntKind.i64.wrap (c.5 + pickN p.2 (80 : Int)) - (1 : Int)) then (0 : Int) else IntKind.i64.wrap (IntKind.i64.wrap (c.5 + pickN p.2 (80 : Int)) - (1 : Int))) ∧ true = true ∧ ((0 : Nat) = (0 : Nat) ∧ (0 : Nat) = (0 : Nat)) ∧ ((0 : Nat) = (0 : Nat) ∧ (0 : Nat) = (0 : Nat)) ∧ n = n ∧ (0 : Nat) = (0 : Nat) ∧ (0 : Int) = (0 : Int) ∧ True) ∧ (n = n ∧ ∀ (i : Nat), i < n → (E i).1 = (E i).1 ∧ (E i).2 = (E i).2 ∧ (E i).3 = (E i).3 ∧ True) ∧ ((1 : Nat) = (1 : Nat) ∧ ∀ (i : Nat), i < (1 : Nat) → r.1 = r.1 ∧ r.2 = r.2 ∧ r.3 = r.3 ∧ r.4 = r.4 ∧ True) ∧ ((1 : Nat) = (1 : Nat) ∧ ∀ (i : Nat), i < (1 : Nat) → c.1 = c.1 ∧ c.2 = c.2 ∧ c.3 = c.3 ∧ c.4 = c.4 ∧ c.5 = c.5 ∧ c.6 = c.6 ∧ True) ∧ (0 : Nat) = (0 : Nat) ∧ True
theorem later_t3_t (p : TX) (r : Rul) (c : Clm) (E : Nat → Evt) (n : Nat) : later_t3 p r c E n :=
  ⟨rfl, ⟨trivial, ⟨⟨rfl, ⟨rfl, ⟨⟨rfl, rfl⟩, ⟨⟨rfl, rfl⟩, ⟨rfl, ⟨rfl, ⟨rfl, trivial⟩⟩⟩⟩⟩⟩⟩, ⟨⟨rfl, (fun _ => (fun _ => ⟨rfl, ⟨rfl, ⟨rfl, trivial⟩⟩⟩))⟩, ⟨⟨rfl, (fun _ => (fun _ => ⟨rfl, ⟨rfl, ⟨rfl, ⟨rfl, trivial⟩⟩⟩⟩))⟩, ⟨⟨rfl, (fun _ => (fun _ => ⟨rfl, ⟨rfl, ⟨rfl, ⟨rfl, ⟨rfl, ⟨rfl, trivial⟩⟩⟩⟩⟩⟩))⟩, ⟨rfl, trivial⟩⟩⟩⟩⟩⟩⟩
def later_t4 (p : TX) (r : Rul) (c : Clm) (E : Nat → Evt) (n : Nat) : Prop :=
  True ∧ (1 : Nat) = (1 : Nat) ∧ ((r.1 = r.1 ∧ r.2 = r.2 ∧ r.3 = r.3 ∧ r.4 = r.4 ∧ True) ∧ (c.1 = c.1 ∧ c.2 = c.2 ∧ c.3 = c.3 ∧ c.4 = c.4 ∧ c.5 = c.5 ∧ c.6 = c.6 ∧ True) ∧ ((0 : Nat) = (0 : Nat) ∧ n = n) ∧ ((if (0 : Int) > IntKind.i64.wrap (IntKind.i64.wrap (c.5 + pickN p.2 (80 : Int)) - (1 : Int)) then (0 : Int) else IntKind.i64.wrap (IntKind.i64.wrap (c.5 + pickN p.2 (80 : Int)) - (1 : Int))) = if (0 : Int) > IntKind.i64.wrap (IntKind.i64.wrap (c.5 + pickN p.2 (80 : Int)) - (1 : Int)) then (0 : Int) else IntKind.i64.wrap (IntKind.i64.wrap (c.5 + pickN p.2 (80 : Int)) - (1 : Int))) ∧ True) ∧ (n = n ∧ ∀ (i : Nat), i < n → (E i).1 = (E i).1 ∧ (E i).2 = (E i).2 ∧ (E i).3 = (E i).3 ∧ True) ∧ True
theorem later_t4_t (p : TX) (r : Rul) (c : Clm) (E : Nat → Evt) (n : Nat) : later_t4 p r c E n :=
  ⟨trivial, ⟨rfl, ⟨⟨⟨rfl, ⟨rfl, ⟨rfl, ⟨rfl, trivial⟩⟩⟩⟩, ⟨⟨rfl, ⟨rfl, ⟨rfl, ⟨rfl, ⟨rfl, ⟨rfl, trivial⟩⟩⟩⟩⟩⟩, ⟨⟨rfl, rfl⟩, ⟨rfl, trivial⟩⟩⟩⟩, ⟨⟨rfl, (fun _ => (fun _ => ⟨rfl, ⟨rfl, ⟨rfl, trivial⟩⟩⟩))⟩, trivial⟩⟩⟩⟩
def later_t5 (p : TX) (r : Rul) (c : Clm) (q : LaD) : Prop :=
  True ∧ (1 : Nat) = (1 : Nat) ∧ ((r.1 = r.1 ∧ r.2 = r.2 ∧ r.3 = r.3 ∧ r.4 = r.4 ∧ True) ∧ (c.1 = c.1 ∧ c.2 = c.2 ∧ c.3 = c.3 ∧ c.4 = c.4 ∧ c.5 = c.5 ∧ c.6 = c.6 ∧ True) ∧ ((0 : Nat) = (0 : Nat) ∧ q.2 = q.2) ∧ ((if (0 : Int) > IntKind.i64.wrap (IntKind.i64.wrap (c.5 + pickN p.2 (80 : Int)) - (1 : Int)) then (0 : Int) else IntKind.i64.wrap (IntKind.i64.wrap (c.5 + pickN p.2 (80 : Int)) - (1 : Int))) = if (0 : Int) > IntKind.i64.wrap (IntKind.i64.wrap (c.5 + pickN p.2 (80 : Int)) - (1 : Int)) then (0 : Int) else IntKind.i64.wrap (IntKind.i64.wrap (c.5 + pickN p.2 (80 : Int)) - (1 : Int))) ∧ True) ∧ (q.2 = q.2 ∧ ∀ (i : Nat), i < q.2 → (q.3 i).1 = (q.3 i).1 ∧ (q.3 i).2 = (q.3 i).2 ∧ (q.3 i).3 = (q.3 i).3 ∧ True) ∧ True
theorem later_t5_t (p : TX) (r : Rul) (c : Clm) (q : LaD) : later_t5 p r c q :=
  ⟨trivial, ⟨rfl, ⟨⟨⟨rfl, ⟨rfl, ⟨rfl, ⟨rfl, trivial⟩⟩⟩⟩, ⟨⟨rfl, ⟨rfl, ⟨rfl, ⟨rfl, ⟨rfl, ⟨rfl, trivial⟩⟩⟩⟩⟩⟩, ⟨⟨rfl, rfl⟩, ⟨rfl, trivial⟩⟩⟩⟩, ⟨⟨rfl, (fun _ => (fun _ => ⟨rfl, ⟨rfl, ⟨rfl, trivial⟩⟩⟩))⟩, trivial⟩⟩⟩⟩
def later_t6 (r : Rul) (c : Clm) (E : Nat → Evt) (n : Nat) : Prop :=
  True ∧ (1 : Nat) = (1 : Nat) ∧ ((r.1 = r.1 ∧ r.2 = r.2 ∧ r.3 = r.3 ∧ r.4 = r.4 ∧ True) ∧ (c.1 = c.1 ∧ c.2 = c.2 ∧ c.3 = c.3 ∧ c.4 = c.4 ∧ c.5 = c.5 ∧ c.6 = c.6 ∧ True) ∧ ((0 : Nat) = (0 : Nat) ∧ n = n) ∧ True) ∧ (n = n ∧ ∀ (i : Nat), i < n → (E i).1 = (E i).1 ∧ (E i).2 = (E i).2 ∧ (E i).3 = (E i).3 ∧ True) ∧ True
theorem later_t6_t (r : Rul) (c : Clm) (E : Nat → Evt) (n : Nat) : later_t6 r c E n :=
  ⟨trivial, ⟨rfl, ⟨⟨⟨rfl, ⟨rfl, ⟨rfl, ⟨rfl, trivial⟩⟩⟩⟩, ⟨⟨rfl, ⟨rfl, ⟨rfl, ⟨rfl, ⟨rfl, ⟨rfl, trivial⟩⟩⟩⟩⟩⟩, ⟨⟨rfl, rfl⟩, trivial⟩⟩⟩, ⟨⟨rfl, (fun _ => (fun _ => ⟨rfl, ⟨rfl, ⟨rfl, trivial⟩⟩⟩))⟩, trivial⟩⟩⟩⟩
def later_t7 (r : Rul) (c : Clm) (E : Nat → Evt) (n : Nat) : Prop :=
  (9 : Nat) = (9 : Nat) ∧ True ∧ (((0 : Nat) = (0 : Nat) ∧ (0 : Nat) = (0 : Nat)) ∧ ((0 : Nat) = (0 : Nat) ∧ (0 : Nat) = (0 : Nat)) ∧ n = n ∧ (voidL { r := r, c := c, E := E, n := n : CP }).length = (voidL { r := r, c := c, E := E, n := n : CP }).length ∧ (0 : Nat) = (0 : Nat) ∧ (0 : Int) = (0 : Int) ∧ (0 : Int) = (0 : Int) ∧ True) ∧ (n = n ∧ ∀ (i : Nat), i < n → (E i).1 = (E i).1 ∧ (E i).2 = (E i).2 ∧ (E i).3 = (E i).3 ∧ True) ∧ ((1 : Nat) = (1 : Nat) ∧ ∀ (i : Nat), i < (1 : Nat) → r.1 = r.1 ∧ r.2 = r.2 ∧ r.3 = r.3 ∧ r.4 = r.4 ∧ True) ∧ ((1 : Nat) = (1 : Nat) ∧ ∀ (i : Nat), i < (1 : Nat) → c.1 = c.1 ∧ c.2 = c.2 ∧ c.3 = c.3 ∧ c.4 = c.4 ∧ c.5 = c.5 ∧ c.6 = c.6 ∧ True) ∧ ((voidL { r := r, c := c, E := E, n := n : CP }).length = (voidL { r := r, c := c, E := E, n := n : CP }).length ∧ ∀ (i : Nat), i < (voidL { r := r, c := c, E := E, n := n : CP }).length → (voidL { r := r, c := c, E := E, n := n : CP }).getD i (0 : Int) = (voidL { r := r, c := c, E := E, n := n : CP }).getD i (0 : Int) ∧ True) ∧ (0 : Nat) = (0 : Nat) ∧ True
theorem later_t7_t (r : Rul) (c : Clm) (E : Nat → Evt) (n : Nat) : later_t7 r c E n :=
  ⟨rfl, ⟨trivial, ⟨⟨⟨rfl, rfl⟩, ⟨⟨rfl, rfl⟩, ⟨rfl, ⟨rfl, ⟨rfl, ⟨rfl, ⟨rfl, trivial⟩⟩⟩⟩⟩⟩⟩, ⟨⟨rfl, (fun _ => (fun _ => ⟨rfl, ⟨rfl, ⟨rfl, trivial⟩⟩⟩))⟩, ⟨⟨rfl, (fun _ => (fun _ => ⟨rfl, ⟨rfl, ⟨rfl, ⟨rfl, trivial⟩⟩⟩⟩))⟩, ⟨⟨rfl, (fun _ => (fun _ => ⟨rfl, ⟨rfl, ⟨rfl, ⟨rfl, ⟨rfl, ⟨rfl, trivial⟩⟩⟩⟩⟩⟩))⟩, ⟨⟨rfl, (fun _ => (fun _ => ⟨rfl, trivial⟩))⟩, ⟨rfl, trivial⟩⟩⟩⟩⟩⟩⟩⟩
def later_t8 (r : Rul) (c : Clm) (q : LbD) : Prop :=
  True ∧ (1 : Nat) = (1 : Nat) ∧ ((r.1 = r.1 ∧ r.2 = r.2 ∧ r.3 = r.3 ∧ r.4 = r.4 ∧ True) ∧ (c.1 = c.1 ∧ c.2 = c.2 ∧ c.3 = c.3 ∧ c.4 = c.4 ∧ c.5 = c.5 ∧ c.6 = c.6 ∧ True) ∧ ((0 : Nat) = (0 : Nat) ∧ q.3 = q.3) ∧ True) ∧ (q.3 = q.3 ∧ ∀ (i : Nat), i < q.3 → (q.4 i).1 = (q.4 i).1 ∧ (q.4 i).2 = (q.4 i).2 ∧ (q.4 i).3 = (q.4 i).3 ∧ True) ∧ True
theorem later_t8_t (r : Rul) (c : Clm) (q : LbD) : later_t8 r c q :=
  ⟨trivial, ⟨rfl, ⟨⟨⟨rfl, ⟨rfl, ⟨rfl, ⟨rfl, trivial⟩⟩⟩⟩, ⟨⟨rfl, ⟨rfl, ⟨rfl, ⟨rfl, ⟨rfl, ⟨rfl, trivial⟩⟩⟩⟩⟩⟩, ⟨⟨rfl, rfl⟩, trivial⟩⟩⟩, ⟨⟨rfl, (fun _ => (fun _ => ⟨rfl, ⟨rfl, ⟨rfl, trivial⟩⟩⟩))⟩, trivial⟩⟩⟩⟩
def later_t9 (r : Rul) (c : Clm) (E : Nat → Evt) (n : Nat) (q : LbD) : Prop :=
  (2 : Nat) = (2 : Nat) ∧ (((0 : Nat) = (0 : Nat) ∧ (lineL { r := r, c := c, E := E, n := n : CP }).length = (lineL { r := r, c := c, E := E, n := n : CP }).length) ∧ ((0 : Nat) = (0 : Nat) ∧ (lineL { r := r, c := c, E := q.4, n := q.3 : CP }).length = (lineL { r := r, c := c, E := q.4, n := q.3 : CP }).length) ∧ True) ∧ ((lineL { r := r, c := c, E := E, n := n : CP }).length = (lineL { r := r, c := c, E := E, n := n : CP }).length ∧ ∀ (i : Nat), i < (lineL { r := r, c := c, E := E, n := n : CP }).length → ((lineL { r := r, c := c, E := E, n := n : CP }).getD i { state := (0 : Int), since := (0 : Int), next := (0 : Int) : Sta }).1 = ((lineL { r := r, c := c, E := E, n := n : CP }).getD i { state := (0 : Int), since := (0 : Int), next := (0 : Int) : Sta }).1 ∧ ((lineL { r := r, c := c, E := E, n := n : CP }).getD i { state := (0 : Int), since := (0 : Int), next := (0 : Int) : Sta }).2 = ((lineL { r := r, c := c, E := E, n := n : CP }).getD i { state := (0 : Int), since := (0 : Int), next := (0 : Int) : Sta }).2 ∧ ((lineL { r := r, c := c, E := E, n := n : CP }).getD i { state := (0 : Int), since := (0 : Int), next := (0 : Int) : Sta }).3 = ((lineL { r := r, c := c, E := E, n := n : CP }).getD i { state := (0 : Int), since := (0 : Int), next := (0 : Int) : Sta }).3 ∧ True) ∧ ((lineL { r := r, c := c, E := q.4, n := q.3 : CP }).length = (lineL { r := r, c := c, E := q.4, n := q.3 : CP }).length ∧ ∀ (i : Nat), i < (lineL { r := r, c := c, E := q.4, n := q.3 : CP }).length → ((lineL { r := r, c := c, E := q.4, n := q.3 : CP }).getD i { state := (0 : Int), since := (0 : Int), next := (0 : Int) : Sta }).1 = ((lineL { r := r, c := c, E := q.4, n := q.3 : CP }).getD i { state := (0 : Int), since := (0 : Int), next := (0 : Int) : Sta }).1 ∧ ((lineL { r := r, c := c, E := q.4, n := q.3 : CP }).getD i { state := (0 : Int), since := (0 : Int), next := (0 : Int) : Sta }).2 = ((lineL { r := r, c := c, E := q.4, n := q.3 : CP }).getD i { state := (0 : Int), since := (0 : Int), next := (0 : Int) : Sta }).2 ∧ ((lineL { r := r, c := c, E := q.4, n := q.3 : CP }).getD i { state := (0 : Int), since := (0 : Int), next := (0 : Int) : Sta }).3 = ((lineL { r := r, c := c, E := q.4, n := q.3 : CP }).getD i { state := (0 : Int), since := (0 : Int), next := (0 : Int) : Sta }).3 ∧ True) ∧ True
theorem later_t9_t (r : Rul) (c : Clm) (E : Nat → Evt) (n : Nat) (q : LbD) : later_t9 r c E n q :=
  ⟨rfl, ⟨⟨⟨rfl, rfl⟩, ⟨⟨rfl, rfl⟩, trivial⟩⟩, ⟨⟨rfl, (fun _ => (fun _ => ⟨rfl, ⟨rfl, ⟨rfl, trivial⟩⟩⟩))⟩, ⟨⟨rfl, (fun _ => (fun _ => ⟨rfl, ⟨rfl, ⟨rfl, trivial⟩⟩⟩))⟩, trivial⟩⟩⟩⟩
def later_T (p : TX) (r : Rul) (c : Clm) (E : Nat → Evt) (n : Nat) : Prop :=
  later_t0 ∧ later_t1 p ∧ mEq_J p.1 r c E n ∧ ((0 : Int) < (80 : Int) ∧ later_t2 p) ∧ lL1.code = lL1.code ∧ (lL1_J { r := r, c := c, E := E, n := n, t := if (0 : Int) > IntKind.i64.wrap (IntKind.i64.wrap (c.5 + pickN p.2 (80 : Int)) - (1 : Int)) then (0 : Int) else IntKind.i64.wrap (IntKind.i64.wrap (c.5 + pickN p.2 (80 : Int)) - (1 : Int)) : LaP } { i := (0 : Nat), k := (0 : Nat), F := fun (x : Nat) => { kind := (0 : Int), at' := (0 : Int), reason := (0 : Int) : Evt } : LaD } ∧ later_t3 p r c E n) ∧ True ∧ ∀ (q : LaD), Leaf (q.k = stopN E (if (0 : Int) > IntKind.i64.wrap (IntKind.i64.wrap (c.5 + pickN p.2 (80 : Int)) - (1 : Int)) then (0 : Int) else IntKind.i64.wrap (IntKind.i64.wrap (c.5 + pickN p.2 (80 : Int)) - (1 : Int))) n ∧ ∀ (j : Nat), j < q.k → q.F j = E j) → later_t4 p r c E n ∧ later_t5 p r c q ∧ later_t6 r c E n ∧ ifB ((outErr { r := r, c := c, E := E, n := n, t := if (0 : Int) > IntKind.i64.wrap (IntKind.i64.wrap (c.5 + pickN p.2 (80 : Int)) - (1 : Int)) then (0 : Int) else IntKind.i64.wrap (IntKind.i64.wrap (c.5 + pickN p.2 (80 : Int)) - (1 : Int)) : OP } != (0 : Int)) == false) (ifB ((outErr { r := r, c := c, E := q.3, n := q.2, t := if (0 : Int) > IntKind.i64.wrap (IntKind.i64.wrap (c.5 + pickN p.2 (80 : Int)) - (1 : Int)) then (0 : Int) else IntKind.i64.wrap (IntKind.i64.wrap (c.5 + pickN p.2 (80 : Int)) - (1 : Int)) : OP } != (0 : Int)) == false) (ifB ((errOf { r := r, c := c, E := E, n := n : CP } != (0 : Int)) == false) (ifB (!((outcome { r := r, c := c, E := E, n := n, t := if (0 : Int) > IntKind.i64.wrap (IntKind.i64.wrap (c.5 + pickN p.2 (80 : Int)) - (1 : Int)) then (0 : Int) else IntKind.i64.wrap (IntKind.i64.wrap (c.5 + pickN p.2 (80 : Int)) - (1 : Int)) : OP }).1 == (outcome { r := r, c := c, E := q.3, n := q.2, t := if (0 : Int) > IntKind.i64.wrap (IntKind.i64.wrap (c.5 + pickN p.2 (80 : Int)) - (1 : Int)) then (0 : Int) else IntKind.i64.wrap (IntKind.i64.wrap (c.5 + pickN p.2 (80 : Int)) - (1 : Int)) : OP }).1 && ((outcome { r := r, c := c, E := E, n := n, t := if (0 : Int) > IntKind.i64.wrap (IntKind.i64.wrap (c.5 + pickN p.2 (80 : Int)) - (1 : Int)) then (0 : Int) else IntKind.i64.wrap (IntKind.i64.wrap (c.5 + pickN p.2 (80 : Int)) - (1 : Int)) : OP }).2 == (outcome { r := r, c := c, E := q.3, n := q.2, t := if (0 : Int) > IntKind.i64.wrap (IntKind.i64.wrap (c.5 + pickN p.2 (80 : Int)) - (1 : Int)) then (0 : Int) else IntKind.i64.wrap (IntKind.i64.wrap (c.5 + pickN p.2 (80 : Int)) - (1 : Int)) : OP }).2 && ((outcome { r := r, c := c, E := E, n := n, t := if (0 : Int) > IntKind.i64.wrap (IntKind.i64.wrap (c.5 + pickN p.2 (80 : Int)) - (1 : Int)) then (0 : Int) else IntKind.i64.wrap (IntKind.i64.wrap (c.5 + pickN p.2 (80 : Int)) - (1 : Int)) : OP }).3 == (outcome { r := r, c := c, E := q.3, n := q.2, t := if (0 : Int) > IntKind.i64.wrap (IntKind.i64.wrap (c.5 + pickN p.2 (80 : Int)) - (1 : Int)) then (0 : Int) else IntKind.i64.wrap (IntKind.i64.wrap (c.5 + pickN p.2 (80 : Int)) - (1 : Int)) : OP }).3 && true)))) (true = false ∧ True) (lL2.code = lL2.code ∧ (lL2_J { r := r, c := c, E := E, n := n, vn := (voidL { r := r, c := c, E := E, n := n : CP }).length, V := fun (i : Nat) => (voidL { r := r, c := c, E := E, n := n : CP }).getD i (0 : Int) : LbP } { i := (0 : Nat), k := (0 : Int), m := (0 : Nat), F := fun (x : Nat) => { kind := (0 : Int), at' := (0 : Int), reason := (0 : Int) : Evt } : LbD } ∧ later_t7 r c E n) ∧ True ∧ ∀ (q_1 : LbD), Leaf (q_1.k = (↑(vcnt { r := r, c := c, E := E, n := n, vn := (voidL { r := r, c := c, E := E, n := n : CP }).length, V := fun (i : Nat) => (voidL { r := r, c := c, E := E, n := n : CP }).getD i (0 : Int) : LbP } n) : Int) ∧ Kept r c E n (vcnt { r := r, c := c, E := E, n := n, vn := (voidL { r := r, c := c, E := E, n := n : CP }).length, V := fun (i : Nat) => (voidL { r := r, c := c, E := E, n := n : CP }).getD i (0 : Int) : LbP } n) q_1.m q_1.F) → later_t6 r c E n ∧ later_t8 r c q_1 ∧ later_t8 r c q_1 ∧ ifB ((q_1.2 == Int.ofNat (voidL { r := r, c := c, E := E, n := n : CP }).length) == true) (ifB ((errOf { r := r, c := c, E := E, n := n : CP } == (0 : Int)) == true) (ifB ((errOf { r := r, c := c, E := q_1.4, n := q_1.3 : CP } == (0 : Int)) == true) (ifB ((errOf { r := r, c := c, E := q_1.4, n := q_1.3 : CP } == (0 : Int)) == true) (ifB ((Int.ofNat (voidL { r := r, c := c, E := q_1.4, n := q_1.3 : CP }).length == (0 : Int)) == true) ((((lineL { r := r, c := c, E := E, n := n : CP }).length ≤ (100000000 : Nat) ∧ (lineL { r := r, c := c, E := q_1.4, n := q_1.3 : CP }).length ≤ (100000000 : Nat)) ∧ later_t9 r c E n q_1) ∧ true = sameL staEq { n := (lineL { r := r, c := c, E := E, n := n : CP }).length, V := fun (i : Nat) => (lineL { r := r, c := c, E := E, n := n : CP }).getD i { state := (0 : Int), since := (0 : Int), next := (0 : Int) : Sta }, m := (lineL { r := r, c := c, E := q_1.4, n := q_1.3 : CP }).length, W := fun (i : Nat) => (lineL { r := r, c := c, E := q_1.4, n := q_1.3 : CP }).getD i { state := (0 : Int), since := (0 : Int), next := (0 : Int) : Sta } : SL2 Sta } ∧ True) (true = false ∧ True)) (true = false ∧ True)) (true = false ∧ True)) (true = false ∧ True)) (true = false ∧ True))) (true = false ∧ True)) (true = false ∧ True)) (true = false ∧ True)
theorem later_eq (p : TX) (r : Rul) (c : Clm) (E : Nat → Evt) (n : Nat) : callBy (XLa r c E n) (exec (XLa r c E n) 100) 5 (sLater.A p) (sLater.H p) (RetC (sLater.H p).length (sLater.R p) (sLater.O p)) = later_T p r c E n := by kernel_rfl

theorem Good.upto {r : Rul} {c : Clm} {E F : Nat → Evt} {n k : Nat} (h : Good r c E n) {u : Int} (h0 : 0 ≤ u) (hb : u ≤ 20000000) (hk : k = stopN E u n) (hF : ∀ j, j < k → F j = E j) :
    outErr ⟨r, c, E, n, u⟩ = 0 ∧ outErr ⟨r, c, F, k, u⟩ = 0 ∧ outcome ⟨r, c, F, k, u⟩ = outcome ⟨r, c, E, n, u⟩ := by
  subst hk
  rcases Int.lt_or_le u c.asked with hlt | hge
  · have h1 := h.early h0 hlt
    have h2 := (h.cut (stopN_spec E u n).1 hF).early h0 hlt
    exact ⟨h1.1, h2.1, by rw [h1.2, h2.2]⟩
  · have h1 := h.first hge hb hF
    exact ⟨(h.out hge hb).1, h1.1, h1.2⟩
theorem staEq_refl (s : Sta) : staEq s s = true := by simp [staEq]
theorem sameS_refl {L M : List Sta} (h : M = L) : sameL staEq (⟨L.length, fun i => L.getD i ⟨0, 0, 0⟩, M.length, fun i => M.getD i ⟨0, 0, 0⟩⟩ : SL2 Sta) = true := by
  subst h
  simp [sameL, staEq_refl]
theorem Good.line_le {r : Rul} {c : Clm} {E : Nat → Evt} {n : Nat} (h : Good r c E n) (hn : n ≤ 20) : (lineL ⟨r, c, E, n⟩).length ≤ 1000 := by
  have h1 := line_len r c E (begins r 1 c.asked) n
  have h2 := aloneL_len r 4611686018427387904 4 (runN r c E (begins r 1 c.asked) n)
  simp only [lineL, h.ok, List.length_append]; omega
set_option maxHeartbeats 4000000 in
theorem later_step (p : TX) (hJ : sLater.J p) : later_T p (mR p.x) (mC p.x) (mE p.x) (mN p.x) := by
  obtain ⟨hx, ht⟩ := hJ
  obtain ⟨hg, hn, ha⟩ := made_good hx
  have hm : mEq_J p.x (mR p.x) (mC p.x) (mE p.x) (mN p.x) := ⟨rfl, rfl, rfl, rfl⟩
  have hask := (mC_ok hx).2
  generalize mR p.x = r at hg hm ⊢
  generalize mC p.x = c at hg hm ha hask ⊢
  generalize mE p.x = E at hg hm ⊢
  generalize mN p.x = n at hg hm hn ⊢
  have hb := pickN_b ht (n := 80) (by omega)
  have w1 : IntKind.i64.wrap (c.asked + pickN p.t 80) = c.asked + pickN p.t 80 := w64_small (by omega) (by omega)
  have w2 : IntKind.i64.wrap (c.asked + pickN p.t 80 - 1) = c.asked + pickN p.t 80 - 1 := w64_small (by omega) (by omega)
  have hu : ∃ u : Int, (0 ≤ u ∧ u ≤ 2000) ∧ (if (0 : Int) > c.asked + pickN p.t 80 - 1 then 0 else c.asked + pickN p.t 80 - 1) = u := ⟨_, by split <;> omega, rfl⟩
  obtain ⟨u, hu1, hu2⟩ := hu
  have e1 : errOf ⟨r, c, E, n⟩ = 0 := by simp only [errOf, hg.ok]
  unfold later_T
  simp only [w1, w2, hu2]
  repeat' (first | with_reducible refine And.intro ?_ ?_ | with_reducible refine fun (q : LaD) hq => ?_)
  all_goals try first | with_reducible exact later_t0_t | with_reducible exact later_t1_t _ | with_reducible exact later_t2_t _ | with_reducible exact later_t3_t _ _ _ _ _ | with_reducible exact later_t4_t _ _ _ _ _ | with_reducible exact later_t5_t _ _ _ _ | with_reducible exact later_t6_t _ _ _ _ | with_reducible exact later_t7_t _ _ _ _ | with_reducible exact later_t8_t _ _ _ | with_reducible exact later_t9_t _ _ _ _ _ | with_reducible rfl | with_reducible exact trivial | with_reducible exact List.Perm.refl _ | decide
  · exact hm
  · exact ⟨Nat.zero_le _, hn, hg, Nat.le_refl _, (fun j hj => absurd hj (Nat.not_lt_zero j)), (fun j hj => absurd hj (Nat.not_lt_zero j)), fun h => absurd h (Nat.lt_irrefl 0)⟩
  · obtain ⟨o1, o2, o3⟩ := hg.upto hu1.1 (by omega) hq.1 hq.2
    have hself : (!((outcome ⟨r, c, E, n, u⟩).1 == (outcome ⟨r, c, E, n, u⟩).1 && ((outcome ⟨r, c, E, n, u⟩).2 == (outcome ⟨r, c, E, n, u⟩).2 && ((outcome ⟨r, c, E, n, u⟩).3 == (outcome ⟨r, c, E, n, u⟩).3 && true)))) = false := by simp
    simp only [o1, o2, o3, e1, hself]
    repeat' (first | with_reducible refine ifB_split (fun _ => ?_) (fun _ => ?_) | with_reducible refine And.intro ?_ ?_ | with_reducible refine fun (q : LbD) hq => ?_)
    all_goals try first | with_reducible exact later_t0_t | with_reducible exact later_t1_t _ | with_reducible exact later_t2_t _ | with_reducible exact later_t3_t _ _ _ _ _ | with_reducible exact later_t4_t _ _ _ _ _ | with_reducible exact later_t5_t _ _ _ _ | with_reducible exact later_t6_t _ _ _ _ | with_reducible exact later_t7_t _ _ _ _ | with_reducible exact later_t8_t _ _ _ | with_reducible exact later_t9_t _ _ _ _ _ | with_reducible rfl | with_reducible exact trivial | with_reducible exact List.Perm.refl _ | decide
    all_goals first
      | (exfalso; simp at *; done)
      | exact ⟨Nat.zero_le _, hn, hg, ⟨rfl, fun j _ => rfl⟩, rfl, Kept.zero hg _⟩
      | (obtain ⟨k1, k2⟩ := hq
         obtain ⟨l1, l2, l3⟩ := k2.lists hg
         have hgF := k2.good hg (Nat.le_refl _)
         have e2 : errOf ⟨r, c, q.F, q.m⟩ = 0 := by simp only [errOf, hgF.ok]
         first
         | (have := hg.line_le (by omega); show _ ≤ 100000000; omega)
         | (rw [l1]; have := hg.line_le (by omega); show _ ≤ 100000000; omega)
         | exact (sameS_refl l1).symm
         | (exfalso; rw [l3] at k1; simp_all; done))
      | trace_state
theorem later_ok : sLater.OK Try.prog 5 := lawX XLa XLa_ok (fun _ _ _ _ => rfl) 100 later_T later_eq (fun _ => rfl) (fun _ => rfl) (fun p => p.x) later_step
end Go.Proofs.Ytmcidfecepknpaa

namespace Go.Proofs.Ytmcidfecepknpaa
open Go Go.Sh Go.Proofs
set_option linter.unusedVariables false

/-! ### timelines: each status follows the one before -/
def chain {α : Type} (P : α → α → Prop) : α → List α → Prop
  | _, [] => True
  | s, x :: l => P s x ∧ chain P x l
def lastS {α : Type} : α → List α → α
  | s, [] => s
  | _, x :: l => lastS x l
/-- How many begin when the one before ends. -/
def alones : Sta → List Sta → Nat
  | _, [] => 0
  | s, x :: l => (if x.since = s.next then 1 else 0) + alones x l
theorem chain_append {α : Type} {P : α → α → Prop} : ∀ {l l' : List α} {s : α}, chain P s l → chain P (lastS s l) l' → chain P s (l ++ l')
  | [], _, _, _, h => h
  | x :: l, l', s, h, h' => ⟨h.1, chain_append h.2 h'⟩
theorem lastS_append {α : Type} : ∀ (l l' : List α) (s : α), lastS s (l ++ l') = lastS (lastS s l) l'
  | [], _, _ => rfl
  | x :: l, l', s => lastS_append l l' x
theorem alones_append : ∀ (l l' : List Sta) (s : Sta), alones s (l ++ l') = alones s l + alones (lastS s l) l'
  | [], _, _ => by simp [alones, lastS]
  | x :: l, l', s => by
    show _ + alones x (l ++ l') = _ + alones x l + _
    rw [alones_append l l' x, Nat.add_assoc]; rfl
/-- What the law asks of two statuses, one after the other. -/
def linked (E : Nat → Evt) (n : Nat) (s t : Sta) : Prop := 0 ≤ s.next ∧ s.since ≤ t.since ∧ t.since ≤ s.next ∧ (t.since ≠ s.next → ∃ k, k < n ∧ (E k).at' = t.since)
def tlL (r : Rul) (c : Clm) (E : Nat → Evt) (a : Sta) : Nat → List Sta
  | 0 => []
  | i + 1 => tlL r c E a i ++ evL r c (runN r c E a i) (E i)
theorem line_tl {r : Rul} {c : Clm} {E : Nat → Evt} {a : Sta} : ∀ i, line r c E a i = a :: tlL r c E a i
  | 0 => rfl
  | i + 1 => by
    show line r c E a i ++ _ = _
    rw [line_tl i]; rfl
theorem fine_lt {r : Rul} (hr : r.small) {s : Sta} (h : s.fine r) : s.next = -1 ∨ s.since < s.next := by
  obtain ⟨a, b, c, d⟩ := h
  obtain ⟨r1, r2, r3, r4⟩ := hr
  rw [d]
  repeat' split
  all_goals omega
theorem alone_chain {r : Rul} (hr : r.small) {E : Nat → Evt} {n : Nat} {u : Int} : ∀ (m : Nat) {s : Sta}, s.fine r → dl r s ≤ 25000000 →
    chain (linked E n) s (aloneL r u m s) ∧ lastS s (aloneL r u m s) = goN r u m s ∧ alones s (aloneL r u m s) = (aloneL r u m s).length ∧ (goN r u m s).fine r ∧ dl r (goN r u m s) ≤ dl r s
  | 0, s, h, _ => ⟨trivial, rfl, rfl, h, Int.le_refl _⟩
  | m + 1, s, h, hd => by
    unfold aloneL goN
    cases hg : goesOn u s with
    | false => exact ⟨trivial, rfl, rfl, h, Int.le_refl _⟩
    | true =>
      obtain ⟨h1, h2, h3⟩ := h.goes hg
      have hn := (dl_next hr h).2
      have hs := dl_step hr h hg
      have hlt := fine_lt hr h
      have hf : (step1 r s).fine r := begins_fine hr (follow_st _ h1) h2 (by omega)
      obtain ⟨g1, g2, g3, g4, g5⟩ := alone_chain hr (E := E) (n := n) (u := u) m (s := step1 r s) hf (by omega)
      have hsi : (step1 r s).since = s.next := rfl
      refine ⟨⟨⟨h2, by rw [hsi]; omega, by rw [hsi]; exact Int.le_refl _, fun hne => absurd hsi hne⟩, g1⟩, g2, ?_, g4, by dsimp only; omega⟩
      show (if (step1 r s).since = s.next then 1 else 0) + alones (step1 r s) (aloneL r u m (step1 r s)) = (aloneL r u m (step1 r s)).length + 1
      rw [if_pos hsi, g3, Nat.add_comm]
theorem Good.dl {r : Rul} {c : Clm} {E : Nat → Evt} {n : Nat} (h : Good r c E n) {i : Nat} (hi : i ≤ n) : Ytmcidfecepknpaa.dl r (runN r c E (begins r 1 c.asked) i) ≤ 25000000 := by
  have h1 := h.dl_run i hi
  have h2 := h.asked
  obtain ⟨r1, r2, r3, r4⟩ := h.small
  omega
theorem after_state {c : Clm} {s : Int} {e : Evt} (h : afterB c s e = true) : s = 1 ∨ s = 2 ∨ s = 3 ∨ s = 4 := by
  simp only [afterB, Bool.and_eq_true, bne_iff_ne, ne_eq] at h
  exact (effN_b _ _ h.1).2.2
theorem fine_next {r : Rul} (hr : r.small) {s : Sta} (h : s.fine r) (hs : s.state = 1 ∨ s.state = 2 ∨ s.state = 3 ∨ s.state = 4) : 0 ≤ s.next := by
  obtain ⟨a, b, c, d⟩ := h
  obtain ⟨r1, r2, r3, r4⟩ := hr
  rw [d]
  rcases hs with hs | hs | hs | hs <;> rw [hs] <;> simp <;> omega
theorem Good.chained {r : Rul} {c : Clm} {E : Nat → Evt} {n : Nat} (h : Good r c E n) : ∀ i, i ≤ n →
    chain (linked E n) (begins r 1 c.asked) (tlL r c E (begins r 1 c.asked) i) ∧ lastS (begins r 1 c.asked) (tlL r c E (begins r 1 c.asked) i) = runN r c E (begins r 1 c.asked) i ∧
    (tlL r c E (begins r 1 c.asked) i).length + (voids r c E (begins r 1 c.asked) i).length = alones (begins r 1 c.asked) (tlL r c E (begins r 1 c.asked) i) + i
  | 0, _ => ⟨trivial, rfl, rfl⟩
  | i + 1, hi => by
    obtain ⟨i1, i2, i3⟩ := h.chained i (by omega)
    obtain ⟨f1, f2⟩ := h.run i (by omega)
    have hd := h.dl (i := i) (by omega)
    have he := h.ev (i := i) (by omega)
    have hl := h.last i (by omega)
    obtain ⟨a1, a2, a3, a4, a5⟩ := alone_chain h.small (E := E) (n := n) (u := (E i).at') 4 f1 hd
    have hend := goN_end (u := (E i).at') 4 (fine_ok h.small f1) (rank_le _)
    have hsi : (goN r (E i).at' 4 (runN r c E (begins r 1 c.asked) i)).since ≤ (E i).at' := by
      rcases (goN_fine h.small (u := (E i).at') (by omega) 4 f1).2 with h2 | h2
      · exact h2
      · rw [h2]; omega
    unfold tlL
    rw [lastS_append, alones_append, i2]
    unfold evL
    rw [lastS_append, alones_append, a2]
    have hrun : runN r c E (begins r 1 c.asked) (i + 1) = evN r c (runN r c E (begins r 1 c.asked) i) (E i) := rfl
    rw [hrun]
    unfold evN voids
    cases hb : afterB c (goN r (E i).at' 4 (runN r c E (begins r 1 c.asked) i)).state (E i) with
    | false =>
      refine ⟨chain_append i1 (by rw [i2]; exact chain_append a1 trivial), rfl, ?_⟩
      simp only [List.length_append, List.length_nil, List.length_singleton, alones, a3]
      omega
    | true =>
      have hn := fine_next h.small a4 (after_state hb)
      have hgt : (E i).at' < (goN r (E i).at' 4 (runN r c E (begins r 1 c.asked) i)).next := by
        simp only [goesOn, Bool.and_eq_false_iff, decide_eq_false_iff_not] at hend
        omega
      refine ⟨chain_append i1 (by rw [i2]; exact chain_append a1 (by rw [a2]; exact ⟨⟨hn, hsi, by show (E i).at' ≤ _; omega, fun _ => ⟨i, by omega, rfl⟩⟩, trivial⟩)), rfl, ?_⟩
      have h0 : ¬ (E i).at' = (goN r (E i).at' 4 (runN r c E (begins r 1 c.asked) i)).next := by omega
      have hal : alones (goN r (E i).at' 4 (runN r c E (begins r 1 c.asked) i)) [begins r (afterN c (goN r (E i).at' 4 (runN r c E (begins r 1 c.asked) i)).state (E i)) (E i).at'] = 0 := by
        show (if (E i).at' = (goN r (E i).at' 4 (runN r c E (begins r 1 c.asked) i)).next then 1 else 0) + 0 = 0
        rw [if_neg h0]
      simp only [List.length_append, List.length_nil, List.length_singleton, a3, hal]
      omega
/-- The timeline, its first status apart. -/
def tlW (r : Rul) (c : Clm) (E : Nat → Evt) (n : Nat) : List Sta := tlL r c E (begins r 1 c.asked) n ++ aloneL r 4611686018427387904 4 (runN r c E (begins r 1 c.asked) n)
theorem Good.tl {r : Rul} {c : Clm} {E : Nat → Evt} {n : Nat} (h : Good r c E n) : lineL ⟨r, c, E, n⟩ = begins r 1 c.asked :: tlW r c E n := by
  have ho := h.ok
  simp only [lineL, ho]
  rw [line_tl]; rfl
theorem Good.whole {r : Rul} {c : Clm} {E : Nat → Evt} {n : Nat} (h : Good r c E n) :
    chain (linked E n) (begins r 1 c.asked) (tlW r c E n) ∧ (lineL ⟨r, c, E, n⟩).length + (voidL ⟨r, c, E, n⟩).length = 1 + alones (begins r 1 c.asked) (tlW r c E n) + n ∧
    5 ≤ (lastS (begins r 1 c.asked) (tlW r c E n)).state ∧ (lastS (begins r 1 c.asked) (tlW r c E n)).next = -1 := by
  obtain ⟨i1, i2, i3⟩ := h.chained n (Nat.le_refl _)
  obtain ⟨f1, f2⟩ := h.run n (Nat.le_refl _)
  have hd := h.dl (i := n) (Nat.le_refl _)
  obtain ⟨a1, a2, a3, a4, a5⟩ := alone_chain h.small (E := E) (n := n) (u := 4611686018427387904) 4 f1 hd
  have hend := goN_end (u := 4611686018427387904) 4 (fine_ok h.small f1) (rank_le _)
  have ho := h.ok
  rw [h.tl]
  have hv : voidL ⟨r, c, E, n⟩ = voids r c E (begins r 1 c.asked) n := by simp only [voidL, ho]
  rw [hv]
  unfold tlW
  rw [lastS_append, alones_append, i2, a2, a3]
  refine ⟨chain_append i1 (by rw [i2]; exact a1), by simp only [List.length_cons, List.length_append]; omega, ?_⟩
  generalize goN r 4611686018427387904 4 (runN r c E (begins r 1 c.asked) n) = o at a4 a5 hend
  have hn := dl_next h.small a4
  simp only [goesOn, Bool.and_eq_false_iff, decide_eq_false_iff_not] at hend
  have hneg : o.next < 0 := by omega
  obtain ⟨g1, g2, g3, g4⟩ := a4
  obtain ⟨r1, r2, r3, r4⟩ := h.small
  by_cases h1 : o.state = 1
  · rw [if_pos h1] at g4; omega
  rw [if_neg h1] at g4
  by_cases h2 : o.state = 2
  · rw [if_pos h2] at g4; omega
  rw [if_neg h2] at g4
  by_cases h3 : o.state = 3
  · rw [if_pos h3] at g4; omega
  rw [if_neg h3] at g4
  by_cases h4 : o.state = 4
  · rw [if_pos h4] at g4; omega
  rw [if_neg h4] at g4
  omega

/-! ### the status at a time is the last one that began by then -/
theorem chain_since {E : Nat → Evt} {n : Nat} : ∀ {l : List Sta} {s : Sta}, chain (linked E n) s l → s.since ≤ (lastS s l).since ∧ ∀ x ∈ l, x.since ≤ (lastS s l).since
  | [], s, _ => ⟨Int.le_refl _, fun x hx => by cases hx⟩
  | y :: l, s, h => by
    obtain ⟨i1, i2⟩ := chain_since h.2
    have := h.1.2.1
    refine ⟨by show s.since ≤ (lastS y l).since; omega, fun x hx => ?_⟩
    rcases List.mem_cons.1 hx with rfl | hx
    · exact i1
    · exact i2 x hx
/-- What begins later. -/
theorem later_alone {r : Rul} (hr : r.small) {t u : Int} : ∀ (m : Nat) {s : Sta}, s.fine r → dl r s ≤ 25000000 → goesOn t s = false → (∀ x ∈ aloneL r u m s, t < x.since) ∧ goesOn t (goN r u m s) = false
  | 0, s, _, _, h => ⟨(fun x hx => by cases hx), h⟩
  | m + 1, s, h, hd, ht => by
    unfold aloneL goN
    cases hg : goesOn u s with
    | false => exact ⟨(fun x hx => by cases hx), ht⟩
    | true =>
      obtain ⟨h1, h2, h3⟩ := h.goes hg
      have hn := (dl_next hr h).2
      have hs := dl_step hr h hg
      have hf : (step1 r s).fine r := begins_fine hr (follow_st _ h1) h2 (by omega)
      have hlt := fine_lt hr hf
      have hsi : (step1 r s).since = s.next := rfl
      have hgt : t < s.next := by
        simp only [goesOn, Bool.and_eq_false_iff, decide_eq_false_iff_not] at ht
        omega
      have hst : goesOn t (step1 r s) = false := by
        simp only [goesOn, Bool.and_eq_false_iff, decide_eq_false_iff_not]
        omega
      obtain ⟨g1, g2⟩ := later_alone hr (t := t) (u := u) m (s := step1 r s) hf (by omega) hst
      refine ⟨fun x hx => ?_, g2⟩
      rcases List.mem_cons.1 hx with rfl | hx
      · rw [hsi]; exact hgt
      · exact g1 x hx
theorem Good.split {r : Rul} {c : Clm} {E : Nat → Evt} {n : Nat} (h : Good r c E n) {t : Int} (ht : c.asked ≤ t) (hb : t ≤ 20000000) : ∀ m, stopN E t n + m ≤ n →
    ∃ B, tlL r c E (begins r 1 c.asked) (stopN E t n + m) ++ aloneL r t 4 (runN r c E (begins r 1 c.asked) (stopN E t n + m)) = tlL r c E (begins r 1 c.asked) (stopN E t n) ++ aloneL r t 4 (runN r c E (begins r 1 c.asked) (stopN E t n)) ++ B ∧ ∀ x ∈ B, t < x.since
  | 0, _ => ⟨[], by simp, fun x hx => by cases hx⟩
  | m + 1, hm => by
    obtain ⟨B, h1, h2⟩ := h.split ht hb m (by omega)
    obtain ⟨s1, s2, s3⟩ := stopN_spec E t n
    have hev := ((CP.ok_iff _).1 h.ok).2.2.2
    generalize hk : stopN E t n = k at h1 hm s1 s2 s3 ⊢
    have hat : t < (E (k + m)).at' := by
      have h1 := s3 (by omega)
      have h2 := at_mono hev (k := k) m (by show _ < n; omega)
      exact Int.lt_of_lt_of_le h1 h2
    obtain ⟨f1, f2⟩ := h.run (k + m) (by omega)
    have hd := h.dl (i := k + m) (by omega)
    have he := h.ev (i := k + m) (by omega)
    have hend := goN_end (u := t) 4 (fine_ok h.small f1) (rank_le _)
    obtain ⟨g1, g2⟩ := go_go (r := r) (u := t) (u' := (E (k + m)).at') (by omega) 4 (fine_ok h.small f1)
    obtain ⟨a1, a2, a3, a4, a5⟩ := alone_chain h.small (E := E) (n := n) (u := t) 4 f1 hd
    obtain ⟨l1, l2⟩ := later_alone h.small (t := t) (u := (E (k + m)).at') 4 a4 (by omega) hend
    rw [show k + (m + 1) = k + m + 1 by omega]
    have hset : goesOn t (runN r c E (begins r 1 c.asked) (k + m + 1)) = false := by
      show goesOn t (evN r c (runN r c E (begins r 1 c.asked) (k + m)) (E (k + m))) = false
      unfold evN
      cases hb : afterB c (goN r (E (k + m)).at' 4 (runN r c E (begins r 1 c.asked) (k + m))).state (E (k + m)) with
      | false => dsimp only; rw [← g1]; exact l2
      | true =>
        have hf := begins_fine h.small (s := afterN c (goN r (E (k + m)).at' 4 (runN r c E (begins r 1 c.asked) (k + m))).state (E (k + m))) (t := (E (k + m)).at') (afterN_b hb) (by have := h.asked; omega) (by omega)
        have := fine_lt h.small hf
        have hsi : (begins r (afterN c (goN r (E (k + m)).at' 4 (runN r c E (begins r 1 c.asked) (k + m))).state (E (k + m))) (E (k + m)).at').since = (E (k + m)).at' := rfl
        simp only [goesOn, Bool.and_eq_false_iff, decide_eq_false_iff_not]
        omega
    rw [aloneL_done hset]
    have htl : tlL r c E (begins r 1 c.asked) (k + m + 1) = tlL r c E (begins r 1 c.asked) (k + m) ++ evL r c (runN r c E (begins r 1 c.asked) (k + m)) (E (k + m)) := rfl
    rw [htl]
    unfold evL
    rw [g2]
    refine ⟨B ++ (aloneL r (E (k + m)).at' 4 (goN r t 4 (runN r c E (begins r 1 c.asked) (k + m))) ++ (match afterB c (goN r (E (k + m)).at' 4 (runN r c E (begins r 1 c.asked) (k + m))).state (E (k + m)) with | true => [begins r (afterN c (goN r (E (k + m)).at' 4 (runN r c E (begins r 1 c.asked) (k + m))).state (E (k + m))) (E (k + m)).at'] | false => [])), ?_, fun x hx => ?_⟩
    · have hass : ∀ (a b d e : List Sta), a ++ (b ++ d ++ e) = (a ++ b) ++ (d ++ e) := fun a b d e => by simp only [List.append_assoc]
      rw [List.append_nil, hass, h1]
      simp only [List.append_assoc]
      rfl
    · rcases List.mem_append.1 hx with hx | hx
      · exact h2 x hx
      · rcases List.mem_append.1 hx with hx | hx
        · exact l1 x hx
        · cases hb : afterB c (goN r (E (k + m)).at' 4 (runN r c E (begins r 1 c.asked) (k + m))).state (E (k + m)) with
          | false => rw [hb] at hx; cases hx
          | true =>
            rw [hb] at hx
            simp only [List.mem_singleton] at hx
            subst hx
            exact hat
/-- The last one that began by a time. -/
def wantL (t : Int) : Sta → List Sta → Sta
  | w, [] => w
  | w, x :: l => wantL t (if x.since ≤ t then x else w) l
theorem wantL_append (t : Int) : ∀ (l l' : List Sta) (w : Sta), wantL t w (l ++ l') = wantL t (wantL t w l) l'
  | [], _, _ => rfl
  | x :: l, l', w => wantL_append t l l' _
theorem wantL_all {t : Int} : ∀ (l : List Sta) (w : Sta), (∀ x ∈ l, x.since ≤ t) → wantL t w l = lastS w l
  | [], _, _ => rfl
  | x :: l, w, h => by
    unfold wantL lastS
    rw [if_pos (h x (by simp))]
    exact wantL_all l x fun y hy => h y (by simp [hy])
theorem wantL_none {t : Int} : ∀ (l : List Sta) (w : Sta), (∀ x ∈ l, t < x.since) → wantL t w l = w
  | [], _, _ => rfl
  | x :: l, w, h => by
    unfold wantL
    have := h x (by simp)
    rw [if_neg (by omega)]
    exact wantL_none l w fun y hy => h y (by simp [hy])
theorem Good.want {r : Rul} {c : Clm} {E : Nat → Evt} {n : Nat} (h : Good r c E n) {t : Int} (ht : c.asked ≤ t) (hb : t ≤ 20000000) : wantL t (begins r 1 c.asked) (lineL ⟨r, c, E, n⟩) = outcome ⟨r, c, E, n, t⟩ := by
  obtain ⟨s1, s2, s3⟩ := stopN_spec E t n
  obtain ⟨B, h1, h2⟩ := h.split ht hb (n - stopN E t n) (by omega)
  rw [show stopN E t n + (n - stopN E t n) = n by omega] at h1
  obtain ⟨f1, f2⟩ := h.run n (Nat.le_refl _)
  have hd := h.dl (i := n) (Nat.le_refl _)
  have hend := goN_end (u := t) 4 (fine_ok h.small f1) (rank_le _)
  obtain ⟨a1, a2, a3, a4, a5⟩ := alone_chain h.small (E := E) (n := n) (u := t) 4 f1 hd
  obtain ⟨g1, g2⟩ := go_go (r := r) (u := t) (u' := 4611686018427387904) (by omega) 4 (fine_ok h.small f1)
  obtain ⟨l1, l2⟩ := later_alone h.small (t := t) (u := 4611686018427387904) 4 a4 (by omega) hend
  obtain ⟨k1, k2, k3⟩ := h.chained (stopN E t n) s1
  obtain ⟨e1, e2⟩ := h.run (stopN E t n) s1
  obtain ⟨b1, b2, b3, b4, b5⟩ := alone_chain h.small (E := E) (n := n) (u := t) 4 e1 (h.dl s1)
  have hA : chain (linked E n) (begins r 1 c.asked) (tlL r c E (begins r 1 c.asked) (stopN E t n) ++ aloneL r t 4 (runN r c E (begins r 1 c.asked) (stopN E t n))) := chain_append k1 (by rw [k2]; exact b1)
  have hlast : lastS (begins r 1 c.asked) (tlL r c E (begins r 1 c.asked) (stopN E t n) ++ aloneL r t 4 (runN r c E (begins r 1 c.asked) (stopN E t n))) = outcome ⟨r, c, E, n, t⟩ := by
    rw [lastS_append, k2, b2, (h.out ht hb).2]
  have hsi := (h.out_fine ht hb).2
  obtain ⟨c1, c2⟩ := chain_since hA
  rw [hlast] at c1 c2
  rw [h.tl]
  unfold wantL
  rw [if_pos (show (begins r 1 c.asked).since ≤ t from ht)]
  unfold tlW
  have hw := wantL_all (t := t) (tlL r c E (begins r 1 c.asked) (stopN E t n) ++ aloneL r t 4 (runN r c E (begins r 1 c.asked) (stopN E t n))) (begins r 1 c.asked) (fun x hx => by have := c2 x hx; omega)
  rw [g2, ← List.append_assoc, h1, wantL_append, wantL_append, hw, hlast, wantL_none _ _ h2, wantL_none _ _ l1]
end Go.Proofs.Ytmcidfecepknpaa

namespace Go.Proofs.Ytmcidfecepknpaa
open Go Go.Sh Go.Proofs
set_option linter.unusedVariables false

/-! ### a claim's state only goes up -/
def adv (s s' : Sta) : Prop := s' = s ∨ s.state < s'.state
theorem adv.refl (s : Sta) : adv s s := .inl rfl
theorem adv.trans {a b c : Sta} (h : adv a b) (h' : adv b c) : adv a c := by
  rcases h with rfl | h
  · exact h'
  · rcases h' with rfl | h'
    · exact .inr h
    · exact .inr (by omega)
theorem goN_adv {r : Rul} (hr : r.small) {u : Int} : ∀ (m : Nat) {s : Sta}, s.fine r → dl r s ≤ 25000000 → adv s (goN r u m s)
  | 0, s, _, _ => .inl rfl
  | m + 1, s, h, hd => by
    unfold goN
    cases hg : goesOn u s with
    | false => exact .inl rfl
    | true =>
      obtain ⟨h1, h2, h3⟩ := h.goes hg
      have hn := (dl_next hr h).2
      have hs := dl_step hr h hg
      have hf : (step1 r s).fine r := begins_fine hr (follow_st _ h1) h2 (by omega)
      have hst : (step1 r s).state = follow s.state := rfl
      refine adv.trans (.inr ?_) (goN_adv hr m (s := step1 r s) hf (by omega))
      rw [hst]
      rcases h1 with h1 | h1 | h1 | h1 <;> rw [h1] <;> decide
theorem after_adv {c : Clm} {s : Int} {e : Evt} (h : afterB c s e = true) : s < afterN c s e := by
  simp only [afterB, Bool.and_eq_true, bne_iff_ne, ne_eq] at h
  have h1 := h.1
  have h2 := effN_b _ _ h1
  unfold afterN
  unfold effN at h1 ⊢
  rcases h2.2.2 with rfl | rfl | rfl | rfl <;> (repeat' split) <;> simp_all <;> omega
theorem Good.adv1 {r : Rul} {c : Clm} {E : Nat → Evt} {n : Nat} (h : Good r c E n) {t : Int} {k : Nat} (hk : k ≤ n) (hb : t ≤ 20000000) : ∀ m, k + m ≤ n → (∀ j, k ≤ j → j < k + m → t < (E j).at') → adv (goN r t 4 (runN r c E (begins r 1 c.asked) k)) (runN r c E (begins r 1 c.asked) (k + m)) ∨ m = 0
  | 0, _, _ => .inr rfl
  | m + 1, hm, hE => by
    refine .inl ?_
    have ih := h.adv1 hk hb m (by omega) fun j hj hj' => hE j hj (by omega)
    have hat := hE (k + m) (by omega) (by omega)
    obtain ⟨f1, f2⟩ := h.run (k + m) (by omega)
    have hd := h.dl (i := k + m) (by omega)
    have he := h.ev (i := k + m) (by omega)
    obtain ⟨e1, e2⟩ := h.run k (by omega)
    have hdk := h.dl (i := k) (by omega)
    obtain ⟨a1, a2, a3, a4, a5⟩ := alone_chain h.small (E := E) (n := n) (u := t) 4 e1 hdk
    have key : adv (goN r t 4 (runN r c E (begins r 1 c.asked) k)) (goN r (E (k + m)).at' 4 (runN r c E (begins r 1 c.asked) (k + m))) := by
      rcases ih with ih | rfl
      · exact ih.trans (goN_adv h.small 4 f1 hd)
      · have hg := (go_go (r := r) (u := t) (u' := (E (k + 0)).at') (by omega) 4 (fine_ok h.small e1)).1
        show adv _ (goN r (E (k + 0)).at' 4 (runN r c E (begins r 1 c.asked) k))
        rw [← hg]
        exact goN_adv h.small 4 a4 (by omega)
    show adv _ (evN r c (runN r c E (begins r 1 c.asked) (k + m)) (E (k + m)))
    unfold evN
    cases hb : afterB c (goN r (E (k + m)).at' 4 (runN r c E (begins r 1 c.asked) (k + m))).state (E (k + m)) with
    | false => exact key
    | true => exact key.trans (.inr (after_adv hb))
theorem Good.adv {r : Rul} {c : Clm} {E : Nat → Evt} {n : Nat} (h : Good r c E n) {t t' : Int} (h0 : 0 ≤ t) (ht : t ≤ t') (hb : t' ≤ 20000000) : adv (outcome ⟨r, c, E, n, t⟩) (outcome ⟨r, c, E, n, t'⟩) := by
  rcases Int.lt_or_le t c.asked with hlt | hge
  · rw [(h.early h0 hlt).2]
    rcases Int.lt_or_le t' c.asked with hlt' | hge'
    · rw [(h.early (by omega) hlt').2]; exact .inl rfl
    · have := (h.out_fine hge' hb).1.st
      exact .inr (by show 0 < (outcome ⟨r, c, E, n, t'⟩).state; omega)
  · rw [(h.out hge (by omega)).2, (h.out (by omega) hb).2]
    have hm := stopN_mono (E := E) (n := n) ht
    obtain ⟨a1, a2, a3⟩ := stopN_spec E t n
    obtain ⟨b1, b2, b3⟩ := stopN_spec E t' n
    have hev := ((CP.ok_iff _).1 h.ok).2.2.2
    have hE : ∀ j, stopN E t n ≤ j → j < stopN E t n + (stopN E t' n - stopN E t n) → t < (E j).at' := fun j hj hj' => by
      have h1 := a3 (by omega)
      have h2 := at_mono hev (k := stopN E t n) (j - stopN E t n) (by show _ < n; omega)
      rw [show stopN E t n + (j - stopN E t n) = j by omega] at h2
      exact Int.lt_of_lt_of_le h1 h2
    have hk := h.adv1 a1 (by omega) (stopN E t' n - stopN E t n) (by omega) hE
    rw [show stopN E t n + (stopN E t' n - stopN E t n) = stopN E t' n by omega] at hk
    obtain ⟨f1, f2⟩ := h.run (stopN E t' n) b1
    rcases hk with hk | hk
    · exact hk.trans (goN_adv h.small 4 f1 (h.dl b1))
    · have he : stopN E t' n = stopN E t n := by omega
      obtain ⟨e1, e2⟩ := h.run (stopN E t n) a1
      obtain ⟨_, _, _, a4, a5⟩ := alone_chain h.small (E := E) (n := n) (u := t) 4 e1 (h.dl a1)
      have hd := h.dl a1
      rw [he, ← (go_go (r := r) ht 4 (fine_ok h.small e1)).1]
      exact goN_adv h.small 4 a4 (by omega)
/-- The same at two times, the same between. -/
theorem Good.between {r : Rul} {c : Clm} {E : Nat → Evt} {n : Nat} (h : Good r c E n) {a k b : Int} (h0 : 0 ≤ a) (h1 : a ≤ k) (h2 : k ≤ b) (hb : b ≤ 20000000) (he : outcome ⟨r, c, E, n, a⟩ = outcome ⟨r, c, E, n, b⟩) : outcome ⟨r, c, E, n, k⟩ = outcome ⟨r, c, E, n, a⟩ := by
  have g1 := h.adv h0 h1 (by omega)
  have g2 := h.adv (t := k) (by omega) h2 hb
  rcases g1 with g1 | g1
  · exact g1
  · rw [← he] at g2
    rcases g2 with g2 | g2
    · rw [← g2]
    · omega
end Go.Proofs.Ytmcidfecepknpaa

namespace Go.Proofs.Ytmcidfecepknpaa
open Go Go.Sh Go.Proofs
set_option linter.unusedVariables false
set_option linter.unusedSimpArgs false
def m5c_t0 (p : M5P) : Prop :=
  (0 : Nat) = (0 : Nat) ∧ (p.1 = p.1 ∧ (101 : Int) = (101 : Int) ∧ True) ∧ True
theorem m5c_t0_t (p : M5P) : m5c_t0 p :=
  ⟨rfl, ⟨⟨rfl, ⟨rfl, trivial⟩⟩, trivial⟩⟩
def m5c_t1 (p : M5P) : Prop :=
  (4 : Nat) = (4 : Nat) ∧ True ∧ (p.1 = p.1 ∧ p.2 = p.2 ∧ ((0 : Nat) = (0 : Nat) ∧ p.4 = p.4) ∧ ((0 : Nat) = (0 : Nat) ∧ p.6 = p.6) ∧ ((0 : Nat) = (0 : Nat) ∧ (0 : Nat) = (0 : Nat)) ∧ ((0 : Nat) = (0 : Nat) ∧ (0 : Nat) = (0 : Nat)) ∧ (0 : Int) = (0 : Int) ∧ True) ∧ (p.4 = p.4 ∧ ∀ (i : Nat), i < p.rn → p.3 i = p.3 i ∧ True) ∧ (p.6 = p.6 ∧ ∀ (i : Nat), i < p.zn → (p.5 i).1 = (p.5 i).1 ∧ (p.5 i).2 = (p.5 i).2 ∧ (p.5 i).3 = (p.5 i).3 ∧ True) ∧ ((1 : Nat) = (1 : Nat) ∧ ∀ (i : Nat), i < (1 : Nat) → (0 : Int) = (0 : Int) ∧ True ∧ True) ∧ ((1 : Nat) = (1 : Nat) ∧ ∀ (i : Nat), i < (1 : Nat) → pickN p.1 (101 : Int) = pickN p.1 (101 : Int) ∧ (0 : Nat) = (0 : Nat) ∧ True) ∧ (0 : Nat) = (0 : Nat) ∧ True
theorem m5c_t1_t (p : M5P) : m5c_t1 p :=
  ⟨rfl, ⟨trivial, ⟨⟨rfl, ⟨rfl, ⟨⟨rfl, rfl⟩, ⟨⟨rfl, rfl⟩, ⟨⟨rfl, rfl⟩, ⟨⟨rfl, rfl⟩, ⟨rfl, trivial⟩⟩⟩⟩⟩⟩⟩, ⟨⟨rfl, (fun _ => (fun _ => ⟨rfl, trivial⟩))⟩, ⟨⟨rfl, (fun _ => (fun _ => ⟨rfl, ⟨rfl, ⟨rfl, trivial⟩⟩⟩))⟩, ⟨⟨rfl, (fun _ => (fun _ => ⟨rfl, ⟨trivial, trivial⟩⟩))⟩, ⟨⟨rfl, (fun _ => (fun _ => ⟨rfl, ⟨rfl, trivial⟩⟩))⟩, ⟨rfl, trivial⟩⟩⟩⟩⟩⟩⟩⟩
def m5c_T (p : M5P) : Prop :=
  ((0 : Int) < (101 : Int) ∧ m5c_t0 p) ∧ lO5.code = lO5.code ∧ (lO5_J p { t := (0 : Nat), k := (0 : Nat), V := fun (x : Nat) => { loc := (0 : Int), low := (0 : Int), high := (0 : Int) : Rd } : MoD } ∧ m5c_t1 p) ∧ True ∧ ∀ (q : MoD), Leaf (repL (rd5_J p) q.k q.V) → (pickN p.1 (101 : Int) = pickN p.1 (101 : Int) ∧ (rd5_J p).length = q.2 ∧ True) ∧ ((rd5_J p).length = q.2 ∧ ∀ (i : Nat), i < (rd5_J p).length → ((rd5_J p).getD i { loc := (0 : Int), low := (0 : Int), high := (0 : Int) : Rd }).1 = (q.3 i).1 ∧ ((rd5_J p).getD i { loc := (0 : Int), low := (0 : Int), high := (0 : Int) : Rd }).2 = (q.3 i).2 ∧ ((rd5_J p).getD i { loc := (0 : Int), low := (0 : Int), high := (0 : Int) : Rd }).3 = (q.3 i).3 ∧ True) ∧ True
theorem m5c_eq (p : M5P) : callBy XQ7 (exec XQ7 60) 22 (sM5.A p) (sM5.H p) (RetC (sM5.H p).length (sM5.R p) (sM5.O p)) = m5c_T p := by kernel_rfl

theorem m5c_step (p : M5P) (hJ : sM5.J p) : m5c_T p := by
  have hJ : p.fits := hJ
  unfold m5c_T
  repeat' (first | with_reducible refine And.intro ?_ ?_ | with_reducible refine fun (q : MoD) hq => ?_)
  all_goals try first | with_reducible exact m5c_t0_t _ | with_reducible exact m5c_t1_t _ | with_reducible rfl | with_reducible exact trivial | with_reducible exact List.Perm.refl _ | decide
  all_goals first
    | exact ⟨hJ, Nat.zero_le _, rfl, fun j hj => absurd hj (Nat.not_lt_zero j)⟩
    | exact hq.1.symm
    | (intro i hi
       have h2 : q.V i = (rd5_J p).getD i ⟨0, 0, 0⟩ := hq.2 i (by rw [hq.1]; exact hi)
       rw [h2]
       exact ⟨rfl, rfl, rfl, trivial⟩)
    | trace_state
theorem plain_rd (p : M5P) : ∀ o ∈ sM5.O p, plainO o := by
  intro o ho
  have ho : o ∈ [SO.arr true (rd5_J p).length 3 98 fun i => ((rd5_J p).getD i ⟨0, 0, 0⟩).cells] := ho
  simp only [List.mem_singleton] at ho
  subst ho
  refine ⟨rfl, fun i hi s hs => ?_⟩
  simp only [Rd.cells, List.mem_cons, List.not_mem_nil, or_false] at hs
  rcases hs with rfl | rfl | rfl <;> rfl
theorem m5_ok : sM5.OK XQ7.P 22 := .of_eq XQ7_ok 60 _ m5c_eq (fun _ => rfl) (fun p _ => plain_rd p) fun p hJ => m5c_step p hJ
noncomputable def XCk (r : Rul) (c : Clm) (E : Nat → Evt) (n : Nat) : Ctx := (((XH r c E n).with 22 (sM5.by exM5f)).with 23 (sAt.by exClk)).with 24 (sShown.by exShown)
theorem XCk_ok (r : Rul) (c : Clm) (E : Nat → Evt) (n : Nat) : (XCk r c E n).OK := Ctx.with_ok (Ctx.with_ok (Ctx.with_ok (XH_ok r c E n) (m5_ok.by exM5f)) (atc_ok.by exClk)) (shown_ok.by exShown)
/-! ### the law -/
structure KlP where
  x : NP
  m : M5P
  t : Int
  b : Int
def sClocks : FSpec KlP where
  J := fun p => p.x.fits ∧ p.m.fits ∧ i64 p.t ∧ i64 p.b
  A := fun p => p.x.A ++ [iv p.m.dr, iv p.m.st, .sl 1 0 p.m.rn, .sl 2 0 p.m.zn, iv p.t, iv p.b]
  H := fun p => [some (zO p.x.n p.x.Z), some (intsO p.m.rn p.m.R), some (zO p.m.zn p.m.Z)]
  R := fun _ => .bool true
  O := fun _ => []
end Go.Proofs.Ytmcidfecepknpaa

namespace Go.Proofs.Ytmcidfecepknpaa
open Go Go.Sh Go.Proofs
set_option linter.unusedVariables false
set_option linter.unusedSimpArgs false
def clocks_t0 : Prop :=
  True ∧ (0 : Nat) = (0 : Nat) ∧ True ∧ True
theorem clocks_t0_t : clocks_t0 :=
  ⟨trivial, ⟨rfl, ⟨trivial, trivial⟩⟩⟩
def clocks_t1 (p : KlP) : Prop :=
  (1 : Nat) = (1 : Nat) ∧ ((p.1.1.1 = p.1.1.1 ∧ p.1.1.2 = p.1.1.2 ∧ p.1.1.3 = p.1.1.3 ∧ p.1.1.4 = p.1.1.4 ∧ p.1.2 = p.1.2 ∧ p.1.3 = p.1.3 ∧ p.1.4 = p.1.4 ∧ p.1.5 = p.1.5 ∧ p.1.6 = p.1.6 ∧ p.1.7 = p.1.7 ∧ ((0 : Nat) = (0 : Nat) ∧ p.1.9 = p.1.9) ∧ True) ∧ True) ∧ (p.1.9 = p.1.9 ∧ ∀ (i : Nat), i < p.1.n → (p.1.8 i).1 = (p.1.8 i).1 ∧ (p.1.8 i).2 = (p.1.8 i).2 ∧ (p.1.8 i).3 = (p.1.8 i).3 ∧ True) ∧ True
theorem clocks_t1_t (p : KlP) : clocks_t1 p :=
  ⟨rfl, ⟨⟨⟨rfl, ⟨rfl, ⟨rfl, ⟨rfl, ⟨rfl, ⟨rfl, ⟨rfl, ⟨rfl, ⟨rfl, ⟨rfl, ⟨⟨rfl, rfl⟩, trivial⟩⟩⟩⟩⟩⟩⟩⟩⟩⟩⟩, trivial⟩, ⟨⟨rfl, (fun _ => (fun _ => ⟨rfl, ⟨rfl, ⟨rfl, trivial⟩⟩⟩))⟩, trivial⟩⟩⟩
def clocks_t2 (p : KlP) : Prop :=
  (2 : Nat) = (2 : Nat) ∧ (p.2.1 = p.2.1 ∧ p.2.2 = p.2.2 ∧ ((0 : Nat) = (0 : Nat) ∧ p.2.4 = p.2.4) ∧ ((0 : Nat) = (0 : Nat) ∧ p.2.6 = p.2.6) ∧ True) ∧ (p.2.4 = p.2.4 ∧ ∀ (i : Nat), i < p.2.rn → p.2.3 i = p.2.3 i ∧ True) ∧ (p.2.6 = p.2.6 ∧ ∀ (i : Nat), i < p.2.zn → (p.2.5 i).1 = (p.2.5 i).1 ∧ (p.2.5 i).2 = (p.2.5 i).2 ∧ (p.2.5 i).3 = (p.2.5 i).3 ∧ True) ∧ True
theorem clocks_t2_t (p : KlP) : clocks_t2 p :=
  ⟨rfl, ⟨⟨rfl, ⟨rfl, ⟨⟨rfl, rfl⟩, ⟨⟨rfl, rfl⟩, trivial⟩⟩⟩⟩, ⟨⟨rfl, (fun _ => (fun _ => ⟨rfl, trivial⟩))⟩, ⟨⟨rfl, (fun _ => (fun _ => ⟨rfl, ⟨rfl, ⟨rfl, trivial⟩⟩⟩))⟩, trivial⟩⟩⟩⟩
def clocks_t3 (p : KlP) : Prop :=
  (0 : Nat) = (0 : Nat) ∧ (p.3 = p.3 ∧ (3000 : Int) = (3000 : Int) ∧ True) ∧ True
theorem clocks_t3_t (p : KlP) : clocks_t3 p :=
  ⟨rfl, ⟨⟨rfl, ⟨rfl, trivial⟩⟩, trivial⟩⟩
def clocks_t4 (p : KlP) : Prop :=
  (1 : Nat) = (1 : Nat) ∧ (p.2.1 = p.2.1 ∧ p.2.2 = p.2.2 ∧ ((0 : Nat) = (0 : Nat) ∧ p.2.4 = p.2.4) ∧ pickN p.3 (3000 : Int) = pickN p.3 (3000 : Int) ∧ True) ∧ (p.2.4 = p.2.4 ∧ ∀ (i : Nat), i < p.2.4 → p.2.3 i = p.2.3 i ∧ True) ∧ True
theorem clocks_t4_t (p : KlP) : clocks_t4 p :=
  ⟨rfl, ⟨⟨rfl, ⟨rfl, ⟨⟨rfl, rfl⟩, ⟨rfl, trivial⟩⟩⟩⟩, ⟨⟨rfl, (fun _ => (fun _ => ⟨rfl, trivial⟩))⟩, trivial⟩⟩⟩
def clocks_t5 (p : KlP) : Prop :=
  (1 : Nat) = (1 : Nat) ∧ ((pickN p.2.1 (101 : Int) = pickN p.2.1 (101 : Int) ∧ ((0 : Nat) = (0 : Nat) ∧ (rd5_J p.2).length = (rd5_J p.2).length) ∧ True) ∧ shown (pickN p.2.1 (101 : Int)) p.2.2 p.2.3 p.2.4 (pickN p.3 (3000 : Int)) = shown (pickN p.2.1 (101 : Int)) p.2.2 p.2.3 p.2.4 (pickN p.3 (3000 : Int)) ∧ True) ∧ ((rd5_J p.2).length = (rd5_J p.2).length ∧ ∀ (i : Nat), i < (rd5_J p.2).length → ((rd5_J p.2).getD i { loc := (0 : Int), low := (0 : Int), high := (0 : Int) : Rd }).1 = ((rd5_J p.2).getD i { loc := (0 : Int), low := (0 : Int), high := (0 : Int) : Rd }).1 ∧ ((rd5_J p.2).getD i { loc := (0 : Int), low := (0 : Int), high := (0 : Int) : Rd }).2 = ((rd5_J p.2).getD i { loc := (0 : Int), low := (0 : Int), high := (0 : Int) : Rd }).2 ∧ ((rd5_J p.2).getD i { loc := (0 : Int), low := (0 : Int), high := (0 : Int) : Rd }).3 = ((rd5_J p.2).getD i { loc := (0 : Int), low := (0 : Int), high := (0 : Int) : Rd }).3 ∧ True) ∧ True
theorem clocks_t5_t (p : KlP) : clocks_t5 p :=
  ⟨rfl, ⟨⟨⟨rfl, ⟨⟨rfl, rfl⟩, trivial⟩⟩, ⟨rfl, trivial⟩⟩, ⟨⟨rfl, (fun _ => (fun _ => ⟨rfl, ⟨rfl, ⟨rfl, trivial⟩⟩⟩))⟩, trivial⟩⟩⟩
def clocks_t6 (p : KlP) (r : Rul) (c : Clm) (E : Nat → Evt) (n : Nat) : Prop :=
  True ∧ (1 : Nat) = (1 : Nat) ∧ ((r.1 = r.1 ∧ r.2 = r.2 ∧ r.3 = r.3 ∧ r.4 = r.4 ∧ True) ∧ (c.1 = c.1 ∧ c.2 = c.2 ∧ c.3 = c.3 ∧ c.4 = c.4 ∧ c.5 = c.5 ∧ c.6 = c.6 ∧ True) ∧ ((0 : Nat) = (0 : Nat) ∧ n = n) ∧ (win (pickN p.2.1 (101 : Int)) (shown (pickN p.2.1 (101 : Int)) p.2.2 p.2.3 p.2.4 (pickN p.3 (3000 : Int))) (fun (i : Nat) => (rd5_J p.2).getD i { loc := (0 : Int), low := (0 : Int), high := (0 : Int) : Rd }) (rd5_J p.2).length).1 = (win (pickN p.2.1 (101 : Int)) (shown (pickN p.2.1 (101 : Int)) p.2.2 p.2.3 p.2.4 (pickN p.3 (3000 : Int))) (fun (i : Nat) => (rd5_J p.2).getD i { loc := (0 : Int), low := (0 : Int), high := (0 : Int) : Rd }) (rd5_J p.2).length).1 ∧ True) ∧ (n = n ∧ ∀ (i : Nat), i < n → (E i).1 = (E i).1 ∧ (E i).2 = (E i).2 ∧ (E i).3 = (E i).3 ∧ True) ∧ True
theorem clocks_t6_t (p : KlP) (r : Rul) (c : Clm) (E : Nat → Evt) (n : Nat) : clocks_t6 p r c E n :=
  ⟨trivial, ⟨rfl, ⟨⟨⟨rfl, ⟨rfl, ⟨rfl, ⟨rfl, trivial⟩⟩⟩⟩, ⟨⟨rfl, ⟨rfl, ⟨rfl, ⟨rfl, ⟨rfl, ⟨rfl, trivial⟩⟩⟩⟩⟩⟩, ⟨⟨rfl, rfl⟩, ⟨rfl, trivial⟩⟩⟩⟩, ⟨⟨rfl, (fun _ => (fun _ => ⟨rfl, ⟨rfl, ⟨rfl, trivial⟩⟩⟩))⟩, trivial⟩⟩⟩⟩
def clocks_t7 (p : KlP) (r : Rul) (c : Clm) (E : Nat → Evt) (n : Nat) : Prop :=
  True ∧ (1 : Nat) = (1 : Nat) ∧ ((r.1 = r.1 ∧ r.2 = r.2 ∧ r.3 = r.3 ∧ r.4 = r.4 ∧ True) ∧ (c.1 = c.1 ∧ c.2 = c.2 ∧ c.3 = c.3 ∧ c.4 = c.4 ∧ c.5 = c.5 ∧ c.6 = c.6 ∧ True) ∧ ((0 : Nat) = (0 : Nat) ∧ n = n) ∧ (win (pickN p.2.1 (101 : Int)) (shown (pickN p.2.1 (101 : Int)) p.2.2 p.2.3 p.2.4 (pickN p.3 (3000 : Int))) (fun (i : Nat) => (rd5_J p.2).getD i { loc := (0 : Int), low := (0 : Int), high := (0 : Int) : Rd }) (rd5_J p.2).length).2 = (win (pickN p.2.1 (101 : Int)) (shown (pickN p.2.1 (101 : Int)) p.2.2 p.2.3 p.2.4 (pickN p.3 (3000 : Int))) (fun (i : Nat) => (rd5_J p.2).getD i { loc := (0 : Int), low := (0 : Int), high := (0 : Int) : Rd }) (rd5_J p.2).length).2 ∧ True) ∧ (n = n ∧ ∀ (i : Nat), i < n → (E i).1 = (E i).1 ∧ (E i).2 = (E i).2 ∧ (E i).3 = (E i).3 ∧ True) ∧ True
theorem clocks_t7_t (p : KlP) (r : Rul) (c : Clm) (E : Nat → Evt) (n : Nat) : clocks_t7 p r c E n :=
  ⟨trivial, ⟨rfl, ⟨⟨⟨rfl, ⟨rfl, ⟨rfl, ⟨rfl, trivial⟩⟩⟩⟩, ⟨⟨rfl, ⟨rfl, ⟨rfl, ⟨rfl, ⟨rfl, ⟨rfl, trivial⟩⟩⟩⟩⟩⟩, ⟨⟨rfl, rfl⟩, ⟨rfl, trivial⟩⟩⟩⟩, ⟨⟨rfl, (fun _ => (fun _ => ⟨rfl, ⟨rfl, ⟨rfl, trivial⟩⟩⟩))⟩, trivial⟩⟩⟩⟩
def clocks_t8 (p : KlP) : Prop :=
  (0 : Nat) = (0 : Nat) ∧ (p.4 = p.4 ∧ IntKind.i64.wrap (IntKind.i64.wrap ((win (pickN p.2.1 (101 : Int)) (shown (pickN p.2.1 (101 : Int)) p.2.2 p.2.3 p.2.4 (pickN p.3 (3000 : Int))) (fun (i : Nat) => (rd5_J p.2).getD i { loc := (0 : Int), low := (0 : Int), high := (0 : Int) : Rd }) (rd5_J p.2).length).2 - (win (pickN p.2.1 (101 : Int)) (shown (pickN p.2.1 (101 : Int)) p.2.2 p.2.3 p.2.4 (pickN p.3 (3000 : Int))) (fun (i : Nat) => (rd5_J p.2).getD i { loc := (0 : Int), low := (0 : Int), high := (0 : Int) : Rd }) (rd5_J p.2).length).1) + (1 : Int)) = IntKind.i64.wrap (IntKind.i64.wrap ((win (pickN p.2.1 (101 : Int)) (shown (pickN p.2.1 (101 : Int)) p.2.2 p.2.3 p.2.4 (pickN p.3 (3000 : Int))) (fun (i : Nat) => (rd5_J p.2).getD i { loc := (0 : Int), low := (0 : Int), high := (0 : Int) : Rd }) (rd5_J p.2).length).2 - (win (pickN p.2.1 (101 : Int)) (shown (pickN p.2.1 (101 : Int)) p.2.2 p.2.3 p.2.4 (pickN p.3 (3000 : Int))) (fun (i : Nat) => (rd5_J p.2).getD i { loc := (0 : Int), low := (0 : Int), high := (0 : Int) : Rd }) (rd5_J p.2).length).1) + (1 : Int)) ∧ True) ∧ True
theorem clocks_t8_t (p : KlP) : clocks_t8 p :=
  ⟨rfl, ⟨⟨rfl, ⟨rfl, trivial⟩⟩, trivial⟩⟩
def clocks_t9 (p : KlP) (r : Rul) (c : Clm) (E : Nat → Evt) (n : Nat) : Prop :=
  True ∧ (1 : Nat) = (1 : Nat) ∧ ((r.1 = r.1 ∧ r.2 = r.2 ∧ r.3 = r.3 ∧ r.4 = r.4 ∧ True) ∧ (c.1 = c.1 ∧ c.2 = c.2 ∧ c.3 = c.3 ∧ c.4 = c.4 ∧ c.5 = c.5 ∧ c.6 = c.6 ∧ True) ∧ ((0 : Nat) = (0 : Nat) ∧ n = n) ∧ IntKind.i64.wrap ((win (pickN p.2.1 (101 : Int)) (shown (pickN p.2.1 (101 : Int)) p.2.2 p.2.3 p.2.4 (pickN p.3 (3000 : Int))) (fun (i : Nat) => (rd5_J p.2).getD i { loc := (0 : Int), low := (0 : Int), high := (0 : Int) : Rd }) (rd5_J p.2).length).1 + pickN p.4 (IntKind.i64.wrap (IntKind.i64.wrap ((win (pickN p.2.1 (101 : Int)) (shown (pickN p.2.1 (101 : Int)) p.2.2 p.2.3 p.2.4 (pickN p.3 (3000 : Int))) (fun (i : Nat) => (rd5_J p.2).getD i { loc := (0 : Int), low := (0 : Int), high := (0 : Int) : Rd }) (rd5_J p.2).length).2 - (win (pickN p.2.1 (101 : Int)) (shown (pickN p.2.1 (101 : Int)) p.2.2 p.2.3 p.2.4 (pickN p.3 (3000 : Int))) (fun (i : Nat) => (rd5_J p.2).getD i { loc := (0 : Int), low := (0 : Int), high := (0 : Int) : Rd }) (rd5_J p.2).length).1) + (1 : Int)))) = IntKind.i64.wrap ((win (pickN p.2.1 (101 : Int)) (shown (pickN p.2.1 (101 : Int)) p.2.2 p.2.3 p.2.4 (pickN p.3 (3000 : Int))) (fun (i : Nat) => (rd5_J p.2).getD i { loc := (0 : Int), low := (0 : Int), high := (0 : Int) : Rd }) (rd5_J p.2).length).1 + pickN p.4 (IntKind.i64.wrap (IntKind.i64.wrap ((win (pickN p.2.1 (101 : Int)) (shown (pickN p.2.1 (101 : Int)) p.2.2 p.2.3 p.2.4 (pickN p.3 (3000 : Int))) (fun (i : Nat) => (rd5_J p.2).getD i { loc := (0 : Int), low := (0 : Int), high := (0 : Int) : Rd }) (rd5_J p.2).length).2 - (win (pickN p.2.1 (101 : Int)) (shown (pickN p.2.1 (101 : Int)) p.2.2 p.2.3 p.2.4 (pickN p.3 (3000 : Int))) (fun (i : Nat) => (rd5_J p.2).getD i { loc := (0 : Int), low := (0 : Int), high := (0 : Int) : Rd }) (rd5_J p.2).length).1) + (1 : Int)))) ∧ True) ∧ (n = n ∧ ∀ (i : Nat), i < n → (E i).1 = (E i).1 ∧ (E i).2 = (E i).2 ∧ (E i).3 = (E i).3 ∧ True) ∧ True
theorem clocks_t9_t (p : KlP) (r : Rul) (c : Clm) (E : Nat → Evt) (n : Nat) : clocks_t9 p r c E n :=
  ⟨trivial, ⟨rfl, ⟨⟨⟨rfl, ⟨rfl, ⟨rfl, ⟨rfl, trivial⟩⟩⟩⟩, ⟨⟨rfl, ⟨rfl, ⟨rfl, ⟨rfl, ⟨rfl, ⟨rfl, trivial⟩⟩⟩⟩⟩⟩, ⟨⟨rfl, rfl⟩, ⟨rfl, trivial⟩⟩⟩⟩, ⟨⟨rfl, (fun _ => (fun _ => ⟨rfl, ⟨rfl, ⟨rfl, trivial⟩⟩⟩))⟩, trivial⟩⟩⟩⟩
def clocks_t10 (p : KlP) (r : Rul) (c : Clm) (E : Nat → Evt) (n : Nat) : Prop :=
  True ∧ (1 : Nat) = (1 : Nat) ∧ ((r.1 = r.1 ∧ r.2 = r.2 ∧ r.3 = r.3 ∧ r.4 = r.4 ∧ True) ∧ (c.1 = c.1 ∧ c.2 = c.2 ∧ c.3 = c.3 ∧ c.4 = c.4 ∧ c.5 = c.5 ∧ c.6 = c.6 ∧ True) ∧ ((0 : Nat) = (0 : Nat) ∧ n = n) ∧ pickN p.3 (3000 : Int) = pickN p.3 (3000 : Int) ∧ True) ∧ (n = n ∧ ∀ (i : Nat), i < n → (E i).1 = (E i).1 ∧ (E i).2 = (E i).2 ∧ (E i).3 = (E i).3 ∧ True) ∧ True
theorem clocks_t10_t (p : KlP) (r : Rul) (c : Clm) (E : Nat → Evt) (n : Nat) : clocks_t10 p r c E n :=
  ⟨trivial, ⟨rfl, ⟨⟨⟨rfl, ⟨rfl, ⟨rfl, ⟨rfl, trivial⟩⟩⟩⟩, ⟨⟨rfl, ⟨rfl, ⟨rfl, ⟨rfl, ⟨rfl, ⟨rfl, trivial⟩⟩⟩⟩⟩⟩, ⟨⟨rfl, rfl⟩, ⟨rfl, trivial⟩⟩⟩⟩, ⟨⟨rfl, (fun _ => (fun _ => ⟨rfl, ⟨rfl, ⟨rfl, trivial⟩⟩⟩))⟩, trivial⟩⟩⟩⟩
def clocks_T (p : KlP) (r : Rul) (c : Clm) (E : Nat → Evt) (n : Nat) : Prop :=
  clocks_t0 ∧ clocks_t1 p ∧ mEq_J p.1 r c E n ∧ (sM5_J p.2 ∧ clocks_t2 p) ∧ ((0 : Int) < (3000 : Int) ∧ clocks_t3 p) ∧ (sShown_J { dr := p.2.1, st := p.2.2, R := p.2.3, rn := p.2.4, t := pickN p.3 (3000 : Int) : ShP } ∧ clocks_t4 p) ∧ (sAt_J { d := pickN p.2.1 (101 : Int), V := fun (i : Nat) => (rd5_J p.2).getD i { loc := (0 : Int), low := (0 : Int), high := (0 : Int) : Rd }, k := (rd5_J p.2).length, L := shown (pickN p.2.1 (101 : Int)) p.2.2 p.2.3 p.2.4 (pickN p.3 (3000 : Int)) : CaP } ∧ clocks_t5 p) ∧ ifB (decide ((win (pickN p.2.1 (101 : Int)) (shown (pickN p.2.1 (101 : Int)) p.2.2 p.2.3 p.2.4 (pickN p.3 (3000 : Int))) (fun (i : Nat) => (rd5_J p.2).getD i { loc := (0 : Int), low := (0 : Int), high := (0 : Int) : Rd }) (rd5_J p.2).length).1 > pickN p.3 (3000 : Int)) == false) (ifB (decide (pickN p.3 (3000 : Int) > (win (pickN p.2.1 (101 : Int)) (shown (pickN p.2.1 (101 : Int)) p.2.2 p.2.3 p.2.4 (pickN p.3 (3000 : Int))) (fun (i : Nat) => (rd5_J p.2).getD i { loc := (0 : Int), low := (0 : Int), high := (0 : Int) : Rd }) (rd5_J p.2).length).2)) (true = false ∧ True) (clocks_t6 p r c E n ∧ clocks_t7 p r c E n ∧ ifB ((outErr { r := r, c := c, E := E, n := n, t := (win (pickN p.2.1 (101 : Int)) (shown (pickN p.2.1 (101 : Int)) p.2.2 p.2.3 p.2.4 (pickN p.3 (3000 : Int))) (fun (i : Nat) => (rd5_J p.2).getD i { loc := (0 : Int), low := (0 : Int), high := (0 : Int) : Rd }) (rd5_J p.2).length).1 : OP } != (0 : Int)) == false) (ifB (outErr { r := r, c := c, E := E, n := n, t := (win (pickN p.2.1 (101 : Int)) (shown (pickN p.2.1 (101 : Int)) p.2.2 p.2.3 p.2.4 (pickN p.3 (3000 : Int))) (fun (i : Nat) => (rd5_J p.2).getD i { loc := (0 : Int), low := (0 : Int), high := (0 : Int) : Rd }) (rd5_J p.2).length).2 : OP } != (0 : Int)) (true = false ∧ True) ((((0 : Int) < IntKind.i64.wrap (IntKind.i64.wrap ((win (pickN p.2.1 (101 : Int)) (shown (pickN p.2.1 (101 : Int)) p.2.2 p.2.3 p.2.4 (pickN p.3 (3000 : Int))) (fun (i : Nat) => (rd5_J p.2).getD i { loc := (0 : Int), low := (0 : Int), high := (0 : Int) : Rd }) (rd5_J p.2).length).2 - (win (pickN p.2.1 (101 : Int)) (shown (pickN p.2.1 (101 : Int)) p.2.2 p.2.3 p.2.4 (pickN p.3 (3000 : Int))) (fun (i : Nat) => (rd5_J p.2).getD i { loc := (0 : Int), low := (0 : Int), high := (0 : Int) : Rd }) (rd5_J p.2).length).1) + (1 : Int)) ∧ clocks_t8 p) ∧ (clocks_t9 p r c E n ∧ clocks_t10 p r c E n ∧ ifB ((outErr { r := r, c := c, E := E, n := n, t := IntKind.i64.wrap ((win (pickN p.2.1 (101 : Int)) (shown (pickN p.2.1 (101 : Int)) p.2.2 p.2.3 p.2.4 (pickN p.3 (3000 : Int))) (fun (i : Nat) => (rd5_J p.2).getD i { loc := (0 : Int), low := (0 : Int), high := (0 : Int) : Rd }) (rd5_J p.2).length).1 + pickN p.4 (IntKind.i64.wrap (IntKind.i64.wrap ((win (pickN p.2.1 (101 : Int)) (shown (pickN p.2.1 (101 : Int)) p.2.2 p.2.3 p.2.4 (pickN p.3 (3000 : Int))) (fun (i : Nat) => (rd5_J p.2).getD i { loc := (0 : Int), low := (0 : Int), high := (0 : Int) : Rd }) (rd5_J p.2).length).2 - (win (pickN p.2.1 (101 : Int)) (shown (pickN p.2.1 (101 : Int)) p.2.2 p.2.3 p.2.4 (pickN p.3 (3000 : Int))) (fun (i : Nat) => (rd5_J p.2).getD i { loc := (0 : Int), low := (0 : Int), high := (0 : Int) : Rd }) (rd5_J p.2).length).1) + (1 : Int)))) : OP } == (0 : Int)) == true) (ifB ((outErr { r := r, c := c, E := E, n := n, t := pickN p.3 (3000 : Int) : OP } == (0 : Int)) == true) (ifB ((!((outcome { r := r, c := c, E := E, n := n, t := (win (pickN p.2.1 (101 : Int)) (shown (pickN p.2.1 (101 : Int)) p.2.2 p.2.3 p.2.4 (pickN p.3 (3000 : Int))) (fun (i : Nat) => (rd5_J p.2).getD i { loc := (0 : Int), low := (0 : Int), high := (0 : Int) : Rd }) (rd5_J p.2).length).1 : OP }).1 == (outcome { r := r, c := c, E := E, n := n, t := (win (pickN p.2.1 (101 : Int)) (shown (pickN p.2.1 (101 : Int)) p.2.2 p.2.3 p.2.4 (pickN p.3 (3000 : Int))) (fun (i : Nat) => (rd5_J p.2).getD i { loc := (0 : Int), low := (0 : Int), high := (0 : Int) : Rd }) (rd5_J p.2).length).2 : OP }).1 && ((outcome { r := r, c := c, E := E, n := n, t := (win (pickN p.2.1 (101 : Int)) (shown (pickN p.2.1 (101 : Int)) p.2.2 p.2.3 p.2.4 (pickN p.3 (3000 : Int))) (fun (i : Nat) => (rd5_J p.2).getD i { loc := (0 : Int), low := (0 : Int), high := (0 : Int) : Rd }) (rd5_J p.2).length).1 : OP }).2 == (outcome { r := r, c := c, E := E, n := n, t := (win (pickN p.2.1 (101 : Int)) (shown (pickN p.2.1 (101 : Int)) p.2.2 p.2.3 p.2.4 (pickN p.3 (3000 : Int))) (fun (i : Nat) => (rd5_J p.2).getD i { loc := (0 : Int), low := (0 : Int), high := (0 : Int) : Rd }) (rd5_J p.2).length).2 : OP }).2 && ((outcome { r := r, c := c, E := E, n := n, t := (win (pickN p.2.1 (101 : Int)) (shown (pickN p.2.1 (101 : Int)) p.2.2 p.2.3 p.2.4 (pickN p.3 (3000 : Int))) (fun (i : Nat) => (rd5_J p.2).getD i { loc := (0 : Int), low := (0 : Int), high := (0 : Int) : Rd }) (rd5_J p.2).length).1 : OP }).3 == (outcome { r := r, c := c, E := E, n := n, t := (win (pickN p.2.1 (101 : Int)) (shown (pickN p.2.1 (101 : Int)) p.2.2 p.2.3 p.2.4 (pickN p.3 (3000 : Int))) (fun (i : Nat) => (rd5_J p.2).getD i { loc := (0 : Int), low := (0 : Int), high := (0 : Int) : Rd }) (rd5_J p.2).length).2 : OP }).3 && true)))) == false) (ifB (((outcome { r := r, c := c, E := E, n := n, t := IntKind.i64.wrap ((win (pickN p.2.1 (101 : Int)) (shown (pickN p.2.1 (101 : Int)) p.2.2 p.2.3 p.2.4 (pickN p.3 (3000 : Int))) (fun (i : Nat) => (rd5_J p.2).getD i { loc := (0 : Int), low := (0 : Int), high := (0 : Int) : Rd }) (rd5_J p.2).length).1 + pickN p.4 (IntKind.i64.wrap (IntKind.i64.wrap ((win (pickN p.2.1 (101 : Int)) (shown (pickN p.2.1 (101 : Int)) p.2.2 p.2.3 p.2.4 (pickN p.3 (3000 : Int))) (fun (i : Nat) => (rd5_J p.2).getD i { loc := (0 : Int), low := (0 : Int), high := (0 : Int) : Rd }) (rd5_J p.2).length).2 - (win (pickN p.2.1 (101 : Int)) (shown (pickN p.2.1 (101 : Int)) p.2.2 p.2.3 p.2.4 (pickN p.3 (3000 : Int))) (fun (i : Nat) => (rd5_J p.2).getD i { loc := (0 : Int), low := (0 : Int), high := (0 : Int) : Rd }) (rd5_J p.2).length).1) + (1 : Int)))) : OP }).1 == (outcome { r := r, c := c, E := E, n := n, t := (win (pickN p.2.1 (101 : Int)) (shown (pickN p.2.1 (101 : Int)) p.2.2 p.2.3 p.2.4 (pickN p.3 (3000 : Int))) (fun (i : Nat) => (rd5_J p.2).getD i { loc := (0 : Int), low := (0 : Int), high := (0 : Int) : Rd }) (rd5_J p.2).length).1 : OP }).1 && ((outcome { r := r, c := c, E := E, n := n, t := IntKind.i64.wrap ((win (pickN p.2.1 (101 : Int)) (shown (pickN p.2.1 (101 : Int)) p.2.2 p.2.3 p.2.4 (pickN p.3 (3000 : Int))) (fun (i : Nat) => (rd5_J p.2).getD i { loc := (0 : Int), low := (0 : Int), high := (0 : Int) : Rd }) (rd5_J p.2).length).1 + pickN p.4 (IntKind.i64.wrap (IntKind.i64.wrap ((win (pickN p.2.1 (101 : Int)) (shown (pickN p.2.1 (101 : Int)) p.2.2 p.2.3 p.2.4 (pickN p.3 (3000 : Int))) (fun (i : Nat) => (rd5_J p.2).getD i { loc := (0 : Int), low := (0 : Int), high := (0 : Int) : Rd }) (rd5_J p.2).length).2 - (win (pickN p.2.1 (101 : Int)) (shown (pickN p.2.1 (101 : Int)) p.2.2 p.2.3 p.2.4 (pickN p.3 (3000 : Int))) (fun (i : Nat) => (rd5_J p.2).getD i { loc := (0 : Int), low := (0 : Int), high := (0 : Int) : Rd }) (rd5_J p.2).length).1) + (1 : Int)))) : OP }).2 == (outcome { r := r, c := c, E := E, n := n, t := (win (pickN p.2.1 (101 : Int)) (shown (pickN p.2.1 (101 : Int)) p.2.2 p.2.3 p.2.4 (pickN p.3 (3000 : Int))) (fun (i : Nat) => (rd5_J p.2).getD i { loc := (0 : Int), low := (0 : Int), high := (0 : Int) : Rd }) (rd5_J p.2).length).1 : OP }).2 && ((outcome { r := r, c := c, E := E, n := n, t := IntKind.i64.wrap ((win (pickN p.2.1 (101 : Int)) (shown (pickN p.2.1 (101 : Int)) p.2.2 p.2.3 p.2.4 (pickN p.3 (3000 : Int))) (fun (i : Nat) => (rd5_J p.2).getD i { loc := (0 : Int), low := (0 : Int), high := (0 : Int) : Rd }) (rd5_J p.2).length).1 + pickN p.4 (IntKind.i64.wrap (IntKind.i64.wrap ((win (pickN p.2.1 (101 : Int)) (shown (pickN p.2.1 (101 : Int)) p.2.2 p.2.3 p.2.4 (pickN p.3 (3000 : Int))) (fun (i : Nat) => (rd5_J p.2).getD i { loc := (0 : Int), low := (0 : Int), high := (0 : Int) : Rd }) (rd5_J p.2).length).2 - (win (pickN p.2.1 (101 : Int)) (shown (pickN p.2.1 (101 : Int)) p.2.2 p.2.3 p.2.4 (pickN p.3 (3000 : Int))) (fun (i : Nat) => (rd5_J p.2).getD i { loc := (0 : Int), low := (0 : Int), high := (0 : Int) : Rd }) (rd5_J p.2).length).1) + (1 : Int)))) : OP }).3 == (outcome { r := r, c := c, E := E, n := n, t := (win (pickN p.2.1 (101 : Int)) (shown (pickN p.2.1 (101 : Int)) p.2.2 p.2.3 p.2.4 (pickN p.3 (3000 : Int))) (fun (i : Nat) => (rd5_J p.2).getD i { loc := (0 : Int), low := (0 : Int), high := (0 : Int) : Rd }) (rd5_J p.2).length).1 : OP }).3 && true))) == true) (true = ((outcome { r := r, c := c, E := E, n := n, t := pickN p.3 (3000 : Int) : OP }).1 == (outcome { r := r, c := c, E := E, n := n, t := (win (pickN p.2.1 (101 : Int)) (shown (pickN p.2.1 (101 : Int)) p.2.2 p.2.3 p.2.4 (pickN p.3 (3000 : Int))) (fun (i : Nat) => (rd5_J p.2).getD i { loc := (0 : Int), low := (0 : Int), high := (0 : Int) : Rd }) (rd5_J p.2).length).1 : OP }).1 && ((outcome { r := r, c := c, E := E, n := n, t := pickN p.3 (3000 : Int) : OP }).2 == (outcome { r := r, c := c, E := E, n := n, t := (win (pickN p.2.1 (101 : Int)) (shown (pickN p.2.1 (101 : Int)) p.2.2 p.2.3 p.2.4 (pickN p.3 (3000 : Int))) (fun (i : Nat) => (rd5_J p.2).getD i { loc := (0 : Int), low := (0 : Int), high := (0 : Int) : Rd }) (rd5_J p.2).length).1 : OP }).2 && ((outcome { r := r, c := c, E := E, n := n, t := pickN p.3 (3000 : Int) : OP }).3 == (outcome { r := r, c := c, E := E, n := n, t := (win (pickN p.2.1 (101 : Int)) (shown (pickN p.2.1 (101 : Int)) p.2.2 p.2.3 p.2.4 (pickN p.3 (3000 : Int))) (fun (i : Nat) => (rd5_J p.2).getD i { loc := (0 : Int), low := (0 : Int), high := (0 : Int) : Rd }) (rd5_J p.2).length).1 : OP }).3 && true))) ∧ True) (true = false ∧ True)) (true = true ∧ True)) (true = false ∧ True)) (true = false ∧ True)) ∧ clocks_t9 p r c E n ∧ clocks_t10 p r c E n ∧ ifB ((outErr { r := r, c := c, E := E, n := n, t := IntKind.i64.wrap ((win (pickN p.2.1 (101 : Int)) (shown (pickN p.2.1 (101 : Int)) p.2.2 p.2.3 p.2.4 (pickN p.3 (3000 : Int))) (fun (i : Nat) => (rd5_J p.2).getD i { loc := (0 : Int), low := (0 : Int), high := (0 : Int) : Rd }) (rd5_J p.2).length).1 + pickN p.4 (IntKind.i64.wrap (IntKind.i64.wrap ((win (pickN p.2.1 (101 : Int)) (shown (pickN p.2.1 (101 : Int)) p.2.2 p.2.3 p.2.4 (pickN p.3 (3000 : Int))) (fun (i : Nat) => (rd5_J p.2).getD i { loc := (0 : Int), low := (0 : Int), high := (0 : Int) : Rd }) (rd5_J p.2).length).2 - (win (pickN p.2.1 (101 : Int)) (shown (pickN p.2.1 (101 : Int)) p.2.2 p.2.3 p.2.4 (pickN p.3 (3000 : Int))) (fun (i : Nat) => (rd5_J p.2).getD i { loc := (0 : Int), low := (0 : Int), high := (0 : Int) : Rd }) (rd5_J p.2).length).1) + (1 : Int)))) : OP } == (0 : Int)) == true) (ifB ((outErr { r := r, c := c, E := E, n := n, t := pickN p.3 (3000 : Int) : OP } == (0 : Int)) == true) (ifB ((!((outcome { r := r, c := c, E := E, n := n, t := (win (pickN p.2.1 (101 : Int)) (shown (pickN p.2.1 (101 : Int)) p.2.2 p.2.3 p.2.4 (pickN p.3 (3000 : Int))) (fun (i : Nat) => (rd5_J p.2).getD i { loc := (0 : Int), low := (0 : Int), high := (0 : Int) : Rd }) (rd5_J p.2).length).1 : OP }).1 == (outcome { r := r, c := c, E := E, n := n, t := (win (pickN p.2.1 (101 : Int)) (shown (pickN p.2.1 (101 : Int)) p.2.2 p.2.3 p.2.4 (pickN p.3 (3000 : Int))) (fun (i : Nat) => (rd5_J p.2).getD i { loc := (0 : Int), low := (0 : Int), high := (0 : Int) : Rd }) (rd5_J p.2).length).2 : OP }).1 && ((outcome { r := r, c := c, E := E, n := n, t := (win (pickN p.2.1 (101 : Int)) (shown (pickN p.2.1 (101 : Int)) p.2.2 p.2.3 p.2.4 (pickN p.3 (3000 : Int))) (fun (i : Nat) => (rd5_J p.2).getD i { loc := (0 : Int), low := (0 : Int), high := (0 : Int) : Rd }) (rd5_J p.2).length).1 : OP }).2 == (outcome { r := r, c := c, E := E, n := n, t := (win (pickN p.2.1 (101 : Int)) (shown (pickN p.2.1 (101 : Int)) p.2.2 p.2.3 p.2.4 (pickN p.3 (3000 : Int))) (fun (i : Nat) => (rd5_J p.2).getD i { loc := (0 : Int), low := (0 : Int), high := (0 : Int) : Rd }) (rd5_J p.2).length).2 : OP }).2 && ((outcome { r := r, c := c, E := E, n := n, t := (win (pickN p.2.1 (101 : Int)) (shown (pickN p.2.1 (101 : Int)) p.2.2 p.2.3 p.2.4 (pickN p.3 (3000 : Int))) (fun (i : Nat) => (rd5_J p.2).getD i { loc := (0 : Int), low := (0 : Int), high := (0 : Int) : Rd }) (rd5_J p.2).length).1 : OP }).3 == (outcome { r := r, c := c, E := E, n := n, t := (win (pickN p.2.1 (101 : Int)) (shown (pickN p.2.1 (101 : Int)) p.2.2 p.2.3 p.2.4 (pickN p.3 (3000 : Int))) (fun (i : Nat) => (rd5_J p.2).getD i { loc := (0 : Int), low := (0 : Int), high := (0 : Int) : Rd }) (rd5_J p.2).length).2 : OP }).3 && true)))) == false) (ifB (((outcome { r := r, c := c, E := E, n := n, t := IntKind.i64.wrap ((win (pickN p.2.1 (101 : Int)) (shown (pickN p.2.1 (101 : Int)) p.2.2 p.2.3 p.2.4 (pickN p.3 (3000 : Int))) (fun (i : Nat) => (rd5_J p.2).getD i { loc := (0 : Int), low := (0 : Int), high := (0 : Int) : Rd }) (rd5_J p.2).length).1 + pickN p.4 (IntKind.i64.wrap (IntKind.i64.wrap ((win (pickN p.2.1 (101 : Int)) (shown (pickN p.2.1 (101 : Int)) p.2.2 p.2.3 p.2.4 (pickN p.3 (3000 : Int))) (fun (i : Nat) => (rd5_J p.2).getD i { loc := (0 : Int), low := (0 : Int), high := (0 : Int) : Rd }) (rd5_J p.2).length).2 - (win (pickN p.2.1 (101 : Int)) (shown (pickN p.2.1 (101 : Int)) p.2.2 p.2.3 p.2.4 (pickN p.3 (3000 : Int))) (fun (i : Nat) => (rd5_J p.2).getD i { loc := (0 : Int), low := (0 : Int), high := (0 : Int) : Rd }) (rd5_J p.2).length).1) + (1 : Int)))) : OP }).1 == (outcome { r := r, c := c, E := E, n := n, t := (win (pickN p.2.1 (101 : Int)) (shown (pickN p.2.1 (101 : Int)) p.2.2 p.2.3 p.2.4 (pickN p.3 (3000 : Int))) (fun (i : Nat) => (rd5_J p.2).getD i { loc := (0 : Int), low := (0 : Int), high := (0 : Int) : Rd }) (rd5_J p.2).length).1 : OP }).1 && ((outcome { r := r, c := c, E := E, n := n, t := IntKind.i64.wrap ((win (pickN p.2.1 (101 : Int)) (shown (pickN p.2.1 (101 : Int)) p.2.2 p.2.3 p.2.4 (pickN p.3 (3000 : Int))) (fun (i : Nat) => (rd5_J p.2).getD i { loc := (0 : Int), low := (0 : Int), high := (0 : Int) : Rd }) (rd5_J p.2).length).1 + pickN p.4 (IntKind.i64.wrap (IntKind.i64.wrap ((win (pickN p.2.1 (101 : Int)) (shown (pickN p.2.1 (101 : Int)) p.2.2 p.2.3 p.2.4 (pickN p.3 (3000 : Int))) (fun (i : Nat) => (rd5_J p.2).getD i { loc := (0 : Int), low := (0 : Int), high := (0 : Int) : Rd }) (rd5_J p.2).length).2 - (win (pickN p.2.1 (101 : Int)) (shown (pickN p.2.1 (101 : Int)) p.2.2 p.2.3 p.2.4 (pickN p.3 (3000 : Int))) (fun (i : Nat) => (rd5_J p.2).getD i { loc := (0 : Int), low := (0 : Int), high := (0 : Int) : Rd }) (rd5_J p.2).length).1) + (1 : Int)))) : OP }).2 == (outcome { r := r, c := c, E := E, n := n, t := (win (pickN p.2.1 (101 : Int)) (shown (pickN p.2.1 (101 : Int)) p.2.2 p.2.3 p.2.4 (pickN p.3 (3000 : Int))) (fun (i : Nat) => (rd5_J p.2).getD i { loc := (0 : Int), low := (0 : Int), high := (0 : Int) : Rd }) (rd5_J p.2).length).1 : OP }).2 && ((outcome { r := r, c := c, E := E, n := n, t := IntKind.i64.wrap ((win (pickN p.2.1 (101 : Int)) (shown (pickN p.2.1 (101 : Int)) p.2.2 p.2.3 p.2.4 (pickN p.3 (3000 : Int))) (fun (i : Nat) => (rd5_J p.2).getD i { loc := (0 : Int), low := (0 : Int), high := (0 : Int) : Rd }) (rd5_J p.2).length).1 + pickN p.4 (IntKind.i64.wrap (IntKind.i64.wrap ((win (pickN p.2.1 (101 : Int)) (shown (pickN p.2.1 (101 : Int)) p.2.2 p.2.3 p.2.4 (pickN p.3 (3000 : Int))) (fun (i : Nat) => (rd5_J p.2).getD i { loc := (0 : Int), low := (0 : Int), high := (0 : Int) : Rd }) (rd5_J p.2).length).2 - (win (pickN p.2.1 (101 : Int)) (shown (pickN p.2.1 (101 : Int)) p.2.2 p.2.3 p.2.4 (pickN p.3 (3000 : Int))) (fun (i : Nat) => (rd5_J p.2).getD i { loc := (0 : Int), low := (0 : Int), high := (0 : Int) : Rd }) (rd5_J p.2).length).1) + (1 : Int)))) : OP }).3 == (outcome { r := r, c := c, E := E, n := n, t := (win (pickN p.2.1 (101 : Int)) (shown (pickN p.2.1 (101 : Int)) p.2.2 p.2.3 p.2.4 (pickN p.3 (3000 : Int))) (fun (i : Nat) => (rd5_J p.2).getD i { loc := (0 : Int), low := (0 : Int), high := (0 : Int) : Rd }) (rd5_J p.2).length).1 : OP }).3 && true))) == true) (true = ((outcome { r := r, c := c, E := E, n := n, t := pickN p.3 (3000 : Int) : OP }).1 == (outcome { r := r, c := c, E := E, n := n, t := (win (pickN p.2.1 (101 : Int)) (shown (pickN p.2.1 (101 : Int)) p.2.2 p.2.3 p.2.4 (pickN p.3 (3000 : Int))) (fun (i : Nat) => (rd5_J p.2).getD i { loc := (0 : Int), low := (0 : Int), high := (0 : Int) : Rd }) (rd5_J p.2).length).1 : OP }).1 && ((outcome { r := r, c := c, E := E, n := n, t := pickN p.3 (3000 : Int) : OP }).2 == (outcome { r := r, c := c, E := E, n := n, t := (win (pickN p.2.1 (101 : Int)) (shown (pickN p.2.1 (101 : Int)) p.2.2 p.2.3 p.2.4 (pickN p.3 (3000 : Int))) (fun (i : Nat) => (rd5_J p.2).getD i { loc := (0 : Int), low := (0 : Int), high := (0 : Int) : Rd }) (rd5_J p.2).length).1 : OP }).2 && ((outcome { r := r, c := c, E := E, n := n, t := pickN p.3 (3000 : Int) : OP }).3 == (outcome { r := r, c := c, E := E, n := n, t := (win (pickN p.2.1 (101 : Int)) (shown (pickN p.2.1 (101 : Int)) p.2.2 p.2.3 p.2.4 (pickN p.3 (3000 : Int))) (fun (i : Nat) => (rd5_J p.2).getD i { loc := (0 : Int), low := (0 : Int), high := (0 : Int) : Rd }) (rd5_J p.2).length).1 : OP }).3 && true))) ∧ True) (true = false ∧ True)) (true = true ∧ True)) (true = false ∧ True)) (true = false ∧ True)) ∧ ((0 : Int) < IntKind.i64.wrap (IntKind.i64.wrap ((win (pickN p.2.1 (101 : Int)) (shown (pickN p.2.1 (101 : Int)) p.2.2 p.2.3 p.2.4 (pickN p.3 (3000 : Int))) (fun (i : Nat) => (rd5_J p.2).getD i { loc := (0 : Int), low := (0 : Int), high := (0 : Int) : Rd }) (rd5_J p.2).length).2 - (win (pickN p.2.1 (101 : Int)) (shown (pickN p.2.1 (101 : Int)) p.2.2 p.2.3 p.2.4 (pickN p.3 (3000 : Int))) (fun (i : Nat) => (rd5_J p.2).getD i { loc := (0 : Int), low := (0 : Int), high := (0 : Int) : Rd }) (rd5_J p.2).length).1) + (1 : Int)) ∧ clocks_t8 p) ∧ clocks_t9 p r c E n ∧ clocks_t10 p r c E n ∧ ifB ((outErr { r := r, c := c, E := E, n := n, t := IntKind.i64.wrap ((win (pickN p.2.1 (101 : Int)) (shown (pickN p.2.1 (101 : Int)) p.2.2 p.2.3 p.2.4 (pickN p.3 (3000 : Int))) (fun (i : Nat) => (rd5_J p.2).getD i { loc := (0 : Int), low := (0 : Int), high := (0 : Int) : Rd }) (rd5_J p.2).length).1 + pickN p.4 (IntKind.i64.wrap (IntKind.i64.wrap ((win (pickN p.2.1 (101 : Int)) (shown (pickN p.2.1 (101 : Int)) p.2.2 p.2.3 p.2.4 (pickN p.3 (3000 : Int))) (fun (i : Nat) => (rd5_J p.2).getD i { loc := (0 : Int), low := (0 : Int), high := (0 : Int) : Rd }) (rd5_J p.2).length).2 - (win (pickN p.2.1 (101 : Int)) (shown (pickN p.2.1 (101 : Int)) p.2.2 p.2.3 p.2.4 (pickN p.3 (3000 : Int))) (fun (i : Nat) => (rd5_J p.2).getD i { loc := (0 : Int), low := (0 : Int), high := (0 : Int) : Rd }) (rd5_J p.2).length).1) + (1 : Int)))) : OP } == (0 : Int)) == true) (ifB ((outErr { r := r, c := c, E := E, n := n, t := pickN p.3 (3000 : Int) : OP } == (0 : Int)) == true) (ifB ((!((outcome { r := r, c := c, E := E, n := n, t := (win (pickN p.2.1 (101 : Int)) (shown (pickN p.2.1 (101 : Int)) p.2.2 p.2.3 p.2.4 (pickN p.3 (3000 : Int))) (fun (i : Nat) => (rd5_J p.2).getD i { loc := (0 : Int), low := (0 : Int), high := (0 : Int) : Rd }) (rd5_J p.2).length).1 : OP }).1 == (outcome { r := r, c := c, E := E, n := n, t := (win (pickN p.2.1 (101 : Int)) (shown (pickN p.2.1 (101 : Int)) p.2.2 p.2.3 p.2.4 (pickN p.3 (3000 : Int))) (fun (i : Nat) => (rd5_J p.2).getD i { loc := (0 : Int), low := (0 : Int), high := (0 : Int) : Rd }) (rd5_J p.2).length).2 : OP }).1 && ((outcome { r := r, c := c, E := E, n := n, t := (win (pickN p.2.1 (101 : Int)) (shown (pickN p.2.1 (101 : Int)) p.2.2 p.2.3 p.2.4 (pickN p.3 (3000 : Int))) (fun (i : Nat) => (rd5_J p.2).getD i { loc := (0 : Int), low := (0 : Int), high := (0 : Int) : Rd }) (rd5_J p.2).length).1 : OP }).2 == (outcome { r := r, c := c, E := E, n := n, t := (win (pickN p.2.1 (101 : Int)) (shown (pickN p.2.1 (101 : Int)) p.2.2 p.2.3 p.2.4 (pickN p.3 (3000 : Int))) (fun (i : Nat) => (rd5_J p.2).getD i { loc := (0 : Int), low := (0 : Int), high := (0 : Int) : Rd }) (rd5_J p.2).length).2 : OP }).2 && ((outcome { r := r, c := c, E := E, n := n, t := (win (pickN p.2.1 (101 : Int)) (shown (pickN p.2.1 (101 : Int)) p.2.2 p.2.3 p.2.4 (pickN p.3 (3000 : Int))) (fun (i : Nat) => (rd5_J p.2).getD i { loc := (0 : Int), low := (0 : Int), high := (0 : Int) : Rd }) (rd5_J p.2).length).1 : OP }).3 == (outcome { r := r, c := c, E := E, n := n, t := (win (pickN p.2.1 (101 : Int)) (shown (pickN p.2.1 (101 : Int)) p.2.2 p.2.3 p.2.4 (pickN p.3 (3000 : Int))) (fun (i : Nat) => (rd5_J p.2).getD i { loc := (0 : Int), low := (0 : Int), high := (0 : Int) : Rd }) (rd5_J p.2).length).2 : OP }).3 && true)))) == false) (ifB (((outcome { r := r, c := c, E := E, n := n, t := IntKind.i64.wrap ((win (pickN p.2.1 (101 : Int)) (shown (pickN p.2.1 (101 : Int)) p.2.2 p.2.3 p.2.4 (pickN p.3 (3000 : Int))) (fun (i : Nat) => (rd5_J p.2).getD i { loc := (0 : Int), low := (0 : Int), high := (0 : Int) : Rd }) (rd5_J p.2).length).1 + pickN p.4 (IntKind.i64.wrap (IntKind.i64.wrap ((win (pickN p.2.1 (101 : Int)) (shown (pickN p.2.1 (101 : Int)) p.2.2 p.2.3 p.2.4 (pickN p.3 (3000 : Int))) (fun (i : Nat) => (rd5_J p.2).getD i { loc := (0 : Int), low := (0 : Int), high := (0 : Int) : Rd }) (rd5_J p.2).length).2 - (win (pickN p.2.1 (101 : Int)) (shown (pickN p.2.1 (101 : Int)) p.2.2 p.2.3 p.2.4 (pickN p.3 (3000 : Int))) (fun (i : Nat) => (rd5_J p.2).getD i { loc := (0 : Int), low := (0 : Int), high := (0 : Int) : Rd }) (rd5_J p.2).length).1) + (1 : Int)))) : OP }).1 == (outcome { r := r, c := c, E := E, n := n, t := (win (pickN p.2.1 (101 : Int)) (shown (pickN p.2.1 (101 : Int)) p.2.2 p.2.3 p.2.4 (pickN p.3 (3000 : Int))) (fun (i : Nat) => (rd5_J p.2).getD i { loc := (0 : Int), low := (0 : Int), high := (0 : Int) : Rd }) (rd5_J p.2).length).1 : OP }).1 && ((outcome { r := r, c := c, E := E, n := n, t := IntKind.i64.wrap ((win (pickN p.2.1 (101 : Int)) (shown (pickN p.2.1 (101 : Int)) p.2.2 p.2.3 p.2.4 (pickN p.3 (3000 : Int))) (fun (i : Nat) => (rd5_J p.2).getD i { loc := (0 : Int), low := (0 : Int), high := (0 : Int) : Rd }) (rd5_J p.2).length).1 + pickN p.4 (IntKind.i64.wrap (IntKind.i64.wrap ((win (pickN p.2.1 (101 : Int)) (shown (pickN p.2.1 (101 : Int)) p.2.2 p.2.3 p.2.4 (pickN p.3 (3000 : Int))) (fun (i : Nat) => (rd5_J p.2).getD i { loc := (0 : Int), low := (0 : Int), high := (0 : Int) : Rd }) (rd5_J p.2).length).2 - (win (pickN p.2.1 (101 : Int)) (shown (pickN p.2.1 (101 : Int)) p.2.2 p.2.3 p.2.4 (pickN p.3 (3000 : Int))) (fun (i : Nat) => (rd5_J p.2).getD i { loc := (0 : Int), low := (0 : Int), high := (0 : Int) : Rd }) (rd5_J p.2).length).1) + (1 : Int)))) : OP }).2 == (outcome { r := r, c := c, E := E, n := n, t := (win (pickN p.2.1 (101 : Int)) (shown (pickN p.2.1 (101 : Int)) p.2.2 p.2.3 p.2.4 (pickN p.3 (3000 : Int))) (fun (i : Nat) => (rd5_J p.2).getD i { loc := (0 : Int), low := (0 : Int), high := (0 : Int) : Rd }) (rd5_J p.2).length).1 : OP }).2 && ((outcome { r := r, c := c, E := E, n := n, t := IntKind.i64.wrap ((win (pickN p.2.1 (101 : Int)) (shown (pickN p.2.1 (101 : Int)) p.2.2 p.2.3 p.2.4 (pickN p.3 (3000 : Int))) (fun (i : Nat) => (rd5_J p.2).getD i { loc := (0 : Int), low := (0 : Int), high := (0 : Int) : Rd }) (rd5_J p.2).length).1 + pickN p.4 (IntKind.i64.wrap (IntKind.i64.wrap ((win (pickN p.2.1 (101 : Int)) (shown (pickN p.2.1 (101 : Int)) p.2.2 p.2.3 p.2.4 (pickN p.3 (3000 : Int))) (fun (i : Nat) => (rd5_J p.2).getD i { loc := (0 : Int), low := (0 : Int), high := (0 : Int) : Rd }) (rd5_J p.2).length).2 - (win (pickN p.2.1 (101 : Int)) (shown (pickN p.2.1 (101 : Int)) p.2.2 p.2.3 p.2.4 (pickN p.3 (3000 : Int))) (fun (i : Nat) => (rd5_J p.2).getD i { loc := (0 : Int), low := (0 : Int), high := (0 : Int) : Rd }) (rd5_J p.2).length).1) + (1 : Int)))) : OP }).3 == (outcome { r := r, c := c, E := E, n := n, t := (win (pickN p.2.1 (101 : Int)) (shown (pickN p.2.1 (101 : Int)) p.2.2 p.2.3 p.2.4 (pickN p.3 (3000 : Int))) (fun (i : Nat) => (rd5_J p.2).getD i { loc := (0 : Int), low := (0 : Int), high := (0 : Int) : Rd }) (rd5_J p.2).length).1 : OP }).3 && true))) == true) (true = ((outcome { r := r, c := c, E := E, n := n, t := pickN p.3 (3000 : Int) : OP }).1 == (outcome { r := r, c := c, E := E, n := n, t := (win (pickN p.2.1 (101 : Int)) (shown (pickN p.2.1 (101 : Int)) p.2.2 p.2.3 p.2.4 (pickN p.3 (3000 : Int))) (fun (i : Nat) => (rd5_J p.2).getD i { loc := (0 : Int), low := (0 : Int), high := (0 : Int) : Rd }) (rd5_J p.2).length).1 : OP }).1 && ((outcome { r := r, c := c, E := E, n := n, t := pickN p.3 (3000 : Int) : OP }).2 == (outcome { r := r, c := c, E := E, n := n, t := (win (pickN p.2.1 (101 : Int)) (shown (pickN p.2.1 (101 : Int)) p.2.2 p.2.3 p.2.4 (pickN p.3 (3000 : Int))) (fun (i : Nat) => (rd5_J p.2).getD i { loc := (0 : Int), low := (0 : Int), high := (0 : Int) : Rd }) (rd5_J p.2).length).1 : OP }).2 && ((outcome { r := r, c := c, E := E, n := n, t := pickN p.3 (3000 : Int) : OP }).3 == (outcome { r := r, c := c, E := E, n := n, t := (win (pickN p.2.1 (101 : Int)) (shown (pickN p.2.1 (101 : Int)) p.2.2 p.2.3 p.2.4 (pickN p.3 (3000 : Int))) (fun (i : Nat) => (rd5_J p.2).getD i { loc := (0 : Int), low := (0 : Int), high := (0 : Int) : Rd }) (rd5_J p.2).length).1 : OP }).3 && true))) ∧ True) (true = false ∧ True)) (true = true ∧ True)) (true = false ∧ True)) (true = false ∧ True))) (true = false ∧ True))) (true = false ∧ True)
theorem clocks_eq (p : KlP) (r : Rul) (c : Clm) (E : Nat → Evt) (n : Nat) : callBy (XCk r c E n) (exec (XCk r c E n) 100) 9 (sClocks.A p) (sClocks.H p) (RetC (sClocks.H p).length (sClocks.R p) (sClocks.O p)) = clocks_T p r c E n := by kernel_rfl

theorem win_b (d L : Int) (V : Nat → Rd) : ∀ k, 0 ≤ (win d L V k).1 ∧ (win d L V k).2 ≤ 10000000
  | 0 => by unfold win; dsimp only; omega
  | j + 1 => by
    obtain ⟨i1, i2⟩ := win_b d L V j
    unfold win
    cases decide (L < (V j).loc) with
    | true =>
      dsimp only
      unfold ab be
      repeat' split
      all_goals omega
    | false =>
      dsimp only
      cases L == (V j).loc with
      | true =>
        dsimp only
        unfold ab be
        repeat' split
        all_goals omega
      | false =>
        dsimp only
        unfold ab be
        repeat' split
        all_goals omega
theorem Good.err0 {r : Rul} {c : Clm} {E : Nat → Evt} {n : Nat} (h : Good r c E n) {u : Int} (h0 : 0 ≤ u) (hb : u ≤ 20000000) : outErr ⟨r, c, E, n, u⟩ = 0 := by
  rcases Int.lt_or_le u c.asked with hlt | hge
  · exact (h.early h0 hlt).1
  · exact (h.out hge hb).1
theorem staB {a b : Sta} (h : a ≠ b) : (a.1 == b.1 && (a.2 == b.2 && (a.3 == b.3 && true))) = false := by
  cases hb : (a.1 == b.1 && (a.2 == b.2 && (a.3 == b.3 && true))) with
  | false => rfl
  | true =>
    simp only [Bool.and_eq_true, beq_iff_eq, Bool.and_true] at hb
    cases a; cases b
    simp_all
theorem staT (a : Sta) : (a.1 == a.1 && (a.2 == a.2 && (a.3 == a.3 && true))) = true := by simp
theorem made_win {p : M5P} (h : p.fits) {t : Int} (ht : 0 ≤ t ∧ t < 3000) : (win (pickN p.dr 101) (shown (pickN p.dr 101) p.st p.R p.rn t) (fun i => (rd5_J p).getD i ⟨0, 0, 0⟩) (rd5_J p).length).1 ≤ t ∧ t ≤ (win (pickN p.dr 101) (shown (pickN p.dr 101) p.st p.R p.rn t) (fun i => (rd5_J p).getD i ⟨0, 0, 0⟩) (rd5_J p).length).2 := by
  have hd := pickN_b h.dr (n := 101) (by omega)
  refine win_in (by omega) h.R ht _ fun j hj => ?_
  have ha := (outL_asc h.ck 3000 (Nat.le_refl _)).1.of
  refine ha _ ?_
  show (rd5_J p).getD j ⟨0, 0, 0⟩ ∈ rd5_J p
  simp only [List.getD, List.getElem?_eq_getElem hj, Option.getD_some]
  exact List.getElem_mem hj
theorem made_ckOk {p : M5P} (h : p.fits) : ckOk (pickN p.dr 101) (fun i => (rd5_J p).getD i ⟨0, 0, 0⟩) (rd5_J p).length := made_ck h.ck
set_option maxHeartbeats 4000000 in
theorem clocks_step (p : KlP) (hJ : sClocks.J p) : clocks_T p (mR p.x) (mC p.x) (mE p.x) (mN p.x) := by
  obtain ⟨hx, hf, ht, hb⟩ := hJ
  obtain ⟨hg, hn, ha⟩ := made_good hx
  have hm : mEq_J p.x (mR p.x) (mC p.x) (mE p.x) (mN p.x) := ⟨rfl, rfl, rfl, rfl⟩
  generalize mR p.x = r at hg hm ⊢
  generalize mC p.x = c at hg hm ha ⊢
  generalize mE p.x = E at hg hm ⊢
  generalize mN p.x = n at hg hm hn ⊢
  have ht0 := pickN_b ht (n := 3000) (by omega)
  have hw := made_win hf ht0
  have hck := made_ckOk hf
  have hsb : 0 ≤ shown (pickN p.m.dr 101) p.m.st p.m.R p.m.rn (pickN p.t 3000) ∧ shown (pickN p.m.dr 101) p.m.st p.m.R p.m.rn (pickN p.t 3000) ≤ 5000 := shown_b hf.ck (by omega)
  have hwb := win_b (pickN p.m.dr 101) (shown (pickN p.m.dr 101) p.m.st p.m.R p.m.rn (pickN p.t 3000)) (fun i => (rd5_J p.m).getD i ⟨0, 0, 0⟩) (rd5_J p.m).length
  have hsh : sShown_J ⟨p.m.dr, p.m.st, p.m.R, p.m.rn, pickN p.t 3000⟩ := ⟨hf.dr, hf.st, hf.R, ht0.1, by show pickN p.t 3000 ≤ 3000; omega⟩
  have hat : sAt_J ⟨pickN p.m.dr 101, fun i => (rd5_J p.m).getD i ⟨0, 0, 0⟩, (rd5_J p.m).length, shown (pickN p.m.dr 101) p.m.st p.m.R p.m.rn (pickN p.t 3000)⟩ := ⟨⟨hck, hsb.1, Int.le_trans hsb.2 (by decide)⟩, Int.le_trans hw.1 hw.2⟩
  unfold clocks_T
  generalize (win (pickN p.m.dr 101) (shown (pickN p.m.dr 101) p.m.st p.m.R p.m.rn (pickN p.t 3000)) (fun i => (rd5_J p.m).getD i ⟨0, 0, 0⟩) (rd5_J p.m).length).1 = lo at hw hwb ⊢
  generalize (win (pickN p.m.dr 101) (shown (pickN p.m.dr 101) p.m.st p.m.R p.m.rn (pickN p.t 3000)) (fun i => (rd5_J p.m).getD i ⟨0, 0, 0⟩) (rd5_J p.m).length).2 = hi at hw hwb ⊢
  have w1 : IntKind.i64.wrap (hi - lo) = hi - lo := wS (by omega) (by omega)
  have w2 : IntKind.i64.wrap (hi - lo + 1) = hi - lo + 1 := wS (by omega) (by omega)
  have hpb := pickN_b hb (n := hi - lo + 1) (by omega)
  have w3 : IntKind.i64.wrap (lo + pickN p.b (hi - lo + 1)) = lo + pickN p.b (hi - lo + 1) := wS (by omega) (by omega)
  have e1 := hg.err0 (u := lo) (by omega) (by omega)
  have e2 := hg.err0 (u := hi) (by omega) (by omega)
  have e3 := hg.err0 (u := lo + pickN p.b (hi - lo + 1)) (by omega) (by omega)
  have e4 := hg.err0 (u := pickN p.t 3000) (by omega) (by omega)
  have hpos : 0 < hi - lo + 1 := by omega
  have hbt := fun h => hg.between (a := lo) (k := lo + pickN p.b (hi - lo + 1)) (b := hi) (by omega) (by omega) (by omega) (by omega) h
  have hbt2 := fun h => hg.between (a := lo) (k := pickN p.t 3000) (b := hi) (by omega) (by omega) (by omega) (by omega) h
  simp only [w1, w2, w3, e1, e2, e3, e4]
  generalize outcome ⟨r, c, E, n, lo⟩ = oa at hbt hbt2 ⊢
  generalize outcome ⟨r, c, E, n, hi⟩ = ob at hbt hbt2 ⊢
  generalize outcome ⟨r, c, E, n, lo + pickN p.b (hi - lo + 1)⟩ = od at hbt ⊢
  generalize outcome ⟨r, c, E, n, pickN p.t 3000⟩ = ok at hbt2 ⊢
  by_cases hab : oa = ob
  · have h1 := hbt hab
    have h2 := hbt2 hab
    subst hab
    subst h1
    subst h2
    simp only [staT]
    repeat' (first | with_reducible refine ifB_split (fun _ => ?_) (fun _ => ?_) | with_reducible refine And.intro ?_ ?_)
    all_goals try first | with_reducible exact clocks_t0_t | with_reducible exact clocks_t1_t _ | with_reducible exact clocks_t2_t _ | with_reducible exact clocks_t3_t _ | with_reducible exact clocks_t4_t _ | with_reducible exact clocks_t5_t _ | with_reducible exact clocks_t6_t _ _ _ _ _ | with_reducible exact clocks_t7_t _ _ _ _ _ | with_reducible exact clocks_t8_t _ | with_reducible exact clocks_t9_t _ _ _ _ _ | with_reducible exact clocks_t10_t _ _ _ _ _ | with_reducible rfl | with_reducible exact trivial | with_reducible exact List.Perm.refl _ | decide
    all_goals first
      | exact hm
      | exact hf
      | exact hsh
      | exact hat
      | exact hpos
      | (exfalso; simp at *; done)
      | (exfalso; simp at *; omega)
      | trace_state
  · have h1 := staB hab
    simp only [h1]
    repeat' (first | with_reducible refine ifB_split (fun _ => ?_) (fun _ => ?_) | with_reducible refine And.intro ?_ ?_)
    all_goals try first | with_reducible exact clocks_t0_t | with_reducible exact clocks_t1_t _ | with_reducible exact clocks_t2_t _ | with_reducible exact clocks_t3_t _ | with_reducible exact clocks_t4_t _ | with_reducible exact clocks_t5_t _ | with_reducible exact clocks_t6_t _ _ _ _ _ | with_reducible exact clocks_t7_t _ _ _ _ _ | with_reducible exact clocks_t8_t _ | with_reducible exact clocks_t9_t _ _ _ _ _ | with_reducible exact clocks_t10_t _ _ _ _ _ | with_reducible rfl | with_reducible exact trivial | with_reducible exact List.Perm.refl _ | decide
    all_goals first
      | exact hm
      | exact hf
      | exact hsh
      | exact hat
      | exact hpos
      | (exfalso; simp at *; done)
      | (exfalso; simp at *; omega)
      | trace_state
theorem clocks_ok : sClocks.OK Try.prog 9 := lawX XCk XCk_ok (fun _ _ _ _ => rfl) 100 clocks_T clocks_eq (fun _ => rfl) (fun _ => rfl) (fun p => p.x) clocks_step
end Go.Proofs.Ytmcidfecepknpaa

/-
  Three views as arguments.
-/
namespace Go.Proofs.Ytmcidfecepknpaa
open Go Go.Sh Go.Proofs
open Go.ChangeShapes Go.WideShapes Go.ChangeAt Go.RowKit
set_option linter.unusedVariables false
theorem c49 : Try.prog.cellsOf 49 = 1 := by kernel_rfl
section
variable {H : Type} {enc : TypeId × Value → H}
theorem view_move {env env' : Env} {W : World} {B B' : Nat} {e : Ent} {n k t : Nat} {g : Nat → List SV} (hp : ∀ i, i < n → ∀ s ∈ g i, plainV s = true) (h : OR env W B e (.arr false n k t g)) : OR env' W B' e (.arr false n k t g) := by
  obtain ⟨a, b, c⟩ := h
  refine ⟨a, b, fun hn => ?_⟩
  obtain ⟨c1, c2, c3⟩ := c hn
  refine ⟨c1, fun i hi => ?_, fun h => by cases h⟩
  obtain ⟨d1, d2⟩ := c2 i hi
  refine ⟨d1, fun j sv hj => ?_⟩
  obtain ⟨hc, v, hv, hr⟩ := d2 j sv hj
  exact ⟨hc, v, hv, plainV_ok _ _ (hp i hi sv (List.mem_of_getElem? hj)) hr⟩
def iOf (W : World) (a : Addr) (i : Nat) : Int := match W.cell? ⟨a.block, a.off + i, none⟩ with | some (.int _ z) => z | _ => 0
set_option maxRecDepth 100000 in
theorem open_ints {W : World} {fuel : Nat} {c : Value} {x : DataW H × List MemPlace} (h : DataW.trod enc Try.prog W 0 (fun _ => true) true fuel 49 [c] = some x) :
    ∃ (n : Nat) (Z : Nat → Int) (e : Ent), OR (fun l => if l = 0 then some e else none) W W.heap.size e (intsO n Z) ∧ VR (fun l => if l = 0 then some e else none) (.sl 0 0 n) c ∧
      ∀ i, i < n → i64 (Z i) := by
  rcases Deep.open_slice Try.underlying49 h with ⟨hc, _⟩ | ⟨a, len, cap, m, k, D, Pl, hc, _, hle, hcap, hm, _, hx⟩
  · obtain rfl : c = .slice none 0 0 := by simpa using hc
    refine ⟨0, fun _ => 0, { blk := 0, base := 0, cap := 0, w := 1, nil := true }, ⟨rfl, fun _ => rfl, fun h => by cases h⟩, ?_, fun i hi => by omega⟩
    exact ⟨_, none, 0, rfl, rfl, Nat.le_refl _, .inl rfl⟩
  · obtain rfl : c = .slice (some a) len cap := by simpa using hc
    have hlm : len ≤ m := by rw [hm]; simpa using hle
    have hs : 0 < len → a.spot = none := by
      intro hi
      obtain ⟨cs', h1, h2⟩ := hx 0 (by omega)
      rw [c3] at h1
      obtain ⟨_, hl, hg⟩ := World.cells?_some h1
      obtain ⟨z, hcs, _, hw⟩ := DataW.trod_int Try.underlying3 h2
      have hg0 := hg 0 (by omega)
      rw [hcs] at hg0
      simp only [List.getElem?_cons_zero, Nat.zero_mul] at hg0
      rw [add_zero', add_zero'] at hg0
      exact cell_spot hg0
    have hcell : ∀ i, i < len → a.spot = none ∧ a.block < W.heap.size ∧ ∃ z, W.cell? ⟨a.block, a.off + i, none⟩ = some (.int .i64 z) ∧ (Lit.int .i64 z).wf = true := by
      intro i hi
      have hsp := hs (by omega)
      obtain ⟨cs', h1, h2⟩ := hx i (by omega)
      rw [c3, Nat.mul_one, add_flat hsp] at h1
      obtain ⟨_, hl, hg⟩ := World.cells?_some h1
      obtain ⟨z, hcs, _, hw⟩ := DataW.trod_int Try.underlying3 h2
      have hblk := World.cells?_block h1 (Nat.succ_pos 0)
      refine ⟨hsp, hblk, z, ?_, hw⟩
      have := hg 0 (by omega)
      rw [hcs] at this
      simp only [List.getElem?_cons_zero] at this
      rw [add_zero'] at this
      exact this
    have hZ : ∀ i, i < len → W.cell? ⟨a.block, a.off + i, none⟩ = some (.int .i64 (iOf W a i)) ∧ i64 (iOf W a i) := by
      intro i hi
      obtain ⟨z, h1, h2⟩ := (hcell i hi).2.2
      have : iOf W a i = z := by unfold iOf; rw [h1]
      rw [this]
      exact ⟨h1, i64_of h2⟩
    refine ⟨len, fun i => iOf W a i, { blk := a.block, base := a.off, cap := 0, w := 1, nil := decide (len = 0) }, ⟨rfl, ?_, ?_⟩, ?_, fun i hi => (hZ i hi).2⟩
    · intro h0; simpa using h0
    · intro h0
      have h0 : ¬ len = 0 := by simpa using h0
      refine ⟨(hcell 0 (by omega)).2.1, fun i hi => ⟨rfl, fun j sv hj => ?_⟩, fun h => by cases h⟩
      match j, hj with
      | 0, hj => cases hj; exact ⟨rfl, _, by simpa using (hZ i hi).1, rfl⟩
    · refine ⟨_, some a, cap, rfl, rfl, hle, ?_⟩
      rcases Nat.eq_zero_or_pos len with h0 | h0
      · exact .inl h0
      · refine .inr ⟨by simp; omega, ?_⟩
        have := (hcell 0 h0).1
        cases a with
        | mk b o s => simp only at this; subst this; simp
/-- Where three views lie. -/
def env3 (e0 e1 e2 : Ent) : Env := fun l => if l = 0 then some e0 else if l = 1 then some e1 else if l = 2 then some e2 else none
theorem rel_three {W : World} {e0 e1 e2 : Ent} {n0 k0 t0 n1 k1 t1 n2 k2 t2 : Nat} {g0 g1 g2 : Nat → List SV} (h0 : OR (env3 e0 e1 e2) W W.heap.size e0 (.arr false n0 k0 t0 g0)) (h1 : OR (env3 e0 e1 e2) W W.heap.size e1 (.arr false n1 k1 t1 g1)) (h2 : OR (env3 e0 e1 e2) W W.heap.size e2 (.arr false n2 k2 t2 g2)) :
    Rel W.heap.size W (env3 e0 e1 e2) [some (.arr false n0 k0 t0 g0), some (.arr false n1 k1 t1 g1), some (.arr false n2 k2 t2 g2)] W := by
  refine ⟨Nat.le_refl _, Below.refl _ _, fun l o hl => ?_, fun l l' o o' e e' hne h1 hm h2 => ?_, fun l hl => ?_⟩
  · match l, hl with
    | 0, hl => cases hl; exact ⟨e0, rfl, h0⟩
    | 1, hl => cases hl; exact ⟨e1, rfl, h1⟩
    | 2, hl => cases hl; exact ⟨e2, rfl, h2⟩
    | l + 3, hl => simp [hget] at hl
  · match l, h1 with
    | 0, h1 => cases h1; cases hm
    | 1, h1 => cases h1; cases hm
    | 2, h1 => cases h1; cases hm
    | l + 3, h1 => simp [hget] at h1
  · have : l ≠ 0 ∧ l ≠ 1 ∧ l ≠ 2 := by simp at hl; omega
    simp [env3, this]
theorem zO_plain (n : Nat) (Z : Nat → Z3) : ∀ i, i < n → ∀ s ∈ [iv (Z i).a, iv (Z i).b, iv (Z i).c], plainV s = true := by
  intro i _ s hs
  simp only [List.mem_cons, List.not_mem_nil, or_false] at hs
  rcases hs with rfl | rfl | rfl <;> rfl
theorem intsO_plain (n : Nat) (Z : Nat → Int) : ∀ i, i < n → ∀ s ∈ [iv (Z i)], plainV s = true := by
  intro i _ s hs
  simp only [List.mem_singleton] at hs
  subst hs; rfl
theorem sl_move {env : Env} {e : Ent} {l n : Nat} {c : Value} (he : env l = some e) (h : VR (fun l => if l = 0 then some e else none) (.sl 0 0 n) c) : VR env (.sl l 0 n) c := by
  obtain ⟨e', a, cap, h1, h2, h3, h4⟩ := h
  simp only [if_true] at h1
  cases h1
  exact ⟨e, a, cap, he, h2, h3, h4⟩
theorem np_move {env : Env} {e : Ent} {p : NP} {v : Value} (he : env 0 = some e) (h : VRs (fun l => if l = 0 then some e else none) p.A [v]) : VRs env p.A [v] := by
  refine VRs.mono (fun l x hx => ?_) _ _ h
  split at hx
  · rename_i hl; subst hl; rw [he]; exact hx
  · cases hx
theorem trodAll_seven {P : Program} {w : World} {base : Nat} {sp : Nat → Bool} {held : Bool} {a b c d e f g : TypeId} {args : Array Value} {ds : List (DataW H)} {ps : List MemPlace} (h : DataW.TrodAll enc P w base sp held [a, b, c, d, e, f, g] args.toList ds ps) :
    ∃ v0 v1 v2 v3 v4 v5 v6 d0 d1 d2 d3 d4 d5 d6 p0 p1 p2 p3 p4 p5 p6, args = #[v0, v1, v2, v3, v4, v5, v6] ∧ ds = [d0, d1, d2, d3, d4, d5, d6] ∧
      DataW.Trod enc P w base sp held a v0 d0 p0 ∧ DataW.Trod enc P w base sp held b v1 d1 p1 ∧ DataW.Trod enc P w base sp held c v2 d2 p2 ∧ DataW.Trod enc P w base sp held d v3 d3 p3 ∧ DataW.Trod enc P w base sp held e v4 d4 p4 ∧ DataW.Trod enc P w base sp held f v5 d5 p5 ∧ DataW.Trod enc P w base sp held g v6 d6 p6 := by
  obtain ⟨v0, r0, d0, s0, p0, q0, e0, rfl, _, h0, h⟩ := trodAll_cons h
  obtain ⟨v1, r1, d1, s1, p1, q1, rfl, rfl, _, h1, h⟩ := trodAll_cons h
  obtain ⟨v2, r2, d2, s2, p2, q2, rfl, rfl, _, h2, h⟩ := trodAll_cons h
  obtain ⟨v3, r3, d3, s3, p3, q3, rfl, rfl, _, h3, h⟩ := trodAll_cons h
  obtain ⟨v4, r4, d4, s4, p4, q4, rfl, rfl, _, h4, h⟩ := trodAll_cons h
  obtain ⟨v5, r5, d5, s5, p5, q5, rfl, rfl, _, h5, h⟩ := trodAll_cons h
  obtain ⟨v6, r6, d6, s6, p6, q6, rfl, rfl, _, h6, h⟩ := trodAll_cons h
  obtain ⟨rfl, rfl, rfl⟩ := trodAll_nil h
  exact ⟨v0, v1, v2, v3, v4, v5, v6, d0, d1, d2, d3, d4, d5, d6, p0, p1, p2, p3, p4, p5, p6, Array.toList_inj.1 e0, rfl, h0, h1, h2, h3, h4, h5, h6⟩
end
end Go.Proofs.Ytmcidfecepknpaa

