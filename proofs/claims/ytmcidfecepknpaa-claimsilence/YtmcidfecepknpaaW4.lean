/-
  Parts of the proof: the executor of states by symbols, and the contracts of the functions that the law reaches. No condition.
-/
import Derived.Test.YtmcidfecepknpaaW3
set_option linter.unusedVariables false
set_option linter.unusedSimpArgs false

namespace Go.Proofs.Ytmcidfecepknpaa
open Go Go.Sh Go.Proofs
set_option linter.unusedVariables false
structure SQ where
  r : Rul
  c : Clm
  t : Int
  W : Nat → Sta
/-- The statuses without events. -/
def silent (r : Rul) (c : Clm) (j : Nat) : Sta := if j = 0 then ⟨1, c.asked, c.asked + r.answer⟩ else if j = 1 then ⟨3, c.asked + r.answer, c.asked + r.answer + r.cooling⟩ else if j = 2 then ⟨4, c.asked + r.answer + r.cooling, c.asked + r.answer + r.cooling + r.reverse⟩ else ⟨5, c.asked + r.answer + r.cooling + r.reverse, -1⟩
def lS_J (p : SQ) (i : Nat) : Prop := i ≤ 4 ∧ p.r.small ∧ p.c.ok = true ∧ (0 ≤ p.c.asked ∧ p.c.asked ≤ 999) ∧ i64 p.t ∧ ∀ j, j < 4 → p.W j = silent p.r p.c j
noncomputable def heapS (p : SQ) : Heap := [none, none, none, boxR p.r, boxC p.c, some (.arr true 4 3 39 fun i => (p.W i).cells)]
noncomputable def lS : LSpec SQ Nat Nat where
  code := loopOf Try.prog 4 11
  N := 6
  I := fun p i => blank 182 [(1, iv p.t), (5, .bool true), (6, .ptr 3 0 0), (7, .ptr 4 0 0), (12, .osl 5 4), (13, iv i)] (heapS p)
  J := lS_J
  ways := 1
  E := fun w p q => (.exit 0, blank 182 [(5, .bool true), (6, .ptr 3 0 0), (7, .ptr 4 0 0)] (heapS p))
  JE := fun w p q => Leaf True
noncomputable def zS (p : SQ) (i : Nat) : KX := fun x S' => match x with
  | .normal => Leaf (i < 4) ∧ Wk 6 [] (lS.I p (i + 1)) S'
  | .exit k => gateB (Nat.beq k 0) (Wk 6 [] (lS.E 0 p 0).2 S')
  | .ret => Leaf False
def exS (S : SS) : Option (SQ × Nat × Ren) := match S.get 1, arrOf S.heap 3, arrOf S.heap 4, arrOf S.heap 5 with
  | .int _ t, some (_, rr), some (_, cc), some (_, u) => match rr 0, cc 0 with
    | [.int _ r1, .int _ r2, .int _ r3, .int _ r4], [.int _ c1, .int _ c2, .int _ c3, .int _ c4, .int _ c5, .bool c6] => some (⟨⟨r1, r2, r3, r4⟩, ⟨c1, c2, c3, c4, c5, c6⟩, t, fun i => Sta.ofC (u i)⟩, 0, [])
    | _, _ => none
  | _, _, _, _ => none
end Go.Proofs.Ytmcidfecepknpaa

namespace Go.Proofs.Ytmcidfecepknpaa
open Go Go.Sh Go.Proofs
set_option linter.unusedVariables false
set_option linter.unusedSimpArgs false
def sloop_t0 (p : SQ) : Prop :=
  (0 : Nat) = (0 : Nat) ∧ (p.3 = p.3 ∧ (1000 : Int) = (1000 : Int) ∧ True) ∧ True
theorem sloop_t0_t (p : SQ) : sloop_t0 p :=
  ⟨rfl, ⟨⟨rfl, ⟨rfl, trivial⟩⟩, trivial⟩⟩
def sloop_t1 (p : SQ) (i : Nat) : Prop :=
  (0 : Nat) = (0 : Nat) ∧ (p.3 = p.3 ∧ IntKind.i64.wrap ((p.4 i).3 - (p.4 i).2) = IntKind.i64.wrap ((p.4 i).3 - (p.4 i).2) ∧ True) ∧ True
theorem sloop_t1_t (p : SQ) (i : Nat) : sloop_t1 p i :=
  ⟨rfl, ⟨⟨rfl, ⟨rfl, trivial⟩⟩, trivial⟩⟩
def sloop_t2 (p : SQ) (i : Nat) : Prop :=
  True ∧ (1 : Nat) = (1 : Nat) ∧ ((p.1.1 = p.1.1 ∧ p.1.2 = p.1.2 ∧ p.1.3 = p.1.3 ∧ p.1.4 = p.1.4 ∧ True) ∧ (p.2.1 = p.2.1 ∧ p.2.2 = p.2.2 ∧ p.2.3 = p.2.3 ∧ p.2.4 = p.2.4 ∧ p.2.5 = p.2.5 ∧ p.2.6 = p.2.6 ∧ True) ∧ (0 : Nat) = (0 : Nat) ∧ IntKind.i64.wrap ((p.4 i).3 - (1 : Int)) = IntKind.i64.wrap ((p.4 i).3 - (1 : Int)) ∧ True) ∧ (0 : Nat) = (0 : Nat) ∧ True
theorem sloop_t2_t (p : SQ) (i : Nat) : sloop_t2 p i :=
  ⟨trivial, ⟨rfl, ⟨⟨⟨rfl, ⟨rfl, ⟨rfl, ⟨rfl, trivial⟩⟩⟩⟩, ⟨⟨rfl, ⟨rfl, ⟨rfl, ⟨rfl, ⟨rfl, ⟨rfl, trivial⟩⟩⟩⟩⟩⟩, ⟨rfl, ⟨rfl, trivial⟩⟩⟩⟩, ⟨rfl, trivial⟩⟩⟩⟩
def sloop_t3 (p : SQ) (i : Nat) : Prop :=
  True ∧ (1 : Nat) = (1 : Nat) ∧ ((p.1.1 = p.1.1 ∧ p.1.2 = p.1.2 ∧ p.1.3 = p.1.3 ∧ p.1.4 = p.1.4 ∧ True) ∧ (p.2.1 = p.2.1 ∧ p.2.2 = p.2.2 ∧ p.2.3 = p.2.3 ∧ p.2.4 = p.2.4 ∧ p.2.5 = p.2.5 ∧ p.2.6 = p.2.6 ∧ True) ∧ (0 : Nat) = (0 : Nat) ∧ (p.4 i).2 = (p.4 i).2 ∧ True) ∧ (0 : Nat) = (0 : Nat) ∧ True
theorem sloop_t3_t (p : SQ) (i : Nat) : sloop_t3 p i :=
  ⟨trivial, ⟨rfl, ⟨⟨⟨rfl, ⟨rfl, ⟨rfl, ⟨rfl, trivial⟩⟩⟩⟩, ⟨⟨rfl, ⟨rfl, ⟨rfl, ⟨rfl, ⟨rfl, ⟨rfl, trivial⟩⟩⟩⟩⟩⟩, ⟨rfl, ⟨rfl, trivial⟩⟩⟩⟩, ⟨rfl, trivial⟩⟩⟩⟩
def sloop_t4 (p : SQ) (i : Nat) : Prop :=
  True ∧ (1 : Nat) = (1 : Nat) ∧ ((p.1.1 = p.1.1 ∧ p.1.2 = p.1.2 ∧ p.1.3 = p.1.3 ∧ p.1.4 = p.1.4 ∧ True) ∧ (p.2.1 = p.2.1 ∧ p.2.2 = p.2.2 ∧ p.2.3 = p.2.3 ∧ p.2.4 = p.2.4 ∧ p.2.5 = p.2.5 ∧ p.2.6 = p.2.6 ∧ True) ∧ (0 : Nat) = (0 : Nat) ∧ IntKind.i64.wrap ((p.4 i).2 + pickN p.3 (IntKind.i64.wrap ((p.4 i).3 - (p.4 i).2))) = IntKind.i64.wrap ((p.4 i).2 + pickN p.3 (IntKind.i64.wrap ((p.4 i).3 - (p.4 i).2))) ∧ True) ∧ (0 : Nat) = (0 : Nat) ∧ True
theorem sloop_t4_t (p : SQ) (i : Nat) : sloop_t4 p i :=
  ⟨trivial, ⟨rfl, ⟨⟨⟨rfl, ⟨rfl, ⟨rfl, ⟨rfl, trivial⟩⟩⟩⟩, ⟨⟨rfl, ⟨rfl, ⟨rfl, ⟨rfl, ⟨rfl, ⟨rfl, trivial⟩⟩⟩⟩⟩⟩, ⟨rfl, ⟨rfl, trivial⟩⟩⟩⟩, ⟨rfl, trivial⟩⟩⟩⟩
def sloop_t5 : Prop :=
  (0 : Nat) = (0 : Nat) ∧ (0 : Nat) = (0 : Nat)
theorem sloop_t5_t : sloop_t5 :=
  ⟨rfl, rfl⟩
def sloop_t6 (p : SQ) : Prop :=
  ((1 : Nat) = (1 : Nat) ∧ ∀ (i_1 : Nat), i_1 < (1 : Nat) → p.1.1 = p.1.1 ∧ p.1.2 = p.1.2 ∧ p.1.3 = p.1.3 ∧ p.1.4 = p.1.4 ∧ True) ∧ ((1 : Nat) = (1 : Nat) ∧ ∀ (i_1 : Nat), i_1 < (1 : Nat) → p.2.1 = p.2.1 ∧ p.2.2 = p.2.2 ∧ p.2.3 = p.2.3 ∧ p.2.4 = p.2.4 ∧ p.2.5 = p.2.5 ∧ p.2.6 = p.2.6 ∧ True) ∧ ((4 : Nat) = (4 : Nat) ∧ ∀ (i_1 : Nat), i_1 < (4 : Nat) → (p.4 i_1).1 = (p.4 i_1).1 ∧ (p.4 i_1).2 = (p.4 i_1).2 ∧ (p.4 i_1).3 = (p.4 i_1).3 ∧ True) ∧ True
theorem sloop_t6_t (p : SQ) : sloop_t6 p :=
  ⟨⟨rfl, (fun _ => (fun _ => ⟨rfl, ⟨rfl, ⟨rfl, ⟨rfl, trivial⟩⟩⟩⟩))⟩, ⟨⟨rfl, (fun _ => (fun _ => ⟨rfl, ⟨rfl, ⟨rfl, ⟨rfl, ⟨rfl, ⟨rfl, trivial⟩⟩⟩⟩⟩⟩))⟩, ⟨⟨rfl, (fun _ => (fun _ => ⟨rfl, ⟨rfl, ⟨rfl, trivial⟩⟩⟩))⟩, trivial⟩⟩⟩
def sloop_t7 (p : SQ) (i : Nat) : Prop :=
  True ∧ (1 : Nat) = (1 : Nat) ∧ ((p.1.1 = p.1.1 ∧ p.1.2 = p.1.2 ∧ p.1.3 = p.1.3 ∧ p.1.4 = p.1.4 ∧ True) ∧ (p.2.1 = p.2.1 ∧ p.2.2 = p.2.2 ∧ p.2.3 = p.2.3 ∧ p.2.4 = p.2.4 ∧ p.2.5 = p.2.5 ∧ p.2.6 = p.2.6 ∧ True) ∧ (0 : Nat) = (0 : Nat) ∧ IntKind.i64.wrap ((p.4 i).2 + pickN p.3 (1000 : Int)) = IntKind.i64.wrap ((p.4 i).2 + pickN p.3 (1000 : Int)) ∧ True) ∧ (0 : Nat) = (0 : Nat) ∧ True
theorem sloop_t7_t (p : SQ) (i : Nat) : sloop_t7 p i :=
  ⟨trivial, ⟨rfl, ⟨⟨⟨rfl, ⟨rfl, ⟨rfl, ⟨rfl, trivial⟩⟩⟩⟩, ⟨⟨rfl, ⟨rfl, ⟨rfl, ⟨rfl, ⟨rfl, ⟨rfl, trivial⟩⟩⟩⟩⟩⟩, ⟨rfl, ⟨rfl, trivial⟩⟩⟩⟩, ⟨rfl, trivial⟩⟩⟩⟩
def sloop_t8 (p : SQ) : Prop :=
  (true = true ∧ ((0 : Nat) = (0 : Nat) ∧ (0 : Nat) = (0 : Nat)) ∧ ((0 : Nat) = (0 : Nat) ∧ (0 : Nat) = (0 : Nat)) ∧ True) ∧ ((1 : Nat) = (1 : Nat) ∧ ∀ (i_1 : Nat), i_1 < (1 : Nat) → p.1.1 = p.1.1 ∧ p.1.2 = p.1.2 ∧ p.1.3 = p.1.3 ∧ p.1.4 = p.1.4 ∧ True) ∧ ((1 : Nat) = (1 : Nat) ∧ ∀ (i_1 : Nat), i_1 < (1 : Nat) → p.2.1 = p.2.1 ∧ p.2.2 = p.2.2 ∧ p.2.3 = p.2.3 ∧ p.2.4 = p.2.4 ∧ p.2.5 = p.2.5 ∧ p.2.6 = p.2.6 ∧ True) ∧ ((4 : Nat) = (4 : Nat) ∧ ∀ (i_1 : Nat), i_1 < (4 : Nat) → (p.4 i_1).1 = (p.4 i_1).1 ∧ (p.4 i_1).2 = (p.4 i_1).2 ∧ (p.4 i_1).3 = (p.4 i_1).3 ∧ True) ∧ True
theorem sloop_t8_t (p : SQ) : sloop_t8 p :=
  ⟨⟨rfl, ⟨⟨rfl, rfl⟩, ⟨⟨rfl, rfl⟩, trivial⟩⟩⟩, ⟨⟨rfl, (fun _ => (fun _ => ⟨rfl, ⟨rfl, ⟨rfl, ⟨rfl, trivial⟩⟩⟩⟩))⟩, ⟨⟨rfl, (fun _ => (fun _ => ⟨rfl, ⟨rfl, ⟨rfl, ⟨rfl, ⟨rfl, ⟨rfl, trivial⟩⟩⟩⟩⟩⟩))⟩, ⟨⟨rfl, (fun _ => (fun _ => ⟨rfl, ⟨rfl, ⟨rfl, trivial⟩⟩⟩))⟩, trivial⟩⟩⟩⟩
def sloop_T (p : SQ) (i : Nat) : Prop :=
  ifB (decide (Int.ofNat i < (4 : Int))) (ifB (decide (Int.ofNat i < (↑(4 : Nat) : Int))) (ifB (decide (i < (4 : Nat))) (((0 : Int) < (1000 : Int) ∧ sloop_t0 p) ∧ ifB (decide (Int.ofNat i < (↑(4 : Nat) : Int))) (ifB (decide (i < (4 : Nat))) (ifB (decide ((p.4 i).3 ≥ (0 : Int))) (ifB (decide (Int.ofNat i < (↑(4 : Nat) : Int))) (ifB (decide (i < (4 : Nat))) (ifB (decide (Int.ofNat i < (↑(4 : Nat) : Int))) (ifB (decide (i < (4 : Nat))) (ifB (decide (Int.ofNat i < (↑(4 : Nat) : Int))) (ifB (decide (i < (4 : Nat))) (((0 : Int) < IntKind.i64.wrap ((p.4 i).3 - (p.4 i).2) ∧ sloop_t1 p i) ∧ ifB (decide (Int.ofNat i < (↑(4 : Nat) : Int))) (ifB (decide (i < (4 : Nat))) ((sloop_t2 p i ∧ ifB ((outErr { r := p.1, c := p.2, E := fun (x : Nat) => { kind := (0 : Int), at' := (0 : Int), reason := (0 : Int) : Evt }, n := (0 : Nat), t := IntKind.i64.wrap ((p.4 i).3 - (1 : Int)) : OP } != (0 : Int)) == false) (ifB (decide (Int.ofNat i < (↑(4 : Nat) : Int))) (ifB (decide (i < (4 : Nat)) && true) (ifB (!((outcome { r := p.1, c := p.2, E := fun (x : Nat) => { kind := (0 : Int), at' := (0 : Int), reason := (0 : Int) : Evt }, n := (0 : Nat), t := IntKind.i64.wrap ((p.4 i).3 - (1 : Int)) : OP }).1 == (p.4 i).1 && ((outcome { r := p.1, c := p.2, E := fun (x : Nat) => { kind := (0 : Int), at' := (0 : Int), reason := (0 : Int) : Evt }, n := (0 : Nat), t := IntKind.i64.wrap ((p.4 i).3 - (1 : Int)) : OP }).2 == (p.4 i).2 && ((outcome { r := p.1, c := p.2, E := fun (x : Nat) => { kind := (0 : Int), at' := (0 : Int), reason := (0 : Int) : Evt }, n := (0 : Nat), t := IntKind.i64.wrap ((p.4 i).3 - (1 : Int)) : OP }).3 == (p.4 i).3 && true)))) (Leaf False) (ifB (decide (Int.ofNat i < (↑(4 : Nat) : Int))) (ifB (decide (i < (4 : Nat))) ((sloop_t3 p i ∧ sloop_t4 p i ∧ ifB ((outErr { r := p.1, c := p.2, E := fun (x : Nat) => { kind := (0 : Int), at' := (0 : Int), reason := (0 : Int) : Evt }, n := (0 : Nat), t := (p.4 i).2 : OP } != (0 : Int)) == false) (ifB ((outErr { r := p.1, c := p.2, E := fun (x : Nat) => { kind := (0 : Int), at' := (0 : Int), reason := (0 : Int) : Evt }, n := (0 : Nat), t := IntKind.i64.wrap ((p.4 i).2 + pickN p.3 (IntKind.i64.wrap ((p.4 i).3 - (p.4 i).2))) : OP } != (0 : Int)) == false) (ifB (decide (Int.ofNat i < (↑(4 : Nat) : Int))) (ifB (decide (i < (4 : Nat)) && true) (ifB ((!((outcome { r := p.1, c := p.2, E := fun (x : Nat) => { kind := (0 : Int), at' := (0 : Int), reason := (0 : Int) : Evt }, n := (0 : Nat), t := (p.4 i).2 : OP }).1 == (p.4 i).1 && ((outcome { r := p.1, c := p.2, E := fun (x : Nat) => { kind := (0 : Int), at' := (0 : Int), reason := (0 : Int) : Evt }, n := (0 : Nat), t := (p.4 i).2 : OP }).2 == (p.4 i).2 && ((outcome { r := p.1, c := p.2, E := fun (x : Nat) => { kind := (0 : Int), at' := (0 : Int), reason := (0 : Int) : Evt }, n := (0 : Nat), t := (p.4 i).2 : OP }).3 == (p.4 i).3 && true)))) == false) (ifB (decide (Int.ofNat i < (↑(4 : Nat) : Int))) (ifB (decide (i < (4 : Nat)) && true) (ifB (!((outcome { r := p.1, c := p.2, E := fun (x : Nat) => { kind := (0 : Int), at' := (0 : Int), reason := (0 : Int) : Evt }, n := (0 : Nat), t := IntKind.i64.wrap ((p.4 i).2 + pickN p.3 (IntKind.i64.wrap ((p.4 i).3 - (p.4 i).2))) : OP }).1 == (p.4 i).1 && ((outcome { r := p.1, c := p.2, E := fun (x : Nat) => { kind := (0 : Int), at' := (0 : Int), reason := (0 : Int) : Evt }, n := (0 : Nat), t := IntKind.i64.wrap ((p.4 i).2 + pickN p.3 (IntKind.i64.wrap ((p.4 i).3 - (p.4 i).2))) : OP }).2 == (p.4 i).2 && ((outcome { r := p.1, c := p.2, E := fun (x : Nat) => { kind := (0 : Int), at' := (0 : Int), reason := (0 : Int) : Evt }, n := (0 : Nat), t := IntKind.i64.wrap ((p.4 i).2 + pickN p.3 (IntKind.i64.wrap ((p.4 i).3 - (p.4 i).2))) : OP }).3 == (p.4 i).3 && true)))) (Leaf False) (Leaf (i < (4 : Nat)) ∧ (p.3 = p.3 ∧ true = true ∧ sloop_t5 ∧ sloop_t5 ∧ (4 : Nat) = (4 : Nat) ∧ Int.ofNat (i + (1 : Nat)) = IntKind.i64.wrap (Int.ofNat (i + (1 : Nat))) ∧ True) ∧ sloop_t6 p)) False) False) (Leaf False)) False) False) (Leaf False)) (Leaf False)) ∧ sloop_t3 p i ∧ sloop_t4 p i ∧ ifB ((outErr { r := p.1, c := p.2, E := fun (x : Nat) => { kind := (0 : Int), at' := (0 : Int), reason := (0 : Int) : Evt }, n := (0 : Nat), t := (p.4 i).2 : OP } != (0 : Int)) == false) (ifB ((outErr { r := p.1, c := p.2, E := fun (x : Nat) => { kind := (0 : Int), at' := (0 : Int), reason := (0 : Int) : Evt }, n := (0 : Nat), t := IntKind.i64.wrap ((p.4 i).2 + pickN p.3 (IntKind.i64.wrap ((p.4 i).3 - (p.4 i).2))) : OP } != (0 : Int)) == false) (ifB (decide (Int.ofNat i < (↑(4 : Nat) : Int))) (ifB (decide (i < (4 : Nat)) && true) (ifB ((!((outcome { r := p.1, c := p.2, E := fun (x : Nat) => { kind := (0 : Int), at' := (0 : Int), reason := (0 : Int) : Evt }, n := (0 : Nat), t := (p.4 i).2 : OP }).1 == (p.4 i).1 && ((outcome { r := p.1, c := p.2, E := fun (x : Nat) => { kind := (0 : Int), at' := (0 : Int), reason := (0 : Int) : Evt }, n := (0 : Nat), t := (p.4 i).2 : OP }).2 == (p.4 i).2 && ((outcome { r := p.1, c := p.2, E := fun (x : Nat) => { kind := (0 : Int), at' := (0 : Int), reason := (0 : Int) : Evt }, n := (0 : Nat), t := (p.4 i).2 : OP }).3 == (p.4 i).3 && true)))) == false) (ifB (decide (Int.ofNat i < (↑(4 : Nat) : Int))) (ifB (decide (i < (4 : Nat)) && true) (ifB (!((outcome { r := p.1, c := p.2, E := fun (x : Nat) => { kind := (0 : Int), at' := (0 : Int), reason := (0 : Int) : Evt }, n := (0 : Nat), t := IntKind.i64.wrap ((p.4 i).2 + pickN p.3 (IntKind.i64.wrap ((p.4 i).3 - (p.4 i).2))) : OP }).1 == (p.4 i).1 && ((outcome { r := p.1, c := p.2, E := fun (x : Nat) => { kind := (0 : Int), at' := (0 : Int), reason := (0 : Int) : Evt }, n := (0 : Nat), t := IntKind.i64.wrap ((p.4 i).2 + pickN p.3 (IntKind.i64.wrap ((p.4 i).3 - (p.4 i).2))) : OP }).2 == (p.4 i).2 && ((outcome { r := p.1, c := p.2, E := fun (x : Nat) => { kind := (0 : Int), at' := (0 : Int), reason := (0 : Int) : Evt }, n := (0 : Nat), t := IntKind.i64.wrap ((p.4 i).2 + pickN p.3 (IntKind.i64.wrap ((p.4 i).3 - (p.4 i).2))) : OP }).3 == (p.4 i).3 && true)))) (Leaf False) (Leaf (i < (4 : Nat)) ∧ (p.3 = p.3 ∧ true = true ∧ sloop_t5 ∧ sloop_t5 ∧ (4 : Nat) = (4 : Nat) ∧ Int.ofNat (i + (1 : Nat)) = IntKind.i64.wrap (Int.ofNat (i + (1 : Nat))) ∧ True) ∧ sloop_t6 p)) False) False) (Leaf False)) False) False) (Leaf False)) (Leaf False)) False) False)) False) False) (Leaf False)) ∧ sloop_t2 p i ∧ ifB ((outErr { r := p.1, c := p.2, E := fun (x : Nat) => { kind := (0 : Int), at' := (0 : Int), reason := (0 : Int) : Evt }, n := (0 : Nat), t := IntKind.i64.wrap ((p.4 i).3 - (1 : Int)) : OP } != (0 : Int)) == false) (ifB (decide (Int.ofNat i < (↑(4 : Nat) : Int))) (ifB (decide (i < (4 : Nat)) && true) (ifB (!((outcome { r := p.1, c := p.2, E := fun (x : Nat) => { kind := (0 : Int), at' := (0 : Int), reason := (0 : Int) : Evt }, n := (0 : Nat), t := IntKind.i64.wrap ((p.4 i).3 - (1 : Int)) : OP }).1 == (p.4 i).1 && ((outcome { r := p.1, c := p.2, E := fun (x : Nat) => { kind := (0 : Int), at' := (0 : Int), reason := (0 : Int) : Evt }, n := (0 : Nat), t := IntKind.i64.wrap ((p.4 i).3 - (1 : Int)) : OP }).2 == (p.4 i).2 && ((outcome { r := p.1, c := p.2, E := fun (x : Nat) => { kind := (0 : Int), at' := (0 : Int), reason := (0 : Int) : Evt }, n := (0 : Nat), t := IntKind.i64.wrap ((p.4 i).3 - (1 : Int)) : OP }).3 == (p.4 i).3 && true)))) (Leaf False) (ifB (decide (Int.ofNat i < (↑(4 : Nat) : Int))) (ifB (decide (i < (4 : Nat))) ((sloop_t3 p i ∧ sloop_t4 p i ∧ ifB ((outErr { r := p.1, c := p.2, E := fun (x : Nat) => { kind := (0 : Int), at' := (0 : Int), reason := (0 : Int) : Evt }, n := (0 : Nat), t := (p.4 i).2 : OP } != (0 : Int)) == false) (ifB ((outErr { r := p.1, c := p.2, E := fun (x : Nat) => { kind := (0 : Int), at' := (0 : Int), reason := (0 : Int) : Evt }, n := (0 : Nat), t := IntKind.i64.wrap ((p.4 i).2 + pickN p.3 (IntKind.i64.wrap ((p.4 i).3 - (p.4 i).2))) : OP } != (0 : Int)) == false) (ifB (decide (Int.ofNat i < (↑(4 : Nat) : Int))) (ifB (decide (i < (4 : Nat)) && true) (ifB ((!((outcome { r := p.1, c := p.2, E := fun (x : Nat) => { kind := (0 : Int), at' := (0 : Int), reason := (0 : Int) : Evt }, n := (0 : Nat), t := (p.4 i).2 : OP }).1 == (p.4 i).1 && ((outcome { r := p.1, c := p.2, E := fun (x : Nat) => { kind := (0 : Int), at' := (0 : Int), reason := (0 : Int) : Evt }, n := (0 : Nat), t := (p.4 i).2 : OP }).2 == (p.4 i).2 && ((outcome { r := p.1, c := p.2, E := fun (x : Nat) => { kind := (0 : Int), at' := (0 : Int), reason := (0 : Int) : Evt }, n := (0 : Nat), t := (p.4 i).2 : OP }).3 == (p.4 i).3 && true)))) == false) (ifB (decide (Int.ofNat i < (↑(4 : Nat) : Int))) (ifB (decide (i < (4 : Nat)) && true) (ifB (!((outcome { r := p.1, c := p.2, E := fun (x : Nat) => { kind := (0 : Int), at' := (0 : Int), reason := (0 : Int) : Evt }, n := (0 : Nat), t := IntKind.i64.wrap ((p.4 i).2 + pickN p.3 (IntKind.i64.wrap ((p.4 i).3 - (p.4 i).2))) : OP }).1 == (p.4 i).1 && ((outcome { r := p.1, c := p.2, E := fun (x : Nat) => { kind := (0 : Int), at' := (0 : Int), reason := (0 : Int) : Evt }, n := (0 : Nat), t := IntKind.i64.wrap ((p.4 i).2 + pickN p.3 (IntKind.i64.wrap ((p.4 i).3 - (p.4 i).2))) : OP }).2 == (p.4 i).2 && ((outcome { r := p.1, c := p.2, E := fun (x : Nat) => { kind := (0 : Int), at' := (0 : Int), reason := (0 : Int) : Evt }, n := (0 : Nat), t := IntKind.i64.wrap ((p.4 i).2 + pickN p.3 (IntKind.i64.wrap ((p.4 i).3 - (p.4 i).2))) : OP }).3 == (p.4 i).3 && true)))) (Leaf False) (Leaf (i < (4 : Nat)) ∧ (p.3 = p.3 ∧ true = true ∧ sloop_t5 ∧ sloop_t5 ∧ (4 : Nat) = (4 : Nat) ∧ Int.ofNat (i + (1 : Nat)) = IntKind.i64.wrap (Int.ofNat (i + (1 : Nat))) ∧ True) ∧ sloop_t6 p)) False) False) (Leaf False)) False) False) (Leaf False)) (Leaf False)) ∧ sloop_t3 p i ∧ sloop_t4 p i ∧ ifB ((outErr { r := p.1, c := p.2, E := fun (x : Nat) => { kind := (0 : Int), at' := (0 : Int), reason := (0 : Int) : Evt }, n := (0 : Nat), t := (p.4 i).2 : OP } != (0 : Int)) == false) (ifB ((outErr { r := p.1, c := p.2, E := fun (x : Nat) => { kind := (0 : Int), at' := (0 : Int), reason := (0 : Int) : Evt }, n := (0 : Nat), t := IntKind.i64.wrap ((p.4 i).2 + pickN p.3 (IntKind.i64.wrap ((p.4 i).3 - (p.4 i).2))) : OP } != (0 : Int)) == false) (ifB (decide (Int.ofNat i < (↑(4 : Nat) : Int))) (ifB (decide (i < (4 : Nat)) && true) (ifB ((!((outcome { r := p.1, c := p.2, E := fun (x : Nat) => { kind := (0 : Int), at' := (0 : Int), reason := (0 : Int) : Evt }, n := (0 : Nat), t := (p.4 i).2 : OP }).1 == (p.4 i).1 && ((outcome { r := p.1, c := p.2, E := fun (x : Nat) => { kind := (0 : Int), at' := (0 : Int), reason := (0 : Int) : Evt }, n := (0 : Nat), t := (p.4 i).2 : OP }).2 == (p.4 i).2 && ((outcome { r := p.1, c := p.2, E := fun (x : Nat) => { kind := (0 : Int), at' := (0 : Int), reason := (0 : Int) : Evt }, n := (0 : Nat), t := (p.4 i).2 : OP }).3 == (p.4 i).3 && true)))) == false) (ifB (decide (Int.ofNat i < (↑(4 : Nat) : Int))) (ifB (decide (i < (4 : Nat)) && true) (ifB (!((outcome { r := p.1, c := p.2, E := fun (x : Nat) => { kind := (0 : Int), at' := (0 : Int), reason := (0 : Int) : Evt }, n := (0 : Nat), t := IntKind.i64.wrap ((p.4 i).2 + pickN p.3 (IntKind.i64.wrap ((p.4 i).3 - (p.4 i).2))) : OP }).1 == (p.4 i).1 && ((outcome { r := p.1, c := p.2, E := fun (x : Nat) => { kind := (0 : Int), at' := (0 : Int), reason := (0 : Int) : Evt }, n := (0 : Nat), t := IntKind.i64.wrap ((p.4 i).2 + pickN p.3 (IntKind.i64.wrap ((p.4 i).3 - (p.4 i).2))) : OP }).2 == (p.4 i).2 && ((outcome { r := p.1, c := p.2, E := fun (x : Nat) => { kind := (0 : Int), at' := (0 : Int), reason := (0 : Int) : Evt }, n := (0 : Nat), t := IntKind.i64.wrap ((p.4 i).2 + pickN p.3 (IntKind.i64.wrap ((p.4 i).3 - (p.4 i).2))) : OP }).3 == (p.4 i).3 && true)))) (Leaf False) (Leaf (i < (4 : Nat)) ∧ (p.3 = p.3 ∧ true = true ∧ sloop_t5 ∧ sloop_t5 ∧ (4 : Nat) = (4 : Nat) ∧ Int.ofNat (i + (1 : Nat)) = IntKind.i64.wrap (Int.ofNat (i + (1 : Nat))) ∧ True) ∧ sloop_t6 p)) False) False) (Leaf False)) False) False) (Leaf False)) (Leaf False)) False) False)) False) False) (Leaf False)) False) False) False) False) False) False) False) False) (ifB (decide (Int.ofNat i < (↑(4 : Nat) : Int))) (ifB (decide (i < (4 : Nat))) ((sloop_t3 p i ∧ sloop_t7 p i ∧ ifB ((outErr { r := p.1, c := p.2, E := fun (x : Nat) => { kind := (0 : Int), at' := (0 : Int), reason := (0 : Int) : Evt }, n := (0 : Nat), t := (p.4 i).2 : OP } != (0 : Int)) == false) (ifB ((outErr { r := p.1, c := p.2, E := fun (x : Nat) => { kind := (0 : Int), at' := (0 : Int), reason := (0 : Int) : Evt }, n := (0 : Nat), t := IntKind.i64.wrap ((p.4 i).2 + pickN p.3 (1000 : Int)) : OP } != (0 : Int)) == false) (ifB (decide (Int.ofNat i < (↑(4 : Nat) : Int))) (ifB (decide (i < (4 : Nat)) && true) (ifB ((!((outcome { r := p.1, c := p.2, E := fun (x : Nat) => { kind := (0 : Int), at' := (0 : Int), reason := (0 : Int) : Evt }, n := (0 : Nat), t := (p.4 i).2 : OP }).1 == (p.4 i).1 && ((outcome { r := p.1, c := p.2, E := fun (x : Nat) => { kind := (0 : Int), at' := (0 : Int), reason := (0 : Int) : Evt }, n := (0 : Nat), t := (p.4 i).2 : OP }).2 == (p.4 i).2 && ((outcome { r := p.1, c := p.2, E := fun (x : Nat) => { kind := (0 : Int), at' := (0 : Int), reason := (0 : Int) : Evt }, n := (0 : Nat), t := (p.4 i).2 : OP }).3 == (p.4 i).3 && true)))) == false) (ifB (decide (Int.ofNat i < (↑(4 : Nat) : Int))) (ifB (decide (i < (4 : Nat)) && true) (ifB (!((outcome { r := p.1, c := p.2, E := fun (x : Nat) => { kind := (0 : Int), at' := (0 : Int), reason := (0 : Int) : Evt }, n := (0 : Nat), t := IntKind.i64.wrap ((p.4 i).2 + pickN p.3 (1000 : Int)) : OP }).1 == (p.4 i).1 && ((outcome { r := p.1, c := p.2, E := fun (x : Nat) => { kind := (0 : Int), at' := (0 : Int), reason := (0 : Int) : Evt }, n := (0 : Nat), t := IntKind.i64.wrap ((p.4 i).2 + pickN p.3 (1000 : Int)) : OP }).2 == (p.4 i).2 && ((outcome { r := p.1, c := p.2, E := fun (x : Nat) => { kind := (0 : Int), at' := (0 : Int), reason := (0 : Int) : Evt }, n := (0 : Nat), t := IntKind.i64.wrap ((p.4 i).2 + pickN p.3 (1000 : Int)) : OP }).3 == (p.4 i).3 && true)))) (Leaf False) (Leaf (i < (4 : Nat)) ∧ (p.3 = p.3 ∧ true = true ∧ sloop_t5 ∧ sloop_t5 ∧ (4 : Nat) = (4 : Nat) ∧ Int.ofNat (i + (1 : Nat)) = IntKind.i64.wrap (Int.ofNat (i + (1 : Nat))) ∧ True) ∧ sloop_t6 p)) False) False) (Leaf False)) False) False) (Leaf False)) (Leaf False)) ∧ sloop_t3 p i ∧ sloop_t7 p i ∧ ifB ((outErr { r := p.1, c := p.2, E := fun (x : Nat) => { kind := (0 : Int), at' := (0 : Int), reason := (0 : Int) : Evt }, n := (0 : Nat), t := (p.4 i).2 : OP } != (0 : Int)) == false) (ifB ((outErr { r := p.1, c := p.2, E := fun (x : Nat) => { kind := (0 : Int), at' := (0 : Int), reason := (0 : Int) : Evt }, n := (0 : Nat), t := IntKind.i64.wrap ((p.4 i).2 + pickN p.3 (1000 : Int)) : OP } != (0 : Int)) == false) (ifB (decide (Int.ofNat i < (↑(4 : Nat) : Int))) (ifB (decide (i < (4 : Nat)) && true) (ifB ((!((outcome { r := p.1, c := p.2, E := fun (x : Nat) => { kind := (0 : Int), at' := (0 : Int), reason := (0 : Int) : Evt }, n := (0 : Nat), t := (p.4 i).2 : OP }).1 == (p.4 i).1 && ((outcome { r := p.1, c := p.2, E := fun (x : Nat) => { kind := (0 : Int), at' := (0 : Int), reason := (0 : Int) : Evt }, n := (0 : Nat), t := (p.4 i).2 : OP }).2 == (p.4 i).2 && ((outcome { r := p.1, c := p.2, E := fun (x : Nat) => { kind := (0 : Int), at' := (0 : Int), reason := (0 : Int) : Evt }, n := (0 : Nat), t := (p.4 i).2 : OP }).3 == (p.4 i).3 && true)))) == false) (ifB (decide (Int.ofNat i < (↑(4 : Nat) : Int))) (ifB (decide (i < (4 : Nat)) && true) (ifB (!((outcome { r := p.1, c := p.2, E := fun (x : Nat) => { kind := (0 : Int), at' := (0 : Int), reason := (0 : Int) : Evt }, n := (0 : Nat), t := IntKind.i64.wrap ((p.4 i).2 + pickN p.3 (1000 : Int)) : OP }).1 == (p.4 i).1 && ((outcome { r := p.1, c := p.2, E := fun (x : Nat) => { kind := (0 : Int), at' := (0 : Int), reason := (0 : Int) : Evt }, n := (0 : Nat), t := IntKind.i64.wrap ((p.4 i).2 + pickN p.3 (1000 : Int)) : OP }).2 == (p.4 i).2 && ((outcome { r := p.1, c := p.2, E := fun (x : Nat) => { kind := (0 : Int), at' := (0 : Int), reason := (0 : Int) : Evt }, n := (0 : Nat), t := IntKind.i64.wrap ((p.4 i).2 + pickN p.3 (1000 : Int)) : OP }).3 == (p.4 i).3 && true)))) (Leaf False) (Leaf (i < (4 : Nat)) ∧ (p.3 = p.3 ∧ true = true ∧ sloop_t5 ∧ sloop_t5 ∧ (4 : Nat) = (4 : Nat) ∧ Int.ofNat (i + (1 : Nat)) = IntKind.i64.wrap (Int.ofNat (i + (1 : Nat))) ∧ True) ∧ sloop_t6 p)) False) False) (Leaf False)) False) False) (Leaf False)) (Leaf False)) False) False)) False) False) False) False) (sloop_t8 p)
theorem sloop_eq (p : SQ) (i : Nat) : exec XL 60 4 lS.code (lS.I p i) (zS p i) = sloop_T p i := by kernel_rfl

def noE : Nat → Evt := fun _ => ⟨0, 0, 0⟩
theorem silent_good {r : Rul} {c : Clm} (hr : r.small) (hc : c.ok = true) : Good r c noE 0 := ⟨hr, (CP.ok_iff _).2 ⟨hr.ok, hc, Nat.zero_le _, fun j hj => absurd hj (Nat.not_lt_zero j)⟩⟩
theorem silent_out {r : Rul} {c : Clm} (hr : r.small) (hc : c.ok = true) (ha : 0 ≤ c.asked ∧ c.asked ≤ 999) {j : Nat} (hj : j < 4) {u : Int} (h0 : (silent r c j).since ≤ u) (h1 : (silent r c j).next < 0 ∨ u < (silent r c j).next) (hb : u ≤ 20000000) :
    outErr ⟨r, c, noE, 0, u⟩ = 0 ∧ outcome ⟨r, c, noE, 0, u⟩ = silent r c j := by
  have hr' := hr
  obtain ⟨r1, r2, r3, r4⟩ := hr'
  have hg := silent_good hr hc
  have hs : c.asked ≤ (silent r c j).since := by
    unfold silent
    repeat' split
    all_goals dsimp only
    all_goals omega
  obtain ⟨o1, o2⟩ := hg.out (t := u) (by omega) hb
  refine ⟨o1, ?_⟩
  rw [o2]
  show goN r u 4 (begins r 1 c.asked) = _
  rw [beg1 hr (by omega) (by omega)]
  obtain rfl | rfl | rfl | rfl : j = 0 ∨ j = 1 ∨ j = 2 ∨ j = 3 := by omega
  · simp only [silent, if_true] at h0 h1 ⊢
    exact goN_halt (by dsimp only; omega)
  · simp [silent] at h0 h1 ⊢
    rw [goN_go (by dsimp only; omega) (by dsimp only; omega), st1 hr (by omega) (by omega)]
    exact goN_halt (by dsimp only; omega)
  · simp [silent] at h0 h1 ⊢
    rw [goN_go (by dsimp only; omega) (by dsimp only; omega), st1 hr (by omega) (by omega), goN_go (by dsimp only; omega) (by dsimp only; omega), st3 hr (by omega) (by omega)]
    exact goN_halt (by dsimp only; omega)
  · simp [silent] at h0 h1 ⊢
    rw [goN_go (by dsimp only; omega) (by dsimp only; omega), st1 hr (by omega) (by omega), goN_go (by dsimp only; omega) (by dsimp only; omega), st3 hr (by omega) (by omega), goN_go (by dsimp only; omega) (by dsimp only; omega), st4 hr (by omega) (by omega)]
    exact goN_halt (by dsimp only; omega)
theorem silent_b {r : Rul} {c : Clm} (hr : r.small) (ha : 0 ≤ c.asked ∧ c.asked ≤ 999) (j : Nat) : 0 ≤ (silent r c j).since ∧ (silent r c j).since ≤ 1000000 ∧ ((silent r c j).next = -1 ∨ ((silent r c j).since < (silent r c j).next ∧ (silent r c j).next ≤ 1000000)) := by
  obtain ⟨r1, r2, r3, r4⟩ := hr
  unfold silent
  repeat' split
  all_goals dsimp only
  all_goals omega
set_option maxHeartbeats 4000000 in
theorem sloop_step (p : SQ) (i : Nat) (hJ : lS_J p i) : sloop_T p i := by
  obtain ⟨h1, hr, hc, ha, ht, hW⟩ := hJ
  have hs : i < 4 → 0 ≤ (p.W i).since ∧ (p.W i).since ≤ 1000000 ∧ ((p.W i).next = -1 ∨ ((p.W i).since < (p.W i).next ∧ (p.W i).next ≤ 1000000)) := fun h => by rw [hW i h]; exact silent_b hr ha i
  have ho : ∀ u, i < 4 → (p.W i).since ≤ u → ((p.W i).next < 0 ∨ u < (p.W i).next) → u ≤ 20000000 → outErr ⟨p.r, p.c, noE, 0, u⟩ = 0 ∧ outcome ⟨p.r, p.c, noE, 0, u⟩ = p.W i := fun u h a b c => by
    rw [hW i h] at a b ⊢
    exact silent_out hr hc ha h a b c
  have e1 : i < 4 → 0 ≤ (p.W i).next → outErr ⟨p.r, p.c, noE, 0, IntKind.i64.wrap ((p.W i).next - 1)⟩ = 0 ∧ outcome ⟨p.r, p.c, noE, 0, IntKind.i64.wrap ((p.W i).next - 1)⟩ = p.W i := fun h hn => by
    have := hs h
    have hw : IntKind.i64.wrap ((p.W i).next - 1) = (p.W i).next - 1 := w64_small (by omega) (by omega)
    rw [hw]
    exact ho _ h (by omega) (by omega) (by omega)
  have e2 : i < 4 → outErr ⟨p.r, p.c, noE, 0, (p.W i).since⟩ = 0 ∧ outcome ⟨p.r, p.c, noE, 0, (p.W i).since⟩ = p.W i := fun h => by
    have := hs h
    exact ho _ h (by omega) (by omega) (by omega)
  have e3 : i < 4 → 0 ≤ (p.W i).next → outErr ⟨p.r, p.c, noE, 0, IntKind.i64.wrap ((p.W i).since + pickN p.t (IntKind.i64.wrap ((p.W i).next - (p.W i).since)))⟩ = 0 ∧ outcome ⟨p.r, p.c, noE, 0, IntKind.i64.wrap ((p.W i).since + pickN p.t (IntKind.i64.wrap ((p.W i).next - (p.W i).since)))⟩ = p.W i := fun h hn => by
    have := hs h
    have hw : IntKind.i64.wrap ((p.W i).next - (p.W i).since) = (p.W i).next - (p.W i).since := w64_small (by omega) (by omega)
    rw [hw]
    have hp := pickN_b ht (n := (p.W i).next - (p.W i).since) (by omega)
    have hw2 : IntKind.i64.wrap ((p.W i).since + pickN p.t ((p.W i).next - (p.W i).since)) = (p.W i).since + pickN p.t ((p.W i).next - (p.W i).since) := w64_small (by omega) (by omega)
    rw [hw2]
    exact ho _ h (by omega) (by omega) (by omega)
  have e4 : i < 4 → ¬ 0 ≤ (p.W i).next → outErr ⟨p.r, p.c, noE, 0, IntKind.i64.wrap ((p.W i).since + pickN p.t 1000)⟩ = 0 ∧ outcome ⟨p.r, p.c, noE, 0, IntKind.i64.wrap ((p.W i).since + pickN p.t 1000)⟩ = p.W i := fun h hn => by
    have := hs h
    have hp := pickN_b ht (n := 1000) (by omega)
    have hw2 : IntKind.i64.wrap ((p.W i).since + pickN p.t 1000) = (p.W i).since + pickN p.t 1000 := w64_small (by omega) (by omega)
    rw [hw2]
    exact ho _ h (by omega) (by omega) (by omega)
  have e5 : i < 4 → 0 ≤ (p.W i).next → 0 < IntKind.i64.wrap ((p.W i).next - (p.W i).since) := fun h hn => by
    have := hs h
    have hw : IntKind.i64.wrap ((p.W i).next - (p.W i).since) = (p.W i).next - (p.W i).since := w64_small (by omega) (by omega)
    rw [hw]; omega
  have e6 : IntKind.i64.wrap (Int.ofNat (i + 1)) = Int.ofNat (i + 1) := wrapSmall (by simp only [Int.ofNat_eq_natCast]; omega) (by simp only [Int.ofNat_eq_natCast]; omega)
  have hE : (fun _ : Nat => (⟨0, 0, 0⟩ : Evt)) = noE := rfl
  rcases Nat.lt_or_ge i 4 with hi | hi
  · rcases Int.lt_or_le (p.W i).next 0 with hn | hn
    · have e2 := e2 hi
      have e4 := e4 hi (by omega)
      unfold sloop_T
      simp only [hE, e2.1, e2.2, e4.1, e4.2, e6]
      repeat' (first | with_reducible refine ifB_split (fun _ => ?_) (fun _ => ?_) | with_reducible refine And.intro ?_ ?_)
      all_goals try first | with_reducible exact sloop_t0_t _ | with_reducible exact sloop_t1_t _ _ | with_reducible exact sloop_t2_t _ _ | with_reducible exact sloop_t3_t _ _ | with_reducible exact sloop_t4_t _ _ | with_reducible exact sloop_t5_t | with_reducible exact sloop_t6_t _ | with_reducible exact sloop_t7_t _ _ | with_reducible exact sloop_t8_t _ | with_reducible rfl | with_reducible exact trivial | with_reducible exact List.Perm.refl _
      all_goals first
        | decide
        | exact e6.symm
        | rfl
        | (simp [Leaf] at *; done)
        | (simp [Leaf] at *; omega)
        | trace_state
    · have e1 := e1 hi hn
      have e2 := e2 hi
      have e3 := e3 hi hn
      have e5 := e5 hi hn
      unfold sloop_T
      simp only [hE, e1.1, e1.2, e2.1, e2.2, e3.1, e3.2, e6]
      repeat' (first | with_reducible refine ifB_split (fun _ => ?_) (fun _ => ?_) | with_reducible refine And.intro ?_ ?_)
      all_goals try first | with_reducible exact sloop_t0_t _ | with_reducible exact sloop_t1_t _ _ | with_reducible exact sloop_t2_t _ _ | with_reducible exact sloop_t3_t _ _ | with_reducible exact sloop_t4_t _ _ | with_reducible exact sloop_t5_t | with_reducible exact sloop_t6_t _ | with_reducible exact sloop_t7_t _ _ | with_reducible exact sloop_t8_t _ | with_reducible rfl | with_reducible exact trivial | with_reducible exact List.Perm.refl _
      all_goals first
        | decide
        | exact e5
        | exact e6.symm
        | rfl
        | (simp [Leaf] at *; done)
        | (simp [Leaf] at *; omega)
        | trace_state
  · unfold sloop_T
    repeat' (first | with_reducible refine ifB_split (fun _ => ?_) (fun _ => ?_) | with_reducible refine And.intro ?_ ?_)
    all_goals try first | with_reducible exact sloop_t0_t _ | with_reducible exact sloop_t1_t _ _ | with_reducible exact sloop_t2_t _ _ | with_reducible exact sloop_t3_t _ _ | with_reducible exact sloop_t4_t _ _ | with_reducible exact sloop_t5_t | with_reducible exact sloop_t6_t _ | with_reducible exact sloop_t7_t _ _ | with_reducible exact sloop_t8_t _ | with_reducible rfl | with_reducible exact trivial | with_reducible exact List.Perm.refl _
    all_goals first
      | rfl
      | (simp only [Int.ofNat_eq_natCast, decide_eq_true_eq] at *; omega)
      | trace_state
end Go.Proofs.Ytmcidfecepknpaa

namespace Go.Proofs.Ytmcidfecepknpaa
open Go Go.Sh Go.Proofs
set_option linter.unusedVariables false
set_option linter.unusedSimpArgs false

set_option maxRecDepth 100000 in
theorem sloop_ok : LoopOK XL.P lS.code lS.L := by
  refine lS.ok XL_ok 60 4 (fun p i => 4 - i) zS (fun _ _ _ => trivial) (fun p d w q hw => ?_) (fun p i S' hJ h => ?_) (fun p i x S' hx hJ h => ?_) fun p i hJ => ?_
  · match w, hw with
    | 0, _ => exact trivial
  · obtain ⟨h1, h2⟩ := h
    simp only [Leaf] at h1
    obtain ⟨j1, j2⟩ := hJ
    exact ⟨[], i + 1, by show 4 - (i + 1) < 4 - i; omega, ⟨h1, j2⟩, h2⟩
  · cases x with
    | normal => exact hx.elim
    | ret => exact (show False from h).elim
    | exit k =>
      obtain ⟨h0, h2⟩ := gateB_spec h
      have h0 := Nat.eq_of_beq_eq_true h0
      subst h0
      exact ⟨0, 0, [], Nat.lt_succ_self 0, trivial, rfl, h2⟩
  · rw [sloop_eq]
    exact sloop_step p i hJ
noncomputable def XSil (r : Rul) (c : Clm) (E : Nat → Evt) (n : Nat) : Ctx := (XG r c E n).loop 4 11 lS.code (lS.by exS)
theorem XSil_ok (r : Rul) (c : Clm) (E : Nat → Evt) (n : Nat) : (XSil r c E n).OK := Ctx.loop_ok (XG_ok r c E n) (sloop_ok.by exS)
/-- A law's contract, from its run in a context of its own. -/
theorem lawX {π : Type} {f : FuncId} {s : FSpec π} (X : Rul → Clm → (Nat → Evt) → Nat → Ctx) (hX : ∀ r c E n, (X r c E n).OK) (hP : ∀ r c E n, (X r c E n).P = Try.prog) (N : Nat) (T : π → Rul → Clm → (Nat → Evt) → Nat → Prop)
    (eq : ∀ p r c E n, callBy (X r c E n) (exec (X r c E n) N) f (s.A p) (s.H p) (RetC (s.H p).length (s.R p) (s.O p)) = T p r c E n)
    (views : ∀ p, viewsB (s.H p) = true) (hO : ∀ p, s.O p = []) (g : π → NP) (run : ∀ p, s.J p → T p (mR (g p)) (mC (g p)) (mE (g p)) (mN (g p))) : s.OK Try.prog f :=
  ⟨views, fun p _ o ho => (by rw [hO] at ho; cases ho), fun p hJ => by
    have := (callBy_ok (hX _ _ _ _) (exec_sound (hX _ _ _ _) N) _ _ _ _ ((eq p _ _ _ _).mpr (run p hJ))).mono fun _ _ => RetC.wk
    rw [hP] at this
    exact this⟩
end Go.Proofs.Ytmcidfecepknpaa

namespace Go.Proofs.Ytmcidfecepknpaa
open Go Go.Sh Go.Proofs
set_option linter.unusedVariables false
set_option linter.unusedSimpArgs false
def silence_t0 : Prop :=
  True ∧ (0 : Nat) = (0 : Nat) ∧ True ∧ True
theorem silence_t0_t : silence_t0 :=
  ⟨trivial, ⟨rfl, ⟨trivial, trivial⟩⟩⟩
def silence_t1 (p : TX) : Prop :=
  (1 : Nat) = (1 : Nat) ∧ ((p.1.1.1 = p.1.1.1 ∧ p.1.1.2 = p.1.1.2 ∧ p.1.1.3 = p.1.1.3 ∧ p.1.1.4 = p.1.1.4 ∧ p.1.2 = p.1.2 ∧ p.1.3 = p.1.3 ∧ p.1.4 = p.1.4 ∧ p.1.5 = p.1.5 ∧ p.1.6 = p.1.6 ∧ p.1.7 = p.1.7 ∧ (0 : Nat) = (0 : Nat) ∧ True) ∧ True) ∧ (0 : Nat) = (0 : Nat) ∧ True
theorem silence_t1_t (p : TX) : silence_t1 p :=
  ⟨rfl, ⟨⟨⟨rfl, ⟨rfl, ⟨rfl, ⟨rfl, ⟨rfl, ⟨rfl, ⟨rfl, ⟨rfl, ⟨rfl, ⟨rfl, ⟨rfl, trivial⟩⟩⟩⟩⟩⟩⟩⟩⟩⟩⟩, trivial⟩, ⟨rfl, trivial⟩⟩⟩
def silence_t2 (p : TX) : Prop :=
  p.2 = p.2 ∧ true = true ∧ ((0 : Nat) = (0 : Nat) ∧ (0 : Nat) = (0 : Nat)) ∧ ((0 : Nat) = (0 : Nat) ∧ (0 : Nat) = (0 : Nat)) ∧ (4 : Nat) = (4 : Nat) ∧ (0 : Int) = (0 : Int) ∧ True
theorem silence_t2_t (p : TX) : silence_t2 p :=
  ⟨rfl, ⟨rfl, ⟨⟨rfl, rfl⟩, ⟨⟨rfl, rfl⟩, ⟨rfl, ⟨rfl, trivial⟩⟩⟩⟩⟩⟩
def silence_t3 (r : Rul) : Prop :=
  (1 : Nat) = (1 : Nat) ∧ ∀ (i : Nat), i < (1 : Nat) → r.1 = r.1 ∧ r.2 = r.2 ∧ r.3 = r.3 ∧ r.4 = r.4 ∧ True
theorem silence_t3_t (r : Rul) : silence_t3 r :=
  ⟨rfl, (fun _ => (fun _ => ⟨rfl, ⟨rfl, ⟨rfl, ⟨rfl, trivial⟩⟩⟩⟩))⟩
def silence_t4 (c : Clm) : Prop :=
  (1 : Nat) = (1 : Nat) ∧ ∀ (i : Nat), i < (1 : Nat) → c.1 = c.1 ∧ c.2 = c.2 ∧ c.3 = c.3 ∧ c.4 = c.4 ∧ c.5 = c.5 ∧ c.6 = c.6 ∧ True
theorem silence_t4_t (c : Clm) : silence_t4 c :=
  ⟨rfl, (fun _ => (fun _ => ⟨rfl, ⟨rfl, ⟨rfl, ⟨rfl, ⟨rfl, ⟨rfl, trivial⟩⟩⟩⟩⟩⟩))⟩
def silence_t5 (r : Rul) (c : Clm) : Prop :=
  True ∧ (1 : Nat) = (1 : Nat) ∧ ((r.1 = r.1 ∧ r.2 = r.2 ∧ r.3 = r.3 ∧ r.4 = r.4 ∧ True) ∧ (c.1 = c.1 ∧ c.2 = c.2 ∧ c.3 = c.3 ∧ c.4 = c.4 ∧ c.5 = c.5 ∧ c.6 = c.6 ∧ True) ∧ (0 : Nat) = (0 : Nat) ∧ IntKind.i64.wrap (c.5 - (1 : Int)) = IntKind.i64.wrap (c.5 - (1 : Int)) ∧ True) ∧ (0 : Nat) = (0 : Nat) ∧ True
theorem silence_t5_t (r : Rul) (c : Clm) : silence_t5 r c :=
  ⟨trivial, ⟨rfl, ⟨⟨⟨rfl, ⟨rfl, ⟨rfl, ⟨rfl, trivial⟩⟩⟩⟩, ⟨⟨rfl, ⟨rfl, ⟨rfl, ⟨rfl, ⟨rfl, ⟨rfl, trivial⟩⟩⟩⟩⟩⟩, ⟨rfl, ⟨rfl, trivial⟩⟩⟩⟩, ⟨rfl, trivial⟩⟩⟩⟩
def silence_T (p : TX) (r : Rul) (c : Clm) (E : Nat → Evt) (n : Nat) : Prop :=
  silence_t0 ∧
  silence_t1 p ∧
    mEq_J { x := p.1.1, y0 := p.1.2, y1 := p.1.3, y2 := p.1.4, y3 := p.1.5, y4 := p.1.6, y5 := p.1.7, Z := fun (x : Nat) => { a := (0 : Int), b := (0 : Int), c := (0 : Int) : Z3 }, n := (0 : Nat) : NP } r c E n ∧
      lS.code = lS.code ∧
        (lS_J { r := r, c := c, t := p.2, W := fun (i : Nat) => Sta.ofC (List.take (3 : Nat) (List.drop (i * (3 : Nat)) [SV.int IntKind.i64 (1 : Int), SV.int IntKind.i64 c.5, SV.int IntKind.i64 (IntKind.i64.wrap (c.5 + r.1)), SV.int IntKind.i64 (3 : Int), SV.int IntKind.i64 (IntKind.i64.wrap (c.5 + r.1)), SV.int IntKind.i64 (IntKind.i64.wrap (IntKind.i64.wrap (c.5 + r.1) + r.2)), SV.int IntKind.i64 (4 : Int), SV.int IntKind.i64 (IntKind.i64.wrap (IntKind.i64.wrap (c.5 + r.1) + r.2)), SV.int IntKind.i64 (IntKind.i64.wrap (IntKind.i64.wrap (IntKind.i64.wrap (c.5 + r.1) + r.2) + r.4)), SV.int IntKind.i64 (5 : Int), SV.int IntKind.i64 (IntKind.i64.wrap (IntKind.i64.wrap (IntKind.i64.wrap (c.5 + r.1) + r.2) + r.4)), SV.int IntKind.i64 (-1 : Int)])) : SQ } (0 : Nat) ∧
            (6 : Nat) = (6 : Nat) ∧
              True ∧
                silence_t2 p ∧
                  silence_t3 r ∧
                    silence_t4 c ∧
                      ((4 : Nat) = (4 : Nat) ∧
                          ∀ (i : Nat),
                            i < (4 : Nat) →
                              wkVs
                                (fun (l : Nat) =>
                                  match decide (l < (6 : Nat)) with
                                  | true => some l
                                  | false => none)
                                (fun (l : Nat) =>
                                  match decide (l < (6 : Nat)) with
                                  | true => false
                                  | false => false)
                                [SV.int IntKind.i64 (Sta.ofC (List.take (3 : Nat) (List.drop (i * (3 : Nat)) [SV.int IntKind.i64 (1 : Int), SV.int IntKind.i64 c.5, SV.int IntKind.i64 (IntKind.i64.wrap (c.5 + r.1)), SV.int IntKind.i64 (3 : Int), SV.int IntKind.i64 (IntKind.i64.wrap (c.5 + r.1)), SV.int IntKind.i64 (IntKind.i64.wrap (IntKind.i64.wrap (c.5 + r.1) + r.2)), SV.int IntKind.i64 (4 : Int), SV.int IntKind.i64 (IntKind.i64.wrap (IntKind.i64.wrap (c.5 + r.1) + r.2)), SV.int IntKind.i64 (IntKind.i64.wrap (IntKind.i64.wrap (IntKind.i64.wrap (c.5 + r.1) + r.2) + r.4)), SV.int IntKind.i64 (5 : Int), SV.int IntKind.i64 (IntKind.i64.wrap (IntKind.i64.wrap (IntKind.i64.wrap (c.5 + r.1) + r.2) + r.4)), SV.int IntKind.i64 (-1 : Int)]))).1, SV.int IntKind.i64 (Sta.ofC (List.take (3 : Nat) (List.drop (i * (3 : Nat)) [SV.int IntKind.i64 (1 : Int), SV.int IntKind.i64 c.5, SV.int IntKind.i64 (IntKind.i64.wrap (c.5 + r.1)), SV.int IntKind.i64 (3 : Int), SV.int IntKind.i64 (IntKind.i64.wrap (c.5 + r.1)), SV.int IntKind.i64 (IntKind.i64.wrap (IntKind.i64.wrap (c.5 + r.1) + r.2)), SV.int IntKind.i64 (4 : Int), SV.int IntKind.i64 (IntKind.i64.wrap (IntKind.i64.wrap (c.5 + r.1) + r.2)), SV.int IntKind.i64 (IntKind.i64.wrap (IntKind.i64.wrap (IntKind.i64.wrap (c.5 + r.1) + r.2) + r.4)), SV.int IntKind.i64 (5 : Int), SV.int IntKind.i64 (IntKind.i64.wrap (IntKind.i64.wrap (IntKind.i64.wrap (c.5 + r.1) + r.2) + r.4)), SV.int IntKind.i64 (-1 : Int)]))).2, SV.int IntKind.i64 (Sta.ofC (List.take (3 : Nat) (List.drop (i * (3 : Nat)) [SV.int IntKind.i64 (1 : Int), SV.int IntKind.i64 c.5, SV.int IntKind.i64 (IntKind.i64.wrap (c.5 + r.1)), SV.int IntKind.i64 (3 : Int), SV.int IntKind.i64 (IntKind.i64.wrap (c.5 + r.1)), SV.int IntKind.i64 (IntKind.i64.wrap (IntKind.i64.wrap (c.5 + r.1) + r.2)), SV.int IntKind.i64 (4 : Int), SV.int IntKind.i64 (IntKind.i64.wrap (IntKind.i64.wrap (c.5 + r.1) + r.2)), SV.int IntKind.i64 (IntKind.i64.wrap (IntKind.i64.wrap (IntKind.i64.wrap (c.5 + r.1) + r.2) + r.4)), SV.int IntKind.i64 (5 : Int), SV.int IntKind.i64 (IntKind.i64.wrap (IntKind.i64.wrap (IntKind.i64.wrap (c.5 + r.1) + r.2) + r.4)), SV.int IntKind.i64 (-1 : Int)]))).3] (List.take (3 : Nat) (List.drop (i * (3 : Nat)) [SV.int IntKind.i64 (1 : Int), SV.int IntKind.i64 c.5, SV.int IntKind.i64 (IntKind.i64.wrap (c.5 + r.1)), SV.int IntKind.i64 (3 : Int), SV.int IntKind.i64 (IntKind.i64.wrap (c.5 + r.1)), SV.int IntKind.i64 (IntKind.i64.wrap (IntKind.i64.wrap (c.5 + r.1) + r.2)), SV.int IntKind.i64 (4 : Int), SV.int IntKind.i64 (IntKind.i64.wrap (IntKind.i64.wrap (c.5 + r.1) + r.2)), SV.int IntKind.i64 (IntKind.i64.wrap (IntKind.i64.wrap (IntKind.i64.wrap (c.5 + r.1) + r.2) + r.4)), SV.int IntKind.i64 (5 : Int), SV.int IntKind.i64 (IntKind.i64.wrap (IntKind.i64.wrap (IntKind.i64.wrap (c.5 + r.1) + r.2) + r.4)), SV.int IntKind.i64 (-1 : Int)]))) ∧
                        True) ∧
          True ∧ ∀ (q : Nat), Leaf True → ifB (decide (c.5 > (0 : Int))) (silence_t5 r c ∧ ifB ((outErr { r := r, c := c, E := fun (x : Nat) => { kind := (0 : Int), at' := (0 : Int), reason := (0 : Int) : Evt }, n := (0 : Nat), t := IntKind.i64.wrap (c.5 - (1 : Int)) : OP } == (0 : Int)) == true) (true = ((outcome { r := r, c := c, E := fun (x : Nat) => { kind := (0 : Int), at' := (0 : Int), reason := (0 : Int) : Evt }, n := (0 : Nat), t := IntKind.i64.wrap (c.5 - (1 : Int)) : OP }).1 == (0 : Int) && ((outcome { r := r, c := c, E := fun (x : Nat) => { kind := (0 : Int), at' := (0 : Int), reason := (0 : Int) : Evt }, n := (0 : Nat), t := IntKind.i64.wrap (c.5 - (1 : Int)) : OP }).2 == (0 : Int) && ((outcome { r := r, c := c, E := fun (x : Nat) => { kind := (0 : Int), at' := (0 : Int), reason := (0 : Int) : Evt }, n := (0 : Nat), t := IntKind.i64.wrap (c.5 - (1 : Int)) : OP }).3 == c.5 && true))) ∧ True) (true = false ∧ True)) (true = true ∧ True)
theorem silence_eq (p : TX) (r : Rul) (c : Clm) (E : Nat → Evt) (n : Nat) : callBy (XSil r c E n) (exec (XSil r c E n) 100) 4 (sSilence.A p) (sSilence.H p) (RetC (sSilence.H p).length (sSilence.R p) (sSilence.O p)) = silence_T p r c E n := by kernel_rfl

theorem Good.early {r : Rul} {c : Clm} {E : Nat → Evt} {n : Nat} (h : Good r c E n) {t : Int} (h0 : 0 ≤ t) (ht : t < c.asked) : outErr ⟨r, c, E, n, t⟩ = 0 ∧ outcome ⟨r, c, E, n, t⟩ = ⟨0, 0, c.asked⟩ := by
  have ha := h.asked
  have hok : OP.ok ⟨r, c, E, n, t⟩ = true := by
    unfold OP.ok
    rw [show OP.cp ⟨r, c, E, n, t⟩ = ⟨r, c, E, n⟩ from rfl, h.ok, decide_eq_true (p := 0 ≤ t) h0, decide_eq_true (p := t ≤ 20000000) (by omega)]
    rfl
  refine ⟨by simp only [outErr, hok], ?_⟩
  simp only [outcome, hok, outT]
  rw [decide_eq_true ht]
def noEv (x : NP) : NP := ⟨x.x, x.y0, x.y1, x.y2, x.y3, x.y4, x.y5, fun _ => ⟨0, 0, 0⟩, 0⟩
theorem noEv_fits {x : NP} (h : x.fits) : (noEv x).fits := ⟨h.a, h.b, h.c, h.d, h.y0, h.y1, h.y2, h.y3, h.y4, h.y5, fun i hi => absurd hi (Nat.not_lt_zero i)⟩
set_option maxHeartbeats 4000000 in
theorem silence_step (p : TX) (hJ : sSilence.J p) : silence_T p (mR (noEv p.x)) (mC (noEv p.x)) (mE (noEv p.x)) (mN (noEv p.x)) := by
  obtain ⟨hx, ht⟩ := hJ
  have hx' := noEv_fits hx
  obtain ⟨hg, hn, ha⟩ := made_good hx'
  have hm : mEq_J (noEv p.x) (mR (noEv p.x)) (mC (noEv p.x)) (mE (noEv p.x)) (mN (noEv p.x)) := ⟨rfl, rfl, rfl, rfl⟩
  have hask := (mC_ok hx').2
  have hcok := (mC_ok hx').1
  generalize mR (noEv p.x) = r at hg hm ⊢
  generalize mC (noEv p.x) = c at hg hm ha hask hcok ⊢
  generalize mE (noEv p.x) = E at hg hm ⊢
  generalize mN (noEv p.x) = n at hg hm hn ⊢
  have hr := hg.small
  obtain ⟨r1, r2, r3, r4⟩ := hg.small
  have w1 : IntKind.i64.wrap (c.asked + r.answer) = c.asked + r.answer := w64_small (by omega) (by omega)
  have w2 : IntKind.i64.wrap (c.asked + r.answer + r.cooling) = c.asked + r.answer + r.cooling := w64_small (by omega) (by omega)
  have w3 : IntKind.i64.wrap (c.asked + r.answer + r.cooling + r.reverse) = c.asked + r.answer + r.cooling + r.reverse := w64_small (by omega) (by omega)
  have w4 : IntKind.i64.wrap (c.asked - 1) = c.asked - 1 := w64_small (by omega) (by omega)
  have hE : (fun _ : Nat => (⟨0, 0, 0⟩ : Evt)) = noE := rfl
  have he : 0 < c.asked → outErr ⟨r, c, noE, 0, c.asked - 1⟩ = 0 ∧ outcome ⟨r, c, noE, 0, c.asked - 1⟩ = ⟨0, 0, c.asked⟩ := fun h => (silent_good hr hcok).early (by omega) (by omega)
  unfold silence_T
  simp only [w1, w2, w3, w4, hE]
  repeat' (first | with_reducible refine ifB_split (fun _ => ?_) (fun _ => ?_) | with_reducible refine And.intro ?_ ?_ | with_reducible refine fun (q : Nat) (hq : Leaf True) => ?_)
  all_goals try first | with_reducible exact silence_t0_t | with_reducible exact silence_t1_t _ | with_reducible exact silence_t2_t _ | with_reducible exact silence_t3_t _ | with_reducible exact silence_t4_t _ | with_reducible exact silence_t5_t _ _ | with_reducible rfl | with_reducible exact trivial | with_reducible exact List.Perm.refl _ | decide
  all_goals first
    | exact hm
    | (refine ⟨Nat.zero_le _, hr, hcok, hask, ht, fun j hj => ?_⟩
       obtain rfl | rfl | rfl | rfl : j = 0 ∨ j = 1 ∨ j = 2 ∨ j = 3 := by omega
       all_goals rfl)
    | (intro i hi
       obtain rfl | rfl | rfl | rfl : i = 0 ∨ i = 1 ∨ i = 2 ∨ i = 3 := by omega
       all_goals exact ⟨rfl, rfl, rfl, trivial⟩)
    | (have hpos : 0 < c.asked := by simp only [gt_iff_lt, decide_eq_true_eq] at *; assumption
       have he := he hpos
       simp only [he.1, he.2] at *
       simp at *; done)
    | (simp at *; done)
    | trace_state
theorem silence_ok : sSilence.OK Try.prog 4 := lawX XSil XSil_ok (fun _ _ _ _ => rfl) 100 silence_T silence_eq (fun _ => rfl) (fun _ => rfl) (fun p => noEv p.x) silence_step
end Go.Proofs.Ytmcidfecepknpaa

