/-
  ClaimTimelines returns true for every input: each status of the timeline begins when the one before it ends, by itself or by an event that is not void; there is one status for each event that is not void, one for each change by itself, and the first one; the last one is closed; and the outcome at a time is the last status that began by then. No condition.
-/
import Derived.Test.YtmcidfecepknpaaRows
import Derived.ProofKit
import Derived.Test.YtmcidfecepknpaaW4
set_option linter.unusedVariables false
set_option linter.unusedSimpArgs false

/-
  ClaimTimelines returns true for every input and changes nothing: no condition.
-/
namespace Go.Proofs.Ytmcidfecepknpaa
open Go Go.Sh Go.Proofs
open Go.ChangeShapes Go.WideShapes Go.ChangeAt Go.RowKit
set_option linter.unusedVariables false

set_option maxRecDepth 100000 in
theorem claimTimelines_contract (H : Type) (enc : TypeId × Value → H) (W : World) (base : Nat) (args : Array Value) (ds gs : List (DataW H)) (before : List MemPlace)
    (hval : ∀ (j : Nat) t v, Try.f6.params[j]? = some t → args[j]? = some v → Value.okWide Try.prog W .any base t v)
    (hW : DataW.Whole enc Try.prog Try.f6.params.toList Rows.claimTimelinesSpec.vars false W args.toList ds gs before) :
    Calls Try.prog 6 args W fun e W' => ∃ v, e = .returned v ∧ Rows.claimTimelinesSpec.post enc Try.prog Try.f6 false true false false W args v W' := by
  have hW' := hW
  obtain ⟨p, q, hA0, hV, hpq, hfz, hnd⟩ := hW
  have hA : DataW.TrodAll enc Try.prog W 0 (fun _ => true) true Try.f6.params.toList args.toList ds p := hA0
  rw [Try.params6] at hA hval
  obtain ⟨v0, v1, d0, d1, p0, p1, rfl, rfl, rfl, h0, h1⟩ := trodAll_two hA
  obtain ⟨x, e, hf, hor, hv⟩ := open_np (hval 0 26 v0 rfl rfl) h0
  obtain ⟨a1, rfl, rfl, rfl, w1⟩ := open_int Try.underlying3 (hval 1 3 v1 rfl rfl) h1

  exact law_contract laidOut (fn := Try.f6) (tb := 4) (of_decide_eq_true (by kernel_rfl)) rfl Try.underlying4 (by kernel_rfl) rfl rfl rfl hW' (law_walk timelines_ok (p := ⟨x, a1⟩) ⟨hf, i64_of w1⟩ rfl (rel_one hor) ⟨hv.1, rfl, trivial⟩)

set_option maxRecDepth 100000 in
theorem claimTimelines_lifted (os : Os) (started : os.Started) (H : Type) (enc : TypeId × Value → H) :
    ReturnsInHanded {} Try.checked os 6 .any (Rows.claimTimelinesSpec.pre6 enc Try.prog Try.f6 Rows.claimTimelinesRow.domain false) (Rows.claimTimelinesSpec.post enc Try.prog Try.f6 false true false false) := by
  refine returnsInHanded_of_change (C := Try.checked) tryOwn started (by kernel_rfl) Try.func6
    (ChangeSpec.witness6 (enc := enc) (C := Try.checked) false ⟨#[], #[.agg #[.int .i64 0, .int .i64 0, .int .i64 0, .int .i64 0, .int .i64 0, .int .i64 0, .int .i64 0, .int .i64 0, .int .i64 0, .int .i64 0, .slice none 0 0], .int .i64 0], []⟩ 8 (by kernel_rfl) (by kernel_rfl) (by kernel_rfl) (by kernel_rfl)) ?_
  intro W base args ds gs before hval hW _ _
  exact claimTimelines_contract H enc W base args ds gs before hval hW

theorem claimTimelines_holds : Rows.ClaimTimelinesSaid :=
  OpenClaim.holds_of_wide 6 Try.f6 rfl rfl rfl rfl rfl rfl rfl ⟨rfl, rfl, rfl, rfl, rfl⟩ rfl rfl rfl rfl rfl (by kernel_rfl) Try.func6 (by kernel_rfl)
    (of_decide_eq_true (by kernel_rfl)) (by unfold Func.isWrapper; first | (rw [if_pos (by decide +kernel)]; kernel_rfl) | (rw [if_neg (by decide +kernel)]; exact ⟨rfl, rfl⟩))
    (fun os started H enc _ => claimTimelines_lifted os started H enc)
end Go.Proofs.Ytmcidfecepknpaa

