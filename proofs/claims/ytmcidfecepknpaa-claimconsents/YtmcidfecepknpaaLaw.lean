/-
  ClaimConsentsSaid: dialtonelaw16.ClaimConsents returns true for every input, and every argument reads afterwards as before. No condition.
-/
import Derived.Test.YtmcidfecepknpaaRows
import Derived.ProofKit
import Derived.Test.YtmcidfecepknpaaW4
set_option linter.unusedVariables false
set_option linter.unusedSimpArgs false

/-
  ClaimConsents returns true for every input and changes nothing: no condition.
-/
namespace Go.Proofs.Ytmcidfecepknpaa
open Go Go.Sh Go.Proofs
open Go.ChangeShapes Go.WideShapes Go.ChangeAt Go.RowKit
set_option linter.unusedVariables false

set_option maxRecDepth 100000 in
theorem claimConsents_contract (H : Type) (enc : TypeId × Value → H) (W : World) (base : Nat) (args : Array Value) (ds gs : List (DataW H)) (before : List MemPlace)
    (hval : ∀ (j : Nat) t v, Try.f7.params[j]? = some t → args[j]? = some v → Value.okWide Try.prog W .any base t v)
    (hW : DataW.Whole enc Try.prog Try.f7.params.toList Rows.claimConsentsSpec.vars false W args.toList ds gs before) :
    Calls Try.prog 7 args W fun e W' => ∃ v, e = .returned v ∧ Rows.claimConsentsSpec.post enc Try.prog Try.f7 false true false false W args v W' := by
  have hW' := hW
  obtain ⟨p, q, hA0, hV, hpq, hfz, hnd⟩ := hW
  have hA : DataW.TrodAll enc Try.prog W 0 (fun _ => true) true Try.f7.params.toList args.toList ds p := hA0
  rw [Try.params7] at hA hval
  obtain ⟨v0, v1, v2, d0, d1, d2, p0, p1, p2, rfl, rfl, rfl, h0, h1, h2⟩ := trodAll_three hA
  obtain ⟨x, e, hf, hor, hv⟩ := open_np (hval 0 26 v0 rfl rfl) h0
  obtain ⟨a1, rfl, rfl, rfl, w1⟩ := open_int Try.underlying3 (hval 1 3 v1 rfl rfl) h1
  obtain ⟨a2, rfl, rfl, rfl, w2⟩ := open_int Try.underlying3 (hval 2 3 v2 rfl rfl) h2

  exact law_contract laidOut (fn := Try.f7) (tb := 4) (of_decide_eq_true (by kernel_rfl)) rfl Try.underlying4 (by kernel_rfl) rfl rfl rfl hW' (law_walk consents_ok (p := ⟨x, a1, a2⟩) ⟨hf, i64_of w1, i64_of w2⟩ rfl (rel_one hor) ⟨hv.1, rfl, rfl, trivial⟩)

set_option maxRecDepth 100000 in
theorem claimConsents_lifted (os : Os) (started : os.Started) (H : Type) (enc : TypeId × Value → H) :
    ReturnsInHanded {} Try.checked os 7 .any (Rows.claimConsentsSpec.pre6 enc Try.prog Try.f7 Rows.claimConsentsRow.domain false) (Rows.claimConsentsSpec.post enc Try.prog Try.f7 false true false false) := by
  refine returnsInHanded_of_change (C := Try.checked) tryOwn started (by kernel_rfl) Try.func7
    (ChangeSpec.witness6 (enc := enc) (C := Try.checked) false ⟨#[], #[.agg #[.int .i64 0, .int .i64 0, .int .i64 0, .int .i64 0, .int .i64 0, .int .i64 0, .int .i64 0, .int .i64 0, .int .i64 0, .int .i64 0, .slice none 0 0], .int .i64 0, .int .i64 0], []⟩ 8 (by kernel_rfl) (by kernel_rfl) (by kernel_rfl) (by kernel_rfl)) ?_
  intro W base args ds gs before hval hW _ _
  exact claimConsents_contract H enc W base args ds gs before hval hW

theorem claimConsents_holds : Rows.ClaimConsentsSaid :=
  OpenClaim.holds_of_wide 7 Try.f7 rfl rfl rfl rfl rfl rfl rfl ⟨rfl, rfl, rfl, rfl, rfl⟩ rfl rfl rfl rfl rfl (by kernel_rfl) Try.func7 (by kernel_rfl)
    (of_decide_eq_true (by kernel_rfl)) (by unfold Func.isWrapper; first | (rw [if_pos (by decide +kernel)]; kernel_rfl) | (rw [if_neg (by decide +kernel)]; exact ⟨rfl, rfl⟩))
    (fun os started H enc _ => claimConsents_lifted os started H enc)
end Go.Proofs.Ytmcidfecepknpaa

