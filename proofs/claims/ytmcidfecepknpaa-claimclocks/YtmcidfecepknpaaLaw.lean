/-
  ClaimClocks returns true for every input: if a claim has the same status at the first and at the last second at which a local clock may show a local second, it has this status at all of them, also at the true one. No condition.
-/
import Derived.Test.YtmcidfecepknpaaRows
import Derived.ProofKit
import Derived.Test.YtmcidfecepknpaaW5
set_option linter.unusedVariables false
set_option linter.unusedSimpArgs false

/-
  ClaimClocks returns true for every input and changes nothing: no condition.
-/
namespace Go.Proofs.Ytmcidfecepknpaa
open Go Go.Sh Go.Proofs
open Go.ChangeShapes Go.WideShapes Go.ChangeAt Go.RowKit
set_option linter.unusedVariables false

set_option maxRecDepth 100000 in
theorem claimClocks_contract (H : Type) (enc : TypeId × Value → H) (W : World) (base : Nat) (args : Array Value) (ds gs : List (DataW H)) (before : List MemPlace)
    (hval : ∀ (j : Nat) t v, Try.f9.params[j]? = some t → args[j]? = some v → Value.okWide Try.prog W .any base t v)
    (hW : DataW.Whole enc Try.prog Try.f9.params.toList Rows.claimClocksSpec.vars false W args.toList ds gs before) :
    Calls Try.prog 9 args W fun e W' => ∃ v, e = .returned v ∧ Rows.claimClocksSpec.post enc Try.prog Try.f9 false true false false W args v W' := by
  have hW' := hW
  obtain ⟨p, q, hA0, hV, hpq, hfz, hnd⟩ := hW
  have hA : DataW.TrodAll enc Try.prog W 0 (fun _ => true) true Try.f9.params.toList args.toList ds p := hA0
  rw [Try.params9] at hA hval
  obtain ⟨v0, v1, v2, v3, v4, v5, v6, d0, d1, d2, d3, d4, d5, d6, p0, p1, p2, p3, p4, p5, p6, rfl, rfl, h0, h1, h2, h3, h4, h5, h6⟩ := trodAll_seven hA
  obtain ⟨x, e0, hf, hor, hv⟩ := open_np (hval 0 26 v0 rfl rfl) h0
  obtain ⟨a1, rfl, rfl, rfl, w1⟩ := open_int Try.underlying3 (hval 1 3 v1 rfl rfl) h1
  obtain ⟨a2, rfl, rfl, rfl, w2⟩ := open_int Try.underlying3 (hval 2 3 v2 rfl rfl) h2
  obtain ⟨b3, len3, cap3, rfl⟩ := okWide_slice Try.underlying49 (hval 3 49 v3 rfl rfl)
  obtain ⟨fu3, h3⟩ := h3
  obtain ⟨rn, R, e1, hor1, hv1, hR⟩ := open_ints (c := .slice b3 len3 cap3) (by simpa [Value.cells] using h3)
  obtain ⟨b4, len4, cap4, rfl⟩ := okWide_slice Try.underlying24 (hval 4 24 v4 rfl rfl)
  obtain ⟨fu4, h4⟩ := h4
  obtain ⟨zn, Z, e2, hor2, hv2, hZ⟩ := open_triples (c := .slice b4 len4 cap4) (by simpa [Value.cells] using h4)
  obtain ⟨a5, rfl, rfl, rfl, w5⟩ := open_int Try.underlying3 (hval 5 3 v5 rfl rfl) h5
  obtain ⟨a6, rfl, rfl, rfl, w6⟩ := open_int Try.underlying3 (hval 6 3 v6 rfl rfl) h6

  exact law_contract laidOut (fn := Try.f9) (tb := 4) (of_decide_eq_true (by kernel_rfl)) rfl Try.underlying4 (by kernel_rfl) rfl rfl rfl hW' (law_walk clocks_ok (p := ⟨x, ⟨a1, a2, R, rn, Z, zn⟩, a5, a6⟩) ⟨hf, ⟨i64_of w1, i64_of w2, hR, hZ⟩, i64_of w5, i64_of w6⟩ rfl (rel_three (e0 := e0) (e1 := e1) (e2 := e2) (view_move (zO_plain _ _) hor) (view_move (intsO_plain _ _) hor1) (view_move (zO_plain _ _) hor2)) ⟨(np_move (env := env3 e0 e1 e2) rfl hv).1, rfl, rfl, sl_move rfl hv1, sl_move rfl hv2, rfl, rfl, trivial⟩)

set_option maxRecDepth 100000 in
theorem claimClocks_lifted (os : Os) (started : os.Started) (H : Type) (enc : TypeId × Value → H) :
    ReturnsInHanded {} Try.checked os 9 .any (Rows.claimClocksSpec.pre6 enc Try.prog Try.f9 Rows.claimClocksRow.domain false) (Rows.claimClocksSpec.post enc Try.prog Try.f9 false true false false) := by
  refine returnsInHanded_of_change (C := Try.checked) tryOwn started (by kernel_rfl) Try.func9
    (ChangeSpec.witness6 (enc := enc) (C := Try.checked) false ⟨#[], #[.agg #[.int .i64 0, .int .i64 0, .int .i64 0, .int .i64 0, .int .i64 0, .int .i64 0, .int .i64 0, .int .i64 0, .int .i64 0, .int .i64 0, .slice none 0 0], .int .i64 0, .int .i64 0, .slice none 0 0, .slice none 0 0, .int .i64 0, .int .i64 0], []⟩ 8 (by kernel_rfl) (by kernel_rfl) (by kernel_rfl) (by kernel_rfl)) ?_
  intro W base args ds gs before hval hW _ _
  exact claimClocks_contract H enc W base args ds gs before hval hW

theorem claimClocks_holds : Rows.ClaimClocksSaid :=
  OpenClaim.holds_of_wide 9 Try.f9 rfl rfl rfl rfl rfl rfl rfl ⟨rfl, rfl, rfl, rfl, rfl⟩ rfl rfl rfl rfl rfl (by kernel_rfl) Try.func9 (by kernel_rfl)
    (of_decide_eq_true (by kernel_rfl)) (by unfold Func.isWrapper; first | (rw [if_pos (by decide +kernel)]; kernel_rfl) | (rw [if_neg (by decide +kernel)]; exact ⟨rfl, rfl⟩))
    (fun os started H enc _ => claimClocks_lifted os started H enc)
end Go.Proofs.Ytmcidfecepknpaa

