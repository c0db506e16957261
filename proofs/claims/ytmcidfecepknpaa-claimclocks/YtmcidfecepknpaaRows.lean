/-
  No cell of these rows narrows 'for every input' (looked for: loops, veiled, ifaces, maps, wideKeys, modest, calm, conditions, laid).
  DERIVED. THE GIVEN ROWS OF THIS SEAT. 8 by the template 'for every input the law returns true; each argument reads behind the call as it read before'; 0 by the template 'total and deterministic' (their statements: YtmcidfecepknpaaTotals.lean).
  GIVEN WITH THE SEED: the statements are not yours to turn. If you find one false, say at which input.
  Laid BY PROGRAM, IN A SANDBOX (cutbox-rows.mjs): the forced cells as the released guide's own fill.sh prints them over the translation 953adfc4ef6f920d… (all of the seat's roots in one cut). By AI agents, Wed Nov 11 2026. No macro, syntax, notation, axiom, sorry.
-/
import Derived.Test.YtmcidfecepknpaaChecked
import GoSem.Claim
import GoSem.ClaimJoined
import GoSem.ClaimMapViews
import Derived.JoinedTies
import Derived.KernelRfl
namespace Go.Proofs.Ytmcidfecepknpaa
/- THE CELL 'sum', in the pinned program and in every row, IS THE sha256 OF THE DUMP (.gsa) THAT YtmcidfecepknpaaProg.lean LOADS. Nothing in Lean hashes anything: it is a label: what it is worth is what the hold of that sum in a sandbox is worth. -/
noncomputable def Try.pinned : Pinned := { name := "ytmcidfecepknpaa", sum := "953adfc4ef6f920d094c4790591a8fda1b29b92d4d3fc24040b68f59aabfd9c7", checked := Try.checked }
namespace Rows
def none {H : Type} : Left H := { results := [], args := [] }

/-- 'dialtonelaw16.ClaimDecided': WHATEVER THE INPUT: true; the input reads as it did. -/
def claimDecidedSpec : ChangeSpec := { name := "claimDecided", fn := fun _ => fun
  | [d1, d2, d3] => { results := [.lit (.bool true)], args := [d1, d2, d3] }
  | _ => none }
def claimDecidedRow : OpenClaim := { program := "ytmcidfecepknpaa", sum := "953adfc4ef6f920d094c4790591a8fda1b29b92d4d3fc24040b68f59aabfd9c7", func := "dialtone/dialtonelaw16.ClaimDecided", spec := "claimDecided", unfollowed := true, recurses := true, plainKeys := false, apart := false }
def ClaimDecidedSaid : Prop := claimDecidedRow.holds Try.pinned (OpenSpec.ofChange claimDecidedSpec)

/-- ITS FALSE NEIGHBOUR: 'it returns false'. Refute it at one input. -/
def claimDecidedWrong : ChangeSpec := { name := "claimDecided", fn := fun _ => fun
  | [d1, d2, d3] => { results := [.lit (.bool false)], args := [d1, d2, d3] }
  | _ => none }
def ClaimDecidedWrongFalsely : Prop := claimDecidedRow.holds Try.pinned (OpenSpec.ofChange claimDecidedWrong)

/-- 'dialtonelaw16.ClaimSilence': WHATEVER THE INPUT: true; the input reads as it did. -/
def claimSilenceSpec : ChangeSpec := { name := "claimSilence", fn := fun _ => fun
  | [d1, d2] => { results := [.lit (.bool true)], args := [d1, d2] }
  | _ => none }
def claimSilenceRow : OpenClaim := { program := "ytmcidfecepknpaa", sum := "953adfc4ef6f920d094c4790591a8fda1b29b92d4d3fc24040b68f59aabfd9c7", func := "dialtone/dialtonelaw16.ClaimSilence", spec := "claimSilence", unfollowed := true, recurses := true, plainKeys := false, apart := false }
def ClaimSilenceSaid : Prop := claimSilenceRow.holds Try.pinned (OpenSpec.ofChange claimSilenceSpec)

/-- ITS FALSE NEIGHBOUR: 'it returns false'. Refute it at one input. -/
def claimSilenceWrong : ChangeSpec := { name := "claimSilence", fn := fun _ => fun
  | [d1, d2] => { results := [.lit (.bool false)], args := [d1, d2] }
  | _ => none }
def ClaimSilenceWrongFalsely : Prop := claimSilenceRow.holds Try.pinned (OpenSpec.ofChange claimSilenceWrong)

/-- 'dialtonelaw16.ClaimLater': WHATEVER THE INPUT: true; the input reads as it did. -/
def claimLaterSpec : ChangeSpec := { name := "claimLater", fn := fun _ => fun
  | [d1, d2] => { results := [.lit (.bool true)], args := [d1, d2] }
  | _ => none }
def claimLaterRow : OpenClaim := { program := "ytmcidfecepknpaa", sum := "953adfc4ef6f920d094c4790591a8fda1b29b92d4d3fc24040b68f59aabfd9c7", func := "dialtone/dialtonelaw16.ClaimLater", spec := "claimLater", unfollowed := true, recurses := true, plainKeys := false, apart := false }
def ClaimLaterSaid : Prop := claimLaterRow.holds Try.pinned (OpenSpec.ofChange claimLaterSpec)

/-- ITS FALSE NEIGHBOUR: 'it returns false'. Refute it at one input. -/
def claimLaterWrong : ChangeSpec := { name := "claimLater", fn := fun _ => fun
  | [d1, d2] => { results := [.lit (.bool false)], args := [d1, d2] }
  | _ => none }
def ClaimLaterWrongFalsely : Prop := claimLaterRow.holds Try.pinned (OpenSpec.ofChange claimLaterWrong)

/-- 'dialtonelaw16.ClaimTimelines': WHATEVER THE INPUT: true; the input reads as it did. -/
def claimTimelinesSpec : ChangeSpec := { name := "claimTimelines", fn := fun _ => fun
  | [d1, d2] => { results := [.lit (.bool true)], args := [d1, d2] }
  | _ => none }
def claimTimelinesRow : OpenClaim := { program := "ytmcidfecepknpaa", sum := "953adfc4ef6f920d094c4790591a8fda1b29b92d4d3fc24040b68f59aabfd9c7", func := "dialtone/dialtonelaw16.ClaimTimelines", spec := "claimTimelines", unfollowed := true, recurses := true, plainKeys := false, apart := false }
def ClaimTimelinesSaid : Prop := claimTimelinesRow.holds Try.pinned (OpenSpec.ofChange claimTimelinesSpec)

/-- ITS FALSE NEIGHBOUR: 'it returns false'. Refute it at one input. -/
def claimTimelinesWrong : ChangeSpec := { name := "claimTimelines", fn := fun _ => fun
  | [d1, d2] => { results := [.lit (.bool false)], args := [d1, d2] }
  | _ => none }
def ClaimTimelinesWrongFalsely : Prop := claimTimelinesRow.holds Try.pinned (OpenSpec.ofChange claimTimelinesWrong)

/-- 'dialtonelaw16.ClaimConsents': WHATEVER THE INPUT: true; the input reads as it did. -/
def claimConsentsSpec : ChangeSpec := { name := "claimConsents", fn := fun _ => fun
  | [d1, d2, d3] => { results := [.lit (.bool true)], args := [d1, d2, d3] }
  | _ => none }
def claimConsentsRow : OpenClaim := { program := "ytmcidfecepknpaa", sum := "953adfc4ef6f920d094c4790591a8fda1b29b92d4d3fc24040b68f59aabfd9c7", func := "dialtone/dialtonelaw16.ClaimConsents", spec := "claimConsents", unfollowed := true, recurses := true, plainKeys := false, apart := false }
def ClaimConsentsSaid : Prop := claimConsentsRow.holds Try.pinned (OpenSpec.ofChange claimConsentsSpec)

/-- ITS FALSE NEIGHBOUR: 'it returns false'. Refute it at one input. -/
def claimConsentsWrong : ChangeSpec := { name := "claimConsents", fn := fun _ => fun
  | [d1, d2, d3] => { results := [.lit (.bool false)], args := [d1, d2, d3] }
  | _ => none }
def ClaimConsentsWrongFalsely : Prop := claimConsentsRow.holds Try.pinned (OpenSpec.ofChange claimConsentsWrong)

/-- 'dialtonelaw16.ClaimMoves': WHATEVER THE INPUT: true; the input reads as it did. -/
def claimMovesSpec : ChangeSpec := { name := "claimMoves", fn := fun _ => fun
  | [d1, d2] => { results := [.lit (.bool true)], args := [d1, d2] }
  | _ => none }
def claimMovesRow : OpenClaim := { program := "ytmcidfecepknpaa", sum := "953adfc4ef6f920d094c4790591a8fda1b29b92d4d3fc24040b68f59aabfd9c7", func := "dialtone/dialtonelaw16.ClaimMoves", spec := "claimMoves", unfollowed := true, recurses := true, plainKeys := false, apart := false }
def ClaimMovesSaid : Prop := claimMovesRow.holds Try.pinned (OpenSpec.ofChange claimMovesSpec)

/-- ITS FALSE NEIGHBOUR: 'it returns false'. Refute it at one input. -/
def claimMovesWrong : ChangeSpec := { name := "claimMoves", fn := fun _ => fun
  | [d1, d2] => { results := [.lit (.bool false)], args := [d1, d2] }
  | _ => none }
def ClaimMovesWrongFalsely : Prop := claimMovesRow.holds Try.pinned (OpenSpec.ofChange claimMovesWrong)

/-- 'dialtonelaw16.ClaimClocks': WHATEVER THE INPUT: true; the input reads as it did. -/
def claimClocksSpec : ChangeSpec := { name := "claimClocks", fn := fun _ => fun
  | [d1, d2, d3, d4, d5, d6, d7] => { results := [.lit (.bool true)], args := [d1, d2, d3, d4, d5, d6, d7] }
  | _ => none }
def claimClocksRow : OpenClaim := { program := "ytmcidfecepknpaa", sum := "953adfc4ef6f920d094c4790591a8fda1b29b92d4d3fc24040b68f59aabfd9c7", func := "dialtone/dialtonelaw16.ClaimClocks", spec := "claimClocks", unfollowed := true, recurses := true, plainKeys := false, apart := false }
def ClaimClocksSaid : Prop := claimClocksRow.holds Try.pinned (OpenSpec.ofChange claimClocksSpec)

/-- ITS FALSE NEIGHBOUR: 'it returns false'. Refute it at one input. -/
def claimClocksWrong : ChangeSpec := { name := "claimClocks", fn := fun _ => fun
  | [d1, d2, d3, d4, d5, d6, d7] => { results := [.lit (.bool false)], args := [d1, d2, d3, d4, d5, d6, d7] }
  | _ => none }
def ClaimClocksWrongFalsely : Prop := claimClocksRow.holds Try.pinned (OpenSpec.ofChange claimClocksWrong)

/-- 'dialtonelaw16.ClaimReverses': WHATEVER THE INPUT: true; the input reads as it did. -/
def claimReversesSpec : ChangeSpec := { name := "claimReverses", fn := fun _ => fun
  | [d1, d2, d3, d4, d5, d6, d7] => { results := [.lit (.bool true)], args := [d1, d2, d3, d4, d5, d6, d7] }
  | _ => none }
def claimReversesRow : OpenClaim := { program := "ytmcidfecepknpaa", sum := "953adfc4ef6f920d094c4790591a8fda1b29b92d4d3fc24040b68f59aabfd9c7", func := "dialtone/dialtonelaw16.ClaimReverses", spec := "claimReverses", unfollowed := true, recurses := true, plainKeys := false, apart := false }
def ClaimReversesSaid : Prop := claimReversesRow.holds Try.pinned (OpenSpec.ofChange claimReversesSpec)

/-- ITS FALSE NEIGHBOUR: 'it returns false'. Refute it at one input. -/
def claimReversesWrong : ChangeSpec := { name := "claimReverses", fn := fun _ => fun
  | [d1, d2, d3, d4, d5, d6, d7] => { results := [.lit (.bool false)], args := [d1, d2, d3, d4, d5, d6, d7] }
  | _ => none }
def ClaimReversesWrongFalsely : Prop := claimReversesRow.holds Try.pinned (OpenSpec.ofChange claimReversesWrong)

/- THE SECOND FORM. 'bulk': how many values and letters a reading holds, each counted each time it is reached (what is shared counts as often as it is met; a slice's spare places count too). A statement '..UptoSaid' is the law's where the arguments, and the package variables that the reading takes, are together of bulk at most 1048576: NARROWER than '..Said'. Prove '..Said' where nothing that the law and all that it calls make is longer than what came in: it says more and counts as full. Else prove '..UptoSaid'. A law counts once. -/
mutual
def uptoBulk {H : Type} : DataW H → Nat
  | .lit (.string bytes) => bytes.length + 1
  | .lit _ => 1
  | .nil => 1
  | .ptr d => uptoBulk d + 1
  | .slice elems spare => uptoBulkAll elems + uptoBulkAll spare + 1
  | .agg parts => uptoBulkAll parts + 1
  | .iface _ d => uptoBulk d + 1
  | .map entries => uptoBulkEntries entries + 1
  | .held _ => 1
def uptoBulkAll {H : Type} : List (DataW H) → Nat
  | [] => 0
  | d :: r => uptoBulk d + uptoBulkAll r
def uptoBulkEntries {H : Type} : List (Lit × DataW H) → Nat
  | [] => 0
  | x :: r => uptoBulkEntry x + uptoBulkEntries r
def uptoBulkEntry {H : Type} : Lit × DataW H → Nat
  | (.string bytes, d) => bytes.length + uptoBulk d + 1
  | (_, d) => uptoBulk d + 1
 end
def uptoSmall : (H : Type) → List (DataW H) → Bool := fun _ ds => decide (uptoBulkAll ds ≤ 1048576)
def OpenSpec.upto (s : _root_.Go.ChangeSpec) : _root_.Go.OpenSpec := { _root_.Go.OpenSpec.ofChange s with cond := some uptoSmall }

/-- 'dialtonelaw16.ClaimDecided', WHERE WHAT IT READS IS OF BULK AT MOST 1048576: true; the input reads as it did. -/
def claimDecidedUptoRow : OpenClaim := { program := "ytmcidfecepknpaa", sum := "953adfc4ef6f920d094c4790591a8fda1b29b92d4d3fc24040b68f59aabfd9c7", func := "dialtone/dialtonelaw16.ClaimDecided", spec := "claimDecided", unfollowed := true, recurses := true, plainKeys := false, apart := false, narrowed := true }
def ClaimDecidedUptoSaid : Prop := claimDecidedUptoRow.holds Try.pinned (OpenSpec.upto claimDecidedSpec)

/-- 'dialtonelaw16.ClaimSilence', WHERE WHAT IT READS IS OF BULK AT MOST 1048576: true; the input reads as it did. -/
def claimSilenceUptoRow : OpenClaim := { program := "ytmcidfecepknpaa", sum := "953adfc4ef6f920d094c4790591a8fda1b29b92d4d3fc24040b68f59aabfd9c7", func := "dialtone/dialtonelaw16.ClaimSilence", spec := "claimSilence", unfollowed := true, recurses := true, plainKeys := false, apart := false, narrowed := true }
def ClaimSilenceUptoSaid : Prop := claimSilenceUptoRow.holds Try.pinned (OpenSpec.upto claimSilenceSpec)

/-- 'dialtonelaw16.ClaimLater', WHERE WHAT IT READS IS OF BULK AT MOST 1048576: true; the input reads as it did. -/
def claimLaterUptoRow : OpenClaim := { program := "ytmcidfecepknpaa", sum := "953adfc4ef6f920d094c4790591a8fda1b29b92d4d3fc24040b68f59aabfd9c7", func := "dialtone/dialtonelaw16.ClaimLater", spec := "claimLater", unfollowed := true, recurses := true, plainKeys := false, apart := false, narrowed := true }
def ClaimLaterUptoSaid : Prop := claimLaterUptoRow.holds Try.pinned (OpenSpec.upto claimLaterSpec)

/-- 'dialtonelaw16.ClaimTimelines', WHERE WHAT IT READS IS OF BULK AT MOST 1048576: true; the input reads as it did. -/
def claimTimelinesUptoRow : OpenClaim := { program := "ytmcidfecepknpaa", sum := "953adfc4ef6f920d094c4790591a8fda1b29b92d4d3fc24040b68f59aabfd9c7", func := "dialtone/dialtonelaw16.ClaimTimelines", spec := "claimTimelines", unfollowed := true, recurses := true, plainKeys := false, apart := false, narrowed := true }
def ClaimTimelinesUptoSaid : Prop := claimTimelinesUptoRow.holds Try.pinned (OpenSpec.upto claimTimelinesSpec)

/-- 'dialtonelaw16.ClaimConsents', WHERE WHAT IT READS IS OF BULK AT MOST 1048576: true; the input reads as it did. -/
def claimConsentsUptoRow : OpenClaim := { program := "ytmcidfecepknpaa", sum := "953adfc4ef6f920d094c4790591a8fda1b29b92d4d3fc24040b68f59aabfd9c7", func := "dialtone/dialtonelaw16.ClaimConsents", spec := "claimConsents", unfollowed := true, recurses := true, plainKeys := false, apart := false, narrowed := true }
def ClaimConsentsUptoSaid : Prop := claimConsentsUptoRow.holds Try.pinned (OpenSpec.upto claimConsentsSpec)

/-- 'dialtonelaw16.ClaimMoves', WHERE WHAT IT READS IS OF BULK AT MOST 1048576: true; the input reads as it did. -/
def claimMovesUptoRow : OpenClaim := { program := "ytmcidfecepknpaa", sum := "953adfc4ef6f920d094c4790591a8fda1b29b92d4d3fc24040b68f59aabfd9c7", func := "dialtone/dialtonelaw16.ClaimMoves", spec := "claimMoves", unfollowed := true, recurses := true, plainKeys := false, apart := false, narrowed := true }
def ClaimMovesUptoSaid : Prop := claimMovesUptoRow.holds Try.pinned (OpenSpec.upto claimMovesSpec)

/-- 'dialtonelaw16.ClaimClocks', WHERE WHAT IT READS IS OF BULK AT MOST 1048576: true; the input reads as it did. -/
def claimClocksUptoRow : OpenClaim := { program := "ytmcidfecepknpaa", sum := "953adfc4ef6f920d094c4790591a8fda1b29b92d4d3fc24040b68f59aabfd9c7", func := "dialtone/dialtonelaw16.ClaimClocks", spec := "claimClocks", unfollowed := true, recurses := true, plainKeys := false, apart := false, narrowed := true }
def ClaimClocksUptoSaid : Prop := claimClocksUptoRow.holds Try.pinned (OpenSpec.upto claimClocksSpec)

/-- 'dialtonelaw16.ClaimReverses', WHERE WHAT IT READS IS OF BULK AT MOST 1048576: true; the input reads as it did. -/
def claimReversesUptoRow : OpenClaim := { program := "ytmcidfecepknpaa", sum := "953adfc4ef6f920d094c4790591a8fda1b29b92d4d3fc24040b68f59aabfd9c7", func := "dialtone/dialtonelaw16.ClaimReverses", spec := "claimReverses", unfollowed := true, recurses := true, plainKeys := false, apart := false, narrowed := true }
def ClaimReversesUptoSaid : Prop := claimReversesUptoRow.holds Try.pinned (OpenSpec.upto claimReversesSpec)

end Rows
end Go.Proofs.Ytmcidfecepknpaa
