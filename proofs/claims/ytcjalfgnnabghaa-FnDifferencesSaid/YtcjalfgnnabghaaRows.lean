/-
  No cell of these rows narrows 'for every input' (looked for: loops, veiled, ifaces, maps, wideKeys, modest, calm, conditions, laid).
  DERIVED. THE GIVEN ROWS OF THIS SEAT. 10 by the template 'for every input the law returns true; each argument reads behind the call as it read before'; 0 by the template 'total and deterministic' (their statements: YtcjalfgnnabghaaTotals.lean).
  GIVEN WITH THE SEED: the statements are not yours to turn. If you find one false, say at which input.
  Laid BY PROGRAM, IN A SANDBOX (cutbox-rows.mjs): the forced cells as the released guide's own fill.sh prints them over the translation 40d55d952da06f7a… (all of the seat's roots in one cut). By AI agents, Wed Nov 11 2026. No macro, syntax, notation, axiom, sorry.
-/
import Derived.Test.YtcjalfgnnabghaaChecked
import GoSem.Claim
import GoSem.ClaimJoined
import GoSem.ClaimMapViews
import Derived.JoinedTies
import Derived.KernelRfl
namespace Go.Proofs.Ytcjalfgnnabghaa
/- THE CELL 'sum', in the pinned program and in every row, IS THE sha256 OF THE DUMP (.gsa) THAT YtcjalfgnnabghaaProg.lean LOADS. Nothing in Lean hashes anything: it is a label: what it is worth is what the hold of that sum in a sandbox is worth. -/
noncomputable def Try.pinned : Pinned := { name := "ytcjalfgnnabghaa", sum := "40d55d952da06f7a77c212303f8511fd165a797b94ddc75ee8fe497c3dfc7a37", checked := Try.checked }
namespace Rows
def none {H : Type} : Left H := { results := [], args := [] }

/-- 'laws.FnExactDifferencesAt': WHATEVER THE INPUT: true; the input reads as it did. -/
def fnExactDifferencesAtSpec : ChangeSpec := { name := "fnExactDifferencesAt", fn := fun _ => fun
  | [d1, d2, d3, d4] => { results := [.lit (.bool true)], args := [d1, d2, d3, d4] }
  | _ => none }
def fnExactDifferencesAtRow : OpenClaim := { program := "ytcjalfgnnabghaa", sum := "40d55d952da06f7a77c212303f8511fd165a797b94ddc75ee8fe497c3dfc7a37", func := "loop.example/g01023/laws.FnExactDifferencesAt", spec := "fnExactDifferencesAt", unfollowed := true, recurses := true, apart := false }
def FnExactDifferencesAtSaid : Prop := fnExactDifferencesAtRow.holds Try.pinned (OpenSpec.ofChange fnExactDifferencesAtSpec)

/-- ITS FALSE NEIGHBOUR: 'it returns false'. Refute it at one input. -/
def fnExactDifferencesAtWrong : ChangeSpec := { name := "fnExactDifferencesAt", fn := fun _ => fun
  | [d1, d2, d3, d4] => { results := [.lit (.bool false)], args := [d1, d2, d3, d4] }
  | _ => none }
def FnExactDifferencesAtWrongFalsely : Prop := fnExactDifferencesAtRow.holds Try.pinned (OpenSpec.ofChange fnExactDifferencesAtWrong)

/-- 'laws.FnExactMergePhotos': WHATEVER THE INPUT: true; the input reads as it did. -/
def fnExactMergePhotosSpec : ChangeSpec := { name := "fnExactMergePhotos", fn := fun _ => fun
  | [d1, d2, d3] => { results := [.lit (.bool true)], args := [d1, d2, d3] }
  | _ => none }
def fnExactMergePhotosRow : OpenClaim := { program := "ytcjalfgnnabghaa", sum := "40d55d952da06f7a77c212303f8511fd165a797b94ddc75ee8fe497c3dfc7a37", func := "loop.example/g01023/laws.FnExactMergePhotos", spec := "fnExactMergePhotos", unfollowed := true, recurses := true, apart := false }
def FnExactMergePhotosSaid : Prop := fnExactMergePhotosRow.holds Try.pinned (OpenSpec.ofChange fnExactMergePhotosSpec)

/-- ITS FALSE NEIGHBOUR: 'it returns false'. Refute it at one input. -/
def fnExactMergePhotosWrong : ChangeSpec := { name := "fnExactMergePhotos", fn := fun _ => fun
  | [d1, d2, d3] => { results := [.lit (.bool false)], args := [d1, d2, d3] }
  | _ => none }
def FnExactMergePhotosWrongFalsely : Prop := fnExactMergePhotosRow.holds Try.pinned (OpenSpec.ofChange fnExactMergePhotosWrong)

/-- 'laws.FnExactShiftPhoto': WHATEVER THE INPUT: true; the input reads as it did. -/
def fnExactShiftPhotoSpec : ChangeSpec := { name := "fnExactShiftPhoto", fn := fun _ => fun
  | [d1, d2, d3, d4] => { results := [.lit (.bool true)], args := [d1, d2, d3, d4] }
  | _ => none }
def fnExactShiftPhotoRow : OpenClaim := { program := "ytcjalfgnnabghaa", sum := "40d55d952da06f7a77c212303f8511fd165a797b94ddc75ee8fe497c3dfc7a37", func := "loop.example/g01023/laws.FnExactShiftPhoto", spec := "fnExactShiftPhoto", unfollowed := true, recurses := true, apart := false }
def FnExactShiftPhotoSaid : Prop := fnExactShiftPhotoRow.holds Try.pinned (OpenSpec.ofChange fnExactShiftPhotoSpec)

/-- ITS FALSE NEIGHBOUR: 'it returns false'. Refute it at one input. -/
def fnExactShiftPhotoWrong : ChangeSpec := { name := "fnExactShiftPhoto", fn := fun _ => fun
  | [d1, d2, d3, d4] => { results := [.lit (.bool false)], args := [d1, d2, d3, d4] }
  | _ => none }
def FnExactShiftPhotoWrongFalsely : Prop := fnExactShiftPhotoRow.holds Try.pinned (OpenSpec.ofChange fnExactShiftPhotoWrong)

/-- 'laws.FnExactWrongRows': WHATEVER THE INPUT: true; the input reads as it did. -/
def fnExactWrongRowsSpec : ChangeSpec := { name := "fnExactWrongRows", fn := fun _ => fun
  | [d1, d2, d3, d4] => { results := [.lit (.bool true)], args := [d1, d2, d3, d4] }
  | _ => none }
def fnExactWrongRowsRow : OpenClaim := { program := "ytcjalfgnnabghaa", sum := "40d55d952da06f7a77c212303f8511fd165a797b94ddc75ee8fe497c3dfc7a37", func := "loop.example/g01023/laws.FnExactWrongRows", spec := "fnExactWrongRows", unfollowed := true, recurses := true, apart := false }
def FnExactWrongRowsSaid : Prop := fnExactWrongRowsRow.holds Try.pinned (OpenSpec.ofChange fnExactWrongRowsSpec)

/-- ITS FALSE NEIGHBOUR: 'it returns false'. Refute it at one input. -/
def fnExactWrongRowsWrong : ChangeSpec := { name := "fnExactWrongRows", fn := fun _ => fun
  | [d1, d2, d3, d4] => { results := [.lit (.bool false)], args := [d1, d2, d3, d4] }
  | _ => none }
def FnExactWrongRowsWrongFalsely : Prop := fnExactWrongRowsRow.holds Try.pinned (OpenSpec.ofChange fnExactWrongRowsWrong)

/-- 'laws.FnExactIsSamePiece': WHATEVER THE INPUT: true; the input reads as it did. -/
def fnExactIsSamePieceSpec : ChangeSpec := { name := "fnExactIsSamePiece", fn := fun _ => fun
  | [d1, d2, d3] => { results := [.lit (.bool true)], args := [d1, d2, d3] }
  | _ => none }
def fnExactIsSamePieceRow : OpenClaim := { program := "ytcjalfgnnabghaa", sum := "40d55d952da06f7a77c212303f8511fd165a797b94ddc75ee8fe497c3dfc7a37", func := "loop.example/g01023/laws.FnExactIsSamePiece", spec := "fnExactIsSamePiece", unfollowed := true, recurses := true, apart := false }
def FnExactIsSamePieceSaid : Prop := fnExactIsSamePieceRow.holds Try.pinned (OpenSpec.ofChange fnExactIsSamePieceSpec)

/-- ITS FALSE NEIGHBOUR: 'it returns false'. Refute it at one input. -/
def fnExactIsSamePieceWrong : ChangeSpec := { name := "fnExactIsSamePiece", fn := fun _ => fun
  | [d1, d2, d3] => { results := [.lit (.bool false)], args := [d1, d2, d3] }
  | _ => none }
def FnExactIsSamePieceWrongFalsely : Prop := fnExactIsSamePieceRow.holds Try.pinned (OpenSpec.ofChange fnExactIsSamePieceWrong)

/-- 'laws.FnExactBestShift': WHATEVER THE INPUT: true; the input reads as it did. -/
def fnExactBestShiftSpec : ChangeSpec := { name := "fnExactBestShift", fn := fun _ => fun
  | [d1, d2] => { results := [.lit (.bool true)], args := [d1, d2] }
  | _ => none }
def fnExactBestShiftRow : OpenClaim := { program := "ytcjalfgnnabghaa", sum := "40d55d952da06f7a77c212303f8511fd165a797b94ddc75ee8fe497c3dfc7a37", func := "loop.example/g01023/laws.FnExactBestShift", spec := "fnExactBestShift", unfollowed := true, recurses := true, apart := false }
def FnExactBestShiftSaid : Prop := fnExactBestShiftRow.holds Try.pinned (OpenSpec.ofChange fnExactBestShiftSpec)

/-- ITS FALSE NEIGHBOUR: 'it returns false'. Refute it at one input. -/
def fnExactBestShiftWrong : ChangeSpec := { name := "fnExactBestShift", fn := fun _ => fun
  | [d1, d2] => { results := [.lit (.bool false)], args := [d1, d2] }
  | _ => none }
def FnExactBestShiftWrongFalsely : Prop := fnExactBestShiftRow.holds Try.pinned (OpenSpec.ofChange fnExactBestShiftWrong)

/-- 'laws.FnExactWrongKnots': WHATEVER THE INPUT: true; the input reads as it did. -/
def fnExactWrongKnotsSpec : ChangeSpec := { name := "fnExactWrongKnots", fn := fun _ => fun
  | [d1, d2, d3, d4] => { results := [.lit (.bool true)], args := [d1, d2, d3, d4] }
  | _ => none }
def fnExactWrongKnotsRow : OpenClaim := { program := "ytcjalfgnnabghaa", sum := "40d55d952da06f7a77c212303f8511fd165a797b94ddc75ee8fe497c3dfc7a37", func := "loop.example/g01023/laws.FnExactWrongKnots", spec := "fnExactWrongKnots", unfollowed := true, recurses := true, apart := false }
def FnExactWrongKnotsSaid : Prop := fnExactWrongKnotsRow.holds Try.pinned (OpenSpec.ofChange fnExactWrongKnotsSpec)

/-- ITS FALSE NEIGHBOUR: 'it returns false'. Refute it at one input. -/
def fnExactWrongKnotsWrong : ChangeSpec := { name := "fnExactWrongKnots", fn := fun _ => fun
  | [d1, d2, d3, d4] => { results := [.lit (.bool false)], args := [d1, d2, d3, d4] }
  | _ => none }
def FnExactWrongKnotsWrongFalsely : Prop := fnExactWrongKnotsRow.holds Try.pinned (OpenSpec.ofChange fnExactWrongKnotsWrong)

/-- 'laws.FnExactSwappedColors': WHATEVER THE INPUT: true; the input reads as it did. -/
def fnExactSwappedColorsSpec : ChangeSpec := { name := "fnExactSwappedColors", fn := fun _ => fun
  | [d1, d2] => { results := [.lit (.bool true)], args := [d1, d2] }
  | _ => none }
def fnExactSwappedColorsRow : OpenClaim := { program := "ytcjalfgnnabghaa", sum := "40d55d952da06f7a77c212303f8511fd165a797b94ddc75ee8fe497c3dfc7a37", func := "loop.example/g01023/laws.FnExactSwappedColors", spec := "fnExactSwappedColors", unfollowed := true, recurses := true, apart := false }
def FnExactSwappedColorsSaid : Prop := fnExactSwappedColorsRow.holds Try.pinned (OpenSpec.ofChange fnExactSwappedColorsSpec)

/-- ITS FALSE NEIGHBOUR: 'it returns false'. Refute it at one input. -/
def fnExactSwappedColorsWrong : ChangeSpec := { name := "fnExactSwappedColors", fn := fun _ => fun
  | [d1, d2] => { results := [.lit (.bool false)], args := [d1, d2] }
  | _ => none }
def FnExactSwappedColorsWrongFalsely : Prop := fnExactSwappedColorsRow.holds Try.pinned (OpenSpec.ofChange fnExactSwappedColorsWrong)

/-- 'laws.FnShifts': WHATEVER THE INPUT: true; the input reads as it did. -/
def fnShiftsSpec : ChangeSpec := { name := "fnShifts", fn := fun _ => fun
  | [d] => { results := [.lit (.bool true)], args := [d] }
  | _ => none }
def fnShiftsRow : OpenClaim := { program := "ytcjalfgnnabghaa", sum := "40d55d952da06f7a77c212303f8511fd165a797b94ddc75ee8fe497c3dfc7a37", func := "loop.example/g01023/laws.FnShifts", spec := "fnShifts", unfollowed := true, recurses := true, apart := false }
def FnShiftsSaid : Prop := fnShiftsRow.holds Try.pinned (OpenSpec.ofChange fnShiftsSpec)

/-- ITS FALSE NEIGHBOUR: 'it returns false'. Refute it at one input. -/
def fnShiftsWrong : ChangeSpec := { name := "fnShifts", fn := fun _ => fun
  | [d] => { results := [.lit (.bool false)], args := [d] }
  | _ => none }
def FnShiftsWrongFalsely : Prop := fnShiftsRow.holds Try.pinned (OpenSpec.ofChange fnShiftsWrong)

/-- 'laws.FnDifferences': WHATEVER THE INPUT: true; the input reads as it did. -/
def fnDifferencesSpec : ChangeSpec := { name := "fnDifferences", fn := fun _ => fun
  | [d] => { results := [.lit (.bool true)], args := [d] }
  | _ => none }
def fnDifferencesRow : OpenClaim := { program := "ytcjalfgnnabghaa", sum := "40d55d952da06f7a77c212303f8511fd165a797b94ddc75ee8fe497c3dfc7a37", func := "loop.example/g01023/laws.FnDifferences", spec := "fnDifferences", unfollowed := true, recurses := true, apart := false }
def FnDifferencesSaid : Prop := fnDifferencesRow.holds Try.pinned (OpenSpec.ofChange fnDifferencesSpec)

/-- ITS FALSE NEIGHBOUR: 'it returns false'. Refute it at one input. -/
def fnDifferencesWrong : ChangeSpec := { name := "fnDifferences", fn := fun _ => fun
  | [d] => { results := [.lit (.bool false)], args := [d] }
  | _ => none }
def FnDifferencesWrongFalsely : Prop := fnDifferencesRow.holds Try.pinned (OpenSpec.ofChange fnDifferencesWrong)

/- THE SECOND FORM. 'bulk': how many values and letters a reading holds, each counted each time it is reached (what is shared counts as often as it is met; a slice's spare places count too). A statement '..UptoSaid' is the law's where the arguments, and the package variables that the reading takes, are together of bulk at most 1048576: NARROWER than '..Said'. Prove '..Said' where nothing that the law and all that it calls make is longer than what came in: it says more and counts as full. Else prove '..UptoSaid'. A law counts once. -/
mutual
def uptoBulk {H : Type} : DataW H → Nat
  | .lit (.string bytes) => bytes.length + 1
  | .lit _ => 1
  | .nil => 1
  | .ptr d => uptoBulk d + 1
  | .slice elems spare => uptoBulkAll elems + uptoBulkAll spare + 1
  | .agg parts => uptoBulkAll parts + 1
  | .iface _ d => uptoBulk d + 1
  | .map entries => uptoBulkEntries entries + 1
  | .held _ => 1
def uptoBulkAll {H : Type} : List (DataW H) → Nat
  | [] => 0
  | d :: r => uptoBulk d + uptoBulkAll r
def uptoBulkEntries {H : Type} : List (Lit × DataW H) → Nat
  | [] => 0
  | x :: r => uptoBulkEntry x + uptoBulkEntries r
def uptoBulkEntry {H : Type} : Lit × DataW H → Nat
  | (.string bytes, d) => bytes.length + uptoBulk d + 1
  | (_, d) => uptoBulk d + 1
 end
def uptoSmall : (H : Type) → List (DataW H) → Bool := fun _ ds => decide (uptoBulkAll ds ≤ 1048576)
def OpenSpec.upto (s : _root_.Go.ChangeSpec) : _root_.Go.OpenSpec := { _root_.Go.OpenSpec.ofChange s with cond := some uptoSmall }

/-- 'laws.FnExactDifferencesAt', WHERE WHAT IT READS IS OF BULK AT MOST 1048576: true; the input reads as it did. -/
def fnExactDifferencesAtUptoRow : OpenClaim := { program := "ytcjalfgnnabghaa", sum := "40d55d952da06f7a77c212303f8511fd165a797b94ddc75ee8fe497c3dfc7a37", func := "loop.example/g01023/laws.FnExactDifferencesAt", spec := "fnExactDifferencesAt", unfollowed := true, recurses := true, apart := false, narrowed := true }
def FnExactDifferencesAtUptoSaid : Prop := fnExactDifferencesAtUptoRow.holds Try.pinned (OpenSpec.upto fnExactDifferencesAtSpec)

/-- 'laws.FnExactMergePhotos', WHERE WHAT IT READS IS OF BULK AT MOST 1048576: true; the input reads as it did. -/
def fnExactMergePhotosUptoRow : OpenClaim := { program := "ytcjalfgnnabghaa", sum := "40d55d952da06f7a77c212303f8511fd165a797b94ddc75ee8fe497c3dfc7a37", func := "loop.example/g01023/laws.FnExactMergePhotos", spec := "fnExactMergePhotos", unfollowed := true, recurses := true, apart := false, narrowed := true }
def FnExactMergePhotosUptoSaid : Prop := fnExactMergePhotosUptoRow.holds Try.pinned (OpenSpec.upto fnExactMergePhotosSpec)

/-- 'laws.FnExactShiftPhoto', WHERE WHAT IT READS IS OF BULK AT MOST 1048576: true; the input reads as it did. -/
def fnExactShiftPhotoUptoRow : OpenClaim := { program := "ytcjalfgnnabghaa", sum := "40d55d952da06f7a77c212303f8511fd165a797b94ddc75ee8fe497c3dfc7a37", func := "loop.example/g01023/laws.FnExactShiftPhoto", spec := "fnExactShiftPhoto", unfollowed := true, recurses := true, apart := false, narrowed := true }
def FnExactShiftPhotoUptoSaid : Prop := fnExactShiftPhotoUptoRow.holds Try.pinned (OpenSpec.upto fnExactShiftPhotoSpec)

/-- 'laws.FnExactWrongRows', WHERE WHAT IT READS IS OF BULK AT MOST 1048576: true; the input reads as it did. -/
def fnExactWrongRowsUptoRow : OpenClaim := { program := "ytcjalfgnnabghaa", sum := "40d55d952da06f7a77c212303f8511fd165a797b94ddc75ee8fe497c3dfc7a37", func := "loop.example/g01023/laws.FnExactWrongRows", spec := "fnExactWrongRows", unfollowed := true, recurses := true, apart := false, narrowed := true }
def FnExactWrongRowsUptoSaid : Prop := fnExactWrongRowsUptoRow.holds Try.pinned (OpenSpec.upto fnExactWrongRowsSpec)

/-- 'laws.FnExactIsSamePiece', WHERE WHAT IT READS IS OF BULK AT MOST 1048576: true; the input reads as it did. -/
def fnExactIsSamePieceUptoRow : OpenClaim := { program := "ytcjalfgnnabghaa", sum := "40d55d952da06f7a77c212303f8511fd165a797b94ddc75ee8fe497c3dfc7a37", func := "loop.example/g01023/laws.FnExactIsSamePiece", spec := "fnExactIsSamePiece", unfollowed := true, recurses := true, apart := false, narrowed := true }
def FnExactIsSamePieceUptoSaid : Prop := fnExactIsSamePieceUptoRow.holds Try.pinned (OpenSpec.upto fnExactIsSamePieceSpec)

/-- 'laws.FnExactBestShift', WHERE WHAT IT READS IS OF BULK AT MOST 1048576: true; the input reads as it did. -/
def fnExactBestShiftUptoRow : OpenClaim := { program := "ytcjalfgnnabghaa", sum := "40d55d952da06f7a77c212303f8511fd165a797b94ddc75ee8fe497c3dfc7a37", func := "loop.example/g01023/laws.FnExactBestShift", spec := "fnExactBestShift", unfollowed := true, recurses := true, apart := false, narrowed := true }
def FnExactBestShiftUptoSaid : Prop := fnExactBestShiftUptoRow.holds Try.pinned (OpenSpec.upto fnExactBestShiftSpec)

/-- 'laws.FnExactWrongKnots', WHERE WHAT IT READS IS OF BULK AT MOST 1048576: true; the input reads as it did. -/
def fnExactWrongKnotsUptoRow : OpenClaim := { program := "ytcjalfgnnabghaa", sum := "40d55d952da06f7a77c212303f8511fd165a797b94ddc75ee8fe497c3dfc7a37", func := "loop.example/g01023/laws.FnExactWrongKnots", spec := "fnExactWrongKnots", unfollowed := true, recurses := true, apart := false, narrowed := true }
def FnExactWrongKnotsUptoSaid : Prop := fnExactWrongKnotsUptoRow.holds Try.pinned (OpenSpec.upto fnExactWrongKnotsSpec)

/-- 'laws.FnExactSwappedColors', WHERE WHAT IT READS IS OF BULK AT MOST 1048576: true; the input reads as it did. -/
def fnExactSwappedColorsUptoRow : OpenClaim := { program := "ytcjalfgnnabghaa", sum := "40d55d952da06f7a77c212303f8511fd165a797b94ddc75ee8fe497c3dfc7a37", func := "loop.example/g01023/laws.FnExactSwappedColors", spec := "fnExactSwappedColors", unfollowed := true, recurses := true, apart := false, narrowed := true }
def FnExactSwappedColorsUptoSaid : Prop := fnExactSwappedColorsUptoRow.holds Try.pinned (OpenSpec.upto fnExactSwappedColorsSpec)

/-- 'laws.FnShifts', WHERE WHAT IT READS IS OF BULK AT MOST 1048576: true; the input reads as it did. -/
def fnShiftsUptoRow : OpenClaim := { program := "ytcjalfgnnabghaa", sum := "40d55d952da06f7a77c212303f8511fd165a797b94ddc75ee8fe497c3dfc7a37", func := "loop.example/g01023/laws.FnShifts", spec := "fnShifts", unfollowed := true, recurses := true, apart := false, narrowed := true }
def FnShiftsUptoSaid : Prop := fnShiftsUptoRow.holds Try.pinned (OpenSpec.upto fnShiftsSpec)

/-- 'laws.FnDifferences', WHERE WHAT IT READS IS OF BULK AT MOST 1048576: true; the input reads as it did. -/
def fnDifferencesUptoRow : OpenClaim := { program := "ytcjalfgnnabghaa", sum := "40d55d952da06f7a77c212303f8511fd165a797b94ddc75ee8fe497c3dfc7a37", func := "loop.example/g01023/laws.FnDifferences", spec := "fnDifferences", unfollowed := true, recurses := true, apart := false, narrowed := true }
def FnDifferencesUptoSaid : Prop := fnDifferencesUptoRow.holds Try.pinned (OpenSpec.upto fnDifferencesSpec)

end Rows
end Go.Proofs.Ytcjalfgnnabghaa
