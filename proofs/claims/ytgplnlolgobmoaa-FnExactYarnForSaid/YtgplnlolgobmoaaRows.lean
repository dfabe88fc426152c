/-
  No cell of these rows narrows 'for every input' (looked for: loops, veiled, ifaces, maps, wideKeys, modest, calm, conditions, laid).
  DERIVED. THE GIVEN ROWS OF THIS SEAT. 6 by the template 'for every input the law returns true; each argument reads behind the call as it read before'; 0 by the template 'total and deterministic' (their statements: YtgplnlolgobmoaaTotals.lean).
  GIVEN WITH THE SEED: the statements are not yours to turn. If you find one false, say at which input.
  Laid BY PROGRAM, IN A SANDBOX (cutbox-rows.mjs): the forced cells as the released guide's own fill.sh prints them over the translation ac335989a9af2a56… (all of the seat's roots in one cut). By AI agents, Wed Nov 11 2026. No macro, syntax, notation, axiom, sorry.
-/
import Derived.Test.YtgplnlolgobmoaaChecked
import GoSem.Claim
import GoSem.ClaimJoined
import GoSem.ClaimMapViews
import Derived.JoinedTies
import Derived.KernelRfl
namespace Go.Proofs.Ytgplnlolgobmoaa
/- THE CELL 'sum', in the pinned program and in every row, IS THE sha256 OF THE DUMP (.gsa) THAT YtgplnlolgobmoaaProg.lean LOADS. Nothing in Lean hashes anything: it is a label: what it is worth is what the hold of that sum in a sandbox is worth. -/
noncomputable def Try.pinned : Pinned := { name := "ytgplnlolgobmoaa", sum := "ac335989a9af2a562002df26cfd7cbf0b32408d7f1030b79fc8e94238739e45a", checked := Try.checked }
namespace Rows
def none {H : Type} : Left H := { results := [], args := [] }

/-- 'laws.FnExactIsYarn': WHATEVER THE INPUT: true; the input reads as it did. -/
def fnExactIsYarnSpec : ChangeSpec := { name := "fnExactIsYarn", fn := fun _ => fun
  | [d] => { results := [.lit (.bool true)], args := [d] }
  | _ => none }
def fnExactIsYarnRow : OpenClaim := { program := "ytgplnlolgobmoaa", sum := "ac335989a9af2a562002df26cfd7cbf0b32408d7f1030b79fc8e94238739e45a", func := "loop.example/g01023/laws.FnExactIsYarn", spec := "fnExactIsYarn", apart := false }
def FnExactIsYarnSaid : Prop := fnExactIsYarnRow.holds Try.pinned (OpenSpec.ofChange fnExactIsYarnSpec)

/-- ITS FALSE NEIGHBOUR: 'it returns false'. Refute it at one input. -/
def fnExactIsYarnWrong : ChangeSpec := { name := "fnExactIsYarn", fn := fun _ => fun
  | [d] => { results := [.lit (.bool false)], args := [d] }
  | _ => none }
def FnExactIsYarnWrongFalsely : Prop := fnExactIsYarnRow.holds Try.pinned (OpenSpec.ofChange fnExactIsYarnWrong)

/-- 'laws.FnExactIsWorkSheet': WHATEVER THE INPUT: true; the input reads as it did. -/
def fnExactIsWorkSheetSpec : ChangeSpec := { name := "fnExactIsWorkSheet", fn := fun _ => fun
  | [d] => { results := [.lit (.bool true)], args := [d] }
  | _ => none }
def fnExactIsWorkSheetRow : OpenClaim := { program := "ytgplnlolgobmoaa", sum := "ac335989a9af2a562002df26cfd7cbf0b32408d7f1030b79fc8e94238739e45a", func := "loop.example/g01023/laws.FnExactIsWorkSheet", spec := "fnExactIsWorkSheet", apart := false }
def FnExactIsWorkSheetSaid : Prop := fnExactIsWorkSheetRow.holds Try.pinned (OpenSpec.ofChange fnExactIsWorkSheetSpec)

/-- ITS FALSE NEIGHBOUR: 'it returns false'. Refute it at one input. -/
def fnExactIsWorkSheetWrong : ChangeSpec := { name := "fnExactIsWorkSheet", fn := fun _ => fun
  | [d] => { results := [.lit (.bool false)], args := [d] }
  | _ => none }
def FnExactIsWorkSheetWrongFalsely : Prop := fnExactIsWorkSheetRow.holds Try.pinned (OpenSpec.ofChange fnExactIsWorkSheetWrong)

/-- 'laws.FnExactKnotsFrom': WHATEVER THE INPUT: true; the input reads as it did. -/
def fnExactKnotsFromSpec : ChangeSpec := { name := "fnExactKnotsFrom", fn := fun _ => fun
  | [d1, d2] => { results := [.lit (.bool true)], args := [d1, d2] }
  | _ => none }
def fnExactKnotsFromRow : OpenClaim := { program := "ytgplnlolgobmoaa", sum := "ac335989a9af2a562002df26cfd7cbf0b32408d7f1030b79fc8e94238739e45a", func := "loop.example/g01023/laws.FnExactKnotsFrom", spec := "fnExactKnotsFrom", apart := false }
def FnExactKnotsFromSaid : Prop := fnExactKnotsFromRow.holds Try.pinned (OpenSpec.ofChange fnExactKnotsFromSpec)

/-- ITS FALSE NEIGHBOUR: 'it returns false'. Refute it at one input. -/
def fnExactKnotsFromWrong : ChangeSpec := { name := "fnExactKnotsFrom", fn := fun _ => fun
  | [d1, d2] => { results := [.lit (.bool false)], args := [d1, d2] }
  | _ => none }
def FnExactKnotsFromWrongFalsely : Prop := fnExactKnotsFromRow.holds Try.pinned (OpenSpec.ofChange fnExactKnotsFromWrong)

/-- 'laws.FnExactAreRates': WHATEVER THE INPUT: true; the input reads as it did. -/
def fnExactAreRatesSpec : ChangeSpec := { name := "fnExactAreRates", fn := fun _ => fun
  | [d] => { results := [.lit (.bool true)], args := [d] }
  | _ => none }
def fnExactAreRatesRow : OpenClaim := { program := "ytgplnlolgobmoaa", sum := "ac335989a9af2a562002df26cfd7cbf0b32408d7f1030b79fc8e94238739e45a", func := "loop.example/g01023/laws.FnExactAreRates", spec := "fnExactAreRates", unfollowed := true, recurses := true, apart := false }
def FnExactAreRatesSaid : Prop := fnExactAreRatesRow.holds Try.pinned (OpenSpec.ofChange fnExactAreRatesSpec)

/-- ITS FALSE NEIGHBOUR: 'it returns false'. Refute it at one input. -/
def fnExactAreRatesWrong : ChangeSpec := { name := "fnExactAreRates", fn := fun _ => fun
  | [d] => { results := [.lit (.bool false)], args := [d] }
  | _ => none }
def FnExactAreRatesWrongFalsely : Prop := fnExactAreRatesRow.holds Try.pinned (OpenSpec.ofChange fnExactAreRatesWrong)

/-- 'laws.FnExactYarnFor': WHATEVER THE INPUT: true; the input reads as it did. -/
def fnExactYarnForSpec : ChangeSpec := { name := "fnExactYarnFor", fn := fun _ => fun
  | [d1, d2] => { results := [.lit (.bool true)], args := [d1, d2] }
  | _ => none }
def fnExactYarnForRow : OpenClaim := { program := "ytgplnlolgobmoaa", sum := "ac335989a9af2a562002df26cfd7cbf0b32408d7f1030b79fc8e94238739e45a", func := "loop.example/g01023/laws.FnExactYarnFor", spec := "fnExactYarnFor", apart := false }
def FnExactYarnForSaid : Prop := fnExactYarnForRow.holds Try.pinned (OpenSpec.ofChange fnExactYarnForSpec)

/-- ITS FALSE NEIGHBOUR: 'it returns false'. Refute it at one input. -/
def fnExactYarnForWrong : ChangeSpec := { name := "fnExactYarnFor", fn := fun _ => fun
  | [d1, d2] => { results := [.lit (.bool false)], args := [d1, d2] }
  | _ => none }
def FnExactYarnForWrongFalsely : Prop := fnExactYarnForRow.holds Try.pinned (OpenSpec.ofChange fnExactYarnForWrong)

/-- 'laws.FnExactKnotsForWage': WHATEVER THE INPUT: true; the input reads as it did. -/
def fnExactKnotsForWageSpec : ChangeSpec := { name := "fnExactKnotsForWage", fn := fun _ => fun
  | [d1, d2] => { results := [.lit (.bool true)], args := [d1, d2] }
  | _ => none }
def fnExactKnotsForWageRow : OpenClaim := { program := "ytgplnlolgobmoaa", sum := "ac335989a9af2a562002df26cfd7cbf0b32408d7f1030b79fc8e94238739e45a", func := "loop.example/g01023/laws.FnExactKnotsForWage", spec := "fnExactKnotsForWage", unfollowed := true, recurses := true, apart := false }
def FnExactKnotsForWageSaid : Prop := fnExactKnotsForWageRow.holds Try.pinned (OpenSpec.ofChange fnExactKnotsForWageSpec)

/-- ITS FALSE NEIGHBOUR: 'it returns false'. Refute it at one input. -/
def fnExactKnotsForWageWrong : ChangeSpec := { name := "fnExactKnotsForWage", fn := fun _ => fun
  | [d1, d2] => { results := [.lit (.bool false)], args := [d1, d2] }
  | _ => none }
def FnExactKnotsForWageWrongFalsely : Prop := fnExactKnotsForWageRow.holds Try.pinned (OpenSpec.ofChange fnExactKnotsForWageWrong)

/- THE SECOND FORM. 'bulk': how many values and letters a reading holds, each counted each time it is reached (what is shared counts as often as it is met; a slice's spare places count too). A statement '..UptoSaid' is the law's where the arguments, and the package variables that the reading takes, are together of bulk at most 1048576: NARROWER than '..Said'. Prove '..Said' where nothing that the law and all that it calls make is longer than what came in: it says more and counts as full. Else prove '..UptoSaid'. A law counts once. -/
mutual
def uptoBulk {H : Type} : DataW H → Nat
  | .lit (.string bytes) => bytes.length + 1
  | .lit _ => 1
  | .nil => 1
  | .ptr d => uptoBulk d + 1
  | .slice elems spare => uptoBulkAll elems + uptoBulkAll spare + 1
  | .agg parts => uptoBulkAll parts + 1
  | .iface _ d => uptoBulk d + 1
  | .map entries => uptoBulkEntries entries + 1
  | .held _ => 1
def uptoBulkAll {H : Type} : List (DataW H) → Nat
  | [] => 0
  | d :: r => uptoBulk d + uptoBulkAll r
def uptoBulkEntries {H : Type} : List (Lit × DataW H) → Nat
  | [] => 0
  | x :: r => uptoBulkEntry x + uptoBulkEntries r
def uptoBulkEntry {H : Type} : Lit × DataW H → Nat
  | (.string bytes, d) => bytes.length + uptoBulk d + 1
  | (_, d) => uptoBulk d + 1
 end
def uptoSmall : (H : Type) → List (DataW H) → Bool := fun _ ds => decide (uptoBulkAll ds ≤ 1048576)
def OpenSpec.upto (s : _root_.Go.ChangeSpec) : _root_.Go.OpenSpec := { _root_.Go.OpenSpec.ofChange s with cond := some uptoSmall }

/-- 'laws.FnExactIsYarn', WHERE WHAT IT READS IS OF BULK AT MOST 1048576: true; the input reads as it did. -/
def fnExactIsYarnUptoRow : OpenClaim := { program := "ytgplnlolgobmoaa", sum := "ac335989a9af2a562002df26cfd7cbf0b32408d7f1030b79fc8e94238739e45a", func := "loop.example/g01023/laws.FnExactIsYarn", spec := "fnExactIsYarn", apart := false, narrowed := true }
def FnExactIsYarnUptoSaid : Prop := fnExactIsYarnUptoRow.holds Try.pinned (OpenSpec.upto fnExactIsYarnSpec)

/-- 'laws.FnExactIsWorkSheet', WHERE WHAT IT READS IS OF BULK AT MOST 1048576: true; the input reads as it did. -/
def fnExactIsWorkSheetUptoRow : OpenClaim := { program := "ytgplnlolgobmoaa", sum := "ac335989a9af2a562002df26cfd7cbf0b32408d7f1030b79fc8e94238739e45a", func := "loop.example/g01023/laws.FnExactIsWorkSheet", spec := "fnExactIsWorkSheet", apart := false, narrowed := true }
def FnExactIsWorkSheetUptoSaid : Prop := fnExactIsWorkSheetUptoRow.holds Try.pinned (OpenSpec.upto fnExactIsWorkSheetSpec)

/-- 'laws.FnExactKnotsFrom', WHERE WHAT IT READS IS OF BULK AT MOST 1048576: true; the input reads as it did. -/
def fnExactKnotsFromUptoRow : OpenClaim := { program := "ytgplnlolgobmoaa", sum := "ac335989a9af2a562002df26cfd7cbf0b32408d7f1030b79fc8e94238739e45a", func := "loop.example/g01023/laws.FnExactKnotsFrom", spec := "fnExactKnotsFrom", apart := false, narrowed := true }
def FnExactKnotsFromUptoSaid : Prop := fnExactKnotsFromUptoRow.holds Try.pinned (OpenSpec.upto fnExactKnotsFromSpec)

/-- 'laws.FnExactAreRates', WHERE WHAT IT READS IS OF BULK AT MOST 1048576: true; the input reads as it did. -/
def fnExactAreRatesUptoRow : OpenClaim := { program := "ytgplnlolgobmoaa", sum := "ac335989a9af2a562002df26cfd7cbf0b32408d7f1030b79fc8e94238739e45a", func := "loop.example/g01023/laws.FnExactAreRates", spec := "fnExactAreRates", unfollowed := true, recurses := true, apart := false, narrowed := true }
def FnExactAreRatesUptoSaid : Prop := fnExactAreRatesUptoRow.holds Try.pinned (OpenSpec.upto fnExactAreRatesSpec)

/-- 'laws.FnExactYarnFor', WHERE WHAT IT READS IS OF BULK AT MOST 1048576: true; the input reads as it did. -/
def fnExactYarnForUptoRow : OpenClaim := { program := "ytgplnlolgobmoaa", sum := "ac335989a9af2a562002df26cfd7cbf0b32408d7f1030b79fc8e94238739e45a", func := "loop.example/g01023/laws.FnExactYarnFor", spec := "fnExactYarnFor", apart := false, narrowed := true }
def FnExactYarnForUptoSaid : Prop := fnExactYarnForUptoRow.holds Try.pinned (OpenSpec.upto fnExactYarnForSpec)

/-- 'laws.FnExactKnotsForWage', WHERE WHAT IT READS IS OF BULK AT MOST 1048576: true; the input reads as it did. -/
def fnExactKnotsForWageUptoRow : OpenClaim := { program := "ytgplnlolgobmoaa", sum := "ac335989a9af2a562002df26cfd7cbf0b32408d7f1030b79fc8e94238739e45a", func := "loop.example/g01023/laws.FnExactKnotsForWage", spec := "fnExactKnotsForWage", unfollowed := true, recurses := true, apart := false, narrowed := true }
def FnExactKnotsForWageUptoSaid : Prop := fnExactKnotsForWageUptoRow.holds Try.pinned (OpenSpec.upto fnExactKnotsForWageSpec)

end Rows
end Go.Proofs.Ytgplnlolgobmoaa
