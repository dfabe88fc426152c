/-
  No cell of these rows narrows 'for every input' (looked for: loops, veiled, ifaces, maps, wideKeys, modest, calm, conditions, laid).
  DERIVED. THE GIVEN ROWS OF THIS SEAT. 8 by the template 'for every input the law returns true; each argument reads behind the call as it read before'; 0 by the template 'total and deterministic' (their statements: YtnkecgldapagcaaTotals.lean).
  GIVEN WITH THE SEED: the statements are not yours to turn. If you find one false, say at which input.
  Laid BY PROGRAM, IN A SANDBOX (cutbox-rows.mjs): the forced cells as the released guide's own fill.sh prints them over the translation ec99fcfbee73b92a… (all of the seat's roots in one cut). By AI agents, Wed Nov 11 2026. No macro, syntax, notation, axiom, sorry.
-/
import Derived.Test.YtnkecgldapagcaaChecked
import GoSem.Claim
import GoSem.ClaimJoined
import GoSem.ClaimMapViews
import Derived.JoinedTies
import Derived.KernelRfl
namespace Go.Proofs.Ytnkecgldapagcaa
/- THE CELL 'sum', in the pinned program and in every row, IS THE sha256 OF THE DUMP (.gsa) THAT YtnkecgldapagcaaProg.lean LOADS. Nothing in Lean hashes anything: it is a label: what it is worth is what the hold of that sum in a sandbox is worth. -/
noncomputable def Try.pinned : Pinned := { name := "ytnkecgldapagcaa", sum := "ec99fcfbee73b92aabd36f43e96e9bafad7efeb64978d37d81c6d9327433d3a8", checked := Try.checked }
namespace Rows
def none {H : Type} : Left H := { results := [], args := [] }

/-- 'laws.FnExactYarnByColor': WHATEVER THE INPUT: true; the input reads as it did. -/
def fnExactYarnByColorSpec : ChangeSpec := { name := "fnExactYarnByColor", fn := fun _ => fun
  | [d1, d2] => { results := [.lit (.bool true)], args := [d1, d2] }
  | _ => none }
def fnExactYarnByColorRow : OpenClaim := { program := "ytnkecgldapagcaa", sum := "ec99fcfbee73b92aabd36f43e96e9bafad7efeb64978d37d81c6d9327433d3a8", func := "loop.example/g01023/laws.FnExactYarnByColor", spec := "fnExactYarnByColor", unfollowed := true, recurses := true, apart := false }
def FnExactYarnByColorSaid : Prop := fnExactYarnByColorRow.holds Try.pinned (OpenSpec.ofChange fnExactYarnByColorSpec)

/-- ITS FALSE NEIGHBOUR: 'it returns false'. Refute it at one input. -/
def fnExactYarnByColorWrong : ChangeSpec := { name := "fnExactYarnByColor", fn := fun _ => fun
  | [d1, d2] => { results := [.lit (.bool false)], args := [d1, d2] }
  | _ => none }
def FnExactYarnByColorWrongFalsely : Prop := fnExactYarnByColorRow.holds Try.pinned (OpenSpec.ofChange fnExactYarnByColorWrong)

/-- 'laws.FnExactBallsByColor': WHATEVER THE INPUT: true; the input reads as it did. -/
def fnExactBallsByColorSpec : ChangeSpec := { name := "fnExactBallsByColor", fn := fun _ => fun
  | [d1, d2] => { results := [.lit (.bool true)], args := [d1, d2] }
  | _ => none }
def fnExactBallsByColorRow : OpenClaim := { program := "ytnkecgldapagcaa", sum := "ec99fcfbee73b92aabd36f43e96e9bafad7efeb64978d37d81c6d9327433d3a8", func := "loop.example/g01023/laws.FnExactBallsByColor", spec := "fnExactBallsByColor", unfollowed := true, recurses := true, apart := false }
def FnExactBallsByColorSaid : Prop := fnExactBallsByColorRow.holds Try.pinned (OpenSpec.ofChange fnExactBallsByColorSpec)

/-- ITS FALSE NEIGHBOUR: 'it returns false'. Refute it at one input. -/
def fnExactBallsByColorWrong : ChangeSpec := { name := "fnExactBallsByColor", fn := fun _ => fun
  | [d1, d2] => { results := [.lit (.bool false)], args := [d1, d2] }
  | _ => none }
def FnExactBallsByColorWrongFalsely : Prop := fnExactBallsByColorRow.holds Try.pinned (OpenSpec.ofChange fnExactBallsByColorWrong)

/-- 'laws.FnExactShortColors': WHATEVER THE INPUT: true; the input reads as it did. -/
def fnExactShortColorsSpec : ChangeSpec := { name := "fnExactShortColors", fn := fun _ => fun
  | [d1, d2, d3] => { results := [.lit (.bool true)], args := [d1, d2, d3] }
  | _ => none }
def fnExactShortColorsRow : OpenClaim := { program := "ytnkecgldapagcaa", sum := "ec99fcfbee73b92aabd36f43e96e9bafad7efeb64978d37d81c6d9327433d3a8", func := "loop.example/g01023/laws.FnExactShortColors", spec := "fnExactShortColors", unfollowed := true, recurses := true, apart := false }
def FnExactShortColorsSaid : Prop := fnExactShortColorsRow.holds Try.pinned (OpenSpec.ofChange fnExactShortColorsSpec)

/-- ITS FALSE NEIGHBOUR: 'it returns false'. Refute it at one input. -/
def fnExactShortColorsWrong : ChangeSpec := { name := "fnExactShortColors", fn := fun _ => fun
  | [d1, d2, d3] => { results := [.lit (.bool false)], args := [d1, d2, d3] }
  | _ => none }
def FnExactShortColorsWrongFalsely : Prop := fnExactShortColorsRow.holds Try.pinned (OpenSpec.ofChange fnExactShortColorsWrong)

/-- 'laws.FnExactCarpetsFrom': WHATEVER THE INPUT: true; the input reads as it did. -/
def fnExactCarpetsFromSpec : ChangeSpec := { name := "fnExactCarpetsFrom", fn := fun _ => fun
  | [d1, d2, d3] => { results := [.lit (.bool true)], args := [d1, d2, d3] }
  | _ => none }
def fnExactCarpetsFromRow : OpenClaim := { program := "ytnkecgldapagcaa", sum := "ec99fcfbee73b92aabd36f43e96e9bafad7efeb64978d37d81c6d9327433d3a8", func := "loop.example/g01023/laws.FnExactCarpetsFrom", spec := "fnExactCarpetsFrom", unfollowed := true, recurses := true, apart := false }
def FnExactCarpetsFromSaid : Prop := fnExactCarpetsFromRow.holds Try.pinned (OpenSpec.ofChange fnExactCarpetsFromSpec)

/-- ITS FALSE NEIGHBOUR: 'it returns false'. Refute it at one input. -/
def fnExactCarpetsFromWrong : ChangeSpec := { name := "fnExactCarpetsFrom", fn := fun _ => fun
  | [d1, d2, d3] => { results := [.lit (.bool false)], args := [d1, d2, d3] }
  | _ => none }
def FnExactCarpetsFromWrongFalsely : Prop := fnExactCarpetsFromRow.holds Try.pinned (OpenSpec.ofChange fnExactCarpetsFromWrong)

/-- 'laws.FnExactHungriestColor': WHATEVER THE INPUT: true; the input reads as it did. -/
def fnExactHungriestColorSpec : ChangeSpec := { name := "fnExactHungriestColor", fn := fun _ => fun
  | [d] => { results := [.lit (.bool true)], args := [d] }
  | _ => none }
def fnExactHungriestColorRow : OpenClaim := { program := "ytnkecgldapagcaa", sum := "ec99fcfbee73b92aabd36f43e96e9bafad7efeb64978d37d81c6d9327433d3a8", func := "loop.example/g01023/laws.FnExactHungriestColor", spec := "fnExactHungriestColor", unfollowed := true, recurses := true, apart := false }
def FnExactHungriestColorSaid : Prop := fnExactHungriestColorRow.holds Try.pinned (OpenSpec.ofChange fnExactHungriestColorSpec)

/-- ITS FALSE NEIGHBOUR: 'it returns false'. Refute it at one input. -/
def fnExactHungriestColorWrong : ChangeSpec := { name := "fnExactHungriestColor", fn := fun _ => fun
  | [d] => { results := [.lit (.bool false)], args := [d] }
  | _ => none }
def FnExactHungriestColorWrongFalsely : Prop := fnExactHungriestColorRow.holds Try.pinned (OpenSpec.ofChange fnExactHungriestColorWrong)

/-- 'laws.FnExactColorShare': WHATEVER THE INPUT: true; the input reads as it did. -/
def fnExactColorShareSpec : ChangeSpec := { name := "fnExactColorShare", fn := fun _ => fun
  | [d1, d2] => { results := [.lit (.bool true)], args := [d1, d2] }
  | _ => none }
def fnExactColorShareRow : OpenClaim := { program := "ytnkecgldapagcaa", sum := "ec99fcfbee73b92aabd36f43e96e9bafad7efeb64978d37d81c6d9327433d3a8", func := "loop.example/g01023/laws.FnExactColorShare", spec := "fnExactColorShare", unfollowed := true, recurses := true, apart := false }
def FnExactColorShareSaid : Prop := fnExactColorShareRow.holds Try.pinned (OpenSpec.ofChange fnExactColorShareSpec)

/-- ITS FALSE NEIGHBOUR: 'it returns false'. Refute it at one input. -/
def fnExactColorShareWrong : ChangeSpec := { name := "fnExactColorShare", fn := fun _ => fun
  | [d1, d2] => { results := [.lit (.bool false)], args := [d1, d2] }
  | _ => none }
def FnExactColorShareWrongFalsely : Prop := fnExactColorShareRow.holds Try.pinned (OpenSpec.ofChange fnExactColorShareWrong)

/-- 'laws.FnYarns': WHATEVER THE INPUT: true; the input reads as it did. -/
def fnYarnsSpec : ChangeSpec := { name := "fnYarns", fn := fun _ => fun
  | [d] => { results := [.lit (.bool true)], args := [d] }
  | _ => none }
def fnYarnsRow : OpenClaim := { program := "ytnkecgldapagcaa", sum := "ec99fcfbee73b92aabd36f43e96e9bafad7efeb64978d37d81c6d9327433d3a8", func := "loop.example/g01023/laws.FnYarns", spec := "fnYarns", unfollowed := true, recurses := true, apart := false }
def FnYarnsSaid : Prop := fnYarnsRow.holds Try.pinned (OpenSpec.ofChange fnYarnsSpec)

/-- ITS FALSE NEIGHBOUR: 'it returns false'. Refute it at one input. -/
def fnYarnsWrong : ChangeSpec := { name := "fnYarns", fn := fun _ => fun
  | [d] => { results := [.lit (.bool false)], args := [d] }
  | _ => none }
def FnYarnsWrongFalsely : Prop := fnYarnsRow.holds Try.pinned (OpenSpec.ofChange fnYarnsWrong)

/-- 'laws.FnStocks': WHATEVER THE INPUT: true; the input reads as it did. -/
def fnStocksSpec : ChangeSpec := { name := "fnStocks", fn := fun _ => fun
  | [d] => { results := [.lit (.bool true)], args := [d] }
  | _ => none }
def fnStocksRow : OpenClaim := { program := "ytnkecgldapagcaa", sum := "ec99fcfbee73b92aabd36f43e96e9bafad7efeb64978d37d81c6d9327433d3a8", func := "loop.example/g01023/laws.FnStocks", spec := "fnStocks", unfollowed := true, recurses := true, apart := false }
def FnStocksSaid : Prop := fnStocksRow.holds Try.pinned (OpenSpec.ofChange fnStocksSpec)

/-- ITS FALSE NEIGHBOUR: 'it returns false'. Refute it at one input. -/
def fnStocksWrong : ChangeSpec := { name := "fnStocks", fn := fun _ => fun
  | [d] => { results := [.lit (.bool false)], args := [d] }
  | _ => none }
def FnStocksWrongFalsely : Prop := fnStocksRow.holds Try.pinned (OpenSpec.ofChange fnStocksWrong)

/- THE SECOND FORM. 'bulk': how many values and letters a reading holds, each counted each time it is reached (what is shared counts as often as it is met; a slice's spare places count too). A statement '..UptoSaid' is the law's where the arguments, and the package variables that the reading takes, are together of bulk at most 1048576: NARROWER than '..Said'. Prove '..Said' where nothing that the law and all that it calls make is longer than what came in: it says more and counts as full. Else prove '..UptoSaid'. A law counts once. -/
mutual
def uptoBulk {H : Type} : DataW H → Nat
  | .lit (.string bytes) => bytes.length + 1
  | .lit _ => 1
  | .nil => 1
  | .ptr d => uptoBulk d + 1
  | .slice elems spare => uptoBulkAll elems + uptoBulkAll spare + 1
  | .agg parts => uptoBulkAll parts + 1
  | .iface _ d => uptoBulk d + 1
  | .map entries => uptoBulkEntries entries + 1
  | .held _ => 1
def uptoBulkAll {H : Type} : List (DataW H) → Nat
  | [] => 0
  | d :: r => uptoBulk d + uptoBulkAll r
def uptoBulkEntries {H : Type} : List (Lit × DataW H) → Nat
  | [] => 0
  | x :: r => uptoBulkEntry x + uptoBulkEntries r
def uptoBulkEntry {H : Type} : Lit × DataW H → Nat
  | (.string bytes, d) => bytes.length + uptoBulk d + 1
  | (_, d) => uptoBulk d + 1
 end
def uptoSmall : (H : Type) → List (DataW H) → Bool := fun _ ds => decide (uptoBulkAll ds ≤ 1048576)
def OpenSpec.upto (s : _root_.Go.ChangeSpec) : _root_.Go.OpenSpec := { _root_.Go.OpenSpec.ofChange s with cond := some uptoSmall }

/-- 'laws.FnExactYarnByColor', WHERE WHAT IT READS IS OF BULK AT MOST 1048576: true; the input reads as it did. -/
def fnExactYarnByColorUptoRow : OpenClaim := { program := "ytnkecgldapagcaa", sum := "ec99fcfbee73b92aabd36f43e96e9bafad7efeb64978d37d81c6d9327433d3a8", func := "loop.example/g01023/laws.FnExactYarnByColor", spec := "fnExactYarnByColor", unfollowed := true, recurses := true, apart := false, narrowed := true }
def FnExactYarnByColorUptoSaid : Prop := fnExactYarnByColorUptoRow.holds Try.pinned (OpenSpec.upto fnExactYarnByColorSpec)

/-- 'laws.FnExactBallsByColor', WHERE WHAT IT READS IS OF BULK AT MOST 1048576: true; the input reads as it did. -/
def fnExactBallsByColorUptoRow : OpenClaim := { program := "ytnkecgldapagcaa", sum := "ec99fcfbee73b92aabd36f43e96e9bafad7efeb64978d37d81c6d9327433d3a8", func := "loop.example/g01023/laws.FnExactBallsByColor", spec := "fnExactBallsByColor", unfollowed := true, recurses := true, apart := false, narrowed := true }
def FnExactBallsByColorUptoSaid : Prop := fnExactBallsByColorUptoRow.holds Try.pinned (OpenSpec.upto fnExactBallsByColorSpec)

/-- 'laws.FnExactShortColors', WHERE WHAT IT READS IS OF BULK AT MOST 1048576: true; the input reads as it did. -/
def fnExactShortColorsUptoRow : OpenClaim := { program := "ytnkecgldapagcaa", sum := "ec99fcfbee73b92aabd36f43e96e9bafad7efeb64978d37d81c6d9327433d3a8", func := "loop.example/g01023/laws.FnExactShortColors", spec := "fnExactShortColors", unfollowed := true, recurses := true, apart := false, narrowed := true }
def FnExactShortColorsUptoSaid : Prop := fnExactShortColorsUptoRow.holds Try.pinned (OpenSpec.upto fnExactShortColorsSpec)

/-- 'laws.FnExactCarpetsFrom', WHERE WHAT IT READS IS OF BULK AT MOST 1048576: true; the input reads as it did. -/
def fnExactCarpetsFromUptoRow : OpenClaim := { program := "ytnkecgldapagcaa", sum := "ec99fcfbee73b92aabd36f43e96e9bafad7efeb64978d37d81c6d9327433d3a8", func := "loop.example/g01023/laws.FnExactCarpetsFrom", spec := "fnExactCarpetsFrom", unfollowed := true, recurses := true, apart := false, narrowed := true }
def FnExactCarpetsFromUptoSaid : Prop := fnExactCarpetsFromUptoRow.holds Try.pinned (OpenSpec.upto fnExactCarpetsFromSpec)

/-- 'laws.FnExactHungriestColor', WHERE WHAT IT READS IS OF BULK AT MOST 1048576: true; the input reads as it did. -/
def fnExactHungriestColorUptoRow : OpenClaim := { program := "ytnkecgldapagcaa", sum := "ec99fcfbee73b92aabd36f43e96e9bafad7efeb64978d37d81c6d9327433d3a8", func := "loop.example/g01023/laws.FnExactHungriestColor", spec := "fnExactHungriestColor", unfollowed := true, recurses := true, apart := false, narrowed := true }
def FnExactHungriestColorUptoSaid : Prop := fnExactHungriestColorUptoRow.holds Try.pinned (OpenSpec.upto fnExactHungriestColorSpec)

/-- 'laws.FnExactColorShare', WHERE WHAT IT READS IS OF BULK AT MOST 1048576: true; the input reads as it did. -/
def fnExactColorShareUptoRow : OpenClaim := { program := "ytnkecgldapagcaa", sum := "ec99fcfbee73b92aabd36f43e96e9bafad7efeb64978d37d81c6d9327433d3a8", func := "loop.example/g01023/laws.FnExactColorShare", spec := "fnExactColorShare", unfollowed := true, recurses := true, apart := false, narrowed := true }
def FnExactColorShareUptoSaid : Prop := fnExactColorShareUptoRow.holds Try.pinned (OpenSpec.upto fnExactColorShareSpec)

/-- 'laws.FnYarns', WHERE WHAT IT READS IS OF BULK AT MOST 1048576: true; the input reads as it did. -/
def fnYarnsUptoRow : OpenClaim := { program := "ytnkecgldapagcaa", sum := "ec99fcfbee73b92aabd36f43e96e9bafad7efeb64978d37d81c6d9327433d3a8", func := "loop.example/g01023/laws.FnYarns", spec := "fnYarns", unfollowed := true, recurses := true, apart := false, narrowed := true }
def FnYarnsUptoSaid : Prop := fnYarnsUptoRow.holds Try.pinned (OpenSpec.upto fnYarnsSpec)

/-- 'laws.FnStocks', WHERE WHAT IT READS IS OF BULK AT MOST 1048576: true; the input reads as it did. -/
def fnStocksUptoRow : OpenClaim := { program := "ytnkecgldapagcaa", sum := "ec99fcfbee73b92aabd36f43e96e9bafad7efeb64978d37d81c6d9327433d3a8", func := "loop.example/g01023/laws.FnStocks", spec := "fnStocks", unfollowed := true, recurses := true, apart := false, narrowed := true }
def FnStocksUptoSaid : Prop := fnStocksUptoRow.holds Try.pinned (OpenSpec.upto fnStocksSpec)

end Rows
end Go.Proofs.Ytnkecgldapagcaa
