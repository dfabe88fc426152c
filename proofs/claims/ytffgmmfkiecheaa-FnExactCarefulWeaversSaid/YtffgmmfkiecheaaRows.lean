/-
  No cell of these rows narrows 'for every input' (looked for: loops, veiled, ifaces, maps, wideKeys, modest, calm, conditions, laid).
  DERIVED. THE GIVEN ROWS OF THIS SEAT. 3 by the template 'for every input the law returns true; each argument reads behind the call as it read before'; 0 by the template 'total and deterministic' (their statements: YtffgmmfkiecheaaTotals.lean).
  GIVEN WITH THE SEED: the statements are not yours to turn. If you find one false, say at which input.
  Laid BY PROGRAM, IN A SANDBOX (cutbox-rows.mjs): the forced cells as the released guide's own fill.sh prints them over the translation c9e1505575a74f58… (all of the seat's roots in one cut). By AI agents, Wed Nov 11 2026. No macro, syntax, notation, axiom, sorry.
-/
import Derived.Test.YtffgmmfkiecheaaChecked
import GoSem.Claim
import GoSem.ClaimJoined
import GoSem.ClaimMapViews
import Derived.JoinedTies
import Derived.KernelRfl
namespace Go.Proofs.Ytffgmmfkiecheaa
/- THE CELL 'sum', in the pinned program and in every row, IS THE sha256 OF THE DUMP (.gsa) THAT YtffgmmfkiecheaaProg.lean LOADS. Nothing in Lean hashes anything: it is a label: what it is worth is what the hold of that sum in a sandbox is worth. -/
noncomputable def Try.pinned : Pinned := { name := "ytffgmmfkiecheaa", sum := "c9e1505575a74f58f8cf400229f44ac7ace455eac434b399d9550a7d8becb148", checked := Try.checked }
namespace Rows
def none {H : Type} : Left H := { results := [], args := [] }

/-- 'laws.FnExactPayRoll': WHATEVER THE INPUT: true; the input reads as it did. -/
def fnExactPayRollSpec : ChangeSpec := { name := "fnExactPayRoll", fn := fun _ => fun
  | [d1, d2] => { results := [.lit (.bool true)], args := [d1, d2] }
  | _ => none }
def fnExactPayRollRow : OpenClaim := { program := "ytffgmmfkiecheaa", sum := "c9e1505575a74f58f8cf400229f44ac7ace455eac434b399d9550a7d8becb148", func := "loop.example/g01023/laws.FnExactPayRoll", spec := "fnExactPayRoll", unfollowed := true, recurses := true, apart := false }
def FnExactPayRollSaid : Prop := fnExactPayRollRow.holds Try.pinned (OpenSpec.ofChange fnExactPayRollSpec)

/-- ITS FALSE NEIGHBOUR: 'it returns false'. Refute it at one input. -/
def fnExactPayRollWrong : ChangeSpec := { name := "fnExactPayRoll", fn := fun _ => fun
  | [d1, d2] => { results := [.lit (.bool false)], args := [d1, d2] }
  | _ => none }
def FnExactPayRollWrongFalsely : Prop := fnExactPayRollRow.holds Try.pinned (OpenSpec.ofChange fnExactPayRollWrong)

/-- 'laws.FnExactCarefulWeavers': WHATEVER THE INPUT: true; the input reads as it did. -/
def fnExactCarefulWeaversSpec : ChangeSpec := { name := "fnExactCarefulWeavers", fn := fun _ => fun
  | [d] => { results := [.lit (.bool true)], args := [d] }
  | _ => none }
def fnExactCarefulWeaversRow : OpenClaim := { program := "ytffgmmfkiecheaa", sum := "c9e1505575a74f58f8cf400229f44ac7ace455eac434b399d9550a7d8becb148", func := "loop.example/g01023/laws.FnExactCarefulWeavers", spec := "fnExactCarefulWeavers", unfollowed := true, recurses := true, apart := false }
def FnExactCarefulWeaversSaid : Prop := fnExactCarefulWeaversRow.holds Try.pinned (OpenSpec.ofChange fnExactCarefulWeaversSpec)

/-- ITS FALSE NEIGHBOUR: 'it returns false'. Refute it at one input. -/
def fnExactCarefulWeaversWrong : ChangeSpec := { name := "fnExactCarefulWeavers", fn := fun _ => fun
  | [d] => { results := [.lit (.bool false)], args := [d] }
  | _ => none }
def FnExactCarefulWeaversWrongFalsely : Prop := fnExactCarefulWeaversRow.holds Try.pinned (OpenSpec.ofChange fnExactCarefulWeaversWrong)

/-- 'laws.FnWages': WHATEVER THE INPUT: true; the input reads as it did. -/
def fnWagesSpec : ChangeSpec := { name := "fnWages", fn := fun _ => fun
  | [d] => { results := [.lit (.bool true)], args := [d] }
  | _ => none }
def fnWagesRow : OpenClaim := { program := "ytffgmmfkiecheaa", sum := "c9e1505575a74f58f8cf400229f44ac7ace455eac434b399d9550a7d8becb148", func := "loop.example/g01023/laws.FnWages", spec := "fnWages", unfollowed := true, recurses := true, apart := false }
def FnWagesSaid : Prop := fnWagesRow.holds Try.pinned (OpenSpec.ofChange fnWagesSpec)

/-- ITS FALSE NEIGHBOUR: 'it returns false'. Refute it at one input. -/
def fnWagesWrong : ChangeSpec := { name := "fnWages", fn := fun _ => fun
  | [d] => { results := [.lit (.bool false)], args := [d] }
  | _ => none }
def FnWagesWrongFalsely : Prop := fnWagesRow.holds Try.pinned (OpenSpec.ofChange fnWagesWrong)

/- THE SECOND FORM. 'bulk': how many values and letters a reading holds, each counted each time it is reached (what is shared counts as often as it is met; a slice's spare places count too). A statement '..UptoSaid' is the law's where the arguments, and the package variables that the reading takes, are together of bulk at most 1048576: NARROWER than '..Said'. Prove '..Said' where nothing that the law and all that it calls make is longer than what came in: it says more and counts as full. Else prove '..UptoSaid'. A law counts once. -/
mutual
def uptoBulk {H : Type} : DataW H → Nat
  | .lit (.string bytes) => bytes.length + 1
  | .lit _ => 1
  | .nil => 1
  | .ptr d => uptoBulk d + 1
  | .slice elems spare => uptoBulkAll elems + uptoBulkAll spare + 1
  | .agg parts => uptoBulkAll parts + 1
  | .iface _ d => uptoBulk d + 1
  | .map entries => uptoBulkEntries entries + 1
  | .held _ => 1
def uptoBulkAll {H : Type} : List (DataW H) → Nat
  | [] => 0
  | d :: r => uptoBulk d + uptoBulkAll r
def uptoBulkEntries {H : Type} : List (Lit × DataW H) → Nat
  | [] => 0
  | x :: r => uptoBulkEntry x + uptoBulkEntries r
def uptoBulkEntry {H : Type} : Lit × DataW H → Nat
  | (.string bytes, d) => bytes.length + uptoBulk d + 1
  | (_, d) => uptoBulk d + 1
 end
def uptoSmall : (H : Type) → List (DataW H) → Bool := fun _ ds => decide (uptoBulkAll ds ≤ 1048576)
def OpenSpec.upto (s : _root_.Go.ChangeSpec) : _root_.Go.OpenSpec := { _root_.Go.OpenSpec.ofChange s with cond := some uptoSmall }

/-- 'laws.FnExactPayRoll', WHERE WHAT IT READS IS OF BULK AT MOST 1048576: true; the input reads as it did. -/
def fnExactPayRollUptoRow : OpenClaim := { program := "ytffgmmfkiecheaa", sum := "c9e1505575a74f58f8cf400229f44ac7ace455eac434b399d9550a7d8becb148", func := "loop.example/g01023/laws.FnExactPayRoll", spec := "fnExactPayRoll", unfollowed := true, recurses := true, apart := false, narrowed := true }
def FnExactPayRollUptoSaid : Prop := fnExactPayRollUptoRow.holds Try.pinned (OpenSpec.upto fnExactPayRollSpec)

/-- 'laws.FnExactCarefulWeavers', WHERE WHAT IT READS IS OF BULK AT MOST 1048576: true; the input reads as it did. -/
def fnExactCarefulWeaversUptoRow : OpenClaim := { program := "ytffgmmfkiecheaa", sum := "c9e1505575a74f58f8cf400229f44ac7ace455eac434b399d9550a7d8becb148", func := "loop.example/g01023/laws.FnExactCarefulWeavers", spec := "fnExactCarefulWeavers", unfollowed := true, recurses := true, apart := false, narrowed := true }
def FnExactCarefulWeaversUptoSaid : Prop := fnExactCarefulWeaversUptoRow.holds Try.pinned (OpenSpec.upto fnExactCarefulWeaversSpec)

/-- 'laws.FnWages', WHERE WHAT IT READS IS OF BULK AT MOST 1048576: true; the input reads as it did. -/
def fnWagesUptoRow : OpenClaim := { program := "ytffgmmfkiecheaa", sum := "c9e1505575a74f58f8cf400229f44ac7ace455eac434b399d9550a7d8becb148", func := "loop.example/g01023/laws.FnWages", spec := "fnWages", unfollowed := true, recurses := true, apart := false, narrowed := true }
def FnWagesUptoSaid : Prop := fnWagesUptoRow.holds Try.pinned (OpenSpec.upto fnWagesSpec)

end Rows
end Go.Proofs.Ytffgmmfkiecheaa
