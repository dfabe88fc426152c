/-
  No cell of these rows narrows 'for every input' (looked for: loops, veiled, ifaces, maps, wideKeys, modest, calm, conditions, laid).
  DERIVED. THE GIVEN ROWS OF THIS SEAT. 5 by the template 'for every input the law returns true; each argument reads behind the call as it read before'; 0 by the template 'total and deterministic' (their statements: YtplhkmeoeojinaaTotals.lean).
  GIVEN WITH THE SEED: the statements are not yours to turn. If you find one false, say at which input.
  Laid BY PROGRAM, IN A SANDBOX (cutbox-rows.mjs): the forced cells as the released guide's own fill.sh prints them over the translation db1771745a9bb9ea… (all of the seat's roots in one cut). By AI agents, Wed Nov 11 2026. No macro, syntax, notation, axiom, sorry.
-/
import Derived.Test.YtplhkmeoeojinaaChecked
import GoSem.Claim
import GoSem.ClaimJoined
import GoSem.ClaimMapViews
import Derived.JoinedTies
import Derived.KernelRfl
namespace Go.Proofs.Ytplhkmeoeojinaa
/- THE CELL 'sum', in the pinned program and in every row, IS THE sha256 OF THE DUMP (.gsa) THAT YtplhkmeoeojinaaProg.lean LOADS. Nothing in Lean hashes anything: it is a label: what it is worth is what the hold of that sum in a sandbox is worth. -/
noncomputable def Try.pinned : Pinned := { name := "ytplhkmeoeojinaa", sum := "db1771745a9bb9eabe0d1403554280f0ee0241336bbb52d076493904fe8a9dc1", checked := Try.checked }
namespace Rows
def none {H : Type} : Left H := { results := [], args := [] }

/-- 'laws.FnExactRingOf': WHATEVER THE INPUT: true; the input reads as it did. -/
def fnExactRingOfSpec : ChangeSpec := { name := "fnExactRingOf", fn := fun _ => fun
  | [d] => { results := [.lit (.bool true)], args := [d] }
  | _ => none }
def fnExactRingOfRow : OpenClaim := { program := "ytplhkmeoeojinaa", sum := "db1771745a9bb9eabe0d1403554280f0ee0241336bbb52d076493904fe8a9dc1", func := "loop.example/g01023/laws.FnExactRingOf", spec := "fnExactRingOf", unfollowed := true, recurses := true, apart := false }
def FnExactRingOfSaid : Prop := fnExactRingOfRow.holds Try.pinned (OpenSpec.ofChange fnExactRingOfSpec)

/-- ITS FALSE NEIGHBOUR: 'it returns false'. Refute it at one input. -/
def fnExactRingOfWrong : ChangeSpec := { name := "fnExactRingOf", fn := fun _ => fun
  | [d] => { results := [.lit (.bool false)], args := [d] }
  | _ => none }
def FnExactRingOfWrongFalsely : Prop := fnExactRingOfRow.holds Try.pinned (OpenSpec.ofChange fnExactRingOfWrong)

/-- 'laws.FnExactRingPeriod': WHATEVER THE INPUT: true; the input reads as it did. -/
def fnExactRingPeriodSpec : ChangeSpec := { name := "fnExactRingPeriod", fn := fun _ => fun
  | [d] => { results := [.lit (.bool true)], args := [d] }
  | _ => none }
def fnExactRingPeriodRow : OpenClaim := { program := "ytplhkmeoeojinaa", sum := "db1771745a9bb9eabe0d1403554280f0ee0241336bbb52d076493904fe8a9dc1", func := "loop.example/g01023/laws.FnExactRingPeriod", spec := "fnExactRingPeriod", unfollowed := true, recurses := true, apart := false }
def FnExactRingPeriodSaid : Prop := fnExactRingPeriodRow.holds Try.pinned (OpenSpec.ofChange fnExactRingPeriodSpec)

/-- ITS FALSE NEIGHBOUR: 'it returns false'. Refute it at one input. -/
def fnExactRingPeriodWrong : ChangeSpec := { name := "fnExactRingPeriod", fn := fun _ => fun
  | [d] => { results := [.lit (.bool false)], args := [d] }
  | _ => none }
def FnExactRingPeriodWrongFalsely : Prop := fnExactRingPeriodRow.holds Try.pinned (OpenSpec.ofChange fnExactRingPeriodWrong)

/-- 'laws.FnExactPlainProgram': WHATEVER THE INPUT: true; the input reads as it did. -/
def fnExactPlainProgramSpec : ChangeSpec := { name := "fnExactPlainProgram", fn := fun _ => fun
  | [d] => { results := [.lit (.bool true)], args := [d] }
  | _ => none }
def fnExactPlainProgramRow : OpenClaim := { program := "ytplhkmeoeojinaa", sum := "db1771745a9bb9eabe0d1403554280f0ee0241336bbb52d076493904fe8a9dc1", func := "loop.example/g01023/laws.FnExactPlainProgram", spec := "fnExactPlainProgram", unfollowed := true, recurses := true, apart := false }
def FnExactPlainProgramSaid : Prop := fnExactPlainProgramRow.holds Try.pinned (OpenSpec.ofChange fnExactPlainProgramSpec)

/-- ITS FALSE NEIGHBOUR: 'it returns false'. Refute it at one input. -/
def fnExactPlainProgramWrong : ChangeSpec := { name := "fnExactPlainProgram", fn := fun _ => fun
  | [d] => { results := [.lit (.bool false)], args := [d] }
  | _ => none }
def FnExactPlainProgramWrongFalsely : Prop := fnExactPlainProgramRow.holds Try.pinned (OpenSpec.ofChange fnExactPlainProgramWrong)

/-- 'laws.FnLooms': WHATEVER THE INPUT: true; the input reads as it did. -/
def fnLoomsSpec : ChangeSpec := { name := "fnLooms", fn := fun _ => fun
  | [d] => { results := [.lit (.bool true)], args := [d] }
  | _ => none }
def fnLoomsRow : OpenClaim := { program := "ytplhkmeoeojinaa", sum := "db1771745a9bb9eabe0d1403554280f0ee0241336bbb52d076493904fe8a9dc1", func := "loop.example/g01023/laws.FnLooms", spec := "fnLooms", unfollowed := true, recurses := true, apart := false }
def FnLoomsSaid : Prop := fnLoomsRow.holds Try.pinned (OpenSpec.ofChange fnLoomsSpec)

/-- ITS FALSE NEIGHBOUR: 'it returns false'. Refute it at one input. -/
def fnLoomsWrong : ChangeSpec := { name := "fnLooms", fn := fun _ => fun
  | [d] => { results := [.lit (.bool false)], args := [d] }
  | _ => none }
def FnLoomsWrongFalsely : Prop := fnLoomsRow.holds Try.pinned (OpenSpec.ofChange fnLoomsWrong)

/-- 'laws.FnLoomChoice': WHATEVER THE INPUT: true; the input reads as it did. -/
def fnLoomChoiceSpec : ChangeSpec := { name := "fnLoomChoice", fn := fun _ => fun
  | [d] => { results := [.lit (.bool true)], args := [d] }
  | _ => none }
def fnLoomChoiceRow : OpenClaim := { program := "ytplhkmeoeojinaa", sum := "db1771745a9bb9eabe0d1403554280f0ee0241336bbb52d076493904fe8a9dc1", func := "loop.example/g01023/laws.FnLoomChoice", spec := "fnLoomChoice", unfollowed := true, recurses := true, apart := false }
def FnLoomChoiceSaid : Prop := fnLoomChoiceRow.holds Try.pinned (OpenSpec.ofChange fnLoomChoiceSpec)

/-- ITS FALSE NEIGHBOUR: 'it returns false'. Refute it at one input. -/
def fnLoomChoiceWrong : ChangeSpec := { name := "fnLoomChoice", fn := fun _ => fun
  | [d] => { results := [.lit (.bool false)], args := [d] }
  | _ => none }
def FnLoomChoiceWrongFalsely : Prop := fnLoomChoiceRow.holds Try.pinned (OpenSpec.ofChange fnLoomChoiceWrong)

/- THE SECOND FORM. 'bulk': how many values and letters a reading holds, each counted each time it is reached (what is shared counts as often as it is met; a slice's spare places count too). A statement '..UptoSaid' is the law's where the arguments, and the package variables that the reading takes, are together of bulk at most 1048576: NARROWER than '..Said'. Prove '..Said' where nothing that the law and all that it calls make is longer than what came in: it says more and counts as full. Else prove '..UptoSaid'. A law counts once. -/
mutual
def uptoBulk {H : Type} : DataW H → Nat
  | .lit (.string bytes) => bytes.length + 1
  | .lit _ => 1
  | .nil => 1
  | .ptr d => uptoBulk d + 1
  | .slice elems spare => uptoBulkAll elems + uptoBulkAll spare + 1
  | .agg parts => uptoBulkAll parts + 1
  | .iface _ d => uptoBulk d + 1
  | .map entries => uptoBulkEntries entries + 1
  | .held _ => 1
def uptoBulkAll {H : Type} : List (DataW H) → Nat
  | [] => 0
  | d :: r => uptoBulk d + uptoBulkAll r
def uptoBulkEntries {H : Type} : List (Lit × DataW H) → Nat
  | [] => 0
  | x :: r => uptoBulkEntry x + uptoBulkEntries r
def uptoBulkEntry {H : Type} : Lit × DataW H → Nat
  | (.string bytes, d) => bytes.length + uptoBulk d + 1
  | (_, d) => uptoBulk d + 1
 end
def uptoSmall : (H : Type) → List (DataW H) → Bool := fun _ ds => decide (uptoBulkAll ds ≤ 1048576)
def OpenSpec.upto (s : _root_.Go.ChangeSpec) : _root_.Go.OpenSpec := { _root_.Go.OpenSpec.ofChange s with cond := some uptoSmall }

/-- 'laws.FnExactRingOf', WHERE WHAT IT READS IS OF BULK AT MOST 1048576: true; the input reads as it did. -/
def fnExactRingOfUptoRow : OpenClaim := { program := "ytplhkmeoeojinaa", sum := "db1771745a9bb9eabe0d1403554280f0ee0241336bbb52d076493904fe8a9dc1", func := "loop.example/g01023/laws.FnExactRingOf", spec := "fnExactRingOf", unfollowed := true, recurses := true, apart := false, narrowed := true }
def FnExactRingOfUptoSaid : Prop := fnExactRingOfUptoRow.holds Try.pinned (OpenSpec.upto fnExactRingOfSpec)

/-- 'laws.FnExactRingPeriod', WHERE WHAT IT READS IS OF BULK AT MOST 1048576: true; the input reads as it did. -/
def fnExactRingPeriodUptoRow : OpenClaim := { program := "ytplhkmeoeojinaa", sum := "db1771745a9bb9eabe0d1403554280f0ee0241336bbb52d076493904fe8a9dc1", func := "loop.example/g01023/laws.FnExactRingPeriod", spec := "fnExactRingPeriod", unfollowed := true, recurses := true, apart := false, narrowed := true }
def FnExactRingPeriodUptoSaid : Prop := fnExactRingPeriodUptoRow.holds Try.pinned (OpenSpec.upto fnExactRingPeriodSpec)

/-- 'laws.FnExactPlainProgram', WHERE WHAT IT READS IS OF BULK AT MOST 1048576: true; the input reads as it did. -/
def fnExactPlainProgramUptoRow : OpenClaim := { program := "ytplhkmeoeojinaa", sum := "db1771745a9bb9eabe0d1403554280f0ee0241336bbb52d076493904fe8a9dc1", func := "loop.example/g01023/laws.FnExactPlainProgram", spec := "fnExactPlainProgram", unfollowed := true, recurses := true, apart := false, narrowed := true }
def FnExactPlainProgramUptoSaid : Prop := fnExactPlainProgramUptoRow.holds Try.pinned (OpenSpec.upto fnExactPlainProgramSpec)

/-- 'laws.FnLooms', WHERE WHAT IT READS IS OF BULK AT MOST 1048576: true; the input reads as it did. -/
def fnLoomsUptoRow : OpenClaim := { program := "ytplhkmeoeojinaa", sum := "db1771745a9bb9eabe0d1403554280f0ee0241336bbb52d076493904fe8a9dc1", func := "loop.example/g01023/laws.FnLooms", spec := "fnLooms", unfollowed := true, recurses := true, apart := false, narrowed := true }
def FnLoomsUptoSaid : Prop := fnLoomsUptoRow.holds Try.pinned (OpenSpec.upto fnLoomsSpec)

/-- 'laws.FnLoomChoice', WHERE WHAT IT READS IS OF BULK AT MOST 1048576: true; the input reads as it did. -/
def fnLoomChoiceUptoRow : OpenClaim := { program := "ytplhkmeoeojinaa", sum := "db1771745a9bb9eabe0d1403554280f0ee0241336bbb52d076493904fe8a9dc1", func := "loop.example/g01023/laws.FnLoomChoice", spec := "fnLoomChoice", unfollowed := true, recurses := true, apart := false, narrowed := true }
def FnLoomChoiceUptoSaid : Prop := fnLoomChoiceUptoRow.holds Try.pinned (OpenSpec.upto fnLoomChoiceSpec)

end Rows
end Go.Proofs.Ytplhkmeoeojinaa
