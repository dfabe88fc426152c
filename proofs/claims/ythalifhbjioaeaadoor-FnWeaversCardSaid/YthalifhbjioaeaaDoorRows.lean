/-
  NARROWER THAN 'FOR EVERY INPUT', by the rows' own cells (each row's printed sentence says how): FnExactIsWeaver: laid · FnExactAreWeavers: laid · FnExactKnotsADay: laid · FnExactDaysForKnots: laid · FnExactLoomsUsed: laid · FnExactWithSkills: laid · FnExactFastestFree: laid · FnExactSeatWeaver: laid · FnExactTeachSkill: laid · FnExactFewestFor: laid · FnSkills: laid · FnWeavers: laid.
  DERIVED. THE GIVEN ROWS OF THIS SEAT. 12 by the template 'for every input the law returns true; each argument reads behind the call as it read before'; 0 by the template 'total and deterministic' (their statements: YthalifhbjioaeaaDoorTotals.lean).
  GIVEN WITH THE SEED: the statements are not yours to turn. If you find one false, say at which input.
  Laid BY PROGRAM, IN A SANDBOX (cutbox-rows.mjs): the forced cells as the released guide's own fill.sh prints them over the translation 862ae55e59425d4c… (all of the seat's roots in one cut). By AI agents, Wed Nov 11 2026. No macro, syntax, notation, axiom, sorry.
-/
import Derived.Test.YthalifhbjioaeaaDoorChecked
import GoSem.PinnedTables
import GoSem.Claim
import GoSem.ClaimJoined
import GoSem.ClaimMapViews
import Derived.JoinedTies
import Derived.KernelRfl
namespace Go.Proofs.YthalifhbjioaeaaDoor
/- THE CELL 'sum', in the pinned program and in every row, IS THE sha256 OF THE DUMP (.gsa) THAT YthalifhbjioaeaaDoorProg.lean LOADS. Nothing in Lean hashes anything: it is a label: what it is worth is what the hold of that sum in a sandbox is worth. -/
noncomputable def Tryd.pinned : Pinned := { name := "ythalifhbjioaeaadoor", sum := "862ae55e59425d4c505c2cb1c1fbc8da98c3a8fe51740bffbd161b2a27d189ca", checked := Tryd.checked }
namespace Rows
def none {H : Type} : Left H := { results := [], args := [] }

/- WHAT THE LISTED PACKAGE-LEVEL VARIABLES READ AS WHEN THE CALL BEGINS. Each datum BY PROGRAM (the guide's laid-datum.mjs) off the statement by which the dump's own 'gosem.cut.vars' lays the variable. In a bare row this is a premise. The card (YthalifhbjioaeaaDoorCards.lean) ties it to the program's text. -/
def laid_unicode_utf8_acceptRanges {H : Type} : DataW H := .agg [.agg [.lit (.int .u8 128), .lit (.int .u8 191)], .agg [.lit (.int .u8 160), .lit (.int .u8 191)], .agg [.lit (.int .u8 128), .lit (.int .u8 159)], .agg [.lit (.int .u8 144), .lit (.int .u8 191)], .agg [.lit (.int .u8 128), .lit (.int .u8 143)], .agg [.lit (.int .u8 0), .lit (.int .u8 0)], .agg [.lit (.int .u8 0), .lit (.int .u8 0)], .agg [.lit (.int .u8 0), .lit (.int .u8 0)], .agg [.lit (.int .u8 0), .lit (.int .u8 0)], .agg [.lit (.int .u8 0), .lit (.int .u8 0)], .agg [.lit (.int .u8 0), .lit (.int .u8 0)], .agg [.lit (.int .u8 0), .lit (.int .u8 0)], .agg [.lit (.int .u8 0), .lit (.int .u8 0)], .agg [.lit (.int .u8 0), .lit (.int .u8 0)], .agg [.lit (.int .u8 0), .lit (.int .u8 0)], .agg [.lit (.int .u8 0), .lit (.int .u8 0)]]
/-- One of Go's own tables, pinned by name: the form's constant. -/
def laid_unicode_utf8_first : DataW Unit := Go.Pinned.utf8First

/-- 'laws.FnExactIsWeaver': WHATEVER THE INPUT: true; the input reads as it did. -/
def fnExactIsWeaverSpec : ChangeSpec := { name := "fnExactIsWeaver", fn := fun _ => fun
  | [d] => { results := [.lit (.bool true)], args := [d] }
  | _ => none }
def fnExactIsWeaverRow : OpenClaim := { program := "ythalifhbjioaeaadoor", sum := "862ae55e59425d4c505c2cb1c1fbc8da98c3a8fe51740bffbd161b2a27d189ca", func := "loop.example/g01023/laws.FnExactIsWeaver", spec := "fnExactIsWeaver", inPlace := ["internal/bytealg.IndexByteString", "internal/bytealg.IndexString"], named := ["unicode/utf8.first", "unicode/utf8.acceptRanges", "internal/bytealg.MaxLen"], apart := false, laid := [("unicode/utf8.acceptRanges", laid_unicode_utf8_acceptRanges), ("unicode/utf8.first", laid_unicode_utf8_first)] }
def FnExactIsWeaverSaid : Prop := fnExactIsWeaverRow.holds Tryd.pinned (OpenSpec.ofChange fnExactIsWeaverSpec)

/-- ITS FALSE NEIGHBOUR: 'it returns false'. Refute it at one input. -/
def fnExactIsWeaverWrong : ChangeSpec := { name := "fnExactIsWeaver", fn := fun _ => fun
  | [d] => { results := [.lit (.bool false)], args := [d] }
  | _ => none }
def FnExactIsWeaverWrongFalsely : Prop := fnExactIsWeaverRow.holds Tryd.pinned (OpenSpec.ofChange fnExactIsWeaverWrong)

/-- 'laws.FnExactAreWeavers': WHATEVER THE INPUT: true; the input reads as it did. -/
def fnExactAreWeaversSpec : ChangeSpec := { name := "fnExactAreWeavers", fn := fun _ => fun
  | [d] => { results := [.lit (.bool true)], args := [d] }
  | _ => none }
def fnExactAreWeaversRow : OpenClaim := { program := "ythalifhbjioaeaadoor", sum := "862ae55e59425d4c505c2cb1c1fbc8da98c3a8fe51740bffbd161b2a27d189ca", func := "loop.example/g01023/laws.FnExactAreWeavers", spec := "fnExactAreWeavers", inPlace := ["internal/bytealg.IndexByteString", "internal/bytealg.IndexString"], unfollowed := true, recurses := true, named := ["unicode/utf8.first", "unicode/utf8.acceptRanges", "internal/bytealg.MaxLen"], apart := false, laid := [("unicode/utf8.acceptRanges", laid_unicode_utf8_acceptRanges), ("unicode/utf8.first", laid_unicode_utf8_first)] }
def FnExactAreWeaversSaid : Prop := fnExactAreWeaversRow.holds Tryd.pinned (OpenSpec.ofChange fnExactAreWeaversSpec)

/-- ITS FALSE NEIGHBOUR: 'it returns false'. Refute it at one input. -/
def fnExactAreWeaversWrong : ChangeSpec := { name := "fnExactAreWeavers", fn := fun _ => fun
  | [d] => { results := [.lit (.bool false)], args := [d] }
  | _ => none }
def FnExactAreWeaversWrongFalsely : Prop := fnExactAreWeaversRow.holds Tryd.pinned (OpenSpec.ofChange fnExactAreWeaversWrong)

/-- 'laws.FnExactKnotsADay': WHATEVER THE INPUT: true; the input reads as it did. -/
def fnExactKnotsADaySpec : ChangeSpec := { name := "fnExactKnotsADay", fn := fun _ => fun
  | [d1, d2] => { results := [.lit (.bool true)], args := [d1, d2] }
  | _ => none }
def fnExactKnotsADayRow : OpenClaim := { program := "ythalifhbjioaeaadoor", sum := "862ae55e59425d4c505c2cb1c1fbc8da98c3a8fe51740bffbd161b2a27d189ca", func := "loop.example/g01023/laws.FnExactKnotsADay", spec := "fnExactKnotsADay", inPlace := ["internal/bytealg.IndexByteString", "internal/bytealg.IndexString"], unfollowed := true, recurses := true, named := ["unicode/utf8.first", "unicode/utf8.acceptRanges", "internal/bytealg.MaxLen"], apart := false, laid := [("unicode/utf8.acceptRanges", laid_unicode_utf8_acceptRanges), ("unicode/utf8.first", laid_unicode_utf8_first)] }
def FnExactKnotsADaySaid : Prop := fnExactKnotsADayRow.holds Tryd.pinned (OpenSpec.ofChange fnExactKnotsADaySpec)

/-- ITS FALSE NEIGHBOUR: 'it returns false'. Refute it at one input. -/
def fnExactKnotsADayWrong : ChangeSpec := { name := "fnExactKnotsADay", fn := fun _ => fun
  | [d1, d2] => { results := [.lit (.bool false)], args := [d1, d2] }
  | _ => none }
def FnExactKnotsADayWrongFalsely : Prop := fnExactKnotsADayRow.holds Tryd.pinned (OpenSpec.ofChange fnExactKnotsADayWrong)

/-- 'laws.FnExactDaysForKnots': WHATEVER THE INPUT: true; the input reads as it did. -/
def fnExactDaysForKnotsSpec : ChangeSpec := { name := "fnExactDaysForKnots", fn := fun _ => fun
  | [d1, d2, d3] => { results := [.lit (.bool true)], args := [d1, d2, d3] }
  | _ => none }
def fnExactDaysForKnotsRow : OpenClaim := { program := "ythalifhbjioaeaadoor", sum := "862ae55e59425d4c505c2cb1c1fbc8da98c3a8fe51740bffbd161b2a27d189ca", func := "loop.example/g01023/laws.FnExactDaysForKnots", spec := "fnExactDaysForKnots", inPlace := ["internal/bytealg.IndexByteString", "internal/bytealg.IndexString"], unfollowed := true, recurses := true, named := ["unicode/utf8.first", "unicode/utf8.acceptRanges", "internal/bytealg.MaxLen"], apart := false, laid := [("unicode/utf8.acceptRanges", laid_unicode_utf8_acceptRanges), ("unicode/utf8.first", laid_unicode_utf8_first)] }
def FnExactDaysForKnotsSaid : Prop := fnExactDaysForKnotsRow.holds Tryd.pinned (OpenSpec.ofChange fnExactDaysForKnotsSpec)

/-- ITS FALSE NEIGHBOUR: 'it returns false'. Refute it at one input. -/
def fnExactDaysForKnotsWrong : ChangeSpec := { name := "fnExactDaysForKnots", fn := fun _ => fun
  | [d1, d2, d3] => { results := [.lit (.bool false)], args := [d1, d2, d3] }
  | _ => none }
def FnExactDaysForKnotsWrongFalsely : Prop := fnExactDaysForKnotsRow.holds Tryd.pinned (OpenSpec.ofChange fnExactDaysForKnotsWrong)

/-- 'laws.FnExactLoomsUsed': WHATEVER THE INPUT: true; the input reads as it did. -/
def fnExactLoomsUsedSpec : ChangeSpec := { name := "fnExactLoomsUsed", fn := fun _ => fun
  | [d] => { results := [.lit (.bool true)], args := [d] }
  | _ => none }
def fnExactLoomsUsedRow : OpenClaim := { program := "ythalifhbjioaeaadoor", sum := "862ae55e59425d4c505c2cb1c1fbc8da98c3a8fe51740bffbd161b2a27d189ca", func := "loop.example/g01023/laws.FnExactLoomsUsed", spec := "fnExactLoomsUsed", inPlace := ["internal/bytealg.IndexByteString", "internal/bytealg.IndexString"], unfollowed := true, recurses := true, named := ["unicode/utf8.first", "unicode/utf8.acceptRanges", "internal/bytealg.MaxLen"], apart := false, laid := [("unicode/utf8.acceptRanges", laid_unicode_utf8_acceptRanges), ("unicode/utf8.first", laid_unicode_utf8_first)] }
def FnExactLoomsUsedSaid : Prop := fnExactLoomsUsedRow.holds Tryd.pinned (OpenSpec.ofChange fnExactLoomsUsedSpec)

/-- ITS FALSE NEIGHBOUR: 'it returns false'. Refute it at one input. -/
def fnExactLoomsUsedWrong : ChangeSpec := { name := "fnExactLoomsUsed", fn := fun _ => fun
  | [d] => { results := [.lit (.bool false)], args := [d] }
  | _ => none }
def FnExactLoomsUsedWrongFalsely : Prop := fnExactLoomsUsedRow.holds Tryd.pinned (OpenSpec.ofChange fnExactLoomsUsedWrong)

/-- 'laws.FnExactWithSkills': WHATEVER THE INPUT: true; the input reads as it did. -/
def fnExactWithSkillsSpec : ChangeSpec := { name := "fnExactWithSkills", fn := fun _ => fun
  | [d1, d2] => { results := [.lit (.bool true)], args := [d1, d2] }
  | _ => none }
def fnExactWithSkillsRow : OpenClaim := { program := "ythalifhbjioaeaadoor", sum := "862ae55e59425d4c505c2cb1c1fbc8da98c3a8fe51740bffbd161b2a27d189ca", func := "loop.example/g01023/laws.FnExactWithSkills", spec := "fnExactWithSkills", inPlace := ["internal/bytealg.IndexByteString", "internal/bytealg.IndexString"], unfollowed := true, recurses := true, named := ["unicode/utf8.first", "unicode/utf8.acceptRanges", "internal/bytealg.MaxLen"], apart := false, laid := [("unicode/utf8.acceptRanges", laid_unicode_utf8_acceptRanges), ("unicode/utf8.first", laid_unicode_utf8_first)] }
def FnExactWithSkillsSaid : Prop := fnExactWithSkillsRow.holds Tryd.pinned (OpenSpec.ofChange fnExactWithSkillsSpec)

/-- ITS FALSE NEIGHBOUR: 'it returns false'. Refute it at one input. -/
def fnExactWithSkillsWrong : ChangeSpec := { name := "fnExactWithSkills", fn := fun _ => fun
  | [d1, d2] => { results := [.lit (.bool false)], args := [d1, d2] }
  | _ => none }
def FnExactWithSkillsWrongFalsely : Prop := fnExactWithSkillsRow.holds Tryd.pinned (OpenSpec.ofChange fnExactWithSkillsWrong)

/-- 'laws.FnExactFastestFree': WHATEVER THE INPUT: true; the input reads as it did. -/
def fnExactFastestFreeSpec : ChangeSpec := { name := "fnExactFastestFree", fn := fun _ => fun
  | [d] => { results := [.lit (.bool true)], args := [d] }
  | _ => none }
def fnExactFastestFreeRow : OpenClaim := { program := "ythalifhbjioaeaadoor", sum := "862ae55e59425d4c505c2cb1c1fbc8da98c3a8fe51740bffbd161b2a27d189ca", func := "loop.example/g01023/laws.FnExactFastestFree", spec := "fnExactFastestFree", inPlace := ["internal/bytealg.IndexByteString", "internal/bytealg.IndexString"], unfollowed := true, recurses := true, named := ["unicode/utf8.first", "unicode/utf8.acceptRanges", "internal/bytealg.MaxLen"], apart := false, laid := [("unicode/utf8.acceptRanges", laid_unicode_utf8_acceptRanges), ("unicode/utf8.first", laid_unicode_utf8_first)] }
def FnExactFastestFreeSaid : Prop := fnExactFastestFreeRow.holds Tryd.pinned (OpenSpec.ofChange fnExactFastestFreeSpec)

/-- ITS FALSE NEIGHBOUR: 'it returns false'. Refute it at one input. -/
def fnExactFastestFreeWrong : ChangeSpec := { name := "fnExactFastestFree", fn := fun _ => fun
  | [d] => { results := [.lit (.bool false)], args := [d] }
  | _ => none }
def FnExactFastestFreeWrongFalsely : Prop := fnExactFastestFreeRow.holds Tryd.pinned (OpenSpec.ofChange fnExactFastestFreeWrong)

/-- 'laws.FnExactSeatWeaver': WHATEVER THE INPUT: true; the input reads as it did. -/
def fnExactSeatWeaverSpec : ChangeSpec := { name := "fnExactSeatWeaver", fn := fun _ => fun
  | [d1, d2, d3] => { results := [.lit (.bool true)], args := [d1, d2, d3] }
  | _ => none }
def fnExactSeatWeaverRow : OpenClaim := { program := "ythalifhbjioaeaadoor", sum := "862ae55e59425d4c505c2cb1c1fbc8da98c3a8fe51740bffbd161b2a27d189ca", func := "loop.example/g01023/laws.FnExactSeatWeaver", spec := "fnExactSeatWeaver", inPlace := ["internal/bytealg.IndexByteString", "internal/bytealg.IndexString"], unfollowed := true, recurses := true, named := ["unicode/utf8.first", "unicode/utf8.acceptRanges", "internal/bytealg.MaxLen"], apart := false, laid := [("unicode/utf8.acceptRanges", laid_unicode_utf8_acceptRanges), ("unicode/utf8.first", laid_unicode_utf8_first)] }
def FnExactSeatWeaverSaid : Prop := fnExactSeatWeaverRow.holds Tryd.pinned (OpenSpec.ofChange fnExactSeatWeaverSpec)

/-- ITS FALSE NEIGHBOUR: 'it returns false'. Refute it at one input. -/
def fnExactSeatWeaverWrong : ChangeSpec := { name := "fnExactSeatWeaver", fn := fun _ => fun
  | [d1, d2, d3] => { results := [.lit (.bool false)], args := [d1, d2, d3] }
  | _ => none }
def FnExactSeatWeaverWrongFalsely : Prop := fnExactSeatWeaverRow.holds Tryd.pinned (OpenSpec.ofChange fnExactSeatWeaverWrong)

/-- 'laws.FnExactTeachSkill': WHATEVER THE INPUT: true; the input reads as it did. -/
def fnExactTeachSkillSpec : ChangeSpec := { name := "fnExactTeachSkill", fn := fun _ => fun
  | [d1, d2, d3, d4] => { results := [.lit (.bool true)], args := [d1, d2, d3, d4] }
  | _ => none }
def fnExactTeachSkillRow : OpenClaim := { program := "ythalifhbjioaeaadoor", sum := "862ae55e59425d4c505c2cb1c1fbc8da98c3a8fe51740bffbd161b2a27d189ca", func := "loop.example/g01023/laws.FnExactTeachSkill", spec := "fnExactTeachSkill", inPlace := ["internal/bytealg.IndexByteString", "internal/bytealg.IndexString"], unfollowed := true, recurses := true, named := ["unicode/utf8.first", "unicode/utf8.acceptRanges", "internal/bytealg.MaxLen"], apart := false, laid := [("unicode/utf8.acceptRanges", laid_unicode_utf8_acceptRanges), ("unicode/utf8.first", laid_unicode_utf8_first)] }
def FnExactTeachSkillSaid : Prop := fnExactTeachSkillRow.holds Tryd.pinned (OpenSpec.ofChange fnExactTeachSkillSpec)

/-- ITS FALSE NEIGHBOUR: 'it returns false'. Refute it at one input. -/
def fnExactTeachSkillWrong : ChangeSpec := { name := "fnExactTeachSkill", fn := fun _ => fun
  | [d1, d2, d3, d4] => { results := [.lit (.bool false)], args := [d1, d2, d3, d4] }
  | _ => none }
def FnExactTeachSkillWrongFalsely : Prop := fnExactTeachSkillRow.holds Tryd.pinned (OpenSpec.ofChange fnExactTeachSkillWrong)

/-- 'laws.FnExactFewestFor': WHATEVER THE INPUT: true; the input reads as it did. -/
def fnExactFewestForSpec : ChangeSpec := { name := "fnExactFewestFor", fn := fun _ => fun
  | [d1, d2] => { results := [.lit (.bool true)], args := [d1, d2] }
  | _ => none }
def fnExactFewestForRow : OpenClaim := { program := "ythalifhbjioaeaadoor", sum := "862ae55e59425d4c505c2cb1c1fbc8da98c3a8fe51740bffbd161b2a27d189ca", func := "loop.example/g01023/laws.FnExactFewestFor", spec := "fnExactFewestFor", inPlace := ["internal/bytealg.IndexByteString", "internal/bytealg.IndexString"], unfollowed := true, recurses := true, named := ["unicode/utf8.first", "unicode/utf8.acceptRanges", "internal/bytealg.MaxLen"], apart := false, laid := [("unicode/utf8.acceptRanges", laid_unicode_utf8_acceptRanges), ("unicode/utf8.first", laid_unicode_utf8_first)] }
def FnExactFewestForSaid : Prop := fnExactFewestForRow.holds Tryd.pinned (OpenSpec.ofChange fnExactFewestForSpec)

/-- ITS FALSE NEIGHBOUR: 'it returns false'. Refute it at one input. -/
def fnExactFewestForWrong : ChangeSpec := { name := "fnExactFewestFor", fn := fun _ => fun
  | [d1, d2] => { results := [.lit (.bool false)], args := [d1, d2] }
  | _ => none }
def FnExactFewestForWrongFalsely : Prop := fnExactFewestForRow.holds Tryd.pinned (OpenSpec.ofChange fnExactFewestForWrong)

/-- 'laws.FnSkills': WHATEVER THE INPUT: true; the input reads as it did. -/
def fnSkillsSpec : ChangeSpec := { name := "fnSkills", fn := fun _ => fun
  | [d] => { results := [.lit (.bool true)], args := [d] }
  | _ => none }
def fnSkillsRow : OpenClaim := { program := "ythalifhbjioaeaadoor", sum := "862ae55e59425d4c505c2cb1c1fbc8da98c3a8fe51740bffbd161b2a27d189ca", func := "loop.example/g01023/laws.FnSkills", spec := "fnSkills", inPlace := ["internal/bytealg.IndexByteString", "internal/bytealg.IndexString"], unfollowed := true, recurses := true, named := ["unicode/utf8.first", "unicode/utf8.acceptRanges", "internal/bytealg.MaxLen"], apart := false, laid := [("unicode/utf8.acceptRanges", laid_unicode_utf8_acceptRanges), ("unicode/utf8.first", laid_unicode_utf8_first)] }
def FnSkillsSaid : Prop := fnSkillsRow.holds Tryd.pinned (OpenSpec.ofChange fnSkillsSpec)

/-- ITS FALSE NEIGHBOUR: 'it returns false'. Refute it at one input. -/
def fnSkillsWrong : ChangeSpec := { name := "fnSkills", fn := fun _ => fun
  | [d] => { results := [.lit (.bool false)], args := [d] }
  | _ => none }
def FnSkillsWrongFalsely : Prop := fnSkillsRow.holds Tryd.pinned (OpenSpec.ofChange fnSkillsWrong)

/-- 'laws.FnWeavers': WHATEVER THE INPUT: true; the input reads as it did. -/
def fnWeaversSpec : ChangeSpec := { name := "fnWeavers", fn := fun _ => fun
  | [d] => { results := [.lit (.bool true)], args := [d] }
  | _ => none }
def fnWeaversRow : OpenClaim := { program := "ythalifhbjioaeaadoor", sum := "862ae55e59425d4c505c2cb1c1fbc8da98c3a8fe51740bffbd161b2a27d189ca", func := "loop.example/g01023/laws.FnWeavers", spec := "fnWeavers", inPlace := ["internal/bytealg.IndexByteString", "internal/bytealg.IndexString"], unfollowed := true, recurses := true, named := ["unicode/utf8.first", "unicode/utf8.acceptRanges", "internal/bytealg.MaxLen"], apart := false, laid := [("unicode/utf8.acceptRanges", laid_unicode_utf8_acceptRanges), ("unicode/utf8.first", laid_unicode_utf8_first)] }
def FnWeaversSaid : Prop := fnWeaversRow.holds Tryd.pinned (OpenSpec.ofChange fnWeaversSpec)

/-- ITS FALSE NEIGHBOUR: 'it returns false'. Refute it at one input. -/
def fnWeaversWrong : ChangeSpec := { name := "fnWeavers", fn := fun _ => fun
  | [d] => { results := [.lit (.bool false)], args := [d] }
  | _ => none }
def FnWeaversWrongFalsely : Prop := fnWeaversRow.holds Tryd.pinned (OpenSpec.ofChange fnWeaversWrong)

/- THE SECOND FORM. 'bulk': how many values and letters a reading holds, each counted each time it is reached (what is shared counts as often as it is met; a slice's spare places count too). A statement '..UptoSaid' is the law's where the arguments, and the package variables that the reading takes, are together of bulk at most 1048576: NARROWER than '..Said'. Prove '..Said' where nothing that the law and all that it calls make is longer than what came in: it says more and counts as full. Else prove '..UptoSaid'. A law counts once. -/
mutual
def uptoBulk {H : Type} : DataW H → Nat
  | .lit (.string bytes) => bytes.length + 1
  | .lit _ => 1
  | .nil => 1
  | .ptr d => uptoBulk d + 1
  | .slice elems spare => uptoBulkAll elems + uptoBulkAll spare + 1
  | .agg parts => uptoBulkAll parts + 1
  | .iface _ d => uptoBulk d + 1
  | .map entries => uptoBulkEntries entries + 1
  | .held _ => 1
def uptoBulkAll {H : Type} : List (DataW H) → Nat
  | [] => 0
  | d :: r => uptoBulk d + uptoBulkAll r
def uptoBulkEntries {H : Type} : List (Lit × DataW H) → Nat
  | [] => 0
  | x :: r => uptoBulkEntry x + uptoBulkEntries r
def uptoBulkEntry {H : Type} : Lit × DataW H → Nat
  | (.string bytes, d) => bytes.length + uptoBulk d + 1
  | (_, d) => uptoBulk d + 1
 end
def uptoSmall : (H : Type) → List (DataW H) → Bool := fun _ ds => decide (uptoBulkAll ds ≤ 1048576)
def OpenSpec.upto (s : _root_.Go.ChangeSpec) : _root_.Go.OpenSpec := { _root_.Go.OpenSpec.ofChange s with cond := some uptoSmall }

/-- 'laws.FnExactIsWeaver', WHERE WHAT IT READS IS OF BULK AT MOST 1048576: true; the input reads as it did. -/
def fnExactIsWeaverUptoRow : OpenClaim := { program := "ythalifhbjioaeaadoor", sum := "862ae55e59425d4c505c2cb1c1fbc8da98c3a8fe51740bffbd161b2a27d189ca", func := "loop.example/g01023/laws.FnExactIsWeaver", spec := "fnExactIsWeaver", inPlace := ["internal/bytealg.IndexByteString", "internal/bytealg.IndexString"], named := ["unicode/utf8.first", "unicode/utf8.acceptRanges", "internal/bytealg.MaxLen"], apart := false, laid := [("unicode/utf8.acceptRanges", laid_unicode_utf8_acceptRanges), ("unicode/utf8.first", laid_unicode_utf8_first)], narrowed := true }
def FnExactIsWeaverUptoSaid : Prop := fnExactIsWeaverUptoRow.holds Tryd.pinned (OpenSpec.upto fnExactIsWeaverSpec)

/-- 'laws.FnExactAreWeavers', WHERE WHAT IT READS IS OF BULK AT MOST 1048576: true; the input reads as it did. -/
def fnExactAreWeaversUptoRow : OpenClaim := { program := "ythalifhbjioaeaadoor", sum := "862ae55e59425d4c505c2cb1c1fbc8da98c3a8fe51740bffbd161b2a27d189ca", func := "loop.example/g01023/laws.FnExactAreWeavers", spec := "fnExactAreWeavers", inPlace := ["internal/bytealg.IndexByteString", "internal/bytealg.IndexString"], unfollowed := true, recurses := true, named := ["unicode/utf8.first", "unicode/utf8.acceptRanges", "internal/bytealg.MaxLen"], apart := false, laid := [("unicode/utf8.acceptRanges", laid_unicode_utf8_acceptRanges), ("unicode/utf8.first", laid_unicode_utf8_first)], narrowed := true }
def FnExactAreWeaversUptoSaid : Prop := fnExactAreWeaversUptoRow.holds Tryd.pinned (OpenSpec.upto fnExactAreWeaversSpec)

/-- 'laws.FnExactKnotsADay', WHERE WHAT IT READS IS OF BULK AT MOST 1048576: true; the input reads as it did. -/
def fnExactKnotsADayUptoRow : OpenClaim := { program := "ythalifhbjioaeaadoor", sum := "862ae55e59425d4c505c2cb1c1fbc8da98c3a8fe51740bffbd161b2a27d189ca", func := "loop.example/g01023/laws.FnExactKnotsADay", spec := "fnExactKnotsADay", inPlace := ["internal/bytealg.IndexByteString", "internal/bytealg.IndexString"], unfollowed := true, recurses := true, named := ["unicode/utf8.first", "unicode/utf8.acceptRanges", "internal/bytealg.MaxLen"], apart := false, laid := [("unicode/utf8.acceptRanges", laid_unicode_utf8_acceptRanges), ("unicode/utf8.first", laid_unicode_utf8_first)], narrowed := true }
def FnExactKnotsADayUptoSaid : Prop := fnExactKnotsADayUptoRow.holds Tryd.pinned (OpenSpec.upto fnExactKnotsADaySpec)

/-- 'laws.FnExactDaysForKnots', WHERE WHAT IT READS IS OF BULK AT MOST 1048576: true; the input reads as it did. -/
def fnExactDaysForKnotsUptoRow : OpenClaim := { program := "ythalifhbjioaeaadoor", sum := "862ae55e59425d4c505c2cb1c1fbc8da98c3a8fe51740bffbd161b2a27d189ca", func := "loop.example/g01023/laws.FnExactDaysForKnots", spec := "fnExactDaysForKnots", inPlace := ["internal/bytealg.IndexByteString", "internal/bytealg.IndexString"], unfollowed := true, recurses := true, named := ["unicode/utf8.first", "unicode/utf8.acceptRanges", "internal/bytealg.MaxLen"], apart := false, laid := [("unicode/utf8.acceptRanges", laid_unicode_utf8_acceptRanges), ("unicode/utf8.first", laid_unicode_utf8_first)], narrowed := true }
def FnExactDaysForKnotsUptoSaid : Prop := fnExactDaysForKnotsUptoRow.holds Tryd.pinned (OpenSpec.upto fnExactDaysForKnotsSpec)

/-- 'laws.FnExactLoomsUsed', WHERE WHAT IT READS IS OF BULK AT MOST 1048576: true; the input reads as it did. -/
def fnExactLoomsUsedUptoRow : OpenClaim := { program := "ythalifhbjioaeaadoor", sum := "862ae55e59425d4c505c2cb1c1fbc8da98c3a8fe51740bffbd161b2a27d189ca", func := "loop.example/g01023/laws.FnExactLoomsUsed", spec := "fnExactLoomsUsed", inPlace := ["internal/bytealg.IndexByteString", "internal/bytealg.IndexString"], unfollowed := true, recurses := true, named := ["unicode/utf8.first", "unicode/utf8.acceptRanges", "internal/bytealg.MaxLen"], apart := false, laid := [("unicode/utf8.acceptRanges", laid_unicode_utf8_acceptRanges), ("unicode/utf8.first", laid_unicode_utf8_first)], narrowed := true }
def FnExactLoomsUsedUptoSaid : Prop := fnExactLoomsUsedUptoRow.holds Tryd.pinned (OpenSpec.upto fnExactLoomsUsedSpec)

/-- 'laws.FnExactWithSkills', WHERE WHAT IT READS IS OF BULK AT MOST 1048576: true; the input reads as it did. -/
def fnExactWithSkillsUptoRow : OpenClaim := { program := "ythalifhbjioaeaadoor", sum := "862ae55e59425d4c505c2cb1c1fbc8da98c3a8fe51740bffbd161b2a27d189ca", func := "loop.example/g01023/laws.FnExactWithSkills", spec := "fnExactWithSkills", inPlace := ["internal/bytealg.IndexByteString", "internal/bytealg.IndexString"], unfollowed := true, recurses := true, named := ["unicode/utf8.first", "unicode/utf8.acceptRanges", "internal/bytealg.MaxLen"], apart := false, laid := [("unicode/utf8.acceptRanges", laid_unicode_utf8_acceptRanges), ("unicode/utf8.first", laid_unicode_utf8_first)], narrowed := true }
def FnExactWithSkillsUptoSaid : Prop := fnExactWithSkillsUptoRow.holds Tryd.pinned (OpenSpec.upto fnExactWithSkillsSpec)

/-- 'laws.FnExactFastestFree', WHERE WHAT IT READS IS OF BULK AT MOST 1048576: true; the input reads as it did. -/
def fnExactFastestFreeUptoRow : OpenClaim := { program := "ythalifhbjioaeaadoor", sum := "862ae55e59425d4c505c2cb1c1fbc8da98c3a8fe51740bffbd161b2a27d189ca", func := "loop.example/g01023/laws.FnExactFastestFree", spec := "fnExactFastestFree", inPlace := ["internal/bytealg.IndexByteString", "internal/bytealg.IndexString"], unfollowed := true, recurses := true, named := ["unicode/utf8.first", "unicode/utf8.acceptRanges", "internal/bytealg.MaxLen"], apart := false, laid := [("unicode/utf8.acceptRanges", laid_unicode_utf8_acceptRanges), ("unicode/utf8.first", laid_unicode_utf8_first)], narrowed := true }
def FnExactFastestFreeUptoSaid : Prop := fnExactFastestFreeUptoRow.holds Tryd.pinned (OpenSpec.upto fnExactFastestFreeSpec)

/-- 'laws.FnExactSeatWeaver', WHERE WHAT IT READS IS OF BULK AT MOST 1048576: true; the input reads as it did. -/
def fnExactSeatWeaverUptoRow : OpenClaim := { program := "ythalifhbjioaeaadoor", sum := "862ae55e59425d4c505c2cb1c1fbc8da98c3a8fe51740bffbd161b2a27d189ca", func := "loop.example/g01023/laws.FnExactSeatWeaver", spec := "fnExactSeatWeaver", inPlace := ["internal/bytealg.IndexByteString", "internal/bytealg.IndexString"], unfollowed := true, recurses := true, named := ["unicode/utf8.first", "unicode/utf8.acceptRanges", "internal/bytealg.MaxLen"], apart := false, laid := [("unicode/utf8.acceptRanges", laid_unicode_utf8_acceptRanges), ("unicode/utf8.first", laid_unicode_utf8_first)], narrowed := true }
def FnExactSeatWeaverUptoSaid : Prop := fnExactSeatWeaverUptoRow.holds Tryd.pinned (OpenSpec.upto fnExactSeatWeaverSpec)

/-- 'laws.FnExactTeachSkill', WHERE WHAT IT READS IS OF BULK AT MOST 1048576: true; the input reads as it did. -/
def fnExactTeachSkillUptoRow : OpenClaim := { program := "ythalifhbjioaeaadoor", sum := "862ae55e59425d4c505c2cb1c1fbc8da98c3a8fe51740bffbd161b2a27d189ca", func := "loop.example/g01023/laws.FnExactTeachSkill", spec := "fnExactTeachSkill", inPlace := ["internal/bytealg.IndexByteString", "internal/bytealg.IndexString"], unfollowed := true, recurses := true, named := ["unicode/utf8.first", "unicode/utf8.acceptRanges", "internal/bytealg.MaxLen"], apart := false, laid := [("unicode/utf8.acceptRanges", laid_unicode_utf8_acceptRanges), ("unicode/utf8.first", laid_unicode_utf8_first)], narrowed := true }
def FnExactTeachSkillUptoSaid : Prop := fnExactTeachSkillUptoRow.holds Tryd.pinned (OpenSpec.upto fnExactTeachSkillSpec)

/-- 'laws.FnExactFewestFor', WHERE WHAT IT READS IS OF BULK AT MOST 1048576: true; the input reads as it did. -/
def fnExactFewestForUptoRow : OpenClaim := { program := "ythalifhbjioaeaadoor", sum := "862ae55e59425d4c505c2cb1c1fbc8da98c3a8fe51740bffbd161b2a27d189ca", func := "loop.example/g01023/laws.FnExactFewestFor", spec := "fnExactFewestFor", inPlace := ["internal/bytealg.IndexByteString", "internal/bytealg.IndexString"], unfollowed := true, recurses := true, named := ["unicode/utf8.first", "unicode/utf8.acceptRanges", "internal/bytealg.MaxLen"], apart := false, laid := [("unicode/utf8.acceptRanges", laid_unicode_utf8_acceptRanges), ("unicode/utf8.first", laid_unicode_utf8_first)], narrowed := true }
def FnExactFewestForUptoSaid : Prop := fnExactFewestForUptoRow.holds Tryd.pinned (OpenSpec.upto fnExactFewestForSpec)

/-- 'laws.FnSkills', WHERE WHAT IT READS IS OF BULK AT MOST 1048576: true; the input reads as it did. -/
def fnSkillsUptoRow : OpenClaim := { program := "ythalifhbjioaeaadoor", sum := "862ae55e59425d4c505c2cb1c1fbc8da98c3a8fe51740bffbd161b2a27d189ca", func := "loop.example/g01023/laws.FnSkills", spec := "fnSkills", inPlace := ["internal/bytealg.IndexByteString", "internal/bytealg.IndexString"], unfollowed := true, recurses := true, named := ["unicode/utf8.first", "unicode/utf8.acceptRanges", "internal/bytealg.MaxLen"], apart := false, laid := [("unicode/utf8.acceptRanges", laid_unicode_utf8_acceptRanges), ("unicode/utf8.first", laid_unicode_utf8_first)], narrowed := true }
def FnSkillsUptoSaid : Prop := fnSkillsUptoRow.holds Tryd.pinned (OpenSpec.upto fnSkillsSpec)

/-- 'laws.FnWeavers', WHERE WHAT IT READS IS OF BULK AT MOST 1048576: true; the input reads as it did. -/
def fnWeaversUptoRow : OpenClaim := { program := "ythalifhbjioaeaadoor", sum := "862ae55e59425d4c505c2cb1c1fbc8da98c3a8fe51740bffbd161b2a27d189ca", func := "loop.example/g01023/laws.FnWeavers", spec := "fnWeavers", inPlace := ["internal/bytealg.IndexByteString", "internal/bytealg.IndexString"], unfollowed := true, recurses := true, named := ["unicode/utf8.first", "unicode/utf8.acceptRanges", "internal/bytealg.MaxLen"], apart := false, laid := [("unicode/utf8.acceptRanges", laid_unicode_utf8_acceptRanges), ("unicode/utf8.first", laid_unicode_utf8_first)], narrowed := true }
def FnWeaversUptoSaid : Prop := fnWeaversUptoRow.holds Tryd.pinned (OpenSpec.upto fnWeaversSpec)

end Rows
end Go.Proofs.YthalifhbjioaeaaDoor
