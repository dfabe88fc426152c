/-
  DERIVED. GIVEN WITH THE SEED: THE CARDS: each row of YthalifhbjioaeaaDoorRows.lean that lists a variable, with what it lists TIED to the program's text (the seventh form; the later family's looks); each row that meets fmt, with fmt's text TOLD by the authors' own Lean function (tested against real Go, not proved from fmt's source: count such statements apart). THE CARD IS WHAT COUNTS. Prove the row's statement (the work); the ties are given (YthalifhbjioaeaaDoorTie.lean); close each card by the builder's one call (the guide's Derived/Test/ToyasCard.lean, 'card_holds'). Laid BY PROGRAM, IN A SANDBOX (cutbox-door.mjs). By AI agents, Wed Nov 11 2026. No macro, syntax, notation, axiom, sorry.
-/
import Derived.Test.YthalifhbjioaeaaDoorRows
import GoSem.ClaimSeven
namespace Go.Proofs.YthalifhbjioaeaaDoor
namespace Rows

/-- THE TIED CARD OF 'laws.FnExactIsWeaver'. -/
def fnExactIsWeaverCard : Claim7 := { stood := { row := fnExactIsWeaverRow, standIns := [], harness := (true, "3119cdc5058c60ad0a35cab79044346d7d497265799827af89f18de256c85ede"), looks := false }, kinds := [], alts := [], laidByText := true, laidKinds := [.data, .pinned], laidTests := true, laidLooks := .later }
def FnExactIsWeaverCardSaid : Prop := Claim7.holds Tryd.pinned (.plain (OpenSpec.ofChange fnExactIsWeaverSpec)) fnExactIsWeaverCard

/-- THE TIED CARD OF 'laws.FnExactAreWeavers'. -/
def fnExactAreWeaversCard : Claim7 := { stood := { row := fnExactAreWeaversRow, standIns := [], harness := (true, "3119cdc5058c60ad0a35cab79044346d7d497265799827af89f18de256c85ede"), looks := false }, kinds := [], alts := [], laidByText := true, laidKinds := [.data, .pinned], laidTests := true, laidLooks := .later }
def FnExactAreWeaversCardSaid : Prop := Claim7.holds Tryd.pinned (.plain (OpenSpec.ofChange fnExactAreWeaversSpec)) fnExactAreWeaversCard

/-- THE TIED CARD OF 'laws.FnExactKnotsADay'. -/
def fnExactKnotsADayCard : Claim7 := { stood := { row := fnExactKnotsADayRow, standIns := [], harness := (true, "3119cdc5058c60ad0a35cab79044346d7d497265799827af89f18de256c85ede"), looks := false }, kinds := [], alts := [], laidByText := true, laidKinds := [.data, .pinned], laidTests := true, laidLooks := .later }
def FnExactKnotsADayCardSaid : Prop := Claim7.holds Tryd.pinned (.plain (OpenSpec.ofChange fnExactKnotsADaySpec)) fnExactKnotsADayCard

/-- THE TIED CARD OF 'laws.FnExactDaysForKnots'. -/
def fnExactDaysForKnotsCard : Claim7 := { stood := { row := fnExactDaysForKnotsRow, standIns := [], harness := (true, "3119cdc5058c60ad0a35cab79044346d7d497265799827af89f18de256c85ede"), looks := false }, kinds := [], alts := [], laidByText := true, laidKinds := [.data, .pinned], laidTests := true, laidLooks := .later }
def FnExactDaysForKnotsCardSaid : Prop := Claim7.holds Tryd.pinned (.plain (OpenSpec.ofChange fnExactDaysForKnotsSpec)) fnExactDaysForKnotsCard

/-- THE TIED CARD OF 'laws.FnExactLoomsUsed'. -/
def fnExactLoomsUsedCard : Claim7 := { stood := { row := fnExactLoomsUsedRow, standIns := [], harness := (true, "3119cdc5058c60ad0a35cab79044346d7d497265799827af89f18de256c85ede"), looks := false }, kinds := [], alts := [], laidByText := true, laidKinds := [.data, .pinned], laidTests := true, laidLooks := .later }
def FnExactLoomsUsedCardSaid : Prop := Claim7.holds Tryd.pinned (.plain (OpenSpec.ofChange fnExactLoomsUsedSpec)) fnExactLoomsUsedCard

/-- THE TIED CARD OF 'laws.FnExactWithSkills'. -/
def fnExactWithSkillsCard : Claim7 := { stood := { row := fnExactWithSkillsRow, standIns := [], harness := (true, "3119cdc5058c60ad0a35cab79044346d7d497265799827af89f18de256c85ede"), looks := false }, kinds := [], alts := [], laidByText := true, laidKinds := [.data, .pinned], laidTests := true, laidLooks := .later }
def FnExactWithSkillsCardSaid : Prop := Claim7.holds Tryd.pinned (.plain (OpenSpec.ofChange fnExactWithSkillsSpec)) fnExactWithSkillsCard

/-- THE TIED CARD OF 'laws.FnExactFastestFree'. -/
def fnExactFastestFreeCard : Claim7 := { stood := { row := fnExactFastestFreeRow, standIns := [], harness := (true, "3119cdc5058c60ad0a35cab79044346d7d497265799827af89f18de256c85ede"), looks := false }, kinds := [], alts := [], laidByText := true, laidKinds := [.data, .pinned], laidTests := true, laidLooks := .later }
def FnExactFastestFreeCardSaid : Prop := Claim7.holds Tryd.pinned (.plain (OpenSpec.ofChange fnExactFastestFreeSpec)) fnExactFastestFreeCard

/-- THE TIED CARD OF 'laws.FnExactSeatWeaver'. -/
def fnExactSeatWeaverCard : Claim7 := { stood := { row := fnExactSeatWeaverRow, standIns := [], harness := (true, "3119cdc5058c60ad0a35cab79044346d7d497265799827af89f18de256c85ede"), looks := false }, kinds := [], alts := [], laidByText := true, laidKinds := [.data, .pinned], laidTests := true, laidLooks := .later }
def FnExactSeatWeaverCardSaid : Prop := Claim7.holds Tryd.pinned (.plain (OpenSpec.ofChange fnExactSeatWeaverSpec)) fnExactSeatWeaverCard

/-- THE TIED CARD OF 'laws.FnExactTeachSkill'. -/
def fnExactTeachSkillCard : Claim7 := { stood := { row := fnExactTeachSkillRow, standIns := [], harness := (true, "3119cdc5058c60ad0a35cab79044346d7d497265799827af89f18de256c85ede"), looks := false }, kinds := [], alts := [], laidByText := true, laidKinds := [.data, .pinned], laidTests := true, laidLooks := .later }
def FnExactTeachSkillCardSaid : Prop := Claim7.holds Tryd.pinned (.plain (OpenSpec.ofChange fnExactTeachSkillSpec)) fnExactTeachSkillCard

/-- THE TIED CARD OF 'laws.FnExactFewestFor'. -/
def fnExactFewestForCard : Claim7 := { stood := { row := fnExactFewestForRow, standIns := [], harness := (true, "3119cdc5058c60ad0a35cab79044346d7d497265799827af89f18de256c85ede"), looks := false }, kinds := [], alts := [], laidByText := true, laidKinds := [.data, .pinned], laidTests := true, laidLooks := .later }
def FnExactFewestForCardSaid : Prop := Claim7.holds Tryd.pinned (.plain (OpenSpec.ofChange fnExactFewestForSpec)) fnExactFewestForCard

/-- THE TIED CARD OF 'laws.FnSkills'. -/
def fnSkillsCard : Claim7 := { stood := { row := fnSkillsRow, standIns := [], harness := (true, "3119cdc5058c60ad0a35cab79044346d7d497265799827af89f18de256c85ede"), looks := false }, kinds := [], alts := [], laidByText := true, laidKinds := [.data, .pinned], laidTests := true, laidLooks := .later }
def FnSkillsCardSaid : Prop := Claim7.holds Tryd.pinned (.plain (OpenSpec.ofChange fnSkillsSpec)) fnSkillsCard

/-- THE TIED CARD OF 'laws.FnWeavers'. -/
def fnWeaversCard : Claim7 := { stood := { row := fnWeaversRow, standIns := [], harness := (true, "3119cdc5058c60ad0a35cab79044346d7d497265799827af89f18de256c85ede"), looks := false }, kinds := [], alts := [], laidByText := true, laidKinds := [.data, .pinned], laidTests := true, laidLooks := .later }
def FnWeaversCardSaid : Prop := Claim7.holds Tryd.pinned (.plain (OpenSpec.ofChange fnWeaversSpec)) fnWeaversCard

/-- THE SECOND FORM's CARD OF 'laws.FnExactIsWeaver'. -/
def fnExactIsWeaverUptoCard : Claim7 := { stood := { row := fnExactIsWeaverUptoRow, standIns := [], harness := (true, "3119cdc5058c60ad0a35cab79044346d7d497265799827af89f18de256c85ede"), looks := false }, kinds := [], alts := [], laidByText := true, laidKinds := [.data, .pinned], laidTests := true, laidLooks := .later }
def FnExactIsWeaverUptoCardSaid : Prop := Claim7.holds Tryd.pinned (.plain (OpenSpec.upto fnExactIsWeaverSpec)) fnExactIsWeaverUptoCard

/-- THE SECOND FORM's CARD OF 'laws.FnExactAreWeavers'. -/
def fnExactAreWeaversUptoCard : Claim7 := { stood := { row := fnExactAreWeaversUptoRow, standIns := [], harness := (true, "3119cdc5058c60ad0a35cab79044346d7d497265799827af89f18de256c85ede"), looks := false }, kinds := [], alts := [], laidByText := true, laidKinds := [.data, .pinned], laidTests := true, laidLooks := .later }
def FnExactAreWeaversUptoCardSaid : Prop := Claim7.holds Tryd.pinned (.plain (OpenSpec.upto fnExactAreWeaversSpec)) fnExactAreWeaversUptoCard

/-- THE SECOND FORM's CARD OF 'laws.FnExactKnotsADay'. -/
def fnExactKnotsADayUptoCard : Claim7 := { stood := { row := fnExactKnotsADayUptoRow, standIns := [], harness := (true, "3119cdc5058c60ad0a35cab79044346d7d497265799827af89f18de256c85ede"), looks := false }, kinds := [], alts := [], laidByText := true, laidKinds := [.data, .pinned], laidTests := true, laidLooks := .later }
def FnExactKnotsADayUptoCardSaid : Prop := Claim7.holds Tryd.pinned (.plain (OpenSpec.upto fnExactKnotsADaySpec)) fnExactKnotsADayUptoCard

/-- THE SECOND FORM's CARD OF 'laws.FnExactDaysForKnots'. -/
def fnExactDaysForKnotsUptoCard : Claim7 := { stood := { row := fnExactDaysForKnotsUptoRow, standIns := [], harness := (true, "3119cdc5058c60ad0a35cab79044346d7d497265799827af89f18de256c85ede"), looks := false }, kinds := [], alts := [], laidByText := true, laidKinds := [.data, .pinned], laidTests := true, laidLooks := .later }
def FnExactDaysForKnotsUptoCardSaid : Prop := Claim7.holds Tryd.pinned (.plain (OpenSpec.upto fnExactDaysForKnotsSpec)) fnExactDaysForKnotsUptoCard

/-- THE SECOND FORM's CARD OF 'laws.FnExactLoomsUsed'. -/
def fnExactLoomsUsedUptoCard : Claim7 := { stood := { row := fnExactLoomsUsedUptoRow, standIns := [], harness := (true, "3119cdc5058c60ad0a35cab79044346d7d497265799827af89f18de256c85ede"), looks := false }, kinds := [], alts := [], laidByText := true, laidKinds := [.data, .pinned], laidTests := true, laidLooks := .later }
def FnExactLoomsUsedUptoCardSaid : Prop := Claim7.holds Tryd.pinned (.plain (OpenSpec.upto fnExactLoomsUsedSpec)) fnExactLoomsUsedUptoCard

/-- THE SECOND FORM's CARD OF 'laws.FnExactWithSkills'. -/
def fnExactWithSkillsUptoCard : Claim7 := { stood := { row := fnExactWithSkillsUptoRow, standIns := [], harness := (true, "3119cdc5058c60ad0a35cab79044346d7d497265799827af89f18de256c85ede"), looks := false }, kinds := [], alts := [], laidByText := true, laidKinds := [.data, .pinned], laidTests := true, laidLooks := .later }
def FnExactWithSkillsUptoCardSaid : Prop := Claim7.holds Tryd.pinned (.plain (OpenSpec.upto fnExactWithSkillsSpec)) fnExactWithSkillsUptoCard

/-- THE SECOND FORM's CARD OF 'laws.FnExactFastestFree'. -/
def fnExactFastestFreeUptoCard : Claim7 := { stood := { row := fnExactFastestFreeUptoRow, standIns := [], harness := (true, "3119cdc5058c60ad0a35cab79044346d7d497265799827af89f18de256c85ede"), looks := false }, kinds := [], alts := [], laidByText := true, laidKinds := [.data, .pinned], laidTests := true, laidLooks := .later }
def FnExactFastestFreeUptoCardSaid : Prop := Claim7.holds Tryd.pinned (.plain (OpenSpec.upto fnExactFastestFreeSpec)) fnExactFastestFreeUptoCard

/-- THE SECOND FORM's CARD OF 'laws.FnExactSeatWeaver'. -/
def fnExactSeatWeaverUptoCard : Claim7 := { stood := { row := fnExactSeatWeaverUptoRow, standIns := [], harness := (true, "3119cdc5058c60ad0a35cab79044346d7d497265799827af89f18de256c85ede"), looks := false }, kinds := [], alts := [], laidByText := true, laidKinds := [.data, .pinned], laidTests := true, laidLooks := .later }
def FnExactSeatWeaverUptoCardSaid : Prop := Claim7.holds Tryd.pinned (.plain (OpenSpec.upto fnExactSeatWeaverSpec)) fnExactSeatWeaverUptoCard

/-- THE SECOND FORM's CARD OF 'laws.FnExactTeachSkill'. -/
def fnExactTeachSkillUptoCard : Claim7 := { stood := { row := fnExactTeachSkillUptoRow, standIns := [], harness := (true, "3119cdc5058c60ad0a35cab79044346d7d497265799827af89f18de256c85ede"), looks := false }, kinds := [], alts := [], laidByText := true, laidKinds := [.data, .pinned], laidTests := true, laidLooks := .later }
def FnExactTeachSkillUptoCardSaid : Prop := Claim7.holds Tryd.pinned (.plain (OpenSpec.upto fnExactTeachSkillSpec)) fnExactTeachSkillUptoCard

/-- THE SECOND FORM's CARD OF 'laws.FnExactFewestFor'. -/
def fnExactFewestForUptoCard : Claim7 := { stood := { row := fnExactFewestForUptoRow, standIns := [], harness := (true, "3119cdc5058c60ad0a35cab79044346d7d497265799827af89f18de256c85ede"), looks := false }, kinds := [], alts := [], laidByText := true, laidKinds := [.data, .pinned], laidTests := true, laidLooks := .later }
def FnExactFewestForUptoCardSaid : Prop := Claim7.holds Tryd.pinned (.plain (OpenSpec.upto fnExactFewestForSpec)) fnExactFewestForUptoCard

/-- THE SECOND FORM's CARD OF 'laws.FnSkills'. -/
def fnSkillsUptoCard : Claim7 := { stood := { row := fnSkillsUptoRow, standIns := [], harness := (true, "3119cdc5058c60ad0a35cab79044346d7d497265799827af89f18de256c85ede"), looks := false }, kinds := [], alts := [], laidByText := true, laidKinds := [.data, .pinned], laidTests := true, laidLooks := .later }
def FnSkillsUptoCardSaid : Prop := Claim7.holds Tryd.pinned (.plain (OpenSpec.upto fnSkillsSpec)) fnSkillsUptoCard

/-- THE SECOND FORM's CARD OF 'laws.FnWeavers'. -/
def fnWeaversUptoCard : Claim7 := { stood := { row := fnWeaversUptoRow, standIns := [], harness := (true, "3119cdc5058c60ad0a35cab79044346d7d497265799827af89f18de256c85ede"), looks := false }, kinds := [], alts := [], laidByText := true, laidKinds := [.data, .pinned], laidTests := true, laidLooks := .later }
def FnWeaversUptoCardSaid : Prop := Claim7.holds Tryd.pinned (.plain (OpenSpec.upto fnWeaversSpec)) fnWeaversUptoCard
end Rows
end Go.Proofs.YthalifhbjioaeaaDoor
