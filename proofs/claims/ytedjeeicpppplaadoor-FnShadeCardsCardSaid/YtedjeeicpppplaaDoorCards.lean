/-
  DERIVED. GIVEN WITH THE SEED: THE CARDS: each row of YtedjeeicpppplaaDoorRows.lean that lists a variable, with what it lists TIED to the program's text (the seventh form; the later family's looks); each row that meets fmt, with fmt's text TOLD by the authors' own Lean function (tested against real Go, not proved from fmt's source: count such statements apart). THE CARD IS WHAT COUNTS. Prove the row's statement (the work); the ties are given (YtedjeeicpppplaaDoorTie.lean); close each card by the builder's one call (the guide's Derived/Test/ToyasCard.lean, 'card_holds'). Laid BY PROGRAM, IN A SANDBOX (cutbox-door.mjs). By AI agents, Wed Nov 11 2026. No macro, syntax, notation, axiom, sorry.
-/
import Derived.Test.YtedjeeicpppplaaDoorRows
import GoSem.ClaimSeven
namespace Go.Proofs.YtedjeeicpppplaaDoor
namespace Rows

/-- THE TIED CARD OF 'laws.FnShadeCards'. -/
def fnShadeCardsCard : Claim7 := { stood := { row := fnShadeCardsRow, standIns := [], harness := (true, "acd78eb96ff948733405e059020883eac1a0368ac5cb27b6f714a421a1868a8f"), looks := false }, kinds := [], alts := [], laidByText := true, laidKinds := [.data, .pinned], laidTests := true, laidLooks := .later }
def FnShadeCardsCardSaid : Prop := Claim7.holds Tryd.pinned (.plain (OpenSpec.ofChange fnShadeCardsSpec)) fnShadeCardsCard

/-- THE SECOND FORM's CARD OF 'laws.FnShadeCards'. -/
def fnShadeCardsUptoCard : Claim7 := { stood := { row := fnShadeCardsUptoRow, standIns := [], harness := (true, "acd78eb96ff948733405e059020883eac1a0368ac5cb27b6f714a421a1868a8f"), looks := false }, kinds := [], alts := [], laidByText := true, laidKinds := [.data, .pinned], laidTests := true, laidLooks := .later }
def FnShadeCardsUptoCardSaid : Prop := Claim7.holds Tryd.pinned (.plain (OpenSpec.upto fnShadeCardsSpec)) fnShadeCardsUptoCard
end Rows
end Go.Proofs.YtedjeeicpppplaaDoor
