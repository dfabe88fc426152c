/-
  DERIVED. GIVEN WITH THE SEED: THE CARDS: each row of YtfeighajmkcjfaaGreatDoorRows.lean that lists a variable, with what it lists TIED to the program's text (the seventh form; the later family's looks); each row that meets fmt, with fmt's text TOLD by the authors' own Lean function (tested against real Go, not proved from fmt's source: count such statements apart). THE CARD IS WHAT COUNTS. Prove the row's statement (the work); the ties are given (YtfeighajmkcjfaaGreatDoorTie.lean); close each card by the builder's one call (the guide's Derived/Test/ToyasCard.lean, 'card_holds'). Laid BY PROGRAM, IN A SANDBOX (cutbox-door.mjs). By AI agents, Wed Nov 11 2026. No macro, syntax, notation, axiom, sorry.
-/
import Derived.Test.YtfeighajmkcjfaaGreatDoorRows
import GoSem.ClaimSeven
namespace Go.Proofs.YtfeighajmkcjfaaGreatDoor
namespace Rows

/-- THE TIED CARD OF 'laws.FnRecipes'. -/
def fnRecipesCard : Claim7 := { stood := { row := fnRecipesRow, standIns := [], harness := (true, "18af97926c48f9e252c623552ac8d2ca17f3f00bcfffeaa0337ee9b7b0953f7b"), looks := false }, kinds := [], alts := [], laidByText := true, laidKinds := [.data, .data, .data, .data, .pinned], laidTests := true, laidLooks := .later }
def FnRecipesCardSaid : Prop := Claim7.holds Tryz.pinned (.plain (OpenSpec.ofChange fnRecipesSpec)) fnRecipesCard

/-- THE SECOND FORM's CARD OF 'laws.FnRecipes'. -/
def fnRecipesUptoCard : Claim7 := { stood := { row := fnRecipesUptoRow, standIns := [], harness := (true, "18af97926c48f9e252c623552ac8d2ca17f3f00bcfffeaa0337ee9b7b0953f7b"), looks := false }, kinds := [], alts := [], laidByText := true, laidKinds := [.data, .data, .data, .data, .pinned], laidTests := true, laidLooks := .later }
def FnRecipesUptoCardSaid : Prop := Claim7.holds Tryz.pinned (.plain (OpenSpec.upto fnRecipesSpec)) fnRecipesUptoCard
end Rows
end Go.Proofs.YtfeighajmkcjfaaGreatDoor
