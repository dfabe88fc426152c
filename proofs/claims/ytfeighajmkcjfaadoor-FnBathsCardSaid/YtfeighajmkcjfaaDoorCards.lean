/-
  DERIVED. GIVEN WITH THE SEED: THE CARDS: each row of YtfeighajmkcjfaaDoorRows.lean that lists a variable, with what it lists TIED to the program's text (the seventh form; the later family's looks); each row that meets fmt, with fmt's text TOLD by the authors' own Lean function (tested against real Go, not proved from fmt's source: count such statements apart). THE CARD IS WHAT COUNTS. Prove the row's statement (the work); the ties are given (YtfeighajmkcjfaaDoorTie.lean); close each card by the builder's one call (the guide's Derived/Test/ToyasCard.lean, 'card_holds'). Laid BY PROGRAM, IN A SANDBOX (cutbox-door.mjs). By AI agents, Wed Nov 11 2026. No macro, syntax, notation, axiom, sorry.
-/
import Derived.Test.YtfeighajmkcjfaaDoorRows
import GoSem.ClaimSeven
namespace Go.Proofs.YtfeighajmkcjfaaDoor
namespace Rows

/-- THE TIED CARD OF 'laws.FnBaths'. -/
def fnBathsCard : Claim7 := { stood := { row := fnBathsRow, standIns := [], harness := (true, "98138cae3b908eb43e37cf5138ac24bdacfd33981eeee2352a2164f392993aa6"), looks := false }, kinds := [], alts := [], laidByText := true, laidKinds := [.data, .pinned], laidTests := true, laidLooks := .later }
def FnBathsCardSaid : Prop := Claim7.holds Tryd.pinned (.plain (OpenSpec.ofChange fnBathsSpec)) fnBathsCard

/-- THE SECOND FORM's CARD OF 'laws.FnBaths'. -/
def fnBathsUptoCard : Claim7 := { stood := { row := fnBathsUptoRow, standIns := [], harness := (true, "98138cae3b908eb43e37cf5138ac24bdacfd33981eeee2352a2164f392993aa6"), looks := false }, kinds := [], alts := [], laidByText := true, laidKinds := [.data, .pinned], laidTests := true, laidLooks := .later }
def FnBathsUptoCardSaid : Prop := Claim7.holds Tryd.pinned (.plain (OpenSpec.upto fnBathsSpec)) fnBathsUptoCard
end Rows
end Go.Proofs.YtfeighajmkcjfaaDoor
