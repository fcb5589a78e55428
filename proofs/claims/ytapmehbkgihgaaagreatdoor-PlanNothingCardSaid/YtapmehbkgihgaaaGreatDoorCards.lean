/-
  DERIVED. GIVEN WITH THE SEED: THE CARDS: each row of YtapmehbkgihgaaaGreatDoorRows.lean that lists a variable, with what it lists TIED to the program's text (the seventh form; the later family's looks); each row that meets fmt, with fmt's text TOLD by the authors' own Lean function (tested against real Go, not proved from fmt's source: count such statements apart). THE CARD IS WHAT COUNTS. Prove the row's statement (the work); the ties are given (YtapmehbkgihgaaaGreatDoorTie.lean); close each card by the builder's one call (the guide's Derived/Test/ToyasCard.lean, 'card_holds'). Laid BY PROGRAM, IN A SANDBOX (cutbox-door.mjs). By AI agents, Wed Nov 11 2026. No macro, syntax, notation, axiom, sorry.
-/
import Derived.Test.YtapmehbkgihgaaaGreatDoorRows
import GoSem.ClaimSeven
namespace Go.Proofs.YtapmehbkgihgaaaGreatDoor
namespace Rows

/-- THE TIED CARD OF 'nadirlaw22.PlanNothing'. -/
def planNothingCard : Claim7 := { stood := { row := planNothingRow, standIns := [], harness := (true, "d054ab353b7e41c0ccd036b659980789f8258cbd0111cc7ec8873c45611577f3"), looks := false }, kinds := [], alts := [], laidByText := true, laidKinds := [.data, .data], laidTests := true, laidLooks := .later }
def PlanNothingCardSaid : Prop := Claim7.holds Tryz.pinned (.plain (OpenSpec.ofChange planNothingSpec)) planNothingCard

/-- THE SECOND FORM's CARD OF 'nadirlaw22.PlanNothing'. -/
def planNothingUptoCard : Claim7 := { stood := { row := planNothingUptoRow, standIns := [], harness := (true, "d054ab353b7e41c0ccd036b659980789f8258cbd0111cc7ec8873c45611577f3"), looks := false }, kinds := [], alts := [], laidByText := true, laidKinds := [.data, .data], laidTests := true, laidLooks := .later }
def PlanNothingUptoCardSaid : Prop := Claim7.holds Tryz.pinned (.plain (OpenSpec.upto planNothingSpec)) planNothingUptoCard
end Rows
end Go.Proofs.YtapmehbkgihgaaaGreatDoor
