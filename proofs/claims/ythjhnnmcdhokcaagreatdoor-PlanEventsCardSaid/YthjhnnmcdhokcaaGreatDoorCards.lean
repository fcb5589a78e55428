/-
  DERIVED. GIVEN WITH THE SEED: THE CARDS: each row of YthjhnnmcdhokcaaGreatDoorRows.lean that lists a variable, with what it lists TIED to the program's text (the seventh form; the later family's looks); each row that meets fmt, with fmt's text TOLD by the authors' own Lean function (tested against real Go, not proved from fmt's source: count such statements apart). THE CARD IS WHAT COUNTS. Prove the row's statement (the work); the ties are given (YthjhnnmcdhokcaaGreatDoorTie.lean); close each card by the builder's one call (the guide's Derived/Test/ToyasCard.lean, 'card_holds'). Laid BY PROGRAM, IN A SANDBOX (cutbox-door.mjs). By AI agents, Wed Nov 11 2026. No macro, syntax, notation, axiom, sorry.
-/
import Derived.Test.YthjhnnmcdhokcaaGreatDoorRows
import GoSem.ClaimSeven
namespace Go.Proofs.YthjhnnmcdhokcaaGreatDoor
namespace Rows

/-- THE TIED CARD OF 'nadirlaw22.PlanEvents'. -/
def planEventsCard : Claim7 := { stood := { row := planEventsRow, standIns := [], harness := (true, "466d960c26587d19c42b16e3c0b82490802347984f808fefaf733d47800e9f5d"), looks := false }, kinds := [], alts := [], laidByText := true, laidKinds := [.data, .data], laidTests := true, laidLooks := .later }
def PlanEventsCardSaid : Prop := Claim7.holds Tryz.pinned (.plain (OpenSpec.ofChange planEventsSpec)) planEventsCard

/-- THE SECOND FORM's CARD OF 'nadirlaw22.PlanEvents'. -/
def planEventsUptoCard : Claim7 := { stood := { row := planEventsUptoRow, standIns := [], harness := (true, "466d960c26587d19c42b16e3c0b82490802347984f808fefaf733d47800e9f5d"), looks := false }, kinds := [], alts := [], laidByText := true, laidKinds := [.data, .data], laidTests := true, laidLooks := .later }
def PlanEventsUptoCardSaid : Prop := Claim7.holds Tryz.pinned (.plain (OpenSpec.upto planEventsSpec)) planEventsUptoCard
end Rows
end Go.Proofs.YthjhnnmcdhokcaaGreatDoor
