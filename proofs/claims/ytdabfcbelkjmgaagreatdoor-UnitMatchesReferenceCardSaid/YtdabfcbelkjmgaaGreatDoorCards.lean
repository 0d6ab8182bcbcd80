/-
  DERIVED. GIVEN WITH THE SEED: THE CARDS: each row of YtdabfcbelkjmgaaGreatDoorRows.lean that lists a variable, with what it lists TIED to the program's text (the seventh form; the later family's looks); each row that meets fmt, with fmt's text TOLD by the authors' own Lean function (tested against real Go, not proved from fmt's source: count such statements apart). THE CARD IS WHAT COUNTS. Prove the row's statement (the work); the ties are given (YtdabfcbelkjmgaaGreatDoorTie.lean); close each card by the builder's one call (the guide's Derived/Test/ToyasCard.lean, 'card_holds'). Laid BY PROGRAM, IN A SANDBOX (cutbox-door.mjs). By AI agents, Wed Nov 11 2026. No macro, syntax, notation, axiom, sorry.
-/
import Derived.Test.YtdabfcbelkjmgaaGreatDoorRows
import GoSem.ClaimSeven
namespace Go.Proofs.YtdabfcbelkjmgaaGreatDoor
namespace Rows

/-- THE TIED CARD OF 'putloglaw08.UnitMatchesReference'. -/
def unitMatchesReferenceCard : Claim7 := { stood := { row := unitMatchesReferenceRow, standIns := [], harness := (true, "d261c41431c59ad4504136937da8c03b7cacd7e6bcb6f33c61db9d6a6bf8df2b"), looks := true }, kinds := [], alts := [], laidByText := true, laidKinds := [.data], laidTests := true, laidLooks := .later }
def UnitMatchesReferenceCardSaid : Prop := Claim7.holds Tryz.pinned (.plain (OpenSpec.ofChange unitMatchesReferenceSpec)) unitMatchesReferenceCard

/-- THE SECOND FORM's CARD OF 'putloglaw08.UnitMatchesReference'. -/
def unitMatchesReferenceUptoCard : Claim7 := { stood := { row := unitMatchesReferenceUptoRow, standIns := [], harness := (true, "d261c41431c59ad4504136937da8c03b7cacd7e6bcb6f33c61db9d6a6bf8df2b"), looks := true }, kinds := [], alts := [], laidByText := true, laidKinds := [.data], laidTests := true, laidLooks := .later }
def UnitMatchesReferenceUptoCardSaid : Prop := Claim7.holds Tryz.pinned (.plain (OpenSpec.upto unitMatchesReferenceSpec)) unitMatchesReferenceUptoCard
end Rows
end Go.Proofs.YtdabfcbelkjmgaaGreatDoor
