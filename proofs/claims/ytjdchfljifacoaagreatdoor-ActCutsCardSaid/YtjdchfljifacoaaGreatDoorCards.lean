/-
  DERIVED. GIVEN WITH THE SEED: THE CARDS: each row of YtjdchfljifacoaaGreatDoorRows.lean that lists a variable, with what it lists TIED to the program's text (the seventh form; the later family's looks); each row that meets fmt, with fmt's text TOLD by the authors' own Lean function (tested against real Go, not proved from fmt's source: count such statements apart). THE CARD IS WHAT COUNTS. Prove the row's statement (the work); the ties are given (YtjdchfljifacoaaGreatDoorTie.lean); close each card by the builder's one call (the guide's Derived/Test/ToyasCard.lean, 'card_holds'). Laid BY PROGRAM, IN A SANDBOX (cutbox-door.mjs). By AI agents, Wed Nov 11 2026. No macro, syntax, notation, axiom, sorry.
-/
import Derived.Test.YtjdchfljifacoaaGreatDoorRows
import GoSem.ClaimSeven
namespace Go.Proofs.YtjdchfljifacoaaGreatDoor
namespace Rows

/-- THE TIED CARD OF 'putloglaw17.ActCuts'. -/
def actCutsCard : Claim7 := { stood := { row := actCutsRow, standIns := [], harness := (true, "78ba325fcc1639ad3264abfc53dc6d5349239b4ffe3fde9783f937ad37e1a5f6"), looks := true }, kinds := [], alts := [], laidByText := true, laidKinds := [.data], laidTests := true, laidLooks := .later }
def ActCutsCardSaid : Prop := Claim7.holds Tryz.pinned (.plain (OpenSpec.ofChange actCutsSpec)) actCutsCard

/-- THE SECOND FORM's CARD OF 'putloglaw17.ActCuts'. -/
def actCutsUptoCard : Claim7 := { stood := { row := actCutsUptoRow, standIns := [], harness := (true, "78ba325fcc1639ad3264abfc53dc6d5349239b4ffe3fde9783f937ad37e1a5f6"), looks := true }, kinds := [], alts := [], laidByText := true, laidKinds := [.data], laidTests := true, laidLooks := .later }
def ActCutsUptoCardSaid : Prop := Claim7.holds Tryz.pinned (.plain (OpenSpec.upto actCutsSpec)) actCutsUptoCard
end Rows
end Go.Proofs.YtjdchfljifacoaaGreatDoor
