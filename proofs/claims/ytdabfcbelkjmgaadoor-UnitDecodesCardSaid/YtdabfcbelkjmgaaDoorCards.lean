/-
  DERIVED. GIVEN WITH THE SEED: THE CARDS: each row of YtdabfcbelkjmgaaDoorRows.lean that lists a variable, with what it lists TIED to the program's text (the seventh form; the later family's looks); each row that meets fmt, with fmt's text TOLD by the authors' own Lean function (tested against real Go, not proved from fmt's source: count such statements apart). THE CARD IS WHAT COUNTS. Prove the row's statement (the work); the ties are given (YtdabfcbelkjmgaaDoorTie.lean); close each card by the builder's one call (the guide's Derived/Test/ToyasCard.lean, 'card_holds'). Laid BY PROGRAM, IN A SANDBOX (cutbox-door.mjs). By AI agents, Wed Nov 11 2026. No macro, syntax, notation, axiom, sorry.
-/
import Derived.Test.YtdabfcbelkjmgaaDoorRows
import GoSem.ClaimSeven
namespace Go.Proofs.YtdabfcbelkjmgaaDoor
namespace Rows

/-- THE TIED CARD OF 'putloglaw08.UnitGravity'. -/
def unitGravityCard : Claim7 := { stood := { row := unitGravityRow, standIns := [], harness := (true, "b05315b0ac4251b8c5b2813e950987b77667d4548bb7763c6c93899621997589"), looks := true }, kinds := [], alts := [], laidByText := true, laidKinds := [.data], laidTests := true, laidLooks := .later }
def UnitGravityCardSaid : Prop := Claim7.holds Tryd.pinned (.plain (OpenSpec.ofChange unitGravitySpec)) unitGravityCard

/-- THE TIED CARD OF 'putloglaw08.UnitMoves'. -/
def unitMovesCard : Claim7 := { stood := { row := unitMovesRow, standIns := [], harness := (true, "b05315b0ac4251b8c5b2813e950987b77667d4548bb7763c6c93899621997589"), looks := true }, kinds := [], alts := [], laidByText := true, laidKinds := [.data], laidTests := true, laidLooks := .later }
def UnitMovesCardSaid : Prop := Claim7.holds Tryd.pinned (.plain (OpenSpec.ofChange unitMovesSpec)) unitMovesCard

/-- THE TIED CARD OF 'putloglaw08.UnitStands'. -/
def unitStandsCard : Claim7 := { stood := { row := unitStandsRow, standIns := [], harness := (true, "b05315b0ac4251b8c5b2813e950987b77667d4548bb7763c6c93899621997589"), looks := true }, kinds := [], alts := [], laidByText := true, laidKinds := [.data], laidTests := true, laidLooks := .later }
def UnitStandsCardSaid : Prop := Claim7.holds Tryd.pinned (.plain (OpenSpec.ofChange unitStandsSpec)) unitStandsCard

/-- THE TIED CARD OF 'putloglaw08.UnitDecodes'. -/
def unitDecodesCard : Claim7 := { stood := { row := unitDecodesRow, standIns := [], harness := (true, "b05315b0ac4251b8c5b2813e950987b77667d4548bb7763c6c93899621997589"), looks := true }, kinds := [], alts := [], laidByText := true, laidKinds := [.data], laidTests := true, laidLooks := .later }
def UnitDecodesCardSaid : Prop := Claim7.holds Tryd.pinned (.plain (OpenSpec.ofChange unitDecodesSpec)) unitDecodesCard

/-- THE TIED CARD OF 'putloglaw08.UnitTouches'. -/
def unitTouchesCard : Claim7 := { stood := { row := unitTouchesRow, standIns := [], harness := (true, "b05315b0ac4251b8c5b2813e950987b77667d4548bb7763c6c93899621997589"), looks := true }, kinds := [], alts := [], laidByText := true, laidKinds := [.data], laidTests := true, laidLooks := .later }
def UnitTouchesCardSaid : Prop := Claim7.holds Tryd.pinned (.plain (OpenSpec.ofChange unitTouchesSpec)) unitTouchesCard

/-- THE TIED CARD OF 'putloglaw08.UnitCuts'. -/
def unitCutsCard : Claim7 := { stood := { row := unitCutsRow, standIns := [], harness := (true, "b05315b0ac4251b8c5b2813e950987b77667d4548bb7763c6c93899621997589"), looks := true }, kinds := [], alts := [], laidByText := true, laidKinds := [.data], laidTests := true, laidLooks := .later }
def UnitCutsCardSaid : Prop := Claim7.holds Tryd.pinned (.plain (OpenSpec.ofChange unitCutsSpec)) unitCutsCard

/-- THE SECOND FORM's CARD OF 'putloglaw08.UnitGravity'. -/
def unitGravityUptoCard : Claim7 := { stood := { row := unitGravityUptoRow, standIns := [], harness := (true, "b05315b0ac4251b8c5b2813e950987b77667d4548bb7763c6c93899621997589"), looks := true }, kinds := [], alts := [], laidByText := true, laidKinds := [.data], laidTests := true, laidLooks := .later }
def UnitGravityUptoCardSaid : Prop := Claim7.holds Tryd.pinned (.plain (OpenSpec.upto unitGravitySpec)) unitGravityUptoCard

/-- THE SECOND FORM's CARD OF 'putloglaw08.UnitMoves'. -/
def unitMovesUptoCard : Claim7 := { stood := { row := unitMovesUptoRow, standIns := [], harness := (true, "b05315b0ac4251b8c5b2813e950987b77667d4548bb7763c6c93899621997589"), looks := true }, kinds := [], alts := [], laidByText := true, laidKinds := [.data], laidTests := true, laidLooks := .later }
def UnitMovesUptoCardSaid : Prop := Claim7.holds Tryd.pinned (.plain (OpenSpec.upto unitMovesSpec)) unitMovesUptoCard

/-- THE SECOND FORM's CARD OF 'putloglaw08.UnitStands'. -/
def unitStandsUptoCard : Claim7 := { stood := { row := unitStandsUptoRow, standIns := [], harness := (true, "b05315b0ac4251b8c5b2813e950987b77667d4548bb7763c6c93899621997589"), looks := true }, kinds := [], alts := [], laidByText := true, laidKinds := [.data], laidTests := true, laidLooks := .later }
def UnitStandsUptoCardSaid : Prop := Claim7.holds Tryd.pinned (.plain (OpenSpec.upto unitStandsSpec)) unitStandsUptoCard

/-- THE SECOND FORM's CARD OF 'putloglaw08.UnitDecodes'. -/
def unitDecodesUptoCard : Claim7 := { stood := { row := unitDecodesUptoRow, standIns := [], harness := (true, "b05315b0ac4251b8c5b2813e950987b77667d4548bb7763c6c93899621997589"), looks := true }, kinds := [], alts := [], laidByText := true, laidKinds := [.data], laidTests := true, laidLooks := .later }
def UnitDecodesUptoCardSaid : Prop := Claim7.holds Tryd.pinned (.plain (OpenSpec.upto unitDecodesSpec)) unitDecodesUptoCard

/-- THE SECOND FORM's CARD OF 'putloglaw08.UnitTouches'. -/
def unitTouchesUptoCard : Claim7 := { stood := { row := unitTouchesUptoRow, standIns := [], harness := (true, "b05315b0ac4251b8c5b2813e950987b77667d4548bb7763c6c93899621997589"), looks := true }, kinds := [], alts := [], laidByText := true, laidKinds := [.data], laidTests := true, laidLooks := .later }
def UnitTouchesUptoCardSaid : Prop := Claim7.holds Tryd.pinned (.plain (OpenSpec.upto unitTouchesSpec)) unitTouchesUptoCard

/-- THE SECOND FORM's CARD OF 'putloglaw08.UnitCuts'. -/
def unitCutsUptoCard : Claim7 := { stood := { row := unitCutsUptoRow, standIns := [], harness := (true, "b05315b0ac4251b8c5b2813e950987b77667d4548bb7763c6c93899621997589"), looks := true }, kinds := [], alts := [], laidByText := true, laidKinds := [.data], laidTests := true, laidLooks := .later }
def UnitCutsUptoCardSaid : Prop := Claim7.holds Tryd.pinned (.plain (OpenSpec.upto unitCutsSpec)) unitCutsUptoCard
end Rows
end Go.Proofs.YtdabfcbelkjmgaaDoor
