/-
  NARROWER THAN 'FOR EVERY INPUT', by the rows' own cells (each row's printed sentence says how): UnitGravity: laid · UnitMoves: laid · UnitStands: laid · UnitDecodes: laid · UnitTouches: laid · UnitCuts: laid.
  DERIVED. THE GIVEN ROWS OF THIS SEAT. 6 by the template 'for every input the law returns true; each argument reads behind the call as it read before'; 0 by the template 'total and deterministic' (their statements: YtdabfcbelkjmgaaDoorTotals.lean).
  GIVEN WITH THE SEED: the statements are not yours to turn. If you find one false, say at which input.
  Laid BY PROGRAM, IN A SANDBOX (cutbox-rows.mjs): the forced cells as the released guide's own fill.sh prints them over the translation 8251181079261f72… (all of the seat's roots in one cut). By AI agents, Wed Nov 11 2026. No macro, syntax, notation, axiom, sorry.
-/
import Derived.Test.YtdabfcbelkjmgaaDoorChecked
import GoSem.Claim
import GoSem.ClaimJoined
import GoSem.ClaimMapViews
import Derived.JoinedTies
import Derived.KernelRfl
namespace Go.Proofs.YtdabfcbelkjmgaaDoor
/- THE CELL 'sum', in the pinned program and in every row, IS THE sha256 OF THE DUMP (.gsa) THAT YtdabfcbelkjmgaaDoorProg.lean LOADS. Nothing in Lean hashes anything: it is a label: what it is worth is what the hold of that sum in a sandbox is worth. -/
noncomputable def Tryd.pinned : Pinned := { name := "ytdabfcbelkjmgaadoor", sum := "8251181079261f72869e3045808d42656d9916b5a8f5c431008c57fc250a79f4", checked := Tryd.checked }
namespace Rows
def none {H : Type} : Left H := { results := [], args := [] }

/- WHAT THE LISTED PACKAGE-LEVEL VARIABLES READ AS WHEN THE CALL BEGINS. Each datum BY PROGRAM (the guide's laid-datum.mjs) off the statement by which the dump's own 'gosem.cut.vars' lays the variable. In a bare row this is a premise. The card (YtdabfcbelkjmgaaDoorCards.lean) ties it to the program's text. -/
def laid_putlog_unit_stuffs {H : Type} : DataW H := .agg [.agg [.lit (.int .i64 9), .lit (.int .i64 3), .lit (.int .i64 9), .lit (.int .i64 1), .lit (.int .i64 0)], .agg [.lit (.int .i64 8), .lit (.int .i64 3), .lit (.int .i64 6), .lit (.int .i64 4), .lit (.int .i64 1)], .agg [.lit (.int .i64 7), .lit (.int .i64 3), .lit (.int .i64 5), .lit (.int .i64 5), .lit (.int .i64 1)], .agg [.lit (.int .i64 6), .lit (.int .i64 3), .lit (.int .i64 4), .lit (.int .i64 6), .lit (.int .i64 3)], .agg [.lit (.int .i64 3), .lit (.int .i64 2), .lit (.int .i64 5), .lit (.int .i64 3), .lit (.int .i64 0)], .agg [.lit (.int .i64 5), .lit (.int .i64 2), .lit (.int .i64 2), .lit (.int .i64 7), .lit (.int .i64 1)], .agg [.lit (.int .i64 8), .lit (.int .i64 3), .lit (.int .i64 8), .lit (.int .i64 1), .lit (.int .i64 4)], .agg [.lit (.int .i64 10), .lit (.int .i64 1), .lit (.int .i64 9), .lit (.int .i64 0), .lit (.int .i64 0)]]

/-- 'putloglaw08.UnitGravity': WHATEVER THE INPUT: true; the input reads as it did. -/
def unitGravitySpec : ChangeSpec := { name := "unitGravity", fn := fun _ => fun
  | [d1, d2, d3, d4] => { results := [.lit (.bool true)], args := [d1, d2, d3, d4] }
  | _ => none }
def unitGravityRow : OpenClaim := { program := "ytdabfcbelkjmgaadoor", sum := "8251181079261f72869e3045808d42656d9916b5a8f5c431008c57fc250a79f4", func := "putlog/putloglaw08.UnitGravity", spec := "unitGravity", inPlace := ["internal/abi.NoEscape"], unfollowed := true, recurses := true, named := ["putlog/unit.stuffs"], apart := false, laid := [("putlog/unit.stuffs", laid_putlog_unit_stuffs)] }
def UnitGravitySaid : Prop := unitGravityRow.holds Tryd.pinned (OpenSpec.ofChange unitGravitySpec)

/-- ITS FALSE NEIGHBOUR: 'it returns false'. Refute it at one input. -/
def unitGravityWrong : ChangeSpec := { name := "unitGravity", fn := fun _ => fun
  | [d1, d2, d3, d4] => { results := [.lit (.bool false)], args := [d1, d2, d3, d4] }
  | _ => none }
def UnitGravityWrongFalsely : Prop := unitGravityRow.holds Tryd.pinned (OpenSpec.ofChange unitGravityWrong)

/-- 'putloglaw08.UnitMoves': WHATEVER THE INPUT: true; the input reads as it did. -/
def unitMovesSpec : ChangeSpec := { name := "unitMoves", fn := fun _ => fun
  | [d1, d2, d3, d4, d5, d6, d7] => { results := [.lit (.bool true)], args := [d1, d2, d3, d4, d5, d6, d7] }
  | _ => none }
def unitMovesRow : OpenClaim := { program := "ytdabfcbelkjmgaadoor", sum := "8251181079261f72869e3045808d42656d9916b5a8f5c431008c57fc250a79f4", func := "putlog/putloglaw08.UnitMoves", spec := "unitMoves", inPlace := ["internal/abi.NoEscape"], unfollowed := true, recurses := true, named := ["putlog/unit.stuffs"], apart := false, laid := [("putlog/unit.stuffs", laid_putlog_unit_stuffs)] }
def UnitMovesSaid : Prop := unitMovesRow.holds Tryd.pinned (OpenSpec.ofChange unitMovesSpec)

/-- ITS FALSE NEIGHBOUR: 'it returns false'. Refute it at one input. -/
def unitMovesWrong : ChangeSpec := { name := "unitMoves", fn := fun _ => fun
  | [d1, d2, d3, d4, d5, d6, d7] => { results := [.lit (.bool false)], args := [d1, d2, d3, d4, d5, d6, d7] }
  | _ => none }
def UnitMovesWrongFalsely : Prop := unitMovesRow.holds Tryd.pinned (OpenSpec.ofChange unitMovesWrong)

/-- 'putloglaw08.UnitStands': WHATEVER THE INPUT: true; the input reads as it did. -/
def unitStandsSpec : ChangeSpec := { name := "unitStands", fn := fun _ => fun
  | [d1, d2, d3, d4, d5] => { results := [.lit (.bool true)], args := [d1, d2, d3, d4, d5] }
  | _ => none }
def unitStandsRow : OpenClaim := { program := "ytdabfcbelkjmgaadoor", sum := "8251181079261f72869e3045808d42656d9916b5a8f5c431008c57fc250a79f4", func := "putlog/putloglaw08.UnitStands", spec := "unitStands", inPlace := ["internal/abi.NoEscape"], unfollowed := true, recurses := true, named := ["putlog/unit.stuffs"], apart := false, laid := [("putlog/unit.stuffs", laid_putlog_unit_stuffs)] }
def UnitStandsSaid : Prop := unitStandsRow.holds Tryd.pinned (OpenSpec.ofChange unitStandsSpec)

/-- ITS FALSE NEIGHBOUR: 'it returns false'. Refute it at one input. -/
def unitStandsWrong : ChangeSpec := { name := "unitStands", fn := fun _ => fun
  | [d1, d2, d3, d4, d5] => { results := [.lit (.bool false)], args := [d1, d2, d3, d4, d5] }
  | _ => none }
def UnitStandsWrongFalsely : Prop := unitStandsRow.holds Tryd.pinned (OpenSpec.ofChange unitStandsWrong)

/-- 'putloglaw08.UnitDecodes': WHATEVER THE INPUT: true; the input reads as it did. -/
def unitDecodesSpec : ChangeSpec := { name := "unitDecodes", fn := fun _ => fun
  | [d1, d2, d3, d4, d5, d6, d7, d8] => { results := [.lit (.bool true)], args := [d1, d2, d3, d4, d5, d6, d7, d8] }
  | _ => none }
def unitDecodesRow : OpenClaim := { program := "ytdabfcbelkjmgaadoor", sum := "8251181079261f72869e3045808d42656d9916b5a8f5c431008c57fc250a79f4", func := "putlog/putloglaw08.UnitDecodes", spec := "unitDecodes", inPlace := ["internal/abi.NoEscape"], unfollowed := true, recurses := true, named := ["putlog/unit.stuffs"], apart := false, laid := [("putlog/unit.stuffs", laid_putlog_unit_stuffs)] }
def UnitDecodesSaid : Prop := unitDecodesRow.holds Tryd.pinned (OpenSpec.ofChange unitDecodesSpec)

/-- ITS FALSE NEIGHBOUR: 'it returns false'. Refute it at one input. -/
def unitDecodesWrong : ChangeSpec := { name := "unitDecodes", fn := fun _ => fun
  | [d1, d2, d3, d4, d5, d6, d7, d8] => { results := [.lit (.bool false)], args := [d1, d2, d3, d4, d5, d6, d7, d8] }
  | _ => none }
def UnitDecodesWrongFalsely : Prop := unitDecodesRow.holds Tryd.pinned (OpenSpec.ofChange unitDecodesWrong)

/-- 'putloglaw08.UnitTouches': WHATEVER THE INPUT: true; the input reads as it did. -/
def unitTouchesSpec : ChangeSpec := { name := "unitTouches", fn := fun _ => fun
  | [d1, d2, d3, d4, d5] => { results := [.lit (.bool true)], args := [d1, d2, d3, d4, d5] }
  | _ => none }
def unitTouchesRow : OpenClaim := { program := "ytdabfcbelkjmgaadoor", sum := "8251181079261f72869e3045808d42656d9916b5a8f5c431008c57fc250a79f4", func := "putlog/putloglaw08.UnitTouches", spec := "unitTouches", inPlace := ["internal/abi.NoEscape"], unfollowed := true, recurses := true, named := ["putlog/unit.stuffs"], apart := false, laid := [("putlog/unit.stuffs", laid_putlog_unit_stuffs)] }
def UnitTouchesSaid : Prop := unitTouchesRow.holds Tryd.pinned (OpenSpec.ofChange unitTouchesSpec)

/-- ITS FALSE NEIGHBOUR: 'it returns false'. Refute it at one input. -/
def unitTouchesWrong : ChangeSpec := { name := "unitTouches", fn := fun _ => fun
  | [d1, d2, d3, d4, d5] => { results := [.lit (.bool false)], args := [d1, d2, d3, d4, d5] }
  | _ => none }
def UnitTouchesWrongFalsely : Prop := unitTouchesRow.holds Tryd.pinned (OpenSpec.ofChange unitTouchesWrong)

/-- 'putloglaw08.UnitCuts': WHATEVER THE INPUT: true; the input reads as it did. -/
def unitCutsSpec : ChangeSpec := { name := "unitCuts", fn := fun _ => fun
  | [d1, d2, d3, d4, d5, d6] => { results := [.lit (.bool true)], args := [d1, d2, d3, d4, d5, d6] }
  | _ => none }
def unitCutsRow : OpenClaim := { program := "ytdabfcbelkjmgaadoor", sum := "8251181079261f72869e3045808d42656d9916b5a8f5c431008c57fc250a79f4", func := "putlog/putloglaw08.UnitCuts", spec := "unitCuts", inPlace := ["internal/abi.NoEscape"], unfollowed := true, recurses := true, named := ["putlog/unit.stuffs"], apart := false, laid := [("putlog/unit.stuffs", laid_putlog_unit_stuffs)] }
def UnitCutsSaid : Prop := unitCutsRow.holds Tryd.pinned (OpenSpec.ofChange unitCutsSpec)

/-- ITS FALSE NEIGHBOUR: 'it returns false'. Refute it at one input. -/
def unitCutsWrong : ChangeSpec := { name := "unitCuts", fn := fun _ => fun
  | [d1, d2, d3, d4, d5, d6] => { results := [.lit (.bool false)], args := [d1, d2, d3, d4, d5, d6] }
  | _ => none }
def UnitCutsWrongFalsely : Prop := unitCutsRow.holds Tryd.pinned (OpenSpec.ofChange unitCutsWrong)

/- THE SECOND FORM. 'bulk': how many values and letters a reading holds, each counted each time it is reached (what is shared counts as often as it is met; a slice's spare places count too). A statement '..UptoSaid' is the law's where the arguments, and the package variables that the reading takes, are together of bulk at most 1048576: NARROWER than '..Said'. Prove '..Said' where nothing that the law and all that it calls make is longer than what came in: it says more and counts as full. Else prove '..UptoSaid'. A law counts once. -/
mutual
def uptoBulk {H : Type} : DataW H → Nat
  | .lit (.string bytes) => bytes.length + 1
  | .lit _ => 1
  | .nil => 1
  | .ptr d => uptoBulk d + 1
  | .slice elems spare => uptoBulkAll elems + uptoBulkAll spare + 1
  | .agg parts => uptoBulkAll parts + 1
  | .iface _ d => uptoBulk d + 1
  | .map entries => uptoBulkEntries entries + 1
  | .held _ => 1
def uptoBulkAll {H : Type} : List (DataW H) → Nat
  | [] => 0
  | d :: r => uptoBulk d + uptoBulkAll r
def uptoBulkEntries {H : Type} : List (Lit × DataW H) → Nat
  | [] => 0
  | x :: r => uptoBulkEntry x + uptoBulkEntries r
def uptoBulkEntry {H : Type} : Lit × DataW H → Nat
  | (.string bytes, d) => bytes.length + uptoBulk d + 1
  | (_, d) => uptoBulk d + 1
 end
def uptoSmall : (H : Type) → List (DataW H) → Bool := fun _ ds => decide (uptoBulkAll ds ≤ 1048576)
def OpenSpec.upto (s : _root_.Go.ChangeSpec) : _root_.Go.OpenSpec := { _root_.Go.OpenSpec.ofChange s with cond := some uptoSmall }

/-- 'putloglaw08.UnitGravity', WHERE WHAT IT READS IS OF BULK AT MOST 1048576: true; the input reads as it did. -/
def unitGravityUptoRow : OpenClaim := { program := "ytdabfcbelkjmgaadoor", sum := "8251181079261f72869e3045808d42656d9916b5a8f5c431008c57fc250a79f4", func := "putlog/putloglaw08.UnitGravity", spec := "unitGravity", inPlace := ["internal/abi.NoEscape"], unfollowed := true, recurses := true, named := ["putlog/unit.stuffs"], apart := false, laid := [("putlog/unit.stuffs", laid_putlog_unit_stuffs)], narrowed := true }
def UnitGravityUptoSaid : Prop := unitGravityUptoRow.holds Tryd.pinned (OpenSpec.upto unitGravitySpec)

/-- 'putloglaw08.UnitMoves', WHERE WHAT IT READS IS OF BULK AT MOST 1048576: true; the input reads as it did. -/
def unitMovesUptoRow : OpenClaim := { program := "ytdabfcbelkjmgaadoor", sum := "8251181079261f72869e3045808d42656d9916b5a8f5c431008c57fc250a79f4", func := "putlog/putloglaw08.UnitMoves", spec := "unitMoves", inPlace := ["internal/abi.NoEscape"], unfollowed := true, recurses := true, named := ["putlog/unit.stuffs"], apart := false, laid := [("putlog/unit.stuffs", laid_putlog_unit_stuffs)], narrowed := true }
def UnitMovesUptoSaid : Prop := unitMovesUptoRow.holds Tryd.pinned (OpenSpec.upto unitMovesSpec)

/-- 'putloglaw08.UnitStands', WHERE WHAT IT READS IS OF BULK AT MOST 1048576: true; the input reads as it did. -/
def unitStandsUptoRow : OpenClaim := { program := "ytdabfcbelkjmgaadoor", sum := "8251181079261f72869e3045808d42656d9916b5a8f5c431008c57fc250a79f4", func := "putlog/putloglaw08.UnitStands", spec := "unitStands", inPlace := ["internal/abi.NoEscape"], unfollowed := true, recurses := true, named := ["putlog/unit.stuffs"], apart := false, laid := [("putlog/unit.stuffs", laid_putlog_unit_stuffs)], narrowed := true }
def UnitStandsUptoSaid : Prop := unitStandsUptoRow.holds Tryd.pinned (OpenSpec.upto unitStandsSpec)

/-- 'putloglaw08.UnitDecodes', WHERE WHAT IT READS IS OF BULK AT MOST 1048576: true; the input reads as it did. -/
def unitDecodesUptoRow : OpenClaim := { program := "ytdabfcbelkjmgaadoor", sum := "8251181079261f72869e3045808d42656d9916b5a8f5c431008c57fc250a79f4", func := "putlog/putloglaw08.UnitDecodes", spec := "unitDecodes", inPlace := ["internal/abi.NoEscape"], unfollowed := true, recurses := true, named := ["putlog/unit.stuffs"], apart := false, laid := [("putlog/unit.stuffs", laid_putlog_unit_stuffs)], narrowed := true }
def UnitDecodesUptoSaid : Prop := unitDecodesUptoRow.holds Tryd.pinned (OpenSpec.upto unitDecodesSpec)

/-- 'putloglaw08.UnitTouches', WHERE WHAT IT READS IS OF BULK AT MOST 1048576: true; the input reads as it did. -/
def unitTouchesUptoRow : OpenClaim := { program := "ytdabfcbelkjmgaadoor", sum := "8251181079261f72869e3045808d42656d9916b5a8f5c431008c57fc250a79f4", func := "putlog/putloglaw08.UnitTouches", spec := "unitTouches", inPlace := ["internal/abi.NoEscape"], unfollowed := true, recurses := true, named := ["putlog/unit.stuffs"], apart := false, laid := [("putlog/unit.stuffs", laid_putlog_unit_stuffs)], narrowed := true }
def UnitTouchesUptoSaid : Prop := unitTouchesUptoRow.holds Tryd.pinned (OpenSpec.upto unitTouchesSpec)

/-- 'putloglaw08.UnitCuts', WHERE WHAT IT READS IS OF BULK AT MOST 1048576: true; the input reads as it did. -/
def unitCutsUptoRow : OpenClaim := { program := "ytdabfcbelkjmgaadoor", sum := "8251181079261f72869e3045808d42656d9916b5a8f5c431008c57fc250a79f4", func := "putlog/putloglaw08.UnitCuts", spec := "unitCuts", inPlace := ["internal/abi.NoEscape"], unfollowed := true, recurses := true, named := ["putlog/unit.stuffs"], apart := false, laid := [("putlog/unit.stuffs", laid_putlog_unit_stuffs)], narrowed := true }
def UnitCutsUptoSaid : Prop := unitCutsUptoRow.holds Tryd.pinned (OpenSpec.upto unitCutsSpec)

end Rows
end Go.Proofs.YtdabfcbelkjmgaaDoor
