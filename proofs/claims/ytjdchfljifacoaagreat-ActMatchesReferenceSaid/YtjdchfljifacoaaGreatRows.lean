/-
  No cell of these rows narrows 'for every input' (looked for: loops, veiled, ifaces, maps, wideKeys, modest, calm, conditions, laid).
  DERIVED. THE GIVEN ROWS OF THIS SEAT. 7 by the template 'for every input the law returns true; each argument reads behind the call as it read before'; 0 by the template 'total and deterministic' (their statements: YtjdchfljifacoaaGreatTotals.lean).
  GIVEN WITH THE SEED: the statements are not yours to turn. If you find one false, say at which input.
  Laid BY PROGRAM, IN A SANDBOX (cutbox-rows.mjs): the forced cells as the released guide's own fill.sh prints them over the translation 1b44b129f8af5eb7… (all of the seat's roots in one cut). By AI agents, Wed Nov 11 2026. No macro, syntax, notation, axiom, sorry.
-/
import Derived.Test.YtjdchfljifacoaaGreatChecked
import GoSem.Claim
import GoSem.ClaimJoined
import GoSem.ClaimMapViews
import Derived.JoinedTies
import Derived.KernelRfl
namespace Go.Proofs.YtjdchfljifacoaaGreat
/- THE CELL 'sum', in the pinned program and in every row, IS THE sha256 OF THE DUMP (.gsa) THAT YtjdchfljifacoaaGreatProg.lean LOADS. Nothing in Lean hashes anything: it is a label: what it is worth is what the hold of that sum in a sandbox is worth. -/
noncomputable def Tryz.pinned : Pinned := { name := "ytjdchfljifacoaagreat", sum := "1b44b129f8af5eb78f99dceac620e1474ef55cedd41b8c8f841e4274f9210ec9", checked := Tryz.checked }
namespace Rows
def none {H : Type} : Left H := { results := [], args := [] }

/-- 'putloglaw17.ActMatchesReference': WHATEVER THE INPUT: true; the input reads as it did. -/
def actMatchesReferenceSpec : ChangeSpec := { name := "actMatchesReference", fn := fun _ => fun
  | [d1, d2, d3, d4, d5, d6, d7, d8] => { results := [.lit (.bool true)], args := [d1, d2, d3, d4, d5, d6, d7, d8] }
  | _ => none }
def actMatchesReferenceRow : OpenClaim := { program := "ytjdchfljifacoaagreat", sum := "1b44b129f8af5eb78f99dceac620e1474ef55cedd41b8c8f841e4274f9210ec9", func := "putlog/putloglaw17.ActMatchesReference", spec := "actMatchesReference", inPlace := ["slices.overlaps[putlog/api.Unit]", "internal/abi.NoEscape", "slices.overlaps[putlog/api.Mark]"], unfollowed := true, recurses := true, apart := false }
def ActMatchesReferenceSaid : Prop := actMatchesReferenceRow.holds Tryz.pinned (OpenSpec.ofChange actMatchesReferenceSpec)

/-- ITS FALSE NEIGHBOUR: 'it returns false'. Refute it at one input. -/
def actMatchesReferenceWrong : ChangeSpec := { name := "actMatchesReference", fn := fun _ => fun
  | [d1, d2, d3, d4, d5, d6, d7, d8] => { results := [.lit (.bool false)], args := [d1, d2, d3, d4, d5, d6, d7, d8] }
  | _ => none }
def ActMatchesReferenceWrongFalsely : Prop := actMatchesReferenceRow.holds Tryz.pinned (OpenSpec.ofChange actMatchesReferenceWrong)

/-- 'putloglaw17.ActStays': WHATEVER THE INPUT: true; the input reads as it did. -/
def actStaysSpec : ChangeSpec := { name := "actStays", fn := fun _ => fun
  | [d] => { results := [.lit (.bool true)], args := [d] }
  | _ => none }
def actStaysRow : OpenClaim := { program := "ytjdchfljifacoaagreat", sum := "1b44b129f8af5eb78f99dceac620e1474ef55cedd41b8c8f841e4274f9210ec9", func := "putlog/putloglaw17.ActStays", spec := "actStays", inPlace := ["slices.overlaps[putlog/api.Unit]", "internal/abi.NoEscape", "slices.overlaps[putlog/api.Mark]"], unfollowed := true, recurses := true, apart := false }
def ActStaysSaid : Prop := actStaysRow.holds Tryz.pinned (OpenSpec.ofChange actStaysSpec)

/-- ITS FALSE NEIGHBOUR: 'it returns false'. Refute it at one input. -/
def actStaysWrong : ChangeSpec := { name := "actStays", fn := fun _ => fun
  | [d] => { results := [.lit (.bool false)], args := [d] }
  | _ => none }
def ActStaysWrongFalsely : Prop := actStaysRow.holds Tryz.pinned (OpenSpec.ofChange actStaysWrong)

/-- 'putloglaw17.ActUndoes': WHATEVER THE INPUT: true; the input reads as it did. -/
def actUndoesSpec : ChangeSpec := { name := "actUndoes", fn := fun _ => fun
  | [d] => { results := [.lit (.bool true)], args := [d] }
  | _ => none }
def actUndoesRow : OpenClaim := { program := "ytjdchfljifacoaagreat", sum := "1b44b129f8af5eb78f99dceac620e1474ef55cedd41b8c8f841e4274f9210ec9", func := "putlog/putloglaw17.ActUndoes", spec := "actUndoes", inPlace := ["slices.overlaps[putlog/api.Unit]", "internal/abi.NoEscape", "slices.overlaps[putlog/api.Mark]"], unfollowed := true, recurses := true, apart := false }
def ActUndoesSaid : Prop := actUndoesRow.holds Tryz.pinned (OpenSpec.ofChange actUndoesSpec)

/-- ITS FALSE NEIGHBOUR: 'it returns false'. Refute it at one input. -/
def actUndoesWrong : ChangeSpec := { name := "actUndoes", fn := fun _ => fun
  | [d] => { results := [.lit (.bool false)], args := [d] }
  | _ => none }
def ActUndoesWrongFalsely : Prop := actUndoesRow.holds Tryz.pinned (OpenSpec.ofChange actUndoesWrong)

/-- 'putloglaw17.ActExchanges': WHATEVER THE INPUT: true; the input reads as it did. -/
def actExchangesSpec : ChangeSpec := { name := "actExchanges", fn := fun _ => fun
  | [d1, d2, d3] => { results := [.lit (.bool true)], args := [d1, d2, d3] }
  | _ => none }
def actExchangesRow : OpenClaim := { program := "ytjdchfljifacoaagreat", sum := "1b44b129f8af5eb78f99dceac620e1474ef55cedd41b8c8f841e4274f9210ec9", func := "putlog/putloglaw17.ActExchanges", spec := "actExchanges", inPlace := ["slices.overlaps[putlog/api.Unit]", "internal/abi.NoEscape", "slices.overlaps[putlog/api.Mark]"], unfollowed := true, recurses := true, apart := false }
def ActExchangesSaid : Prop := actExchangesRow.holds Tryz.pinned (OpenSpec.ofChange actExchangesSpec)

/-- ITS FALSE NEIGHBOUR: 'it returns false'. Refute it at one input. -/
def actExchangesWrong : ChangeSpec := { name := "actExchanges", fn := fun _ => fun
  | [d1, d2, d3] => { results := [.lit (.bool false)], args := [d1, d2, d3] }
  | _ => none }
def ActExchangesWrongFalsely : Prop := actExchangesRow.holds Tryz.pinned (OpenSpec.ofChange actExchangesWrong)

/-- 'putloglaw17.ActParts': WHATEVER THE INPUT: true; the input reads as it did. -/
def actPartsSpec : ChangeSpec := { name := "actParts", fn := fun _ => fun
  | [d1, d2] => { results := [.lit (.bool true)], args := [d1, d2] }
  | _ => none }
def actPartsRow : OpenClaim := { program := "ytjdchfljifacoaagreat", sum := "1b44b129f8af5eb78f99dceac620e1474ef55cedd41b8c8f841e4274f9210ec9", func := "putlog/putloglaw17.ActParts", spec := "actParts", inPlace := ["slices.overlaps[putlog/api.Unit]", "internal/abi.NoEscape", "slices.overlaps[putlog/api.Mark]"], unfollowed := true, recurses := true, apart := false }
def ActPartsSaid : Prop := actPartsRow.holds Tryz.pinned (OpenSpec.ofChange actPartsSpec)

/-- ITS FALSE NEIGHBOUR: 'it returns false'. Refute it at one input. -/
def actPartsWrong : ChangeSpec := { name := "actParts", fn := fun _ => fun
  | [d1, d2] => { results := [.lit (.bool false)], args := [d1, d2] }
  | _ => none }
def ActPartsWrongFalsely : Prop := actPartsRow.holds Tryz.pinned (OpenSpec.ofChange actPartsWrong)

/-- 'putloglaw17.ActDecodes': WHATEVER THE INPUT: true; the input reads as it did. -/
def actDecodesSpec : ChangeSpec := { name := "actDecodes", fn := fun _ => fun
  | [d1, d2, d3, d4] => { results := [.lit (.bool true)], args := [d1, d2, d3, d4] }
  | _ => none }
def actDecodesRow : OpenClaim := { program := "ytjdchfljifacoaagreat", sum := "1b44b129f8af5eb78f99dceac620e1474ef55cedd41b8c8f841e4274f9210ec9", func := "putlog/putloglaw17.ActDecodes", spec := "actDecodes", inPlace := ["slices.overlaps[putlog/api.Unit]", "internal/abi.NoEscape", "slices.overlaps[putlog/api.Mark]"], unfollowed := true, recurses := true, apart := false }
def ActDecodesSaid : Prop := actDecodesRow.holds Tryz.pinned (OpenSpec.ofChange actDecodesSpec)

/-- ITS FALSE NEIGHBOUR: 'it returns false'. Refute it at one input. -/
def actDecodesWrong : ChangeSpec := { name := "actDecodes", fn := fun _ => fun
  | [d1, d2, d3, d4] => { results := [.lit (.bool false)], args := [d1, d2, d3, d4] }
  | _ => none }
def ActDecodesWrongFalsely : Prop := actDecodesRow.holds Tryz.pinned (OpenSpec.ofChange actDecodesWrong)

/-- 'putloglaw17.ActMoves': WHATEVER THE INPUT: true; the input reads as it did. -/
def actMovesSpec : ChangeSpec := { name := "actMoves", fn := fun _ => fun
  | [d1, d2, d3] => { results := [.lit (.bool true)], args := [d1, d2, d3] }
  | _ => none }
def actMovesRow : OpenClaim := { program := "ytjdchfljifacoaagreat", sum := "1b44b129f8af5eb78f99dceac620e1474ef55cedd41b8c8f841e4274f9210ec9", func := "putlog/putloglaw17.ActMoves", spec := "actMoves", inPlace := ["slices.overlaps[putlog/api.Unit]", "internal/abi.NoEscape", "slices.overlaps[putlog/api.Mark]"], unfollowed := true, recurses := true, apart := false }
def ActMovesSaid : Prop := actMovesRow.holds Tryz.pinned (OpenSpec.ofChange actMovesSpec)

/-- ITS FALSE NEIGHBOUR: 'it returns false'. Refute it at one input. -/
def actMovesWrong : ChangeSpec := { name := "actMoves", fn := fun _ => fun
  | [d1, d2, d3] => { results := [.lit (.bool false)], args := [d1, d2, d3] }
  | _ => none }
def ActMovesWrongFalsely : Prop := actMovesRow.holds Tryz.pinned (OpenSpec.ofChange actMovesWrong)

/- THE SECOND FORM. 'bulk': how many values and letters a reading holds, each counted each time it is reached (what is shared counts as often as it is met; a slice's spare places count too). A statement '..UptoSaid' is the law's where the arguments, and the package variables that the reading takes, are together of bulk at most 1048576: NARROWER than '..Said'. Prove '..Said' where nothing that the law and all that it calls make is longer than what came in: it says more and counts as full. Else prove '..UptoSaid'. A law counts once. -/
mutual
def uptoBulk {H : Type} : DataW H → Nat
  | .lit (.string bytes) => bytes.length + 1
  | .lit _ => 1
  | .nil => 1
  | .ptr d => uptoBulk d + 1
  | .slice elems spare => uptoBulkAll elems + uptoBulkAll spare + 1
  | .agg parts => uptoBulkAll parts + 1
  | .iface _ d => uptoBulk d + 1
  | .map entries => uptoBulkEntries entries + 1
  | .held _ => 1
def uptoBulkAll {H : Type} : List (DataW H) → Nat
  | [] => 0
  | d :: r => uptoBulk d + uptoBulkAll r
def uptoBulkEntries {H : Type} : List (Lit × DataW H) → Nat
  | [] => 0
  | x :: r => uptoBulkEntry x + uptoBulkEntries r
def uptoBulkEntry {H : Type} : Lit × DataW H → Nat
  | (.string bytes, d) => bytes.length + uptoBulk d + 1
  | (_, d) => uptoBulk d + 1
 end
def uptoSmall : (H : Type) → List (DataW H) → Bool := fun _ ds => decide (uptoBulkAll ds ≤ 1048576)
def OpenSpec.upto (s : _root_.Go.ChangeSpec) : _root_.Go.OpenSpec := { _root_.Go.OpenSpec.ofChange s with cond := some uptoSmall }

/-- 'putloglaw17.ActMatchesReference', WHERE WHAT IT READS IS OF BULK AT MOST 1048576: true; the input reads as it did. -/
def actMatchesReferenceUptoRow : OpenClaim := { program := "ytjdchfljifacoaagreat", sum := "1b44b129f8af5eb78f99dceac620e1474ef55cedd41b8c8f841e4274f9210ec9", func := "putlog/putloglaw17.ActMatchesReference", spec := "actMatchesReference", inPlace := ["slices.overlaps[putlog/api.Unit]", "internal/abi.NoEscape", "slices.overlaps[putlog/api.Mark]"], unfollowed := true, recurses := true, apart := false, narrowed := true }
def ActMatchesReferenceUptoSaid : Prop := actMatchesReferenceUptoRow.holds Tryz.pinned (OpenSpec.upto actMatchesReferenceSpec)

/-- 'putloglaw17.ActStays', WHERE WHAT IT READS IS OF BULK AT MOST 1048576: true; the input reads as it did. -/
def actStaysUptoRow : OpenClaim := { program := "ytjdchfljifacoaagreat", sum := "1b44b129f8af5eb78f99dceac620e1474ef55cedd41b8c8f841e4274f9210ec9", func := "putlog/putloglaw17.ActStays", spec := "actStays", inPlace := ["slices.overlaps[putlog/api.Unit]", "internal/abi.NoEscape", "slices.overlaps[putlog/api.Mark]"], unfollowed := true, recurses := true, apart := false, narrowed := true }
def ActStaysUptoSaid : Prop := actStaysUptoRow.holds Tryz.pinned (OpenSpec.upto actStaysSpec)

/-- 'putloglaw17.ActUndoes', WHERE WHAT IT READS IS OF BULK AT MOST 1048576: true; the input reads as it did. -/
def actUndoesUptoRow : OpenClaim := { program := "ytjdchfljifacoaagreat", sum := "1b44b129f8af5eb78f99dceac620e1474ef55cedd41b8c8f841e4274f9210ec9", func := "putlog/putloglaw17.ActUndoes", spec := "actUndoes", inPlace := ["slices.overlaps[putlog/api.Unit]", "internal/abi.NoEscape", "slices.overlaps[putlog/api.Mark]"], unfollowed := true, recurses := true, apart := false, narrowed := true }
def ActUndoesUptoSaid : Prop := actUndoesUptoRow.holds Tryz.pinned (OpenSpec.upto actUndoesSpec)

/-- 'putloglaw17.ActExchanges', WHERE WHAT IT READS IS OF BULK AT MOST 1048576: true; the input reads as it did. -/
def actExchangesUptoRow : OpenClaim := { program := "ytjdchfljifacoaagreat", sum := "1b44b129f8af5eb78f99dceac620e1474ef55cedd41b8c8f841e4274f9210ec9", func := "putlog/putloglaw17.ActExchanges", spec := "actExchanges", inPlace := ["slices.overlaps[putlog/api.Unit]", "internal/abi.NoEscape", "slices.overlaps[putlog/api.Mark]"], unfollowed := true, recurses := true, apart := false, narrowed := true }
def ActExchangesUptoSaid : Prop := actExchangesUptoRow.holds Tryz.pinned (OpenSpec.upto actExchangesSpec)

/-- 'putloglaw17.ActParts', WHERE WHAT IT READS IS OF BULK AT MOST 1048576: true; the input reads as it did. -/
def actPartsUptoRow : OpenClaim := { program := "ytjdchfljifacoaagreat", sum := "1b44b129f8af5eb78f99dceac620e1474ef55cedd41b8c8f841e4274f9210ec9", func := "putlog/putloglaw17.ActParts", spec := "actParts", inPlace := ["slices.overlaps[putlog/api.Unit]", "internal/abi.NoEscape", "slices.overlaps[putlog/api.Mark]"], unfollowed := true, recurses := true, apart := false, narrowed := true }
def ActPartsUptoSaid : Prop := actPartsUptoRow.holds Tryz.pinned (OpenSpec.upto actPartsSpec)

/-- 'putloglaw17.ActDecodes', WHERE WHAT IT READS IS OF BULK AT MOST 1048576: true; the input reads as it did. -/
def actDecodesUptoRow : OpenClaim := { program := "ytjdchfljifacoaagreat", sum := "1b44b129f8af5eb78f99dceac620e1474ef55cedd41b8c8f841e4274f9210ec9", func := "putlog/putloglaw17.ActDecodes", spec := "actDecodes", inPlace := ["slices.overlaps[putlog/api.Unit]", "internal/abi.NoEscape", "slices.overlaps[putlog/api.Mark]"], unfollowed := true, recurses := true, apart := false, narrowed := true }
def ActDecodesUptoSaid : Prop := actDecodesUptoRow.holds Tryz.pinned (OpenSpec.upto actDecodesSpec)

/-- 'putloglaw17.ActMoves', WHERE WHAT IT READS IS OF BULK AT MOST 1048576: true; the input reads as it did. -/
def actMovesUptoRow : OpenClaim := { program := "ytjdchfljifacoaagreat", sum := "1b44b129f8af5eb78f99dceac620e1474ef55cedd41b8c8f841e4274f9210ec9", func := "putlog/putloglaw17.ActMoves", spec := "actMoves", inPlace := ["slices.overlaps[putlog/api.Unit]", "internal/abi.NoEscape", "slices.overlaps[putlog/api.Mark]"], unfollowed := true, recurses := true, apart := false, narrowed := true }
def ActMovesUptoSaid : Prop := actMovesUptoRow.holds Tryz.pinned (OpenSpec.upto actMovesSpec)

end Rows
end Go.Proofs.YtjdchfljifacoaaGreat
