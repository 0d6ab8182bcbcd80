/-
  No cell of these rows narrows 'for every input' (looked for: loops, veiled, ifaces, maps, wideKeys, modest, calm, conditions, laid).
  DERIVED. THE GIVEN ROWS OF THIS SEAT. 8 by the template 'for every input the law returns true; each argument reads behind the call as it read before'; 0 by the template 'total and deterministic' (their statements: YtciphecegkfaiaaGreatTotals.lean).
  GIVEN WITH THE SEED: the statements are not yours to turn. If you find one false, say at which input.
  Laid BY PROGRAM, IN A SANDBOX (cutbox-rows.mjs): the forced cells as the released guide's own fill.sh prints them over the translation 6cf677cc57765681… (all of the seat's roots in one cut). By AI agents, Wed Nov 11 2026. No macro, syntax, notation, axiom, sorry.
-/
import Derived.Test.YtciphecegkfaiaaGreatChecked
import GoSem.Claim
import GoSem.ClaimJoined
import GoSem.ClaimMapViews
import Derived.JoinedTies
import Derived.KernelRfl
namespace Go.Proofs.YtciphecegkfaiaaGreat
/- THE CELL 'sum', in the pinned program and in every row, IS THE sha256 OF THE DUMP (.gsa) THAT YtciphecegkfaiaaGreatProg.lean LOADS. Nothing in Lean hashes anything: it is a label: what it is worth is what the hold of that sum in a sandbox is worth. -/
noncomputable def Tryz.pinned : Pinned := { name := "ytciphecegkfaiaagreat", sum := "6cf677cc57765681c0ee29946ffa4f21e682980514b22f227d956a05eda0d6db", checked := Tryz.checked }
namespace Rows
def none {H : Type} : Left H := { results := [], args := [] }

/-- 'putloglaw12.FabricMatchesReference': WHATEVER THE INPUT: true; the input reads as it did. -/
def fabricMatchesReferenceSpec : ChangeSpec := { name := "fabricMatchesReference", fn := fun _ => fun
  | [d1, d2, d3, d4, d5, d6, d7, d8, d9, d10, d11] => { results := [.lit (.bool true)], args := [d1, d2, d3, d4, d5, d6, d7, d8, d9, d10, d11] }
  | _ => none }
def fabricMatchesReferenceRow : OpenClaim := { program := "ytciphecegkfaiaagreat", sum := "6cf677cc57765681c0ee29946ffa4f21e682980514b22f227d956a05eda0d6db", func := "putlog/putloglaw12.FabricMatchesReference", spec := "fabricMatchesReference", inPlace := ["slices.overlaps[putlog/api.Unit]", "internal/abi.NoEscape"], unfollowed := true, recurses := true, apart := false }
def FabricMatchesReferenceSaid : Prop := fabricMatchesReferenceRow.holds Tryz.pinned (OpenSpec.ofChange fabricMatchesReferenceSpec)

/-- ITS FALSE NEIGHBOUR: 'it returns false'. Refute it at one input. -/
def fabricMatchesReferenceWrong : ChangeSpec := { name := "fabricMatchesReference", fn := fun _ => fun
  | [d1, d2, d3, d4, d5, d6, d7, d8, d9, d10, d11] => { results := [.lit (.bool false)], args := [d1, d2, d3, d4, d5, d6, d7, d8, d9, d10, d11] }
  | _ => none }
def FabricMatchesReferenceWrongFalsely : Prop := fabricMatchesReferenceRow.holds Tryz.pinned (OpenSpec.ofChange fabricMatchesReferenceWrong)

/-- 'putloglaw12.FabricAdds': WHATEVER THE INPUT: true; the input reads as it did. -/
def fabricAddsSpec : ChangeSpec := { name := "fabricAdds", fn := fun _ => fun
  | [d1, d2, d3, d4, d5] => { results := [.lit (.bool true)], args := [d1, d2, d3, d4, d5] }
  | _ => none }
def fabricAddsRow : OpenClaim := { program := "ytciphecegkfaiaagreat", sum := "6cf677cc57765681c0ee29946ffa4f21e682980514b22f227d956a05eda0d6db", func := "putlog/putloglaw12.FabricAdds", spec := "fabricAdds", inPlace := ["slices.overlaps[putlog/api.Unit]", "internal/abi.NoEscape"], unfollowed := true, recurses := true, apart := false }
def FabricAddsSaid : Prop := fabricAddsRow.holds Tryz.pinned (OpenSpec.ofChange fabricAddsSpec)

/-- ITS FALSE NEIGHBOUR: 'it returns false'. Refute it at one input. -/
def fabricAddsWrong : ChangeSpec := { name := "fabricAdds", fn := fun _ => fun
  | [d1, d2, d3, d4, d5] => { results := [.lit (.bool false)], args := [d1, d2, d3, d4, d5] }
  | _ => none }
def FabricAddsWrongFalsely : Prop := fabricAddsRow.holds Tryz.pinned (OpenSpec.ofChange fabricAddsWrong)

/-- 'putloglaw12.FabricRests': WHATEVER THE INPUT: true; the input reads as it did. -/
def fabricRestsSpec : ChangeSpec := { name := "fabricRests", fn := fun _ => fun
  | [d1, d2, d3] => { results := [.lit (.bool true)], args := [d1, d2, d3] }
  | _ => none }
def fabricRestsRow : OpenClaim := { program := "ytciphecegkfaiaagreat", sum := "6cf677cc57765681c0ee29946ffa4f21e682980514b22f227d956a05eda0d6db", func := "putlog/putloglaw12.FabricRests", spec := "fabricRests", inPlace := ["slices.overlaps[putlog/api.Unit]", "internal/abi.NoEscape"], unfollowed := true, recurses := true, apart := false }
def FabricRestsSaid : Prop := fabricRestsRow.holds Tryz.pinned (OpenSpec.ofChange fabricRestsSpec)

/-- ITS FALSE NEIGHBOUR: 'it returns false'. Refute it at one input. -/
def fabricRestsWrong : ChangeSpec := { name := "fabricRests", fn := fun _ => fun
  | [d1, d2, d3] => { results := [.lit (.bool false)], args := [d1, d2, d3] }
  | _ => none }
def FabricRestsWrongFalsely : Prop := fabricRestsRow.holds Tryz.pinned (OpenSpec.ofChange fabricRestsWrong)

/-- 'putloglaw12.FabricFloats': WHATEVER THE INPUT: true; the input reads as it did. -/
def fabricFloatsSpec : ChangeSpec := { name := "fabricFloats", fn := fun _ => fun
  | [d1, d2, d3, d4] => { results := [.lit (.bool true)], args := [d1, d2, d3, d4] }
  | _ => none }
def fabricFloatsRow : OpenClaim := { program := "ytciphecegkfaiaagreat", sum := "6cf677cc57765681c0ee29946ffa4f21e682980514b22f227d956a05eda0d6db", func := "putlog/putloglaw12.FabricFloats", spec := "fabricFloats", inPlace := ["slices.overlaps[putlog/api.Unit]", "internal/abi.NoEscape"], unfollowed := true, recurses := true, apart := false }
def FabricFloatsSaid : Prop := fabricFloatsRow.holds Tryz.pinned (OpenSpec.ofChange fabricFloatsSpec)

/-- ITS FALSE NEIGHBOUR: 'it returns false'. Refute it at one input. -/
def fabricFloatsWrong : ChangeSpec := { name := "fabricFloats", fn := fun _ => fun
  | [d1, d2, d3, d4] => { results := [.lit (.bool false)], args := [d1, d2, d3, d4] }
  | _ => none }
def FabricFloatsWrongFalsely : Prop := fabricFloatsRow.holds Tryz.pinned (OpenSpec.ofChange fabricFloatsWrong)

/-- 'putloglaw12.FabricMoves': WHATEVER THE INPUT: true; the input reads as it did. -/
def fabricMovesSpec : ChangeSpec := { name := "fabricMoves", fn := fun _ => fun
  | [d1, d2, d3] => { results := [.lit (.bool true)], args := [d1, d2, d3] }
  | _ => none }
def fabricMovesRow : OpenClaim := { program := "ytciphecegkfaiaagreat", sum := "6cf677cc57765681c0ee29946ffa4f21e682980514b22f227d956a05eda0d6db", func := "putlog/putloglaw12.FabricMoves", spec := "fabricMoves", inPlace := ["slices.overlaps[putlog/api.Unit]", "internal/abi.NoEscape"], unfollowed := true, recurses := true, apart := false }
def FabricMovesSaid : Prop := fabricMovesRow.holds Tryz.pinned (OpenSpec.ofChange fabricMovesSpec)

/-- ITS FALSE NEIGHBOUR: 'it returns false'. Refute it at one input. -/
def fabricMovesWrong : ChangeSpec := { name := "fabricMoves", fn := fun _ => fun
  | [d1, d2, d3] => { results := [.lit (.bool false)], args := [d1, d2, d3] }
  | _ => none }
def FabricMovesWrongFalsely : Prop := fabricMovesRow.holds Tryz.pinned (OpenSpec.ofChange fabricMovesWrong)

/-- 'putloglaw12.FabricCodes': WHATEVER THE INPUT: true; the input reads as it did. -/
def fabricCodesSpec : ChangeSpec := { name := "fabricCodes", fn := fun _ => fun
  | [d1, d2, d3] => { results := [.lit (.bool true)], args := [d1, d2, d3] }
  | _ => none }
def fabricCodesRow : OpenClaim := { program := "ytciphecegkfaiaagreat", sum := "6cf677cc57765681c0ee29946ffa4f21e682980514b22f227d956a05eda0d6db", func := "putlog/putloglaw12.FabricCodes", spec := "fabricCodes", inPlace := ["slices.overlaps[putlog/api.Unit]", "internal/abi.NoEscape"], unfollowed := true, recurses := true, apart := false }
def FabricCodesSaid : Prop := fabricCodesRow.holds Tryz.pinned (OpenSpec.ofChange fabricCodesSpec)

/-- ITS FALSE NEIGHBOUR: 'it returns false'. Refute it at one input. -/
def fabricCodesWrong : ChangeSpec := { name := "fabricCodes", fn := fun _ => fun
  | [d1, d2, d3] => { results := [.lit (.bool false)], args := [d1, d2, d3] }
  | _ => none }
def FabricCodesWrongFalsely : Prop := fabricCodesRow.holds Tryz.pinned (OpenSpec.ofChange fabricCodesWrong)

/-- 'putloglaw12.FabricOne': WHATEVER THE INPUT: true; the input reads as it did. -/
def fabricOneSpec : ChangeSpec := { name := "fabricOne", fn := fun _ => fun
  | [d1, d2, d3, d4] => { results := [.lit (.bool true)], args := [d1, d2, d3, d4] }
  | _ => none }
def fabricOneRow : OpenClaim := { program := "ytciphecegkfaiaagreat", sum := "6cf677cc57765681c0ee29946ffa4f21e682980514b22f227d956a05eda0d6db", func := "putlog/putloglaw12.FabricOne", spec := "fabricOne", inPlace := ["slices.overlaps[putlog/api.Unit]", "internal/abi.NoEscape"], unfollowed := true, recurses := true, apart := false }
def FabricOneSaid : Prop := fabricOneRow.holds Tryz.pinned (OpenSpec.ofChange fabricOneSpec)

/-- ITS FALSE NEIGHBOUR: 'it returns false'. Refute it at one input. -/
def fabricOneWrong : ChangeSpec := { name := "fabricOne", fn := fun _ => fun
  | [d1, d2, d3, d4] => { results := [.lit (.bool false)], args := [d1, d2, d3, d4] }
  | _ => none }
def FabricOneWrongFalsely : Prop := fabricOneRow.holds Tryz.pinned (OpenSpec.ofChange fabricOneWrong)

/-- 'putloglaw12.FabricCuts': WHATEVER THE INPUT: true; the input reads as it did. -/
def fabricCutsSpec : ChangeSpec := { name := "fabricCuts", fn := fun _ => fun
  | [d1, d2, d3] => { results := [.lit (.bool true)], args := [d1, d2, d3] }
  | _ => none }
def fabricCutsRow : OpenClaim := { program := "ytciphecegkfaiaagreat", sum := "6cf677cc57765681c0ee29946ffa4f21e682980514b22f227d956a05eda0d6db", func := "putlog/putloglaw12.FabricCuts", spec := "fabricCuts", inPlace := ["slices.overlaps[putlog/api.Unit]", "internal/abi.NoEscape"], unfollowed := true, recurses := true, apart := false }
def FabricCutsSaid : Prop := fabricCutsRow.holds Tryz.pinned (OpenSpec.ofChange fabricCutsSpec)

/-- ITS FALSE NEIGHBOUR: 'it returns false'. Refute it at one input. -/
def fabricCutsWrong : ChangeSpec := { name := "fabricCuts", fn := fun _ => fun
  | [d1, d2, d3] => { results := [.lit (.bool false)], args := [d1, d2, d3] }
  | _ => none }
def FabricCutsWrongFalsely : Prop := fabricCutsRow.holds Tryz.pinned (OpenSpec.ofChange fabricCutsWrong)

/- THE SECOND FORM. 'bulk': how many values and letters a reading holds, each counted each time it is reached (what is shared counts as often as it is met; a slice's spare places count too). A statement '..UptoSaid' is the law's where the arguments, and the package variables that the reading takes, are together of bulk at most 1048576: NARROWER than '..Said'. Prove '..Said' where nothing that the law and all that it calls make is longer than what came in: it says more and counts as full. Else prove '..UptoSaid'. A law counts once. -/
mutual
def uptoBulk {H : Type} : DataW H → Nat
  | .lit (.string bytes) => bytes.length + 1
  | .lit _ => 1
  | .nil => 1
  | .ptr d => uptoBulk d + 1
  | .slice elems spare => uptoBulkAll elems + uptoBulkAll spare + 1
  | .agg parts => uptoBulkAll parts + 1
  | .iface _ d => uptoBulk d + 1
  | .map entries => uptoBulkEntries entries + 1
  | .held _ => 1
def uptoBulkAll {H : Type} : List (DataW H) → Nat
  | [] => 0
  | d :: r => uptoBulk d + uptoBulkAll r
def uptoBulkEntries {H : Type} : List (Lit × DataW H) → Nat
  | [] => 0
  | x :: r => uptoBulkEntry x + uptoBulkEntries r
def uptoBulkEntry {H : Type} : Lit × DataW H → Nat
  | (.string bytes, d) => bytes.length + uptoBulk d + 1
  | (_, d) => uptoBulk d + 1
 end
def uptoSmall : (H : Type) → List (DataW H) → Bool := fun _ ds => decide (uptoBulkAll ds ≤ 1048576)
def OpenSpec.upto (s : _root_.Go.ChangeSpec) : _root_.Go.OpenSpec := { _root_.Go.OpenSpec.ofChange s with cond := some uptoSmall }

/-- 'putloglaw12.FabricMatchesReference', WHERE WHAT IT READS IS OF BULK AT MOST 1048576: true; the input reads as it did. -/
def fabricMatchesReferenceUptoRow : OpenClaim := { program := "ytciphecegkfaiaagreat", sum := "6cf677cc57765681c0ee29946ffa4f21e682980514b22f227d956a05eda0d6db", func := "putlog/putloglaw12.FabricMatchesReference", spec := "fabricMatchesReference", inPlace := ["slices.overlaps[putlog/api.Unit]", "internal/abi.NoEscape"], unfollowed := true, recurses := true, apart := false, narrowed := true }
def FabricMatchesReferenceUptoSaid : Prop := fabricMatchesReferenceUptoRow.holds Tryz.pinned (OpenSpec.upto fabricMatchesReferenceSpec)

/-- 'putloglaw12.FabricAdds', WHERE WHAT IT READS IS OF BULK AT MOST 1048576: true; the input reads as it did. -/
def fabricAddsUptoRow : OpenClaim := { program := "ytciphecegkfaiaagreat", sum := "6cf677cc57765681c0ee29946ffa4f21e682980514b22f227d956a05eda0d6db", func := "putlog/putloglaw12.FabricAdds", spec := "fabricAdds", inPlace := ["slices.overlaps[putlog/api.Unit]", "internal/abi.NoEscape"], unfollowed := true, recurses := true, apart := false, narrowed := true }
def FabricAddsUptoSaid : Prop := fabricAddsUptoRow.holds Tryz.pinned (OpenSpec.upto fabricAddsSpec)

/-- 'putloglaw12.FabricRests', WHERE WHAT IT READS IS OF BULK AT MOST 1048576: true; the input reads as it did. -/
def fabricRestsUptoRow : OpenClaim := { program := "ytciphecegkfaiaagreat", sum := "6cf677cc57765681c0ee29946ffa4f21e682980514b22f227d956a05eda0d6db", func := "putlog/putloglaw12.FabricRests", spec := "fabricRests", inPlace := ["slices.overlaps[putlog/api.Unit]", "internal/abi.NoEscape"], unfollowed := true, recurses := true, apart := false, narrowed := true }
def FabricRestsUptoSaid : Prop := fabricRestsUptoRow.holds Tryz.pinned (OpenSpec.upto fabricRestsSpec)

/-- 'putloglaw12.FabricFloats', WHERE WHAT IT READS IS OF BULK AT MOST 1048576: true; the input reads as it did. -/
def fabricFloatsUptoRow : OpenClaim := { program := "ytciphecegkfaiaagreat", sum := "6cf677cc57765681c0ee29946ffa4f21e682980514b22f227d956a05eda0d6db", func := "putlog/putloglaw12.FabricFloats", spec := "fabricFloats", inPlace := ["slices.overlaps[putlog/api.Unit]", "internal/abi.NoEscape"], unfollowed := true, recurses := true, apart := false, narrowed := true }
def FabricFloatsUptoSaid : Prop := fabricFloatsUptoRow.holds Tryz.pinned (OpenSpec.upto fabricFloatsSpec)

/-- 'putloglaw12.FabricMoves', WHERE WHAT IT READS IS OF BULK AT MOST 1048576: true; the input reads as it did. -/
def fabricMovesUptoRow : OpenClaim := { program := "ytciphecegkfaiaagreat", sum := "6cf677cc57765681c0ee29946ffa4f21e682980514b22f227d956a05eda0d6db", func := "putlog/putloglaw12.FabricMoves", spec := "fabricMoves", inPlace := ["slices.overlaps[putlog/api.Unit]", "internal/abi.NoEscape"], unfollowed := true, recurses := true, apart := false, narrowed := true }
def FabricMovesUptoSaid : Prop := fabricMovesUptoRow.holds Tryz.pinned (OpenSpec.upto fabricMovesSpec)

/-- 'putloglaw12.FabricCodes', WHERE WHAT IT READS IS OF BULK AT MOST 1048576: true; the input reads as it did. -/
def fabricCodesUptoRow : OpenClaim := { program := "ytciphecegkfaiaagreat", sum := "6cf677cc57765681c0ee29946ffa4f21e682980514b22f227d956a05eda0d6db", func := "putlog/putloglaw12.FabricCodes", spec := "fabricCodes", inPlace := ["slices.overlaps[putlog/api.Unit]", "internal/abi.NoEscape"], unfollowed := true, recurses := true, apart := false, narrowed := true }
def FabricCodesUptoSaid : Prop := fabricCodesUptoRow.holds Tryz.pinned (OpenSpec.upto fabricCodesSpec)

/-- 'putloglaw12.FabricOne', WHERE WHAT IT READS IS OF BULK AT MOST 1048576: true; the input reads as it did. -/
def fabricOneUptoRow : OpenClaim := { program := "ytciphecegkfaiaagreat", sum := "6cf677cc57765681c0ee29946ffa4f21e682980514b22f227d956a05eda0d6db", func := "putlog/putloglaw12.FabricOne", spec := "fabricOne", inPlace := ["slices.overlaps[putlog/api.Unit]", "internal/abi.NoEscape"], unfollowed := true, recurses := true, apart := false, narrowed := true }
def FabricOneUptoSaid : Prop := fabricOneUptoRow.holds Tryz.pinned (OpenSpec.upto fabricOneSpec)

/-- 'putloglaw12.FabricCuts', WHERE WHAT IT READS IS OF BULK AT MOST 1048576: true; the input reads as it did. -/
def fabricCutsUptoRow : OpenClaim := { program := "ytciphecegkfaiaagreat", sum := "6cf677cc57765681c0ee29946ffa4f21e682980514b22f227d956a05eda0d6db", func := "putlog/putloglaw12.FabricCuts", spec := "fabricCuts", inPlace := ["slices.overlaps[putlog/api.Unit]", "internal/abi.NoEscape"], unfollowed := true, recurses := true, apart := false, narrowed := true }
def FabricCutsUptoSaid : Prop := fabricCutsUptoRow.holds Tryz.pinned (OpenSpec.upto fabricCutsSpec)

end Rows
end Go.Proofs.YtciphecegkfaiaaGreat
