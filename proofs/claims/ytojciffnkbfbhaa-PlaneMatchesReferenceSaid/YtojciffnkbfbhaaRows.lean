/-
  No cell of these rows narrows 'for every input' (looked for: loops, veiled, ifaces, maps, wideKeys, modest, calm, conditions, laid).
  DERIVED. THE GIVEN ROWS OF THIS SEAT. 7 by the template 'for every input the law returns true; each argument reads behind the call as it read before'; 0 by the template 'total and deterministic' (their statements: YtojciffnkbfbhaaTotals.lean).
  GIVEN WITH THE SEED: the statements are not yours to turn. If you find one false, say at which input.
  Laid BY PROGRAM, IN A SANDBOX (cutbox-rows.mjs): the forced cells as the released guide's own fill.sh prints them over the translation c12577441e2826fa… (all of the seat's roots in one cut). By AI agents, Wed Nov 11 2026. No macro, syntax, notation, axiom, sorry.
-/
import Derived.Test.YtojciffnkbfbhaaChecked
import GoSem.Claim
import GoSem.ClaimJoined
import GoSem.ClaimMapViews
import Derived.JoinedTies
import Derived.KernelRfl
namespace Go.Proofs.Ytojciffnkbfbhaa
/- THE CELL 'sum', in the pinned program and in every row, IS THE sha256 OF THE DUMP (.gsa) THAT YtojciffnkbfbhaaProg.lean LOADS. Nothing in Lean hashes anything: it is a label: what it is worth is what the hold of that sum in a sandbox is worth. -/
noncomputable def Try.pinned : Pinned := { name := "ytojciffnkbfbhaa", sum := "c12577441e2826fa2c7987c4a75437f6c6fda4f670f71dd927583308d7b512d5", checked := Try.checked }
namespace Rows
def none {H : Type} : Left H := { results := [], args := [] }

/-- 'putloglaw07.PlaneMatchesReference': WHATEVER THE INPUT: true; the input reads as it did. -/
def planeMatchesReferenceSpec : ChangeSpec := { name := "planeMatchesReference", fn := fun _ => fun
  | [d1, d2, d3, d4, d5, d6, d7, d8, d9, d10, d11] => { results := [.lit (.bool true)], args := [d1, d2, d3, d4, d5, d6, d7, d8, d9, d10, d11] }
  | _ => none }
def planeMatchesReferenceRow : OpenClaim := { program := "ytojciffnkbfbhaa", sum := "c12577441e2826fa2c7987c4a75437f6c6fda4f670f71dd927583308d7b512d5", func := "putlog/putloglaw07.PlaneMatchesReference", spec := "planeMatchesReference", unfollowed := true, recurses := true, apart := false }
def PlaneMatchesReferenceSaid : Prop := planeMatchesReferenceRow.holds Try.pinned (OpenSpec.ofChange planeMatchesReferenceSpec)

/-- ITS FALSE NEIGHBOUR: 'it returns false'. Refute it at one input. -/
def planeMatchesReferenceWrong : ChangeSpec := { name := "planeMatchesReference", fn := fun _ => fun
  | [d1, d2, d3, d4, d5, d6, d7, d8, d9, d10, d11] => { results := [.lit (.bool false)], args := [d1, d2, d3, d4, d5, d6, d7, d8, d9, d10, d11] }
  | _ => none }
def PlaneMatchesReferenceWrongFalsely : Prop := planeMatchesReferenceRow.holds Try.pinned (OpenSpec.ofChange planeMatchesReferenceWrong)

/-- 'putloglaw07.PlanePick': WHATEVER THE INPUT: true; the input reads as it did. -/
def planePickSpec : ChangeSpec := { name := "planePick", fn := fun _ => fun
  | [d] => { results := [.lit (.bool true)], args := [d] }
  | _ => none }
def planePickRow : OpenClaim := { program := "ytojciffnkbfbhaa", sum := "c12577441e2826fa2c7987c4a75437f6c6fda4f670f71dd927583308d7b512d5", func := "putlog/putloglaw07.PlanePick", spec := "planePick", unfollowed := true, recurses := true, apart := false }
def PlanePickSaid : Prop := planePickRow.holds Try.pinned (OpenSpec.ofChange planePickSpec)

/-- ITS FALSE NEIGHBOUR: 'it returns false'. Refute it at one input. -/
def planePickWrong : ChangeSpec := { name := "planePick", fn := fun _ => fun
  | [d] => { results := [.lit (.bool false)], args := [d] }
  | _ => none }
def PlanePickWrongFalsely : Prop := planePickRow.holds Try.pinned (OpenSpec.ofChange planePickWrong)

/-- 'putloglaw07.PlaneCuts': WHATEVER THE INPUT: true; the input reads as it did. -/
def planeCutsSpec : ChangeSpec := { name := "planeCuts", fn := fun _ => fun
  | [d1, d2, d3, d4, d5] => { results := [.lit (.bool true)], args := [d1, d2, d3, d4, d5] }
  | _ => none }
def planeCutsRow : OpenClaim := { program := "ytojciffnkbfbhaa", sum := "c12577441e2826fa2c7987c4a75437f6c6fda4f670f71dd927583308d7b512d5", func := "putlog/putloglaw07.PlaneCuts", spec := "planeCuts", unfollowed := true, recurses := true, apart := false }
def PlaneCutsSaid : Prop := planeCutsRow.holds Try.pinned (OpenSpec.ofChange planeCutsSpec)

/-- ITS FALSE NEIGHBOUR: 'it returns false'. Refute it at one input. -/
def planeCutsWrong : ChangeSpec := { name := "planeCuts", fn := fun _ => fun
  | [d1, d2, d3, d4, d5] => { results := [.lit (.bool false)], args := [d1, d2, d3, d4, d5] }
  | _ => none }
def PlaneCutsWrongFalsely : Prop := planeCutsRow.holds Try.pinned (OpenSpec.ofChange planeCutsWrong)

/-- 'putloglaw07.PlaneSeparates': WHATEVER THE INPUT: true; the input reads as it did. -/
def planeSeparatesSpec : ChangeSpec := { name := "planeSeparates", fn := fun _ => fun
  | [d1, d2, d3, d4, d5] => { results := [.lit (.bool true)], args := [d1, d2, d3, d4, d5] }
  | _ => none }
def planeSeparatesRow : OpenClaim := { program := "ytojciffnkbfbhaa", sum := "c12577441e2826fa2c7987c4a75437f6c6fda4f670f71dd927583308d7b512d5", func := "putlog/putloglaw07.PlaneSeparates", spec := "planeSeparates", unfollowed := true, recurses := true, apart := false }
def PlaneSeparatesSaid : Prop := planeSeparatesRow.holds Try.pinned (OpenSpec.ofChange planeSeparatesSpec)

/-- ITS FALSE NEIGHBOUR: 'it returns false'. Refute it at one input. -/
def planeSeparatesWrong : ChangeSpec := { name := "planeSeparates", fn := fun _ => fun
  | [d1, d2, d3, d4, d5] => { results := [.lit (.bool false)], args := [d1, d2, d3, d4, d5] }
  | _ => none }
def PlaneSeparatesWrongFalsely : Prop := planeSeparatesRow.holds Try.pinned (OpenSpec.ofChange planeSeparatesWrong)

/-- 'putloglaw07.PlaneSeams': WHATEVER THE INPUT: true; the input reads as it did. -/
def planeSeamsSpec : ChangeSpec := { name := "planeSeams", fn := fun _ => fun
  | [d1, d2, d3] => { results := [.lit (.bool true)], args := [d1, d2, d3] }
  | _ => none }
def planeSeamsRow : OpenClaim := { program := "ytojciffnkbfbhaa", sum := "c12577441e2826fa2c7987c4a75437f6c6fda4f670f71dd927583308d7b512d5", func := "putlog/putloglaw07.PlaneSeams", spec := "planeSeams", unfollowed := true, recurses := true, apart := false }
def PlaneSeamsSaid : Prop := planeSeamsRow.holds Try.pinned (OpenSpec.ofChange planeSeamsSpec)

/-- ITS FALSE NEIGHBOUR: 'it returns false'. Refute it at one input. -/
def planeSeamsWrong : ChangeSpec := { name := "planeSeams", fn := fun _ => fun
  | [d1, d2, d3] => { results := [.lit (.bool false)], args := [d1, d2, d3] }
  | _ => none }
def PlaneSeamsWrongFalsely : Prop := planeSeamsRow.holds Try.pinned (OpenSpec.ofChange planeSeamsWrong)

/-- 'putloglaw07.PlaneMoves': WHATEVER THE INPUT: true; the input reads as it did. -/
def planeMovesSpec : ChangeSpec := { name := "planeMoves", fn := fun _ => fun
  | [d1, d2, d3, d4, d5] => { results := [.lit (.bool true)], args := [d1, d2, d3, d4, d5] }
  | _ => none }
def planeMovesRow : OpenClaim := { program := "ytojciffnkbfbhaa", sum := "c12577441e2826fa2c7987c4a75437f6c6fda4f670f71dd927583308d7b512d5", func := "putlog/putloglaw07.PlaneMoves", spec := "planeMoves", unfollowed := true, recurses := true, apart := false }
def PlaneMovesSaid : Prop := planeMovesRow.holds Try.pinned (OpenSpec.ofChange planeMovesSpec)

/-- ITS FALSE NEIGHBOUR: 'it returns false'. Refute it at one input. -/
def planeMovesWrong : ChangeSpec := { name := "planeMoves", fn := fun _ => fun
  | [d1, d2, d3, d4, d5] => { results := [.lit (.bool false)], args := [d1, d2, d3, d4, d5] }
  | _ => none }
def PlaneMovesWrongFalsely : Prop := planeMovesRow.holds Try.pinned (OpenSpec.ofChange planeMovesWrong)

/-- 'putloglaw07.PlaneConvex': WHATEVER THE INPUT: true; the input reads as it did. -/
def planeConvexSpec : ChangeSpec := { name := "planeConvex", fn := fun _ => fun
  | [d1, d2, d3, d4, d5] => { results := [.lit (.bool true)], args := [d1, d2, d3, d4, d5] }
  | _ => none }
def planeConvexRow : OpenClaim := { program := "ytojciffnkbfbhaa", sum := "c12577441e2826fa2c7987c4a75437f6c6fda4f670f71dd927583308d7b512d5", func := "putlog/putloglaw07.PlaneConvex", spec := "planeConvex", unfollowed := true, recurses := true, apart := false }
def PlaneConvexSaid : Prop := planeConvexRow.holds Try.pinned (OpenSpec.ofChange planeConvexSpec)

/-- ITS FALSE NEIGHBOUR: 'it returns false'. Refute it at one input. -/
def planeConvexWrong : ChangeSpec := { name := "planeConvex", fn := fun _ => fun
  | [d1, d2, d3, d4, d5] => { results := [.lit (.bool false)], args := [d1, d2, d3, d4, d5] }
  | _ => none }
def PlaneConvexWrongFalsely : Prop := planeConvexRow.holds Try.pinned (OpenSpec.ofChange planeConvexWrong)

/- THE SECOND FORM. 'bulk': how many values and letters a reading holds, each counted each time it is reached (what is shared counts as often as it is met; a slice's spare places count too). A statement '..UptoSaid' is the law's where the arguments, and the package variables that the reading takes, are together of bulk at most 1048576: NARROWER than '..Said'. Prove '..Said' where nothing that the law and all that it calls make is longer than what came in: it says more and counts as full. Else prove '..UptoSaid'. A law counts once. -/
mutual
def uptoBulk {H : Type} : DataW H → Nat
  | .lit (.string bytes) => bytes.length + 1
  | .lit _ => 1
  | .nil => 1
  | .ptr d => uptoBulk d + 1
  | .slice elems spare => uptoBulkAll elems + uptoBulkAll spare + 1
  | .agg parts => uptoBulkAll parts + 1
  | .iface _ d => uptoBulk d + 1
  | .map entries => uptoBulkEntries entries + 1
  | .held _ => 1
def uptoBulkAll {H : Type} : List (DataW H) → Nat
  | [] => 0
  | d :: r => uptoBulk d + uptoBulkAll r
def uptoBulkEntries {H : Type} : List (Lit × DataW H) → Nat
  | [] => 0
  | x :: r => uptoBulkEntry x + uptoBulkEntries r
def uptoBulkEntry {H : Type} : Lit × DataW H → Nat
  | (.string bytes, d) => bytes.length + uptoBulk d + 1
  | (_, d) => uptoBulk d + 1
 end
def uptoSmall : (H : Type) → List (DataW H) → Bool := fun _ ds => decide (uptoBulkAll ds ≤ 1048576)
def OpenSpec.upto (s : _root_.Go.ChangeSpec) : _root_.Go.OpenSpec := { _root_.Go.OpenSpec.ofChange s with cond := some uptoSmall }

/-- 'putloglaw07.PlaneMatchesReference', WHERE WHAT IT READS IS OF BULK AT MOST 1048576: true; the input reads as it did. -/
def planeMatchesReferenceUptoRow : OpenClaim := { program := "ytojciffnkbfbhaa", sum := "c12577441e2826fa2c7987c4a75437f6c6fda4f670f71dd927583308d7b512d5", func := "putlog/putloglaw07.PlaneMatchesReference", spec := "planeMatchesReference", unfollowed := true, recurses := true, apart := false, narrowed := true }
def PlaneMatchesReferenceUptoSaid : Prop := planeMatchesReferenceUptoRow.holds Try.pinned (OpenSpec.upto planeMatchesReferenceSpec)

/-- 'putloglaw07.PlanePick', WHERE WHAT IT READS IS OF BULK AT MOST 1048576: true; the input reads as it did. -/
def planePickUptoRow : OpenClaim := { program := "ytojciffnkbfbhaa", sum := "c12577441e2826fa2c7987c4a75437f6c6fda4f670f71dd927583308d7b512d5", func := "putlog/putloglaw07.PlanePick", spec := "planePick", unfollowed := true, recurses := true, apart := false, narrowed := true }
def PlanePickUptoSaid : Prop := planePickUptoRow.holds Try.pinned (OpenSpec.upto planePickSpec)

/-- 'putloglaw07.PlaneCuts', WHERE WHAT IT READS IS OF BULK AT MOST 1048576: true; the input reads as it did. -/
def planeCutsUptoRow : OpenClaim := { program := "ytojciffnkbfbhaa", sum := "c12577441e2826fa2c7987c4a75437f6c6fda4f670f71dd927583308d7b512d5", func := "putlog/putloglaw07.PlaneCuts", spec := "planeCuts", unfollowed := true, recurses := true, apart := false, narrowed := true }
def PlaneCutsUptoSaid : Prop := planeCutsUptoRow.holds Try.pinned (OpenSpec.upto planeCutsSpec)

/-- 'putloglaw07.PlaneSeparates', WHERE WHAT IT READS IS OF BULK AT MOST 1048576: true; the input reads as it did. -/
def planeSeparatesUptoRow : OpenClaim := { program := "ytojciffnkbfbhaa", sum := "c12577441e2826fa2c7987c4a75437f6c6fda4f670f71dd927583308d7b512d5", func := "putlog/putloglaw07.PlaneSeparates", spec := "planeSeparates", unfollowed := true, recurses := true, apart := false, narrowed := true }
def PlaneSeparatesUptoSaid : Prop := planeSeparatesUptoRow.holds Try.pinned (OpenSpec.upto planeSeparatesSpec)

/-- 'putloglaw07.PlaneSeams', WHERE WHAT IT READS IS OF BULK AT MOST 1048576: true; the input reads as it did. -/
def planeSeamsUptoRow : OpenClaim := { program := "ytojciffnkbfbhaa", sum := "c12577441e2826fa2c7987c4a75437f6c6fda4f670f71dd927583308d7b512d5", func := "putlog/putloglaw07.PlaneSeams", spec := "planeSeams", unfollowed := true, recurses := true, apart := false, narrowed := true }
def PlaneSeamsUptoSaid : Prop := planeSeamsUptoRow.holds Try.pinned (OpenSpec.upto planeSeamsSpec)

/-- 'putloglaw07.PlaneMoves', WHERE WHAT IT READS IS OF BULK AT MOST 1048576: true; the input reads as it did. -/
def planeMovesUptoRow : OpenClaim := { program := "ytojciffnkbfbhaa", sum := "c12577441e2826fa2c7987c4a75437f6c6fda4f670f71dd927583308d7b512d5", func := "putlog/putloglaw07.PlaneMoves", spec := "planeMoves", unfollowed := true, recurses := true, apart := false, narrowed := true }
def PlaneMovesUptoSaid : Prop := planeMovesUptoRow.holds Try.pinned (OpenSpec.upto planeMovesSpec)

/-- 'putloglaw07.PlaneConvex', WHERE WHAT IT READS IS OF BULK AT MOST 1048576: true; the input reads as it did. -/
def planeConvexUptoRow : OpenClaim := { program := "ytojciffnkbfbhaa", sum := "c12577441e2826fa2c7987c4a75437f6c6fda4f670f71dd927583308d7b512d5", func := "putlog/putloglaw07.PlaneConvex", spec := "planeConvex", unfollowed := true, recurses := true, apart := false, narrowed := true }
def PlaneConvexUptoSaid : Prop := planeConvexUptoRow.holds Try.pinned (OpenSpec.upto planeConvexSpec)

end Rows
end Go.Proofs.Ytojciffnkbfbhaa
