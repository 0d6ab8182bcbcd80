/-
  No cell of these rows narrows 'for every input' (looked for: loops, veiled, ifaces, maps, wideKeys, modest, calm, conditions, laid).
  DERIVED. THE GIVEN ROWS OF THIS SEAT. 8 by the template 'for every input the law returns true; each argument reads behind the call as it read before'; 0 by the template 'total and deterministic' (their statements: YtmmfbjmjhjmccaaTotals.lean).
  GIVEN WITH THE SEED: the statements are not yours to turn. If you find one false, say at which input.
  Laid BY PROGRAM, IN A SANDBOX (cutbox-rows.mjs): the forced cells as the released guide's own fill.sh prints them over the translation 8407f9bcbbb37ede… (all of the seat's roots in one cut). By AI agents, Wed Nov 11 2026. No macro, syntax, notation, axiom, sorry.
-/
import Derived.Test.YtmmfbjmjhjmccaaChecked
import GoSem.Claim
import GoSem.ClaimJoined
import GoSem.ClaimMapViews
import Derived.JoinedTies
import Derived.KernelRfl
namespace Go.Proofs.Ytmmfbjmjhjmccaa
/- THE CELL 'sum', in the pinned program and in every row, IS THE sha256 OF THE DUMP (.gsa) THAT YtmmfbjmjhjmccaaProg.lean LOADS. Nothing in Lean hashes anything: it is a label: what it is worth is what the hold of that sum in a sandbox is worth. -/
noncomputable def Try.pinned : Pinned := { name := "ytmmfbjmjhjmccaa", sum := "8407f9bcbbb37ede3670e54039cff11b46be39ad3264ecb9a455632de74efc42", checked := Try.checked }
namespace Rows
def none {H : Type} : Left H := { results := [], args := [] }

/-- 'putloglaw24.MonitorMatchesReference': WHATEVER THE INPUT: true; the input reads as it did. -/
def monitorMatchesReferenceSpec : ChangeSpec := { name := "monitorMatchesReference", fn := fun _ => fun
  | [d1, d2, d3, d4, d5, d6, d7] => { results := [.lit (.bool true)], args := [d1, d2, d3, d4, d5, d6, d7] }
  | _ => none }
def monitorMatchesReferenceRow : OpenClaim := { program := "ytmmfbjmjhjmccaa", sum := "8407f9bcbbb37ede3670e54039cff11b46be39ad3264ecb9a455632de74efc42", func := "putlog/putloglaw24.MonitorMatchesReference", spec := "monitorMatchesReference", unfollowed := true, recurses := true, apart := false }
def MonitorMatchesReferenceSaid : Prop := monitorMatchesReferenceRow.holds Try.pinned (OpenSpec.ofChange monitorMatchesReferenceSpec)

/-- ITS FALSE NEIGHBOUR: 'it returns false'. Refute it at one input. -/
def monitorMatchesReferenceWrong : ChangeSpec := { name := "monitorMatchesReference", fn := fun _ => fun
  | [d1, d2, d3, d4, d5, d6, d7] => { results := [.lit (.bool false)], args := [d1, d2, d3, d4, d5, d6, d7] }
  | _ => none }
def MonitorMatchesReferenceWrongFalsely : Prop := monitorMatchesReferenceRow.holds Try.pinned (OpenSpec.ofChange monitorMatchesReferenceWrong)

/-- 'putloglaw24.MonitorSound': WHATEVER THE INPUT: true; the input reads as it did. -/
def monitorSoundSpec : ChangeSpec := { name := "monitorSound", fn := fun _ => fun
  | [d1, d2, d3, d4, d5] => { results := [.lit (.bool true)], args := [d1, d2, d3, d4, d5] }
  | _ => none }
def monitorSoundRow : OpenClaim := { program := "ytmmfbjmjhjmccaa", sum := "8407f9bcbbb37ede3670e54039cff11b46be39ad3264ecb9a455632de74efc42", func := "putlog/putloglaw24.MonitorSound", spec := "monitorSound", unfollowed := true, recurses := true, apart := false }
def MonitorSoundSaid : Prop := monitorSoundRow.holds Try.pinned (OpenSpec.ofChange monitorSoundSpec)

/-- ITS FALSE NEIGHBOUR: 'it returns false'. Refute it at one input. -/
def monitorSoundWrong : ChangeSpec := { name := "monitorSound", fn := fun _ => fun
  | [d1, d2, d3, d4, d5] => { results := [.lit (.bool false)], args := [d1, d2, d3, d4, d5] }
  | _ => none }
def MonitorSoundWrongFalsely : Prop := monitorSoundRow.holds Try.pinned (OpenSpec.ofChange monitorSoundWrong)

/-- 'putloglaw24.MonitorExact': WHATEVER THE INPUT: true; the input reads as it did. -/
def monitorExactSpec : ChangeSpec := { name := "monitorExact", fn := fun _ => fun
  | [d1, d2, d3] => { results := [.lit (.bool true)], args := [d1, d2, d3] }
  | _ => none }
def monitorExactRow : OpenClaim := { program := "ytmmfbjmjhjmccaa", sum := "8407f9bcbbb37ede3670e54039cff11b46be39ad3264ecb9a455632de74efc42", func := "putlog/putloglaw24.MonitorExact", spec := "monitorExact", unfollowed := true, recurses := true, apart := false }
def MonitorExactSaid : Prop := monitorExactRow.holds Try.pinned (OpenSpec.ofChange monitorExactSpec)

/-- ITS FALSE NEIGHBOUR: 'it returns false'. Refute it at one input. -/
def monitorExactWrong : ChangeSpec := { name := "monitorExact", fn := fun _ => fun
  | [d1, d2, d3] => { results := [.lit (.bool false)], args := [d1, d2, d3] }
  | _ => none }
def MonitorExactWrongFalsely : Prop := monitorExactRow.holds Try.pinned (OpenSpec.ofChange monitorExactWrong)

/-- 'putloglaw24.MonitorNarrows': WHATEVER THE INPUT: true; the input reads as it did. -/
def monitorNarrowsSpec : ChangeSpec := { name := "monitorNarrows", fn := fun _ => fun
  | [d1, d2, d3, d4, d5] => { results := [.lit (.bool true)], args := [d1, d2, d3, d4, d5] }
  | _ => none }
def monitorNarrowsRow : OpenClaim := { program := "ytmmfbjmjhjmccaa", sum := "8407f9bcbbb37ede3670e54039cff11b46be39ad3264ecb9a455632de74efc42", func := "putlog/putloglaw24.MonitorNarrows", spec := "monitorNarrows", unfollowed := true, recurses := true, apart := false }
def MonitorNarrowsSaid : Prop := monitorNarrowsRow.holds Try.pinned (OpenSpec.ofChange monitorNarrowsSpec)

/-- ITS FALSE NEIGHBOUR: 'it returns false'. Refute it at one input. -/
def monitorNarrowsWrong : ChangeSpec := { name := "monitorNarrows", fn := fun _ => fun
  | [d1, d2, d3, d4, d5] => { results := [.lit (.bool false)], args := [d1, d2, d3, d4, d5] }
  | _ => none }
def MonitorNarrowsWrongFalsely : Prop := monitorNarrowsRow.holds Try.pinned (OpenSpec.ofChange monitorNarrowsWrong)

/-- 'putloglaw24.MonitorAlarms': WHATEVER THE INPUT: true; the input reads as it did. -/
def monitorAlarmsSpec : ChangeSpec := { name := "monitorAlarms", fn := fun _ => fun
  | [d1, d2, d3, d4, d5] => { results := [.lit (.bool true)], args := [d1, d2, d3, d4, d5] }
  | _ => none }
def monitorAlarmsRow : OpenClaim := { program := "ytmmfbjmjhjmccaa", sum := "8407f9bcbbb37ede3670e54039cff11b46be39ad3264ecb9a455632de74efc42", func := "putlog/putloglaw24.MonitorAlarms", spec := "monitorAlarms", unfollowed := true, recurses := true, apart := false }
def MonitorAlarmsSaid : Prop := monitorAlarmsRow.holds Try.pinned (OpenSpec.ofChange monitorAlarmsSpec)

/-- ITS FALSE NEIGHBOUR: 'it returns false'. Refute it at one input. -/
def monitorAlarmsWrong : ChangeSpec := { name := "monitorAlarms", fn := fun _ => fun
  | [d1, d2, d3, d4, d5] => { results := [.lit (.bool false)], args := [d1, d2, d3, d4, d5] }
  | _ => none }
def MonitorAlarmsWrongFalsely : Prop := monitorAlarmsRow.holds Try.pinned (OpenSpec.ofChange monitorAlarmsWrong)

/-- 'putloglaw24.MonitorBoth': WHATEVER THE INPUT: true; the input reads as it did. -/
def monitorBothSpec : ChangeSpec := { name := "monitorBoth", fn := fun _ => fun
  | [d1, d2, d3] => { results := [.lit (.bool true)], args := [d1, d2, d3] }
  | _ => none }
def monitorBothRow : OpenClaim := { program := "ytmmfbjmjhjmccaa", sum := "8407f9bcbbb37ede3670e54039cff11b46be39ad3264ecb9a455632de74efc42", func := "putlog/putloglaw24.MonitorBoth", spec := "monitorBoth", unfollowed := true, recurses := true, apart := false }
def MonitorBothSaid : Prop := monitorBothRow.holds Try.pinned (OpenSpec.ofChange monitorBothSpec)

/-- ITS FALSE NEIGHBOUR: 'it returns false'. Refute it at one input. -/
def monitorBothWrong : ChangeSpec := { name := "monitorBoth", fn := fun _ => fun
  | [d1, d2, d3] => { results := [.lit (.bool false)], args := [d1, d2, d3] }
  | _ => none }
def MonitorBothWrongFalsely : Prop := monitorBothRow.holds Try.pinned (OpenSpec.ofChange monitorBothWrong)

/-- 'putloglaw24.MonitorReasons': WHATEVER THE INPUT: true; the input reads as it did. -/
def monitorReasonsSpec : ChangeSpec := { name := "monitorReasons", fn := fun _ => fun
  | [d1, d2] => { results := [.lit (.bool true)], args := [d1, d2] }
  | _ => none }
def monitorReasonsRow : OpenClaim := { program := "ytmmfbjmjhjmccaa", sum := "8407f9bcbbb37ede3670e54039cff11b46be39ad3264ecb9a455632de74efc42", func := "putlog/putloglaw24.MonitorReasons", spec := "monitorReasons", unfollowed := true, recurses := true, apart := false }
def MonitorReasonsSaid : Prop := monitorReasonsRow.holds Try.pinned (OpenSpec.ofChange monitorReasonsSpec)

/-- ITS FALSE NEIGHBOUR: 'it returns false'. Refute it at one input. -/
def monitorReasonsWrong : ChangeSpec := { name := "monitorReasons", fn := fun _ => fun
  | [d1, d2] => { results := [.lit (.bool false)], args := [d1, d2] }
  | _ => none }
def MonitorReasonsWrongFalsely : Prop := monitorReasonsRow.holds Try.pinned (OpenSpec.ofChange monitorReasonsWrong)

/-- 'putloglaw24.MonitorShifts': WHATEVER THE INPUT: true; the input reads as it did. -/
def monitorShiftsSpec : ChangeSpec := { name := "monitorShifts", fn := fun _ => fun
  | [d1, d2, d3, d4, d5, d6] => { results := [.lit (.bool true)], args := [d1, d2, d3, d4, d5, d6] }
  | _ => none }
def monitorShiftsRow : OpenClaim := { program := "ytmmfbjmjhjmccaa", sum := "8407f9bcbbb37ede3670e54039cff11b46be39ad3264ecb9a455632de74efc42", func := "putlog/putloglaw24.MonitorShifts", spec := "monitorShifts", unfollowed := true, recurses := true, apart := false }
def MonitorShiftsSaid : Prop := monitorShiftsRow.holds Try.pinned (OpenSpec.ofChange monitorShiftsSpec)

/-- ITS FALSE NEIGHBOUR: 'it returns false'. Refute it at one input. -/
def monitorShiftsWrong : ChangeSpec := { name := "monitorShifts", fn := fun _ => fun
  | [d1, d2, d3, d4, d5, d6] => { results := [.lit (.bool false)], args := [d1, d2, d3, d4, d5, d6] }
  | _ => none }
def MonitorShiftsWrongFalsely : Prop := monitorShiftsRow.holds Try.pinned (OpenSpec.ofChange monitorShiftsWrong)

/- THE SECOND FORM. 'bulk': how many values and letters a reading holds, each counted each time it is reached (what is shared counts as often as it is met; a slice's spare places count too). A statement '..UptoSaid' is the law's where the arguments, and the package variables that the reading takes, are together of bulk at most 1048576: NARROWER than '..Said'. Prove '..Said' where nothing that the law and all that it calls make is longer than what came in: it says more and counts as full. Else prove '..UptoSaid'. A law counts once. -/
mutual
def uptoBulk {H : Type} : DataW H → Nat
  | .lit (.string bytes) => bytes.length + 1
  | .lit _ => 1
  | .nil => 1
  | .ptr d => uptoBulk d + 1
  | .slice elems spare => uptoBulkAll elems + uptoBulkAll spare + 1
  | .agg parts => uptoBulkAll parts + 1
  | .iface _ d => uptoBulk d + 1
  | .map entries => uptoBulkEntries entries + 1
  | .held _ => 1
def uptoBulkAll {H : Type} : List (DataW H) → Nat
  | [] => 0
  | d :: r => uptoBulk d + uptoBulkAll r
def uptoBulkEntries {H : Type} : List (Lit × DataW H) → Nat
  | [] => 0
  | x :: r => uptoBulkEntry x + uptoBulkEntries r
def uptoBulkEntry {H : Type} : Lit × DataW H → Nat
  | (.string bytes, d) => bytes.length + uptoBulk d + 1
  | (_, d) => uptoBulk d + 1
 end
def uptoSmall : (H : Type) → List (DataW H) → Bool := fun _ ds => decide (uptoBulkAll ds ≤ 1048576)
def OpenSpec.upto (s : _root_.Go.ChangeSpec) : _root_.Go.OpenSpec := { _root_.Go.OpenSpec.ofChange s with cond := some uptoSmall }

/-- 'putloglaw24.MonitorMatchesReference', WHERE WHAT IT READS IS OF BULK AT MOST 1048576: true; the input reads as it did. -/
def monitorMatchesReferenceUptoRow : OpenClaim := { program := "ytmmfbjmjhjmccaa", sum := "8407f9bcbbb37ede3670e54039cff11b46be39ad3264ecb9a455632de74efc42", func := "putlog/putloglaw24.MonitorMatchesReference", spec := "monitorMatchesReference", unfollowed := true, recurses := true, apart := false, narrowed := true }
def MonitorMatchesReferenceUptoSaid : Prop := monitorMatchesReferenceUptoRow.holds Try.pinned (OpenSpec.upto monitorMatchesReferenceSpec)

/-- 'putloglaw24.MonitorSound', WHERE WHAT IT READS IS OF BULK AT MOST 1048576: true; the input reads as it did. -/
def monitorSoundUptoRow : OpenClaim := { program := "ytmmfbjmjhjmccaa", sum := "8407f9bcbbb37ede3670e54039cff11b46be39ad3264ecb9a455632de74efc42", func := "putlog/putloglaw24.MonitorSound", spec := "monitorSound", unfollowed := true, recurses := true, apart := false, narrowed := true }
def MonitorSoundUptoSaid : Prop := monitorSoundUptoRow.holds Try.pinned (OpenSpec.upto monitorSoundSpec)

/-- 'putloglaw24.MonitorExact', WHERE WHAT IT READS IS OF BULK AT MOST 1048576: true; the input reads as it did. -/
def monitorExactUptoRow : OpenClaim := { program := "ytmmfbjmjhjmccaa", sum := "8407f9bcbbb37ede3670e54039cff11b46be39ad3264ecb9a455632de74efc42", func := "putlog/putloglaw24.MonitorExact", spec := "monitorExact", unfollowed := true, recurses := true, apart := false, narrowed := true }
def MonitorExactUptoSaid : Prop := monitorExactUptoRow.holds Try.pinned (OpenSpec.upto monitorExactSpec)

/-- 'putloglaw24.MonitorNarrows', WHERE WHAT IT READS IS OF BULK AT MOST 1048576: true; the input reads as it did. -/
def monitorNarrowsUptoRow : OpenClaim := { program := "ytmmfbjmjhjmccaa", sum := "8407f9bcbbb37ede3670e54039cff11b46be39ad3264ecb9a455632de74efc42", func := "putlog/putloglaw24.MonitorNarrows", spec := "monitorNarrows", unfollowed := true, recurses := true, apart := false, narrowed := true }
def MonitorNarrowsUptoSaid : Prop := monitorNarrowsUptoRow.holds Try.pinned (OpenSpec.upto monitorNarrowsSpec)

/-- 'putloglaw24.MonitorAlarms', WHERE WHAT IT READS IS OF BULK AT MOST 1048576: true; the input reads as it did. -/
def monitorAlarmsUptoRow : OpenClaim := { program := "ytmmfbjmjhjmccaa", sum := "8407f9bcbbb37ede3670e54039cff11b46be39ad3264ecb9a455632de74efc42", func := "putlog/putloglaw24.MonitorAlarms", spec := "monitorAlarms", unfollowed := true, recurses := true, apart := false, narrowed := true }
def MonitorAlarmsUptoSaid : Prop := monitorAlarmsUptoRow.holds Try.pinned (OpenSpec.upto monitorAlarmsSpec)

/-- 'putloglaw24.MonitorBoth', WHERE WHAT IT READS IS OF BULK AT MOST 1048576: true; the input reads as it did. -/
def monitorBothUptoRow : OpenClaim := { program := "ytmmfbjmjhjmccaa", sum := "8407f9bcbbb37ede3670e54039cff11b46be39ad3264ecb9a455632de74efc42", func := "putlog/putloglaw24.MonitorBoth", spec := "monitorBoth", unfollowed := true, recurses := true, apart := false, narrowed := true }
def MonitorBothUptoSaid : Prop := monitorBothUptoRow.holds Try.pinned (OpenSpec.upto monitorBothSpec)

/-- 'putloglaw24.MonitorReasons', WHERE WHAT IT READS IS OF BULK AT MOST 1048576: true; the input reads as it did. -/
def monitorReasonsUptoRow : OpenClaim := { program := "ytmmfbjmjhjmccaa", sum := "8407f9bcbbb37ede3670e54039cff11b46be39ad3264ecb9a455632de74efc42", func := "putlog/putloglaw24.MonitorReasons", spec := "monitorReasons", unfollowed := true, recurses := true, apart := false, narrowed := true }
def MonitorReasonsUptoSaid : Prop := monitorReasonsUptoRow.holds Try.pinned (OpenSpec.upto monitorReasonsSpec)

/-- 'putloglaw24.MonitorShifts', WHERE WHAT IT READS IS OF BULK AT MOST 1048576: true; the input reads as it did. -/
def monitorShiftsUptoRow : OpenClaim := { program := "ytmmfbjmjhjmccaa", sum := "8407f9bcbbb37ede3670e54039cff11b46be39ad3264ecb9a455632de74efc42", func := "putlog/putloglaw24.MonitorShifts", spec := "monitorShifts", unfollowed := true, recurses := true, apart := false, narrowed := true }
def MonitorShiftsUptoSaid : Prop := monitorShiftsUptoRow.holds Try.pinned (OpenSpec.upto monitorShiftsSpec)

end Rows
end Go.Proofs.Ytmmfbjmjhjmccaa
