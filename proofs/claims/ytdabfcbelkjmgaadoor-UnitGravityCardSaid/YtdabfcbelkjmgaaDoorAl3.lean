/-
  What the machine makes of the functions: its own texts of them, and that they are that.
-/
import Derived.Test.YtdabfcbelkjmgaaDoorA5
import Derived.Test.YtdabfcbelkjmgaaDoorProg
namespace Go.Proofs.YtdabfcbelkjmgaaDoor.Am
set_option linter.unusedSimpArgs false
set_option linter.unusedVariables false
open Go C
set_option maxRecDepth 100000
/- putlog/putloglaw08.UnitGravity -/
def ac3 : AC := .seq (.reg 0 [o 7 (.box 4 (.t 3)), o 8 (.mv ff)]) (.seq (.reg 1 [c 17 9 [], m 9 17]) (.seq (.seq (.reg 2 [m 18 9, o 19 (.un .not (.t 18))]) (.cond (.t 19) (.seq (.reg 3 [o 8 (.mv
  ff)]) .ret) .nop)) (.seq (.reg 4 [m 21 0, m 22 1, m 23 2, o 24 (.ld 4 true (.t 7)), o 25 (.ld 4 true (.t 7)), c 26 10 [.t 21, .t 22, .t 23, .t 24, .t 25], m 20 26, o 27 (.ext (.t
  20) 0), o 28 (.ext (.t 20) 1), o 10 (.alloc [z, z, z, .sl 0 true [] [], z, z]), o 11 (.alloc [z, z, z, .sl 0 true [] [], z, z]), u (.st 6 (.t 10) (.t 27)), u (.st 6 (.t 11) (.t
  28))]) (.seq (.reg 5 [o 12 (.mv (i 40))]) (.seq (.reg 6 [o 13 (.mv (i 0))]) (.seq (.seq (.reg 7 [o 14 (.mv (i 0))]) (.block 0 (.loop (.seq (.seq (.reg 8 [m 29 14, o 30 (.fa 3 (.t
  10)), o 31 (.ld 1 false (.t 30)), o 32 (.len (.t 31)), o 33 (.bin .lss .int (.t 29) (.t 32))]) (.cond (.t 33) .nop (.exit 0))) (.seq (.block 1 (.seq (.reg 10 [m 36 12, o 37 (.fa
  3 (.t 10)), o 38 (.ld 1 false (.t 37)), m 39 14, o 40 (.ia 2 (.t 38) (.t 39)), o 41 (.fa 0 (.t 40)), o 42 (.ld 1 false (.t 41)), o 43 (.mm false [.t 36, .t 42]), m 12 43]) (.reg
  11 [m 44 13, o 45 (.fa 3 (.t 10)), o 46 (.ld 1 false (.t 45)), m 47 14, o 48 (.ia 2 (.t 46) (.t 47)), o 49 (.fa 0 (.t 48)), o 50 (.ld 1 false (.t 49)), o 51 (.mm true [.t 44, .t
  50]), m 13 51]))) (.reg 9 [m 34 14, o 35 (.bin .add .int (.t 34) (i 1)), m 14 35])))))) (.seq (.reg 12 [o 52 (.ld 6 true (.t 10)), c 53 11 [.t 52], m 15 53]) (.seq (.reg 13 [o 54
  (.ld 6 true (.t 10)), c 55 12 [.t 54], m 16 55]) (.seq (.reg 14 [m 56 15, o 57 (.bin .gtr .int (.t 56) (i 0)), m 58 57, w 59 58 (.mv (.t 16)), w 60 58 (.mv (.t 12)), w 61 58 (.mv
  (.t 15)), w 62 58 (.bin .mul .int (.t 60) (.t 61)), w 63 58 (.bin .gtr .int (.t 59) (.t 62)), o 64 (.pick (.t 58) (.t 63) ff), m 65 64, w 66 65 (.mv (.t 16)), w 67 65 (.mv (.t
  13)), w 68 65 (.mv (.t 15)), w 69 65 (.bin .mul .int (.t 67) (.t 68)), w 70 65 (.bin .lss .int (.t 66) (.t 69)), o 71 (.pick (.t 65) (.t 70) ff), m 8 71]) .ret)))))))))
def rv3 : List RV := [(.t 8)]
theorem ok3 : cFun Tryd.prog Tryd.f3 = some (ac3, rv3) := by kernel_rfl
theorem nt3 : Tryd.f3.ntmps = 72 := by kernel_rfl
theorem of3 : okF Tryd.prog 3 := ⟨Tryd.f3, Tryd.func3, by kernel_rfl, by kernel_rfl⟩

end Go.Proofs.YtdabfcbelkjmgaaDoor.Am
