/-
  What the machine makes of the functions: its own texts of them, and that they are that.
-/
import Derived.Test.YtojciffnkbfbhaaA5
import Derived.Test.YtojciffnkbfbhaaProg
namespace Go.Proofs.Ytojciffnkbfbhaa.Am
set_option linter.unusedSimpArgs false
set_option linter.unusedVariables false
open Go C
set_option maxRecDepth 100000
/- putlog/putloglaw07.PlanePick -/
def ac4 : AC := .seq (.reg 0 [o 2 (.mv ff)]) (.seq (.reg 1 [c 11 10 [], m 3 11]) (.seq (.seq (.reg 2 [m 12 3, o 13 (.un .not (.t 12))]) (.cond (.t 13) (.seq (.reg 3 [o 2 (.mv ff)]) .ret) .nop))
  (.seq (.reg 4 [m 14 0, c 15 15 [.t 14, i 0, i 40], m 4 15]) (.seq (.reg 5 [m 17 4, c 18 16 [.t 17], m 16 18, o 19 (.ext (.t 16) 0), o 20 (.ext (.t 16) 1), m 5 19, m 6 20]) (.seq
  (.reg 6 [o 7 (.mv (i 0))]) (.seq (.reg 7 [o 8 (.mv (i 0))]) (.seq (.seq (.reg 8 [o 9 (.mv (i 0))]) (.block 0 (.loop (.seq (.seq (.reg 9 [m 21 9, o 22 (.bin .leq .int (.t 21) (i
  40))]) (.cond (.t 22) .nop (.exit 0))) (.seq (.block 1 (.seq (.reg 11 [o 10 (.mv (i 0))]) (.block 2 (.loop (.seq (.seq (.reg 12 [m 25 10, o 26 (.bin .leq .int (.t 25) (i 40))])
  (.cond (.t 26) .nop (.exit 2))) (.seq (.block 3 (.seq (.reg 14 [m 29 4, m 30 9, m 31 10, c 32 18 [.t 30, .t 31], c 33 17 [.t 29, .t 32]]) (.block 4 (.seq (.reg 15 [o 35 (.bin
  .eql .int (.t 33) (i 1)), m 34 35]) (.cond (.t 34) (.reg 16 [m 36 7, o 37 (.bin .add .int (.t 36) (i 1)), m 7 37]) (.seq (.reg 17 [o 39 (.bin .eql .int (.t 33) (i 0)), m 38 39])
  (.cond (.t 38) (.reg 18 [m 40 8, o 41 (.bin .add .int (.t 40) (i 1)), m 8 41]) .nop))))))) (.reg 13 [m 27 10, o 28 (.bin .add .int (.t 27) (i 1)), m 10 28]))))))) (.reg 10 [m 23
  9, o 24 (.bin .add .int (.t 23) (i 1)), m 9 24])))))) (.seq (.reg 19 [m 42 4, c 43 19 [.t 42], m 44 43, w 45 44 (.mv (.t 5)), w 46 44 (.mv (.t 7)), w 47 44 (.bin .eql .int (.t
  45) (.t 46)), o 48 (.pick (.t 44) (.t 47) ff), m 49 48, w 50 49 (.mv (.t 6)), w 51 49 (.mv (.t 8)), w 52 49 (.bin .eql .int (.t 50) (.t 51)), o 53 (.pick (.t 49) (.t 52) ff), m
  54 53, w 55 54 (.mv (.t 8)), w 56 54 (.mv (.t 4)), w 57 54 (.len (.t 56)), w 58 54 (.bin .geq .int (.t 55) (.t 57)), o 59 (.pick (.t 54) (.t 58) ff), m 60 59, w 61 60 (.mv (.t
  4)), w 62 60 (.call 20 [.t 61]), w 63 60 (.mv (.t 5)), w 64 60 (.bin .mul .int (i 2) (.t 63)), w 65 60 (.mv (.t 6)), w 66 60 (.bin .add .int (.t 64) (.t 65)), w 67 60 (.bin .sub
  .int (.t 66) (i 2)), w 68 60 (.bin .eql .int (.t 62) (.t 67)), o 69 (.pick (.t 60) (.t 68) ff), m 2 69]) .ret))))))))
def rv4 : List RV := [(.t 2)]
theorem ok4 : cFun Try.prog Try.f4 = some (ac4, rv4) := by kernel_rfl
theorem nt4 : Try.f4.ntmps = 70 := by kernel_rfl
theorem of4 : okF Try.prog 4 := ⟨Try.f4, Try.func4, by kernel_rfl, by kernel_rfl⟩

end Go.Proofs.Ytojciffnkbfbhaa.Am
