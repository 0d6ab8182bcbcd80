/-
  What the machine makes of the functions: its own texts of them, and that they are that.
-/
import Derived.Test.YtojciffnkbfbhaaA5
import Derived.Test.YtojciffnkbfbhaaProg
namespace Go.Proofs.Ytojciffnkbfbhaa.Am
set_option linter.unusedSimpArgs false
set_option linter.unusedVariables false
open Go C
set_option maxRecDepth 100000
/- putlog/putloglaw07.PlaneSeams -/
def ac7 : AC := .seq (.reg 0 [o 6 (.mv ff)]) (.seq (.reg 1 [c 20 10 [], m 7 20]) (.seq (.seq (.reg 2 [m 21 7, o 22 (.un .not (.t 21))]) (.cond (.t 22) (.seq (.reg 3 [o 6 (.mv ff)]) .ret) .nop))
  (.seq (.reg 4 [m 24 0, m 25 1, m 26 2, c 27 11 [.t 24, .t 25, .t 26], m 23 27, o 28 (.ext (.t 23) 0), o 29 (.ext (.t 23) 1), m 8 28, m 9 29]) (.seq (.reg 5 [m 31 8, m 32 9, c 33
  23 [.t 31, .t 32], m 30 33, o 34 (.ext (.t 30) 0), o 35 (.ext (.t 30) 1), o 10 (.alloc [z, z, z, z]), u (.st 4 (.t 10) (.t 34)), m 11 35]) (.seq (.reg 6 [m 37 9, m 38 8, c 39 23
  [.t 37, .t 38], m 36 39, o 40 (.ext (.t 36) 0), o 41 (.ext (.t 36) 1), o 12 (.alloc [z, z, z, z]), u (.st 4 (.t 12) (.t 40)), m 13 41]) (.seq (.seq (.reg 7 [m 42 11, m 43 13, o
  44 (.bin .neq .bool (.t 42) (.t 43)), m 45 44, v 46 45 (.fa 0 (.t 10)), v 47 45 (.ld 2 true (.t 46)), v 48 45 (.fa 2 (.t 12)), v 49 45 (.ld 2 true (.t 48)), v 50 45 (.bin .neq
  (.cells [true, true]) (.t 47) (.t 49)), o 51 (.pick (.t 45) tt (.t 50)), m 52 51, v 53 52 (.fa 2 (.t 10)), v 54 52 (.ld 2 true (.t 53)), v 55 52 (.fa 0 (.t 12)), v 56 52 (.ld 2
  true (.t 55)), v 57 52 (.bin .neq (.cells [true, true]) (.t 54) (.t 56)), o 58 (.pick (.t 52) tt (.t 57)), m 59 58, v 60 59 (.mv (.t 11)), v 61 59 (.mv (.t 60)), w 62 61 (.fa 0
  (.t 10)), w 63 61 (.ld 2 true (.t 62)), w 64 61 (.fa 2 (.t 10)), w 65 61 (.ld 2 true (.t 64)), w 66 61 (.bin .eql (.cells [true, true]) (.t 63) (.t 65)), v 67 59 (.pick (.t 61)
  (.t 66) ff), o 68 (.pick (.t 59) tt (.t 67)), m 69 68, v 70 69 (.mv (.t 8)), v 71 69 (.mv (.t 9)), v 72 69 (.call 24 [.t 70, .t 71]), v 73 69 (.mv (.t 72)), w 74 73 (.mv (.t
  11)), v 75 69 (.pick (.t 73) (.t 74) ff), o 76 (.pick (.t 69) tt (.t 75))]) (.cond (.t 76) (.seq (.reg 8 [o 6 (.mv ff)]) .ret) .nop)) (.seq (.reg 9 [o 14 (.mv (i 0))]) (.seq
  (.seq (.reg 10 [o 15 (.mv (i 0))]) (.block 0 (.loop (.seq (.seq (.reg 11 [m 77 15, o 78 (.bin .leq .int (.t 77) (i 40))]) (.cond (.t 78) .nop (.exit 0))) (.seq (.block 1 (.seq
  (.reg 13 [o 16 (.mv (i 0))]) (.block 2 (.loop (.seq (.seq (.reg 14 [m 81 16, o 82 (.bin .leq .int (.t 81) (i 40))]) (.cond (.t 82) .nop (.exit 2))) (.seq (.block 3 (.seq (.reg 16
  [m 85 15, m 86 16, c 87 18 [.t 85, .t 86], o 17 (.alloc [z, z]), u (.st 2 (.t 17) (.t 87))]) (.seq (.reg 17 [m 88 8, o 89 (.ld 2 true (.t 17)), c 90 17 [.t 88, .t 89], o 91 (.bin
  .eql .int (.t 90) (i 0)), m 92 91, w 93 92 (.mv (.t 9)), w 94 92 (.ld 2 true (.t 17)), w 95 92 (.call 17 [.t 93, .t 94]), w 96 92 (.bin .eql .int (.t 95) (i 0)), o 97 (.pick (.t
  92) (.t 96) ff), m 18 97]) (.seq (.seq (.reg 18 [m 98 18]) (.cond (.t 98) (.reg 19 [m 99 14, o 100 (.bin .add .int (.t 99) (i 1)), m 14 100]) .nop)) (.seq (.reg 20 [m 101 11, m
  102 101, w 103 102 (.mv (.t 18)), w 104 102 (.ld 4 true (.t 10)), w 105 102 (.ld 2 true (.t 17)), w 106 102 (.call 29 [.t 104, .t 105]), w 107 102 (.bin .neq .bool (.t 103) (.t
  106)), o 108 (.pick (.t 102) (.t 107) ff)]) (.cond (.t 108) (.seq (.reg 21 [o 6 (.mv ff)]) .ret) .nop)))))) (.reg 15 [m 83 16, o 84 (.bin .add .int (.t 83) (i 1)), m 16
  84]))))))) (.reg 12 [m 79 15, o 80 (.bin .add .int (.t 79) (i 1)), m 15 80])))))) (.seq (.seq (.reg 22 [m 109 11, o 110 (.un .not (.t 109))]) (.cond (.t 110) (.seq (.reg 23 [m
  111 8, m 112 9, c 113 24 [.t 111, .t 112], m 114 113, v 115 114 (.mv (.t 14)), v 116 114 (.bin .leq .int (.t 115) (i 1)), o 117 (.pick (.t 114) tt (.t 116)), m 6 117]) .ret)
  .nop)) (.seq (.seq (.reg 24 [o 19 (.mv (i 0))]) (.block 4 (.loop (.seq (.seq (.reg 25 [m 118 19, m 119 8, o 120 (.len (.t 119)), o 121 (.bin .lss .int (.t 118) (.t 120))]) (.cond
  (.t 121) .nop (.exit 4))) (.seq (.block 5 (.seq (.drw 27 [o 124 (.fa 0 (.t 10)), o 125 (.ld 2 true (.t 124)), o 126 (.fa 2 (.t 10)), o 127 (.ld 2 true (.t 126)), m 128 8, m 129
  19, o 130 (.ia 2 (.t 128) (.t 129)), o 131 (.ld 2 true (.t 130)), c 132 28 [.t 125, .t 127, .t 131], o 133 (.bin .lss .int (.t 132) (i 0))] []) (.cond (.t 133) (.seq (.reg 28 [o
  6 (.mv ff)]) .ret) .nop))) (.reg 26 [m 122 19, o 123 (.bin .add .int (.t 122) (i 1)), m 19 123])))))) (.seq (.reg 29 [m 134 7, m 6 134]) .ret)))))))))))
def rv7 : List RV := [(.t 6)]
theorem ok7 : cFun Try.prog Try.f7 = some (ac7, rv7) := by kernel_rfl
theorem nt7 : Try.f7.ntmps = 135 := by kernel_rfl
theorem of7 : okF Try.prog 7 := ⟨Try.f7, Try.func7, by kernel_rfl, by kernel_rfl⟩

/- putlog/putloglaw07.on -/
def ac29 : AC := .seq (.reg 0 [o 2 (.box 4 (.t 0)), o 3 (.box 2 (.t 1)), o 4 (.mv ff)]) (.seq (.reg 1 [o 5 (.fa 0 (.t 2)), o 6 (.ld 2 true (.t 5)), o 7 (.fa 2 (.t 2)), o 8 (.ld 2 true (.t 7)), o 9
  (.ld 2 true (.t 3)), c 10 28 [.t 6, .t 8, .t 9], o 11 (.bin .eql .int (.t 10) (i 0)), m 12 11, w 13 12 (.fa 0 (.t 3)), w 14 12 (.ld 1 false (.t 13)), w 15 12 (.fa 0 (.t 2)), w 16
  12 (.fa 0 (.t 15)), w 17 12 (.ld 1 false (.t 16)), w 18 12 (.fa 2 (.t 2)), w 19 12 (.fa 0 (.t 18)), w 20 12 (.ld 1 false (.t 19)), w 21 12 (.mm false [.t 17, .t 20]), w 22 12
  (.bin .geq .int (.t 14) (.t 21)), o 23 (.pick (.t 12) (.t 22) ff), m 24 23, w 25 24 (.fa 0 (.t 3)), w 26 24 (.ld 1 false (.t 25)), w 27 24 (.fa 0 (.t 2)), w 28 24 (.fa 0 (.t
  27)), w 29 24 (.ld 1 false (.t 28)), w 30 24 (.fa 2 (.t 2)), w 31 24 (.fa 0 (.t 30)), w 32 24 (.ld 1 false (.t 31)), w 33 24 (.mm true [.t 29, .t 32]), w 34 24 (.bin .leq .int
  (.t 26) (.t 33)), o 35 (.pick (.t 24) (.t 34) ff), m 36 35, w 37 36 (.fa 1 (.t 3)), w 38 36 (.ld 1 false (.t 37)), w 39 36 (.fa 0 (.t 2)), w 40 36 (.fa 1 (.t 39)), w 41 36 (.ld 1
  false (.t 40)), w 42 36 (.fa 2 (.t 2)), w 43 36 (.fa 1 (.t 42)), w 44 36 (.ld 1 false (.t 43)), w 45 36 (.mm false [.t 41, .t 44]), w 46 36 (.bin .geq .int (.t 38) (.t 45)), o 47
  (.pick (.t 36) (.t 46) ff), m 48 47, w 49 48 (.fa 1 (.t 3)), w 50 48 (.ld 1 false (.t 49)), w 51 48 (.fa 0 (.t 2)), w 52 48 (.fa 1 (.t 51)), w 53 48 (.ld 1 false (.t 52)), w 54
  48 (.fa 2 (.t 2)), w 55 48 (.fa 1 (.t 54)), w 56 48 (.ld 1 false (.t 55)), w 57 48 (.mm true [.t 53, .t 56]), w 58 48 (.bin .leq .int (.t 50) (.t 57)), o 59 (.pick (.t 48) (.t
  58) ff), m 4 59]) .ret)
def rv29 : List RV := [(.t 4)]
theorem ok29 : cFun Try.prog Try.f29 = some (ac29, rv29) := by kernel_rfl
theorem nt29 : Try.f29.ntmps = 60 := by kernel_rfl
theorem of29 : okF Try.prog 29 := ⟨Try.f29, Try.func29, by kernel_rfl, by kernel_rfl⟩

end Go.Proofs.Ytojciffnkbfbhaa.Am
