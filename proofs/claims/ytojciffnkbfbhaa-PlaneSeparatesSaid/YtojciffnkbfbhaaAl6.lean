/-
  What the machine makes of the functions: its own texts of them, and that they are that.
-/
import Derived.Test.YtojciffnkbfbhaaA5
import Derived.Test.YtojciffnkbfbhaaProg
namespace Go.Proofs.Ytojciffnkbfbhaa.Am
set_option linter.unusedSimpArgs false
set_option linter.unusedVariables false
open Go C
set_option maxRecDepth 100000
/- putlog/putloglaw07.PlaneSeparates -/
def ac6 : AC := .seq (.reg 0 [o 10 (.mv ff)]) (.seq (.reg 1 [c 21 10 [], m 11 21]) (.seq (.seq (.reg 2 [m 22 11, o 23 (.un .not (.t 22))]) (.cond (.t 23) (.seq (.reg 3 [o 10 (.mv ff)]) .ret)
  .nop)) (.seq (.reg 4 [m 25 0, m 26 1, m 27 2, c 28 11 [.t 25, .t 26, .t 27], m 24 28, o 29 (.ext (.t 24) 0), o 30 (.ext (.t 24) 1), m 12 29, m 13 30]) (.seq (.reg 5 [m 32 12, m
  33 13, c 34 26 [.t 32, .t 33], m 31 34, o 35 (.ext (.t 31) 0), o 36 (.ext (.t 31) 1), o 37 (.ext (.t 31) 2), m 14 35, m 15 36, m 16 37]) (.seq (.seq (.reg 6 [m 38 12, m 39 13, c
  40 24 [.t 38, .t 39], m 41 16, o 42 (.bin .eql .bool (.t 40) (.t 41)), m 43 42, v 44 43 (.mv (.t 12)), v 45 43 (.mv (.t 13)), v 46 43 (.call 24 [.t 44, .t 45]), v 47 43 (.mv (.t
  13)), v 48 43 (.mv (.t 12)), v 49 43 (.call 24 [.t 47, .t 48]), v 50 43 (.bin .neq .bool (.t 46) (.t 49)), o 51 (.pick (.t 43) tt (.t 50)), m 52 51, v 53 52 (.mv (.t 12)), v 54
  52 (.mv (.t 12)), v 55 52 (.call 24 [.t 53, .t 54]), v 56 52 (.un .not (.t 55)), o 57 (.pick (.t 52) tt (.t 56))]) (.cond (.t 57) (.seq (.reg 7 [o 10 (.mv ff)]) .ret) .nop))
  (.seq (.reg 8 [m 58 3, c 59 21 [.t 58, i 41], m 60 4, c 61 21 [.t 60, i 41], c 62 18 [.t 59, .t 61], o 17 (.alloc [z, z]), u (.st 2 (.t 17) (.t 62))]) (.seq (.seq (.reg 9 [m 63
  12, o 64 (.ld 2 true (.t 17)), c 65 17 [.t 63, .t 64], o 66 (.bin .eql .int (.t 65) (i 1)), m 67 66, w 68 67 (.mv (.t 13)), w 69 67 (.ld 2 true (.t 17)), w 70 67 (.call 17 [.t
  68, .t 69]), w 71 67 (.bin .eql .int (.t 70) (i 1)), o 72 (.pick (.t 67) (.t 71) ff), m 73 72, w 74 73 (.mv (.t 16)), o 75 (.pick (.t 73) (.t 74) ff), m 76 75, v 77 76 (.mv (.t
  12)), v 78 76 (.fa 0 (.t 17)), v 79 76 (.ld 1 false (.t 78)), v 80 76 (.fa 1 (.t 17)), v 81 76 (.ld 1 false (.t 80)), v 82 76 (.call 27 [.t 77, .t 79, .t 81]), v 83 76 (.bin .eql
  .int (.t 82) (i 1)), v 84 76 (.mv (.t 83)), w 85 84 (.mv (.t 13)), w 86 84 (.fa 0 (.t 17)), w 87 84 (.ld 1 false (.t 86)), w 88 84 (.fa 1 (.t 17)), w 89 84 (.ld 1 false (.t 88)),
  w 90 84 (.call 27 [.t 85, .t 87, .t 89]), w 91 84 (.bin .eql .int (.t 90) (i 1)), v 92 76 (.pick (.t 84) (.t 91) ff), v 93 76 (.mv (.t 92)), w 94 93 (.mv (.t 16)), v 95 76 (.pick
  (.t 93) (.t 94) ff), o 96 (.pick (.t 76) tt (.t 95))]) (.cond (.t 96) (.seq (.reg 10 [o 10 (.mv ff)]) .ret) .nop)) (.seq (.seq (.reg 11 [m 97 16, o 98 (.un .not (.t 97))]) (.cond
  (.t 98) (.seq (.reg 12 [m 99 14, o 100 (.bin .eql .int (.t 99) (i 0)), m 101 100, w 102 101 (.mv (.t 15)), w 103 101 (.bin .eql .int (.t 102) (i 0)), o 104 (.pick (.t 101) (.t
  103) ff), m 10 104]) .ret) .nop)) (.seq (.reg 13 [m 105 12, m 18 105]) (.seq (.reg 14 [m 106 13, m 19 106]) (.seq (.seq (.reg 15 [m 107 14, o 108 (.bin .eql .int (.t 107) (i
  1))]) (.cond (.t 108) (.seq (.reg 16 [m 109 13, m 18 109]) (.reg 17 [m 110 12, m 19 110])) .nop)) (.seq (.seq (.reg 18 [m 111 14, o 112 (.bin .lss .int (.t 111) (i 0)), m 113
  112, v 114 113 (.mv (.t 14)), v 115 113 (.bin .gtr .int (.t 114) (i 1)), o 116 (.pick (.t 113) tt (.t 115)), m 117 116, v 118 117 (.mv (.t 15)), v 119 117 (.bin .lss .int (.t
  118) (i 0)), o 120 (.pick (.t 117) tt (.t 119)), m 121 120, v 122 121 (.mv (.t 15)), v 123 121 (.mv (.t 18)), v 124 121 (.len (.t 123)), v 125 121 (.bin .geq .int (.t 122) (.t
  124)), o 126 (.pick (.t 121) tt (.t 125))]) (.cond (.t 126) (.seq (.reg 19 [o 10 (.mv ff)]) .ret) .nop)) (.seq (.seq (.reg 20 [o 20 (.mv (i 0))]) (.block 0 (.loop (.seq (.seq
  (.reg 21 [m 127 20, m 128 19, o 129 (.len (.t 128)), o 130 (.bin .lss .int (.t 127) (.t 129))]) (.cond (.t 130) .nop (.exit 0))) (.seq (.block 1 (.seq (.drw 23 [m 133 18, m 134
  15, o 135 (.ia 2 (.t 133) (.t 134)), o 136 (.ld 2 true (.t 135)), m 137 18, m 138 15, o 139 (.bin .add .int (.t 138) (i 1)), m 140 18, o 141 (.len (.t 140)), o 142 (.bin .rem
  .int (.t 139) (.t 141)), o 143 (.ia 2 (.t 137) (.t 142)), o 144 (.ld 2 true (.t 143)), m 145 19, m 146 20, o 147 (.ia 2 (.t 145) (.t 146)), o 148 (.ld 2 true (.t 147)), c 149 28
  [.t 136, .t 144, .t 148], o 150 (.bin .gtr .int (.t 149) (i 0))] []) (.cond (.t 150) (.seq (.reg 24 [o 10 (.mv ff)]) .ret) .nop))) (.reg 22 [m 131 20, o 132 (.bin .add .int (.t
  131) (i 1)), m 20 132])))))) (.seq (.reg 25 [m 151 11, m 10 151]) .ret))))))))))))))
def rv6 : List RV := [(.t 10)]
theorem ok6 : cFun Try.prog Try.f6 = some (ac6, rv6) := by kernel_rfl
theorem nt6 : Try.f6.ntmps = 152 := by kernel_rfl
theorem of6 : okF Try.prog 6 := ⟨Try.f6, Try.func6, by kernel_rfl, by kernel_rfl⟩

end Go.Proofs.Ytojciffnkbfbhaa.Am
