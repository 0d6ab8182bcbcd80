/-
  What the machine makes of the functions: its own texts of them, and that they are that.
-/
import Derived.Test.YtojciffnkbfbhaaA5
import Derived.Test.YtojciffnkbfbhaaProg
namespace Go.Proofs.Ytojciffnkbfbhaa.Am
set_option linter.unusedSimpArgs false
set_option linter.unusedVariables false
open Go C
set_option maxRecDepth 100000
/- putlog/putloglaw07.PlaneConvex -/
def ac9 : AC := .seq (.reg 0 [o 10 (.mv ff)]) (.seq (.reg 1 [c 20 10 [], m 11 20]) (.seq (.seq (.reg 2 [m 21 11, o 22 (.un .not (.t 21))]) (.cond (.t 22) (.seq (.reg 3 [o 10 (.mv ff)]) .ret)
  .nop)) (.seq (.reg 4 [m 23 0, c 24 15 [.t 23, i 0, i 40], m 12 24]) (.seq (.reg 5 [m 25 1, c 26 21 [.t 25, i 41], m 27 2, c 28 21 [.t 27, i 41], c 29 18 [.t 26, .t 28], o 13
  (.alloc [z, z]), u (.st 2 (.t 13) (.t 29))]) (.seq (.reg 6 [m 30 3, c 31 21 [.t 30, i 41], m 32 4, c 33 21 [.t 32, i 41], c 34 18 [.t 31, .t 33], o 14 (.alloc [z, z]), u (.st 2
  (.t 14) (.t 34))]) (.seq (.reg 7 [o 15 (.mv tt)]) (.seq (.seq (.reg 8 [o 16 (.mv (i 0))]) (.block 0 (.loop (.seq (.seq (.reg 9 [m 35 16, m 36 12, o 37 (.len (.t 36)), o 38 (.bin
  .lss .int (.t 35) (.t 37))]) (.cond (.t 38) .nop (.exit 0))) (.seq (.block 1 (.drw 11 [m 41 15, m 42 41, w 43 42 (.mv (.t 12)), w 44 42 (.mv (.t 16)), w 45 42 (.ia 2 (.t 43) (.t
  44)), w 46 42 (.ld 2 true (.t 45)), w 47 42 (.mv (.t 12)), w 48 42 (.mv (.t 16)), w 49 42 (.bin .add .int (.t 48) (i 1)), w 50 42 (.mv (.t 12)), w 51 42 (.len (.t 50)), w 52 42
  (.bin .rem .int (.t 49) (.t 51)), w 53 42 (.ia 2 (.t 47) (.t 52)), w 54 42 (.ld 2 true (.t 53)), w 55 42 (.ld 2 true (.t 13)), w 56 42 (.call 28 [.t 46, .t 54, .t 55]), w 57 42
  (.bin .gtr .int (.t 56) (i 0)), o 58 (.pick (.t 42) (.t 57) ff), m 15 58] [])) (.reg 10 [m 39 16, o 40 (.bin .add .int (.t 39) (i 1)), m 16 40])))))) (.seq (.seq (.reg 12 [m 59
  15, m 60 12, o 61 (.ld 2 true (.t 13)), c 62 17 [.t 60, .t 61], o 63 (.bin .eql .int (.t 62) (i 1)), o 64 (.bin .neq .bool (.t 59) (.t 63))]) (.cond (.t 64) (.seq (.reg 13 [o 10
  (.mv ff)]) .ret) .nop)) (.seq (.seq (.reg 14 [o 65 (.fa 0 (.t 13)), o 66 (.ld 1 false (.t 65)), o 67 (.fa 0 (.t 14)), o 68 (.ld 1 false (.t 67)), o 69 (.bin .add .int (.t 66) (.t
  68)), o 70 (.bin .rem .int (.t 69) (i 2)), o 71 (.bin .eql .int (.t 70) (i 0)), m 72 71, w 73 72 (.fa 1 (.t 13)), w 74 72 (.ld 1 false (.t 73)), w 75 72 (.fa 1 (.t 14)), w 76 72
  (.ld 1 false (.t 75)), w 77 72 (.bin .add .int (.t 74) (.t 76)), w 78 72 (.bin .rem .int (.t 77) (i 2)), w 79 72 (.bin .eql .int (.t 78) (i 0)), o 80 (.pick (.t 72) (.t 79) ff),
  m 81 80, w 82 81 (.mv (.t 12)), w 83 81 (.ld 2 true (.t 13)), w 84 81 (.call 17 [.t 82, .t 83]), w 85 81 (.bin .geq .int (.t 84) (i 0)), o 86 (.pick (.t 81) (.t 85) ff), m 87 86,
  w 88 87 (.mv (.t 12)), w 89 87 (.ld 2 true (.t 14)), w 90 87 (.call 17 [.t 88, .t 89]), w 91 87 (.bin .geq .int (.t 90) (i 0)), o 92 (.pick (.t 87) (.t 91) ff)]) (.cond (.t 92)
  (.seq (.reg 15 [m 93 12, o 94 (.fa 0 (.t 13)), o 95 (.ld 1 false (.t 94)), o 96 (.fa 0 (.t 14)), o 97 (.ld 1 false (.t 96)), o 98 (.bin .add .int (.t 95) (.t 97)), o 99 (.bin
  .quo .int (.t 98) (i 2)), o 100 (.fa 1 (.t 13)), o 101 (.ld 1 false (.t 100)), o 102 (.fa 1 (.t 14)), o 103 (.ld 1 false (.t 102)), o 104 (.bin .add .int (.t 101) (.t 103)), o
  105 (.bin .quo .int (.t 104) (i 2)), c 106 18 [.t 99, .t 105], c 107 17 [.t 93, .t 106], m 17 107]) (.seq (.drw 16 [m 108 17, o 109 (.bin .lss .int (.t 108) (i 0)), m 110 109, v
  111 110 (.mv (.t 17)), v 112 110 (.mv (.t 12)), v 113 110 (.ld 2 true (.t 13)), v 114 110 (.call 17 [.t 112, .t 113]), v 115 110 (.mv (.t 12)), v 116 110 (.ld 2 true (.t 14)), v
  117 110 (.call 17 [.t 115, .t 116]), v 118 110 (.mm true [.t 114, .t 117]), v 119 110 (.bin .lss .int (.t 111) (.t 118)), o 120 (.pick (.t 110) tt (.t 119))] [(6, 8)]) (.cond (.t
  120) (.seq (.reg 17 [o 10 (.mv ff)]) .ret) .nop))) .nop)) (.seq (.reg 18 [o 18 (.mv tt)]) (.seq (.seq (.reg 19 [o 19 (.mv (i 0))]) (.block 2 (.loop (.seq (.seq (.reg 20 [m 121
  19, o 122 (.bin .lss .int (.t 121) (i 4))]) (.cond (.t 122) .nop (.exit 2))) (.seq (.block 3 (.reg 22 [m 125 18, m 126 125, w 127 126 (.mv (.t 12)), w 128 126 (.fa 0 (.t 13)), w
  129 126 (.ld 1 false (.t 128)), w 130 126 (.mv (.t 19)), w 131 126 (.bin .rem .int (.t 130) (i 2)), w 132 126 (.bin .add .int (.t 129) (.t 131)), w 133 126 (.fa 1 (.t 13)), w 134
  126 (.ld 1 false (.t 133)), w 135 126 (.mv (.t 19)), w 136 126 (.bin .quo .int (.t 135) (i 2)), w 137 126 (.bin .add .int (.t 134) (.t 136)), w 138 126 (.call 18 [.t 132, .t
  137]), w 139 126 (.call 17 [.t 127, .t 138]), w 140 126 (.bin .geq .int (.t 139) (i 0)), o 141 (.pick (.t 126) (.t 140) ff), m 18 141])) (.reg 21 [m 123 19, o 124 (.bin .add .int
  (.t 123) (i 1)), m 19 124])))))) (.seq (.reg 23 [m 142 18, o 143 (.un .not (.t 142)), m 144 143, v 145 144 (.mv (.t 12)), v 146 144 (.fa 0 (.t 13)), v 147 144 (.ld 1 false (.t
  146)), v 148 144 (.fa 1 (.t 13)), v 149 144 (.ld 1 false (.t 148)), v 150 144 (.call 27 [.t 145, .t 147, .t 149]), v 151 144 (.bin .eql .int (.t 150) (i 1)), o 152 (.pick (.t
  144) tt (.t 151)), m 10 152]) .ret))))))))))))
def rv9 : List RV := [(.t 10)]
theorem ok9 : cFun Try.prog Try.f9 = some (ac9, rv9) := by kernel_rfl
theorem nt9 : Try.f9.ntmps = 153 := by kernel_rfl
theorem of9 : okF Try.prog 9 := ⟨Try.f9, Try.func9, by kernel_rfl, by kernel_rfl⟩

end Go.Proofs.Ytojciffnkbfbhaa.Am
