/-
  What the machine makes of the functions: its own texts of them, and that they are that.
-/
import Derived.Test.YtdabfcbelkjmgaaDoorA5
import Derived.Test.YtdabfcbelkjmgaaDoorProg
namespace Go.Proofs.YtdabfcbelkjmgaaDoor.Am
set_option linter.unusedSimpArgs false
set_option linter.unusedVariables false
open Go C
set_option maxRecDepth 100000
/- putlog/putloglaw08.UnitCuts -/
def ac8 : AC := .seq (.reg 0 [o 9 (.box 4 (.t 3)), o 12 (.mv ff)]) (.seq (.reg 1 [c 25 9 [], m 13 25]) (.seq (.seq (.reg 2 [m 26 13, o 27 (.un .not (.t 26))]) (.cond (.t 27) (.seq (.reg 3 [o 12
  (.mv ff)]) .ret) .nop)) (.seq (.reg 4 [m 29 0, m 30 1, m 31 2, o 32 (.ld 4 true (.t 9)), o 33 (.ld 4 true (.t 9)), c 34 10 [.t 29, .t 30, .t 31, .t 32, .t 33], m 28 34, o 35
  (.ext (.t 28) 0), o 36 (.ext (.t 28) 1), o 14 (.alloc [z, z, z, .sl 0 true [] [], z, z]), o 15 (.alloc [z, z, z, .sl 0 true [] [], z, z]), u (.st 6 (.t 14) (.t 35)), u (.st 6 (.t
  15) (.t 36))]) (.seq (.reg 5 [o 37 (.fa 3 (.t 14)), o 38 (.ld 1 false (.t 37)), o 39 (.len (.t 38)), m 16 39]) (.seq (.reg 6 [o 40 (.ld 6 true (.t 14)), o 17 (.alloc [z, z, z,
  .sl 0 true [] [], z, z]), u (.st 6 (.t 17) (.t 40))]) (.seq (.reg 7 [o 41 (.ld 6 true (.t 14)), o 18 (.alloc [z, z, z, .sl 0 true [] [], z, z]), u (.st 6 (.t 18) (.t 41))]) (.seq
  (.reg 8 [o 19 (.mv (i 0))]) (.seq (.drw 9 [o 43 (.fa 3 (.t 14)), o 44 (.ld 1 false (.t 43)), m 45 4, m 46 16, c 47 13 [.t 45, .t 46], m 48 5, m 49 16, c 50 13 [.t 48, .t 49], c
  51 25 [.t 44, .t 47, .t 50], m 42 51, o 52 (.ext (.t 42) 0), o 53 (.ext (.t 42) 1), o 54 (.ext (.t 42) 2), o 55 (.fa 3 (.t 17)), u (.st 1 (.t 55) (.t 52)), o 56 (.fa 3 (.t 18)),
  u (.st 1 (.t 56) (.t 53)), m 19 54] [(1, 4), (1, 7)]) (.seq (.seq (.reg 10 [m 57 19, o 58 (.bin .neq .int (.t 57) (i 0))]) (.cond (.t 58) (.seq (.reg 11 [m 59 4, m 60 16, c 61 13
  [.t 59, .t 60], m 62 5, m 63 16, c 64 13 [.t 62, .t 63], o 65 (.bin .sub .int (.t 61) (.t 64)), m 20 65]) (.seq (.reg 12 [m 66 20, o 67 (.bin .eql .int (.t 66) (i 0)), m 68 67, v
  69 68 (.mv (.t 20)), v 70 68 (.bin .eql .int (.t 69) (i 1)), o 71 (.pick (.t 68) tt (.t 70)), m 72 71, v 73 72 (.mv (.t 20)), v 74 72 (.bin .eql .int (.t 73) (i (-1))), o 75
  (.pick (.t 72) tt (.t 74)), m 76 75, v 77 76 (.mv (.t 20)), v 78 76 (.mv (.t 16)), v 79 76 (.bin .sub .int (.t 78) (i 1)), v 80 76 (.bin .eql .int (.t 77) (.t 79)), o 81 (.pick
  (.t 76) tt (.t 80)), m 82 81, v 83 82 (.mv (.t 20)), v 84 82 (.mv (.t 16)), v 85 82 (.bin .sub .int (i 1) (.t 84)), v 86 82 (.bin .eql .int (.t 83) (.t 85)), o 87 (.pick (.t 82)
  tt (.t 86)), m 12 87]) .ret)) .nop)) (.seq (.reg 13 [o 89 (.ld 6 true (.t 17)), o 90 (.ld 6 true (.t 18)), c 91 16 [.t 89, .t 90], m 88 91, o 92 (.ext (.t 88) 0), o 93 (.ext (.t
  88) 1), o 21 (.alloc [z, z, z, z, z, z, z, z]), u (.st 8 (.t 21) (.t 92)), m 22 93]) (.seq (.drw 14 [o 94 (.fa 3 (.t 14)), o 95 (.ld 1 false (.t 94)), m 96 5, m 97 16, c 98 13
  [.t 96, .t 97], o 99 (.ia 2 (.t 95) (.t 98)), o 100 (.ld 2 true (.t 99)), o 101 (.fa 3 (.t 14)), o 102 (.ld 1 false (.t 101)), m 103 4, m 104 16, c 105 13 [.t 103, .t 104], o 106
  (.ia 2 (.t 102) (.t 105)), o 107 (.ld 2 true (.t 106)), o 108 (.build [z, z, z, z] [(0, 2, .t 100), (2, 2, .t 107)]), o 23 (.alloc [z, z, z, z]), u (.st 4 (.t 23) (.t 108))] [(1,
  4), (4, 8), (1, 11), (5, 11), (6, 11), (8, 11), (1, 15), (4, 15), (5, 15), (6, 15), (8, 15), (11, 15), (12, 15), (13, 15)]) (.seq (.drw 15 [o 109 (.ld 6 true (.t 17)), c 110 18
  [.t 109], o 111 (.ld 6 true (.t 18)), c 112 18 [.t 111], o 113 (.bin .add .int (.t 110) (.t 112)), o 114 (.ld 6 true (.t 14)), c 115 18 [.t 114], o 116 (.bin .eql .int (.t 113)
  (.t 115)), m 117 116, w 118 117 (.ld 6 true (.t 17)), w 119 117 (.call 11 [.t 118]), w 120 117 (.ld 6 true (.t 18)), w 121 117 (.call 11 [.t 120]), w 122 117 (.bin .add .int (.t
  119) (.t 121)), w 123 117 (.ld 6 true (.t 14)), w 124 117 (.call 11 [.t 123]), w 125 117 (.bin .eql .int (.t 122) (.t 124)), o 126 (.pick (.t 117) (.t 125) ff), m 127 126, w 128
  127 (.ld 6 true (.t 17)), w 129 127 (.call 12 [.t 128]), w 130 127 (.ld 6 true (.t 18)), w 131 127 (.call 12 [.t 130]), w 132 127 (.bin .add .int (.t 129) (.t 131)), w 133 127
  (.ld 6 true (.t 14)), w 134 127 (.call 12 [.t 133]), w 135 127 (.bin .eql .int (.t 132) (.t 134)), o 136 (.pick (.t 127) (.t 135) ff), m 24 136] [(1, 2), (1, 5), (3, 5), (10,
  11), (10, 14), (12, 14), (20, 21), (20, 24), (22, 24)]) (.seq (.reg 16 [o 137 (.ld 6 true (.t 17)), c 138 23 [.t 137], m 139 138, w 140 139 (.ld 6 true (.t 18)), w 141 139 (.call
  23 [.t 140]), o 142 (.pick (.t 139) (.t 141) ff), m 143 142, w 144 143 (.mv (.t 24)), o 145 (.pick (.t 143) (.t 144) ff), m 146 145, w 147 146 (.ld 6 true (.t 17)), w 148 146
  (.ld 6 true (.t 18)), w 149 146 (.call 19 [.t 147, .t 148]), w 150 146 (.un .not (.t 149)), o 151 (.pick (.t 146) (.t 150) ff), m 152 151, w 153 152 (.ld 6 true (.t 17)), w 154
  152 (.ld 6 true (.t 14)), w 155 152 (.call 19 [.t 153, .t 154]), o 156 (.pick (.t 152) (.t 155) ff), m 157 156, w 158 157 (.ld 6 true (.t 14)), w 159 157 (.ld 6 true (.t 18)), w
  160 157 (.call 19 [.t 158, .t 159]), o 161 (.pick (.t 157) (.t 160) ff), m 162 161, w 163 162 (.mv (.t 22)), o 164 (.pick (.t 162) (.t 163) ff), m 165 164, w 166 165 (.ld 8 true
  (.t 21)), w 167 165 (.fa 0 (.t 14)), w 168 165 (.ld 1 false (.t 167)), w 169 165 (.fa 0 (.t 14)), w 170 165 (.ld 1 false (.t 169)), w 171 165 (.ld 4 true (.t 23)), w 172 165 (.fa
  4 (.t 14)), w 173 165 (.ld 1 false (.t 172)), w 174 165 (.fa 5 (.t 14)), w 175 165 (.ld 1 false (.t 174)), w 176 165 (.build [z, z, z, z, z, z, z, z] [(0, 1, .t 168), (1, 1, .t
  170), (2, 4, .t 171), (6, 1, .t 173), (7, 1, .t 175)]), w 177 165 (.bin .eql (.cells [true, true, true, true, true, true, true, true]) (.t 166) (.t 176)), o 178 (.pick (.t 165)
  (.t 177) ff), m 12 178]) .ret)))))))))))))
def rv8 : List RV := [(.t 12)]
theorem ok8 : cFun Tryd.prog Tryd.f8 = some (ac8, rv8) := by kernel_rfl
theorem nt8 : Tryd.f8.ntmps = 179 := by kernel_rfl
theorem of8 : okF Tryd.prog 8 := ⟨Tryd.f8, Tryd.func8, by kernel_rfl, by kernel_rfl⟩

end Go.Proofs.YtdabfcbelkjmgaaDoor.Am
