/-
  What the machine makes of the functions: its own texts of them, and that they are that.
-/
import Derived.Test.YtdabfcbelkjmgaaDoorA5
import Derived.Test.YtdabfcbelkjmgaaDoorProg
namespace Go.Proofs.YtdabfcbelkjmgaaDoor.Am
set_option linter.unusedSimpArgs false
set_option linter.unusedVariables false
open Go C
set_option maxRecDepth 100000
/- putlog/putloglaw08.UnitStands -/
def ac5 : AC := .seq (.reg 0 [o 8 (.box 4 (.t 3)), o 10 (.mv ff)]) (.seq (.reg 1 [c 28 9 [], m 11 28]) (.seq (.seq (.reg 2 [m 29 11, o 30 (.un .not (.t 29))]) (.cond (.t 30) (.seq (.reg 3 [o 10
  (.mv ff)]) .ret) .nop)) (.seq (.reg 4 [m 32 0, m 33 1, m 34 2, o 35 (.ld 4 true (.t 8)), o 36 (.ld 4 true (.t 8)), c 37 10 [.t 32, .t 33, .t 34, .t 35, .t 36], m 31 37, o 38
  (.ext (.t 31) 0), o 39 (.ext (.t 31) 1), o 12 (.alloc [z, z, z, .sl 0 true [] [], z, z]), o 13 (.alloc [z, z, z, .sl 0 true [] [], z, z]), u (.st 6 (.t 12) (.t 38)), u (.st 6 (.t
  13) (.t 39))]) (.seq (.reg 5 [o 14 (.mv (i 40))]) (.seq (.seq (.reg 6 [o 15 (.mv (i 0))]) (.block 0 (.loop (.seq (.seq (.reg 7 [m 40 15, o 41 (.fa 3 (.t 12)), o 42 (.ld 1 false
  (.t 41)), o 43 (.len (.t 42)), o 44 (.bin .lss .int (.t 40) (.t 43))]) (.cond (.t 44) .nop (.exit 0))) (.seq (.block 1 (.reg 9 [m 47 14, o 48 (.fa 3 (.t 12)), o 49 (.ld 1 false
  (.t 48)), m 50 15, o 51 (.ia 2 (.t 49) (.t 50)), o 52 (.fa 1 (.t 51)), o 53 (.ld 1 false (.t 52)), o 54 (.mm false [.t 47, .t 53]), m 14 54])) (.reg 8 [m 45 15, o 46 (.bin .add
  .int (.t 45) (i 1)), m 15 46])))))) (.seq (.reg 10 [o 56 (.ld 6 true (.t 12)), m 57 14, o 58 (.un .neg (.t 57)), c 59 14 [.t 56, i 0, .t 58], m 55 59, o 60 (.ext (.t 55) 0), o 61
  (.ext (.t 55) 1), o 16 (.alloc [z, z, z, .sl 0 true [] [], z, z]), u (.st 6 (.t 16) (.t 60)), m 17 61]) (.seq (.seq (.reg 11 [m 62 17, o 63 (.bin .neq .int (.t 62) (i 0))])
  (.cond (.t 63) (.seq (.reg 12 [o 10 (.mv ff)]) .ret) .nop)) (.seq (.reg 13 [o 18 (.mv (i 0))]) (.seq (.seq (.reg 14 [o 19 (.mv (i 0))]) (.block 2 (.loop (.seq (.seq (.reg 15 [m
  64 19, o 65 (.fa 3 (.t 16)), o 66 (.ld 1 false (.t 65)), o 67 (.len (.t 66)), o 68 (.bin .lss .int (.t 64) (.t 67))]) (.cond (.t 68) .nop (.exit 2))) (.seq (.block 3 (.seq (.reg
  17 [o 71 (.fa 3 (.t 16)), o 72 (.ld 1 false (.t 71)), m 73 19, o 74 (.ia 2 (.t 72) (.t 73)), o 75 (.fa 1 (.t 74)), o 76 (.ld 1 false (.t 75)), o 77 (.bin .eql .int (.t 76) (i
  0))]) (.cond (.t 77) (.reg 18 [m 78 18, o 79 (.bin .add .int (.t 78) (i 1)), m 18 79]) .nop))) (.reg 16 [m 69 19, o 70 (.bin .add .int (.t 69) (i 1)), m 19 70])))))) (.seq (.reg
  19 [o 81 (.ld 6 true (.t 16)), c 82 20 [.t 81], m 80 82, o 83 (.ext (.t 80) 0), o 84 (.ext (.t 80) 1), o 20 (.alloc [z, z, z, z, z, z, z, z]), u (.st 8 (.t 20) (.t 83)), m 21
  84]) (.seq (.seq (.reg 20 [m 85 21, m 86 18, o 87 (.bin .eql .int (.t 86) (i 2)), o 88 (.bin .neq .bool (.t 85) (.t 87))]) (.cond (.t 88) (.seq (.reg 21 [o 10 (.mv ff)]) .ret)
  .nop)) (.seq (.drw 22 [o 90 (.ld 6 true (.t 16)), m 91 4, c 92 13 [.t 91, i 8], o 93 (.bin .add .int (i 1) (.t 92)), c 94 14 [.t 90, i 0, .t 93], m 89 94, o 95 (.ext (.t 89) 0),
  o 96 (.ext (.t 89) 1), o 22 (.alloc [z, z, z, .sl 0 true [] [], z, z]), u (.st 6 (.t 22) (.t 95)), m 23 96] [(0, 2), (0, 8), (2, 8), (4, 8)]) (.seq (.reg 23 [o 98 (.ld 6 true (.t
  22)), c 99 20 [.t 98], m 97 99, o 100 (.ext (.t 97) 0), o 101 (.ext (.t 97) 1), o 24 (.alloc [z, z, z, z, z, z, z, z]), u (.st 8 (.t 24) (.t 100)), m 25 101]) (.seq (.seq (.reg
  24 [m 102 23, o 103 (.bin .eql .int (.t 102) (i 0)), m 104 103, w 105 104 (.mv (.t 25)), o 106 (.pick (.t 104) (.t 105) ff)]) (.cond (.t 106) (.seq (.reg 25 [o 10 (.mv ff)])
  .ret) .nop)) (.seq (.seq (.reg 26 [m 107 21, o 108 (.un .not (.t 107))]) (.cond (.t 108) (.seq (.reg 27 [o 109 (.ld 8 true (.t 20)), o 110 (.build [z, z, z, z, z, z, z, z] []), o
  111 (.bin .eql (.cells [true, true, true, true, true, true, true, true]) (.t 109) (.t 110)), m 10 111]) .ret) .nop)) (.seq (.reg 28 [o 26 (.mv (i 0))]) (.seq (.seq (.reg 29 [o 27
  (.mv (i 0))]) (.block 4 (.loop (.seq (.seq (.reg 30 [m 112 27, o 113 (.fa 3 (.t 16)), o 114 (.ld 1 false (.t 113)), o 115 (.len (.t 114)), o 116 (.bin .lss .int (.t 112) (.t
  115))]) (.cond (.t 116) .nop (.exit 4))) (.seq (.block 5 (.seq (.drw 32 [o 119 (.fa 3 (.t 16)), o 120 (.ld 1 false (.t 119)), m 121 27, o 122 (.ia 2 (.t 120) (.t 121)), o 123
  (.ld 2 true (.t 122)), o 124 (.fa 2 (.t 20)), o 125 (.fa 0 (.t 124)), o 126 (.ld 2 true (.t 125)), o 127 (.bin .eql (.cells [true, true]) (.t 123) (.t 126)), m 128 127, v 129 128
  (.fa 3 (.t 16)), v 130 128 (.ld 1 false (.t 129)), v 131 128 (.mv (.t 27)), v 132 128 (.ia 2 (.t 130) (.t 131)), v 133 128 (.ld 2 true (.t 132)), v 134 128 (.fa 2 (.t 20)), v 135
  128 (.fa 2 (.t 134)), v 136 128 (.ld 2 true (.t 135)), v 137 128 (.bin .eql (.cells [true, true]) (.t 133) (.t 136)), o 138 (.pick (.t 128) tt (.t 137))] []) (.cond (.t 138)
  (.reg 33 [m 139 26, o 140 (.bin .add .int (.t 139) (i 1)), m 26 140]) .nop))) (.reg 31 [m 117 27, o 118 (.bin .add .int (.t 117) (i 1)), m 27 118])))))) (.seq (.reg 34 [m 141 26,
  o 142 (.bin .eql .int (.t 141) (i 2)), m 143 142, w 144 143 (.fa 2 (.t 20)), w 145 143 (.fa 0 (.t 144)), w 146 143 (.fa 1 (.t 145)), w 147 143 (.ld 1 false (.t 146)), w 148 143
  (.bin .eql .int (.t 147) (i 0)), o 149 (.pick (.t 143) (.t 148) ff), m 150 149, w 151 150 (.fa 2 (.t 20)), w 152 150 (.fa 2 (.t 151)), w 153 150 (.fa 1 (.t 152)), w 154 150 (.ld
  1 false (.t 153)), w 155 150 (.bin .eql .int (.t 154) (i 0)), o 156 (.pick (.t 150) (.t 155) ff), m 157 156, w 158 157 (.fa 2 (.t 20)), w 159 157 (.fa 0 (.t 158)), w 160 157 (.fa
  0 (.t 159)), w 161 157 (.ld 1 false (.t 160)), w 162 157 (.fa 2 (.t 20)), w 163 157 (.fa 2 (.t 162)), w 164 157 (.fa 0 (.t 163)), w 165 157 (.ld 1 false (.t 164)), w 166 157
  (.bin .lss .int (.t 161) (.t 165)), o 167 (.pick (.t 157) (.t 166) ff), m 168 167, w 169 168 (.fa 0 (.t 20)), w 170 168 (.ld 1 false (.t 169)), w 171 168 (.fa 0 (.t 12)), w 172
  168 (.ld 1 false (.t 171)), w 173 168 (.bin .eql .int (.t 170) (.t 172)), o 174 (.pick (.t 168) (.t 173) ff), m 175 174, w 176 175 (.fa 1 (.t 20)), w 177 175 (.ld 1 false (.t
  176)), w 178 175 (.bin .eql .int (.t 177) (i (-1))), o 179 (.pick (.t 175) (.t 178) ff), m 180 179, w 181 180 (.fa 6 (.t 20)), w 182 180 (.ld 1 false (.t 181)), w 183 180 (.fa 4
  (.t 12)), w 184 180 (.ld 1 false (.t 183)), w 185 180 (.bin .eql .int (.t 182) (.t 184)), o 186 (.pick (.t 180) (.t 185) ff), m 187 186, w 188 187 (.fa 7 (.t 20)), w 189 187 (.ld
  1 false (.t 188)), w 190 187 (.fa 5 (.t 12)), w 191 187 (.ld 1 false (.t 190)), w 192 187 (.bin .eql .int (.t 189) (.t 191)), o 193 (.pick (.t 187) (.t 192) ff), m 10 193])
  .ret))))))))))))))))))
def rv5 : List RV := [(.t 10)]
theorem ok5 : cFun Tryd.prog Tryd.f5 = some (ac5, rv5) := by kernel_rfl
theorem nt5 : Tryd.f5.ntmps = 194 := by kernel_rfl
theorem of5 : okF Tryd.prog 5 := ⟨Tryd.f5, Tryd.func5, by kernel_rfl, by kernel_rfl⟩

end Go.Proofs.YtdabfcbelkjmgaaDoor.Am
