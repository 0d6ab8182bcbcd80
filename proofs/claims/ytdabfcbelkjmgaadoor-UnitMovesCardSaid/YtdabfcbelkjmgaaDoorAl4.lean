/-
  What the machine makes of the functions: its own texts of them, and that they are that.
-/
import Derived.Test.YtdabfcbelkjmgaaDoorA5
import Derived.Test.YtdabfcbelkjmgaaDoorProg
namespace Go.Proofs.YtdabfcbelkjmgaaDoor.Am
set_option linter.unusedSimpArgs false
set_option linter.unusedVariables false
open Go C
set_option maxRecDepth 100000
/- putlog/putloglaw08.UnitMoves -/
def ac4 : AC := .seq (.reg 0 [o 10 (.box 4 (.t 3)), o 11 (.box 4 (.t 4)), o 14 (.mv ff)]) (.seq (.reg 1 [c 34 9 [], m 15 34]) (.seq (.seq (.reg 2 [m 35 15, o 36 (.un .not (.t 35))]) (.cond (.t 36)
  (.seq (.reg 3 [o 14 (.mv ff)]) .ret) .nop)) (.seq (.reg 4 [m 38 0, m 39 1, m 40 2, o 41 (.ld 4 true (.t 10)), o 42 (.ld 4 true (.t 11)), c 43 10 [.t 38, .t 39, .t 40, .t 41, .t
  42], m 37 43, o 44 (.ext (.t 37) 0), o 45 (.ext (.t 37) 1), o 16 (.alloc [z, z, z, .sl 0 true [] [], z, z]), o 17 (.alloc [z, z, z, .sl 0 true [] [], z, z]), u (.st 6 (.t 16) (.t
  44)), u (.st 6 (.t 17) (.t 45))]) (.seq (.reg 5 [m 46 5, c 47 13 [.t 46, i 13], o 48 (.bin .sub .int (.t 47) (i 6)), m 18 48]) (.seq (.reg 6 [m 49 6, c 50 13 [.t 49, i 13], o 51
  (.bin .sub .int (.t 50) (i 6)), m 19 51]) (.seq (.reg 7 [o 53 (.ld 6 true (.t 16)), m 54 18, m 55 19, c 56 14 [.t 53, .t 54, .t 55], m 52 56, o 57 (.ext (.t 52) 0), o 58 (.ext
  (.t 52) 1), o 20 (.alloc [z, z, z, .sl 0 true [] [], z, z]), u (.st 6 (.t 20) (.t 57)), m 21 58]) (.seq (.reg 8 [o 60 (.ld 6 true (.t 17)), m 61 18, m 62 19, c 63 14 [.t 60, .t
  61, .t 62], m 59 63, o 64 (.ext (.t 59) 0), o 65 (.ext (.t 59) 1), o 22 (.alloc [z, z, z, .sl 0 true [] [], z, z]), u (.st 6 (.t 22) (.t 64)), m 23 65]) (.seq (.seq (.reg 9 [m 66
  21, o 67 (.bin .neq .int (.t 66) (i 0)), m 68 67, v 69 68 (.mv (.t 23)), v 70 68 (.bin .neq .int (.t 69) (i 0)), o 71 (.pick (.t 68) tt (.t 70))]) (.cond (.t 71) (.seq (.reg 10
  [o 73 (.fa 3 (.t 16)), o 74 (.ld 1 false (.t 73)), m 75 18, m 76 19, c 77 15 [.t 74, .t 75, .t 76], m 72 77, o 78 (.ext (.t 72) 0), o 79 (.ext (.t 72) 1), m 24 78, m 25 79])
  (.seq (.reg 11 [o 81 (.fa 3 (.t 17)), o 82 (.ld 1 false (.t 81)), m 83 18, m 84 19, c 85 15 [.t 82, .t 83, .t 84], m 80 85, o 86 (.ext (.t 80) 0), o 87 (.ext (.t 80) 1), m 26 86,
  m 27 87]) (.seq (.reg 12 [m 88 21, o 89 (.bin .eql .int (.t 88) (i 0)), m 90 25, o 91 (.bin .eql .int (.t 90) (i 0)), o 92 (.bin .eql .bool (.t 89) (.t 91)), m 93 92, w 94 93
  (.mv (.t 23)), w 95 93 (.bin .eql .int (.t 94) (i 0)), w 96 93 (.mv (.t 27)), w 97 93 (.bin .eql .int (.t 96) (i 0)), w 98 93 (.bin .eql .bool (.t 95) (.t 97)), o 99 (.pick (.t
  93) (.t 98) ff), m 14 99]) .ret))) .nop)) (.seq (.reg 13 [o 101 (.ld 6 true (.t 16)), o 102 (.ld 6 true (.t 17)), c 103 16 [.t 101, .t 102], m 100 103, o 104 (.ext (.t 100) 0), o
  105 (.ext (.t 100) 1), o 28 (.alloc [z, z, z, z, z, z, z, z]), u (.st 8 (.t 28) (.t 104)), m 29 105]) (.seq (.reg 14 [o 107 (.ld 6 true (.t 20)), o 108 (.ld 6 true (.t 22)), c
  109 16 [.t 107, .t 108], m 106 109, o 110 (.ext (.t 106) 0), o 111 (.ext (.t 106) 1), o 30 (.alloc [z, z, z, z, z, z, z, z]), u (.st 8 (.t 30) (.t 110)), m 31 111]) (.seq (.seq
  (.reg 15 [m 112 29]) (.cond (.t 112) (.reg 16 [o 113 (.fa 2 (.t 28)), o 114 (.fa 0 (.t 113)), o 115 (.fa 0 (.t 114)), o 116 (.ld 1 false (.t 115)), m 117 18, o 118 (.bin .add
  .int (.t 116) (.t 117)), o 119 (.fa 2 (.t 28)), o 120 (.fa 0 (.t 119)), o 121 (.fa 1 (.t 120)), o 122 (.ld 1 false (.t 121)), m 123 19, o 124 (.bin .add .int (.t 122) (.t 123)),
  o 125 (.build [z, z] [(0, 1, .t 118), (1, 1, .t 124)]), o 126 (.fa 2 (.t 28)), o 127 (.fa 2 (.t 126)), o 128 (.fa 0 (.t 127)), o 129 (.ld 1 false (.t 128)), m 130 18, o 131 (.bin
  .add .int (.t 129) (.t 130)), o 132 (.fa 2 (.t 28)), o 133 (.fa 2 (.t 132)), o 134 (.fa 1 (.t 133)), o 135 (.ld 1 false (.t 134)), m 136 19, o 137 (.bin .add .int (.t 135) (.t
  136)), o 138 (.build [z, z] [(0, 1, .t 131), (1, 1, .t 137)]), o 139 (.build [z, z, z, z] [(0, 2, .t 125), (2, 2, .t 138)]), o 140 (.fa 2 (.t 28)), u (.st 4 (.t 140) (.t 139))])
  .nop)) (.seq (.reg 17 [o 142 (.ld 6 true (.t 20)), m 143 18, o 144 (.un .neg (.t 143)), m 145 19, o 146 (.un .neg (.t 145)), c 147 14 [.t 142, .t 144, .t 146], m 141 147, o 148
  (.ext (.t 141) 0), o 149 (.ext (.t 141) 1), o 32 (.alloc [z, z, z, .sl 0 true [] [], z, z]), u (.st 6 (.t 32) (.t 148)), m 33 149]) (.seq (.drw 18 [m 150 33, o 151 (.bin .eql
  .int (.t 150) (i 0)), m 152 151, w 153 152 (.ld 6 true (.t 32)), w 154 152 (.ld 6 true (.t 16)), w 155 152 (.call 17 [.t 153, .t 154]), o 156 (.pick (.t 152) (.t 155) ff), m 157
  156, w 158 157 (.ld 6 true (.t 20)), w 159 157 (.call 18 [.t 158]), w 160 157 (.ld 6 true (.t 16)), w 161 157 (.call 18 [.t 160]), w 162 157 (.bin .eql .int (.t 159) (.t 161)), o
  163 (.pick (.t 157) (.t 162) ff), m 164 163, w 165 164 (.ld 6 true (.t 20)), w 166 164 (.call 11 [.t 165]), w 167 164 (.ld 6 true (.t 16)), w 168 164 (.call 11 [.t 167]), w 169
  164 (.bin .eql .int (.t 166) (.t 168)), o 170 (.pick (.t 164) (.t 169) ff), m 171 170, w 172 171 (.ld 6 true (.t 20)), w 173 171 (.call 12 [.t 172]), w 174 171 (.ld 6 true (.t
  16)), w 175 171 (.call 12 [.t 174]), w 176 171 (.mv (.t 18)), w 177 171 (.ld 6 true (.t 16)), w 178 171 (.call 11 [.t 177]), w 179 171 (.bin .mul .int (.t 176) (.t 178)), w 180
  171 (.bin .add .int (.t 175) (.t 179)), w 181 171 (.bin .eql .int (.t 173) (.t 180)), o 182 (.pick (.t 171) (.t 181) ff), m 183 182, w 184 183 (.mv (.t 29)), w 185 183 (.mv (.t
  31)), w 186 183 (.bin .eql .bool (.t 184) (.t 185)), o 187 (.pick (.t 183) (.t 186) ff), m 188 187, w 189 188 (.ld 8 true (.t 28)), w 190 188 (.ld 8 true (.t 30)), w 191 188
  (.bin .eql (.cells [true, true, true, true, true, true, true, true]) (.t 189) (.t 190)), o 192 (.pick (.t 188) (.t 191) ff), m 193 192, w 194 193 (.ld 6 true (.t 16)), w 195 193
  (.ld 6 true (.t 17)), w 196 193 (.call 19 [.t 194, .t 195]), w 197 193 (.ld 6 true (.t 20)), w 198 193 (.ld 6 true (.t 22)), w 199 193 (.call 19 [.t 197, .t 198]), w 200 193
  (.bin .eql .bool (.t 196) (.t 199)), o 201 (.pick (.t 193) (.t 200) ff), m 14 201] [(9, 10), (16, 17), (23, 24), (23, 27), (25, 27), (46, 47), (46, 48)]) .ret)))))))))))))
def rv4 : List RV := [(.t 14)]
theorem ok4 : cFun Tryd.prog Tryd.f4 = some (ac4, rv4) := by kernel_rfl
theorem nt4 : Tryd.f4.ntmps = 202 := by kernel_rfl
theorem of4 : okF Tryd.prog 4 := ⟨Tryd.f4, Tryd.func4, by kernel_rfl, by kernel_rfl⟩

end Go.Proofs.YtdabfcbelkjmgaaDoor.Am
