/-
  What the machine makes of the functions: its own texts of them, and that they are that.
-/
import Derived.Test.YtojciffnkbfbhaaA5
import Derived.Test.YtojciffnkbfbhaaProg
namespace Go.Proofs.Ytojciffnkbfbhaa.Am
set_option linter.unusedSimpArgs false
set_option linter.unusedVariables false
open Go C
set_option maxRecDepth 100000
/- putlog/putloglaw07.PlaneCuts -/
def ac5 : AC := .seq (.reg 0 [o 10 (.mv ff)]) (.seq (.reg 1 [c 28 10 [], m 11 28]) (.seq (.seq (.reg 2 [m 29 11, o 30 (.un .not (.t 29))]) (.cond (.t 30) (.seq (.reg 3 [o 10 (.mv ff)]) .ret)
  .nop)) (.seq (.reg 4 [m 31 0, c 32 15 [.t 31, i 0, i 40], m 12 32]) (.seq (.reg 5 [m 33 1, m 34 12, o 35 (.len (.t 34)), c 36 21 [.t 33, .t 35], m 1 36]) (.seq (.reg 6 [m 37 2, m
  38 12, o 39 (.len (.t 38)), c 40 21 [.t 37, .t 39], m 2 40]) (.seq (.reg 7 [m 42 12, m 43 1, m 44 2, c 45 22 [.t 42, .t 43, .t 44], m 41 45, o 46 (.ext (.t 41) 0), o 47 (.ext (.t
  41) 1), o 48 (.ext (.t 41) 2), m 13 46, m 14 47, m 15 48]) (.seq (.seq (.reg 8 [m 49 1, m 50 2, o 51 (.bin .eql .int (.t 49) (.t 50)), m 52 51, v 53 52 (.mv (.t 1)), v 54 52
  (.bin .add .int (.t 53) (i 1)), v 55 52 (.mv (.t 12)), v 56 52 (.len (.t 55)), v 57 52 (.bin .rem .int (.t 54) (.t 56)), v 58 52 (.mv (.t 2)), v 59 52 (.bin .eql .int (.t 57) (.t
  58)), o 60 (.pick (.t 52) tt (.t 59)), m 61 60, v 62 61 (.mv (.t 2)), v 63 61 (.bin .add .int (.t 62) (i 1)), v 64 61 (.mv (.t 12)), v 65 61 (.len (.t 64)), v 66 61 (.bin .rem
  .int (.t 63) (.t 65)), v 67 61 (.mv (.t 1)), v 68 61 (.bin .eql .int (.t 66) (.t 67)), o 69 (.pick (.t 61) tt (.t 68))]) (.cond (.t 69) (.seq (.reg 9 [m 70 15, o 71 (.bin .eql
  .int (.t 70) (i 70)), m 72 71, w 73 72 (.mv (.t 13)), w 74 72 (.len (.t 73)), w 75 72 (.bin .eql .int (.t 74) (i 0)), o 76 (.pick (.t 72) (.t 75) ff), m 77 76, w 78 77 (.mv (.t
  14)), w 79 77 (.len (.t 78)), w 80 77 (.bin .eql .int (.t 79) (i 0)), o 81 (.pick (.t 77) (.t 80) ff), m 10 81]) .ret) .nop)) (.seq (.reg 10 [m 83 13, m 84 14, c 85 23 [.t 83, .t
  84], m 82 85, o 86 (.ext (.t 82) 0), o 87 (.ext (.t 82) 1), o 16 (.alloc [z, z, z, z]), u (.st 4 (.t 16) (.t 86)), m 17 87]) (.seq (.seq (.drw 11 [m 88 15, o 89 (.bin .neq .int
  (.t 88) (i 0)), m 90 89, v 91 90 (.mv (.t 13)), v 92 90 (.call 19 [.t 91]), v 93 90 (.un .not (.t 92)), o 94 (.pick (.t 90) tt (.t 93)), m 95 94, v 96 95 (.mv (.t 14)), v 97 95
  (.call 19 [.t 96]), v 98 95 (.un .not (.t 97)), o 99 (.pick (.t 95) tt (.t 98)), m 100 99, v 101 100 (.mv (.t 13)), v 102 100 (.len (.t 101)), v 103 100 (.mv (.t 14)), v 104 100
  (.len (.t 103)), v 105 100 (.bin .add .int (.t 102) (.t 104)), v 106 100 (.mv (.t 12)), v 107 100 (.len (.t 106)), v 108 100 (.bin .add .int (.t 107) (i 2)), v 109 100 (.bin .neq
  .int (.t 105) (.t 108)), o 110 (.pick (.t 100) tt (.t 109)), m 111 110, v 112 111 (.mv (.t 13)), v 113 111 (.mv (.t 14)), v 114 111 (.call 24 [.t 112, .t 113]), o 115 (.pick (.t
  111) tt (.t 114)), m 116 115, v 117 116 (.mv (.t 17)), v 118 116 (.un .not (.t 117)), o 119 (.pick (.t 116) tt (.t 118)), m 120 119, v 121 120 (.ld 4 true (.t 16)), v 122 120
  (.mv (.t 12)), v 123 120 (.mv (.t 2)), v 124 120 (.ia 2 (.t 122) (.t 123)), v 125 120 (.ld 2 true (.t 124)), v 126 120 (.mv (.t 12)), v 127 120 (.mv (.t 1)), v 128 120 (.ia 2 (.t
  126) (.t 127)), v 129 120 (.ld 2 true (.t 128)), v 130 120 (.build [z, z, z, z] [(0, 2, .t 125), (2, 2, .t 129)]), v 131 120 (.bin .neq (.cells [true, true, true, true]) (.t 121)
  (.t 130)), o 132 (.pick (.t 120) tt (.t 131))] []) (.cond (.t 132) (.seq (.reg 12 [o 10 (.mv ff)]) .ret) .nop)) (.seq (.reg 13 [m 134 13, c 135 25 [.t 134], m 133 135, o 136
  (.ext (.t 133) 0), o 137 (.ext (.t 133) 1), m 18 136, m 19 137]) (.seq (.reg 14 [m 139 14, c 140 25 [.t 139], m 138 140, o 141 (.ext (.t 138) 0), o 142 (.ext (.t 138) 1), m 20
  141, m 21 142]) (.seq (.reg 15 [m 144 12, c 145 25 [.t 144], m 143 145, o 146 (.ext (.t 143) 0), o 147 (.ext (.t 143) 1), m 22 146, m 23 147]) (.seq (.seq (.reg 16 [m 148 13, c
  149 20 [.t 148], m 150 14, c 151 20 [.t 150], o 152 (.bin .add .int (.t 149) (.t 151)), m 153 12, c 154 20 [.t 153], o 155 (.bin .neq .int (.t 152) (.t 154)), m 156 155, v 157
  156 (.mv (.t 18)), v 158 156 (.mv (.t 20)), v 159 156 (.bin .add .int (.t 157) (.t 158)), v 160 156 (.mv (.t 22)), v 161 156 (.bin .neq .int (.t 159) (.t 160)), o 162 (.pick (.t
  156) tt (.t 161)), m 163 162, v 164 163 (.mv (.t 19)), v 165 163 (.mv (.t 21)), v 166 163 (.bin .add .int (.t 164) (.t 165)), v 167 163 (.mv (.t 23)), v 168 163 (.bin .neq .int
  (.t 166) (.t 167)), o 169 (.pick (.t 163) tt (.t 168))]) (.cond (.t 169) (.seq (.reg 17 [o 10 (.mv ff)]) .ret) .nop)) (.seq (.reg 18 [m 170 3, c 171 21 [.t 170, i 41], m 172 4, c
  173 21 [.t 172, i 41], c 174 18 [.t 171, .t 173], o 24 (.alloc [z, z]), u (.st 2 (.t 24) (.t 174))]) (.seq (.reg 19 [m 175 13, o 176 (.ld 2 true (.t 24)), c 177 17 [.t 175, .t
  176], m 25 177]) (.seq (.reg 20 [m 178 14, o 179 (.ld 2 true (.t 24)), c 180 17 [.t 178, .t 179], m 26 180]) (.seq (.seq (.reg 21 [m 181 25, o 182 (.bin .eql .int (.t 181) (i
  1)), m 183 182, w 184 183 (.mv (.t 26)), w 185 183 (.bin .geq .int (.t 184) (i 0)), o 186 (.pick (.t 183) (.t 185) ff), m 187 186, v 188 187 (.mv (.t 26)), v 189 187 (.bin .eql
  .int (.t 188) (i 1)), v 190 187 (.mv (.t 189)), w 191 190 (.mv (.t 25)), w 192 190 (.bin .geq .int (.t 191) (i 0)), v 193 187 (.pick (.t 190) (.t 192) ff), o 194 (.pick (.t 187)
  tt (.t 193))]) (.cond (.t 194) (.seq (.reg 22 [o 10 (.mv ff)]) .ret) .nop)) (.seq (.drw 23 [m 195 25, o 196 (.bin .eql .int (.t 195) (i 0)), m 197 196, w 198 197 (.mv (.t 26)), w
  199 197 (.bin .eql .int (.t 198) (i 0)), o 200 (.pick (.t 197) (.t 199) ff), m 201 200, w 202 201 (.ld 2 true (.t 24)), w 203 201 (.mv (.t 12)), w 204 201 (.mv (.t 1)), w 205 201
  (.ia 2 (.t 203) (.t 204)), w 206 201 (.ld 2 true (.t 205)), w 207 201 (.bin .neq (.cells [true, true]) (.t 202) (.t 206)), o 208 (.pick (.t 201) (.t 207) ff), m 209 208, w 210
  209 (.ld 2 true (.t 24)), w 211 209 (.mv (.t 12)), w 212 209 (.mv (.t 2)), w 213 209 (.ia 2 (.t 211) (.t 212)), w 214 209 (.ld 2 true (.t 213)), w 215 209 (.bin .neq (.cells
  [true, true]) (.t 210) (.t 214)), o 216 (.pick (.t 209) (.t 215) ff), m 27 216] []) (.seq (.reg 24 [m 217 12, o 218 (.ld 2 true (.t 24)), c 219 17 [.t 217, .t 218], o 220 (.bin
  .eql .int (.t 219) (i 1)), m 221 25, o 222 (.bin .eql .int (.t 221) (i 1)), m 223 222, v 224 223 (.mv (.t 26)), v 225 223 (.bin .eql .int (.t 224) (i 1)), o 226 (.pick (.t 223)
  tt (.t 225)), m 227 226, v 228 227 (.mv (.t 27)), o 229 (.pick (.t 227) tt (.t 228)), o 230 (.bin .eql .bool (.t 220) (.t 229)), m 10 230]) .ret)))))))))))))))))))
def rv5 : List RV := [(.t 10)]
theorem ok5 : cFun Try.prog Try.f5 = some (ac5, rv5) := by kernel_rfl
theorem nt5 : Try.f5.ntmps = 231 := by kernel_rfl
theorem of5 : okF Try.prog 5 := ⟨Try.f5, Try.func5, by kernel_rfl, by kernel_rfl⟩

end Go.Proofs.Ytojciffnkbfbhaa.Am
