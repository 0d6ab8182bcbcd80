/-
  What the machine makes of the functions: its own texts of them, and that they are that.
-/
import Derived.Test.YtojciffnkbfbhaaA5
import Derived.Test.YtojciffnkbfbhaaProg
namespace Go.Proofs.Ytojciffnkbfbhaa.Am
set_option linter.unusedSimpArgs false
set_option linter.unusedVariables false
open Go C
set_option maxRecDepth 100000
/- putlog/putloglaw07.PlaneMoves -/
def ac8 : AC := .seq (.reg 0 [o 10 (.mv ff)]) (.seq (.reg 1 [c 41 10 [], m 11 41]) (.seq (.seq (.reg 2 [m 42 11, o 43 (.un .not (.t 42))]) (.cond (.t 43) (.seq (.reg 3 [o 10 (.mv ff)]) .ret)
  .nop)) (.seq (.reg 4 [m 45 0, m 46 1, m 47 2, c 48 11 [.t 45, .t 46, .t 47], m 44 48, o 49 (.ext (.t 44) 0), o 50 (.ext (.t 44) 1), m 12 49, m 13 50]) (.seq (.reg 5 [m 51 3, c 52
  21 [.t 51, i 81], o 53 (.bin .sub .int (.t 52) (i 40)), m 3 53]) (.seq (.reg 6 [m 54 4, c 55 21 [.t 54, i 81], o 56 (.bin .sub .int (.t 55) (i 40)), m 4 56]) (.seq (.reg 7 [m 58
  12, m 59 3, m 60 4, c 61 30 [.t 58, .t 59, .t 60], m 57 61, o 62 (.ext (.t 57) 0), o 63 (.ext (.t 57) 1), m 14 62, m 15 63]) (.seq (.reg 8 [m 65 13, m 66 3, m 67 4, c 68 30 [.t
  65, .t 66, .t 67], m 64 68, o 69 (.ext (.t 64) 0), o 70 (.ext (.t 64) 1), m 16 69, m 17 70]) (.seq (.reg 9 [o 18 (.mv ff)]) (.seq (.seq (.reg 10 [o 19 (.mv (i 0))]) (.block 0
  (.loop (.seq (.seq (.reg 11 [m 71 19, m 72 12, o 73 (.len (.t 72)), o 74 (.bin .lss .int (.t 71) (.t 73))]) (.cond (.t 74) .nop (.exit 0))) (.seq (.block 1 (.drw 13 [m 77 18, m
  78 77, v 79 78 (.mv (.t 12)), v 80 78 (.mv (.t 19)), v 81 78 (.ia 2 (.t 79) (.t 80)), v 82 78 (.fa 0 (.t 81)), v 83 78 (.ld 1 false (.t 82)), v 84 78 (.mv (.t 3)), v 85 78 (.bin
  .add .int (.t 83) (.t 84)), v 86 78 (.mv (.t 12)), v 87 78 (.mv (.t 19)), v 88 78 (.ia 2 (.t 86) (.t 87)), v 89 78 (.fa 1 (.t 88)), v 90 78 (.ld 1 false (.t 89)), v 91 78 (.mv
  (.t 4)), v 92 78 (.bin .add .int (.t 90) (.t 91)), v 93 78 (.call 18 [.t 85, .t 92]), v 94 78 (.call 31 [.t 93]), v 95 78 (.un .not (.t 94)), o 96 (.pick (.t 78) tt (.t 95)), m
  18 96] [])) (.reg 12 [m 75 19, o 76 (.bin .add .int (.t 75) (i 1)), m 19 76])))))) (.seq (.seq (.reg 14 [m 97 18, m 98 15, o 99 (.bin .eql .int (.t 98) (i 70)), o 100 (.bin .neq
  .bool (.t 97) (.t 99)), m 101 100, v 102 101 (.mv (.t 15)), v 103 101 (.bin .neq .int (.t 102) (i 0)), v 104 101 (.mv (.t 103)), w 105 104 (.mv (.t 15)), w 106 104 (.bin .neq
  .int (.t 105) (i 70)), v 107 101 (.pick (.t 104) (.t 106) ff), o 108 (.pick (.t 101) tt (.t 107))]) (.cond (.t 108) (.seq (.reg 15 [o 10 (.mv ff)]) .ret) .nop)) (.seq (.seq (.reg
  16 [m 109 15, o 110 (.bin .neq .int (.t 109) (i 0)), m 111 110, v 112 111 (.mv (.t 17)), v 113 111 (.bin .neq .int (.t 112) (i 0)), o 114 (.pick (.t 111) tt (.t 113))]) (.cond
  (.t 114) (.seq (.reg 17 [m 115 11, m 10 115]) .ret) .nop)) (.seq (.reg 18 [m 117 14, m 118 3, o 119 (.un .neg (.t 118)), m 120 4, o 121 (.un .neg (.t 120)), c 122 30 [.t 117, .t
  119, .t 121], m 116 122, o 123 (.ext (.t 116) 0), o 124 (.ext (.t 116) 1), m 20 123, m 21 124]) (.seq (.reg 19 [m 126 12, c 127 25 [.t 126], m 125 127, o 128 (.ext (.t 125) 0), o
  129 (.ext (.t 125) 1), m 22 128, m 23 129]) (.seq (.reg 20 [m 131 14, c 132 25 [.t 131], m 130 132, o 133 (.ext (.t 130) 0), o 134 (.ext (.t 130) 1), m 24 133, m 25 134]) (.seq
  (.reg 21 [m 136 12, c 137 16 [.t 136], m 135 137, o 138 (.ext (.t 135) 0), o 139 (.ext (.t 135) 1), m 26 138, m 27 139]) (.seq (.reg 22 [m 141 14, c 142 16 [.t 141], m 140 142, o
  143 (.ext (.t 140) 0), o 144 (.ext (.t 140) 1), m 28 143, m 29 144]) (.seq (.reg 23 [m 145 12, c 146 20 [.t 145], m 30 146]) (.seq (.seq (.reg 24 [m 147 21, o 148 (.bin .neq .int
  (.t 147) (i 0)), m 149 148, v 150 149 (.mv (.t 20)), v 151 149 (.mv (.t 12)), v 152 149 (.call 32 [.t 150, .t 151]), v 153 149 (.un .not (.t 152)), o 154 (.pick (.t 149) tt (.t
  153)), m 155 154, v 156 155 (.mv (.t 14)), v 157 155 (.call 20 [.t 156]), v 158 155 (.mv (.t 30)), v 159 155 (.bin .neq .int (.t 157) (.t 158)), o 160 (.pick (.t 155) tt (.t
  159)), m 161 160, v 162 161 (.mv (.t 24)), v 163 161 (.mv (.t 22)), v 164 161 (.mv (.t 3)), v 165 161 (.bin .mul .int (i 3) (.t 164)), v 166 161 (.mv (.t 30)), v 167 161 (.bin
  .mul .int (.t 165) (.t 166)), v 168 161 (.bin .add .int (.t 163) (.t 167)), v 169 161 (.bin .neq .int (.t 162) (.t 168)), o 170 (.pick (.t 161) tt (.t 169)), m 171 170, v 172 171
  (.mv (.t 25)), v 173 171 (.mv (.t 23)), v 174 171 (.mv (.t 4)), v 175 171 (.bin .mul .int (i 3) (.t 174)), v 176 171 (.mv (.t 30)), v 177 171 (.bin .mul .int (.t 175) (.t 176)),
  v 178 171 (.bin .add .int (.t 173) (.t 177)), v 179 171 (.bin .neq .int (.t 172) (.t 178)), o 180 (.pick (.t 171) tt (.t 179)), m 181 180, v 182 181 (.mv (.t 26)), v 183 181 (.mv
  (.t 28)), v 184 181 (.bin .neq .int (.t 182) (.t 183)), o 185 (.pick (.t 181) tt (.t 184)), m 186 185, v 187 186 (.mv (.t 27)), v 188 186 (.mv (.t 29)), v 189 186 (.bin .neq .int
  (.t 187) (.t 188)), o 190 (.pick (.t 186) tt (.t 189))]) (.cond (.t 190) (.seq (.reg 25 [o 10 (.mv ff)]) .ret) .nop)) (.seq (.reg 26 [m 192 12, m 193 13, c 194 23 [.t 192, .t
  193], m 191 194, o 195 (.ext (.t 191) 0), o 196 (.ext (.t 191) 1), o 31 (.alloc [z, z, z, z]), u (.st 4 (.t 31) (.t 195)), m 32 196]) (.seq (.reg 27 [m 198 14, m 199 16, c 200 23
  [.t 198, .t 199], m 197 200, o 201 (.ext (.t 197) 0), o 202 (.ext (.t 197) 1), o 33 (.alloc [z, z, z, z]), u (.st 4 (.t 33) (.t 201)), m 34 202]) (.seq (.reg 28 [m 204 12, m 205
  13, c 206 26 [.t 204, .t 205], m 203 206, o 207 (.ext (.t 203) 0), o 208 (.ext (.t 203) 1), o 209 (.ext (.t 203) 2), m 35 207, m 36 208, m 37 209]) (.seq (.reg 29 [m 211 14, m
  212 16, c 213 26 [.t 211, .t 212], m 210 213, o 214 (.ext (.t 210) 0), o 215 (.ext (.t 210) 1), o 216 (.ext (.t 210) 2), m 38 214, m 39 215, m 40 216]) (.seq (.seq (.reg 30 [m
  217 12, m 218 13, c 219 24 [.t 217, .t 218], m 220 14, m 221 16, c 222 24 [.t 220, .t 221], o 223 (.bin .neq .bool (.t 219) (.t 222)), m 224 223, v 225 224 (.mv (.t 32)), v 226
  224 (.mv (.t 34)), v 227 224 (.bin .neq .bool (.t 225) (.t 226)), o 228 (.pick (.t 224) tt (.t 227)), m 229 228, v 230 229 (.mv (.t 35)), v 231 229 (.mv (.t 38)), v 232 229 (.bin
  .neq .int (.t 230) (.t 231)), o 233 (.pick (.t 229) tt (.t 232)), m 234 233, v 235 234 (.mv (.t 36)), v 236 234 (.mv (.t 39)), v 237 234 (.bin .neq .int (.t 235) (.t 236)), o 238
  (.pick (.t 234) tt (.t 237)), m 239 238, v 240 239 (.mv (.t 37)), v 241 239 (.mv (.t 40)), v 242 239 (.bin .neq .bool (.t 240) (.t 241)), o 243 (.pick (.t 239) tt (.t 242))])
  (.cond (.t 243) (.seq (.reg 31 [o 10 (.mv ff)]) .ret) .nop)) (.seq (.drw 32 [m 244 32, o 245 (.un .not (.t 244)), m 246 245, v 247 246 (.ld 4 true (.t 33)), v 248 246 (.fa 0 (.t
  31)), v 249 246 (.fa 0 (.t 248)), v 250 246 (.ld 1 false (.t 249)), v 251 246 (.mv (.t 3)), v 252 246 (.bin .add .int (.t 250) (.t 251)), v 253 246 (.fa 0 (.t 31)), v 254 246
  (.fa 1 (.t 253)), v 255 246 (.ld 1 false (.t 254)), v 256 246 (.mv (.t 4)), v 257 246 (.bin .add .int (.t 255) (.t 256)), v 258 246 (.call 18 [.t 252, .t 257]), v 259 246 (.fa 2
  (.t 31)), v 260 246 (.fa 0 (.t 259)), v 261 246 (.ld 1 false (.t 260)), v 262 246 (.mv (.t 3)), v 263 246 (.bin .add .int (.t 261) (.t 262)), v 264 246 (.fa 2 (.t 31)), v 265 246
  (.fa 1 (.t 264)), v 266 246 (.ld 1 false (.t 265)), v 267 246 (.mv (.t 4)), v 268 246 (.bin .add .int (.t 266) (.t 267)), v 269 246 (.call 18 [.t 263, .t 268]), v 270 246 (.build
  [z, z, z, z] [(0, 2, .t 258), (2, 2, .t 269)]), v 271 246 (.bin .eql (.cells [true, true, true, true]) (.t 247) (.t 270)), o 272 (.pick (.t 246) tt (.t 271)), m 10 272] [(3, 14),
  (14, 17), (14, 22), (3, 25)]) .ret))))))))))))))))))))))))
def rv8 : List RV := [(.t 10)]
theorem ok8 : cFun Try.prog Try.f8 = some (ac8, rv8) := by kernel_rfl
theorem nt8 : Try.f8.ntmps = 273 := by kernel_rfl
theorem of8 : okF Try.prog 8 := ⟨Try.f8, Try.func8, by kernel_rfl, by kernel_rfl⟩

end Go.Proofs.Ytojciffnkbfbhaa.Am
