/-
  What the machine makes of the functions: its own texts of them, and that they are that.
-/
import Derived.Test.YtojciffnkbfbhaaA5
import Derived.Test.YtojciffnkbfbhaaProg
namespace Go.Proofs.Ytojciffnkbfbhaa.Am
set_option linter.unusedSimpArgs false
set_option linter.unusedVariables false
open Go C
set_option maxRecDepth 100000
/- putlog/putloglaw07.PlaneMatchesReference -/
def ac3 : AC := .seq (.reg 0 [o 16 (.box 3 (.t 5)), o 17 (.box 2 (.t 6)), o 22 (.mv ff)]) (.seq (.reg 1 [c 29 10 [], m 23 29]) (.seq (.seq (.reg 2 [m 30 23, o 31 (.un .not (.t 30))]) (.cond (.t
  31) (.seq (.reg 3 [o 22 (.mv ff)]) .ret) .nop)) (.seq (.reg 4 [m 33 0, m 34 1, m 35 2, c 36 11 [.t 33, .t 34, .t 35], m 32 36, o 37 (.ext (.t 32) 0), o 38 (.ext (.t 32) 1), m 24
  37, m 25 38]) (.seq (.reg 5 [m 39 3, m 40 3, o 41 (.len (.t 40)), o 42 (.mm false [.t 41, i 9]), o 43 (.slc 2 (.t 39) none (some (.t 42)) none), m 3 43]) (.seq (.reg 6 [m 44 4, m
  45 4, o 46 (.len (.t 45)), o 47 (.mm false [.t 46, i 9]), o 48 (.slc 2 (.t 44) none (some (.t 47)) none), m 4 48]) (.seq (.reg 7 [m 49 24, o 50 (.iaA 3 1 (.t 16) (i 0)), o 51
  (.ld 1 false (.t 50)), o 52 (.iaA 3 1 (.t 16) (i 1)), o 53 (.ld 1 false (.t 52)), o 54 (.iaA 3 1 (.t 16) (i 2)), o 55 (.ld 1 false (.t 54)), c 56 12 [.t 49, .t 51, .t 53, .t 55],
  m 26 56]) (.seq (.seq (.reg 8 [m 57 24, m 58 25, m 59 26, m 60 3, o 61 (.bsl 1 4 [.sl 0 true [] []] [(0, .t 57), (1, .t 58), (2, .t 59), (3, .t 60)]), o 62 (.len (.t 61)), o 63
  (.mv (i 0))]) (.block 0 (.loop (.seq (.reg 9 [o 64 (.bin .lss .int (.t 63) (.t 62))]) (.seq (.cond (.t 64) .nop (.exit 0)) (.seq (.block 1 (.seq (.reg 10 [o 65 (.ia 1 (.t 61) (.t
  63)), o 66 (.ld 1 false (.t 65)), m 28 66]) (.seq (.reg 11 [m 67 28, o 68 (.ld 2 true (.t 17)), m 69 7, m 70 8, m 71 9, m 72 10, c 73 13 [.t 67, .t 68, .t 69, .t 70, .t 71, .t
  72], o 74 (.un .not (.t 73)), m 75 74, v 76 75 (.mv (.t 24)), v 77 75 (.mv (.t 28)), v 78 75 (.call 14 [.t 76, .t 77]), v 79 75 (.un .not (.t 78)), o 80 (.pick (.t 75) tt (.t
  79)), m 81 80, v 82 81 (.mv (.t 28)), v 83 81 (.mv (.t 25)), v 84 81 (.call 14 [.t 82, .t 83]), v 85 81 (.un .not (.t 84)), o 86 (.pick (.t 81) tt (.t 85))]) (.cond (.t 86) (.seq
  (.reg 12 [o 22 (.mv ff)]) .ret) .nop)))) (.reg 13 [o 87 (.bin .add .int (.t 63) (i 1)), m 63 87]))))))) (.seq (.reg 14 [m 88 23, m 89 88, w 90 89 (.mv (.t 3)), w 91 89 (.mv (.t
  4)), w 92 89 (.call 14 [.t 90, .t 91]), o 93 (.pick (.t 89) (.t 92) ff), m 94 93, w 95 94 (.mv (.t 4)), w 96 94 (.mv (.t 3)), w 97 94 (.call 14 [.t 95, .t 96]), o 98 (.pick (.t
  94) (.t 97) ff), m 22 98]) .ret))))))))
def rv3 : List RV := [(.t 22)]
theorem ok3 : cFun Try.prog Try.f3 = some (ac3, rv3) := by kernel_rfl
theorem nt3 : Try.f3.ntmps = 99 := by kernel_rfl
theorem of3 : okF Try.prog 3 := ⟨Try.f3, Try.func3, by kernel_rfl, by kernel_rfl⟩

/- putlog/putloglaw07.one -/
def ac13 : AC := .seq (.reg 0 [o 7 (.box 2 (.t 1)), o 12 (.mv ff)]) (.seq (.reg 1 [m 38 0, c 39 25 [.t 38], m 37 39, o 40 (.ext (.t 37) 0), o 41 (.ext (.t 37) 1), m 13 40, m 14 41]) (.seq (.reg 2
  [m 43 0, c 44 35 [.t 43], m 42 44, o 45 (.ext (.t 42) 0), o 46 (.ext (.t 42) 1), m 15 45, m 16 46]) (.seq (.reg 3 [m 48 0, c 49 16 [.t 48], m 47 49, o 50 (.ext (.t 47) 0), o 51
  (.ext (.t 47) 1), m 17 50, m 18 51]) (.seq (.reg 4 [m 53 0, c 54 36 [.t 53], m 52 54, o 55 (.ext (.t 52) 0), o 56 (.ext (.t 52) 1), m 19 55, m 20 56]) (.seq (.seq (.reg 5 [m 57
  0, c 58 19 [.t 57], m 59 0, c 60 37 [.t 59], o 61 (.bin .neq .bool (.t 58) (.t 60)), m 62 61, v 63 62 (.mv (.t 0)), v 64 62 (.call 20 [.t 63]), v 65 62 (.mv (.t 0)), v 66 62
  (.call 38 [.t 65]), v 67 62 (.bin .neq .int (.t 64) (.t 66)), o 68 (.pick (.t 62) tt (.t 67)), m 69 68, v 70 69 (.mv (.t 13)), v 71 69 (.mv (.t 15)), v 72 69 (.bin .neq .int (.t
  70) (.t 71)), o 73 (.pick (.t 69) tt (.t 72)), m 74 73, v 75 74 (.mv (.t 14)), v 76 74 (.mv (.t 16)), v 77 74 (.bin .neq .int (.t 75) (.t 76)), o 78 (.pick (.t 74) tt (.t 77)), m
  79 78, v 80 79 (.mv (.t 17)), v 81 79 (.mv (.t 19)), v 82 79 (.bin .neq .int (.t 80) (.t 81)), o 83 (.pick (.t 79) tt (.t 82)), m 84 83, v 85 84 (.mv (.t 18)), v 86 84 (.mv (.t
  20)), v 87 84 (.bin .neq .int (.t 85) (.t 86)), o 88 (.pick (.t 84) tt (.t 87))]) (.cond (.t 88) (.seq (.reg 6 [o 12 (.mv ff)]) .ret) .nop)) (.seq (.seq (.drw 7 [o 89 (.ld 2 true
  (.t 7)), o 90 (.fa 0 (.t 7)), o 91 (.ld 1 false (.t 90)), c 92 21 [.t 91, i 41], o 93 (.fa 1 (.t 7)), o 94 (.ld 1 false (.t 93)), c 95 21 [.t 94, i 41], c 96 18 [.t 92, .t 95], o
  97 (.bsl 2 2 [z, z] [(0, .t 89), (1, .t 96)]), o 98 (.len (.t 97)), o 99 (.mv (i 0))] [(0, 3), (3, 5), (0, 6), (0, 7)]) (.block 0 (.loop (.seq (.reg 8 [o 100 (.bin .lss .int (.t
  99) (.t 98))]) (.seq (.cond (.t 100) .nop (.exit 0)) (.seq (.block 1 (.seq (.reg 9 [o 101 (.ia 2 (.t 97) (.t 99)), o 102 (.ld 2 true (.t 101)), o 22 (.alloc [z, z]), u (.st 2 (.t
  22) (.t 102))]) (.seq (.drw 10 [m 103 0, o 104 (.ld 2 true (.t 22)), c 105 17 [.t 103, .t 104], m 106 0, o 107 (.ld 2 true (.t 22)), c 108 39 [.t 106, .t 107], o 109 (.bin .neq
  .int (.t 105) (.t 108)), m 110 109, v 111 110 (.mv (.t 0)), v 112 110 (.fa 0 (.t 22)), v 113 110 (.ld 1 false (.t 112)), v 114 110 (.fa 1 (.t 22)), v 115 110 (.ld 1 false (.t
  114)), v 116 110 (.call 27 [.t 111, .t 113, .t 115]), v 117 110 (.mv (.t 0)), v 118 110 (.fa 0 (.t 22)), v 119 110 (.ld 1 false (.t 118)), v 120 110 (.fa 1 (.t 22)), v 121 110
  (.ld 1 false (.t 120)), v 122 110 (.call 40 [.t 117, .t 119, .t 121]), v 123 110 (.bin .neq .int (.t 116) (.t 122)), o 124 (.pick (.t 110) tt (.t 123))] [(2, 4), (13, 16), (13,
  18)]) (.cond (.t 124) (.seq (.reg 11 [o 12 (.mv ff)]) .ret) .nop)))) (.reg 12 [o 125 (.bin .add .int (.t 99) (i 1)), m 99 125]))))))) (.seq (.seq (.reg 13 [m 126 2, m 127 3, o
  128 (.build [z, z] [(0, 1, .t 126), (1, 1, .t 127)]), m 129 2, m 130 0, o 131 (.len (.t 130)), o 132 (.bin .add .int (.t 131) (i 1)), c 133 21 [.t 129, .t 132], m 134 3, m 135 0,
  o 136 (.len (.t 135)), o 137 (.bin .add .int (.t 136) (i 1)), c 138 21 [.t 134, .t 137], o 139 (.build [z, z] [(0, 1, .t 133), (1, 1, .t 138)]), o 140 (.bsl 2 2 [z, z] [(0, .t
  128), (1, .t 139)]), o 141 (.len (.t 140)), o 142 (.mv (i 0))]) (.block 2 (.loop (.seq (.reg 14 [o 143 (.bin .lss .int (.t 142) (.t 141))]) (.seq (.cond (.t 143) .nop (.exit 2))
  (.seq (.block 3 (.seq (.reg 15 [o 144 (.ia 2 (.t 140) (.t 142)), o 145 (.ld 2 true (.t 144)), o 24 (.alloc [z, z]), u (.st 2 (.t 24) (.t 145))]) (.seq (.reg 16 [m 147 0, o 148
  (.iaA 2 1 (.t 24) (i 0)), o 149 (.ld 1 false (.t 148)), o 150 (.iaA 2 1 (.t 24) (i 1)), o 151 (.ld 1 false (.t 150)), c 152 22 [.t 147, .t 149, .t 151], m 146 152, o 153 (.ext
  (.t 146) 0), o 154 (.ext (.t 146) 1), o 155 (.ext (.t 146) 2), m 25 153, m 26 154, m 27 155]) (.seq (.reg 17 [m 157 0, o 158 (.iaA 2 1 (.t 24) (i 0)), o 159 (.ld 1 false (.t
  158)), o 160 (.iaA 2 1 (.t 24) (i 1)), o 161 (.ld 1 false (.t 160)), c 162 34 [.t 157, .t 159, .t 161], m 156 162, o 163 (.ext (.t 156) 0), o 164 (.ext (.t 156) 1), o 165 (.ext
  (.t 156) 2), m 28 163, m 29 164, m 30 165]) (.seq (.reg 18 [m 166 27, m 167 30, o 168 (.bin .neq .int (.t 166) (.t 167)), m 169 168, v 170 169 (.mv (.t 25)), v 171 169 (.mv (.t
  28)), v 172 169 (.call 32 [.t 170, .t 171]), v 173 169 (.un .not (.t 172)), o 174 (.pick (.t 169) tt (.t 173)), m 175 174, v 176 175 (.mv (.t 26)), v 177 175 (.mv (.t 29)), v 178
  175 (.call 32 [.t 176, .t 177]), v 179 175 (.un .not (.t 178)), o 180 (.pick (.t 175) tt (.t 179))]) (.cond (.t 180) (.seq (.reg 19 [o 12 (.mv ff)]) .ret) .nop)))))) (.reg 20 [o
  181 (.bin .add .int (.t 142) (i 1)), m 142 181]))))))) (.seq (.seq (.reg 21 [m 182 4, m 183 5, o 184 (.build [z, z] [(0, 1, .t 182), (1, 1, .t 183)]), m 185 4, c 186 21 [.t 185,
  i 21], o 187 (.bin .sub .int (.t 186) (i 10)), m 188 5, c 189 21 [.t 188, i 21], o 190 (.bin .sub .int (.t 189) (i 10)), o 191 (.build [z, z] [(0, 1, .t 187), (1, 1, .t 190)]), o
  192 (.bsl 2 2 [z, z] [(0, .t 184), (1, .t 191)]), o 193 (.len (.t 192)), o 194 (.mv (i 0))]) (.block 4 (.loop (.seq (.reg 22 [o 195 (.bin .lss .int (.t 194) (.t 193))]) (.seq
  (.cond (.t 195) .nop (.exit 4)) (.seq (.block 5 (.seq (.reg 23 [o 196 (.ia 2 (.t 192) (.t 194)), o 197 (.ld 2 true (.t 196)), o 32 (.alloc [z, z]), u (.st 2 (.t 32) (.t 197))])
  (.seq (.reg 24 [m 199 0, o 200 (.iaA 2 1 (.t 32) (i 0)), o 201 (.ld 1 false (.t 200)), o 202 (.iaA 2 1 (.t 32) (i 1)), o 203 (.ld 1 false (.t 202)), c 204 30 [.t 199, .t 201, .t
  203], m 198 204, o 205 (.ext (.t 198) 0), o 206 (.ext (.t 198) 1), m 33 205, m 34 206]) (.seq (.reg 25 [m 208 0, o 209 (.iaA 2 1 (.t 32) (i 0)), o 210 (.ld 1 false (.t 209)), o
  211 (.iaA 2 1 (.t 32) (i 1)), o 212 (.ld 1 false (.t 211)), c 213 41 [.t 208, .t 210, .t 212], m 207 213, o 214 (.ext (.t 207) 0), o 215 (.ext (.t 207) 1), m 35 214, m 36 215])
  (.seq (.reg 26 [m 216 34, m 217 36, o 218 (.bin .neq .int (.t 216) (.t 217)), m 219 218, v 220 219 (.mv (.t 33)), v 221 219 (.mv (.t 35)), v 222 219 (.call 32 [.t 220, .t 221]),
  v 223 219 (.un .not (.t 222)), o 224 (.pick (.t 219) tt (.t 223))]) (.cond (.t 224) (.seq (.reg 27 [o 12 (.mv ff)]) .ret) .nop)))))) (.reg 28 [o 225 (.bin .add .int (.t 194) (i
  1)), m 194 225]))))))) (.seq (.reg 29 [o 12 (.mv tt)]) .ret)))))))))
def rv13 : List RV := [(.t 12)]
theorem ok13 : cFun Try.prog Try.f13 = some (ac13, rv13) := by kernel_rfl
theorem nt13 : Try.f13.ntmps = 226 := by kernel_rfl
theorem of13 : okF Try.prog 13 := ⟨Try.f13, Try.func13, by kernel_rfl, by kernel_rfl⟩

/- putlog/putloglaw07.two -/
def ac14 : AC := .seq (.reg 0 [o 4 (.mv ff)]) (.seq (.reg 1 [m 16 0, m 17 1, c 18 23 [.t 16, .t 17], m 15 18, o 19 (.ext (.t 15) 0), o 20 (.ext (.t 15) 1), o 5 (.alloc [z, z, z, z]), u (.st 4 (.t
  5) (.t 19)), m 6 20]) (.seq (.reg 2 [m 22 0, m 23 1, c 24 42 [.t 22, .t 23], m 21 24, o 25 (.ext (.t 21) 0), o 26 (.ext (.t 21) 1), o 7 (.alloc [z, z, z, z]), u (.st 4 (.t 7) (.t
  25)), m 8 26]) (.seq (.reg 3 [m 28 0, m 29 1, c 30 26 [.t 28, .t 29], m 27 30, o 31 (.ext (.t 27) 0), o 32 (.ext (.t 27) 1), o 33 (.ext (.t 27) 2), m 9 31, m 10 32, m 11 33])
  (.seq (.reg 4 [m 35 0, m 36 1, c 37 43 [.t 35, .t 36], m 34 37, o 38 (.ext (.t 34) 0), o 39 (.ext (.t 34) 1), o 40 (.ext (.t 34) 2), m 12 38, m 13 39, m 14 40]) (.seq (.reg 5 [m
  41 0, m 42 1, c 43 24 [.t 41, .t 42], m 44 0, m 45 1, c 46 44 [.t 44, .t 45], o 47 (.bin .eql .bool (.t 43) (.t 46)), m 48 47, w 49 48 (.mv (.t 6)), w 50 48 (.mv (.t 8)), w 51 48
  (.bin .eql .bool (.t 49) (.t 50)), o 52 (.pick (.t 48) (.t 51) ff), m 53 52, w 54 53 (.ld 4 true (.t 5)), w 55 53 (.ld 4 true (.t 7)), w 56 53 (.bin .eql (.cells [true, true,
  true, true]) (.t 54) (.t 55)), o 57 (.pick (.t 53) (.t 56) ff), m 58 57, w 59 58 (.mv (.t 9)), w 60 58 (.mv (.t 12)), w 61 58 (.bin .eql .int (.t 59) (.t 60)), o 62 (.pick (.t
  58) (.t 61) ff), m 63 62, w 64 63 (.mv (.t 10)), w 65 63 (.mv (.t 13)), w 66 63 (.bin .eql .int (.t 64) (.t 65)), o 67 (.pick (.t 63) (.t 66) ff), m 68 67, w 69 68 (.mv (.t 11)),
  w 70 68 (.mv (.t 14)), w 71 68 (.bin .eql .bool (.t 69) (.t 70)), o 72 (.pick (.t 68) (.t 71) ff), m 4 72]) .ret)))))
def rv14 : List RV := [(.t 4)]
theorem ok14 : cFun Try.prog Try.f14 = some (ac14, rv14) := by kernel_rfl
theorem nt14 : Try.f14.ntmps = 73 := by kernel_rfl
theorem of14 : okF Try.prog 14 := ⟨Try.f14, Try.func14, by kernel_rfl, by kernel_rfl⟩

end Go.Proofs.Ytojciffnkbfbhaa.Am
