/-
  What the machine makes of the functions: its own texts of them, and that they are that.
-/
import Derived.Test.YtdabfcbelkjmgaaDoorA5
import Derived.Test.YtdabfcbelkjmgaaDoorProg
namespace Go.Proofs.YtdabfcbelkjmgaaDoor.Am
set_option linter.unusedSimpArgs false
set_option linter.unusedVariables false
open Go C
set_option maxRecDepth 100000
/- putlog/putloglaw08.UnitTouches -/
def ac7 : AC := .seq (.reg 0 [o 8 (.box 4 (.t 3)), o 9 (.box 4 (.t 4)), o 10 (.mv ff)]) (.seq (.reg 1 [c 21 9 [], m 11 21]) (.seq (.seq (.reg 2 [m 22 11, o 23 (.un .not (.t 22))]) (.cond (.t 23)
  (.seq (.reg 3 [o 10 (.mv ff)]) .ret) .nop)) (.seq (.reg 4 [m 25 0, m 26 1, m 27 2, o 28 (.ld 4 true (.t 8)), o 29 (.ld 4 true (.t 9)), c 30 10 [.t 25, .t 26, .t 27, .t 28, .t
  29], m 24 30, o 31 (.ext (.t 24) 0), o 32 (.ext (.t 24) 1), o 12 (.alloc [z, z, z, .sl 0 true [] [], z, z]), o 13 (.alloc [z, z, z, .sl 0 true [] [], z, z]), u (.st 6 (.t 12) (.t
  31)), u (.st 6 (.t 13) (.t 32))]) (.seq (.reg 5 [o 34 (.ld 6 true (.t 12)), o 35 (.ld 6 true (.t 13)), c 36 16 [.t 34, .t 35], m 33 36, o 37 (.ext (.t 33) 0), o 38 (.ext (.t 33)
  1), o 14 (.alloc [z, z, z, z, z, z, z, z]), u (.st 8 (.t 14) (.t 37)), m 15 38]) (.seq (.reg 6 [o 40 (.ld 6 true (.t 13)), o 41 (.ld 6 true (.t 12)), c 42 16 [.t 40, .t 41], m 39
  42, o 43 (.ext (.t 39) 0), o 44 (.ext (.t 39) 1), o 16 (.alloc [z, z, z, z, z, z, z, z]), u (.st 8 (.t 16) (.t 43)), m 17 44]) (.seq (.reg 7 [o 45 (.fa 1 (.t 16)), o 46 (.ld 1
  false (.t 45)), o 47 (.fa 0 (.t 16)), o 48 (.ld 1 false (.t 47)), o 49 (.fa 2 (.t 16)), o 50 (.fa 2 (.t 49)), o 51 (.ld 2 true (.t 50)), o 52 (.fa 2 (.t 16)), o 53 (.fa 0 (.t
  52)), o 54 (.ld 2 true (.t 53)), o 55 (.build [z, z, z, z] [(0, 2, .t 51), (2, 2, .t 54)]), o 56 (.fa 6 (.t 16)), o 57 (.ld 1 false (.t 56)), o 58 (.fa 7 (.t 16)), o 59 (.ld 1
  false (.t 58)), o 60 (.build [z, z, z, z, z, z, z, z] [(0, 1, .t 46), (1, 1, .t 48), (2, 4, .t 55), (6, 1, .t 57), (7, 1, .t 59)]), o 18 (.alloc [z, z, z, z, z, z, z, z]), u (.st
  8 (.t 18) (.t 60))]) (.seq (.seq (.drw 8 [m 61 15, m 62 17, o 63 (.bin .neq .bool (.t 61) (.t 62)), m 64 63, v 65 64 (.ld 6 true (.t 12)), v 66 64 (.ld 6 true (.t 13)), v 67 64
  (.call 19 [.t 65, .t 66]), v 68 64 (.ld 6 true (.t 13)), v 69 64 (.ld 6 true (.t 12)), v 70 64 (.call 19 [.t 68, .t 69]), v 71 64 (.bin .neq .bool (.t 67) (.t 70)), o 72 (.pick
  (.t 64) tt (.t 71)), m 73 72, v 74 73 (.mv (.t 15)), v 75 73 (.mv (.t 74)), w 76 75 (.ld 6 true (.t 12)), w 77 75 (.ld 6 true (.t 13)), w 78 75 (.call 19 [.t 76, .t 77]), v 79 73
  (.pick (.t 75) (.t 78) ff), o 80 (.pick (.t 73) tt (.t 79))] [(6, 7), (6, 8)]) (.cond (.t 80) (.seq (.reg 9 [o 10 (.mv ff)]) .ret) .nop)) (.seq (.seq (.reg 10 [m 81 15, o 82 (.un
  .not (.t 81))]) (.cond (.t 82) (.seq (.reg 11 [o 83 (.ld 8 true (.t 14)), o 84 (.build [z, z, z, z, z, z, z, z] []), o 85 (.bin .eql (.cells [true, true, true, true, true, true,
  true, true]) (.t 83) (.t 84)), m 86 85, w 87 86 (.ld 8 true (.t 16)), w 88 86 (.build [z, z, z, z, z, z, z, z] []), w 89 86 (.bin .eql (.cells [true, true, true, true, true,
  true, true, true]) (.t 87) (.t 88)), o 90 (.pick (.t 86) (.t 89) ff), m 10 90]) .ret) .nop)) (.seq (.seq (.reg 12 [o 91 (.fa 2 (.t 14)), o 92 (.fa 0 (.t 91)), o 93 (.ld 2 true
  (.t 92)), o 94 (.fa 2 (.t 14)), o 95 (.fa 2 (.t 94)), o 96 (.ld 2 true (.t 95)), o 97 (.bsl 2 2 [z, z] [(0, .t 93), (1, .t 96)]), o 98 (.len (.t 97)), o 99 (.mv (i 0))]) (.block
  0 (.loop (.seq (.reg 13 [o 100 (.bin .lss .int (.t 99) (.t 98))]) (.seq (.cond (.t 100) .nop (.exit 0)) (.seq (.block 1 (.seq (.reg 14 [o 101 (.ia 2 (.t 97) (.t 99)), o 102 (.ld
  2 true (.t 101)), o 20 (.alloc [z, z]), u (.st 2 (.t 20) (.t 102))]) (.seq (.reg 15 [o 103 (.fa 3 (.t 12)), o 104 (.ld 1 false (.t 103)), o 105 (.ld 2 true (.t 20)), c 106 24 [.t
  104, .t 105], o 107 (.bin .neq .int (.t 106) (i 0)), m 108 107, v 109 108 (.fa 3 (.t 13)), v 110 108 (.ld 1 false (.t 109)), v 111 108 (.ld 2 true (.t 20)), v 112 108 (.call 24
  [.t 110, .t 111]), v 113 108 (.bin .neq .int (.t 112) (i 0)), o 114 (.pick (.t 108) tt (.t 113))]) (.cond (.t 114) (.seq (.reg 16 [o 10 (.mv ff)]) .ret) .nop)))) (.reg 17 [o 115
  (.bin .add .int (.t 99) (i 1)), m 99 115]))))))) (.seq (.reg 18 [o 116 (.ld 8 true (.t 14)), o 117 (.ld 8 true (.t 18)), o 118 (.bin .eql (.cells [true, true, true, true, true,
  true, true, true]) (.t 116) (.t 117)), m 119 118, w 120 119 (.fa 0 (.t 14)), w 121 119 (.ld 1 false (.t 120)), w 122 119 (.fa 0 (.t 12)), w 123 119 (.ld 1 false (.t 122)), w 124
  119 (.bin .eql .int (.t 121) (.t 123)), o 125 (.pick (.t 119) (.t 124) ff), m 126 125, w 127 126 (.fa 1 (.t 14)), w 128 126 (.ld 1 false (.t 127)), w 129 126 (.fa 0 (.t 13)), w
  130 126 (.ld 1 false (.t 129)), w 131 126 (.bin .eql .int (.t 128) (.t 130)), o 132 (.pick (.t 126) (.t 131) ff), m 133 132, w 134 133 (.fa 2 (.t 14)), w 135 133 (.fa 0 (.t
  134)), w 136 133 (.ld 2 true (.t 135)), w 137 133 (.fa 2 (.t 14)), w 138 133 (.fa 2 (.t 137)), w 139 133 (.ld 2 true (.t 138)), w 140 133 (.bin .neq (.cells [true, true]) (.t
  136) (.t 139)), o 141 (.pick (.t 133) (.t 140) ff), m 142 141, w 143 142 (.fa 6 (.t 14)), w 144 142 (.ld 1 false (.t 143)), w 145 142 (.fa 4 (.t 12)), w 146 142 (.ld 1 false (.t
  145)), w 147 142 (.bin .geq .int (.t 144) (.t 146)), o 148 (.pick (.t 142) (.t 147) ff), m 149 148, w 150 149 (.fa 6 (.t 14)), w 151 149 (.ld 1 false (.t 150)), w 152 149 (.fa 4
  (.t 13)), w 153 149 (.ld 1 false (.t 152)), w 154 149 (.bin .geq .int (.t 151) (.t 153)), o 155 (.pick (.t 149) (.t 154) ff), m 156 155, w 157 156 (.fa 6 (.t 14)), w 158 156 (.ld
  1 false (.t 157)), w 159 156 (.fa 7 (.t 14)), w 160 156 (.ld 1 false (.t 159)), w 161 156 (.bin .lss .int (.t 158) (.t 160)), o 162 (.pick (.t 156) (.t 161) ff), m 163 162, w 164
  163 (.fa 7 (.t 14)), w 165 163 (.ld 1 false (.t 164)), w 166 163 (.fa 5 (.t 12)), w 167 163 (.ld 1 false (.t 166)), w 168 163 (.bin .leq .int (.t 165) (.t 167)), o 169 (.pick (.t
  163) (.t 168) ff), m 170 169, w 171 170 (.fa 7 (.t 14)), w 172 170 (.ld 1 false (.t 171)), w 173 170 (.fa 5 (.t 13)), w 174 170 (.ld 1 false (.t 173)), w 175 170 (.bin .leq .int
  (.t 172) (.t 174)), o 176 (.pick (.t 170) (.t 175) ff), m 10 176]) .ret))))))))))
def rv7 : List RV := [(.t 10)]
theorem ok7 : cFun Tryd.prog Tryd.f7 = some (ac7, rv7) := by kernel_rfl
theorem nt7 : Tryd.f7.ntmps = 177 := by kernel_rfl
theorem of7 : okF Tryd.prog 7 := ⟨Tryd.f7, Tryd.func7, by kernel_rfl, by kernel_rfl⟩

end Go.Proofs.YtdabfcbelkjmgaaDoor.Am
