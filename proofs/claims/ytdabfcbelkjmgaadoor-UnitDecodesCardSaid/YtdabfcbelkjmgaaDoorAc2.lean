/-
  What the machine makes of the functions: its own texts of them, and that they are that.
-/
import Derived.Test.YtdabfcbelkjmgaaDoorA5
import Derived.Test.YtdabfcbelkjmgaaDoorProg
namespace Go.Proofs.YtdabfcbelkjmgaaDoor.Am
set_option linter.unusedSimpArgs false
set_option linter.unusedVariables false
open Go C
set_option maxRecDepth 100000
/- putlog/putloglaw08.sane -/
def ac9 : AC := .seq (.reg 0 [o 0 (.mv ff)]) (.seq (.reg 1 [c 25 26 [], m 24 25, o 26 (.ext (.t 24) 0), o 27 (.ext (.t 24) 1), o 1 (.alloc [z, z, z, .sl 0 true [] [], z, z]), o 2 (.alloc [z, z, z,
  .sl 0 true [] [], z, z]), u (.st 6 (.t 1) (.t 26)), u (.st 6 (.t 2) (.t 27))]) (.seq (.reg 2 [o 29 (.ld 6 true (.t 1)), o 30 (.ld 6 true (.t 2)), c 31 16 [.t 29, .t 30], m 28 31,
  o 32 (.ext (.t 28) 0), o 33 (.ext (.t 28) 1), o 3 (.alloc [z, z, z, z, z, z, z, z]), u (.st 8 (.t 3) (.t 32)), m 4 33]) (.seq (.reg 3 [o 35 (.ld 6 true (.t 1)), c 36 20 [.t 35],
  m 34 36, o 37 (.ext (.t 34) 0), o 38 (.ext (.t 34) 1), o 5 (.alloc [z, z, z, z, z, z, z, z]), u (.st 8 (.t 5) (.t 37)), m 6 38]) (.seq (.reg 4 [o 40 (.ld 6 true (.t 2)), c 41 20
  [.t 40], m 39 41, o 42 (.ext (.t 39) 0), o 43 (.ext (.t 39) 1), o 7 (.alloc [z, z, z, z, z, z, z, z]), u (.st 8 (.t 7) (.t 42)), m 8 43]) (.seq (.reg 5 [c 45 27 [i 3], m 44 45, o
  46 (.ext (.t 44) 0), o 47 (.ext (.t 44) 1), o 9 (.alloc [z, z, z, z, z]), u (.st 5 (.t 9) (.t 46)), m 10 47]) (.seq (.reg 6 [c 49 27 [i 8], m 48 49, o 50 (.ext (.t 48) 0), o 51
  (.ext (.t 48) 1), o 11 (.alloc [z, z, z, z, z]), u (.st 5 (.t 11) (.t 50)), m 12 51]) (.seq (.reg 7 [o 53 (.ld 6 true (.t 1)), c 54 21 [.t 53], m 52 54, o 55 (.ext (.t 52) 0), o
  56 (.ext (.t 52) 1), m 13 55, m 14 56]) (.seq (.reg 8 [m 58 13, c 59 22 [.t 58], m 57 59, o 60 (.ext (.t 57) 0), o 61 (.ext (.t 57) 1), o 15 (.alloc [z, z, z, .sl 0 true [] [],
  z, z]), u (.st 6 (.t 15) (.t 60)), m 16 61]) (.seq (.reg 9 [o 63 (.ld 6 true (.t 2)), c 64 14 [.t 63, i (-4), i (-2)], m 62 64, o 65 (.ext (.t 62) 0), o 66 (.ext (.t 62) 1), o 17
  (.alloc [z, z, z, .sl 0 true [] [], z, z]), u (.st 6 (.t 17) (.t 65)), m 18 66]) (.seq (.reg 10 [o 67 (.fa 4 (.t 2)), u (.st 1 (.t 67) (i 2))]) (.seq (.reg 11 [o 69 (.ld 6 true
  (.t 1)), o 70 (.ld 6 true (.t 2)), c 71 16 [.t 69, .t 70], m 68 71, o 72 (.ext (.t 68) 0), o 73 (.ext (.t 68) 1), o 19 (.alloc [z, z, z, z, z, z, z, z]), u (.st 8 (.t 19) (.t
  72)), m 20 73]) (.seq (.reg 12 [o 74 (.ld 6 true (.t 1)), c 75 28 [.t 74], m 21 75]) (.seq (.seq (.reg 13 [m 76 10, o 77 (.bin .neq .int (.t 76) (i 0)), m 78 77, v 79 78 (.mv (.t
  12)), v 80 78 (.bin .neq .int (.t 79) (i 80)), o 81 (.pick (.t 78) tt (.t 80)), m 82 81, v 83 82 (.mv (.t 14)), v 84 82 (.bin .neq .int (.t 83) (i 0)), o 85 (.pick (.t 82) tt (.t
  84)), m 86 85, v 87 86 (.mv (.t 16)), v 88 86 (.bin .neq .int (.t 87) (i 0)), o 89 (.pick (.t 86) tt (.t 88)), m 90 89, v 91 90 (.mv (.t 18)), v 92 90 (.bin .neq .int (.t 91) (i
  0)), o 93 (.pick (.t 90) tt (.t 92)), m 94 93, v 95 94 (.mv (.t 21)), v 96 94 (.len (.t 95)), v 97 94 (.bin .neq .int (.t 96) (i 6)), o 98 (.pick (.t 94) tt (.t 97)), m 99 98, v
  100 99 (.ld 6 true (.t 15)), v 101 99 (.ld 6 true (.t 1)), v 102 99 (.call 17 [.t 100, .t 101]), v 103 99 (.un .not (.t 102)), o 104 (.pick (.t 99) tt (.t 103))]) (.cond (.t 104)
  (.seq (.reg 14 [o 0 (.mv ff)]) .ret) .nop)) (.seq (.reg 15 [m 105 4, m 106 105, w 107 106 (.ld 8 true (.t 3)), w 108 106 (.build [z, z] [(0, 1, i 4), (1, 1, i 2)]), w 109 106
  (.build [z, z] [(0, 1, i 4), (1, 1, i 4)]), w 110 106 (.build [z, z, z, z] [(0, 2, .t 108), (2, 2, .t 109)]), w 111 106 (.build [z, z, z, z, z, z, z, z] [(0, 1, i 3), (1, 1, i
  5), (2, 4, .t 110), (6, 1, i 1), (7, 1, i 2)]), w 112 106 (.bin .eql (.cells [true, true, true, true, true, true, true, true]) (.t 107) (.t 111)), o 113 (.pick (.t 106) (.t 112)
  ff), m 114 113, w 115 114 (.mv (.t 6)), o 116 (.pick (.t 114) (.t 115) ff), m 117 116, w 118 117 (.ld 8 true (.t 5)), w 119 117 (.build [z, z] []), w 120 117 (.build [z, z] [(0,
  1, i 4)]), w 121 117 (.build [z, z, z, z] [(0, 2, .t 119), (2, 2, .t 120)]), w 122 117 (.build [z, z, z, z, z, z, z, z] [(0, 1, i 3), (1, 1, i (-1)), (2, 4, .t 121), (7, 1, i
  2)]), w 123 117 (.bin .eql (.cells [true, true, true, true, true, true, true, true]) (.t 118) (.t 122)), o 124 (.pick (.t 117) (.t 123) ff), m 125 124, w 126 125 (.mv (.t 8)), w
  127 125 (.un .not (.t 126)), o 128 (.pick (.t 125) (.t 127) ff), m 129 128, w 130 129 (.mv (.t 20)), w 131 129 (.un .not (.t 130)), o 132 (.pick (.t 129) (.t 131) ff), m 22 132])
  (.seq (.reg 16 [o 133 (.ld 6 true (.t 1)), c 134 18 [.t 133], o 135 (.bin .eql .int (.t 134) (i 64)), m 136 135, w 137 136 (.ld 6 true (.t 1)), w 138 136 (.call 11 [.t 137]), w
  139 136 (.bin .eql .int (.t 138) (i 1728)), o 140 (.pick (.t 136) (.t 139) ff), m 141 140, w 142 141 (.ld 6 true (.t 1)), w 143 141 (.call 12 [.t 142]), w 144 141 (.bin .eql .int
  (.t 143) (i 3456)), o 145 (.pick (.t 141) (.t 144) ff), m 146 145, w 147 146 (.ld 5 true (.t 9)), w 148 146 (.build [z, z, z, z, z] [(0, 1, i 6), (1, 1, i 3), (2, 1, i 4), (3, 1,
  i 6), (4, 1, i 3)]), w 149 146 (.bin .eql (.cells [true, true, true, true, true]) (.t 147) (.t 148)), o 150 (.pick (.t 146) (.t 149) ff), m 23 150]) (.seq (.reg 17 [m 151 22, m
  152 151, w 153 152 (.mv (.t 23)), o 154 (.pick (.t 152) (.t 153) ff), m 155 154, w 156 155 (.mv (.t 21)), w 157 155 (.ia 2 (.t 156) (i 3)), w 158 155 (.ld 2 true (.t 157)), w 159
  155 (.build [z, z] [(0, 1, i 3), (1, 1, i 3)]), w 160 155 (.bin .eql (.cells [true, true]) (.t 158) (.t 159)), o 161 (.pick (.t 155) (.t 160) ff), m 162 161, w 163 162 (.mv (.t
  21)), w 164 162 (.ia 2 (.t 163) (i 5)), w 165 162 (.ld 2 true (.t 164)), w 166 162 (.build [z, z] [(0, 1, i 3), (1, 1, i (-2))]), w 167 162 (.bin .eql (.cells [true, true]) (.t
  165) (.t 166)), o 168 (.pick (.t 162) (.t 167) ff), m 169 168, w 170 169 (.ld 6 true (.t 1)), w 171 169 (.ld 6 true (.t 17)), w 172 169 (.call 19 [.t 170, .t 171]), o 173 (.pick
  (.t 169) (.t 172) ff), m 174 173, w 175 174 (.ld 6 true (.t 1)), w 176 174 (.ld 6 true (.t 2)), w 177 174 (.call 19 [.t 175, .t 176]), w 178 174 (.un .not (.t 177)), o 179 (.pick
  (.t 174) (.t 178) ff), m 180 179, w 181 180 (.ld 6 true (.t 1)), w 182 180 (.call 23 [.t 181]), o 183 (.pick (.t 180) (.t 182) ff), m 184 183, w 185 184 (.build [z, z, z, .sl 0
  true [] [], z, z] []), w 186 184 (.call 23 [.t 185]), w 187 184 (.un .not (.t 186)), o 188 (.pick (.t 184) (.t 187) ff), m 0 188]) .ret))))))))))))))))
def rv9 : List RV := [(.t 0)]
theorem ok9 : cFun Tryd.prog Tryd.f9 = some (ac9, rv9) := by kernel_rfl
theorem nt9 : Tryd.f9.ntmps = 189 := by kernel_rfl
theorem of9 : okF Tryd.prog 9 := ⟨Tryd.f9, Tryd.func9, by kernel_rfl, by kernel_rfl⟩

/- putlog/putlogref08.Pair -/
def ac10 : AC := .seq (.reg 0 [o 8 (.box 4 (.t 3)), o 9 (.box 4 (.t 4)), o 10 (.alloc [z, z, z, .sl 0 true [] [], z, z]), o 11 (.alloc [z, z, z, .sl 0 true [] [], z, z])]) (.seq (.reg 1 [m 15 0, m
  16 1, m 17 2, c 18 29 [.t 15, .t 16, .t 17], m 14 18, o 19 (.ext (.t 14) 0), o 20 (.ext (.t 14) 1), m 12 19, m 13 20]) (.seq (.drw 2 [o 21 (.iaA 4 1 (.t 8) (i 0)), o 22 (.ld 1
  false (.t 21)), o 23 (.bin .quo .int (.t 22) (i 8)), m 24 12, o 25 (.ld 4 true (.t 8)), c 26 30 [.t 23, .t 24, .t 25], o 27 (.iaA 4 1 (.t 9) (i 0)), o 28 (.ld 1 false (.t 27)), o
  29 (.bin .quo .int (.t 28) (i 8)), m 30 13, o 31 (.ld 4 true (.t 9)), c 32 30 [.t 29, .t 30, .t 31], u (.st 6 (.t 10) (.t 26)), u (.st 6 (.t 11) (.t 32))] [(5, 7), (5, 10)])
  .ret))
def rv10 : List RV := [(.c 10 6 true), (.c 11 6 true)]
theorem ok10 : cFun Tryd.prog Tryd.f10 = some (ac10, rv10) := by kernel_rfl
theorem nt10 : Tryd.f10.ntmps = 33 := by kernel_rfl
theorem of10 : okF Tryd.prog 10 := ⟨Tryd.f10, Tryd.func10, by kernel_rfl, by kernel_rfl⟩

/- putlog/unit.Weight6 -/
def ac11 : AC := .seq (.reg 0 [o 1 (.box 6 (.t 0)), o 2 (.mv (i 0))]) (.seq (.drw 1 [o 3 (.ld 6 true (.t 1)), c 4 18 [.t 3], o 5 (.bin .mul .int (i 3) (.t 4)), o 6 (.ld 6 true (.t 1)), c 7 31 [.t
  6], o 8 (.bin .mul .int (.t 5) (.t 7)), m 2 8] [(1, 3)]) .ret)
def rv11 : List RV := [(.t 2)]
theorem ok11 : cFun Tryd.prog Tryd.f11 = some (ac11, rv11) := by kernel_rfl
theorem nt11 : Tryd.f11.ntmps = 9 := by kernel_rfl
theorem of11 : okF Tryd.prog 11 := ⟨Tryd.f11, Tryd.func11, by kernel_rfl, by kernel_rfl⟩

/- putlog/unit.Moment6 -/
def ac12 : AC := .seq (.reg 0 [o 1 (.box 6 (.t 0)), o 2 (.mv (i 0))]) (.seq (.reg 1 [o 6 (.fa 3 (.t 1)), o 7 (.ld 1 false (.t 6)), c 8 32 [.t 7], m 5 8, o 9 (.ext (.t 5) 0), o 10 (.ext (.t 5) 1), m
  3 9, m 4 10]) (.seq (.drw 2 [m 11 3, o 12 (.ld 6 true (.t 1)), c 13 33 [.t 12], o 14 (.bin .mul .int (.t 11) (.t 13)), o 15 (.ld 6 true (.t 1)), c 16 31 [.t 15], o 17 (.bin .mul
  .int (.t 14) (.t 16)), m 2 17] [(2, 4)]) .ret))
def rv12 : List RV := [(.t 2)]
theorem ok12 : cFun Tryd.prog Tryd.f12 = some (ac12, rv12) := by kernel_rfl
theorem nt12 : Tryd.f12.ntmps = 18 := by kernel_rfl
theorem of12 : okF Tryd.prog 12 := ⟨Tryd.f12, Tryd.func12, by kernel_rfl, by kernel_rfl⟩

/- putlog/putloglaw08.pick -/
def ac13 : AC := .seq (.reg 0 [o 4 (.mv (i 0))]) (.seq (.seq (.reg 1 [m 5 0, o 6 (.bin .lss .int (.t 5) (i 0))]) (.cond (.t 6) (.reg 2 [m 7 0, o 8 (.bin .add .int (.t 7) (i 1)), o 9 (.un .neg (.t
  8)), m 0 9]) .nop)) (.seq (.reg 3 [m 10 0, m 11 1, o 12 (.bin .rem .int (.t 10) (.t 11)), m 4 12]) .ret))
def rv13 : List RV := [(.t 4)]
theorem ok13 : cFun Tryd.prog Tryd.f13 = some (ac13, rv13) := by kernel_rfl
theorem nt13 : Tryd.f13.ntmps = 13 := by kernel_rfl
theorem of13 : okF Tryd.prog 13 := ⟨Tryd.f13, Tryd.func13, by kernel_rfl, by kernel_rfl⟩

/- putlog/unit.Move -/
def ac14 : AC := .seq (.reg 0 [o 3 (.box 6 (.t 0)), o 6 (.alloc [z, z, z, .sl 0 true [] [], z, z]), o 7 (.mv (i 0))]) (.seq (.reg 1 [o 11 (.fa 3 (.t 3)), o 12 (.ld 1 false (.t 11)), m 13 1, m 14 2,
  c 15 15 [.t 12, .t 13, .t 14], m 10 15, o 16 (.ext (.t 10) 0), o 17 (.ext (.t 10) 1), m 8 16, m 9 17]) (.seq (.seq (.reg 2 [m 18 9, o 19 (.bin .neq .int (.t 18) (i 0)), m 20 19,
  v 21 20 (.ld 6 true (.t 3)), v 22 20 (.call 23 [.t 21]), v 23 20 (.un .not (.t 22)), o 24 (.pick (.t 20) tt (.t 23))]) (.cond (.t 24) (.seq (.reg 3 [o 25 (.build [z, z, z, .sl 0
  true [] [], z, z] []), u (.st 6 (.t 6) (.t 25)), o 7 (.mv (i 80))]) .ret) .nop)) (.seq (.reg 4 [m 26 8, o 27 (.fa 3 (.t 3)), u (.st 1 (.t 27) (.t 26))]) (.seq (.reg 5 [o 28 (.ld
  6 true (.t 3)), u (.st 6 (.t 6) (.t 28)), o 7 (.mv (i 0))]) .ret))))
def rv14 : List RV := [(.c 6 6 true), (.t 7)]
theorem ok14 : cFun Tryd.prog Tryd.f14 = some (ac14, rv14) := by kernel_rfl
theorem nt14 : Tryd.f14.ntmps = 29 := by kernel_rfl
theorem of14 : okF Tryd.prog 14 := ⟨Tryd.f14, Tryd.func14, by kernel_rfl, by kernel_rfl⟩

/- putlog/unit.Touch -/
def ac16 : AC := .seq (.reg 0 [o 2 (.box 6 (.t 0)), o 3 (.box 6 (.t 1)), o 4 (.alloc [z, z, z, z, z, z, z, z]), o 5 (.mv ff)]) (.seq (.reg 1 [o 12 (.ld 6 true (.t 2)), o 13 (.ld 6 true (.t 3)), c
  14 38 [.t 12, .t 13], m 11 14, o 15 (.ext (.t 11) 0), o 16 (.ext (.t 11) 1), o 17 (.ext (.t 11) 2), m 6 15, m 7 16, m 8 17]) (.seq (.seq (.reg 2 [m 18 8, o 19 (.un .not (.t
  18))]) (.cond (.t 19) (.seq (.reg 3 [o 20 (.build [z, z, z, z, z, z, z, z] []), u (.st 8 (.t 4) (.t 20)), o 5 (.mv ff)]) .ret) .nop)) (.seq (.reg 4 [o 22 (.fa 3 (.t 2)), o 23
  (.ld 1 false (.t 22)), o 24 (.fa 3 (.t 3)), o 25 (.ld 1 false (.t 24)), c 26 39 [.t 23, .t 25], m 21 26, o 27 (.ext (.t 21) 0), o 28 (.ext (.t 21) 1), o 9 (.alloc [z, z, z, z]),
  u (.st 4 (.t 9) (.t 27)), m 10 28]) (.seq (.seq (.reg 5 [m 29 10, o 30 (.un .not (.t 29))]) (.cond (.t 30) (.seq (.reg 6 [o 31 (.build [z, z, z, z, z, z, z, z] []), u (.st 8 (.t
  4) (.t 31)), o 5 (.mv ff)]) .ret) .nop)) (.seq (.reg 7 [o 32 (.fa 0 (.t 2)), o 33 (.ld 1 false (.t 32)), o 34 (.fa 0 (.t 3)), o 35 (.ld 1 false (.t 34)), o 36 (.ld 4 true (.t
  9)), m 37 6, m 38 7, o 39 (.build [z, z, z, z, z, z, z, z] [(0, 1, .t 33), (1, 1, .t 35), (2, 4, .t 36), (6, 1, .t 37), (7, 1, .t 38)]), u (.st 8 (.t 4) (.t 39)), o 5 (.mv tt)])
  .ret)))))
def rv16 : List RV := [(.c 4 8 true), (.t 5)]
theorem ok16 : cFun Tryd.prog Tryd.f16 = some (ac16, rv16) := by kernel_rfl
theorem nt16 : Tryd.f16.ntmps = 40 := by kernel_rfl
theorem of16 : okF Tryd.prog 16 := ⟨Tryd.f16, Tryd.func16, by kernel_rfl, by kernel_rfl⟩

/- putlog/putlogref08.Same -/
def ac17 : AC := .seq (.reg 0 [o 2 (.box 6 (.t 0)), o 3 (.box 6 (.t 1)), o 4 (.mv ff)]) (.seq (.seq (.reg 1 [o 6 (.fa 0 (.t 2)), o 7 (.ld 1 false (.t 6)), o 8 (.fa 0 (.t 3)), o 9 (.ld 1 false (.t
  8)), o 10 (.bin .neq .int (.t 7) (.t 9)), m 11 10, v 12 11 (.fa 1 (.t 2)), v 13 11 (.ld 1 false (.t 12)), v 14 11 (.fa 1 (.t 3)), v 15 11 (.ld 1 false (.t 14)), v 16 11 (.bin
  .neq .int (.t 13) (.t 15)), o 17 (.pick (.t 11) tt (.t 16)), m 18 17, v 19 18 (.fa 2 (.t 2)), v 20 18 (.ld 1 false (.t 19)), v 21 18 (.fa 2 (.t 3)), v 22 18 (.ld 1 false (.t
  21)), v 23 18 (.bin .neq .int (.t 20) (.t 22)), o 24 (.pick (.t 18) tt (.t 23)), m 25 24, v 26 25 (.fa 4 (.t 2)), v 27 25 (.ld 1 false (.t 26)), v 28 25 (.fa 4 (.t 3)), v 29 25
  (.ld 1 false (.t 28)), v 30 25 (.bin .neq .int (.t 27) (.t 29)), o 31 (.pick (.t 25) tt (.t 30)), m 32 31, v 33 32 (.fa 5 (.t 2)), v 34 32 (.ld 1 false (.t 33)), v 35 32 (.fa 5
  (.t 3)), v 36 32 (.ld 1 false (.t 35)), v 37 32 (.bin .neq .int (.t 34) (.t 36)), o 38 (.pick (.t 32) tt (.t 37)), m 39 38, v 40 39 (.fa 3 (.t 2)), v 41 39 (.ld 1 false (.t 40)),
  v 42 39 (.len (.t 41)), v 43 39 (.fa 3 (.t 3)), v 44 39 (.ld 1 false (.t 43)), v 45 39 (.len (.t 44)), v 46 39 (.bin .neq .int (.t 42) (.t 45)), o 47 (.pick (.t 39) tt (.t 46))])
  (.cond (.t 47) (.seq (.reg 2 [o 4 (.mv ff)]) .ret) .nop)) (.seq (.seq (.reg 3 [o 5 (.mv (i 0))]) (.block 0 (.loop (.seq (.seq (.reg 4 [m 48 5, o 49 (.fa 3 (.t 2)), o 50 (.ld 1
  false (.t 49)), o 51 (.len (.t 50)), o 52 (.bin .lss .int (.t 48) (.t 51))]) (.cond (.t 52) .nop (.exit 0))) (.seq (.block 1 (.seq (.drw 6 [o 55 (.fa 3 (.t 2)), o 56 (.ld 1 false
  (.t 55)), m 57 5, o 58 (.ia 2 (.t 56) (.t 57)), o 59 (.ld 2 true (.t 58)), o 60 (.fa 3 (.t 3)), o 61 (.ld 1 false (.t 60)), m 62 5, o 63 (.ia 2 (.t 61) (.t 62)), o 64 (.ld 2 true
  (.t 63)), o 65 (.bin .neq (.cells [true, true]) (.t 59) (.t 64))] []) (.cond (.t 65) (.seq (.reg 7 [o 4 (.mv ff)]) .ret) .nop))) (.reg 5 [m 53 5, o 54 (.bin .add .int (.t 53) (i
  1)), m 5 54])))))) (.seq (.reg 8 [o 4 (.mv tt)]) .ret)))
def rv17 : List RV := [(.t 4)]
theorem ok17 : cFun Tryd.prog Tryd.f17 = some (ac17, rv17) := by kernel_rfl
theorem nt17 : Tryd.f17.ntmps = 66 := by kernel_rfl
theorem of17 : okF Tryd.prog 17 := ⟨Tryd.f17, Tryd.func17, by kernel_rfl, by kernel_rfl⟩

/- putlog/unit.Volume2 -/
def ac18 : AC := .seq (.reg 0 [o 1 (.box 6 (.t 0)), o 2 (.mv (i 0))]) (.seq (.drw 1 [o 3 (.fa 3 (.t 1)), o 4 (.ld 1 false (.t 3)), c 5 40 [.t 4], o 6 (.ld 6 true (.t 1)), c 7 33 [.t 6], o 8 (.bin
  .mul .int (.t 5) (.t 7)), m 2 8] [(2, 3)]) .ret)
def rv18 : List RV := [(.t 2)]
theorem ok18 : cFun Tryd.prog Tryd.f18 = some (ac18, rv18) := by kernel_rfl
theorem nt18 : Tryd.f18.ntmps = 9 := by kernel_rfl
theorem of18 : okF Tryd.prog 18 := ⟨Tryd.f18, Tryd.func18, by kernel_rfl, by kernel_rfl⟩

/- putlog/unit.Overlap -/
def ac19 : AC := .seq (.reg 0 [o 2 (.box 6 (.t 0)), o 3 (.box 6 (.t 1)), o 4 (.mv ff)]) (.seq (.reg 1 [o 9 (.ld 6 true (.t 2)), o 10 (.ld 6 true (.t 3)), c 11 38 [.t 9, .t 10], m 8 11, o 12 (.ext
  (.t 8) 0), o 13 (.ext (.t 8) 1), o 14 (.ext (.t 8) 2), m 5 12, m 6 13, m 7 14]) (.seq (.reg 2 [m 15 7, m 16 15, w 17 16 (.fa 3 (.t 2)), w 18 16 (.ld 1 false (.t 17)), w 19 16
  (.fa 3 (.t 3)), w 20 16 (.ld 1 false (.t 19)), w 21 16 (.call 41 [.t 18, .t 20]), o 22 (.pick (.t 16) (.t 21) ff), m 4 22]) .ret))
def rv19 : List RV := [(.t 4)]
theorem ok19 : cFun Tryd.prog Tryd.f19 = some (ac19, rv19) := by kernel_rfl
theorem nt19 : Tryd.f19.ntmps = 23 := by kernel_rfl
theorem of19 : okF Tryd.prog 19 := ⟨Tryd.f19, Tryd.func19, by kernel_rfl, by kernel_rfl⟩

/- putlog/unit.Stands -/
def ac20 : AC := .seq (.reg 0 [o 1 (.box 6 (.t 0)), o 2 (.alloc [z, z, z, z, z, z, z, z]), o 3 (.mv ff)]) (.seq (.seq (.reg 1 [o 7 (.ld 6 true (.t 1)), c 8 23 [.t 7], o 9 (.un .not (.t 8))]) (.cond
  (.t 9) (.seq (.reg 2 [o 10 (.build [z, z, z, z, z, z, z, z] []), u (.st 8 (.t 2) (.t 10)), o 3 (.mv ff)]) .ret) .nop)) (.seq (.seq (.reg 3 [o 11 (.fa 3 (.t 1)), o 12 (.ld 1 false
  (.t 11)), o 13 (.len (.t 12)), o 14 (.mv (i 0))]) (.block 0 (.loop (.seq (.reg 4 [o 15 (.bin .lss .int (.t 14) (.t 13))]) (.seq (.cond (.t 15) .nop (.exit 0)) (.seq (.block 1
  (.seq (.reg 5 [m 16 14, o 17 (.ia 2 (.t 12) (.t 14)), o 18 (.ld 2 true (.t 17)), o 5 (.alloc [z, z]), m 4 16, u (.st 2 (.t 5) (.t 18))]) (.seq (.drw 6 [o 19 (.fa 3 (.t 1)), o 20
  (.ld 1 false (.t 19)), m 21 4, o 22 (.bin .add .int (.t 21) (i 1)), o 23 (.fa 3 (.t 1)), o 24 (.ld 1 false (.t 23)), o 25 (.len (.t 24)), o 26 (.bin .rem .int (.t 22) (.t 25)), o
  27 (.ia 2 (.t 20) (.t 26)), o 28 (.ld 2 true (.t 27)), o 6 (.alloc [z, z]), u (.st 2 (.t 6) (.t 28))] [(1, 10), (5, 10), (6, 10), (8, 10), (9, 10)]) (.seq (.reg 7 [o 29 (.fa 1
  (.t 5)), o 30 (.ld 1 false (.t 29)), o 31 (.bin .eql .int (.t 30) (i 0)), m 32 31, w 33 32 (.fa 1 (.t 6)), w 34 32 (.ld 1 false (.t 33)), w 35 32 (.bin .eql .int (.t 34) (i 0)),
  o 36 (.pick (.t 32) (.t 35) ff)]) (.cond (.t 36) (.seq (.reg 8 [o 37 (.fa 0 (.t 1)), o 38 (.ld 1 false (.t 37)), o 39 (.ld 2 true (.t 5)), o 40 (.ld 2 true (.t 6)), o 41 (.build
  [z, z, z, z] [(0, 2, .t 39), (2, 2, .t 40)]), o 42 (.fa 4 (.t 1)), o 43 (.ld 1 false (.t 42)), o 44 (.fa 5 (.t 1)), o 45 (.ld 1 false (.t 44)), o 46 (.build [z, z, z, z, z, z, z,
  z] [(0, 1, .t 38), (1, 1, i (-1)), (2, 4, .t 41), (6, 1, .t 43), (7, 1, .t 45)]), u (.st 8 (.t 2) (.t 46)), o 3 (.mv tt)]) .ret) .nop))))) (.reg 9 [o 47 (.bin .add .int (.t 14)
  (i 1)), m 14 47]))))))) (.seq (.reg 10 [o 48 (.build [z, z, z, z, z, z, z, z] []), u (.st 8 (.t 2) (.t 48)), o 3 (.mv ff)]) .ret)))
def rv20 : List RV := [(.c 2 8 true), (.t 3)]
theorem ok20 : cFun Tryd.prog Tryd.f20 = some (ac20, rv20) := by kernel_rfl
theorem nt20 : Tryd.f20.ntmps = 49 := by kernel_rfl
theorem of20 : okF Tryd.prog 20 := ⟨Tryd.f20, Tryd.func20, by kernel_rfl, by kernel_rfl⟩

/- putlog/unit.Valid -/
def ac23 : AC := .seq (.reg 0 [o 1 (.box 6 (.t 0)), o 2 (.mv ff)]) (.seq (.reg 1 [o 4 (.fa 0 (.t 1)), o 5 (.ld 1 false (.t 4)), c 6 46 [.t 5, i 0, i 99], m 7 6, w 8 7 (.fa 1 (.t 1)), w 9 7 (.ld 1
  false (.t 8)), w 10 7 (.call 46 [.t 9, i 1, i 8]), o 11 (.pick (.t 7) (.t 10) ff), m 12 11, w 13 12 (.fa 2 (.t 1)), w 14 12 (.ld 1 false (.t 13)), w 15 12 (.call 46 [.t 14, i 0,
  i 7]), o 16 (.pick (.t 12) (.t 15) ff), m 3 16]) (.seq (.reg 2 [m 17 3, m 18 17, w 19 18 (.fa 4 (.t 1)), w 20 18 (.ld 1 false (.t 19)), w 21 18 (.bin .leq .int (i 0) (.t 20)), o
  22 (.pick (.t 18) (.t 21) ff), m 23 22, w 24 23 (.fa 4 (.t 1)), w 25 23 (.ld 1 false (.t 24)), w 26 23 (.fa 5 (.t 1)), w 27 23 (.ld 1 false (.t 26)), w 28 23 (.bin .lss .int (.t
  25) (.t 27)), o 29 (.pick (.t 23) (.t 28) ff), m 30 29, w 31 30 (.fa 5 (.t 1)), w 32 30 (.ld 1 false (.t 31)), w 33 30 (.bin .leq .int (.t 32) (i 8)), o 34 (.pick (.t 30) (.t 33)
  ff), m 35 34, w 36 35 (.fa 3 (.t 1)), w 37 35 (.ld 1 false (.t 36)), w 38 35 (.call 34 [.t 37]), o 39 (.pick (.t 35) (.t 38) ff), m 2 39]) .ret))
def rv23 : List RV := [(.t 2)]
theorem ok23 : cFun Tryd.prog Tryd.f23 = some (ac23, rv23) := by kernel_rfl
theorem nt23 : Tryd.f23.ntmps = 40 := by kernel_rfl
theorem of23 : okF Tryd.prog 23 := ⟨Tryd.f23, Tryd.func23, by kernel_rfl, by kernel_rfl⟩

/- putlog/putloglaw08.examples -/
def ac26 : AC := .seq (.reg 0 [o 0 (.alloc [z, z, z, .sl 0 true [] [], z, z]), o 1 (.alloc [z, z, z, .sl 0 true [] [], z, z])]) (.seq (.reg 1 [o 4 (.build [z, z] [(0, 1, i 0), (1, 1, i 0)]), o 5
  (.build [z, z] [(0, 1, i 4), (1, 1, i 0)]), o 6 (.build [z, z] [(0, 1, i 4), (1, 1, i 4)]), o 7 (.build [z, z] [(0, 1, i 0), (1, 1, i 4)]), o 8 (.bsl 2 4 [z, z] [(0, .t 4), (1,
  .t 5), (2, .t 6), (3, .t 7)]), o 9 (.build [z, z, z, .sl 0 true [] [], z, z] [(0, 1, i 3), (1, 1, i 2), (3, 1, .t 8), (4, 1, i 0), (5, 1, i 2)]), o 2 (.alloc [z, z, z, .sl 0 true
  [] [], z, z]), u (.st 6 (.t 2) (.t 9))]) (.seq (.reg 2 [o 10 (.build [z, z] [(0, 1, i 4), (1, 1, i 2)]), o 11 (.build [z, z] [(0, 1, i 8), (1, 1, i 2)]), o 12 (.build [z, z] [(0,
  1, i 8), (1, 1, i 6)]), o 13 (.build [z, z] [(0, 1, i 4), (1, 1, i 6)]), o 14 (.bsl 2 4 [z, z] [(0, .t 10), (1, .t 11), (2, .t 12), (3, .t 13)]), o 15 (.build [z, z, z, .sl 0
  true [] [], z, z] [(0, 1, i 5), (1, 1, i 3), (2, 1, i 3), (3, 1, .t 14), (4, 1, i 1), (5, 1, i 4)]), o 3 (.alloc [z, z, z, .sl 0 true [] [], z, z]), u (.st 6 (.t 3) (.t 15))])
  (.seq (.drw 3 [o 16 (.ld 6 true (.t 2)), o 17 (.ld 6 true (.t 3)), u (.st 6 (.t 0) (.t 16)), u (.st 6 (.t 1) (.t 17))] [(1, 2)]) .ret)))
def rv26 : List RV := [(.c 0 6 true), (.c 1 6 true)]
theorem ok26 : cFun Tryd.prog Tryd.f26 = some (ac26, rv26) := by kernel_rfl
theorem nt26 : Tryd.f26.ntmps = 18 := by kernel_rfl
theorem of26 : okF Tryd.prog 26 := ⟨Tryd.f26, Tryd.func26, by kernel_rfl, by kernel_rfl⟩

/- putlog/unit.Stuff -/
def ac27 : AC := .seq (.reg 0 [o 2 (.alloc [z, z, z, z, z]), o 3 (.mv (i 0))]) (.seq (.seq (.reg 1 [m 4 0, c 5 46 [.t 4, i 0, i 7], o 6 (.un .not (.t 5))]) (.cond (.t 6) (.seq (.reg 2 [o 7 (.build
  [z, z, z, z, z] []), u (.st 5 (.t 2) (.t 7)), o 3 (.mv (i 80))]) .ret) .nop)) (.seq (.reg 3 [m 8 0, o 9 (.iaA 8 5 (.k (.v (.pointer (some ⟨0, 0, none⟩)))) (.t 8)), o 10 (.ld 5
  true (.t 9)), u (.st 5 (.t 2) (.t 10)), o 3 (.mv (i 0))]) .ret))
def rv27 : List RV := [(.c 2 5 true), (.t 3)]
theorem ok27 : cFun Tryd.prog Tryd.f27 = some (ac27, rv27) := by kernel_rfl
theorem nt27 : Tryd.f27.ntmps = 11 := by kernel_rfl
theorem of27 : okF Tryd.prog 27 := ⟨Tryd.f27, Tryd.func27, by kernel_rfl, by kernel_rfl⟩

/- putlog/unit.Faces -/
def ac28 : AC := .seq (.reg 0 [o 1 (.box 6 (.t 0)), o 2 (.mv (.k (.sl 0 true [] [])))]) (.seq (.seq (.reg 1 [o 6 (.ld 6 true (.t 1)), c 7 23 [.t 6], o 8 (.un .not (.t 7))]) (.cond (.t 8) (.seq
  (.reg 2 [o 2 (.mv (.k (.sl 0 true [] [])))]) .ret) .nop)) (.seq (.reg 3 [o 3 (.alloc [.sl 0 true [] []])]) (.seq (.reg 4 [o 9 (.mkf (.func 50) [] [.t 3, .t 1]), m 4 9]) (.seq
  (.seq (.reg 5 [o 10 (.fa 3 (.t 1)), o 11 (.ld 1 false (.t 10)), o 12 (.len (.t 11)), o 13 (.mv (i 0))]) (.block 0 (.loop (.seq (.reg 6 [o 14 (.bin .lss .int (.t 13) (.t 12))])
  (.seq (.cond (.t 14) .nop (.exit 0)) (.seq (.block 1 (.seq (.reg 7 [m 15 13, m 5 15]) (.reg 8 [m 16 4, m 17 5, o 18 (.bsl 1 1 [z] [(0, .t 17)]), o 19 (.cv (.t 16) [.t 18])])))
  (.reg 9 [o 20 (.bin .add .int (.t 13) (i 1)), m 13 20]))))))) (.seq (.reg 10 [m 21 4, o 22 (.bsl 1 2 [z] [(0, i (-1)), (1, i (-2))]), o 23 (.cv (.t 21) [.t 22])]) (.seq (.reg 11
  [o 24 (.ld 1 false (.t 3)), m 2 24]) .ret))))))
def rv28 : List RV := [(.t 2)]
theorem ok28 : cFun Tryd.prog Tryd.f28 = some (ac28, rv28) := by kernel_rfl
theorem nt28 : Tryd.f28.ntmps = 25 := by kernel_rfl
theorem of28 : okF Tryd.prog 28 := ⟨Tryd.f28, Tryd.func28, by kernel_rfl, by kernel_rfl⟩

/- putlog/putlogref08.Of -/
def ac30 : AC := .seq (.reg 0 [o 5 (.box 4 (.t 2)), o 6 (.alloc [z, z, z, .sl 0 true [] [], z, z])]) (.seq (.drw 1 [m 8 0, c 9 54 [.t 8, i 100], o 10 (.iaA 4 1 (.t 5) (i 0)), o 11 (.ld 1 false (.t
  10)), c 12 54 [.t 11, i 8], o 13 (.bin .add .int (i 1) (.t 12)), o 14 (.iaA 4 1 (.t 5) (i 1)), o 15 (.ld 1 false (.t 14)), c 16 54 [.t 15, i 8], o 17 (.bsl 2 0 [z, z] []), m 18
  1, o 19 (.app 2 16 [z, z] (.t 17) (.t 18)), o 20 (.iaA 4 1 (.t 5) (i 2)), o 21 (.ld 1 false (.t 20)), c 22 54 [.t 21, i 8], o 23 (.build [z, z, z, .sl 0 true [] [], z, z] [(0, 1,
  .t 9), (1, 1, .t 13), (2, 1, .t 16), (3, 1, .t 19), (4, 1, .t 22)]), o 7 (.alloc [z, z, z, .sl 0 true [] [], z, z]), u (.st 6 (.t 7) (.t 23))] [(1, 3), (1, 7), (4, 7), (1, 9),
  (3, 9), (4, 9), (7, 9), (8, 9), (1, 13), (4, 13), (8, 13), (9, 13), (11, 13), (1, 16), (3, 16), (4, 16), (7, 16), (8, 16), (9, 16), (11, 16), (13, 16), (14, 16)]) (.seq (.drw 2
  [o 24 (.fa 4 (.t 7)), o 25 (.ld 1 false (.t 24)), o 26 (.bin .add .int (.t 25) (i 1)), o 27 (.iaA 4 1 (.t 5) (i 3)), o 28 (.ld 1 false (.t 27)), o 29 (.fa 4 (.t 7)), o 30 (.ld 1
  false (.t 29)), o 31 (.bin .sub .int (i 8) (.t 30)), c 32 54 [.t 28, .t 31], o 33 (.bin .add .int (.t 26) (.t 32)), o 34 (.fa 5 (.t 7)), u (.st 1 (.t 34) (.t 33))] [(1, 8)])
  (.seq (.reg 3 [o 35 (.ld 6 true (.t 7)), u (.st 6 (.t 6) (.t 35))]) .ret)))
def rv30 : List RV := [(.c 6 6 true)]
theorem ok30 : cFun Tryd.prog Tryd.f30 = some (ac30, rv30) := by kernel_rfl
theorem nt30 : Tryd.f30.ntmps = 36 := by kernel_rfl
theorem of30 : okF Tryd.prog 30 := ⟨Tryd.f30, Tryd.func30, by kernel_rfl, by kernel_rfl⟩

/- putlog/unit.density -/
def ac31 : AC := .seq (.reg 0 [o 1 (.box 6 (.t 0)), o 2 (.mv (i 0))]) (.seq (.reg 1 [o 6 (.fa 2 (.t 1)), o 7 (.ld 1 false (.t 6)), c 8 27 [.t 7], m 5 8, o 9 (.ext (.t 5) 0), o 10 (.ext (.t 5) 1), o
  3 (.alloc [z, z, z, z, z]), u (.st 5 (.t 3) (.t 9)), m 4 10]) (.seq (.reg 2 [o 11 (.fa 0 (.t 3)), o 12 (.ld 1 false (.t 11)), m 2 12]) .ret))
def rv31 : List RV := [(.t 2)]
theorem ok31 : cFun Tryd.prog Tryd.f31 = some (ac31, rv31) := by kernel_rfl
theorem nt31 : Tryd.f31.ntmps = 13 := by kernel_rfl
theorem of31 : okF Tryd.prog 31 := ⟨Tryd.f31, Tryd.func31, by kernel_rfl, by kernel_rfl⟩

/- putlog/unit.depth -/
def ac33 : AC := .seq (.reg 0 [o 1 (.box 6 (.t 0)), o 2 (.mv (i 0))]) (.seq (.seq (.reg 1 [o 3 (.ld 6 true (.t 1)), c 4 23 [.t 3], o 5 (.un .not (.t 4))]) (.cond (.t 5) (.seq (.reg 2 [o 2 (.mv (i
  0))]) .ret) .nop)) (.seq (.reg 3 [o 6 (.fa 5 (.t 1)), o 7 (.ld 1 false (.t 6)), o 8 (.fa 4 (.t 1)), o 9 (.ld 1 false (.t 8)), o 10 (.bin .sub .int (.t 7) (.t 9)), m 2 10]) .ret))
def rv33 : List RV := [(.t 2)]
theorem ok33 : cFun Tryd.prog Tryd.f33 = some (ac33, rv33) := by kernel_rfl
theorem nt33 : Tryd.f33.ntmps = 11 := by kernel_rfl
theorem of33 : okF Tryd.prog 33 := ⟨Tryd.f33, Tryd.func33, by kernel_rfl, by kernel_rfl⟩

/- putlog/unit.common -/
def ac38 : AC := .seq (.reg 0 [o 2 (.box 6 (.t 0)), o 3 (.box 6 (.t 1)), o 4 (.mv (i 0)), o 5 (.mv (i 0)), o 6 (.mv ff)]) (.seq (.drw 1 [o 9 (.fa 4 (.t 2)), o 10 (.ld 1 false (.t 9)), o 11 (.fa 4
  (.t 3)), o 12 (.ld 1 false (.t 11)), o 13 (.mm true [.t 10, .t 12]), o 14 (.fa 5 (.t 2)), o 15 (.ld 1 false (.t 14)), o 16 (.fa 5 (.t 3)), o 17 (.ld 1 false (.t 16)), o 18 (.mm
  false [.t 15, .t 17]), m 7 13, m 8 18] []) (.seq (.reg 2 [m 19 7, m 20 8, m 21 7, m 22 8, o 23 (.bin .lss .int (.t 21) (.t 22)), m 24 23, w 25 24 (.ld 6 true (.t 2)), w 26 24
  (.call 23 [.t 25]), o 27 (.pick (.t 24) (.t 26) ff), m 28 27, w 29 28 (.ld 6 true (.t 3)), w 30 28 (.call 23 [.t 29]), o 31 (.pick (.t 28) (.t 30) ff), m 4 19, m 5 20, m 6 31])
  .ret))
def rv38 : List RV := [(.t 4), (.t 5), (.t 6)]
theorem ok38 : cFun Tryd.prog Tryd.f38 = some (ac38, rv38) := by kernel_rfl
theorem nt38 : Tryd.f38.ntmps = 32 := by kernel_rfl
theorem of38 : okF Tryd.prog 38 := ⟨Tryd.f38, Tryd.func38, by kernel_rfl, by kernel_rfl⟩

/- putlog/unit.isIn -/
def ac46 : AC := .seq (.reg 0 [o 6 (.mv ff)]) (.seq (.reg 1 [m 7 1, m 8 0, o 9 (.bin .leq .int (.t 7) (.t 8)), m 10 9, w 11 10 (.mv (.t 0)), w 12 10 (.mv (.t 2)), w 13 10 (.bin .leq .int (.t 11)
  (.t 12)), o 14 (.pick (.t 10) (.t 13) ff), m 6 14]) .ret)
def rv46 : List RV := [(.t 6)]
theorem ok46 : cFun Tryd.prog Tryd.f46 = some (ac46, rv46) := by kernel_rfl
theorem nt46 : Tryd.f46.ntmps = 15 := by kernel_rfl
theorem of46 : okF Tryd.prog 46 := ⟨Tryd.f46, Tryd.func46, by kernel_rfl, by kernel_rfl⟩

/- putlog/unit.Faces$1 -/
def ac50 : AC := .seq (.reg 0 [m 6 0, o 7 (.len (.t 6)), o 8 (.mv (i 0))]) (.block 0 (.loop (.seq (.reg 1 [o 9 (.bin .lss .int (.t 8) (.t 7))]) (.seq (.cond (.t 9) .nop (.exit 0)) (.seq (.block 1
  (.seq (.reg 2 [o 10 (.ia 1 (.t 6) (.t 8)), o 11 (.ld 1 false (.t 10)), m 5 11]) (.reg 3 [o 12 (.ld 1 false (.t 1)), o 13 (.fa 0 (.t 2)), o 14 (.ld 1 false (.t 13)), m 15 5, o 16
  (.build [z, z] [(0, 1, .t 14), (1, 1, .t 15)]), o 17 (.bsl 2 1 [z, z] [(0, .t 16)]), o 18 (.app 2 16 [z, z] (.t 12) (.t 17)), u (.st 1 (.t 1) (.t 18))]))) (.reg 4 [o 19 (.bin
  .add .int (.t 8) (i 1)), m 8 19]))))))
def rv50 : List RV := []
theorem ok50 : cFun Tryd.prog Tryd.f50 = some (ac50, rv50) := by kernel_rfl
theorem nt50 : Tryd.f50.ntmps = 20 := by kernel_rfl
theorem of50 : okF Tryd.prog 50 := ⟨Tryd.f50, Tryd.func50, by kernel_rfl, by kernel_rfl⟩

/- putlog/putlogref08.pick -/
def ac54 : AC := .seq (.reg 0 [o 4 (.mv (i 0))]) (.seq (.seq (.reg 1 [m 5 0, o 6 (.bin .lss .int (.t 5) (i 0))]) (.cond (.t 6) (.reg 2 [m 7 0, o 8 (.bin .add .int (.t 7) (i 1)), o 9 (.un .neg (.t
  8)), m 0 9]) .nop)) (.seq (.reg 3 [m 10 0, m 11 1, o 12 (.bin .rem .int (.t 10) (.t 11)), m 4 12]) .ret))
def rv54 : List RV := [(.t 4)]
theorem ok54 : cFun Tryd.prog Tryd.f54 = some (ac54, rv54) := by kernel_rfl
theorem nt54 : Tryd.f54.ntmps = 13 := by kernel_rfl
theorem of54 : okF Tryd.prog 54 := ⟨Tryd.f54, Tryd.func54, by kernel_rfl, by kernel_rfl⟩

end Go.Proofs.YtdabfcbelkjmgaaDoor.Am
