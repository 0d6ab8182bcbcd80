/-
  What the machine makes of the functions: its own texts of them, and that they are that.
-/
import Derived.Test.YtdabfcbelkjmgaaDoorA5
import Derived.Test.YtdabfcbelkjmgaaDoorProg
namespace Go.Proofs.YtdabfcbelkjmgaaDoor.Am
set_option linter.unusedSimpArgs false
set_option linter.unusedVariables false
open Go C
set_option maxRecDepth 100000
/- putlog/putloglaw08.UnitDecodes -/
def ac6 : AC := .seq (.reg 0 [o 11 (.box 4 (.t 3)), o 12 (.box 4 (.t 4)), o 16 (.mv ff)]) (.seq (.reg 1 [c 33 9 [], m 17 33]) (.seq (.seq (.reg 2 [m 34 17, o 35 (.un .not (.t 34))]) (.cond (.t 35)
  (.seq (.reg 3 [o 16 (.mv ff)]) .ret) .nop)) (.seq (.reg 4 [m 37 0, m 38 1, m 39 2, o 40 (.ld 4 true (.t 11)), o 41 (.ld 4 true (.t 12)), c 42 10 [.t 37, .t 38, .t 39, .t 40, .t
  41], m 36 42, o 43 (.ext (.t 36) 0), o 44 (.ext (.t 36) 1), o 18 (.alloc [z, z, z, .sl 0 true [] [], z, z]), o 19 (.alloc [z, z, z, .sl 0 true [] [], z, z]), u (.st 6 (.t 18) (.t
  43)), u (.st 6 (.t 19) (.t 44))]) (.seq (.reg 5 [o 46 (.ld 6 true (.t 18)), c 47 21 [.t 46], m 45 47, o 48 (.ext (.t 45) 0), o 49 (.ext (.t 45) 1), m 20 48, m 21 49]) (.seq (.reg
  6 [o 51 (.ld 6 true (.t 19)), c 52 21 [.t 51], m 50 52, o 53 (.ext (.t 50) 0), o 54 (.ext (.t 50) 1), m 22 53, m 23 54]) (.seq (.reg 7 [m 56 20, c 57 22 [.t 56], m 55 57, o 58
  (.ext (.t 55) 0), o 59 (.ext (.t 55) 1), o 24 (.alloc [z, z, z, .sl 0 true [] [], z, z]), u (.st 6 (.t 24) (.t 58)), m 25 59]) (.seq (.seq (.reg 8 [m 60 21, o 61 (.bin .neq .int
  (.t 60) (i 0)), m 62 61, v 63 62 (.mv (.t 23)), v 64 62 (.bin .neq .int (.t 63) (i 0)), o 65 (.pick (.t 62) tt (.t 64)), m 66 65, v 67 66 (.mv (.t 25)), v 68 66 (.bin .neq .int
  (.t 67) (i 0)), o 69 (.pick (.t 66) tt (.t 68)), m 70 69, v 71 70 (.mv (.t 20)), v 72 70 (.pr .slen [.t 71]), v 73 70 (.bin .eql .int (.t 72) (i 0)), o 74 (.pick (.t 70) tt (.t
  73)), m 75 74, v 76 75 (.ld 6 true (.t 24)), v 77 75 (.ld 6 true (.t 18)), v 78 75 (.call 17 [.t 76, .t 77]), v 79 75 (.un .not (.t 78)), o 80 (.pick (.t 75) tt (.t 79)), m 81
  80, v 82 81 (.mv (.t 20)), v 83 81 (.mv (.t 22)), v 84 81 (.pr (.seq false) [.t 82, .t 83]), v 85 81 (.ld 6 true (.t 18)), v 86 81 (.ld 6 true (.t 19)), v 87 81 (.call 17 [.t 85,
  .t 86]), v 88 81 (.bin .neq .bool (.t 84) (.t 87)), o 89 (.pick (.t 81) tt (.t 88))]) (.cond (.t 89) (.seq (.reg 9 [o 16 (.mv ff)]) .ret) .nop)) (.seq (.seq (.reg 10 [m 90 20, m
  91 22, o 92 (.pr (.seq true) [.t 90, .t 91]), m 93 92, w 94 93 (.mv (.t 20)), w 95 93 (.pr .slen [.t 94]), w 96 93 (.mv (.t 22)), w 97 93 (.pr .slen [.t 96]), w 98 93 (.bin .leq
  .int (.t 95) (.t 97)), w 99 93 (.mv (.t 98)), w 100 99 (.mv (.t 22)), w 101 99 (.mv (.t 20)), w 102 99 (.pr .slen [.t 101]), w 103 99 (.pr (.ssl false true) [.t 100, .t 102]), w
  104 99 (.mv (.t 20)), w 105 99 (.pr (.seq false) [.t 103, .t 104]), w 106 93 (.pick (.t 99) (.t 105) ff), w 107 93 (.mv (.t 106)), v 108 107 (.mv (.t 22)), v 109 107 (.pr .slen
  [.t 108]), v 110 107 (.mv (.t 20)), v 111 107 (.pr .slen [.t 110]), v 112 107 (.bin .leq .int (.t 109) (.t 111)), v 113 107 (.mv (.t 112)), w 114 113 (.mv (.t 20)), w 115 113
  (.mv (.t 22)), w 116 113 (.pr .slen [.t 115]), w 117 113 (.pr (.ssl false true) [.t 114, .t 116]), w 118 113 (.mv (.t 22)), w 119 113 (.pr (.seq false) [.t 117, .t 118]), v 120
  107 (.pick (.t 113) (.t 119) ff), w 121 93 (.pick (.t 107) tt (.t 120)), o 122 (.pick (.t 93) (.t 121) ff)]) (.cond (.t 122) (.seq (.reg 11 [o 16 (.mv ff)]) .ret) .nop)) (.seq
  (.reg 12 [m 123 5, m 124 20, o 125 (.pr .slen [.t 124]), c 126 13 [.t 123, .t 125], m 26 126]) (.seq (.seq (.drw 13 [m 127 20, m 128 26, o 129 (.pr (.ssl false true) [.t 127, .t
  128]), m 130 6, o 131 (.bsl 1 1 [.v (.int .u8 0)] [(0, .t 130)]), o 132 (.b2s (.t 131)), o 133 (.pr .scat [.t 129, .t 132]), m 134 20, m 135 26, o 136 (.bin .add .int (.t 135) (i
  1)), o 137 (.pr (.ssl true false) [.t 134, .t 136]), o 138 (.pr .scat [.t 133, .t 137]), m 139 7, m 140 7, o 141 (.pr .slen [.t 140]), o 142 (.mm false [.t 141, i 60]), o 143
  (.pr (.ssl false true) [.t 139, .t 142]), o 144 (.bsl 1 2 [.v (.string (sB []))] [(0, .t 138), (1, .t 143)]), o 145 (.len (.t 144)), o 146 (.mv (i 0))] []) (.block 0 (.loop (.seq
  (.reg 14 [o 147 (.bin .lss .int (.t 146) (.t 145))]) (.seq (.cond (.t 147) .nop (.exit 0)) (.seq (.block 1 (.seq (.reg 15 [o 148 (.ia 1 (.t 144) (.t 146)), o 149 (.ld 1 false (.t
  148)), m 28 149]) (.seq (.reg 16 [m 151 28, c 152 22 [.t 151], m 150 152, o 153 (.ext (.t 150) 0), o 154 (.ext (.t 150) 1), o 29 (.alloc [z, z, z, .sl 0 true [] [], z, z]), u
  (.st 6 (.t 29) (.t 153)), m 30 154]) (.seq (.seq (.reg 17 [m 155 30, o 156 (.bin .neq .int (.t 155) (i 0))]) (.cond (.t 156) (.exit 1) .nop)) (.seq (.reg 18 [o 158 (.ld 6 true
  (.t 29)), c 159 21 [.t 158], m 157 159, o 160 (.ext (.t 157) 0), o 161 (.ext (.t 157) 1), m 31 160, m 32 161]) (.seq (.reg 19 [m 162 32, o 163 (.bin .neq .int (.t 162) (i 0)), m
  164 163, v 165 164 (.mv (.t 31)), v 166 164 (.mv (.t 28)), v 167 164 (.pr (.seq true) [.t 165, .t 166]), o 168 (.pick (.t 164) tt (.t 167)), m 169 168, v 170 169 (.ld 6 true (.t
  29)), v 171 169 (.call 23 [.t 170]), v 172 169 (.un .not (.t 171)), o 173 (.pick (.t 169) tt (.t 172))]) (.cond (.t 173) (.seq (.reg 20 [o 16 (.mv ff)]) .ret) .nop))))))) (.reg
  21 [o 174 (.bin .add .int (.t 146) (i 1)), m 146 174]))))))) (.seq (.reg 22 [m 175 17, m 16 175]) .ret)))))))))))
def rv6 : List RV := [(.t 16)]
theorem ok6 : cFun Tryd.prog Tryd.f6 = some (ac6, rv6) := by kernel_rfl
theorem nt6 : Tryd.f6.ntmps = 176 := by kernel_rfl
theorem of6 : okF Tryd.prog 6 := ⟨Tryd.f6, Tryd.func6, by kernel_rfl, by kernel_rfl⟩

end Go.Proofs.YtdabfcbelkjmgaaDoor.Am
