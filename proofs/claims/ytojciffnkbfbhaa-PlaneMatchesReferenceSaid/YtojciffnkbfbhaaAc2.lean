/-
  What the machine makes of the functions: its own texts of them, and that they are that.
-/
import Derived.Test.YtojciffnkbfbhaaA5
import Derived.Test.YtojciffnkbfbhaaProg
namespace Go.Proofs.Ytojciffnkbfbhaa.Am
set_option linter.unusedSimpArgs false
set_option linter.unusedVariables false
open Go C
set_option maxRecDepth 100000
/- putlog/putlogref07.Pair -/
def ac11 : AC := .seq (.reg 0 [o 6 (.mv (.k (.sl 0 true [] []))), o 7 (.mv (.k (.sl 0 true [] [])))]) (.seq (.seq (.reg 1 [m 18 2, c 19 33 [.t 18, i 3]]) (.block 0 (.seq (.reg 2 [o 21 (.bin .eql
  .int (.t 19) (i 0)), m 20 21]) (.cond (.t 20) (.seq (.reg 3 [m 22 0, c 23 15 [.t 22, i 0, i 40], m 24 1, c 25 15 [.t 24, i 0, i 40], m 6 23, m 7 25]) .ret) (.seq (.reg 4 [o 27
  (.bin .eql .int (.t 19) (i 1)), m 26 27]) (.cond (.t 26) (.seq (.reg 5 [o 8 (.mv (.k (.sl 0 true [] [])))]) (.seq (.reg 6 [o 9 (.mv (.k (.sl 0 true [] [])))]) (.seq (.seq (.reg 7
  [o 10 (.mv (i 0))]) (.block 1 (.loop (.seq (.seq (.reg 8 [m 28 10, m 29 0, o 30 (.len (.t 29)), o 31 (.bin .lss .int (.t 28) (.t 30)), m 32 31, w 33 32 (.mv (.t 10)), w 34 32
  (.bin .lss .int (.t 33) (i 6)), o 35 (.pick (.t 32) (.t 34) ff)]) (.cond (.t 35) .nop (.exit 1))) (.seq (.block 2 (.reg 10 [m 38 8, m 39 0, m 40 10, o 41 (.ia 2 (.t 39) (.t 40)),
  o 42 (.ld 2 true (.t 41)), o 43 (.bsl 2 1 [z, z] [(0, .t 42)]), o 44 (.app 2 16 [z, z] (.t 38) (.t 43)), m 8 44])) (.reg 9 [m 36 10, o 37 (.bin .add .int (.t 36) (i 1)), m 10
  37])))))) (.seq (.seq (.reg 11 [o 11 (.mv (i 0))]) (.block 3 (.loop (.seq (.seq (.reg 12 [m 45 11, m 46 1, o 47 (.len (.t 46)), o 48 (.bin .lss .int (.t 45) (.t 47)), m 49 48, w
  50 49 (.mv (.t 11)), w 51 49 (.bin .lss .int (.t 50) (i 6)), o 52 (.pick (.t 49) (.t 51) ff)]) (.cond (.t 52) .nop (.exit 3))) (.seq (.block 4 (.reg 14 [m 55 9, m 56 1, m 57 11,
  o 58 (.ia 2 (.t 56) (.t 57)), o 59 (.ld 2 true (.t 58)), o 60 (.bsl 2 1 [z, z] [(0, .t 59)]), o 61 (.app 2 16 [z, z] (.t 55) (.t 60)), m 9 61])) (.reg 13 [m 53 11, o 54 (.bin
  .add .int (.t 53) (i 1)), m 11 54])))))) (.seq (.reg 15 [m 62 2, o 63 (.bin .quo .int (.t 62) (i 3)), c 64 33 [.t 63, i 30], m 12 64]) (.seq (.reg 16 [m 65 8, m 66 12, o 67
  (.build [z, z] [(0, 1, i 20), (1, 1, .t 66)]), m 68 12, o 69 (.bin .add .int (.t 68) (i 1)), m 70 2, o 71 (.bin .quo .int (.t 70) (i 90)), c 72 33 [.t 71, i 10], o 73 (.bin .add
  .int (.t 69) (.t 72)), o 74 (.build [z, z] [(0, 1, i 20), (1, 1, .t 73)]), o 75 (.bsl 2 2 [z, z] [(0, .t 67), (1, .t 74)]), o 76 (.app 2 16 [z, z] (.t 65) (.t 75)), m 8 76])
  (.seq (.reg 17 [m 77 9, m 78 2, o 79 (.bin .quo .int (.t 78) (i 900)), c 80 33 [.t 79, i 40], o 81 (.build [z, z] [(0, 1, i 0), (1, 1, .t 80)]), m 82 2, o 83 (.bin .quo .int (.t
  82) (i 7)), c 84 33 [.t 83, i 40], o 85 (.build [z, z] [(0, 1, i 0), (1, 1, .t 84)]), o 86 (.bsl 2 2 [z, z] [(0, .t 81), (1, .t 85)]), o 87 (.app 2 16 [z, z] (.t 77) (.t 86)), m
  9 87]) (.seq (.reg 18 [m 88 8, c 89 15 [.t 88, i 0, i 20], m 90 9, c 91 15 [.t 90, i 20, i 40], m 6 89, m 7 91]) .ret)))))))) .nop)))))) (.seq (.reg 19 [m 92 0, c 93 15 [.t 92, i
  0, i 40], m 13 93]) (.seq (.reg 20 [m 94 2, o 95 (.bin .quo .int (.t 94) (i 3)), m 96 13, o 97 (.len (.t 96)), c 98 33 [.t 95, .t 97], m 14 98]) (.seq (.reg 21 [m 100 13, m 101
  14, m 102 14, o 103 (.bin .add .int (.t 102) (i 2)), m 104 13, o 105 (.len (.t 104)), o 106 (.bin .rem .int (.t 103) (.t 105)), c 107 34 [.t 100, .t 101, .t 106], m 99 107, o 108
  (.ext (.t 99) 0), o 109 (.ext (.t 99) 1), o 110 (.ext (.t 99) 2), m 15 108, m 16 109, m 17 110]) (.seq (.seq (.reg 22 [m 111 17, o 112 (.bin .neq .int (.t 111) (i 0))]) (.cond
  (.t 112) (.seq (.reg 23 [m 113 13, m 114 1, c 115 15 [.t 114, i 0, i 40], m 6 113, m 7 115]) .ret) .nop)) (.seq (.reg 24 [m 116 15, m 117 16, m 6 116, m 7 117]) .ret))))))
def rv11 : List RV := [(.t 6), (.t 7)]
theorem ok11 : cFun Try.prog Try.f11 = some (ac11, rv11) := by kernel_rfl
theorem nt11 : Try.f11.ntmps = 118 := by kernel_rfl
theorem of11 : okF Try.prog 11 := ⟨Try.f11, Try.func11, by kernel_rfl, by kernel_rfl⟩

/- putlog/putlogref07.Cut -/
def ac34 : AC := .seq (.reg 0 [o 6 (.mv (.k (.sl 0 true [] []))), o 7 (.mv (.k (.sl 0 true [] []))), o 8 (.mv (i 0))]) (.seq (.seq (.reg 1 [m 11 0, c 12 37 [.t 11], o 13 (.un .not (.t 12)), m 14
  13, v 15 14 (.mv (.t 1)), v 16 14 (.bin .lss .int (.t 15) (i 0)), o 17 (.pick (.t 14) tt (.t 16)), m 18 17, v 19 18 (.mv (.t 1)), v 20 18 (.mv (.t 0)), v 21 18 (.len (.t 20)), v
  22 18 (.bin .geq .int (.t 19) (.t 21)), o 23 (.pick (.t 18) tt (.t 22)), m 24 23, v 25 24 (.mv (.t 2)), v 26 24 (.bin .lss .int (.t 25) (i 0)), o 27 (.pick (.t 24) tt (.t 26)), m
  28 27, v 29 28 (.mv (.t 2)), v 30 28 (.mv (.t 0)), v 31 28 (.len (.t 30)), v 32 28 (.bin .geq .int (.t 29) (.t 31)), o 33 (.pick (.t 28) tt (.t 32))]) (.cond (.t 33) (.seq (.reg
  2 [o 6 (.mv (.k (.sl 0 true [] []))), o 7 (.mv (.k (.sl 0 true [] []))), o 8 (.mv (i 70))]) .ret) .nop)) (.seq (.reg 3 [m 34 0, m 35 1, m 36 2, c 37 58 [.t 34, .t 35, .t 36], m 9
  37]) (.seq (.reg 4 [m 38 0, m 39 2, m 40 1, c 41 58 [.t 38, .t 39, .t 40], m 10 41]) (.seq (.seq (.reg 5 [m 42 9, o 43 (.len (.t 42)), o 44 (.bin .lss .int (.t 43) (i 3)), m 45
  44, v 46 45 (.mv (.t 10)), v 47 45 (.len (.t 46)), v 48 45 (.bin .lss .int (.t 47) (i 3)), o 49 (.pick (.t 45) tt (.t 48))]) (.cond (.t 49) (.seq (.reg 6 [o 6 (.mv (.k (.sl 0
  true [] []))), o 7 (.mv (.k (.sl 0 true [] []))), o 8 (.mv (i 70))]) .ret) .nop)) (.seq (.reg 7 [m 50 9, m 51 10, m 6 50, m 7 51, o 8 (.mv (i 0))]) .ret)))))
def rv34 : List RV := [(.t 6), (.t 7), (.t 8)]
theorem ok34 : cFun Try.prog Try.f34 = some (ac34, rv34) := by kernel_rfl
theorem nt34 : Try.f34.ntmps = 52 := by kernel_rfl
theorem of34 : okF Try.prog 34 := ⟨Try.f34, Try.func34, by kernel_rfl, by kernel_rfl⟩

/- putlog/putlogref07.Valid -/
def ac37 : AC := .seq (.reg 0 [o 2 (.mv ff)]) (.seq (.seq (.reg 1 [m 6 0, o 7 (.len (.t 6)), o 8 (.bin .lss .int (.t 7) (i 3)), m 9 8, v 10 9 (.mv (.t 0)), v 11 9 (.len (.t 10)), v 12 9 (.bin .gtr
  .int (.t 11) (i 8)), o 13 (.pick (.t 9) tt (.t 12))]) (.cond (.t 13) (.seq (.reg 2 [o 2 (.mv ff)]) .ret) .nop)) (.seq (.seq (.reg 3 [o 3 (.mv (i 0))]) (.block 0 (.loop (.seq
  (.seq (.reg 4 [m 14 3, m 15 0, o 16 (.len (.t 15)), o 17 (.bin .lss .int (.t 14) (.t 16))]) (.cond (.t 17) .nop (.exit 0))) (.seq (.block 1 (.seq (.reg 6 [m 20 0, m 21 3, o 22
  (.ia 2 (.t 20) (.t 21)), o 23 (.ld 2 true (.t 22)), c 24 31 [.t 23], o 25 (.un .not (.t 24))]) (.cond (.t 25) (.seq (.reg 7 [o 2 (.mv ff)]) .ret) .nop))) (.reg 5 [m 18 3, o 19
  (.bin .add .int (.t 18) (i 1)), m 3 19])))))) (.seq (.seq (.reg 8 [o 4 (.mv (i 0))]) (.block 2 (.loop (.seq (.seq (.reg 9 [m 26 4, m 27 0, o 28 (.len (.t 27)), o 29 (.bin .lss
  .int (.t 26) (.t 28))]) (.cond (.t 29) .nop (.exit 2))) (.seq (.block 3 (.seq (.reg 11 [o 5 (.mv (i 0))]) (.block 4 (.loop (.seq (.seq (.reg 12 [m 32 5, m 33 0, o 34 (.len (.t
  33)), o 35 (.bin .lss .int (.t 32) (.t 34))]) (.cond (.t 35) .nop (.exit 4))) (.seq (.block 5 (.seq (.drw 14 [m 38 5, m 39 4, o 40 (.bin .neq .int (.t 38) (.t 39)), m 41 40, w 42
  41 (.mv (.t 5)), w 43 41 (.mv (.t 4)), w 44 41 (.bin .add .int (.t 43) (i 1)), w 45 41 (.mv (.t 0)), w 46 41 (.len (.t 45)), w 47 41 (.bin .rem .int (.t 44) (.t 46)), w 48 41
  (.bin .neq .int (.t 42) (.t 47)), o 49 (.pick (.t 41) (.t 48) ff), m 50 49, w 51 50 (.mv (.t 0)), w 52 50 (.mv (.t 4)), w 53 50 (.ia 2 (.t 51) (.t 52)), w 54 50 (.ld 2 true (.t
  53)), w 55 50 (.mv (.t 0)), w 56 50 (.mv (.t 4)), w 57 50 (.call 59 [.t 55, .t 56]), w 58 50 (.mv (.t 0)), w 59 50 (.mv (.t 5)), w 60 50 (.ia 2 (.t 58) (.t 59)), w 61 50 (.ld 2
  true (.t 60)), w 62 50 (.call 28 [.t 54, .t 57, .t 61]), w 63 50 (.bin .leq .int (.t 62) (i 0)), o 64 (.pick (.t 50) (.t 63) ff)] [(15, 19), (16, 19), (19, 22), (19, 23)]) (.cond
  (.t 64) (.seq (.reg 15 [o 2 (.mv ff)]) .ret) .nop))) (.reg 13 [m 36 5, o 37 (.bin .add .int (.t 36) (i 1)), m 5 37]))))))) (.reg 10 [m 30 4, o 31 (.bin .add .int (.t 30) (i 1)),
  m 4 31])))))) (.seq (.reg 16 [o 2 (.mv tt)]) .ret))))
def rv37 : List RV := [(.t 2)]
theorem ok37 : cFun Try.prog Try.f37 = some (ac37, rv37) := by kernel_rfl
theorem nt37 : Try.f37.ntmps = 65 := by kernel_rfl
theorem of37 : okF Try.prog 37 := ⟨Try.f37, Try.func37, by kernel_rfl, by kernel_rfl⟩

/- putlog/putlogref07.walk -/
def ac58 : AC := .seq (.reg 0 [o 6 (.mv (.k (.sl 0 true [] [])))]) (.seq (.reg 1 [m 8 0, m 9 1, o 10 (.ia 2 (.t 8) (.t 9)), o 11 (.ld 2 true (.t 10)), o 12 (.bsl 2 1 [z, z] [(0, .t 11)]), m 7 12])
  (.seq (.block 0 (.loop (.seq (.seq (.reg 2 [m 13 1, m 14 2, o 15 (.bin .neq .int (.t 13) (.t 14))]) (.cond (.t 15) .nop (.exit 0))) (.block 1 (.seq (.reg 3 [m 16 1, o 17 (.bin
  .add .int (.t 16) (i 1)), m 18 0, o 19 (.len (.t 18)), o 20 (.bin .rem .int (.t 17) (.t 19)), m 1 20]) (.reg 4 [m 21 7, m 22 0, m 23 1, o 24 (.ia 2 (.t 22) (.t 23)), o 25 (.ld 2
  true (.t 24)), o 26 (.bsl 2 1 [z, z] [(0, .t 25)]), o 27 (.app 2 16 [z, z] (.t 21) (.t 26)), m 7 27])))))) (.seq (.reg 5 [m 28 7, m 6 28]) .ret)))
def rv58 : List RV := [(.t 6)]
theorem ok58 : cFun Try.prog Try.f58 = some (ac58, rv58) := by kernel_rfl
theorem nt58 : Try.f58.ntmps = 29 := by kernel_rfl
theorem of58 : okF Try.prog 58 := ⟨Try.f58, Try.func58, by kernel_rfl, by kernel_rfl⟩

end Go.Proofs.Ytojciffnkbfbhaa.Am
