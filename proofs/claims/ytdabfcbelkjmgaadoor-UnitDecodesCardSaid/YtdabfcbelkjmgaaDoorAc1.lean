/-
  What the machine makes of the functions: its own texts of them, and that they are that.
-/
import Derived.Test.YtdabfcbelkjmgaaDoorA5
import Derived.Test.YtdabfcbelkjmgaaDoorProg
namespace Go.Proofs.YtdabfcbelkjmgaaDoor.Am
set_option linter.unusedSimpArgs false
set_option linter.unusedVariables false
open Go C
set_option maxRecDepth 100000
/- putlog/plane.Move -/
def ac15 : AC := .seq (.reg 0 [o 6 (.mv (.k (.sl 0 true [] []))), o 7 (.mv (i 0))]) (.seq (.seq (.reg 1 [m 10 0, c 11 34 [.t 10], o 12 (.un .not (.t 11)), m 13 12, v 14 13 (.mv (.t 1)), v 15 13
  (.mv (.t 2)), v 16 13 (.mm true [.t 14, .t 15]), v 17 13 (.bin .gtr .int (.t 16) (i 40)), o 18 (.pick (.t 13) tt (.t 17)), m 19 18, v 20 19 (.mv (.t 1)), v 21 19 (.mv (.t 2)), v
  22 19 (.mm false [.t 20, .t 21]), v 23 19 (.bin .lss .int (.t 22) (i (-40))), o 24 (.pick (.t 19) tt (.t 23))]) (.cond (.t 24) (.seq (.reg 2 [o 6 (.mv (.k (.sl 0 true [] []))), o
  7 (.mv (i 70))]) .ret) .nop)) (.seq (.reg 3 [m 25 0, c 26 35 [.t 25], m 8 26]) (.seq (.seq (.reg 4 [m 27 8, o 28 (.len (.t 27)), o 29 (.mv (i 0))]) (.block 0 (.loop (.seq (.reg 5
  [o 30 (.bin .lss .int (.t 29) (.t 28))]) (.seq (.cond (.t 30) .nop (.exit 0)) (.seq (.block 1 (.seq (.reg 6 [m 31 29, m 9 31]) (.seq (.reg 7 [m 32 8, m 33 9, o 34 (.ia 2 (.t 32)
  (.t 33)), o 35 (.fa 0 (.t 34)), o 36 (.ld 1 false (.t 35)), m 37 1, o 38 (.bin .add .int (.t 36) (.t 37)), o 39 (.ia 2 (.t 32) (.t 33)), o 40 (.fa 0 (.t 39)), u (.st 1 (.t 40)
  (.t 38))]) (.reg 8 [m 41 8, m 42 9, o 43 (.ia 2 (.t 41) (.t 42)), o 44 (.fa 1 (.t 43)), o 45 (.ld 1 false (.t 44)), m 46 2, o 47 (.bin .add .int (.t 45) (.t 46)), o 48 (.ia 2 (.t
  41) (.t 42)), o 49 (.fa 1 (.t 48)), u (.st 1 (.t 49) (.t 47))])))) (.reg 9 [o 50 (.bin .add .int (.t 29) (i 1)), m 29 50]))))))) (.seq (.seq (.reg 10 [m 51 8, c 52 36 [.t 51, .k
  (.clo (.func 37) [] [])]]) (.cond (.t 52) (.seq (.reg 11 [o 6 (.mv (.k (.sl 0 true [] []))), o 7 (.mv (i 70))]) .ret) .nop)) (.seq (.reg 12 [m 53 8, m 6 53, o 7 (.mv (i 0))])
  .ret)))))
def rv15 : List RV := [(.t 6), (.t 7)]
theorem ok15 : cFun Tryd.prog Tryd.f15 = some (ac15, rv15) := by kernel_rfl
theorem nt15 : Tryd.f15.ntmps = 54 := by kernel_rfl
theorem of15 : okF Tryd.prog 15 := ⟨Tryd.f15, Tryd.func15, by kernel_rfl, by kernel_rfl⟩

/- putlog/plane.Inside -/
def ac24 : AC := .seq (.reg 0 [o 3 (.box 2 (.t 1)), o 4 (.mv (i 0))]) (.seq (.seq (.reg 1 [m 5 0, c 6 34 [.t 5], o 7 (.un .not (.t 6)), m 8 7, v 9 8 (.ld 2 true (.t 3)), v 10 8 (.call 37 [.t 9]), o
  11 (.pick (.t 8) tt (.t 10))]) (.cond (.t 11) (.seq (.reg 2 [o 4 (.mv (i (-1)))]) .ret) .nop)) (.seq (.reg 3 [m 12 0, o 13 (.ld 2 true (.t 3)), c 14 47 [.t 12, .t 13], m 4 14])
  .ret))
def rv24 : List RV := [(.t 4)]
theorem ok24 : cFun Tryd.prog Tryd.f24 = some (ac24, rv24) := by kernel_rfl
theorem nt24 : Tryd.f24.ntmps = 15 := by kernel_rfl
theorem of24 : okF Tryd.prog 24 := ⟨Tryd.f24, Tryd.func24, by kernel_rfl, by kernel_rfl⟩

/- putlog/plane.Cut -/
def ac25 : AC := .seq (.reg 0 [o 3 (.box 1 (.t 0)), o 6 (.mv (.k (.sl 0 true [] []))), o 7 (.mv (.k (.sl 0 true [] []))), o 8 (.mv (i 0))]) (.seq (.seq (.reg 1 [o 12 (.ld 1 false (.t 3)), c 13 34
  [.t 12], o 14 (.un .not (.t 13)), m 15 14, v 16 15 (.mv (.t 1)), v 17 15 (.mv (.t 2)), v 18 15 (.mm false [.t 16, .t 17]), v 19 15 (.bin .lss .int (.t 18) (i 0)), o 20 (.pick (.t
  15) tt (.t 19)), m 21 20, v 22 21 (.mv (.t 1)), v 23 21 (.mv (.t 2)), v 24 21 (.mm true [.t 22, .t 23]), v 25 21 (.ld 1 false (.t 3)), v 26 21 (.len (.t 25)), v 27 21 (.bin .geq
  .int (.t 24) (.t 26)), o 28 (.pick (.t 21) tt (.t 27))]) (.cond (.t 28) (.seq (.reg 2 [o 6 (.mv (.k (.sl 0 true [] []))), o 7 (.mv (.k (.sl 0 true [] []))), o 8 (.mv (i 70))])
  .ret) .nop)) (.seq (.reg 3 [o 29 (.mkf (.func 48) [] [.t 3]), m 9 29]) (.seq (.reg 4 [m 30 9, m 31 1, m 32 2, o 33 (.cv (.t 30) [.t 31, .t 32]), m 34 9, m 35 2, m 36 1, o 37 (.cv
  (.t 34) [.t 35, .t 36]), m 10 33, m 11 37]) (.seq (.seq (.reg 5 [m 38 10, o 39 (.len (.t 38)), m 40 11, o 41 (.len (.t 40)), o 42 (.mm false [.t 39, .t 41]), o 43 (.bin .lss .int
  (.t 42) (i 3))]) (.cond (.t 43) (.seq (.reg 6 [o 6 (.mv (.k (.sl 0 true [] []))), o 7 (.mv (.k (.sl 0 true [] []))), o 8 (.mv (i 70))]) .ret) .nop)) (.seq (.reg 7 [m 44 10, m 45
  11, m 6 44, m 7 45, o 8 (.mv (i 0))]) .ret)))))
def rv25 : List RV := [(.t 6), (.t 7), (.t 8)]
theorem ok25 : cFun Tryd.prog Tryd.f25 = some (ac25, rv25) := by kernel_rfl
theorem nt25 : Tryd.f25.ntmps = 46 := by kernel_rfl
theorem of25 : okF Tryd.prog 25 := ⟨Tryd.f25, Tryd.func25, by kernel_rfl, by kernel_rfl⟩

/- putlog/putlogref07.Pair -/
def ac29 : AC := .seq (.reg 0 [o 6 (.mv (.k (.sl 0 true [] []))), o 7 (.mv (.k (.sl 0 true [] [])))]) (.seq (.seq (.reg 1 [m 18 2, c 19 51 [.t 18, i 3]]) (.block 0 (.seq (.reg 2 [o 21 (.bin .eql
  .int (.t 19) (i 0)), m 20 21]) (.cond (.t 20) (.seq (.reg 3 [m 22 0, c 23 52 [.t 22, i 0, i 40], m 24 1, c 25 52 [.t 24, i 0, i 40], m 6 23, m 7 25]) .ret) (.seq (.reg 4 [o 27
  (.bin .eql .int (.t 19) (i 1)), m 26 27]) (.cond (.t 26) (.seq (.reg 5 [o 8 (.mv (.k (.sl 0 true [] [])))]) (.seq (.reg 6 [o 9 (.mv (.k (.sl 0 true [] [])))]) (.seq (.seq (.reg 7
  [o 10 (.mv (i 0))]) (.block 1 (.loop (.seq (.seq (.reg 8 [m 28 10, m 29 0, o 30 (.len (.t 29)), o 31 (.bin .lss .int (.t 28) (.t 30)), m 32 31, w 33 32 (.mv (.t 10)), w 34 32
  (.bin .lss .int (.t 33) (i 6)), o 35 (.pick (.t 32) (.t 34) ff)]) (.cond (.t 35) .nop (.exit 1))) (.seq (.block 2 (.reg 10 [m 38 8, m 39 0, m 40 10, o 41 (.ia 2 (.t 39) (.t 40)),
  o 42 (.ld 2 true (.t 41)), o 43 (.bsl 2 1 [z, z] [(0, .t 42)]), o 44 (.app 2 16 [z, z] (.t 38) (.t 43)), m 8 44])) (.reg 9 [m 36 10, o 37 (.bin .add .int (.t 36) (i 1)), m 10
  37])))))) (.seq (.seq (.reg 11 [o 11 (.mv (i 0))]) (.block 3 (.loop (.seq (.seq (.reg 12 [m 45 11, m 46 1, o 47 (.len (.t 46)), o 48 (.bin .lss .int (.t 45) (.t 47)), m 49 48, w
  50 49 (.mv (.t 11)), w 51 49 (.bin .lss .int (.t 50) (i 6)), o 52 (.pick (.t 49) (.t 51) ff)]) (.cond (.t 52) .nop (.exit 3))) (.seq (.block 4 (.reg 14 [m 55 9, m 56 1, m 57 11,
  o 58 (.ia 2 (.t 56) (.t 57)), o 59 (.ld 2 true (.t 58)), o 60 (.bsl 2 1 [z, z] [(0, .t 59)]), o 61 (.app 2 16 [z, z] (.t 55) (.t 60)), m 9 61])) (.reg 13 [m 53 11, o 54 (.bin
  .add .int (.t 53) (i 1)), m 11 54])))))) (.seq (.reg 15 [m 62 2, o 63 (.bin .quo .int (.t 62) (i 3)), c 64 51 [.t 63, i 30], m 12 64]) (.seq (.reg 16 [m 65 8, m 66 12, o 67
  (.build [z, z] [(0, 1, i 20), (1, 1, .t 66)]), m 68 12, o 69 (.bin .add .int (.t 68) (i 1)), m 70 2, o 71 (.bin .quo .int (.t 70) (i 90)), c 72 51 [.t 71, i 10], o 73 (.bin .add
  .int (.t 69) (.t 72)), o 74 (.build [z, z] [(0, 1, i 20), (1, 1, .t 73)]), o 75 (.bsl 2 2 [z, z] [(0, .t 67), (1, .t 74)]), o 76 (.app 2 16 [z, z] (.t 65) (.t 75)), m 8 76])
  (.seq (.reg 17 [m 77 9, m 78 2, o 79 (.bin .quo .int (.t 78) (i 900)), c 80 51 [.t 79, i 40], o 81 (.build [z, z] [(0, 1, i 0), (1, 1, .t 80)]), m 82 2, o 83 (.bin .quo .int (.t
  82) (i 7)), c 84 51 [.t 83, i 40], o 85 (.build [z, z] [(0, 1, i 0), (1, 1, .t 84)]), o 86 (.bsl 2 2 [z, z] [(0, .t 81), (1, .t 85)]), o 87 (.app 2 16 [z, z] (.t 77) (.t 86)), m
  9 87]) (.seq (.reg 18 [m 88 8, c 89 52 [.t 88, i 0, i 20], m 90 9, c 91 52 [.t 90, i 20, i 40], m 6 89, m 7 91]) .ret)))))))) .nop)))))) (.seq (.reg 19 [m 92 0, c 93 52 [.t 92, i
  0, i 40], m 13 93]) (.seq (.reg 20 [m 94 2, o 95 (.bin .quo .int (.t 94) (i 3)), m 96 13, o 97 (.len (.t 96)), c 98 51 [.t 95, .t 97], m 14 98]) (.seq (.reg 21 [m 100 13, m 101
  14, m 102 14, o 103 (.bin .add .int (.t 102) (i 2)), m 104 13, o 105 (.len (.t 104)), o 106 (.bin .rem .int (.t 103) (.t 105)), c 107 53 [.t 100, .t 101, .t 106], m 99 107, o 108
  (.ext (.t 99) 0), o 109 (.ext (.t 99) 1), o 110 (.ext (.t 99) 2), m 15 108, m 16 109, m 17 110]) (.seq (.seq (.reg 22 [m 111 17, o 112 (.bin .neq .int (.t 111) (i 0))]) (.cond
  (.t 112) (.seq (.reg 23 [m 113 13, m 114 1, c 115 52 [.t 114, i 0, i 40], m 6 113, m 7 115]) .ret) .nop)) (.seq (.reg 24 [m 116 15, m 117 16, m 6 116, m 7 117]) .ret))))))
def rv29 : List RV := [(.t 6), (.t 7)]
theorem ok29 : cFun Tryd.prog Tryd.f29 = some (ac29, rv29) := by kernel_rfl
theorem nt29 : Tryd.f29.ntmps = 118 := by kernel_rfl
theorem of29 : okF Tryd.prog 29 := ⟨Tryd.f29, Tryd.func29, by kernel_rfl, by kernel_rfl⟩

/- putlog/plane.Moments -/
def ac32 : AC := .seq (.reg 0 [o 1 (.box 1 (.t 0)), o 2 (.alloc [z]), o 3 (.alloc [z])]) (.seq (.seq (.reg 1 [o 7 (.ld 1 false (.t 1)), c 8 34 [.t 7], o 9 (.un .not (.t 8))]) (.cond (.t 9) (.seq
  (.reg 2 [u (.st 1 (.t 2) (i 0)), u (.st 1 (.t 3) (i 0))]) .ret) .nop)) (.seq (.seq (.reg 3 [o 10 (.ld 1 false (.t 1)), c 11 55 [.t 10]]) (.block 0 (.rfun (.t 11) [12, 13] (.seq
  (.reg 4 [o 4 (.alloc [z, z]), u (.st 2 (.t 4) (.t 12))]) (.reg 5 [o 5 (.alloc [z, z]), u (.st 2 (.t 5) (.t 13))])) (.block 1 (.seq (.drw 6 [o 14 (.ld 1 false (.t 1)), o 15 (.ia 2
  (.t 14) (i 0)), o 16 (.ld 2 true (.t 15)), o 17 (.ld 2 true (.t 4)), o 18 (.ld 2 true (.t 5)), c 19 56 [.t 16, .t 17, .t 18], m 6 19] []) (.seq (.drw 7 [o 20 (.ld 1 false (.t
  2)), m 21 6, o 22 (.ld 1 false (.t 1)), o 23 (.ia 2 (.t 22) (i 0)), o 24 (.fa 0 (.t 23)), o 25 (.ld 1 false (.t 24)), o 26 (.fa 0 (.t 4)), o 27 (.ld 1 false (.t 26)), o 28 (.bin
  .add .int (.t 25) (.t 27)), o 29 (.fa 0 (.t 5)), o 30 (.ld 1 false (.t 29)), o 31 (.bin .add .int (.t 28) (.t 30)), o 32 (.bin .mul .int (.t 21) (.t 31)), o 33 (.bin .add .int
  (.t 20) (.t 32)), u (.st 1 (.t 2) (.t 33))] []) (.drw 8 [o 34 (.ld 1 false (.t 3)), m 35 6, o 36 (.ld 1 false (.t 1)), o 37 (.ia 2 (.t 36) (i 0)), o 38 (.fa 1 (.t 37)), o 39 (.ld
  1 false (.t 38)), o 40 (.fa 1 (.t 4)), o 41 (.ld 1 false (.t 40)), o 42 (.bin .add .int (.t 39) (.t 41)), o 43 (.fa 1 (.t 5)), o 44 (.ld 1 false (.t 43)), o 45 (.bin .add .int
  (.t 42) (.t 44)), o 46 (.bin .mul .int (.t 35) (.t 45)), o 47 (.bin .add .int (.t 34) (.t 46)), u (.st 1 (.t 3) (.t 47))] []))))))) (.seq (.drw 9 [o 48 (.ld 1 false (.t 2)), o 49
  (.ld 1 false (.t 3)), u (.st 1 (.t 2) (.t 48)), u (.st 1 (.t 3) (.t 49))] [(1, 2)]) .ret)))
def rv32 : List RV := [(.c 2 1 false), (.c 3 1 false)]
theorem ok32 : cFun Tryd.prog Tryd.f32 = some (ac32, rv32) := by kernel_rfl
theorem nt32 : Tryd.f32.ntmps = 50 := by kernel_rfl
theorem of32 : okF Tryd.prog 32 := ⟨Tryd.f32, Tryd.func32, by kernel_rfl, by kernel_rfl⟩

/- putlog/plane.Valid -/
def ac34 : AC := .seq (.reg 0 [o 2 (.mv ff)]) (.seq (.seq (.reg 1 [m 8 0, o 9 (.len (.t 8)), o 10 (.bin .lss .int (.t 9) (i 3)), m 11 10, v 12 11 (.mv (.t 0)), v 13 11 (.len (.t 12)), v 14 11 (.bin
  .gtr .int (.t 13) (i 8)), o 15 (.pick (.t 11) tt (.t 14)), m 16 15, v 17 16 (.mv (.t 0)), v 18 16 (.call 36 [.t 17, .k (.clo (.func 37) [] [])]), o 19 (.pick (.t 16) tt (.t
  18))]) (.cond (.t 19) (.seq (.reg 2 [o 2 (.mv ff)]) .ret) .nop)) (.seq (.seq (.reg 3 [m 20 0, o 21 (.len (.t 20)), o 22 (.mv (i 0))]) (.block 0 (.loop (.seq (.reg 4 [o 23 (.bin
  .lss .int (.t 22) (.t 21))]) (.seq (.cond (.t 23) .nop (.exit 0)) (.seq (.block 1 (.seq (.reg 5 [m 24 22, o 25 (.ia 2 (.t 20) (.t 22)), o 26 (.ld 2 true (.t 25)), o 4 (.alloc [z,
  z]), m 3 24, u (.st 2 (.t 4) (.t 26))]) (.seq (.reg 6 [m 27 3, o 28 (.bin .add .int (.t 27) (i 1)), m 29 0, o 30 (.len (.t 29)), o 31 (.bin .rem .int (.t 28) (.t 30)), m 5 31])
  (.seq (.reg 7 [m 32 0, o 33 (.len (.t 32)), o 34 (.mv (i 0))]) (.block 2 (.loop (.seq (.reg 8 [o 35 (.bin .lss .int (.t 34) (.t 33))]) (.seq (.cond (.t 35) .nop (.exit 2)) (.seq
  (.block 3 (.seq (.reg 9 [m 36 34, o 37 (.ia 2 (.t 32) (.t 34)), o 38 (.ld 2 true (.t 37)), o 7 (.alloc [z, z]), m 6 36, u (.st 2 (.t 7) (.t 38))]) (.seq (.drw 10 [m 39 6, m 40 3,
  o 41 (.bin .neq .int (.t 39) (.t 40)), m 42 41, w 43 42 (.mv (.t 6)), w 44 42 (.mv (.t 5)), w 45 42 (.bin .neq .int (.t 43) (.t 44)), o 46 (.pick (.t 42) (.t 45) ff), m 47 46, w
  48 47 (.ld 2 true (.t 4)), w 49 47 (.mv (.t 0)), w 50 47 (.mv (.t 5)), w 51 47 (.ia 2 (.t 49) (.t 50)), w 52 47 (.ld 2 true (.t 51)), w 53 47 (.ld 2 true (.t 7)), w 54 47 (.call
  56 [.t 48, .t 52, .t 53]), w 55 47 (.bin .leq .int (.t 54) (i 0)), o 56 (.pick (.t 47) (.t 55) ff)] []) (.cond (.t 56) (.seq (.reg 11 [o 2 (.mv ff)]) .ret) .nop)))) (.reg 12 [o
  57 (.bin .add .int (.t 34) (i 1)), m 34 57])))))))))) (.reg 13 [o 58 (.bin .add .int (.t 22) (i 1)), m 22 58]))))))) (.seq (.reg 14 [o 2 (.mv tt)]) .ret)))
def rv34 : List RV := [(.t 2)]
theorem ok34 : cFun Tryd.prog Tryd.f34 = some (ac34, rv34) := by kernel_rfl
theorem nt34 : Tryd.f34.ntmps = 59 := by kernel_rfl
theorem of34 : okF Tryd.prog 34 := ⟨Tryd.f34, Tryd.func34, by kernel_rfl, by kernel_rfl⟩

/- slices.Clone   putlog/api.Place putlog/api.Place  -/
def ac35 : AC := .seq (.reg 0 [o 2 (.mv (.k (.sl 0 true [] [])))]) (.seq (.seq (.reg 1 [m 3 0, o 4 (.nils false (.t 3))]) (.cond (.t 4) (.seq (.reg 2 [o 2 (.mv (.k (.sl 0 true [] [])))]) .ret)
  .nop)) (.seq (.reg 3 [o 5 (.bsl 2 0 [z, z] []), m 6 0, o 7 (.app 2 16 [z, z] (.t 5) (.t 6)), m 2 7]) .ret))
def rv35 : List RV := [(.t 2)]
theorem ok35 : cFun Tryd.prog Tryd.f35 = some (ac35, rv35) := by kernel_rfl
theorem nt35 : Tryd.f35.ntmps = 8 := by kernel_rfl
theorem of35 : okF Tryd.prog 35 := ⟨Tryd.f35, Tryd.func35, by kernel_rfl, by kernel_rfl⟩

/- slices.ContainsFunc   putlog/api.Place putlog/api.Place  -/
def ac36 : AC := .seq (.reg 0 [o 4 (.mv ff)]) (.seq (.reg 1 [m 5 0, m 6 1, c 7 57 [.t 5, .t 6], o 8 (.bin .geq .int (.t 7) (i 0)), m 4 8]) .ret)
def rv36 : List RV := [(.t 4)]
theorem ok36 : cFun Tryd.prog Tryd.f36 = some (ac36, rv36) := by kernel_rfl
theorem nt36 : Tryd.f36.ntmps = 9 := by kernel_rfl
theorem of36 : okF Tryd.prog 36 := ⟨Tryd.f36, Tryd.func36, by kernel_rfl, by kernel_rfl⟩

/- putlog/plane.isOff -/
def ac37 : AC := .seq (.reg 0 [o 1 (.box 2 (.t 0)), o 2 (.mv ff)]) (.seq (.reg 1 [o 3 (.fa 0 (.t 1)), o 4 (.ld 1 false (.t 3)), o 5 (.fa 1 (.t 1)), o 6 (.ld 1 false (.t 5)), o 7 (.mm false [.t 4,
  .t 6]), o 8 (.bin .lss .int (.t 7) (i 0)), m 9 8, v 10 9 (.fa 0 (.t 1)), v 11 9 (.ld 1 false (.t 10)), v 12 9 (.fa 1 (.t 1)), v 13 9 (.ld 1 false (.t 12)), v 14 9 (.mm true [.t
  11, .t 13]), v 15 9 (.bin .gtr .int (.t 14) (i 40)), o 16 (.pick (.t 9) tt (.t 15)), m 2 16]) .ret)
def rv37 : List RV := [(.t 2)]
theorem ok37 : cFun Tryd.prog Tryd.f37 = some (ac37, rv37) := by kernel_rfl
theorem nt37 : Tryd.f37.ntmps = 17 := by kernel_rfl
theorem of37 : okF Tryd.prog 37 := ⟨Tryd.f37, Tryd.func37, by kernel_rfl, by kernel_rfl⟩

/- putlog/plane.Seam -/
def ac39 : AC := .seq (.reg 0 [o 3 (.box 1 (.t 1)), o 4 (.alloc [z, z, z, z]), o 5 (.alloc [.v (.bool false)])]) (.seq (.seq (.reg 1 [m 12 0, c 13 34 [.t 12], o 14 (.un .not (.t 13)), m 15 14, v 16
  15 (.ld 1 false (.t 3)), v 17 15 (.call 34 [.t 16]), v 18 15 (.un .not (.t 17)), o 19 (.pick (.t 15) tt (.t 18)), m 20 19, v 21 20 (.mv (.t 0)), v 22 20 (.ld 1 false (.t 3)), v
  23 20 (.call 41 [.t 21, .t 22]), o 24 (.pick (.t 20) tt (.t 23))]) (.cond (.t 24) (.seq (.reg 2 [o 25 (.build [z, z, z, z] []), u (.st 4 (.t 4) (.t 25)), u (.st 1 (.t 5) ff)])
  .ret) .nop)) (.seq (.seq (.reg 3 [m 26 0, c 27 55 [.t 26]]) (.block 0 (.rfun (.t 27) [28, 29] (.seq (.reg 4 [o 6 (.alloc [z, z]), u (.st 2 (.t 6) (.t 28))]) (.reg 5 [o 7 (.alloc
  [z, z]), u (.st 2 (.t 7) (.t 29))])) (.block 1 (.seq (.reg 6 [o 30 (.ld 1 false (.t 3)), c 31 55 [.t 30]]) (.block 2 (.rfun (.t 31) [32, 33] (.seq (.reg 7 [o 8 (.alloc [z, z]), u
  (.st 2 (.t 8) (.t 32))]) (.reg 8 [o 9 (.alloc [z, z]), u (.st 2 (.t 9) (.t 33))])) (.block 3 (.seq (.seq (.reg 9 [o 34 (.ld 2 true (.t 6)), o 35 (.ld 2 true (.t 7)), o 36 (.ld 2
  true (.t 8)), c 37 56 [.t 34, .t 35, .t 36], o 38 (.bin .neq .int (.t 37) (i 0)), m 39 38, v 40 39 (.ld 2 true (.t 6)), v 41 39 (.ld 2 true (.t 7)), v 42 39 (.ld 2 true (.t 9)),
  v 43 39 (.call 56 [.t 40, .t 41, .t 42]), v 44 39 (.bin .neq .int (.t 43) (i 0)), o 45 (.pick (.t 39) tt (.t 44))]) (.cond (.t 45) (.exit 3) .nop)) (.seq (.reg 10 [o 47 (.ld 2
  true (.t 6)), o 48 (.ld 2 true (.t 7)), o 49 (.ld 2 true (.t 8)), o 50 (.ld 2 true (.t 9)), c 51 58 [.t 47, .t 48, .t 49, .t 50], m 46 51, o 52 (.ext (.t 46) 0), o 53 (.ext (.t
  46) 1), o 10 (.alloc [z, z]), o 11 (.alloc [z, z]), u (.st 2 (.t 10) (.t 52)), u (.st 2 (.t 11) (.t 53))]) (.seq (.seq (.reg 11 [o 54 (.ld 2 true (.t 10)), o 55 (.ld 2 true (.t
  11)), o 56 (.bin .eql (.cells [true, true]) (.t 54) (.t 55)), m 57 56, v 58 57 (.ld 2 true (.t 10)), v 59 57 (.ld 2 true (.t 11)), v 60 57 (.call 59 [.t 58, .t 59]), v 61 57
  (.bin .gtr .int (.t 60) (i 0)), o 62 (.pick (.t 57) tt (.t 61))]) (.cond (.t 62) (.exit 3) .nop)) (.seq (.seq (.reg 12 [o 63 (.ld 2 true (.t 6)), o 64 (.ld 2 true (.t 7)), c 65
  59 [.t 63, .t 64], o 66 (.bin .gtr .int (.t 65) (i 0))]) (.cond (.t 66) (.reg 13 [o 67 (.ld 2 true (.t 11)), o 68 (.ld 2 true (.t 10)), u (.st 2 (.t 10) (.t 67)), u (.st 2 (.t
  11) (.t 68))]) .nop)) (.seq (.reg 14 [o 69 (.ld 2 true (.t 10)), o 70 (.ld 2 true (.t 11)), o 71 (.build [z, z, z, z] [(0, 2, .t 69), (2, 2, .t 70)]), u (.st 4 (.t 4) (.t 71)), u
  (.st 1 (.t 5) tt)]) .ret))))))))))))) (.seq (.reg 15 [o 72 (.build [z, z, z, z] []), u (.st 4 (.t 4) (.t 72)), u (.st 1 (.t 5) ff)]) .ret)))
def rv39 : List RV := [(.c 4 4 true), (.c 5 1 false)]
theorem ok39 : cFun Tryd.prog Tryd.f39 = some (ac39, rv39) := by kernel_rfl
theorem nt39 : Tryd.f39.ntmps = 73 := by kernel_rfl
theorem of39 : okF Tryd.prog 39 := ⟨Tryd.f39, Tryd.func39, by kernel_rfl, by kernel_rfl⟩

/- putlog/plane.Area2 -/
def ac40 : AC := .seq (.reg 0 [o 1 (.box 1 (.t 0)), o 2 (.mv (i 0))]) (.seq (.seq (.reg 1 [o 6 (.ld 1 false (.t 1)), c 7 34 [.t 6], o 8 (.un .not (.t 7))]) (.cond (.t 8) (.seq (.reg 2 [o 2 (.mv (i
  0))]) .ret) .nop)) (.seq (.reg 3 [o 3 (.alloc [z]), u (.st 1 (.t 3) (i 0))]) (.seq (.seq (.reg 4 [o 9 (.ld 1 false (.t 1)), c 10 55 [.t 9]]) (.block 0 (.rfun (.t 10) [11, 12]
  (.seq (.reg 5 [o 4 (.alloc [z, z]), u (.st 2 (.t 4) (.t 11))]) (.reg 6 [o 5 (.alloc [z, z]), u (.st 2 (.t 5) (.t 12))])) (.block 1 (.drw 7 [o 13 (.ld 1 false (.t 3)), o 14 (.ld 1
  false (.t 1)), o 15 (.ia 2 (.t 14) (i 0)), o 16 (.ld 2 true (.t 15)), o 17 (.ld 2 true (.t 4)), o 18 (.ld 2 true (.t 5)), c 19 56 [.t 16, .t 17, .t 18], o 20 (.bin .add .int (.t
  13) (.t 19)), u (.st 1 (.t 3) (.t 20))] [(0, 6)]))))) (.seq (.reg 8 [o 21 (.ld 1 false (.t 3)), m 2 21]) .ret))))
def rv40 : List RV := [(.t 2)]
theorem ok40 : cFun Tryd.prog Tryd.f40 = some (ac40, rv40) := by kernel_rfl
theorem nt40 : Tryd.f40.ntmps = 22 := by kernel_rfl
theorem of40 : okF Tryd.prog 40 := ⟨Tryd.f40, Tryd.func40, by kernel_rfl, by kernel_rfl⟩

/- putlog/plane.Overlap -/
def ac41 : AC := .seq (.reg 0 [o 4 (.mv ff)]) (.seq (.reg 1 [m 9 0, m 10 1, c 11 60 [.t 9, .t 10], m 8 11, o 12 (.ext (.t 8) 0), o 13 (.ext (.t 8) 1), o 14 (.ext (.t 8) 2), m 5 12, m 6 13, m 7 14])
  (.seq (.reg 2 [m 15 0, c 16 34 [.t 15], m 17 16, w 18 17 (.mv (.t 1)), w 19 17 (.call 34 [.t 18]), o 20 (.pick (.t 17) (.t 19) ff), m 21 20, w 22 21 (.mv (.t 7)), w 23 21 (.un
  .not (.t 22)), o 24 (.pick (.t 21) (.t 23) ff), m 4 24]) .ret))
def rv41 : List RV := [(.t 4)]
theorem ok41 : cFun Tryd.prog Tryd.f41 = some (ac41, rv41) := by kernel_rfl
theorem nt41 : Tryd.f41.ntmps = 25 := by kernel_rfl
theorem of41 : okF Tryd.prog 41 := ⟨Tryd.f41, Tryd.func41, by kernel_rfl, by kernel_rfl⟩

/- putlog/plane.side -/
def ac47 : AC := .seq (.reg 0 [o 3 (.box 2 (.t 1)), o 4 (.mv (i 0))]) (.seq (.reg 1 [o 5 (.alloc [z]), u (.st 1 (.t 5) (i 4611686018427387903))]) (.seq (.seq (.reg 2 [m 8 0, c 9 55 [.t 8]]) (.block
  0 (.rfun (.t 9) [10, 11] (.seq (.reg 3 [o 6 (.alloc [z, z]), u (.st 2 (.t 6) (.t 10))]) (.reg 4 [o 7 (.alloc [z, z]), u (.st 2 (.t 7) (.t 11))])) (.block 1 (.drw 5 [o 12 (.ld 1
  false (.t 5)), o 13 (.ld 2 true (.t 6)), o 14 (.ld 2 true (.t 7)), o 15 (.ld 2 true (.t 3)), c 16 56 [.t 13, .t 14, .t 15], o 17 (.mm false [.t 12, .t 16]), u (.st 1 (.t 5) (.t
  17))] [(0, 4)]))))) (.seq (.reg 6 [o 18 (.ld 1 false (.t 5)), c 19 64 [.t 18, i 0], m 4 19]) .ret)))
def rv47 : List RV := [(.t 4)]
theorem ok47 : cFun Tryd.prog Tryd.f47 = some (ac47, rv47) := by kernel_rfl
theorem nt47 : Tryd.f47.ntmps = 20 := by kernel_rfl
theorem of47 : okF Tryd.prog 47 := ⟨Tryd.f47, Tryd.func47, by kernel_rfl, by kernel_rfl⟩

/- putlog/plane.Cut$1 -/
def ac48 : AC := .seq (.reg 0 [o 5 (.mv (.k (.sl 0 true [] [])))]) (.seq (.seq (.reg 1 [m 6 0, m 7 1, o 8 (.bin .leq .int (.t 6) (.t 7))]) (.cond (.t 8) (.seq (.reg 2 [o 9 (.ld 1 false (.t 2)), m
  10 0, m 11 1, o 12 (.bin .add .int (.t 11) (i 1)), o 13 (.slc 2 (.t 9) (some (.t 10)) (some (.t 12)) none), c 14 35 [.t 13], m 5 14]) .ret) .nop)) (.seq (.drw 3 [o 15 (.ld 1
  false (.t 2)), m 16 0, o 17 (.slc 2 (.t 15) (some (.t 16)) none none), o 18 (.ld 1 false (.t 2)), m 19 1, o 20 (.bin .add .int (.t 19) (i 1)), o 21 (.slc 2 (.t 18) none (some (.t
  20)) none), o 22 (.bsl 1 2 [.sl 0 true [] []] [(0, .t 17), (1, .t 21)]), c 23 49 [.t 22], m 5 23] [(2, 3), (0, 6), (2, 6)]) .ret))
def rv48 : List RV := [(.t 5)]
theorem ok48 : cFun Tryd.prog Tryd.f48 = some (ac48, rv48) := by kernel_rfl
theorem nt48 : Tryd.f48.ntmps = 24 := by kernel_rfl
theorem of48 : okF Tryd.prog 48 := ⟨Tryd.f48, Tryd.func48, by kernel_rfl, by kernel_rfl⟩

/- slices.Concat   putlog/api.Place putlog/api.Place  -/
def ac49 : AC := .seq (.reg 0 [o 2 (.mv (.k (.sl 0 true [] [])))]) (.seq (.reg 1 [o 3 (.mv (i 0))]) (.seq (.seq (.reg 2 [m 9 0, o 10 (.len (.t 9)), o 11 (.mv (i 0))]) (.block 0 (.loop (.seq (.reg 3
  [o 12 (.bin .lss .int (.t 11) (.t 10))]) (.seq (.cond (.t 12) .nop (.exit 0)) (.seq (.block 1 (.seq (.reg 4 [o 13 (.ia 1 (.t 9) (.t 11)), o 14 (.ld 1 false (.t 13)), m 5 14])
  (.seq (.reg 5 [m 15 3, m 16 5, o 17 (.len (.t 16)), o 18 (.bin .add .int (.t 15) (.t 17)), m 3 18]) (.seq (.reg 6 [m 19 3, o 20 (.bin .lss .int (.t 19) (i 0))]) (.cond (.t 20)
  (.reg 7 [o 21 .bad, u (.pan (.t 21))]) .nop))))) (.reg 8 [o 22 (.bin .add .int (.t 11) (i 1)), m 11 22]))))))) (.seq (.reg 9 [m 23 3, c 24 65 [.k (.sl 0 true [] []), .t 23], m 6
  24]) (.seq (.seq (.reg 10 [m 25 0, o 26 (.len (.t 25)), o 27 (.mv (i 0))]) (.block 2 (.loop (.seq (.reg 11 [o 28 (.bin .lss .int (.t 27) (.t 26))]) (.seq (.cond (.t 28) .nop
  (.exit 2)) (.seq (.block 3 (.seq (.reg 12 [o 29 (.ia 1 (.t 25) (.t 27)), o 30 (.ld 1 false (.t 29)), m 8 30]) (.reg 13 [m 31 6, m 32 8, o 33 (.app 2 16 [z, z] (.t 31) (.t 32)), m
  6 33]))) (.reg 14 [o 34 (.bin .add .int (.t 27) (i 1)), m 27 34]))))))) (.seq (.reg 15 [m 35 6, m 2 35]) .ret)))))
def rv49 : List RV := [(.t 2)]
theorem ok49 : cFun Tryd.prog Tryd.f49 = some (ac49, rv49) := by kernel_rfl
theorem nt49 : Tryd.f49.ntmps = 36 := by kernel_rfl
theorem of49 : okF Tryd.prog 49 := ⟨Tryd.f49, Tryd.func49, by kernel_rfl, by kernel_rfl⟩

/- putlog/putlogref07.pick -/
def ac51 : AC := .seq (.reg 0 [o 4 (.mv (i 0))]) (.seq (.seq (.reg 1 [m 5 0, o 6 (.bin .lss .int (.t 5) (i 0))]) (.cond (.t 6) (.reg 2 [m 7 0, o 8 (.bin .add .int (.t 7) (i 1)), o 9 (.un .neg (.t
  8)), m 0 9]) .nop)) (.seq (.reg 3 [m 10 0, m 11 1, o 12 (.bin .rem .int (.t 10) (.t 11)), m 4 12]) .ret))
def rv51 : List RV := [(.t 4)]
theorem ok51 : cFun Tryd.prog Tryd.f51 = some (ac51, rv51) := by kernel_rfl
theorem nt51 : Tryd.f51.ntmps = 13 := by kernel_rfl
theorem of51 : okF Tryd.prog 51 := ⟨Tryd.f51, Tryd.func51, by kernel_rfl, by kernel_rfl⟩

/- putlog/putlogref07.Made -/
def ac52 : AC := .seq (.reg 0 [o 6 (.mv (.k (.sl 0 true [] [])))]) (.seq (.reg 1 [m 12 1, o 13 (.build [z, z] [(0, 1, .t 12), (1, 1, i 10)]), m 14 2, o 15 (.build [z, z] [(0, 1, .t 14), (1, 1, i
  10)]), m 16 1, o 17 (.build [z, z] [(0, 1, .t 16), (1, 1, i 20)]), o 18 (.bsl 2 3 [z, z] [(0, .t 13), (1, .t 15), (2, .t 17)]), m 7 18]) (.seq (.reg 2 [o 8 (.mv (.k (.sl 0 true
  [] [])))]) (.seq (.seq (.reg 3 [o 9 (.mv (i 0))]) (.block 0 (.loop (.seq (.seq (.reg 4 [m 19 9, m 20 0, o 21 (.len (.t 20)), o 22 (.bin .lss .int (.t 19) (.t 21)), m 23 22, w 24
  23 (.mv (.t 9)), w 25 23 (.bin .lss .int (.t 24) (i 8)), o 26 (.pick (.t 23) (.t 25) ff)]) (.cond (.t 26) .nop (.exit 0))) (.seq (.block 1 (.drw 6 [m 29 8, m 30 1, m 31 0, m 32
  9, o 33 (.ia 2 (.t 31) (.t 32)), o 34 (.iaA 2 1 (.t 33) (i 0)), o 35 (.ld 1 false (.t 34)), m 36 2, m 37 1, o 38 (.bin .sub .int (.t 36) (.t 37)), o 39 (.bin .add .int (.t 38) (i
  1)), c 40 51 [.t 35, .t 39], o 41 (.bin .add .int (.t 30) (.t 40)), m 42 0, m 43 9, o 44 (.ia 2 (.t 42) (.t 43)), o 45 (.iaA 2 1 (.t 44) (i 1)), o 46 (.ld 1 false (.t 45)), c 47
  51 [.t 46, i 41], o 48 (.build [z, z] [(0, 1, .t 41), (1, 1, .t 47)]), o 49 (.bsl 2 1 [z, z] [(0, .t 48)]), o 50 (.app 2 16 [z, z] (.t 29) (.t 49)), m 8 50] [(11, 15), (11,
  17)])) (.reg 5 [m 27 9, o 28 (.bin .add .int (.t 27) (i 1)), m 9 28])))))) (.seq (.seq (.reg 7 [m 51 8, o 52 (.len (.t 51)), o 53 (.bin .gtr .int (.t 52) (i 0))]) (.cond (.t 53)
  (.seq (.reg 8 [m 54 8, c 55 66 [.t 54], m 10 55]) (.seq (.reg 9 [m 56 10, o 57 (.len (.t 56)), o 58 (.bin .geq .int (.t 57) (i 3))]) (.cond (.t 58) (.reg 10 [m 59 10, m 7 59])
  .nop))) .nop)) (.seq (.reg 11 [o 11 (.mv (i 0))]) (.seq (.seq (.reg 12 [m 60 0, o 61 (.len (.t 60)), o 62 (.bin .gtr .int (.t 61) (i 0))]) (.cond (.t 62) (.reg 13 [m 63 0, o 64
  (.ia 2 (.t 63) (i 0)), o 65 (.iaA 2 1 (.t 64) (i 0)), o 66 (.ld 1 false (.t 65)), o 67 (.bin .quo .int (.t 66) (i 41)), m 68 7, o 69 (.len (.t 68)), c 70 51 [.t 67, .t 69], m 11
  70]) .nop)) (.seq (.drw 14 [o 71 (.bsl 2 0 [z, z] []), m 72 7, m 73 11, o 74 (.slc 2 (.t 72) (some (.t 73)) none none), o 75 (.app 2 16 [z, z] (.t 71) (.t 74)), m 76 7, m 77 11,
  o 78 (.slc 2 (.t 76) none (some (.t 77)) none), o 79 (.app 2 16 [z, z] (.t 75) (.t 78)), m 6 79] [(0, 3), (0, 7), (3, 7), (4, 7)]) .ret)))))))
def rv52 : List RV := [(.t 6)]
theorem ok52 : cFun Tryd.prog Tryd.f52 = some (ac52, rv52) := by kernel_rfl
theorem nt52 : Tryd.f52.ntmps = 80 := by kernel_rfl
theorem of52 : okF Tryd.prog 52 := ⟨Tryd.f52, Tryd.func52, by kernel_rfl, by kernel_rfl⟩

/- putlog/putlogref07.Cut -/
def ac53 : AC := .seq (.reg 0 [o 6 (.mv (.k (.sl 0 true [] []))), o 7 (.mv (.k (.sl 0 true [] []))), o 8 (.mv (i 0))]) (.seq (.seq (.reg 1 [m 11 0, c 12 67 [.t 11], o 13 (.un .not (.t 12)), m 14
  13, v 15 14 (.mv (.t 1)), v 16 14 (.bin .lss .int (.t 15) (i 0)), o 17 (.pick (.t 14) tt (.t 16)), m 18 17, v 19 18 (.mv (.t 1)), v 20 18 (.mv (.t 0)), v 21 18 (.len (.t 20)), v
  22 18 (.bin .geq .int (.t 19) (.t 21)), o 23 (.pick (.t 18) tt (.t 22)), m 24 23, v 25 24 (.mv (.t 2)), v 26 24 (.bin .lss .int (.t 25) (i 0)), o 27 (.pick (.t 24) tt (.t 26)), m
  28 27, v 29 28 (.mv (.t 2)), v 30 28 (.mv (.t 0)), v 31 28 (.len (.t 30)), v 32 28 (.bin .geq .int (.t 29) (.t 31)), o 33 (.pick (.t 28) tt (.t 32))]) (.cond (.t 33) (.seq (.reg
  2 [o 6 (.mv (.k (.sl 0 true [] []))), o 7 (.mv (.k (.sl 0 true [] []))), o 8 (.mv (i 70))]) .ret) .nop)) (.seq (.reg 3 [m 34 0, m 35 1, m 36 2, c 37 68 [.t 34, .t 35, .t 36], m 9
  37]) (.seq (.reg 4 [m 38 0, m 39 2, m 40 1, c 41 68 [.t 38, .t 39, .t 40], m 10 41]) (.seq (.seq (.reg 5 [m 42 9, o 43 (.len (.t 42)), o 44 (.bin .lss .int (.t 43) (i 3)), m 45
  44, v 46 45 (.mv (.t 10)), v 47 45 (.len (.t 46)), v 48 45 (.bin .lss .int (.t 47) (i 3)), o 49 (.pick (.t 45) tt (.t 48))]) (.cond (.t 49) (.seq (.reg 6 [o 6 (.mv (.k (.sl 0
  true [] []))), o 7 (.mv (.k (.sl 0 true [] []))), o 8 (.mv (i 70))]) .ret) .nop)) (.seq (.reg 7 [m 50 9, m 51 10, m 6 50, m 7 51, o 8 (.mv (i 0))]) .ret)))))
def rv53 : List RV := [(.t 6), (.t 7), (.t 8)]
theorem ok53 : cFun Tryd.prog Tryd.f53 = some (ac53, rv53) := by kernel_rfl
theorem nt53 : Tryd.f53.ntmps = 52 := by kernel_rfl
theorem of53 : okF Tryd.prog 53 := ⟨Tryd.f53, Tryd.func53, by kernel_rfl, by kernel_rfl⟩

/- putlog/plane.edges -/
def ac55 : AC := .seq (.reg 0 [o 1 (.box 1 (.t 0)), o 2 (.mv (.k (.v .nilFunc)))]) (.seq (.reg 1 [o 3 (.mkf (.func 69) [] [.t 1]), m 2 3]) .ret)
def rv55 : List RV := [(.t 2)]
theorem ok55 : cFun Tryd.prog Tryd.f55 = some (ac55, rv55) := by kernel_rfl
theorem nt55 : Tryd.f55.ntmps = 4 := by kernel_rfl
theorem of55 : okF Tryd.prog 55 := ⟨Tryd.f55, Tryd.func55, by kernel_rfl, by kernel_rfl⟩

/- putlog/plane.turn -/
def ac56 : AC := .seq (.reg 0 [o 3 (.box 2 (.t 0)), o 4 (.box 2 (.t 1)), o 5 (.box 2 (.t 2)), o 6 (.mv (i 0))]) (.seq (.reg 1 [o 7 (.fa 0 (.t 4)), o 8 (.ld 1 false (.t 7)), o 9 (.fa 0 (.t 3)), o 10
  (.ld 1 false (.t 9)), o 11 (.bin .sub .int (.t 8) (.t 10)), o 12 (.fa 1 (.t 5)), o 13 (.ld 1 false (.t 12)), o 14 (.fa 1 (.t 3)), o 15 (.ld 1 false (.t 14)), o 16 (.bin .sub .int
  (.t 13) (.t 15)), o 17 (.bin .mul .int (.t 11) (.t 16)), o 18 (.fa 1 (.t 4)), o 19 (.ld 1 false (.t 18)), o 20 (.fa 1 (.t 3)), o 21 (.ld 1 false (.t 20)), o 22 (.bin .sub .int
  (.t 19) (.t 21)), o 23 (.fa 0 (.t 5)), o 24 (.ld 1 false (.t 23)), o 25 (.fa 0 (.t 3)), o 26 (.ld 1 false (.t 25)), o 27 (.bin .sub .int (.t 24) (.t 26)), o 28 (.bin .mul .int
  (.t 22) (.t 27)), o 29 (.bin .sub .int (.t 17) (.t 28)), m 6 29]) .ret)
def rv56 : List RV := [(.t 6)]
theorem ok56 : cFun Tryd.prog Tryd.f56 = some (ac56, rv56) := by kernel_rfl
theorem nt56 : Tryd.f56.ntmps = 30 := by kernel_rfl
theorem of56 : okF Tryd.prog 56 := ⟨Tryd.f56, Tryd.func56, by kernel_rfl, by kernel_rfl⟩

/- slices.IndexFunc   putlog/api.Place putlog/api.Place  -/
def ac57 : AC := .seq (.reg 0 [o 4 (.mv (i 0))]) (.seq (.seq (.reg 1 [m 6 0, o 7 (.len (.t 6)), o 8 (.mv (i 0))]) (.block 0 (.loop (.seq (.reg 2 [o 9 (.bin .lss .int (.t 8) (.t 7))]) (.seq (.cond
  (.t 9) .nop (.exit 0)) (.seq (.block 1 (.seq (.reg 3 [m 10 8, m 5 10]) (.seq (.reg 4 [m 11 1, m 12 0, m 13 5, o 14 (.ia 2 (.t 12) (.t 13)), o 15 (.ld 2 true (.t 14)), o 16 (.cv
  (.t 11) [.t 15])]) (.cond (.t 16) (.seq (.reg 5 [m 17 5, m 4 17]) .ret) .nop)))) (.reg 6 [o 18 (.bin .add .int (.t 8) (i 1)), m 8 18]))))))) (.seq (.reg 7 [o 4 (.mv (i (-1)))])
  .ret))
def rv57 : List RV := [(.t 4)]
theorem ok57 : cFun Tryd.prog Tryd.f57 = some (ac57, rv57) := by kernel_rfl
theorem nt57 : Tryd.f57.ntmps = 19 := by kernel_rfl
theorem of57 : okF Tryd.prog 57 := ⟨Tryd.f57, Tryd.func57, by kernel_rfl, by kernel_rfl⟩

/- putlog/plane.common -/
def ac58 : AC := .seq (.reg 0 [o 4 (.box 2 (.t 0)), o 5 (.box 2 (.t 1)), o 6 (.box 2 (.t 2)), o 7 (.box 2 (.t 3)), o 8 (.alloc [z, z]), o 9 (.alloc [z, z])]) (.seq (.drw 1 [o 12 (.ld 2 true (.t
  4)), o 13 (.ld 2 true (.t 5)), o 14 (.bsl 2 2 [z, z] [(0, .t 12), (1, .t 13)]), o 15 (.ld 2 true (.t 6)), o 16 (.ld 2 true (.t 7)), o 17 (.bsl 2 2 [z, z] [(0, .t 15), (1, .t
  16)]), m 10 14, m 11 17] [(2, 3), (2, 4), (0, 5), (1, 5), (2, 5)]) (.seq (.reg 2 [m 18 10, c 19 70 [.t 18, .k (.clo (.func 59) [] [])]]) (.seq (.reg 3 [m 20 11, c 21 70 [.t 20,
  .k (.clo (.func 59) [] [])]]) (.seq (.drw 4 [m 22 10, o 23 (.ia 2 (.t 22) (i 0)), o 24 (.ld 2 true (.t 23)), m 25 11, o 26 (.ia 2 (.t 25) (i 0)), o 27 (.ld 2 true (.t 26)), o 28
  (.bsl 2 2 [z, z] [(0, .t 24), (1, .t 27)]), c 29 71 [.t 28, .k (.clo (.func 59) [] [])], m 30 10, o 31 (.ia 2 (.t 30) (i 1)), o 32 (.ld 2 true (.t 31)), m 33 11, o 34 (.ia 2 (.t
  33) (i 1)), o 35 (.ld 2 true (.t 34)), o 36 (.bsl 2 2 [z, z] [(0, .t 32), (1, .t 35)]), c 37 72 [.t 36, .k (.clo (.func 59) [] [])], u (.st 2 (.t 8) (.t 29)), u (.st 2 (.t 9) (.t
  37))] [(6, 9), (7, 9), (6, 10), (7, 10), (6, 12), (7, 12), (6, 13), (7, 13), (1, 14), (2, 14), (4, 14), (5, 14), (6, 14), (7, 14)]) .ret))))
def rv58 : List RV := [(.c 8 2 true), (.c 9 2 true)]
theorem ok58 : cFun Tryd.prog Tryd.f58 = some (ac58, rv58) := by kernel_rfl
theorem nt58 : Tryd.f58.ntmps = 38 := by kernel_rfl
theorem of58 : okF Tryd.prog 58 := ⟨Tryd.f58, Tryd.func58, by kernel_rfl, by kernel_rfl⟩

/- putlog/plane.order -/
def ac59 : AC := .seq (.reg 0 [o 2 (.box 2 (.t 0)), o 3 (.box 2 (.t 1)), o 4 (.mv (i 0))]) (.seq (.drw 1 [o 5 (.fa 0 (.t 2)), o 6 (.ld 1 false (.t 5)), o 7 (.fa 0 (.t 3)), o 8 (.ld 1 false (.t 7)),
  c 9 64 [.t 6, .t 8], o 10 (.fa 1 (.t 2)), o 11 (.ld 1 false (.t 10)), o 12 (.fa 1 (.t 3)), o 13 (.ld 1 false (.t 12)), c 14 64 [.t 11, .t 13], o 15 (.bsl 1 2 [z] [(0, .t 9), (1,
  .t 14)]), c 16 73 [.t 15], m 4 16] [(4, 6), (4, 8)]) .ret)
def rv59 : List RV := [(.t 4)]
theorem ok59 : cFun Tryd.prog Tryd.f59 = some (ac59, rv59) := by kernel_rfl
theorem nt59 : Tryd.f59.ntmps = 17 := by kernel_rfl
theorem of59 : okF Tryd.prog 59 := ⟨Tryd.f59, Tryd.func59, by kernel_rfl, by kernel_rfl⟩

/- putlog/plane.Side -/
def ac60 : AC := .seq (.reg 0 [o 4 (.mv (i 0)), o 5 (.mv (i 0)), o 6 (.mv ff)]) (.seq (.seq (.reg 1 [m 9 0, c 10 34 [.t 9], o 11 (.un .not (.t 10)), m 12 11, v 13 12 (.mv (.t 1)), v 14 12 (.call 34
  [.t 13]), v 15 12 (.un .not (.t 14)), o 16 (.pick (.t 12) tt (.t 15))]) (.cond (.t 16) (.seq (.reg 2 [o 4 (.mv (i 0)), o 5 (.mv (i 0)), o 6 (.mv ff)]) .ret) .nop)) (.seq (.seq
  (.reg 3 [m 17 0, m 18 1, c 19 74 [.t 17, .t 18], m 7 19]) (.seq (.reg 4 [m 20 7, o 21 (.bin .geq .int (.t 20) (i 0))]) (.cond (.t 21) (.seq (.reg 5 [m 22 7, o 4 (.mv (i 0)), m 5
  22, o 6 (.mv tt)]) .ret) .nop))) (.seq (.seq (.reg 6 [m 23 1, m 24 0, c 25 74 [.t 23, .t 24], m 8 25]) (.seq (.reg 7 [m 26 8, o 27 (.bin .geq .int (.t 26) (i 0))]) (.cond (.t 27)
  (.seq (.reg 8 [m 28 8, o 4 (.mv (i 1)), m 5 28, o 6 (.mv tt)]) .ret) .nop))) (.seq (.reg 9 [o 4 (.mv (i 0)), o 5 (.mv (i 0)), o 6 (.mv ff)]) .ret))))
def rv60 : List RV := [(.t 4), (.t 5), (.t 6)]
theorem ok60 : cFun Tryd.prog Tryd.f60 = some (ac60, rv60) := by kernel_rfl
theorem nt60 : Tryd.f60.ntmps = 29 := by kernel_rfl
theorem of60 : okF Tryd.prog 60 := ⟨Tryd.f60, Tryd.func60, by kernel_rfl, by kernel_rfl⟩

/- cmp.Compare int  -/
def ac64 : AC := .seq (.reg 0 [o 4 (.mv (i 0))]) (.seq (.reg 1 [m 7 0, c 8 77 [.t 7], m 5 8]) (.seq (.reg 2 [m 9 1, c 10 77 [.t 9], m 6 10]) (.seq (.seq (.reg 3 [m 11 5]) (.cond (.t 11) (.seq (.seq
  (.reg 4 [m 12 6]) (.cond (.t 12) (.seq (.reg 5 [o 4 (.mv (i 0))]) .ret) .nop)) (.seq (.reg 6 [o 4 (.mv (i (-1)))]) .ret)) .nop)) (.seq (.seq (.reg 7 [m 13 6]) (.cond (.t 13)
  (.seq (.reg 8 [o 4 (.mv (i 1))]) .ret) .nop)) (.seq (.seq (.reg 9 [m 14 0, m 15 1, o 16 (.bin .lss .int (.t 14) (.t 15))]) (.cond (.t 16) (.seq (.reg 10 [o 4 (.mv (i (-1)))])
  .ret) .nop)) (.seq (.seq (.reg 11 [m 17 0, m 18 1, o 19 (.bin .gtr .int (.t 17) (.t 18))]) (.cond (.t 19) (.seq (.reg 12 [o 4 (.mv (i 1))]) .ret) .nop)) (.seq (.reg 13 [o 4 (.mv
  (i 0))]) .ret)))))))
def rv64 : List RV := [(.t 4)]
theorem ok64 : cFun Tryd.prog Tryd.f64 = some (ac64, rv64) := by kernel_rfl
theorem nt64 : Tryd.f64.ntmps = 20 := by kernel_rfl
theorem of64 : okF Tryd.prog 64 := ⟨Tryd.f64, Tryd.func64, by kernel_rfl, by kernel_rfl⟩

/- slices.Grow   putlog/api.Place putlog/api.Place  -/
def ac65 : AC := .seq (.reg 0 [o 4 (.mv (.k (.sl 0 true [] [])))]) (.seq (.seq (.reg 1 [m 5 1, o 6 (.bin .lss .int (.t 5) (i 0))]) (.cond (.t 6) (.reg 2 [o 7 .bad, u (.pan (.t 7))]) .nop)) (.seq
  (.seq (.reg 3 [m 8 1, m 9 0, o 10 (.cap (.t 9)), m 11 0, o 12 (.len (.t 11)), o 13 (.bin .sub .int (.t 10) (.t 12)), o 14 (.bin .sub .int (.t 8) (.t 13)), m 1 14]) (.seq (.reg 4
  [m 15 1, o 16 (.bin .gtr .int (.t 15) (i 0))]) (.cond (.t 16) (.reg 5 [m 17 0, m 18 0, o 19 (.cap (.t 18)), o 20 (.slc 2 (.t 17) none (some (.t 19)) none), m 21 1, o 22 (.appn 2
  16 [z, z] (.t 20) (.t 21)), m 23 0, o 24 (.len (.t 23)), o 25 (.slc 2 (.t 22) none (some (.t 24)) none), m 0 25]) .nop))) (.seq (.reg 6 [m 26 0, m 4 26]) .ret)))
def rv65 : List RV := [(.t 4)]
theorem ok65 : cFun Tryd.prog Tryd.f65 = some (ac65, rv65) := by kernel_rfl
theorem nt65 : Tryd.f65.ntmps = 27 := by kernel_rfl
theorem of65 : okF Tryd.prog 65 := ⟨Tryd.f65, Tryd.func65, by kernel_rfl, by kernel_rfl⟩

/- putlog/putlogref07.Hull -/
def ac66 : AC := .seq (.reg 0 [o 2 (.mv (.k (.sl 0 true [] [])))]) (.seq (.reg 1 [m 10 0, o 11 (.ia 2 (.t 10) (i 0)), o 12 (.ld 2 true (.t 11)), o 3 (.alloc [z, z]), u (.st 2 (.t 3) (.t 12))])
  (.seq (.seq (.reg 2 [o 4 (.mv (i 0))]) (.block 0 (.loop (.seq (.seq (.reg 3 [m 13 4, m 14 0, o 15 (.len (.t 14)), o 16 (.bin .lss .int (.t 13) (.t 15))]) (.cond (.t 16) .nop
  (.exit 0))) (.seq (.block 1 (.seq (.drw 5 [m 19 0, m 20 4, o 21 (.ia 2 (.t 19) (.t 20)), o 22 (.fa 1 (.t 21)), o 23 (.ld 1 false (.t 22)), o 24 (.fa 1 (.t 3)), o 25 (.ld 1 false
  (.t 24)), o 26 (.bin .lss .int (.t 23) (.t 25)), m 27 26, v 28 27 (.mv (.t 0)), v 29 27 (.mv (.t 4)), v 30 27 (.ia 2 (.t 28) (.t 29)), v 31 27 (.fa 1 (.t 30)), v 32 27 (.ld 1
  false (.t 31)), v 33 27 (.fa 1 (.t 3)), v 34 27 (.ld 1 false (.t 33)), v 35 27 (.bin .eql .int (.t 32) (.t 34)), v 36 27 (.mv (.t 35)), w 37 36 (.mv (.t 0)), w 38 36 (.mv (.t
  4)), w 39 36 (.ia 2 (.t 37) (.t 38)), w 40 36 (.fa 0 (.t 39)), w 41 36 (.ld 1 false (.t 40)), w 42 36 (.fa 0 (.t 3)), w 43 36 (.ld 1 false (.t 42)), w 44 36 (.bin .lss .int (.t
  41) (.t 43)), v 45 27 (.pick (.t 36) (.t 44) ff), o 46 (.pick (.t 27) tt (.t 45))] []) (.cond (.t 46) (.reg 6 [m 47 0, m 48 4, o 49 (.ia 2 (.t 47) (.t 48)), o 50 (.ld 2 true (.t
  49)), u (.st 2 (.t 3) (.t 50))]) .nop))) (.reg 4 [m 17 4, o 18 (.bin .add .int (.t 17) (i 1)), m 4 18])))))) (.seq (.reg 7 [o 51 (.ld 2 true (.t 3)), o 52 (.bsl 2 1 [z, z] [(0,
  .t 51)]), m 5 52]) (.seq (.reg 8 [o 53 (.ld 2 true (.t 3)), o 6 (.alloc [z, z]), u (.st 2 (.t 6) (.t 53))]) (.block 2 (.loop (.seq (.block 3 (.seq (.reg 9 [o 54 (.ld 2 true (.t
  6)), o 7 (.alloc [z, z]), u (.st 2 (.t 7) (.t 54))]) (.seq (.seq (.reg 10 [o 8 (.mv (i 0))]) (.block 4 (.loop (.seq (.seq (.reg 11 [m 55 8, m 56 0, o 57 (.len (.t 56)), o 58
  (.bin .lss .int (.t 55) (.t 57))]) (.cond (.t 58) .nop (.exit 4))) (.seq (.block 5 (.seq (.seq (.drw 13 [m 61 0, m 62 8, o 63 (.ia 2 (.t 61) (.t 62)), o 64 (.ld 2 true (.t 63)),
  o 65 (.ld 2 true (.t 6)), o 66 (.bin .eql (.cells [true, true]) (.t 64) (.t 65))] []) (.cond (.t 66) (.exit 5) .nop)) (.seq (.drw 14 [o 67 (.ld 2 true (.t 6)), o 68 (.ld 2 true
  (.t 7)), m 69 0, m 70 8, o 71 (.ia 2 (.t 69) (.t 70)), o 72 (.ld 2 true (.t 71)), c 73 78 [.t 67, .t 68, .t 72], m 9 73] []) (.seq (.drw 15 [o 74 (.ld 2 true (.t 7)), o 75 (.ld 2
  true (.t 6)), o 76 (.bin .eql (.cells [true, true]) (.t 74) (.t 75)), m 77 76, v 78 77 (.mv (.t 9)), v 79 77 (.bin .lss .int (.t 78) (i 0)), o 80 (.pick (.t 77) tt (.t 79)), m 81
  80, v 82 81 (.mv (.t 9)), v 83 81 (.bin .eql .int (.t 82) (i 0)), v 84 81 (.mv (.t 83)), w 85 84 (.ld 2 true (.t 6)), w 86 84 (.mv (.t 0)), w 87 84 (.mv (.t 8)), w 88 84 (.ia 2
  (.t 86) (.t 87)), w 89 84 (.ld 2 true (.t 88)), w 90 84 (.call 79 [.t 85, .t 89]), w 91 84 (.ld 2 true (.t 6)), w 92 84 (.ld 2 true (.t 7)), w 93 84 (.call 79 [.t 91, .t 92]), w
  94 84 (.bin .gtr .int (.t 90) (.t 93)), v 95 81 (.pick (.t 84) (.t 94) ff), o 96 (.pick (.t 81) tt (.t 95))] [(16, 17), (16, 18)]) (.cond (.t 96) (.reg 16 [m 97 0, m 98 8, o 99
  (.ia 2 (.t 97) (.t 98)), o 100 (.ld 2 true (.t 99)), u (.st 2 (.t 7) (.t 100))]) .nop))))) (.reg 12 [m 59 8, o 60 (.bin .add .int (.t 59) (i 1)), m 8 60])))))) (.seq (.seq (.reg
  17 [o 101 (.ld 2 true (.t 7)), o 102 (.ld 2 true (.t 6)), o 103 (.bin .eql (.cells [true, true]) (.t 101) (.t 102)), m 104 103, v 105 104 (.ld 2 true (.t 7)), v 106 104 (.ld 2
  true (.t 3)), v 107 104 (.bin .eql (.cells [true, true]) (.t 105) (.t 106)), o 108 (.pick (.t 104) tt (.t 107))]) (.cond (.t 108) (.seq (.reg 18 [m 109 5, m 2 109]) .ret) .nop))
  (.seq (.reg 19 [m 110 5, o 111 (.ld 2 true (.t 7)), o 112 (.bsl 2 1 [z, z] [(0, .t 111)]), o 113 (.app 2 16 [z, z] (.t 110) (.t 112)), m 5 113]) (.reg 20 [o 114 (.ld 2 true (.t
  7)), u (.st 2 (.t 6) (.t 114))])))))) (.seq (.reg 21 [o 115 (.ld 2 true (.t 6))]) (.reg 22 [o 6 (.alloc [z, z]), u (.st 2 (.t 6) (.t 115))])))))))))
def rv66 : List RV := [(.t 2)]
theorem ok66 : cFun Tryd.prog Tryd.f66 = some (ac66, rv66) := by kernel_rfl
theorem nt66 : Tryd.f66.ntmps = 116 := by kernel_rfl
theorem of66 : okF Tryd.prog 66 := ⟨Tryd.f66, Tryd.func66, by kernel_rfl, by kernel_rfl⟩

/- putlog/putlogref07.Valid -/
def ac67 : AC := .seq (.reg 0 [o 2 (.mv ff)]) (.seq (.seq (.reg 1 [m 6 0, o 7 (.len (.t 6)), o 8 (.bin .lss .int (.t 7) (i 3)), m 9 8, v 10 9 (.mv (.t 0)), v 11 9 (.len (.t 10)), v 12 9 (.bin .gtr
  .int (.t 11) (i 8)), o 13 (.pick (.t 9) tt (.t 12))]) (.cond (.t 13) (.seq (.reg 2 [o 2 (.mv ff)]) .ret) .nop)) (.seq (.seq (.reg 3 [o 3 (.mv (i 0))]) (.block 0 (.loop (.seq
  (.seq (.reg 4 [m 14 3, m 15 0, o 16 (.len (.t 15)), o 17 (.bin .lss .int (.t 14) (.t 16))]) (.cond (.t 17) .nop (.exit 0))) (.seq (.block 1 (.seq (.reg 6 [m 20 0, m 21 3, o 22
  (.ia 2 (.t 20) (.t 21)), o 23 (.ld 2 true (.t 22)), c 24 80 [.t 23], o 25 (.un .not (.t 24))]) (.cond (.t 25) (.seq (.reg 7 [o 2 (.mv ff)]) .ret) .nop))) (.reg 5 [m 18 3, o 19
  (.bin .add .int (.t 18) (i 1)), m 3 19])))))) (.seq (.seq (.reg 8 [o 4 (.mv (i 0))]) (.block 2 (.loop (.seq (.seq (.reg 9 [m 26 4, m 27 0, o 28 (.len (.t 27)), o 29 (.bin .lss
  .int (.t 26) (.t 28))]) (.cond (.t 29) .nop (.exit 2))) (.seq (.block 3 (.seq (.reg 11 [o 5 (.mv (i 0))]) (.block 4 (.loop (.seq (.seq (.reg 12 [m 32 5, m 33 0, o 34 (.len (.t
  33)), o 35 (.bin .lss .int (.t 32) (.t 34))]) (.cond (.t 35) .nop (.exit 4))) (.seq (.block 5 (.seq (.drw 14 [m 38 5, m 39 4, o 40 (.bin .neq .int (.t 38) (.t 39)), m 41 40, w 42
  41 (.mv (.t 5)), w 43 41 (.mv (.t 4)), w 44 41 (.bin .add .int (.t 43) (i 1)), w 45 41 (.mv (.t 0)), w 46 41 (.len (.t 45)), w 47 41 (.bin .rem .int (.t 44) (.t 46)), w 48 41
  (.bin .neq .int (.t 42) (.t 47)), o 49 (.pick (.t 41) (.t 48) ff), m 50 49, w 51 50 (.mv (.t 0)), w 52 50 (.mv (.t 4)), w 53 50 (.ia 2 (.t 51) (.t 52)), w 54 50 (.ld 2 true (.t
  53)), w 55 50 (.mv (.t 0)), w 56 50 (.mv (.t 4)), w 57 50 (.call 81 [.t 55, .t 56]), w 58 50 (.mv (.t 0)), w 59 50 (.mv (.t 5)), w 60 50 (.ia 2 (.t 58) (.t 59)), w 61 50 (.ld 2
  true (.t 60)), w 62 50 (.call 78 [.t 54, .t 57, .t 61]), w 63 50 (.bin .leq .int (.t 62) (i 0)), o 64 (.pick (.t 50) (.t 63) ff)] [(15, 19), (16, 19), (19, 22), (19, 23)]) (.cond
  (.t 64) (.seq (.reg 15 [o 2 (.mv ff)]) .ret) .nop))) (.reg 13 [m 36 5, o 37 (.bin .add .int (.t 36) (i 1)), m 5 37]))))))) (.reg 10 [m 30 4, o 31 (.bin .add .int (.t 30) (i 1)),
  m 4 31])))))) (.seq (.reg 16 [o 2 (.mv tt)]) .ret))))
def rv67 : List RV := [(.t 2)]
theorem ok67 : cFun Tryd.prog Tryd.f67 = some (ac67, rv67) := by kernel_rfl
theorem nt67 : Tryd.f67.ntmps = 65 := by kernel_rfl
theorem of67 : okF Tryd.prog 67 := ⟨Tryd.f67, Tryd.func67, by kernel_rfl, by kernel_rfl⟩

/- putlog/putlogref07.walk -/
def ac68 : AC := .seq (.reg 0 [o 6 (.mv (.k (.sl 0 true [] [])))]) (.seq (.reg 1 [m 8 0, m 9 1, o 10 (.ia 2 (.t 8) (.t 9)), o 11 (.ld 2 true (.t 10)), o 12 (.bsl 2 1 [z, z] [(0, .t 11)]), m 7 12])
  (.seq (.block 0 (.loop (.seq (.seq (.reg 2 [m 13 1, m 14 2, o 15 (.bin .neq .int (.t 13) (.t 14))]) (.cond (.t 15) .nop (.exit 0))) (.block 1 (.seq (.reg 3 [m 16 1, o 17 (.bin
  .add .int (.t 16) (i 1)), m 18 0, o 19 (.len (.t 18)), o 20 (.bin .rem .int (.t 17) (.t 19)), m 1 20]) (.reg 4 [m 21 7, m 22 0, m 23 1, o 24 (.ia 2 (.t 22) (.t 23)), o 25 (.ld 2
  true (.t 24)), o 26 (.bsl 2 1 [z, z] [(0, .t 25)]), o 27 (.app 2 16 [z, z] (.t 21) (.t 26)), m 7 27])))))) (.seq (.reg 5 [m 28 7, m 6 28]) .ret)))
def rv68 : List RV := [(.t 6)]
theorem ok68 : cFun Tryd.prog Tryd.f68 = some (ac68, rv68) := by kernel_rfl
theorem nt68 : Tryd.f68.ntmps = 29 := by kernel_rfl
theorem of68 : okF Tryd.prog 68 := ⟨Tryd.f68, Tryd.func68, by kernel_rfl, by kernel_rfl⟩

/- putlog/plane.edges$1 -/
def ac69 : AC := .seq (.reg 0 [o 5 (.ld 1 false (.t 1)), o 6 (.len (.t 5)), o 7 (.mv (i 0))]) (.block 0 (.loop (.seq (.reg 1 [o 8 (.bin .lss .int (.t 7) (.t 6))]) (.seq (.cond (.t 8) .nop (.exit
  0)) (.seq (.block 1 (.seq (.reg 2 [m 9 7, o 10 (.ia 2 (.t 5) (.t 7)), o 11 (.ld 2 true (.t 10)), o 4 (.alloc [z, z]), m 3 9, u (.st 2 (.t 4) (.t 11))]) (.seq (.drw 3 [m 12 0, o
  13 (.ld 2 true (.t 4)), o 14 (.ld 1 false (.t 1)), m 15 3, o 16 (.bin .add .int (.t 15) (i 1)), o 17 (.ld 1 false (.t 1)), o 18 (.len (.t 17)), o 19 (.bin .rem .int (.t 16) (.t
  18)), o 20 (.ia 2 (.t 14) (.t 19)), o 21 (.ld 2 true (.t 20)), o 22 (.cv (.t 12) [.t 13, .t 21]), o 23 (.un .not (.t 22))] []) (.cond (.t 23) .ret .nop)))) (.reg 4 [o 24 (.bin
  .add .int (.t 7) (i 1)), m 7 24]))))))
def rv69 : List RV := []
theorem ok69 : cFun Tryd.prog Tryd.f69 = some (ac69, rv69) := by kernel_rfl
theorem nt69 : Tryd.f69.ntmps = 25 := by kernel_rfl
theorem of69 : okF Tryd.prog 69 := ⟨Tryd.f69, Tryd.func69, by kernel_rfl, by kernel_rfl⟩

/- slices.SortFunc   putlog/api.Place putlog/api.Place  -/
def ac70 : AC := .seq (.reg 0 [m 5 0, o 6 (.len (.t 5)), m 4 6]) (.reg 1 [m 7 0, m 8 4, m 9 4, o 10 (.pr (.cvw .u64) [.t 9]), c 11 83 [.t 10], m 12 1, c 13 82 [.t 7, i 0, .t 8, .t 11, .t 12]])
def rv70 : List RV := []
theorem ok70 : cFun Tryd.prog Tryd.f70 = some (ac70, rv70) := by kernel_rfl
theorem nt70 : Tryd.f70.ntmps = 14 := by kernel_rfl
theorem of70 : okF Tryd.prog 70 := ⟨Tryd.f70, Tryd.func70, by kernel_rfl, by kernel_rfl⟩

/- slices.MaxFunc   putlog/api.Place putlog/api.Place  -/
def ac71 : AC := .seq (.reg 0 [o 4 (.alloc [z, z])]) (.seq (.seq (.reg 1 [m 7 0, o 8 (.len (.t 7)), o 9 (.bin .lss .int (.t 8) (i 1))]) (.cond (.t 9) (.reg 2 [o 10 .bad, u (.pan (.t 10))]) .nop))
  (.seq (.reg 3 [m 11 0, o 12 (.ia 2 (.t 11) (i 0)), o 13 (.ld 2 true (.t 12)), o 5 (.alloc [z, z]), u (.st 2 (.t 5) (.t 13))]) (.seq (.seq (.reg 4 [o 6 (.mv (i 1))]) (.block 0
  (.loop (.seq (.seq (.reg 5 [m 14 6, m 15 0, o 16 (.len (.t 15)), o 17 (.bin .lss .int (.t 14) (.t 16))]) (.cond (.t 17) .nop (.exit 0))) (.seq (.block 1 (.seq (.drw 7 [m 20 1, m
  21 0, m 22 6, o 23 (.ia 2 (.t 21) (.t 22)), o 24 (.ld 2 true (.t 23)), o 25 (.ld 2 true (.t 5)), o 26 (.cv (.t 20) [.t 24, .t 25]), o 27 (.bin .gtr .int (.t 26) (i 0))] [])
  (.cond (.t 27) (.reg 8 [m 28 0, m 29 6, o 30 (.ia 2 (.t 28) (.t 29)), o 31 (.ld 2 true (.t 30)), u (.st 2 (.t 5) (.t 31))]) .nop))) (.reg 6 [m 18 6, o 19 (.bin .add .int (.t 18)
  (i 1)), m 6 19])))))) (.seq (.reg 9 [o 32 (.ld 2 true (.t 5)), u (.st 2 (.t 4) (.t 32))]) .ret))))
def rv71 : List RV := [(.c 4 2 true)]
theorem ok71 : cFun Tryd.prog Tryd.f71 = some (ac71, rv71) := by kernel_rfl
theorem nt71 : Tryd.f71.ntmps = 33 := by kernel_rfl
theorem of71 : okF Tryd.prog 71 := ⟨Tryd.f71, Tryd.func71, by kernel_rfl, by kernel_rfl⟩

/- slices.MinFunc   putlog/api.Place putlog/api.Place  -/
def ac72 : AC := .seq (.reg 0 [o 4 (.alloc [z, z])]) (.seq (.seq (.reg 1 [m 7 0, o 8 (.len (.t 7)), o 9 (.bin .lss .int (.t 8) (i 1))]) (.cond (.t 9) (.reg 2 [o 10 .bad, u (.pan (.t 10))]) .nop))
  (.seq (.reg 3 [m 11 0, o 12 (.ia 2 (.t 11) (i 0)), o 13 (.ld 2 true (.t 12)), o 5 (.alloc [z, z]), u (.st 2 (.t 5) (.t 13))]) (.seq (.seq (.reg 4 [o 6 (.mv (i 1))]) (.block 0
  (.loop (.seq (.seq (.reg 5 [m 14 6, m 15 0, o 16 (.len (.t 15)), o 17 (.bin .lss .int (.t 14) (.t 16))]) (.cond (.t 17) .nop (.exit 0))) (.seq (.block 1 (.seq (.drw 7 [m 20 1, m
  21 0, m 22 6, o 23 (.ia 2 (.t 21) (.t 22)), o 24 (.ld 2 true (.t 23)), o 25 (.ld 2 true (.t 5)), o 26 (.cv (.t 20) [.t 24, .t 25]), o 27 (.bin .lss .int (.t 26) (i 0))] [])
  (.cond (.t 27) (.reg 8 [m 28 0, m 29 6, o 30 (.ia 2 (.t 28) (.t 29)), o 31 (.ld 2 true (.t 30)), u (.st 2 (.t 5) (.t 31))]) .nop))) (.reg 6 [m 18 6, o 19 (.bin .add .int (.t 18)
  (i 1)), m 6 19])))))) (.seq (.reg 9 [o 32 (.ld 2 true (.t 5)), u (.st 2 (.t 4) (.t 32))]) .ret))))
def rv72 : List RV := [(.c 4 2 true)]
theorem ok72 : cFun Tryd.prog Tryd.f72 = some (ac72, rv72) := by kernel_rfl
theorem nt72 : Tryd.f72.ntmps = 33 := by kernel_rfl
theorem of72 : okF Tryd.prog 72 := ⟨Tryd.f72, Tryd.func72, by kernel_rfl, by kernel_rfl⟩

/- cmp.Or int  -/
def ac73 : AC := .seq (.reg 0 [o 2 (.mv (i 0))]) (.seq (.reg 1 [o 3 (.mv (i 0))]) (.seq (.seq (.reg 2 [m 6 0, o 7 (.len (.t 6)), o 8 (.mv (i 0))]) (.block 0 (.loop (.seq (.reg 3 [o 9 (.bin .lss
  .int (.t 8) (.t 7))]) (.seq (.cond (.t 9) .nop (.exit 0)) (.seq (.block 1 (.seq (.reg 4 [o 10 (.ia 1 (.t 6) (.t 8)), o 11 (.ld 1 false (.t 10)), m 5 11]) (.seq (.reg 5 [m 12 5, m
  13 3, o 14 (.bin .neq .int (.t 12) (.t 13))]) (.cond (.t 14) (.seq (.reg 6 [m 15 5, m 2 15]) .ret) .nop)))) (.reg 7 [o 16 (.bin .add .int (.t 8) (i 1)), m 8 16]))))))) (.seq
  (.reg 8 [m 17 3, m 2 17]) .ret)))
def rv73 : List RV := [(.t 2)]
theorem ok73 : cFun Tryd.prog Tryd.f73 = some (ac73, rv73) := by kernel_rfl
theorem nt73 : Tryd.f73.ntmps = 18 := by kernel_rfl
theorem of73 : okF Tryd.prog 73 := ⟨Tryd.f73, Tryd.func73, by kernel_rfl, by kernel_rfl⟩

/- putlog/plane.first -/
def ac74 : AC := .seq (.reg 0 [o 3 (.box 1 (.t 1)), o 4 (.alloc [z])]) (.seq (.reg 1 [o 5 (.alloc [z]), u (.st 1 (.t 5) (i 0))]) (.seq (.seq (.reg 2 [m 9 0, c 10 55 [.t 9]]) (.block 0 (.rfun (.t
  10) [11, 12] (.seq (.reg 3 [o 6 (.alloc [z, z]), u (.st 2 (.t 6) (.t 11))]) (.reg 4 [o 7 (.alloc [z, z]), u (.st 2 (.t 7) (.t 12))])) (.block 1 (.seq (.reg 5 [o 13 (.mkf (.func
  84) [] [.t 6, .t 7]), m 8 13]) (.seq (.seq (.reg 6 [o 14 (.ld 1 false (.t 3)), m 15 8, c 16 36 [.t 14, .t 15], o 17 (.un .not (.t 16))]) (.cond (.t 17) (.seq (.reg 7 [o 18 (.ld 1
  false (.t 5)), u (.st 1 (.t 4) (.t 18))]) .ret) .nop)) (.reg 8 [o 19 (.ld 1 false (.t 5)), o 20 (.bin .add .int (.t 19) (i 1)), u (.st 1 (.t 5) (.t 20))]))))))) (.seq (.reg 9 [u
  (.st 1 (.t 4) (i (-1)))]) .ret)))
def rv74 : List RV := [(.c 4 1 false)]
theorem ok74 : cFun Tryd.prog Tryd.f74 = some (ac74, rv74) := by kernel_rfl
theorem nt74 : Tryd.f74.ntmps = 21 := by kernel_rfl
theorem of74 : okF Tryd.prog 74 := ⟨Tryd.f74, Tryd.func74, by kernel_rfl, by kernel_rfl⟩

/- cmp.isNaN int  -/
def ac77 : AC := .seq (.reg 0 [o 2 (.mv ff)]) (.seq (.reg 1 [m 3 0, m 4 0, o 5 (.bin .neq .int (.t 3) (.t 4)), m 2 5]) .ret)
def rv77 : List RV := [(.t 2)]
theorem ok77 : cFun Tryd.prog Tryd.f77 = some (ac77, rv77) := by kernel_rfl
theorem nt77 : Tryd.f77.ntmps = 6 := by kernel_rfl
theorem of77 : okF Tryd.prog 77 := ⟨Tryd.f77, Tryd.func77, by kernel_rfl, by kernel_rfl⟩

/- putlog/putlogref07.Turn -/
def ac78 : AC := .seq (.reg 0 [o 3 (.box 2 (.t 0)), o 4 (.box 2 (.t 1)), o 5 (.box 2 (.t 2)), o 6 (.mv (i 0))]) (.seq (.reg 1 [o 7 (.fa 0 (.t 4)), o 8 (.ld 1 false (.t 7)), o 9 (.fa 0 (.t 3)), o 10
  (.ld 1 false (.t 9)), o 11 (.bin .sub .int (.t 8) (.t 10)), o 12 (.fa 1 (.t 5)), o 13 (.ld 1 false (.t 12)), o 14 (.fa 1 (.t 3)), o 15 (.ld 1 false (.t 14)), o 16 (.bin .sub .int
  (.t 13) (.t 15)), o 17 (.bin .mul .int (.t 11) (.t 16)), o 18 (.fa 1 (.t 4)), o 19 (.ld 1 false (.t 18)), o 20 (.fa 1 (.t 3)), o 21 (.ld 1 false (.t 20)), o 22 (.bin .sub .int
  (.t 19) (.t 21)), o 23 (.fa 0 (.t 5)), o 24 (.ld 1 false (.t 23)), o 25 (.fa 0 (.t 3)), o 26 (.ld 1 false (.t 25)), o 27 (.bin .sub .int (.t 24) (.t 26)), o 28 (.bin .mul .int
  (.t 22) (.t 27)), o 29 (.bin .sub .int (.t 17) (.t 28)), m 6 29]) .ret)
def rv78 : List RV := [(.t 6)]
theorem ok78 : cFun Tryd.prog Tryd.f78 = some (ac78, rv78) := by kernel_rfl
theorem nt78 : Tryd.f78.ntmps = 30 := by kernel_rfl
theorem of78 : okF Tryd.prog 78 := ⟨Tryd.f78, Tryd.func78, by kernel_rfl, by kernel_rfl⟩

/- putlog/putlogref07.far -/
def ac79 : AC := .seq (.reg 0 [o 2 (.box 2 (.t 0)), o 3 (.box 2 (.t 1)), o 4 (.mv (i 0))]) (.seq (.reg 1 [o 5 (.fa 0 (.t 2)), o 6 (.ld 1 false (.t 5)), o 7 (.fa 0 (.t 3)), o 8 (.ld 1 false (.t 7)),
  o 9 (.bin .sub .int (.t 6) (.t 8)), o 10 (.fa 0 (.t 2)), o 11 (.ld 1 false (.t 10)), o 12 (.fa 0 (.t 3)), o 13 (.ld 1 false (.t 12)), o 14 (.bin .sub .int (.t 11) (.t 13)), o 15
  (.bin .mul .int (.t 9) (.t 14)), o 16 (.fa 1 (.t 2)), o 17 (.ld 1 false (.t 16)), o 18 (.fa 1 (.t 3)), o 19 (.ld 1 false (.t 18)), o 20 (.bin .sub .int (.t 17) (.t 19)), o 21
  (.fa 1 (.t 2)), o 22 (.ld 1 false (.t 21)), o 23 (.fa 1 (.t 3)), o 24 (.ld 1 false (.t 23)), o 25 (.bin .sub .int (.t 22) (.t 24)), o 26 (.bin .mul .int (.t 20) (.t 25)), o 27
  (.bin .add .int (.t 15) (.t 26)), m 4 27]) .ret)
def rv79 : List RV := [(.t 4)]
theorem ok79 : cFun Tryd.prog Tryd.f79 = some (ac79, rv79) := by kernel_rfl
theorem nt79 : Tryd.f79.ntmps = 28 := by kernel_rfl
theorem of79 : okF Tryd.prog 79 := ⟨Tryd.f79, Tryd.func79, by kernel_rfl, by kernel_rfl⟩

/- putlog/putlogref07.OnMap -/
def ac80 : AC := .seq (.reg 0 [o 1 (.box 2 (.t 0)), o 2 (.mv ff)]) (.seq (.reg 1 [o 3 (.fa 0 (.t 1)), o 4 (.ld 1 false (.t 3)), o 5 (.bin .geq .int (.t 4) (i 0)), m 6 5, w 7 6 (.fa 0 (.t 1)), w 8 6
  (.ld 1 false (.t 7)), w 9 6 (.bin .leq .int (.t 8) (i 40)), o 10 (.pick (.t 6) (.t 9) ff), m 11 10, w 12 11 (.fa 1 (.t 1)), w 13 11 (.ld 1 false (.t 12)), w 14 11 (.bin .geq .int
  (.t 13) (i 0)), o 15 (.pick (.t 11) (.t 14) ff), m 16 15, w 17 16 (.fa 1 (.t 1)), w 18 16 (.ld 1 false (.t 17)), w 19 16 (.bin .leq .int (.t 18) (i 40)), o 20 (.pick (.t 16) (.t
  19) ff), m 2 20]) .ret)
def rv80 : List RV := [(.t 2)]
theorem ok80 : cFun Tryd.prog Tryd.f80 = some (ac80, rv80) := by kernel_rfl
theorem nt80 : Tryd.f80.ntmps = 21 := by kernel_rfl
theorem of80 : okF Tryd.prog 80 := ⟨Tryd.f80, Tryd.func80, by kernel_rfl, by kernel_rfl⟩

/- putlog/putlogref07.end -/
def ac81 : AC := .seq (.reg 0 [o 4 (.alloc [z, z])]) (.seq (.reg 1 [m 5 0, m 6 1, o 7 (.bin .add .int (.t 6) (i 1)), m 8 0, o 9 (.len (.t 8)), o 10 (.bin .rem .int (.t 7) (.t 9)), o 11 (.ia 2 (.t
  5) (.t 10)), o 12 (.ld 2 true (.t 11)), u (.st 2 (.t 4) (.t 12))]) .ret)
def rv81 : List RV := [(.c 4 2 true)]
theorem ok81 : cFun Tryd.prog Tryd.f81 = some (ac81, rv81) := by kernel_rfl
theorem nt81 : Tryd.f81.ntmps = 13 := by kernel_rfl
theorem of81 : okF Tryd.prog 81 := ⟨Tryd.f81, Tryd.func81, by kernel_rfl, by kernel_rfl⟩

/- slices.pdqsortCmpFunc putlog/api.Place  -/
def ac82 : AC := .seq (.reg 0 [o 10 (.mv tt)]) (.seq (.reg 1 [o 11 (.mv tt)]) (.block 0 (.loop (.block 1 (.seq (.reg 2 [m 21 2, m 22 1, o 23 (.bin .sub .int (.t 21) (.t 22)), m 12 23]) (.seq (.seq
  (.reg 3 [m 24 12, o 25 (.bin .leq .int (.t 24) (i 12))]) (.cond (.t 25) (.seq (.reg 4 [m 26 0, m 27 1, m 28 2, m 29 4, c 30 87 [.t 26, .t 27, .t 28, .t 29]]) .ret) .nop)) (.seq
  (.seq (.reg 5 [m 31 3, o 32 (.bin .eql .int (.t 31) (i 0))]) (.cond (.t 32) (.seq (.reg 6 [m 33 0, m 34 1, m 35 2, m 36 4, c 37 88 [.t 33, .t 34, .t 35, .t 36]]) .ret) .nop))
  (.seq (.seq (.reg 7 [m 38 10, o 39 (.un .not (.t 38))]) (.cond (.t 39) (.seq (.reg 8 [m 40 0, m 41 1, m 42 2, m 43 4, c 44 89 [.t 40, .t 41, .t 42, .t 43]]) (.reg 9 [m 45 3, o 46
  (.bin .sub .int (.t 45) (i 1)), m 3 46])) .nop)) (.seq (.reg 10 [m 48 0, m 49 1, m 50 2, m 51 4, c 52 90 [.t 48, .t 49, .t 50, .t 51], m 47 52, o 53 (.ext (.t 47) 0), o 54 (.ext
  (.t 47) 1), m 13 53, m 14 54]) (.seq (.seq (.reg 11 [m 55 14, o 56 (.bin .eql .int (.t 55) (i 2))]) (.cond (.t 56) (.seq (.reg 12 [m 57 0, m 58 1, m 59 2, m 60 4, c 61 91 [.t 57,
  .t 58, .t 59, .t 60]]) (.seq (.reg 13 [m 62 2, o 63 (.bin .sub .int (.t 62) (i 1)), m 64 13, m 65 1, o 66 (.bin .sub .int (.t 64) (.t 65)), o 67 (.bin .sub .int (.t 63) (.t 66)),
  m 13 67]) (.reg 14 [o 14 (.mv (i 1))]))) .nop)) (.seq (.seq (.reg 15 [m 68 10, m 69 68, w 70 69 (.mv (.t 11)), o 71 (.pick (.t 69) (.t 70) ff), m 72 71, w 73 72 (.mv (.t 14)), w
  74 72 (.bin .eql .int (.t 73) (i 1)), o 75 (.pick (.t 72) (.t 74) ff)]) (.cond (.t 75) (.seq (.reg 16 [m 76 0, m 77 1, m 78 2, m 79 4, c 80 92 [.t 76, .t 77, .t 78, .t 79]])
  (.cond (.t 80) .ret .nop)) .nop)) (.seq (.seq (.drw 17 [m 81 1, o 82 (.bin .gtr .int (.t 81) (i 0)), m 83 82, w 84 83 (.mv (.t 4)), w 85 83 (.mv (.t 0)), w 86 83 (.mv (.t 1)), w
  87 83 (.bin .sub .int (.t 86) (i 1)), w 88 83 (.ia 2 (.t 85) (.t 87)), w 89 83 (.ld 2 true (.t 88)), w 90 83 (.mv (.t 0)), w 91 83 (.mv (.t 13)), w 92 83 (.ia 2 (.t 90) (.t 91)),
  w 93 83 (.ld 2 true (.t 92)), w 94 83 (.cv (.t 84) [.t 89, .t 93]), w 95 83 (.bin .lss .int (.t 94) (i 0)), w 96 83 (.un .not (.t 95)), o 97 (.pick (.t 83) (.t 96) ff)] [])
  (.cond (.t 97) (.seq (.reg 18 [m 98 0, m 99 1, m 100 2, m 101 13, m 102 4, c 103 93 [.t 98, .t 99, .t 100, .t 101, .t 102], m 15 103]) (.seq (.reg 19 [m 104 15, m 1 104]) (.exit
  1))) .nop)) (.seq (.reg 20 [m 106 0, m 107 1, m 108 2, m 109 13, m 110 4, c 111 94 [.t 106, .t 107, .t 108, .t 109, .t 110], m 105 111, o 112 (.ext (.t 105) 0), o 113 (.ext (.t
  105) 1), m 16 112, m 17 113]) (.seq (.reg 21 [m 114 17, m 11 114]) (.seq (.reg 22 [m 115 16, m 116 1, o 117 (.bin .sub .int (.t 115) (.t 116)), m 118 2, m 119 16, o 120 (.bin
  .sub .int (.t 118) (.t 119)), m 18 117, m 19 120]) (.seq (.reg 23 [m 121 12, o 122 (.bin .quo .int (.t 121) (i 8)), m 20 122]) (.seq (.reg 24 [m 123 18, m 124 19, o 125 (.bin
  .lss .int (.t 123) (.t 124))]) (.cond (.t 125) (.seq (.reg 25 [m 126 18, m 127 20, o 128 (.bin .geq .int (.t 126) (.t 127)), m 10 128]) (.seq (.reg 26 [m 129 0, m 130 1, m 131
  16, m 132 3, m 133 4, c 134 82 [.t 129, .t 130, .t 131, .t 132, .t 133]]) (.reg 27 [m 135 16, o 136 (.bin .add .int (.t 135) (i 1)), m 1 136]))) (.seq (.reg 28 [m 137 19, m 138
  20, o 139 (.bin .geq .int (.t 137) (.t 138)), m 10 139]) (.seq (.reg 29 [m 140 0, m 141 16, o 142 (.bin .add .int (.t 141) (i 1)), m 143 2, m 144 3, m 145 4, c 146 82 [.t 140, .t
  142, .t 143, .t 144, .t 145]]) (.reg 30 [m 147 16, m 2 147])))))))))))))))))))))
def rv82 : List RV := []
theorem ok82 : cFun Tryd.prog Tryd.f82 = some (ac82, rv82) := by kernel_rfl
theorem nt82 : Tryd.f82.ntmps = 148 := by kernel_rfl
theorem of82 : okF Tryd.prog 82 := ⟨Tryd.f82, Tryd.func82, by kernel_rfl, by kernel_rfl⟩

/- math/bits.Len -/
def ac83 : AC := .seq (.reg 0 [o 2 (.mv (i 0))]) (.seq (.cond ff (.seq (.reg 1 [m 3 0, o 4 (.pr (.cvw .u32) [.t 3]), c 5 95 [.t 4], m 2 5]) .ret) .nop) (.seq (.reg 2 [m 6 0, c 7 96 [.t 6], m 2 7])
  .ret))
def rv83 : List RV := [(.t 2)]
theorem ok83 : cFun Tryd.prog Tryd.f83 = some (ac83, rv83) := by kernel_rfl
theorem nt83 : Tryd.f83.ntmps = 8 := by kernel_rfl
theorem of83 : okF Tryd.prog 83 := ⟨Tryd.f83, Tryd.func83, by kernel_rfl, by kernel_rfl⟩

/- putlog/plane.first$1 -/
def ac84 : AC := .seq (.reg 0 [o 3 (.box 2 (.t 0)), o 4 (.mv ff)]) (.seq (.reg 1 [o 5 (.ld 2 true (.t 1)), o 6 (.ld 2 true (.t 2)), o 7 (.ld 2 true (.t 3)), c 8 56 [.t 5, .t 6, .t 7], o 9 (.bin
  .gtr .int (.t 8) (i 0)), m 4 9]) .ret)
def rv84 : List RV := [(.t 4)]
theorem ok84 : cFun Tryd.prog Tryd.f84 = some (ac84, rv84) := by kernel_rfl
theorem nt84 : Tryd.f84.ntmps = 10 := by kernel_rfl
theorem of84 : okF Tryd.prog 84 := ⟨Tryd.f84, Tryd.func84, by kernel_rfl, by kernel_rfl⟩

/- slices.insertionSortCmpFunc putlog/api.Place  -/
def ac87 : AC := .seq (.reg 0 [m 10 1, o 11 (.bin .add .int (.t 10) (i 1)), m 8 11]) (.block 0 (.loop (.seq (.seq (.reg 1 [m 12 8, m 13 2, o 14 (.bin .lss .int (.t 12) (.t 13))]) (.cond (.t 14)
  .nop (.exit 0))) (.seq (.block 1 (.seq (.reg 3 [m 17 8, m 9 17]) (.block 2 (.loop (.seq (.seq (.drw 4 [m 18 9, m 19 1, o 20 (.bin .gtr .int (.t 18) (.t 19)), m 21 20, w 22 21
  (.mv (.t 3)), w 23 21 (.mv (.t 0)), w 24 21 (.mv (.t 9)), w 25 21 (.ia 2 (.t 23) (.t 24)), w 26 21 (.ld 2 true (.t 25)), w 27 21 (.mv (.t 0)), w 28 21 (.mv (.t 9)), w 29 21 (.bin
  .sub .int (.t 28) (i 1)), w 30 21 (.ia 2 (.t 27) (.t 29)), w 31 21 (.ld 2 true (.t 30)), w 32 21 (.cv (.t 22) [.t 26, .t 31]), w 33 21 (.bin .lss .int (.t 32) (i 0)), o 34 (.pick
  (.t 21) (.t 33) ff)] []) (.cond (.t 34) .nop (.exit 2))) (.seq (.block 3 (.drw 6 [m 37 0, m 38 9, m 39 0, m 40 9, o 41 (.bin .sub .int (.t 40) (i 1)), m 42 0, m 43 9, o 44 (.bin
  .sub .int (.t 43) (i 1)), o 45 (.ia 2 (.t 42) (.t 44)), o 46 (.ld 2 true (.t 45)), m 47 0, m 48 9, o 49 (.ia 2 (.t 47) (.t 48)), o 50 (.ld 2 true (.t 49)), o 51 (.ia 2 (.t 37)
  (.t 38)), u (.st 2 (.t 51) (.t 46)), o 52 (.ia 2 (.t 39) (.t 41)), u (.st 2 (.t 52) (.t 50))] [])) (.reg 5 [m 35 9, o 36 (.bin .sub .int (.t 35) (i 1)), m 9 36]))))))) (.reg 2 [m
  15 8, o 16 (.bin .add .int (.t 15) (i 1)), m 8 16])))))
def rv87 : List RV := []
theorem ok87 : cFun Tryd.prog Tryd.f87 = some (ac87, rv87) := by kernel_rfl
theorem nt87 : Tryd.f87.ntmps = 53 := by kernel_rfl
theorem of87 : okF Tryd.prog 87 := ⟨Tryd.f87, Tryd.func87, by kernel_rfl, by kernel_rfl⟩

end Go.Proofs.YtdabfcbelkjmgaaDoor.Am
