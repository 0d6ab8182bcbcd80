/-
  What the machine makes of the functions: its own texts of them, and that they are that.
-/
import Derived.Test.YtojciffnkbfbhaaA5
import Derived.Test.YtojciffnkbfbhaaProg
namespace Go.Proofs.Ytojciffnkbfbhaa.Am
set_option linter.unusedSimpArgs false
set_option linter.unusedVariables false
open Go C
set_option maxRecDepth 100000
/- putlog/putlogref07.Bent -/
def ac12 : AC := .seq (.reg 0 [o 8 (.mv (.k (.sl 0 true [] [])))]) (.seq (.reg 1 [o 11 (.bsl 2 0 [z, z] []), m 12 0, o 13 (.app 2 16 [z, z] (.t 11) (.t 12)), m 9 13]) (.seq (.seq (.reg 2 [m 14 9, o
  15 (.len (.t 14)), o 16 (.bin .eql .int (.t 15) (i 0))]) (.cond (.t 16) (.seq (.reg 3 [m 17 2, m 18 2, o 19 (.build [z, z] [(0, 1, .t 17), (1, 1, .t 18)]), o 20 (.bsl 2 1 [z, z]
  [(0, .t 19)]), m 8 20]) .ret) .nop)) (.seq (.reg 4 [m 21 3, m 22 9, o 23 (.len (.t 22)), c 24 33 [.t 21, .t 23], m 10 24]) (.seq (.seq (.reg 5 [m 25 1, c 26 33 [.t 25, i 5]])
  (.block 0 (.seq (.reg 7 [o 43 (.bin .eql .int (.t 26) (i 0)), m 42 43]) (.cond (.t 42) (.reg 8 [m 44 9, m 45 10, m 46 2, o 47 (.ia 2 (.t 44) (.t 45)), o 48 (.fa 0 (.t 47)), u
  (.st 1 (.t 48) (.t 46))]) (.seq (.reg 9 [o 50 (.bin .eql .int (.t 26) (i 1)), m 49 50]) (.cond (.t 49) (.reg 10 [m 51 9, m 52 10, m 53 2, o 54 (.ia 2 (.t 51) (.t 52)), o 55 (.fa
  1 (.t 54)), u (.st 1 (.t 55) (.t 53))]) (.seq (.reg 11 [o 57 (.bin .eql .int (.t 26) (i 2)), m 56 57]) (.cond (.t 56) (.reg 12 [m 58 9, m 59 10, m 60 9, m 61 10, o 62 (.bin .add
  .int (.t 61) (i 1)), m 63 9, o 64 (.len (.t 63)), o 65 (.bin .rem .int (.t 62) (.t 64)), o 66 (.ia 2 (.t 60) (.t 65)), o 67 (.ld 2 true (.t 66)), o 68 (.ia 2 (.t 58) (.t 59)), u
  (.st 2 (.t 68) (.t 67))]) (.seq (.reg 13 [o 70 (.bin .eql .int (.t 26) (i 3)), m 69 70]) (.cond (.t 69) (.seq (.drw 14 [m 71 9, m 72 10, m 73 10, o 74 (.slc 2 (.t 71) none (some
  (.t 72)) (some (.t 73))), m 75 9, m 76 10, o 77 (.bin .add .int (.t 76) (i 1)), o 78 (.slc 2 (.t 75) (some (.t 77)) none none), o 79 (.app 2 16 [z, z] (.t 74) (.t 78)), m 8 79]
  [(3, 7)]) .ret) (.seq (.drw 6 [m 27 9, m 28 10, m 29 10, o 30 (.slc 2 (.t 27) none (some (.t 28)) (some (.t 29))), m 31 2, m 32 3, c 33 33 [.t 32, i 50], o 34 (.bin .sub .int (.t
  33) (i 5)), o 35 (.build [z, z] [(0, 1, .t 31), (1, 1, .t 34)]), o 36 (.bsl 2 1 [z, z] [(0, .t 35)]), m 37 9, m 38 10, o 39 (.slc 2 (.t 37) (some (.t 38)) none none), o 40 (.app
  2 16 [z, z] (.t 36) (.t 39)), o 41 (.app 2 16 [z, z] (.t 30) (.t 40)), m 8 41] [(3, 6), (3, 9), (3, 12), (6, 12), (9, 12), (3, 13)]) .ret))))))))))) (.seq (.reg 15 [m 80 9, m 8
  80]) .ret)))))
def rv12 : List RV := [(.t 8)]
theorem ok12 : cFun Try.prog Try.f12 = some (ac12, rv12) := by kernel_rfl
theorem nt12 : Try.f12.ntmps = 81 := by kernel_rfl
theorem of12 : okF Try.prog 12 := ⟨Try.f12, Try.func12, by kernel_rfl, by kernel_rfl⟩

/- putlog/putlogref07.Moments -/
def ac35 : AC := .seq (.reg 0 [o 2 (.mv (i 0)), o 3 (.mv (i 0))]) (.seq (.seq (.reg 1 [m 9 0, c 10 37 [.t 9], o 11 (.un .not (.t 10))]) (.cond (.t 11) (.seq (.reg 2 [o 2 (.mv (i 0)), o 3 (.mv (i
  0))]) .ret) .nop)) (.seq (.reg 3 [o 4 (.mv (i 0))]) (.seq (.reg 4 [o 5 (.mv (i 0))]) (.seq (.seq (.reg 5 [o 6 (.mv (i 0))]) (.block 0 (.loop (.seq (.seq (.reg 6 [m 12 6, m 13 0,
  o 14 (.len (.t 13)), o 15 (.bin .lss .int (.t 12) (.t 14))]) (.cond (.t 15) .nop (.exit 0))) (.seq (.block 1 (.seq (.reg 8 [m 18 0, m 19 6, o 20 (.ia 2 (.t 18) (.t 19)), o 21
  (.ld 2 true (.t 20)), o 7 (.alloc [z, z]), u (.st 2 (.t 7) (.t 21))]) (.seq (.reg 9 [m 22 0, m 23 6, c 24 59 [.t 22, .t 23], o 8 (.alloc [z, z]), u (.st 2 (.t 8) (.t 24))]) (.seq
  (.reg 10 [m 25 4, o 26 (.fa 0 (.t 7)), o 27 (.ld 1 false (.t 26)), o 28 (.fa 0 (.t 8)), o 29 (.ld 1 false (.t 28)), o 30 (.bin .add .int (.t 27) (.t 29)), o 31 (.fa 0 (.t 7)), o
  32 (.ld 1 false (.t 31)), o 33 (.fa 1 (.t 8)), o 34 (.ld 1 false (.t 33)), o 35 (.bin .mul .int (.t 32) (.t 34)), o 36 (.fa 1 (.t 7)), o 37 (.ld 1 false (.t 36)), o 38 (.fa 0 (.t
  8)), o 39 (.ld 1 false (.t 38)), o 40 (.bin .mul .int (.t 37) (.t 39)), o 41 (.bin .sub .int (.t 35) (.t 40)), o 42 (.bin .mul .int (.t 30) (.t 41)), o 43 (.bin .add .int (.t 25)
  (.t 42)), m 4 43]) (.reg 11 [m 44 5, o 45 (.fa 1 (.t 7)), o 46 (.ld 1 false (.t 45)), o 47 (.fa 1 (.t 8)), o 48 (.ld 1 false (.t 47)), o 49 (.bin .add .int (.t 46) (.t 48)), o 50
  (.fa 0 (.t 7)), o 51 (.ld 1 false (.t 50)), o 52 (.fa 1 (.t 8)), o 53 (.ld 1 false (.t 52)), o 54 (.bin .mul .int (.t 51) (.t 53)), o 55 (.fa 1 (.t 7)), o 56 (.ld 1 false (.t
  55)), o 57 (.fa 0 (.t 8)), o 58 (.ld 1 false (.t 57)), o 59 (.bin .mul .int (.t 56) (.t 58)), o 60 (.bin .sub .int (.t 54) (.t 59)), o 61 (.bin .mul .int (.t 49) (.t 60)), o 62
  (.bin .add .int (.t 44) (.t 61)), m 5 62]))))) (.reg 7 [m 16 6, o 17 (.bin .add .int (.t 16) (i 1)), m 6 17])))))) (.seq (.reg 12 [m 63 4, m 64 5, m 2 63, m 3 64]) .ret)))))
def rv35 : List RV := [(.t 2), (.t 3)]
theorem ok35 : cFun Try.prog Try.f35 = some (ac35, rv35) := by kernel_rfl
theorem nt35 : Try.f35.ntmps = 65 := by kernel_rfl
theorem of35 : okF Try.prog 35 := ⟨Try.f35, Try.func35, by kernel_rfl, by kernel_rfl⟩

/- putlog/putlogref07.Lattice -/
def ac36 : AC := .seq (.reg 0 [o 2 (.mv (i 0)), o 3 (.mv (i 0))]) (.seq (.seq (.reg 1 [m 8 0, c 9 37 [.t 8], o 10 (.un .not (.t 9))]) (.cond (.t 10) (.seq (.reg 2 [o 2 (.mv (i 0)), o 3 (.mv (i
  0))]) .ret) .nop)) (.seq (.reg 3 [o 4 (.mv (i 0))]) (.seq (.reg 4 [o 5 (.mv (i 0))]) (.seq (.seq (.reg 5 [o 6 (.mv (i 0))]) (.block 0 (.loop (.seq (.seq (.reg 6 [m 11 6, o 12
  (.bin .leq .int (.t 11) (i 40))]) (.cond (.t 12) .nop (.exit 0))) (.seq (.block 1 (.seq (.reg 8 [o 7 (.mv (i 0))]) (.block 2 (.loop (.seq (.seq (.reg 9 [m 15 7, o 16 (.bin .leq
  .int (.t 15) (i 40))]) (.cond (.t 16) .nop (.exit 2))) (.seq (.block 3 (.seq (.reg 11 [m 19 0, m 20 6, m 21 7, o 22 (.build [z, z] [(0, 1, .t 20), (1, 1, .t 21)]), c 23 60 [.t
  19, .t 22]]) (.block 4 (.seq (.reg 12 [o 25 (.bin .eql .int (.t 23) (i 1)), m 24 25]) (.cond (.t 24) (.reg 13 [m 26 4, o 27 (.bin .add .int (.t 26) (i 1)), m 4 27]) (.seq (.reg
  14 [o 29 (.bin .eql .int (.t 23) (i 0)), m 28 29]) (.cond (.t 28) (.reg 15 [m 30 5, o 31 (.bin .add .int (.t 30) (i 1)), m 5 31]) .nop))))))) (.reg 10 [m 17 7, o 18 (.bin .add
  .int (.t 17) (i 1)), m 7 18]))))))) (.reg 7 [m 13 6, o 14 (.bin .add .int (.t 13) (i 1)), m 6 14])))))) (.seq (.reg 16 [m 32 4, m 33 5, m 2 32, m 3 33]) .ret)))))
def rv36 : List RV := [(.t 2), (.t 3)]
theorem ok36 : cFun Try.prog Try.f36 = some (ac36, rv36) := by kernel_rfl
theorem nt36 : Try.f36.ntmps = 34 := by kernel_rfl
theorem of36 : okF Try.prog 36 := ⟨Try.f36, Try.func36, by kernel_rfl, by kernel_rfl⟩

/- putlog/putlogref07.Area2 -/
def ac38 : AC := .seq (.reg 0 [o 2 (.mv (i 0))]) (.seq (.seq (.reg 1 [m 7 0, c 8 37 [.t 7], o 9 (.un .not (.t 8))]) (.cond (.t 9) (.seq (.reg 2 [o 2 (.mv (i 0))]) .ret) .nop)) (.seq (.reg 3 [o 3
  (.mv (i 0))]) (.seq (.seq (.reg 4 [o 4 (.mv (i 0))]) (.block 0 (.loop (.seq (.seq (.reg 5 [m 10 4, m 11 0, o 12 (.len (.t 11)), o 13 (.bin .lss .int (.t 10) (.t 12))]) (.cond (.t
  13) .nop (.exit 0))) (.seq (.block 1 (.seq (.reg 7 [m 16 0, m 17 4, o 18 (.ia 2 (.t 16) (.t 17)), o 19 (.ld 2 true (.t 18)), o 5 (.alloc [z, z]), u (.st 2 (.t 5) (.t 19))]) (.seq
  (.reg 8 [m 20 0, m 21 4, c 22 59 [.t 20, .t 21], o 6 (.alloc [z, z]), u (.st 2 (.t 6) (.t 22))]) (.reg 9 [m 23 3, o 24 (.fa 0 (.t 5)), o 25 (.ld 1 false (.t 24)), o 26 (.fa 1 (.t
  6)), o 27 (.ld 1 false (.t 26)), o 28 (.bin .mul .int (.t 25) (.t 27)), o 29 (.bin .add .int (.t 23) (.t 28)), o 30 (.fa 1 (.t 5)), o 31 (.ld 1 false (.t 30)), o 32 (.fa 0 (.t
  6)), o 33 (.ld 1 false (.t 32)), o 34 (.bin .mul .int (.t 31) (.t 33)), o 35 (.bin .sub .int (.t 29) (.t 34)), m 3 35])))) (.reg 6 [m 14 4, o 15 (.bin .add .int (.t 14) (i 1)), m
  4 15])))))) (.seq (.reg 10 [m 36 3, m 2 36]) .ret))))
def rv38 : List RV := [(.t 2)]
theorem ok38 : cFun Try.prog Try.f38 = some (ac38, rv38) := by kernel_rfl
theorem nt38 : Try.f38.ntmps = 37 := by kernel_rfl
theorem of38 : okF Try.prog 38 := ⟨Try.f38, Try.func38, by kernel_rfl, by kernel_rfl⟩

/- putlog/putlogref07.Inside -/
def ac39 : AC := .seq (.reg 0 [o 3 (.box 2 (.t 1)), o 4 (.mv (i 0))]) (.seq (.seq (.reg 1 [m 5 0, c 6 37 [.t 5], o 7 (.un .not (.t 6)), m 8 7, v 9 8 (.ld 2 true (.t 3)), v 10 8 (.call 31 [.t 9]), v
  11 8 (.un .not (.t 10)), o 12 (.pick (.t 8) tt (.t 11))]) (.cond (.t 12) (.seq (.reg 2 [o 4 (.mv (i (-1)))]) .ret) .nop)) (.seq (.reg 3 [m 13 0, o 14 (.ld 2 true (.t 3)), c 15 60
  [.t 13, .t 14], m 4 15]) .ret))
def rv39 : List RV := [(.t 4)]
theorem ok39 : cFun Try.prog Try.f39 = some (ac39, rv39) := by kernel_rfl
theorem nt39 : Try.f39.ntmps = 16 := by kernel_rfl
theorem of39 : okF Try.prog 39 := ⟨Try.f39, Try.func39, by kernel_rfl, by kernel_rfl⟩

/- putlog/putlogref07.Cell -/
def ac40 : AC := .seq (.reg 0 [o 6 (.mv (i 0))]) (.seq (.seq (.reg 1 [m 9 0, c 10 37 [.t 9], o 11 (.un .not (.t 10)), m 12 11, v 13 12 (.mv (.t 1)), v 14 12 (.bin .lss .int (.t 13) (i 0)), o 15
  (.pick (.t 12) tt (.t 14)), m 16 15, v 17 16 (.mv (.t 1)), v 18 16 (.bin .geq .int (.t 17) (i 40)), o 19 (.pick (.t 16) tt (.t 18)), m 20 19, v 21 20 (.mv (.t 2)), v 22 20 (.bin
  .lss .int (.t 21) (i 0)), o 23 (.pick (.t 20) tt (.t 22)), m 24 23, v 25 24 (.mv (.t 2)), v 26 24 (.bin .geq .int (.t 25) (i 40)), o 27 (.pick (.t 24) tt (.t 26))]) (.cond (.t
  27) (.seq (.reg 2 [o 6 (.mv (i (-1)))]) .ret) .nop)) (.seq (.reg 3 [o 7 (.mv (.k (.sl 0 true [] [])))]) (.seq (.seq (.reg 4 [o 8 (.mv (i 0))]) (.block 0 (.loop (.seq (.seq (.reg
  5 [m 28 8, m 29 0, o 30 (.len (.t 29)), o 31 (.bin .lss .int (.t 28) (.t 30))]) (.cond (.t 31) .nop (.exit 0))) (.seq (.block 1 (.drw 7 [m 34 7, m 35 0, m 36 8, o 37 (.ia 2 (.t
  35) (.t 36)), o 38 (.fa 0 (.t 37)), o 39 (.ld 1 false (.t 38)), o 40 (.bin .mul .int (i 2) (.t 39)), m 41 0, m 42 8, o 43 (.ia 2 (.t 41) (.t 42)), o 44 (.fa 1 (.t 43)), o 45 (.ld
  1 false (.t 44)), o 46 (.bin .mul .int (i 2) (.t 45)), o 47 (.build [z, z] [(0, 1, .t 40), (1, 1, .t 46)]), o 48 (.bsl 2 1 [z, z] [(0, .t 47)]), o 49 (.app 2 16 [z, z] (.t 34)
  (.t 48)), m 7 49] [])) (.reg 6 [m 32 8, o 33 (.bin .add .int (.t 32) (i 1)), m 8 33])))))) (.seq (.reg 8 [m 50 7, m 51 1, o 52 (.bin .mul .int (i 2) (.t 51)), o 53 (.bin .add
  .int (.t 52) (i 1)), m 54 2, o 55 (.bin .mul .int (i 2) (.t 54)), o 56 (.bin .add .int (.t 55) (i 1)), o 57 (.build [z, z] [(0, 1, .t 53), (1, 1, .t 56)]), c 58 60 [.t 50, .t
  57], m 6 58]) .ret))))
def rv40 : List RV := [(.t 6)]
theorem ok40 : cFun Try.prog Try.f40 = some (ac40, rv40) := by kernel_rfl
theorem nt40 : Try.f40.ntmps = 59 := by kernel_rfl
theorem of40 : okF Try.prog 40 := ⟨Try.f40, Try.func40, by kernel_rfl, by kernel_rfl⟩

/- putlog/putlogref07.Move -/
def ac41 : AC := .seq (.reg 0 [o 6 (.mv (.k (.sl 0 true [] []))), o 7 (.mv (i 0))]) (.seq (.seq (.reg 1 [m 10 0, c 11 37 [.t 10], o 12 (.un .not (.t 11)), m 13 12, v 14 13 (.mv (.t 1)), v 15 13
  (.bin .lss .int (.t 14) (i (-40))), o 16 (.pick (.t 13) tt (.t 15)), m 17 16, v 18 17 (.mv (.t 1)), v 19 17 (.bin .gtr .int (.t 18) (i 40)), o 20 (.pick (.t 17) tt (.t 19)), m 21
  20, v 22 21 (.mv (.t 2)), v 23 21 (.bin .lss .int (.t 22) (i (-40))), o 24 (.pick (.t 21) tt (.t 23)), m 25 24, v 26 25 (.mv (.t 2)), v 27 25 (.bin .gtr .int (.t 26) (i 40)), o
  28 (.pick (.t 25) tt (.t 27))]) (.cond (.t 28) (.seq (.reg 2 [o 6 (.mv (.k (.sl 0 true [] []))), o 7 (.mv (i 70))]) .ret) .nop)) (.seq (.reg 3 [o 8 (.mv (.k (.sl 0 true []
  [])))]) (.seq (.seq (.reg 4 [o 9 (.mv (i 0))]) (.block 0 (.loop (.seq (.seq (.reg 5 [m 29 9, m 30 0, o 31 (.len (.t 30)), o 32 (.bin .lss .int (.t 29) (.t 31))]) (.cond (.t 32)
  .nop (.exit 0))) (.seq (.block 1 (.drw 7 [m 35 8, m 36 0, m 37 9, o 38 (.ia 2 (.t 36) (.t 37)), o 39 (.fa 0 (.t 38)), o 40 (.ld 1 false (.t 39)), m 41 1, o 42 (.bin .add .int (.t
  40) (.t 41)), m 43 0, m 44 9, o 45 (.ia 2 (.t 43) (.t 44)), o 46 (.fa 1 (.t 45)), o 47 (.ld 1 false (.t 46)), m 48 2, o 49 (.bin .add .int (.t 47) (.t 48)), o 50 (.build [z, z]
  [(0, 1, .t 42), (1, 1, .t 49)]), o 51 (.bsl 2 1 [z, z] [(0, .t 50)]), o 52 (.app 2 16 [z, z] (.t 35) (.t 51)), m 8 52] [])) (.reg 6 [m 33 9, o 34 (.bin .add .int (.t 33) (i 1)),
  m 9 34])))))) (.seq (.seq (.reg 8 [m 53 8, c 54 37 [.t 53], o 55 (.un .not (.t 54))]) (.cond (.t 55) (.seq (.reg 9 [o 6 (.mv (.k (.sl 0 true [] []))), o 7 (.mv (i 70))]) .ret)
  .nop)) (.seq (.reg 10 [m 56 8, m 6 56, o 7 (.mv (i 0))]) .ret)))))
def rv41 : List RV := [(.t 6), (.t 7)]
theorem ok41 : cFun Try.prog Try.f41 = some (ac41, rv41) := by kernel_rfl
theorem nt41 : Try.f41.ntmps = 57 := by kernel_rfl
theorem of41 : okF Try.prog 41 := ⟨Try.f41, Try.func41, by kernel_rfl, by kernel_rfl⟩

/- putlog/putlogref07.Seam -/
def ac42 : AC := .seq (.reg 0 [o 4 (.alloc [z, z, z, z]), o 5 (.mv ff)]) (.seq (.seq (.reg 1 [m 13 0, c 14 37 [.t 13], o 15 (.un .not (.t 14)), m 16 15, v 17 16 (.mv (.t 1)), v 18 16 (.call 37 [.t
  17]), v 19 16 (.un .not (.t 18)), o 20 (.pick (.t 16) tt (.t 19)), m 21 20, v 22 21 (.mv (.t 0)), v 23 21 (.mv (.t 1)), v 24 21 (.call 44 [.t 22, .t 23]), o 25 (.pick (.t 21) tt
  (.t 24))]) (.cond (.t 25) (.seq (.reg 2 [o 26 (.build [z, z, z, z] []), u (.st 4 (.t 4) (.t 26)), o 5 (.mv ff)]) .ret) .nop)) (.seq (.reg 3 [o 6 (.mv (.k (.sl 0 true [] [])))])
  (.seq (.seq (.reg 4 [o 7 (.mv (i 0))]) (.block 0 (.loop (.seq (.seq (.reg 5 [m 27 7, o 28 (.bin .leq .int (.t 27) (i 40))]) (.cond (.t 28) .nop (.exit 0))) (.seq (.block 1 (.seq
  (.reg 7 [o 8 (.mv (i 0))]) (.block 2 (.loop (.seq (.seq (.reg 8 [m 31 8, o 32 (.bin .leq .int (.t 31) (i 40))]) (.cond (.t 32) .nop (.exit 2))) (.seq (.block 3 (.seq (.reg 10 [m
  35 7, m 36 8, o 37 (.build [z, z] [(0, 1, .t 35), (1, 1, .t 36)]), o 9 (.alloc [z, z]), u (.st 2 (.t 9) (.t 37))]) (.seq (.reg 11 [m 38 0, o 39 (.ld 2 true (.t 9)), c 40 60 [.t
  38, .t 39], o 41 (.bin .eql .int (.t 40) (i 0)), m 42 41, w 43 42 (.mv (.t 1)), w 44 42 (.ld 2 true (.t 9)), w 45 42 (.call 60 [.t 43, .t 44]), w 46 42 (.bin .eql .int (.t 45) (i
  0)), o 47 (.pick (.t 42) (.t 46) ff)]) (.cond (.t 47) (.reg 12 [m 48 6, o 49 (.ld 2 true (.t 9)), o 50 (.bsl 2 1 [z, z] [(0, .t 49)]), o 51 (.app 2 16 [z, z] (.t 48) (.t 50)), m
  6 51]) .nop)))) (.reg 9 [m 33 8, o 34 (.bin .add .int (.t 33) (i 1)), m 8 34]))))))) (.reg 6 [m 29 7, o 30 (.bin .add .int (.t 29) (i 1)), m 7 30])))))) (.seq (.seq (.reg 13 [m
  52 6, o 53 (.len (.t 52)), o 54 (.bin .lss .int (.t 53) (i 2))]) (.cond (.t 54) (.seq (.reg 14 [o 55 (.build [z, z, z, z] []), u (.st 4 (.t 4) (.t 55)), o 5 (.mv ff)]) .ret)
  .nop)) (.seq (.reg 15 [m 56 6, o 57 (.ia 2 (.t 56) (i 0)), o 58 (.ld 2 true (.t 57)), o 10 (.alloc [z, z]), u (.st 2 (.t 10) (.t 58))]) (.seq (.reg 16 [m 59 6, m 60 6, o 61 (.len
  (.t 60)), o 62 (.bin .sub .int (.t 61) (i 1)), o 63 (.ia 2 (.t 59) (.t 62)), o 64 (.ld 2 true (.t 63)), o 11 (.alloc [z, z]), u (.st 2 (.t 11) (.t 64))]) (.seq (.seq (.reg 17 [o
  12 (.mv (i 0))]) (.block 4 (.loop (.seq (.seq (.reg 18 [m 65 12, m 66 0, o 67 (.len (.t 66)), o 68 (.bin .lss .int (.t 65) (.t 67))]) (.cond (.t 68) .nop (.exit 4))) (.seq
  (.block 5 (.seq (.drw 20 [o 71 (.ld 2 true (.t 10)), o 72 (.ld 2 true (.t 11)), m 73 0, m 74 12, o 75 (.ia 2 (.t 73) (.t 74)), o 76 (.ld 2 true (.t 75)), c 77 28 [.t 71, .t 72,
  .t 76], o 78 (.bin .lss .int (.t 77) (i 0))] []) (.cond (.t 78) (.seq (.reg 21 [o 79 (.ld 2 true (.t 11)), o 80 (.ld 2 true (.t 10)), o 81 (.build [z, z, z, z] [(0, 2, .t 79),
  (2, 2, .t 80)]), u (.st 4 (.t 4) (.t 81)), o 5 (.mv tt)]) .ret) .nop))) (.reg 19 [m 69 12, o 70 (.bin .add .int (.t 69) (i 1)), m 12 70])))))) (.seq (.reg 22 [o 82 (.ld 2 true
  (.t 10)), o 83 (.ld 2 true (.t 11)), o 84 (.build [z, z, z, z] [(0, 2, .t 82), (2, 2, .t 83)]), u (.st 4 (.t 4) (.t 84)), o 5 (.mv tt)]) .ret))))))))
def rv42 : List RV := [(.c 4 4 true), (.t 5)]
theorem ok42 : cFun Try.prog Try.f42 = some (ac42, rv42) := by kernel_rfl
theorem nt42 : Try.f42.ntmps = 85 := by kernel_rfl
theorem of42 : okF Try.prog 42 := ⟨Try.f42, Try.func42, by kernel_rfl, by kernel_rfl⟩

/- putlog/putlogref07.Side -/
def ac43 : AC := .seq (.reg 0 [o 4 (.mv (i 0)), o 5 (.mv (i 0)), o 6 (.mv ff)]) (.seq (.seq (.reg 1 [m 9 0, c 10 37 [.t 9], o 11 (.un .not (.t 10)), m 12 11, v 13 12 (.mv (.t 1)), v 14 12 (.call 37
  [.t 13]), v 15 12 (.un .not (.t 14)), o 16 (.pick (.t 12) tt (.t 15))]) (.cond (.t 16) (.seq (.reg 2 [o 4 (.mv (i 0)), o 5 (.mv (i 0)), o 6 (.mv ff)]) .ret) .nop)) (.seq (.seq
  (.reg 3 [o 7 (.mv (i 0))]) (.block 0 (.loop (.seq (.seq (.reg 4 [m 17 7, m 18 0, o 19 (.len (.t 18)), o 20 (.bin .lss .int (.t 17) (.t 19))]) (.cond (.t 20) .nop (.exit 0)))
  (.seq (.block 1 (.seq (.reg 6 [m 23 0, m 24 7, m 25 1, c 26 61 [.t 23, .t 24, .t 25]]) (.cond (.t 26) (.seq (.reg 7 [m 27 7, o 4 (.mv (i 0)), m 5 27, o 6 (.mv tt)]) .ret) .nop)))
  (.reg 5 [m 21 7, o 22 (.bin .add .int (.t 21) (i 1)), m 7 22])))))) (.seq (.seq (.reg 8 [o 8 (.mv (i 0))]) (.block 2 (.loop (.seq (.seq (.reg 9 [m 28 8, m 29 1, o 30 (.len (.t
  29)), o 31 (.bin .lss .int (.t 28) (.t 30))]) (.cond (.t 31) .nop (.exit 2))) (.seq (.block 3 (.seq (.reg 11 [m 34 1, m 35 8, m 36 0, c 37 61 [.t 34, .t 35, .t 36]]) (.cond (.t
  37) (.seq (.reg 12 [m 38 8, o 4 (.mv (i 1)), m 5 38, o 6 (.mv tt)]) .ret) .nop))) (.reg 10 [m 32 8, o 33 (.bin .add .int (.t 32) (i 1)), m 8 33])))))) (.seq (.reg 13 [o 4 (.mv (i
  0)), o 5 (.mv (i 0)), o 6 (.mv ff)]) .ret))))
def rv43 : List RV := [(.t 4), (.t 5), (.t 6)]
theorem ok43 : cFun Try.prog Try.f43 = some (ac43, rv43) := by kernel_rfl
theorem nt43 : Try.f43.ntmps = 39 := by kernel_rfl
theorem of43 : okF Try.prog 43 := ⟨Try.f43, Try.func43, by kernel_rfl, by kernel_rfl⟩

/- putlog/putlogref07.Overlap -/
def ac44 : AC := .seq (.reg 0 [o 4 (.mv ff)]) (.seq (.seq (.reg 1 [m 18 0, c 19 37 [.t 18], o 20 (.un .not (.t 19)), m 21 20, v 22 21 (.mv (.t 1)), v 23 21 (.call 37 [.t 22]), v 24 21 (.un .not (.t
  23)), o 25 (.pick (.t 21) tt (.t 24))]) (.cond (.t 25) (.seq (.reg 2 [o 4 (.mv ff)]) .ret) .nop)) (.seq (.reg 3 [m 26 0, c 27 62 [.t 26], m 28 1, c 29 62 [.t 28], o 30 (.app 3 24
  [z, z, z] (.t 27) (.t 29)), m 5 30]) (.seq (.reg 4 [o 6 (.mv (.k (.sl 0 true [] [])))]) (.seq (.seq (.reg 5 [o 7 (.mv (i 0))]) (.block 0 (.loop (.seq (.seq (.reg 6 [m 31 7, m 32
  5, o 33 (.len (.t 32)), o 34 (.bin .lss .int (.t 31) (.t 33))]) (.cond (.t 34) .nop (.exit 0))) (.seq (.block 1 (.seq (.reg 8 [m 37 7, o 38 (.bin .add .int (.t 37) (i 1)), m 8
  38]) (.block 2 (.loop (.seq (.seq (.reg 9 [m 39 8, m 40 5, o 41 (.len (.t 40)), o 42 (.bin .lss .int (.t 39) (.t 41))]) (.cond (.t 42) .nop (.exit 2))) (.seq (.block 3 (.seq
  (.drw 11 [m 45 5, m 46 7, o 47 (.ia 3 (.t 45) (.t 46)), o 48 (.fa 1 (.t 47)), o 49 (.ld 1 false (.t 48)), m 50 5, m 51 8, o 52 (.ia 3 (.t 50) (.t 51)), o 53 (.fa 2 (.t 52)), o 54
  (.ld 1 false (.t 53)), o 55 (.bin .mul .int (.t 49) (.t 54)), m 56 5, m 57 8, o 58 (.ia 3 (.t 56) (.t 57)), o 59 (.fa 1 (.t 58)), o 60 (.ld 1 false (.t 59)), m 61 5, m 62 7, o 63
  (.ia 3 (.t 61) (.t 62)), o 64 (.fa 2 (.t 63)), o 65 (.ld 1 false (.t 64)), o 66 (.bin .mul .int (.t 60) (.t 65)), o 67 (.bin .sub .int (.t 55) (.t 66)), m 68 5, m 69 7, o 70 (.ia
  3 (.t 68) (.t 69)), o 71 (.fa 2 (.t 70)), o 72 (.ld 1 false (.t 71)), m 73 5, m 74 8, o 75 (.ia 3 (.t 73) (.t 74)), o 76 (.fa 0 (.t 75)), o 77 (.ld 1 false (.t 76)), o 78 (.bin
  .mul .int (.t 72) (.t 77)), m 79 5, m 80 8, o 81 (.ia 3 (.t 79) (.t 80)), o 82 (.fa 2 (.t 81)), o 83 (.ld 1 false (.t 82)), m 84 5, m 85 7, o 86 (.ia 3 (.t 84) (.t 85)), o 87
  (.fa 0 (.t 86)), o 88 (.ld 1 false (.t 87)), o 89 (.bin .mul .int (.t 83) (.t 88)), o 90 (.bin .sub .int (.t 78) (.t 89)), m 91 5, m 92 7, o 93 (.ia 3 (.t 91) (.t 92)), o 94 (.fa
  0 (.t 93)), o 95 (.ld 1 false (.t 94)), m 96 5, m 97 8, o 98 (.ia 3 (.t 96) (.t 97)), o 99 (.fa 1 (.t 98)), o 100 (.ld 1 false (.t 99)), o 101 (.bin .mul .int (.t 95) (.t 100)),
  m 102 5, m 103 8, o 104 (.ia 3 (.t 102) (.t 103)), o 105 (.fa 0 (.t 104)), o 106 (.ld 1 false (.t 105)), m 107 5, m 108 7, o 109 (.ia 3 (.t 107) (.t 108)), o 110 (.fa 1 (.t
  109)), o 111 (.ld 1 false (.t 110)), o 112 (.bin .mul .int (.t 106) (.t 111)), o 113 (.bin .sub .int (.t 101) (.t 112)), o 114 (.build [z, z, z] [(0, 1, .t 67), (1, 1, .t 90),
  (2, 1, .t 113)]), o 9 (.alloc [z, z, z]), u (.st 3 (.t 9) (.t 114))] [(2, 70), (4, 70), (7, 70), (9, 70), (13, 70), (15, 70), (18, 70), (20, 70), (25, 70), (27, 70), (30, 70),
  (32, 70), (36, 70), (38, 70), (41, 70), (43, 70), (48, 70), (50, 70), (53, 70), (55, 70), (59, 70), (61, 70), (64, 70), (66, 70)]) (.seq (.seq (.reg 12 [o 115 (.fa 2 (.t 9)), o
  116 (.ld 1 false (.t 115)), o 117 (.bin .eql .int (.t 116) (i 0))]) (.cond (.t 117) (.exit 3) .nop)) (.seq (.seq (.reg 13 [o 118 (.fa 2 (.t 9)), o 119 (.ld 1 false (.t 118)), o
  120 (.bin .lss .int (.t 119) (i 0))]) (.cond (.t 120) (.reg 14 [o 121 (.fa 0 (.t 9)), o 122 (.ld 1 false (.t 121)), o 123 (.un .neg (.t 122)), o 124 (.fa 1 (.t 9)), o 125 (.ld 1
  false (.t 124)), o 126 (.un .neg (.t 125)), o 127 (.fa 2 (.t 9)), o 128 (.ld 1 false (.t 127)), o 129 (.un .neg (.t 128)), o 130 (.build [z, z, z] [(0, 1, .t 123), (1, 1, .t
  126), (2, 1, .t 129)]), u (.st 3 (.t 9) (.t 130))]) .nop)) (.seq (.reg 15 [o 10 (.mv tt)]) (.seq (.seq (.reg 16 [o 11 (.mv (i 0))]) (.block 4 (.loop (.seq (.seq (.reg 17 [m 131
  11, m 132 5, o 133 (.len (.t 132)), o 134 (.bin .lss .int (.t 131) (.t 133))]) (.cond (.t 134) .nop (.exit 4))) (.seq (.block 5 (.drw 19 [m 137 10, m 138 137, w 139 138 (.mv (.t
  5)), w 140 138 (.mv (.t 11)), w 141 138 (.ia 3 (.t 139) (.t 140)), w 142 138 (.fa 0 (.t 141)), w 143 138 (.ld 1 false (.t 142)), w 144 138 (.fa 0 (.t 9)), w 145 138 (.ld 1 false
  (.t 144)), w 146 138 (.bin .mul .int (.t 143) (.t 145)), w 147 138 (.mv (.t 5)), w 148 138 (.mv (.t 11)), w 149 138 (.ia 3 (.t 147) (.t 148)), w 150 138 (.fa 1 (.t 149)), w 151
  138 (.ld 1 false (.t 150)), w 152 138 (.fa 1 (.t 9)), w 153 138 (.ld 1 false (.t 152)), w 154 138 (.bin .mul .int (.t 151) (.t 153)), w 155 138 (.bin .add .int (.t 146) (.t
  154)), w 156 138 (.mv (.t 5)), w 157 138 (.mv (.t 11)), w 158 138 (.ia 3 (.t 156) (.t 157)), w 159 138 (.fa 2 (.t 158)), w 160 138 (.ld 1 false (.t 159)), w 161 138 (.fa 2 (.t
  9)), w 162 138 (.ld 1 false (.t 161)), w 163 138 (.bin .mul .int (.t 160) (.t 162)), w 164 138 (.bin .add .int (.t 155) (.t 163)), w 165 138 (.bin .geq .int (.t 164) (i 0)), o
  166 (.pick (.t 138) (.t 165) ff), m 10 166] [])) (.reg 18 [m 135 11, o 136 (.bin .add .int (.t 135) (i 1)), m 11 136])))))) (.seq (.reg 20 [m 167 10]) (.cond (.t 167) (.reg 21 [m
  168 6, o 169 (.ld 3 true (.t 9)), o 170 (.bsl 3 1 [z, z, z] [(0, .t 169)]), o 171 (.app 3 24 [z, z, z] (.t 168) (.t 170)), m 6 171]) .nop)))))))) (.reg 10 [m 43 8, o 44 (.bin
  .add .int (.t 43) (i 1)), m 8 44]))))))) (.reg 7 [m 35 7, o 36 (.bin .add .int (.t 35) (i 1)), m 7 36])))))) (.seq (.seq (.reg 22 [o 12 (.mv (i 0))]) (.block 6 (.loop (.seq (.seq
  (.reg 23 [m 172 12, m 173 6, o 174 (.len (.t 173)), o 175 (.bin .lss .int (.t 172) (.t 174))]) (.cond (.t 175) .nop (.exit 6))) (.seq (.block 7 (.seq (.reg 25 [o 13 (.mv (i 0))])
  (.block 8 (.loop (.seq (.seq (.reg 26 [m 178 13, m 179 12, o 180 (.bin .lss .int (.t 178) (.t 179))]) (.cond (.t 180) .nop (.exit 8))) (.seq (.block 9 (.seq (.reg 28 [o 14 (.mv
  (i 0))]) (.block 10 (.loop (.seq (.seq (.reg 29 [m 183 14, m 184 13, o 185 (.bin .lss .int (.t 183) (.t 184))]) (.cond (.t 185) .nop (.exit 10))) (.seq (.block 11 (.seq (.reg 31
  [m 188 6, m 189 12, o 190 (.ia 3 (.t 188) (.t 189)), o 191 (.ld 3 true (.t 190)), o 15 (.alloc [z, z, z]), u (.st 3 (.t 15) (.t 191))]) (.seq (.reg 32 [m 192 6, m 193 13, o 194
  (.ia 3 (.t 192) (.t 193)), o 195 (.ld 3 true (.t 194)), o 16 (.alloc [z, z, z]), u (.st 3 (.t 16) (.t 195))]) (.seq (.reg 33 [m 196 6, m 197 14, o 198 (.ia 3 (.t 196) (.t 197)),
  o 199 (.ld 3 true (.t 198)), o 17 (.alloc [z, z, z]), u (.st 3 (.t 17) (.t 199))]) (.seq (.reg 34 [o 200 (.fa 0 (.t 15)), o 201 (.ld 1 false (.t 200)), o 202 (.fa 1 (.t 16)), o
  203 (.ld 1 false (.t 202)), o 204 (.fa 2 (.t 17)), o 205 (.ld 1 false (.t 204)), o 206 (.bin .mul .int (.t 203) (.t 205)), o 207 (.fa 2 (.t 16)), o 208 (.ld 1 false (.t 207)), o
  209 (.fa 1 (.t 17)), o 210 (.ld 1 false (.t 209)), o 211 (.bin .mul .int (.t 208) (.t 210)), o 212 (.bin .sub .int (.t 206) (.t 211)), o 213 (.bin .mul .int (.t 201) (.t 212)), o
  214 (.fa 1 (.t 15)), o 215 (.ld 1 false (.t 214)), o 216 (.fa 0 (.t 16)), o 217 (.ld 1 false (.t 216)), o 218 (.fa 2 (.t 17)), o 219 (.ld 1 false (.t 218)), o 220 (.bin .mul .int
  (.t 217) (.t 219)), o 221 (.fa 2 (.t 16)), o 222 (.ld 1 false (.t 221)), o 223 (.fa 0 (.t 17)), o 224 (.ld 1 false (.t 223)), o 225 (.bin .mul .int (.t 222) (.t 224)), o 226
  (.bin .sub .int (.t 220) (.t 225)), o 227 (.bin .mul .int (.t 215) (.t 226)), o 228 (.bin .sub .int (.t 213) (.t 227)), o 229 (.fa 2 (.t 15)), o 230 (.ld 1 false (.t 229)), o 231
  (.fa 0 (.t 16)), o 232 (.ld 1 false (.t 231)), o 233 (.fa 1 (.t 17)), o 234 (.ld 1 false (.t 233)), o 235 (.bin .mul .int (.t 232) (.t 234)), o 236 (.fa 1 (.t 16)), o 237 (.ld 1
  false (.t 236)), o 238 (.fa 0 (.t 17)), o 239 (.ld 1 false (.t 238)), o 240 (.bin .mul .int (.t 237) (.t 239)), o 241 (.bin .sub .int (.t 235) (.t 240)), o 242 (.bin .mul .int
  (.t 230) (.t 241)), o 243 (.bin .add .int (.t 228) (.t 242)), o 244 (.bin .neq .int (.t 243) (i 0))]) (.cond (.t 244) (.seq (.reg 35 [o 4 (.mv tt)]) .ret) .nop)))))) (.reg 30 [m
  186 14, o 187 (.bin .add .int (.t 186) (i 1)), m 14 187]))))))) (.reg 27 [m 181 13, o 182 (.bin .add .int (.t 181) (i 1)), m 13 182]))))))) (.reg 24 [m 176 12, o 177 (.bin .add
  .int (.t 176) (i 1)), m 12 177])))))) (.seq (.reg 36 [o 4 (.mv ff)]) .ret))))))
def rv44 : List RV := [(.t 4)]
theorem ok44 : cFun Try.prog Try.f44 = some (ac44, rv44) := by kernel_rfl
theorem nt44 : Try.f44.ntmps = 245 := by kernel_rfl
theorem of44 : okF Try.prog 44 := ⟨Try.f44, Try.func44, by kernel_rfl, by kernel_rfl⟩

/- putlog/putlogref07.where -/
def ac60 : AC := .seq (.reg 0 [o 3 (.box 2 (.t 1)), o 4 (.mv (i 0))]) (.seq (.reg 1 [o 5 (.mv (i 1))]) (.seq (.seq (.reg 2 [o 6 (.mv (i 0))]) (.block 0 (.loop (.seq (.seq (.reg 3 [m 8 6, m 9 0, o
  10 (.len (.t 9)), o 11 (.bin .lss .int (.t 8) (.t 10))]) (.cond (.t 11) .nop (.exit 0))) (.seq (.block 1 (.seq (.drw 5 [m 14 0, m 15 6, o 16 (.ia 2 (.t 14) (.t 15)), o 17 (.ld 2
  true (.t 16)), m 18 0, m 19 6, c 20 59 [.t 18, .t 19], o 21 (.ld 2 true (.t 3)), c 22 28 [.t 17, .t 20, .t 21], m 7 22] [(2, 6), (3, 6), (6, 7)]) (.seq (.seq (.reg 6 [m 23 7, o
  24 (.bin .lss .int (.t 23) (i 0))]) (.cond (.t 24) (.seq (.reg 7 [o 4 (.mv (i (-1)))]) .ret) .nop)) (.seq (.reg 8 [m 25 7, o 26 (.bin .eql .int (.t 25) (i 0))]) (.cond (.t 26)
  (.reg 9 [o 5 (.mv (i 0))]) .nop))))) (.reg 4 [m 12 6, o 13 (.bin .add .int (.t 12) (i 1)), m 6 13])))))) (.seq (.reg 10 [m 27 5, m 4 27]) .ret)))
def rv60 : List RV := [(.t 4)]
theorem ok60 : cFun Try.prog Try.f60 = some (ac60, rv60) := by kernel_rfl
theorem nt60 : Try.f60.ntmps = 28 := by kernel_rfl
theorem of60 : okF Try.prog 60 := ⟨Try.f60, Try.func60, by kernel_rfl, by kernel_rfl⟩

/- putlog/putlogref07.separates -/
def ac61 : AC := .seq (.reg 0 [o 6 (.mv ff)]) (.seq (.seq (.reg 1 [o 7 (.mv (i 0))]) (.block 0 (.loop (.seq (.seq (.reg 2 [m 8 7, m 9 2, o 10 (.len (.t 9)), o 11 (.bin .lss .int (.t 8) (.t 10))])
  (.cond (.t 11) .nop (.exit 0))) (.seq (.block 1 (.seq (.drw 4 [m 14 0, m 15 1, o 16 (.ia 2 (.t 14) (.t 15)), o 17 (.ld 2 true (.t 16)), m 18 0, m 19 1, c 20 59 [.t 18, .t 19], m
  21 2, m 22 7, o 23 (.ia 2 (.t 21) (.t 22)), o 24 (.ld 2 true (.t 23)), c 25 28 [.t 17, .t 20, .t 24], o 26 (.bin .gtr .int (.t 25) (i 0))] [(2, 6), (3, 6), (6, 9), (6, 10)])
  (.cond (.t 26) (.seq (.reg 5 [o 6 (.mv ff)]) .ret) .nop))) (.reg 3 [m 12 7, o 13 (.bin .add .int (.t 12) (i 1)), m 7 13])))))) (.seq (.reg 6 [o 6 (.mv tt)]) .ret))
def rv61 : List RV := [(.t 6)]
theorem ok61 : cFun Try.prog Try.f61 = some (ac61, rv61) := by kernel_rfl
theorem nt61 : Try.f61.ntmps = 27 := by kernel_rfl
theorem of61 : okF Try.prog 61 := ⟨Try.f61, Try.func61, by kernel_rfl, by kernel_rfl⟩

/- putlog/putlogref07.lines -/
def ac62 : AC := .seq (.reg 0 [o 2 (.mv (.k (.sl 0 true [] [])))]) (.seq (.reg 1 [o 3 (.mv (.k (.sl 0 true [] [])))]) (.seq (.seq (.reg 2 [o 4 (.mv (i 0))]) (.block 0 (.loop (.seq (.seq (.reg 3 [m
  7 4, m 8 0, o 9 (.len (.t 8)), o 10 (.bin .lss .int (.t 7) (.t 9))]) (.cond (.t 10) .nop (.exit 0))) (.seq (.block 1 (.seq (.reg 5 [m 13 0, m 14 4, o 15 (.ia 2 (.t 13) (.t 14)),
  o 16 (.ld 2 true (.t 15)), o 5 (.alloc [z, z]), u (.st 2 (.t 5) (.t 16))]) (.seq (.reg 6 [m 17 0, m 18 4, c 19 59 [.t 17, .t 18], o 6 (.alloc [z, z]), u (.st 2 (.t 6) (.t 19))])
  (.reg 7 [m 20 3, o 21 (.fa 1 (.t 5)), o 22 (.ld 1 false (.t 21)), o 23 (.fa 1 (.t 6)), o 24 (.ld 1 false (.t 23)), o 25 (.bin .sub .int (.t 22) (.t 24)), o 26 (.fa 0 (.t 6)), o
  27 (.ld 1 false (.t 26)), o 28 (.fa 0 (.t 5)), o 29 (.ld 1 false (.t 28)), o 30 (.bin .sub .int (.t 27) (.t 29)), o 31 (.fa 1 (.t 6)), o 32 (.ld 1 false (.t 31)), o 33 (.fa 1 (.t
  5)), o 34 (.ld 1 false (.t 33)), o 35 (.bin .sub .int (.t 32) (.t 34)), o 36 (.fa 0 (.t 5)), o 37 (.ld 1 false (.t 36)), o 38 (.bin .mul .int (.t 35) (.t 37)), o 39 (.fa 0 (.t
  6)), o 40 (.ld 1 false (.t 39)), o 41 (.fa 0 (.t 5)), o 42 (.ld 1 false (.t 41)), o 43 (.bin .sub .int (.t 40) (.t 42)), o 44 (.fa 1 (.t 5)), o 45 (.ld 1 false (.t 44)), o 46
  (.bin .mul .int (.t 43) (.t 45)), o 47 (.bin .sub .int (.t 38) (.t 46)), o 48 (.build [z, z, z] [(0, 1, .t 25), (1, 1, .t 30), (2, 1, .t 47)]), o 49 (.bsl 3 1 [z, z, z] [(0, .t
  48)]), o 50 (.app 3 24 [z, z, z] (.t 20) (.t 49)), m 3 50])))) (.reg 4 [m 11 4, o 12 (.bin .add .int (.t 11) (i 1)), m 4 12])))))) (.seq (.reg 8 [m 51 3, m 2 51]) .ret)))
def rv62 : List RV := [(.t 2)]
theorem ok62 : cFun Try.prog Try.f62 = some (ac62, rv62) := by kernel_rfl
theorem nt62 : Try.f62.ntmps = 52 := by kernel_rfl
theorem of62 : okF Try.prog 62 := ⟨Try.f62, Try.func62, by kernel_rfl, by kernel_rfl⟩

end Go.Proofs.Ytojciffnkbfbhaa.Am
