/-
  What the machine makes of the functions: its own texts of them, and that they are that.
-/
import Derived.Test.YtdabfcbelkjmgaaDoorA5
import Derived.Test.YtdabfcbelkjmgaaDoorProg
namespace Go.Proofs.YtdabfcbelkjmgaaDoor.Am
set_option linter.unusedSimpArgs false
set_option linter.unusedVariables false
open Go C
set_option maxRecDepth 100000
/- putlog/unit.Encode -/
def ac21 : AC := .seq (.reg 0 [o 1 (.box 6 (.t 0)), o 2 (.mv (.k (.v (.string (sB []))))), o 3 (.mv (i 0))]) (.seq (.seq (.reg 1 [o 7 (.ld 6 true (.t 1)), c 8 23 [.t 7], o 9 (.un .not (.t 8))])
  (.cond (.t 9) (.seq (.reg 2 [o 2 (.mv (.k (.v (.string (sB []))))), o 3 (.mv (i 80))]) .ret) .nop)) (.seq (.reg 3 [o 4 (.allocB 90)]) (.seq (.reg 4 [o 10 (.fa 0 (.t 1)), o 11
  (.ld 1 false (.t 10)), o 12 (.fa 1 (.t 1)), o 13 (.ld 1 false (.t 12)), o 14 (.fa 2 (.t 1)), o 15 (.ld 1 false (.t 14)), o 16 (.fa 4 (.t 1)), o 17 (.ld 1 false (.t 16)), o 18
  (.fa 5 (.t 1)), o 19 (.ld 1 false (.t 18)), o 20 (.fa 3 (.t 1)), o 21 (.ld 1 false (.t 20)), o 22 (.len (.t 21)), o 23 (.bsl 1 6 [z] [(0, .t 11), (1, .t 13), (2, .t 15), (3, .t
  17), (4, .t 19), (5, .t 22)]), c 24 42 [.t 4, .t 23]]) (.seq (.seq (.reg 5 [o 25 (.fa 3 (.t 1)), o 26 (.ld 1 false (.t 25)), o 27 (.len (.t 26)), o 28 (.mv (i 0))]) (.block 0
  (.loop (.seq (.reg 6 [o 29 (.bin .lss .int (.t 28) (.t 27))]) (.seq (.cond (.t 29) .nop (.exit 0)) (.seq (.block 1 (.seq (.reg 7 [o 30 (.ia 2 (.t 26) (.t 28)), o 31 (.ld 2 true
  (.t 30)), o 6 (.alloc [z, z]), u (.st 2 (.t 6) (.t 31))]) (.reg 8 [o 32 (.fa 0 (.t 6)), o 33 (.ld 1 false (.t 32)), o 34 (.fa 1 (.t 6)), o 35 (.ld 1 false (.t 34)), o 36 (.bsl 1
  2 [z] [(0, .t 33), (1, .t 35)]), c 37 42 [.t 4, .t 36]]))) (.reg 9 [o 38 (.bin .add .int (.t 28) (i 1)), m 28 38]))))))) (.seq (.reg 10 [o 39 (.fa 0 (.t 4)), c 40 43 [.t 39], m 2
  40, o 3 (.mv (i 0))]) .ret)))))
def rv21 : List RV := [(.t 2), (.t 3)]
theorem ok21 : cFun Tryd.prog Tryd.f21 = some (ac21, rv21) := by kernel_rfl
theorem nt21 : Tryd.f21.ntmps = 41 := by kernel_rfl
theorem of21 : okF Tryd.prog 21 := ⟨Tryd.f21, Tryd.func21, by kernel_rfl, by kernel_rfl⟩

/- putlog/unit.Decode -/
def ac22 : AC := .seq (.reg 0 [o 2 (.alloc [z, z, z, .sl 0 true [] [], z, z]), o 3 (.alloc [z])]) (.seq (.reg 1 [o 9 (.mkf (.func 44) [] [.t 2, .t 3]), u (.dfr (.t 9))]) (.seq (.reg 2 [m 10 0, o 11
  (.build [.v (.string (sB [])), z] [(0, 1, .t 10)]), o 12 (.box 2 (.t 11)), m 4 12]) (.seq (.seq (.reg 3 [o 13 (.fa 0 (.t 2)), o 14 (.fa 1 (.t 2)), o 15 (.fa 2 (.t 2)), o 16 (.fa
  4 (.t 2)), o 17 (.fa 5 (.t 2)), o 18 (.build [.v (.pointer none), .v (.pointer none), .v (.pointer none), .v (.pointer none), .v (.pointer none)] [(0, 1, .t 13), (1, 1, .t 14),
  (2, 1, .t 15), (3, 1, .t 16), (4, 1, .t 17)]), o 19 (.mv (i 0))]) (.block 0 (.loop (.seq (.reg 4 [o 20 (.bin .lss .int (.t 19) (i 5))]) (.seq (.cond (.t 20) .nop (.exit 0)) (.seq
  (.block 1 (.seq (.reg 5 [o 21 (.idxA 5 1 false (.t 18) (.t 19)), m 6 21]) (.reg 6 [m 22 6, m 23 4, c 24 45 [.t 23], o 25 (.nilc (.t 22)), u (.st 1 (.t 25) (.t 24))]))) (.reg 7 [o
  26 (.bin .add .int (.t 19) (i 1)), m 19 26]))))))) (.seq (.reg 8 [m 27 4, c 28 45 [.t 27], m 7 28]) (.seq (.seq (.reg 9 [m 29 7, c 30 46 [.t 29, i 3, i 8], o 31 (.un .not (.t
  30))]) (.cond (.t 31) (.reg 10 [o 32 (.build [] []), o 33 (.pr (.mkI 94) [.t 32]), u (.pan (.t 33))]) .nop)) (.seq (.seq (.reg 11 [m 34 7, o 35 (.mv (i 0))]) (.block 2 (.loop
  (.seq (.reg 12 [o 36 (.bin .lss .int (.t 35) (.t 34))]) (.seq (.cond (.t 36) .nop (.exit 2)) (.seq (.block 3 (.seq (.reg 13 [m 37 4, c 38 45 [.t 37], m 8 38]) (.drw 14 [o 39 (.fa
  3 (.t 2)), o 40 (.ld 1 false (.t 39)), m 41 8, m 42 4, c 43 45 [.t 42], o 44 (.build [z, z] [(0, 1, .t 41), (1, 1, .t 43)]), o 45 (.bsl 2 1 [z, z] [(0, .t 44)]), o 46 (.app 2 16
  [z, z] (.t 40) (.t 45)), o 47 (.fa 3 (.t 2)), u (.st 1 (.t 47) (.t 46))] [(1, 4), (1, 6)]))) (.reg 15 [o 48 (.bin .add .int (.t 35) (i 1)), m 35 48]))))))) (.seq (.seq (.reg 16
  [m 49 4, o 50 (.nilc (.t 49)), o 51 (.fa 1 (.t 50)), o 52 (.ld 1 false (.t 51)), m 53 0, o 54 (.pr .slen [.t 53]), o 55 (.bin .lss .int (.t 52) (.t 54)), m 56 55, v 57 56 (.ld 6
  true (.t 2)), v 58 56 (.call 23 [.t 57]), v 59 56 (.un .not (.t 58)), o 60 (.pick (.t 56) tt (.t 59))]) (.cond (.t 60) (.reg 17 [o 61 (.build [] []), o 62 (.pr (.mkI 94) [.t
  61]), u (.pan (.t 62))]) .nop)) (.seq (.reg 18 [o 63 (.ld 6 true (.t 2)), u (.st 6 (.t 2) (.t 63)), u (.st 1 (.t 3) (i 0))]) .ret))))))))
def rv22 : List RV := [(.c 2 6 true), (.c 3 1 false)]
theorem ok22 : cFun Tryd.prog Tryd.f22 = some (ac22, rv22) := by kernel_rfl
theorem nt22 : Tryd.f22.ntmps = 64 := by kernel_rfl
theorem of22 : okF Tryd.prog 22 := ⟨Tryd.f22, Tryd.func22, by kernel_rfl, by kernel_rfl⟩

/- (*putlog/unit.writer).numbers -/
def ac42 : AC := .seq (.reg 0 [m 8 1, o 9 (.len (.t 8)), o 10 (.mv (i 0))]) (.block 0 (.loop (.seq (.reg 1 [o 11 (.bin .lss .int (.t 10) (.t 9))]) (.seq (.cond (.t 11) .nop (.exit 0)) (.seq (.block
  1 (.seq (.reg 2 [o 12 (.ia 1 (.t 8) (.t 10)), o 13 (.ld 1 false (.t 12)), m 5 13]) (.seq (.reg 3 [m 15 5, c 16 61 [.t 15], m 14 16, o 17 (.ext (.t 14) 0), o 18 (.ext (.t 14) 1),
  m 6 17, m 7 18]) (.reg 4 [m 19 0, o 20 (.nilc (.t 19)), o 21 (.fa 0 (.t 20)), m 22 6, c 23 62 [.t 21, .t 22]])))) (.reg 5 [o 24 (.bin .add .int (.t 10) (i 1)), m 10 24]))))))
def rv42 : List RV := []
theorem ok42 : cFun Tryd.prog Tryd.f42 = some (ac42, rv42) := by kernel_rfl
theorem nt42 : Tryd.f42.ntmps = 25 := by kernel_rfl
theorem of42 : okF Tryd.prog 42 := ⟨Tryd.f42, Tryd.func42, by kernel_rfl, by kernel_rfl⟩

/- putlog/unit.Decode$1 -/
def ac44 : AC := .seq (.reg 0 [o 5 .rcv]) (.block 0 (.seq (.reg 3 [o 7 (.pr (.inil false) [.t 5])]) (.cond (.t 7) (.reg 4 [m 2 5]) (.seq (.reg 5 [o 8 (.pr (.tas 94) [.t 5]), o 9 (.ext (.t 8) 1), o
  10 (.ext (.t 8) 0)]) (.cond (.t 9) (.seq (.reg 6 [o 3 (.alloc []), u (.st 0 (.t 3) (.t 10))]) (.reg 7 [o 11 (.build [z, z, z, .sl 0 true [] [], z, z] []), u (.st 6 (.t 0) (.t
  11)), u (.st 1 (.t 1) (i 80))])) (.seq (.reg 1 [m 4 5]) (.reg 2 [m 6 4, u (.pan (.t 6))])))))))
def rv44 : List RV := []
theorem ok44 : cFun Tryd.prog Tryd.f44 = some (ac44, rv44) := by kernel_rfl
theorem nt44 : Tryd.f44.ntmps = 12 := by kernel_rfl
theorem of44 : okF Tryd.prog 44 := ⟨Tryd.f44, Tryd.func44, by kernel_rfl, by kernel_rfl⟩

/- (*putlog/unit.reader).number -/
def ac45 : AC := .seq (.reg 0 [o 2 (.mv (i 0))]) (.seq (.drw 1 [m 7 0, o 8 (.nilc (.t 7)), o 9 (.fa 0 (.t 8)), o 10 (.ld 1 false (.t 9)), m 11 0, o 12 (.nilc (.t 11)), o 13 (.fa 1 (.t 12)), o 14
  (.ld 1 false (.t 13)), c 15 63 [.t 10, .t 14], m 6 15, o 16 (.ext (.t 6) 0), o 17 (.ext (.t 6) 1), o 18 (.ext (.t 6) 2), m 3 16, m 4 17, m 5 18] []) (.seq (.seq (.reg 2 [m 19 5,
  o 20 (.bin .neq .int (.t 19) (i 0))]) (.cond (.t 20) (.reg 3 [o 21 (.build [] []), o 22 (.pr (.mkI 94) [.t 21]), u (.pan (.t 22))]) .nop)) (.seq (.reg 4 [m 23 0, m 24 4, o 25
  (.nilc (.t 23)), o 26 (.fa 1 (.t 25)), u (.st 1 (.t 26) (.t 24))]) (.seq (.reg 5 [m 27 3, m 2 27]) .ret))))
def rv45 : List RV := [(.t 2)]
theorem ok45 : cFun Tryd.prog Tryd.f45 = some (ac45, rv45) := by kernel_rfl
theorem nt45 : Tryd.f45.ntmps = 28 := by kernel_rfl
theorem of45 : okF Tryd.prog 45 := ⟨Tryd.f45, Tryd.func45, by kernel_rfl, by kernel_rfl⟩

/- putlog/wire.PutInt -/
def ac61 : AC := .seq (.reg 0 [o 2 (.mv (.k (.v (.string (sB []))))), o 3 (.mv (i 0))]) (.seq (.seq (.reg 1 [m 7 0, o 8 (.bin .lss .int (.t 7) (i (-4611686018427387903))), m 9 8, v 10 9 (.mv (.t
  0)), v 11 9 (.bin .gtr .int (.t 10) (i 4611686018427387903)), o 12 (.pick (.t 9) tt (.t 11))]) (.cond (.t 12) (.seq (.reg 2 [o 2 (.mv (.k (.v (.string (sB []))))), o 3 (.mv (i
  10))]) .ret) .nop)) (.seq (.reg 3 [o 4 (.alloc [.sl 0 true [] []])]) (.seq (.seq (.reg 4 [m 13 0, o 14 (.pr (.cvw .u64) [.t 13]), o 15 (.pr (.shf .shl) [.t 14, .k (.v (.int .u64
  1))]), m 16 0, o 17 (.pr (.shf .shr) [.t 16, .k (.v (.int .u64 63))]), o 18 (.pr (.cvw .u64) [.t 17]), o 19 (.pr (.bits .xor) [.t 15, .t 18]), c 20 75 [.t 19]]) (.block 0 (.rfun
  (.t 20) [21, 22] (.seq (.reg 5 [m 5 21]) (.reg 6 [m 6 22])) (.block 1 (.seq (.seq (.reg 7 [m 23 6, o 24 (.un .not (.t 23))]) (.cond (.t 24) (.reg 8 [m 25 5, o 26 (.pr (.bits .or)
  [.t 25, .k (.v (.int .u8 128))]), m 5 26]) .nop)) (.reg 9 [o 27 (.ld 1 false (.t 4)), m 28 5, o 29 (.bsl 1 1 [.v (.int .u8 0)] [(0, .t 28)]), o 30 (.app 1 1 [.v (.int .u8 0)] (.t
  27) (.t 29)), u (.st 1 (.t 4) (.t 30))])))))) (.seq (.reg 10 [o 31 (.ld 1 false (.t 4)), o 32 (.b2s (.t 31)), m 2 32, o 3 (.mv (i 0))]) .ret))))
def rv61 : List RV := [(.t 2), (.t 3)]
theorem ok61 : cFun Tryd.prog Tryd.f61 = some (ac61, rv61) := by kernel_rfl
theorem nt61 : Tryd.f61.ntmps = 33 := by kernel_rfl
theorem of61 : okF Tryd.prog 61 := ⟨Tryd.f61, Tryd.func61, by kernel_rfl, by kernel_rfl⟩

/- putlog/wire.Int -/
def ac63 : AC := .seq (.reg 0 [o 4 (.mv (i 0)), o 5 (.mv (i 0)), o 6 (.mv (i 0))]) (.seq (.seq (.reg 1 [m 11 1, o 12 (.bin .lss .int (.t 11) (i 0)), m 13 12, v 14 13 (.mv (.t 1)), v 15 13 (.mv (.t
  0)), v 16 13 (.pr .slen [.t 15]), v 17 13 (.bin .gtr .int (.t 14) (.t 16)), o 18 (.pick (.t 13) tt (.t 17))]) (.cond (.t 18) (.seq (.reg 2 [o 4 (.mv (i 0)), o 5 (.mv (i 0)), o 6
  (.mv (i 2))]) .ret) .nop)) (.seq (.reg 3 [o 7 (.mv (.k (.v (.int .u64 0))))]) (.seq (.seq (.reg 4 [o 19 (.mv (i 0))]) (.block 0 (.loop (.seq (.reg 5 [o 20 (.bin .lss .int (.t 19)
  (i 9))]) (.seq (.cond (.t 20) .nop (.exit 0)) (.seq (.block 1 (.seq (.reg 6 [m 21 19, m 8 21]) (.seq (.seq (.reg 7 [m 22 1, m 23 8, o 24 (.bin .add .int (.t 22) (.t 23)), m 25 0,
  o 26 (.pr .slen [.t 25]), o 27 (.bin .geq .int (.t 24) (.t 26))]) (.cond (.t 27) (.exit 0) .nop)) (.seq (.reg 8 [m 28 0, m 29 1, m 30 8, o 31 (.bin .add .int (.t 29) (.t 30)), o
  32 (.pr .sidx [.t 28, .t 31]), m 9 32]) (.seq (.reg 9 [m 33 7, m 34 9, o 35 (.pr (.bits .and) [.t 34, .k (.v (.int .u8 127))]), o 36 (.pr (.cvw .u64) [.t 35]), m 37 8, o 38 (.bin
  .mul .int (i 7) (.t 37)), o 39 (.pr (.shf .shl) [.t 36, .t 38]), o 40 (.pr (.bits .or) [.t 33, .t 39]), m 7 40]) (.seq (.seq (.reg 10 [m 41 9, o 42 (.bin .geq .int (.t 41) (.k
  (.v (.int .u8 128))))]) (.cond (.t 42) (.exit 1) .nop)) (.seq (.reg 11 [m 43 7, o 44 (.pr (.shf .shr) [.t 43, .k (.v (.int .u64 1))]), o 45 (.pr (.cvw .i64) [.t 44]), m 46 7, o
  47 (.pr (.bits .and) [.t 46, .k (.v (.int .u64 1))]), o 48 (.pr (.cvw .i64) [.t 47]), o 49 (.un .neg (.t 48)), o 50 (.pr (.bits .xor) [.t 45, .t 49]), m 10 50]) (.seq (.seq (.reg
  12 [m 51 9, o 52 (.bin .eql .int (.t 51) (.k (.v (.int .u8 0)))), m 53 52, w 54 53 (.mv (.t 8)), w 55 53 (.bin .gtr .int (.t 54) (i 0)), o 56 (.pick (.t 53) (.t 55) ff), m 57 56,
  v 58 57 (.mv (.t 10)), v 59 57 (.bin .lss .int (.t 58) (i (-4611686018427387903))), o 60 (.pick (.t 57) tt (.t 59))]) (.cond (.t 60) (.exit 0) .nop)) (.seq (.reg 13 [m 61 10, m
  62 1, m 63 8, o 64 (.bin .add .int (.t 62) (.t 63)), o 65 (.bin .add .int (.t 64) (i 1)), m 4 61, m 5 65, o 6 (.mv (i 0))]) .ret))))))))) (.reg 14 [o 66 (.bin .add .int (.t 19)
  (i 1)), m 19 66]))))))) (.seq (.reg 15 [o 4 (.mv (i 0)), o 5 (.mv (i 0)), o 6 (.mv (i 10))]) .ret))))
def rv63 : List RV := [(.t 4), (.t 5), (.t 6)]
theorem ok63 : cFun Tryd.prog Tryd.f63 = some (ac63, rv63) := by kernel_rfl
theorem nt63 : Tryd.f63.ntmps = 67 := by kernel_rfl
theorem of63 : okF Tryd.prog 63 := ⟨Tryd.f63, Tryd.func63, by kernel_rfl, by kernel_rfl⟩

/- putlog/wire.groups -/
def ac75 : AC := .seq (.reg 0 [o 1 (.box 1 (.t 0)), o 2 (.mv (.k (.v .nilFunc)))]) (.seq (.reg 1 [o 3 (.mkf (.func 85) [] [.t 1]), m 2 3]) .ret)
def rv75 : List RV := [(.t 2)]
theorem ok75 : cFun Tryd.prog Tryd.f75 = some (ac75, rv75) := by kernel_rfl
theorem nt75 : Tryd.f75.ntmps = 4 := by kernel_rfl
theorem of75 : okF Tryd.prog 75 := ⟨Tryd.f75, Tryd.func75, by kernel_rfl, by kernel_rfl⟩

/- putlog/wire.groups$1 -/
def ac85 : AC := .block 0 (.loop (.block 1 (.seq (.reg 0 [o 4 (.ld 1 false (.t 1)), o 5 (.bin .lss .int (.t 4) (.k (.v (.int .u64 128)))), m 3 5]) (.seq (.seq (.reg 1 [m 6 0, o 7 (.ld 1 false (.t
  1)), o 8 (.pr (.bits .and) [.t 7, .k (.v (.int .u64 127))]), o 9 (.pr (.cvw .u8) [.t 8]), m 10 3, o 11 (.cv (.t 6) [.t 9, .t 10]), o 12 (.un .not (.t 11)), m 13 12, v 14 13 (.mv
  (.t 3)), o 15 (.pick (.t 13) tt (.t 14))]) (.cond (.t 15) .ret .nop)) (.reg 2 [o 16 (.ld 1 false (.t 1)), o 17 (.pr (.shf .shr) [.t 16, .k (.v (.int .u64 7))]), u (.st 1 (.t 1)
  (.t 17))])))))
def rv85 : List RV := []
theorem ok85 : cFun Tryd.prog Tryd.f85 = some (ac85, rv85) := by kernel_rfl
theorem nt85 : Tryd.f85.ntmps = 18 := by kernel_rfl
theorem of85 : okF Tryd.prog 85 := ⟨Tryd.f85, Tryd.func85, by kernel_rfl, by kernel_rfl⟩

end Go.Proofs.YtdabfcbelkjmgaaDoor.Am
