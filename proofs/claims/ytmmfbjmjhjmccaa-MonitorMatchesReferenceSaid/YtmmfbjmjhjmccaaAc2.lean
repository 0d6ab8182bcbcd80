/-
  What the machine makes of the functions: its own texts of them, and that they are that.
-/
import Derived.Test.YtmmfbjmjhjmccaaA5
import Derived.Test.YtmmfbjmjhjmccaaProg
namespace Go.Proofs.Ytmmfbjmjhjmccaa.Am
set_option linter.unusedSimpArgs false
set_option linter.unusedVariables false
open Go
set_option maxRecDepth 100000
/- putlog/monitor.counted -/
def ac43 : AC := (.seq (.reg 0 [⟨(some 1), none, (.box 5 (.t 0))⟩, ⟨(some 2), none, (.mv (.k (.v .nilFunc)))⟩]) (.seq (.reg 1 [⟨(some 3), none, (.mkf (.func 49) [] [(.t 1)])⟩, ⟨(some 2), none, (.mv
  (.t 3))⟩]) .ret))
def rv43 : List RV := [(.t 2)]
theorem ok43 : cFun Try.prog Try.f43 = some (ac43, rv43) := by kernel_rfl
theorem nt43 : Try.f43.ntmps = 4 := by kernel_rfl
theorem of43 : okF Try.prog 43 := ⟨Try.f43, Try.func43, by kernel_rfl, by kernel_rfl⟩

/- putlog/monitor.Alarm$1 -/
def ac44 : AC := (.seq (.reg 0 [⟨(some 5), none, (.ld 1 false (.t 1))⟩, ⟨(some 6), none, (.len (.t 5))⟩, ⟨(some 7), none, (.mv (.k (.v (.int .i64 0))))⟩]) (.block 0 (.loop (.seq (.reg 1 [⟨(some 8),
  none, (.bin .lss .int (.t 7) (.t 6))⟩]) (.seq (.cond (.t 8) .nop (.exit 0)) (.seq (.block 1 (.seq (.reg 2 [⟨(some 9), none, (.ia 5 (.t 5) (.t 7))⟩, ⟨(some 10), none, (.ld 5 true
  (.t 9))⟩, ⟨(some 4), none, (.alloc [(.v (.int .i64 0)), (.v (.int .i64 0)), (.v (.int .i64 0)), (.v (.int .i64 0)), (.v (.int .i64 0))])⟩, ⟨none, none, (.st 5 (.t 4) (.t 10))⟩])
  (.seq (.reg 3 [⟨(some 11), none, (.mv (.t 0))⟩, ⟨(some 12), none, (.ld 5 true (.t 4))⟩, ⟨(some 13), none, (.cv (.t 11) [(.t 12)])⟩, ⟨(some 14), none, (.un .not (.t 13))⟩]) (.cond
  (.t 14) .ret .nop)))) (.reg 4 [⟨(some 15), none, (.bin .add .int (.t 7) (.k (.v (.int .i64 1))))⟩, ⟨(some 7), none, (.mv (.t 15))⟩])))))))
def rv44 : List RV := []
theorem ok44 : cFun Try.prog Try.f44 = some (ac44, rv44) := by kernel_rfl
theorem nt44 : Try.f44.ntmps = 16 := by kernel_rfl
theorem of44 : okF Try.prog 44 := ⟨Try.f44, Try.func44, by kernel_rfl, by kernel_rfl⟩

/- putlog/monitor.look -/
def ac45 : AC := (.seq (.reg 0 [⟨(some 4), none, (.box 1 (.t 1))⟩, ⟨(some 5), none, (.box 1 (.t 2))⟩, ⟨(some 6), none, (.alloc [(.v (.int .i64 0)), (.v (.int .i64 0)), (.v (.int .i64 0)), (.v (.int
  .i64 0))])⟩]) (.seq (.reg 1 [⟨(some 7), none, (.call 51 [])⟩, ⟨(some 8), none, (.mv (.t 0))⟩, ⟨(some 9), none, (.mkf (.func 52) [] [(.t 4), (.t 5)])⟩, ⟨(some 10), none, (.call 50
  [(.t 7), (.t 8), (.t 9)])⟩, ⟨none, none, (.st 4 (.t 6) (.t 10))⟩]) .ret))
def rv45 : List RV := [(.c 6 4 true)]
theorem ok45 : cFun Try.prog Try.f45 = some (ac45, rv45) := by kernel_rfl
theorem nt45 : Try.f45.ntmps = 11 := by kernel_rfl
theorem of45 : okF Try.prog 45 := ⟨Try.f45, Try.func45, by kernel_rfl, by kernel_rfl⟩

/- putlog/clock.around -/
def ac46 : AC := (.seq (.reg 0 [⟨(some 2), none, (.box 2 (.t 0))⟩, ⟨(some 4), none, (.alloc [(.v (.int .i64 0)), (.v (.int .i64 0))])⟩]) (.seq (.reg 1 [⟨(some 11), none, (.build [(.v (.int .i64
  0)), (.v (.int .i64 0))] [(0, 1, (.k (.v (.int .i64 0)))), (1, 1, (.k (.v (.int .i64 10000000))))])⟩, ⟨(some 12), none, (.box 2 (.t 11))⟩, ⟨(some 5), none, (.mv (.t 12))⟩]) (.seq
  (.reg 2 [⟨(some 13), none, (.mv (.t 5))⟩, ⟨(some 14), none, (.mkf (.func 54) [(.t 13)] [])⟩, ⟨(some 6), none, (.mv (.t 14))⟩]) (.seq (.seq (.reg 3 [⟨(some 15), none, (.fa 1 (.t
  2))⟩, ⟨(some 16), none, (.ld 1 false (.t 15))⟩, ⟨(some 17), none, (.len (.t 16))⟩, ⟨(some 18), none, (.mv (.k (.v (.int .i64 0))))⟩]) (.block 0 (.loop (.seq (.reg 4 [⟨(some 19),
  none, (.bin .lss .int (.t 18) (.t 17))⟩]) (.seq (.cond (.t 19) .nop (.exit 0)) (.seq (.block 1 (.seq (.reg 5 [⟨(some 20), none, (.ia 3 (.t 16) (.t 18))⟩, ⟨(some 21), none, (.ld 3
  true (.t 20))⟩, ⟨(some 8), none, (.alloc [(.v (.int .i64 0)), (.v (.int .i64 0)), (.v (.int .i64 0))])⟩, ⟨none, none, (.st 3 (.t 8) (.t 21))⟩]) (.seq (.reg 6 [⟨(some 23), none,
  (.fa 0 (.t 2))⟩, ⟨(some 24), none, (.ld 1 false (.t 23))⟩, ⟨(some 25), none, (.mv (.t 1))⟩, ⟨(some 26), none, (.fa 0 (.t 8))⟩, ⟨(some 27), none, (.ld 1 false (.t 26))⟩, ⟨(some
  28), none, (.bin .sub .int (.t 25) (.t 27))⟩, ⟨(some 29), none, (.fa 0 (.t 8))⟩, ⟨(some 30), none, (.ld 1 false (.t 29))⟩, ⟨(some 31), none, (.mv (.t 1))⟩, ⟨(some 32), none,
  (.bin .sub .int (.t 30) (.t 31))⟩, ⟨(some 33), none, (.mm true [(.t 28), (.t 32)])⟩, ⟨(some 34), none, (.call 55 [(.t 24), (.t 33)])⟩, ⟨(some 22), none, (.mv (.t 34))⟩, ⟨(some
  35), none, (.ext (.t 22) 0)⟩, ⟨(some 36), none, (.ext (.t 22) 1)⟩, ⟨(some 9), none, (.mv (.t 35))⟩, ⟨(some 10), none, (.mv (.t 36))⟩]) (.seq (.block 2 (.seq (.reg 7 [⟨(some 38),
  none, (.mv (.t 1))⟩, ⟨(some 39), none, (.fa 0 (.t 8))⟩, ⟨(some 40), none, (.ld 1 false (.t 39))⟩, ⟨(some 41), none, (.bin .lss .int (.t 38) (.t 40))⟩, ⟨(some 37), none, (.mv (.t
  41))⟩]) (.cond (.t 37) (.reg 8 [⟨(some 42), none, (.mv (.t 10))⟩, ⟨(some 43), none, (.un .neg (.t 42))⟩, ⟨(some 44), none, (.mv (.t 9))⟩, ⟨(some 45), none, (.un .neg (.t 44))⟩,
  ⟨(some 9), none, (.mv (.t 43))⟩, ⟨(some 10), none, (.mv (.t 45))⟩]) (.seq (.reg 9 [⟨(some 47), none, (.mv (.t 1))⟩, ⟨(some 48), none, (.fa 0 (.t 8))⟩, ⟨(some 49), none, (.ld 1
  false (.t 48))⟩, ⟨(some 50), none, (.bin .eql .int (.t 47) (.t 49))⟩, ⟨(some 46), none, (.mv (.t 50))⟩]) (.cond (.t 46) (.reg 10 [⟨(some 51), none, (.mv (.t 10))⟩, ⟨(some 52),
  none, (.un .neg (.t 51))⟩, ⟨(some 9), none, (.mv (.t 52))⟩]) .nop))))) (.reg 11 [⟨(some 53), none, (.mv (.t 6))⟩, ⟨(some 54), none, (.fa 1 (.t 8))⟩, ⟨(some 55), none, (.ld 1
  false (.t 54))⟩, ⟨(some 56), none, (.mv (.t 9))⟩, ⟨(some 57), none, (.bin .add .int (.t 55) (.t 56))⟩, ⟨(some 58), none, (.fa 2 (.t 8))⟩, ⟨(some 59), none, (.ld 1 false (.t
  58))⟩, ⟨(some 60), none, (.mv (.t 10))⟩, ⟨(some 61), none, (.bin .add .int (.t 59) (.t 60))⟩, ⟨(some 62), none, (.cv (.t 53) [(.t 57), (.t 61)])⟩]))))) (.reg 12 [⟨(some 63),
  none, (.bin .add .int (.t 18) (.k (.v (.int .i64 1))))⟩, ⟨(some 18), none, (.mv (.t 63))⟩]))))))) (.seq (.reg 13 [⟨(some 64), none, (.mv (.t 5))⟩, ⟨(some 65), none, (.nilc (.t
  64))⟩, ⟨(some 66), none, (.ld 2 true (.t 65))⟩, ⟨none, none, (.st 2 (.t 4) (.t 66))⟩]) .ret)))))
def rv46 : List RV := [(.c 4 2 true)]
theorem ok46 : cFun Try.prog Try.f46 = some (ac46, rv46) := by kernel_rfl
theorem nt46 : Try.f46.ntmps = 67 := by kernel_rfl
theorem of46 : okF Try.prog 46 := ⟨Try.f46, Try.func46, by kernel_rfl, by kernel_rfl⟩

/- putlog/putlogref05.pick -/
def ac47 : AC := (.seq (.reg 0 [⟨(some 4), none, (.mv (.k (.v (.int .i64 0))))⟩]) (.seq (.seq (.reg 1 [⟨(some 5), none, (.mv (.t 0))⟩, ⟨(some 6), none, (.bin .lss .int (.t 5) (.k (.v (.int .i64
  0))))⟩]) (.cond (.t 6) (.reg 2 [⟨(some 7), none, (.mv (.t 0))⟩, ⟨(some 8), none, (.bin .add .int (.t 7) (.k (.v (.int .i64 1))))⟩, ⟨(some 9), none, (.un .neg (.t 8))⟩, ⟨(some 0),
  none, (.mv (.t 9))⟩]) .nop)) (.seq (.reg 3 [⟨(some 10), none, (.mv (.t 0))⟩, ⟨(some 11), none, (.mv (.t 1))⟩, ⟨(some 12), none, (.bin .rem .int (.t 10) (.t 11))⟩, ⟨(some 4),
  none, (.mv (.t 12))⟩]) .ret)))
def rv47 : List RV := [(.t 4)]
theorem ok47 : cFun Try.prog Try.f47 = some (ac47, rv47) := by kernel_rfl
theorem nt47 : Try.f47.ntmps = 13 := by kernel_rfl
theorem of47 : okF Try.prog 47 := ⟨Try.f47, Try.func47, by kernel_rfl, by kernel_rfl⟩

/- putlog/putlogref05.At -/
def ac48 : AC := (.seq (.reg 0 [⟨(some 2), none, (.box 2 (.t 0))⟩, ⟨(some 4), none, (.mv (.k (.v (.int .i64 0))))⟩, ⟨(some 5), none, (.mv (.k (.v (.int .i64 0))))⟩, ⟨(some 6), none, (.mv (.k (.v
  (.int .i64 0))))⟩]) (.seq (.seq (.reg 1 [⟨(some 9), none, (.ld 2 true (.t 2))⟩, ⟨(some 10), none, (.call 39 [(.t 9)])⟩, ⟨(some 11), none, (.un .not (.t 10))⟩, ⟨(some 12), none,
  (.mv (.t 11))⟩, ⟨(some 13), (some (12, false)), (.mv (.t 1))⟩, ⟨(some 14), (some (12, false)), (.bin .lss .int (.t 13) (.k (.v (.int .i64 0))))⟩, ⟨(some 15), none, (.pick (.t 12)
  (.k (.v (.bool true))) (.t 14))⟩, ⟨(some 16), none, (.mv (.t 15))⟩, ⟨(some 17), (some (16, false)), (.mv (.t 1))⟩, ⟨(some 18), (some (16, false)), (.bin .gtr .int (.t 17) (.k (.v
  (.int .i64 10000000))))⟩, ⟨(some 19), none, (.pick (.t 16) (.k (.v (.bool true))) (.t 18))⟩]) (.cond (.t 19) (.seq (.reg 2 [⟨(some 4), none, (.mv (.k (.v (.int .i64 0))))⟩,
  ⟨(some 5), none, (.mv (.k (.v (.int .i64 0))))⟩, ⟨(some 6), none, (.mv (.k (.v (.int .i64 50))))⟩]) .ret) .nop)) (.seq (.reg 3 [⟨(some 21), none, (.ld 2 true (.t 2))⟩, ⟨(some
  22), none, (.mv (.t 1))⟩, ⟨(some 23), none, (.call 56 [(.t 21), (.t 22)])⟩, ⟨(some 20), none, (.mv (.t 23))⟩, ⟨(some 24), none, (.ext (.t 20) 0)⟩, ⟨(some 25), none, (.ext (.t 20)
  1)⟩, ⟨(some 7), none, (.mv (.t 24))⟩, ⟨(some 8), none, (.mv (.t 25))⟩]) (.seq (.seq (.reg 4 [⟨(some 26), none, (.mv (.t 7))⟩, ⟨(some 27), none, (.mv (.t 8))⟩, ⟨(some 28), none,
  (.bin .gtr .int (.t 26) (.t 27))⟩]) (.cond (.t 28) (.seq (.reg 5 [⟨(some 4), none, (.mv (.k (.v (.int .i64 0))))⟩, ⟨(some 5), none, (.mv (.k (.v (.int .i64 0))))⟩, ⟨(some 6),
  none, (.mv (.k (.v (.int .i64 50))))⟩]) .ret) .nop)) (.seq (.reg 6 [⟨(some 29), none, (.mv (.t 7))⟩, ⟨(some 30), none, (.mv (.t 8))⟩, ⟨(some 4), none, (.mv (.t 29))⟩, ⟨(some 5),
  none, (.mv (.t 30))⟩, ⟨(some 6), none, (.mv (.k (.v (.int .i64 0))))⟩]) .ret)))))
def rv48 : List RV := [(.t 4), (.t 5), (.t 6)]
theorem ok48 : cFun Try.prog Try.f48 = some (ac48, rv48) := by kernel_rfl
theorem nt48 : Try.f48.ntmps = 31 := by kernel_rfl
theorem of48 : okF Try.prog 48 := ⟨Try.f48, Try.func48, by kernel_rfl, by kernel_rfl⟩

/- putlog/monitor.counted$1 -/
def ac49 : AC := (.seq (.reg 0 [⟨(some 8), none, (.fa 4 (.t 1))⟩, ⟨(some 9), none, (.ld 1 false (.t 8))⟩, ⟨(some 10), none, (.len (.t 9))⟩, ⟨(some 11), none, (.mv (.k (.v (.int .i64 0))))⟩])
  (.block 0 (.loop (.seq (.reg 1 [⟨(some 12), none, (.bin .lss .int (.t 11) (.t 10))⟩]) (.seq (.cond (.t 12) .nop (.exit 0)) (.seq (.block 1 (.seq (.reg 2 [⟨(some 13), none, (.mv
  (.t 11))⟩, ⟨(some 14), none, (.ia 2 (.t 9) (.t 11))⟩, ⟨(some 15), none, (.ld 2 true (.t 14))⟩, ⟨(some 4), none, (.alloc [(.v (.int .i64 0)), (.v (.int .i64 0))])⟩, ⟨(some 3),
  none, (.mv (.t 13))⟩, ⟨none, none, (.st 2 (.t 4) (.t 15))⟩]) (.seq (.reg 3 [⟨(some 17), none, (.fa 0 (.t 1))⟩, ⟨(some 18), none, (.ld 2 true (.t 17))⟩, ⟨(some 19), none, (.fa 0
  (.t 4))⟩, ⟨(some 20), none, (.ld 1 false (.t 19))⟩, ⟨(some 21), none, (.call 29 [(.t 18), (.t 20)])⟩, ⟨(some 16), none, (.mv (.t 21))⟩, ⟨(some 22), none, (.ext (.t 16) 0)⟩,
  ⟨(some 23), none, (.ext (.t 16) 1)⟩, ⟨(some 24), none, (.ext (.t 16) 2)⟩, ⟨(some 5), none, (.mv (.t 22))⟩, ⟨(some 6), none, (.mv (.t 23))⟩, ⟨(some 7), none, (.mv (.t 24))⟩])
  (.seq (.reg 4 [⟨(some 25), none, (.mv (.t 7))⟩, ⟨(some 26), none, (.bin .eql .int (.t 25) (.k (.v (.int .i64 0))))⟩, ⟨(some 27), none, (.mv (.t 26))⟩, ⟨(some 28), (some (27,
  true)), (.mv (.t 0))⟩, ⟨(some 29), (some (27, true)), (.mv (.t 3))⟩, ⟨(some 30), (some (27, true)), (.fa 1 (.t 4))⟩, ⟨(some 31), (some (27, true)), (.ld 1 false (.t 30))⟩, ⟨(some
  32), (some (27, true)), (.fa 2 (.t 1))⟩, ⟨(some 33), (some (27, true)), (.ld 1 false (.t 32))⟩, ⟨(some 34), (some (27, true)), (.bin .sub .int (.t 31) (.t 33))⟩, ⟨(some 35),
  (some (27, true)), (.fa 1 (.t 4))⟩, ⟨(some 36), (some (27, true)), (.ld 1 false (.t 35))⟩, ⟨(some 37), (some (27, true)), (.fa 2 (.t 1))⟩, ⟨(some 38), (some (27, true)), (.ld 1
  false (.t 37))⟩, ⟨(some 39), (some (27, true)), (.bin .add .int (.t 36) (.t 38))⟩, ⟨(some 40), (some (27, true)), (.mv (.t 5))⟩, ⟨(some 41), (some (27, true)), (.mv (.t 6))⟩,
  ⟨(some 42), (some (27, true)), (.build [(.v (.int .i64 0)), (.v (.int .i64 0)), (.v (.int .i64 0)), (.v (.int .i64 0)), (.v (.int .i64 0))] [(0, 1, (.t 29)), (1, 1, (.t 34)), (2,
  1, (.t 39)), (3, 1, (.t 40)), (4, 1, (.t 41))])⟩, ⟨(some 43), (some (27, true)), (.cv (.t 28) [(.t 42)])⟩, ⟨(some 44), (some (27, true)), (.un .not (.t 43))⟩, ⟨(some 45), none,
  (.pick (.t 27) (.t 44) (.k (.v (.bool false))))⟩]) (.cond (.t 45) .ret .nop))))) (.reg 5 [⟨(some 46), none, (.bin .add .int (.t 11) (.k (.v (.int .i64 1))))⟩, ⟨(some 11), none,
  (.mv (.t 46))⟩])))))))
def rv49 : List RV := []
theorem ok49 : cFun Try.prog Try.f49 = some (ac49, rv49) := by kernel_rfl
theorem nt49 : Try.f49.ntmps = 47 := by kernel_rfl
theorem of49 : okF Try.prog 49 := ⟨Try.f49, Try.func49, by kernel_rfl, by kernel_rfl⟩

/- putlog/monitor.folded putlog/monitor.bounds putlog/monitor.fact  -/
def ac50 : AC := (.seq (.reg 0 [⟨(some 3), none, (.box 4 (.t 0))⟩, ⟨(some 5), none, (.box 1 (.t 2))⟩, ⟨(some 6), none, (.alloc [(.v (.int .i64 0)), (.v (.int .i64 0)), (.v (.int .i64 0)), (.v (.int
  .i64 0))])⟩]) (.seq (.seq (.reg 1 [⟨(some 8), none, (.mv (.t 1))⟩]) (.block 0 (.rfun (.t 8) [9] (.reg 2 [⟨(some 7), none, (.alloc [(.v (.int .i64 0)), (.v (.int .i64 0)), (.v
  (.int .i64 0)), (.v (.int .i64 0)), (.v (.int .i64 0))])⟩, ⟨none, none, (.st 5 (.t 7) (.t 9))⟩]) (.block 1 (.reg 3 [⟨(some 10), none, (.ld 1 false (.t 5))⟩, ⟨(some 11), none,
  (.ld 4 true (.t 3))⟩, ⟨(some 12), none, (.ld 5 true (.t 7))⟩, ⟨(some 13), none, (.cv (.t 10) [(.t 11), (.t 12)])⟩, ⟨none, none, (.st 4 (.t 3) (.t 13))⟩]))))) (.seq (.reg 4
  [⟨(some 14), none, (.ld 4 true (.t 3))⟩, ⟨none, none, (.st 4 (.t 6) (.t 14))⟩]) .ret)))
def rv50 : List RV := [(.c 6 4 true)]
theorem ok50 : cFun Try.prog Try.f50 = some (ac50, rv50) := by kernel_rfl
theorem nt50 : Try.f50.ntmps = 15 := by kernel_rfl
theorem of50 : okF Try.prog 50 := ⟨Try.f50, Try.func50, by kernel_rfl, by kernel_rfl⟩

/- putlog/monitor.everything -/
def ac51 : AC := (.seq (.reg 0 [⟨(some 0), none, (.alloc [(.v (.int .i64 0)), (.v (.int .i64 0)), (.v (.int .i64 0)), (.v (.int .i64 0))])⟩]) (.seq (.reg 1 [⟨(some 1), none, (.build [(.v (.int .i64
  0)), (.v (.int .i64 0)), (.v (.int .i64 0)), (.v (.int .i64 0))] [(0, 1, (.k (.v (.int .i64 (-1000000))))), (1, 1, (.k (.v (.int .i64 1000000)))), (2, 1, (.k (.v (.int .i64
  (-1))))), (3, 1, (.k (.v (.int .i64 (-1)))))])⟩, ⟨none, none, (.st 4 (.t 0) (.t 1))⟩]) .ret))
def rv51 : List RV := [(.c 0 4 true)]
theorem ok51 : cFun Try.prog Try.f51 = some (ac51, rv51) := by kernel_rfl
theorem nt51 : Try.f51.ntmps = 2 := by kernel_rfl
theorem of51 : okF Try.prog 51 := ⟨Try.f51, Try.func51, by kernel_rfl, by kernel_rfl⟩

/- putlog/monitor.look$1 -/
def ac52 : AC := (.seq (.reg 0 [⟨(some 4), none, (.box 4 (.t 0))⟩, ⟨(some 5), none, (.box 5 (.t 1))⟩, ⟨(some 6), none, (.alloc [(.v (.int .i64 0)), (.v (.int .i64 0)), (.v (.int .i64 0)), (.v (.int
  .i64 0))])⟩]) (.seq (.reg 1 [⟨(some 10), none, (.ld 5 true (.t 5))⟩, ⟨(some 11), none, (.ld 1 false (.t 2))⟩, ⟨(some 12), none, (.ld 1 false (.t 3))⟩, ⟨(some 13), none, (.call 53
  [(.t 10), (.t 11), (.t 12)])⟩, ⟨(some 9), none, (.mv (.t 13))⟩, ⟨(some 14), none, (.ext (.t 9) 0)⟩, ⟨(some 15), none, (.ext (.t 9) 1)⟩, ⟨(some 7), none, (.mv (.t 14))⟩, ⟨(some
  8), none, (.mv (.t 15))⟩]) (.seq (.seq (.reg 2 [⟨(some 16), none, (.mv (.t 7))⟩, ⟨(some 17), none, (.fa 0 (.t 4))⟩, ⟨(some 18), none, (.ld 1 false (.t 17))⟩, ⟨(some 19), none,
  (.bin .gtr .int (.t 16) (.t 18))⟩, ⟨(some 20), none, (.mv (.t 19))⟩, ⟨(some 21), (some (20, false)), (.mv (.t 7))⟩, ⟨(some 22), (some (20, false)), (.fa 0 (.t 4))⟩, ⟨(some 23),
  (some (20, false)), (.ld 1 false (.t 22))⟩, ⟨(some 24), (some (20, false)), (.bin .eql .int (.t 21) (.t 23))⟩, ⟨(some 25), (some (20, false)), (.mv (.t 24))⟩, ⟨(some 26), (some
  (25, true)), (.fa 2 (.t 4))⟩, ⟨(some 27), (some (25, true)), (.ld 1 false (.t 26))⟩, ⟨(some 28), (some (25, true)), (.bin .lss .int (.t 27) (.k (.v (.int .i64 0))))⟩, ⟨(some 29),
  (some (20, false)), (.pick (.t 25) (.t 28) (.k (.v (.bool false))))⟩, ⟨(some 30), none, (.pick (.t 20) (.k (.v (.bool true))) (.t 29))⟩]) (.cond (.t 30) (.drw 3 [⟨(some 31),
  none, (.mv (.t 7))⟩, ⟨(some 32), none, (.fa 0 (.t 5))⟩, ⟨(some 33), none, (.ld 1 false (.t 32))⟩, ⟨(some 34), none, (.fa 0 (.t 4))⟩, ⟨none, none, (.st 1 (.t 34) (.t 31))⟩, ⟨(some
  35), none, (.fa 2 (.t 4))⟩, ⟨none, none, (.st 1 (.t 35) (.t 33))⟩] [(2, 4)]) .nop)) (.seq (.seq (.reg 4 [⟨(some 36), none, (.mv (.t 8))⟩, ⟨(some 37), none, (.fa 1 (.t 4))⟩,
  ⟨(some 38), none, (.ld 1 false (.t 37))⟩, ⟨(some 39), none, (.bin .lss .int (.t 36) (.t 38))⟩, ⟨(some 40), none, (.mv (.t 39))⟩, ⟨(some 41), (some (40, false)), (.mv (.t 8))⟩,
  ⟨(some 42), (some (40, false)), (.fa 1 (.t 4))⟩, ⟨(some 43), (some (40, false)), (.ld 1 false (.t 42))⟩, ⟨(some 44), (some (40, false)), (.bin .eql .int (.t 41) (.t 43))⟩, ⟨(some
  45), (some (40, false)), (.mv (.t 44))⟩, ⟨(some 46), (some (45, true)), (.fa 3 (.t 4))⟩, ⟨(some 47), (some (45, true)), (.ld 1 false (.t 46))⟩, ⟨(some 48), (some (45, true)),
  (.bin .lss .int (.t 47) (.k (.v (.int .i64 0))))⟩, ⟨(some 49), (some (40, false)), (.pick (.t 45) (.t 48) (.k (.v (.bool false))))⟩, ⟨(some 50), none, (.pick (.t 40) (.k (.v
  (.bool true))) (.t 49))⟩]) (.cond (.t 50) (.drw 5 [⟨(some 51), none, (.mv (.t 8))⟩, ⟨(some 52), none, (.fa 0 (.t 5))⟩, ⟨(some 53), none, (.ld 1 false (.t 52))⟩, ⟨(some 54), none,
  (.fa 1 (.t 4))⟩, ⟨none, none, (.st 1 (.t 54) (.t 51))⟩, ⟨(some 55), none, (.fa 3 (.t 4))⟩, ⟨none, none, (.st 1 (.t 55) (.t 53))⟩] [(2, 4)]) .nop)) (.seq (.reg 6 [⟨(some 56),
  none, (.ld 4 true (.t 4))⟩, ⟨none, none, (.st 4 (.t 6) (.t 56))⟩]) .ret)))))
def rv52 : List RV := [(.c 6 4 true)]
theorem ok52 : cFun Try.prog Try.f52 = some (ac52, rv52) := by kernel_rfl
theorem nt52 : Try.f52.ntmps = 57 := by kernel_rfl
theorem of52 : okF Try.prog 52 := ⟨Try.f52, Try.func52, by kernel_rfl, by kernel_rfl⟩

/- (putlog/monitor.fact).at -/
def ac53 : AC := (.seq (.reg 0 [⟨(some 3), none, (.box 5 (.t 0))⟩, ⟨(some 6), none, (.mv (.k (.v (.int .i64 0))))⟩, ⟨(some 7), none, (.mv (.k (.v (.int .i64 0))))⟩]) (.seq (.reg 1 [⟨(some 9), none,
  (.mv (.t 1))⟩, ⟨(some 10), none, (.mv (.t 2))⟩, ⟨(some 11), none, (.fa 3 (.t 3))⟩, ⟨(some 12), none, (.ld 1 false (.t 11))⟩, ⟨(some 13), none, (.bin .sub .int (.t 10) (.t 12))⟩,
  ⟨(some 14), none, (.fa 4 (.t 3))⟩, ⟨(some 15), none, (.ld 1 false (.t 14))⟩, ⟨(some 16), none, (.mv (.t 2))⟩, ⟨(some 17), none, (.bin .sub .int (.t 15) (.t 16))⟩, ⟨(some 18),
  none, (.fa 3 (.t 3))⟩, ⟨(some 19), none, (.ld 1 false (.t 18))⟩, ⟨(some 20), none, (.mv (.t 2))⟩, ⟨(some 21), none, (.bin .sub .int (.t 19) (.t 20))⟩, ⟨(some 22), none, (.mv (.t
  2))⟩, ⟨(some 23), none, (.fa 4 (.t 3))⟩, ⟨(some 24), none, (.ld 1 false (.t 23))⟩, ⟨(some 25), none, (.bin .sub .int (.t 22) (.t 24))⟩, ⟨(some 26), none, (.mm true [(.t 13), (.t
  17), (.t 21), (.t 25)])⟩, ⟨(some 27), none, (.bin .mul .int (.t 9) (.t 26))⟩, ⟨(some 8), none, (.mv (.t 27))⟩]) (.seq (.drw 2 [⟨(some 28), none, (.fa 1 (.t 3))⟩, ⟨(some 29),
  none, (.ld 1 false (.t 28))⟩, ⟨(some 30), none, (.mv (.t 8))⟩, ⟨(some 31), none, (.bin .sub .int (.t 29) (.t 30))⟩, ⟨(some 32), none, (.fa 2 (.t 3))⟩, ⟨(some 33), none, (.ld 1
  false (.t 32))⟩, ⟨(some 34), none, (.mv (.t 8))⟩, ⟨(some 35), none, (.bin .add .int (.t 33) (.t 34))⟩, ⟨(some 6), none, (.mv (.t 31))⟩, ⟨(some 7), none, (.mv (.t 35))⟩] [])
  .ret)))
def rv53 : List RV := [(.t 6), (.t 7)]
theorem ok53 : cFun Try.prog Try.f53 = some (ac53, rv53) := by kernel_rfl
theorem nt53 : Try.f53.ntmps = 36 := by kernel_rfl
theorem of53 : okF Try.prog 53 := ⟨Try.f53, Try.func53, by kernel_rfl, by kernel_rfl⟩

/- (*putlog/clock.window).narrow -/
def ac54 : AC := (.drw 0 [⟨(some 6), none, (.mv (.t 0))⟩, ⟨(some 7), none, (.mv (.t 0))⟩, ⟨(some 8), none, (.mv (.t 0))⟩, ⟨(some 9), none, (.nilc (.t 8))⟩, ⟨(some 10), none, (.fa 0 (.t 9))⟩, ⟨(some
  11), none, (.ld 1 false (.t 10))⟩, ⟨(some 12), none, (.mv (.t 1))⟩, ⟨(some 13), none, (.mm true [(.t 11), (.t 12)])⟩, ⟨(some 14), none, (.mv (.t 0))⟩, ⟨(some 15), none, (.nilc
  (.t 14))⟩, ⟨(some 16), none, (.fa 1 (.t 15))⟩, ⟨(some 17), none, (.ld 1 false (.t 16))⟩, ⟨(some 18), none, (.mv (.t 2))⟩, ⟨(some 19), none, (.mm false [(.t 17), (.t 18)])⟩,
  ⟨(some 20), none, (.nilc (.t 6))⟩, ⟨(some 21), none, (.fa 0 (.t 20))⟩, ⟨none, none, (.st 1 (.t 21) (.t 13))⟩, ⟨(some 22), none, (.nilc (.t 7))⟩, ⟨(some 23), none, (.fa 1 (.t
  22))⟩, ⟨none, none, (.st 1 (.t 23) (.t 19))⟩] [])
def rv54 : List RV := []
theorem ok54 : cFun Try.prog Try.f54 = some (ac54, rv54) := by kernel_rfl
theorem nt54 : Try.f54.ntmps = 24 := by kernel_rfl
theorem of54 : okF Try.prog 54 := ⟨Try.f54, Try.func54, by kernel_rfl, by kernel_rfl⟩

/- putlog/clock.Spread -/
def ac55 : AC := (.seq (.reg 0 [⟨(some 4), none, (.mv (.k (.v (.int .i64 0))))⟩, ⟨(some 5), none, (.mv (.k (.v (.int .i64 0))))⟩]) (.seq (.seq (.reg 1 [⟨(some 7), none, (.mv (.t 0))⟩, ⟨(some 8),
  none, (.bin .lss .int (.t 7) (.k (.v (.int .i64 0))))⟩, ⟨(some 9), none, (.mv (.t 8))⟩, ⟨(some 10), (some (9, false)), (.mv (.t 0))⟩, ⟨(some 11), (some (9, false)), (.bin .gtr
  .int (.t 10) (.k (.v (.int .i64 100))))⟩, ⟨(some 12), none, (.pick (.t 9) (.k (.v (.bool true))) (.t 11))⟩, ⟨(some 13), none, (.mv (.t 12))⟩, ⟨(some 14), (some (13, false)), (.mv
  (.t 1))⟩, ⟨(some 15), (some (13, false)), (.bin .lss .int (.t 14) (.k (.v (.int .i64 0))))⟩, ⟨(some 16), none, (.pick (.t 13) (.k (.v (.bool true))) (.t 15))⟩, ⟨(some 17), none,
  (.mv (.t 16))⟩, ⟨(some 18), (some (17, false)), (.mv (.t 1))⟩, ⟨(some 19), (some (17, false)), (.bin .gtr .int (.t 18) (.k (.v (.int .i64 10000000))))⟩, ⟨(some 20), none, (.pick
  (.t 17) (.k (.v (.bool true))) (.t 19))⟩]) (.cond (.t 20) (.seq (.reg 2 [⟨(some 4), none, (.mv (.k (.v (.int .i64 0))))⟩, ⟨(some 5), none, (.mv (.k (.v (.int .i64 0))))⟩]) .ret)
  .nop)) (.seq (.reg 3 [⟨(some 6), none, (.mv (.k (.v (.int .i64 0))))⟩]) (.seq (.seq (.reg 4 [⟨(some 21), none, (.mv (.t 1))⟩, ⟨(some 22), none, (.bin .gtr .int (.t 21) (.k (.v
  (.int .i64 0))))⟩]) (.cond (.t 22) (.reg 5 [⟨(some 23), none, (.mv (.t 1))⟩, ⟨(some 24), none, (.bin .sub .int (.t 23) (.k (.v (.int .i64 1))))⟩, ⟨(some 25), none, (.bin .mul
  .int (.k (.v (.int .i64 1000))) (.t 24))⟩, ⟨(some 26), none, (.mv (.t 0))⟩, ⟨(some 27), none, (.bin .add .int (.k (.v (.int .i64 1000))) (.t 26))⟩, ⟨(some 28), none, (.bin .quo
  .int (.t 25) (.t 27))⟩, ⟨(some 29), none, (.bin .add .int (.t 28) (.k (.v (.int .i64 1))))⟩, ⟨(some 6), none, (.mv (.t 29))⟩]) .nop)) (.seq (.drw 6 [⟨(some 30), none, (.mv (.t
  6))⟩, ⟨(some 31), none, (.mv (.t 1))⟩, ⟨(some 32), none, (.bin .add .int (.t 31) (.k (.v (.int .i64 1))))⟩, ⟨(some 33), none, (.bin .mul .int (.k (.v (.int .i64 1000))) (.t
  32))⟩, ⟨(some 34), none, (.bin .sub .int (.t 33) (.k (.v (.int .i64 1))))⟩, ⟨(some 35), none, (.mv (.t 0))⟩, ⟨(some 36), none, (.bin .sub .int (.k (.v (.int .i64 1000))) (.t
  35))⟩, ⟨(some 37), none, (.bin .quo .int (.t 34) (.t 36))⟩, ⟨(some 4), none, (.mv (.t 30))⟩, ⟨(some 5), none, (.mv (.t 37))⟩] []) .ret)))))
def rv55 : List RV := [(.t 4), (.t 5)]
theorem ok55 : cFun Try.prog Try.f55 = some (ac55, rv55) := by kernel_rfl
theorem nt55 : Try.f55.ntmps = 38 := by kernel_rfl
theorem of55 : okF Try.prog 55 := ⟨Try.f55, Try.func55, by kernel_rfl, by kernel_rfl⟩

/- putlog/putlogref05.bounds -/
def ac56 : AC := (.seq (.reg 0 [⟨(some 2), none, (.box 2 (.t 0))⟩, ⟨(some 4), none, (.mv (.k (.v (.int .i64 0))))⟩, ⟨(some 5), none, (.mv (.k (.v (.int .i64 0))))⟩]) (.seq (.reg 1 [⟨(some 6), none,
  (.mv (.k (.v (.int .i64 0))))⟩]) (.seq (.reg 2 [⟨(some 7), none, (.mv (.k (.v (.int .i64 10000000))))⟩]) (.seq (.seq (.reg 3 [⟨(some 8), none, (.mv (.k (.v (.int .i64 0))))⟩])
  (.block 0 (.loop (.seq (.seq (.reg 4 [⟨(some 16), none, (.mv (.t 8))⟩, ⟨(some 17), none, (.fa 1 (.t 2))⟩, ⟨(some 18), none, (.ld 1 false (.t 17))⟩, ⟨(some 19), none, (.len (.t
  18))⟩, ⟨(some 20), none, (.bin .lss .int (.t 16) (.t 19))⟩]) (.cond (.t 20) .nop (.exit 0))) (.seq (.block 1 (.seq (.reg 6 [⟨(some 23), none, (.fa 1 (.t 2))⟩, ⟨(some 24), none,
  (.ld 1 false (.t 23))⟩, ⟨(some 25), none, (.mv (.t 8))⟩, ⟨(some 26), none, (.ia 3 (.t 24) (.t 25))⟩, ⟨(some 27), none, (.ld 3 true (.t 26))⟩, ⟨(some 9), none, (.alloc [(.v (.int
  .i64 0)), (.v (.int .i64 0)), (.v (.int .i64 0))])⟩, ⟨none, none, (.st 3 (.t 9) (.t 27))⟩]) (.seq (.reg 7 [⟨(some 28), none, (.mv (.t 1))⟩, ⟨(some 29), none, (.fa 0 (.t 9))⟩,
  ⟨(some 30), none, (.ld 1 false (.t 29))⟩, ⟨(some 31), none, (.bin .eql .int (.t 28) (.t 30))⟩]) (.cond (.t 31) (.seq (.reg 8 [⟨(some 33), none, (.fa 0 (.t 2))⟩, ⟨(some 34), none,
  (.ld 1 false (.t 33))⟩, ⟨(some 35), none, (.call 57 [(.t 34), (.k (.v (.int .i64 0)))])⟩, ⟨(some 32), none, (.mv (.t 35))⟩, ⟨(some 36), none, (.ext (.t 32) 0)⟩, ⟨(some 37), none,
  (.ext (.t 32) 1)⟩, ⟨(some 10), none, (.mv (.t 36))⟩, ⟨(some 11), none, (.mv (.t 37))⟩]) (.seq (.reg 9 [⟨(some 38), none, (.mv (.t 6))⟩, ⟨(some 39), none, (.fa 1 (.t 9))⟩, ⟨(some
  40), none, (.ld 1 false (.t 39))⟩, ⟨(some 41), none, (.mv (.t 11))⟩, ⟨(some 42), none, (.bin .sub .int (.t 40) (.t 41))⟩, ⟨(some 43), none, (.mm true [(.t 38), (.t 42)])⟩, ⟨(some
  6), none, (.mv (.t 43))⟩]) (.reg 10 [⟨(some 44), none, (.mv (.t 7))⟩, ⟨(some 45), none, (.fa 2 (.t 9))⟩, ⟨(some 46), none, (.ld 1 false (.t 45))⟩, ⟨(some 47), none, (.mv (.t
  11))⟩, ⟨(some 48), none, (.bin .add .int (.t 46) (.t 47))⟩, ⟨(some 49), none, (.mm false [(.t 44), (.t 48)])⟩, ⟨(some 7), none, (.mv (.t 49))⟩]))) (.seq (.reg 11 [⟨(some 50),
  none, (.mv (.t 1))⟩, ⟨(some 51), none, (.fa 0 (.t 9))⟩, ⟨(some 52), none, (.ld 1 false (.t 51))⟩, ⟨(some 53), none, (.bin .gtr .int (.t 50) (.t 52))⟩]) (.cond (.t 53) (.seq (.reg
  12 [⟨(some 55), none, (.fa 0 (.t 2))⟩, ⟨(some 56), none, (.ld 1 false (.t 55))⟩, ⟨(some 57), none, (.mv (.t 1))⟩, ⟨(some 58), none, (.fa 0 (.t 9))⟩, ⟨(some 59), none, (.ld 1
  false (.t 58))⟩, ⟨(some 60), none, (.bin .sub .int (.t 57) (.t 59))⟩, ⟨(some 61), none, (.call 57 [(.t 56), (.t 60)])⟩, ⟨(some 54), none, (.mv (.t 61))⟩, ⟨(some 62), none, (.ext
  (.t 54) 0)⟩, ⟨(some 63), none, (.ext (.t 54) 1)⟩, ⟨(some 12), none, (.mv (.t 62))⟩, ⟨(some 13), none, (.mv (.t 63))⟩]) (.seq (.reg 13 [⟨(some 64), none, (.mv (.t 6))⟩, ⟨(some
  65), none, (.fa 1 (.t 9))⟩, ⟨(some 66), none, (.ld 1 false (.t 65))⟩, ⟨(some 67), none, (.mv (.t 12))⟩, ⟨(some 68), none, (.bin .add .int (.t 66) (.t 67))⟩, ⟨(some 69), none,
  (.mm true [(.t 64), (.t 68)])⟩, ⟨(some 6), none, (.mv (.t 69))⟩]) (.reg 14 [⟨(some 70), none, (.mv (.t 7))⟩, ⟨(some 71), none, (.fa 2 (.t 9))⟩, ⟨(some 72), none, (.ld 1 false (.t
  71))⟩, ⟨(some 73), none, (.mv (.t 13))⟩, ⟨(some 74), none, (.bin .add .int (.t 72) (.t 73))⟩, ⟨(some 75), none, (.mm false [(.t 70), (.t 74)])⟩, ⟨(some 7), none, (.mv (.t
  75))⟩]))) (.seq (.reg 15 [⟨(some 77), none, (.fa 0 (.t 2))⟩, ⟨(some 78), none, (.ld 1 false (.t 77))⟩, ⟨(some 79), none, (.fa 0 (.t 9))⟩, ⟨(some 80), none, (.ld 1 false (.t
  79))⟩, ⟨(some 81), none, (.mv (.t 1))⟩, ⟨(some 82), none, (.bin .sub .int (.t 80) (.t 81))⟩, ⟨(some 83), none, (.call 57 [(.t 78), (.t 82)])⟩, ⟨(some 76), none, (.mv (.t 83))⟩,
  ⟨(some 84), none, (.ext (.t 76) 0)⟩, ⟨(some 85), none, (.ext (.t 76) 1)⟩, ⟨(some 14), none, (.mv (.t 84))⟩, ⟨(some 15), none, (.mv (.t 85))⟩]) (.seq (.reg 16 [⟨(some 86), none,
  (.mv (.t 6))⟩, ⟨(some 87), none, (.fa 1 (.t 9))⟩, ⟨(some 88), none, (.ld 1 false (.t 87))⟩, ⟨(some 89), none, (.mv (.t 15))⟩, ⟨(some 90), none, (.bin .sub .int (.t 88) (.t 89))⟩,
  ⟨(some 91), none, (.mm true [(.t 86), (.t 90)])⟩, ⟨(some 6), none, (.mv (.t 91))⟩]) (.reg 17 [⟨(some 92), none, (.mv (.t 7))⟩, ⟨(some 93), none, (.fa 2 (.t 9))⟩, ⟨(some 94),
  none, (.ld 1 false (.t 93))⟩, ⟨(some 95), none, (.mv (.t 14))⟩, ⟨(some 96), none, (.bin .sub .int (.t 94) (.t 95))⟩, ⟨(some 97), none, (.mm false [(.t 92), (.t 96)])⟩, ⟨(some 7),
  none, (.mv (.t 97))⟩]))))))))) (.reg 5 [⟨(some 21), none, (.mv (.t 8))⟩, ⟨(some 22), none, (.bin .add .int (.t 21) (.k (.v (.int .i64 1))))⟩, ⟨(some 8), none, (.mv (.t
  22))⟩])))))) (.seq (.reg 18 [⟨(some 98), none, (.mv (.t 6))⟩, ⟨(some 99), none, (.mv (.t 7))⟩, ⟨(some 4), none, (.mv (.t 98))⟩, ⟨(some 5), none, (.mv (.t 99))⟩]) .ret)))))
def rv56 : List RV := [(.t 4), (.t 5)]
theorem ok56 : cFun Try.prog Try.f56 = some (ac56, rv56) := by kernel_rfl
theorem nt56 : Try.f56.ntmps = 100 := by kernel_rfl
theorem of56 : okF Try.prog 56 := ⟨Try.f56, Try.func56, by kernel_rfl, by kernel_rfl⟩

/- putlog/putlogref05.Spread -/
def ac57 : AC := (.seq (.reg 0 [⟨(some 4), none, (.mv (.k (.v (.int .i64 0))))⟩, ⟨(some 5), none, (.mv (.k (.v (.int .i64 0))))⟩]) (.seq (.seq (.reg 1 [⟨(some 8), none, (.mv (.t 0))⟩, ⟨(some 9),
  none, (.bin .lss .int (.t 8) (.k (.v (.int .i64 0))))⟩, ⟨(some 10), none, (.mv (.t 9))⟩, ⟨(some 11), (some (10, false)), (.mv (.t 0))⟩, ⟨(some 12), (some (10, false)), (.bin .gtr
  .int (.t 11) (.k (.v (.int .i64 100))))⟩, ⟨(some 13), none, (.pick (.t 10) (.k (.v (.bool true))) (.t 12))⟩, ⟨(some 14), none, (.mv (.t 13))⟩, ⟨(some 15), (some (14, false)),
  (.mv (.t 1))⟩, ⟨(some 16), (some (14, false)), (.bin .lss .int (.t 15) (.k (.v (.int .i64 0))))⟩, ⟨(some 17), none, (.pick (.t 14) (.k (.v (.bool true))) (.t 16))⟩, ⟨(some 18),
  none, (.mv (.t 17))⟩, ⟨(some 19), (some (18, false)), (.mv (.t 1))⟩, ⟨(some 20), (some (18, false)), (.bin .gtr .int (.t 19) (.k (.v (.int .i64 10000000))))⟩, ⟨(some 21), none,
  (.pick (.t 18) (.k (.v (.bool true))) (.t 20))⟩]) (.cond (.t 21) (.seq (.reg 2 [⟨(some 4), none, (.mv (.k (.v (.int .i64 0))))⟩, ⟨(some 5), none, (.mv (.k (.v (.int .i64 0))))⟩])
  .ret) .nop)) (.seq (.reg 3 [⟨(some 22), none, (.mv (.t 1))⟩, ⟨(some 23), none, (.bin .sub .int (.t 22) (.k (.v (.int .i64 1))))⟩, ⟨(some 24), none, (.bin .mul .int (.k (.v (.int
  .i64 1000))) (.t 23))⟩, ⟨(some 25), none, (.mv (.t 0))⟩, ⟨(some 26), none, (.bin .add .int (.k (.v (.int .i64 1000))) (.t 25))⟩, ⟨(some 27), none, (.bin .quo .int (.t 24) (.t
  26))⟩, ⟨(some 28), none, (.bin .sub .int (.t 27) (.k (.v (.int .i64 1))))⟩, ⟨(some 29), none, (.mm true [(.t 28), (.k (.v (.int .i64 0)))])⟩, ⟨(some 6), none, (.mv (.t 29))⟩])
  (.seq (.block 0 (.loop (.seq (.seq (.reg 4 [⟨(some 30), none, (.mv (.t 0))⟩, ⟨(some 31), none, (.mv (.t 6))⟩, ⟨(some 32), none, (.mv (.t 1))⟩, ⟨(some 33), none, (.call 58 [(.t
  30), (.t 31), (.t 32)])⟩, ⟨(some 34), none, (.un .not (.t 33))⟩]) (.cond (.t 34) .nop (.exit 0))) (.block 1 (.reg 5 [⟨(some 35), none, (.mv (.t 6))⟩, ⟨(some 36), none, (.bin .add
  .int (.t 35) (.k (.v (.int .i64 1))))⟩, ⟨(some 6), none, (.mv (.t 36))⟩]))))) (.seq (.reg 6 [⟨(some 37), none, (.mv (.t 1))⟩, ⟨(some 38), none, (.bin .mul .int (.k (.v (.int .i64
  1000))) (.t 37))⟩, ⟨(some 39), none, (.mv (.t 0))⟩, ⟨(some 40), none, (.bin .sub .int (.k (.v (.int .i64 1000))) (.t 39))⟩, ⟨(some 41), none, (.bin .quo .int (.t 38) (.t 40))⟩,
  ⟨(some 42), none, (.bin .sub .int (.t 41) (.k (.v (.int .i64 1))))⟩, ⟨(some 43), none, (.mv (.t 6))⟩, ⟨(some 44), none, (.mm true [(.t 42), (.t 43)])⟩, ⟨(some 7), none, (.mv (.t
  44))⟩]) (.seq (.block 2 (.loop (.seq (.seq (.reg 7 [⟨(some 45), none, (.mv (.t 0))⟩, ⟨(some 46), none, (.mv (.t 7))⟩, ⟨(some 47), none, (.bin .add .int (.t 46) (.k (.v (.int .i64
  1))))⟩, ⟨(some 48), none, (.mv (.t 1))⟩, ⟨(some 49), none, (.call 58 [(.t 45), (.t 47), (.t 48)])⟩]) (.cond (.t 49) .nop (.exit 2))) (.block 3 (.reg 8 [⟨(some 50), none, (.mv (.t
  7))⟩, ⟨(some 51), none, (.bin .add .int (.t 50) (.k (.v (.int .i64 1))))⟩, ⟨(some 7), none, (.mv (.t 51))⟩]))))) (.seq (.reg 9 [⟨(some 52), none, (.mv (.t 6))⟩, ⟨(some 53), none,
  (.mv (.t 7))⟩, ⟨(some 4), none, (.mv (.t 52))⟩, ⟨(some 5), none, (.mv (.t 53))⟩]) .ret)))))))
def rv57 : List RV := [(.t 4), (.t 5)]
theorem ok57 : cFun Try.prog Try.f57 = some (ac57, rv57) := by kernel_rfl
theorem nt57 : Try.f57.ntmps = 54 := by kernel_rfl
theorem of57 : okF Try.prog 57 := ⟨Try.f57, Try.func57, by kernel_rfl, by kernel_rfl⟩

/- putlog/putlogref05.Fits -/
def ac58 : AC := (.seq (.reg 0 [⟨(some 6), none, (.mv (.k (.v (.bool false))))⟩]) (.seq (.reg 1 [⟨(some 7), none, (.mv (.t 0))⟩, ⟨(some 8), none, (.bin .sub .int (.k (.v (.int .i64 1000))) (.t
  7))⟩, ⟨(some 9), none, (.mv (.t 1))⟩, ⟨(some 10), none, (.bin .mul .int (.t 8) (.t 9))⟩, ⟨(some 11), none, (.bin .sub .int (.t 10) (.k (.v (.int .i64 1000))))⟩, ⟨(some 12), none,
  (.mv (.t 2))⟩, ⟨(some 13), none, (.bin .mul .int (.k (.v (.int .i64 1000))) (.t 12))⟩, ⟨(some 14), none, (.bin .lss .int (.t 11) (.t 13))⟩, ⟨(some 15), none, (.mv (.t 14))⟩,
  ⟨(some 16), (some (15, true)), (.mv (.t 2))⟩, ⟨(some 17), (some (15, true)), (.bin .mul .int (.k (.v (.int .i64 1000))) (.t 16))⟩, ⟨(some 18), (some (15, true)), (.mv (.t 0))⟩,
  ⟨(some 19), (some (15, true)), (.bin .add .int (.k (.v (.int .i64 1000))) (.t 18))⟩, ⟨(some 20), (some (15, true)), (.mv (.t 1))⟩, ⟨(some 21), (some (15, true)), (.bin .mul .int
  (.t 19) (.t 20))⟩, ⟨(some 22), (some (15, true)), (.bin .add .int (.t 21) (.k (.v (.int .i64 1000))))⟩, ⟨(some 23), (some (15, true)), (.bin .lss .int (.t 17) (.t 22))⟩, ⟨(some
  24), none, (.pick (.t 15) (.t 23) (.k (.v (.bool false))))⟩, ⟨(some 6), none, (.mv (.t 24))⟩]) .ret))
def rv58 : List RV := [(.t 6)]
theorem ok58 : cFun Try.prog Try.f58 = some (ac58, rv58) := by kernel_rfl
theorem nt58 : Try.f58.ntmps = 25 := by kernel_rfl
theorem of58 : okF Try.prog 58 := ⟨Try.f58, Try.func58, by kernel_rfl, by kernel_rfl⟩

end Go.Proofs.Ytmmfbjmjhjmccaa.Am
