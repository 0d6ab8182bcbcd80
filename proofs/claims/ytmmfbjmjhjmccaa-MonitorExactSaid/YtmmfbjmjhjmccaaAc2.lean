/-
  What the machine makes of the functions: its own texts of them, and that they are that.
-/
import Derived.Test.YtmmfbjmjhjmccaaA5
import Derived.Test.YtmmfbjmjhjmccaaProg
namespace Go.Proofs.Ytmmfbjmjhjmccaa.Am
set_option linter.unusedSimpArgs false
set_option linter.unusedVariables false
open Go
set_option maxRecDepth 100000
/- putlog/monitor.Bounds -/
def ac18 : AC := (.seq (.reg 0 [⟨(some 2), none, (.box 5 (.t 0))⟩, ⟨(some 4), none, (.mv (.k (.v (.int .i64 0))))⟩, ⟨(some 5), none, (.mv (.k (.v (.int .i64 0))))⟩, ⟨(some 6), none, (.mv (.k (.v
  (.int .i64 0))))⟩]) (.seq (.reg 1 [⟨(some 10), none, (.ld 5 true (.t 2))⟩, ⟨(some 11), none, (.mv (.t 1))⟩, ⟨(some 12), none, (.call 40 [(.t 10), (.t 11)])⟩, ⟨(some 9), none,
  (.mv (.t 12))⟩, ⟨(some 13), none, (.ext (.t 9) 0)⟩, ⟨(some 14), none, (.ext (.t 9) 1)⟩, ⟨(some 7), none, (.alloc [(.v (.int .i64 0)), (.v (.int .i64 0)), (.v (.int .i64 0)), (.v
  (.int .i64 0))])⟩, ⟨none, none, (.st 4 (.t 7) (.t 13))⟩, ⟨(some 8), none, (.mv (.t 14))⟩]) (.seq (.seq (.reg 2 [⟨(some 15), none, (.mv (.t 8))⟩, ⟨(some 16), none, (.un .not (.t
  15))⟩]) (.cond (.t 16) (.seq (.reg 3 [⟨(some 4), none, (.mv (.k (.v (.int .i64 0))))⟩, ⟨(some 5), none, (.mv (.k (.v (.int .i64 0))))⟩, ⟨(some 6), none, (.mv (.k (.v (.int .i64
  240))))⟩]) .ret) .nop)) (.seq (.drw 4 [⟨(some 17), none, (.fa 0 (.t 7))⟩, ⟨(some 18), none, (.ld 1 false (.t 17))⟩, ⟨(some 19), none, (.fa 1 (.t 7))⟩, ⟨(some 20), none, (.ld 1
  false (.t 19))⟩, ⟨(some 4), none, (.mv (.t 18))⟩, ⟨(some 5), none, (.mv (.t 20))⟩, ⟨(some 6), none, (.mv (.k (.v (.int .i64 0))))⟩] []) .ret))))
def rv18 : List RV := [(.t 4), (.t 5), (.t 6)]
theorem ok18 : cFun Try.prog Try.f18 = some (ac18, rv18) := by kernel_rfl
theorem nt18 : Try.f18.ntmps = 21 := by kernel_rfl
theorem of18 : okF Try.prog 18 := ⟨Try.f18, Try.func18, by kernel_rfl, by kernel_rfl⟩

/- putlog/putlogref24.Bounds -/
def ac19 : AC := (.seq (.reg 0 [⟨(some 2), none, (.box 5 (.t 0))⟩, ⟨(some 4), none, (.mv (.k (.v (.int .i64 0))))⟩, ⟨(some 5), none, (.mv (.k (.v (.int .i64 0))))⟩, ⟨(some 6), none, (.mv (.k (.v
  (.int .i64 0))))⟩]) (.seq (.seq (.reg 1 [⟨(some 9), none, (.ld 5 true (.t 2))⟩, ⟨(some 10), none, (.call 17 [(.t 9)])⟩, ⟨(some 11), none, (.un .not (.t 10))⟩, ⟨(some 12), none,
  (.mv (.t 11))⟩, ⟨(some 13), (some (12, false)), (.mv (.t 1))⟩, ⟨(some 14), (some (12, false)), (.bin .lss .int (.t 13) (.k (.v (.int .i64 0))))⟩, ⟨(some 15), none, (.pick (.t 12)
  (.k (.v (.bool true))) (.t 14))⟩, ⟨(some 16), none, (.mv (.t 15))⟩, ⟨(some 17), (some (16, false)), (.mv (.t 1))⟩, ⟨(some 18), (some (16, false)), (.bin .gtr .int (.t 17) (.k (.v
  (.int .i64 10000000))))⟩, ⟨(some 19), none, (.pick (.t 16) (.k (.v (.bool true))) (.t 18))⟩]) (.cond (.t 19) (.seq (.reg 2 [⟨(some 4), none, (.mv (.k (.v (.int .i64 0))))⟩,
  ⟨(some 5), none, (.mv (.k (.v (.int .i64 0))))⟩, ⟨(some 6), none, (.mv (.k (.v (.int .i64 240))))⟩]) .ret) .nop)) (.seq (.reg 3 [⟨(some 21), none, (.ld 5 true (.t 2))⟩, ⟨(some
  22), none, (.mv (.t 1))⟩, ⟨(some 23), none, (.call 41 [(.t 21), (.t 22)])⟩, ⟨(some 20), none, (.mv (.t 23))⟩, ⟨(some 24), none, (.ext (.t 20) 0)⟩, ⟨(some 25), none, (.ext (.t 20)
  1)⟩, ⟨(some 7), none, (.mv (.t 24))⟩, ⟨(some 8), none, (.mv (.t 25))⟩]) (.seq (.seq (.reg 4 [⟨(some 26), none, (.mv (.t 7))⟩, ⟨(some 27), none, (.mv (.t 8))⟩, ⟨(some 28), none,
  (.bin .gtr .int (.t 26) (.t 27))⟩]) (.cond (.t 28) (.seq (.reg 5 [⟨(some 4), none, (.mv (.k (.v (.int .i64 0))))⟩, ⟨(some 5), none, (.mv (.k (.v (.int .i64 0))))⟩, ⟨(some 6),
  none, (.mv (.k (.v (.int .i64 240))))⟩]) .ret) .nop)) (.seq (.reg 6 [⟨(some 29), none, (.mv (.t 7))⟩, ⟨(some 30), none, (.mv (.t 8))⟩, ⟨(some 4), none, (.mv (.t 29))⟩, ⟨(some 5),
  none, (.mv (.t 30))⟩, ⟨(some 6), none, (.mv (.k (.v (.int .i64 0))))⟩]) .ret)))))
def rv19 : List RV := [(.t 4), (.t 5), (.t 6)]
theorem ok19 : cFun Try.prog Try.f19 = some (ac19, rv19) := by kernel_rfl
theorem nt19 : Try.f19.ntmps = 31 := by kernel_rfl
theorem of19 : okF Try.prog 19 := ⟨Try.f19, Try.func19, by kernel_rfl, by kernel_rfl⟩

/- putlog/monitor.Reason -/
def ac20 : AC := (.seq (.reg 0 [⟨(some 2), none, (.box 5 (.t 0))⟩, ⟨(some 4), none, (.mv (.k (.v (.int .i64 0))))⟩, ⟨(some 5), none, (.mv (.k (.v (.int .i64 0))))⟩, ⟨(some 6), none, (.mv (.k (.v
  (.int .i64 0))))⟩]) (.seq (.reg 1 [⟨(some 10), none, (.ld 5 true (.t 2))⟩, ⟨(some 11), none, (.mv (.t 1))⟩, ⟨(some 12), none, (.call 40 [(.t 10), (.t 11)])⟩, ⟨(some 9), none,
  (.mv (.t 12))⟩, ⟨(some 13), none, (.ext (.t 9) 0)⟩, ⟨(some 14), none, (.ext (.t 9) 1)⟩, ⟨(some 7), none, (.alloc [(.v (.int .i64 0)), (.v (.int .i64 0)), (.v (.int .i64 0)), (.v
  (.int .i64 0))])⟩, ⟨none, none, (.st 4 (.t 7) (.t 13))⟩, ⟨(some 8), none, (.mv (.t 14))⟩]) (.seq (.seq (.reg 2 [⟨(some 15), none, (.mv (.t 8))⟩, ⟨(some 16), none, (.un .not (.t
  15))⟩]) (.cond (.t 16) (.seq (.reg 3 [⟨(some 4), none, (.mv (.k (.v (.int .i64 0))))⟩, ⟨(some 5), none, (.mv (.k (.v (.int .i64 0))))⟩, ⟨(some 6), none, (.mv (.k (.v (.int .i64
  240))))⟩]) .ret) .nop)) (.seq (.drw 4 [⟨(some 17), none, (.fa 2 (.t 7))⟩, ⟨(some 18), none, (.ld 1 false (.t 17))⟩, ⟨(some 19), none, (.fa 3 (.t 7))⟩, ⟨(some 20), none, (.ld 1
  false (.t 19))⟩, ⟨(some 4), none, (.mv (.t 18))⟩, ⟨(some 5), none, (.mv (.t 20))⟩, ⟨(some 6), none, (.mv (.k (.v (.int .i64 0))))⟩] []) .ret))))
def rv20 : List RV := [(.t 4), (.t 5), (.t 6)]
theorem ok20 : cFun Try.prog Try.f20 = some (ac20, rv20) := by kernel_rfl
theorem nt20 : Try.f20.ntmps = 21 := by kernel_rfl
theorem of20 : okF Try.prog 20 := ⟨Try.f20, Try.func20, by kernel_rfl, by kernel_rfl⟩

/- putlog/putlogref24.Reason -/
def ac21 : AC := (.seq (.reg 0 [⟨(some 2), none, (.box 5 (.t 0))⟩, ⟨(some 4), none, (.mv (.k (.v (.int .i64 0))))⟩, ⟨(some 5), none, (.mv (.k (.v (.int .i64 0))))⟩, ⟨(some 6), none, (.mv (.k (.v
  (.int .i64 0))))⟩]) (.seq (.reg 1 [⟨(some 17), none, (.ld 5 true (.t 2))⟩, ⟨(some 18), none, (.mv (.t 1))⟩, ⟨(some 19), none, (.call 19 [(.t 17), (.t 18)])⟩, ⟨(some 16), none,
  (.mv (.t 19))⟩, ⟨(some 20), none, (.ext (.t 16) 0)⟩, ⟨(some 21), none, (.ext (.t 16) 1)⟩, ⟨(some 22), none, (.ext (.t 16) 2)⟩, ⟨(some 7), none, (.mv (.t 20))⟩, ⟨(some 8), none,
  (.mv (.t 21))⟩, ⟨(some 9), none, (.mv (.t 22))⟩]) (.seq (.seq (.reg 2 [⟨(some 23), none, (.mv (.t 9))⟩, ⟨(some 24), none, (.bin .neq .int (.t 23) (.k (.v (.int .i64 0))))⟩])
  (.cond (.t 24) (.seq (.reg 3 [⟨(some 25), none, (.mv (.t 9))⟩, ⟨(some 4), none, (.mv (.k (.v (.int .i64 0))))⟩, ⟨(some 5), none, (.mv (.k (.v (.int .i64 0))))⟩, ⟨(some 6), none,
  (.mv (.t 25))⟩]) .ret) .nop)) (.seq (.reg 4 [⟨(some 10), none, (.mv (.k (.v (.int .i64 (-1)))))⟩]) (.seq (.reg 5 [⟨(some 11), none, (.mv (.k (.v (.int .i64 (-1)))))⟩]) (.seq
  (.seq (.reg 6 [⟨(some 26), none, (.fa 4 (.t 2))⟩, ⟨(some 27), none, (.ld 1 false (.t 26))⟩, ⟨(some 28), none, (.len (.t 27))⟩, ⟨(some 29), none, (.bin .sub .int (.t 28) (.k (.v
  (.int .i64 1))))⟩, ⟨(some 12), none, (.mv (.t 29))⟩]) (.block 0 (.loop (.seq (.seq (.reg 7 [⟨(some 30), none, (.mv (.t 12))⟩, ⟨(some 31), none, (.bin .geq .int (.t 30) (.k (.v
  (.int .i64 0))))⟩]) (.cond (.t 31) .nop (.exit 0))) (.seq (.block 1 (.seq (.drw 9 [⟨(some 35), none, (.ld 5 true (.t 2))⟩, ⟨(some 36), none, (.fa 4 (.t 2))⟩, ⟨(some 37), none,
  (.ld 1 false (.t 36))⟩, ⟨(some 38), none, (.mv (.t 12))⟩, ⟨(some 39), none, (.ia 2 (.t 37) (.t 38))⟩, ⟨(some 40), none, (.ld 2 true (.t 39))⟩, ⟨(some 41), none, (.mv (.t 1))⟩,
  ⟨(some 42), none, (.call 42 [(.t 35), (.t 40), (.t 41)])⟩, ⟨(some 34), none, (.mv (.t 42))⟩, ⟨(some 43), none, (.ext (.t 34) 0)⟩, ⟨(some 44), none, (.ext (.t 34) 1)⟩, ⟨(some 45),
  none, (.ext (.t 34) 2)⟩, ⟨(some 13), none, (.mv (.t 43))⟩, ⟨(some 14), none, (.mv (.t 44))⟩, ⟨(some 15), none, (.mv (.t 45))⟩] []) (.seq (.seq (.reg 10 [⟨(some 46), none, (.mv
  (.t 15))⟩, ⟨(some 47), none, (.mv (.t 46))⟩, ⟨(some 48), (some (47, true)), (.mv (.t 13))⟩, ⟨(some 49), (some (47, true)), (.mv (.t 7))⟩, ⟨(some 50), (some (47, true)), (.bin
  .eql .int (.t 48) (.t 49))⟩, ⟨(some 51), none, (.pick (.t 47) (.t 50) (.k (.v (.bool false))))⟩]) (.cond (.t 51) (.reg 11 [⟨(some 52), none, (.mv (.t 12))⟩, ⟨(some 10), none,
  (.mv (.t 52))⟩]) .nop)) (.seq (.reg 12 [⟨(some 53), none, (.mv (.t 15))⟩, ⟨(some 54), none, (.mv (.t 53))⟩, ⟨(some 55), (some (54, true)), (.mv (.t 14))⟩, ⟨(some 56), (some (54,
  true)), (.mv (.t 8))⟩, ⟨(some 57), (some (54, true)), (.bin .eql .int (.t 55) (.t 56))⟩, ⟨(some 58), none, (.pick (.t 54) (.t 57) (.k (.v (.bool false))))⟩]) (.cond (.t 58) (.reg
  13 [⟨(some 59), none, (.mv (.t 12))⟩, ⟨(some 11), none, (.mv (.t 59))⟩]) .nop))))) (.reg 8 [⟨(some 32), none, (.mv (.t 12))⟩, ⟨(some 33), none, (.bin .sub .int (.t 32) (.k (.v
  (.int .i64 1))))⟩, ⟨(some 12), none, (.mv (.t 33))⟩])))))) (.seq (.reg 14 [⟨(some 60), none, (.mv (.t 10))⟩, ⟨(some 61), none, (.mv (.t 11))⟩, ⟨(some 4), none, (.mv (.t 60))⟩,
  ⟨(some 5), none, (.mv (.t 61))⟩, ⟨(some 6), none, (.mv (.k (.v (.int .i64 0))))⟩]) .ret)))))))
def rv21 : List RV := [(.t 4), (.t 5), (.t 6)]
theorem ok21 : cFun Try.prog Try.f21 = some (ac21, rv21) := by kernel_rfl
theorem nt21 : Try.f21.ntmps = 62 := by kernel_rfl
theorem of21 : okF Try.prog 21 := ⟨Try.f21, Try.func21, by kernel_rfl, by kernel_rfl⟩

/- putlog/monitor.Both -/
def ac22 : AC := (.seq (.reg 0 [⟨(some 3), none, (.box 5 (.t 0))⟩, ⟨(some 4), none, (.box 5 (.t 1))⟩, ⟨(some 6), none, (.mv (.k (.v (.int .i64 0))))⟩, ⟨(some 7), none, (.mv (.k (.v (.int .i64
  0))))⟩, ⟨(some 8), none, (.mv (.k (.v (.int .i64 0))))⟩]) (.seq (.reg 1 [⟨(some 16), none, (.ld 5 true (.t 3))⟩, ⟨(some 17), none, (.mv (.t 2))⟩, ⟨(some 18), none, (.call 40 [(.t
  16), (.t 17)])⟩, ⟨(some 15), none, (.mv (.t 18))⟩, ⟨(some 19), none, (.ext (.t 15) 0)⟩, ⟨(some 20), none, (.ext (.t 15) 1)⟩, ⟨(some 9), none, (.alloc [(.v (.int .i64 0)), (.v
  (.int .i64 0)), (.v (.int .i64 0)), (.v (.int .i64 0))])⟩, ⟨none, none, (.st 4 (.t 9) (.t 19))⟩, ⟨(some 10), none, (.mv (.t 20))⟩]) (.seq (.reg 2 [⟨(some 22), none, (.ld 5 true
  (.t 4))⟩, ⟨(some 23), none, (.mv (.t 2))⟩, ⟨(some 24), none, (.call 40 [(.t 22), (.t 23)])⟩, ⟨(some 21), none, (.mv (.t 24))⟩, ⟨(some 25), none, (.ext (.t 21) 0)⟩, ⟨(some 26),
  none, (.ext (.t 21) 1)⟩, ⟨(some 11), none, (.alloc [(.v (.int .i64 0)), (.v (.int .i64 0)), (.v (.int .i64 0)), (.v (.int .i64 0))])⟩, ⟨none, none, (.st 4 (.t 11) (.t 25))⟩,
  ⟨(some 12), none, (.mv (.t 26))⟩]) (.seq (.drw 3 [⟨(some 27), none, (.fa 0 (.t 9))⟩, ⟨(some 28), none, (.ld 1 false (.t 27))⟩, ⟨(some 29), none, (.fa 0 (.t 11))⟩, ⟨(some 30),
  none, (.ld 1 false (.t 29))⟩, ⟨(some 31), none, (.mm true [(.t 28), (.t 30)])⟩, ⟨(some 32), none, (.fa 1 (.t 9))⟩, ⟨(some 33), none, (.ld 1 false (.t 32))⟩, ⟨(some 34), none,
  (.fa 1 (.t 11))⟩, ⟨(some 35), none, (.ld 1 false (.t 34))⟩, ⟨(some 36), none, (.mm false [(.t 33), (.t 35)])⟩, ⟨(some 13), none, (.mv (.t 31))⟩, ⟨(some 14), none, (.mv (.t 36))⟩]
  []) (.seq (.seq (.reg 4 [⟨(some 37), none, (.mv (.t 10))⟩, ⟨(some 38), none, (.un .not (.t 37))⟩, ⟨(some 39), none, (.mv (.t 38))⟩, ⟨(some 40), (some (39, false)), (.mv (.t
  12))⟩, ⟨(some 41), (some (39, false)), (.un .not (.t 40))⟩, ⟨(some 42), none, (.pick (.t 39) (.k (.v (.bool true))) (.t 41))⟩, ⟨(some 43), none, (.mv (.t 42))⟩, ⟨(some 44), (some
  (43, false)), (.mv (.t 13))⟩, ⟨(some 45), (some (43, false)), (.mv (.t 14))⟩, ⟨(some 46), (some (43, false)), (.bin .gtr .int (.t 44) (.t 45))⟩, ⟨(some 47), none, (.pick (.t 43)
  (.k (.v (.bool true))) (.t 46))⟩]) (.cond (.t 47) (.seq (.reg 5 [⟨(some 6), none, (.mv (.k (.v (.int .i64 0))))⟩, ⟨(some 7), none, (.mv (.k (.v (.int .i64 0))))⟩, ⟨(some 8),
  none, (.mv (.k (.v (.int .i64 240))))⟩]) .ret) .nop)) (.seq (.reg 6 [⟨(some 48), none, (.mv (.t 13))⟩, ⟨(some 49), none, (.mv (.t 14))⟩, ⟨(some 6), none, (.mv (.t 48))⟩, ⟨(some
  7), none, (.mv (.t 49))⟩, ⟨(some 8), none, (.mv (.k (.v (.int .i64 0))))⟩]) .ret))))))
def rv22 : List RV := [(.t 6), (.t 7), (.t 8)]
theorem ok22 : cFun Try.prog Try.f22 = some (ac22, rv22) := by kernel_rfl
theorem nt22 : Try.f22.ntmps = 50 := by kernel_rfl
theorem of22 : okF Try.prog 22 := ⟨Try.f22, Try.func22, by kernel_rfl, by kernel_rfl⟩

/- putlog/putlogref24.Both -/
def ac23 : AC := (.seq (.reg 0 [⟨(some 3), none, (.box 5 (.t 0))⟩, ⟨(some 4), none, (.box 5 (.t 1))⟩, ⟨(some 6), none, (.mv (.k (.v (.int .i64 0))))⟩, ⟨(some 7), none, (.mv (.k (.v (.int .i64
  0))))⟩, ⟨(some 8), none, (.mv (.k (.v (.int .i64 0))))⟩]) (.seq (.reg 1 [⟨(some 16), none, (.ld 5 true (.t 3))⟩, ⟨(some 17), none, (.mv (.t 2))⟩, ⟨(some 18), none, (.call 19 [(.t
  16), (.t 17)])⟩, ⟨(some 15), none, (.mv (.t 18))⟩, ⟨(some 19), none, (.ext (.t 15) 0)⟩, ⟨(some 20), none, (.ext (.t 15) 1)⟩, ⟨(some 21), none, (.ext (.t 15) 2)⟩, ⟨(some 9), none,
  (.mv (.t 19))⟩, ⟨(some 10), none, (.mv (.t 20))⟩, ⟨(some 11), none, (.mv (.t 21))⟩]) (.seq (.reg 2 [⟨(some 23), none, (.ld 5 true (.t 4))⟩, ⟨(some 24), none, (.mv (.t 2))⟩,
  ⟨(some 25), none, (.call 19 [(.t 23), (.t 24)])⟩, ⟨(some 22), none, (.mv (.t 25))⟩, ⟨(some 26), none, (.ext (.t 22) 0)⟩, ⟨(some 27), none, (.ext (.t 22) 1)⟩, ⟨(some 28), none,
  (.ext (.t 22) 2)⟩, ⟨(some 12), none, (.mv (.t 26))⟩, ⟨(some 13), none, (.mv (.t 27))⟩, ⟨(some 14), none, (.mv (.t 28))⟩]) (.seq (.seq (.reg 3 [⟨(some 29), none, (.mv (.t 11))⟩,
  ⟨(some 30), none, (.bin .neq .int (.t 29) (.k (.v (.int .i64 0))))⟩, ⟨(some 31), none, (.mv (.t 30))⟩, ⟨(some 32), (some (31, false)), (.mv (.t 14))⟩, ⟨(some 33), (some (31,
  false)), (.bin .neq .int (.t 32) (.k (.v (.int .i64 0))))⟩, ⟨(some 34), none, (.pick (.t 31) (.k (.v (.bool true))) (.t 33))⟩, ⟨(some 35), none, (.mv (.t 34))⟩, ⟨(some 36), (some
  (35, false)), (.mv (.t 9))⟩, ⟨(some 37), (some (35, false)), (.mv (.t 12))⟩, ⟨(some 38), (some (35, false)), (.mm true [(.t 36), (.t 37)])⟩, ⟨(some 39), (some (35, false)), (.mv
  (.t 10))⟩, ⟨(some 40), (some (35, false)), (.mv (.t 13))⟩, ⟨(some 41), (some (35, false)), (.mm false [(.t 39), (.t 40)])⟩, ⟨(some 42), (some (35, false)), (.bin .gtr .int (.t
  38) (.t 41))⟩, ⟨(some 43), none, (.pick (.t 35) (.k (.v (.bool true))) (.t 42))⟩]) (.cond (.t 43) (.seq (.reg 4 [⟨(some 6), none, (.mv (.k (.v (.int .i64 0))))⟩, ⟨(some 7), none,
  (.mv (.k (.v (.int .i64 0))))⟩, ⟨(some 8), none, (.mv (.k (.v (.int .i64 240))))⟩]) .ret) .nop)) (.seq (.reg 5 [⟨(some 44), none, (.mv (.t 9))⟩, ⟨(some 45), none, (.mv (.t 12))⟩,
  ⟨(some 46), none, (.mm true [(.t 44), (.t 45)])⟩, ⟨(some 47), none, (.mv (.t 10))⟩, ⟨(some 48), none, (.mv (.t 13))⟩, ⟨(some 49), none, (.mm false [(.t 47), (.t 48)])⟩, ⟨(some
  6), none, (.mv (.t 46))⟩, ⟨(some 7), none, (.mv (.t 49))⟩, ⟨(some 8), none, (.mv (.k (.v (.int .i64 0))))⟩]) .ret)))))
def rv23 : List RV := [(.t 6), (.t 7), (.t 8)]
theorem ok23 : cFun Try.prog Try.f23 = some (ac23, rv23) := by kernel_rfl
theorem nt23 : Try.f23.ntmps = 50 := by kernel_rfl
theorem of23 : okF Try.prog 23 := ⟨Try.f23, Try.func23, by kernel_rfl, by kernel_rfl⟩

/- putlog/monitor.Over -/
def ac24 : AC := (.seq (.reg 0 [⟨(some 3), none, (.box 5 (.t 0))⟩, ⟨(some 5), none, (.box 2 (.t 2))⟩, ⟨(some 6), none, (.mv (.k (.v (.int .i64 0))))⟩, ⟨(some 7), none, (.mv (.k (.v (.int .i64
  0))))⟩]) (.seq (.reg 1 [⟨(some 12), none, (.ld 5 true (.t 3))⟩, ⟨(some 13), none, (.mv (.t 1))⟩, ⟨(some 14), none, (.ld 2 true (.t 5))⟩, ⟨(some 15), none, (.call 26 [(.t 12), (.t
  13), (.t 14)])⟩, ⟨(some 11), none, (.mv (.t 15))⟩, ⟨(some 16), none, (.ext (.t 11) 0)⟩, ⟨(some 17), none, (.ext (.t 11) 1)⟩, ⟨(some 18), none, (.ext (.t 11) 2)⟩, ⟨(some 8), none,
  (.mv (.t 16))⟩, ⟨(some 9), none, (.mv (.t 17))⟩, ⟨(some 10), none, (.mv (.t 18))⟩]) (.seq (.block 0 (.seq (.reg 2 [⟨(some 20), none, (.mv (.t 10))⟩, ⟨(some 21), none, (.bin .neq
  .int (.t 20) (.k (.v (.int .i64 0))))⟩, ⟨(some 19), none, (.mv (.t 21))⟩]) (.cond (.t 19) (.seq (.reg 3 [⟨(some 22), none, (.mv (.t 10))⟩, ⟨(some 6), none, (.mv (.k (.v (.int
  .i64 0))))⟩, ⟨(some 7), none, (.mv (.t 22))⟩]) .ret) (.seq (.reg 4 [⟨(some 24), none, (.mv (.t 8))⟩, ⟨(some 25), none, (.bin .geq .int (.t 24) (.k (.v (.int .i64 0))))⟩, ⟨(some
  23), none, (.mv (.t 25))⟩]) (.cond (.t 23) (.seq (.reg 5 [⟨(some 6), none, (.mv (.k (.v (.int .i64 2))))⟩, ⟨(some 7), none, (.mv (.k (.v (.int .i64 0))))⟩]) .ret) (.seq (.reg 6
  [⟨(some 27), none, (.mv (.t 9))⟩, ⟨(some 28), none, (.bin .geq .int (.t 27) (.k (.v (.int .i64 0))))⟩, ⟨(some 26), none, (.mv (.t 28))⟩]) (.cond (.t 26) (.seq (.reg 7 [⟨(some 6),
  none, (.mv (.k (.v (.int .i64 1))))⟩, ⟨(some 7), none, (.mv (.k (.v (.int .i64 0))))⟩]) .ret) .nop))))))) (.seq (.reg 8 [⟨(some 6), none, (.mv (.k (.v (.int .i64 0))))⟩, ⟨(some
  7), none, (.mv (.k (.v (.int .i64 0))))⟩]) .ret))))
def rv24 : List RV := [(.t 6), (.t 7)]
theorem ok24 : cFun Try.prog Try.f24 = some (ac24, rv24) := by kernel_rfl
theorem nt24 : Try.f24.ntmps = 29 := by kernel_rfl
theorem of24 : okF Try.prog 24 := ⟨Try.f24, Try.func24, by kernel_rfl, by kernel_rfl⟩

/- putlog/putlogref24.Over -/
def ac25 : AC := (.seq (.reg 0 [⟨(some 3), none, (.box 5 (.t 0))⟩, ⟨(some 5), none, (.box 2 (.t 2))⟩, ⟨(some 6), none, (.mv (.k (.v (.int .i64 0))))⟩, ⟨(some 7), none, (.mv (.k (.v (.int .i64
  0))))⟩]) (.seq (.reg 1 [⟨(some 12), none, (.ld 5 true (.t 3))⟩, ⟨(some 13), none, (.mv (.t 1))⟩, ⟨(some 14), none, (.ld 2 true (.t 5))⟩, ⟨(some 15), none, (.call 27 [(.t 12), (.t
  13), (.t 14)])⟩, ⟨(some 11), none, (.mv (.t 15))⟩, ⟨(some 16), none, (.ext (.t 11) 0)⟩, ⟨(some 17), none, (.ext (.t 11) 1)⟩, ⟨(some 18), none, (.ext (.t 11) 2)⟩, ⟨(some 8), none,
  (.mv (.t 16))⟩, ⟨(some 9), none, (.mv (.t 17))⟩, ⟨(some 10), none, (.mv (.t 18))⟩]) (.seq (.seq (.reg 2 [⟨(some 19), none, (.mv (.t 10))⟩, ⟨(some 20), none, (.bin .neq .int (.t
  19) (.k (.v (.int .i64 0))))⟩]) (.cond (.t 20) (.seq (.reg 3 [⟨(some 21), none, (.mv (.t 10))⟩, ⟨(some 6), none, (.mv (.k (.v (.int .i64 0))))⟩, ⟨(some 7), none, (.mv (.t 21))⟩])
  .ret) .nop)) (.seq (.seq (.reg 4 [⟨(some 22), none, (.mv (.t 8))⟩, ⟨(some 23), none, (.bin .geq .int (.t 22) (.k (.v (.int .i64 0))))⟩]) (.cond (.t 23) (.seq (.reg 5 [⟨(some 6),
  none, (.mv (.k (.v (.int .i64 2))))⟩, ⟨(some 7), none, (.mv (.k (.v (.int .i64 0))))⟩]) .ret) .nop)) (.seq (.seq (.reg 6 [⟨(some 24), none, (.mv (.t 9))⟩, ⟨(some 25), none, (.bin
  .geq .int (.t 24) (.k (.v (.int .i64 0))))⟩]) (.cond (.t 25) (.seq (.reg 7 [⟨(some 6), none, (.mv (.k (.v (.int .i64 1))))⟩, ⟨(some 7), none, (.mv (.k (.v (.int .i64 0))))⟩])
  .ret) .nop)) (.seq (.reg 8 [⟨(some 6), none, (.mv (.k (.v (.int .i64 0))))⟩, ⟨(some 7), none, (.mv (.k (.v (.int .i64 0))))⟩]) .ret))))))
def rv25 : List RV := [(.t 6), (.t 7)]
theorem ok25 : cFun Try.prog Try.f25 = some (ac25, rv25) := by kernel_rfl
theorem nt25 : Try.f25.ntmps = 26 := by kernel_rfl
theorem of25 : okF Try.prog 25 := ⟨Try.f25, Try.func25, by kernel_rfl, by kernel_rfl⟩

/- putlog/monitor.Alarm -/
def ac26 : AC := (.seq (.reg 0 [⟨(some 3), none, (.box 5 (.t 0))⟩, ⟨(some 5), none, (.box 2 (.t 2))⟩, ⟨(some 6), none, (.mv (.k (.v (.int .i64 0))))⟩, ⟨(some 7), none, (.mv (.k (.v (.int .i64
  0))))⟩, ⟨(some 8), none, (.mv (.k (.v (.int .i64 0))))⟩]) (.scp (.seq (.seq (.reg 1 [⟨(some 17), none, (.ld 5 true (.t 3))⟩, ⟨(some 18), none, (.call 16 [(.t 17)])⟩, ⟨(some 19),
  none, (.un .not (.t 18))⟩, ⟨(some 20), none, (.mv (.t 19))⟩, ⟨(some 21), (some (20, false)), (.fa 0 (.t 5))⟩, ⟨(some 22), (some (20, false)), (.ld 1 false (.t 21))⟩, ⟨(some 23),
  (some (20, false)), (.bin .lss .int (.t 22) (.k (.v (.int .i64 0))))⟩, ⟨(some 24), none, (.pick (.t 20) (.k (.v (.bool true))) (.t 23))⟩, ⟨(some 25), none, (.mv (.t 24))⟩, ⟨(some
  26), (some (25, false)), (.fa 0 (.t 5))⟩, ⟨(some 27), (some (25, false)), (.ld 1 false (.t 26))⟩, ⟨(some 28), (some (25, false)), (.fa 1 (.t 5))⟩, ⟨(some 29), (some (25, false)),
  (.ld 1 false (.t 28))⟩, ⟨(some 30), (some (25, false)), (.bin .geq .int (.t 27) (.t 29))⟩, ⟨(some 31), none, (.pick (.t 25) (.k (.v (.bool true))) (.t 30))⟩, ⟨(some 32), none,
  (.mv (.t 31))⟩, ⟨(some 33), (some (32, false)), (.fa 1 (.t 5))⟩, ⟨(some 34), (some (32, false)), (.ld 1 false (.t 33))⟩, ⟨(some 35), (some (32, false)), (.bin .gtr .int (.t 34)
  (.k (.v (.int .i64 10000001))))⟩, ⟨(some 36), none, (.pick (.t 32) (.k (.v (.bool true))) (.t 35))⟩, ⟨(some 37), none, (.mv (.t 36))⟩, ⟨(some 38), (some (37, false)), (.fa 1 (.t
  5))⟩, ⟨(some 39), (some (37, false)), (.ld 1 false (.t 38))⟩, ⟨(some 40), (some (37, false)), (.fa 0 (.t 5))⟩, ⟨(some 41), (some (37, false)), (.ld 1 false (.t 40))⟩, ⟨(some 42),
  (some (37, false)), (.bin .sub .int (.t 39) (.t 41))⟩, ⟨(some 43), (some (37, false)), (.bin .gtr .int (.t 42) (.k (.v (.int .i64 2000))))⟩, ⟨(some 44), none, (.pick (.t 37) (.k
  (.v (.bool true))) (.t 43))⟩]) (.cond (.t 44) (.seq (.reg 2 [⟨(some 6), none, (.mv (.k (.v (.int .i64 0))))⟩, ⟨(some 7), none, (.mv (.k (.v (.int .i64 0))))⟩, ⟨(some 8), none,
  (.mv (.k (.v (.int .i64 240))))⟩]) .ret) .nop)) (.seq (.reg 3 [⟨(some 9), none, (.alloc [(.sl 0 true [] [])])⟩]) (.seq (.seq (.reg 4 [⟨(some 45), none, (.ld 5 true (.t 3))⟩,
  ⟨(some 46), none, (.call 43 [(.t 45)])⟩]) (.block 0 (.rfun (.t 46) [47] (.reg 5 [⟨(some 10), none, (.alloc [(.v (.int .i64 0)), (.v (.int .i64 0)), (.v (.int .i64 0)), (.v (.int
  .i64 0)), (.v (.int .i64 0))])⟩, ⟨none, none, (.st 5 (.t 10) (.t 47))⟩]) (.block 1 (.reg 6 [⟨(some 48), none, (.ld 1 false (.t 9))⟩, ⟨(some 49), none, (.ld 5 true (.t 10))⟩,
  ⟨(some 50), none, (.bsl 5 1 [(.v (.int .i64 0)), (.v (.int .i64 0)), (.v (.int .i64 0)), (.v (.int .i64 0)), (.v (.int .i64 0))] [(0, (.t 49))])⟩, ⟨(some 51), none, (.app 5 40
  [(.v (.int .i64 0)), (.v (.int .i64 0)), (.v (.int .i64 0)), (.v (.int .i64 0)), (.v (.int .i64 0))] (.t 48) (.t 50))⟩, ⟨none, none, (.st 1 (.t 9) (.t 51))⟩]))))) (.seq (.reg 7
  [⟨(some 52), none, (.mkf (.func 44) [] [(.t 9)])⟩, ⟨(some 11), none, (.mv (.t 52))⟩]) (.seq (.reg 8 [⟨(some 12), none, (.mv (.k (.v (.int .i64 (-1)))))⟩, ⟨(some 13), none, (.mv
  (.k (.v (.int .i64 (-1)))))⟩, ⟨(some 14), none, (.mv (.k (.v (.bool false))))⟩]) (.seq .nop (.seq (.seq (.reg 9 [⟨(some 53), none, (.fa 0 (.t 5))⟩, ⟨(some 54), none, (.ld 1 false
  (.t 53))⟩, ⟨(some 15), none, (.mv (.t 54))⟩]) (.block 2 (.loop (.seq (.seq (.reg 10 [⟨(some 55), none, (.mv (.t 15))⟩, ⟨(some 56), none, (.fa 1 (.t 5))⟩, ⟨(some 57), none, (.ld 1
  false (.t 56))⟩, ⟨(some 58), none, (.bin .lss .int (.t 55) (.t 57))⟩]) (.cond (.t 58) .nop (.exit 2))) (.seq (.block 3 (.seq (.reg 12 [⟨(some 61), none, (.mv (.t 11))⟩, ⟨(some
  62), none, (.fa 3 (.t 3))⟩, ⟨(some 63), none, (.ld 1 false (.t 62))⟩, ⟨(some 64), none, (.mv (.t 15))⟩, ⟨(some 65), none, (.call 45 [(.t 61), (.t 63), (.t 64)])⟩, ⟨(some 16),
  none, (.alloc [(.v (.int .i64 0)), (.v (.int .i64 0)), (.v (.int .i64 0)), (.v (.int .i64 0))])⟩, ⟨none, none, (.st 4 (.t 16) (.t 65))⟩]) (.seq (.block 4 (.seq (.reg 13 [⟨(some
  67), none, (.fa 0 (.t 16))⟩, ⟨(some 68), none, (.ld 1 false (.t 67))⟩, ⟨(some 69), none, (.fa 1 (.t 16))⟩, ⟨(some 70), none, (.ld 1 false (.t 69))⟩, ⟨(some 71), none, (.bin .gtr
  .int (.t 68) (.t 70))⟩, ⟨(some 66), none, (.mv (.t 71))⟩]) (.cond (.t 66) (.seq (.reg 14 [⟨(some 14), none, (.mv (.k (.v (.bool true))))⟩]) (.exit 2)) (.seq (.reg 15 [⟨(some 73),
  none, (.fa 0 (.t 16))⟩, ⟨(some 74), none, (.ld 1 false (.t 73))⟩, ⟨(some 75), none, (.mv (.t 1))⟩, ⟨(some 76), none, (.bin .gtr .int (.t 74) (.t 75))⟩, ⟨(some 77), none, (.mv (.t
  76))⟩, ⟨(some 78), (some (77, true)), (.mv (.t 12))⟩, ⟨(some 79), (some (77, true)), (.bin .lss .int (.t 78) (.k (.v (.int .i64 0))))⟩, ⟨(some 80), none, (.pick (.t 77) (.t 79)
  (.k (.v (.bool false))))⟩, ⟨(some 72), none, (.mv (.t 80))⟩]) (.cond (.t 72) (.reg 16 [⟨(some 81), none, (.mv (.t 15))⟩, ⟨(some 12), none, (.mv (.t 81))⟩]) .nop))))) (.seq (.reg
  17 [⟨(some 82), none, (.fa 1 (.t 16))⟩, ⟨(some 83), none, (.ld 1 false (.t 82))⟩, ⟨(some 84), none, (.mv (.t 1))⟩, ⟨(some 85), none, (.bin .gtr .int (.t 83) (.t 84))⟩, ⟨(some
  86), none, (.mv (.t 85))⟩, ⟨(some 87), (some (86, true)), (.mv (.t 13))⟩, ⟨(some 88), (some (86, true)), (.bin .lss .int (.t 87) (.k (.v (.int .i64 0))))⟩, ⟨(some 89), none,
  (.pick (.t 86) (.t 88) (.k (.v (.bool false))))⟩]) (.cond (.t 89) (.reg 18 [⟨(some 90), none, (.mv (.t 15))⟩, ⟨(some 13), none, (.mv (.t 90))⟩]) .nop))))) (.reg 11 [⟨(some 59),
  none, (.mv (.t 15))⟩, ⟨(some 60), none, (.bin .add .int (.t 59) (.k (.v (.int .i64 1))))⟩, ⟨(some 15), none, (.mv (.t 60))⟩])))))) (.seq (.seq (.reg 19 [⟨(some 91), none, (.mv
  (.t 14))⟩]) (.cond (.t 91) (.seq (.reg 20 [⟨(some 6), none, (.mv (.k (.v (.int .i64 0))))⟩, ⟨(some 7), none, (.mv (.k (.v (.int .i64 0))))⟩, ⟨(some 8), none, (.mv (.k (.v (.int
  .i64 240))))⟩]) .ret) .nop)) (.seq (.reg 21 [⟨(some 92), none, (.mv (.t 12))⟩, ⟨(some 93), none, (.mv (.t 13))⟩, ⟨(some 6), none, (.mv (.t 92))⟩, ⟨(some 7), none, (.mv (.t 93))⟩,
  ⟨(some 8), none, (.mv (.k (.v (.int .i64 0))))⟩]) .ret)))))))))))
def rv26 : List RV := [(.t 6), (.t 7), (.t 8)]
theorem ok26 : cFun Try.prog Try.f26 = some (ac26, rv26) := by kernel_rfl
theorem nt26 : Try.f26.ntmps = 94 := by kernel_rfl
theorem of26 : okF Try.prog 26 := ⟨Try.f26, Try.func26, by kernel_rfl, by kernel_rfl⟩

/- putlog/putlogref24.Alarm -/
def ac27 : AC := (.seq (.reg 0 [⟨(some 3), none, (.box 5 (.t 0))⟩, ⟨(some 5), none, (.box 2 (.t 2))⟩, ⟨(some 6), none, (.mv (.k (.v (.int .i64 0))))⟩, ⟨(some 7), none, (.mv (.k (.v (.int .i64
  0))))⟩, ⟨(some 8), none, (.mv (.k (.v (.int .i64 0))))⟩]) (.seq (.seq (.reg 1 [⟨(some 14), none, (.ld 5 true (.t 3))⟩, ⟨(some 15), none, (.call 17 [(.t 14)])⟩, ⟨(some 16), none,
  (.un .not (.t 15))⟩, ⟨(some 17), none, (.mv (.t 16))⟩, ⟨(some 18), (some (17, false)), (.fa 0 (.t 5))⟩, ⟨(some 19), (some (17, false)), (.ld 1 false (.t 18))⟩, ⟨(some 20), (some
  (17, false)), (.bin .lss .int (.t 19) (.k (.v (.int .i64 0))))⟩, ⟨(some 21), none, (.pick (.t 17) (.k (.v (.bool true))) (.t 20))⟩, ⟨(some 22), none, (.mv (.t 21))⟩, ⟨(some 23),
  (some (22, false)), (.fa 0 (.t 5))⟩, ⟨(some 24), (some (22, false)), (.ld 1 false (.t 23))⟩, ⟨(some 25), (some (22, false)), (.fa 1 (.t 5))⟩, ⟨(some 26), (some (22, false)), (.ld
  1 false (.t 25))⟩, ⟨(some 27), (some (22, false)), (.bin .geq .int (.t 24) (.t 26))⟩, ⟨(some 28), none, (.pick (.t 22) (.k (.v (.bool true))) (.t 27))⟩, ⟨(some 29), none, (.mv
  (.t 28))⟩, ⟨(some 30), (some (29, false)), (.fa 1 (.t 5))⟩, ⟨(some 31), (some (29, false)), (.ld 1 false (.t 30))⟩, ⟨(some 32), (some (29, false)), (.bin .gtr .int (.t 31) (.k
  (.v (.int .i64 10000001))))⟩, ⟨(some 33), none, (.pick (.t 29) (.k (.v (.bool true))) (.t 32))⟩]) (.cond (.t 33) (.seq (.reg 2 [⟨(some 6), none, (.mv (.k (.v (.int .i64 0))))⟩,
  ⟨(some 7), none, (.mv (.k (.v (.int .i64 0))))⟩, ⟨(some 8), none, (.mv (.k (.v (.int .i64 240))))⟩]) .ret) .nop)) (.seq (.seq (.reg 3 [⟨(some 34), none, (.fa 1 (.t 5))⟩, ⟨(some
  35), none, (.ld 1 false (.t 34))⟩, ⟨(some 36), none, (.fa 0 (.t 5))⟩, ⟨(some 37), none, (.ld 1 false (.t 36))⟩, ⟨(some 38), none, (.bin .sub .int (.t 35) (.t 37))⟩, ⟨(some 39),
  none, (.bin .gtr .int (.t 38) (.k (.v (.int .i64 2000))))⟩]) (.cond (.t 39) (.seq (.reg 4 [⟨(some 6), none, (.mv (.k (.v (.int .i64 0))))⟩, ⟨(some 7), none, (.mv (.k (.v (.int
  .i64 0))))⟩, ⟨(some 8), none, (.mv (.k (.v (.int .i64 240))))⟩]) .ret) .nop)) (.seq (.reg 5 [⟨(some 9), none, (.mv (.k (.v (.int .i64 (-1)))))⟩]) (.seq (.reg 6 [⟨(some 10), none,
  (.mv (.k (.v (.int .i64 (-1)))))⟩]) (.seq (.seq (.reg 7 [⟨(some 40), none, (.fa 0 (.t 5))⟩, ⟨(some 41), none, (.ld 1 false (.t 40))⟩, ⟨(some 11), none, (.mv (.t 41))⟩]) (.block 0
  (.loop (.seq (.seq (.reg 8 [⟨(some 42), none, (.mv (.t 11))⟩, ⟨(some 43), none, (.fa 1 (.t 5))⟩, ⟨(some 44), none, (.ld 1 false (.t 43))⟩, ⟨(some 45), none, (.bin .lss .int (.t
  42) (.t 44))⟩]) (.cond (.t 45) .nop (.exit 0))) (.seq (.block 1 (.seq (.reg 10 [⟨(some 49), none, (.ld 5 true (.t 3))⟩, ⟨(some 50), none, (.mv (.t 11))⟩, ⟨(some 51), none, (.call
  41 [(.t 49), (.t 50)])⟩, ⟨(some 48), none, (.mv (.t 51))⟩, ⟨(some 52), none, (.ext (.t 48) 0)⟩, ⟨(some 53), none, (.ext (.t 48) 1)⟩, ⟨(some 12), none, (.mv (.t 52))⟩, ⟨(some 13),
  none, (.mv (.t 53))⟩]) (.seq (.seq (.reg 11 [⟨(some 54), none, (.mv (.t 12))⟩, ⟨(some 55), none, (.mv (.t 13))⟩, ⟨(some 56), none, (.bin .gtr .int (.t 54) (.t 55))⟩]) (.cond (.t
  56) (.seq (.reg 12 [⟨(some 6), none, (.mv (.k (.v (.int .i64 0))))⟩, ⟨(some 7), none, (.mv (.k (.v (.int .i64 0))))⟩, ⟨(some 8), none, (.mv (.k (.v (.int .i64 240))))⟩]) .ret)
  .nop)) (.seq (.seq (.reg 13 [⟨(some 57), none, (.mv (.t 12))⟩, ⟨(some 58), none, (.mv (.t 1))⟩, ⟨(some 59), none, (.bin .gtr .int (.t 57) (.t 58))⟩, ⟨(some 60), none, (.mv (.t
  59))⟩, ⟨(some 61), (some (60, true)), (.mv (.t 9))⟩, ⟨(some 62), (some (60, true)), (.bin .lss .int (.t 61) (.k (.v (.int .i64 0))))⟩, ⟨(some 63), none, (.pick (.t 60) (.t 62)
  (.k (.v (.bool false))))⟩]) (.cond (.t 63) (.reg 14 [⟨(some 64), none, (.mv (.t 11))⟩, ⟨(some 9), none, (.mv (.t 64))⟩]) .nop)) (.seq (.reg 15 [⟨(some 65), none, (.mv (.t 13))⟩,
  ⟨(some 66), none, (.mv (.t 1))⟩, ⟨(some 67), none, (.bin .gtr .int (.t 65) (.t 66))⟩, ⟨(some 68), none, (.mv (.t 67))⟩, ⟨(some 69), (some (68, true)), (.mv (.t 10))⟩, ⟨(some 70),
  (some (68, true)), (.bin .lss .int (.t 69) (.k (.v (.int .i64 0))))⟩, ⟨(some 71), none, (.pick (.t 68) (.t 70) (.k (.v (.bool false))))⟩]) (.cond (.t 71) (.reg 16 [⟨(some 72),
  none, (.mv (.t 11))⟩, ⟨(some 10), none, (.mv (.t 72))⟩]) .nop)))))) (.reg 9 [⟨(some 46), none, (.mv (.t 11))⟩, ⟨(some 47), none, (.bin .add .int (.t 46) (.k (.v (.int .i64
  1))))⟩, ⟨(some 11), none, (.mv (.t 47))⟩])))))) (.seq (.reg 17 [⟨(some 73), none, (.mv (.t 9))⟩, ⟨(some 74), none, (.mv (.t 10))⟩, ⟨(some 6), none, (.mv (.t 73))⟩, ⟨(some 7),
  none, (.mv (.t 74))⟩, ⟨(some 8), none, (.mv (.k (.v (.int .i64 0))))⟩]) .ret)))))))
def rv27 : List RV := [(.t 6), (.t 7), (.t 8)]
theorem ok27 : cFun Try.prog Try.f27 = some (ac27, rv27) := by kernel_rfl
theorem nt27 : Try.f27.ntmps = 75 := by kernel_rfl
theorem of27 : okF Try.prog 27 := ⟨Try.f27, Try.func27, by kernel_rfl, by kernel_rfl⟩

/- putlog/putlogref24.Value -/
def ac28 : AC := (.seq (.reg 0 [⟨(some 2), none, (.box 9 (.t 0))⟩, ⟨(some 4), none, (.mv (.k (.v (.int .i64 0))))⟩]) (.seq (.reg 1 [⟨(some 8), none, (.fa 6 (.t 2))⟩, ⟨(some 9), none, (.ld 1 false
  (.t 8))⟩, ⟨(some 10), none, (.call 32 [(.t 9), (.k (.v (.int .i64 2001)))])⟩, ⟨(some 11), none, (.bin .sub .int (.t 10) (.k (.v (.int .i64 1000))))⟩, ⟨(some 5), none, (.mv (.t
  11))⟩]) (.seq (.reg 2 [⟨(some 12), none, (.ld 9 true (.t 2))⟩, ⟨(some 13), none, (.call 35 [(.t 12)])⟩, ⟨(some 6), none, (.mv (.t 13))⟩]) (.seq (.seq (.reg 3 [⟨(some 7), none,
  (.mv (.k (.v (.int .i64 0))))⟩]) (.block 0 (.loop (.seq (.seq (.reg 4 [⟨(some 14), none, (.mv (.t 7))⟩, ⟨(some 15), none, (.mv (.t 1))⟩, ⟨(some 16), none, (.bin .lss .int (.t 14)
  (.t 15))⟩, ⟨(some 17), none, (.mv (.t 16))⟩, ⟨(some 18), (some (17, true)), (.fa 7 (.t 2))⟩, ⟨(some 19), (some (17, true)), (.ld 1 false (.t 18))⟩, ⟨(some 20), (some (17, true)),
  (.len (.t 19))⟩, ⟨(some 21), (some (17, true)), (.bin .gtr .int (.t 20) (.k (.v (.int .i64 0))))⟩, ⟨(some 22), none, (.pick (.t 17) (.t 21) (.k (.v (.bool false))))⟩]) (.cond (.t
  22) .nop (.exit 0))) (.seq (.block 1 (.drw 6 [⟨(some 25), none, (.mv (.t 5))⟩, ⟨(some 26), none, (.fa 7 (.t 2))⟩, ⟨(some 27), none, (.ld 1 false (.t 26))⟩, ⟨(some 28), none, (.mv
  (.t 7))⟩, ⟨(some 29), none, (.fa 7 (.t 2))⟩, ⟨(some 30), none, (.ld 1 false (.t 29))⟩, ⟨(some 31), none, (.len (.t 30))⟩, ⟨(some 32), none, (.bin .rem .int (.t 28) (.t 31))⟩,
  ⟨(some 33), none, (.ia 1 (.t 27) (.t 32))⟩, ⟨(some 34), none, (.ld 1 false (.t 33))⟩, ⟨(some 35), none, (.mv (.t 6))⟩, ⟨(some 36), none, (.bin .mul .int (.k (.v (.int .i64 2)))
  (.t 35))⟩, ⟨(some 37), none, (.bin .add .int (.t 36) (.k (.v (.int .i64 1))))⟩, ⟨(some 38), none, (.call 32 [(.t 34), (.t 37)])⟩, ⟨(some 39), none, (.bin .add .int (.t 25) (.t
  38))⟩, ⟨(some 40), none, (.mv (.t 6))⟩, ⟨(some 41), none, (.bin .sub .int (.t 39) (.t 40))⟩, ⟨(some 5), none, (.mv (.t 41))⟩] [])) (.reg 5 [⟨(some 23), none, (.mv (.t 7))⟩,
  ⟨(some 24), none, (.bin .add .int (.t 23) (.k (.v (.int .i64 1))))⟩, ⟨(some 7), none, (.mv (.t 24))⟩])))))) (.seq (.reg 7 [⟨(some 42), none, (.mv (.t 5))⟩, ⟨(some 4), none, (.mv
  (.t 42))⟩]) .ret)))))
def rv28 : List RV := [(.t 4)]
theorem ok28 : cFun Try.prog Try.f28 = some (ac28, rv28) := by kernel_rfl
theorem nt28 : Try.f28.ntmps = 43 := by kernel_rfl
theorem of28 : okF Try.prog 28 := ⟨Try.f28, Try.func28, by kernel_rfl, by kernel_rfl⟩

/- putlog/clock.At -/
def ac29 : AC := (.seq (.reg 0 [⟨(some 2), none, (.box 2 (.t 0))⟩, ⟨(some 4), none, (.mv (.k (.v (.int .i64 0))))⟩, ⟨(some 5), none, (.mv (.k (.v (.int .i64 0))))⟩, ⟨(some 6), none, (.mv (.k (.v
  (.int .i64 0))))⟩]) (.seq (.seq (.reg 1 [⟨(some 8), none, (.ld 2 true (.t 2))⟩, ⟨(some 9), none, (.call 38 [(.t 8)])⟩, ⟨(some 10), none, (.un .not (.t 9))⟩, ⟨(some 11), none,
  (.mv (.t 10))⟩, ⟨(some 12), (some (11, false)), (.mv (.t 1))⟩, ⟨(some 13), (some (11, false)), (.bin .lss .int (.t 12) (.k (.v (.int .i64 0))))⟩, ⟨(some 14), none, (.pick (.t 11)
  (.k (.v (.bool true))) (.t 13))⟩, ⟨(some 15), none, (.mv (.t 14))⟩, ⟨(some 16), (some (15, false)), (.mv (.t 1))⟩, ⟨(some 17), (some (15, false)), (.bin .gtr .int (.t 16) (.k (.v
  (.int .i64 10000000))))⟩, ⟨(some 18), none, (.pick (.t 15) (.k (.v (.bool true))) (.t 17))⟩]) (.cond (.t 18) (.seq (.reg 2 [⟨(some 4), none, (.mv (.k (.v (.int .i64 0))))⟩,
  ⟨(some 5), none, (.mv (.k (.v (.int .i64 0))))⟩, ⟨(some 6), none, (.mv (.k (.v (.int .i64 50))))⟩]) .ret) .nop)) (.seq (.reg 3 [⟨(some 19), none, (.ld 2 true (.t 2))⟩, ⟨(some
  20), none, (.mv (.t 1))⟩, ⟨(some 21), none, (.call 46 [(.t 19), (.t 20)])⟩, ⟨(some 7), none, (.alloc [(.v (.int .i64 0)), (.v (.int .i64 0))])⟩, ⟨none, none, (.st 2 (.t 7) (.t
  21))⟩]) (.seq (.seq (.reg 4 [⟨(some 22), none, (.fa 0 (.t 7))⟩, ⟨(some 23), none, (.ld 1 false (.t 22))⟩, ⟨(some 24), none, (.fa 1 (.t 7))⟩, ⟨(some 25), none, (.ld 1 false (.t
  24))⟩, ⟨(some 26), none, (.bin .gtr .int (.t 23) (.t 25))⟩]) (.cond (.t 26) (.seq (.reg 5 [⟨(some 4), none, (.mv (.k (.v (.int .i64 0))))⟩, ⟨(some 5), none, (.mv (.k (.v (.int
  .i64 0))))⟩, ⟨(some 6), none, (.mv (.k (.v (.int .i64 50))))⟩]) .ret) .nop)) (.seq (.drw 6 [⟨(some 27), none, (.fa 0 (.t 7))⟩, ⟨(some 28), none, (.ld 1 false (.t 27))⟩, ⟨(some
  29), none, (.fa 1 (.t 7))⟩, ⟨(some 30), none, (.ld 1 false (.t 29))⟩, ⟨(some 4), none, (.mv (.t 28))⟩, ⟨(some 5), none, (.mv (.t 30))⟩, ⟨(some 6), none, (.mv (.k (.v (.int .i64
  0))))⟩] []) .ret)))))
def rv29 : List RV := [(.t 4), (.t 5), (.t 6)]
theorem ok29 : cFun Try.prog Try.f29 = some (ac29, rv29) := by kernel_rfl
theorem nt29 : Try.f29.ntmps = 31 := by kernel_rfl
theorem of29 : okF Try.prog 29 := ⟨Try.f29, Try.func29, by kernel_rfl, by kernel_rfl⟩

/- putlog/putloglaw24.free -/
def ac30 : AC := (.seq (.reg 0 [⟨(some 2), none, (.mv (.k (.v (.bool false))))⟩]) (.seq (.reg 1 [⟨(some 3), none, (.mv (.t 0))⟩, ⟨(some 4), none, (.bin .neq .int (.t 3) (.k (.v (.int .i64
  1000000))))⟩, ⟨(some 5), none, (.mv (.t 4))⟩, ⟨(some 6), (some (5, true)), (.mv (.t 0))⟩, ⟨(some 7), (some (5, true)), (.bin .neq .int (.t 6) (.k (.v (.int .i64 (-1000000)))))⟩,
  ⟨(some 8), none, (.pick (.t 5) (.t 7) (.k (.v (.bool false))))⟩, ⟨(some 2), none, (.mv (.t 8))⟩]) .ret))
def rv30 : List RV := [(.t 2)]
theorem ok30 : cFun Try.prog Try.f30 = some (ac30, rv30) := by kernel_rfl
theorem nt30 : Try.f30.ntmps = 9 := by kernel_rfl
theorem of30 : okF Try.prog 30 := ⟨Try.f30, Try.func30, by kernel_rfl, by kernel_rfl⟩

/- putlog/putloglaw24.example -/
def ac31 : AC := (.seq (.reg 0 [⟨(some 0), none, (.alloc [(.v (.int .i64 0)), (.sl 0 true [] []), (.v (.int .i64 0)), (.v (.int .i64 0)), (.sl 0 true [] [])])⟩]) (.seq (.reg 1 [⟨(some 1), none,
  (.build [(.v (.int .i64 0)), (.v (.int .i64 0)), (.v (.int .i64 0))] [])⟩, ⟨(some 2), none, (.bsl 3 1 [(.v (.int .i64 0)), (.v (.int .i64 0)), (.v (.int .i64 0))] [(0, (.t
  1))])⟩, ⟨(some 3), none, (.build [(.v (.int .i64 0)), (.sl 0 true [] [])] [(1, 1, (.t 2))])⟩, ⟨(some 4), none, (.build [(.v (.int .i64 0)), (.v (.int .i64 0))] [(0, 1, (.k (.v
  (.int .i64 10)))), (1, 1, (.k (.v (.int .i64 100))))])⟩, ⟨(some 5), none, (.build [(.v (.int .i64 0)), (.v (.int .i64 0))] [(0, 1, (.k (.v (.int .i64 20)))), (1, 1, (.k (.v (.int
  .i64 120))))])⟩, ⟨(some 6), none, (.bsl 2 2 [(.v (.int .i64 0)), (.v (.int .i64 0))] [(0, (.t 4)), (1, (.t 5))])⟩, ⟨(some 7), none, (.build [(.v (.int .i64 0)), (.sl 0 true []
  []), (.v (.int .i64 0)), (.v (.int .i64 0)), (.sl 0 true [] [])] [(0, 2, (.t 3)), (2, 1, (.k (.v (.int .i64 2)))), (3, 1, (.k (.v (.int .i64 3)))), (4, 1, (.t 6))])⟩, ⟨none,
  none, (.st 5 (.t 0) (.t 7))⟩]) .ret))
def rv31 : List RV := [(.c 0 5 true)]
theorem ok31 : cFun Try.prog Try.f31 = some (ac31, rv31) := by kernel_rfl
theorem nt31 : Try.f31.ntmps = 8 := by kernel_rfl
theorem of31 : okF Try.prog 31 := ⟨Try.f31, Try.func31, by kernel_rfl, by kernel_rfl⟩

/- putlog/putlogref24.pick -/
def ac32 : AC := (.seq (.reg 0 [⟨(some 4), none, (.mv (.k (.v (.int .i64 0))))⟩]) (.seq (.seq (.reg 1 [⟨(some 5), none, (.mv (.t 0))⟩, ⟨(some 6), none, (.bin .lss .int (.t 5) (.k (.v (.int .i64
  0))))⟩]) (.cond (.t 6) (.reg 2 [⟨(some 7), none, (.mv (.t 0))⟩, ⟨(some 8), none, (.bin .add .int (.t 7) (.k (.v (.int .i64 1))))⟩, ⟨(some 9), none, (.un .neg (.t 8))⟩, ⟨(some 0),
  none, (.mv (.t 9))⟩]) .nop)) (.seq (.reg 3 [⟨(some 10), none, (.mv (.t 0))⟩, ⟨(some 11), none, (.mv (.t 1))⟩, ⟨(some 12), none, (.bin .rem .int (.t 10) (.t 11))⟩, ⟨(some 4),
  none, (.mv (.t 12))⟩]) .ret)))
def rv32 : List RV := [(.t 4)]
theorem ok32 : cFun Try.prog Try.f32 = some (ac32, rv32) := by kernel_rfl
theorem nt32 : Try.f32.ntmps = 13 := by kernel_rfl
theorem of32 : okF Try.prog 32 := ⟨Try.f32, Try.func32, by kernel_rfl, by kernel_rfl⟩

/- putlog/putlogref05.Made -/
def ac33 : AC := (.seq (.reg 0 [⟨(some 8), none, (.alloc [(.v (.int .i64 0)), (.sl 0 true [] [])])⟩]) (.seq (.reg 1 [⟨(some 14), none, (.mv (.t 0))⟩, ⟨(some 15), none, (.call 47 [(.t 14), (.k (.v
  (.int .i64 101)))])⟩, ⟨(some 16), none, (.build [(.v (.int .i64 0)), (.sl 0 true [] [])] [(0, 1, (.t 15))])⟩, ⟨(some 9), none, (.alloc [(.v (.int .i64 0)), (.sl 0 true [] [])])⟩,
  ⟨none, none, (.st 2 (.t 9) (.t 16))⟩]) (.seq (.seq (.reg 2 [⟨(some 10), none, (.mv (.k (.v (.int .i64 0))))⟩]) (.block 0 (.loop (.seq (.seq (.reg 3 [⟨(some 17), none, (.mv (.t
  10))⟩, ⟨(some 18), none, (.bin .lss .int (.t 17) (.k (.v (.int .i64 3000))))⟩]) (.cond (.t 18) .nop (.exit 0))) (.seq (.block 1 (.seq (.reg 5 [⟨(some 11), none, (.mv (.k (.v
  (.int .i64 0))))⟩]) (.block 2 (.loop (.seq (.seq (.reg 6 [⟨(some 21), none, (.mv (.t 11))⟩, ⟨(some 22), none, (.mv (.t 3))⟩, ⟨(some 23), none, (.len (.t 22))⟩, ⟨(some 24), none,
  (.bin .lss .int (.t 21) (.t 23))⟩, ⟨(some 25), none, (.mv (.t 24))⟩, ⟨(some 26), (some (25, true)), (.mv (.t 11))⟩, ⟨(some 27), (some (25, true)), (.bin .lss .int (.t 26) (.k (.v
  (.int .i64 12))))⟩, ⟨(some 28), none, (.pick (.t 25) (.t 27) (.k (.v (.bool false))))⟩]) (.cond (.t 28) .nop (.exit 2))) (.seq (.block 3 (.seq (.seq (.reg 8 [⟨(some 31), none,
  (.mv (.t 3))⟩, ⟨(some 32), none, (.mv (.t 11))⟩, ⟨(some 33), none, (.ia 3 (.t 31) (.t 32))⟩, ⟨(some 34), none, (.iaA 3 1 (.t 33) (.k (.v (.int .i64 0))))⟩, ⟨(some 35), none, (.ld
  1 false (.t 34))⟩, ⟨(some 36), none, (.call 47 [(.t 35), (.k (.v (.int .i64 3000)))])⟩, ⟨(some 37), none, (.mv (.t 10))⟩, ⟨(some 38), none, (.bin .neq .int (.t 36) (.t 37))⟩])
  (.cond (.t 38) (.exit 3) .nop)) (.seq (.drw 9 [⟨(some 39), none, (.mv (.t 0))⟩, ⟨(some 40), none, (.mv (.t 1))⟩, ⟨(some 41), none, (.mv (.t 2))⟩, ⟨(some 42), none, (.mv (.t
  10))⟩, ⟨(some 43), none, (.call 36 [(.t 39), (.t 40), (.t 41), (.t 42)])⟩, ⟨(some 44), none, (.mv (.t 10))⟩, ⟨(some 45), none, (.mv (.t 3))⟩, ⟨(some 46), none, (.mv (.t 11))⟩,
  ⟨(some 47), none, (.ia 3 (.t 45) (.t 46))⟩, ⟨(some 48), none, (.iaA 3 1 (.t 47) (.k (.v (.int .i64 1))))⟩, ⟨(some 49), none, (.ld 1 false (.t 48))⟩, ⟨(some 50), none, (.call 47
  [(.t 49), (.k (.v (.int .i64 51)))])⟩, ⟨(some 51), none, (.bin .sub .int (.t 44) (.t 50))⟩, ⟨(some 52), none, (.mm true [(.t 51), (.k (.v (.int .i64 0)))])⟩, ⟨(some 53), none,
  (.mv (.t 10))⟩, ⟨(some 54), none, (.mv (.t 3))⟩, ⟨(some 55), none, (.mv (.t 11))⟩, ⟨(some 56), none, (.ia 3 (.t 54) (.t 55))⟩, ⟨(some 57), none, (.iaA 3 1 (.t 56) (.k (.v (.int
  .i64 2))))⟩, ⟨(some 58), none, (.ld 1 false (.t 57))⟩, ⟨(some 59), none, (.call 47 [(.t 58), (.k (.v (.int .i64 51)))])⟩, ⟨(some 60), none, (.bin .add .int (.t 53) (.t 59))⟩,
  ⟨(some 61), none, (.build [(.v (.int .i64 0)), (.v (.int .i64 0)), (.v (.int .i64 0))] [(0, 1, (.t 43)), (1, 1, (.t 52)), (2, 1, (.t 60))])⟩, ⟨(some 12), none, (.alloc [(.v (.int
  .i64 0)), (.v (.int .i64 0)), (.v (.int .i64 0))])⟩, ⟨none, none, (.st 3 (.t 12) (.t 61))⟩] [(4, 8), (4, 10), (4, 17), (11, 17), (4, 19), (11, 19), (4, 23), (8, 23), (10, 23),
  (11, 23), (17, 23), (19, 23), (20, 23)]) (.seq (.reg 10 [⟨(some 62), none, (.fa 1 (.t 9))⟩, ⟨(some 63), none, (.ld 1 false (.t 62))⟩, ⟨(some 64), none, (.len (.t 63))⟩, ⟨(some
  13), none, (.mv (.t 64))⟩]) (.seq (.drw 11 [⟨(some 65), none, (.mv (.t 13))⟩, ⟨(some 66), none, (.bin .eql .int (.t 65) (.k (.v (.int .i64 0))))⟩, ⟨(some 67), none, (.mv (.t
  66))⟩, ⟨(some 68), (some (67, false)), (.fa 1 (.t 9))⟩, ⟨(some 69), (some (67, false)), (.ld 1 false (.t 68))⟩, ⟨(some 70), (some (67, false)), (.mv (.t 13))⟩, ⟨(some 71), (some
  (67, false)), (.bin .sub .int (.t 70) (.k (.v (.int .i64 1))))⟩, ⟨(some 72), (some (67, false)), (.ia 3 (.t 69) (.t 71))⟩, ⟨(some 73), (some (67, false)), (.fa 0 (.t 72))⟩,
  ⟨(some 74), (some (67, false)), (.ld 1 false (.t 73))⟩, ⟨(some 75), (some (67, false)), (.fa 0 (.t 12))⟩, ⟨(some 76), (some (67, false)), (.ld 1 false (.t 75))⟩, ⟨(some 77),
  (some (67, false)), (.bin .lss .int (.t 74) (.t 76))⟩, ⟨(some 78), none, (.pick (.t 67) (.k (.v (.bool true))) (.t 77))⟩] []) (.cond (.t 78) (.reg 12 [⟨(some 79), none, (.fa 1
  (.t 9))⟩, ⟨(some 80), none, (.ld 1 false (.t 79))⟩, ⟨(some 81), none, (.ld 3 true (.t 12))⟩, ⟨(some 82), none, (.bsl 3 1 [(.v (.int .i64 0)), (.v (.int .i64 0)), (.v (.int .i64
  0))] [(0, (.t 81))])⟩, ⟨(some 83), none, (.app 3 24 [(.v (.int .i64 0)), (.v (.int .i64 0)), (.v (.int .i64 0))] (.t 80) (.t 82))⟩, ⟨(some 84), none, (.fa 1 (.t 9))⟩, ⟨none,
  none, (.st 1 (.t 84) (.t 83))⟩]) .nop)))))) (.reg 7 [⟨(some 29), none, (.mv (.t 11))⟩, ⟨(some 30), none, (.bin .add .int (.t 29) (.k (.v (.int .i64 1))))⟩, ⟨(some 11), none, (.mv
  (.t 30))⟩]))))))) (.reg 4 [⟨(some 19), none, (.mv (.t 10))⟩, ⟨(some 20), none, (.bin .add .int (.t 19) (.k (.v (.int .i64 1))))⟩, ⟨(some 10), none, (.mv (.t 20))⟩])))))) (.seq
  (.reg 13 [⟨(some 85), none, (.ld 2 true (.t 9))⟩, ⟨none, none, (.st 2 (.t 8) (.t 85))⟩]) .ret))))
def rv33 : List RV := [(.c 8 2 true)]
theorem ok33 : cFun Try.prog Try.f33 = some (ac33, rv33) := by kernel_rfl
theorem nt33 : Try.f33.ntmps = 86 := by kernel_rfl
theorem of33 : okF Try.prog 33 := ⟨Try.f33, Try.func33, by kernel_rfl, by kernel_rfl⟩

/- putlog/putlogref24.Tol -/
def ac34 : AC := (.seq (.reg 0 [⟨(some 1), none, (.box 9 (.t 0))⟩, ⟨(some 2), none, (.mv (.k (.v (.int .i64 0))))⟩]) (.seq (.reg 1 [⟨(some 3), none, (.fa 4 (.t 1))⟩, ⟨(some 4), none, (.ld 1 false
  (.t 3))⟩, ⟨(some 5), none, (.call 32 [(.t 4), (.k (.v (.int .i64 31)))])⟩, ⟨(some 2), none, (.mv (.t 5))⟩]) .ret))
def rv34 : List RV := [(.t 2)]
theorem ok34 : cFun Try.prog Try.f34 = some (ac34, rv34) := by kernel_rfl
theorem nt34 : Try.f34.ntmps = 6 := by kernel_rfl
theorem of34 : okF Try.prog 34 := ⟨Try.f34, Try.func34, by kernel_rfl, by kernel_rfl⟩

/- putlog/putlogref24.Rate -/
def ac35 : AC := (.seq (.reg 0 [⟨(some 1), none, (.box 9 (.t 0))⟩, ⟨(some 2), none, (.mv (.k (.v (.int .i64 0))))⟩]) (.seq (.reg 1 [⟨(some 3), none, (.fa 5 (.t 1))⟩, ⟨(some 4), none, (.ld 1 false
  (.t 3))⟩, ⟨(some 5), none, (.call 32 [(.t 4), (.k (.v (.int .i64 21)))])⟩, ⟨(some 2), none, (.mv (.t 5))⟩]) .ret))
def rv35 : List RV := [(.t 2)]
theorem ok35 : cFun Try.prog Try.f35 = some (ac35, rv35) := by kernel_rfl
theorem nt35 : Try.f35.ntmps = 6 := by kernel_rfl
theorem of35 : okF Try.prog 35 := ⟨Try.f35, Try.func35, by kernel_rfl, by kernel_rfl⟩

/- putlog/putlogref05.Shown -/
def ac36 : AC := (.seq (.reg 0 [⟨(some 8), none, (.mv (.k (.v (.int .i64 0))))⟩]) (.seq (.reg 1 [⟨(some 12), none, (.mv (.t 0))⟩, ⟨(some 13), none, (.call 47 [(.t 12), (.k (.v (.int .i64 101)))])⟩,
  ⟨(some 9), none, (.mv (.t 13))⟩]) (.seq (.reg 2 [⟨(some 10), none, (.mv (.k (.v (.int .i64 0))))⟩]) (.seq (.seq (.reg 3 [⟨(some 11), none, (.mv (.k (.v (.int .i64 0))))⟩])
  (.block 0 (.loop (.seq (.seq (.reg 4 [⟨(some 14), none, (.mv (.t 11))⟩, ⟨(some 15), none, (.mv (.t 2))⟩, ⟨(some 16), none, (.len (.t 15))⟩, ⟨(some 17), none, (.bin .lss .int (.t
  14) (.t 16))⟩, ⟨(some 18), none, (.mv (.t 17))⟩, ⟨(some 19), (some (18, true)), (.mv (.t 11))⟩, ⟨(some 20), (some (18, true)), (.bin .lss .int (.t 19) (.k (.v (.int .i64 20))))⟩,
  ⟨(some 21), none, (.pick (.t 18) (.t 20) (.k (.v (.bool false))))⟩, ⟨(some 22), none, (.mv (.t 21))⟩, ⟨(some 23), (some (22, true)), (.mv (.t 3))⟩, ⟨(some 24), (some (22, true)),
  (.mv (.t 11))⟩, ⟨(some 25), (some (22, true)), (.bin .mul .int (.k (.v (.int .i64 100))) (.t 24))⟩, ⟨(some 26), (some (22, true)), (.bin .gtr .int (.t 23) (.t 25))⟩, ⟨(some 27),
  none, (.pick (.t 22) (.t 26) (.k (.v (.bool false))))⟩]) (.cond (.t 27) .nop (.exit 0))) (.seq (.block 1 (.reg 6 [⟨(some 30), none, (.mv (.t 10))⟩, ⟨(some 31), none, (.mv (.t
  2))⟩, ⟨(some 32), none, (.mv (.t 11))⟩, ⟨(some 33), none, (.ia 1 (.t 31) (.t 32))⟩, ⟨(some 34), none, (.ld 1 false (.t 33))⟩, ⟨(some 35), none, (.mv (.t 9))⟩, ⟨(some 36), none,
  (.bin .mul .int (.k (.v (.int .i64 2))) (.t 35))⟩, ⟨(some 37), none, (.bin .add .int (.t 36) (.k (.v (.int .i64 1))))⟩, ⟨(some 38), none, (.call 47 [(.t 34), (.t 37)])⟩, ⟨(some
  39), none, (.mv (.t 9))⟩, ⟨(some 40), none, (.bin .sub .int (.t 38) (.t 39))⟩, ⟨(some 41), none, (.mv (.t 3))⟩, ⟨(some 42), none, (.mv (.t 11))⟩, ⟨(some 43), none, (.bin .mul
  .int (.k (.v (.int .i64 100))) (.t 42))⟩, ⟨(some 44), none, (.bin .sub .int (.t 41) (.t 43))⟩, ⟨(some 45), none, (.mm false [(.t 44), (.k (.v (.int .i64 100)))])⟩, ⟨(some 46),
  none, (.bin .mul .int (.t 40) (.t 45))⟩, ⟨(some 47), none, (.bin .add .int (.t 30) (.t 46))⟩, ⟨(some 10), none, (.mv (.t 47))⟩])) (.reg 5 [⟨(some 28), none, (.mv (.t 11))⟩,
  ⟨(some 29), none, (.bin .add .int (.t 28) (.k (.v (.int .i64 1))))⟩, ⟨(some 11), none, (.mv (.t 29))⟩])))))) (.seq (.reg 7 [⟨(some 48), none, (.mv (.t 10))⟩, ⟨(some 49), none,
  (.mv (.t 3))⟩, ⟨(some 50), none, (.bin .mul .int (.k (.v (.int .i64 1000))) (.t 49))⟩, ⟨(some 51), none, (.bin .add .int (.t 48) (.t 50))⟩, ⟨(some 10), none, (.mv (.t 51))⟩])
  (.seq (.reg 8 [⟨(some 52), none, (.mv (.t 1))⟩, ⟨(some 53), none, (.call 47 [(.t 52), (.k (.v (.int .i64 1000)))])⟩, ⟨(some 54), none, (.mv (.t 10))⟩, ⟨(some 55), none, (.bin
  .quo .int (.t 54) (.k (.v (.int .i64 1000))))⟩, ⟨(some 56), none, (.bin .add .int (.t 53) (.t 55))⟩, ⟨(some 8), none, (.mv (.t 56))⟩]) .ret))))))
def rv36 : List RV := [(.t 8)]
theorem ok36 : cFun Try.prog Try.f36 = some (ac36, rv36) := by kernel_rfl
theorem nt36 : Try.f36.ntmps = 57 := by kernel_rfl
theorem of36 : okF Try.prog 36 := ⟨Try.f36, Try.func36, by kernel_rfl, by kernel_rfl⟩

/- putlog/monitor.isIn -/
def ac37 : AC := (.seq (.reg 0 [⟨(some 6), none, (.mv (.k (.v (.bool false))))⟩]) (.seq (.reg 1 [⟨(some 7), none, (.mv (.t 1))⟩, ⟨(some 8), none, (.mv (.t 0))⟩, ⟨(some 9), none, (.bin .leq .int (.t
  7) (.t 8))⟩, ⟨(some 10), none, (.mv (.t 9))⟩, ⟨(some 11), (some (10, true)), (.mv (.t 0))⟩, ⟨(some 12), (some (10, true)), (.mv (.t 2))⟩, ⟨(some 13), (some (10, true)), (.bin
  .leq .int (.t 11) (.t 12))⟩, ⟨(some 14), none, (.pick (.t 10) (.t 13) (.k (.v (.bool false))))⟩, ⟨(some 6), none, (.mv (.t 14))⟩]) .ret))
def rv37 : List RV := [(.t 6)]
theorem ok37 : cFun Try.prog Try.f37 = some (ac37, rv37) := by kernel_rfl
theorem nt37 : Try.f37.ntmps = 15 := by kernel_rfl
theorem of37 : okF Try.prog 37 := ⟨Try.f37, Try.func37, by kernel_rfl, by kernel_rfl⟩

/- putlog/clock.Valid -/
def ac38 : AC := (.seq (.reg 0 [⟨(some 1), none, (.box 2 (.t 0))⟩, ⟨(some 2), none, (.mv (.k (.v (.bool false))))⟩]) (.seq (.seq (.reg 1 [⟨(some 6), none, (.fa 0 (.t 1))⟩, ⟨(some 7), none, (.ld 1
  false (.t 6))⟩, ⟨(some 8), none, (.bin .lss .int (.t 7) (.k (.v (.int .i64 0))))⟩, ⟨(some 9), none, (.mv (.t 8))⟩, ⟨(some 10), (some (9, false)), (.fa 0 (.t 1))⟩, ⟨(some 11),
  (some (9, false)), (.ld 1 false (.t 10))⟩, ⟨(some 12), (some (9, false)), (.bin .gtr .int (.t 11) (.k (.v (.int .i64 100))))⟩, ⟨(some 13), none, (.pick (.t 9) (.k (.v (.bool
  true))) (.t 12))⟩, ⟨(some 14), none, (.mv (.t 13))⟩, ⟨(some 15), (some (14, false)), (.fa 1 (.t 1))⟩, ⟨(some 16), (some (14, false)), (.ld 1 false (.t 15))⟩, ⟨(some 17), (some
  (14, false)), (.len (.t 16))⟩, ⟨(some 18), (some (14, false)), (.bin .gtr .int (.t 17) (.k (.v (.int .i64 12))))⟩, ⟨(some 19), none, (.pick (.t 14) (.k (.v (.bool true))) (.t
  18))⟩]) (.cond (.t 19) (.seq (.reg 2 [⟨(some 2), none, (.mv (.k (.v (.bool false))))⟩]) .ret) .nop)) (.seq (.reg 3 [⟨(some 3), none, (.mv (.k (.v (.int .i64 (-1)))))⟩]) (.seq
  (.seq (.reg 4 [⟨(some 20), none, (.fa 1 (.t 1))⟩, ⟨(some 21), none, (.ld 1 false (.t 20))⟩, ⟨(some 22), none, (.len (.t 21))⟩, ⟨(some 23), none, (.mv (.k (.v (.int .i64 0))))⟩])
  (.block 0 (.loop (.seq (.reg 5 [⟨(some 24), none, (.bin .lss .int (.t 23) (.t 22))⟩]) (.seq (.cond (.t 24) .nop (.exit 0)) (.seq (.block 1 (.seq (.reg 6 [⟨(some 25), none, (.ia 3
  (.t 21) (.t 23))⟩, ⟨(some 26), none, (.ld 3 true (.t 25))⟩, ⟨(some 5), none, (.alloc [(.v (.int .i64 0)), (.v (.int .i64 0)), (.v (.int .i64 0))])⟩, ⟨none, none, (.st 3 (.t 5)
  (.t 26))⟩]) (.seq (.seq (.reg 7 [⟨(some 27), none, (.fa 0 (.t 5))⟩, ⟨(some 28), none, (.ld 1 false (.t 27))⟩, ⟨(some 29), none, (.mv (.t 3))⟩, ⟨(some 30), none, (.bin .leq .int
  (.t 28) (.t 29))⟩, ⟨(some 31), none, (.mv (.t 30))⟩, ⟨(some 32), (some (31, false)), (.fa 0 (.t 5))⟩, ⟨(some 33), (some (31, false)), (.ld 1 false (.t 32))⟩, ⟨(some 34), (some
  (31, false)), (.bin .gtr .int (.t 33) (.k (.v (.int .i64 10000000))))⟩, ⟨(some 35), none, (.pick (.t 31) (.k (.v (.bool true))) (.t 34))⟩, ⟨(some 36), none, (.mv (.t 35))⟩,
  ⟨(some 37), (some (36, false)), (.fa 1 (.t 5))⟩, ⟨(some 38), (some (36, false)), (.ld 1 false (.t 37))⟩, ⟨(some 39), (some (36, false)), (.bin .lss .int (.t 38) (.k (.v (.int
  .i64 0))))⟩, ⟨(some 40), none, (.pick (.t 36) (.k (.v (.bool true))) (.t 39))⟩, ⟨(some 41), none, (.mv (.t 40))⟩, ⟨(some 42), (some (41, false)), (.fa 1 (.t 5))⟩, ⟨(some 43),
  (some (41, false)), (.ld 1 false (.t 42))⟩, ⟨(some 44), (some (41, false)), (.fa 2 (.t 5))⟩, ⟨(some 45), (some (41, false)), (.ld 1 false (.t 44))⟩, ⟨(some 46), (some (41,
  false)), (.bin .gtr .int (.t 43) (.t 45))⟩, ⟨(some 47), none, (.pick (.t 41) (.k (.v (.bool true))) (.t 46))⟩, ⟨(some 48), none, (.mv (.t 47))⟩, ⟨(some 49), (some (48, false)),
  (.fa 2 (.t 5))⟩, ⟨(some 50), (some (48, false)), (.ld 1 false (.t 49))⟩, ⟨(some 51), (some (48, false)), (.bin .gtr .int (.t 50) (.k (.v (.int .i64 10000000))))⟩, ⟨(some 52),
  none, (.pick (.t 48) (.k (.v (.bool true))) (.t 51))⟩]) (.cond (.t 52) (.seq (.reg 8 [⟨(some 2), none, (.mv (.k (.v (.bool false))))⟩]) .ret) .nop)) (.reg 9 [⟨(some 53), none,
  (.fa 0 (.t 5))⟩, ⟨(some 54), none, (.ld 1 false (.t 53))⟩, ⟨(some 3), none, (.mv (.t 54))⟩])))) (.reg 10 [⟨(some 55), none, (.bin .add .int (.t 23) (.k (.v (.int .i64 1))))⟩,
  ⟨(some 23), none, (.mv (.t 55))⟩]))))))) (.seq (.reg 11 [⟨(some 2), none, (.mv (.k (.v (.bool true))))⟩]) .ret)))))
def rv38 : List RV := [(.t 2)]
theorem ok38 : cFun Try.prog Try.f38 = some (ac38, rv38) := by kernel_rfl
theorem nt38 : Try.f38.ntmps = 56 := by kernel_rfl
theorem of38 : okF Try.prog 38 := ⟨Try.f38, Try.func38, by kernel_rfl, by kernel_rfl⟩

/- putlog/putlogref05.Valid -/
def ac39 : AC := (.seq (.reg 0 [⟨(some 1), none, (.box 2 (.t 0))⟩, ⟨(some 2), none, (.mv (.k (.v (.bool false))))⟩]) (.seq (.seq (.reg 1 [⟨(some 5), none, (.fa 0 (.t 1))⟩, ⟨(some 6), none, (.ld 1
  false (.t 5))⟩, ⟨(some 7), none, (.bin .lss .int (.t 6) (.k (.v (.int .i64 0))))⟩, ⟨(some 8), none, (.mv (.t 7))⟩, ⟨(some 9), (some (8, false)), (.fa 0 (.t 1))⟩, ⟨(some 10),
  (some (8, false)), (.ld 1 false (.t 9))⟩, ⟨(some 11), (some (8, false)), (.bin .gtr .int (.t 10) (.k (.v (.int .i64 100))))⟩, ⟨(some 12), none, (.pick (.t 8) (.k (.v (.bool
  true))) (.t 11))⟩, ⟨(some 13), none, (.mv (.t 12))⟩, ⟨(some 14), (some (13, false)), (.fa 1 (.t 1))⟩, ⟨(some 15), (some (13, false)), (.ld 1 false (.t 14))⟩, ⟨(some 16), (some
  (13, false)), (.len (.t 15))⟩, ⟨(some 17), (some (13, false)), (.bin .gtr .int (.t 16) (.k (.v (.int .i64 12))))⟩, ⟨(some 18), none, (.pick (.t 13) (.k (.v (.bool true))) (.t
  17))⟩]) (.cond (.t 18) (.seq (.reg 2 [⟨(some 2), none, (.mv (.k (.v (.bool false))))⟩]) .ret) .nop)) (.seq (.seq (.reg 3 [⟨(some 3), none, (.mv (.k (.v (.int .i64 0))))⟩])
  (.block 0 (.loop (.seq (.seq (.reg 4 [⟨(some 19), none, (.mv (.t 3))⟩, ⟨(some 20), none, (.fa 1 (.t 1))⟩, ⟨(some 21), none, (.ld 1 false (.t 20))⟩, ⟨(some 22), none, (.len (.t
  21))⟩, ⟨(some 23), none, (.bin .lss .int (.t 19) (.t 22))⟩]) (.cond (.t 23) .nop (.exit 0))) (.seq (.block 1 (.seq (.reg 6 [⟨(some 26), none, (.fa 1 (.t 1))⟩, ⟨(some 27), none,
  (.ld 1 false (.t 26))⟩, ⟨(some 28), none, (.mv (.t 3))⟩, ⟨(some 29), none, (.ia 3 (.t 27) (.t 28))⟩, ⟨(some 30), none, (.ld 3 true (.t 29))⟩, ⟨(some 4), none, (.alloc [(.v (.int
  .i64 0)), (.v (.int .i64 0)), (.v (.int .i64 0))])⟩, ⟨none, none, (.st 3 (.t 4) (.t 30))⟩]) (.seq (.drw 7 [⟨(some 31), none, (.fa 0 (.t 4))⟩, ⟨(some 32), none, (.ld 1 false (.t
  31))⟩, ⟨(some 33), none, (.bin .lss .int (.t 32) (.k (.v (.int .i64 0))))⟩, ⟨(some 34), none, (.mv (.t 33))⟩, ⟨(some 35), (some (34, false)), (.fa 0 (.t 4))⟩, ⟨(some 36), (some
  (34, false)), (.ld 1 false (.t 35))⟩, ⟨(some 37), (some (34, false)), (.bin .gtr .int (.t 36) (.k (.v (.int .i64 10000000))))⟩, ⟨(some 38), none, (.pick (.t 34) (.k (.v (.bool
  true))) (.t 37))⟩, ⟨(some 39), none, (.mv (.t 38))⟩, ⟨(some 40), (some (39, false)), (.fa 1 (.t 4))⟩, ⟨(some 41), (some (39, false)), (.ld 1 false (.t 40))⟩, ⟨(some 42), (some
  (39, false)), (.bin .lss .int (.t 41) (.k (.v (.int .i64 0))))⟩, ⟨(some 43), none, (.pick (.t 39) (.k (.v (.bool true))) (.t 42))⟩, ⟨(some 44), none, (.mv (.t 43))⟩, ⟨(some 45),
  (some (44, false)), (.fa 2 (.t 4))⟩, ⟨(some 46), (some (44, false)), (.ld 1 false (.t 45))⟩, ⟨(some 47), (some (44, false)), (.fa 1 (.t 4))⟩, ⟨(some 48), (some (44, false)), (.ld
  1 false (.t 47))⟩, ⟨(some 49), (some (44, false)), (.bin .lss .int (.t 46) (.t 48))⟩, ⟨(some 50), none, (.pick (.t 44) (.k (.v (.bool true))) (.t 49))⟩, ⟨(some 51), none, (.mv
  (.t 50))⟩, ⟨(some 52), (some (51, false)), (.fa 2 (.t 4))⟩, ⟨(some 53), (some (51, false)), (.ld 1 false (.t 52))⟩, ⟨(some 54), (some (51, false)), (.bin .gtr .int (.t 53) (.k
  (.v (.int .i64 10000000))))⟩, ⟨(some 55), none, (.pick (.t 51) (.k (.v (.bool true))) (.t 54))⟩, ⟨(some 56), none, (.mv (.t 55))⟩, ⟨(some 57), (some (56, false)), (.mv (.t 3))⟩,
  ⟨(some 58), (some (56, false)), (.bin .gtr .int (.t 57) (.k (.v (.int .i64 0))))⟩, ⟨(some 59), (some (56, false)), (.mv (.t 58))⟩, ⟨(some 60), (some (59, true)), (.fa 0 (.t 4))⟩,
  ⟨(some 61), (some (59, true)), (.ld 1 false (.t 60))⟩, ⟨(some 62), (some (59, true)), (.fa 1 (.t 1))⟩, ⟨(some 63), (some (59, true)), (.ld 1 false (.t 62))⟩, ⟨(some 64), (some
  (59, true)), (.mv (.t 3))⟩, ⟨(some 65), (some (59, true)), (.bin .sub .int (.t 64) (.k (.v (.int .i64 1))))⟩, ⟨(some 66), (some (59, true)), (.ia 3 (.t 63) (.t 65))⟩, ⟨(some 67),
  (some (59, true)), (.fa 0 (.t 66))⟩, ⟨(some 68), (some (59, true)), (.ld 1 false (.t 67))⟩, ⟨(some 69), (some (59, true)), (.bin .leq .int (.t 61) (.t 68))⟩, ⟨(some 70), (some
  (56, false)), (.pick (.t 59) (.t 69) (.k (.v (.bool false))))⟩, ⟨(some 71), none, (.pick (.t 56) (.k (.v (.bool true))) (.t 70))⟩] []) (.cond (.t 71) (.seq (.reg 8 [⟨(some 2),
  none, (.mv (.k (.v (.bool false))))⟩]) .ret) .nop)))) (.reg 5 [⟨(some 24), none, (.mv (.t 3))⟩, ⟨(some 25), none, (.bin .add .int (.t 24) (.k (.v (.int .i64 1))))⟩, ⟨(some 3),
  none, (.mv (.t 25))⟩])))))) (.seq (.reg 9 [⟨(some 2), none, (.mv (.k (.v (.bool true))))⟩]) .ret))))
def rv39 : List RV := [(.t 2)]
theorem ok39 : cFun Try.prog Try.f39 = some (ac39, rv39) := by kernel_rfl
theorem nt39 : Try.f39.ntmps = 72 := by kernel_rfl
theorem of39 : okF Try.prog 39 := ⟨Try.f39, Try.func39, by kernel_rfl, by kernel_rfl⟩

/- putlog/monitor.found -/
def ac40 : AC := (.seq (.reg 0 [⟨(some 2), none, (.box 5 (.t 0))⟩, ⟨(some 4), none, (.alloc [(.v (.int .i64 0)), (.v (.int .i64 0)), (.v (.int .i64 0)), (.v (.int .i64 0))])⟩, ⟨(some 5), none, (.mv
  (.k (.v (.bool false))))⟩]) (.seq (.seq (.reg 1 [⟨(some 7), none, (.ld 5 true (.t 2))⟩, ⟨(some 8), none, (.call 16 [(.t 7)])⟩, ⟨(some 9), none, (.un .not (.t 8))⟩, ⟨(some 10),
  none, (.mv (.t 9))⟩, ⟨(some 11), (some (10, false)), (.mv (.t 1))⟩, ⟨(some 12), (some (10, false)), (.call 37 [(.t 11), (.k (.v (.int .i64 0))), (.k (.v (.int .i64
  10000000)))])⟩, ⟨(some 13), (some (10, false)), (.un .not (.t 12))⟩, ⟨(some 14), none, (.pick (.t 10) (.k (.v (.bool true))) (.t 13))⟩]) (.cond (.t 14) (.seq (.reg 2 [⟨(some 15),
  none, (.build [(.v (.int .i64 0)), (.v (.int .i64 0)), (.v (.int .i64 0)), (.v (.int .i64 0))] [])⟩, ⟨none, none, (.st 4 (.t 4) (.t 15))⟩, ⟨(some 5), none, (.mv (.k (.v (.bool
  false))))⟩]) .ret) .nop)) (.seq (.drw 3 [⟨(some 16), none, (.ld 5 true (.t 2))⟩, ⟨(some 17), none, (.call 43 [(.t 16)])⟩, ⟨(some 18), none, (.fa 3 (.t 2))⟩, ⟨(some 19), none,
  (.ld 1 false (.t 18))⟩, ⟨(some 20), none, (.mv (.t 1))⟩, ⟨(some 21), none, (.call 45 [(.t 17), (.t 19), (.t 20)])⟩, ⟨(some 6), none, (.alloc [(.v (.int .i64 0)), (.v (.int .i64
  0)), (.v (.int .i64 0)), (.v (.int .i64 0))])⟩, ⟨none, none, (.st 4 (.t 6) (.t 21))⟩] [(1, 3), (0, 6), (1, 6), (3, 6), (5, 6)]) (.seq (.drw 4 [⟨(some 22), none, (.ld 4 true (.t
  6))⟩, ⟨(some 23), none, (.fa 0 (.t 6))⟩, ⟨(some 24), none, (.ld 1 false (.t 23))⟩, ⟨(some 25), none, (.fa 1 (.t 6))⟩, ⟨(some 26), none, (.ld 1 false (.t 25))⟩, ⟨(some 27), none,
  (.bin .leq .int (.t 24) (.t 26))⟩, ⟨none, none, (.st 4 (.t 4) (.t 22))⟩, ⟨(some 5), none, (.mv (.t 27))⟩] [(2, 6), (4, 6)]) .ret))))
def rv40 : List RV := [(.c 4 4 true), (.t 5)]
theorem ok40 : cFun Try.prog Try.f40 = some (ac40, rv40) := by kernel_rfl
theorem nt40 : Try.f40.ntmps = 28 := by kernel_rfl
theorem of40 : okF Try.prog 40 := ⟨Try.f40, Try.func40, by kernel_rfl, by kernel_rfl⟩

/- putlog/putlogref24.bounds -/
def ac41 : AC := (.seq (.reg 0 [⟨(some 2), none, (.box 5 (.t 0))⟩, ⟨(some 4), none, (.mv (.k (.v (.int .i64 0))))⟩, ⟨(some 5), none, (.mv (.k (.v (.int .i64 0))))⟩]) (.seq (.reg 1 [⟨(some 6), none,
  (.mv (.k (.v (.int .i64 (-1000000)))))⟩]) (.seq (.reg 2 [⟨(some 7), none, (.mv (.k (.v (.int .i64 1000000))))⟩]) (.seq (.seq (.reg 3 [⟨(some 8), none, (.mv (.k (.v (.int .i64
  0))))⟩]) (.block 0 (.loop (.seq (.seq (.reg 4 [⟨(some 12), none, (.mv (.t 8))⟩, ⟨(some 13), none, (.fa 4 (.t 2))⟩, ⟨(some 14), none, (.ld 1 false (.t 13))⟩, ⟨(some 15), none,
  (.len (.t 14))⟩, ⟨(some 16), none, (.bin .lss .int (.t 12) (.t 15))⟩]) (.cond (.t 16) .nop (.exit 0))) (.seq (.block 1 (.seq (.drw 6 [⟨(some 20), none, (.ld 5 true (.t 2))⟩,
  ⟨(some 21), none, (.fa 4 (.t 2))⟩, ⟨(some 22), none, (.ld 1 false (.t 21))⟩, ⟨(some 23), none, (.mv (.t 8))⟩, ⟨(some 24), none, (.ia 2 (.t 22) (.t 23))⟩, ⟨(some 25), none, (.ld 2
  true (.t 24))⟩, ⟨(some 26), none, (.mv (.t 1))⟩, ⟨(some 27), none, (.call 42 [(.t 20), (.t 25), (.t 26)])⟩, ⟨(some 19), none, (.mv (.t 27))⟩, ⟨(some 28), none, (.ext (.t 19) 0)⟩,
  ⟨(some 29), none, (.ext (.t 19) 1)⟩, ⟨(some 30), none, (.ext (.t 19) 2)⟩, ⟨(some 9), none, (.mv (.t 28))⟩, ⟨(some 10), none, (.mv (.t 29))⟩, ⟨(some 11), none, (.mv (.t 30))⟩] [])
  (.seq (.reg 7 [⟨(some 31), none, (.mv (.t 11))⟩]) (.cond (.t 31) (.seq (.reg 8 [⟨(some 32), none, (.mv (.t 6))⟩, ⟨(some 33), none, (.mv (.t 9))⟩, ⟨(some 34), none, (.mm true [(.t
  32), (.t 33)])⟩, ⟨(some 6), none, (.mv (.t 34))⟩]) (.reg 9 [⟨(some 35), none, (.mv (.t 7))⟩, ⟨(some 36), none, (.mv (.t 10))⟩, ⟨(some 37), none, (.mm false [(.t 35), (.t 36)])⟩,
  ⟨(some 7), none, (.mv (.t 37))⟩])) .nop)))) (.reg 5 [⟨(some 17), none, (.mv (.t 8))⟩, ⟨(some 18), none, (.bin .add .int (.t 17) (.k (.v (.int .i64 1))))⟩, ⟨(some 8), none, (.mv
  (.t 18))⟩])))))) (.seq (.reg 10 [⟨(some 38), none, (.mv (.t 6))⟩, ⟨(some 39), none, (.mv (.t 7))⟩, ⟨(some 4), none, (.mv (.t 38))⟩, ⟨(some 5), none, (.mv (.t 39))⟩]) .ret)))))
def rv41 : List RV := [(.t 4), (.t 5)]
theorem ok41 : cFun Try.prog Try.f41 = some (ac41, rv41) := by kernel_rfl
theorem nt41 : Try.f41.ntmps = 40 := by kernel_rfl
theorem of41 : okF Try.prog 41 := ⟨Try.f41, Try.func41, by kernel_rfl, by kernel_rfl⟩

/- putlog/putlogref24.span -/
def ac42 : AC := (.seq (.reg 0 [⟨(some 3), none, (.box 5 (.t 0))⟩, ⟨(some 4), none, (.box 2 (.t 1))⟩, ⟨(some 6), none, (.mv (.k (.v (.int .i64 0))))⟩, ⟨(some 7), none, (.mv (.k (.v (.int .i64
  0))))⟩, ⟨(some 8), none, (.mv (.k (.v (.bool false))))⟩]) (.seq (.reg 1 [⟨(some 14), none, (.fa 0 (.t 3))⟩, ⟨(some 15), none, (.ld 2 true (.t 14))⟩, ⟨(some 16), none, (.fa 0 (.t
  4))⟩, ⟨(some 17), none, (.ld 1 false (.t 16))⟩, ⟨(some 18), none, (.call 48 [(.t 15), (.t 17)])⟩, ⟨(some 13), none, (.mv (.t 18))⟩, ⟨(some 19), none, (.ext (.t 13) 0)⟩, ⟨(some
  20), none, (.ext (.t 13) 1)⟩, ⟨(some 21), none, (.ext (.t 13) 2)⟩, ⟨(some 9), none, (.mv (.t 19))⟩, ⟨(some 10), none, (.mv (.t 20))⟩, ⟨(some 11), none, (.mv (.t 21))⟩]) (.seq
  (.seq (.reg 2 [⟨(some 22), none, (.mv (.t 11))⟩, ⟨(some 23), none, (.bin .neq .int (.t 22) (.k (.v (.int .i64 0))))⟩]) (.cond (.t 23) (.seq (.reg 3 [⟨(some 6), none, (.mv (.k (.v
  (.int .i64 0))))⟩, ⟨(some 7), none, (.mv (.k (.v (.int .i64 0))))⟩, ⟨(some 8), none, (.mv (.k (.v (.bool false))))⟩]) .ret) .nop)) (.seq (.reg 4 [⟨(some 24), none, (.fa 3 (.t
  3))⟩, ⟨(some 25), none, (.ld 1 false (.t 24))⟩, ⟨(some 26), none, (.mv (.t 2))⟩, ⟨(some 27), none, (.mv (.t 9))⟩, ⟨(some 28), none, (.bin .sub .int (.t 26) (.t 27))⟩, ⟨(some 29),
  none, (.mv (.t 9))⟩, ⟨(some 30), none, (.mv (.t 2))⟩, ⟨(some 31), none, (.bin .sub .int (.t 29) (.t 30))⟩, ⟨(some 32), none, (.mv (.t 2))⟩, ⟨(some 33), none, (.mv (.t 10))⟩,
  ⟨(some 34), none, (.bin .sub .int (.t 32) (.t 33))⟩, ⟨(some 35), none, (.mv (.t 10))⟩, ⟨(some 36), none, (.mv (.t 2))⟩, ⟨(some 37), none, (.bin .sub .int (.t 35) (.t 36))⟩,
  ⟨(some 38), none, (.mm true [(.t 28), (.t 31), (.t 34), (.t 37)])⟩, ⟨(some 39), none, (.bin .mul .int (.t 25) (.t 38))⟩, ⟨(some 12), none, (.mv (.t 39))⟩]) (.seq (.drw 5 [⟨(some
  40), none, (.fa 1 (.t 4))⟩, ⟨(some 41), none, (.ld 1 false (.t 40))⟩, ⟨(some 42), none, (.fa 2 (.t 3))⟩, ⟨(some 43), none, (.ld 1 false (.t 42))⟩, ⟨(some 44), none, (.bin .sub
  .int (.t 41) (.t 43))⟩, ⟨(some 45), none, (.mv (.t 12))⟩, ⟨(some 46), none, (.bin .sub .int (.t 44) (.t 45))⟩, ⟨(some 47), none, (.fa 1 (.t 4))⟩, ⟨(some 48), none, (.ld 1 false
  (.t 47))⟩, ⟨(some 49), none, (.fa 2 (.t 3))⟩, ⟨(some 50), none, (.ld 1 false (.t 49))⟩, ⟨(some 51), none, (.bin .add .int (.t 48) (.t 50))⟩, ⟨(some 52), none, (.mv (.t 12))⟩,
  ⟨(some 53), none, (.bin .add .int (.t 51) (.t 52))⟩, ⟨(some 6), none, (.mv (.t 46))⟩, ⟨(some 7), none, (.mv (.t 53))⟩, ⟨(some 8), none, (.mv (.k (.v (.bool true))))⟩] [])
  .ret)))))
def rv42 : List RV := [(.t 6), (.t 7), (.t 8)]
theorem ok42 : cFun Try.prog Try.f42 = some (ac42, rv42) := by kernel_rfl
theorem nt42 : Try.f42.ntmps = 54 := by kernel_rfl
theorem of42 : okF Try.prog 42 := ⟨Try.f42, Try.func42, by kernel_rfl, by kernel_rfl⟩

/- putlog/monitor.counted -/
def ac43 : AC := (.seq (.reg 0 [⟨(some 1), none, (.box 5 (.t 0))⟩, ⟨(some 2), none, (.mv (.k (.v .nilFunc)))⟩]) (.seq (.reg 1 [⟨(some 3), none, (.mkf (.func 49) [] [(.t 1)])⟩, ⟨(some 2), none, (.mv
  (.t 3))⟩]) .ret))
def rv43 : List RV := [(.t 2)]
theorem ok43 : cFun Try.prog Try.f43 = some (ac43, rv43) := by kernel_rfl
theorem nt43 : Try.f43.ntmps = 4 := by kernel_rfl
theorem of43 : okF Try.prog 43 := ⟨Try.f43, Try.func43, by kernel_rfl, by kernel_rfl⟩

/- putlog/monitor.Alarm$1 -/
def ac44 : AC := (.seq (.reg 0 [⟨(some 5), none, (.ld 1 false (.t 1))⟩, ⟨(some 6), none, (.len (.t 5))⟩, ⟨(some 7), none, (.mv (.k (.v (.int .i64 0))))⟩]) (.block 0 (.loop (.seq (.reg 1 [⟨(some 8),
  none, (.bin .lss .int (.t 7) (.t 6))⟩]) (.seq (.cond (.t 8) .nop (.exit 0)) (.seq (.block 1 (.seq (.reg 2 [⟨(some 9), none, (.ia 5 (.t 5) (.t 7))⟩, ⟨(some 10), none, (.ld 5 true
  (.t 9))⟩, ⟨(some 4), none, (.alloc [(.v (.int .i64 0)), (.v (.int .i64 0)), (.v (.int .i64 0)), (.v (.int .i64 0)), (.v (.int .i64 0))])⟩, ⟨none, none, (.st 5 (.t 4) (.t 10))⟩])
  (.seq (.reg 3 [⟨(some 11), none, (.mv (.t 0))⟩, ⟨(some 12), none, (.ld 5 true (.t 4))⟩, ⟨(some 13), none, (.cv (.t 11) [(.t 12)])⟩, ⟨(some 14), none, (.un .not (.t 13))⟩]) (.cond
  (.t 14) .ret .nop)))) (.reg 4 [⟨(some 15), none, (.bin .add .int (.t 7) (.k (.v (.int .i64 1))))⟩, ⟨(some 7), none, (.mv (.t 15))⟩])))))))
def rv44 : List RV := []
theorem ok44 : cFun Try.prog Try.f44 = some (ac44, rv44) := by kernel_rfl
theorem nt44 : Try.f44.ntmps = 16 := by kernel_rfl
theorem of44 : okF Try.prog 44 := ⟨Try.f44, Try.func44, by kernel_rfl, by kernel_rfl⟩

/- putlog/monitor.look -/
def ac45 : AC := (.seq (.reg 0 [⟨(some 4), none, (.box 1 (.t 1))⟩, ⟨(some 5), none, (.box 1 (.t 2))⟩, ⟨(some 6), none, (.alloc [(.v (.int .i64 0)), (.v (.int .i64 0)), (.v (.int .i64 0)), (.v (.int
  .i64 0))])⟩]) (.seq (.reg 1 [⟨(some 7), none, (.call 51 [])⟩, ⟨(some 8), none, (.mv (.t 0))⟩, ⟨(some 9), none, (.mkf (.func 52) [] [(.t 4), (.t 5)])⟩, ⟨(some 10), none, (.call 50
  [(.t 7), (.t 8), (.t 9)])⟩, ⟨none, none, (.st 4 (.t 6) (.t 10))⟩]) .ret))
def rv45 : List RV := [(.c 6 4 true)]
theorem ok45 : cFun Try.prog Try.f45 = some (ac45, rv45) := by kernel_rfl
theorem nt45 : Try.f45.ntmps = 11 := by kernel_rfl
theorem of45 : okF Try.prog 45 := ⟨Try.f45, Try.func45, by kernel_rfl, by kernel_rfl⟩

/- putlog/clock.around -/
def ac46 : AC := (.seq (.reg 0 [⟨(some 2), none, (.box 2 (.t 0))⟩, ⟨(some 4), none, (.alloc [(.v (.int .i64 0)), (.v (.int .i64 0))])⟩]) (.seq (.reg 1 [⟨(some 11), none, (.build [(.v (.int .i64
  0)), (.v (.int .i64 0))] [(0, 1, (.k (.v (.int .i64 0)))), (1, 1, (.k (.v (.int .i64 10000000))))])⟩, ⟨(some 12), none, (.box 2 (.t 11))⟩, ⟨(some 5), none, (.mv (.t 12))⟩]) (.seq
  (.reg 2 [⟨(some 13), none, (.mv (.t 5))⟩, ⟨(some 14), none, (.mkf (.func 54) [(.t 13)] [])⟩, ⟨(some 6), none, (.mv (.t 14))⟩]) (.seq (.seq (.reg 3 [⟨(some 15), none, (.fa 1 (.t
  2))⟩, ⟨(some 16), none, (.ld 1 false (.t 15))⟩, ⟨(some 17), none, (.len (.t 16))⟩, ⟨(some 18), none, (.mv (.k (.v (.int .i64 0))))⟩]) (.block 0 (.loop (.seq (.reg 4 [⟨(some 19),
  none, (.bin .lss .int (.t 18) (.t 17))⟩]) (.seq (.cond (.t 19) .nop (.exit 0)) (.seq (.block 1 (.seq (.reg 5 [⟨(some 20), none, (.ia 3 (.t 16) (.t 18))⟩, ⟨(some 21), none, (.ld 3
  true (.t 20))⟩, ⟨(some 8), none, (.alloc [(.v (.int .i64 0)), (.v (.int .i64 0)), (.v (.int .i64 0))])⟩, ⟨none, none, (.st 3 (.t 8) (.t 21))⟩]) (.seq (.reg 6 [⟨(some 23), none,
  (.fa 0 (.t 2))⟩, ⟨(some 24), none, (.ld 1 false (.t 23))⟩, ⟨(some 25), none, (.mv (.t 1))⟩, ⟨(some 26), none, (.fa 0 (.t 8))⟩, ⟨(some 27), none, (.ld 1 false (.t 26))⟩, ⟨(some
  28), none, (.bin .sub .int (.t 25) (.t 27))⟩, ⟨(some 29), none, (.fa 0 (.t 8))⟩, ⟨(some 30), none, (.ld 1 false (.t 29))⟩, ⟨(some 31), none, (.mv (.t 1))⟩, ⟨(some 32), none,
  (.bin .sub .int (.t 30) (.t 31))⟩, ⟨(some 33), none, (.mm true [(.t 28), (.t 32)])⟩, ⟨(some 34), none, (.call 55 [(.t 24), (.t 33)])⟩, ⟨(some 22), none, (.mv (.t 34))⟩, ⟨(some
  35), none, (.ext (.t 22) 0)⟩, ⟨(some 36), none, (.ext (.t 22) 1)⟩, ⟨(some 9), none, (.mv (.t 35))⟩, ⟨(some 10), none, (.mv (.t 36))⟩]) (.seq (.block 2 (.seq (.reg 7 [⟨(some 38),
  none, (.mv (.t 1))⟩, ⟨(some 39), none, (.fa 0 (.t 8))⟩, ⟨(some 40), none, (.ld 1 false (.t 39))⟩, ⟨(some 41), none, (.bin .lss .int (.t 38) (.t 40))⟩, ⟨(some 37), none, (.mv (.t
  41))⟩]) (.cond (.t 37) (.reg 8 [⟨(some 42), none, (.mv (.t 10))⟩, ⟨(some 43), none, (.un .neg (.t 42))⟩, ⟨(some 44), none, (.mv (.t 9))⟩, ⟨(some 45), none, (.un .neg (.t 44))⟩,
  ⟨(some 9), none, (.mv (.t 43))⟩, ⟨(some 10), none, (.mv (.t 45))⟩]) (.seq (.reg 9 [⟨(some 47), none, (.mv (.t 1))⟩, ⟨(some 48), none, (.fa 0 (.t 8))⟩, ⟨(some 49), none, (.ld 1
  false (.t 48))⟩, ⟨(some 50), none, (.bin .eql .int (.t 47) (.t 49))⟩, ⟨(some 46), none, (.mv (.t 50))⟩]) (.cond (.t 46) (.reg 10 [⟨(some 51), none, (.mv (.t 10))⟩, ⟨(some 52),
  none, (.un .neg (.t 51))⟩, ⟨(some 9), none, (.mv (.t 52))⟩]) .nop))))) (.reg 11 [⟨(some 53), none, (.mv (.t 6))⟩, ⟨(some 54), none, (.fa 1 (.t 8))⟩, ⟨(some 55), none, (.ld 1
  false (.t 54))⟩, ⟨(some 56), none, (.mv (.t 9))⟩, ⟨(some 57), none, (.bin .add .int (.t 55) (.t 56))⟩, ⟨(some 58), none, (.fa 2 (.t 8))⟩, ⟨(some 59), none, (.ld 1 false (.t
  58))⟩, ⟨(some 60), none, (.mv (.t 10))⟩, ⟨(some 61), none, (.bin .add .int (.t 59) (.t 60))⟩, ⟨(some 62), none, (.cv (.t 53) [(.t 57), (.t 61)])⟩]))))) (.reg 12 [⟨(some 63),
  none, (.bin .add .int (.t 18) (.k (.v (.int .i64 1))))⟩, ⟨(some 18), none, (.mv (.t 63))⟩]))))))) (.seq (.reg 13 [⟨(some 64), none, (.mv (.t 5))⟩, ⟨(some 65), none, (.nilc (.t
  64))⟩, ⟨(some 66), none, (.ld 2 true (.t 65))⟩, ⟨none, none, (.st 2 (.t 4) (.t 66))⟩]) .ret)))))
def rv46 : List RV := [(.c 4 2 true)]
theorem ok46 : cFun Try.prog Try.f46 = some (ac46, rv46) := by kernel_rfl
theorem nt46 : Try.f46.ntmps = 67 := by kernel_rfl
theorem of46 : okF Try.prog 46 := ⟨Try.f46, Try.func46, by kernel_rfl, by kernel_rfl⟩

/- putlog/putlogref05.pick -/
def ac47 : AC := (.seq (.reg 0 [⟨(some 4), none, (.mv (.k (.v (.int .i64 0))))⟩]) (.seq (.seq (.reg 1 [⟨(some 5), none, (.mv (.t 0))⟩, ⟨(some 6), none, (.bin .lss .int (.t 5) (.k (.v (.int .i64
  0))))⟩]) (.cond (.t 6) (.reg 2 [⟨(some 7), none, (.mv (.t 0))⟩, ⟨(some 8), none, (.bin .add .int (.t 7) (.k (.v (.int .i64 1))))⟩, ⟨(some 9), none, (.un .neg (.t 8))⟩, ⟨(some 0),
  none, (.mv (.t 9))⟩]) .nop)) (.seq (.reg 3 [⟨(some 10), none, (.mv (.t 0))⟩, ⟨(some 11), none, (.mv (.t 1))⟩, ⟨(some 12), none, (.bin .rem .int (.t 10) (.t 11))⟩, ⟨(some 4),
  none, (.mv (.t 12))⟩]) .ret)))
def rv47 : List RV := [(.t 4)]
theorem ok47 : cFun Try.prog Try.f47 = some (ac47, rv47) := by kernel_rfl
theorem nt47 : Try.f47.ntmps = 13 := by kernel_rfl
theorem of47 : okF Try.prog 47 := ⟨Try.f47, Try.func47, by kernel_rfl, by kernel_rfl⟩

/- putlog/putlogref05.At -/
def ac48 : AC := (.seq (.reg 0 [⟨(some 2), none, (.box 2 (.t 0))⟩, ⟨(some 4), none, (.mv (.k (.v (.int .i64 0))))⟩, ⟨(some 5), none, (.mv (.k (.v (.int .i64 0))))⟩, ⟨(some 6), none, (.mv (.k (.v
  (.int .i64 0))))⟩]) (.seq (.seq (.reg 1 [⟨(some 9), none, (.ld 2 true (.t 2))⟩, ⟨(some 10), none, (.call 39 [(.t 9)])⟩, ⟨(some 11), none, (.un .not (.t 10))⟩, ⟨(some 12), none,
  (.mv (.t 11))⟩, ⟨(some 13), (some (12, false)), (.mv (.t 1))⟩, ⟨(some 14), (some (12, false)), (.bin .lss .int (.t 13) (.k (.v (.int .i64 0))))⟩, ⟨(some 15), none, (.pick (.t 12)
  (.k (.v (.bool true))) (.t 14))⟩, ⟨(some 16), none, (.mv (.t 15))⟩, ⟨(some 17), (some (16, false)), (.mv (.t 1))⟩, ⟨(some 18), (some (16, false)), (.bin .gtr .int (.t 17) (.k (.v
  (.int .i64 10000000))))⟩, ⟨(some 19), none, (.pick (.t 16) (.k (.v (.bool true))) (.t 18))⟩]) (.cond (.t 19) (.seq (.reg 2 [⟨(some 4), none, (.mv (.k (.v (.int .i64 0))))⟩,
  ⟨(some 5), none, (.mv (.k (.v (.int .i64 0))))⟩, ⟨(some 6), none, (.mv (.k (.v (.int .i64 50))))⟩]) .ret) .nop)) (.seq (.reg 3 [⟨(some 21), none, (.ld 2 true (.t 2))⟩, ⟨(some
  22), none, (.mv (.t 1))⟩, ⟨(some 23), none, (.call 56 [(.t 21), (.t 22)])⟩, ⟨(some 20), none, (.mv (.t 23))⟩, ⟨(some 24), none, (.ext (.t 20) 0)⟩, ⟨(some 25), none, (.ext (.t 20)
  1)⟩, ⟨(some 7), none, (.mv (.t 24))⟩, ⟨(some 8), none, (.mv (.t 25))⟩]) (.seq (.seq (.reg 4 [⟨(some 26), none, (.mv (.t 7))⟩, ⟨(some 27), none, (.mv (.t 8))⟩, ⟨(some 28), none,
  (.bin .gtr .int (.t 26) (.t 27))⟩]) (.cond (.t 28) (.seq (.reg 5 [⟨(some 4), none, (.mv (.k (.v (.int .i64 0))))⟩, ⟨(some 5), none, (.mv (.k (.v (.int .i64 0))))⟩, ⟨(some 6),
  none, (.mv (.k (.v (.int .i64 50))))⟩]) .ret) .nop)) (.seq (.reg 6 [⟨(some 29), none, (.mv (.t 7))⟩, ⟨(some 30), none, (.mv (.t 8))⟩, ⟨(some 4), none, (.mv (.t 29))⟩, ⟨(some 5),
  none, (.mv (.t 30))⟩, ⟨(some 6), none, (.mv (.k (.v (.int .i64 0))))⟩]) .ret)))))
def rv48 : List RV := [(.t 4), (.t 5), (.t 6)]
theorem ok48 : cFun Try.prog Try.f48 = some (ac48, rv48) := by kernel_rfl
theorem nt48 : Try.f48.ntmps = 31 := by kernel_rfl
theorem of48 : okF Try.prog 48 := ⟨Try.f48, Try.func48, by kernel_rfl, by kernel_rfl⟩

/- putlog/monitor.counted$1 -/
def ac49 : AC := (.seq (.reg 0 [⟨(some 8), none, (.fa 4 (.t 1))⟩, ⟨(some 9), none, (.ld 1 false (.t 8))⟩, ⟨(some 10), none, (.len (.t 9))⟩, ⟨(some 11), none, (.mv (.k (.v (.int .i64 0))))⟩])
  (.block 0 (.loop (.seq (.reg 1 [⟨(some 12), none, (.bin .lss .int (.t 11) (.t 10))⟩]) (.seq (.cond (.t 12) .nop (.exit 0)) (.seq (.block 1 (.seq (.reg 2 [⟨(some 13), none, (.mv
  (.t 11))⟩, ⟨(some 14), none, (.ia 2 (.t 9) (.t 11))⟩, ⟨(some 15), none, (.ld 2 true (.t 14))⟩, ⟨(some 4), none, (.alloc [(.v (.int .i64 0)), (.v (.int .i64 0))])⟩, ⟨(some 3),
  none, (.mv (.t 13))⟩, ⟨none, none, (.st 2 (.t 4) (.t 15))⟩]) (.seq (.reg 3 [⟨(some 17), none, (.fa 0 (.t 1))⟩, ⟨(some 18), none, (.ld 2 true (.t 17))⟩, ⟨(some 19), none, (.fa 0
  (.t 4))⟩, ⟨(some 20), none, (.ld 1 false (.t 19))⟩, ⟨(some 21), none, (.call 29 [(.t 18), (.t 20)])⟩, ⟨(some 16), none, (.mv (.t 21))⟩, ⟨(some 22), none, (.ext (.t 16) 0)⟩,
  ⟨(some 23), none, (.ext (.t 16) 1)⟩, ⟨(some 24), none, (.ext (.t 16) 2)⟩, ⟨(some 5), none, (.mv (.t 22))⟩, ⟨(some 6), none, (.mv (.t 23))⟩, ⟨(some 7), none, (.mv (.t 24))⟩])
  (.seq (.reg 4 [⟨(some 25), none, (.mv (.t 7))⟩, ⟨(some 26), none, (.bin .eql .int (.t 25) (.k (.v (.int .i64 0))))⟩, ⟨(some 27), none, (.mv (.t 26))⟩, ⟨(some 28), (some (27,
  true)), (.mv (.t 0))⟩, ⟨(some 29), (some (27, true)), (.mv (.t 3))⟩, ⟨(some 30), (some (27, true)), (.fa 1 (.t 4))⟩, ⟨(some 31), (some (27, true)), (.ld 1 false (.t 30))⟩, ⟨(some
  32), (some (27, true)), (.fa 2 (.t 1))⟩, ⟨(some 33), (some (27, true)), (.ld 1 false (.t 32))⟩, ⟨(some 34), (some (27, true)), (.bin .sub .int (.t 31) (.t 33))⟩, ⟨(some 35),
  (some (27, true)), (.fa 1 (.t 4))⟩, ⟨(some 36), (some (27, true)), (.ld 1 false (.t 35))⟩, ⟨(some 37), (some (27, true)), (.fa 2 (.t 1))⟩, ⟨(some 38), (some (27, true)), (.ld 1
  false (.t 37))⟩, ⟨(some 39), (some (27, true)), (.bin .add .int (.t 36) (.t 38))⟩, ⟨(some 40), (some (27, true)), (.mv (.t 5))⟩, ⟨(some 41), (some (27, true)), (.mv (.t 6))⟩,
  ⟨(some 42), (some (27, true)), (.build [(.v (.int .i64 0)), (.v (.int .i64 0)), (.v (.int .i64 0)), (.v (.int .i64 0)), (.v (.int .i64 0))] [(0, 1, (.t 29)), (1, 1, (.t 34)), (2,
  1, (.t 39)), (3, 1, (.t 40)), (4, 1, (.t 41))])⟩, ⟨(some 43), (some (27, true)), (.cv (.t 28) [(.t 42)])⟩, ⟨(some 44), (some (27, true)), (.un .not (.t 43))⟩, ⟨(some 45), none,
  (.pick (.t 27) (.t 44) (.k (.v (.bool false))))⟩]) (.cond (.t 45) .ret .nop))))) (.reg 5 [⟨(some 46), none, (.bin .add .int (.t 11) (.k (.v (.int .i64 1))))⟩, ⟨(some 11), none,
  (.mv (.t 46))⟩])))))))
def rv49 : List RV := []
theorem ok49 : cFun Try.prog Try.f49 = some (ac49, rv49) := by kernel_rfl
theorem nt49 : Try.f49.ntmps = 47 := by kernel_rfl
theorem of49 : okF Try.prog 49 := ⟨Try.f49, Try.func49, by kernel_rfl, by kernel_rfl⟩

/- putlog/monitor.folded putlog/monitor.bounds putlog/monitor.fact  -/
def ac50 : AC := (.seq (.reg 0 [⟨(some 3), none, (.box 4 (.t 0))⟩, ⟨(some 5), none, (.box 1 (.t 2))⟩, ⟨(some 6), none, (.alloc [(.v (.int .i64 0)), (.v (.int .i64 0)), (.v (.int .i64 0)), (.v (.int
  .i64 0))])⟩]) (.seq (.seq (.reg 1 [⟨(some 8), none, (.mv (.t 1))⟩]) (.block 0 (.rfun (.t 8) [9] (.reg 2 [⟨(some 7), none, (.alloc [(.v (.int .i64 0)), (.v (.int .i64 0)), (.v
  (.int .i64 0)), (.v (.int .i64 0)), (.v (.int .i64 0))])⟩, ⟨none, none, (.st 5 (.t 7) (.t 9))⟩]) (.block 1 (.reg 3 [⟨(some 10), none, (.ld 1 false (.t 5))⟩, ⟨(some 11), none,
  (.ld 4 true (.t 3))⟩, ⟨(some 12), none, (.ld 5 true (.t 7))⟩, ⟨(some 13), none, (.cv (.t 10) [(.t 11), (.t 12)])⟩, ⟨none, none, (.st 4 (.t 3) (.t 13))⟩]))))) (.seq (.reg 4
  [⟨(some 14), none, (.ld 4 true (.t 3))⟩, ⟨none, none, (.st 4 (.t 6) (.t 14))⟩]) .ret)))
def rv50 : List RV := [(.c 6 4 true)]
theorem ok50 : cFun Try.prog Try.f50 = some (ac50, rv50) := by kernel_rfl
theorem nt50 : Try.f50.ntmps = 15 := by kernel_rfl
theorem of50 : okF Try.prog 50 := ⟨Try.f50, Try.func50, by kernel_rfl, by kernel_rfl⟩

/- putlog/monitor.everything -/
def ac51 : AC := (.seq (.reg 0 [⟨(some 0), none, (.alloc [(.v (.int .i64 0)), (.v (.int .i64 0)), (.v (.int .i64 0)), (.v (.int .i64 0))])⟩]) (.seq (.reg 1 [⟨(some 1), none, (.build [(.v (.int .i64
  0)), (.v (.int .i64 0)), (.v (.int .i64 0)), (.v (.int .i64 0))] [(0, 1, (.k (.v (.int .i64 (-1000000))))), (1, 1, (.k (.v (.int .i64 1000000)))), (2, 1, (.k (.v (.int .i64
  (-1))))), (3, 1, (.k (.v (.int .i64 (-1)))))])⟩, ⟨none, none, (.st 4 (.t 0) (.t 1))⟩]) .ret))
def rv51 : List RV := [(.c 0 4 true)]
theorem ok51 : cFun Try.prog Try.f51 = some (ac51, rv51) := by kernel_rfl
theorem nt51 : Try.f51.ntmps = 2 := by kernel_rfl
theorem of51 : okF Try.prog 51 := ⟨Try.f51, Try.func51, by kernel_rfl, by kernel_rfl⟩

/- putlog/monitor.look$1 -/
def ac52 : AC := (.seq (.reg 0 [⟨(some 4), none, (.box 4 (.t 0))⟩, ⟨(some 5), none, (.box 5 (.t 1))⟩, ⟨(some 6), none, (.alloc [(.v (.int .i64 0)), (.v (.int .i64 0)), (.v (.int .i64 0)), (.v (.int
  .i64 0))])⟩]) (.seq (.reg 1 [⟨(some 10), none, (.ld 5 true (.t 5))⟩, ⟨(some 11), none, (.ld 1 false (.t 2))⟩, ⟨(some 12), none, (.ld 1 false (.t 3))⟩, ⟨(some 13), none, (.call 53
  [(.t 10), (.t 11), (.t 12)])⟩, ⟨(some 9), none, (.mv (.t 13))⟩, ⟨(some 14), none, (.ext (.t 9) 0)⟩, ⟨(some 15), none, (.ext (.t 9) 1)⟩, ⟨(some 7), none, (.mv (.t 14))⟩, ⟨(some
  8), none, (.mv (.t 15))⟩]) (.seq (.seq (.reg 2 [⟨(some 16), none, (.mv (.t 7))⟩, ⟨(some 17), none, (.fa 0 (.t 4))⟩, ⟨(some 18), none, (.ld 1 false (.t 17))⟩, ⟨(some 19), none,
  (.bin .gtr .int (.t 16) (.t 18))⟩, ⟨(some 20), none, (.mv (.t 19))⟩, ⟨(some 21), (some (20, false)), (.mv (.t 7))⟩, ⟨(some 22), (some (20, false)), (.fa 0 (.t 4))⟩, ⟨(some 23),
  (some (20, false)), (.ld 1 false (.t 22))⟩, ⟨(some 24), (some (20, false)), (.bin .eql .int (.t 21) (.t 23))⟩, ⟨(some 25), (some (20, false)), (.mv (.t 24))⟩, ⟨(some 26), (some
  (25, true)), (.fa 2 (.t 4))⟩, ⟨(some 27), (some (25, true)), (.ld 1 false (.t 26))⟩, ⟨(some 28), (some (25, true)), (.bin .lss .int (.t 27) (.k (.v (.int .i64 0))))⟩, ⟨(some 29),
  (some (20, false)), (.pick (.t 25) (.t 28) (.k (.v (.bool false))))⟩, ⟨(some 30), none, (.pick (.t 20) (.k (.v (.bool true))) (.t 29))⟩]) (.cond (.t 30) (.drw 3 [⟨(some 31),
  none, (.mv (.t 7))⟩, ⟨(some 32), none, (.fa 0 (.t 5))⟩, ⟨(some 33), none, (.ld 1 false (.t 32))⟩, ⟨(some 34), none, (.fa 0 (.t 4))⟩, ⟨none, none, (.st 1 (.t 34) (.t 31))⟩, ⟨(some
  35), none, (.fa 2 (.t 4))⟩, ⟨none, none, (.st 1 (.t 35) (.t 33))⟩] [(2, 4)]) .nop)) (.seq (.seq (.reg 4 [⟨(some 36), none, (.mv (.t 8))⟩, ⟨(some 37), none, (.fa 1 (.t 4))⟩,
  ⟨(some 38), none, (.ld 1 false (.t 37))⟩, ⟨(some 39), none, (.bin .lss .int (.t 36) (.t 38))⟩, ⟨(some 40), none, (.mv (.t 39))⟩, ⟨(some 41), (some (40, false)), (.mv (.t 8))⟩,
  ⟨(some 42), (some (40, false)), (.fa 1 (.t 4))⟩, ⟨(some 43), (some (40, false)), (.ld 1 false (.t 42))⟩, ⟨(some 44), (some (40, false)), (.bin .eql .int (.t 41) (.t 43))⟩, ⟨(some
  45), (some (40, false)), (.mv (.t 44))⟩, ⟨(some 46), (some (45, true)), (.fa 3 (.t 4))⟩, ⟨(some 47), (some (45, true)), (.ld 1 false (.t 46))⟩, ⟨(some 48), (some (45, true)),
  (.bin .lss .int (.t 47) (.k (.v (.int .i64 0))))⟩, ⟨(some 49), (some (40, false)), (.pick (.t 45) (.t 48) (.k (.v (.bool false))))⟩, ⟨(some 50), none, (.pick (.t 40) (.k (.v
  (.bool true))) (.t 49))⟩]) (.cond (.t 50) (.drw 5 [⟨(some 51), none, (.mv (.t 8))⟩, ⟨(some 52), none, (.fa 0 (.t 5))⟩, ⟨(some 53), none, (.ld 1 false (.t 52))⟩, ⟨(some 54), none,
  (.fa 1 (.t 4))⟩, ⟨none, none, (.st 1 (.t 54) (.t 51))⟩, ⟨(some 55), none, (.fa 3 (.t 4))⟩, ⟨none, none, (.st 1 (.t 55) (.t 53))⟩] [(2, 4)]) .nop)) (.seq (.reg 6 [⟨(some 56),
  none, (.ld 4 true (.t 4))⟩, ⟨none, none, (.st 4 (.t 6) (.t 56))⟩]) .ret)))))
def rv52 : List RV := [(.c 6 4 true)]
theorem ok52 : cFun Try.prog Try.f52 = some (ac52, rv52) := by kernel_rfl
theorem nt52 : Try.f52.ntmps = 57 := by kernel_rfl
theorem of52 : okF Try.prog 52 := ⟨Try.f52, Try.func52, by kernel_rfl, by kernel_rfl⟩

/- (putlog/monitor.fact).at -/
def ac53 : AC := (.seq (.reg 0 [⟨(some 3), none, (.box 5 (.t 0))⟩, ⟨(some 6), none, (.mv (.k (.v (.int .i64 0))))⟩, ⟨(some 7), none, (.mv (.k (.v (.int .i64 0))))⟩]) (.seq (.reg 1 [⟨(some 9), none,
  (.mv (.t 1))⟩, ⟨(some 10), none, (.mv (.t 2))⟩, ⟨(some 11), none, (.fa 3 (.t 3))⟩, ⟨(some 12), none, (.ld 1 false (.t 11))⟩, ⟨(some 13), none, (.bin .sub .int (.t 10) (.t 12))⟩,
  ⟨(some 14), none, (.fa 4 (.t 3))⟩, ⟨(some 15), none, (.ld 1 false (.t 14))⟩, ⟨(some 16), none, (.mv (.t 2))⟩, ⟨(some 17), none, (.bin .sub .int (.t 15) (.t 16))⟩, ⟨(some 18),
  none, (.fa 3 (.t 3))⟩, ⟨(some 19), none, (.ld 1 false (.t 18))⟩, ⟨(some 20), none, (.mv (.t 2))⟩, ⟨(some 21), none, (.bin .sub .int (.t 19) (.t 20))⟩, ⟨(some 22), none, (.mv (.t
  2))⟩, ⟨(some 23), none, (.fa 4 (.t 3))⟩, ⟨(some 24), none, (.ld 1 false (.t 23))⟩, ⟨(some 25), none, (.bin .sub .int (.t 22) (.t 24))⟩, ⟨(some 26), none, (.mm true [(.t 13), (.t
  17), (.t 21), (.t 25)])⟩, ⟨(some 27), none, (.bin .mul .int (.t 9) (.t 26))⟩, ⟨(some 8), none, (.mv (.t 27))⟩]) (.seq (.drw 2 [⟨(some 28), none, (.fa 1 (.t 3))⟩, ⟨(some 29),
  none, (.ld 1 false (.t 28))⟩, ⟨(some 30), none, (.mv (.t 8))⟩, ⟨(some 31), none, (.bin .sub .int (.t 29) (.t 30))⟩, ⟨(some 32), none, (.fa 2 (.t 3))⟩, ⟨(some 33), none, (.ld 1
  false (.t 32))⟩, ⟨(some 34), none, (.mv (.t 8))⟩, ⟨(some 35), none, (.bin .add .int (.t 33) (.t 34))⟩, ⟨(some 6), none, (.mv (.t 31))⟩, ⟨(some 7), none, (.mv (.t 35))⟩] [])
  .ret)))
def rv53 : List RV := [(.t 6), (.t 7)]
theorem ok53 : cFun Try.prog Try.f53 = some (ac53, rv53) := by kernel_rfl
theorem nt53 : Try.f53.ntmps = 36 := by kernel_rfl
theorem of53 : okF Try.prog 53 := ⟨Try.f53, Try.func53, by kernel_rfl, by kernel_rfl⟩

/- (*putlog/clock.window).narrow -/
def ac54 : AC := (.drw 0 [⟨(some 6), none, (.mv (.t 0))⟩, ⟨(some 7), none, (.mv (.t 0))⟩, ⟨(some 8), none, (.mv (.t 0))⟩, ⟨(some 9), none, (.nilc (.t 8))⟩, ⟨(some 10), none, (.fa 0 (.t 9))⟩, ⟨(some
  11), none, (.ld 1 false (.t 10))⟩, ⟨(some 12), none, (.mv (.t 1))⟩, ⟨(some 13), none, (.mm true [(.t 11), (.t 12)])⟩, ⟨(some 14), none, (.mv (.t 0))⟩, ⟨(some 15), none, (.nilc
  (.t 14))⟩, ⟨(some 16), none, (.fa 1 (.t 15))⟩, ⟨(some 17), none, (.ld 1 false (.t 16))⟩, ⟨(some 18), none, (.mv (.t 2))⟩, ⟨(some 19), none, (.mm false [(.t 17), (.t 18)])⟩,
  ⟨(some 20), none, (.nilc (.t 6))⟩, ⟨(some 21), none, (.fa 0 (.t 20))⟩, ⟨none, none, (.st 1 (.t 21) (.t 13))⟩, ⟨(some 22), none, (.nilc (.t 7))⟩, ⟨(some 23), none, (.fa 1 (.t
  22))⟩, ⟨none, none, (.st 1 (.t 23) (.t 19))⟩] [])
def rv54 : List RV := []
theorem ok54 : cFun Try.prog Try.f54 = some (ac54, rv54) := by kernel_rfl
theorem nt54 : Try.f54.ntmps = 24 := by kernel_rfl
theorem of54 : okF Try.prog 54 := ⟨Try.f54, Try.func54, by kernel_rfl, by kernel_rfl⟩

/- putlog/clock.Spread -/
def ac55 : AC := (.seq (.reg 0 [⟨(some 4), none, (.mv (.k (.v (.int .i64 0))))⟩, ⟨(some 5), none, (.mv (.k (.v (.int .i64 0))))⟩]) (.seq (.seq (.reg 1 [⟨(some 7), none, (.mv (.t 0))⟩, ⟨(some 8),
  none, (.bin .lss .int (.t 7) (.k (.v (.int .i64 0))))⟩, ⟨(some 9), none, (.mv (.t 8))⟩, ⟨(some 10), (some (9, false)), (.mv (.t 0))⟩, ⟨(some 11), (some (9, false)), (.bin .gtr
  .int (.t 10) (.k (.v (.int .i64 100))))⟩, ⟨(some 12), none, (.pick (.t 9) (.k (.v (.bool true))) (.t 11))⟩, ⟨(some 13), none, (.mv (.t 12))⟩, ⟨(some 14), (some (13, false)), (.mv
  (.t 1))⟩, ⟨(some 15), (some (13, false)), (.bin .lss .int (.t 14) (.k (.v (.int .i64 0))))⟩, ⟨(some 16), none, (.pick (.t 13) (.k (.v (.bool true))) (.t 15))⟩, ⟨(some 17), none,
  (.mv (.t 16))⟩, ⟨(some 18), (some (17, false)), (.mv (.t 1))⟩, ⟨(some 19), (some (17, false)), (.bin .gtr .int (.t 18) (.k (.v (.int .i64 10000000))))⟩, ⟨(some 20), none, (.pick
  (.t 17) (.k (.v (.bool true))) (.t 19))⟩]) (.cond (.t 20) (.seq (.reg 2 [⟨(some 4), none, (.mv (.k (.v (.int .i64 0))))⟩, ⟨(some 5), none, (.mv (.k (.v (.int .i64 0))))⟩]) .ret)
  .nop)) (.seq (.reg 3 [⟨(some 6), none, (.mv (.k (.v (.int .i64 0))))⟩]) (.seq (.seq (.reg 4 [⟨(some 21), none, (.mv (.t 1))⟩, ⟨(some 22), none, (.bin .gtr .int (.t 21) (.k (.v
  (.int .i64 0))))⟩]) (.cond (.t 22) (.reg 5 [⟨(some 23), none, (.mv (.t 1))⟩, ⟨(some 24), none, (.bin .sub .int (.t 23) (.k (.v (.int .i64 1))))⟩, ⟨(some 25), none, (.bin .mul
  .int (.k (.v (.int .i64 1000))) (.t 24))⟩, ⟨(some 26), none, (.mv (.t 0))⟩, ⟨(some 27), none, (.bin .add .int (.k (.v (.int .i64 1000))) (.t 26))⟩, ⟨(some 28), none, (.bin .quo
  .int (.t 25) (.t 27))⟩, ⟨(some 29), none, (.bin .add .int (.t 28) (.k (.v (.int .i64 1))))⟩, ⟨(some 6), none, (.mv (.t 29))⟩]) .nop)) (.seq (.drw 6 [⟨(some 30), none, (.mv (.t
  6))⟩, ⟨(some 31), none, (.mv (.t 1))⟩, ⟨(some 32), none, (.bin .add .int (.t 31) (.k (.v (.int .i64 1))))⟩, ⟨(some 33), none, (.bin .mul .int (.k (.v (.int .i64 1000))) (.t
  32))⟩, ⟨(some 34), none, (.bin .sub .int (.t 33) (.k (.v (.int .i64 1))))⟩, ⟨(some 35), none, (.mv (.t 0))⟩, ⟨(some 36), none, (.bin .sub .int (.k (.v (.int .i64 1000))) (.t
  35))⟩, ⟨(some 37), none, (.bin .quo .int (.t 34) (.t 36))⟩, ⟨(some 4), none, (.mv (.t 30))⟩, ⟨(some 5), none, (.mv (.t 37))⟩] []) .ret)))))
def rv55 : List RV := [(.t 4), (.t 5)]
theorem ok55 : cFun Try.prog Try.f55 = some (ac55, rv55) := by kernel_rfl
theorem nt55 : Try.f55.ntmps = 38 := by kernel_rfl
theorem of55 : okF Try.prog 55 := ⟨Try.f55, Try.func55, by kernel_rfl, by kernel_rfl⟩

/- putlog/putlogref05.bounds -/
def ac56 : AC := (.seq (.reg 0 [⟨(some 2), none, (.box 2 (.t 0))⟩, ⟨(some 4), none, (.mv (.k (.v (.int .i64 0))))⟩, ⟨(some 5), none, (.mv (.k (.v (.int .i64 0))))⟩]) (.seq (.reg 1 [⟨(some 6), none,
  (.mv (.k (.v (.int .i64 0))))⟩]) (.seq (.reg 2 [⟨(some 7), none, (.mv (.k (.v (.int .i64 10000000))))⟩]) (.seq (.seq (.reg 3 [⟨(some 8), none, (.mv (.k (.v (.int .i64 0))))⟩])
  (.block 0 (.loop (.seq (.seq (.reg 4 [⟨(some 16), none, (.mv (.t 8))⟩, ⟨(some 17), none, (.fa 1 (.t 2))⟩, ⟨(some 18), none, (.ld 1 false (.t 17))⟩, ⟨(some 19), none, (.len (.t
  18))⟩, ⟨(some 20), none, (.bin .lss .int (.t 16) (.t 19))⟩]) (.cond (.t 20) .nop (.exit 0))) (.seq (.block 1 (.seq (.reg 6 [⟨(some 23), none, (.fa 1 (.t 2))⟩, ⟨(some 24), none,
  (.ld 1 false (.t 23))⟩, ⟨(some 25), none, (.mv (.t 8))⟩, ⟨(some 26), none, (.ia 3 (.t 24) (.t 25))⟩, ⟨(some 27), none, (.ld 3 true (.t 26))⟩, ⟨(some 9), none, (.alloc [(.v (.int
  .i64 0)), (.v (.int .i64 0)), (.v (.int .i64 0))])⟩, ⟨none, none, (.st 3 (.t 9) (.t 27))⟩]) (.seq (.reg 7 [⟨(some 28), none, (.mv (.t 1))⟩, ⟨(some 29), none, (.fa 0 (.t 9))⟩,
  ⟨(some 30), none, (.ld 1 false (.t 29))⟩, ⟨(some 31), none, (.bin .eql .int (.t 28) (.t 30))⟩]) (.cond (.t 31) (.seq (.reg 8 [⟨(some 33), none, (.fa 0 (.t 2))⟩, ⟨(some 34), none,
  (.ld 1 false (.t 33))⟩, ⟨(some 35), none, (.call 57 [(.t 34), (.k (.v (.int .i64 0)))])⟩, ⟨(some 32), none, (.mv (.t 35))⟩, ⟨(some 36), none, (.ext (.t 32) 0)⟩, ⟨(some 37), none,
  (.ext (.t 32) 1)⟩, ⟨(some 10), none, (.mv (.t 36))⟩, ⟨(some 11), none, (.mv (.t 37))⟩]) (.seq (.reg 9 [⟨(some 38), none, (.mv (.t 6))⟩, ⟨(some 39), none, (.fa 1 (.t 9))⟩, ⟨(some
  40), none, (.ld 1 false (.t 39))⟩, ⟨(some 41), none, (.mv (.t 11))⟩, ⟨(some 42), none, (.bin .sub .int (.t 40) (.t 41))⟩, ⟨(some 43), none, (.mm true [(.t 38), (.t 42)])⟩, ⟨(some
  6), none, (.mv (.t 43))⟩]) (.reg 10 [⟨(some 44), none, (.mv (.t 7))⟩, ⟨(some 45), none, (.fa 2 (.t 9))⟩, ⟨(some 46), none, (.ld 1 false (.t 45))⟩, ⟨(some 47), none, (.mv (.t
  11))⟩, ⟨(some 48), none, (.bin .add .int (.t 46) (.t 47))⟩, ⟨(some 49), none, (.mm false [(.t 44), (.t 48)])⟩, ⟨(some 7), none, (.mv (.t 49))⟩]))) (.seq (.reg 11 [⟨(some 50),
  none, (.mv (.t 1))⟩, ⟨(some 51), none, (.fa 0 (.t 9))⟩, ⟨(some 52), none, (.ld 1 false (.t 51))⟩, ⟨(some 53), none, (.bin .gtr .int (.t 50) (.t 52))⟩]) (.cond (.t 53) (.seq (.reg
  12 [⟨(some 55), none, (.fa 0 (.t 2))⟩, ⟨(some 56), none, (.ld 1 false (.t 55))⟩, ⟨(some 57), none, (.mv (.t 1))⟩, ⟨(some 58), none, (.fa 0 (.t 9))⟩, ⟨(some 59), none, (.ld 1
  false (.t 58))⟩, ⟨(some 60), none, (.bin .sub .int (.t 57) (.t 59))⟩, ⟨(some 61), none, (.call 57 [(.t 56), (.t 60)])⟩, ⟨(some 54), none, (.mv (.t 61))⟩, ⟨(some 62), none, (.ext
  (.t 54) 0)⟩, ⟨(some 63), none, (.ext (.t 54) 1)⟩, ⟨(some 12), none, (.mv (.t 62))⟩, ⟨(some 13), none, (.mv (.t 63))⟩]) (.seq (.reg 13 [⟨(some 64), none, (.mv (.t 6))⟩, ⟨(some
  65), none, (.fa 1 (.t 9))⟩, ⟨(some 66), none, (.ld 1 false (.t 65))⟩, ⟨(some 67), none, (.mv (.t 12))⟩, ⟨(some 68), none, (.bin .add .int (.t 66) (.t 67))⟩, ⟨(some 69), none,
  (.mm true [(.t 64), (.t 68)])⟩, ⟨(some 6), none, (.mv (.t 69))⟩]) (.reg 14 [⟨(some 70), none, (.mv (.t 7))⟩, ⟨(some 71), none, (.fa 2 (.t 9))⟩, ⟨(some 72), none, (.ld 1 false (.t
  71))⟩, ⟨(some 73), none, (.mv (.t 13))⟩, ⟨(some 74), none, (.bin .add .int (.t 72) (.t 73))⟩, ⟨(some 75), none, (.mm false [(.t 70), (.t 74)])⟩, ⟨(some 7), none, (.mv (.t
  75))⟩]))) (.seq (.reg 15 [⟨(some 77), none, (.fa 0 (.t 2))⟩, ⟨(some 78), none, (.ld 1 false (.t 77))⟩, ⟨(some 79), none, (.fa 0 (.t 9))⟩, ⟨(some 80), none, (.ld 1 false (.t
  79))⟩, ⟨(some 81), none, (.mv (.t 1))⟩, ⟨(some 82), none, (.bin .sub .int (.t 80) (.t 81))⟩, ⟨(some 83), none, (.call 57 [(.t 78), (.t 82)])⟩, ⟨(some 76), none, (.mv (.t 83))⟩,
  ⟨(some 84), none, (.ext (.t 76) 0)⟩, ⟨(some 85), none, (.ext (.t 76) 1)⟩, ⟨(some 14), none, (.mv (.t 84))⟩, ⟨(some 15), none, (.mv (.t 85))⟩]) (.seq (.reg 16 [⟨(some 86), none,
  (.mv (.t 6))⟩, ⟨(some 87), none, (.fa 1 (.t 9))⟩, ⟨(some 88), none, (.ld 1 false (.t 87))⟩, ⟨(some 89), none, (.mv (.t 15))⟩, ⟨(some 90), none, (.bin .sub .int (.t 88) (.t 89))⟩,
  ⟨(some 91), none, (.mm true [(.t 86), (.t 90)])⟩, ⟨(some 6), none, (.mv (.t 91))⟩]) (.reg 17 [⟨(some 92), none, (.mv (.t 7))⟩, ⟨(some 93), none, (.fa 2 (.t 9))⟩, ⟨(some 94),
  none, (.ld 1 false (.t 93))⟩, ⟨(some 95), none, (.mv (.t 14))⟩, ⟨(some 96), none, (.bin .sub .int (.t 94) (.t 95))⟩, ⟨(some 97), none, (.mm false [(.t 92), (.t 96)])⟩, ⟨(some 7),
  none, (.mv (.t 97))⟩]))))))))) (.reg 5 [⟨(some 21), none, (.mv (.t 8))⟩, ⟨(some 22), none, (.bin .add .int (.t 21) (.k (.v (.int .i64 1))))⟩, ⟨(some 8), none, (.mv (.t
  22))⟩])))))) (.seq (.reg 18 [⟨(some 98), none, (.mv (.t 6))⟩, ⟨(some 99), none, (.mv (.t 7))⟩, ⟨(some 4), none, (.mv (.t 98))⟩, ⟨(some 5), none, (.mv (.t 99))⟩]) .ret)))))
def rv56 : List RV := [(.t 4), (.t 5)]
theorem ok56 : cFun Try.prog Try.f56 = some (ac56, rv56) := by kernel_rfl
theorem nt56 : Try.f56.ntmps = 100 := by kernel_rfl
theorem of56 : okF Try.prog 56 := ⟨Try.f56, Try.func56, by kernel_rfl, by kernel_rfl⟩

/- putlog/putlogref05.Spread -/
def ac57 : AC := (.seq (.reg 0 [⟨(some 4), none, (.mv (.k (.v (.int .i64 0))))⟩, ⟨(some 5), none, (.mv (.k (.v (.int .i64 0))))⟩]) (.seq (.seq (.reg 1 [⟨(some 8), none, (.mv (.t 0))⟩, ⟨(some 9),
  none, (.bin .lss .int (.t 8) (.k (.v (.int .i64 0))))⟩, ⟨(some 10), none, (.mv (.t 9))⟩, ⟨(some 11), (some (10, false)), (.mv (.t 0))⟩, ⟨(some 12), (some (10, false)), (.bin .gtr
  .int (.t 11) (.k (.v (.int .i64 100))))⟩, ⟨(some 13), none, (.pick (.t 10) (.k (.v (.bool true))) (.t 12))⟩, ⟨(some 14), none, (.mv (.t 13))⟩, ⟨(some 15), (some (14, false)),
  (.mv (.t 1))⟩, ⟨(some 16), (some (14, false)), (.bin .lss .int (.t 15) (.k (.v (.int .i64 0))))⟩, ⟨(some 17), none, (.pick (.t 14) (.k (.v (.bool true))) (.t 16))⟩, ⟨(some 18),
  none, (.mv (.t 17))⟩, ⟨(some 19), (some (18, false)), (.mv (.t 1))⟩, ⟨(some 20), (some (18, false)), (.bin .gtr .int (.t 19) (.k (.v (.int .i64 10000000))))⟩, ⟨(some 21), none,
  (.pick (.t 18) (.k (.v (.bool true))) (.t 20))⟩]) (.cond (.t 21) (.seq (.reg 2 [⟨(some 4), none, (.mv (.k (.v (.int .i64 0))))⟩, ⟨(some 5), none, (.mv (.k (.v (.int .i64 0))))⟩])
  .ret) .nop)) (.seq (.reg 3 [⟨(some 22), none, (.mv (.t 1))⟩, ⟨(some 23), none, (.bin .sub .int (.t 22) (.k (.v (.int .i64 1))))⟩, ⟨(some 24), none, (.bin .mul .int (.k (.v (.int
  .i64 1000))) (.t 23))⟩, ⟨(some 25), none, (.mv (.t 0))⟩, ⟨(some 26), none, (.bin .add .int (.k (.v (.int .i64 1000))) (.t 25))⟩, ⟨(some 27), none, (.bin .quo .int (.t 24) (.t
  26))⟩, ⟨(some 28), none, (.bin .sub .int (.t 27) (.k (.v (.int .i64 1))))⟩, ⟨(some 29), none, (.mm true [(.t 28), (.k (.v (.int .i64 0)))])⟩, ⟨(some 6), none, (.mv (.t 29))⟩])
  (.seq (.block 0 (.loop (.seq (.seq (.reg 4 [⟨(some 30), none, (.mv (.t 0))⟩, ⟨(some 31), none, (.mv (.t 6))⟩, ⟨(some 32), none, (.mv (.t 1))⟩, ⟨(some 33), none, (.call 58 [(.t
  30), (.t 31), (.t 32)])⟩, ⟨(some 34), none, (.un .not (.t 33))⟩]) (.cond (.t 34) .nop (.exit 0))) (.block 1 (.reg 5 [⟨(some 35), none, (.mv (.t 6))⟩, ⟨(some 36), none, (.bin .add
  .int (.t 35) (.k (.v (.int .i64 1))))⟩, ⟨(some 6), none, (.mv (.t 36))⟩]))))) (.seq (.reg 6 [⟨(some 37), none, (.mv (.t 1))⟩, ⟨(some 38), none, (.bin .mul .int (.k (.v (.int .i64
  1000))) (.t 37))⟩, ⟨(some 39), none, (.mv (.t 0))⟩, ⟨(some 40), none, (.bin .sub .int (.k (.v (.int .i64 1000))) (.t 39))⟩, ⟨(some 41), none, (.bin .quo .int (.t 38) (.t 40))⟩,
  ⟨(some 42), none, (.bin .sub .int (.t 41) (.k (.v (.int .i64 1))))⟩, ⟨(some 43), none, (.mv (.t 6))⟩, ⟨(some 44), none, (.mm true [(.t 42), (.t 43)])⟩, ⟨(some 7), none, (.mv (.t
  44))⟩]) (.seq (.block 2 (.loop (.seq (.seq (.reg 7 [⟨(some 45), none, (.mv (.t 0))⟩, ⟨(some 46), none, (.mv (.t 7))⟩, ⟨(some 47), none, (.bin .add .int (.t 46) (.k (.v (.int .i64
  1))))⟩, ⟨(some 48), none, (.mv (.t 1))⟩, ⟨(some 49), none, (.call 58 [(.t 45), (.t 47), (.t 48)])⟩]) (.cond (.t 49) .nop (.exit 2))) (.block 3 (.reg 8 [⟨(some 50), none, (.mv (.t
  7))⟩, ⟨(some 51), none, (.bin .add .int (.t 50) (.k (.v (.int .i64 1))))⟩, ⟨(some 7), none, (.mv (.t 51))⟩]))))) (.seq (.reg 9 [⟨(some 52), none, (.mv (.t 6))⟩, ⟨(some 53), none,
  (.mv (.t 7))⟩, ⟨(some 4), none, (.mv (.t 52))⟩, ⟨(some 5), none, (.mv (.t 53))⟩]) .ret)))))))
def rv57 : List RV := [(.t 4), (.t 5)]
theorem ok57 : cFun Try.prog Try.f57 = some (ac57, rv57) := by kernel_rfl
theorem nt57 : Try.f57.ntmps = 54 := by kernel_rfl
theorem of57 : okF Try.prog 57 := ⟨Try.f57, Try.func57, by kernel_rfl, by kernel_rfl⟩

/- putlog/putlogref05.Fits -/
def ac58 : AC := (.seq (.reg 0 [⟨(some 6), none, (.mv (.k (.v (.bool false))))⟩]) (.seq (.reg 1 [⟨(some 7), none, (.mv (.t 0))⟩, ⟨(some 8), none, (.bin .sub .int (.k (.v (.int .i64 1000))) (.t
  7))⟩, ⟨(some 9), none, (.mv (.t 1))⟩, ⟨(some 10), none, (.bin .mul .int (.t 8) (.t 9))⟩, ⟨(some 11), none, (.bin .sub .int (.t 10) (.k (.v (.int .i64 1000))))⟩, ⟨(some 12), none,
  (.mv (.t 2))⟩, ⟨(some 13), none, (.bin .mul .int (.k (.v (.int .i64 1000))) (.t 12))⟩, ⟨(some 14), none, (.bin .lss .int (.t 11) (.t 13))⟩, ⟨(some 15), none, (.mv (.t 14))⟩,
  ⟨(some 16), (some (15, true)), (.mv (.t 2))⟩, ⟨(some 17), (some (15, true)), (.bin .mul .int (.k (.v (.int .i64 1000))) (.t 16))⟩, ⟨(some 18), (some (15, true)), (.mv (.t 0))⟩,
  ⟨(some 19), (some (15, true)), (.bin .add .int (.k (.v (.int .i64 1000))) (.t 18))⟩, ⟨(some 20), (some (15, true)), (.mv (.t 1))⟩, ⟨(some 21), (some (15, true)), (.bin .mul .int
  (.t 19) (.t 20))⟩, ⟨(some 22), (some (15, true)), (.bin .add .int (.t 21) (.k (.v (.int .i64 1000))))⟩, ⟨(some 23), (some (15, true)), (.bin .lss .int (.t 17) (.t 22))⟩, ⟨(some
  24), none, (.pick (.t 15) (.t 23) (.k (.v (.bool false))))⟩, ⟨(some 6), none, (.mv (.t 24))⟩]) .ret))
def rv58 : List RV := [(.t 6)]
theorem ok58 : cFun Try.prog Try.f58 = some (ac58, rv58) := by kernel_rfl
theorem nt58 : Try.f58.ntmps = 25 := by kernel_rfl
theorem of58 : okF Try.prog 58 := ⟨Try.f58, Try.func58, by kernel_rfl, by kernel_rfl⟩

end Go.Proofs.Ytmmfbjmjhjmccaa.Am
