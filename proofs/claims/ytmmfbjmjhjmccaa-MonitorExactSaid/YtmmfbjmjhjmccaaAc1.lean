/-
  What the machine makes of the functions: its own texts of them, and that they are that.
-/
import Derived.Test.YtmmfbjmjhjmccaaA5
import Derived.Test.YtmmfbjmjhjmccaaProg
namespace Go.Proofs.Ytmmfbjmjhjmccaa.Am
set_option linter.unusedSimpArgs false
set_option linter.unusedVariables false
open Go
set_option maxRecDepth 100000
/- gosem.cut.init -/
def ac2 : AC := (.reg 0 [⟨(some 0), none, (.call 1 [])⟩])
def rv2 : List RV := []
theorem ok2 : cFun Try.prog Try.f2 = some (ac2, rv2) := by kernel_rfl
theorem nt2 : Try.f2.ntmps = 1 := by kernel_rfl
theorem of2 : okF Try.prog 2 := ⟨Try.f2, Try.func2, by kernel_rfl, by kernel_rfl⟩

/- putlog/putloglaw24.MonitorMatchesReference -/
def ac3 : AC := (.seq (.reg 0 [⟨(some 7), none, (.box 9 (.t 0))⟩, ⟨(some 8), none, (.box 9 (.t 1))⟩, ⟨(some 9), none, (.box 3 (.t 2))⟩, ⟨(some 10), none, (.box 5 (.t 3))⟩, ⟨(some 13), none, (.box
  2 (.t 6))⟩, ⟨(some 14), none, (.mv (.k (.v (.bool false))))⟩]) (.seq (.reg 1 [⟨(some 50), none, (.call 11 [])⟩, ⟨(some 15), none, (.mv (.t 50))⟩]) (.seq (.seq (.reg 2 [⟨(some
  51), none, (.mv (.t 15))⟩, ⟨(some 52), none, (.un .not (.t 51))⟩]) (.cond (.t 52) (.seq (.reg 3 [⟨(some 14), none, (.mv (.k (.v (.bool false))))⟩]) .ret) .nop)) (.seq (.reg 4
  [⟨(some 53), none, (.fa 0 (.t 10))⟩, ⟨(some 54), none, (.fa 1 (.t 53))⟩, ⟨(some 55), none, (.ld 1 false (.t 54))⟩, ⟨(some 56), none, (.fa 0 (.t 10))⟩, ⟨(some 57), none, (.fa 1
  (.t 56))⟩, ⟨(some 58), none, (.ld 1 false (.t 57))⟩, ⟨(some 59), none, (.len (.t 58))⟩, ⟨(some 60), none, (.mm false [(.t 59), (.k (.v (.int .i64 13)))])⟩, ⟨(some 61), none,
  (.slc 3 (.t 55) none (some (.t 60)) none)⟩, ⟨(some 62), none, (.fa 0 (.t 10))⟩, ⟨(some 63), none, (.fa 1 (.t 62))⟩, ⟨none, none, (.st 1 (.t 63) (.t 61))⟩]) (.seq (.reg 5 [⟨(some
  64), none, (.fa 4 (.t 10))⟩, ⟨(some 65), none, (.ld 1 false (.t 64))⟩, ⟨(some 66), none, (.fa 4 (.t 10))⟩, ⟨(some 67), none, (.ld 1 false (.t 66))⟩, ⟨(some 68), none, (.len (.t
  67))⟩, ⟨(some 69), none, (.mm false [(.t 68), (.k (.v (.int .i64 25)))])⟩, ⟨(some 70), none, (.slc 2 (.t 65) none (some (.t 69)) none)⟩, ⟨(some 71), none, (.fa 4 (.t 10))⟩,
  ⟨none, none, (.st 1 (.t 71) (.t 70))⟩]) (.seq (.reg 6 [⟨(some 72), none, (.ld 9 true (.t 7))⟩, ⟨(some 73), none, (.call 12 [(.t 72)])⟩, ⟨(some 16), none, (.alloc [(.v (.int .i64
  0)), (.sl 0 true [] []), (.v (.int .i64 0)), (.v (.int .i64 0)), (.sl 0 true [] [])])⟩, ⟨none, none, (.st 5 (.t 16) (.t 73))⟩]) (.seq (.reg 7 [⟨(some 74), none, (.ld 9 true (.t
  8))⟩, ⟨(some 75), none, (.call 13 [(.t 74)])⟩, ⟨(some 17), none, (.alloc [(.v (.int .i64 0)), (.sl 0 true [] []), (.v (.int .i64 0)), (.v (.int .i64 0)), (.sl 0 true [] [])])⟩,
  ⟨none, none, (.st 5 (.t 17) (.t 75))⟩]) (.seq (.drw 8 [⟨(some 76), none, (.ld 5 true (.t 16))⟩, ⟨(some 77), none, (.ld 5 true (.t 17))⟩, ⟨(some 78), none, (.ld 5 true (.t 16))⟩,
  ⟨(some 79), none, (.iaA 3 1 (.t 9) (.k (.v (.int .i64 0))))⟩, ⟨(some 80), none, (.ld 1 false (.t 79))⟩, ⟨(some 81), none, (.iaA 3 1 (.t 9) (.k (.v (.int .i64 1))))⟩, ⟨(some 82),
  none, (.ld 1 false (.t 81))⟩, ⟨(some 83), none, (.iaA 3 1 (.t 9) (.k (.v (.int .i64 2))))⟩, ⟨(some 84), none, (.ld 1 false (.t 83))⟩, ⟨(some 85), none, (.call 14 [(.t 78), (.t
  80), (.t 82), (.t 84)])⟩, ⟨(some 86), none, (.ld 5 true (.t 10))⟩, ⟨(some 87), none, (.bsl 5 4 [(.v (.int .i64 0)), (.sl 0 true [] []), (.v (.int .i64 0)), (.v (.int .i64 0)),
  (.sl 0 true [] [])] [(0, (.t 76)), (1, (.t 77)), (2, (.t 85)), (3, (.t 86))])⟩, ⟨(some 18), none, (.mv (.t 87))⟩] [(0, 9), (1, 9), (9, 10)]) (.seq (.reg 9 [⟨(some 88), none, (.fa
  0 (.t 13))⟩, ⟨(some 89), none, (.ld 1 false (.t 88))⟩, ⟨(some 90), none, (.call 15 [(.t 89), (.k (.v (.int .i64 300)))])⟩, ⟨(some 91), none, (.build [(.v (.int .i64 0)), (.v
  (.int .i64 0))] [(0, 1, (.t 90))])⟩, ⟨(some 19), none, (.alloc [(.v (.int .i64 0)), (.v (.int .i64 0))])⟩, ⟨none, none, (.st 2 (.t 19) (.t 91))⟩]) (.seq (.drw 10 [⟨(some 92),
  none, (.fa 0 (.t 19))⟩, ⟨(some 93), none, (.ld 1 false (.t 92))⟩, ⟨(some 94), none, (.bin .add .int (.t 93) (.k (.v (.int .i64 1))))⟩, ⟨(some 95), none, (.fa 1 (.t 13))⟩, ⟨(some
  96), none, (.ld 1 false (.t 95))⟩, ⟨(some 97), none, (.call 15 [(.t 96), (.k (.v (.int .i64 100)))])⟩, ⟨(some 98), none, (.bin .add .int (.t 94) (.t 97))⟩, ⟨(some 99), none, (.fa
  1 (.t 19))⟩, ⟨none, none, (.st 1 (.t 99) (.t 98))⟩] [(1, 5)]) (.seq (.seq (.reg 11 [⟨(some 20), none, (.mv (.k (.v (.int .i64 0))))⟩]) (.block 0 (.loop (.seq (.seq (.reg 12
  [⟨(some 100), none, (.mv (.t 20))⟩, ⟨(some 101), none, (.bin .lss .int (.t 100) (.k (.v (.int .i64 4))))⟩]) (.cond (.t 101) .nop (.exit 0))) (.seq (.block 1 (.seq (.reg 14
  [⟨(some 104), none, (.mv (.t 18))⟩, ⟨(some 105), none, (.mv (.t 20))⟩, ⟨(some 106), none, (.ia 5 (.t 104) (.t 105))⟩, ⟨(some 107), none, (.ld 5 true (.t 106))⟩, ⟨(some 21), none,
  (.alloc [(.v (.int .i64 0)), (.sl 0 true [] []), (.v (.int .i64 0)), (.v (.int .i64 0)), (.sl 0 true [] [])])⟩, ⟨none, none, (.st 5 (.t 21) (.t 107))⟩]) (.seq (.seq (.drw 15
  [⟨(some 108), none, (.ld 5 true (.t 21))⟩, ⟨(some 109), none, (.call 16 [(.t 108)])⟩, ⟨(some 110), none, (.ld 5 true (.t 21))⟩, ⟨(some 111), none, (.call 17 [(.t 110)])⟩, ⟨(some
  112), none, (.bin .neq .bool (.t 109) (.t 111))⟩] [(1, 2)]) (.cond (.t 112) (.seq (.reg 16 [⟨(some 14), none, (.mv (.k (.v (.bool false))))⟩]) .ret) .nop)) (.seq (.seq (.reg 17
  [⟨(some 113), none, (.mv (.t 4))⟩, ⟨(some 114), none, (.mv (.t 4))⟩, ⟨(some 115), none, (.call 15 [(.t 114), (.k (.v (.int .i64 400)))])⟩, ⟨(some 116), none, (.bsl 1 2 [(.v (.int
  .i64 0))] [(0, (.t 113)), (1, (.t 115))])⟩, ⟨(some 117), none, (.len (.t 116))⟩, ⟨(some 118), none, (.mv (.k (.v (.int .i64 0))))⟩]) (.block 2 (.loop (.seq (.reg 18 [⟨(some 119),
  none, (.bin .lss .int (.t 118) (.t 117))⟩]) (.seq (.cond (.t 119) .nop (.exit 2)) (.seq (.block 3 (.seq (.reg 19 [⟨(some 120), none, (.ia 1 (.t 116) (.t 118))⟩, ⟨(some 121),
  none, (.ld 1 false (.t 120))⟩, ⟨(some 23), none, (.mv (.t 121))⟩]) (.seq (.reg 20 [⟨(some 123), none, (.ld 5 true (.t 21))⟩, ⟨(some 124), none, (.mv (.t 23))⟩, ⟨(some 125), none,
  (.call 18 [(.t 123), (.t 124)])⟩, ⟨(some 122), none, (.mv (.t 125))⟩, ⟨(some 126), none, (.ext (.t 122) 0)⟩, ⟨(some 127), none, (.ext (.t 122) 1)⟩, ⟨(some 128), none, (.ext (.t
  122) 2)⟩, ⟨(some 24), none, (.mv (.t 126))⟩, ⟨(some 25), none, (.mv (.t 127))⟩, ⟨(some 26), none, (.mv (.t 128))⟩]) (.seq (.reg 21 [⟨(some 130), none, (.ld 5 true (.t 21))⟩,
  ⟨(some 131), none, (.mv (.t 23))⟩, ⟨(some 132), none, (.call 19 [(.t 130), (.t 131)])⟩, ⟨(some 129), none, (.mv (.t 132))⟩, ⟨(some 133), none, (.ext (.t 129) 0)⟩, ⟨(some 134),
  none, (.ext (.t 129) 1)⟩, ⟨(some 135), none, (.ext (.t 129) 2)⟩, ⟨(some 27), none, (.mv (.t 133))⟩, ⟨(some 28), none, (.mv (.t 134))⟩, ⟨(some 29), none, (.mv (.t 135))⟩]) (.seq
  (.reg 22 [⟨(some 137), none, (.ld 5 true (.t 21))⟩, ⟨(some 138), none, (.mv (.t 23))⟩, ⟨(some 139), none, (.call 20 [(.t 137), (.t 138)])⟩, ⟨(some 136), none, (.mv (.t 139))⟩,
  ⟨(some 140), none, (.ext (.t 136) 0)⟩, ⟨(some 141), none, (.ext (.t 136) 1)⟩, ⟨(some 142), none, (.ext (.t 136) 2)⟩, ⟨(some 30), none, (.mv (.t 140))⟩, ⟨(some 31), none, (.mv (.t
  141))⟩, ⟨(some 32), none, (.mv (.t 142))⟩]) (.seq (.reg 23 [⟨(some 144), none, (.ld 5 true (.t 21))⟩, ⟨(some 145), none, (.mv (.t 23))⟩, ⟨(some 146), none, (.call 21 [(.t 144),
  (.t 145)])⟩, ⟨(some 143), none, (.mv (.t 146))⟩, ⟨(some 147), none, (.ext (.t 143) 0)⟩, ⟨(some 148), none, (.ext (.t 143) 1)⟩, ⟨(some 149), none, (.ext (.t 143) 2)⟩, ⟨(some 33),
  none, (.mv (.t 147))⟩, ⟨(some 34), none, (.mv (.t 148))⟩, ⟨(some 35), none, (.mv (.t 149))⟩]) (.seq (.seq (.reg 24 [⟨(some 150), none, (.mv (.t 24))⟩, ⟨(some 151), none, (.mv (.t
  27))⟩, ⟨(some 152), none, (.bin .neq .int (.t 150) (.t 151))⟩, ⟨(some 153), none, (.mv (.t 152))⟩, ⟨(some 154), (some (153, false)), (.mv (.t 25))⟩, ⟨(some 155), (some (153,
  false)), (.mv (.t 28))⟩, ⟨(some 156), (some (153, false)), (.bin .neq .int (.t 154) (.t 155))⟩, ⟨(some 157), none, (.pick (.t 153) (.k (.v (.bool true))) (.t 156))⟩, ⟨(some 158),
  none, (.mv (.t 157))⟩, ⟨(some 159), (some (158, false)), (.mv (.t 26))⟩, ⟨(some 160), (some (158, false)), (.mv (.t 29))⟩, ⟨(some 161), (some (158, false)), (.bin .neq .int (.t
  159) (.t 160))⟩, ⟨(some 162), none, (.pick (.t 158) (.k (.v (.bool true))) (.t 161))⟩, ⟨(some 163), none, (.mv (.t 162))⟩, ⟨(some 164), (some (163, false)), (.mv (.t 30))⟩,
  ⟨(some 165), (some (163, false)), (.mv (.t 33))⟩, ⟨(some 166), (some (163, false)), (.bin .neq .int (.t 164) (.t 165))⟩, ⟨(some 167), none, (.pick (.t 163) (.k (.v (.bool true)))
  (.t 166))⟩, ⟨(some 168), none, (.mv (.t 167))⟩, ⟨(some 169), (some (168, false)), (.mv (.t 31))⟩, ⟨(some 170), (some (168, false)), (.mv (.t 34))⟩, ⟨(some 171), (some (168,
  false)), (.bin .neq .int (.t 169) (.t 170))⟩, ⟨(some 172), none, (.pick (.t 168) (.k (.v (.bool true))) (.t 171))⟩, ⟨(some 173), none, (.mv (.t 172))⟩, ⟨(some 174), (some (173,
  false)), (.mv (.t 32))⟩, ⟨(some 175), (some (173, false)), (.mv (.t 35))⟩, ⟨(some 176), (some (173, false)), (.bin .neq .int (.t 174) (.t 175))⟩, ⟨(some 177), none, (.pick (.t
  173) (.k (.v (.bool true))) (.t 176))⟩]) (.cond (.t 177) (.seq (.reg 25 [⟨(some 14), none, (.mv (.k (.v (.bool false))))⟩]) .ret) .nop)) (.seq (.drw 26 [⟨(some 179), none, (.ld 5
  true (.t 21))⟩, ⟨(some 180), none, (.mv (.t 18))⟩, ⟨(some 181), none, (.mv (.t 20))⟩, ⟨(some 182), none, (.bin .sub .int (.k (.v (.int .i64 3))) (.t 181))⟩, ⟨(some 183), none,
  (.ia 5 (.t 180) (.t 182))⟩, ⟨(some 184), none, (.ld 5 true (.t 183))⟩, ⟨(some 185), none, (.mv (.t 23))⟩, ⟨(some 186), none, (.call 22 [(.t 179), (.t 184), (.t 185)])⟩, ⟨(some
  178), none, (.mv (.t 186))⟩, ⟨(some 187), none, (.ext (.t 178) 0)⟩, ⟨(some 188), none, (.ext (.t 178) 1)⟩, ⟨(some 189), none, (.ext (.t 178) 2)⟩, ⟨(some 24), none, (.mv (.t
  187))⟩, ⟨(some 25), none, (.mv (.t 188))⟩, ⟨(some 26), none, (.mv (.t 189))⟩] []) (.seq (.drw 27 [⟨(some 191), none, (.ld 5 true (.t 21))⟩, ⟨(some 192), none, (.mv (.t 18))⟩,
  ⟨(some 193), none, (.mv (.t 20))⟩, ⟨(some 194), none, (.bin .sub .int (.k (.v (.int .i64 3))) (.t 193))⟩, ⟨(some 195), none, (.ia 5 (.t 192) (.t 194))⟩, ⟨(some 196), none, (.ld 5
  true (.t 195))⟩, ⟨(some 197), none, (.mv (.t 23))⟩, ⟨(some 198), none, (.call 23 [(.t 191), (.t 196), (.t 197)])⟩, ⟨(some 190), none, (.mv (.t 198))⟩, ⟨(some 199), none, (.ext
  (.t 190) 0)⟩, ⟨(some 200), none, (.ext (.t 190) 1)⟩, ⟨(some 201), none, (.ext (.t 190) 2)⟩, ⟨(some 27), none, (.mv (.t 199))⟩, ⟨(some 28), none, (.mv (.t 200))⟩, ⟨(some 29),
  none, (.mv (.t 201))⟩] []) (.seq (.reg 28 [⟨(some 202), none, (.mv (.t 24))⟩, ⟨(some 203), none, (.mv (.t 27))⟩, ⟨(some 204), none, (.bin .neq .int (.t 202) (.t 203))⟩, ⟨(some
  205), none, (.mv (.t 204))⟩, ⟨(some 206), (some (205, false)), (.mv (.t 25))⟩, ⟨(some 207), (some (205, false)), (.mv (.t 28))⟩, ⟨(some 208), (some (205, false)), (.bin .neq .int
  (.t 206) (.t 207))⟩, ⟨(some 209), none, (.pick (.t 205) (.k (.v (.bool true))) (.t 208))⟩, ⟨(some 210), none, (.mv (.t 209))⟩, ⟨(some 211), (some (210, false)), (.mv (.t 26))⟩,
  ⟨(some 212), (some (210, false)), (.mv (.t 29))⟩, ⟨(some 213), (some (210, false)), (.bin .neq .int (.t 211) (.t 212))⟩, ⟨(some 214), none, (.pick (.t 210) (.k (.v (.bool true)))
  (.t 213))⟩]) (.cond (.t 214) (.seq (.reg 29 [⟨(some 14), none, (.mv (.k (.v (.bool false))))⟩]) .ret) .nop))))))))))) (.reg 30 [⟨(some 215), none, (.bin .add .int (.t 118) (.k
  (.v (.int .i64 1))))⟩, ⟨(some 118), none, (.mv (.t 215))⟩]))))))) (.seq (.reg 31 [⟨(some 216), none, (.ld 2 true (.t 13))⟩, ⟨(some 217), none, (.ld 2 true (.t 19))⟩, ⟨(some 218),
  none, (.bsl 2 2 [(.v (.int .i64 0)), (.v (.int .i64 0))] [(0, (.t 216)), (1, (.t 217))])⟩, ⟨(some 219), none, (.len (.t 218))⟩, ⟨(some 220), none, (.mv (.k (.v (.int .i64
  0))))⟩]) (.block 4 (.loop (.seq (.reg 32 [⟨(some 221), none, (.bin .lss .int (.t 220) (.t 219))⟩]) (.seq (.cond (.t 221) .nop (.exit 4)) (.seq (.block 5 (.seq (.reg 33 [⟨(some
  222), none, (.ia 2 (.t 218) (.t 220))⟩, ⟨(some 223), none, (.ld 2 true (.t 222))⟩, ⟨(some 37), none, (.alloc [(.v (.int .i64 0)), (.v (.int .i64 0))])⟩, ⟨none, none, (.st 2 (.t
  37) (.t 223))⟩]) (.seq (.reg 34 [⟨(some 224), none, (.mv (.t 5))⟩, ⟨(some 225), none, (.mv (.t 5))⟩, ⟨(some 226), none, (.call 15 [(.t 225), (.k (.v (.int .i64 3001)))])⟩, ⟨(some
  227), none, (.bin .sub .int (.t 226) (.k (.v (.int .i64 1500))))⟩, ⟨(some 228), none, (.bsl 1 2 [(.v (.int .i64 0))] [(0, (.t 224)), (1, (.t 227))])⟩, ⟨(some 229), none, (.len
  (.t 228))⟩, ⟨(some 230), none, (.mv (.k (.v (.int .i64 0))))⟩]) (.block 6 (.loop (.seq (.reg 35 [⟨(some 231), none, (.bin .lss .int (.t 230) (.t 229))⟩]) (.seq (.cond (.t 231)
  .nop (.exit 6)) (.seq (.block 7 (.seq (.reg 36 [⟨(some 232), none, (.ia 1 (.t 228) (.t 230))⟩, ⟨(some 233), none, (.ld 1 false (.t 232))⟩, ⟨(some 39), none, (.mv (.t 233))⟩])
  (.seq (.reg 37 [⟨(some 235), none, (.ld 5 true (.t 21))⟩, ⟨(some 236), none, (.mv (.t 39))⟩, ⟨(some 237), none, (.ld 2 true (.t 37))⟩, ⟨(some 238), none, (.call 24 [(.t 235), (.t
  236), (.t 237)])⟩, ⟨(some 234), none, (.mv (.t 238))⟩, ⟨(some 239), none, (.ext (.t 234) 0)⟩, ⟨(some 240), none, (.ext (.t 234) 1)⟩, ⟨(some 40), none, (.mv (.t 239))⟩, ⟨(some
  41), none, (.mv (.t 240))⟩]) (.seq (.reg 38 [⟨(some 242), none, (.ld 5 true (.t 21))⟩, ⟨(some 243), none, (.mv (.t 39))⟩, ⟨(some 244), none, (.ld 2 true (.t 37))⟩, ⟨(some 245),
  none, (.call 25 [(.t 242), (.t 243), (.t 244)])⟩, ⟨(some 241), none, (.mv (.t 245))⟩, ⟨(some 246), none, (.ext (.t 241) 0)⟩, ⟨(some 247), none, (.ext (.t 241) 1)⟩, ⟨(some 42),
  none, (.mv (.t 246))⟩, ⟨(some 43), none, (.mv (.t 247))⟩]) (.seq (.reg 39 [⟨(some 249), none, (.ld 5 true (.t 21))⟩, ⟨(some 250), none, (.mv (.t 39))⟩, ⟨(some 251), none, (.ld 2
  true (.t 37))⟩, ⟨(some 252), none, (.call 26 [(.t 249), (.t 250), (.t 251)])⟩, ⟨(some 248), none, (.mv (.t 252))⟩, ⟨(some 253), none, (.ext (.t 248) 0)⟩, ⟨(some 254), none, (.ext
  (.t 248) 1)⟩, ⟨(some 255), none, (.ext (.t 248) 2)⟩, ⟨(some 44), none, (.mv (.t 253))⟩, ⟨(some 45), none, (.mv (.t 254))⟩, ⟨(some 46), none, (.mv (.t 255))⟩]) (.seq (.reg 40
  [⟨(some 257), none, (.ld 5 true (.t 21))⟩, ⟨(some 258), none, (.mv (.t 39))⟩, ⟨(some 259), none, (.ld 2 true (.t 37))⟩, ⟨(some 260), none, (.call 27 [(.t 257), (.t 258), (.t
  259)])⟩, ⟨(some 256), none, (.mv (.t 260))⟩, ⟨(some 261), none, (.ext (.t 256) 0)⟩, ⟨(some 262), none, (.ext (.t 256) 1)⟩, ⟨(some 263), none, (.ext (.t 256) 2)⟩, ⟨(some 47),
  none, (.mv (.t 261))⟩, ⟨(some 48), none, (.mv (.t 262))⟩, ⟨(some 49), none, (.mv (.t 263))⟩]) (.seq (.reg 41 [⟨(some 264), none, (.mv (.t 40))⟩, ⟨(some 265), none, (.mv (.t
  42))⟩, ⟨(some 266), none, (.bin .neq .int (.t 264) (.t 265))⟩, ⟨(some 267), none, (.mv (.t 266))⟩, ⟨(some 268), (some (267, false)), (.mv (.t 41))⟩, ⟨(some 269), (some (267,
  false)), (.mv (.t 43))⟩, ⟨(some 270), (some (267, false)), (.bin .neq .int (.t 268) (.t 269))⟩, ⟨(some 271), none, (.pick (.t 267) (.k (.v (.bool true))) (.t 270))⟩, ⟨(some 272),
  none, (.mv (.t 271))⟩, ⟨(some 273), (some (272, false)), (.mv (.t 44))⟩, ⟨(some 274), (some (272, false)), (.mv (.t 47))⟩, ⟨(some 275), (some (272, false)), (.bin .neq .int (.t
  273) (.t 274))⟩, ⟨(some 276), none, (.pick (.t 272) (.k (.v (.bool true))) (.t 275))⟩, ⟨(some 277), none, (.mv (.t 276))⟩, ⟨(some 278), (some (277, false)), (.mv (.t 45))⟩,
  ⟨(some 279), (some (277, false)), (.mv (.t 48))⟩, ⟨(some 280), (some (277, false)), (.bin .neq .int (.t 278) (.t 279))⟩, ⟨(some 281), none, (.pick (.t 277) (.k (.v (.bool true)))
  (.t 280))⟩, ⟨(some 282), none, (.mv (.t 281))⟩, ⟨(some 283), (some (282, false)), (.mv (.t 46))⟩, ⟨(some 284), (some (282, false)), (.mv (.t 49))⟩, ⟨(some 285), (some (282,
  false)), (.bin .neq .int (.t 283) (.t 284))⟩, ⟨(some 286), none, (.pick (.t 282) (.k (.v (.bool true))) (.t 285))⟩]) (.cond (.t 286) (.seq (.reg 42 [⟨(some 14), none, (.mv (.k
  (.v (.bool false))))⟩]) .ret) .nop)))))))) (.reg 43 [⟨(some 287), none, (.bin .add .int (.t 230) (.k (.v (.int .i64 1))))⟩, ⟨(some 230), none, (.mv (.t 287))⟩]))))))))) (.reg 44
  [⟨(some 288), none, (.bin .add .int (.t 220) (.k (.v (.int .i64 1))))⟩, ⟨(some 220), none, (.mv (.t 288))⟩]))))))))))) (.reg 13 [⟨(some 102), none, (.mv (.t 20))⟩, ⟨(some 103),
  none, (.bin .add .int (.t 102) (.k (.v (.int .i64 1))))⟩, ⟨(some 20), none, (.mv (.t 103))⟩])))))) (.seq (.reg 45 [⟨(some 289), none, (.mv (.t 15))⟩, ⟨(some 14), none, (.mv (.t
  289))⟩]) .ret))))))))))))
def rv3 : List RV := [(.t 14)]
theorem ok3 : cFun Try.prog Try.f3 = some (ac3, rv3) := by kernel_rfl
theorem nt3 : Try.f3.ntmps = 290 := by kernel_rfl
theorem of3 : okF Try.prog 3 := ⟨Try.f3, Try.func3, by kernel_rfl, by kernel_rfl⟩

/- putlog/putloglaw24.MonitorSound -/
def ac4 : AC := (.seq (.reg 0 [⟨(some 5), none, (.box 9 (.t 0))⟩, ⟨(some 10), none, (.mv (.k (.v (.bool false))))⟩]) (.seq (.reg 1 [⟨(some 27), none, (.call 11 [])⟩, ⟨(some 11), none, (.mv (.t
  27))⟩]) (.seq (.seq (.reg 2 [⟨(some 28), none, (.mv (.t 11))⟩, ⟨(some 29), none, (.un .not (.t 28))⟩]) (.cond (.t 29) (.seq (.reg 3 [⟨(some 10), none, (.mv (.k (.v (.bool
  false))))⟩]) .ret) .nop)) (.seq (.reg 4 [⟨(some 30), none, (.ld 9 true (.t 5))⟩, ⟨(some 31), none, (.call 12 [(.t 30)])⟩, ⟨(some 12), none, (.alloc [(.v (.int .i64 0)), (.sl 0
  true [] []), (.v (.int .i64 0)), (.v (.int .i64 0)), (.sl 0 true [] [])])⟩, ⟨none, none, (.st 5 (.t 12) (.t 31))⟩]) (.seq (.reg 5 [⟨(some 32), none, (.mv (.t 1))⟩, ⟨(some 33),
  none, (.call 15 [(.t 32), (.k (.v (.int .i64 400)))])⟩, ⟨(some 13), none, (.mv (.t 33))⟩]) (.seq (.reg 6 [⟨(some 34), none, (.ld 9 true (.t 5))⟩, ⟨(some 35), none, (.mv (.t
  13))⟩, ⟨(some 36), none, (.call 28 [(.t 34), (.t 35)])⟩, ⟨(some 14), none, (.mv (.t 36))⟩]) (.seq (.reg 7 [⟨(some 38), none, (.ld 5 true (.t 12))⟩, ⟨(some 39), none, (.mv (.t
  13))⟩, ⟨(some 40), none, (.call 18 [(.t 38), (.t 39)])⟩, ⟨(some 37), none, (.mv (.t 40))⟩, ⟨(some 41), none, (.ext (.t 37) 0)⟩, ⟨(some 42), none, (.ext (.t 37) 1)⟩, ⟨(some 43),
  none, (.ext (.t 37) 2)⟩, ⟨(some 15), none, (.mv (.t 41))⟩, ⟨(some 16), none, (.mv (.t 42))⟩, ⟨(some 17), none, (.mv (.t 43))⟩]) (.seq (.seq (.reg 8 [⟨(some 44), none, (.ld 5 true
  (.t 12))⟩, ⟨(some 45), none, (.call 16 [(.t 44)])⟩, ⟨(some 46), none, (.un .not (.t 45))⟩, ⟨(some 47), none, (.mv (.t 46))⟩, ⟨(some 48), (some (47, false)), (.mv (.t 17))⟩,
  ⟨(some 49), (some (47, false)), (.bin .neq .int (.t 48) (.k (.v (.int .i64 0))))⟩, ⟨(some 50), none, (.pick (.t 47) (.k (.v (.bool true))) (.t 49))⟩, ⟨(some 51), none, (.mv (.t
  50))⟩, ⟨(some 52), (some (51, false)), (.mv (.t 14))⟩, ⟨(some 53), (some (51, false)), (.mv (.t 15))⟩, ⟨(some 54), (some (51, false)), (.bin .lss .int (.t 52) (.t 53))⟩, ⟨(some
  55), none, (.pick (.t 51) (.k (.v (.bool true))) (.t 54))⟩, ⟨(some 56), none, (.mv (.t 55))⟩, ⟨(some 57), (some (56, false)), (.mv (.t 14))⟩, ⟨(some 58), (some (56, false)), (.mv
  (.t 16))⟩, ⟨(some 59), (some (56, false)), (.bin .gtr .int (.t 57) (.t 58))⟩, ⟨(some 60), none, (.pick (.t 56) (.k (.v (.bool true))) (.t 59))⟩]) (.cond (.t 60) (.seq (.reg 9
  [⟨(some 10), none, (.mv (.k (.v (.bool false))))⟩]) .ret) .nop)) (.seq (.reg 10 [⟨(some 61), none, (.mv (.t 3))⟩, ⟨(some 62), none, (.call 15 [(.t 61), (.k (.v (.int .i64
  300)))])⟩, ⟨(some 63), none, (.build [(.v (.int .i64 0)), (.v (.int .i64 0))] [(0, 1, (.t 62))])⟩, ⟨(some 18), none, (.alloc [(.v (.int .i64 0)), (.v (.int .i64 0))])⟩, ⟨none,
  none, (.st 2 (.t 18) (.t 63))⟩]) (.seq (.drw 11 [⟨(some 64), none, (.fa 0 (.t 18))⟩, ⟨(some 65), none, (.ld 1 false (.t 64))⟩, ⟨(some 66), none, (.bin .add .int (.t 65) (.k (.v
  (.int .i64 1))))⟩, ⟨(some 67), none, (.mv (.t 4))⟩, ⟨(some 68), none, (.call 15 [(.t 67), (.k (.v (.int .i64 60)))])⟩, ⟨(some 69), none, (.bin .add .int (.t 66) (.t 68))⟩, ⟨(some
  70), none, (.fa 1 (.t 18))⟩, ⟨none, none, (.st 1 (.t 70) (.t 69))⟩] [(1, 4)]) (.seq (.reg 12 [⟨(some 71), none, (.mv (.t 14))⟩, ⟨(some 72), none, (.mv (.t 2))⟩, ⟨(some 73), none,
  (.call 15 [(.t 72), (.k (.v (.int .i64 401)))])⟩, ⟨(some 74), none, (.bin .add .int (.t 71) (.t 73))⟩, ⟨(some 75), none, (.bin .sub .int (.t 74) (.k (.v (.int .i64 200))))⟩,
  ⟨(some 19), none, (.mv (.t 75))⟩]) (.seq (.reg 13 [⟨(some 77), none, (.ld 5 true (.t 12))⟩, ⟨(some 78), none, (.mv (.t 19))⟩, ⟨(some 79), none, (.ld 2 true (.t 18))⟩, ⟨(some 80),
  none, (.call 24 [(.t 77), (.t 78), (.t 79)])⟩, ⟨(some 76), none, (.mv (.t 80))⟩, ⟨(some 81), none, (.ext (.t 76) 0)⟩, ⟨(some 82), none, (.ext (.t 76) 1)⟩, ⟨(some 20), none, (.mv
  (.t 81))⟩, ⟨(some 21), none, (.mv (.t 82))⟩]) (.seq (.reg 14 [⟨(some 84), none, (.ld 5 true (.t 12))⟩, ⟨(some 85), none, (.mv (.t 19))⟩, ⟨(some 86), none, (.ld 2 true (.t 18))⟩,
  ⟨(some 87), none, (.call 26 [(.t 84), (.t 85), (.t 86)])⟩, ⟨(some 83), none, (.mv (.t 87))⟩, ⟨(some 88), none, (.ext (.t 83) 0)⟩, ⟨(some 89), none, (.ext (.t 83) 1)⟩, ⟨(some 90),
  none, (.ext (.t 83) 2)⟩, ⟨(some 22), none, (.mv (.t 88))⟩, ⟨(some 23), none, (.mv (.t 89))⟩, ⟨(some 24), none, (.mv (.t 90))⟩]) (.seq (.seq (.reg 15 [⟨(some 91), none, (.mv (.t
  21))⟩, ⟨(some 92), none, (.bin .neq .int (.t 91) (.k (.v (.int .i64 0))))⟩, ⟨(some 93), none, (.mv (.t 92))⟩, ⟨(some 94), (some (93, false)), (.mv (.t 24))⟩, ⟨(some 95), (some
  (93, false)), (.bin .neq .int (.t 94) (.k (.v (.int .i64 0))))⟩, ⟨(some 96), none, (.pick (.t 93) (.k (.v (.bool true))) (.t 95))⟩, ⟨(some 97), none, (.mv (.t 96))⟩, ⟨(some 98),
  (some (97, false)), (.mv (.t 22))⟩, ⟨(some 99), (some (97, false)), (.bin .geq .int (.t 98) (.k (.v (.int .i64 0))))⟩, ⟨(some 100), (some (97, false)), (.mv (.t 99))⟩, ⟨(some
  101), (some (100, true)), (.ld 9 true (.t 5))⟩, ⟨(some 102), (some (100, true)), (.mv (.t 22))⟩, ⟨(some 103), (some (100, true)), (.call 28 [(.t 101), (.t 102)])⟩, ⟨(some 104),
  (some (100, true)), (.mv (.t 19))⟩, ⟨(some 105), (some (100, true)), (.bin .leq .int (.t 103) (.t 104))⟩, ⟨(some 106), (some (97, false)), (.pick (.t 100) (.t 105) (.k (.v (.bool
  false))))⟩, ⟨(some 107), none, (.pick (.t 97) (.k (.v (.bool true))) (.t 106))⟩]) (.cond (.t 107) (.seq (.reg 16 [⟨(some 10), none, (.mv (.k (.v (.bool false))))⟩]) .ret) .nop))
  (.seq (.seq (.reg 17 [⟨(some 108), none, (.fa 0 (.t 18))⟩, ⟨(some 109), none, (.ld 1 false (.t 108))⟩, ⟨(some 25), none, (.mv (.t 109))⟩]) (.block 0 (.loop (.seq (.seq (.reg 18
  [⟨(some 110), none, (.mv (.t 25))⟩, ⟨(some 111), none, (.fa 1 (.t 18))⟩, ⟨(some 112), none, (.ld 1 false (.t 111))⟩, ⟨(some 113), none, (.bin .lss .int (.t 110) (.t 112))⟩])
  (.cond (.t 113) .nop (.exit 0))) (.seq (.block 1 (.seq (.reg 20 [⟨(some 116), none, (.ld 9 true (.t 5))⟩, ⟨(some 117), none, (.mv (.t 25))⟩, ⟨(some 118), none, (.call 28 [(.t
  116), (.t 117)])⟩, ⟨(some 26), none, (.mv (.t 118))⟩]) (.seq (.reg 21 [⟨(some 119), none, (.mv (.t 26))⟩, ⟨(some 120), none, (.mv (.t 19))⟩, ⟨(some 121), none, (.bin .gtr .int
  (.t 119) (.t 120))⟩, ⟨(some 122), none, (.mv (.t 121))⟩, ⟨(some 123), (some (122, true)), (.mv (.t 20))⟩, ⟨(some 124), (some (122, true)), (.bin .eql .int (.t 123) (.k (.v (.int
  .i64 0))))⟩, ⟨(some 125), (some (122, true)), (.mv (.t 124))⟩, ⟨(some 126), (some (125, false)), (.mv (.t 23))⟩, ⟨(some 127), (some (125, false)), (.bin .lss .int (.t 126) (.k
  (.v (.int .i64 0))))⟩, ⟨(some 128), (some (122, true)), (.pick (.t 125) (.k (.v (.bool true))) (.t 127))⟩, ⟨(some 129), (some (122, true)), (.mv (.t 128))⟩, ⟨(some 130), (some
  (129, false)), (.mv (.t 23))⟩, ⟨(some 131), (some (129, false)), (.mv (.t 25))⟩, ⟨(some 132), (some (129, false)), (.bin .gtr .int (.t 130) (.t 131))⟩, ⟨(some 133), (some (122,
  true)), (.pick (.t 129) (.k (.v (.bool true))) (.t 132))⟩, ⟨(some 134), none, (.pick (.t 122) (.t 133) (.k (.v (.bool false))))⟩]) (.cond (.t 134) (.seq (.reg 22 [⟨(some 10),
  none, (.mv (.k (.v (.bool false))))⟩]) .ret) .nop)))) (.reg 19 [⟨(some 114), none, (.mv (.t 25))⟩, ⟨(some 115), none, (.bin .add .int (.t 114) (.k (.v (.int .i64 1))))⟩, ⟨(some
  25), none, (.mv (.t 115))⟩])))))) (.seq (.reg 23 [⟨(some 135), none, (.mv (.t 11))⟩, ⟨(some 10), none, (.mv (.t 135))⟩]) .ret))))))))))))))))
def rv4 : List RV := [(.t 10)]
theorem ok4 : cFun Try.prog Try.f4 = some (ac4, rv4) := by kernel_rfl
theorem nt4 : Try.f4.ntmps = 136 := by kernel_rfl
theorem of4 : okF Try.prog 4 := ⟨Try.f4, Try.func4, by kernel_rfl, by kernel_rfl⟩

/- putlog/putloglaw24.MonitorExact -/
def ac5 : AC := (.seq (.reg 0 [⟨(some 3), none, (.box 9 (.t 0))⟩, ⟨(some 6), none, (.mv (.k (.v (.bool false))))⟩]) (.seq (.reg 1 [⟨(some 32), none, (.call 11 [])⟩, ⟨(some 7), none, (.mv (.t
  32))⟩]) (.seq (.seq (.reg 2 [⟨(some 33), none, (.mv (.t 7))⟩, ⟨(some 34), none, (.un .not (.t 33))⟩]) (.cond (.t 34) (.seq (.reg 3 [⟨(some 6), none, (.mv (.k (.v (.bool
  false))))⟩]) .ret) .nop)) (.seq (.reg 4 [⟨(some 35), none, (.ld 9 true (.t 3))⟩, ⟨(some 36), none, (.call 13 [(.t 35)])⟩, ⟨(some 8), none, (.alloc [(.v (.int .i64 0)), (.sl 0
  true [] []), (.v (.int .i64 0)), (.v (.int .i64 0)), (.sl 0 true [] [])])⟩, ⟨none, none, (.st 5 (.t 8) (.t 36))⟩]) (.seq (.reg 5 [⟨(some 37), none, (.mv (.t 1))⟩, ⟨(some 38),
  none, (.call 15 [(.t 37), (.k (.v (.int .i64 400)))])⟩, ⟨(some 9), none, (.mv (.t 38))⟩]) (.seq (.reg 6 [⟨(some 40), none, (.ld 5 true (.t 8))⟩, ⟨(some 41), none, (.mv (.t 9))⟩,
  ⟨(some 42), none, (.call 18 [(.t 40), (.t 41)])⟩, ⟨(some 39), none, (.mv (.t 42))⟩, ⟨(some 43), none, (.ext (.t 39) 0)⟩, ⟨(some 44), none, (.ext (.t 39) 1)⟩, ⟨(some 45), none,
  (.ext (.t 39) 2)⟩, ⟨(some 10), none, (.mv (.t 43))⟩, ⟨(some 11), none, (.mv (.t 44))⟩, ⟨(some 12), none, (.mv (.t 45))⟩]) (.seq (.reg 7 [⟨(some 13), none, (.mv (.k (.sl 0 true []
  [])))⟩]) (.seq (.reg 8 [⟨(some 14), none, (.mv (.k (.sl 0 true [] [])))⟩]) (.seq (.reg 9 [⟨(some 46), none, (.mv (.t 12))⟩, ⟨(some 47), none, (.bin .neq .int (.t 46) (.k (.v
  (.int .i64 0))))⟩, ⟨(some 15), none, (.mv (.t 47))⟩]) (.seq (.seq (.reg 10 [⟨(some 16), none, (.mv (.k (.v (.int .i64 0))))⟩]) (.block 0 (.loop (.seq (.seq (.reg 11 [⟨(some 48),
  none, (.mv (.t 16))⟩, ⟨(some 49), none, (.fa 4 (.t 8))⟩, ⟨(some 50), none, (.ld 1 false (.t 49))⟩, ⟨(some 51), none, (.len (.t 50))⟩, ⟨(some 52), none, (.bin .lss .int (.t 48)
  (.t 51))⟩]) (.cond (.t 52) .nop (.exit 0))) (.seq (.block 1 (.seq (.drw 13 [⟨(some 56), none, (.fa 0 (.t 8))⟩, ⟨(some 57), none, (.ld 2 true (.t 56))⟩, ⟨(some 58), none, (.fa 4
  (.t 8))⟩, ⟨(some 59), none, (.ld 1 false (.t 58))⟩, ⟨(some 60), none, (.mv (.t 16))⟩, ⟨(some 61), none, (.ia 2 (.t 59) (.t 60))⟩, ⟨(some 62), none, (.fa 0 (.t 61))⟩, ⟨(some 63),
  none, (.ld 1 false (.t 62))⟩, ⟨(some 64), none, (.call 29 [(.t 57), (.t 63)])⟩, ⟨(some 55), none, (.mv (.t 64))⟩, ⟨(some 65), none, (.ext (.t 55) 0)⟩, ⟨(some 66), none, (.ext (.t
  55) 1)⟩, ⟨(some 67), none, (.ext (.t 55) 2)⟩, ⟨(some 17), none, (.mv (.t 65))⟩, ⟨(some 18), none, (.mv (.t 66))⟩, ⟨(some 19), none, (.mv (.t 67))⟩] []) (.seq (.reg 14 [⟨(some
  69), none, (.ld 5 true (.t 8))⟩, ⟨(some 70), none, (.mv (.t 17))⟩, ⟨(some 71), none, (.call 18 [(.t 69), (.t 70)])⟩, ⟨(some 68), none, (.mv (.t 71))⟩, ⟨(some 72), none, (.ext (.t
  68) 0)⟩, ⟨(some 73), none, (.ext (.t 68) 1)⟩, ⟨(some 74), none, (.ext (.t 68) 2)⟩, ⟨(some 20), none, (.mv (.t 72))⟩, ⟨(some 21), none, (.mv (.t 73))⟩, ⟨(some 22), none, (.mv (.t
  74))⟩]) (.seq (.seq (.reg 15 [⟨(some 75), none, (.mv (.t 19))⟩, ⟨(some 76), none, (.bin .neq .int (.t 75) (.k (.v (.int .i64 0))))⟩, ⟨(some 77), none, (.mv (.t 76))⟩, ⟨(some 78),
  (some (77, false)), (.mv (.t 17))⟩, ⟨(some 79), (some (77, false)), (.mv (.t 18))⟩, ⟨(some 80), (some (77, false)), (.bin .neq .int (.t 78) (.t 79))⟩, ⟨(some 81), none, (.pick
  (.t 77) (.k (.v (.bool true))) (.t 80))⟩]) (.cond (.t 81) (.seq (.reg 16 [⟨(some 6), none, (.mv (.k (.v (.bool false))))⟩]) .ret) .nop)) (.seq (.reg 17 [⟨(some 82), none, (.mv
  (.t 15))⟩, ⟨(some 83), none, (.mv (.t 82))⟩, ⟨(some 84), (some (83, false)), (.mv (.t 22))⟩, ⟨(some 85), (some (83, false)), (.bin .neq .int (.t 84) (.k (.v (.int .i64 0))))⟩,
  ⟨(some 86), none, (.pick (.t 83) (.k (.v (.bool true))) (.t 85))⟩, ⟨(some 15), none, (.mv (.t 86))⟩]) (.seq (.reg 18 [⟨(some 87), none, (.mv (.t 13))⟩, ⟨(some 88), none, (.mv (.t
  17))⟩, ⟨(some 89), none, (.bsl 1 1 [(.v (.int .i64 0))] [(0, (.t 88))])⟩, ⟨(some 90), none, (.app 1 8 [(.v (.int .i64 0))] (.t 87) (.t 89))⟩, ⟨(some 13), none, (.mv (.t 90))⟩])
  (.reg 19 [⟨(some 91), none, (.mv (.t 14))⟩, ⟨(some 92), none, (.mv (.t 20))⟩, ⟨(some 93), none, (.bsl 1 1 [(.v (.int .i64 0))] [(0, (.t 92))])⟩, ⟨(some 94), none, (.app 1 8 [(.v
  (.int .i64 0))] (.t 91) (.t 93))⟩, ⟨(some 14), none, (.mv (.t 94))⟩]))))))) (.reg 12 [⟨(some 53), none, (.mv (.t 16))⟩, ⟨(some 54), none, (.bin .add .int (.t 53) (.k (.v (.int
  .i64 1))))⟩, ⟨(some 16), none, (.mv (.t 54))⟩])))))) (.seq (.seq (.reg 20 [⟨(some 95), none, (.mv (.t 15))⟩]) (.cond (.t 95) (.seq (.seq (.reg 21 [⟨(some 23), none, (.mv (.k (.v
  (.int .i64 0))))⟩]) (.block 2 (.loop (.seq (.seq (.reg 22 [⟨(some 96), none, (.mv (.t 23))⟩, ⟨(some 97), none, (.mv (.t 13))⟩, ⟨(some 98), none, (.len (.t 97))⟩, ⟨(some 99),
  none, (.bin .lss .int (.t 96) (.t 98))⟩]) (.cond (.t 99) .nop (.exit 2))) (.seq (.block 3 (.seq (.reg 24 [⟨(some 24), none, (.mv (.k (.v (.int .i64 0))))⟩]) (.block 4 (.loop
  (.seq (.seq (.reg 25 [⟨(some 102), none, (.mv (.t 24))⟩, ⟨(some 103), none, (.mv (.t 13))⟩, ⟨(some 104), none, (.len (.t 103))⟩, ⟨(some 105), none, (.bin .lss .int (.t 102) (.t
  104))⟩]) (.cond (.t 105) .nop (.exit 4))) (.seq (.block 5 (.seq (.drw 27 [⟨(some 108), none, (.fa 3 (.t 8))⟩, ⟨(some 109), none, (.ld 1 false (.t 108))⟩, ⟨(some 110), none, (.mv
  (.t 13))⟩, ⟨(some 111), none, (.mv (.t 23))⟩, ⟨(some 112), none, (.ia 1 (.t 110) (.t 111))⟩, ⟨(some 113), none, (.ld 1 false (.t 112))⟩, ⟨(some 114), none, (.mv (.t 13))⟩, ⟨(some
  115), none, (.mv (.t 24))⟩, ⟨(some 116), none, (.ia 1 (.t 114) (.t 115))⟩, ⟨(some 117), none, (.ld 1 false (.t 116))⟩, ⟨(some 118), none, (.bin .sub .int (.t 113) (.t 117))⟩,
  ⟨(some 119), none, (.mv (.t 13))⟩, ⟨(some 120), none, (.mv (.t 24))⟩, ⟨(some 121), none, (.ia 1 (.t 119) (.t 120))⟩, ⟨(some 122), none, (.ld 1 false (.t 121))⟩, ⟨(some 123),
  none, (.mv (.t 13))⟩, ⟨(some 124), none, (.mv (.t 23))⟩, ⟨(some 125), none, (.ia 1 (.t 123) (.t 124))⟩, ⟨(some 126), none, (.ld 1 false (.t 125))⟩, ⟨(some 127), none, (.bin .sub
  .int (.t 122) (.t 126))⟩, ⟨(some 128), none, (.mm true [(.t 118), (.t 127)])⟩, ⟨(some 129), none, (.bin .mul .int (.t 109) (.t 128))⟩, ⟨(some 25), none, (.mv (.t 129))⟩] [])
  (.seq (.drw 28 [⟨(some 130), none, (.fa 4 (.t 8))⟩, ⟨(some 131), none, (.ld 1 false (.t 130))⟩, ⟨(some 132), none, (.mv (.t 23))⟩, ⟨(some 133), none, (.ia 2 (.t 131) (.t 132))⟩,
  ⟨(some 134), none, (.fa 1 (.t 133))⟩, ⟨(some 135), none, (.ld 1 false (.t 134))⟩, ⟨(some 136), none, (.fa 4 (.t 8))⟩, ⟨(some 137), none, (.ld 1 false (.t 136))⟩, ⟨(some 138),
  none, (.mv (.t 24))⟩, ⟨(some 139), none, (.ia 2 (.t 137) (.t 138))⟩, ⟨(some 140), none, (.fa 1 (.t 139))⟩, ⟨(some 141), none, (.ld 1 false (.t 140))⟩, ⟨(some 142), none, (.bin
  .sub .int (.t 135) (.t 141))⟩, ⟨(some 143), none, (.fa 2 (.t 8))⟩, ⟨(some 144), none, (.ld 1 false (.t 143))⟩, ⟨(some 145), none, (.bin .mul .int (.k (.v (.int .i64 2))) (.t
  144))⟩, ⟨(some 146), none, (.mv (.t 25))⟩, ⟨(some 147), none, (.bin .add .int (.t 145) (.t 146))⟩, ⟨(some 148), none, (.bin .gtr .int (.t 142) (.t 147))⟩] []) (.cond (.t 148)
  (.seq (.reg 29 [⟨(some 149), none, (.mv (.t 7))⟩, ⟨(some 6), none, (.mv (.t 149))⟩]) .ret) .nop)))) (.reg 26 [⟨(some 106), none, (.mv (.t 24))⟩, ⟨(some 107), none, (.bin .add
  .int (.t 106) (.k (.v (.int .i64 1))))⟩, ⟨(some 24), none, (.mv (.t 107))⟩]))))))) (.reg 23 [⟨(some 100), none, (.mv (.t 23))⟩, ⟨(some 101), none, (.bin .add .int (.t 100) (.k
  (.v (.int .i64 1))))⟩, ⟨(some 23), none, (.mv (.t 101))⟩])))))) (.seq (.reg 30 [⟨(some 6), none, (.mv (.k (.v (.bool false))))⟩]) .ret)) .nop)) (.seq (.reg 31 [⟨(some 150), none,
  (.mv (.t 10))⟩, ⟨(some 151), none, (.mv (.t 2))⟩, ⟨(some 152), none, (.mv (.t 11))⟩, ⟨(some 153), none, (.mv (.t 10))⟩, ⟨(some 154), none, (.bin .sub .int (.t 152) (.t 153))⟩,
  ⟨(some 155), none, (.bin .add .int (.t 154) (.k (.v (.int .i64 1))))⟩, ⟨(some 156), none, (.call 15 [(.t 151), (.t 155)])⟩, ⟨(some 157), none, (.bin .add .int (.t 150) (.t
  156))⟩, ⟨(some 26), none, (.mv (.t 157))⟩]) (.seq (.reg 32 [⟨(some 27), none, (.mv (.k (.sl 0 true [] [])))⟩]) (.seq (.seq (.reg 33 [⟨(some 28), none, (.mv (.k (.v (.int .i64
  0))))⟩]) (.block 6 (.loop (.seq (.seq (.reg 34 [⟨(some 158), none, (.mv (.t 28))⟩, ⟨(some 159), none, (.mv (.t 13))⟩, ⟨(some 160), none, (.len (.t 159))⟩, ⟨(some 161), none,
  (.bin .lss .int (.t 158) (.t 160))⟩]) (.cond (.t 161) .nop (.exit 6))) (.seq (.block 7 (.seq (.drw 36 [⟨(some 164), none, (.fa 3 (.t 8))⟩, ⟨(some 165), none, (.ld 1 false (.t
  164))⟩, ⟨(some 166), none, (.mv (.t 13))⟩, ⟨(some 167), none, (.mv (.t 28))⟩, ⟨(some 168), none, (.ia 1 (.t 166) (.t 167))⟩, ⟨(some 169), none, (.ld 1 false (.t 168))⟩, ⟨(some
  170), none, (.mv (.t 9))⟩, ⟨(some 171), none, (.bin .sub .int (.t 169) (.t 170))⟩, ⟨(some 172), none, (.mv (.t 9))⟩, ⟨(some 173), none, (.mv (.t 13))⟩, ⟨(some 174), none, (.mv
  (.t 28))⟩, ⟨(some 175), none, (.ia 1 (.t 173) (.t 174))⟩, ⟨(some 176), none, (.ld 1 false (.t 175))⟩, ⟨(some 177), none, (.bin .sub .int (.t 172) (.t 176))⟩, ⟨(some 178), none,
  (.mm true [(.t 171), (.t 177)])⟩, ⟨(some 179), none, (.bin .mul .int (.t 165) (.t 178))⟩, ⟨(some 29), none, (.mv (.t 179))⟩] []) (.seq (.reg 37 [⟨(some 180), none, (.mv (.t
  14))⟩, ⟨(some 181), none, (.mv (.t 28))⟩, ⟨(some 182), none, (.ia 1 (.t 180) (.t 181))⟩, ⟨(some 183), none, (.ld 1 false (.t 182))⟩, ⟨(some 184), none, (.mv (.t 26))⟩, ⟨(some
  185), none, (.mv (.t 29))⟩, ⟨(some 186), none, (.bin .sub .int (.t 184) (.t 185))⟩, ⟨(some 187), none, (.mm true [(.t 183), (.t 186)])⟩, ⟨(some 30), none, (.mv (.t 187))⟩]) (.seq
  (.seq (.drw 38 [⟨(some 188), none, (.mv (.t 30))⟩, ⟨(some 189), none, (.fa 4 (.t 8))⟩, ⟨(some 190), none, (.ld 1 false (.t 189))⟩, ⟨(some 191), none, (.mv (.t 28))⟩, ⟨(some 192),
  none, (.ia 2 (.t 190) (.t 191))⟩, ⟨(some 193), none, (.fa 1 (.t 192))⟩, ⟨(some 194), none, (.ld 1 false (.t 193))⟩, ⟨(some 195), none, (.bin .sub .int (.t 188) (.t 194))⟩, ⟨(some
  196), none, (.fa 2 (.t 8))⟩, ⟨(some 197), none, (.ld 1 false (.t 196))⟩, ⟨(some 198), none, (.bin .gtr .int (.t 195) (.t 197))⟩, ⟨(some 199), none, (.mv (.t 198))⟩, ⟨(some 200),
  (some (199, false)), (.fa 4 (.t 8))⟩, ⟨(some 201), (some (199, false)), (.ld 1 false (.t 200))⟩, ⟨(some 202), (some (199, false)), (.mv (.t 28))⟩, ⟨(some 203), (some (199,
  false)), (.ia 2 (.t 201) (.t 202))⟩, ⟨(some 204), (some (199, false)), (.fa 1 (.t 203))⟩, ⟨(some 205), (some (199, false)), (.ld 1 false (.t 204))⟩, ⟨(some 206), (some (199,
  false)), (.mv (.t 30))⟩, ⟨(some 207), (some (199, false)), (.bin .sub .int (.t 205) (.t 206))⟩, ⟨(some 208), (some (199, false)), (.fa 2 (.t 8))⟩, ⟨(some 209), (some (199,
  false)), (.ld 1 false (.t 208))⟩, ⟨(some 210), (some (199, false)), (.bin .gtr .int (.t 207) (.t 209))⟩, ⟨(some 211), none, (.pick (.t 199) (.k (.v (.bool true))) (.t 210))⟩,
  ⟨(some 212), none, (.mv (.t 211))⟩, ⟨(some 213), (some (212, false)), (.mv (.t 30))⟩, ⟨(some 214), (some (212, false)), (.mv (.t 26))⟩, ⟨(some 215), (some (212, false)), (.bin
  .sub .int (.t 213) (.t 214))⟩, ⟨(some 216), (some (212, false)), (.mv (.t 29))⟩, ⟨(some 217), (some (212, false)), (.bin .gtr .int (.t 215) (.t 216))⟩, ⟨(some 218), none, (.pick
  (.t 212) (.k (.v (.bool true))) (.t 217))⟩, ⟨(some 219), none, (.mv (.t 218))⟩, ⟨(some 220), (some (219, false)), (.mv (.t 26))⟩, ⟨(some 221), (some (219, false)), (.mv (.t
  30))⟩, ⟨(some 222), (some (219, false)), (.bin .sub .int (.t 220) (.t 221))⟩, ⟨(some 223), (some (219, false)), (.mv (.t 29))⟩, ⟨(some 224), (some (219, false)), (.bin .gtr .int
  (.t 222) (.t 223))⟩, ⟨(some 225), none, (.pick (.t 219) (.k (.v (.bool true))) (.t 224))⟩, ⟨(some 226), none, (.mv (.t 225))⟩, ⟨(some 227), (some (226, false)), (.mv (.t 30))⟩,
  ⟨(some 228), (some (226, false)), (.bin .lss .int (.t 227) (.k (.v (.int .i64 (-1000000)))))⟩, ⟨(some 229), none, (.pick (.t 226) (.k (.v (.bool true))) (.t 228))⟩, ⟨(some 230),
  none, (.mv (.t 229))⟩, ⟨(some 231), (some (230, false)), (.mv (.t 30))⟩, ⟨(some 232), (some (230, false)), (.bin .gtr .int (.t 231) (.k (.v (.int .i64 1000000))))⟩, ⟨(some 233),
  none, (.pick (.t 230) (.k (.v (.bool true))) (.t 232))⟩] []) (.cond (.t 233) (.seq (.reg 39 [⟨(some 6), none, (.mv (.k (.v (.bool false))))⟩]) .ret) .nop)) (.seq (.reg 40 [⟨(some
  234), none, (.mv (.t 27))⟩, ⟨(some 235), none, (.mv (.t 30))⟩, ⟨(some 236), none, (.bsl 1 1 [(.v (.int .i64 0))] [(0, (.t 235))])⟩, ⟨(some 237), none, (.app 1 8 [(.v (.int .i64
  0))] (.t 234) (.t 236))⟩, ⟨(some 27), none, (.mv (.t 237))⟩]) (.seq (.reg 41 [⟨(some 31), none, (.mv (.k (.v (.int .i64 0))))⟩]) (.block 8 (.loop (.seq (.seq (.reg 42 [⟨(some
  238), none, (.mv (.t 31))⟩, ⟨(some 239), none, (.mv (.t 28))⟩, ⟨(some 240), none, (.bin .lss .int (.t 238) (.t 239))⟩]) (.cond (.t 240) .nop (.exit 8))) (.seq (.block 9 (.seq
  (.drw 44 [⟨(some 243), none, (.fa 3 (.t 8))⟩, ⟨(some 244), none, (.ld 1 false (.t 243))⟩, ⟨(some 245), none, (.mv (.t 13))⟩, ⟨(some 246), none, (.mv (.t 28))⟩, ⟨(some 247), none,
  (.ia 1 (.t 245) (.t 246))⟩, ⟨(some 248), none, (.ld 1 false (.t 247))⟩, ⟨(some 249), none, (.mv (.t 13))⟩, ⟨(some 250), none, (.mv (.t 31))⟩, ⟨(some 251), none, (.ia 1 (.t 249)
  (.t 250))⟩, ⟨(some 252), none, (.ld 1 false (.t 251))⟩, ⟨(some 253), none, (.bin .sub .int (.t 248) (.t 252))⟩, ⟨(some 254), none, (.bin .mul .int (.t 244) (.t 253))⟩, ⟨(some
  29), none, (.mv (.t 254))⟩] []) (.seq (.reg 45 [⟨(some 255), none, (.mv (.t 30))⟩, ⟨(some 256), none, (.mv (.t 27))⟩, ⟨(some 257), none, (.mv (.t 31))⟩, ⟨(some 258), none, (.ia 1
  (.t 256) (.t 257))⟩, ⟨(some 259), none, (.ld 1 false (.t 258))⟩, ⟨(some 260), none, (.bin .sub .int (.t 255) (.t 259))⟩, ⟨(some 261), none, (.mv (.t 29))⟩, ⟨(some 262), none,
  (.bin .gtr .int (.t 260) (.t 261))⟩, ⟨(some 263), none, (.mv (.t 262))⟩, ⟨(some 264), (some (263, false)), (.mv (.t 27))⟩, ⟨(some 265), (some (263, false)), (.mv (.t 31))⟩,
  ⟨(some 266), (some (263, false)), (.ia 1 (.t 264) (.t 265))⟩, ⟨(some 267), (some (263, false)), (.ld 1 false (.t 266))⟩, ⟨(some 268), (some (263, false)), (.mv (.t 30))⟩, ⟨(some
  269), (some (263, false)), (.bin .sub .int (.t 267) (.t 268))⟩, ⟨(some 270), (some (263, false)), (.mv (.t 29))⟩, ⟨(some 271), (some (263, false)), (.bin .gtr .int (.t 269) (.t
  270))⟩, ⟨(some 272), none, (.pick (.t 263) (.k (.v (.bool true))) (.t 271))⟩]) (.cond (.t 272) (.seq (.reg 46 [⟨(some 6), none, (.mv (.k (.v (.bool false))))⟩]) .ret) .nop))))
  (.reg 43 [⟨(some 241), none, (.mv (.t 31))⟩, ⟨(some 242), none, (.bin .add .int (.t 241) (.k (.v (.int .i64 1))))⟩, ⟨(some 31), none, (.mv (.t 242))⟩]))))))))))) (.reg 35 [⟨(some
  162), none, (.mv (.t 28))⟩, ⟨(some 163), none, (.bin .add .int (.t 162) (.k (.v (.int .i64 1))))⟩, ⟨(some 28), none, (.mv (.t 163))⟩])))))) (.seq (.reg 47 [⟨(some 273), none,
  (.mv (.t 10))⟩, ⟨(some 274), none, (.mv (.t 11))⟩, ⟨(some 275), none, (.bin .leq .int (.t 273) (.t 274))⟩, ⟨(some 276), none, (.mv (.t 275))⟩, ⟨(some 277), (some (276, true)),
  (.mv (.t 10))⟩, ⟨(some 278), (some (276, true)), (.bin .geq .int (.t 277) (.k (.v (.int .i64 (-1000000)))))⟩, ⟨(some 279), none, (.pick (.t 276) (.t 278) (.k (.v (.bool
  false))))⟩, ⟨(some 280), none, (.mv (.t 279))⟩, ⟨(some 281), (some (280, true)), (.mv (.t 11))⟩, ⟨(some 282), (some (280, true)), (.bin .leq .int (.t 281) (.k (.v (.int .i64
  1000000))))⟩, ⟨(some 283), none, (.pick (.t 280) (.t 282) (.k (.v (.bool false))))⟩, ⟨(some 6), none, (.mv (.t 283))⟩]) .ret)))))))))))))))
def rv5 : List RV := [(.t 6)]
theorem ok5 : cFun Try.prog Try.f5 = some (ac5, rv5) := by kernel_rfl
theorem nt5 : Try.f5.ntmps = 284 := by kernel_rfl
theorem of5 : okF Try.prog 5 := ⟨Try.f5, Try.func5, by kernel_rfl, by kernel_rfl⟩

/- putlog/putloglaw24.MonitorNarrows -/
def ac6 : AC := (.seq (.reg 0 [⟨(some 5), none, (.box 9 (.t 0))⟩, ⟨(some 10), none, (.mv (.k (.v (.bool false))))⟩]) (.seq (.reg 1 [⟨(some 22), none, (.call 11 [])⟩, ⟨(some 11), none, (.mv (.t
  22))⟩]) (.seq (.seq (.reg 2 [⟨(some 23), none, (.mv (.t 11))⟩, ⟨(some 24), none, (.un .not (.t 23))⟩]) (.cond (.t 24) (.seq (.reg 3 [⟨(some 10), none, (.mv (.k (.v (.bool
  false))))⟩]) .ret) .nop)) (.seq (.reg 4 [⟨(some 25), none, (.ld 9 true (.t 5))⟩, ⟨(some 26), none, (.call 12 [(.t 25)])⟩, ⟨(some 12), none, (.alloc [(.v (.int .i64 0)), (.sl 0
  true [] []), (.v (.int .i64 0)), (.v (.int .i64 0)), (.sl 0 true [] [])])⟩, ⟨none, none, (.st 5 (.t 12) (.t 26))⟩]) (.seq (.reg 5 [⟨(some 27), none, (.mv (.t 1))⟩, ⟨(some 28),
  none, (.call 15 [(.t 27), (.k (.v (.int .i64 400)))])⟩, ⟨(some 13), none, (.mv (.t 28))⟩]) (.seq (.reg 6 [⟨(some 30), none, (.ld 5 true (.t 12))⟩, ⟨(some 31), none, (.mv (.t
  13))⟩, ⟨(some 32), none, (.call 18 [(.t 30), (.t 31)])⟩, ⟨(some 29), none, (.mv (.t 32))⟩, ⟨(some 33), none, (.ext (.t 29) 0)⟩, ⟨(some 34), none, (.ext (.t 29) 1)⟩, ⟨(some 35),
  none, (.ext (.t 29) 2)⟩, ⟨(some 14), none, (.mv (.t 33))⟩, ⟨(some 15), none, (.mv (.t 34))⟩, ⟨(some 16), none, (.mv (.t 35))⟩]) (.seq (.reg 7 [⟨(some 36), none, (.ld 5 true (.t
  12))⟩, ⟨(some 17), none, (.alloc [(.v (.int .i64 0)), (.sl 0 true [] []), (.v (.int .i64 0)), (.v (.int .i64 0)), (.sl 0 true [] [])])⟩, ⟨none, none, (.st 5 (.t 17) (.t 36))⟩])
  (.seq (.drw 8 [⟨(some 37), none, (.fa 2 (.t 12))⟩, ⟨(some 38), none, (.ld 1 false (.t 37))⟩, ⟨(some 39), none, (.mv (.t 3))⟩, ⟨(some 40), none, (.call 15 [(.t 39), (.k (.v (.int
  .i64 50)))])⟩, ⟨(some 41), none, (.bin .add .int (.t 38) (.t 40))⟩, ⟨(some 42), none, (.fa 2 (.t 17))⟩, ⟨none, none, (.st 1 (.t 42) (.t 41))⟩] [(1, 3)]) (.seq (.drw 9 [⟨(some
  43), none, (.fa 3 (.t 12))⟩, ⟨(some 44), none, (.ld 1 false (.t 43))⟩, ⟨(some 45), none, (.mv (.t 4))⟩, ⟨(some 46), none, (.call 15 [(.t 45), (.k (.v (.int .i64 50)))])⟩, ⟨(some
  47), none, (.bin .add .int (.t 44) (.t 46))⟩, ⟨(some 48), none, (.fa 3 (.t 17))⟩, ⟨none, none, (.st 1 (.t 48) (.t 47))⟩] [(1, 3)]) (.seq (.seq (.reg 10 [⟨(some 49), none, (.fa 4
  (.t 12))⟩, ⟨(some 50), none, (.ld 1 false (.t 49))⟩, ⟨(some 51), none, (.len (.t 50))⟩, ⟨(some 52), none, (.bin .gtr .int (.t 51) (.k (.v (.int .i64 0))))⟩]) (.cond (.t 52) (.seq
  (.reg 11 [⟨(some 53), none, (.mv (.t 2))⟩, ⟨(some 54), none, (.fa 4 (.t 12))⟩, ⟨(some 55), none, (.ld 1 false (.t 54))⟩, ⟨(some 56), none, (.len (.t 55))⟩, ⟨(some 57), none,
  (.call 15 [(.t 53), (.t 56)])⟩, ⟨(some 18), none, (.mv (.t 57))⟩]) (.drw 12 [⟨(some 58), none, (.bsl 2 0 [(.v (.int .i64 0)), (.v (.int .i64 0))] [])⟩, ⟨(some 59), none, (.fa 4
  (.t 12))⟩, ⟨(some 60), none, (.ld 1 false (.t 59))⟩, ⟨(some 61), none, (.mv (.t 18))⟩, ⟨(some 62), none, (.slc 2 (.t 60) none (some (.t 61)) none)⟩, ⟨(some 63), none, (.app 2 16
  [(.v (.int .i64 0)), (.v (.int .i64 0))] (.t 58) (.t 62))⟩, ⟨(some 64), none, (.fa 4 (.t 12))⟩, ⟨(some 65), none, (.ld 1 false (.t 64))⟩, ⟨(some 66), none, (.mv (.t 18))⟩, ⟨(some
  67), none, (.bin .add .int (.t 66) (.k (.v (.int .i64 1))))⟩, ⟨(some 68), none, (.slc 2 (.t 65) (some (.t 67)) none none)⟩, ⟨(some 69), none, (.app 2 16 [(.v (.int .i64 0)), (.v
  (.int .i64 0))] (.t 63) (.t 68))⟩, ⟨(some 70), none, (.fa 4 (.t 17))⟩, ⟨none, none, (.st 1 (.t 70) (.t 69))⟩] [(0, 2), (0, 4), (0, 7), (4, 7), (5, 7), (0, 10), (2, 10), (4, 10),
  (5, 10)])) .nop)) (.seq (.reg 13 [⟨(some 72), none, (.ld 5 true (.t 17))⟩, ⟨(some 73), none, (.mv (.t 13))⟩, ⟨(some 74), none, (.call 18 [(.t 72), (.t 73)])⟩, ⟨(some 71), none,
  (.mv (.t 74))⟩, ⟨(some 75), none, (.ext (.t 71) 0)⟩, ⟨(some 76), none, (.ext (.t 71) 1)⟩, ⟨(some 77), none, (.ext (.t 71) 2)⟩, ⟨(some 19), none, (.mv (.t 75))⟩, ⟨(some 20), none,
  (.mv (.t 76))⟩, ⟨(some 21), none, (.mv (.t 77))⟩]) (.seq (.reg 14 [⟨(some 78), none, (.mv (.t 16))⟩, ⟨(some 79), none, (.bin .eql .int (.t 78) (.k (.v (.int .i64 0))))⟩, ⟨(some
  80), none, (.mv (.t 79))⟩, ⟨(some 81), (some (80, true)), (.mv (.t 21))⟩, ⟨(some 82), (some (80, true)), (.bin .eql .int (.t 81) (.k (.v (.int .i64 0))))⟩, ⟨(some 83), none,
  (.pick (.t 80) (.t 82) (.k (.v (.bool false))))⟩, ⟨(some 84), none, (.mv (.t 83))⟩, ⟨(some 85), (some (84, true)), (.mv (.t 19))⟩, ⟨(some 86), (some (84, true)), (.mv (.t 14))⟩,
  ⟨(some 87), (some (84, true)), (.bin .leq .int (.t 85) (.t 86))⟩, ⟨(some 88), none, (.pick (.t 84) (.t 87) (.k (.v (.bool false))))⟩, ⟨(some 89), none, (.mv (.t 88))⟩, ⟨(some
  90), (some (89, true)), (.mv (.t 15))⟩, ⟨(some 91), (some (89, true)), (.mv (.t 20))⟩, ⟨(some 92), (some (89, true)), (.bin .leq .int (.t 90) (.t 91))⟩, ⟨(some 93), none, (.pick
  (.t 89) (.t 92) (.k (.v (.bool false))))⟩, ⟨(some 10), none, (.mv (.t 93))⟩]) .ret))))))))))))
def rv6 : List RV := [(.t 10)]
theorem ok6 : cFun Try.prog Try.f6 = some (ac6, rv6) := by kernel_rfl
theorem nt6 : Try.f6.ntmps = 94 := by kernel_rfl
theorem of6 : okF Try.prog 6 := ⟨Try.f6, Try.func6, by kernel_rfl, by kernel_rfl⟩

/- putlog/putloglaw24.MonitorAlarms -/
def ac7 : AC := (.seq (.reg 0 [⟨(some 5), none, (.box 9 (.t 0))⟩, ⟨(some 6), none, (.box 3 (.t 1))⟩, ⟨(some 10), none, (.mv (.k (.v (.bool false))))⟩]) (.seq (.reg 1 [⟨(some 27), none, (.call 11
  [])⟩, ⟨(some 11), none, (.mv (.t 27))⟩]) (.seq (.seq (.reg 2 [⟨(some 28), none, (.mv (.t 11))⟩, ⟨(some 29), none, (.un .not (.t 28))⟩]) (.cond (.t 29) (.seq (.reg 3 [⟨(some 10),
  none, (.mv (.k (.v (.bool false))))⟩]) .ret) .nop)) (.seq (.drw 4 [⟨(some 30), none, (.ld 9 true (.t 5))⟩, ⟨(some 31), none, (.call 12 [(.t 30)])⟩, ⟨(some 32), none, (.iaA 3 1
  (.t 6) (.k (.v (.int .i64 0))))⟩, ⟨(some 33), none, (.ld 1 false (.t 32))⟩, ⟨(some 34), none, (.iaA 3 1 (.t 6) (.k (.v (.int .i64 1))))⟩, ⟨(some 35), none, (.ld 1 false (.t
  34))⟩, ⟨(some 36), none, (.iaA 3 1 (.t 6) (.k (.v (.int .i64 2))))⟩, ⟨(some 37), none, (.ld 1 false (.t 36))⟩, ⟨(some 38), none, (.call 14 [(.t 31), (.t 33), (.t 35), (.t 37)])⟩,
  ⟨(some 12), none, (.alloc [(.v (.int .i64 0)), (.sl 0 true [] []), (.v (.int .i64 0)), (.v (.int .i64 0)), (.sl 0 true [] [])])⟩, ⟨none, none, (.st 5 (.t 12) (.t 38))⟩] [(1, 3),
  (1, 5), (1, 7), (0, 9), (1, 9), (3, 9), (5, 9), (7, 9), (8, 9)]) (.seq (.reg 5 [⟨(some 39), none, (.mv (.t 3))⟩, ⟨(some 40), none, (.call 15 [(.t 39), (.k (.v (.int .i64
  400)))])⟩, ⟨(some 41), none, (.build [(.v (.int .i64 0)), (.v (.int .i64 0))] [(0, 1, (.t 40))])⟩, ⟨(some 13), none, (.alloc [(.v (.int .i64 0)), (.v (.int .i64 0))])⟩, ⟨none,
  none, (.st 2 (.t 13) (.t 41))⟩]) (.seq (.drw 6 [⟨(some 42), none, (.fa 0 (.t 13))⟩, ⟨(some 43), none, (.ld 1 false (.t 42))⟩, ⟨(some 44), none, (.bin .add .int (.t 43) (.k (.v
  (.int .i64 1))))⟩, ⟨(some 45), none, (.mv (.t 4))⟩, ⟨(some 46), none, (.call 15 [(.t 45), (.k (.v (.int .i64 40)))])⟩, ⟨(some 47), none, (.bin .add .int (.t 44) (.t 46))⟩, ⟨(some
  48), none, (.fa 1 (.t 13))⟩, ⟨none, none, (.st 1 (.t 48) (.t 47))⟩] [(1, 4)]) (.seq (.reg 7 [⟨(some 49), none, (.mv (.t 2))⟩, ⟨(some 50), none, (.call 15 [(.t 49), (.k (.v (.int
  .i64 3001)))])⟩, ⟨(some 51), none, (.bin .sub .int (.t 50) (.k (.v (.int .i64 1500))))⟩, ⟨(some 14), none, (.mv (.t 51))⟩]) (.seq (.reg 8 [⟨(some 15), none, (.mv (.k (.v (.int
  .i64 (-1)))))⟩]) (.seq (.reg 9 [⟨(some 16), none, (.mv (.k (.v (.int .i64 (-1)))))⟩]) (.seq (.reg 10 [⟨(some 17), none, (.mv (.k (.v (.bool false))))⟩]) (.seq (.seq (.reg 11
  [⟨(some 52), none, (.fa 0 (.t 13))⟩, ⟨(some 53), none, (.ld 1 false (.t 52))⟩, ⟨(some 18), none, (.mv (.t 53))⟩]) (.block 0 (.loop (.seq (.seq (.reg 12 [⟨(some 54), none, (.mv
  (.t 18))⟩, ⟨(some 55), none, (.fa 1 (.t 13))⟩, ⟨(some 56), none, (.ld 1 false (.t 55))⟩, ⟨(some 57), none, (.bin .lss .int (.t 54) (.t 56))⟩]) (.cond (.t 57) .nop (.exit 0)))
  (.seq (.block 1 (.seq (.reg 14 [⟨(some 61), none, (.ld 5 true (.t 12))⟩, ⟨(some 62), none, (.mv (.t 18))⟩, ⟨(some 63), none, (.call 18 [(.t 61), (.t 62)])⟩, ⟨(some 60), none,
  (.mv (.t 63))⟩, ⟨(some 64), none, (.ext (.t 60) 0)⟩, ⟨(some 65), none, (.ext (.t 60) 1)⟩, ⟨(some 66), none, (.ext (.t 60) 2)⟩, ⟨(some 19), none, (.mv (.t 64))⟩, ⟨(some 20), none,
  (.mv (.t 65))⟩, ⟨(some 21), none, (.mv (.t 66))⟩]) (.seq (.reg 15 [⟨(some 67), none, (.mv (.t 17))⟩, ⟨(some 68), none, (.mv (.t 67))⟩, ⟨(some 69), (some (68, false)), (.mv (.t
  21))⟩, ⟨(some 70), (some (68, false)), (.bin .neq .int (.t 69) (.k (.v (.int .i64 0))))⟩, ⟨(some 71), none, (.pick (.t 68) (.k (.v (.bool true))) (.t 70))⟩, ⟨(some 17), none,
  (.mv (.t 71))⟩]) (.seq (.seq (.reg 16 [⟨(some 72), none, (.mv (.t 21))⟩, ⟨(some 73), none, (.bin .eql .int (.t 72) (.k (.v (.int .i64 0))))⟩, ⟨(some 74), none, (.mv (.t 73))⟩,
  ⟨(some 75), (some (74, true)), (.mv (.t 19))⟩, ⟨(some 76), (some (74, true)), (.mv (.t 14))⟩, ⟨(some 77), (some (74, true)), (.bin .gtr .int (.t 75) (.t 76))⟩, ⟨(some 78), none,
  (.pick (.t 74) (.t 77) (.k (.v (.bool false))))⟩, ⟨(some 79), none, (.mv (.t 78))⟩, ⟨(some 80), (some (79, true)), (.mv (.t 15))⟩, ⟨(some 81), (some (79, true)), (.bin .lss .int
  (.t 80) (.k (.v (.int .i64 0))))⟩, ⟨(some 82), none, (.pick (.t 79) (.t 81) (.k (.v (.bool false))))⟩]) (.cond (.t 82) (.reg 17 [⟨(some 83), none, (.mv (.t 18))⟩, ⟨(some 15),
  none, (.mv (.t 83))⟩]) .nop)) (.seq (.reg 18 [⟨(some 84), none, (.mv (.t 21))⟩, ⟨(some 85), none, (.bin .eql .int (.t 84) (.k (.v (.int .i64 0))))⟩, ⟨(some 86), none, (.mv (.t
  85))⟩, ⟨(some 87), (some (86, true)), (.mv (.t 20))⟩, ⟨(some 88), (some (86, true)), (.mv (.t 14))⟩, ⟨(some 89), (some (86, true)), (.bin .gtr .int (.t 87) (.t 88))⟩, ⟨(some 90),
  none, (.pick (.t 86) (.t 89) (.k (.v (.bool false))))⟩, ⟨(some 91), none, (.mv (.t 90))⟩, ⟨(some 92), (some (91, true)), (.mv (.t 16))⟩, ⟨(some 93), (some (91, true)), (.bin .lss
  .int (.t 92) (.k (.v (.int .i64 0))))⟩, ⟨(some 94), none, (.pick (.t 91) (.t 93) (.k (.v (.bool false))))⟩]) (.cond (.t 94) (.reg 19 [⟨(some 95), none, (.mv (.t 18))⟩, ⟨(some
  16), none, (.mv (.t 95))⟩]) .nop)))))) (.reg 13 [⟨(some 58), none, (.mv (.t 18))⟩, ⟨(some 59), none, (.bin .add .int (.t 58) (.k (.v (.int .i64 1))))⟩, ⟨(some 18), none, (.mv (.t
  59))⟩])))))) (.seq (.reg 20 [⟨(some 97), none, (.ld 5 true (.t 12))⟩, ⟨(some 98), none, (.mv (.t 14))⟩, ⟨(some 99), none, (.ld 2 true (.t 13))⟩, ⟨(some 100), none, (.call 24 [(.t
  97), (.t 98), (.t 99)])⟩, ⟨(some 96), none, (.mv (.t 100))⟩, ⟨(some 101), none, (.ext (.t 96) 0)⟩, ⟨(some 102), none, (.ext (.t 96) 1)⟩, ⟨(some 22), none, (.mv (.t 101))⟩, ⟨(some
  23), none, (.mv (.t 102))⟩]) (.seq (.reg 21 [⟨(some 104), none, (.ld 5 true (.t 12))⟩, ⟨(some 105), none, (.mv (.t 14))⟩, ⟨(some 106), none, (.ld 2 true (.t 13))⟩, ⟨(some 107),
  none, (.call 26 [(.t 104), (.t 105), (.t 106)])⟩, ⟨(some 103), none, (.mv (.t 107))⟩, ⟨(some 108), none, (.ext (.t 103) 0)⟩, ⟨(some 109), none, (.ext (.t 103) 1)⟩, ⟨(some 110),
  none, (.ext (.t 103) 2)⟩, ⟨(some 24), none, (.mv (.t 108))⟩, ⟨(some 25), none, (.mv (.t 109))⟩, ⟨(some 26), none, (.mv (.t 110))⟩]) (.seq (.seq (.reg 22 [⟨(some 111), none, (.mv
  (.t 17))⟩]) (.cond (.t 111) (.seq (.reg 23 [⟨(some 112), none, (.mv (.t 23))⟩, ⟨(some 113), none, (.bin .eql .int (.t 112) (.k (.v (.int .i64 240))))⟩, ⟨(some 114), none, (.mv
  (.t 113))⟩, ⟨(some 115), (some (114, true)), (.mv (.t 26))⟩, ⟨(some 116), (some (114, true)), (.bin .eql .int (.t 115) (.k (.v (.int .i64 240))))⟩, ⟨(some 117), none, (.pick (.t
  114) (.t 116) (.k (.v (.bool false))))⟩, ⟨(some 118), none, (.mv (.t 117))⟩, ⟨(some 119), (some (118, true)), (.mv (.t 22))⟩, ⟨(some 120), (some (118, true)), (.bin .eql .int (.t
  119) (.k (.v (.int .i64 0))))⟩, ⟨(some 121), none, (.pick (.t 118) (.t 120) (.k (.v (.bool false))))⟩, ⟨(some 10), none, (.mv (.t 121))⟩]) .ret) .nop)) (.seq (.reg 24 [⟨(some
  122), none, (.mv (.t 23))⟩, ⟨(some 123), none, (.bin .eql .int (.t 122) (.k (.v (.int .i64 0))))⟩, ⟨(some 124), none, (.mv (.t 123))⟩, ⟨(some 125), (some (124, true)), (.mv (.t
  26))⟩, ⟨(some 126), (some (124, true)), (.bin .eql .int (.t 125) (.k (.v (.int .i64 0))))⟩, ⟨(some 127), none, (.pick (.t 124) (.t 126) (.k (.v (.bool false))))⟩, ⟨(some 128),
  none, (.mv (.t 127))⟩, ⟨(some 129), (some (128, true)), (.mv (.t 24))⟩, ⟨(some 130), (some (128, true)), (.mv (.t 15))⟩, ⟨(some 131), (some (128, true)), (.bin .eql .int (.t 129)
  (.t 130))⟩, ⟨(some 132), none, (.pick (.t 128) (.t 131) (.k (.v (.bool false))))⟩, ⟨(some 133), none, (.mv (.t 132))⟩, ⟨(some 134), (some (133, true)), (.mv (.t 25))⟩, ⟨(some
  135), (some (133, true)), (.mv (.t 16))⟩, ⟨(some 136), (some (133, true)), (.bin .eql .int (.t 134) (.t 135))⟩, ⟨(some 137), none, (.pick (.t 133) (.t 136) (.k (.v (.bool
  false))))⟩, ⟨(some 138), none, (.mv (.t 137))⟩, ⟨(some 139), (some (138, true)), (.mv (.t 22))⟩, ⟨(some 140), (some (138, true)), (.bin .eql .int (.t 139) (.k (.v (.int .i64
  2))))⟩, ⟨(some 141), (some (138, true)), (.mv (.t 15))⟩, ⟨(some 142), (some (138, true)), (.bin .geq .int (.t 141) (.k (.v (.int .i64 0))))⟩, ⟨(some 143), (some (138, true)),
  (.bin .eql .bool (.t 140) (.t 142))⟩, ⟨(some 144), none, (.pick (.t 138) (.t 143) (.k (.v (.bool false))))⟩, ⟨(some 145), none, (.mv (.t 144))⟩, ⟨(some 146), (some (145, true)),
  (.mv (.t 22))⟩, ⟨(some 147), (some (145, true)), (.bin .geq .int (.t 146) (.k (.v (.int .i64 1))))⟩, ⟨(some 148), (some (145, true)), (.mv (.t 16))⟩, ⟨(some 149), (some (145,
  true)), (.bin .geq .int (.t 148) (.k (.v (.int .i64 0))))⟩, ⟨(some 150), (some (145, true)), (.bin .eql .bool (.t 147) (.t 149))⟩, ⟨(some 151), none, (.pick (.t 145) (.t 150) (.k
  (.v (.bool false))))⟩, ⟨(some 10), none, (.mv (.t 151))⟩]) .ret)))))))))))))))
def rv7 : List RV := [(.t 10)]
theorem ok7 : cFun Try.prog Try.f7 = some (ac7, rv7) := by kernel_rfl
theorem nt7 : Try.f7.ntmps = 152 := by kernel_rfl
theorem of7 : okF Try.prog 7 := ⟨Try.f7, Try.func7, by kernel_rfl, by kernel_rfl⟩

/- putlog/putloglaw24.MonitorBoth -/
def ac8 : AC := (.seq (.reg 0 [⟨(some 3), none, (.box 9 (.t 0))⟩, ⟨(some 4), none, (.box 9 (.t 1))⟩, ⟨(some 6), none, (.mv (.k (.v (.bool false))))⟩]) (.seq (.reg 1 [⟨(some 25), none, (.call 11
  [])⟩, ⟨(some 7), none, (.mv (.t 25))⟩]) (.seq (.seq (.reg 2 [⟨(some 26), none, (.mv (.t 7))⟩, ⟨(some 27), none, (.un .not (.t 26))⟩]) (.cond (.t 27) (.seq (.reg 3 [⟨(some 6),
  none, (.mv (.k (.v (.bool false))))⟩]) .ret) .nop)) (.seq (.reg 4 [⟨(some 28), none, (.ld 9 true (.t 4))⟩, ⟨(some 8), none, (.alloc [(.v (.int .i64 0)), (.v (.int .i64 0)), (.sl
  0 true [] []), (.sl 0 true [] []), (.v (.int .i64 0)), (.v (.int .i64 0)), (.v (.int .i64 0)), (.sl 0 true [] []), (.sl 0 true [] [])])⟩, ⟨none, none, (.st 9 (.t 8) (.t 28))⟩])
  (.seq (.reg 5 [⟨(some 29), none, (.fa 6 (.t 3))⟩, ⟨(some 30), none, (.ld 1 false (.t 29))⟩, ⟨(some 31), none, (.fa 6 (.t 8))⟩, ⟨none, none, (.st 1 (.t 31) (.t 30))⟩]) (.seq (.reg
  6 [⟨(some 32), none, (.fa 7 (.t 3))⟩, ⟨(some 33), none, (.ld 1 false (.t 32))⟩, ⟨(some 34), none, (.fa 7 (.t 8))⟩, ⟨none, none, (.st 1 (.t 34) (.t 33))⟩]) (.seq (.reg 7 [⟨(some
  35), none, (.fa 5 (.t 3))⟩, ⟨(some 36), none, (.ld 1 false (.t 35))⟩, ⟨(some 37), none, (.fa 5 (.t 8))⟩, ⟨none, none, (.st 1 (.t 37) (.t 36))⟩]) (.seq (.reg 8 [⟨(some 38), none,
  (.ld 9 true (.t 3))⟩, ⟨(some 39), none, (.call 12 [(.t 38)])⟩, ⟨(some 9), none, (.alloc [(.v (.int .i64 0)), (.sl 0 true [] []), (.v (.int .i64 0)), (.v (.int .i64 0)), (.sl 0
  true [] [])])⟩, ⟨none, none, (.st 5 (.t 9) (.t 39))⟩]) (.seq (.reg 9 [⟨(some 40), none, (.ld 9 true (.t 8))⟩, ⟨(some 41), none, (.call 12 [(.t 40)])⟩, ⟨(some 10), none, (.alloc
  [(.v (.int .i64 0)), (.sl 0 true [] []), (.v (.int .i64 0)), (.v (.int .i64 0)), (.sl 0 true [] [])])⟩, ⟨none, none, (.st 5 (.t 10) (.t 41))⟩]) (.seq (.reg 10 [⟨(some 42), none,
  (.mv (.t 2))⟩, ⟨(some 43), none, (.call 15 [(.t 42), (.k (.v (.int .i64 400)))])⟩, ⟨(some 11), none, (.mv (.t 43))⟩]) (.seq (.reg 11 [⟨(some 44), none, (.ld 9 true (.t 3))⟩,
  ⟨(some 45), none, (.mv (.t 11))⟩, ⟨(some 46), none, (.call 28 [(.t 44), (.t 45)])⟩, ⟨(some 12), none, (.mv (.t 46))⟩]) (.seq (.reg 12 [⟨(some 48), none, (.ld 5 true (.t 9))⟩,
  ⟨(some 49), none, (.ld 5 true (.t 10))⟩, ⟨(some 50), none, (.mv (.t 11))⟩, ⟨(some 51), none, (.call 22 [(.t 48), (.t 49), (.t 50)])⟩, ⟨(some 47), none, (.mv (.t 51))⟩, ⟨(some
  52), none, (.ext (.t 47) 0)⟩, ⟨(some 53), none, (.ext (.t 47) 1)⟩, ⟨(some 54), none, (.ext (.t 47) 2)⟩, ⟨(some 13), none, (.mv (.t 52))⟩, ⟨(some 14), none, (.mv (.t 53))⟩, ⟨(some
  15), none, (.mv (.t 54))⟩]) (.seq (.reg 13 [⟨(some 56), none, (.ld 5 true (.t 10))⟩, ⟨(some 57), none, (.ld 5 true (.t 9))⟩, ⟨(some 58), none, (.mv (.t 11))⟩, ⟨(some 59), none,
  (.call 22 [(.t 56), (.t 57), (.t 58)])⟩, ⟨(some 55), none, (.mv (.t 59))⟩, ⟨(some 60), none, (.ext (.t 55) 0)⟩, ⟨(some 61), none, (.ext (.t 55) 1)⟩, ⟨(some 62), none, (.ext (.t
  55) 2)⟩, ⟨(some 16), none, (.mv (.t 60))⟩, ⟨(some 17), none, (.mv (.t 61))⟩, ⟨(some 18), none, (.mv (.t 62))⟩]) (.seq (.reg 14 [⟨(some 64), none, (.ld 5 true (.t 9))⟩, ⟨(some
  65), none, (.mv (.t 11))⟩, ⟨(some 66), none, (.call 18 [(.t 64), (.t 65)])⟩, ⟨(some 63), none, (.mv (.t 66))⟩, ⟨(some 67), none, (.ext (.t 63) 0)⟩, ⟨(some 68), none, (.ext (.t
  63) 1)⟩, ⟨(some 69), none, (.ext (.t 63) 2)⟩, ⟨(some 19), none, (.mv (.t 67))⟩, ⟨(some 20), none, (.mv (.t 68))⟩, ⟨(some 21), none, (.mv (.t 69))⟩]) (.seq (.reg 15 [⟨(some 71),
  none, (.ld 5 true (.t 10))⟩, ⟨(some 72), none, (.mv (.t 11))⟩, ⟨(some 73), none, (.call 18 [(.t 71), (.t 72)])⟩, ⟨(some 70), none, (.mv (.t 73))⟩, ⟨(some 74), none, (.ext (.t 70)
  0)⟩, ⟨(some 75), none, (.ext (.t 70) 1)⟩, ⟨(some 76), none, (.ext (.t 70) 2)⟩, ⟨(some 22), none, (.mv (.t 74))⟩, ⟨(some 23), none, (.mv (.t 75))⟩, ⟨(some 24), none, (.mv (.t
  76))⟩]) (.seq (.reg 16 [⟨(some 77), none, (.mv (.t 15))⟩, ⟨(some 78), none, (.bin .eql .int (.t 77) (.k (.v (.int .i64 0))))⟩, ⟨(some 79), none, (.mv (.t 78))⟩, ⟨(some 80), (some
  (79, true)), (.mv (.t 18))⟩, ⟨(some 81), (some (79, true)), (.bin .eql .int (.t 80) (.k (.v (.int .i64 0))))⟩, ⟨(some 82), none, (.pick (.t 79) (.t 81) (.k (.v (.bool false))))⟩,
  ⟨(some 83), none, (.mv (.t 82))⟩, ⟨(some 84), (some (83, true)), (.mv (.t 21))⟩, ⟨(some 85), (some (83, true)), (.bin .eql .int (.t 84) (.k (.v (.int .i64 0))))⟩, ⟨(some 86),
  none, (.pick (.t 83) (.t 85) (.k (.v (.bool false))))⟩, ⟨(some 87), none, (.mv (.t 86))⟩, ⟨(some 88), (some (87, true)), (.mv (.t 24))⟩, ⟨(some 89), (some (87, true)), (.bin .eql
  .int (.t 88) (.k (.v (.int .i64 0))))⟩, ⟨(some 90), none, (.pick (.t 87) (.t 89) (.k (.v (.bool false))))⟩, ⟨(some 91), none, (.mv (.t 90))⟩, ⟨(some 92), (some (91, true)), (.mv
  (.t 13))⟩, ⟨(some 93), (some (91, true)), (.mv (.t 12))⟩, ⟨(some 94), (some (91, true)), (.bin .leq .int (.t 92) (.t 93))⟩, ⟨(some 95), none, (.pick (.t 91) (.t 94) (.k (.v
  (.bool false))))⟩, ⟨(some 96), none, (.mv (.t 95))⟩, ⟨(some 97), (some (96, true)), (.mv (.t 12))⟩, ⟨(some 98), (some (96, true)), (.mv (.t 14))⟩, ⟨(some 99), (some (96, true)),
  (.bin .leq .int (.t 97) (.t 98))⟩, ⟨(some 100), none, (.pick (.t 96) (.t 99) (.k (.v (.bool false))))⟩, ⟨(some 101), none, (.mv (.t 100))⟩, ⟨(some 102), (some (101, true)), (.mv
  (.t 13))⟩, ⟨(some 103), (some (101, true)), (.mv (.t 16))⟩, ⟨(some 104), (some (101, true)), (.bin .eql .int (.t 102) (.t 103))⟩, ⟨(some 105), none, (.pick (.t 101) (.t 104) (.k
  (.v (.bool false))))⟩, ⟨(some 106), none, (.mv (.t 105))⟩, ⟨(some 107), (some (106, true)), (.mv (.t 14))⟩, ⟨(some 108), (some (106, true)), (.mv (.t 17))⟩, ⟨(some 109), (some
  (106, true)), (.bin .eql .int (.t 107) (.t 108))⟩, ⟨(some 110), none, (.pick (.t 106) (.t 109) (.k (.v (.bool false))))⟩, ⟨(some 111), none, (.mv (.t 110))⟩, ⟨(some 112), (some
  (111, true)), (.mv (.t 13))⟩, ⟨(some 113), (some (111, true)), (.mv (.t 19))⟩, ⟨(some 114), (some (111, true)), (.bin .geq .int (.t 112) (.t 113))⟩, ⟨(some 115), none, (.pick (.t
  111) (.t 114) (.k (.v (.bool false))))⟩, ⟨(some 116), none, (.mv (.t 115))⟩, ⟨(some 117), (some (116, true)), (.mv (.t 13))⟩, ⟨(some 118), (some (116, true)), (.mv (.t 22))⟩,
  ⟨(some 119), (some (116, true)), (.bin .geq .int (.t 117) (.t 118))⟩, ⟨(some 120), none, (.pick (.t 116) (.t 119) (.k (.v (.bool false))))⟩, ⟨(some 121), none, (.mv (.t 120))⟩,
  ⟨(some 122), (some (121, true)), (.mv (.t 14))⟩, ⟨(some 123), (some (121, true)), (.mv (.t 20))⟩, ⟨(some 124), (some (121, true)), (.bin .leq .int (.t 122) (.t 123))⟩, ⟨(some
  125), none, (.pick (.t 121) (.t 124) (.k (.v (.bool false))))⟩, ⟨(some 126), none, (.mv (.t 125))⟩, ⟨(some 127), (some (126, true)), (.mv (.t 14))⟩, ⟨(some 128), (some (126,
  true)), (.mv (.t 23))⟩, ⟨(some 129), (some (126, true)), (.bin .leq .int (.t 127) (.t 128))⟩, ⟨(some 130), none, (.pick (.t 126) (.t 129) (.k (.v (.bool false))))⟩, ⟨(some 6),
  none, (.mv (.t 130))⟩]) .ret))))))))))))))))
def rv8 : List RV := [(.t 6)]
theorem ok8 : cFun Try.prog Try.f8 = some (ac8, rv8) := by kernel_rfl
theorem nt8 : Try.f8.ntmps = 131 := by kernel_rfl
theorem of8 : okF Try.prog 8 := ⟨Try.f8, Try.func8, by kernel_rfl, by kernel_rfl⟩

/- putlog/putloglaw24.MonitorReasons -/
def ac9 : AC := (.seq (.reg 0 [⟨(some 2), none, (.box 9 (.t 0))⟩, ⟨(some 4), none, (.mv (.k (.v (.bool false))))⟩]) (.seq (.reg 1 [⟨(some 19), none, (.call 11 [])⟩, ⟨(some 5), none, (.mv (.t
  19))⟩]) (.seq (.seq (.reg 2 [⟨(some 20), none, (.mv (.t 5))⟩, ⟨(some 21), none, (.un .not (.t 20))⟩]) (.cond (.t 21) (.seq (.reg 3 [⟨(some 4), none, (.mv (.k (.v (.bool
  false))))⟩]) .ret) .nop)) (.seq (.reg 4 [⟨(some 22), none, (.ld 9 true (.t 2))⟩, ⟨(some 23), none, (.call 12 [(.t 22)])⟩, ⟨(some 6), none, (.alloc [(.v (.int .i64 0)), (.sl 0
  true [] []), (.v (.int .i64 0)), (.v (.int .i64 0)), (.sl 0 true [] [])])⟩, ⟨none, none, (.st 5 (.t 6) (.t 23))⟩]) (.seq (.reg 5 [⟨(some 24), none, (.mv (.t 1))⟩, ⟨(some 25),
  none, (.call 15 [(.t 24), (.k (.v (.int .i64 400)))])⟩, ⟨(some 7), none, (.mv (.t 25))⟩]) (.seq (.reg 6 [⟨(some 27), none, (.ld 5 true (.t 6))⟩, ⟨(some 28), none, (.mv (.t 7))⟩,
  ⟨(some 29), none, (.call 18 [(.t 27), (.t 28)])⟩, ⟨(some 26), none, (.mv (.t 29))⟩, ⟨(some 30), none, (.ext (.t 26) 0)⟩, ⟨(some 31), none, (.ext (.t 26) 1)⟩, ⟨(some 32), none,
  (.ext (.t 26) 2)⟩, ⟨(some 8), none, (.mv (.t 30))⟩, ⟨(some 9), none, (.mv (.t 31))⟩, ⟨(some 10), none, (.mv (.t 32))⟩]) (.seq (.reg 7 [⟨(some 34), none, (.ld 5 true (.t 6))⟩,
  ⟨(some 35), none, (.mv (.t 7))⟩, ⟨(some 36), none, (.call 20 [(.t 34), (.t 35)])⟩, ⟨(some 33), none, (.mv (.t 36))⟩, ⟨(some 37), none, (.ext (.t 33) 0)⟩, ⟨(some 38), none, (.ext
  (.t 33) 1)⟩, ⟨(some 39), none, (.ext (.t 33) 2)⟩, ⟨(some 11), none, (.mv (.t 37))⟩, ⟨(some 12), none, (.mv (.t 38))⟩, ⟨(some 13), none, (.mv (.t 39))⟩]) (.seq (.seq (.reg 8
  [⟨(some 40), none, (.mv (.t 10))⟩, ⟨(some 41), none, (.bin .neq .int (.t 40) (.k (.v (.int .i64 0))))⟩, ⟨(some 42), none, (.mv (.t 41))⟩, ⟨(some 43), (some (42, false)), (.mv (.t
  13))⟩, ⟨(some 44), (some (42, false)), (.bin .neq .int (.t 43) (.k (.v (.int .i64 0))))⟩, ⟨(some 45), none, (.pick (.t 42) (.k (.v (.bool true))) (.t 44))⟩, ⟨(some 46), none,
  (.mv (.t 45))⟩, ⟨(some 47), (some (46, false)), (.mv (.t 11))⟩, ⟨(some 48), (some (46, false)), (.bin .lss .int (.t 47) (.k (.v (.int .i64 (-1)))))⟩, ⟨(some 49), none, (.pick (.t
  46) (.k (.v (.bool true))) (.t 48))⟩, ⟨(some 50), none, (.mv (.t 49))⟩, ⟨(some 51), (some (50, false)), (.mv (.t 11))⟩, ⟨(some 52), (some (50, false)), (.fa 4 (.t 6))⟩, ⟨(some
  53), (some (50, false)), (.ld 1 false (.t 52))⟩, ⟨(some 54), (some (50, false)), (.len (.t 53))⟩, ⟨(some 55), (some (50, false)), (.bin .geq .int (.t 51) (.t 54))⟩, ⟨(some 56),
  none, (.pick (.t 50) (.k (.v (.bool true))) (.t 55))⟩, ⟨(some 57), none, (.mv (.t 56))⟩, ⟨(some 58), (some (57, false)), (.mv (.t 12))⟩, ⟨(some 59), (some (57, false)), (.bin
  .lss .int (.t 58) (.k (.v (.int .i64 (-1)))))⟩, ⟨(some 60), none, (.pick (.t 57) (.k (.v (.bool true))) (.t 59))⟩, ⟨(some 61), none, (.mv (.t 60))⟩, ⟨(some 62), (some (61,
  false)), (.mv (.t 12))⟩, ⟨(some 63), (some (61, false)), (.fa 4 (.t 6))⟩, ⟨(some 64), (some (61, false)), (.ld 1 false (.t 63))⟩, ⟨(some 65), (some (61, false)), (.len (.t 64))⟩,
  ⟨(some 66), (some (61, false)), (.bin .geq .int (.t 62) (.t 65))⟩, ⟨(some 67), none, (.pick (.t 61) (.k (.v (.bool true))) (.t 66))⟩]) (.cond (.t 67) (.seq (.reg 9 [⟨(some 4),
  none, (.mv (.k (.v (.bool false))))⟩]) .ret) .nop)) (.seq (.reg 10 [⟨(some 68), none, (.ld 5 true (.t 6))⟩, ⟨(some 14), none, (.alloc [(.v (.int .i64 0)), (.sl 0 true [] []), (.v
  (.int .i64 0)), (.v (.int .i64 0)), (.sl 0 true [] [])])⟩, ⟨none, none, (.st 5 (.t 14) (.t 68))⟩]) (.seq (.reg 11 [⟨(some 69), none, (.fa 4 (.t 14))⟩, ⟨none, none, (.st 1 (.t 69)
  (.k (.sl 0 true [] [])))⟩]) (.seq (.seq (.reg 12 [⟨(some 15), none, (.mv (.k (.v (.int .i64 0))))⟩]) (.block 0 (.loop (.seq (.seq (.reg 13 [⟨(some 70), none, (.mv (.t 15))⟩,
  ⟨(some 71), none, (.fa 4 (.t 6))⟩, ⟨(some 72), none, (.ld 1 false (.t 71))⟩, ⟨(some 73), none, (.len (.t 72))⟩, ⟨(some 74), none, (.bin .lss .int (.t 70) (.t 73))⟩]) (.cond (.t
  74) .nop (.exit 0))) (.seq (.block 1 (.seq (.reg 15 [⟨(some 77), none, (.mv (.t 15))⟩, ⟨(some 78), none, (.mv (.t 11))⟩, ⟨(some 79), none, (.bin .eql .int (.t 77) (.t 78))⟩,
  ⟨(some 80), none, (.mv (.t 79))⟩, ⟨(some 81), (some (80, false)), (.mv (.t 15))⟩, ⟨(some 82), (some (80, false)), (.mv (.t 12))⟩, ⟨(some 83), (some (80, false)), (.bin .eql .int
  (.t 81) (.t 82))⟩, ⟨(some 84), none, (.pick (.t 80) (.k (.v (.bool true))) (.t 83))⟩]) (.cond (.t 84) (.drw 16 [⟨(some 85), none, (.fa 4 (.t 14))⟩, ⟨(some 86), none, (.ld 1 false
  (.t 85))⟩, ⟨(some 87), none, (.fa 4 (.t 6))⟩, ⟨(some 88), none, (.ld 1 false (.t 87))⟩, ⟨(some 89), none, (.mv (.t 15))⟩, ⟨(some 90), none, (.ia 2 (.t 88) (.t 89))⟩, ⟨(some 91),
  none, (.ld 2 true (.t 90))⟩, ⟨(some 92), none, (.bsl 2 1 [(.v (.int .i64 0)), (.v (.int .i64 0))] [(0, (.t 91))])⟩, ⟨(some 93), none, (.app 2 16 [(.v (.int .i64 0)), (.v (.int
  .i64 0))] (.t 86) (.t 92))⟩, ⟨(some 94), none, (.fa 4 (.t 14))⟩, ⟨none, none, (.st 1 (.t 94) (.t 93))⟩] [(1, 7)]) .nop))) (.reg 14 [⟨(some 75), none, (.mv (.t 15))⟩, ⟨(some 76),
  none, (.bin .add .int (.t 75) (.k (.v (.int .i64 1))))⟩, ⟨(some 15), none, (.mv (.t 76))⟩])))))) (.seq (.reg 17 [⟨(some 96), none, (.ld 5 true (.t 14))⟩, ⟨(some 97), none, (.mv
  (.t 7))⟩, ⟨(some 98), none, (.call 18 [(.t 96), (.t 97)])⟩, ⟨(some 95), none, (.mv (.t 98))⟩, ⟨(some 99), none, (.ext (.t 95) 0)⟩, ⟨(some 100), none, (.ext (.t 95) 1)⟩, ⟨(some
  101), none, (.ext (.t 95) 2)⟩, ⟨(some 16), none, (.mv (.t 99))⟩, ⟨(some 17), none, (.mv (.t 100))⟩, ⟨(some 18), none, (.mv (.t 101))⟩]) (.seq (.reg 18 [⟨(some 102), none, (.mv
  (.t 18))⟩, ⟨(some 103), none, (.bin .eql .int (.t 102) (.k (.v (.int .i64 0))))⟩, ⟨(some 104), none, (.mv (.t 103))⟩, ⟨(some 105), (some (104, true)), (.mv (.t 16))⟩, ⟨(some
  106), (some (104, true)), (.mv (.t 8))⟩, ⟨(some 107), (some (104, true)), (.bin .eql .int (.t 105) (.t 106))⟩, ⟨(some 108), none, (.pick (.t 104) (.t 107) (.k (.v (.bool
  false))))⟩, ⟨(some 109), none, (.mv (.t 108))⟩, ⟨(some 110), (some (109, true)), (.mv (.t 17))⟩, ⟨(some 111), (some (109, true)), (.mv (.t 9))⟩, ⟨(some 112), (some (109, true)),
  (.bin .eql .int (.t 110) (.t 111))⟩, ⟨(some 113), none, (.pick (.t 109) (.t 112) (.k (.v (.bool false))))⟩, ⟨(some 4), none, (.mv (.t 113))⟩]) .ret)))))))))))))
def rv9 : List RV := [(.t 4)]
theorem ok9 : cFun Try.prog Try.f9 = some (ac9, rv9) := by kernel_rfl
theorem nt9 : Try.f9.ntmps = 114 := by kernel_rfl
theorem of9 : okF Try.prog 9 := ⟨Try.f9, Try.func9, by kernel_rfl, by kernel_rfl⟩

/- putlog/putloglaw24.MonitorShifts -/
def ac10 : AC := (.seq (.reg 0 [⟨(some 6), none, (.box 9 (.t 0))⟩, ⟨(some 12), none, (.mv (.k (.v (.bool false))))⟩]) (.seq (.reg 1 [⟨(some 40), none, (.call 11 [])⟩, ⟨(some 13), none, (.mv (.t
  40))⟩]) (.seq (.seq (.reg 2 [⟨(some 41), none, (.mv (.t 13))⟩, ⟨(some 42), none, (.un .not (.t 41))⟩]) (.cond (.t 42) (.seq (.reg 3 [⟨(some 12), none, (.mv (.k (.v (.bool
  false))))⟩]) .ret) .nop)) (.seq (.reg 4 [⟨(some 43), none, (.ld 9 true (.t 6))⟩, ⟨(some 44), none, (.call 12 [(.t 43)])⟩, ⟨(some 14), none, (.alloc [(.v (.int .i64 0)), (.sl 0
  true [] []), (.v (.int .i64 0)), (.v (.int .i64 0)), (.sl 0 true [] [])])⟩, ⟨none, none, (.st 5 (.t 14) (.t 44))⟩]) (.seq (.reg 5 [⟨(some 45), none, (.mv (.t 1))⟩, ⟨(some 46),
  none, (.call 15 [(.t 45), (.k (.v (.int .i64 2001)))])⟩, ⟨(some 47), none, (.bin .sub .int (.t 46) (.k (.v (.int .i64 1000))))⟩, ⟨(some 15), none, (.mv (.t 47))⟩]) (.seq (.reg 6
  [⟨(some 48), none, (.ld 5 true (.t 14))⟩, ⟨(some 16), none, (.alloc [(.v (.int .i64 0)), (.sl 0 true [] []), (.v (.int .i64 0)), (.v (.int .i64 0)), (.sl 0 true [] [])])⟩, ⟨none,
  none, (.st 5 (.t 16) (.t 48))⟩]) (.seq (.reg 7 [⟨(some 49), none, (.fa 4 (.t 16))⟩, ⟨none, none, (.st 1 (.t 49) (.k (.sl 0 true [] [])))⟩]) (.seq (.seq (.reg 8 [⟨(some 17), none,
  (.mv (.k (.v (.int .i64 0))))⟩]) (.block 0 (.loop (.seq (.seq (.reg 9 [⟨(some 50), none, (.mv (.t 17))⟩, ⟨(some 51), none, (.fa 4 (.t 14))⟩, ⟨(some 52), none, (.ld 1 false (.t
  51))⟩, ⟨(some 53), none, (.len (.t 52))⟩, ⟨(some 54), none, (.bin .lss .int (.t 50) (.t 53))⟩]) (.cond (.t 54) .nop (.exit 0))) (.seq (.block 1 (.drw 11 [⟨(some 57), none, (.fa 4
  (.t 16))⟩, ⟨(some 58), none, (.ld 1 false (.t 57))⟩, ⟨(some 59), none, (.fa 4 (.t 14))⟩, ⟨(some 60), none, (.ld 1 false (.t 59))⟩, ⟨(some 61), none, (.mv (.t 17))⟩, ⟨(some 62),
  none, (.ia 2 (.t 60) (.t 61))⟩, ⟨(some 63), none, (.fa 0 (.t 62))⟩, ⟨(some 64), none, (.ld 1 false (.t 63))⟩, ⟨(some 65), none, (.fa 4 (.t 14))⟩, ⟨(some 66), none, (.ld 1 false
  (.t 65))⟩, ⟨(some 67), none, (.mv (.t 17))⟩, ⟨(some 68), none, (.ia 2 (.t 66) (.t 67))⟩, ⟨(some 69), none, (.fa 1 (.t 68))⟩, ⟨(some 70), none, (.ld 1 false (.t 69))⟩, ⟨(some 71),
  none, (.mv (.t 15))⟩, ⟨(some 72), none, (.bin .add .int (.t 70) (.t 71))⟩, ⟨(some 73), none, (.build [(.v (.int .i64 0)), (.v (.int .i64 0))] [(0, 1, (.t 64)), (1, 1, (.t
  72))])⟩, ⟨(some 74), none, (.bsl 2 1 [(.v (.int .i64 0)), (.v (.int .i64 0))] [(0, (.t 73))])⟩, ⟨(some 75), none, (.app 2 16 [(.v (.int .i64 0)), (.v (.int .i64 0))] (.t 58) (.t
  74))⟩, ⟨(some 76), none, (.fa 4 (.t 16))⟩, ⟨none, none, (.st 1 (.t 76) (.t 75))⟩] [(1, 17)])) (.reg 10 [⟨(some 55), none, (.mv (.t 17))⟩, ⟨(some 56), none, (.bin .add .int (.t
  55) (.k (.v (.int .i64 1))))⟩, ⟨(some 17), none, (.mv (.t 56))⟩])))))) (.seq (.reg 12 [⟨(some 77), none, (.mv (.t 2))⟩, ⟨(some 78), none, (.call 15 [(.t 77), (.k (.v (.int .i64
  400)))])⟩, ⟨(some 18), none, (.mv (.t 78))⟩]) (.seq (.reg 13 [⟨(some 80), none, (.ld 5 true (.t 14))⟩, ⟨(some 81), none, (.mv (.t 18))⟩, ⟨(some 82), none, (.call 18 [(.t 80), (.t
  81)])⟩, ⟨(some 79), none, (.mv (.t 82))⟩, ⟨(some 83), none, (.ext (.t 79) 0)⟩, ⟨(some 84), none, (.ext (.t 79) 1)⟩, ⟨(some 85), none, (.ext (.t 79) 2)⟩, ⟨(some 19), none, (.mv
  (.t 83))⟩, ⟨(some 20), none, (.mv (.t 84))⟩, ⟨(some 21), none, (.mv (.t 85))⟩]) (.seq (.reg 14 [⟨(some 87), none, (.ld 5 true (.t 16))⟩, ⟨(some 88), none, (.mv (.t 18))⟩, ⟨(some
  89), none, (.call 18 [(.t 87), (.t 88)])⟩, ⟨(some 86), none, (.mv (.t 89))⟩, ⟨(some 90), none, (.ext (.t 86) 0)⟩, ⟨(some 91), none, (.ext (.t 86) 1)⟩, ⟨(some 92), none, (.ext (.t
  86) 2)⟩, ⟨(some 22), none, (.mv (.t 90))⟩, ⟨(some 23), none, (.mv (.t 91))⟩, ⟨(some 24), none, (.mv (.t 92))⟩]) (.seq (.seq (.reg 15 [⟨(some 93), none, (.mv (.t 21))⟩, ⟨(some
  94), none, (.bin .neq .int (.t 93) (.k (.v (.int .i64 0))))⟩, ⟨(some 95), none, (.mv (.t 94))⟩, ⟨(some 96), (some (95, false)), (.mv (.t 24))⟩, ⟨(some 97), (some (95, false)),
  (.bin .neq .int (.t 96) (.k (.v (.int .i64 0))))⟩, ⟨(some 98), none, (.pick (.t 95) (.k (.v (.bool true))) (.t 97))⟩]) (.cond (.t 98) (.seq (.reg 16 [⟨(some 12), none, (.mv (.k
  (.v (.bool false))))⟩]) .ret) .nop)) (.seq (.seq (.reg 17 [⟨(some 99), none, (.mv (.t 19))⟩, ⟨(some 100), none, (.call 30 [(.t 99)])⟩, ⟨(some 101), none, (.mv (.t 100))⟩, ⟨(some
  102), (some (101, true)), (.mv (.t 22))⟩, ⟨(some 103), (some (101, true)), (.call 30 [(.t 102)])⟩, ⟨(some 104), none, (.pick (.t 101) (.t 103) (.k (.v (.bool false))))⟩, ⟨(some
  105), none, (.mv (.t 104))⟩, ⟨(some 106), (some (105, true)), (.mv (.t 22))⟩, ⟨(some 107), (some (105, true)), (.mv (.t 19))⟩, ⟨(some 108), (some (105, true)), (.mv (.t 15))⟩,
  ⟨(some 109), (some (105, true)), (.bin .add .int (.t 107) (.t 108))⟩, ⟨(some 110), (some (105, true)), (.bin .neq .int (.t 106) (.t 109))⟩, ⟨(some 111), none, (.pick (.t 105) (.t
  110) (.k (.v (.bool false))))⟩, ⟨(some 112), none, (.mv (.t 111))⟩, ⟨(some 113), (some (112, false)), (.mv (.t 20))⟩, ⟨(some 114), (some (112, false)), (.call 30 [(.t 113)])⟩,
  ⟨(some 115), (some (112, false)), (.mv (.t 114))⟩, ⟨(some 116), (some (115, true)), (.mv (.t 23))⟩, ⟨(some 117), (some (115, true)), (.call 30 [(.t 116)])⟩, ⟨(some 118), (some
  (112, false)), (.pick (.t 115) (.t 117) (.k (.v (.bool false))))⟩, ⟨(some 119), (some (112, false)), (.mv (.t 118))⟩, ⟨(some 120), (some (119, true)), (.mv (.t 23))⟩, ⟨(some
  121), (some (119, true)), (.mv (.t 20))⟩, ⟨(some 122), (some (119, true)), (.mv (.t 15))⟩, ⟨(some 123), (some (119, true)), (.bin .add .int (.t 121) (.t 122))⟩, ⟨(some 124),
  (some (119, true)), (.bin .neq .int (.t 120) (.t 123))⟩, ⟨(some 125), (some (112, false)), (.pick (.t 119) (.t 124) (.k (.v (.bool false))))⟩, ⟨(some 126), none, (.pick (.t 112)
  (.k (.v (.bool true))) (.t 125))⟩]) (.cond (.t 126) (.seq (.reg 18 [⟨(some 12), none, (.mv (.k (.v (.bool false))))⟩]) .ret) .nop)) (.seq (.reg 19 [⟨(some 127), none, (.mv (.t
  4))⟩, ⟨(some 128), none, (.call 15 [(.t 127), (.k (.v (.int .i64 400)))])⟩, ⟨(some 129), none, (.build [(.v (.int .i64 0)), (.v (.int .i64 0))] [(0, 1, (.t 128))])⟩, ⟨(some 25),
  none, (.alloc [(.v (.int .i64 0)), (.v (.int .i64 0))])⟩, ⟨none, none, (.st 2 (.t 25) (.t 129))⟩]) (.seq (.drw 20 [⟨(some 130), none, (.fa 0 (.t 25))⟩, ⟨(some 131), none, (.ld 1
  false (.t 130))⟩, ⟨(some 132), none, (.bin .add .int (.t 131) (.k (.v (.int .i64 1))))⟩, ⟨(some 133), none, (.mv (.t 5))⟩, ⟨(some 134), none, (.call 15 [(.t 133), (.k (.v (.int
  .i64 40)))])⟩, ⟨(some 135), none, (.bin .add .int (.t 132) (.t 134))⟩, ⟨(some 136), none, (.fa 1 (.t 25))⟩, ⟨none, none, (.st 1 (.t 136) (.t 135))⟩] [(1, 4)]) (.seq (.seq (.reg
  21 [⟨(some 137), none, (.fa 0 (.t 25))⟩, ⟨(some 138), none, (.ld 1 false (.t 137))⟩, ⟨(some 26), none, (.mv (.t 138))⟩]) (.block 2 (.loop (.seq (.seq (.reg 22 [⟨(some 139), none,
  (.mv (.t 26))⟩, ⟨(some 140), none, (.fa 1 (.t 25))⟩, ⟨(some 141), none, (.ld 1 false (.t 140))⟩, ⟨(some 142), none, (.bin .lss .int (.t 139) (.t 141))⟩]) (.cond (.t 142) .nop
  (.exit 2))) (.seq (.block 3 (.seq (.reg 24 [⟨(some 146), none, (.ld 5 true (.t 14))⟩, ⟨(some 147), none, (.mv (.t 26))⟩, ⟨(some 148), none, (.call 18 [(.t 146), (.t 147)])⟩,
  ⟨(some 145), none, (.mv (.t 148))⟩, ⟨(some 149), none, (.ext (.t 145) 0)⟩, ⟨(some 150), none, (.ext (.t 145) 1)⟩, ⟨(some 151), none, (.ext (.t 145) 2)⟩, ⟨(some 27), none, (.mv
  (.t 149))⟩, ⟨(some 28), none, (.mv (.t 150))⟩, ⟨(some 29), none, (.mv (.t 151))⟩]) (.seq (.reg 25 [⟨(some 153), none, (.ld 5 true (.t 16))⟩, ⟨(some 154), none, (.mv (.t 26))⟩,
  ⟨(some 155), none, (.call 18 [(.t 153), (.t 154)])⟩, ⟨(some 152), none, (.mv (.t 155))⟩, ⟨(some 156), none, (.ext (.t 152) 0)⟩, ⟨(some 157), none, (.ext (.t 152) 1)⟩, ⟨(some
  158), none, (.ext (.t 152) 2)⟩, ⟨(some 30), none, (.mv (.t 156))⟩, ⟨(some 31), none, (.mv (.t 157))⟩, ⟨(some 32), none, (.mv (.t 158))⟩]) (.seq (.reg 26 [⟨(some 159), none, (.mv
  (.t 27))⟩, ⟨(some 160), none, (.call 30 [(.t 159)])⟩, ⟨(some 161), none, (.un .not (.t 160))⟩, ⟨(some 162), none, (.mv (.t 161))⟩, ⟨(some 163), (some (162, false)), (.mv (.t
  28))⟩, ⟨(some 164), (some (162, false)), (.call 30 [(.t 163)])⟩, ⟨(some 165), (some (162, false)), (.un .not (.t 164))⟩, ⟨(some 166), none, (.pick (.t 162) (.k (.v (.bool true)))
  (.t 165))⟩, ⟨(some 167), none, (.mv (.t 166))⟩, ⟨(some 168), (some (167, false)), (.mv (.t 30))⟩, ⟨(some 169), (some (167, false)), (.call 30 [(.t 168)])⟩, ⟨(some 170), (some
  (167, false)), (.un .not (.t 169))⟩, ⟨(some 171), none, (.pick (.t 167) (.k (.v (.bool true))) (.t 170))⟩, ⟨(some 172), none, (.mv (.t 171))⟩, ⟨(some 173), (some (172, false)),
  (.mv (.t 31))⟩, ⟨(some 174), (some (172, false)), (.call 30 [(.t 173)])⟩, ⟨(some 175), (some (172, false)), (.un .not (.t 174))⟩, ⟨(some 176), none, (.pick (.t 172) (.k (.v
  (.bool true))) (.t 175))⟩]) (.cond (.t 176) (.seq (.reg 27 [⟨(some 177), none, (.mv (.t 13))⟩, ⟨(some 12), none, (.mv (.t 177))⟩]) .ret) .nop))))) (.reg 23 [⟨(some 143), none,
  (.mv (.t 26))⟩, ⟨(some 144), none, (.bin .add .int (.t 143) (.k (.v (.int .i64 1))))⟩, ⟨(some 26), none, (.mv (.t 144))⟩])))))) (.seq (.reg 28 [⟨(some 178), none, (.mv (.t 3))⟩,
  ⟨(some 179), none, (.call 15 [(.t 178), (.k (.v (.int .i64 3001)))])⟩, ⟨(some 180), none, (.bin .sub .int (.t 179) (.k (.v (.int .i64 1500))))⟩, ⟨(some 33), none, (.mv (.t
  180))⟩]) (.seq (.reg 29 [⟨(some 182), none, (.ld 5 true (.t 14))⟩, ⟨(some 183), none, (.mv (.t 33))⟩, ⟨(some 184), none, (.ld 2 true (.t 25))⟩, ⟨(some 185), none, (.call 26 [(.t
  182), (.t 183), (.t 184)])⟩, ⟨(some 181), none, (.mv (.t 185))⟩, ⟨(some 186), none, (.ext (.t 181) 0)⟩, ⟨(some 187), none, (.ext (.t 181) 1)⟩, ⟨(some 188), none, (.ext (.t 181)
  2)⟩, ⟨(some 34), none, (.mv (.t 186))⟩, ⟨(some 35), none, (.mv (.t 187))⟩, ⟨(some 36), none, (.mv (.t 188))⟩]) (.seq (.reg 30 [⟨(some 190), none, (.ld 5 true (.t 16))⟩, ⟨(some
  191), none, (.mv (.t 33))⟩, ⟨(some 192), none, (.mv (.t 15))⟩, ⟨(some 193), none, (.bin .add .int (.t 191) (.t 192))⟩, ⟨(some 194), none, (.ld 2 true (.t 25))⟩, ⟨(some 195),
  none, (.call 26 [(.t 190), (.t 193), (.t 194)])⟩, ⟨(some 189), none, (.mv (.t 195))⟩, ⟨(some 196), none, (.ext (.t 189) 0)⟩, ⟨(some 197), none, (.ext (.t 189) 1)⟩, ⟨(some 198),
  none, (.ext (.t 189) 2)⟩, ⟨(some 37), none, (.mv (.t 196))⟩, ⟨(some 38), none, (.mv (.t 197))⟩, ⟨(some 39), none, (.mv (.t 198))⟩]) (.seq (.reg 31 [⟨(some 199), none, (.mv (.t
  36))⟩, ⟨(some 200), none, (.bin .eql .int (.t 199) (.k (.v (.int .i64 0))))⟩, ⟨(some 201), none, (.mv (.t 200))⟩, ⟨(some 202), (some (201, true)), (.mv (.t 39))⟩, ⟨(some 203),
  (some (201, true)), (.bin .eql .int (.t 202) (.k (.v (.int .i64 0))))⟩, ⟨(some 204), none, (.pick (.t 201) (.t 203) (.k (.v (.bool false))))⟩, ⟨(some 205), none, (.mv (.t 204))⟩,
  ⟨(some 206), (some (205, true)), (.mv (.t 34))⟩, ⟨(some 207), (some (205, true)), (.mv (.t 37))⟩, ⟨(some 208), (some (205, true)), (.bin .eql .int (.t 206) (.t 207))⟩, ⟨(some
  209), none, (.pick (.t 205) (.t 208) (.k (.v (.bool false))))⟩, ⟨(some 210), none, (.mv (.t 209))⟩, ⟨(some 211), (some (210, true)), (.mv (.t 35))⟩, ⟨(some 212), (some (210,
  true)), (.mv (.t 38))⟩, ⟨(some 213), (some (210, true)), (.bin .eql .int (.t 211) (.t 212))⟩, ⟨(some 214), none, (.pick (.t 210) (.t 213) (.k (.v (.bool false))))⟩, ⟨(some 12),
  none, (.mv (.t 214))⟩]) .ret))))))))))))))))))))
def rv10 : List RV := [(.t 12)]
theorem ok10 : cFun Try.prog Try.f10 = some (ac10, rv10) := by kernel_rfl
theorem nt10 : Try.f10.ntmps = 215 := by kernel_rfl
theorem of10 : okF Try.prog 10 := ⟨Try.f10, Try.func10, by kernel_rfl, by kernel_rfl⟩

/- putlog/putloglaw24.sane -/
def ac11 : AC := (.seq (.reg 0 [⟨(some 0), none, (.mv (.k (.v (.bool false))))⟩]) (.seq (.reg 1 [⟨(some 29), none, (.call 31 [])⟩, ⟨(some 1), none, (.alloc [(.v (.int .i64 0)), (.sl 0 true [] []),
  (.v (.int .i64 0)), (.v (.int .i64 0)), (.sl 0 true [] [])])⟩, ⟨none, none, (.st 5 (.t 1) (.t 29))⟩]) (.seq (.reg 2 [⟨(some 30), none, (.build [(.v (.int .i64 0)), (.v (.int .i64
  0)), (.v (.int .i64 0))] [(0, 1, (.k (.v (.int .i64 10)))), (1, 1, (.k (.v (.int .i64 98)))), (2, 1, (.k (.v (.int .i64 102))))])⟩, ⟨(some 31), none, (.build [(.v (.int .i64 0)),
  (.v (.int .i64 0)), (.v (.int .i64 0))] [(0, 1, (.k (.v (.int .i64 15)))), (1, 1, (.k (.v (.int .i64 103)))), (2, 1, (.k (.v (.int .i64 117))))])⟩, ⟨(some 32), none, (.build [(.v
  (.int .i64 0)), (.v (.int .i64 0)), (.v (.int .i64 0))] [(0, 1, (.k (.v (.int .i64 20)))), (1, 1, (.k (.v (.int .i64 118)))), (2, 1, (.k (.v (.int .i64 122))))])⟩, ⟨(some 33),
  none, (.build [(.v (.int .i64 0)), (.v (.int .i64 0)), (.v (.int .i64 0))] [(0, 1, (.k (.v (.int .i64 30)))), (1, 1, (.k (.v (.int .i64 88)))), (2, 1, (.k (.v (.int .i64
  152))))])⟩, ⟨(some 34), none, (.bsl 3 4 [(.v (.int .i64 0)), (.v (.int .i64 0)), (.v (.int .i64 0))] [(0, (.t 30)), (1, (.t 31)), (2, (.t 32)), (3, (.t 33))])⟩, ⟨(some 2), none,
  (.mv (.t 34))⟩]) (.seq (.seq (.reg 3 [⟨(some 3), none, (.mv (.k (.v (.int .i64 0))))⟩]) (.block 0 (.loop (.seq (.seq (.reg 4 [⟨(some 35), none, (.mv (.t 3))⟩, ⟨(some 36), none,
  (.mv (.t 2))⟩, ⟨(some 37), none, (.len (.t 36))⟩, ⟨(some 38), none, (.bin .lss .int (.t 35) (.t 37))⟩]) (.cond (.t 38) .nop (.exit 0))) (.seq (.block 1 (.seq (.drw 6 [⟨(some 42),
  none, (.ld 5 true (.t 1))⟩, ⟨(some 43), none, (.mv (.t 2))⟩, ⟨(some 44), none, (.mv (.t 3))⟩, ⟨(some 45), none, (.ia 3 (.t 43) (.t 44))⟩, ⟨(some 46), none, (.iaA 3 1 (.t 45) (.k
  (.v (.int .i64 0))))⟩, ⟨(some 47), none, (.ld 1 false (.t 46))⟩, ⟨(some 48), none, (.call 18 [(.t 42), (.t 47)])⟩, ⟨(some 41), none, (.mv (.t 48))⟩, ⟨(some 49), none, (.ext (.t
  41) 0)⟩, ⟨(some 50), none, (.ext (.t 41) 1)⟩, ⟨(some 51), none, (.ext (.t 41) 2)⟩, ⟨(some 4), none, (.mv (.t 49))⟩, ⟨(some 5), none, (.mv (.t 50))⟩, ⟨(some 6), none, (.mv (.t
  51))⟩] []) (.seq (.reg 7 [⟨(some 52), none, (.mv (.t 6))⟩, ⟨(some 53), none, (.bin .neq .int (.t 52) (.k (.v (.int .i64 0))))⟩, ⟨(some 54), none, (.mv (.t 53))⟩, ⟨(some 55),
  (some (54, false)), (.mv (.t 4))⟩, ⟨(some 56), (some (54, false)), (.mv (.t 2))⟩, ⟨(some 57), (some (54, false)), (.mv (.t 3))⟩, ⟨(some 58), (some (54, false)), (.ia 3 (.t 56)
  (.t 57))⟩, ⟨(some 59), (some (54, false)), (.iaA 3 1 (.t 58) (.k (.v (.int .i64 1))))⟩, ⟨(some 60), (some (54, false)), (.ld 1 false (.t 59))⟩, ⟨(some 61), (some (54, false)),
  (.bin .neq .int (.t 55) (.t 60))⟩, ⟨(some 62), none, (.pick (.t 54) (.k (.v (.bool true))) (.t 61))⟩, ⟨(some 63), none, (.mv (.t 62))⟩, ⟨(some 64), (some (63, false)), (.mv (.t
  5))⟩, ⟨(some 65), (some (63, false)), (.mv (.t 2))⟩, ⟨(some 66), (some (63, false)), (.mv (.t 3))⟩, ⟨(some 67), (some (63, false)), (.ia 3 (.t 65) (.t 66))⟩, ⟨(some 68), (some
  (63, false)), (.iaA 3 1 (.t 67) (.k (.v (.int .i64 2))))⟩, ⟨(some 69), (some (63, false)), (.ld 1 false (.t 68))⟩, ⟨(some 70), (some (63, false)), (.bin .neq .int (.t 64) (.t
  69))⟩, ⟨(some 71), none, (.pick (.t 63) (.k (.v (.bool true))) (.t 70))⟩]) (.cond (.t 71) (.seq (.reg 8 [⟨(some 0), none, (.mv (.k (.v (.bool false))))⟩]) .ret) .nop)))) (.reg 5
  [⟨(some 39), none, (.mv (.t 3))⟩, ⟨(some 40), none, (.bin .add .int (.t 39) (.k (.v (.int .i64 1))))⟩, ⟨(some 3), none, (.mv (.t 40))⟩])))))) (.seq (.reg 9 [⟨(some 73), none,
  (.ld 5 true (.t 1))⟩, ⟨(some 74), none, (.call 20 [(.t 73), (.k (.v (.int .i64 10)))])⟩, ⟨(some 72), none, (.mv (.t 74))⟩, ⟨(some 75), none, (.ext (.t 72) 0)⟩, ⟨(some 76), none,
  (.ext (.t 72) 1)⟩, ⟨(some 77), none, (.ext (.t 72) 2)⟩, ⟨(some 7), none, (.mv (.t 75))⟩, ⟨(some 8), none, (.mv (.t 76))⟩, ⟨(some 9), none, (.mv (.t 77))⟩]) (.seq (.reg 10 [⟨(some
  79), none, (.ld 5 true (.t 1))⟩, ⟨(some 80), none, (.call 20 [(.t 79), (.k (.v (.int .i64 15)))])⟩, ⟨(some 78), none, (.mv (.t 80))⟩, ⟨(some 81), none, (.ext (.t 78) 0)⟩, ⟨(some
  82), none, (.ext (.t 78) 1)⟩, ⟨(some 83), none, (.ext (.t 78) 2)⟩, ⟨(some 10), none, (.mv (.t 81))⟩, ⟨(some 11), none, (.mv (.t 82))⟩, ⟨(some 12), none, (.mv (.t 83))⟩]) (.seq
  (.reg 11 [⟨(some 85), none, (.ld 5 true (.t 1))⟩, ⟨(some 86), none, (.build [(.v (.int .i64 0)), (.v (.int .i64 0))] [(0, 1, (.k (.v (.int .i64 0)))), (1, 1, (.k (.v (.int .i64
  20))))])⟩, ⟨(some 87), none, (.call 24 [(.t 85), (.k (.v (.int .i64 116))), (.t 86)])⟩, ⟨(some 84), none, (.mv (.t 87))⟩, ⟨(some 88), none, (.ext (.t 84) 0)⟩, ⟨(some 89), none,
  (.ext (.t 84) 1)⟩, ⟨(some 13), none, (.mv (.t 88))⟩, ⟨(some 14), none, (.mv (.t 89))⟩]) (.seq (.reg 12 [⟨(some 91), none, (.ld 5 true (.t 1))⟩, ⟨(some 92), none, (.build [(.v
  (.int .i64 0)), (.v (.int .i64 0))] [(0, 1, (.k (.v (.int .i64 0)))), (1, 1, (.k (.v (.int .i64 21))))])⟩, ⟨(some 93), none, (.call 24 [(.t 91), (.k (.v (.int .i64 116))), (.t
  92)])⟩, ⟨(some 90), none, (.mv (.t 93))⟩, ⟨(some 94), none, (.ext (.t 90) 0)⟩, ⟨(some 95), none, (.ext (.t 90) 1)⟩, ⟨(some 15), none, (.mv (.t 94))⟩, ⟨(some 16), none, (.mv (.t
  95))⟩]) (.seq (.reg 13 [⟨(some 97), none, (.ld 5 true (.t 1))⟩, ⟨(some 98), none, (.build [(.v (.int .i64 0)), (.v (.int .i64 0))] [(0, 1, (.k (.v (.int .i64 20)))), (1, 1, (.k
  (.v (.int .i64 21))))])⟩, ⟨(some 99), none, (.call 24 [(.t 97), (.k (.v (.int .i64 122))), (.t 98)])⟩, ⟨(some 96), none, (.mv (.t 99))⟩, ⟨(some 100), none, (.ext (.t 96) 0)⟩,
  ⟨(some 101), none, (.ext (.t 96) 1)⟩, ⟨(some 17), none, (.mv (.t 100))⟩, ⟨(some 18), none, (.mv (.t 101))⟩]) (.seq (.reg 14 [⟨(some 103), none, (.ld 5 true (.t 1))⟩, ⟨(some 104),
  none, (.build [(.v (.int .i64 0)), (.v (.int .i64 0))] [(0, 1, (.k (.v (.int .i64 0)))), (1, 1, (.k (.v (.int .i64 30))))])⟩, ⟨(some 105), none, (.call 26 [(.t 103), (.k (.v
  (.int .i64 110))), (.t 104)])⟩, ⟨(some 102), none, (.mv (.t 105))⟩, ⟨(some 106), none, (.ext (.t 102) 0)⟩, ⟨(some 107), none, (.ext (.t 102) 1)⟩, ⟨(some 108), none, (.ext (.t
  102) 2)⟩, ⟨(some 19), none, (.mv (.t 106))⟩, ⟨(some 20), none, (.mv (.t 107))⟩, ⟨(some 21), none, (.mv (.t 108))⟩]) (.seq (.reg 15 [⟨(some 110), none, (.ld 5 true (.t 1))⟩,
  ⟨(some 111), none, (.fa 0 (.t 1))⟩, ⟨(some 112), none, (.ld 2 true (.t 111))⟩, ⟨(some 113), none, (.build [(.v (.int .i64 0)), (.v (.int .i64 0))] [(0, 1, (.k (.v (.int .i64
  15)))), (1, 1, (.k (.v (.int .i64 105))))])⟩, ⟨(some 114), none, (.bsl 2 1 [(.v (.int .i64 0)), (.v (.int .i64 0))] [(0, (.t 113))])⟩, ⟨(some 115), none, (.build [(.v (.int .i64
  0)), (.sl 0 true [] []), (.v (.int .i64 0)), (.v (.int .i64 0)), (.sl 0 true [] [])] [(0, 2, (.t 112)), (3, 1, (.k (.v (.int .i64 1)))), (4, 1, (.t 114))])⟩, ⟨(some 116), none,
  (.call 22 [(.t 110), (.t 115), (.k (.v (.int .i64 15)))])⟩, ⟨(some 109), none, (.mv (.t 116))⟩, ⟨(some 117), none, (.ext (.t 109) 0)⟩, ⟨(some 118), none, (.ext (.t 109) 1)⟩,
  ⟨(some 119), none, (.ext (.t 109) 2)⟩, ⟨(some 22), none, (.mv (.t 117))⟩, ⟨(some 23), none, (.mv (.t 118))⟩, ⟨(some 24), none, (.mv (.t 119))⟩]) (.seq (.reg 16 [⟨(some 121),
  none, (.ld 5 true (.t 1))⟩, ⟨(some 122), none, (.fa 0 (.t 1))⟩, ⟨(some 123), none, (.ld 2 true (.t 122))⟩, ⟨(some 124), none, (.build [(.v (.int .i64 0)), (.v (.int .i64 0))]
  [(0, 1, (.k (.v (.int .i64 15)))), (1, 1, (.k (.v (.int .i64 99))))])⟩, ⟨(some 125), none, (.bsl 2 1 [(.v (.int .i64 0)), (.v (.int .i64 0))] [(0, (.t 124))])⟩, ⟨(some 126),
  none, (.build [(.v (.int .i64 0)), (.sl 0 true [] []), (.v (.int .i64 0)), (.v (.int .i64 0)), (.sl 0 true [] [])] [(0, 2, (.t 123)), (3, 1, (.k (.v (.int .i64 1)))), (4, 1, (.t
  125))])⟩, ⟨(some 127), none, (.call 22 [(.t 121), (.t 126), (.k (.v (.int .i64 15)))])⟩, ⟨(some 120), none, (.mv (.t 127))⟩, ⟨(some 128), none, (.ext (.t 120) 0)⟩, ⟨(some 129),
  none, (.ext (.t 120) 1)⟩, ⟨(some 130), none, (.ext (.t 120) 2)⟩, ⟨(some 25), none, (.mv (.t 128))⟩, ⟨(some 26), none, (.mv (.t 129))⟩, ⟨(some 27), none, (.mv (.t 130))⟩]) (.seq
  (.reg 17 [⟨(some 131), none, (.mv (.t 9))⟩, ⟨(some 132), none, (.bin .eql .int (.t 131) (.k (.v (.int .i64 0))))⟩, ⟨(some 133), none, (.mv (.t 132))⟩, ⟨(some 134), (some (133,
  true)), (.mv (.t 12))⟩, ⟨(some 135), (some (133, true)), (.bin .eql .int (.t 134) (.k (.v (.int .i64 0))))⟩, ⟨(some 136), none, (.pick (.t 133) (.t 135) (.k (.v (.bool
  false))))⟩, ⟨(some 137), none, (.mv (.t 136))⟩, ⟨(some 138), (some (137, true)), (.mv (.t 14))⟩, ⟨(some 139), (some (137, true)), (.bin .eql .int (.t 138) (.k (.v (.int .i64
  0))))⟩, ⟨(some 140), none, (.pick (.t 137) (.t 139) (.k (.v (.bool false))))⟩, ⟨(some 141), none, (.mv (.t 140))⟩, ⟨(some 142), (some (141, true)), (.mv (.t 16))⟩, ⟨(some 143),
  (some (141, true)), (.bin .eql .int (.t 142) (.k (.v (.int .i64 0))))⟩, ⟨(some 144), none, (.pick (.t 141) (.t 143) (.k (.v (.bool false))))⟩, ⟨(some 145), none, (.mv (.t 144))⟩,
  ⟨(some 146), (some (145, true)), (.mv (.t 18))⟩, ⟨(some 147), (some (145, true)), (.bin .eql .int (.t 146) (.k (.v (.int .i64 0))))⟩, ⟨(some 148), none, (.pick (.t 145) (.t 147)
  (.k (.v (.bool false))))⟩, ⟨(some 149), none, (.mv (.t 148))⟩, ⟨(some 150), (some (149, true)), (.mv (.t 21))⟩, ⟨(some 151), (some (149, true)), (.bin .eql .int (.t 150) (.k (.v
  (.int .i64 0))))⟩, ⟨(some 152), none, (.pick (.t 149) (.t 151) (.k (.v (.bool false))))⟩, ⟨(some 153), none, (.mv (.t 152))⟩, ⟨(some 154), (some (153, true)), (.mv (.t 24))⟩,
  ⟨(some 155), (some (153, true)), (.bin .eql .int (.t 154) (.k (.v (.int .i64 0))))⟩, ⟨(some 156), none, (.pick (.t 153) (.t 155) (.k (.v (.bool false))))⟩, ⟨(some 157), none,
  (.mv (.t 156))⟩, ⟨(some 158), (some (157, true)), (.mv (.t 27))⟩, ⟨(some 159), (some (157, true)), (.bin .eql .int (.t 158) (.k (.v (.int .i64 240))))⟩, ⟨(some 160), none, (.pick
  (.t 157) (.t 159) (.k (.v (.bool false))))⟩, ⟨(some 28), none, (.mv (.t 160))⟩]) (.seq (.reg 18 [⟨(some 161), none, (.mv (.t 28))⟩, ⟨(some 162), none, (.mv (.t 161))⟩, ⟨(some
  163), (some (162, true)), (.mv (.t 7))⟩, ⟨(some 164), (some (162, true)), (.bin .eql .int (.t 163) (.k (.v (.int .i64 0))))⟩, ⟨(some 165), none, (.pick (.t 162) (.t 164) (.k (.v
  (.bool false))))⟩, ⟨(some 166), none, (.mv (.t 165))⟩, ⟨(some 167), (some (166, true)), (.mv (.t 8))⟩, ⟨(some 168), (some (166, true)), (.bin .eql .int (.t 167) (.k (.v (.int
  .i64 0))))⟩, ⟨(some 169), none, (.pick (.t 166) (.t 168) (.k (.v (.bool false))))⟩, ⟨(some 170), none, (.mv (.t 169))⟩, ⟨(some 171), (some (170, true)), (.mv (.t 10))⟩, ⟨(some
  172), (some (170, true)), (.bin .eql .int (.t 171) (.k (.v (.int .i64 1))))⟩, ⟨(some 173), none, (.pick (.t 170) (.t 172) (.k (.v (.bool false))))⟩, ⟨(some 174), none, (.mv (.t
  173))⟩, ⟨(some 175), (some (174, true)), (.mv (.t 11))⟩, ⟨(some 176), (some (174, true)), (.bin .eql .int (.t 175) (.k (.v (.int .i64 0))))⟩, ⟨(some 177), none, (.pick (.t 174)
  (.t 176) (.k (.v (.bool false))))⟩, ⟨(some 178), none, (.mv (.t 177))⟩, ⟨(some 179), (some (178, true)), (.mv (.t 13))⟩, ⟨(some 180), (some (178, true)), (.bin .eql .int (.t 179)
  (.k (.v (.int .i64 1))))⟩, ⟨(some 181), none, (.pick (.t 178) (.t 180) (.k (.v (.bool false))))⟩, ⟨(some 182), none, (.mv (.t 181))⟩, ⟨(some 183), (some (182, true)), (.mv (.t
  15))⟩, ⟨(some 184), (some (182, true)), (.bin .eql .int (.t 183) (.k (.v (.int .i64 2))))⟩, ⟨(some 185), none, (.pick (.t 182) (.t 184) (.k (.v (.bool false))))⟩, ⟨(some 186),
  none, (.mv (.t 185))⟩, ⟨(some 187), (some (186, true)), (.mv (.t 17))⟩, ⟨(some 188), (some (186, true)), (.bin .eql .int (.t 187) (.k (.v (.int .i64 0))))⟩, ⟨(some 189), none,
  (.pick (.t 186) (.t 188) (.k (.v (.bool false))))⟩, ⟨(some 190), none, (.mv (.t 189))⟩, ⟨(some 191), (some (190, true)), (.mv (.t 19))⟩, ⟨(some 192), (some (190, true)), (.bin
  .eql .int (.t 191) (.k (.v (.int .i64 18))))⟩, ⟨(some 193), none, (.pick (.t 190) (.t 192) (.k (.v (.bool false))))⟩, ⟨(some 194), none, (.mv (.t 193))⟩, ⟨(some 195), (some (194,
  true)), (.mv (.t 20))⟩, ⟨(some 196), (some (194, true)), (.bin .eql .int (.t 195) (.k (.v (.int .i64 0))))⟩, ⟨(some 197), none, (.pick (.t 194) (.t 196) (.k (.v (.bool
  false))))⟩, ⟨(some 198), none, (.mv (.t 197))⟩, ⟨(some 199), (some (198, true)), (.mv (.t 22))⟩, ⟨(some 200), (some (198, true)), (.bin .eql .int (.t 199) (.k (.v (.int .i64
  105))))⟩, ⟨(some 201), none, (.pick (.t 198) (.t 200) (.k (.v (.bool false))))⟩, ⟨(some 202), none, (.mv (.t 201))⟩, ⟨(some 203), (some (202, true)), (.mv (.t 23))⟩, ⟨(some 204),
  (some (202, true)), (.bin .eql .int (.t 203) (.k (.v (.int .i64 105))))⟩, ⟨(some 205), none, (.pick (.t 202) (.t 204) (.k (.v (.bool false))))⟩, ⟨(some 206), none, (.mv (.t
  205))⟩, ⟨(some 207), (some (206, true)), (.ld 5 true (.t 1))⟩, ⟨(some 208), (some (206, true)), (.call 16 [(.t 207)])⟩, ⟨(some 209), none, (.pick (.t 206) (.t 208) (.k (.v (.bool
  false))))⟩, ⟨(some 210), none, (.mv (.t 209))⟩, ⟨(some 211), (some (210, true)), (.build [(.v (.int .i64 0)), (.sl 0 true [] []), (.v (.int .i64 0)), (.v (.int .i64 0)), (.sl 0
  true [] [])] [(3, 1, (.k (.v (.int .i64 (-1)))))])⟩, ⟨(some 212), (some (210, true)), (.call 16 [(.t 211)])⟩, ⟨(some 213), (some (210, true)), (.un .not (.t 212))⟩, ⟨(some 214),
  none, (.pick (.t 210) (.t 213) (.k (.v (.bool false))))⟩, ⟨(some 0), none, (.mv (.t 214))⟩]) .ret))))))))))))))
def rv11 : List RV := [(.t 0)]
theorem ok11 : cFun Try.prog Try.f11 = some (ac11, rv11) := by kernel_rfl
theorem nt11 : Try.f11.ntmps = 215 := by kernel_rfl
theorem of11 : okF Try.prog 11 := ⟨Try.f11, Try.func11, by kernel_rfl, by kernel_rfl⟩

/- putlog/putlogref24.Made -/
def ac12 : AC := (.seq (.reg 0 [⟨(some 1), none, (.box 9 (.t 0))⟩, ⟨(some 2), none, (.alloc [(.v (.int .i64 0)), (.sl 0 true [] []), (.v (.int .i64 0)), (.v (.int .i64 0)), (.sl 0 true [] [])])⟩])
  (.seq (.reg 1 [⟨(some 3), none, (.mv (.k (.sl 0 true [] [])))⟩]) (.seq (.seq (.reg 2 [⟨(some 4), none, (.mv (.k (.v (.int .i64 0))))⟩]) (.block 0 (.loop (.seq (.seq (.reg 3
  [⟨(some 10), none, (.mv (.t 4))⟩, ⟨(some 11), none, (.fa 3 (.t 1))⟩, ⟨(some 12), none, (.ld 1 false (.t 11))⟩, ⟨(some 13), none, (.len (.t 12))⟩, ⟨(some 14), none, (.bin .lss
  .int (.t 10) (.t 13))⟩, ⟨(some 15), none, (.mv (.t 14))⟩, ⟨(some 16), (some (15, true)), (.mv (.t 4))⟩, ⟨(some 17), (some (15, true)), (.bin .lss .int (.t 16) (.k (.v (.int .i64
  5))))⟩, ⟨(some 18), none, (.pick (.t 15) (.t 17) (.k (.v (.bool false))))⟩]) (.cond (.t 18) .nop (.exit 0))) (.seq (.block 1 (.drw 5 [⟨(some 21), none, (.mv (.t 3))⟩, ⟨(some 22),
  none, (.fa 3 (.t 1))⟩, ⟨(some 23), none, (.ld 1 false (.t 22))⟩, ⟨(some 24), none, (.mv (.t 4))⟩, ⟨(some 25), none, (.ia 3 (.t 23) (.t 24))⟩, ⟨(some 26), none, (.iaA 3 1 (.t 25)
  (.k (.v (.int .i64 0))))⟩, ⟨(some 27), none, (.ld 1 false (.t 26))⟩, ⟨(some 28), none, (.call 32 [(.t 27), (.k (.v (.int .i64 360)))])⟩, ⟨(some 29), none, (.fa 3 (.t 1))⟩, ⟨(some
  30), none, (.ld 1 false (.t 29))⟩, ⟨(some 31), none, (.mv (.t 4))⟩, ⟨(some 32), none, (.ia 3 (.t 30) (.t 31))⟩, ⟨(some 33), none, (.iaA 3 1 (.t 32) (.k (.v (.int .i64 1))))⟩,
  ⟨(some 34), none, (.ld 1 false (.t 33))⟩, ⟨(some 35), none, (.fa 3 (.t 1))⟩, ⟨(some 36), none, (.ld 1 false (.t 35))⟩, ⟨(some 37), none, (.mv (.t 4))⟩, ⟨(some 38), none, (.ia 3
  (.t 36) (.t 37))⟩, ⟨(some 39), none, (.iaA 3 1 (.t 38) (.k (.v (.int .i64 2))))⟩, ⟨(some 40), none, (.ld 1 false (.t 39))⟩, ⟨(some 41), none, (.build [(.v (.int .i64 0)), (.v
  (.int .i64 0)), (.v (.int .i64 0))] [(0, 1, (.t 28)), (1, 1, (.t 34)), (2, 1, (.t 40))])⟩, ⟨(some 42), none, (.bsl 3 1 [(.v (.int .i64 0)), (.v (.int .i64 0)), (.v (.int .i64
  0))] [(0, (.t 41))])⟩, ⟨(some 43), none, (.app 3 24 [(.v (.int .i64 0)), (.v (.int .i64 0)), (.v (.int .i64 0))] (.t 21) (.t 42))⟩, ⟨(some 3), none, (.mv (.t 43))⟩] [(7, 9), (7,
  11), (7, 13), (7, 15), (7, 17), (7, 19)])) (.reg 4 [⟨(some 19), none, (.mv (.t 4))⟩, ⟨(some 20), none, (.bin .add .int (.t 19) (.k (.v (.int .i64 1))))⟩, ⟨(some 4), none, (.mv
  (.t 20))⟩])))))) (.seq (.drw 6 [⟨(some 44), none, (.fa 0 (.t 1))⟩, ⟨(some 45), none, (.ld 1 false (.t 44))⟩, ⟨(some 46), none, (.fa 1 (.t 1))⟩, ⟨(some 47), none, (.ld 1 false (.t
  46))⟩, ⟨(some 48), none, (.fa 2 (.t 1))⟩, ⟨(some 49), none, (.ld 1 false (.t 48))⟩, ⟨(some 50), none, (.mv (.t 3))⟩, ⟨(some 51), none, (.call 33 [(.t 45), (.t 47), (.t 49), (.t
  50)])⟩, ⟨(some 52), none, (.ld 9 true (.t 1))⟩, ⟨(some 53), none, (.call 34 [(.t 52)])⟩, ⟨(some 54), none, (.ld 9 true (.t 1))⟩, ⟨(some 55), none, (.call 35 [(.t 54)])⟩, ⟨(some
  56), none, (.build [(.v (.int .i64 0)), (.sl 0 true [] []), (.v (.int .i64 0)), (.v (.int .i64 0)), (.sl 0 true [] [])] [(0, 2, (.t 51)), (2, 1, (.t 53)), (3, 1, (.t 55))])⟩,
  ⟨(some 5), none, (.alloc [(.v (.int .i64 0)), (.sl 0 true [] []), (.v (.int .i64 0)), (.v (.int .i64 0)), (.sl 0 true [] [])])⟩, ⟨none, none, (.st 5 (.t 5) (.t 56))⟩] [(7, 8),
  (7, 10), (9, 10), (1, 13), (3, 13), (5, 13), (7, 13), (8, 13), (9, 13), (10, 13), (11, 13)]) (.seq (.reg 7 [⟨(some 6), none, (.mv (.k (.v (.int .i64 0))))⟩]) (.seq (.seq (.reg 8
  [⟨(some 7), none, (.mv (.k (.v (.int .i64 0))))⟩]) (.block 2 (.loop (.seq (.seq (.reg 9 [⟨(some 57), none, (.mv (.t 7))⟩, ⟨(some 58), none, (.fa 8 (.t 1))⟩, ⟨(some 59), none,
  (.ld 1 false (.t 58))⟩, ⟨(some 60), none, (.len (.t 59))⟩, ⟨(some 61), none, (.bin .lss .int (.t 57) (.t 60))⟩, ⟨(some 62), none, (.mv (.t 61))⟩, ⟨(some 63), (some (62, true)),
  (.mv (.t 7))⟩, ⟨(some 64), (some (62, true)), (.bin .lss .int (.t 63) (.k (.v (.int .i64 12))))⟩, ⟨(some 65), none, (.pick (.t 62) (.t 64) (.k (.v (.bool false))))⟩]) (.cond (.t
  65) .nop (.exit 2))) (.seq (.block 3 (.seq (.reg 11 [⟨(some 68), none, (.mv (.t 6))⟩, ⟨(some 69), none, (.fa 8 (.t 1))⟩, ⟨(some 70), none, (.ld 1 false (.t 69))⟩, ⟨(some 71),
  none, (.mv (.t 7))⟩, ⟨(some 72), none, (.ia 2 (.t 70) (.t 71))⟩, ⟨(some 73), none, (.iaA 2 1 (.t 72) (.k (.v (.int .i64 0))))⟩, ⟨(some 74), none, (.ld 1 false (.t 73))⟩, ⟨(some
  75), none, (.call 32 [(.t 74), (.k (.v (.int .i64 31)))])⟩, ⟨(some 76), none, (.bin .add .int (.t 68) (.t 75))⟩, ⟨(some 6), none, (.mv (.t 76))⟩]) (.seq (.drw 12 [⟨(some 77),
  none, (.fa 0 (.t 1))⟩, ⟨(some 78), none, (.ld 1 false (.t 77))⟩, ⟨(some 79), none, (.fa 1 (.t 1))⟩, ⟨(some 80), none, (.ld 1 false (.t 79))⟩, ⟨(some 81), none, (.fa 2 (.t 1))⟩,
  ⟨(some 82), none, (.ld 1 false (.t 81))⟩, ⟨(some 83), none, (.mv (.t 6))⟩, ⟨(some 84), none, (.call 36 [(.t 78), (.t 80), (.t 82), (.t 83)])⟩, ⟨(some 85), none, (.ld 9 true (.t
  1))⟩, ⟨(some 86), none, (.mv (.t 6))⟩, ⟨(some 87), none, (.call 28 [(.t 85), (.t 86)])⟩, ⟨(some 88), none, (.fa 8 (.t 1))⟩, ⟨(some 89), none, (.ld 1 false (.t 88))⟩, ⟨(some 90),
  none, (.mv (.t 7))⟩, ⟨(some 91), none, (.ia 2 (.t 89) (.t 90))⟩, ⟨(some 92), none, (.iaA 2 1 (.t 91) (.k (.v (.int .i64 1))))⟩, ⟨(some 93), none, (.ld 1 false (.t 92))⟩, ⟨(some
  94), none, (.fa 2 (.t 5))⟩, ⟨(some 95), none, (.ld 1 false (.t 94))⟩, ⟨(some 96), none, (.bin .mul .int (.k (.v (.int .i64 2))) (.t 95))⟩, ⟨(some 97), none, (.bin .add .int (.t
  96) (.k (.v (.int .i64 1))))⟩, ⟨(some 98), none, (.call 32 [(.t 93), (.t 97)])⟩, ⟨(some 99), none, (.bin .add .int (.t 87) (.t 98))⟩, ⟨(some 100), none, (.fa 2 (.t 5))⟩, ⟨(some
  101), none, (.ld 1 false (.t 100))⟩, ⟨(some 102), none, (.bin .sub .int (.t 99) (.t 101))⟩, ⟨(some 103), none, (.build [(.v (.int .i64 0)), (.v (.int .i64 0))] [(0, 1, (.t 84)),
  (1, 1, (.t 102))])⟩, ⟨(some 8), none, (.alloc [(.v (.int .i64 0)), (.v (.int .i64 0))])⟩, ⟨none, none, (.st 2 (.t 8) (.t 103))⟩] [(7, 8), (7, 12), (10, 12), (7, 14), (10, 14),
  (7, 16), (10, 16), (7, 18), (10, 18), (7, 24), (10, 24), (21, 24), (1, 27), (3, 27), (5, 27), (7, 27), (8, 27), (10, 27), (12, 27), (14, 27), (16, 27), (18, 27), (21, 27), (24,
  27)]) (.seq (.reg 13 [⟨(some 104), none, (.fa 4 (.t 5))⟩, ⟨(some 105), none, (.ld 1 false (.t 104))⟩, ⟨(some 106), none, (.len (.t 105))⟩, ⟨(some 9), none, (.mv (.t 106))⟩])
  (.seq (.drw 14 [⟨(some 107), none, (.mv (.t 9))⟩, ⟨(some 108), none, (.bin .eql .int (.t 107) (.k (.v (.int .i64 0))))⟩, ⟨(some 109), none, (.mv (.t 108))⟩, ⟨(some 110), (some
  (109, false)), (.fa 4 (.t 5))⟩, ⟨(some 111), (some (109, false)), (.ld 1 false (.t 110))⟩, ⟨(some 112), (some (109, false)), (.mv (.t 9))⟩, ⟨(some 113), (some (109, false)),
  (.bin .sub .int (.t 112) (.k (.v (.int .i64 1))))⟩, ⟨(some 114), (some (109, false)), (.ia 2 (.t 111) (.t 113))⟩, ⟨(some 115), (some (109, false)), (.fa 0 (.t 114))⟩, ⟨(some
  116), (some (109, false)), (.ld 1 false (.t 115))⟩, ⟨(some 117), (some (109, false)), (.fa 0 (.t 8))⟩, ⟨(some 118), (some (109, false)), (.ld 1 false (.t 117))⟩, ⟨(some 119),
  (some (109, false)), (.bin .lss .int (.t 116) (.t 118))⟩, ⟨(some 120), none, (.pick (.t 109) (.k (.v (.bool true))) (.t 119))⟩] []) (.cond (.t 120) (.reg 15 [⟨(some 121), none,
  (.fa 4 (.t 5))⟩, ⟨(some 122), none, (.ld 1 false (.t 121))⟩, ⟨(some 123), none, (.ld 2 true (.t 8))⟩, ⟨(some 124), none, (.bsl 2 1 [(.v (.int .i64 0)), (.v (.int .i64 0))] [(0,
  (.t 123))])⟩, ⟨(some 125), none, (.app 2 16 [(.v (.int .i64 0)), (.v (.int .i64 0))] (.t 122) (.t 124))⟩, ⟨(some 126), none, (.fa 4 (.t 5))⟩, ⟨none, none, (.st 1 (.t 126) (.t
  125))⟩]) .nop)))))) (.reg 10 [⟨(some 66), none, (.mv (.t 7))⟩, ⟨(some 67), none, (.bin .add .int (.t 66) (.k (.v (.int .i64 1))))⟩, ⟨(some 7), none, (.mv (.t 67))⟩])))))) (.seq
  (.reg 16 [⟨(some 127), none, (.ld 5 true (.t 5))⟩, ⟨none, none, (.st 5 (.t 2) (.t 127))⟩]) .ret)))))))
def rv12 : List RV := [(.c 2 5 true)]
theorem ok12 : cFun Try.prog Try.f12 = some (ac12, rv12) := by kernel_rfl
theorem nt12 : Try.f12.ntmps = 128 := by kernel_rfl
theorem of12 : okF Try.prog 12 := ⟨Try.f12, Try.func12, by kernel_rfl, by kernel_rfl⟩

/- putlog/putlogref24.Exact -/
def ac13 : AC := (.seq (.reg 0 [⟨(some 1), none, (.box 9 (.t 0))⟩, ⟨(some 2), none, (.alloc [(.v (.int .i64 0)), (.sl 0 true [] []), (.v (.int .i64 0)), (.v (.int .i64 0)), (.sl 0 true [] [])])⟩])
  (.seq (.drw 1 [⟨(some 6), none, (.fa 1 (.t 1))⟩, ⟨(some 7), none, (.ld 1 false (.t 6))⟩, ⟨(some 8), none, (.call 32 [(.t 7), (.k (.v (.int .i64 1000)))])⟩, ⟨(some 9), none, (.bin
  .add .int (.t 8) (.k (.v (.int .i64 50))))⟩, ⟨(some 10), none, (.build [(.v (.int .i64 0)), (.v (.int .i64 0)), (.v (.int .i64 0))] [(0, 1, (.t 9)), (1, 1, (.k (.v (.int .i64
  50)))), (2, 1, (.k (.v (.int .i64 50))))])⟩, ⟨(some 11), none, (.bsl 3 1 [(.v (.int .i64 0)), (.v (.int .i64 0)), (.v (.int .i64 0))] [(0, (.t 10))])⟩, ⟨(some 12), none, (.build
  [(.v (.int .i64 0)), (.sl 0 true [] [])] [(1, 1, (.t 11))])⟩, ⟨(some 13), none, (.ld 9 true (.t 1))⟩, ⟨(some 14), none, (.call 34 [(.t 13)])⟩, ⟨(some 15), none, (.ld 9 true (.t
  1))⟩, ⟨(some 16), none, (.call 35 [(.t 15)])⟩, ⟨(some 17), none, (.build [(.v (.int .i64 0)), (.sl 0 true [] []), (.v (.int .i64 0)), (.v (.int .i64 0)), (.sl 0 true [] [])] [(0,
  2, (.t 12)), (2, 1, (.t 14)), (3, 1, (.t 16))])⟩, ⟨(some 3), none, (.alloc [(.v (.int .i64 0)), (.sl 0 true [] []), (.v (.int .i64 0)), (.v (.int .i64 0)), (.sl 0 true [] [])])⟩,
  ⟨none, none, (.st 5 (.t 3) (.t 17))⟩] [(2, 7), (5, 7), (5, 8), (2, 9), (5, 9), (8, 9), (5, 10), (1, 12), (2, 12), (5, 12), (7, 12), (8, 12), (9, 12), (10, 12)]) (.seq (.reg 2
  [⟨(some 4), none, (.mv (.k (.v (.int .i64 0))))⟩]) (.seq (.seq (.reg 3 [⟨(some 5), none, (.mv (.k (.v (.int .i64 0))))⟩]) (.block 0 (.loop (.seq (.seq (.reg 4 [⟨(some 18), none,
  (.mv (.t 5))⟩, ⟨(some 19), none, (.fa 8 (.t 1))⟩, ⟨(some 20), none, (.ld 1 false (.t 19))⟩, ⟨(some 21), none, (.len (.t 20))⟩, ⟨(some 22), none, (.bin .lss .int (.t 18) (.t
  21))⟩, ⟨(some 23), none, (.mv (.t 22))⟩, ⟨(some 24), (some (23, true)), (.mv (.t 5))⟩, ⟨(some 25), (some (23, true)), (.bin .lss .int (.t 24) (.k (.v (.int .i64 12))))⟩, ⟨(some
  26), none, (.pick (.t 23) (.t 25) (.k (.v (.bool false))))⟩]) (.cond (.t 26) .nop (.exit 0))) (.seq (.block 1 (.seq (.reg 6 [⟨(some 29), none, (.mv (.t 4))⟩, ⟨(some 30), none,
  (.bin .add .int (.t 29) (.k (.v (.int .i64 1))))⟩, ⟨(some 31), none, (.fa 8 (.t 1))⟩, ⟨(some 32), none, (.ld 1 false (.t 31))⟩, ⟨(some 33), none, (.mv (.t 5))⟩, ⟨(some 34), none,
  (.ia 2 (.t 32) (.t 33))⟩, ⟨(some 35), none, (.iaA 2 1 (.t 34) (.k (.v (.int .i64 0))))⟩, ⟨(some 36), none, (.ld 1 false (.t 35))⟩, ⟨(some 37), none, (.call 32 [(.t 36), (.k (.v
  (.int .i64 30)))])⟩, ⟨(some 38), none, (.bin .add .int (.t 30) (.t 37))⟩, ⟨(some 4), none, (.mv (.t 38))⟩]) (.drw 7 [⟨(some 39), none, (.fa 4 (.t 3))⟩, ⟨(some 40), none, (.ld 1
  false (.t 39))⟩, ⟨(some 41), none, (.fa 1 (.t 1))⟩, ⟨(some 42), none, (.ld 1 false (.t 41))⟩, ⟨(some 43), none, (.call 32 [(.t 42), (.k (.v (.int .i64 1000)))])⟩, ⟨(some 44),
  none, (.mv (.t 4))⟩, ⟨(some 45), none, (.bin .add .int (.t 43) (.t 44))⟩, ⟨(some 46), none, (.ld 9 true (.t 1))⟩, ⟨(some 47), none, (.mv (.t 4))⟩, ⟨(some 48), none, (.call 28
  [(.t 46), (.t 47)])⟩, ⟨(some 49), none, (.fa 8 (.t 1))⟩, ⟨(some 50), none, (.ld 1 false (.t 49))⟩, ⟨(some 51), none, (.mv (.t 5))⟩, ⟨(some 52), none, (.ia 2 (.t 50) (.t 51))⟩,
  ⟨(some 53), none, (.iaA 2 1 (.t 52) (.k (.v (.int .i64 1))))⟩, ⟨(some 54), none, (.ld 1 false (.t 53))⟩, ⟨(some 55), none, (.fa 2 (.t 3))⟩, ⟨(some 56), none, (.ld 1 false (.t
  55))⟩, ⟨(some 57), none, (.bin .mul .int (.k (.v (.int .i64 4))) (.t 56))⟩, ⟨(some 58), none, (.bin .add .int (.t 57) (.k (.v (.int .i64 1))))⟩, ⟨(some 59), none, (.call 32 [(.t
  54), (.t 58)])⟩, ⟨(some 60), none, (.bin .add .int (.t 48) (.t 59))⟩, ⟨(some 61), none, (.fa 2 (.t 3))⟩, ⟨(some 62), none, (.ld 1 false (.t 61))⟩, ⟨(some 63), none, (.bin .mul
  .int (.k (.v (.int .i64 2))) (.t 62))⟩, ⟨(some 64), none, (.bin .sub .int (.t 60) (.t 63))⟩, ⟨(some 65), none, (.build [(.v (.int .i64 0)), (.v (.int .i64 0))] [(0, 1, (.t 45)),
  (1, 1, (.t 64))])⟩, ⟨(some 66), none, (.bsl 2 1 [(.v (.int .i64 0)), (.v (.int .i64 0))] [(0, (.t 65))])⟩, ⟨(some 67), none, (.app 2 16 [(.v (.int .i64 0)), (.v (.int .i64 0))]
  (.t 40) (.t 66))⟩, ⟨(some 68), none, (.fa 4 (.t 3))⟩, ⟨none, none, (.st 1 (.t 68) (.t 67))⟩] [(1, 4), (4, 7), (1, 9), (4, 11), (9, 11), (4, 13), (9, 13), (4, 15), (9, 15), (4,
  17), (9, 17), (1, 20), (4, 23), (9, 23), (20, 23), (1, 27)]))) (.reg 5 [⟨(some 27), none, (.mv (.t 5))⟩, ⟨(some 28), none, (.bin .add .int (.t 27) (.k (.v (.int .i64 1))))⟩,
  ⟨(some 5), none, (.mv (.t 28))⟩])))))) (.seq (.reg 8 [⟨(some 69), none, (.ld 5 true (.t 3))⟩, ⟨none, none, (.st 5 (.t 2) (.t 69))⟩]) .ret)))))
def rv13 : List RV := [(.c 2 5 true)]
theorem ok13 : cFun Try.prog Try.f13 = some (ac13, rv13) := by kernel_rfl
theorem nt13 : Try.f13.ntmps = 70 := by kernel_rfl
theorem of13 : okF Try.prog 13 := ⟨Try.f13, Try.func13, by kernel_rfl, by kernel_rfl⟩

/- putlog/putlogref24.Bent -/
def ac14 : AC := (.seq (.reg 0 [⟨(some 4), none, (.box 5 (.t 0))⟩, ⟨(some 8), none, (.alloc [(.v (.int .i64 0)), (.sl 0 true [] []), (.v (.int .i64 0)), (.v (.int .i64 0)), (.sl 0 true [] [])])⟩])
  (.seq (.reg 1 [⟨(some 10), none, (.bsl 2 0 [(.v (.int .i64 0)), (.v (.int .i64 0))] [])⟩, ⟨(some 11), none, (.fa 4 (.t 4))⟩, ⟨(some 12), none, (.ld 1 false (.t 11))⟩, ⟨(some 13),
  none, (.app 2 16 [(.v (.int .i64 0)), (.v (.int .i64 0))] (.t 10) (.t 12))⟩, ⟨(some 14), none, (.fa 4 (.t 4))⟩, ⟨none, none, (.st 1 (.t 14) (.t 13))⟩]) (.seq (.seq (.reg 2
  [⟨(some 15), none, (.fa 4 (.t 4))⟩, ⟨(some 16), none, (.ld 1 false (.t 15))⟩, ⟨(some 17), none, (.len (.t 16))⟩, ⟨(some 18), none, (.bin .eql .int (.t 17) (.k (.v (.int .i64
  0))))⟩]) (.cond (.t 18) (.reg 3 [⟨(some 19), none, (.mv (.t 2))⟩, ⟨(some 20), none, (.mv (.t 3))⟩, ⟨(some 21), none, (.build [(.v (.int .i64 0)), (.v (.int .i64 0))] [(0, 1, (.t
  19)), (1, 1, (.t 20))])⟩, ⟨(some 22), none, (.bsl 2 1 [(.v (.int .i64 0)), (.v (.int .i64 0))] [(0, (.t 21))])⟩, ⟨(some 23), none, (.fa 4 (.t 4))⟩, ⟨none, none, (.st 1 (.t 23)
  (.t 22))⟩]) .nop)) (.seq (.reg 4 [⟨(some 24), none, (.mv (.t 3))⟩, ⟨(some 25), none, (.fa 4 (.t 4))⟩, ⟨(some 26), none, (.ld 1 false (.t 25))⟩, ⟨(some 27), none, (.len (.t 26))⟩,
  ⟨(some 28), none, (.call 32 [(.t 24), (.t 27)])⟩, ⟨(some 9), none, (.mv (.t 28))⟩]) (.seq (.seq (.reg 5 [⟨(some 29), none, (.mv (.t 1))⟩, ⟨(some 30), none, (.call 32 [(.t 29),
  (.k (.v (.int .i64 6)))])⟩]) (.block 0 (.seq (.reg 7 [⟨(some 49), none, (.bin .eql .int (.t 30) (.k (.v (.int .i64 0))))⟩, ⟨(some 48), none, (.mv (.t 49))⟩]) (.cond (.t 48) (.reg
  8 [⟨(some 50), none, (.mv (.t 2))⟩, ⟨(some 51), none, (.fa 2 (.t 4))⟩, ⟨none, none, (.st 1 (.t 51) (.t 50))⟩]) (.seq (.reg 9 [⟨(some 53), none, (.bin .eql .int (.t 30) (.k (.v
  (.int .i64 1))))⟩, ⟨(some 52), none, (.mv (.t 53))⟩]) (.cond (.t 52) (.reg 10 [⟨(some 54), none, (.mv (.t 2))⟩, ⟨(some 55), none, (.fa 3 (.t 4))⟩, ⟨none, none, (.st 1 (.t 55) (.t
  54))⟩]) (.seq (.reg 11 [⟨(some 57), none, (.bin .eql .int (.t 30) (.k (.v (.int .i64 2))))⟩, ⟨(some 56), none, (.mv (.t 57))⟩]) (.cond (.t 56) (.reg 12 [⟨(some 58), none, (.fa 4
  (.t 4))⟩, ⟨(some 59), none, (.ld 1 false (.t 58))⟩, ⟨(some 60), none, (.mv (.t 9))⟩, ⟨(some 61), none, (.mv (.t 2))⟩, ⟨(some 62), none, (.ia 2 (.t 59) (.t 60))⟩, ⟨(some 63),
  none, (.fa 0 (.t 62))⟩, ⟨none, none, (.st 1 (.t 63) (.t 61))⟩]) (.seq (.reg 13 [⟨(some 65), none, (.bin .eql .int (.t 30) (.k (.v (.int .i64 3))))⟩, ⟨(some 64), none, (.mv (.t
  65))⟩]) (.cond (.t 64) (.reg 14 [⟨(some 66), none, (.fa 4 (.t 4))⟩, ⟨(some 67), none, (.ld 1 false (.t 66))⟩, ⟨(some 68), none, (.mv (.t 9))⟩, ⟨(some 69), none, (.mv (.t 2))⟩,
  ⟨(some 70), none, (.ia 2 (.t 67) (.t 68))⟩, ⟨(some 71), none, (.fa 1 (.t 70))⟩, ⟨none, none, (.st 1 (.t 71) (.t 69))⟩]) (.seq (.reg 15 [⟨(some 73), none, (.bin .eql .int (.t 30)
  (.k (.v (.int .i64 4))))⟩, ⟨(some 72), none, (.mv (.t 73))⟩]) (.cond (.t 72) (.reg 16 [⟨(some 74), none, (.mv (.t 2))⟩, ⟨(some 75), none, (.fa 0 (.t 4))⟩, ⟨(some 76), none, (.fa
  0 (.t 75))⟩, ⟨none, none, (.st 1 (.t 76) (.t 74))⟩]) (.drw 6 [⟨(some 31), none, (.fa 4 (.t 4))⟩, ⟨(some 32), none, (.ld 1 false (.t 31))⟩, ⟨(some 33), none, (.fa 4 (.t 4))⟩,
  ⟨(some 34), none, (.ld 1 false (.t 33))⟩, ⟨(some 35), none, (.fa 4 (.t 4))⟩, ⟨(some 36), none, (.ld 1 false (.t 35))⟩, ⟨(some 37), none, (.len (.t 36))⟩, ⟨(some 38), none, (.bin
  .sub .int (.t 37) (.k (.v (.int .i64 1))))⟩, ⟨(some 39), none, (.ia 2 (.t 34) (.t 38))⟩, ⟨(some 40), none, (.fa 0 (.t 39))⟩, ⟨(some 41), none, (.ld 1 false (.t 40))⟩, ⟨(some 42),
  none, (.bin .add .int (.t 41) (.k (.v (.int .i64 1))))⟩, ⟨(some 43), none, (.mv (.t 2))⟩, ⟨(some 44), none, (.build [(.v (.int .i64 0)), (.v (.int .i64 0))] [(0, 1, (.t 42)), (1,
  1, (.t 43))])⟩, ⟨(some 45), none, (.bsl 2 1 [(.v (.int .i64 0)), (.v (.int .i64 0))] [(0, (.t 44))])⟩, ⟨(some 46), none, (.app 2 16 [(.v (.int .i64 0)), (.v (.int .i64 0))] (.t
  32) (.t 45))⟩, ⟨(some 47), none, (.fa 4 (.t 4))⟩, ⟨none, none, (.st 1 (.t 47) (.t 46))⟩] [(1, 14)]))))))))))))) (.seq (.reg 17 [⟨(some 77), none, (.ld 5 true (.t 4))⟩, ⟨none,
  none, (.st 5 (.t 8) (.t 77))⟩]) .ret))))))
def rv14 : List RV := [(.c 8 5 true)]
theorem ok14 : cFun Try.prog Try.f14 = some (ac14, rv14) := by kernel_rfl
theorem nt14 : Try.f14.ntmps = 78 := by kernel_rfl
theorem of14 : okF Try.prog 14 := ⟨Try.f14, Try.func14, by kernel_rfl, by kernel_rfl⟩

/- putlog/putloglaw24.pick -/
def ac15 : AC := (.seq (.reg 0 [⟨(some 4), none, (.mv (.k (.v (.int .i64 0))))⟩]) (.seq (.seq (.reg 1 [⟨(some 5), none, (.mv (.t 0))⟩, ⟨(some 6), none, (.bin .lss .int (.t 5) (.k (.v (.int .i64
  0))))⟩]) (.cond (.t 6) (.reg 2 [⟨(some 7), none, (.mv (.t 0))⟩, ⟨(some 8), none, (.bin .add .int (.t 7) (.k (.v (.int .i64 1))))⟩, ⟨(some 9), none, (.un .neg (.t 8))⟩, ⟨(some 0),
  none, (.mv (.t 9))⟩]) .nop)) (.seq (.reg 3 [⟨(some 10), none, (.mv (.t 0))⟩, ⟨(some 11), none, (.mv (.t 1))⟩, ⟨(some 12), none, (.bin .rem .int (.t 10) (.t 11))⟩, ⟨(some 4),
  none, (.mv (.t 12))⟩]) .ret)))
def rv15 : List RV := [(.t 4)]
theorem ok15 : cFun Try.prog Try.f15 = some (ac15, rv15) := by kernel_rfl
theorem nt15 : Try.f15.ntmps = 13 := by kernel_rfl
theorem of15 : okF Try.prog 15 := ⟨Try.f15, Try.func15, by kernel_rfl, by kernel_rfl⟩

/- putlog/monitor.Valid -/
def ac16 : AC := (.seq (.reg 0 [⟨(some 1), none, (.box 5 (.t 0))⟩, ⟨(some 2), none, (.mv (.k (.v (.bool false))))⟩]) (.seq (.reg 1 [⟨(some 3), none, (.mv (.k (.v (.int .i64 (-1)))))⟩]) (.seq (.seq
  (.reg 2 [⟨(some 6), none, (.fa 4 (.t 1))⟩, ⟨(some 7), none, (.ld 1 false (.t 6))⟩, ⟨(some 8), none, (.len (.t 7))⟩, ⟨(some 9), none, (.mv (.k (.v (.int .i64 0))))⟩]) (.block 0
  (.loop (.seq (.reg 3 [⟨(some 10), none, (.bin .lss .int (.t 9) (.t 8))⟩]) (.seq (.cond (.t 10) .nop (.exit 0)) (.seq (.block 1 (.seq (.reg 4 [⟨(some 11), none, (.ia 2 (.t 7) (.t
  9))⟩, ⟨(some 12), none, (.ld 2 true (.t 11))⟩, ⟨(some 5), none, (.alloc [(.v (.int .i64 0)), (.v (.int .i64 0))])⟩, ⟨none, none, (.st 2 (.t 5) (.t 12))⟩]) (.seq (.seq (.reg 5
  [⟨(some 13), none, (.fa 0 (.t 5))⟩, ⟨(some 14), none, (.ld 1 false (.t 13))⟩, ⟨(some 15), none, (.mv (.t 3))⟩, ⟨(some 16), none, (.bin .leq .int (.t 14) (.t 15))⟩, ⟨(some 17),
  none, (.mv (.t 16))⟩, ⟨(some 18), (some (17, false)), (.fa 0 (.t 5))⟩, ⟨(some 19), (some (17, false)), (.ld 1 false (.t 18))⟩, ⟨(some 20), (some (17, false)), (.bin .gtr .int (.t
  19) (.k (.v (.int .i64 10000000))))⟩, ⟨(some 21), none, (.pick (.t 17) (.k (.v (.bool true))) (.t 20))⟩, ⟨(some 22), none, (.mv (.t 21))⟩, ⟨(some 23), (some (22, false)), (.fa 1
  (.t 5))⟩, ⟨(some 24), (some (22, false)), (.ld 1 false (.t 23))⟩, ⟨(some 25), (some (22, false)), (.call 37 [(.t 24), (.k (.v (.int .i64 (-1000000)))), (.k (.v (.int .i64
  1000000)))])⟩, ⟨(some 26), (some (22, false)), (.un .not (.t 25))⟩, ⟨(some 27), none, (.pick (.t 22) (.k (.v (.bool true))) (.t 26))⟩]) (.cond (.t 27) (.seq (.reg 6 [⟨(some 2),
  none, (.mv (.k (.v (.bool false))))⟩]) .ret) .nop)) (.reg 7 [⟨(some 28), none, (.fa 0 (.t 5))⟩, ⟨(some 29), none, (.ld 1 false (.t 28))⟩, ⟨(some 3), none, (.mv (.t 29))⟩]))))
  (.reg 8 [⟨(some 30), none, (.bin .add .int (.t 9) (.k (.v (.int .i64 1))))⟩, ⟨(some 9), none, (.mv (.t 30))⟩]))))))) (.seq (.reg 9 [⟨(some 31), none, (.fa 0 (.t 1))⟩, ⟨(some 32),
  none, (.ld 2 true (.t 31))⟩, ⟨(some 33), none, (.call 38 [(.t 32)])⟩, ⟨(some 34), none, (.mv (.t 33))⟩, ⟨(some 35), (some (34, true)), (.fa 2 (.t 1))⟩, ⟨(some 36), (some (34,
  true)), (.ld 1 false (.t 35))⟩, ⟨(some 37), (some (34, true)), (.call 37 [(.t 36), (.k (.v (.int .i64 0))), (.k (.v (.int .i64 1000)))])⟩, ⟨(some 38), none, (.pick (.t 34) (.t
  37) (.k (.v (.bool false))))⟩, ⟨(some 39), none, (.mv (.t 38))⟩, ⟨(some 40), (some (39, true)), (.fa 3 (.t 1))⟩, ⟨(some 41), (some (39, true)), (.ld 1 false (.t 40))⟩, ⟨(some
  42), (some (39, true)), (.call 37 [(.t 41), (.k (.v (.int .i64 0))), (.k (.v (.int .i64 1000)))])⟩, ⟨(some 43), none, (.pick (.t 39) (.t 42) (.k (.v (.bool false))))⟩, ⟨(some
  44), none, (.mv (.t 43))⟩, ⟨(some 45), (some (44, true)), (.fa 4 (.t 1))⟩, ⟨(some 46), (some (44, true)), (.ld 1 false (.t 45))⟩, ⟨(some 47), (some (44, true)), (.len (.t 46))⟩,
  ⟨(some 48), (some (44, true)), (.bin .leq .int (.t 47) (.k (.v (.int .i64 24))))⟩, ⟨(some 49), none, (.pick (.t 44) (.t 48) (.k (.v (.bool false))))⟩, ⟨(some 2), none, (.mv (.t
  49))⟩]) .ret))))
def rv16 : List RV := [(.t 2)]
theorem ok16 : cFun Try.prog Try.f16 = some (ac16, rv16) := by kernel_rfl
theorem nt16 : Try.f16.ntmps = 50 := by kernel_rfl
theorem of16 : okF Try.prog 16 := ⟨Try.f16, Try.func16, by kernel_rfl, by kernel_rfl⟩

/- putlog/putlogref24.Valid -/
def ac17 : AC := (.seq (.reg 0 [⟨(some 1), none, (.box 5 (.t 0))⟩, ⟨(some 2), none, (.mv (.k (.v (.bool false))))⟩]) (.seq (.seq (.reg 1 [⟨(some 5), none, (.fa 0 (.t 1))⟩, ⟨(some 6), none, (.ld 2
  true (.t 5))⟩, ⟨(some 7), none, (.call 39 [(.t 6)])⟩, ⟨(some 8), none, (.un .not (.t 7))⟩, ⟨(some 9), none, (.mv (.t 8))⟩, ⟨(some 10), (some (9, false)), (.fa 2 (.t 1))⟩, ⟨(some
  11), (some (9, false)), (.ld 1 false (.t 10))⟩, ⟨(some 12), (some (9, false)), (.bin .lss .int (.t 11) (.k (.v (.int .i64 0))))⟩, ⟨(some 13), none, (.pick (.t 9) (.k (.v (.bool
  true))) (.t 12))⟩, ⟨(some 14), none, (.mv (.t 13))⟩, ⟨(some 15), (some (14, false)), (.fa 2 (.t 1))⟩, ⟨(some 16), (some (14, false)), (.ld 1 false (.t 15))⟩, ⟨(some 17), (some
  (14, false)), (.bin .gtr .int (.t 16) (.k (.v (.int .i64 1000))))⟩, ⟨(some 18), none, (.pick (.t 14) (.k (.v (.bool true))) (.t 17))⟩, ⟨(some 19), none, (.mv (.t 18))⟩, ⟨(some
  20), (some (19, false)), (.fa 3 (.t 1))⟩, ⟨(some 21), (some (19, false)), (.ld 1 false (.t 20))⟩, ⟨(some 22), (some (19, false)), (.bin .lss .int (.t 21) (.k (.v (.int .i64
  0))))⟩, ⟨(some 23), none, (.pick (.t 19) (.k (.v (.bool true))) (.t 22))⟩, ⟨(some 24), none, (.mv (.t 23))⟩, ⟨(some 25), (some (24, false)), (.fa 3 (.t 1))⟩, ⟨(some 26), (some
  (24, false)), (.ld 1 false (.t 25))⟩, ⟨(some 27), (some (24, false)), (.bin .gtr .int (.t 26) (.k (.v (.int .i64 1000))))⟩, ⟨(some 28), none, (.pick (.t 24) (.k (.v (.bool
  true))) (.t 27))⟩, ⟨(some 29), none, (.mv (.t 28))⟩, ⟨(some 30), (some (29, false)), (.fa 4 (.t 1))⟩, ⟨(some 31), (some (29, false)), (.ld 1 false (.t 30))⟩, ⟨(some 32), (some
  (29, false)), (.len (.t 31))⟩, ⟨(some 33), (some (29, false)), (.bin .gtr .int (.t 32) (.k (.v (.int .i64 24))))⟩, ⟨(some 34), none, (.pick (.t 29) (.k (.v (.bool true))) (.t
  33))⟩]) (.cond (.t 34) (.seq (.reg 2 [⟨(some 2), none, (.mv (.k (.v (.bool false))))⟩]) .ret) .nop)) (.seq (.seq (.reg 3 [⟨(some 3), none, (.mv (.k (.v (.int .i64 0))))⟩])
  (.block 0 (.loop (.seq (.seq (.reg 4 [⟨(some 35), none, (.mv (.t 3))⟩, ⟨(some 36), none, (.fa 4 (.t 1))⟩, ⟨(some 37), none, (.ld 1 false (.t 36))⟩, ⟨(some 38), none, (.len (.t
  37))⟩, ⟨(some 39), none, (.bin .lss .int (.t 35) (.t 38))⟩]) (.cond (.t 39) .nop (.exit 0))) (.seq (.block 1 (.seq (.reg 6 [⟨(some 42), none, (.fa 4 (.t 1))⟩, ⟨(some 43), none,
  (.ld 1 false (.t 42))⟩, ⟨(some 44), none, (.mv (.t 3))⟩, ⟨(some 45), none, (.ia 2 (.t 43) (.t 44))⟩, ⟨(some 46), none, (.ld 2 true (.t 45))⟩, ⟨(some 4), none, (.alloc [(.v (.int
  .i64 0)), (.v (.int .i64 0))])⟩, ⟨none, none, (.st 2 (.t 4) (.t 46))⟩]) (.seq (.drw 7 [⟨(some 47), none, (.fa 0 (.t 4))⟩, ⟨(some 48), none, (.ld 1 false (.t 47))⟩, ⟨(some 49),
  none, (.bin .lss .int (.t 48) (.k (.v (.int .i64 0))))⟩, ⟨(some 50), none, (.mv (.t 49))⟩, ⟨(some 51), (some (50, false)), (.fa 0 (.t 4))⟩, ⟨(some 52), (some (50, false)), (.ld 1
  false (.t 51))⟩, ⟨(some 53), (some (50, false)), (.bin .gtr .int (.t 52) (.k (.v (.int .i64 10000000))))⟩, ⟨(some 54), none, (.pick (.t 50) (.k (.v (.bool true))) (.t 53))⟩,
  ⟨(some 55), none, (.mv (.t 54))⟩, ⟨(some 56), (some (55, false)), (.fa 1 (.t 4))⟩, ⟨(some 57), (some (55, false)), (.ld 1 false (.t 56))⟩, ⟨(some 58), (some (55, false)), (.bin
  .lss .int (.t 57) (.k (.v (.int .i64 (-1000000)))))⟩, ⟨(some 59), none, (.pick (.t 55) (.k (.v (.bool true))) (.t 58))⟩, ⟨(some 60), none, (.mv (.t 59))⟩, ⟨(some 61), (some (60,
  false)), (.fa 1 (.t 4))⟩, ⟨(some 62), (some (60, false)), (.ld 1 false (.t 61))⟩, ⟨(some 63), (some (60, false)), (.bin .gtr .int (.t 62) (.k (.v (.int .i64 1000000))))⟩, ⟨(some
  64), none, (.pick (.t 60) (.k (.v (.bool true))) (.t 63))⟩, ⟨(some 65), none, (.mv (.t 64))⟩, ⟨(some 66), (some (65, false)), (.mv (.t 3))⟩, ⟨(some 67), (some (65, false)), (.bin
  .gtr .int (.t 66) (.k (.v (.int .i64 0))))⟩, ⟨(some 68), (some (65, false)), (.mv (.t 67))⟩, ⟨(some 69), (some (68, true)), (.fa 0 (.t 4))⟩, ⟨(some 70), (some (68, true)), (.ld 1
  false (.t 69))⟩, ⟨(some 71), (some (68, true)), (.fa 4 (.t 1))⟩, ⟨(some 72), (some (68, true)), (.ld 1 false (.t 71))⟩, ⟨(some 73), (some (68, true)), (.mv (.t 3))⟩, ⟨(some 74),
  (some (68, true)), (.bin .sub .int (.t 73) (.k (.v (.int .i64 1))))⟩, ⟨(some 75), (some (68, true)), (.ia 2 (.t 72) (.t 74))⟩, ⟨(some 76), (some (68, true)), (.fa 0 (.t 75))⟩,
  ⟨(some 77), (some (68, true)), (.ld 1 false (.t 76))⟩, ⟨(some 78), (some (68, true)), (.bin .leq .int (.t 70) (.t 77))⟩, ⟨(some 79), (some (65, false)), (.pick (.t 68) (.t 78)
  (.k (.v (.bool false))))⟩, ⟨(some 80), none, (.pick (.t 65) (.k (.v (.bool true))) (.t 79))⟩] []) (.cond (.t 80) (.seq (.reg 8 [⟨(some 2), none, (.mv (.k (.v (.bool false))))⟩])
  .ret) .nop)))) (.reg 5 [⟨(some 40), none, (.mv (.t 3))⟩, ⟨(some 41), none, (.bin .add .int (.t 40) (.k (.v (.int .i64 1))))⟩, ⟨(some 3), none, (.mv (.t 41))⟩])))))) (.seq (.reg 9
  [⟨(some 2), none, (.mv (.k (.v (.bool true))))⟩]) .ret))))
def rv17 : List RV := [(.t 2)]
theorem ok17 : cFun Try.prog Try.f17 = some (ac17, rv17) := by kernel_rfl
theorem nt17 : Try.f17.ntmps = 81 := by kernel_rfl
theorem of17 : okF Try.prog 17 := ⟨Try.f17, Try.func17, by kernel_rfl, by kernel_rfl⟩

end Go.Proofs.Ytmmfbjmjhjmccaa.Am
