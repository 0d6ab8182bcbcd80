/-
  What the machine makes of the functions: its own texts of them, and that they are that.
-/
import Derived.Test.YtmmfbjmjhjmccaaA5
import Derived.Test.YtmmfbjmjhjmccaaProg
namespace Go.Proofs.Ytmmfbjmjhjmccaa.Am
set_option linter.unusedSimpArgs false
set_option linter.unusedVariables false
open Go
set_option maxRecDepth 100000
/- gosem.cut.init -/
def ac2 : AC := (.reg 0 [⟨(some 0), none, (.call 1 [])⟩])
def rv2 : List RV := []
theorem ok2 : cFun Try.prog Try.f2 = some (ac2, rv2) := by kernel_rfl
theorem nt2 : Try.f2.ntmps = 1 := by kernel_rfl
theorem of2 : okF Try.prog 2 := ⟨Try.f2, Try.func2, by kernel_rfl, by kernel_rfl⟩

/- putlog/putloglaw24.MonitorMatchesReference -/
def ac3 : AC := (.seq (.reg 0 [⟨(some 7), none, (.box 9 (.t 0))⟩, ⟨(some 8), none, (.box 9 (.t 1))⟩, ⟨(some 9), none, (.box 3 (.t 2))⟩, ⟨(some 10), none, (.box 5 (.t 3))⟩, ⟨(some 13), none, (.box
  2 (.t 6))⟩, ⟨(some 14), none, (.mv (.k (.v (.bool false))))⟩]) (.seq (.reg 1 [⟨(some 50), none, (.call 11 [])⟩, ⟨(some 15), none, (.mv (.t 50))⟩]) (.seq (.seq (.reg 2 [⟨(some
  51), none, (.mv (.t 15))⟩, ⟨(some 52), none, (.un .not (.t 51))⟩]) (.cond (.t 52) (.seq (.reg 3 [⟨(some 14), none, (.mv (.k (.v (.bool false))))⟩]) .ret) .nop)) (.seq (.reg 4
  [⟨(some 53), none, (.fa 0 (.t 10))⟩, ⟨(some 54), none, (.fa 1 (.t 53))⟩, ⟨(some 55), none, (.ld 1 false (.t 54))⟩, ⟨(some 56), none, (.fa 0 (.t 10))⟩, ⟨(some 57), none, (.fa 1
  (.t 56))⟩, ⟨(some 58), none, (.ld 1 false (.t 57))⟩, ⟨(some 59), none, (.len (.t 58))⟩, ⟨(some 60), none, (.mm false [(.t 59), (.k (.v (.int .i64 13)))])⟩, ⟨(some 61), none,
  (.slc 3 (.t 55) none (some (.t 60)) none)⟩, ⟨(some 62), none, (.fa 0 (.t 10))⟩, ⟨(some 63), none, (.fa 1 (.t 62))⟩, ⟨none, none, (.st 1 (.t 63) (.t 61))⟩]) (.seq (.reg 5 [⟨(some
  64), none, (.fa 4 (.t 10))⟩, ⟨(some 65), none, (.ld 1 false (.t 64))⟩, ⟨(some 66), none, (.fa 4 (.t 10))⟩, ⟨(some 67), none, (.ld 1 false (.t 66))⟩, ⟨(some 68), none, (.len (.t
  67))⟩, ⟨(some 69), none, (.mm false [(.t 68), (.k (.v (.int .i64 25)))])⟩, ⟨(some 70), none, (.slc 2 (.t 65) none (some (.t 69)) none)⟩, ⟨(some 71), none, (.fa 4 (.t 10))⟩,
  ⟨none, none, (.st 1 (.t 71) (.t 70))⟩]) (.seq (.reg 6 [⟨(some 72), none, (.ld 9 true (.t 7))⟩, ⟨(some 73), none, (.call 12 [(.t 72)])⟩, ⟨(some 16), none, (.alloc [(.v (.int .i64
  0)), (.sl 0 true [] []), (.v (.int .i64 0)), (.v (.int .i64 0)), (.sl 0 true [] [])])⟩, ⟨none, none, (.st 5 (.t 16) (.t 73))⟩]) (.seq (.reg 7 [⟨(some 74), none, (.ld 9 true (.t
  8))⟩, ⟨(some 75), none, (.call 13 [(.t 74)])⟩, ⟨(some 17), none, (.alloc [(.v (.int .i64 0)), (.sl 0 true [] []), (.v (.int .i64 0)), (.v (.int .i64 0)), (.sl 0 true [] [])])⟩,
  ⟨none, none, (.st 5 (.t 17) (.t 75))⟩]) (.seq (.drw 8 [⟨(some 76), none, (.ld 5 true (.t 16))⟩, ⟨(some 77), none, (.ld 5 true (.t 17))⟩, ⟨(some 78), none, (.ld 5 true (.t 16))⟩,
  ⟨(some 79), none, (.iaA 3 1 (.t 9) (.k (.v (.int .i64 0))))⟩, ⟨(some 80), none, (.ld 1 false (.t 79))⟩, ⟨(some 81), none, (.iaA 3 1 (.t 9) (.k (.v (.int .i64 1))))⟩, ⟨(some 82),
  none, (.ld 1 false (.t 81))⟩, ⟨(some 83), none, (.iaA 3 1 (.t 9) (.k (.v (.int .i64 2))))⟩, ⟨(some 84), none, (.ld 1 false (.t 83))⟩, ⟨(some 85), none, (.call 14 [(.t 78), (.t
  80), (.t 82), (.t 84)])⟩, ⟨(some 86), none, (.ld 5 true (.t 10))⟩, ⟨(some 87), none, (.bsl 5 4 [(.v (.int .i64 0)), (.sl 0 true [] []), (.v (.int .i64 0)), (.v (.int .i64 0)),
  (.sl 0 true [] [])] [(0, (.t 76)), (1, (.t 77)), (2, (.t 85)), (3, (.t 86))])⟩, ⟨(some 18), none, (.mv (.t 87))⟩] [(0, 9), (1, 9), (9, 10)]) (.seq (.reg 9 [⟨(some 88), none, (.fa
  0 (.t 13))⟩, ⟨(some 89), none, (.ld 1 false (.t 88))⟩, ⟨(some 90), none, (.call 15 [(.t 89), (.k (.v (.int .i64 300)))])⟩, ⟨(some 91), none, (.build [(.v (.int .i64 0)), (.v
  (.int .i64 0))] [(0, 1, (.t 90))])⟩, ⟨(some 19), none, (.alloc [(.v (.int .i64 0)), (.v (.int .i64 0))])⟩, ⟨none, none, (.st 2 (.t 19) (.t 91))⟩]) (.seq (.drw 10 [⟨(some 92),
  none, (.fa 0 (.t 19))⟩, ⟨(some 93), none, (.ld 1 false (.t 92))⟩, ⟨(some 94), none, (.bin .add .int (.t 93) (.k (.v (.int .i64 1))))⟩, ⟨(some 95), none, (.fa 1 (.t 13))⟩, ⟨(some
  96), none, (.ld 1 false (.t 95))⟩, ⟨(some 97), none, (.call 15 [(.t 96), (.k (.v (.int .i64 100)))])⟩, ⟨(some 98), none, (.bin .add .int (.t 94) (.t 97))⟩, ⟨(some 99), none, (.fa
  1 (.t 19))⟩, ⟨none, none, (.st 1 (.t 99) (.t 98))⟩] [(1, 5)]) (.seq (.seq (.reg 11 [⟨(some 20), none, (.mv (.k (.v (.int .i64 0))))⟩]) (.block 0 (.loop (.seq (.seq (.reg 12
  [⟨(some 100), none, (.mv (.t 20))⟩, ⟨(some 101), none, (.bin .lss .int (.t 100) (.k (.v (.int .i64 4))))⟩]) (.cond (.t 101) .nop (.exit 0))) (.seq (.block 1 (.seq (.reg 14
  [⟨(some 104), none, (.mv (.t 18))⟩, ⟨(some 105), none, (.mv (.t 20))⟩, ⟨(some 106), none, (.ia 5 (.t 104) (.t 105))⟩, ⟨(some 107), none, (.ld 5 true (.t 106))⟩, ⟨(some 21), none,
  (.alloc [(.v (.int .i64 0)), (.sl 0 true [] []), (.v (.int .i64 0)), (.v (.int .i64 0)), (.sl 0 true [] [])])⟩, ⟨none, none, (.st 5 (.t 21) (.t 107))⟩]) (.seq (.seq (.drw 15
  [⟨(some 108), none, (.ld 5 true (.t 21))⟩, ⟨(some 109), none, (.call 16 [(.t 108)])⟩, ⟨(some 110), none, (.ld 5 true (.t 21))⟩, ⟨(some 111), none, (.call 17 [(.t 110)])⟩, ⟨(some
  112), none, (.bin .neq .bool (.t 109) (.t 111))⟩] [(1, 2)]) (.cond (.t 112) (.seq (.reg 16 [⟨(some 14), none, (.mv (.k (.v (.bool false))))⟩]) .ret) .nop)) (.seq (.seq (.reg 17
  [⟨(some 113), none, (.mv (.t 4))⟩, ⟨(some 114), none, (.mv (.t 4))⟩, ⟨(some 115), none, (.call 15 [(.t 114), (.k (.v (.int .i64 400)))])⟩, ⟨(some 116), none, (.bsl 1 2 [(.v (.int
  .i64 0))] [(0, (.t 113)), (1, (.t 115))])⟩, ⟨(some 117), none, (.len (.t 116))⟩, ⟨(some 118), none, (.mv (.k (.v (.int .i64 0))))⟩]) (.block 2 (.loop (.seq (.reg 18 [⟨(some 119),
  none, (.bin .lss .int (.t 118) (.t 117))⟩]) (.seq (.cond (.t 119) .nop (.exit 2)) (.seq (.block 3 (.seq (.reg 19 [⟨(some 120), none, (.ia 1 (.t 116) (.t 118))⟩, ⟨(some 121),
  none, (.ld 1 false (.t 120))⟩, ⟨(some 23), none, (.mv (.t 121))⟩]) (.seq (.reg 20 [⟨(some 123), none, (.ld 5 true (.t 21))⟩, ⟨(some 124), none, (.mv (.t 23))⟩, ⟨(some 125), none,
  (.call 18 [(.t 123), (.t 124)])⟩, ⟨(some 122), none, (.mv (.t 125))⟩, ⟨(some 126), none, (.ext (.t 122) 0)⟩, ⟨(some 127), none, (.ext (.t 122) 1)⟩, ⟨(some 128), none, (.ext (.t
  122) 2)⟩, ⟨(some 24), none, (.mv (.t 126))⟩, ⟨(some 25), none, (.mv (.t 127))⟩, ⟨(some 26), none, (.mv (.t 128))⟩]) (.seq (.reg 21 [⟨(some 130), none, (.ld 5 true (.t 21))⟩,
  ⟨(some 131), none, (.mv (.t 23))⟩, ⟨(some 132), none, (.call 19 [(.t 130), (.t 131)])⟩, ⟨(some 129), none, (.mv (.t 132))⟩, ⟨(some 133), none, (.ext (.t 129) 0)⟩, ⟨(some 134),
  none, (.ext (.t 129) 1)⟩, ⟨(some 135), none, (.ext (.t 129) 2)⟩, ⟨(some 27), none, (.mv (.t 133))⟩, ⟨(some 28), none, (.mv (.t 134))⟩, ⟨(some 29), none, (.mv (.t 135))⟩]) (.seq
  (.reg 22 [⟨(some 137), none, (.ld 5 true (.t 21))⟩, ⟨(some 138), none, (.mv (.t 23))⟩, ⟨(some 139), none, (.call 20 [(.t 137), (.t 138)])⟩, ⟨(some 136), none, (.mv (.t 139))⟩,
  ⟨(some 140), none, (.ext (.t 136) 0)⟩, ⟨(some 141), none, (.ext (.t 136) 1)⟩, ⟨(some 142), none, (.ext (.t 136) 2)⟩, ⟨(some 30), none, (.mv (.t 140))⟩, ⟨(some 31), none, (.mv (.t
  141))⟩, ⟨(some 32), none, (.mv (.t 142))⟩]) (.seq (.reg 23 [⟨(some 144), none, (.ld 5 true (.t 21))⟩, ⟨(some 145), none, (.mv (.t 23))⟩, ⟨(some 146), none, (.call 21 [(.t 144),
  (.t 145)])⟩, ⟨(some 143), none, (.mv (.t 146))⟩, ⟨(some 147), none, (.ext (.t 143) 0)⟩, ⟨(some 148), none, (.ext (.t 143) 1)⟩, ⟨(some 149), none, (.ext (.t 143) 2)⟩, ⟨(some 33),
  none, (.mv (.t 147))⟩, ⟨(some 34), none, (.mv (.t 148))⟩, ⟨(some 35), none, (.mv (.t 149))⟩]) (.seq (.seq (.reg 24 [⟨(some 150), none, (.mv (.t 24))⟩, ⟨(some 151), none, (.mv (.t
  27))⟩, ⟨(some 152), none, (.bin .neq .int (.t 150) (.t 151))⟩, ⟨(some 153), none, (.mv (.t 152))⟩, ⟨(some 154), (some (153, false)), (.mv (.t 25))⟩, ⟨(some 155), (some (153,
  false)), (.mv (.t 28))⟩, ⟨(some 156), (some (153, false)), (.bin .neq .int (.t 154) (.t 155))⟩, ⟨(some 157), none, (.pick (.t 153) (.k (.v (.bool true))) (.t 156))⟩, ⟨(some 158),
  none, (.mv (.t 157))⟩, ⟨(some 159), (some (158, false)), (.mv (.t 26))⟩, ⟨(some 160), (some (158, false)), (.mv (.t 29))⟩, ⟨(some 161), (some (158, false)), (.bin .neq .int (.t
  159) (.t 160))⟩, ⟨(some 162), none, (.pick (.t 158) (.k (.v (.bool true))) (.t 161))⟩, ⟨(some 163), none, (.mv (.t 162))⟩, ⟨(some 164), (some (163, false)), (.mv (.t 30))⟩,
  ⟨(some 165), (some (163, false)), (.mv (.t 33))⟩, ⟨(some 166), (some (163, false)), (.bin .neq .int (.t 164) (.t 165))⟩, ⟨(some 167), none, (.pick (.t 163) (.k (.v (.bool true)))
  (.t 166))⟩, ⟨(some 168), none, (.mv (.t 167))⟩, ⟨(some 169), (some (168, false)), (.mv (.t 31))⟩, ⟨(some 170), (some (168, false)), (.mv (.t 34))⟩, ⟨(some 171), (some (168,
  false)), (.bin .neq .int (.t 169) (.t 170))⟩, ⟨(some 172), none, (.pick (.t 168) (.k (.v (.bool true))) (.t 171))⟩, ⟨(some 173), none, (.mv (.t 172))⟩, ⟨(some 174), (some (173,
  false)), (.mv (.t 32))⟩, ⟨(some 175), (some (173, false)), (.mv (.t 35))⟩, ⟨(some 176), (some (173, false)), (.bin .neq .int (.t 174) (.t 175))⟩, ⟨(some 177), none, (.pick (.t
  173) (.k (.v (.bool true))) (.t 176))⟩]) (.cond (.t 177) (.seq (.reg 25 [⟨(some 14), none, (.mv (.k (.v (.bool false))))⟩]) .ret) .nop)) (.seq (.drw 26 [⟨(some 179), none, (.ld 5
  true (.t 21))⟩, ⟨(some 180), none, (.mv (.t 18))⟩, ⟨(some 181), none, (.mv (.t 20))⟩, ⟨(some 182), none, (.bin .sub .int (.k (.v (.int .i64 3))) (.t 181))⟩, ⟨(some 183), none,
  (.ia 5 (.t 180) (.t 182))⟩, ⟨(some 184), none, (.ld 5 true (.t 183))⟩, ⟨(some 185), none, (.mv (.t 23))⟩, ⟨(some 186), none, (.call 22 [(.t 179), (.t 184), (.t 185)])⟩, ⟨(some
  178), none, (.mv (.t 186))⟩, ⟨(some 187), none, (.ext (.t 178) 0)⟩, ⟨(some 188), none, (.ext (.t 178) 1)⟩, ⟨(some 189), none, (.ext (.t 178) 2)⟩, ⟨(some 24), none, (.mv (.t
  187))⟩, ⟨(some 25), none, (.mv (.t 188))⟩, ⟨(some 26), none, (.mv (.t 189))⟩] []) (.seq (.drw 27 [⟨(some 191), none, (.ld 5 true (.t 21))⟩, ⟨(some 192), none, (.mv (.t 18))⟩,
  ⟨(some 193), none, (.mv (.t 20))⟩, ⟨(some 194), none, (.bin .sub .int (.k (.v (.int .i64 3))) (.t 193))⟩, ⟨(some 195), none, (.ia 5 (.t 192) (.t 194))⟩, ⟨(some 196), none, (.ld 5
  true (.t 195))⟩, ⟨(some 197), none, (.mv (.t 23))⟩, ⟨(some 198), none, (.call 23 [(.t 191), (.t 196), (.t 197)])⟩, ⟨(some 190), none, (.mv (.t 198))⟩, ⟨(some 199), none, (.ext
  (.t 190) 0)⟩, ⟨(some 200), none, (.ext (.t 190) 1)⟩, ⟨(some 201), none, (.ext (.t 190) 2)⟩, ⟨(some 27), none, (.mv (.t 199))⟩, ⟨(some 28), none, (.mv (.t 200))⟩, ⟨(some 29),
  none, (.mv (.t 201))⟩] []) (.seq (.reg 28 [⟨(some 202), none, (.mv (.t 24))⟩, ⟨(some 203), none, (.mv (.t 27))⟩, ⟨(some 204), none, (.bin .neq .int (.t 202) (.t 203))⟩, ⟨(some
  205), none, (.mv (.t 204))⟩, ⟨(some 206), (some (205, false)), (.mv (.t 25))⟩, ⟨(some 207), (some (205, false)), (.mv (.t 28))⟩, ⟨(some 208), (some (205, false)), (.bin .neq .int
  (.t 206) (.t 207))⟩, ⟨(some 209), none, (.pick (.t 205) (.k (.v (.bool true))) (.t 208))⟩, ⟨(some 210), none, (.mv (.t 209))⟩, ⟨(some 211), (some (210, false)), (.mv (.t 26))⟩,
  ⟨(some 212), (some (210, false)), (.mv (.t 29))⟩, ⟨(some 213), (some (210, false)), (.bin .neq .int (.t 211) (.t 212))⟩, ⟨(some 214), none, (.pick (.t 210) (.k (.v (.bool true)))
  (.t 213))⟩]) (.cond (.t 214) (.seq (.reg 29 [⟨(some 14), none, (.mv (.k (.v (.bool false))))⟩]) .ret) .nop))))))))))) (.reg 30 [⟨(some 215), none, (.bin .add .int (.t 118) (.k
  (.v (.int .i64 1))))⟩, ⟨(some 118), none, (.mv (.t 215))⟩]))))))) (.seq (.reg 31 [⟨(some 216), none, (.ld 2 true (.t 13))⟩, ⟨(some 217), none, (.ld 2 true (.t 19))⟩, ⟨(some 218),
  none, (.bsl 2 2 [(.v (.int .i64 0)), (.v (.int .i64 0))] [(0, (.t 216)), (1, (.t 217))])⟩, ⟨(some 219), none, (.len (.t 218))⟩, ⟨(some 220), none, (.mv (.k (.v (.int .i64
  0))))⟩]) (.block 4 (.loop (.seq (.reg 32 [⟨(some 221), none, (.bin .lss .int (.t 220) (.t 219))⟩]) (.seq (.cond (.t 221) .nop (.exit 4)) (.seq (.block 5 (.seq (.reg 33 [⟨(some
  222), none, (.ia 2 (.t 218) (.t 220))⟩, ⟨(some 223), none, (.ld 2 true (.t 222))⟩, ⟨(some 37), none, (.alloc [(.v (.int .i64 0)), (.v (.int .i64 0))])⟩, ⟨none, none, (.st 2 (.t
  37) (.t 223))⟩]) (.seq (.reg 34 [⟨(some 224), none, (.mv (.t 5))⟩, ⟨(some 225), none, (.mv (.t 5))⟩, ⟨(some 226), none, (.call 15 [(.t 225), (.k (.v (.int .i64 3001)))])⟩, ⟨(some
  227), none, (.bin .sub .int (.t 226) (.k (.v (.int .i64 1500))))⟩, ⟨(some 228), none, (.bsl 1 2 [(.v (.int .i64 0))] [(0, (.t 224)), (1, (.t 227))])⟩, ⟨(some 229), none, (.len
  (.t 228))⟩, ⟨(some 230), none, (.mv (.k (.v (.int .i64 0))))⟩]) (.block 6 (.loop (.seq (.reg 35 [⟨(some 231), none, (.bin .lss .int (.t 230) (.t 229))⟩]) (.seq (.cond (.t 231)
  .nop (.exit 6)) (.seq (.block 7 (.seq (.reg 36 [⟨(some 232), none, (.ia 1 (.t 228) (.t 230))⟩, ⟨(some 233), none, (.ld 1 false (.t 232))⟩, ⟨(some 39), none, (.mv (.t 233))⟩])
  (.seq (.reg 37 [⟨(some 235), none, (.ld 5 true (.t 21))⟩, ⟨(some 236), none, (.mv (.t 39))⟩, ⟨(some 237), none, (.ld 2 true (.t 37))⟩, ⟨(some 238), none, (.call 24 [(.t 235), (.t
  236), (.t 237)])⟩, ⟨(some 234), none, (.mv (.t 238))⟩, ⟨(some 239), none, (.ext (.t 234) 0)⟩, ⟨(some 240), none, (.ext (.t 234) 1)⟩, ⟨(some 40), none, (.mv (.t 239))⟩, ⟨(some
  41), none, (.mv (.t 240))⟩]) (.seq (.reg 38 [⟨(some 242), none, (.ld 5 true (.t 21))⟩, ⟨(some 243), none, (.mv (.t 39))⟩, ⟨(some 244), none, (.ld 2 true (.t 37))⟩, ⟨(some 245),
  none, (.call 25 [(.t 242), (.t 243), (.t 244)])⟩, ⟨(some 241), none, (.mv (.t 245))⟩, ⟨(some 246), none, (.ext (.t 241) 0)⟩, ⟨(some 247), none, (.ext (.t 241) 1)⟩, ⟨(some 42),
  none, (.mv (.t 246))⟩, ⟨(some 43), none, (.mv (.t 247))⟩]) (.seq (.reg 39 [⟨(some 249), none, (.ld 5 true (.t 21))⟩, ⟨(some 250), none, (.mv (.t 39))⟩, ⟨(some 251), none, (.ld 2
  true (.t 37))⟩, ⟨(some 252), none, (.call 26 [(.t 249), (.t 250), (.t 251)])⟩, ⟨(some 248), none, (.mv (.t 252))⟩, ⟨(some 253), none, (.ext (.t 248) 0)⟩, ⟨(some 254), none, (.ext
  (.t 248) 1)⟩, ⟨(some 255), none, (.ext (.t 248) 2)⟩, ⟨(some 44), none, (.mv (.t 253))⟩, ⟨(some 45), none, (.mv (.t 254))⟩, ⟨(some 46), none, (.mv (.t 255))⟩]) (.seq (.reg 40
  [⟨(some 257), none, (.ld 5 true (.t 21))⟩, ⟨(some 258), none, (.mv (.t 39))⟩, ⟨(some 259), none, (.ld 2 true (.t 37))⟩, ⟨(some 260), none, (.call 27 [(.t 257), (.t 258), (.t
  259)])⟩, ⟨(some 256), none, (.mv (.t 260))⟩, ⟨(some 261), none, (.ext (.t 256) 0)⟩, ⟨(some 262), none, (.ext (.t 256) 1)⟩, ⟨(some 263), none, (.ext (.t 256) 2)⟩, ⟨(some 47),
  none, (.mv (.t 261))⟩, ⟨(some 48), none, (.mv (.t 262))⟩, ⟨(some 49), none, (.mv (.t 263))⟩]) (.seq (.reg 41 [⟨(some 264), none, (.mv (.t 40))⟩, ⟨(some 265), none, (.mv (.t
  42))⟩, ⟨(some 266), none, (.bin .neq .int (.t 264) (.t 265))⟩, ⟨(some 267), none, (.mv (.t 266))⟩, ⟨(some 268), (some (267, false)), (.mv (.t 41))⟩, ⟨(some 269), (some (267,
  false)), (.mv (.t 43))⟩, ⟨(some 270), (some (267, false)), (.bin .neq .int (.t 268) (.t 269))⟩, ⟨(some 271), none, (.pick (.t 267) (.k (.v (.bool true))) (.t 270))⟩, ⟨(some 272),
  none, (.mv (.t 271))⟩, ⟨(some 273), (some (272, false)), (.mv (.t 44))⟩, ⟨(some 274), (some (272, false)), (.mv (.t 47))⟩, ⟨(some 275), (some (272, false)), (.bin .neq .int (.t
  273) (.t 274))⟩, ⟨(some 276), none, (.pick (.t 272) (.k (.v (.bool true))) (.t 275))⟩, ⟨(some 277), none, (.mv (.t 276))⟩, ⟨(some 278), (some (277, false)), (.mv (.t 45))⟩,
  ⟨(some 279), (some (277, false)), (.mv (.t 48))⟩, ⟨(some 280), (some (277, false)), (.bin .neq .int (.t 278) (.t 279))⟩, ⟨(some 281), none, (.pick (.t 277) (.k (.v (.bool true)))
  (.t 280))⟩, ⟨(some 282), none, (.mv (.t 281))⟩, ⟨(some 283), (some (282, false)), (.mv (.t 46))⟩, ⟨(some 284), (some (282, false)), (.mv (.t 49))⟩, ⟨(some 285), (some (282,
  false)), (.bin .neq .int (.t 283) (.t 284))⟩, ⟨(some 286), none, (.pick (.t 282) (.k (.v (.bool true))) (.t 285))⟩]) (.cond (.t 286) (.seq (.reg 42 [⟨(some 14), none, (.mv (.k
  (.v (.bool false))))⟩]) .ret) .nop)))))))) (.reg 43 [⟨(some 287), none, (.bin .add .int (.t 230) (.k (.v (.int .i64 1))))⟩, ⟨(some 230), none, (.mv (.t 287))⟩]))))))))) (.reg 44
  [⟨(some 288), none, (.bin .add .int (.t 220) (.k (.v (.int .i64 1))))⟩, ⟨(some 220), none, (.mv (.t 288))⟩]))))))))))) (.reg 13 [⟨(some 102), none, (.mv (.t 20))⟩, ⟨(some 103),
  none, (.bin .add .int (.t 102) (.k (.v (.int .i64 1))))⟩, ⟨(some 20), none, (.mv (.t 103))⟩])))))) (.seq (.reg 45 [⟨(some 289), none, (.mv (.t 15))⟩, ⟨(some 14), none, (.mv (.t
  289))⟩]) .ret))))))))))))
def rv3 : List RV := [(.t 14)]
theorem ok3 : cFun Try.prog Try.f3 = some (ac3, rv3) := by kernel_rfl
theorem nt3 : Try.f3.ntmps = 290 := by kernel_rfl
theorem of3 : okF Try.prog 3 := ⟨Try.f3, Try.func3, by kernel_rfl, by kernel_rfl⟩

/- putlog/putloglaw24.sane -/
def ac11 : AC := (.seq (.reg 0 [⟨(some 0), none, (.mv (.k (.v (.bool false))))⟩]) (.seq (.reg 1 [⟨(some 29), none, (.call 31 [])⟩, ⟨(some 1), none, (.alloc [(.v (.int .i64 0)), (.sl 0 true [] []),
  (.v (.int .i64 0)), (.v (.int .i64 0)), (.sl 0 true [] [])])⟩, ⟨none, none, (.st 5 (.t 1) (.t 29))⟩]) (.seq (.reg 2 [⟨(some 30), none, (.build [(.v (.int .i64 0)), (.v (.int .i64
  0)), (.v (.int .i64 0))] [(0, 1, (.k (.v (.int .i64 10)))), (1, 1, (.k (.v (.int .i64 98)))), (2, 1, (.k (.v (.int .i64 102))))])⟩, ⟨(some 31), none, (.build [(.v (.int .i64 0)),
  (.v (.int .i64 0)), (.v (.int .i64 0))] [(0, 1, (.k (.v (.int .i64 15)))), (1, 1, (.k (.v (.int .i64 103)))), (2, 1, (.k (.v (.int .i64 117))))])⟩, ⟨(some 32), none, (.build [(.v
  (.int .i64 0)), (.v (.int .i64 0)), (.v (.int .i64 0))] [(0, 1, (.k (.v (.int .i64 20)))), (1, 1, (.k (.v (.int .i64 118)))), (2, 1, (.k (.v (.int .i64 122))))])⟩, ⟨(some 33),
  none, (.build [(.v (.int .i64 0)), (.v (.int .i64 0)), (.v (.int .i64 0))] [(0, 1, (.k (.v (.int .i64 30)))), (1, 1, (.k (.v (.int .i64 88)))), (2, 1, (.k (.v (.int .i64
  152))))])⟩, ⟨(some 34), none, (.bsl 3 4 [(.v (.int .i64 0)), (.v (.int .i64 0)), (.v (.int .i64 0))] [(0, (.t 30)), (1, (.t 31)), (2, (.t 32)), (3, (.t 33))])⟩, ⟨(some 2), none,
  (.mv (.t 34))⟩]) (.seq (.seq (.reg 3 [⟨(some 3), none, (.mv (.k (.v (.int .i64 0))))⟩]) (.block 0 (.loop (.seq (.seq (.reg 4 [⟨(some 35), none, (.mv (.t 3))⟩, ⟨(some 36), none,
  (.mv (.t 2))⟩, ⟨(some 37), none, (.len (.t 36))⟩, ⟨(some 38), none, (.bin .lss .int (.t 35) (.t 37))⟩]) (.cond (.t 38) .nop (.exit 0))) (.seq (.block 1 (.seq (.drw 6 [⟨(some 42),
  none, (.ld 5 true (.t 1))⟩, ⟨(some 43), none, (.mv (.t 2))⟩, ⟨(some 44), none, (.mv (.t 3))⟩, ⟨(some 45), none, (.ia 3 (.t 43) (.t 44))⟩, ⟨(some 46), none, (.iaA 3 1 (.t 45) (.k
  (.v (.int .i64 0))))⟩, ⟨(some 47), none, (.ld 1 false (.t 46))⟩, ⟨(some 48), none, (.call 18 [(.t 42), (.t 47)])⟩, ⟨(some 41), none, (.mv (.t 48))⟩, ⟨(some 49), none, (.ext (.t
  41) 0)⟩, ⟨(some 50), none, (.ext (.t 41) 1)⟩, ⟨(some 51), none, (.ext (.t 41) 2)⟩, ⟨(some 4), none, (.mv (.t 49))⟩, ⟨(some 5), none, (.mv (.t 50))⟩, ⟨(some 6), none, (.mv (.t
  51))⟩] []) (.seq (.reg 7 [⟨(some 52), none, (.mv (.t 6))⟩, ⟨(some 53), none, (.bin .neq .int (.t 52) (.k (.v (.int .i64 0))))⟩, ⟨(some 54), none, (.mv (.t 53))⟩, ⟨(some 55),
  (some (54, false)), (.mv (.t 4))⟩, ⟨(some 56), (some (54, false)), (.mv (.t 2))⟩, ⟨(some 57), (some (54, false)), (.mv (.t 3))⟩, ⟨(some 58), (some (54, false)), (.ia 3 (.t 56)
  (.t 57))⟩, ⟨(some 59), (some (54, false)), (.iaA 3 1 (.t 58) (.k (.v (.int .i64 1))))⟩, ⟨(some 60), (some (54, false)), (.ld 1 false (.t 59))⟩, ⟨(some 61), (some (54, false)),
  (.bin .neq .int (.t 55) (.t 60))⟩, ⟨(some 62), none, (.pick (.t 54) (.k (.v (.bool true))) (.t 61))⟩, ⟨(some 63), none, (.mv (.t 62))⟩, ⟨(some 64), (some (63, false)), (.mv (.t
  5))⟩, ⟨(some 65), (some (63, false)), (.mv (.t 2))⟩, ⟨(some 66), (some (63, false)), (.mv (.t 3))⟩, ⟨(some 67), (some (63, false)), (.ia 3 (.t 65) (.t 66))⟩, ⟨(some 68), (some
  (63, false)), (.iaA 3 1 (.t 67) (.k (.v (.int .i64 2))))⟩, ⟨(some 69), (some (63, false)), (.ld 1 false (.t 68))⟩, ⟨(some 70), (some (63, false)), (.bin .neq .int (.t 64) (.t
  69))⟩, ⟨(some 71), none, (.pick (.t 63) (.k (.v (.bool true))) (.t 70))⟩]) (.cond (.t 71) (.seq (.reg 8 [⟨(some 0), none, (.mv (.k (.v (.bool false))))⟩]) .ret) .nop)))) (.reg 5
  [⟨(some 39), none, (.mv (.t 3))⟩, ⟨(some 40), none, (.bin .add .int (.t 39) (.k (.v (.int .i64 1))))⟩, ⟨(some 3), none, (.mv (.t 40))⟩])))))) (.seq (.reg 9 [⟨(some 73), none,
  (.ld 5 true (.t 1))⟩, ⟨(some 74), none, (.call 20 [(.t 73), (.k (.v (.int .i64 10)))])⟩, ⟨(some 72), none, (.mv (.t 74))⟩, ⟨(some 75), none, (.ext (.t 72) 0)⟩, ⟨(some 76), none,
  (.ext (.t 72) 1)⟩, ⟨(some 77), none, (.ext (.t 72) 2)⟩, ⟨(some 7), none, (.mv (.t 75))⟩, ⟨(some 8), none, (.mv (.t 76))⟩, ⟨(some 9), none, (.mv (.t 77))⟩]) (.seq (.reg 10 [⟨(some
  79), none, (.ld 5 true (.t 1))⟩, ⟨(some 80), none, (.call 20 [(.t 79), (.k (.v (.int .i64 15)))])⟩, ⟨(some 78), none, (.mv (.t 80))⟩, ⟨(some 81), none, (.ext (.t 78) 0)⟩, ⟨(some
  82), none, (.ext (.t 78) 1)⟩, ⟨(some 83), none, (.ext (.t 78) 2)⟩, ⟨(some 10), none, (.mv (.t 81))⟩, ⟨(some 11), none, (.mv (.t 82))⟩, ⟨(some 12), none, (.mv (.t 83))⟩]) (.seq
  (.reg 11 [⟨(some 85), none, (.ld 5 true (.t 1))⟩, ⟨(some 86), none, (.build [(.v (.int .i64 0)), (.v (.int .i64 0))] [(0, 1, (.k (.v (.int .i64 0)))), (1, 1, (.k (.v (.int .i64
  20))))])⟩, ⟨(some 87), none, (.call 24 [(.t 85), (.k (.v (.int .i64 116))), (.t 86)])⟩, ⟨(some 84), none, (.mv (.t 87))⟩, ⟨(some 88), none, (.ext (.t 84) 0)⟩, ⟨(some 89), none,
  (.ext (.t 84) 1)⟩, ⟨(some 13), none, (.mv (.t 88))⟩, ⟨(some 14), none, (.mv (.t 89))⟩]) (.seq (.reg 12 [⟨(some 91), none, (.ld 5 true (.t 1))⟩, ⟨(some 92), none, (.build [(.v
  (.int .i64 0)), (.v (.int .i64 0))] [(0, 1, (.k (.v (.int .i64 0)))), (1, 1, (.k (.v (.int .i64 21))))])⟩, ⟨(some 93), none, (.call 24 [(.t 91), (.k (.v (.int .i64 116))), (.t
  92)])⟩, ⟨(some 90), none, (.mv (.t 93))⟩, ⟨(some 94), none, (.ext (.t 90) 0)⟩, ⟨(some 95), none, (.ext (.t 90) 1)⟩, ⟨(some 15), none, (.mv (.t 94))⟩, ⟨(some 16), none, (.mv (.t
  95))⟩]) (.seq (.reg 13 [⟨(some 97), none, (.ld 5 true (.t 1))⟩, ⟨(some 98), none, (.build [(.v (.int .i64 0)), (.v (.int .i64 0))] [(0, 1, (.k (.v (.int .i64 20)))), (1, 1, (.k
  (.v (.int .i64 21))))])⟩, ⟨(some 99), none, (.call 24 [(.t 97), (.k (.v (.int .i64 122))), (.t 98)])⟩, ⟨(some 96), none, (.mv (.t 99))⟩, ⟨(some 100), none, (.ext (.t 96) 0)⟩,
  ⟨(some 101), none, (.ext (.t 96) 1)⟩, ⟨(some 17), none, (.mv (.t 100))⟩, ⟨(some 18), none, (.mv (.t 101))⟩]) (.seq (.reg 14 [⟨(some 103), none, (.ld 5 true (.t 1))⟩, ⟨(some 104),
  none, (.build [(.v (.int .i64 0)), (.v (.int .i64 0))] [(0, 1, (.k (.v (.int .i64 0)))), (1, 1, (.k (.v (.int .i64 30))))])⟩, ⟨(some 105), none, (.call 26 [(.t 103), (.k (.v
  (.int .i64 110))), (.t 104)])⟩, ⟨(some 102), none, (.mv (.t 105))⟩, ⟨(some 106), none, (.ext (.t 102) 0)⟩, ⟨(some 107), none, (.ext (.t 102) 1)⟩, ⟨(some 108), none, (.ext (.t
  102) 2)⟩, ⟨(some 19), none, (.mv (.t 106))⟩, ⟨(some 20), none, (.mv (.t 107))⟩, ⟨(some 21), none, (.mv (.t 108))⟩]) (.seq (.reg 15 [⟨(some 110), none, (.ld 5 true (.t 1))⟩,
  ⟨(some 111), none, (.fa 0 (.t 1))⟩, ⟨(some 112), none, (.ld 2 true (.t 111))⟩, ⟨(some 113), none, (.build [(.v (.int .i64 0)), (.v (.int .i64 0))] [(0, 1, (.k (.v (.int .i64
  15)))), (1, 1, (.k (.v (.int .i64 105))))])⟩, ⟨(some 114), none, (.bsl 2 1 [(.v (.int .i64 0)), (.v (.int .i64 0))] [(0, (.t 113))])⟩, ⟨(some 115), none, (.build [(.v (.int .i64
  0)), (.sl 0 true [] []), (.v (.int .i64 0)), (.v (.int .i64 0)), (.sl 0 true [] [])] [(0, 2, (.t 112)), (3, 1, (.k (.v (.int .i64 1)))), (4, 1, (.t 114))])⟩, ⟨(some 116), none,
  (.call 22 [(.t 110), (.t 115), (.k (.v (.int .i64 15)))])⟩, ⟨(some 109), none, (.mv (.t 116))⟩, ⟨(some 117), none, (.ext (.t 109) 0)⟩, ⟨(some 118), none, (.ext (.t 109) 1)⟩,
  ⟨(some 119), none, (.ext (.t 109) 2)⟩, ⟨(some 22), none, (.mv (.t 117))⟩, ⟨(some 23), none, (.mv (.t 118))⟩, ⟨(some 24), none, (.mv (.t 119))⟩]) (.seq (.reg 16 [⟨(some 121),
  none, (.ld 5 true (.t 1))⟩, ⟨(some 122), none, (.fa 0 (.t 1))⟩, ⟨(some 123), none, (.ld 2 true (.t 122))⟩, ⟨(some 124), none, (.build [(.v (.int .i64 0)), (.v (.int .i64 0))]
  [(0, 1, (.k (.v (.int .i64 15)))), (1, 1, (.k (.v (.int .i64 99))))])⟩, ⟨(some 125), none, (.bsl 2 1 [(.v (.int .i64 0)), (.v (.int .i64 0))] [(0, (.t 124))])⟩, ⟨(some 126),
  none, (.build [(.v (.int .i64 0)), (.sl 0 true [] []), (.v (.int .i64 0)), (.v (.int .i64 0)), (.sl 0 true [] [])] [(0, 2, (.t 123)), (3, 1, (.k (.v (.int .i64 1)))), (4, 1, (.t
  125))])⟩, ⟨(some 127), none, (.call 22 [(.t 121), (.t 126), (.k (.v (.int .i64 15)))])⟩, ⟨(some 120), none, (.mv (.t 127))⟩, ⟨(some 128), none, (.ext (.t 120) 0)⟩, ⟨(some 129),
  none, (.ext (.t 120) 1)⟩, ⟨(some 130), none, (.ext (.t 120) 2)⟩, ⟨(some 25), none, (.mv (.t 128))⟩, ⟨(some 26), none, (.mv (.t 129))⟩, ⟨(some 27), none, (.mv (.t 130))⟩]) (.seq
  (.reg 17 [⟨(some 131), none, (.mv (.t 9))⟩, ⟨(some 132), none, (.bin .eql .int (.t 131) (.k (.v (.int .i64 0))))⟩, ⟨(some 133), none, (.mv (.t 132))⟩, ⟨(some 134), (some (133,
  true)), (.mv (.t 12))⟩, ⟨(some 135), (some (133, true)), (.bin .eql .int (.t 134) (.k (.v (.int .i64 0))))⟩, ⟨(some 136), none, (.pick (.t 133) (.t 135) (.k (.v (.bool
  false))))⟩, ⟨(some 137), none, (.mv (.t 136))⟩, ⟨(some 138), (some (137, true)), (.mv (.t 14))⟩, ⟨(some 139), (some (137, true)), (.bin .eql .int (.t 138) (.k (.v (.int .i64
  0))))⟩, ⟨(some 140), none, (.pick (.t 137) (.t 139) (.k (.v (.bool false))))⟩, ⟨(some 141), none, (.mv (.t 140))⟩, ⟨(some 142), (some (141, true)), (.mv (.t 16))⟩, ⟨(some 143),
  (some (141, true)), (.bin .eql .int (.t 142) (.k (.v (.int .i64 0))))⟩, ⟨(some 144), none, (.pick (.t 141) (.t 143) (.k (.v (.bool false))))⟩, ⟨(some 145), none, (.mv (.t 144))⟩,
  ⟨(some 146), (some (145, true)), (.mv (.t 18))⟩, ⟨(some 147), (some (145, true)), (.bin .eql .int (.t 146) (.k (.v (.int .i64 0))))⟩, ⟨(some 148), none, (.pick (.t 145) (.t 147)
  (.k (.v (.bool false))))⟩, ⟨(some 149), none, (.mv (.t 148))⟩, ⟨(some 150), (some (149, true)), (.mv (.t 21))⟩, ⟨(some 151), (some (149, true)), (.bin .eql .int (.t 150) (.k (.v
  (.int .i64 0))))⟩, ⟨(some 152), none, (.pick (.t 149) (.t 151) (.k (.v (.bool false))))⟩, ⟨(some 153), none, (.mv (.t 152))⟩, ⟨(some 154), (some (153, true)), (.mv (.t 24))⟩,
  ⟨(some 155), (some (153, true)), (.bin .eql .int (.t 154) (.k (.v (.int .i64 0))))⟩, ⟨(some 156), none, (.pick (.t 153) (.t 155) (.k (.v (.bool false))))⟩, ⟨(some 157), none,
  (.mv (.t 156))⟩, ⟨(some 158), (some (157, true)), (.mv (.t 27))⟩, ⟨(some 159), (some (157, true)), (.bin .eql .int (.t 158) (.k (.v (.int .i64 240))))⟩, ⟨(some 160), none, (.pick
  (.t 157) (.t 159) (.k (.v (.bool false))))⟩, ⟨(some 28), none, (.mv (.t 160))⟩]) (.seq (.reg 18 [⟨(some 161), none, (.mv (.t 28))⟩, ⟨(some 162), none, (.mv (.t 161))⟩, ⟨(some
  163), (some (162, true)), (.mv (.t 7))⟩, ⟨(some 164), (some (162, true)), (.bin .eql .int (.t 163) (.k (.v (.int .i64 0))))⟩, ⟨(some 165), none, (.pick (.t 162) (.t 164) (.k (.v
  (.bool false))))⟩, ⟨(some 166), none, (.mv (.t 165))⟩, ⟨(some 167), (some (166, true)), (.mv (.t 8))⟩, ⟨(some 168), (some (166, true)), (.bin .eql .int (.t 167) (.k (.v (.int
  .i64 0))))⟩, ⟨(some 169), none, (.pick (.t 166) (.t 168) (.k (.v (.bool false))))⟩, ⟨(some 170), none, (.mv (.t 169))⟩, ⟨(some 171), (some (170, true)), (.mv (.t 10))⟩, ⟨(some
  172), (some (170, true)), (.bin .eql .int (.t 171) (.k (.v (.int .i64 1))))⟩, ⟨(some 173), none, (.pick (.t 170) (.t 172) (.k (.v (.bool false))))⟩, ⟨(some 174), none, (.mv (.t
  173))⟩, ⟨(some 175), (some (174, true)), (.mv (.t 11))⟩, ⟨(some 176), (some (174, true)), (.bin .eql .int (.t 175) (.k (.v (.int .i64 0))))⟩, ⟨(some 177), none, (.pick (.t 174)
  (.t 176) (.k (.v (.bool false))))⟩, ⟨(some 178), none, (.mv (.t 177))⟩, ⟨(some 179), (some (178, true)), (.mv (.t 13))⟩, ⟨(some 180), (some (178, true)), (.bin .eql .int (.t 179)
  (.k (.v (.int .i64 1))))⟩, ⟨(some 181), none, (.pick (.t 178) (.t 180) (.k (.v (.bool false))))⟩, ⟨(some 182), none, (.mv (.t 181))⟩, ⟨(some 183), (some (182, true)), (.mv (.t
  15))⟩, ⟨(some 184), (some (182, true)), (.bin .eql .int (.t 183) (.k (.v (.int .i64 2))))⟩, ⟨(some 185), none, (.pick (.t 182) (.t 184) (.k (.v (.bool false))))⟩, ⟨(some 186),
  none, (.mv (.t 185))⟩, ⟨(some 187), (some (186, true)), (.mv (.t 17))⟩, ⟨(some 188), (some (186, true)), (.bin .eql .int (.t 187) (.k (.v (.int .i64 0))))⟩, ⟨(some 189), none,
  (.pick (.t 186) (.t 188) (.k (.v (.bool false))))⟩, ⟨(some 190), none, (.mv (.t 189))⟩, ⟨(some 191), (some (190, true)), (.mv (.t 19))⟩, ⟨(some 192), (some (190, true)), (.bin
  .eql .int (.t 191) (.k (.v (.int .i64 18))))⟩, ⟨(some 193), none, (.pick (.t 190) (.t 192) (.k (.v (.bool false))))⟩, ⟨(some 194), none, (.mv (.t 193))⟩, ⟨(some 195), (some (194,
  true)), (.mv (.t 20))⟩, ⟨(some 196), (some (194, true)), (.bin .eql .int (.t 195) (.k (.v (.int .i64 0))))⟩, ⟨(some 197), none, (.pick (.t 194) (.t 196) (.k (.v (.bool
  false))))⟩, ⟨(some 198), none, (.mv (.t 197))⟩, ⟨(some 199), (some (198, true)), (.mv (.t 22))⟩, ⟨(some 200), (some (198, true)), (.bin .eql .int (.t 199) (.k (.v (.int .i64
  105))))⟩, ⟨(some 201), none, (.pick (.t 198) (.t 200) (.k (.v (.bool false))))⟩, ⟨(some 202), none, (.mv (.t 201))⟩, ⟨(some 203), (some (202, true)), (.mv (.t 23))⟩, ⟨(some 204),
  (some (202, true)), (.bin .eql .int (.t 203) (.k (.v (.int .i64 105))))⟩, ⟨(some 205), none, (.pick (.t 202) (.t 204) (.k (.v (.bool false))))⟩, ⟨(some 206), none, (.mv (.t
  205))⟩, ⟨(some 207), (some (206, true)), (.ld 5 true (.t 1))⟩, ⟨(some 208), (some (206, true)), (.call 16 [(.t 207)])⟩, ⟨(some 209), none, (.pick (.t 206) (.t 208) (.k (.v (.bool
  false))))⟩, ⟨(some 210), none, (.mv (.t 209))⟩, ⟨(some 211), (some (210, true)), (.build [(.v (.int .i64 0)), (.sl 0 true [] []), (.v (.int .i64 0)), (.v (.int .i64 0)), (.sl 0
  true [] [])] [(3, 1, (.k (.v (.int .i64 (-1)))))])⟩, ⟨(some 212), (some (210, true)), (.call 16 [(.t 211)])⟩, ⟨(some 213), (some (210, true)), (.un .not (.t 212))⟩, ⟨(some 214),
  none, (.pick (.t 210) (.t 213) (.k (.v (.bool false))))⟩, ⟨(some 0), none, (.mv (.t 214))⟩]) .ret))))))))))))))
def rv11 : List RV := [(.t 0)]
theorem ok11 : cFun Try.prog Try.f11 = some (ac11, rv11) := by kernel_rfl
theorem nt11 : Try.f11.ntmps = 215 := by kernel_rfl
theorem of11 : okF Try.prog 11 := ⟨Try.f11, Try.func11, by kernel_rfl, by kernel_rfl⟩

/- putlog/putlogref24.Made -/
def ac12 : AC := (.seq (.reg 0 [⟨(some 1), none, (.box 9 (.t 0))⟩, ⟨(some 2), none, (.alloc [(.v (.int .i64 0)), (.sl 0 true [] []), (.v (.int .i64 0)), (.v (.int .i64 0)), (.sl 0 true [] [])])⟩])
  (.seq (.reg 1 [⟨(some 3), none, (.mv (.k (.sl 0 true [] [])))⟩]) (.seq (.seq (.reg 2 [⟨(some 4), none, (.mv (.k (.v (.int .i64 0))))⟩]) (.block 0 (.loop (.seq (.seq (.reg 3
  [⟨(some 10), none, (.mv (.t 4))⟩, ⟨(some 11), none, (.fa 3 (.t 1))⟩, ⟨(some 12), none, (.ld 1 false (.t 11))⟩, ⟨(some 13), none, (.len (.t 12))⟩, ⟨(some 14), none, (.bin .lss
  .int (.t 10) (.t 13))⟩, ⟨(some 15), none, (.mv (.t 14))⟩, ⟨(some 16), (some (15, true)), (.mv (.t 4))⟩, ⟨(some 17), (some (15, true)), (.bin .lss .int (.t 16) (.k (.v (.int .i64
  5))))⟩, ⟨(some 18), none, (.pick (.t 15) (.t 17) (.k (.v (.bool false))))⟩]) (.cond (.t 18) .nop (.exit 0))) (.seq (.block 1 (.drw 5 [⟨(some 21), none, (.mv (.t 3))⟩, ⟨(some 22),
  none, (.fa 3 (.t 1))⟩, ⟨(some 23), none, (.ld 1 false (.t 22))⟩, ⟨(some 24), none, (.mv (.t 4))⟩, ⟨(some 25), none, (.ia 3 (.t 23) (.t 24))⟩, ⟨(some 26), none, (.iaA 3 1 (.t 25)
  (.k (.v (.int .i64 0))))⟩, ⟨(some 27), none, (.ld 1 false (.t 26))⟩, ⟨(some 28), none, (.call 32 [(.t 27), (.k (.v (.int .i64 360)))])⟩, ⟨(some 29), none, (.fa 3 (.t 1))⟩, ⟨(some
  30), none, (.ld 1 false (.t 29))⟩, ⟨(some 31), none, (.mv (.t 4))⟩, ⟨(some 32), none, (.ia 3 (.t 30) (.t 31))⟩, ⟨(some 33), none, (.iaA 3 1 (.t 32) (.k (.v (.int .i64 1))))⟩,
  ⟨(some 34), none, (.ld 1 false (.t 33))⟩, ⟨(some 35), none, (.fa 3 (.t 1))⟩, ⟨(some 36), none, (.ld 1 false (.t 35))⟩, ⟨(some 37), none, (.mv (.t 4))⟩, ⟨(some 38), none, (.ia 3
  (.t 36) (.t 37))⟩, ⟨(some 39), none, (.iaA 3 1 (.t 38) (.k (.v (.int .i64 2))))⟩, ⟨(some 40), none, (.ld 1 false (.t 39))⟩, ⟨(some 41), none, (.build [(.v (.int .i64 0)), (.v
  (.int .i64 0)), (.v (.int .i64 0))] [(0, 1, (.t 28)), (1, 1, (.t 34)), (2, 1, (.t 40))])⟩, ⟨(some 42), none, (.bsl 3 1 [(.v (.int .i64 0)), (.v (.int .i64 0)), (.v (.int .i64
  0))] [(0, (.t 41))])⟩, ⟨(some 43), none, (.app 3 24 [(.v (.int .i64 0)), (.v (.int .i64 0)), (.v (.int .i64 0))] (.t 21) (.t 42))⟩, ⟨(some 3), none, (.mv (.t 43))⟩] [(7, 9), (7,
  11), (7, 13), (7, 15), (7, 17), (7, 19)])) (.reg 4 [⟨(some 19), none, (.mv (.t 4))⟩, ⟨(some 20), none, (.bin .add .int (.t 19) (.k (.v (.int .i64 1))))⟩, ⟨(some 4), none, (.mv
  (.t 20))⟩])))))) (.seq (.drw 6 [⟨(some 44), none, (.fa 0 (.t 1))⟩, ⟨(some 45), none, (.ld 1 false (.t 44))⟩, ⟨(some 46), none, (.fa 1 (.t 1))⟩, ⟨(some 47), none, (.ld 1 false (.t
  46))⟩, ⟨(some 48), none, (.fa 2 (.t 1))⟩, ⟨(some 49), none, (.ld 1 false (.t 48))⟩, ⟨(some 50), none, (.mv (.t 3))⟩, ⟨(some 51), none, (.call 33 [(.t 45), (.t 47), (.t 49), (.t
  50)])⟩, ⟨(some 52), none, (.ld 9 true (.t 1))⟩, ⟨(some 53), none, (.call 34 [(.t 52)])⟩, ⟨(some 54), none, (.ld 9 true (.t 1))⟩, ⟨(some 55), none, (.call 35 [(.t 54)])⟩, ⟨(some
  56), none, (.build [(.v (.int .i64 0)), (.sl 0 true [] []), (.v (.int .i64 0)), (.v (.int .i64 0)), (.sl 0 true [] [])] [(0, 2, (.t 51)), (2, 1, (.t 53)), (3, 1, (.t 55))])⟩,
  ⟨(some 5), none, (.alloc [(.v (.int .i64 0)), (.sl 0 true [] []), (.v (.int .i64 0)), (.v (.int .i64 0)), (.sl 0 true [] [])])⟩, ⟨none, none, (.st 5 (.t 5) (.t 56))⟩] [(7, 8),
  (7, 10), (9, 10), (1, 13), (3, 13), (5, 13), (7, 13), (8, 13), (9, 13), (10, 13), (11, 13)]) (.seq (.reg 7 [⟨(some 6), none, (.mv (.k (.v (.int .i64 0))))⟩]) (.seq (.seq (.reg 8
  [⟨(some 7), none, (.mv (.k (.v (.int .i64 0))))⟩]) (.block 2 (.loop (.seq (.seq (.reg 9 [⟨(some 57), none, (.mv (.t 7))⟩, ⟨(some 58), none, (.fa 8 (.t 1))⟩, ⟨(some 59), none,
  (.ld 1 false (.t 58))⟩, ⟨(some 60), none, (.len (.t 59))⟩, ⟨(some 61), none, (.bin .lss .int (.t 57) (.t 60))⟩, ⟨(some 62), none, (.mv (.t 61))⟩, ⟨(some 63), (some (62, true)),
  (.mv (.t 7))⟩, ⟨(some 64), (some (62, true)), (.bin .lss .int (.t 63) (.k (.v (.int .i64 12))))⟩, ⟨(some 65), none, (.pick (.t 62) (.t 64) (.k (.v (.bool false))))⟩]) (.cond (.t
  65) .nop (.exit 2))) (.seq (.block 3 (.seq (.reg 11 [⟨(some 68), none, (.mv (.t 6))⟩, ⟨(some 69), none, (.fa 8 (.t 1))⟩, ⟨(some 70), none, (.ld 1 false (.t 69))⟩, ⟨(some 71),
  none, (.mv (.t 7))⟩, ⟨(some 72), none, (.ia 2 (.t 70) (.t 71))⟩, ⟨(some 73), none, (.iaA 2 1 (.t 72) (.k (.v (.int .i64 0))))⟩, ⟨(some 74), none, (.ld 1 false (.t 73))⟩, ⟨(some
  75), none, (.call 32 [(.t 74), (.k (.v (.int .i64 31)))])⟩, ⟨(some 76), none, (.bin .add .int (.t 68) (.t 75))⟩, ⟨(some 6), none, (.mv (.t 76))⟩]) (.seq (.drw 12 [⟨(some 77),
  none, (.fa 0 (.t 1))⟩, ⟨(some 78), none, (.ld 1 false (.t 77))⟩, ⟨(some 79), none, (.fa 1 (.t 1))⟩, ⟨(some 80), none, (.ld 1 false (.t 79))⟩, ⟨(some 81), none, (.fa 2 (.t 1))⟩,
  ⟨(some 82), none, (.ld 1 false (.t 81))⟩, ⟨(some 83), none, (.mv (.t 6))⟩, ⟨(some 84), none, (.call 36 [(.t 78), (.t 80), (.t 82), (.t 83)])⟩, ⟨(some 85), none, (.ld 9 true (.t
  1))⟩, ⟨(some 86), none, (.mv (.t 6))⟩, ⟨(some 87), none, (.call 28 [(.t 85), (.t 86)])⟩, ⟨(some 88), none, (.fa 8 (.t 1))⟩, ⟨(some 89), none, (.ld 1 false (.t 88))⟩, ⟨(some 90),
  none, (.mv (.t 7))⟩, ⟨(some 91), none, (.ia 2 (.t 89) (.t 90))⟩, ⟨(some 92), none, (.iaA 2 1 (.t 91) (.k (.v (.int .i64 1))))⟩, ⟨(some 93), none, (.ld 1 false (.t 92))⟩, ⟨(some
  94), none, (.fa 2 (.t 5))⟩, ⟨(some 95), none, (.ld 1 false (.t 94))⟩, ⟨(some 96), none, (.bin .mul .int (.k (.v (.int .i64 2))) (.t 95))⟩, ⟨(some 97), none, (.bin .add .int (.t
  96) (.k (.v (.int .i64 1))))⟩, ⟨(some 98), none, (.call 32 [(.t 93), (.t 97)])⟩, ⟨(some 99), none, (.bin .add .int (.t 87) (.t 98))⟩, ⟨(some 100), none, (.fa 2 (.t 5))⟩, ⟨(some
  101), none, (.ld 1 false (.t 100))⟩, ⟨(some 102), none, (.bin .sub .int (.t 99) (.t 101))⟩, ⟨(some 103), none, (.build [(.v (.int .i64 0)), (.v (.int .i64 0))] [(0, 1, (.t 84)),
  (1, 1, (.t 102))])⟩, ⟨(some 8), none, (.alloc [(.v (.int .i64 0)), (.v (.int .i64 0))])⟩, ⟨none, none, (.st 2 (.t 8) (.t 103))⟩] [(7, 8), (7, 12), (10, 12), (7, 14), (10, 14),
  (7, 16), (10, 16), (7, 18), (10, 18), (7, 24), (10, 24), (21, 24), (1, 27), (3, 27), (5, 27), (7, 27), (8, 27), (10, 27), (12, 27), (14, 27), (16, 27), (18, 27), (21, 27), (24,
  27)]) (.seq (.reg 13 [⟨(some 104), none, (.fa 4 (.t 5))⟩, ⟨(some 105), none, (.ld 1 false (.t 104))⟩, ⟨(some 106), none, (.len (.t 105))⟩, ⟨(some 9), none, (.mv (.t 106))⟩])
  (.seq (.drw 14 [⟨(some 107), none, (.mv (.t 9))⟩, ⟨(some 108), none, (.bin .eql .int (.t 107) (.k (.v (.int .i64 0))))⟩, ⟨(some 109), none, (.mv (.t 108))⟩, ⟨(some 110), (some
  (109, false)), (.fa 4 (.t 5))⟩, ⟨(some 111), (some (109, false)), (.ld 1 false (.t 110))⟩, ⟨(some 112), (some (109, false)), (.mv (.t 9))⟩, ⟨(some 113), (some (109, false)),
  (.bin .sub .int (.t 112) (.k (.v (.int .i64 1))))⟩, ⟨(some 114), (some (109, false)), (.ia 2 (.t 111) (.t 113))⟩, ⟨(some 115), (some (109, false)), (.fa 0 (.t 114))⟩, ⟨(some
  116), (some (109, false)), (.ld 1 false (.t 115))⟩, ⟨(some 117), (some (109, false)), (.fa 0 (.t 8))⟩, ⟨(some 118), (some (109, false)), (.ld 1 false (.t 117))⟩, ⟨(some 119),
  (some (109, false)), (.bin .lss .int (.t 116) (.t 118))⟩, ⟨(some 120), none, (.pick (.t 109) (.k (.v (.bool true))) (.t 119))⟩] []) (.cond (.t 120) (.reg 15 [⟨(some 121), none,
  (.fa 4 (.t 5))⟩, ⟨(some 122), none, (.ld 1 false (.t 121))⟩, ⟨(some 123), none, (.ld 2 true (.t 8))⟩, ⟨(some 124), none, (.bsl 2 1 [(.v (.int .i64 0)), (.v (.int .i64 0))] [(0,
  (.t 123))])⟩, ⟨(some 125), none, (.app 2 16 [(.v (.int .i64 0)), (.v (.int .i64 0))] (.t 122) (.t 124))⟩, ⟨(some 126), none, (.fa 4 (.t 5))⟩, ⟨none, none, (.st 1 (.t 126) (.t
  125))⟩]) .nop)))))) (.reg 10 [⟨(some 66), none, (.mv (.t 7))⟩, ⟨(some 67), none, (.bin .add .int (.t 66) (.k (.v (.int .i64 1))))⟩, ⟨(some 7), none, (.mv (.t 67))⟩])))))) (.seq
  (.reg 16 [⟨(some 127), none, (.ld 5 true (.t 5))⟩, ⟨none, none, (.st 5 (.t 2) (.t 127))⟩]) .ret)))))))
def rv12 : List RV := [(.c 2 5 true)]
theorem ok12 : cFun Try.prog Try.f12 = some (ac12, rv12) := by kernel_rfl
theorem nt12 : Try.f12.ntmps = 128 := by kernel_rfl
theorem of12 : okF Try.prog 12 := ⟨Try.f12, Try.func12, by kernel_rfl, by kernel_rfl⟩

/- putlog/putlogref24.Exact -/
def ac13 : AC := (.seq (.reg 0 [⟨(some 1), none, (.box 9 (.t 0))⟩, ⟨(some 2), none, (.alloc [(.v (.int .i64 0)), (.sl 0 true [] []), (.v (.int .i64 0)), (.v (.int .i64 0)), (.sl 0 true [] [])])⟩])
  (.seq (.drw 1 [⟨(some 6), none, (.fa 1 (.t 1))⟩, ⟨(some 7), none, (.ld 1 false (.t 6))⟩, ⟨(some 8), none, (.call 32 [(.t 7), (.k (.v (.int .i64 1000)))])⟩, ⟨(some 9), none, (.bin
  .add .int (.t 8) (.k (.v (.int .i64 50))))⟩, ⟨(some 10), none, (.build [(.v (.int .i64 0)), (.v (.int .i64 0)), (.v (.int .i64 0))] [(0, 1, (.t 9)), (1, 1, (.k (.v (.int .i64
  50)))), (2, 1, (.k (.v (.int .i64 50))))])⟩, ⟨(some 11), none, (.bsl 3 1 [(.v (.int .i64 0)), (.v (.int .i64 0)), (.v (.int .i64 0))] [(0, (.t 10))])⟩, ⟨(some 12), none, (.build
  [(.v (.int .i64 0)), (.sl 0 true [] [])] [(1, 1, (.t 11))])⟩, ⟨(some 13), none, (.ld 9 true (.t 1))⟩, ⟨(some 14), none, (.call 34 [(.t 13)])⟩, ⟨(some 15), none, (.ld 9 true (.t
  1))⟩, ⟨(some 16), none, (.call 35 [(.t 15)])⟩, ⟨(some 17), none, (.build [(.v (.int .i64 0)), (.sl 0 true [] []), (.v (.int .i64 0)), (.v (.int .i64 0)), (.sl 0 true [] [])] [(0,
  2, (.t 12)), (2, 1, (.t 14)), (3, 1, (.t 16))])⟩, ⟨(some 3), none, (.alloc [(.v (.int .i64 0)), (.sl 0 true [] []), (.v (.int .i64 0)), (.v (.int .i64 0)), (.sl 0 true [] [])])⟩,
  ⟨none, none, (.st 5 (.t 3) (.t 17))⟩] [(2, 7), (5, 7), (5, 8), (2, 9), (5, 9), (8, 9), (5, 10), (1, 12), (2, 12), (5, 12), (7, 12), (8, 12), (9, 12), (10, 12)]) (.seq (.reg 2
  [⟨(some 4), none, (.mv (.k (.v (.int .i64 0))))⟩]) (.seq (.seq (.reg 3 [⟨(some 5), none, (.mv (.k (.v (.int .i64 0))))⟩]) (.block 0 (.loop (.seq (.seq (.reg 4 [⟨(some 18), none,
  (.mv (.t 5))⟩, ⟨(some 19), none, (.fa 8 (.t 1))⟩, ⟨(some 20), none, (.ld 1 false (.t 19))⟩, ⟨(some 21), none, (.len (.t 20))⟩, ⟨(some 22), none, (.bin .lss .int (.t 18) (.t
  21))⟩, ⟨(some 23), none, (.mv (.t 22))⟩, ⟨(some 24), (some (23, true)), (.mv (.t 5))⟩, ⟨(some 25), (some (23, true)), (.bin .lss .int (.t 24) (.k (.v (.int .i64 12))))⟩, ⟨(some
  26), none, (.pick (.t 23) (.t 25) (.k (.v (.bool false))))⟩]) (.cond (.t 26) .nop (.exit 0))) (.seq (.block 1 (.seq (.reg 6 [⟨(some 29), none, (.mv (.t 4))⟩, ⟨(some 30), none,
  (.bin .add .int (.t 29) (.k (.v (.int .i64 1))))⟩, ⟨(some 31), none, (.fa 8 (.t 1))⟩, ⟨(some 32), none, (.ld 1 false (.t 31))⟩, ⟨(some 33), none, (.mv (.t 5))⟩, ⟨(some 34), none,
  (.ia 2 (.t 32) (.t 33))⟩, ⟨(some 35), none, (.iaA 2 1 (.t 34) (.k (.v (.int .i64 0))))⟩, ⟨(some 36), none, (.ld 1 false (.t 35))⟩, ⟨(some 37), none, (.call 32 [(.t 36), (.k (.v
  (.int .i64 30)))])⟩, ⟨(some 38), none, (.bin .add .int (.t 30) (.t 37))⟩, ⟨(some 4), none, (.mv (.t 38))⟩]) (.drw 7 [⟨(some 39), none, (.fa 4 (.t 3))⟩, ⟨(some 40), none, (.ld 1
  false (.t 39))⟩, ⟨(some 41), none, (.fa 1 (.t 1))⟩, ⟨(some 42), none, (.ld 1 false (.t 41))⟩, ⟨(some 43), none, (.call 32 [(.t 42), (.k (.v (.int .i64 1000)))])⟩, ⟨(some 44),
  none, (.mv (.t 4))⟩, ⟨(some 45), none, (.bin .add .int (.t 43) (.t 44))⟩, ⟨(some 46), none, (.ld 9 true (.t 1))⟩, ⟨(some 47), none, (.mv (.t 4))⟩, ⟨(some 48), none, (.call 28
  [(.t 46), (.t 47)])⟩, ⟨(some 49), none, (.fa 8 (.t 1))⟩, ⟨(some 50), none, (.ld 1 false (.t 49))⟩, ⟨(some 51), none, (.mv (.t 5))⟩, ⟨(some 52), none, (.ia 2 (.t 50) (.t 51))⟩,
  ⟨(some 53), none, (.iaA 2 1 (.t 52) (.k (.v (.int .i64 1))))⟩, ⟨(some 54), none, (.ld 1 false (.t 53))⟩, ⟨(some 55), none, (.fa 2 (.t 3))⟩, ⟨(some 56), none, (.ld 1 false (.t
  55))⟩, ⟨(some 57), none, (.bin .mul .int (.k (.v (.int .i64 4))) (.t 56))⟩, ⟨(some 58), none, (.bin .add .int (.t 57) (.k (.v (.int .i64 1))))⟩, ⟨(some 59), none, (.call 32 [(.t
  54), (.t 58)])⟩, ⟨(some 60), none, (.bin .add .int (.t 48) (.t 59))⟩, ⟨(some 61), none, (.fa 2 (.t 3))⟩, ⟨(some 62), none, (.ld 1 false (.t 61))⟩, ⟨(some 63), none, (.bin .mul
  .int (.k (.v (.int .i64 2))) (.t 62))⟩, ⟨(some 64), none, (.bin .sub .int (.t 60) (.t 63))⟩, ⟨(some 65), none, (.build [(.v (.int .i64 0)), (.v (.int .i64 0))] [(0, 1, (.t 45)),
  (1, 1, (.t 64))])⟩, ⟨(some 66), none, (.bsl 2 1 [(.v (.int .i64 0)), (.v (.int .i64 0))] [(0, (.t 65))])⟩, ⟨(some 67), none, (.app 2 16 [(.v (.int .i64 0)), (.v (.int .i64 0))]
  (.t 40) (.t 66))⟩, ⟨(some 68), none, (.fa 4 (.t 3))⟩, ⟨none, none, (.st 1 (.t 68) (.t 67))⟩] [(1, 4), (4, 7), (1, 9), (4, 11), (9, 11), (4, 13), (9, 13), (4, 15), (9, 15), (4,
  17), (9, 17), (1, 20), (4, 23), (9, 23), (20, 23), (1, 27)]))) (.reg 5 [⟨(some 27), none, (.mv (.t 5))⟩, ⟨(some 28), none, (.bin .add .int (.t 27) (.k (.v (.int .i64 1))))⟩,
  ⟨(some 5), none, (.mv (.t 28))⟩])))))) (.seq (.reg 8 [⟨(some 69), none, (.ld 5 true (.t 3))⟩, ⟨none, none, (.st 5 (.t 2) (.t 69))⟩]) .ret)))))
def rv13 : List RV := [(.c 2 5 true)]
theorem ok13 : cFun Try.prog Try.f13 = some (ac13, rv13) := by kernel_rfl
theorem nt13 : Try.f13.ntmps = 70 := by kernel_rfl
theorem of13 : okF Try.prog 13 := ⟨Try.f13, Try.func13, by kernel_rfl, by kernel_rfl⟩

/- putlog/putlogref24.Bent -/
def ac14 : AC := (.seq (.reg 0 [⟨(some 4), none, (.box 5 (.t 0))⟩, ⟨(some 8), none, (.alloc [(.v (.int .i64 0)), (.sl 0 true [] []), (.v (.int .i64 0)), (.v (.int .i64 0)), (.sl 0 true [] [])])⟩])
  (.seq (.reg 1 [⟨(some 10), none, (.bsl 2 0 [(.v (.int .i64 0)), (.v (.int .i64 0))] [])⟩, ⟨(some 11), none, (.fa 4 (.t 4))⟩, ⟨(some 12), none, (.ld 1 false (.t 11))⟩, ⟨(some 13),
  none, (.app 2 16 [(.v (.int .i64 0)), (.v (.int .i64 0))] (.t 10) (.t 12))⟩, ⟨(some 14), none, (.fa 4 (.t 4))⟩, ⟨none, none, (.st 1 (.t 14) (.t 13))⟩]) (.seq (.seq (.reg 2
  [⟨(some 15), none, (.fa 4 (.t 4))⟩, ⟨(some 16), none, (.ld 1 false (.t 15))⟩, ⟨(some 17), none, (.len (.t 16))⟩, ⟨(some 18), none, (.bin .eql .int (.t 17) (.k (.v (.int .i64
  0))))⟩]) (.cond (.t 18) (.reg 3 [⟨(some 19), none, (.mv (.t 2))⟩, ⟨(some 20), none, (.mv (.t 3))⟩, ⟨(some 21), none, (.build [(.v (.int .i64 0)), (.v (.int .i64 0))] [(0, 1, (.t
  19)), (1, 1, (.t 20))])⟩, ⟨(some 22), none, (.bsl 2 1 [(.v (.int .i64 0)), (.v (.int .i64 0))] [(0, (.t 21))])⟩, ⟨(some 23), none, (.fa 4 (.t 4))⟩, ⟨none, none, (.st 1 (.t 23)
  (.t 22))⟩]) .nop)) (.seq (.reg 4 [⟨(some 24), none, (.mv (.t 3))⟩, ⟨(some 25), none, (.fa 4 (.t 4))⟩, ⟨(some 26), none, (.ld 1 false (.t 25))⟩, ⟨(some 27), none, (.len (.t 26))⟩,
  ⟨(some 28), none, (.call 32 [(.t 24), (.t 27)])⟩, ⟨(some 9), none, (.mv (.t 28))⟩]) (.seq (.seq (.reg 5 [⟨(some 29), none, (.mv (.t 1))⟩, ⟨(some 30), none, (.call 32 [(.t 29),
  (.k (.v (.int .i64 6)))])⟩]) (.block 0 (.seq (.reg 7 [⟨(some 49), none, (.bin .eql .int (.t 30) (.k (.v (.int .i64 0))))⟩, ⟨(some 48), none, (.mv (.t 49))⟩]) (.cond (.t 48) (.reg
  8 [⟨(some 50), none, (.mv (.t 2))⟩, ⟨(some 51), none, (.fa 2 (.t 4))⟩, ⟨none, none, (.st 1 (.t 51) (.t 50))⟩]) (.seq (.reg 9 [⟨(some 53), none, (.bin .eql .int (.t 30) (.k (.v
  (.int .i64 1))))⟩, ⟨(some 52), none, (.mv (.t 53))⟩]) (.cond (.t 52) (.reg 10 [⟨(some 54), none, (.mv (.t 2))⟩, ⟨(some 55), none, (.fa 3 (.t 4))⟩, ⟨none, none, (.st 1 (.t 55) (.t
  54))⟩]) (.seq (.reg 11 [⟨(some 57), none, (.bin .eql .int (.t 30) (.k (.v (.int .i64 2))))⟩, ⟨(some 56), none, (.mv (.t 57))⟩]) (.cond (.t 56) (.reg 12 [⟨(some 58), none, (.fa 4
  (.t 4))⟩, ⟨(some 59), none, (.ld 1 false (.t 58))⟩, ⟨(some 60), none, (.mv (.t 9))⟩, ⟨(some 61), none, (.mv (.t 2))⟩, ⟨(some 62), none, (.ia 2 (.t 59) (.t 60))⟩, ⟨(some 63),
  none, (.fa 0 (.t 62))⟩, ⟨none, none, (.st 1 (.t 63) (.t 61))⟩]) (.seq (.reg 13 [⟨(some 65), none, (.bin .eql .int (.t 30) (.k (.v (.int .i64 3))))⟩, ⟨(some 64), none, (.mv (.t
  65))⟩]) (.cond (.t 64) (.reg 14 [⟨(some 66), none, (.fa 4 (.t 4))⟩, ⟨(some 67), none, (.ld 1 false (.t 66))⟩, ⟨(some 68), none, (.mv (.t 9))⟩, ⟨(some 69), none, (.mv (.t 2))⟩,
  ⟨(some 70), none, (.ia 2 (.t 67) (.t 68))⟩, ⟨(some 71), none, (.fa 1 (.t 70))⟩, ⟨none, none, (.st 1 (.t 71) (.t 69))⟩]) (.seq (.reg 15 [⟨(some 73), none, (.bin .eql .int (.t 30)
  (.k (.v (.int .i64 4))))⟩, ⟨(some 72), none, (.mv (.t 73))⟩]) (.cond (.t 72) (.reg 16 [⟨(some 74), none, (.mv (.t 2))⟩, ⟨(some 75), none, (.fa 0 (.t 4))⟩, ⟨(some 76), none, (.fa
  0 (.t 75))⟩, ⟨none, none, (.st 1 (.t 76) (.t 74))⟩]) (.drw 6 [⟨(some 31), none, (.fa 4 (.t 4))⟩, ⟨(some 32), none, (.ld 1 false (.t 31))⟩, ⟨(some 33), none, (.fa 4 (.t 4))⟩,
  ⟨(some 34), none, (.ld 1 false (.t 33))⟩, ⟨(some 35), none, (.fa 4 (.t 4))⟩, ⟨(some 36), none, (.ld 1 false (.t 35))⟩, ⟨(some 37), none, (.len (.t 36))⟩, ⟨(some 38), none, (.bin
  .sub .int (.t 37) (.k (.v (.int .i64 1))))⟩, ⟨(some 39), none, (.ia 2 (.t 34) (.t 38))⟩, ⟨(some 40), none, (.fa 0 (.t 39))⟩, ⟨(some 41), none, (.ld 1 false (.t 40))⟩, ⟨(some 42),
  none, (.bin .add .int (.t 41) (.k (.v (.int .i64 1))))⟩, ⟨(some 43), none, (.mv (.t 2))⟩, ⟨(some 44), none, (.build [(.v (.int .i64 0)), (.v (.int .i64 0))] [(0, 1, (.t 42)), (1,
  1, (.t 43))])⟩, ⟨(some 45), none, (.bsl 2 1 [(.v (.int .i64 0)), (.v (.int .i64 0))] [(0, (.t 44))])⟩, ⟨(some 46), none, (.app 2 16 [(.v (.int .i64 0)), (.v (.int .i64 0))] (.t
  32) (.t 45))⟩, ⟨(some 47), none, (.fa 4 (.t 4))⟩, ⟨none, none, (.st 1 (.t 47) (.t 46))⟩] [(1, 14)]))))))))))))) (.seq (.reg 17 [⟨(some 77), none, (.ld 5 true (.t 4))⟩, ⟨none,
  none, (.st 5 (.t 8) (.t 77))⟩]) .ret))))))
def rv14 : List RV := [(.c 8 5 true)]
theorem ok14 : cFun Try.prog Try.f14 = some (ac14, rv14) := by kernel_rfl
theorem nt14 : Try.f14.ntmps = 78 := by kernel_rfl
theorem of14 : okF Try.prog 14 := ⟨Try.f14, Try.func14, by kernel_rfl, by kernel_rfl⟩

/- putlog/putloglaw24.pick -/
def ac15 : AC := (.seq (.reg 0 [⟨(some 4), none, (.mv (.k (.v (.int .i64 0))))⟩]) (.seq (.seq (.reg 1 [⟨(some 5), none, (.mv (.t 0))⟩, ⟨(some 6), none, (.bin .lss .int (.t 5) (.k (.v (.int .i64
  0))))⟩]) (.cond (.t 6) (.reg 2 [⟨(some 7), none, (.mv (.t 0))⟩, ⟨(some 8), none, (.bin .add .int (.t 7) (.k (.v (.int .i64 1))))⟩, ⟨(some 9), none, (.un .neg (.t 8))⟩, ⟨(some 0),
  none, (.mv (.t 9))⟩]) .nop)) (.seq (.reg 3 [⟨(some 10), none, (.mv (.t 0))⟩, ⟨(some 11), none, (.mv (.t 1))⟩, ⟨(some 12), none, (.bin .rem .int (.t 10) (.t 11))⟩, ⟨(some 4),
  none, (.mv (.t 12))⟩]) .ret)))
def rv15 : List RV := [(.t 4)]
theorem ok15 : cFun Try.prog Try.f15 = some (ac15, rv15) := by kernel_rfl
theorem nt15 : Try.f15.ntmps = 13 := by kernel_rfl
theorem of15 : okF Try.prog 15 := ⟨Try.f15, Try.func15, by kernel_rfl, by kernel_rfl⟩

/- putlog/monitor.Valid -/
def ac16 : AC := (.seq (.reg 0 [⟨(some 1), none, (.box 5 (.t 0))⟩, ⟨(some 2), none, (.mv (.k (.v (.bool false))))⟩]) (.seq (.reg 1 [⟨(some 3), none, (.mv (.k (.v (.int .i64 (-1)))))⟩]) (.seq (.seq
  (.reg 2 [⟨(some 6), none, (.fa 4 (.t 1))⟩, ⟨(some 7), none, (.ld 1 false (.t 6))⟩, ⟨(some 8), none, (.len (.t 7))⟩, ⟨(some 9), none, (.mv (.k (.v (.int .i64 0))))⟩]) (.block 0
  (.loop (.seq (.reg 3 [⟨(some 10), none, (.bin .lss .int (.t 9) (.t 8))⟩]) (.seq (.cond (.t 10) .nop (.exit 0)) (.seq (.block 1 (.seq (.reg 4 [⟨(some 11), none, (.ia 2 (.t 7) (.t
  9))⟩, ⟨(some 12), none, (.ld 2 true (.t 11))⟩, ⟨(some 5), none, (.alloc [(.v (.int .i64 0)), (.v (.int .i64 0))])⟩, ⟨none, none, (.st 2 (.t 5) (.t 12))⟩]) (.seq (.seq (.reg 5
  [⟨(some 13), none, (.fa 0 (.t 5))⟩, ⟨(some 14), none, (.ld 1 false (.t 13))⟩, ⟨(some 15), none, (.mv (.t 3))⟩, ⟨(some 16), none, (.bin .leq .int (.t 14) (.t 15))⟩, ⟨(some 17),
  none, (.mv (.t 16))⟩, ⟨(some 18), (some (17, false)), (.fa 0 (.t 5))⟩, ⟨(some 19), (some (17, false)), (.ld 1 false (.t 18))⟩, ⟨(some 20), (some (17, false)), (.bin .gtr .int (.t
  19) (.k (.v (.int .i64 10000000))))⟩, ⟨(some 21), none, (.pick (.t 17) (.k (.v (.bool true))) (.t 20))⟩, ⟨(some 22), none, (.mv (.t 21))⟩, ⟨(some 23), (some (22, false)), (.fa 1
  (.t 5))⟩, ⟨(some 24), (some (22, false)), (.ld 1 false (.t 23))⟩, ⟨(some 25), (some (22, false)), (.call 37 [(.t 24), (.k (.v (.int .i64 (-1000000)))), (.k (.v (.int .i64
  1000000)))])⟩, ⟨(some 26), (some (22, false)), (.un .not (.t 25))⟩, ⟨(some 27), none, (.pick (.t 22) (.k (.v (.bool true))) (.t 26))⟩]) (.cond (.t 27) (.seq (.reg 6 [⟨(some 2),
  none, (.mv (.k (.v (.bool false))))⟩]) .ret) .nop)) (.reg 7 [⟨(some 28), none, (.fa 0 (.t 5))⟩, ⟨(some 29), none, (.ld 1 false (.t 28))⟩, ⟨(some 3), none, (.mv (.t 29))⟩]))))
  (.reg 8 [⟨(some 30), none, (.bin .add .int (.t 9) (.k (.v (.int .i64 1))))⟩, ⟨(some 9), none, (.mv (.t 30))⟩]))))))) (.seq (.reg 9 [⟨(some 31), none, (.fa 0 (.t 1))⟩, ⟨(some 32),
  none, (.ld 2 true (.t 31))⟩, ⟨(some 33), none, (.call 38 [(.t 32)])⟩, ⟨(some 34), none, (.mv (.t 33))⟩, ⟨(some 35), (some (34, true)), (.fa 2 (.t 1))⟩, ⟨(some 36), (some (34,
  true)), (.ld 1 false (.t 35))⟩, ⟨(some 37), (some (34, true)), (.call 37 [(.t 36), (.k (.v (.int .i64 0))), (.k (.v (.int .i64 1000)))])⟩, ⟨(some 38), none, (.pick (.t 34) (.t
  37) (.k (.v (.bool false))))⟩, ⟨(some 39), none, (.mv (.t 38))⟩, ⟨(some 40), (some (39, true)), (.fa 3 (.t 1))⟩, ⟨(some 41), (some (39, true)), (.ld 1 false (.t 40))⟩, ⟨(some
  42), (some (39, true)), (.call 37 [(.t 41), (.k (.v (.int .i64 0))), (.k (.v (.int .i64 1000)))])⟩, ⟨(some 43), none, (.pick (.t 39) (.t 42) (.k (.v (.bool false))))⟩, ⟨(some
  44), none, (.mv (.t 43))⟩, ⟨(some 45), (some (44, true)), (.fa 4 (.t 1))⟩, ⟨(some 46), (some (44, true)), (.ld 1 false (.t 45))⟩, ⟨(some 47), (some (44, true)), (.len (.t 46))⟩,
  ⟨(some 48), (some (44, true)), (.bin .leq .int (.t 47) (.k (.v (.int .i64 24))))⟩, ⟨(some 49), none, (.pick (.t 44) (.t 48) (.k (.v (.bool false))))⟩, ⟨(some 2), none, (.mv (.t
  49))⟩]) .ret))))
def rv16 : List RV := [(.t 2)]
theorem ok16 : cFun Try.prog Try.f16 = some (ac16, rv16) := by kernel_rfl
theorem nt16 : Try.f16.ntmps = 50 := by kernel_rfl
theorem of16 : okF Try.prog 16 := ⟨Try.f16, Try.func16, by kernel_rfl, by kernel_rfl⟩

/- putlog/putlogref24.Valid -/
def ac17 : AC := (.seq (.reg 0 [⟨(some 1), none, (.box 5 (.t 0))⟩, ⟨(some 2), none, (.mv (.k (.v (.bool false))))⟩]) (.seq (.seq (.reg 1 [⟨(some 5), none, (.fa 0 (.t 1))⟩, ⟨(some 6), none, (.ld 2
  true (.t 5))⟩, ⟨(some 7), none, (.call 39 [(.t 6)])⟩, ⟨(some 8), none, (.un .not (.t 7))⟩, ⟨(some 9), none, (.mv (.t 8))⟩, ⟨(some 10), (some (9, false)), (.fa 2 (.t 1))⟩, ⟨(some
  11), (some (9, false)), (.ld 1 false (.t 10))⟩, ⟨(some 12), (some (9, false)), (.bin .lss .int (.t 11) (.k (.v (.int .i64 0))))⟩, ⟨(some 13), none, (.pick (.t 9) (.k (.v (.bool
  true))) (.t 12))⟩, ⟨(some 14), none, (.mv (.t 13))⟩, ⟨(some 15), (some (14, false)), (.fa 2 (.t 1))⟩, ⟨(some 16), (some (14, false)), (.ld 1 false (.t 15))⟩, ⟨(some 17), (some
  (14, false)), (.bin .gtr .int (.t 16) (.k (.v (.int .i64 1000))))⟩, ⟨(some 18), none, (.pick (.t 14) (.k (.v (.bool true))) (.t 17))⟩, ⟨(some 19), none, (.mv (.t 18))⟩, ⟨(some
  20), (some (19, false)), (.fa 3 (.t 1))⟩, ⟨(some 21), (some (19, false)), (.ld 1 false (.t 20))⟩, ⟨(some 22), (some (19, false)), (.bin .lss .int (.t 21) (.k (.v (.int .i64
  0))))⟩, ⟨(some 23), none, (.pick (.t 19) (.k (.v (.bool true))) (.t 22))⟩, ⟨(some 24), none, (.mv (.t 23))⟩, ⟨(some 25), (some (24, false)), (.fa 3 (.t 1))⟩, ⟨(some 26), (some
  (24, false)), (.ld 1 false (.t 25))⟩, ⟨(some 27), (some (24, false)), (.bin .gtr .int (.t 26) (.k (.v (.int .i64 1000))))⟩, ⟨(some 28), none, (.pick (.t 24) (.k (.v (.bool
  true))) (.t 27))⟩, ⟨(some 29), none, (.mv (.t 28))⟩, ⟨(some 30), (some (29, false)), (.fa 4 (.t 1))⟩, ⟨(some 31), (some (29, false)), (.ld 1 false (.t 30))⟩, ⟨(some 32), (some
  (29, false)), (.len (.t 31))⟩, ⟨(some 33), (some (29, false)), (.bin .gtr .int (.t 32) (.k (.v (.int .i64 24))))⟩, ⟨(some 34), none, (.pick (.t 29) (.k (.v (.bool true))) (.t
  33))⟩]) (.cond (.t 34) (.seq (.reg 2 [⟨(some 2), none, (.mv (.k (.v (.bool false))))⟩]) .ret) .nop)) (.seq (.seq (.reg 3 [⟨(some 3), none, (.mv (.k (.v (.int .i64 0))))⟩])
  (.block 0 (.loop (.seq (.seq (.reg 4 [⟨(some 35), none, (.mv (.t 3))⟩, ⟨(some 36), none, (.fa 4 (.t 1))⟩, ⟨(some 37), none, (.ld 1 false (.t 36))⟩, ⟨(some 38), none, (.len (.t
  37))⟩, ⟨(some 39), none, (.bin .lss .int (.t 35) (.t 38))⟩]) (.cond (.t 39) .nop (.exit 0))) (.seq (.block 1 (.seq (.reg 6 [⟨(some 42), none, (.fa 4 (.t 1))⟩, ⟨(some 43), none,
  (.ld 1 false (.t 42))⟩, ⟨(some 44), none, (.mv (.t 3))⟩, ⟨(some 45), none, (.ia 2 (.t 43) (.t 44))⟩, ⟨(some 46), none, (.ld 2 true (.t 45))⟩, ⟨(some 4), none, (.alloc [(.v (.int
  .i64 0)), (.v (.int .i64 0))])⟩, ⟨none, none, (.st 2 (.t 4) (.t 46))⟩]) (.seq (.drw 7 [⟨(some 47), none, (.fa 0 (.t 4))⟩, ⟨(some 48), none, (.ld 1 false (.t 47))⟩, ⟨(some 49),
  none, (.bin .lss .int (.t 48) (.k (.v (.int .i64 0))))⟩, ⟨(some 50), none, (.mv (.t 49))⟩, ⟨(some 51), (some (50, false)), (.fa 0 (.t 4))⟩, ⟨(some 52), (some (50, false)), (.ld 1
  false (.t 51))⟩, ⟨(some 53), (some (50, false)), (.bin .gtr .int (.t 52) (.k (.v (.int .i64 10000000))))⟩, ⟨(some 54), none, (.pick (.t 50) (.k (.v (.bool true))) (.t 53))⟩,
  ⟨(some 55), none, (.mv (.t 54))⟩, ⟨(some 56), (some (55, false)), (.fa 1 (.t 4))⟩, ⟨(some 57), (some (55, false)), (.ld 1 false (.t 56))⟩, ⟨(some 58), (some (55, false)), (.bin
  .lss .int (.t 57) (.k (.v (.int .i64 (-1000000)))))⟩, ⟨(some 59), none, (.pick (.t 55) (.k (.v (.bool true))) (.t 58))⟩, ⟨(some 60), none, (.mv (.t 59))⟩, ⟨(some 61), (some (60,
  false)), (.fa 1 (.t 4))⟩, ⟨(some 62), (some (60, false)), (.ld 1 false (.t 61))⟩, ⟨(some 63), (some (60, false)), (.bin .gtr .int (.t 62) (.k (.v (.int .i64 1000000))))⟩, ⟨(some
  64), none, (.pick (.t 60) (.k (.v (.bool true))) (.t 63))⟩, ⟨(some 65), none, (.mv (.t 64))⟩, ⟨(some 66), (some (65, false)), (.mv (.t 3))⟩, ⟨(some 67), (some (65, false)), (.bin
  .gtr .int (.t 66) (.k (.v (.int .i64 0))))⟩, ⟨(some 68), (some (65, false)), (.mv (.t 67))⟩, ⟨(some 69), (some (68, true)), (.fa 0 (.t 4))⟩, ⟨(some 70), (some (68, true)), (.ld 1
  false (.t 69))⟩, ⟨(some 71), (some (68, true)), (.fa 4 (.t 1))⟩, ⟨(some 72), (some (68, true)), (.ld 1 false (.t 71))⟩, ⟨(some 73), (some (68, true)), (.mv (.t 3))⟩, ⟨(some 74),
  (some (68, true)), (.bin .sub .int (.t 73) (.k (.v (.int .i64 1))))⟩, ⟨(some 75), (some (68, true)), (.ia 2 (.t 72) (.t 74))⟩, ⟨(some 76), (some (68, true)), (.fa 0 (.t 75))⟩,
  ⟨(some 77), (some (68, true)), (.ld 1 false (.t 76))⟩, ⟨(some 78), (some (68, true)), (.bin .leq .int (.t 70) (.t 77))⟩, ⟨(some 79), (some (65, false)), (.pick (.t 68) (.t 78)
  (.k (.v (.bool false))))⟩, ⟨(some 80), none, (.pick (.t 65) (.k (.v (.bool true))) (.t 79))⟩] []) (.cond (.t 80) (.seq (.reg 8 [⟨(some 2), none, (.mv (.k (.v (.bool false))))⟩])
  .ret) .nop)))) (.reg 5 [⟨(some 40), none, (.mv (.t 3))⟩, ⟨(some 41), none, (.bin .add .int (.t 40) (.k (.v (.int .i64 1))))⟩, ⟨(some 3), none, (.mv (.t 41))⟩])))))) (.seq (.reg 9
  [⟨(some 2), none, (.mv (.k (.v (.bool true))))⟩]) .ret))))
def rv17 : List RV := [(.t 2)]
theorem ok17 : cFun Try.prog Try.f17 = some (ac17, rv17) := by kernel_rfl
theorem nt17 : Try.f17.ntmps = 81 := by kernel_rfl
theorem of17 : okF Try.prog 17 := ⟨Try.f17, Try.func17, by kernel_rfl, by kernel_rfl⟩

/- putlog/monitor.Bounds -/
def ac18 : AC := (.seq (.reg 0 [⟨(some 2), none, (.box 5 (.t 0))⟩, ⟨(some 4), none, (.mv (.k (.v (.int .i64 0))))⟩, ⟨(some 5), none, (.mv (.k (.v (.int .i64 0))))⟩, ⟨(some 6), none, (.mv (.k (.v
  (.int .i64 0))))⟩]) (.seq (.reg 1 [⟨(some 10), none, (.ld 5 true (.t 2))⟩, ⟨(some 11), none, (.mv (.t 1))⟩, ⟨(some 12), none, (.call 40 [(.t 10), (.t 11)])⟩, ⟨(some 9), none,
  (.mv (.t 12))⟩, ⟨(some 13), none, (.ext (.t 9) 0)⟩, ⟨(some 14), none, (.ext (.t 9) 1)⟩, ⟨(some 7), none, (.alloc [(.v (.int .i64 0)), (.v (.int .i64 0)), (.v (.int .i64 0)), (.v
  (.int .i64 0))])⟩, ⟨none, none, (.st 4 (.t 7) (.t 13))⟩, ⟨(some 8), none, (.mv (.t 14))⟩]) (.seq (.seq (.reg 2 [⟨(some 15), none, (.mv (.t 8))⟩, ⟨(some 16), none, (.un .not (.t
  15))⟩]) (.cond (.t 16) (.seq (.reg 3 [⟨(some 4), none, (.mv (.k (.v (.int .i64 0))))⟩, ⟨(some 5), none, (.mv (.k (.v (.int .i64 0))))⟩, ⟨(some 6), none, (.mv (.k (.v (.int .i64
  240))))⟩]) .ret) .nop)) (.seq (.drw 4 [⟨(some 17), none, (.fa 0 (.t 7))⟩, ⟨(some 18), none, (.ld 1 false (.t 17))⟩, ⟨(some 19), none, (.fa 1 (.t 7))⟩, ⟨(some 20), none, (.ld 1
  false (.t 19))⟩, ⟨(some 4), none, (.mv (.t 18))⟩, ⟨(some 5), none, (.mv (.t 20))⟩, ⟨(some 6), none, (.mv (.k (.v (.int .i64 0))))⟩] []) .ret))))
def rv18 : List RV := [(.t 4), (.t 5), (.t 6)]
theorem ok18 : cFun Try.prog Try.f18 = some (ac18, rv18) := by kernel_rfl
theorem nt18 : Try.f18.ntmps = 21 := by kernel_rfl
theorem of18 : okF Try.prog 18 := ⟨Try.f18, Try.func18, by kernel_rfl, by kernel_rfl⟩

/- putlog/putlogref24.Bounds -/
def ac19 : AC := (.seq (.reg 0 [⟨(some 2), none, (.box 5 (.t 0))⟩, ⟨(some 4), none, (.mv (.k (.v (.int .i64 0))))⟩, ⟨(some 5), none, (.mv (.k (.v (.int .i64 0))))⟩, ⟨(some 6), none, (.mv (.k (.v
  (.int .i64 0))))⟩]) (.seq (.seq (.reg 1 [⟨(some 9), none, (.ld 5 true (.t 2))⟩, ⟨(some 10), none, (.call 17 [(.t 9)])⟩, ⟨(some 11), none, (.un .not (.t 10))⟩, ⟨(some 12), none,
  (.mv (.t 11))⟩, ⟨(some 13), (some (12, false)), (.mv (.t 1))⟩, ⟨(some 14), (some (12, false)), (.bin .lss .int (.t 13) (.k (.v (.int .i64 0))))⟩, ⟨(some 15), none, (.pick (.t 12)
  (.k (.v (.bool true))) (.t 14))⟩, ⟨(some 16), none, (.mv (.t 15))⟩, ⟨(some 17), (some (16, false)), (.mv (.t 1))⟩, ⟨(some 18), (some (16, false)), (.bin .gtr .int (.t 17) (.k (.v
  (.int .i64 10000000))))⟩, ⟨(some 19), none, (.pick (.t 16) (.k (.v (.bool true))) (.t 18))⟩]) (.cond (.t 19) (.seq (.reg 2 [⟨(some 4), none, (.mv (.k (.v (.int .i64 0))))⟩,
  ⟨(some 5), none, (.mv (.k (.v (.int .i64 0))))⟩, ⟨(some 6), none, (.mv (.k (.v (.int .i64 240))))⟩]) .ret) .nop)) (.seq (.reg 3 [⟨(some 21), none, (.ld 5 true (.t 2))⟩, ⟨(some
  22), none, (.mv (.t 1))⟩, ⟨(some 23), none, (.call 41 [(.t 21), (.t 22)])⟩, ⟨(some 20), none, (.mv (.t 23))⟩, ⟨(some 24), none, (.ext (.t 20) 0)⟩, ⟨(some 25), none, (.ext (.t 20)
  1)⟩, ⟨(some 7), none, (.mv (.t 24))⟩, ⟨(some 8), none, (.mv (.t 25))⟩]) (.seq (.seq (.reg 4 [⟨(some 26), none, (.mv (.t 7))⟩, ⟨(some 27), none, (.mv (.t 8))⟩, ⟨(some 28), none,
  (.bin .gtr .int (.t 26) (.t 27))⟩]) (.cond (.t 28) (.seq (.reg 5 [⟨(some 4), none, (.mv (.k (.v (.int .i64 0))))⟩, ⟨(some 5), none, (.mv (.k (.v (.int .i64 0))))⟩, ⟨(some 6),
  none, (.mv (.k (.v (.int .i64 240))))⟩]) .ret) .nop)) (.seq (.reg 6 [⟨(some 29), none, (.mv (.t 7))⟩, ⟨(some 30), none, (.mv (.t 8))⟩, ⟨(some 4), none, (.mv (.t 29))⟩, ⟨(some 5),
  none, (.mv (.t 30))⟩, ⟨(some 6), none, (.mv (.k (.v (.int .i64 0))))⟩]) .ret)))))
def rv19 : List RV := [(.t 4), (.t 5), (.t 6)]
theorem ok19 : cFun Try.prog Try.f19 = some (ac19, rv19) := by kernel_rfl
theorem nt19 : Try.f19.ntmps = 31 := by kernel_rfl
theorem of19 : okF Try.prog 19 := ⟨Try.f19, Try.func19, by kernel_rfl, by kernel_rfl⟩

/- putlog/monitor.Reason -/
def ac20 : AC := (.seq (.reg 0 [⟨(some 2), none, (.box 5 (.t 0))⟩, ⟨(some 4), none, (.mv (.k (.v (.int .i64 0))))⟩, ⟨(some 5), none, (.mv (.k (.v (.int .i64 0))))⟩, ⟨(some 6), none, (.mv (.k (.v
  (.int .i64 0))))⟩]) (.seq (.reg 1 [⟨(some 10), none, (.ld 5 true (.t 2))⟩, ⟨(some 11), none, (.mv (.t 1))⟩, ⟨(some 12), none, (.call 40 [(.t 10), (.t 11)])⟩, ⟨(some 9), none,
  (.mv (.t 12))⟩, ⟨(some 13), none, (.ext (.t 9) 0)⟩, ⟨(some 14), none, (.ext (.t 9) 1)⟩, ⟨(some 7), none, (.alloc [(.v (.int .i64 0)), (.v (.int .i64 0)), (.v (.int .i64 0)), (.v
  (.int .i64 0))])⟩, ⟨none, none, (.st 4 (.t 7) (.t 13))⟩, ⟨(some 8), none, (.mv (.t 14))⟩]) (.seq (.seq (.reg 2 [⟨(some 15), none, (.mv (.t 8))⟩, ⟨(some 16), none, (.un .not (.t
  15))⟩]) (.cond (.t 16) (.seq (.reg 3 [⟨(some 4), none, (.mv (.k (.v (.int .i64 0))))⟩, ⟨(some 5), none, (.mv (.k (.v (.int .i64 0))))⟩, ⟨(some 6), none, (.mv (.k (.v (.int .i64
  240))))⟩]) .ret) .nop)) (.seq (.drw 4 [⟨(some 17), none, (.fa 2 (.t 7))⟩, ⟨(some 18), none, (.ld 1 false (.t 17))⟩, ⟨(some 19), none, (.fa 3 (.t 7))⟩, ⟨(some 20), none, (.ld 1
  false (.t 19))⟩, ⟨(some 4), none, (.mv (.t 18))⟩, ⟨(some 5), none, (.mv (.t 20))⟩, ⟨(some 6), none, (.mv (.k (.v (.int .i64 0))))⟩] []) .ret))))
def rv20 : List RV := [(.t 4), (.t 5), (.t 6)]
theorem ok20 : cFun Try.prog Try.f20 = some (ac20, rv20) := by kernel_rfl
theorem nt20 : Try.f20.ntmps = 21 := by kernel_rfl
theorem of20 : okF Try.prog 20 := ⟨Try.f20, Try.func20, by kernel_rfl, by kernel_rfl⟩

/- putlog/putlogref24.Reason -/
def ac21 : AC := (.seq (.reg 0 [⟨(some 2), none, (.box 5 (.t 0))⟩, ⟨(some 4), none, (.mv (.k (.v (.int .i64 0))))⟩, ⟨(some 5), none, (.mv (.k (.v (.int .i64 0))))⟩, ⟨(some 6), none, (.mv (.k (.v
  (.int .i64 0))))⟩]) (.seq (.reg 1 [⟨(some 17), none, (.ld 5 true (.t 2))⟩, ⟨(some 18), none, (.mv (.t 1))⟩, ⟨(some 19), none, (.call 19 [(.t 17), (.t 18)])⟩, ⟨(some 16), none,
  (.mv (.t 19))⟩, ⟨(some 20), none, (.ext (.t 16) 0)⟩, ⟨(some 21), none, (.ext (.t 16) 1)⟩, ⟨(some 22), none, (.ext (.t 16) 2)⟩, ⟨(some 7), none, (.mv (.t 20))⟩, ⟨(some 8), none,
  (.mv (.t 21))⟩, ⟨(some 9), none, (.mv (.t 22))⟩]) (.seq (.seq (.reg 2 [⟨(some 23), none, (.mv (.t 9))⟩, ⟨(some 24), none, (.bin .neq .int (.t 23) (.k (.v (.int .i64 0))))⟩])
  (.cond (.t 24) (.seq (.reg 3 [⟨(some 25), none, (.mv (.t 9))⟩, ⟨(some 4), none, (.mv (.k (.v (.int .i64 0))))⟩, ⟨(some 5), none, (.mv (.k (.v (.int .i64 0))))⟩, ⟨(some 6), none,
  (.mv (.t 25))⟩]) .ret) .nop)) (.seq (.reg 4 [⟨(some 10), none, (.mv (.k (.v (.int .i64 (-1)))))⟩]) (.seq (.reg 5 [⟨(some 11), none, (.mv (.k (.v (.int .i64 (-1)))))⟩]) (.seq
  (.seq (.reg 6 [⟨(some 26), none, (.fa 4 (.t 2))⟩, ⟨(some 27), none, (.ld 1 false (.t 26))⟩, ⟨(some 28), none, (.len (.t 27))⟩, ⟨(some 29), none, (.bin .sub .int (.t 28) (.k (.v
  (.int .i64 1))))⟩, ⟨(some 12), none, (.mv (.t 29))⟩]) (.block 0 (.loop (.seq (.seq (.reg 7 [⟨(some 30), none, (.mv (.t 12))⟩, ⟨(some 31), none, (.bin .geq .int (.t 30) (.k (.v
  (.int .i64 0))))⟩]) (.cond (.t 31) .nop (.exit 0))) (.seq (.block 1 (.seq (.drw 9 [⟨(some 35), none, (.ld 5 true (.t 2))⟩, ⟨(some 36), none, (.fa 4 (.t 2))⟩, ⟨(some 37), none,
  (.ld 1 false (.t 36))⟩, ⟨(some 38), none, (.mv (.t 12))⟩, ⟨(some 39), none, (.ia 2 (.t 37) (.t 38))⟩, ⟨(some 40), none, (.ld 2 true (.t 39))⟩, ⟨(some 41), none, (.mv (.t 1))⟩,
  ⟨(some 42), none, (.call 42 [(.t 35), (.t 40), (.t 41)])⟩, ⟨(some 34), none, (.mv (.t 42))⟩, ⟨(some 43), none, (.ext (.t 34) 0)⟩, ⟨(some 44), none, (.ext (.t 34) 1)⟩, ⟨(some 45),
  none, (.ext (.t 34) 2)⟩, ⟨(some 13), none, (.mv (.t 43))⟩, ⟨(some 14), none, (.mv (.t 44))⟩, ⟨(some 15), none, (.mv (.t 45))⟩] []) (.seq (.seq (.reg 10 [⟨(some 46), none, (.mv
  (.t 15))⟩, ⟨(some 47), none, (.mv (.t 46))⟩, ⟨(some 48), (some (47, true)), (.mv (.t 13))⟩, ⟨(some 49), (some (47, true)), (.mv (.t 7))⟩, ⟨(some 50), (some (47, true)), (.bin
  .eql .int (.t 48) (.t 49))⟩, ⟨(some 51), none, (.pick (.t 47) (.t 50) (.k (.v (.bool false))))⟩]) (.cond (.t 51) (.reg 11 [⟨(some 52), none, (.mv (.t 12))⟩, ⟨(some 10), none,
  (.mv (.t 52))⟩]) .nop)) (.seq (.reg 12 [⟨(some 53), none, (.mv (.t 15))⟩, ⟨(some 54), none, (.mv (.t 53))⟩, ⟨(some 55), (some (54, true)), (.mv (.t 14))⟩, ⟨(some 56), (some (54,
  true)), (.mv (.t 8))⟩, ⟨(some 57), (some (54, true)), (.bin .eql .int (.t 55) (.t 56))⟩, ⟨(some 58), none, (.pick (.t 54) (.t 57) (.k (.v (.bool false))))⟩]) (.cond (.t 58) (.reg
  13 [⟨(some 59), none, (.mv (.t 12))⟩, ⟨(some 11), none, (.mv (.t 59))⟩]) .nop))))) (.reg 8 [⟨(some 32), none, (.mv (.t 12))⟩, ⟨(some 33), none, (.bin .sub .int (.t 32) (.k (.v
  (.int .i64 1))))⟩, ⟨(some 12), none, (.mv (.t 33))⟩])))))) (.seq (.reg 14 [⟨(some 60), none, (.mv (.t 10))⟩, ⟨(some 61), none, (.mv (.t 11))⟩, ⟨(some 4), none, (.mv (.t 60))⟩,
  ⟨(some 5), none, (.mv (.t 61))⟩, ⟨(some 6), none, (.mv (.k (.v (.int .i64 0))))⟩]) .ret)))))))
def rv21 : List RV := [(.t 4), (.t 5), (.t 6)]
theorem ok21 : cFun Try.prog Try.f21 = some (ac21, rv21) := by kernel_rfl
theorem nt21 : Try.f21.ntmps = 62 := by kernel_rfl
theorem of21 : okF Try.prog 21 := ⟨Try.f21, Try.func21, by kernel_rfl, by kernel_rfl⟩

/- putlog/monitor.Both -/
def ac22 : AC := (.seq (.reg 0 [⟨(some 3), none, (.box 5 (.t 0))⟩, ⟨(some 4), none, (.box 5 (.t 1))⟩, ⟨(some 6), none, (.mv (.k (.v (.int .i64 0))))⟩, ⟨(some 7), none, (.mv (.k (.v (.int .i64
  0))))⟩, ⟨(some 8), none, (.mv (.k (.v (.int .i64 0))))⟩]) (.seq (.reg 1 [⟨(some 16), none, (.ld 5 true (.t 3))⟩, ⟨(some 17), none, (.mv (.t 2))⟩, ⟨(some 18), none, (.call 40 [(.t
  16), (.t 17)])⟩, ⟨(some 15), none, (.mv (.t 18))⟩, ⟨(some 19), none, (.ext (.t 15) 0)⟩, ⟨(some 20), none, (.ext (.t 15) 1)⟩, ⟨(some 9), none, (.alloc [(.v (.int .i64 0)), (.v
  (.int .i64 0)), (.v (.int .i64 0)), (.v (.int .i64 0))])⟩, ⟨none, none, (.st 4 (.t 9) (.t 19))⟩, ⟨(some 10), none, (.mv (.t 20))⟩]) (.seq (.reg 2 [⟨(some 22), none, (.ld 5 true
  (.t 4))⟩, ⟨(some 23), none, (.mv (.t 2))⟩, ⟨(some 24), none, (.call 40 [(.t 22), (.t 23)])⟩, ⟨(some 21), none, (.mv (.t 24))⟩, ⟨(some 25), none, (.ext (.t 21) 0)⟩, ⟨(some 26),
  none, (.ext (.t 21) 1)⟩, ⟨(some 11), none, (.alloc [(.v (.int .i64 0)), (.v (.int .i64 0)), (.v (.int .i64 0)), (.v (.int .i64 0))])⟩, ⟨none, none, (.st 4 (.t 11) (.t 25))⟩,
  ⟨(some 12), none, (.mv (.t 26))⟩]) (.seq (.drw 3 [⟨(some 27), none, (.fa 0 (.t 9))⟩, ⟨(some 28), none, (.ld 1 false (.t 27))⟩, ⟨(some 29), none, (.fa 0 (.t 11))⟩, ⟨(some 30),
  none, (.ld 1 false (.t 29))⟩, ⟨(some 31), none, (.mm true [(.t 28), (.t 30)])⟩, ⟨(some 32), none, (.fa 1 (.t 9))⟩, ⟨(some 33), none, (.ld 1 false (.t 32))⟩, ⟨(some 34), none,
  (.fa 1 (.t 11))⟩, ⟨(some 35), none, (.ld 1 false (.t 34))⟩, ⟨(some 36), none, (.mm false [(.t 33), (.t 35)])⟩, ⟨(some 13), none, (.mv (.t 31))⟩, ⟨(some 14), none, (.mv (.t 36))⟩]
  []) (.seq (.seq (.reg 4 [⟨(some 37), none, (.mv (.t 10))⟩, ⟨(some 38), none, (.un .not (.t 37))⟩, ⟨(some 39), none, (.mv (.t 38))⟩, ⟨(some 40), (some (39, false)), (.mv (.t
  12))⟩, ⟨(some 41), (some (39, false)), (.un .not (.t 40))⟩, ⟨(some 42), none, (.pick (.t 39) (.k (.v (.bool true))) (.t 41))⟩, ⟨(some 43), none, (.mv (.t 42))⟩, ⟨(some 44), (some
  (43, false)), (.mv (.t 13))⟩, ⟨(some 45), (some (43, false)), (.mv (.t 14))⟩, ⟨(some 46), (some (43, false)), (.bin .gtr .int (.t 44) (.t 45))⟩, ⟨(some 47), none, (.pick (.t 43)
  (.k (.v (.bool true))) (.t 46))⟩]) (.cond (.t 47) (.seq (.reg 5 [⟨(some 6), none, (.mv (.k (.v (.int .i64 0))))⟩, ⟨(some 7), none, (.mv (.k (.v (.int .i64 0))))⟩, ⟨(some 8),
  none, (.mv (.k (.v (.int .i64 240))))⟩]) .ret) .nop)) (.seq (.reg 6 [⟨(some 48), none, (.mv (.t 13))⟩, ⟨(some 49), none, (.mv (.t 14))⟩, ⟨(some 6), none, (.mv (.t 48))⟩, ⟨(some
  7), none, (.mv (.t 49))⟩, ⟨(some 8), none, (.mv (.k (.v (.int .i64 0))))⟩]) .ret))))))
def rv22 : List RV := [(.t 6), (.t 7), (.t 8)]
theorem ok22 : cFun Try.prog Try.f22 = some (ac22, rv22) := by kernel_rfl
theorem nt22 : Try.f22.ntmps = 50 := by kernel_rfl
theorem of22 : okF Try.prog 22 := ⟨Try.f22, Try.func22, by kernel_rfl, by kernel_rfl⟩

/- putlog/putlogref24.Both -/
def ac23 : AC := (.seq (.reg 0 [⟨(some 3), none, (.box 5 (.t 0))⟩, ⟨(some 4), none, (.box 5 (.t 1))⟩, ⟨(some 6), none, (.mv (.k (.v (.int .i64 0))))⟩, ⟨(some 7), none, (.mv (.k (.v (.int .i64
  0))))⟩, ⟨(some 8), none, (.mv (.k (.v (.int .i64 0))))⟩]) (.seq (.reg 1 [⟨(some 16), none, (.ld 5 true (.t 3))⟩, ⟨(some 17), none, (.mv (.t 2))⟩, ⟨(some 18), none, (.call 19 [(.t
  16), (.t 17)])⟩, ⟨(some 15), none, (.mv (.t 18))⟩, ⟨(some 19), none, (.ext (.t 15) 0)⟩, ⟨(some 20), none, (.ext (.t 15) 1)⟩, ⟨(some 21), none, (.ext (.t 15) 2)⟩, ⟨(some 9), none,
  (.mv (.t 19))⟩, ⟨(some 10), none, (.mv (.t 20))⟩, ⟨(some 11), none, (.mv (.t 21))⟩]) (.seq (.reg 2 [⟨(some 23), none, (.ld 5 true (.t 4))⟩, ⟨(some 24), none, (.mv (.t 2))⟩,
  ⟨(some 25), none, (.call 19 [(.t 23), (.t 24)])⟩, ⟨(some 22), none, (.mv (.t 25))⟩, ⟨(some 26), none, (.ext (.t 22) 0)⟩, ⟨(some 27), none, (.ext (.t 22) 1)⟩, ⟨(some 28), none,
  (.ext (.t 22) 2)⟩, ⟨(some 12), none, (.mv (.t 26))⟩, ⟨(some 13), none, (.mv (.t 27))⟩, ⟨(some 14), none, (.mv (.t 28))⟩]) (.seq (.seq (.reg 3 [⟨(some 29), none, (.mv (.t 11))⟩,
  ⟨(some 30), none, (.bin .neq .int (.t 29) (.k (.v (.int .i64 0))))⟩, ⟨(some 31), none, (.mv (.t 30))⟩, ⟨(some 32), (some (31, false)), (.mv (.t 14))⟩, ⟨(some 33), (some (31,
  false)), (.bin .neq .int (.t 32) (.k (.v (.int .i64 0))))⟩, ⟨(some 34), none, (.pick (.t 31) (.k (.v (.bool true))) (.t 33))⟩, ⟨(some 35), none, (.mv (.t 34))⟩, ⟨(some 36), (some
  (35, false)), (.mv (.t 9))⟩, ⟨(some 37), (some (35, false)), (.mv (.t 12))⟩, ⟨(some 38), (some (35, false)), (.mm true [(.t 36), (.t 37)])⟩, ⟨(some 39), (some (35, false)), (.mv
  (.t 10))⟩, ⟨(some 40), (some (35, false)), (.mv (.t 13))⟩, ⟨(some 41), (some (35, false)), (.mm false [(.t 39), (.t 40)])⟩, ⟨(some 42), (some (35, false)), (.bin .gtr .int (.t
  38) (.t 41))⟩, ⟨(some 43), none, (.pick (.t 35) (.k (.v (.bool true))) (.t 42))⟩]) (.cond (.t 43) (.seq (.reg 4 [⟨(some 6), none, (.mv (.k (.v (.int .i64 0))))⟩, ⟨(some 7), none,
  (.mv (.k (.v (.int .i64 0))))⟩, ⟨(some 8), none, (.mv (.k (.v (.int .i64 240))))⟩]) .ret) .nop)) (.seq (.reg 5 [⟨(some 44), none, (.mv (.t 9))⟩, ⟨(some 45), none, (.mv (.t 12))⟩,
  ⟨(some 46), none, (.mm true [(.t 44), (.t 45)])⟩, ⟨(some 47), none, (.mv (.t 10))⟩, ⟨(some 48), none, (.mv (.t 13))⟩, ⟨(some 49), none, (.mm false [(.t 47), (.t 48)])⟩, ⟨(some
  6), none, (.mv (.t 46))⟩, ⟨(some 7), none, (.mv (.t 49))⟩, ⟨(some 8), none, (.mv (.k (.v (.int .i64 0))))⟩]) .ret)))))
def rv23 : List RV := [(.t 6), (.t 7), (.t 8)]
theorem ok23 : cFun Try.prog Try.f23 = some (ac23, rv23) := by kernel_rfl
theorem nt23 : Try.f23.ntmps = 50 := by kernel_rfl
theorem of23 : okF Try.prog 23 := ⟨Try.f23, Try.func23, by kernel_rfl, by kernel_rfl⟩

/- putlog/monitor.Over -/
def ac24 : AC := (.seq (.reg 0 [⟨(some 3), none, (.box 5 (.t 0))⟩, ⟨(some 5), none, (.box 2 (.t 2))⟩, ⟨(some 6), none, (.mv (.k (.v (.int .i64 0))))⟩, ⟨(some 7), none, (.mv (.k (.v (.int .i64
  0))))⟩]) (.seq (.reg 1 [⟨(some 12), none, (.ld 5 true (.t 3))⟩, ⟨(some 13), none, (.mv (.t 1))⟩, ⟨(some 14), none, (.ld 2 true (.t 5))⟩, ⟨(some 15), none, (.call 26 [(.t 12), (.t
  13), (.t 14)])⟩, ⟨(some 11), none, (.mv (.t 15))⟩, ⟨(some 16), none, (.ext (.t 11) 0)⟩, ⟨(some 17), none, (.ext (.t 11) 1)⟩, ⟨(some 18), none, (.ext (.t 11) 2)⟩, ⟨(some 8), none,
  (.mv (.t 16))⟩, ⟨(some 9), none, (.mv (.t 17))⟩, ⟨(some 10), none, (.mv (.t 18))⟩]) (.seq (.block 0 (.seq (.reg 2 [⟨(some 20), none, (.mv (.t 10))⟩, ⟨(some 21), none, (.bin .neq
  .int (.t 20) (.k (.v (.int .i64 0))))⟩, ⟨(some 19), none, (.mv (.t 21))⟩]) (.cond (.t 19) (.seq (.reg 3 [⟨(some 22), none, (.mv (.t 10))⟩, ⟨(some 6), none, (.mv (.k (.v (.int
  .i64 0))))⟩, ⟨(some 7), none, (.mv (.t 22))⟩]) .ret) (.seq (.reg 4 [⟨(some 24), none, (.mv (.t 8))⟩, ⟨(some 25), none, (.bin .geq .int (.t 24) (.k (.v (.int .i64 0))))⟩, ⟨(some
  23), none, (.mv (.t 25))⟩]) (.cond (.t 23) (.seq (.reg 5 [⟨(some 6), none, (.mv (.k (.v (.int .i64 2))))⟩, ⟨(some 7), none, (.mv (.k (.v (.int .i64 0))))⟩]) .ret) (.seq (.reg 6
  [⟨(some 27), none, (.mv (.t 9))⟩, ⟨(some 28), none, (.bin .geq .int (.t 27) (.k (.v (.int .i64 0))))⟩, ⟨(some 26), none, (.mv (.t 28))⟩]) (.cond (.t 26) (.seq (.reg 7 [⟨(some 6),
  none, (.mv (.k (.v (.int .i64 1))))⟩, ⟨(some 7), none, (.mv (.k (.v (.int .i64 0))))⟩]) .ret) .nop))))))) (.seq (.reg 8 [⟨(some 6), none, (.mv (.k (.v (.int .i64 0))))⟩, ⟨(some
  7), none, (.mv (.k (.v (.int .i64 0))))⟩]) .ret))))
def rv24 : List RV := [(.t 6), (.t 7)]
theorem ok24 : cFun Try.prog Try.f24 = some (ac24, rv24) := by kernel_rfl
theorem nt24 : Try.f24.ntmps = 29 := by kernel_rfl
theorem of24 : okF Try.prog 24 := ⟨Try.f24, Try.func24, by kernel_rfl, by kernel_rfl⟩

/- putlog/putlogref24.Over -/
def ac25 : AC := (.seq (.reg 0 [⟨(some 3), none, (.box 5 (.t 0))⟩, ⟨(some 5), none, (.box 2 (.t 2))⟩, ⟨(some 6), none, (.mv (.k (.v (.int .i64 0))))⟩, ⟨(some 7), none, (.mv (.k (.v (.int .i64
  0))))⟩]) (.seq (.reg 1 [⟨(some 12), none, (.ld 5 true (.t 3))⟩, ⟨(some 13), none, (.mv (.t 1))⟩, ⟨(some 14), none, (.ld 2 true (.t 5))⟩, ⟨(some 15), none, (.call 27 [(.t 12), (.t
  13), (.t 14)])⟩, ⟨(some 11), none, (.mv (.t 15))⟩, ⟨(some 16), none, (.ext (.t 11) 0)⟩, ⟨(some 17), none, (.ext (.t 11) 1)⟩, ⟨(some 18), none, (.ext (.t 11) 2)⟩, ⟨(some 8), none,
  (.mv (.t 16))⟩, ⟨(some 9), none, (.mv (.t 17))⟩, ⟨(some 10), none, (.mv (.t 18))⟩]) (.seq (.seq (.reg 2 [⟨(some 19), none, (.mv (.t 10))⟩, ⟨(some 20), none, (.bin .neq .int (.t
  19) (.k (.v (.int .i64 0))))⟩]) (.cond (.t 20) (.seq (.reg 3 [⟨(some 21), none, (.mv (.t 10))⟩, ⟨(some 6), none, (.mv (.k (.v (.int .i64 0))))⟩, ⟨(some 7), none, (.mv (.t 21))⟩])
  .ret) .nop)) (.seq (.seq (.reg 4 [⟨(some 22), none, (.mv (.t 8))⟩, ⟨(some 23), none, (.bin .geq .int (.t 22) (.k (.v (.int .i64 0))))⟩]) (.cond (.t 23) (.seq (.reg 5 [⟨(some 6),
  none, (.mv (.k (.v (.int .i64 2))))⟩, ⟨(some 7), none, (.mv (.k (.v (.int .i64 0))))⟩]) .ret) .nop)) (.seq (.seq (.reg 6 [⟨(some 24), none, (.mv (.t 9))⟩, ⟨(some 25), none, (.bin
  .geq .int (.t 24) (.k (.v (.int .i64 0))))⟩]) (.cond (.t 25) (.seq (.reg 7 [⟨(some 6), none, (.mv (.k (.v (.int .i64 1))))⟩, ⟨(some 7), none, (.mv (.k (.v (.int .i64 0))))⟩])
  .ret) .nop)) (.seq (.reg 8 [⟨(some 6), none, (.mv (.k (.v (.int .i64 0))))⟩, ⟨(some 7), none, (.mv (.k (.v (.int .i64 0))))⟩]) .ret))))))
def rv25 : List RV := [(.t 6), (.t 7)]
theorem ok25 : cFun Try.prog Try.f25 = some (ac25, rv25) := by kernel_rfl
theorem nt25 : Try.f25.ntmps = 26 := by kernel_rfl
theorem of25 : okF Try.prog 25 := ⟨Try.f25, Try.func25, by kernel_rfl, by kernel_rfl⟩

/- putlog/monitor.Alarm -/
def ac26 : AC := (.seq (.reg 0 [⟨(some 3), none, (.box 5 (.t 0))⟩, ⟨(some 5), none, (.box 2 (.t 2))⟩, ⟨(some 6), none, (.mv (.k (.v (.int .i64 0))))⟩, ⟨(some 7), none, (.mv (.k (.v (.int .i64
  0))))⟩, ⟨(some 8), none, (.mv (.k (.v (.int .i64 0))))⟩]) (.scp (.seq (.seq (.reg 1 [⟨(some 17), none, (.ld 5 true (.t 3))⟩, ⟨(some 18), none, (.call 16 [(.t 17)])⟩, ⟨(some 19),
  none, (.un .not (.t 18))⟩, ⟨(some 20), none, (.mv (.t 19))⟩, ⟨(some 21), (some (20, false)), (.fa 0 (.t 5))⟩, ⟨(some 22), (some (20, false)), (.ld 1 false (.t 21))⟩, ⟨(some 23),
  (some (20, false)), (.bin .lss .int (.t 22) (.k (.v (.int .i64 0))))⟩, ⟨(some 24), none, (.pick (.t 20) (.k (.v (.bool true))) (.t 23))⟩, ⟨(some 25), none, (.mv (.t 24))⟩, ⟨(some
  26), (some (25, false)), (.fa 0 (.t 5))⟩, ⟨(some 27), (some (25, false)), (.ld 1 false (.t 26))⟩, ⟨(some 28), (some (25, false)), (.fa 1 (.t 5))⟩, ⟨(some 29), (some (25, false)),
  (.ld 1 false (.t 28))⟩, ⟨(some 30), (some (25, false)), (.bin .geq .int (.t 27) (.t 29))⟩, ⟨(some 31), none, (.pick (.t 25) (.k (.v (.bool true))) (.t 30))⟩, ⟨(some 32), none,
  (.mv (.t 31))⟩, ⟨(some 33), (some (32, false)), (.fa 1 (.t 5))⟩, ⟨(some 34), (some (32, false)), (.ld 1 false (.t 33))⟩, ⟨(some 35), (some (32, false)), (.bin .gtr .int (.t 34)
  (.k (.v (.int .i64 10000001))))⟩, ⟨(some 36), none, (.pick (.t 32) (.k (.v (.bool true))) (.t 35))⟩, ⟨(some 37), none, (.mv (.t 36))⟩, ⟨(some 38), (some (37, false)), (.fa 1 (.t
  5))⟩, ⟨(some 39), (some (37, false)), (.ld 1 false (.t 38))⟩, ⟨(some 40), (some (37, false)), (.fa 0 (.t 5))⟩, ⟨(some 41), (some (37, false)), (.ld 1 false (.t 40))⟩, ⟨(some 42),
  (some (37, false)), (.bin .sub .int (.t 39) (.t 41))⟩, ⟨(some 43), (some (37, false)), (.bin .gtr .int (.t 42) (.k (.v (.int .i64 2000))))⟩, ⟨(some 44), none, (.pick (.t 37) (.k
  (.v (.bool true))) (.t 43))⟩]) (.cond (.t 44) (.seq (.reg 2 [⟨(some 6), none, (.mv (.k (.v (.int .i64 0))))⟩, ⟨(some 7), none, (.mv (.k (.v (.int .i64 0))))⟩, ⟨(some 8), none,
  (.mv (.k (.v (.int .i64 240))))⟩]) .ret) .nop)) (.seq (.reg 3 [⟨(some 9), none, (.alloc [(.sl 0 true [] [])])⟩]) (.seq (.seq (.reg 4 [⟨(some 45), none, (.ld 5 true (.t 3))⟩,
  ⟨(some 46), none, (.call 43 [(.t 45)])⟩]) (.block 0 (.rfun (.t 46) [47] (.reg 5 [⟨(some 10), none, (.alloc [(.v (.int .i64 0)), (.v (.int .i64 0)), (.v (.int .i64 0)), (.v (.int
  .i64 0)), (.v (.int .i64 0))])⟩, ⟨none, none, (.st 5 (.t 10) (.t 47))⟩]) (.block 1 (.reg 6 [⟨(some 48), none, (.ld 1 false (.t 9))⟩, ⟨(some 49), none, (.ld 5 true (.t 10))⟩,
  ⟨(some 50), none, (.bsl 5 1 [(.v (.int .i64 0)), (.v (.int .i64 0)), (.v (.int .i64 0)), (.v (.int .i64 0)), (.v (.int .i64 0))] [(0, (.t 49))])⟩, ⟨(some 51), none, (.app 5 40
  [(.v (.int .i64 0)), (.v (.int .i64 0)), (.v (.int .i64 0)), (.v (.int .i64 0)), (.v (.int .i64 0))] (.t 48) (.t 50))⟩, ⟨none, none, (.st 1 (.t 9) (.t 51))⟩]))))) (.seq (.reg 7
  [⟨(some 52), none, (.mkf (.func 44) [] [(.t 9)])⟩, ⟨(some 11), none, (.mv (.t 52))⟩]) (.seq (.reg 8 [⟨(some 12), none, (.mv (.k (.v (.int .i64 (-1)))))⟩, ⟨(some 13), none, (.mv
  (.k (.v (.int .i64 (-1)))))⟩, ⟨(some 14), none, (.mv (.k (.v (.bool false))))⟩]) (.seq .nop (.seq (.seq (.reg 9 [⟨(some 53), none, (.fa 0 (.t 5))⟩, ⟨(some 54), none, (.ld 1 false
  (.t 53))⟩, ⟨(some 15), none, (.mv (.t 54))⟩]) (.block 2 (.loop (.seq (.seq (.reg 10 [⟨(some 55), none, (.mv (.t 15))⟩, ⟨(some 56), none, (.fa 1 (.t 5))⟩, ⟨(some 57), none, (.ld 1
  false (.t 56))⟩, ⟨(some 58), none, (.bin .lss .int (.t 55) (.t 57))⟩]) (.cond (.t 58) .nop (.exit 2))) (.seq (.block 3 (.seq (.reg 12 [⟨(some 61), none, (.mv (.t 11))⟩, ⟨(some
  62), none, (.fa 3 (.t 3))⟩, ⟨(some 63), none, (.ld 1 false (.t 62))⟩, ⟨(some 64), none, (.mv (.t 15))⟩, ⟨(some 65), none, (.call 45 [(.t 61), (.t 63), (.t 64)])⟩, ⟨(some 16),
  none, (.alloc [(.v (.int .i64 0)), (.v (.int .i64 0)), (.v (.int .i64 0)), (.v (.int .i64 0))])⟩, ⟨none, none, (.st 4 (.t 16) (.t 65))⟩]) (.seq (.block 4 (.seq (.reg 13 [⟨(some
  67), none, (.fa 0 (.t 16))⟩, ⟨(some 68), none, (.ld 1 false (.t 67))⟩, ⟨(some 69), none, (.fa 1 (.t 16))⟩, ⟨(some 70), none, (.ld 1 false (.t 69))⟩, ⟨(some 71), none, (.bin .gtr
  .int (.t 68) (.t 70))⟩, ⟨(some 66), none, (.mv (.t 71))⟩]) (.cond (.t 66) (.seq (.reg 14 [⟨(some 14), none, (.mv (.k (.v (.bool true))))⟩]) (.exit 2)) (.seq (.reg 15 [⟨(some 73),
  none, (.fa 0 (.t 16))⟩, ⟨(some 74), none, (.ld 1 false (.t 73))⟩, ⟨(some 75), none, (.mv (.t 1))⟩, ⟨(some 76), none, (.bin .gtr .int (.t 74) (.t 75))⟩, ⟨(some 77), none, (.mv (.t
  76))⟩, ⟨(some 78), (some (77, true)), (.mv (.t 12))⟩, ⟨(some 79), (some (77, true)), (.bin .lss .int (.t 78) (.k (.v (.int .i64 0))))⟩, ⟨(some 80), none, (.pick (.t 77) (.t 79)
  (.k (.v (.bool false))))⟩, ⟨(some 72), none, (.mv (.t 80))⟩]) (.cond (.t 72) (.reg 16 [⟨(some 81), none, (.mv (.t 15))⟩, ⟨(some 12), none, (.mv (.t 81))⟩]) .nop))))) (.seq (.reg
  17 [⟨(some 82), none, (.fa 1 (.t 16))⟩, ⟨(some 83), none, (.ld 1 false (.t 82))⟩, ⟨(some 84), none, (.mv (.t 1))⟩, ⟨(some 85), none, (.bin .gtr .int (.t 83) (.t 84))⟩, ⟨(some
  86), none, (.mv (.t 85))⟩, ⟨(some 87), (some (86, true)), (.mv (.t 13))⟩, ⟨(some 88), (some (86, true)), (.bin .lss .int (.t 87) (.k (.v (.int .i64 0))))⟩, ⟨(some 89), none,
  (.pick (.t 86) (.t 88) (.k (.v (.bool false))))⟩]) (.cond (.t 89) (.reg 18 [⟨(some 90), none, (.mv (.t 15))⟩, ⟨(some 13), none, (.mv (.t 90))⟩]) .nop))))) (.reg 11 [⟨(some 59),
  none, (.mv (.t 15))⟩, ⟨(some 60), none, (.bin .add .int (.t 59) (.k (.v (.int .i64 1))))⟩, ⟨(some 15), none, (.mv (.t 60))⟩])))))) (.seq (.seq (.reg 19 [⟨(some 91), none, (.mv
  (.t 14))⟩]) (.cond (.t 91) (.seq (.reg 20 [⟨(some 6), none, (.mv (.k (.v (.int .i64 0))))⟩, ⟨(some 7), none, (.mv (.k (.v (.int .i64 0))))⟩, ⟨(some 8), none, (.mv (.k (.v (.int
  .i64 240))))⟩]) .ret) .nop)) (.seq (.reg 21 [⟨(some 92), none, (.mv (.t 12))⟩, ⟨(some 93), none, (.mv (.t 13))⟩, ⟨(some 6), none, (.mv (.t 92))⟩, ⟨(some 7), none, (.mv (.t 93))⟩,
  ⟨(some 8), none, (.mv (.k (.v (.int .i64 0))))⟩]) .ret)))))))))))
def rv26 : List RV := [(.t 6), (.t 7), (.t 8)]
theorem ok26 : cFun Try.prog Try.f26 = some (ac26, rv26) := by kernel_rfl
theorem nt26 : Try.f26.ntmps = 94 := by kernel_rfl
theorem of26 : okF Try.prog 26 := ⟨Try.f26, Try.func26, by kernel_rfl, by kernel_rfl⟩

/- putlog/putlogref24.Alarm -/
def ac27 : AC := (.seq (.reg 0 [⟨(some 3), none, (.box 5 (.t 0))⟩, ⟨(some 5), none, (.box 2 (.t 2))⟩, ⟨(some 6), none, (.mv (.k (.v (.int .i64 0))))⟩, ⟨(some 7), none, (.mv (.k (.v (.int .i64
  0))))⟩, ⟨(some 8), none, (.mv (.k (.v (.int .i64 0))))⟩]) (.seq (.seq (.reg 1 [⟨(some 14), none, (.ld 5 true (.t 3))⟩, ⟨(some 15), none, (.call 17 [(.t 14)])⟩, ⟨(some 16), none,
  (.un .not (.t 15))⟩, ⟨(some 17), none, (.mv (.t 16))⟩, ⟨(some 18), (some (17, false)), (.fa 0 (.t 5))⟩, ⟨(some 19), (some (17, false)), (.ld 1 false (.t 18))⟩, ⟨(some 20), (some
  (17, false)), (.bin .lss .int (.t 19) (.k (.v (.int .i64 0))))⟩, ⟨(some 21), none, (.pick (.t 17) (.k (.v (.bool true))) (.t 20))⟩, ⟨(some 22), none, (.mv (.t 21))⟩, ⟨(some 23),
  (some (22, false)), (.fa 0 (.t 5))⟩, ⟨(some 24), (some (22, false)), (.ld 1 false (.t 23))⟩, ⟨(some 25), (some (22, false)), (.fa 1 (.t 5))⟩, ⟨(some 26), (some (22, false)), (.ld
  1 false (.t 25))⟩, ⟨(some 27), (some (22, false)), (.bin .geq .int (.t 24) (.t 26))⟩, ⟨(some 28), none, (.pick (.t 22) (.k (.v (.bool true))) (.t 27))⟩, ⟨(some 29), none, (.mv
  (.t 28))⟩, ⟨(some 30), (some (29, false)), (.fa 1 (.t 5))⟩, ⟨(some 31), (some (29, false)), (.ld 1 false (.t 30))⟩, ⟨(some 32), (some (29, false)), (.bin .gtr .int (.t 31) (.k
  (.v (.int .i64 10000001))))⟩, ⟨(some 33), none, (.pick (.t 29) (.k (.v (.bool true))) (.t 32))⟩]) (.cond (.t 33) (.seq (.reg 2 [⟨(some 6), none, (.mv (.k (.v (.int .i64 0))))⟩,
  ⟨(some 7), none, (.mv (.k (.v (.int .i64 0))))⟩, ⟨(some 8), none, (.mv (.k (.v (.int .i64 240))))⟩]) .ret) .nop)) (.seq (.seq (.reg 3 [⟨(some 34), none, (.fa 1 (.t 5))⟩, ⟨(some
  35), none, (.ld 1 false (.t 34))⟩, ⟨(some 36), none, (.fa 0 (.t 5))⟩, ⟨(some 37), none, (.ld 1 false (.t 36))⟩, ⟨(some 38), none, (.bin .sub .int (.t 35) (.t 37))⟩, ⟨(some 39),
  none, (.bin .gtr .int (.t 38) (.k (.v (.int .i64 2000))))⟩]) (.cond (.t 39) (.seq (.reg 4 [⟨(some 6), none, (.mv (.k (.v (.int .i64 0))))⟩, ⟨(some 7), none, (.mv (.k (.v (.int
  .i64 0))))⟩, ⟨(some 8), none, (.mv (.k (.v (.int .i64 240))))⟩]) .ret) .nop)) (.seq (.reg 5 [⟨(some 9), none, (.mv (.k (.v (.int .i64 (-1)))))⟩]) (.seq (.reg 6 [⟨(some 10), none,
  (.mv (.k (.v (.int .i64 (-1)))))⟩]) (.seq (.seq (.reg 7 [⟨(some 40), none, (.fa 0 (.t 5))⟩, ⟨(some 41), none, (.ld 1 false (.t 40))⟩, ⟨(some 11), none, (.mv (.t 41))⟩]) (.block 0
  (.loop (.seq (.seq (.reg 8 [⟨(some 42), none, (.mv (.t 11))⟩, ⟨(some 43), none, (.fa 1 (.t 5))⟩, ⟨(some 44), none, (.ld 1 false (.t 43))⟩, ⟨(some 45), none, (.bin .lss .int (.t
  42) (.t 44))⟩]) (.cond (.t 45) .nop (.exit 0))) (.seq (.block 1 (.seq (.reg 10 [⟨(some 49), none, (.ld 5 true (.t 3))⟩, ⟨(some 50), none, (.mv (.t 11))⟩, ⟨(some 51), none, (.call
  41 [(.t 49), (.t 50)])⟩, ⟨(some 48), none, (.mv (.t 51))⟩, ⟨(some 52), none, (.ext (.t 48) 0)⟩, ⟨(some 53), none, (.ext (.t 48) 1)⟩, ⟨(some 12), none, (.mv (.t 52))⟩, ⟨(some 13),
  none, (.mv (.t 53))⟩]) (.seq (.seq (.reg 11 [⟨(some 54), none, (.mv (.t 12))⟩, ⟨(some 55), none, (.mv (.t 13))⟩, ⟨(some 56), none, (.bin .gtr .int (.t 54) (.t 55))⟩]) (.cond (.t
  56) (.seq (.reg 12 [⟨(some 6), none, (.mv (.k (.v (.int .i64 0))))⟩, ⟨(some 7), none, (.mv (.k (.v (.int .i64 0))))⟩, ⟨(some 8), none, (.mv (.k (.v (.int .i64 240))))⟩]) .ret)
  .nop)) (.seq (.seq (.reg 13 [⟨(some 57), none, (.mv (.t 12))⟩, ⟨(some 58), none, (.mv (.t 1))⟩, ⟨(some 59), none, (.bin .gtr .int (.t 57) (.t 58))⟩, ⟨(some 60), none, (.mv (.t
  59))⟩, ⟨(some 61), (some (60, true)), (.mv (.t 9))⟩, ⟨(some 62), (some (60, true)), (.bin .lss .int (.t 61) (.k (.v (.int .i64 0))))⟩, ⟨(some 63), none, (.pick (.t 60) (.t 62)
  (.k (.v (.bool false))))⟩]) (.cond (.t 63) (.reg 14 [⟨(some 64), none, (.mv (.t 11))⟩, ⟨(some 9), none, (.mv (.t 64))⟩]) .nop)) (.seq (.reg 15 [⟨(some 65), none, (.mv (.t 13))⟩,
  ⟨(some 66), none, (.mv (.t 1))⟩, ⟨(some 67), none, (.bin .gtr .int (.t 65) (.t 66))⟩, ⟨(some 68), none, (.mv (.t 67))⟩, ⟨(some 69), (some (68, true)), (.mv (.t 10))⟩, ⟨(some 70),
  (some (68, true)), (.bin .lss .int (.t 69) (.k (.v (.int .i64 0))))⟩, ⟨(some 71), none, (.pick (.t 68) (.t 70) (.k (.v (.bool false))))⟩]) (.cond (.t 71) (.reg 16 [⟨(some 72),
  none, (.mv (.t 11))⟩, ⟨(some 10), none, (.mv (.t 72))⟩]) .nop)))))) (.reg 9 [⟨(some 46), none, (.mv (.t 11))⟩, ⟨(some 47), none, (.bin .add .int (.t 46) (.k (.v (.int .i64
  1))))⟩, ⟨(some 11), none, (.mv (.t 47))⟩])))))) (.seq (.reg 17 [⟨(some 73), none, (.mv (.t 9))⟩, ⟨(some 74), none, (.mv (.t 10))⟩, ⟨(some 6), none, (.mv (.t 73))⟩, ⟨(some 7),
  none, (.mv (.t 74))⟩, ⟨(some 8), none, (.mv (.k (.v (.int .i64 0))))⟩]) .ret)))))))
def rv27 : List RV := [(.t 6), (.t 7), (.t 8)]
theorem ok27 : cFun Try.prog Try.f27 = some (ac27, rv27) := by kernel_rfl
theorem nt27 : Try.f27.ntmps = 75 := by kernel_rfl
theorem of27 : okF Try.prog 27 := ⟨Try.f27, Try.func27, by kernel_rfl, by kernel_rfl⟩

/- putlog/putlogref24.Value -/
def ac28 : AC := (.seq (.reg 0 [⟨(some 2), none, (.box 9 (.t 0))⟩, ⟨(some 4), none, (.mv (.k (.v (.int .i64 0))))⟩]) (.seq (.reg 1 [⟨(some 8), none, (.fa 6 (.t 2))⟩, ⟨(some 9), none, (.ld 1 false
  (.t 8))⟩, ⟨(some 10), none, (.call 32 [(.t 9), (.k (.v (.int .i64 2001)))])⟩, ⟨(some 11), none, (.bin .sub .int (.t 10) (.k (.v (.int .i64 1000))))⟩, ⟨(some 5), none, (.mv (.t
  11))⟩]) (.seq (.reg 2 [⟨(some 12), none, (.ld 9 true (.t 2))⟩, ⟨(some 13), none, (.call 35 [(.t 12)])⟩, ⟨(some 6), none, (.mv (.t 13))⟩]) (.seq (.seq (.reg 3 [⟨(some 7), none,
  (.mv (.k (.v (.int .i64 0))))⟩]) (.block 0 (.loop (.seq (.seq (.reg 4 [⟨(some 14), none, (.mv (.t 7))⟩, ⟨(some 15), none, (.mv (.t 1))⟩, ⟨(some 16), none, (.bin .lss .int (.t 14)
  (.t 15))⟩, ⟨(some 17), none, (.mv (.t 16))⟩, ⟨(some 18), (some (17, true)), (.fa 7 (.t 2))⟩, ⟨(some 19), (some (17, true)), (.ld 1 false (.t 18))⟩, ⟨(some 20), (some (17, true)),
  (.len (.t 19))⟩, ⟨(some 21), (some (17, true)), (.bin .gtr .int (.t 20) (.k (.v (.int .i64 0))))⟩, ⟨(some 22), none, (.pick (.t 17) (.t 21) (.k (.v (.bool false))))⟩]) (.cond (.t
  22) .nop (.exit 0))) (.seq (.block 1 (.drw 6 [⟨(some 25), none, (.mv (.t 5))⟩, ⟨(some 26), none, (.fa 7 (.t 2))⟩, ⟨(some 27), none, (.ld 1 false (.t 26))⟩, ⟨(some 28), none, (.mv
  (.t 7))⟩, ⟨(some 29), none, (.fa 7 (.t 2))⟩, ⟨(some 30), none, (.ld 1 false (.t 29))⟩, ⟨(some 31), none, (.len (.t 30))⟩, ⟨(some 32), none, (.bin .rem .int (.t 28) (.t 31))⟩,
  ⟨(some 33), none, (.ia 1 (.t 27) (.t 32))⟩, ⟨(some 34), none, (.ld 1 false (.t 33))⟩, ⟨(some 35), none, (.mv (.t 6))⟩, ⟨(some 36), none, (.bin .mul .int (.k (.v (.int .i64 2)))
  (.t 35))⟩, ⟨(some 37), none, (.bin .add .int (.t 36) (.k (.v (.int .i64 1))))⟩, ⟨(some 38), none, (.call 32 [(.t 34), (.t 37)])⟩, ⟨(some 39), none, (.bin .add .int (.t 25) (.t
  38))⟩, ⟨(some 40), none, (.mv (.t 6))⟩, ⟨(some 41), none, (.bin .sub .int (.t 39) (.t 40))⟩, ⟨(some 5), none, (.mv (.t 41))⟩] [])) (.reg 5 [⟨(some 23), none, (.mv (.t 7))⟩,
  ⟨(some 24), none, (.bin .add .int (.t 23) (.k (.v (.int .i64 1))))⟩, ⟨(some 7), none, (.mv (.t 24))⟩])))))) (.seq (.reg 7 [⟨(some 42), none, (.mv (.t 5))⟩, ⟨(some 4), none, (.mv
  (.t 42))⟩]) .ret)))))
def rv28 : List RV := [(.t 4)]
theorem ok28 : cFun Try.prog Try.f28 = some (ac28, rv28) := by kernel_rfl
theorem nt28 : Try.f28.ntmps = 43 := by kernel_rfl
theorem of28 : okF Try.prog 28 := ⟨Try.f28, Try.func28, by kernel_rfl, by kernel_rfl⟩

/- putlog/clock.At -/
def ac29 : AC := (.seq (.reg 0 [⟨(some 2), none, (.box 2 (.t 0))⟩, ⟨(some 4), none, (.mv (.k (.v (.int .i64 0))))⟩, ⟨(some 5), none, (.mv (.k (.v (.int .i64 0))))⟩, ⟨(some 6), none, (.mv (.k (.v
  (.int .i64 0))))⟩]) (.seq (.seq (.reg 1 [⟨(some 8), none, (.ld 2 true (.t 2))⟩, ⟨(some 9), none, (.call 38 [(.t 8)])⟩, ⟨(some 10), none, (.un .not (.t 9))⟩, ⟨(some 11), none,
  (.mv (.t 10))⟩, ⟨(some 12), (some (11, false)), (.mv (.t 1))⟩, ⟨(some 13), (some (11, false)), (.bin .lss .int (.t 12) (.k (.v (.int .i64 0))))⟩, ⟨(some 14), none, (.pick (.t 11)
  (.k (.v (.bool true))) (.t 13))⟩, ⟨(some 15), none, (.mv (.t 14))⟩, ⟨(some 16), (some (15, false)), (.mv (.t 1))⟩, ⟨(some 17), (some (15, false)), (.bin .gtr .int (.t 16) (.k (.v
  (.int .i64 10000000))))⟩, ⟨(some 18), none, (.pick (.t 15) (.k (.v (.bool true))) (.t 17))⟩]) (.cond (.t 18) (.seq (.reg 2 [⟨(some 4), none, (.mv (.k (.v (.int .i64 0))))⟩,
  ⟨(some 5), none, (.mv (.k (.v (.int .i64 0))))⟩, ⟨(some 6), none, (.mv (.k (.v (.int .i64 50))))⟩]) .ret) .nop)) (.seq (.reg 3 [⟨(some 19), none, (.ld 2 true (.t 2))⟩, ⟨(some
  20), none, (.mv (.t 1))⟩, ⟨(some 21), none, (.call 46 [(.t 19), (.t 20)])⟩, ⟨(some 7), none, (.alloc [(.v (.int .i64 0)), (.v (.int .i64 0))])⟩, ⟨none, none, (.st 2 (.t 7) (.t
  21))⟩]) (.seq (.seq (.reg 4 [⟨(some 22), none, (.fa 0 (.t 7))⟩, ⟨(some 23), none, (.ld 1 false (.t 22))⟩, ⟨(some 24), none, (.fa 1 (.t 7))⟩, ⟨(some 25), none, (.ld 1 false (.t
  24))⟩, ⟨(some 26), none, (.bin .gtr .int (.t 23) (.t 25))⟩]) (.cond (.t 26) (.seq (.reg 5 [⟨(some 4), none, (.mv (.k (.v (.int .i64 0))))⟩, ⟨(some 5), none, (.mv (.k (.v (.int
  .i64 0))))⟩, ⟨(some 6), none, (.mv (.k (.v (.int .i64 50))))⟩]) .ret) .nop)) (.seq (.drw 6 [⟨(some 27), none, (.fa 0 (.t 7))⟩, ⟨(some 28), none, (.ld 1 false (.t 27))⟩, ⟨(some
  29), none, (.fa 1 (.t 7))⟩, ⟨(some 30), none, (.ld 1 false (.t 29))⟩, ⟨(some 4), none, (.mv (.t 28))⟩, ⟨(some 5), none, (.mv (.t 30))⟩, ⟨(some 6), none, (.mv (.k (.v (.int .i64
  0))))⟩] []) .ret)))))
def rv29 : List RV := [(.t 4), (.t 5), (.t 6)]
theorem ok29 : cFun Try.prog Try.f29 = some (ac29, rv29) := by kernel_rfl
theorem nt29 : Try.f29.ntmps = 31 := by kernel_rfl
theorem of29 : okF Try.prog 29 := ⟨Try.f29, Try.func29, by kernel_rfl, by kernel_rfl⟩

/- putlog/putloglaw24.free -/
def ac30 : AC := (.seq (.reg 0 [⟨(some 2), none, (.mv (.k (.v (.bool false))))⟩]) (.seq (.reg 1 [⟨(some 3), none, (.mv (.t 0))⟩, ⟨(some 4), none, (.bin .neq .int (.t 3) (.k (.v (.int .i64
  1000000))))⟩, ⟨(some 5), none, (.mv (.t 4))⟩, ⟨(some 6), (some (5, true)), (.mv (.t 0))⟩, ⟨(some 7), (some (5, true)), (.bin .neq .int (.t 6) (.k (.v (.int .i64 (-1000000)))))⟩,
  ⟨(some 8), none, (.pick (.t 5) (.t 7) (.k (.v (.bool false))))⟩, ⟨(some 2), none, (.mv (.t 8))⟩]) .ret))
def rv30 : List RV := [(.t 2)]
theorem ok30 : cFun Try.prog Try.f30 = some (ac30, rv30) := by kernel_rfl
theorem nt30 : Try.f30.ntmps = 9 := by kernel_rfl
theorem of30 : okF Try.prog 30 := ⟨Try.f30, Try.func30, by kernel_rfl, by kernel_rfl⟩

/- putlog/putloglaw24.example -/
def ac31 : AC := (.seq (.reg 0 [⟨(some 0), none, (.alloc [(.v (.int .i64 0)), (.sl 0 true [] []), (.v (.int .i64 0)), (.v (.int .i64 0)), (.sl 0 true [] [])])⟩]) (.seq (.reg 1 [⟨(some 1), none,
  (.build [(.v (.int .i64 0)), (.v (.int .i64 0)), (.v (.int .i64 0))] [])⟩, ⟨(some 2), none, (.bsl 3 1 [(.v (.int .i64 0)), (.v (.int .i64 0)), (.v (.int .i64 0))] [(0, (.t
  1))])⟩, ⟨(some 3), none, (.build [(.v (.int .i64 0)), (.sl 0 true [] [])] [(1, 1, (.t 2))])⟩, ⟨(some 4), none, (.build [(.v (.int .i64 0)), (.v (.int .i64 0))] [(0, 1, (.k (.v
  (.int .i64 10)))), (1, 1, (.k (.v (.int .i64 100))))])⟩, ⟨(some 5), none, (.build [(.v (.int .i64 0)), (.v (.int .i64 0))] [(0, 1, (.k (.v (.int .i64 20)))), (1, 1, (.k (.v (.int
  .i64 120))))])⟩, ⟨(some 6), none, (.bsl 2 2 [(.v (.int .i64 0)), (.v (.int .i64 0))] [(0, (.t 4)), (1, (.t 5))])⟩, ⟨(some 7), none, (.build [(.v (.int .i64 0)), (.sl 0 true []
  []), (.v (.int .i64 0)), (.v (.int .i64 0)), (.sl 0 true [] [])] [(0, 2, (.t 3)), (2, 1, (.k (.v (.int .i64 2)))), (3, 1, (.k (.v (.int .i64 3)))), (4, 1, (.t 6))])⟩, ⟨none,
  none, (.st 5 (.t 0) (.t 7))⟩]) .ret))
def rv31 : List RV := [(.c 0 5 true)]
theorem ok31 : cFun Try.prog Try.f31 = some (ac31, rv31) := by kernel_rfl
theorem nt31 : Try.f31.ntmps = 8 := by kernel_rfl
theorem of31 : okF Try.prog 31 := ⟨Try.f31, Try.func31, by kernel_rfl, by kernel_rfl⟩

/- putlog/putlogref24.pick -/
def ac32 : AC := (.seq (.reg 0 [⟨(some 4), none, (.mv (.k (.v (.int .i64 0))))⟩]) (.seq (.seq (.reg 1 [⟨(some 5), none, (.mv (.t 0))⟩, ⟨(some 6), none, (.bin .lss .int (.t 5) (.k (.v (.int .i64
  0))))⟩]) (.cond (.t 6) (.reg 2 [⟨(some 7), none, (.mv (.t 0))⟩, ⟨(some 8), none, (.bin .add .int (.t 7) (.k (.v (.int .i64 1))))⟩, ⟨(some 9), none, (.un .neg (.t 8))⟩, ⟨(some 0),
  none, (.mv (.t 9))⟩]) .nop)) (.seq (.reg 3 [⟨(some 10), none, (.mv (.t 0))⟩, ⟨(some 11), none, (.mv (.t 1))⟩, ⟨(some 12), none, (.bin .rem .int (.t 10) (.t 11))⟩, ⟨(some 4),
  none, (.mv (.t 12))⟩]) .ret)))
def rv32 : List RV := [(.t 4)]
theorem ok32 : cFun Try.prog Try.f32 = some (ac32, rv32) := by kernel_rfl
theorem nt32 : Try.f32.ntmps = 13 := by kernel_rfl
theorem of32 : okF Try.prog 32 := ⟨Try.f32, Try.func32, by kernel_rfl, by kernel_rfl⟩

/- putlog/putlogref05.Made -/
def ac33 : AC := (.seq (.reg 0 [⟨(some 8), none, (.alloc [(.v (.int .i64 0)), (.sl 0 true [] [])])⟩]) (.seq (.reg 1 [⟨(some 14), none, (.mv (.t 0))⟩, ⟨(some 15), none, (.call 47 [(.t 14), (.k (.v
  (.int .i64 101)))])⟩, ⟨(some 16), none, (.build [(.v (.int .i64 0)), (.sl 0 true [] [])] [(0, 1, (.t 15))])⟩, ⟨(some 9), none, (.alloc [(.v (.int .i64 0)), (.sl 0 true [] [])])⟩,
  ⟨none, none, (.st 2 (.t 9) (.t 16))⟩]) (.seq (.seq (.reg 2 [⟨(some 10), none, (.mv (.k (.v (.int .i64 0))))⟩]) (.block 0 (.loop (.seq (.seq (.reg 3 [⟨(some 17), none, (.mv (.t
  10))⟩, ⟨(some 18), none, (.bin .lss .int (.t 17) (.k (.v (.int .i64 3000))))⟩]) (.cond (.t 18) .nop (.exit 0))) (.seq (.block 1 (.seq (.reg 5 [⟨(some 11), none, (.mv (.k (.v
  (.int .i64 0))))⟩]) (.block 2 (.loop (.seq (.seq (.reg 6 [⟨(some 21), none, (.mv (.t 11))⟩, ⟨(some 22), none, (.mv (.t 3))⟩, ⟨(some 23), none, (.len (.t 22))⟩, ⟨(some 24), none,
  (.bin .lss .int (.t 21) (.t 23))⟩, ⟨(some 25), none, (.mv (.t 24))⟩, ⟨(some 26), (some (25, true)), (.mv (.t 11))⟩, ⟨(some 27), (some (25, true)), (.bin .lss .int (.t 26) (.k (.v
  (.int .i64 12))))⟩, ⟨(some 28), none, (.pick (.t 25) (.t 27) (.k (.v (.bool false))))⟩]) (.cond (.t 28) .nop (.exit 2))) (.seq (.block 3 (.seq (.seq (.reg 8 [⟨(some 31), none,
  (.mv (.t 3))⟩, ⟨(some 32), none, (.mv (.t 11))⟩, ⟨(some 33), none, (.ia 3 (.t 31) (.t 32))⟩, ⟨(some 34), none, (.iaA 3 1 (.t 33) (.k (.v (.int .i64 0))))⟩, ⟨(some 35), none, (.ld
  1 false (.t 34))⟩, ⟨(some 36), none, (.call 47 [(.t 35), (.k (.v (.int .i64 3000)))])⟩, ⟨(some 37), none, (.mv (.t 10))⟩, ⟨(some 38), none, (.bin .neq .int (.t 36) (.t 37))⟩])
  (.cond (.t 38) (.exit 3) .nop)) (.seq (.drw 9 [⟨(some 39), none, (.mv (.t 0))⟩, ⟨(some 40), none, (.mv (.t 1))⟩, ⟨(some 41), none, (.mv (.t 2))⟩, ⟨(some 42), none, (.mv (.t
  10))⟩, ⟨(some 43), none, (.call 36 [(.t 39), (.t 40), (.t 41), (.t 42)])⟩, ⟨(some 44), none, (.mv (.t 10))⟩, ⟨(some 45), none, (.mv (.t 3))⟩, ⟨(some 46), none, (.mv (.t 11))⟩,
  ⟨(some 47), none, (.ia 3 (.t 45) (.t 46))⟩, ⟨(some 48), none, (.iaA 3 1 (.t 47) (.k (.v (.int .i64 1))))⟩, ⟨(some 49), none, (.ld 1 false (.t 48))⟩, ⟨(some 50), none, (.call 47
  [(.t 49), (.k (.v (.int .i64 51)))])⟩, ⟨(some 51), none, (.bin .sub .int (.t 44) (.t 50))⟩, ⟨(some 52), none, (.mm true [(.t 51), (.k (.v (.int .i64 0)))])⟩, ⟨(some 53), none,
  (.mv (.t 10))⟩, ⟨(some 54), none, (.mv (.t 3))⟩, ⟨(some 55), none, (.mv (.t 11))⟩, ⟨(some 56), none, (.ia 3 (.t 54) (.t 55))⟩, ⟨(some 57), none, (.iaA 3 1 (.t 56) (.k (.v (.int
  .i64 2))))⟩, ⟨(some 58), none, (.ld 1 false (.t 57))⟩, ⟨(some 59), none, (.call 47 [(.t 58), (.k (.v (.int .i64 51)))])⟩, ⟨(some 60), none, (.bin .add .int (.t 53) (.t 59))⟩,
  ⟨(some 61), none, (.build [(.v (.int .i64 0)), (.v (.int .i64 0)), (.v (.int .i64 0))] [(0, 1, (.t 43)), (1, 1, (.t 52)), (2, 1, (.t 60))])⟩, ⟨(some 12), none, (.alloc [(.v (.int
  .i64 0)), (.v (.int .i64 0)), (.v (.int .i64 0))])⟩, ⟨none, none, (.st 3 (.t 12) (.t 61))⟩] [(4, 8), (4, 10), (4, 17), (11, 17), (4, 19), (11, 19), (4, 23), (8, 23), (10, 23),
  (11, 23), (17, 23), (19, 23), (20, 23)]) (.seq (.reg 10 [⟨(some 62), none, (.fa 1 (.t 9))⟩, ⟨(some 63), none, (.ld 1 false (.t 62))⟩, ⟨(some 64), none, (.len (.t 63))⟩, ⟨(some
  13), none, (.mv (.t 64))⟩]) (.seq (.drw 11 [⟨(some 65), none, (.mv (.t 13))⟩, ⟨(some 66), none, (.bin .eql .int (.t 65) (.k (.v (.int .i64 0))))⟩, ⟨(some 67), none, (.mv (.t
  66))⟩, ⟨(some 68), (some (67, false)), (.fa 1 (.t 9))⟩, ⟨(some 69), (some (67, false)), (.ld 1 false (.t 68))⟩, ⟨(some 70), (some (67, false)), (.mv (.t 13))⟩, ⟨(some 71), (some
  (67, false)), (.bin .sub .int (.t 70) (.k (.v (.int .i64 1))))⟩, ⟨(some 72), (some (67, false)), (.ia 3 (.t 69) (.t 71))⟩, ⟨(some 73), (some (67, false)), (.fa 0 (.t 72))⟩,
  ⟨(some 74), (some (67, false)), (.ld 1 false (.t 73))⟩, ⟨(some 75), (some (67, false)), (.fa 0 (.t 12))⟩, ⟨(some 76), (some (67, false)), (.ld 1 false (.t 75))⟩, ⟨(some 77),
  (some (67, false)), (.bin .lss .int (.t 74) (.t 76))⟩, ⟨(some 78), none, (.pick (.t 67) (.k (.v (.bool true))) (.t 77))⟩] []) (.cond (.t 78) (.reg 12 [⟨(some 79), none, (.fa 1
  (.t 9))⟩, ⟨(some 80), none, (.ld 1 false (.t 79))⟩, ⟨(some 81), none, (.ld 3 true (.t 12))⟩, ⟨(some 82), none, (.bsl 3 1 [(.v (.int .i64 0)), (.v (.int .i64 0)), (.v (.int .i64
  0))] [(0, (.t 81))])⟩, ⟨(some 83), none, (.app 3 24 [(.v (.int .i64 0)), (.v (.int .i64 0)), (.v (.int .i64 0))] (.t 80) (.t 82))⟩, ⟨(some 84), none, (.fa 1 (.t 9))⟩, ⟨none,
  none, (.st 1 (.t 84) (.t 83))⟩]) .nop)))))) (.reg 7 [⟨(some 29), none, (.mv (.t 11))⟩, ⟨(some 30), none, (.bin .add .int (.t 29) (.k (.v (.int .i64 1))))⟩, ⟨(some 11), none, (.mv
  (.t 30))⟩]))))))) (.reg 4 [⟨(some 19), none, (.mv (.t 10))⟩, ⟨(some 20), none, (.bin .add .int (.t 19) (.k (.v (.int .i64 1))))⟩, ⟨(some 10), none, (.mv (.t 20))⟩])))))) (.seq
  (.reg 13 [⟨(some 85), none, (.ld 2 true (.t 9))⟩, ⟨none, none, (.st 2 (.t 8) (.t 85))⟩]) .ret))))
def rv33 : List RV := [(.c 8 2 true)]
theorem ok33 : cFun Try.prog Try.f33 = some (ac33, rv33) := by kernel_rfl
theorem nt33 : Try.f33.ntmps = 86 := by kernel_rfl
theorem of33 : okF Try.prog 33 := ⟨Try.f33, Try.func33, by kernel_rfl, by kernel_rfl⟩

/- putlog/putlogref24.Tol -/
def ac34 : AC := (.seq (.reg 0 [⟨(some 1), none, (.box 9 (.t 0))⟩, ⟨(some 2), none, (.mv (.k (.v (.int .i64 0))))⟩]) (.seq (.reg 1 [⟨(some 3), none, (.fa 4 (.t 1))⟩, ⟨(some 4), none, (.ld 1 false
  (.t 3))⟩, ⟨(some 5), none, (.call 32 [(.t 4), (.k (.v (.int .i64 31)))])⟩, ⟨(some 2), none, (.mv (.t 5))⟩]) .ret))
def rv34 : List RV := [(.t 2)]
theorem ok34 : cFun Try.prog Try.f34 = some (ac34, rv34) := by kernel_rfl
theorem nt34 : Try.f34.ntmps = 6 := by kernel_rfl
theorem of34 : okF Try.prog 34 := ⟨Try.f34, Try.func34, by kernel_rfl, by kernel_rfl⟩

/- putlog/putlogref24.Rate -/
def ac35 : AC := (.seq (.reg 0 [⟨(some 1), none, (.box 9 (.t 0))⟩, ⟨(some 2), none, (.mv (.k (.v (.int .i64 0))))⟩]) (.seq (.reg 1 [⟨(some 3), none, (.fa 5 (.t 1))⟩, ⟨(some 4), none, (.ld 1 false
  (.t 3))⟩, ⟨(some 5), none, (.call 32 [(.t 4), (.k (.v (.int .i64 21)))])⟩, ⟨(some 2), none, (.mv (.t 5))⟩]) .ret))
def rv35 : List RV := [(.t 2)]
theorem ok35 : cFun Try.prog Try.f35 = some (ac35, rv35) := by kernel_rfl
theorem nt35 : Try.f35.ntmps = 6 := by kernel_rfl
theorem of35 : okF Try.prog 35 := ⟨Try.f35, Try.func35, by kernel_rfl, by kernel_rfl⟩

/- putlog/putlogref05.Shown -/
def ac36 : AC := (.seq (.reg 0 [⟨(some 8), none, (.mv (.k (.v (.int .i64 0))))⟩]) (.seq (.reg 1 [⟨(some 12), none, (.mv (.t 0))⟩, ⟨(some 13), none, (.call 47 [(.t 12), (.k (.v (.int .i64 101)))])⟩,
  ⟨(some 9), none, (.mv (.t 13))⟩]) (.seq (.reg 2 [⟨(some 10), none, (.mv (.k (.v (.int .i64 0))))⟩]) (.seq (.seq (.reg 3 [⟨(some 11), none, (.mv (.k (.v (.int .i64 0))))⟩])
  (.block 0 (.loop (.seq (.seq (.reg 4 [⟨(some 14), none, (.mv (.t 11))⟩, ⟨(some 15), none, (.mv (.t 2))⟩, ⟨(some 16), none, (.len (.t 15))⟩, ⟨(some 17), none, (.bin .lss .int (.t
  14) (.t 16))⟩, ⟨(some 18), none, (.mv (.t 17))⟩, ⟨(some 19), (some (18, true)), (.mv (.t 11))⟩, ⟨(some 20), (some (18, true)), (.bin .lss .int (.t 19) (.k (.v (.int .i64 20))))⟩,
  ⟨(some 21), none, (.pick (.t 18) (.t 20) (.k (.v (.bool false))))⟩, ⟨(some 22), none, (.mv (.t 21))⟩, ⟨(some 23), (some (22, true)), (.mv (.t 3))⟩, ⟨(some 24), (some (22, true)),
  (.mv (.t 11))⟩, ⟨(some 25), (some (22, true)), (.bin .mul .int (.k (.v (.int .i64 100))) (.t 24))⟩, ⟨(some 26), (some (22, true)), (.bin .gtr .int (.t 23) (.t 25))⟩, ⟨(some 27),
  none, (.pick (.t 22) (.t 26) (.k (.v (.bool false))))⟩]) (.cond (.t 27) .nop (.exit 0))) (.seq (.block 1 (.reg 6 [⟨(some 30), none, (.mv (.t 10))⟩, ⟨(some 31), none, (.mv (.t
  2))⟩, ⟨(some 32), none, (.mv (.t 11))⟩, ⟨(some 33), none, (.ia 1 (.t 31) (.t 32))⟩, ⟨(some 34), none, (.ld 1 false (.t 33))⟩, ⟨(some 35), none, (.mv (.t 9))⟩, ⟨(some 36), none,
  (.bin .mul .int (.k (.v (.int .i64 2))) (.t 35))⟩, ⟨(some 37), none, (.bin .add .int (.t 36) (.k (.v (.int .i64 1))))⟩, ⟨(some 38), none, (.call 47 [(.t 34), (.t 37)])⟩, ⟨(some
  39), none, (.mv (.t 9))⟩, ⟨(some 40), none, (.bin .sub .int (.t 38) (.t 39))⟩, ⟨(some 41), none, (.mv (.t 3))⟩, ⟨(some 42), none, (.mv (.t 11))⟩, ⟨(some 43), none, (.bin .mul
  .int (.k (.v (.int .i64 100))) (.t 42))⟩, ⟨(some 44), none, (.bin .sub .int (.t 41) (.t 43))⟩, ⟨(some 45), none, (.mm false [(.t 44), (.k (.v (.int .i64 100)))])⟩, ⟨(some 46),
  none, (.bin .mul .int (.t 40) (.t 45))⟩, ⟨(some 47), none, (.bin .add .int (.t 30) (.t 46))⟩, ⟨(some 10), none, (.mv (.t 47))⟩])) (.reg 5 [⟨(some 28), none, (.mv (.t 11))⟩,
  ⟨(some 29), none, (.bin .add .int (.t 28) (.k (.v (.int .i64 1))))⟩, ⟨(some 11), none, (.mv (.t 29))⟩])))))) (.seq (.reg 7 [⟨(some 48), none, (.mv (.t 10))⟩, ⟨(some 49), none,
  (.mv (.t 3))⟩, ⟨(some 50), none, (.bin .mul .int (.k (.v (.int .i64 1000))) (.t 49))⟩, ⟨(some 51), none, (.bin .add .int (.t 48) (.t 50))⟩, ⟨(some 10), none, (.mv (.t 51))⟩])
  (.seq (.reg 8 [⟨(some 52), none, (.mv (.t 1))⟩, ⟨(some 53), none, (.call 47 [(.t 52), (.k (.v (.int .i64 1000)))])⟩, ⟨(some 54), none, (.mv (.t 10))⟩, ⟨(some 55), none, (.bin
  .quo .int (.t 54) (.k (.v (.int .i64 1000))))⟩, ⟨(some 56), none, (.bin .add .int (.t 53) (.t 55))⟩, ⟨(some 8), none, (.mv (.t 56))⟩]) .ret))))))
def rv36 : List RV := [(.t 8)]
theorem ok36 : cFun Try.prog Try.f36 = some (ac36, rv36) := by kernel_rfl
theorem nt36 : Try.f36.ntmps = 57 := by kernel_rfl
theorem of36 : okF Try.prog 36 := ⟨Try.f36, Try.func36, by kernel_rfl, by kernel_rfl⟩

/- putlog/monitor.isIn -/
def ac37 : AC := (.seq (.reg 0 [⟨(some 6), none, (.mv (.k (.v (.bool false))))⟩]) (.seq (.reg 1 [⟨(some 7), none, (.mv (.t 1))⟩, ⟨(some 8), none, (.mv (.t 0))⟩, ⟨(some 9), none, (.bin .leq .int (.t
  7) (.t 8))⟩, ⟨(some 10), none, (.mv (.t 9))⟩, ⟨(some 11), (some (10, true)), (.mv (.t 0))⟩, ⟨(some 12), (some (10, true)), (.mv (.t 2))⟩, ⟨(some 13), (some (10, true)), (.bin
  .leq .int (.t 11) (.t 12))⟩, ⟨(some 14), none, (.pick (.t 10) (.t 13) (.k (.v (.bool false))))⟩, ⟨(some 6), none, (.mv (.t 14))⟩]) .ret))
def rv37 : List RV := [(.t 6)]
theorem ok37 : cFun Try.prog Try.f37 = some (ac37, rv37) := by kernel_rfl
theorem nt37 : Try.f37.ntmps = 15 := by kernel_rfl
theorem of37 : okF Try.prog 37 := ⟨Try.f37, Try.func37, by kernel_rfl, by kernel_rfl⟩

/- putlog/clock.Valid -/
def ac38 : AC := (.seq (.reg 0 [⟨(some 1), none, (.box 2 (.t 0))⟩, ⟨(some 2), none, (.mv (.k (.v (.bool false))))⟩]) (.seq (.seq (.reg 1 [⟨(some 6), none, (.fa 0 (.t 1))⟩, ⟨(some 7), none, (.ld 1
  false (.t 6))⟩, ⟨(some 8), none, (.bin .lss .int (.t 7) (.k (.v (.int .i64 0))))⟩, ⟨(some 9), none, (.mv (.t 8))⟩, ⟨(some 10), (some (9, false)), (.fa 0 (.t 1))⟩, ⟨(some 11),
  (some (9, false)), (.ld 1 false (.t 10))⟩, ⟨(some 12), (some (9, false)), (.bin .gtr .int (.t 11) (.k (.v (.int .i64 100))))⟩, ⟨(some 13), none, (.pick (.t 9) (.k (.v (.bool
  true))) (.t 12))⟩, ⟨(some 14), none, (.mv (.t 13))⟩, ⟨(some 15), (some (14, false)), (.fa 1 (.t 1))⟩, ⟨(some 16), (some (14, false)), (.ld 1 false (.t 15))⟩, ⟨(some 17), (some
  (14, false)), (.len (.t 16))⟩, ⟨(some 18), (some (14, false)), (.bin .gtr .int (.t 17) (.k (.v (.int .i64 12))))⟩, ⟨(some 19), none, (.pick (.t 14) (.k (.v (.bool true))) (.t
  18))⟩]) (.cond (.t 19) (.seq (.reg 2 [⟨(some 2), none, (.mv (.k (.v (.bool false))))⟩]) .ret) .nop)) (.seq (.reg 3 [⟨(some 3), none, (.mv (.k (.v (.int .i64 (-1)))))⟩]) (.seq
  (.seq (.reg 4 [⟨(some 20), none, (.fa 1 (.t 1))⟩, ⟨(some 21), none, (.ld 1 false (.t 20))⟩, ⟨(some 22), none, (.len (.t 21))⟩, ⟨(some 23), none, (.mv (.k (.v (.int .i64 0))))⟩])
  (.block 0 (.loop (.seq (.reg 5 [⟨(some 24), none, (.bin .lss .int (.t 23) (.t 22))⟩]) (.seq (.cond (.t 24) .nop (.exit 0)) (.seq (.block 1 (.seq (.reg 6 [⟨(some 25), none, (.ia 3
  (.t 21) (.t 23))⟩, ⟨(some 26), none, (.ld 3 true (.t 25))⟩, ⟨(some 5), none, (.alloc [(.v (.int .i64 0)), (.v (.int .i64 0)), (.v (.int .i64 0))])⟩, ⟨none, none, (.st 3 (.t 5)
  (.t 26))⟩]) (.seq (.seq (.reg 7 [⟨(some 27), none, (.fa 0 (.t 5))⟩, ⟨(some 28), none, (.ld 1 false (.t 27))⟩, ⟨(some 29), none, (.mv (.t 3))⟩, ⟨(some 30), none, (.bin .leq .int
  (.t 28) (.t 29))⟩, ⟨(some 31), none, (.mv (.t 30))⟩, ⟨(some 32), (some (31, false)), (.fa 0 (.t 5))⟩, ⟨(some 33), (some (31, false)), (.ld 1 false (.t 32))⟩, ⟨(some 34), (some
  (31, false)), (.bin .gtr .int (.t 33) (.k (.v (.int .i64 10000000))))⟩, ⟨(some 35), none, (.pick (.t 31) (.k (.v (.bool true))) (.t 34))⟩, ⟨(some 36), none, (.mv (.t 35))⟩,
  ⟨(some 37), (some (36, false)), (.fa 1 (.t 5))⟩, ⟨(some 38), (some (36, false)), (.ld 1 false (.t 37))⟩, ⟨(some 39), (some (36, false)), (.bin .lss .int (.t 38) (.k (.v (.int
  .i64 0))))⟩, ⟨(some 40), none, (.pick (.t 36) (.k (.v (.bool true))) (.t 39))⟩, ⟨(some 41), none, (.mv (.t 40))⟩, ⟨(some 42), (some (41, false)), (.fa 1 (.t 5))⟩, ⟨(some 43),
  (some (41, false)), (.ld 1 false (.t 42))⟩, ⟨(some 44), (some (41, false)), (.fa 2 (.t 5))⟩, ⟨(some 45), (some (41, false)), (.ld 1 false (.t 44))⟩, ⟨(some 46), (some (41,
  false)), (.bin .gtr .int (.t 43) (.t 45))⟩, ⟨(some 47), none, (.pick (.t 41) (.k (.v (.bool true))) (.t 46))⟩, ⟨(some 48), none, (.mv (.t 47))⟩, ⟨(some 49), (some (48, false)),
  (.fa 2 (.t 5))⟩, ⟨(some 50), (some (48, false)), (.ld 1 false (.t 49))⟩, ⟨(some 51), (some (48, false)), (.bin .gtr .int (.t 50) (.k (.v (.int .i64 10000000))))⟩, ⟨(some 52),
  none, (.pick (.t 48) (.k (.v (.bool true))) (.t 51))⟩]) (.cond (.t 52) (.seq (.reg 8 [⟨(some 2), none, (.mv (.k (.v (.bool false))))⟩]) .ret) .nop)) (.reg 9 [⟨(some 53), none,
  (.fa 0 (.t 5))⟩, ⟨(some 54), none, (.ld 1 false (.t 53))⟩, ⟨(some 3), none, (.mv (.t 54))⟩])))) (.reg 10 [⟨(some 55), none, (.bin .add .int (.t 23) (.k (.v (.int .i64 1))))⟩,
  ⟨(some 23), none, (.mv (.t 55))⟩]))))))) (.seq (.reg 11 [⟨(some 2), none, (.mv (.k (.v (.bool true))))⟩]) .ret)))))
def rv38 : List RV := [(.t 2)]
theorem ok38 : cFun Try.prog Try.f38 = some (ac38, rv38) := by kernel_rfl
theorem nt38 : Try.f38.ntmps = 56 := by kernel_rfl
theorem of38 : okF Try.prog 38 := ⟨Try.f38, Try.func38, by kernel_rfl, by kernel_rfl⟩

/- putlog/putlogref05.Valid -/
def ac39 : AC := (.seq (.reg 0 [⟨(some 1), none, (.box 2 (.t 0))⟩, ⟨(some 2), none, (.mv (.k (.v (.bool false))))⟩]) (.seq (.seq (.reg 1 [⟨(some 5), none, (.fa 0 (.t 1))⟩, ⟨(some 6), none, (.ld 1
  false (.t 5))⟩, ⟨(some 7), none, (.bin .lss .int (.t 6) (.k (.v (.int .i64 0))))⟩, ⟨(some 8), none, (.mv (.t 7))⟩, ⟨(some 9), (some (8, false)), (.fa 0 (.t 1))⟩, ⟨(some 10),
  (some (8, false)), (.ld 1 false (.t 9))⟩, ⟨(some 11), (some (8, false)), (.bin .gtr .int (.t 10) (.k (.v (.int .i64 100))))⟩, ⟨(some 12), none, (.pick (.t 8) (.k (.v (.bool
  true))) (.t 11))⟩, ⟨(some 13), none, (.mv (.t 12))⟩, ⟨(some 14), (some (13, false)), (.fa 1 (.t 1))⟩, ⟨(some 15), (some (13, false)), (.ld 1 false (.t 14))⟩, ⟨(some 16), (some
  (13, false)), (.len (.t 15))⟩, ⟨(some 17), (some (13, false)), (.bin .gtr .int (.t 16) (.k (.v (.int .i64 12))))⟩, ⟨(some 18), none, (.pick (.t 13) (.k (.v (.bool true))) (.t
  17))⟩]) (.cond (.t 18) (.seq (.reg 2 [⟨(some 2), none, (.mv (.k (.v (.bool false))))⟩]) .ret) .nop)) (.seq (.seq (.reg 3 [⟨(some 3), none, (.mv (.k (.v (.int .i64 0))))⟩])
  (.block 0 (.loop (.seq (.seq (.reg 4 [⟨(some 19), none, (.mv (.t 3))⟩, ⟨(some 20), none, (.fa 1 (.t 1))⟩, ⟨(some 21), none, (.ld 1 false (.t 20))⟩, ⟨(some 22), none, (.len (.t
  21))⟩, ⟨(some 23), none, (.bin .lss .int (.t 19) (.t 22))⟩]) (.cond (.t 23) .nop (.exit 0))) (.seq (.block 1 (.seq (.reg 6 [⟨(some 26), none, (.fa 1 (.t 1))⟩, ⟨(some 27), none,
  (.ld 1 false (.t 26))⟩, ⟨(some 28), none, (.mv (.t 3))⟩, ⟨(some 29), none, (.ia 3 (.t 27) (.t 28))⟩, ⟨(some 30), none, (.ld 3 true (.t 29))⟩, ⟨(some 4), none, (.alloc [(.v (.int
  .i64 0)), (.v (.int .i64 0)), (.v (.int .i64 0))])⟩, ⟨none, none, (.st 3 (.t 4) (.t 30))⟩]) (.seq (.drw 7 [⟨(some 31), none, (.fa 0 (.t 4))⟩, ⟨(some 32), none, (.ld 1 false (.t
  31))⟩, ⟨(some 33), none, (.bin .lss .int (.t 32) (.k (.v (.int .i64 0))))⟩, ⟨(some 34), none, (.mv (.t 33))⟩, ⟨(some 35), (some (34, false)), (.fa 0 (.t 4))⟩, ⟨(some 36), (some
  (34, false)), (.ld 1 false (.t 35))⟩, ⟨(some 37), (some (34, false)), (.bin .gtr .int (.t 36) (.k (.v (.int .i64 10000000))))⟩, ⟨(some 38), none, (.pick (.t 34) (.k (.v (.bool
  true))) (.t 37))⟩, ⟨(some 39), none, (.mv (.t 38))⟩, ⟨(some 40), (some (39, false)), (.fa 1 (.t 4))⟩, ⟨(some 41), (some (39, false)), (.ld 1 false (.t 40))⟩, ⟨(some 42), (some
  (39, false)), (.bin .lss .int (.t 41) (.k (.v (.int .i64 0))))⟩, ⟨(some 43), none, (.pick (.t 39) (.k (.v (.bool true))) (.t 42))⟩, ⟨(some 44), none, (.mv (.t 43))⟩, ⟨(some 45),
  (some (44, false)), (.fa 2 (.t 4))⟩, ⟨(some 46), (some (44, false)), (.ld 1 false (.t 45))⟩, ⟨(some 47), (some (44, false)), (.fa 1 (.t 4))⟩, ⟨(some 48), (some (44, false)), (.ld
  1 false (.t 47))⟩, ⟨(some 49), (some (44, false)), (.bin .lss .int (.t 46) (.t 48))⟩, ⟨(some 50), none, (.pick (.t 44) (.k (.v (.bool true))) (.t 49))⟩, ⟨(some 51), none, (.mv
  (.t 50))⟩, ⟨(some 52), (some (51, false)), (.fa 2 (.t 4))⟩, ⟨(some 53), (some (51, false)), (.ld 1 false (.t 52))⟩, ⟨(some 54), (some (51, false)), (.bin .gtr .int (.t 53) (.k
  (.v (.int .i64 10000000))))⟩, ⟨(some 55), none, (.pick (.t 51) (.k (.v (.bool true))) (.t 54))⟩, ⟨(some 56), none, (.mv (.t 55))⟩, ⟨(some 57), (some (56, false)), (.mv (.t 3))⟩,
  ⟨(some 58), (some (56, false)), (.bin .gtr .int (.t 57) (.k (.v (.int .i64 0))))⟩, ⟨(some 59), (some (56, false)), (.mv (.t 58))⟩, ⟨(some 60), (some (59, true)), (.fa 0 (.t 4))⟩,
  ⟨(some 61), (some (59, true)), (.ld 1 false (.t 60))⟩, ⟨(some 62), (some (59, true)), (.fa 1 (.t 1))⟩, ⟨(some 63), (some (59, true)), (.ld 1 false (.t 62))⟩, ⟨(some 64), (some
  (59, true)), (.mv (.t 3))⟩, ⟨(some 65), (some (59, true)), (.bin .sub .int (.t 64) (.k (.v (.int .i64 1))))⟩, ⟨(some 66), (some (59, true)), (.ia 3 (.t 63) (.t 65))⟩, ⟨(some 67),
  (some (59, true)), (.fa 0 (.t 66))⟩, ⟨(some 68), (some (59, true)), (.ld 1 false (.t 67))⟩, ⟨(some 69), (some (59, true)), (.bin .leq .int (.t 61) (.t 68))⟩, ⟨(some 70), (some
  (56, false)), (.pick (.t 59) (.t 69) (.k (.v (.bool false))))⟩, ⟨(some 71), none, (.pick (.t 56) (.k (.v (.bool true))) (.t 70))⟩] []) (.cond (.t 71) (.seq (.reg 8 [⟨(some 2),
  none, (.mv (.k (.v (.bool false))))⟩]) .ret) .nop)))) (.reg 5 [⟨(some 24), none, (.mv (.t 3))⟩, ⟨(some 25), none, (.bin .add .int (.t 24) (.k (.v (.int .i64 1))))⟩, ⟨(some 3),
  none, (.mv (.t 25))⟩])))))) (.seq (.reg 9 [⟨(some 2), none, (.mv (.k (.v (.bool true))))⟩]) .ret))))
def rv39 : List RV := [(.t 2)]
theorem ok39 : cFun Try.prog Try.f39 = some (ac39, rv39) := by kernel_rfl
theorem nt39 : Try.f39.ntmps = 72 := by kernel_rfl
theorem of39 : okF Try.prog 39 := ⟨Try.f39, Try.func39, by kernel_rfl, by kernel_rfl⟩

/- putlog/monitor.found -/
def ac40 : AC := (.seq (.reg 0 [⟨(some 2), none, (.box 5 (.t 0))⟩, ⟨(some 4), none, (.alloc [(.v (.int .i64 0)), (.v (.int .i64 0)), (.v (.int .i64 0)), (.v (.int .i64 0))])⟩, ⟨(some 5), none, (.mv
  (.k (.v (.bool false))))⟩]) (.seq (.seq (.reg 1 [⟨(some 7), none, (.ld 5 true (.t 2))⟩, ⟨(some 8), none, (.call 16 [(.t 7)])⟩, ⟨(some 9), none, (.un .not (.t 8))⟩, ⟨(some 10),
  none, (.mv (.t 9))⟩, ⟨(some 11), (some (10, false)), (.mv (.t 1))⟩, ⟨(some 12), (some (10, false)), (.call 37 [(.t 11), (.k (.v (.int .i64 0))), (.k (.v (.int .i64
  10000000)))])⟩, ⟨(some 13), (some (10, false)), (.un .not (.t 12))⟩, ⟨(some 14), none, (.pick (.t 10) (.k (.v (.bool true))) (.t 13))⟩]) (.cond (.t 14) (.seq (.reg 2 [⟨(some 15),
  none, (.build [(.v (.int .i64 0)), (.v (.int .i64 0)), (.v (.int .i64 0)), (.v (.int .i64 0))] [])⟩, ⟨none, none, (.st 4 (.t 4) (.t 15))⟩, ⟨(some 5), none, (.mv (.k (.v (.bool
  false))))⟩]) .ret) .nop)) (.seq (.drw 3 [⟨(some 16), none, (.ld 5 true (.t 2))⟩, ⟨(some 17), none, (.call 43 [(.t 16)])⟩, ⟨(some 18), none, (.fa 3 (.t 2))⟩, ⟨(some 19), none,
  (.ld 1 false (.t 18))⟩, ⟨(some 20), none, (.mv (.t 1))⟩, ⟨(some 21), none, (.call 45 [(.t 17), (.t 19), (.t 20)])⟩, ⟨(some 6), none, (.alloc [(.v (.int .i64 0)), (.v (.int .i64
  0)), (.v (.int .i64 0)), (.v (.int .i64 0))])⟩, ⟨none, none, (.st 4 (.t 6) (.t 21))⟩] [(1, 3), (0, 6), (1, 6), (3, 6), (5, 6)]) (.seq (.drw 4 [⟨(some 22), none, (.ld 4 true (.t
  6))⟩, ⟨(some 23), none, (.fa 0 (.t 6))⟩, ⟨(some 24), none, (.ld 1 false (.t 23))⟩, ⟨(some 25), none, (.fa 1 (.t 6))⟩, ⟨(some 26), none, (.ld 1 false (.t 25))⟩, ⟨(some 27), none,
  (.bin .leq .int (.t 24) (.t 26))⟩, ⟨none, none, (.st 4 (.t 4) (.t 22))⟩, ⟨(some 5), none, (.mv (.t 27))⟩] [(2, 6), (4, 6)]) .ret))))
def rv40 : List RV := [(.c 4 4 true), (.t 5)]
theorem ok40 : cFun Try.prog Try.f40 = some (ac40, rv40) := by kernel_rfl
theorem nt40 : Try.f40.ntmps = 28 := by kernel_rfl
theorem of40 : okF Try.prog 40 := ⟨Try.f40, Try.func40, by kernel_rfl, by kernel_rfl⟩

/- putlog/putlogref24.bounds -/
def ac41 : AC := (.seq (.reg 0 [⟨(some 2), none, (.box 5 (.t 0))⟩, ⟨(some 4), none, (.mv (.k (.v (.int .i64 0))))⟩, ⟨(some 5), none, (.mv (.k (.v (.int .i64 0))))⟩]) (.seq (.reg 1 [⟨(some 6), none,
  (.mv (.k (.v (.int .i64 (-1000000)))))⟩]) (.seq (.reg 2 [⟨(some 7), none, (.mv (.k (.v (.int .i64 1000000))))⟩]) (.seq (.seq (.reg 3 [⟨(some 8), none, (.mv (.k (.v (.int .i64
  0))))⟩]) (.block 0 (.loop (.seq (.seq (.reg 4 [⟨(some 12), none, (.mv (.t 8))⟩, ⟨(some 13), none, (.fa 4 (.t 2))⟩, ⟨(some 14), none, (.ld 1 false (.t 13))⟩, ⟨(some 15), none,
  (.len (.t 14))⟩, ⟨(some 16), none, (.bin .lss .int (.t 12) (.t 15))⟩]) (.cond (.t 16) .nop (.exit 0))) (.seq (.block 1 (.seq (.drw 6 [⟨(some 20), none, (.ld 5 true (.t 2))⟩,
  ⟨(some 21), none, (.fa 4 (.t 2))⟩, ⟨(some 22), none, (.ld 1 false (.t 21))⟩, ⟨(some 23), none, (.mv (.t 8))⟩, ⟨(some 24), none, (.ia 2 (.t 22) (.t 23))⟩, ⟨(some 25), none, (.ld 2
  true (.t 24))⟩, ⟨(some 26), none, (.mv (.t 1))⟩, ⟨(some 27), none, (.call 42 [(.t 20), (.t 25), (.t 26)])⟩, ⟨(some 19), none, (.mv (.t 27))⟩, ⟨(some 28), none, (.ext (.t 19) 0)⟩,
  ⟨(some 29), none, (.ext (.t 19) 1)⟩, ⟨(some 30), none, (.ext (.t 19) 2)⟩, ⟨(some 9), none, (.mv (.t 28))⟩, ⟨(some 10), none, (.mv (.t 29))⟩, ⟨(some 11), none, (.mv (.t 30))⟩] [])
  (.seq (.reg 7 [⟨(some 31), none, (.mv (.t 11))⟩]) (.cond (.t 31) (.seq (.reg 8 [⟨(some 32), none, (.mv (.t 6))⟩, ⟨(some 33), none, (.mv (.t 9))⟩, ⟨(some 34), none, (.mm true [(.t
  32), (.t 33)])⟩, ⟨(some 6), none, (.mv (.t 34))⟩]) (.reg 9 [⟨(some 35), none, (.mv (.t 7))⟩, ⟨(some 36), none, (.mv (.t 10))⟩, ⟨(some 37), none, (.mm false [(.t 35), (.t 36)])⟩,
  ⟨(some 7), none, (.mv (.t 37))⟩])) .nop)))) (.reg 5 [⟨(some 17), none, (.mv (.t 8))⟩, ⟨(some 18), none, (.bin .add .int (.t 17) (.k (.v (.int .i64 1))))⟩, ⟨(some 8), none, (.mv
  (.t 18))⟩])))))) (.seq (.reg 10 [⟨(some 38), none, (.mv (.t 6))⟩, ⟨(some 39), none, (.mv (.t 7))⟩, ⟨(some 4), none, (.mv (.t 38))⟩, ⟨(some 5), none, (.mv (.t 39))⟩]) .ret)))))
def rv41 : List RV := [(.t 4), (.t 5)]
theorem ok41 : cFun Try.prog Try.f41 = some (ac41, rv41) := by kernel_rfl
theorem nt41 : Try.f41.ntmps = 40 := by kernel_rfl
theorem of41 : okF Try.prog 41 := ⟨Try.f41, Try.func41, by kernel_rfl, by kernel_rfl⟩

/- putlog/putlogref24.span -/
def ac42 : AC := (.seq (.reg 0 [⟨(some 3), none, (.box 5 (.t 0))⟩, ⟨(some 4), none, (.box 2 (.t 1))⟩, ⟨(some 6), none, (.mv (.k (.v (.int .i64 0))))⟩, ⟨(some 7), none, (.mv (.k (.v (.int .i64
  0))))⟩, ⟨(some 8), none, (.mv (.k (.v (.bool false))))⟩]) (.seq (.reg 1 [⟨(some 14), none, (.fa 0 (.t 3))⟩, ⟨(some 15), none, (.ld 2 true (.t 14))⟩, ⟨(some 16), none, (.fa 0 (.t
  4))⟩, ⟨(some 17), none, (.ld 1 false (.t 16))⟩, ⟨(some 18), none, (.call 48 [(.t 15), (.t 17)])⟩, ⟨(some 13), none, (.mv (.t 18))⟩, ⟨(some 19), none, (.ext (.t 13) 0)⟩, ⟨(some
  20), none, (.ext (.t 13) 1)⟩, ⟨(some 21), none, (.ext (.t 13) 2)⟩, ⟨(some 9), none, (.mv (.t 19))⟩, ⟨(some 10), none, (.mv (.t 20))⟩, ⟨(some 11), none, (.mv (.t 21))⟩]) (.seq
  (.seq (.reg 2 [⟨(some 22), none, (.mv (.t 11))⟩, ⟨(some 23), none, (.bin .neq .int (.t 22) (.k (.v (.int .i64 0))))⟩]) (.cond (.t 23) (.seq (.reg 3 [⟨(some 6), none, (.mv (.k (.v
  (.int .i64 0))))⟩, ⟨(some 7), none, (.mv (.k (.v (.int .i64 0))))⟩, ⟨(some 8), none, (.mv (.k (.v (.bool false))))⟩]) .ret) .nop)) (.seq (.reg 4 [⟨(some 24), none, (.fa 3 (.t
  3))⟩, ⟨(some 25), none, (.ld 1 false (.t 24))⟩, ⟨(some 26), none, (.mv (.t 2))⟩, ⟨(some 27), none, (.mv (.t 9))⟩, ⟨(some 28), none, (.bin .sub .int (.t 26) (.t 27))⟩, ⟨(some 29),
  none, (.mv (.t 9))⟩, ⟨(some 30), none, (.mv (.t 2))⟩, ⟨(some 31), none, (.bin .sub .int (.t 29) (.t 30))⟩, ⟨(some 32), none, (.mv (.t 2))⟩, ⟨(some 33), none, (.mv (.t 10))⟩,
  ⟨(some 34), none, (.bin .sub .int (.t 32) (.t 33))⟩, ⟨(some 35), none, (.mv (.t 10))⟩, ⟨(some 36), none, (.mv (.t 2))⟩, ⟨(some 37), none, (.bin .sub .int (.t 35) (.t 36))⟩,
  ⟨(some 38), none, (.mm true [(.t 28), (.t 31), (.t 34), (.t 37)])⟩, ⟨(some 39), none, (.bin .mul .int (.t 25) (.t 38))⟩, ⟨(some 12), none, (.mv (.t 39))⟩]) (.seq (.drw 5 [⟨(some
  40), none, (.fa 1 (.t 4))⟩, ⟨(some 41), none, (.ld 1 false (.t 40))⟩, ⟨(some 42), none, (.fa 2 (.t 3))⟩, ⟨(some 43), none, (.ld 1 false (.t 42))⟩, ⟨(some 44), none, (.bin .sub
  .int (.t 41) (.t 43))⟩, ⟨(some 45), none, (.mv (.t 12))⟩, ⟨(some 46), none, (.bin .sub .int (.t 44) (.t 45))⟩, ⟨(some 47), none, (.fa 1 (.t 4))⟩, ⟨(some 48), none, (.ld 1 false
  (.t 47))⟩, ⟨(some 49), none, (.fa 2 (.t 3))⟩, ⟨(some 50), none, (.ld 1 false (.t 49))⟩, ⟨(some 51), none, (.bin .add .int (.t 48) (.t 50))⟩, ⟨(some 52), none, (.mv (.t 12))⟩,
  ⟨(some 53), none, (.bin .add .int (.t 51) (.t 52))⟩, ⟨(some 6), none, (.mv (.t 46))⟩, ⟨(some 7), none, (.mv (.t 53))⟩, ⟨(some 8), none, (.mv (.k (.v (.bool true))))⟩] [])
  .ret)))))
def rv42 : List RV := [(.t 6), (.t 7), (.t 8)]
theorem ok42 : cFun Try.prog Try.f42 = some (ac42, rv42) := by kernel_rfl
theorem nt42 : Try.f42.ntmps = 54 := by kernel_rfl
theorem of42 : okF Try.prog 42 := ⟨Try.f42, Try.func42, by kernel_rfl, by kernel_rfl⟩

end Go.Proofs.Ytmmfbjmjhjmccaa.Am
