import Derived.Test.YtdabfcbelkjmgaaGreatDoorA5
import Derived.Test.YtdabfcbelkjmgaaGreatDoorProg
namespace Go.Proofs.YtdabfcbelkjmgaaGreatDoor.Am
set_option linter.unusedSimpArgs false
set_option linter.unusedVariables false
open Go C
set_option maxRecDepth 100000
def ac3:AC:= .seq (.reg 0 [o 15 (.box 4 (.t 3)),o 16 (.box 4 (.t 4)),o 17 (.box 3 (.t 5)),o 18 (.box 6 (.t 6)),o 24 (.mv ff)]) (.seq (.reg 1 [c 62 4 [],m 25 62]) (.seq (.seq (.reg 2 [m 63
 25,o 64 (.un .not (.t 63))]) (.cond (.t 64) (.seq (.reg 3 [o 24 (.mv ff)]) .ret) .nop)) (.seq (.reg 4 [m 66 0,m 67 1,m 68 2,o 69 (.ld 4 true (.t 15)),o 70 (.ld 4 true (.t
 16)),c 71 5 [.t 66,.t 67,.t 68,.t 69,.t 70],m 65 71,o 72 (.ext (.t 65) 0),o 73 (.ext (.t 65) 1),o 26 (.alloc [z,z,z,.sl 0 true [] [],z,z]),o 27 (.alloc [z,z,z,
 .sl 0 true [] [],z,z]),u (.st 6 (.t 26) (.t 72)),u (.st 6 (.t 27) (.t 73))]) (.seq (.reg 5 [o 74 (.fa 3 (.t 18)),o 75 (.ld 1 false (.t 74)),o 76 (.fa 3 (.t 18)),o 77 (.ld
 1 false (.t 76)),o 78 (.len (.t 77)),o 79 (.mm false [.t 78,i 9]),o 80 (.slc 2 (.t 75) none (some (.t 79)) none),o 81 (.fa 3 (.t 18)),u (.st 1 (.t 81) (.t 80))]) (.seq
 (.drw 6 [o 82 (.ld 6 true (.t 26)),o 83 (.ld 6 true (.t 27)),o 84 (.ld 6 true (.t 26)),o 85 (.iaA 3 1 (.t 17) (i 0)),o 86 (.ld 1 false (.t 85)),o 87 (.iaA 3 1 (.t 17) (i
 1)),o 88 (.ld 1 false (.t 87)),o 89 (.iaA 3 1 (.t 17) (i 2)),o 90 (.ld 1 false (.t 89)),c 91 6 [.t 84,.t 86,.t 88,.t 90],o 92 (.ld 6 true (.t 18)),o 93 (.bsl 6 4 [z,z,
 z,.sl 0 true [] [],z,z] [(0,.t 82),(1,.t 83),(2,.t 91),(3,.t 92)]),m 28 93] [(0,9),(1,9),(9,10)]) (.seq (.seq (.reg 7 [o 29 (.mv (i 0))]) (.block 0 (.loop (.seq
 (.seq (.reg 8 [m 94 29,o 95 (.bin .lss .int (.t 94) (i 4))]) (.cond (.t 95) .nop (.exit 0))) (.seq (.block 1 (.seq (.reg 10 [m 98 28,m 99 29,o 100 (.ia 6 (.t 98) (.t 99)),o
 101 (.ld 6 true (.t 100)),o 30 (.alloc [z,z,z,.sl 0 true [] [],z,z]),u (.st 6 (.t 30) (.t 101))]) (.seq (.reg 11 [o 102 (.ld 6 true (.t 30)),c 103 7 [.t 102],m 31 103])
 (.seq (.reg 12 [o 104 (.ld 6 true (.t 30)),c 105 8 [.t 104],m 32 105]) (.seq (.seq (.reg 13 [m 106 31,o 107 (.len (.t 106)),m 108 32,o 109 (.len (.t 108)),o 110 (.bin .neq
 .int (.t 107) (.t 109))]) (.cond (.t 110) (.seq (.reg 14 [o 24 (.mv ff)]) .ret) .nop)) (.seq (.seq (.reg 15 [o 33 (.mv (i 0))]) (.block 2 (.loop (.seq (.seq (.reg 16 [m 111 33,m
 112 31,o 113 (.len (.t 112)),o 114 (.bin .lss .int (.t 111) (.t 113))]) (.cond (.t 114) .nop (.exit 2))) (.seq (.block 3 (.seq (.drw 18 [m 117 31,m 118 33,o 119 (.ia 2 (.t
 117) (.t 118)),o 120 (.ld 2 true (.t 119)),m 121 32,m 122 33,o 123 (.ia 2 (.t 121) (.t 122)),o 124 (.ld 2 true (.t 123)),o 125 (.bin .neq (.cells [true,true]) (.t 120) (.t
 124))] []) (.cond (.t 125) (.seq (.reg 19 [o 24 (.mv ff)]) .ret) .nop))) (.reg 17 [m 115 33,o 116 (.bin .add .int (.t 115) (i 1)),m 33 116])))))) (.seq (.reg 20 [o 127 (.ld 6
 true (.t 30)),c 128 9 [.t 127],m 126 128,o 129 (.ext (.t 126) 0),o 130 (.ext (.t 126) 1),o 34 (.alloc [z,z,z,z,z,z,z,z]),u (.st 8 (.t 34) (.t 129)),m 35 130]) (.seq
 (.reg 21 [o 132 (.ld 6 true (.t 30)),c 133 10 [.t 132],m 131 133,o 134 (.ext (.t 131) 0),o 135 (.ext (.t 131) 1),o 36 (.alloc [z,z,z,z,z,z,z,z]),u (.st 8 (.t 36) (.t
 134)),m 37 135]) (.seq (.seq (.drw 22 [o 136 (.ld 6 true (.t 30)),c 137 11 [.t 136],o 138 (.ld 6 true (.t 30)),c 139 12 [.t 138],o 140 (.bin .neq .bool (.t 137) (.t 139)),m
 141 140,v 142 141 (.ld 6 true (.t 30)),v 143 141 (.call 13 [.t 142]),v 144 141 (.ld 6 true (.t 30)),v 145 141 (.call 14 [.t 144]),v 146 141 (.bin .neq .int (.t 143) (.t
 145)),o 147 (.pick (.t 141) tt (.t 146)),m 148 147,v 149 148 (.ld 6 true (.t 30)),v 150 148 (.call 15 [.t 149]),v 151 148 (.ld 6 true (.t 30)),v 152 148 (.call 16 [.t
 151]),v 153 148 (.bin .neq .int (.t 150) (.t 152)),o 154 (.pick (.t 148) tt (.t 153)),m 155 154,v 156 155 (.ld 6 true (.t 30)),v 157 155 (.call 17 [.t 156]),v 158 155 (.ld
 6 true (.t 30)),v 159 155 (.call 18 [.t 158]),v 160 155 (.bin .neq .int (.t 157) (.t 159)),o 161 (.pick (.t 155) tt (.t 160)),m 162 161,v 163 162 (.ld 8 true (.t 34)),v 164
 162 (.ld 8 true (.t 36)),v 165 162 (.bin .neq (.cells [true,true,true,true,true,true,true,true]) (.t 163) (.t 164)),o 166 (.pick (.t 162) tt (.t 165)),m 167 166,v 168
 167 (.mv (.t 35)),v 169 167 (.mv (.t 37)),v 170 167 (.bin .neq .bool (.t 168) (.t 169)),o 171 (.pick (.t 167) tt (.t 170))] [(1,2),(7,8),(14,15),(21,22)]) (.cond (.t
 171) (.seq (.reg 23 [o 24 (.mv ff)]) .ret) .nop)) (.seq (.seq (.reg 24 [o 38 (.mv (i 0))]) (.block 4 (.loop (.seq (.seq (.reg 25 [m 172 38,o 173 (.bin .lss .int (.t 172) (i
 4))]) (.cond (.t 173) .nop (.exit 4))) (.seq (.block 5 (.seq (.drw 27 [o 177 (.ld 6 true (.t 30)),m 178 28,m 179 38,o 180 (.ia 6 (.t 178) (.t 179)),o 181 (.ld 6 true (.t
 180)),c 182 19 [.t 177,.t 181],m 176 182,o 183 (.ext (.t 176) 0),o 184 (.ext (.t 176) 1),u (.st 8 (.t 34) (.t 183)),m 35 184] []) (.seq (.drw 28 [o 186 (.ld 6 true (.t
 30)),m 187 28,m 188 38,o 189 (.ia 6 (.t 187) (.t 188)),o 190 (.ld 6 true (.t 189)),c 191 20 [.t 186,.t 190],m 185 191,o 192 (.ext (.t 185) 0),o 193 (.ext (.t 185) 1),u
 (.st 8 (.t 36) (.t 192)),m 37 193] []) (.seq (.drw 29 [o 194 (.ld 8 true (.t 34)),o 195 (.ld 8 true (.t 36)),o 196 (.bin .neq (.cells [true,true,true,true,true,true,
 true,true]) (.t 194) (.t 195)),m 197 196,v 198 197 (.mv (.t 35)),v 199 197 (.mv (.t 37)),v 200 197 (.bin .neq .bool (.t 198) (.t 199)),o 201 (.pick (.t 197) tt (.t 200)),m
 202 201,v 203 202 (.ld 6 true (.t 30)),v 204 202 (.mv (.t 28)),v 205 202 (.mv (.t 38)),v 206 202 (.ia 6 (.t 204) (.t 205)),v 207 202 (.ld 6 true (.t 206)),v 208 202 (.call
 21 [.t 203,.t 207]),v 209 202 (.ld 6 true (.t 30)),v 210 202 (.mv (.t 28)),v 211 202 (.mv (.t 38)),v 212 202 (.ia 6 (.t 210) (.t 211)),v 213 202 (.ld 6 true (.t 212)),v
 214 202 (.call 22 [.t 209,.t 213]),v 215 202 (.bin .neq .bool (.t 208) (.t 214)),o 216 (.pick (.t 202) tt (.t 215))] [(14,15),(14,18),(14,19)]) (.cond (.t 216) (.seq
 (.reg 30 [o 24 (.mv ff)]) .ret) .nop))))) (.reg 26 [m 174 38,o 175 (.bin .add .int (.t 174) (i 1)),m 38 175])))))) (.seq (.seq (.reg 31 [m 217 7,m 218 8,o 219 (.build [z,z]
 [(0,1,.t 217),(1,1,.t 218)]),m 220 7,c 221 23 [.t 220,i 21],o 222 (.bin .sub .int (.t 221) (i 10)),m 223 8,c 224 23 [.t 223,i 21],o 225 (.bin .sub .int (.t 224) (i
 10)),o 226 (.build [z,z] [(0,1,.t 222),(1,1,.t 225)]),o 227 (.bsl 2 2 [z,z] [(0,.t 219),(1,.t 226)]),o 228 (.len (.t 227)),o 229 (.mv (i 0))]) (.block 6 (.loop
 (.seq (.reg 32 [o 230 (.bin .lss .int (.t 229) (.t 228))]) (.seq (.cond (.t 230) .nop (.exit 6)) (.seq (.block 7 (.seq (.reg 33 [o 231 (.ia 2 (.t 227) (.t 229)),o 232 (.ld 2
 true (.t 231)),o 40 (.alloc [z,z]),u (.st 2 (.t 40) (.t 232))]) (.seq (.reg 34 [o 234 (.ld 6 true (.t 30)),o 235 (.iaA 2 1 (.t 40) (i 0)),o 236 (.ld 1 false (.t 235)),o 237
 (.iaA 2 1 (.t 40) (i 1)),o 238 (.ld 1 false (.t 237)),c 239 24 [.t 234,.t 236,.t 238],m 233 239,o 240 (.ext (.t 233) 0),o 241 (.ext (.t 233) 1),o 41 (.alloc [z,z,z,.sl
 0 true [] [],z,z]),u (.st 6 (.t 41) (.t 240)),m 42 241]) (.seq (.reg 35 [o 243 (.ld 6 true (.t 30)),o 244 (.iaA 2 1 (.t 40) (i 0)),o 245 (.ld 1 false (.t 244)),o 246 (.iaA
 2 1 (.t 40) (i 1)),o 247 (.ld 1 false (.t 246)),c 248 25 [.t 243,.t 245,.t 247],m 242 248,o 249 (.ext (.t 242) 0),o 250 (.ext (.t 242) 1),o 43 (.alloc [z,z,z,.sl 0
 true [] [],z,z]),u (.st 6 (.t 43) (.t 249)),m 44 250]) (.seq (.reg 36 [m 251 42,m 252 44,o 253 (.bin .neq .int (.t 251) (.t 252)),m 254 253,v 255 254 (.ld 6 true (.t
 41)),v 256 254 (.ld 6 true (.t 43)),v 257 254 (.call 26 [.t 255,.t 256]),v 258 254 (.un .not (.t 257)),o 259 (.pick (.t 254) tt (.t 258))]) (.cond (.t 259) (.seq (.reg 37 [o
 24 (.mv ff)]) .ret) .nop)))))) (.reg 38 [o 260 (.bin .add .int (.t 229) (i 1)),m 229 260]))))))) (.seq (.reg 39 [o 262 (.ld 6 true (.t 30)),c 263 27 [.t 262],m 261 263,o 264
 (.ext (.t 261) 0),o 265 (.ext (.t 261) 1),m 45 264,m 46 265]) (.seq (.reg 40 [o 267 (.ld 6 true (.t 30)),c 268 28 [.t 267],m 266 268,o 269 (.ext (.t 266) 0),o 270 (.ext
 (.t 266) 1),m 47 269,m 48 270]) (.seq (.reg 41 [o 272 (.fa 2 (.t 30)),o 273 (.ld 1 false (.t 272)),c 274 29 [.t 273],m 271 274,o 275 (.ext (.t 271) 0),o 276 (.ext (.t 271)
 1),o 49 (.alloc [z,z,z,z,z]),u (.st 5 (.t 49) (.t 275)),m 50 276]) (.seq (.reg 42 [o 278 (.fa 2 (.t 30)),o 279 (.ld 1 false (.t 278)),c 280 30 [.t 279],m 277 280,o 281
 (.ext (.t 277) 0),o 282 (.ext (.t 277) 1),o 51 (.alloc [z,z,z,z,z]),u (.st 5 (.t 51) (.t 281)),m 52 282]) (.seq (.reg 43 [m 283 45,m 284 47,o 285 (.pr (.seq true) [.t
 283,.t 284]),m 286 285,v 287 286 (.mv (.t 46)),v 288 286 (.mv (.t 48)),v 289 286 (.bin .neq .int (.t 287) (.t 288)),o 290 (.pick (.t 286) tt (.t 289)),m 291 290,v 292 291
 (.ld 5 true (.t 49)),v 293 291 (.ld 5 true (.t 51)),v 294 291 (.bin .neq (.cells [true,true,true,true,true]) (.t 292) (.t 293)),o 295 (.pick (.t 291) tt (.t 294)),m 296
 295,v 297 296 (.mv (.t 50)),v 298 296 (.mv (.t 52)),v 299 296 (.bin .neq .int (.t 297) (.t 298)),o 300 (.pick (.t 296) tt (.t 299))]) (.cond (.t 300) (.seq (.reg 44 [o 24
 (.mv ff)]) .ret) .nop))))))))))))))))) (.reg 9 [m 96 29,o 97 (.bin .add .int (.t 96) (i 1)),m 29 97])))))) (.seq (.reg 45 [o 302 (.ld 6 true (.t 26)),c 303 28 [.t 302],m 301
 303,o 304 (.ext (.t 301) 0),o 305 (.ext (.t 301) 1),m 53 304,m 54 305]) (.seq (.reg 46 [m 306 10,m 307 53,o 308 (.pr .slen [.t 307]),c 309 23 [.t 306,.t 308],m 55 309])
 (.seq (.seq (.drw 47 [m 310 53,m 311 55,o 312 (.pr (.ssl false true) [.t 310,.t 311]),m 313 11,o 314 (.bsl 1 1 [.v (.int .u8 0)] [(0,.t 313)]),o 315 (.b2s (.t 314)),o 316
 (.pr .scat [.t 312,.t 315]),m 317 53,m 318 55,o 319 (.bin .add .int (.t 318) (i 1)),o 320 (.pr (.ssl true false) [.t 317,.t 319]),o 321 (.pr .scat [.t 316,.t 320]),m 322
 53,m 323 55,o 324 (.pr (.ssl false true) [.t 322,.t 323]),m 325 53,m 326 9,m 327 9,o 328 (.pr .slen [.t 327]),o 329 (.mm false [.t 328,i 60]),o 330 (.pr (.ssl false
 true) [.t 326,.t 329]),o 331 (.pr .scat [.t 325,.t 330]),m 332 9,m 333 9,o 334 (.pr .slen [.t 333]),o 335 (.mm false [.t 334,i 60]),o 336 (.pr (.ssl false true) [.t 332,
 .t 335]),o 337 (.bsl 1 4 [.v (.string (sB []))] [(0,.t 321),(1,.t 324),(2,.t 331),(3,.t 336)]),o 338 (.len (.t 337)),o 339 (.mv (i 0))] []) (.block 8 (.loop (.seq (.reg
 48 [o 340 (.bin .lss .int (.t 339) (.t 338))]) (.seq (.cond (.t 340) .nop (.exit 8)) (.seq (.block 9 (.seq (.reg 49 [o 341 (.ia 1 (.t 337) (.t 339)),o 342 (.ld 1 false (.t
 341)),m 57 342]) (.seq (.reg 50 [m 344 57,c 345 31 [.t 344],m 343 345,o 346 (.ext (.t 343) 0),o 347 (.ext (.t 343) 1),o 58 (.alloc [z,z,z,.sl 0 true [] [],z,z]),u
 (.st 6 (.t 58) (.t 346)),m 59 347]) (.seq (.reg 51 [m 349 57,c 350 32 [.t 349],m 348 350,o 351 (.ext (.t 348) 0),o 352 (.ext (.t 348) 1),o 60 (.alloc [z,z,z,.sl 0 true
 [] [],z,z]),u (.st 6 (.t 60) (.t 351)),m 61 352]) (.seq (.reg 52 [m 353 59,m 354 61,o 355 (.bin .neq .int (.t 353) (.t 354)),m 356 355,v 357 356 (.ld 6 true (.t 58)),v
 358 356 (.ld 6 true (.t 60)),v 359 356 (.call 26 [.t 357,.t 358]),v 360 356 (.un .not (.t 359)),o 361 (.pick (.t 356) tt (.t 360))]) (.cond (.t 361) (.seq (.reg 53 [o 24 (.mv
 ff)]) .ret) .nop)))))) (.reg 54 [o 362 (.bin .add .int (.t 339) (i 1)),m 339 362]))))))) (.seq (.reg 55 [m 363 25,m 24 363]) .ret))))))))))
def rv3:List RV:=[(.t 24)]
theorem ok3:Bl Tryz.prog Tryz.f3=some (ac3,rv3):=by kernel_rfl
theorem nt3:Tryz.f3.ntmps=364:=by kernel_rfl
end Go.Proofs.YtdabfcbelkjmgaaGreatDoor.Am
