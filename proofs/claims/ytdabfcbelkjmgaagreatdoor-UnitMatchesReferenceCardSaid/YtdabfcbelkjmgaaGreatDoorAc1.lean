import Derived.Test.YtdabfcbelkjmgaaGreatDoorA5
import Derived.Test.YtdabfcbelkjmgaaGreatDoorProg
namespace Go.Proofs.YtdabfcbelkjmgaaGreatDoor.Am
set_option linter.unusedSimpArgs false
set_option linter.unusedVariables false
open Go C
set_option maxRecDepth 100000
def YL:AC:= .seq (.reg 0 [o 6 (.mv (.k (.sl 0 true [] []))),o 7 (.mv (.k (.sl 0 true [] [])))]) (.seq (.seq (.reg 1 [m 18 2,c 19 62 [.t 18,i 3]]) (.block 0 (.seq (.reg 2 [o 21 (.bin .eql
 .int (.t 19) (i 0)),m 20 21]) (.cond (.t 20) (.seq (.reg 3 [m 22 0,c 23 63 [.t 22,i 0,i 40],m 24 1,c 25 63 [.t 24,i 0,i 40],m 6 23,m 7 25]) .ret) (.seq (.reg 4 [o 27
 (.bin .eql .int (.t 19) (i 1)),m 26 27]) (.cond (.t 26) (.seq (.reg 5 [o 8 (.mv (.k (.sl 0 true [] [])))]) (.seq (.reg 6 [o 9 (.mv (.k (.sl 0 true [] [])))]) (.seq (.seq (.reg 7
 [o 10 (.mv (i 0))]) (.block 1 (.loop (.seq (.seq (.reg 8 [m 28 10,m 29 0,o 30 (.len (.t 29)),o 31 (.bin .lss .int (.t 28) (.t 30)),m 32 31,w 33 32 (.mv (.t 10)),w 34 32
 (.bin .lss .int (.t 33) (i 6)),o 35 (.pick (.t 32) (.t 34) ff)]) (.cond (.t 35) .nop (.exit 1))) (.seq (.block 2 (.reg 10 [m 38 8,m 39 0,m 40 10,o 41 (.ia 2 (.t 39) (.t 40)),
 o 42 (.ld 2 true (.t 41)),o 43 (.bsl 2 1 [z,z] [(0,.t 42)]),o 44 (.app 2 16 [z,z] (.t 38) (.t 43)),m 8 44])) (.reg 9 [m 36 10,o 37 (.bin .add .int (.t 36) (i 1)),m 10
 37])))))) (.seq (.seq (.reg 11 [o 11 (.mv (i 0))]) (.block 3 (.loop (.seq (.seq (.reg 12 [m 45 11,m 46 1,o 47 (.len (.t 46)),o 48 (.bin .lss .int (.t 45) (.t 47)),m 49 48,w
 50 49 (.mv (.t 11)),w 51 49 (.bin .lss .int (.t 50) (i 6)),o 52 (.pick (.t 49) (.t 51) ff)]) (.cond (.t 52) .nop (.exit 3))) (.seq (.block 4 (.reg 14 [m 55 9,m 56 1,m 57 11,
 o 58 (.ia 2 (.t 56) (.t 57)),o 59 (.ld 2 true (.t 58)),o 60 (.bsl 2 1 [z,z] [(0,.t 59)]),o 61 (.app 2 16 [z,z] (.t 55) (.t 60)),m 9 61])) (.reg 13 [m 53 11,o 54 (.bin
 .add .int (.t 53) (i 1)),m 11 54])))))) (.seq (.reg 15 [m 62 2,o 63 (.bin .quo .int (.t 62) (i 3)),c 64 62 [.t 63,i 30],m 12 64]) (.seq (.reg 16 [m 65 8,m 66 12,o 67
 (.build [z,z] [(0,1,i 20),(1,1,.t 66)]),m 68 12,o 69 (.bin .add .int (.t 68) (i 1)),m 70 2,o 71 (.bin .quo .int (.t 70) (i 90)),c 72 62 [.t 71,i 10],o 73 (.bin .add
 .int (.t 69) (.t 72)),o 74 (.build [z,z] [(0,1,i 20),(1,1,.t 73)]),o 75 (.bsl 2 2 [z,z] [(0,.t 67),(1,.t 74)]),o 76 (.app 2 16 [z,z] (.t 65) (.t 75)),m 8 76])
 (.seq (.reg 17 [m 77 9,m 78 2,o 79 (.bin .quo .int (.t 78) (i 900)),c 80 62 [.t 79,i 40],o 81 (.build [z,z] [(0,1,i 0),(1,1,.t 80)]),m 82 2,o 83 (.bin .quo .int (.t
 82) (i 7)),c 84 62 [.t 83,i 40],o 85 (.build [z,z] [(0,1,i 0),(1,1,.t 84)]),o 86 (.bsl 2 2 [z,z] [(0,.t 81),(1,.t 85)]),o 87 (.app 2 16 [z,z] (.t 77) (.t 86)),m
 9 87]) (.seq (.reg 18 [m 88 8,c 89 63 [.t 88,i 0,i 20],m 90 9,c 91 63 [.t 90,i 20,i 40],m 6 89,m 7 91]) .ret)))))))) .nop)))))) (.seq (.reg 19 [m 92 0,c 93 63 [.t 92,i
 0,i 40],m 13 93]) (.seq (.reg 20 [m 94 2,o 95 (.bin .quo .int (.t 94) (i 3)),m 96 13,o 97 (.len (.t 96)),c 98 62 [.t 95,.t 97],m 14 98]) (.seq (.reg 21 [m 100 13,m 101
 14,m 102 14,o 103 (.bin .add .int (.t 102) (i 2)),m 104 13,o 105 (.len (.t 104)),o 106 (.bin .rem .int (.t 103) (.t 105)),c 107 64 [.t 100,.t 101,.t 106],m 99 107,o 108
 (.ext (.t 99) 0),o 109 (.ext (.t 99) 1),o 110 (.ext (.t 99) 2),m 15 108,m 16 109,m 17 110]) (.seq (.seq (.reg 22 [m 111 17,o 112 (.bin .neq .int (.t 111) (i 0))]) (.cond
 (.t 112) (.seq (.reg 23 [m 113 13,m 114 1,c 115 63 [.t 114,i 0,i 40],m 6 113,m 7 115]) .ret) .nop)) (.seq (.reg 24 [m 116 15,m 117 16,m 6 116,m 7 117]) .ret))))))
def YM:List RV:=[(.t 6),(.t 7)]
theorem fX:Bl Tryz.prog Tryz.f34=some (YL,YM):=by kernel_rfl
theorem fY:Tryz.f34.ntmps=118:=by kernel_rfl
theorem fZ:okF Tryz.prog 34:=⟨Tryz.f34,Tryz.func34,by kernel_rfl,by kernel_rfl⟩
def YN:AC:= .seq (.reg 0 [o 8 (.mv (.k (.sl 0 true [] [])))]) (.seq (.reg 1 [o 11 (.bsl 2 0 [z,z] []),m 12 0,o 13 (.app 2 16 [z,z] (.t 11) (.t 12)),m 9 13]) (.seq (.seq (.reg 2 [m 14 9,o
 15 (.len (.t 14)),o 16 (.bin .eql .int (.t 15) (i 0))]) (.cond (.t 16) (.seq (.reg 3 [m 17 2,m 18 2,o 19 (.build [z,z] [(0,1,.t 17),(1,1,.t 18)]),o 20 (.bsl 2 1 [z,z]
 [(0,.t 19)]),m 8 20]) .ret) .nop)) (.seq (.reg 4 [m 21 3,m 22 9,o 23 (.len (.t 22)),c 24 62 [.t 21,.t 23],m 10 24]) (.seq (.seq (.reg 5 [m 25 1,c 26 62 [.t 25,i 5]])
 (.block 0 (.seq (.reg 7 [o 43 (.bin .eql .int (.t 26) (i 0)),m 42 43]) (.cond (.t 42) (.reg 8 [m 44 9,m 45 10,m 46 2,o 47 (.ia 2 (.t 44) (.t 45)),o 48 (.fa 0 (.t 47)),u
 (.st 1 (.t 48) (.t 46))]) (.seq (.reg 9 [o 50 (.bin .eql .int (.t 26) (i 1)),m 49 50]) (.cond (.t 49) (.reg 10 [m 51 9,m 52 10,m 53 2,o 54 (.ia 2 (.t 51) (.t 52)),o 55 (.fa
 1 (.t 54)),u (.st 1 (.t 55) (.t 53))]) (.seq (.reg 11 [o 57 (.bin .eql .int (.t 26) (i 2)),m 56 57]) (.cond (.t 56) (.reg 12 [m 58 9,m 59 10,m 60 9,m 61 10,o 62 (.bin .add
 .int (.t 61) (i 1)),m 63 9,o 64 (.len (.t 63)),o 65 (.bin .rem .int (.t 62) (.t 64)),o 66 (.ia 2 (.t 60) (.t 65)),o 67 (.ld 2 true (.t 66)),o 68 (.ia 2 (.t 58) (.t 59)),u
 (.st 2 (.t 68) (.t 67))]) (.seq (.reg 13 [o 70 (.bin .eql .int (.t 26) (i 3)),m 69 70]) (.cond (.t 69) (.seq (.drw 14 [m 71 9,m 72 10,m 73 10,o 74 (.slc 2 (.t 71) none (some
 (.t 72)) (some (.t 73))),m 75 9,m 76 10,o 77 (.bin .add .int (.t 76) (i 1)),o 78 (.slc 2 (.t 75) (some (.t 77)) none none),o 79 (.app 2 16 [z,z] (.t 74) (.t 78)),m 8 79]
 [(3,7)]) .ret) (.seq (.drw 6 [m 27 9,m 28 10,m 29 10,o 30 (.slc 2 (.t 27) none (some (.t 28)) (some (.t 29))),m 31 2,m 32 3,c 33 62 [.t 32,i 50],o 34 (.bin .sub .int (.t
 33) (i 5)),o 35 (.build [z,z] [(0,1,.t 31),(1,1,.t 34)]),o 36 (.bsl 2 1 [z,z] [(0,.t 35)]),m 37 9,m 38 10,o 39 (.slc 2 (.t 37) (some (.t 38)) none none),o 40 (.app
 2 16 [z,z] (.t 36) (.t 39)),o 41 (.app 2 16 [z,z] (.t 30) (.t 40)),m 8 41] [(3,6),(3,9),(3,12),(6,12),(9,12),(3,13)]) .ret))))))))))) (.seq (.reg 15 [m 80 9,m 8
 80]) .ret)))))
def YO:List RV:=[(.t 8)]
theorem gA:Bl Tryz.prog Tryz.f37=some (YN,YO):=by kernel_rfl
theorem gC:Tryz.f37.ntmps=81:=by kernel_rfl
theorem gE:okF Tryz.prog 37:=⟨Tryz.f37,Tryz.func37,by kernel_rfl,by kernel_rfl⟩
def YP:AC:= .seq (.reg 0 [o 2 (.mv ff)]) (.seq (.seq (.reg 1 [m 8 0,o 9 (.len (.t 8)),o 10 (.bin .lss .int (.t 9) (i 3)),m 11 10,v 12 11 (.mv (.t 0)),v 13 11 (.len (.t 12)),v 14 11 (.bin
 .gtr .int (.t 13) (i 8)),o 15 (.pick (.t 11) tt (.t 14)),m 16 15,v 17 16 (.mv (.t 0)),v 18 16 (.call 65 [.t 17,.k (.clo (.func 66) [] [])]),o 19 (.pick (.t 16) tt (.t
 18))]) (.cond (.t 19) (.seq (.reg 2 [o 2 (.mv ff)]) .ret) .nop)) (.seq (.seq (.reg 3 [m 20 0,o 21 (.len (.t 20)),o 22 (.mv (i 0))]) (.block 0 (.loop (.seq (.reg 4 [o 23 (.bin
 .lss .int (.t 22) (.t 21))]) (.seq (.cond (.t 23) .nop (.exit 0)) (.seq (.block 1 (.seq (.reg 5 [m 24 22,o 25 (.ia 2 (.t 20) (.t 22)),o 26 (.ld 2 true (.t 25)),o 4 (.alloc [z,
 z]),m 3 24,u (.st 2 (.t 4) (.t 26))]) (.seq (.reg 6 [m 27 3,o 28 (.bin .add .int (.t 27) (i 1)),m 29 0,o 30 (.len (.t 29)),o 31 (.bin .rem .int (.t 28) (.t 30)),m 5 31])
 (.seq (.reg 7 [m 32 0,o 33 (.len (.t 32)),o 34 (.mv (i 0))]) (.block 2 (.loop (.seq (.reg 8 [o 35 (.bin .lss .int (.t 34) (.t 33))]) (.seq (.cond (.t 35) .nop (.exit 2)) (.seq
 (.block 3 (.seq (.reg 9 [m 36 34,o 37 (.ia 2 (.t 32) (.t 34)),o 38 (.ld 2 true (.t 37)),o 7 (.alloc [z,z]),m 6 36,u (.st 2 (.t 7) (.t 38))]) (.seq (.drw 10 [m 39 6,m 40 3,
 o 41 (.bin .neq .int (.t 39) (.t 40)),m 42 41,w 43 42 (.mv (.t 6)),w 44 42 (.mv (.t 5)),w 45 42 (.bin .neq .int (.t 43) (.t 44)),o 46 (.pick (.t 42) (.t 45) ff),m 47 46,w
 48 47 (.ld 2 true (.t 4)),w 49 47 (.mv (.t 0)),w 50 47 (.mv (.t 5)),w 51 47 (.ia 2 (.t 49) (.t 50)),w 52 47 (.ld 2 true (.t 51)),w 53 47 (.ld 2 true (.t 7)),w 54 47 (.call
 67 [.t 48,.t 52,.t 53]),w 55 47 (.bin .leq .int (.t 54) (i 0)),o 56 (.pick (.t 47) (.t 55) ff)] []) (.cond (.t 56) (.seq (.reg 11 [o 2 (.mv ff)]) .ret) .nop)))) (.reg 12 [o
 57 (.bin .add .int (.t 34) (i 1)),m 34 57])))))))))) (.reg 13 [o 58 (.bin .add .int (.t 22) (i 1)),m 22 58]))))))) (.seq (.reg 14 [o 2 (.mv tt)]) .ret)))
def YQ:List RV:=[(.t 2)]
theorem gF:Bl Tryz.prog Tryz.f40=some (YP,YQ):=by kernel_rfl
theorem gG:Tryz.f40.ntmps=59:=by kernel_rfl
theorem gH:okF Tryz.prog 40:=⟨Tryz.f40,Tryz.func40,by kernel_rfl,by kernel_rfl⟩
def YR:AC:= .seq (.reg 0 [o 2 (.mv ff)]) (.seq (.seq (.reg 1 [m 6 0,o 7 (.len (.t 6)),o 8 (.bin .lss .int (.t 7) (i 3)),m 9 8,v 10 9 (.mv (.t 0)),v 11 9 (.len (.t 10)),v 12 9 (.bin .gtr
 .int (.t 11) (i 8)),o 13 (.pick (.t 9) tt (.t 12))]) (.cond (.t 13) (.seq (.reg 2 [o 2 (.mv ff)]) .ret) .nop)) (.seq (.seq (.reg 3 [o 3 (.mv (i 0))]) (.block 0 (.loop (.seq
 (.seq (.reg 4 [m 14 3,m 15 0,o 16 (.len (.t 15)),o 17 (.bin .lss .int (.t 14) (.t 16))]) (.cond (.t 17) .nop (.exit 0))) (.seq (.block 1 (.seq (.reg 6 [m 20 0,m 21 3,o 22
 (.ia 2 (.t 20) (.t 21)),o 23 (.ld 2 true (.t 22)),c 24 68 [.t 23],o 25 (.un .not (.t 24))]) (.cond (.t 25) (.seq (.reg 7 [o 2 (.mv ff)]) .ret) .nop))) (.reg 5 [m 18 3,o 19
 (.bin .add .int (.t 18) (i 1)),m 3 19])))))) (.seq (.seq (.reg 8 [o 4 (.mv (i 0))]) (.block 2 (.loop (.seq (.seq (.reg 9 [m 26 4,m 27 0,o 28 (.len (.t 27)),o 29 (.bin .lss
 .int (.t 26) (.t 28))]) (.cond (.t 29) .nop (.exit 2))) (.seq (.block 3 (.seq (.reg 11 [o 5 (.mv (i 0))]) (.block 4 (.loop (.seq (.seq (.reg 12 [m 32 5,m 33 0,o 34 (.len (.t
 33)),o 35 (.bin .lss .int (.t 32) (.t 34))]) (.cond (.t 35) .nop (.exit 4))) (.seq (.block 5 (.seq (.drw 14 [m 38 5,m 39 4,o 40 (.bin .neq .int (.t 38) (.t 39)),m 41 40,w 42
 41 (.mv (.t 5)),w 43 41 (.mv (.t 4)),w 44 41 (.bin .add .int (.t 43) (i 1)),w 45 41 (.mv (.t 0)),w 46 41 (.len (.t 45)),w 47 41 (.bin .rem .int (.t 44) (.t 46)),w 48 41
 (.bin .neq .int (.t 42) (.t 47)),o 49 (.pick (.t 41) (.t 48) ff),m 50 49,w 51 50 (.mv (.t 0)),w 52 50 (.mv (.t 4)),w 53 50 (.ia 2 (.t 51) (.t 52)),w 54 50 (.ld 2 true (.t
 53)),w 55 50 (.mv (.t 0)),w 56 50 (.mv (.t 4)),w 57 50 (.call 70 [.t 55,.t 56]),w 58 50 (.mv (.t 0)),w 59 50 (.mv (.t 5)),w 60 50 (.ia 2 (.t 58) (.t 59)),w 61 50 (.ld 2
 true (.t 60)),w 62 50 (.call 69 [.t 54,.t 57,.t 61]),w 63 50 (.bin .leq .int (.t 62) (i 0)),o 64 (.pick (.t 50) (.t 63) ff)] [(15,19),(16,19),(19,22),(19,23)]) (.cond
 (.t 64) (.seq (.reg 15 [o 2 (.mv ff)]) .ret) .nop))) (.reg 13 [m 36 5,o 37 (.bin .add .int (.t 36) (i 1)),m 5 37]))))))) (.reg 10 [m 30 4,o 31 (.bin .add .int (.t 30) (i 1)),
 m 4 31])))))) (.seq (.reg 16 [o 2 (.mv tt)]) .ret))))
def YS:List RV:=[(.t 2)]
theorem gI:Bl Tryz.prog Tryz.f41=some (YR,YS):=by kernel_rfl
theorem gJ:Tryz.f41.ntmps=65:=by kernel_rfl
theorem gK:okF Tryz.prog 41:=⟨Tryz.f41,Tryz.func41,by kernel_rfl,by kernel_rfl⟩
def YT:AC:= .seq (.reg 0 [o 1 (.box 1 (.t 0)),o 2 (.mv (i 0))]) (.seq (.seq (.reg 1 [o 6 (.ld 1 false (.t 1)),c 7 40 [.t 6],o 8 (.un .not (.t 7))]) (.cond (.t 8) (.seq (.reg 2 [o 2 (.mv (i
 0))]) .ret) .nop)) (.seq (.reg 3 [o 3 (.alloc [z]),u (.st 1 (.t 3) (i 0))]) (.seq (.seq (.reg 4 [o 9 (.ld 1 false (.t 1)),c 10 71 [.t 9]]) (.block 0 (.rfun (.t 10) [11,12]
 (.seq (.reg 5 [o 4 (.alloc [z,z]),u (.st 2 (.t 4) (.t 11))]) (.reg 6 [o 5 (.alloc [z,z]),u (.st 2 (.t 5) (.t 12))])) (.block 1 (.drw 7 [o 13 (.ld 1 false (.t 3)),o 14 (.ld 1
 false (.t 1)),o 15 (.ia 2 (.t 14) (i 0)),o 16 (.ld 2 true (.t 15)),o 17 (.ld 2 true (.t 4)),o 18 (.ld 2 true (.t 5)),c 19 67 [.t 16,.t 17,.t 18],o 20 (.bin .add .int (.t
 13) (.t 19)),u (.st 1 (.t 3) (.t 20))] [(0,6)]))))) (.seq (.reg 8 [o 21 (.ld 1 false (.t 3)),m 2 21]) .ret))))
def YU:List RV:=[(.t 2)]
theorem gN:Bl Tryz.prog Tryz.f42=some (YT,YU):=by kernel_rfl
theorem gO:Tryz.f42.ntmps=22:=by kernel_rfl
theorem gP:okF Tryz.prog 42:=⟨Tryz.f42,Tryz.func42,by kernel_rfl,by kernel_rfl⟩
def YV:AC:= .seq (.reg 0 [o 2 (.mv (i 0))]) (.seq (.seq (.reg 1 [m 7 0,c 8 41 [.t 7],o 9 (.un .not (.t 8))]) (.cond (.t 9) (.seq (.reg 2 [o 2 (.mv (i 0))]) .ret) .nop)) (.seq (.reg 3 [o 3
 (.mv (i 0))]) (.seq (.seq (.reg 4 [o 4 (.mv (i 0))]) (.block 0 (.loop (.seq (.seq (.reg 5 [m 10 4,m 11 0,o 12 (.len (.t 11)),o 13 (.bin .lss .int (.t 10) (.t 12))]) (.cond (.t
 13) .nop (.exit 0))) (.seq (.block 1 (.seq (.reg 7 [m 16 0,m 17 4,o 18 (.ia 2 (.t 16) (.t 17)),o 19 (.ld 2 true (.t 18)),o 5 (.alloc [z,z]),u (.st 2 (.t 5) (.t 19))]) (.seq
 (.reg 8 [m 20 0,m 21 4,c 22 70 [.t 20,.t 21],o 6 (.alloc [z,z]),u (.st 2 (.t 6) (.t 22))]) (.reg 9 [m 23 3,o 24 (.fa 0 (.t 5)),o 25 (.ld 1 false (.t 24)),o 26 (.fa 1 (.t
 6)),o 27 (.ld 1 false (.t 26)),o 28 (.bin .mul .int (.t 25) (.t 27)),o 29 (.bin .add .int (.t 23) (.t 28)),o 30 (.fa 1 (.t 5)),o 31 (.ld 1 false (.t 30)),o 32 (.fa 0 (.t
 6)),o 33 (.ld 1 false (.t 32)),o 34 (.bin .mul .int (.t 31) (.t 33)),o 35 (.bin .sub .int (.t 29) (.t 34)),m 3 35])))) (.reg 6 [m 14 4,o 15 (.bin .add .int (.t 14) (i 1)),m
 4 15])))))) (.seq (.reg 10 [m 36 3,m 2 36]) .ret))))
def YW:List RV:=[(.t 2)]
theorem gQ:Bl Tryz.prog Tryz.f44=some (YV,YW):=by kernel_rfl
theorem gR:Tryz.f44.ntmps=37:=by kernel_rfl
theorem gS:okF Tryz.prog 44:=⟨Tryz.f44,Tryz.func44,by kernel_rfl,by kernel_rfl⟩
def YX:AC:= .seq (.reg 0 [o 1 (.box 1 (.t 0)),o 2 (.alloc [z]),o 3 (.alloc [z])]) (.seq (.seq (.reg 1 [o 7 (.ld 1 false (.t 1)),c 8 40 [.t 7],o 9 (.un .not (.t 8))]) (.cond (.t 9) (.seq
 (.reg 2 [u (.st 1 (.t 2) (i 0)),u (.st 1 (.t 3) (i 0))]) .ret) .nop)) (.seq (.seq (.reg 3 [o 10 (.ld 1 false (.t 1)),c 11 71 [.t 10]]) (.block 0 (.rfun (.t 11) [12,13] (.seq
 (.reg 4 [o 4 (.alloc [z,z]),u (.st 2 (.t 4) (.t 12))]) (.reg 5 [o 5 (.alloc [z,z]),u (.st 2 (.t 5) (.t 13))])) (.block 1 (.seq (.drw 6 [o 14 (.ld 1 false (.t 1)),o 15 (.ia 2
 (.t 14) (i 0)),o 16 (.ld 2 true (.t 15)),o 17 (.ld 2 true (.t 4)),o 18 (.ld 2 true (.t 5)),c 19 67 [.t 16,.t 17,.t 18],m 6 19] []) (.seq (.drw 7 [o 20 (.ld 1 false (.t
 2)),m 21 6,o 22 (.ld 1 false (.t 1)),o 23 (.ia 2 (.t 22) (i 0)),o 24 (.fa 0 (.t 23)),o 25 (.ld 1 false (.t 24)),o 26 (.fa 0 (.t 4)),o 27 (.ld 1 false (.t 26)),o 28 (.bin
 .add .int (.t 25) (.t 27)),o 29 (.fa 0 (.t 5)),o 30 (.ld 1 false (.t 29)),o 31 (.bin .add .int (.t 28) (.t 30)),o 32 (.bin .mul .int (.t 21) (.t 31)),o 33 (.bin .add .int
 (.t 20) (.t 32)),u (.st 1 (.t 2) (.t 33))] []) (.drw 8 [o 34 (.ld 1 false (.t 3)),m 35 6,o 36 (.ld 1 false (.t 1)),o 37 (.ia 2 (.t 36) (i 0)),o 38 (.fa 1 (.t 37)),o 39 (.ld
 1 false (.t 38)),o 40 (.fa 1 (.t 4)),o 41 (.ld 1 false (.t 40)),o 42 (.bin .add .int (.t 39) (.t 41)),o 43 (.fa 1 (.t 5)),o 44 (.ld 1 false (.t 43)),o 45 (.bin .add .int
 (.t 42) (.t 44)),o 46 (.bin .mul .int (.t 35) (.t 45)),o 47 (.bin .add .int (.t 34) (.t 46)),u (.st 1 (.t 3) (.t 47))] []))))))) (.seq (.drw 9 [o 48 (.ld 1 false (.t 2)),o 49
 (.ld 1 false (.t 3)),u (.st 1 (.t 2) (.t 48)),u (.st 1 (.t 3) (.t 49))] [(1,2)]) .ret)))
def YY:List RV:=[(.c 2 1 false),(.c 3 1 false)]
theorem gT:Bl Tryz.prog Tryz.f46=some (YX,YY):=by kernel_rfl
theorem gU:Tryz.f46.ntmps=50:=by kernel_rfl
theorem gV:okF Tryz.prog 46:=⟨Tryz.f46,Tryz.func46,by kernel_rfl,by kernel_rfl⟩
def YZ:AC:= .seq (.reg 0 [o 2 (.mv (i 0)),o 3 (.mv (i 0))]) (.seq (.seq (.reg 1 [m 9 0,c 10 41 [.t 9],o 11 (.un .not (.t 10))]) (.cond (.t 11) (.seq (.reg 2 [o 2 (.mv (i 0)),o 3 (.mv (i
 0))]) .ret) .nop)) (.seq (.reg 3 [o 4 (.mv (i 0))]) (.seq (.reg 4 [o 5 (.mv (i 0))]) (.seq (.seq (.reg 5 [o 6 (.mv (i 0))]) (.block 0 (.loop (.seq (.seq (.reg 6 [m 12 6,m 13 0,
 o 14 (.len (.t 13)),o 15 (.bin .lss .int (.t 12) (.t 14))]) (.cond (.t 15) .nop (.exit 0))) (.seq (.block 1 (.seq (.reg 8 [m 18 0,m 19 6,o 20 (.ia 2 (.t 18) (.t 19)),o 21
 (.ld 2 true (.t 20)),o 7 (.alloc [z,z]),u (.st 2 (.t 7) (.t 21))]) (.seq (.reg 9 [m 22 0,m 23 6,c 24 70 [.t 22,.t 23],o 8 (.alloc [z,z]),u (.st 2 (.t 8) (.t 24))]) (.seq
 (.reg 10 [m 25 4,o 26 (.fa 0 (.t 7)),o 27 (.ld 1 false (.t 26)),o 28 (.fa 0 (.t 8)),o 29 (.ld 1 false (.t 28)),o 30 (.bin .add .int (.t 27) (.t 29)),o 31 (.fa 0 (.t 7)),o
 32 (.ld 1 false (.t 31)),o 33 (.fa 1 (.t 8)),o 34 (.ld 1 false (.t 33)),o 35 (.bin .mul .int (.t 32) (.t 34)),o 36 (.fa 1 (.t 7)),o 37 (.ld 1 false (.t 36)),o 38 (.fa 0 (.t
 8)),o 39 (.ld 1 false (.t 38)),o 40 (.bin .mul .int (.t 37) (.t 39)),o 41 (.bin .sub .int (.t 35) (.t 40)),o 42 (.bin .mul .int (.t 30) (.t 41)),o 43 (.bin .add .int (.t 25)
 (.t 42)),m 4 43]) (.reg 11 [m 44 5,o 45 (.fa 1 (.t 7)),o 46 (.ld 1 false (.t 45)),o 47 (.fa 1 (.t 8)),o 48 (.ld 1 false (.t 47)),o 49 (.bin .add .int (.t 46) (.t 48)),o 50
 (.fa 0 (.t 7)),o 51 (.ld 1 false (.t 50)),o 52 (.fa 1 (.t 8)),o 53 (.ld 1 false (.t 52)),o 54 (.bin .mul .int (.t 51) (.t 53)),o 55 (.fa 1 (.t 7)),o 56 (.ld 1 false (.t
 55)),o 57 (.fa 0 (.t 8)),o 58 (.ld 1 false (.t 57)),o 59 (.bin .mul .int (.t 56) (.t 58)),o 60 (.bin .sub .int (.t 54) (.t 59)),o 61 (.bin .mul .int (.t 49) (.t 60)),o 62
 (.bin .add .int (.t 44) (.t 61)),m 5 62]))))) (.reg 7 [m 16 6,o 17 (.bin .add .int (.t 16) (i 1)),m 6 17])))))) (.seq (.reg 12 [m 63 4,m 64 5,m 2 63,m 3 64]) .ret)))))
def Y0:List RV:=[(.t 2),(.t 3)]
theorem gW:Bl Tryz.prog Tryz.f47=some (YZ,Y0):=by kernel_rfl
theorem gX:Tryz.f47.ntmps=65:=by kernel_rfl
theorem gY:okF Tryz.prog 47:=⟨Tryz.f47,Tryz.func47,by kernel_rfl,by kernel_rfl⟩
def Y2:AC:= .seq (.reg 0 [o 3 (.box 1 (.t 1)),o 4 (.alloc [z,z,z,z]),o 5 (.alloc [.v (.bool false)])]) (.seq (.seq (.reg 1 [m 12 0,c 13 40 [.t 12],o 14 (.un .not (.t 13)),m 15 14,v 16
 15 (.ld 1 false (.t 3)),v 17 15 (.call 40 [.t 16]),v 18 15 (.un .not (.t 17)),o 19 (.pick (.t 15) tt (.t 18)),m 20 19,v 21 20 (.mv (.t 0)),v 22 20 (.ld 1 false (.t 3)),v
 23 20 (.call 52 [.t 21,.t 22]),o 24 (.pick (.t 20) tt (.t 23))]) (.cond (.t 24) (.seq (.reg 2 [o 25 (.build [z,z,z,z] []),u (.st 4 (.t 4) (.t 25)),u (.st 1 (.t 5) ff)])
 .ret) .nop)) (.seq (.seq (.reg 3 [m 26 0,c 27 71 [.t 26]]) (.block 0 (.rfun (.t 27) [28,29] (.seq (.reg 4 [o 6 (.alloc [z,z]),u (.st 2 (.t 6) (.t 28))]) (.reg 5 [o 7 (.alloc
 [z,z]),u (.st 2 (.t 7) (.t 29))])) (.block 1 (.seq (.reg 6 [o 30 (.ld 1 false (.t 3)),c 31 71 [.t 30]]) (.block 2 (.rfun (.t 31) [32,33] (.seq (.reg 7 [o 8 (.alloc [z,z]),u
 (.st 2 (.t 8) (.t 32))]) (.reg 8 [o 9 (.alloc [z,z]),u (.st 2 (.t 9) (.t 33))])) (.block 3 (.seq (.seq (.reg 9 [o 34 (.ld 2 true (.t 6)),o 35 (.ld 2 true (.t 7)),o 36 (.ld 2
 true (.t 8)),c 37 67 [.t 34,.t 35,.t 36],o 38 (.bin .neq .int (.t 37) (i 0)),m 39 38,v 40 39 (.ld 2 true (.t 6)),v 41 39 (.ld 2 true (.t 7)),v 42 39 (.ld 2 true (.t 9)),
 v 43 39 (.call 67 [.t 40,.t 41,.t 42]),v 44 39 (.bin .neq .int (.t 43) (i 0)),o 45 (.pick (.t 39) tt (.t 44))]) (.cond (.t 45) (.exit 3) .nop)) (.seq (.reg 10 [o 47 (.ld 2
 true (.t 6)),o 48 (.ld 2 true (.t 7)),o 49 (.ld 2 true (.t 8)),o 50 (.ld 2 true (.t 9)),c 51 72 [.t 47,.t 48,.t 49,.t 50],m 46 51,o 52 (.ext (.t 46) 0),o 53 (.ext (.t
 46) 1),o 10 (.alloc [z,z]),o 11 (.alloc [z,z]),u (.st 2 (.t 10) (.t 52)),u (.st 2 (.t 11) (.t 53))]) (.seq (.seq (.reg 11 [o 54 (.ld 2 true (.t 10)),o 55 (.ld 2 true (.t
 11)),o 56 (.bin .eql (.cells [true,true]) (.t 54) (.t 55)),m 57 56,v 58 57 (.ld 2 true (.t 10)),v 59 57 (.ld 2 true (.t 11)),v 60 57 (.call 73 [.t 58,.t 59]),v 61 57
 (.bin .gtr .int (.t 60) (i 0)),o 62 (.pick (.t 57) tt (.t 61))]) (.cond (.t 62) (.exit 3) .nop)) (.seq (.seq (.reg 12 [o 63 (.ld 2 true (.t 6)),o 64 (.ld 2 true (.t 7)),c 65
 73 [.t 63,.t 64],o 66 (.bin .gtr .int (.t 65) (i 0))]) (.cond (.t 66) (.reg 13 [o 67 (.ld 2 true (.t 11)),o 68 (.ld 2 true (.t 10)),u (.st 2 (.t 10) (.t 67)),u (.st 2 (.t
 11) (.t 68))]) .nop)) (.seq (.reg 14 [o 69 (.ld 2 true (.t 10)),o 70 (.ld 2 true (.t 11)),o 71 (.build [z,z,z,z] [(0,2,.t 69),(2,2,.t 70)]),u (.st 4 (.t 4) (.t 71)),u
 (.st 1 (.t 5) tt)]) .ret))))))))))))) (.seq (.reg 15 [o 72 (.build [z,z,z,z] []),u (.st 4 (.t 4) (.t 72)),u (.st 1 (.t 5) ff)]) .ret)))
def Y3:List RV:=[(.c 4 4 true),(.c 5 1 false)]
theorem gZ:Bl Tryz.prog Tryz.f49=some (Y2,Y3):=by kernel_rfl
theorem hH:Tryz.f49.ntmps=73:=by kernel_rfl
theorem iA:okF Tryz.prog 49:=⟨Tryz.f49,Tryz.func49,by kernel_rfl,by kernel_rfl⟩
def Y4:AC:= .seq (.reg 0 [o 4 (.alloc [z,z,z,z]),o 5 (.mv ff)]) (.seq (.seq (.reg 1 [m 13 0,c 14 41 [.t 13],o 15 (.un .not (.t 14)),m 16 15,v 17 16 (.mv (.t 1)),v 18 16 (.call 41 [.t
 17]),v 19 16 (.un .not (.t 18)),o 20 (.pick (.t 16) tt (.t 19)),m 21 20,v 22 21 (.mv (.t 0)),v 23 21 (.mv (.t 1)),v 24 21 (.call 53 [.t 22,.t 23]),o 25 (.pick (.t 21) tt
 (.t 24))]) (.cond (.t 25) (.seq (.reg 2 [o 26 (.build [z,z,z,z] []),u (.st 4 (.t 4) (.t 26)),o 5 (.mv ff)]) .ret) .nop)) (.seq (.reg 3 [o 6 (.mv (.k (.sl 0 true [] [])))])
 (.seq (.seq (.reg 4 [o 7 (.mv (i 0))]) (.block 0 (.loop (.seq (.seq (.reg 5 [m 27 7,o 28 (.bin .leq .int (.t 27) (i 40))]) (.cond (.t 28) .nop (.exit 0))) (.seq (.block 1 (.seq
 (.reg 7 [o 8 (.mv (i 0))]) (.block 2 (.loop (.seq (.seq (.reg 8 [m 31 8,o 32 (.bin .leq .int (.t 31) (i 40))]) (.cond (.t 32) .nop (.exit 2))) (.seq (.block 3 (.seq (.reg 10 [m
 35 7,m 36 8,o 37 (.build [z,z] [(0,1,.t 35),(1,1,.t 36)]),o 9 (.alloc [z,z]),u (.st 2 (.t 9) (.t 37))]) (.seq (.reg 11 [m 38 0,o 39 (.ld 2 true (.t 9)),c 40 74 [.t
 38,.t 39],o 41 (.bin .eql .int (.t 40) (i 0)),m 42 41,w 43 42 (.mv (.t 1)),w 44 42 (.ld 2 true (.t 9)),w 45 42 (.call 74 [.t 43,.t 44]),w 46 42 (.bin .eql .int (.t 45) (i
 0)),o 47 (.pick (.t 42) (.t 46) ff)]) (.cond (.t 47) (.reg 12 [m 48 6,o 49 (.ld 2 true (.t 9)),o 50 (.bsl 2 1 [z,z] [(0,.t 49)]),o 51 (.app 2 16 [z,z] (.t 48) (.t 50)),m
 6 51]) .nop)))) (.reg 9 [m 33 8,o 34 (.bin .add .int (.t 33) (i 1)),m 8 34]))))))) (.reg 6 [m 29 7,o 30 (.bin .add .int (.t 29) (i 1)),m 7 30])))))) (.seq (.seq (.reg 13 [m
 52 6,o 53 (.len (.t 52)),o 54 (.bin .lss .int (.t 53) (i 2))]) (.cond (.t 54) (.seq (.reg 14 [o 55 (.build [z,z,z,z] []),u (.st 4 (.t 4) (.t 55)),o 5 (.mv ff)]) .ret)
 .nop)) (.seq (.reg 15 [m 56 6,o 57 (.ia 2 (.t 56) (i 0)),o 58 (.ld 2 true (.t 57)),o 10 (.alloc [z,z]),u (.st 2 (.t 10) (.t 58))]) (.seq (.reg 16 [m 59 6,m 60 6,o 61 (.len
 (.t 60)),o 62 (.bin .sub .int (.t 61) (i 1)),o 63 (.ia 2 (.t 59) (.t 62)),o 64 (.ld 2 true (.t 63)),o 11 (.alloc [z,z]),u (.st 2 (.t 11) (.t 64))]) (.seq (.seq (.reg 17 [o
 12 (.mv (i 0))]) (.block 4 (.loop (.seq (.seq (.reg 18 [m 65 12,m 66 0,o 67 (.len (.t 66)),o 68 (.bin .lss .int (.t 65) (.t 67))]) (.cond (.t 68) .nop (.exit 4))) (.seq
 (.block 5 (.seq (.drw 20 [o 71 (.ld 2 true (.t 10)),o 72 (.ld 2 true (.t 11)),m 73 0,m 74 12,o 75 (.ia 2 (.t 73) (.t 74)),o 76 (.ld 2 true (.t 75)),c 77 69 [.t 71,.t 72,
 .t 76],o 78 (.bin .lss .int (.t 77) (i 0))] []) (.cond (.t 78) (.seq (.reg 21 [o 79 (.ld 2 true (.t 11)),o 80 (.ld 2 true (.t 10)),o 81 (.build [z,z,z,z] [(0,2,.t 79),
 (2,2,.t 80)]),u (.st 4 (.t 4) (.t 81)),o 5 (.mv tt)]) .ret) .nop))) (.reg 19 [m 69 12,o 70 (.bin .add .int (.t 69) (i 1)),m 12 70])))))) (.seq (.reg 22 [o 82 (.ld 2 true
 (.t 10)),o 83 (.ld 2 true (.t 11)),o 84 (.build [z,z,z,z] [(0,2,.t 82),(2,2,.t 83)]),u (.st 4 (.t 4) (.t 84)),o 5 (.mv tt)]) .ret))))))))
def Y5:List RV:=[(.c 4 4 true),(.t 5)]
theorem iB:Bl Tryz.prog Tryz.f51=some (Y4,Y5):=by kernel_rfl
theorem iC:Tryz.f51.ntmps=85:=by kernel_rfl
theorem iD:okF Tryz.prog 51:=⟨Tryz.f51,Tryz.func51,by kernel_rfl,by kernel_rfl⟩
def Y6:AC:= .seq (.reg 0 [o 4 (.mv ff)]) (.seq (.reg 1 [m 9 0,m 10 1,c 11 75 [.t 9,.t 10],m 8 11,o 12 (.ext (.t 8) 0),o 13 (.ext (.t 8) 1),o 14 (.ext (.t 8) 2),m 5 12,m 6 13,m 7 14])
 (.seq (.reg 2 [m 15 0,c 16 40 [.t 15],m 17 16,w 18 17 (.mv (.t 1)),w 19 17 (.call 40 [.t 18]),o 20 (.pick (.t 17) (.t 19) ff),m 21 20,w 22 21 (.mv (.t 7)),w 23 21 (.un
 .not (.t 22)),o 24 (.pick (.t 21) (.t 23) ff),m 4 24]) .ret))
def Y7:List RV:=[(.t 4)]
theorem iE:Bl Tryz.prog Tryz.f52=some (Y6,Y7):=by kernel_rfl
theorem iF:Tryz.f52.ntmps=25:=by kernel_rfl
theorem iG:okF Tryz.prog 52:=⟨Tryz.f52,Tryz.func52,by kernel_rfl,by kernel_rfl⟩
def Y8:AC:= .seq (.reg 0 [o 4 (.mv ff)]) (.seq (.seq (.reg 1 [m 18 0,c 19 41 [.t 18],o 20 (.un .not (.t 19)),m 21 20,v 22 21 (.mv (.t 1)),v 23 21 (.call 41 [.t 22]),v 24 21 (.un .not (.t
 23)),o 25 (.pick (.t 21) tt (.t 24))]) (.cond (.t 25) (.seq (.reg 2 [o 4 (.mv ff)]) .ret) .nop)) (.seq (.reg 3 [m 26 0,c 27 76 [.t 26],m 28 1,c 29 76 [.t 28],o 30 (.app 3 24
 [z,z,z] (.t 27) (.t 29)),m 5 30]) (.seq (.reg 4 [o 6 (.mv (.k (.sl 0 true [] [])))]) (.seq (.seq (.reg 5 [o 7 (.mv (i 0))]) (.block 0 (.loop (.seq (.seq (.reg 6 [m 31 7,m 32
 5,o 33 (.len (.t 32)),o 34 (.bin .lss .int (.t 31) (.t 33))]) (.cond (.t 34) .nop (.exit 0))) (.seq (.block 1 (.seq (.reg 8 [m 37 7,o 38 (.bin .add .int (.t 37) (i 1)),m 8
 38]) (.block 2 (.loop (.seq (.seq (.reg 9 [m 39 8,m 40 5,o 41 (.len (.t 40)),o 42 (.bin .lss .int (.t 39) (.t 41))]) (.cond (.t 42) .nop (.exit 2))) (.seq (.block 3 (.seq
 (.drw 11 [m 45 5,m 46 7,o 47 (.ia 3 (.t 45) (.t 46)),o 48 (.fa 1 (.t 47)),o 49 (.ld 1 false (.t 48)),m 50 5,m 51 8,o 52 (.ia 3 (.t 50) (.t 51)),o 53 (.fa 2 (.t 52)),o 54
 (.ld 1 false (.t 53)),o 55 (.bin .mul .int (.t 49) (.t 54)),m 56 5,m 57 8,o 58 (.ia 3 (.t 56) (.t 57)),o 59 (.fa 1 (.t 58)),o 60 (.ld 1 false (.t 59)),m 61 5,m 62 7,o 63
 (.ia 3 (.t 61) (.t 62)),o 64 (.fa 2 (.t 63)),o 65 (.ld 1 false (.t 64)),o 66 (.bin .mul .int (.t 60) (.t 65)),o 67 (.bin .sub .int (.t 55) (.t 66)),m 68 5,m 69 7,o 70 (.ia
 3 (.t 68) (.t 69)),o 71 (.fa 2 (.t 70)),o 72 (.ld 1 false (.t 71)),m 73 5,m 74 8,o 75 (.ia 3 (.t 73) (.t 74)),o 76 (.fa 0 (.t 75)),o 77 (.ld 1 false (.t 76)),o 78 (.bin
 .mul .int (.t 72) (.t 77)),m 79 5,m 80 8,o 81 (.ia 3 (.t 79) (.t 80)),o 82 (.fa 2 (.t 81)),o 83 (.ld 1 false (.t 82)),m 84 5,m 85 7,o 86 (.ia 3 (.t 84) (.t 85)),o 87
 (.fa 0 (.t 86)),o 88 (.ld 1 false (.t 87)),o 89 (.bin .mul .int (.t 83) (.t 88)),o 90 (.bin .sub .int (.t 78) (.t 89)),m 91 5,m 92 7,o 93 (.ia 3 (.t 91) (.t 92)),o 94 (.fa
 0 (.t 93)),o 95 (.ld 1 false (.t 94)),m 96 5,m 97 8,o 98 (.ia 3 (.t 96) (.t 97)),o 99 (.fa 1 (.t 98)),o 100 (.ld 1 false (.t 99)),o 101 (.bin .mul .int (.t 95) (.t 100)),
 m 102 5,m 103 8,o 104 (.ia 3 (.t 102) (.t 103)),o 105 (.fa 0 (.t 104)),o 106 (.ld 1 false (.t 105)),m 107 5,m 108 7,o 109 (.ia 3 (.t 107) (.t 108)),o 110 (.fa 1 (.t
 109)),o 111 (.ld 1 false (.t 110)),o 112 (.bin .mul .int (.t 106) (.t 111)),o 113 (.bin .sub .int (.t 101) (.t 112)),o 114 (.build [z,z,z] [(0,1,.t 67),(1,1,.t 90),
 (2,1,.t 113)]),o 9 (.alloc [z,z,z]),u (.st 3 (.t 9) (.t 114))] [(2,70),(4,70),(7,70),(9,70),(13,70),(15,70),(18,70),(20,70),(25,70),(27,70),(30,70),
 (32,70),(36,70),(38,70),(41,70),(43,70),(48,70),(50,70),(53,70),(55,70),(59,70),(61,70),(64,70),(66,70)]) (.seq (.seq (.reg 12 [o 115 (.fa 2 (.t 9)),o
 116 (.ld 1 false (.t 115)),o 117 (.bin .eql .int (.t 116) (i 0))]) (.cond (.t 117) (.exit 3) .nop)) (.seq (.seq (.reg 13 [o 118 (.fa 2 (.t 9)),o 119 (.ld 1 false (.t 118)),o
 120 (.bin .lss .int (.t 119) (i 0))]) (.cond (.t 120) (.reg 14 [o 121 (.fa 0 (.t 9)),o 122 (.ld 1 false (.t 121)),o 123 (.un .neg (.t 122)),o 124 (.fa 1 (.t 9)),o 125 (.ld 1
 false (.t 124)),o 126 (.un .neg (.t 125)),o 127 (.fa 2 (.t 9)),o 128 (.ld 1 false (.t 127)),o 129 (.un .neg (.t 128)),o 130 (.build [z,z,z] [(0,1,.t 123),(1,1,.t
 126),(2,1,.t 129)]),u (.st 3 (.t 9) (.t 130))]) .nop)) (.seq (.reg 15 [o 10 (.mv tt)]) (.seq (.seq (.reg 16 [o 11 (.mv (i 0))]) (.block 4 (.loop (.seq (.seq (.reg 17 [m 131
 11,m 132 5,o 133 (.len (.t 132)),o 134 (.bin .lss .int (.t 131) (.t 133))]) (.cond (.t 134) .nop (.exit 4))) (.seq (.block 5 (.drw 19 [m 137 10,m 138 137,w 139 138 (.mv (.t
 5)),w 140 138 (.mv (.t 11)),w 141 138 (.ia 3 (.t 139) (.t 140)),w 142 138 (.fa 0 (.t 141)),w 143 138 (.ld 1 false (.t 142)),w 144 138 (.fa 0 (.t 9)),w 145 138 (.ld 1 false
 (.t 144)),w 146 138 (.bin .mul .int (.t 143) (.t 145)),w 147 138 (.mv (.t 5)),w 148 138 (.mv (.t 11)),w 149 138 (.ia 3 (.t 147) (.t 148)),w 150 138 (.fa 1 (.t 149)),w 151
 138 (.ld 1 false (.t 150)),w 152 138 (.fa 1 (.t 9)),w 153 138 (.ld 1 false (.t 152)),w 154 138 (.bin .mul .int (.t 151) (.t 153)),w 155 138 (.bin .add .int (.t 146) (.t
 154)),w 156 138 (.mv (.t 5)),w 157 138 (.mv (.t 11)),w 158 138 (.ia 3 (.t 156) (.t 157)),w 159 138 (.fa 2 (.t 158)),w 160 138 (.ld 1 false (.t 159)),w 161 138 (.fa 2 (.t
 9)),w 162 138 (.ld 1 false (.t 161)),w 163 138 (.bin .mul .int (.t 160) (.t 162)),w 164 138 (.bin .add .int (.t 155) (.t 163)),w 165 138 (.bin .geq .int (.t 164) (i 0)),o
 166 (.pick (.t 138) (.t 165) ff),m 10 166] [])) (.reg 18 [m 135 11,o 136 (.bin .add .int (.t 135) (i 1)),m 11 136])))))) (.seq (.reg 20 [m 167 10]) (.cond (.t 167) (.reg 21 [m
 168 6,o 169 (.ld 3 true (.t 9)),o 170 (.bsl 3 1 [z,z,z] [(0,.t 169)]),o 171 (.app 3 24 [z,z,z] (.t 168) (.t 170)),m 6 171]) .nop)))))))) (.reg 10 [m 43 8,o 44 (.bin
 .add .int (.t 43) (i 1)),m 8 44]))))))) (.reg 7 [m 35 7,o 36 (.bin .add .int (.t 35) (i 1)),m 7 36])))))) (.seq (.seq (.reg 22 [o 12 (.mv (i 0))]) (.block 6 (.loop (.seq (.seq
 (.reg 23 [m 172 12,m 173 6,o 174 (.len (.t 173)),o 175 (.bin .lss .int (.t 172) (.t 174))]) (.cond (.t 175) .nop (.exit 6))) (.seq (.block 7 (.seq (.reg 25 [o 13 (.mv (i 0))])
 (.block 8 (.loop (.seq (.seq (.reg 26 [m 178 13,m 179 12,o 180 (.bin .lss .int (.t 178) (.t 179))]) (.cond (.t 180) .nop (.exit 8))) (.seq (.block 9 (.seq (.reg 28 [o 14 (.mv
 (i 0))]) (.block 10 (.loop (.seq (.seq (.reg 29 [m 183 14,m 184 13,o 185 (.bin .lss .int (.t 183) (.t 184))]) (.cond (.t 185) .nop (.exit 10))) (.seq (.block 11 (.seq (.reg 31
 [m 188 6,m 189 12,o 190 (.ia 3 (.t 188) (.t 189)),o 191 (.ld 3 true (.t 190)),o 15 (.alloc [z,z,z]),u (.st 3 (.t 15) (.t 191))]) (.seq (.reg 32 [m 192 6,m 193 13,o 194
 (.ia 3 (.t 192) (.t 193)),o 195 (.ld 3 true (.t 194)),o 16 (.alloc [z,z,z]),u (.st 3 (.t 16) (.t 195))]) (.seq (.reg 33 [m 196 6,m 197 14,o 198 (.ia 3 (.t 196) (.t 197)),
 o 199 (.ld 3 true (.t 198)),o 17 (.alloc [z,z,z]),u (.st 3 (.t 17) (.t 199))]) (.seq (.reg 34 [o 200 (.fa 0 (.t 15)),o 201 (.ld 1 false (.t 200)),o 202 (.fa 1 (.t 16)),o
 203 (.ld 1 false (.t 202)),o 204 (.fa 2 (.t 17)),o 205 (.ld 1 false (.t 204)),o 206 (.bin .mul .int (.t 203) (.t 205)),o 207 (.fa 2 (.t 16)),o 208 (.ld 1 false (.t 207)),o
 209 (.fa 1 (.t 17)),o 210 (.ld 1 false (.t 209)),o 211 (.bin .mul .int (.t 208) (.t 210)),o 212 (.bin .sub .int (.t 206) (.t 211)),o 213 (.bin .mul .int (.t 201) (.t 212)),o
 214 (.fa 1 (.t 15)),o 215 (.ld 1 false (.t 214)),o 216 (.fa 0 (.t 16)),o 217 (.ld 1 false (.t 216)),o 218 (.fa 2 (.t 17)),o 219 (.ld 1 false (.t 218)),o 220 (.bin .mul .int
 (.t 217) (.t 219)),o 221 (.fa 2 (.t 16)),o 222 (.ld 1 false (.t 221)),o 223 (.fa 0 (.t 17)),o 224 (.ld 1 false (.t 223)),o 225 (.bin .mul .int (.t 222) (.t 224)),o 226
 (.bin .sub .int (.t 220) (.t 225)),o 227 (.bin .mul .int (.t 215) (.t 226)),o 228 (.bin .sub .int (.t 213) (.t 227)),o 229 (.fa 2 (.t 15)),o 230 (.ld 1 false (.t 229)),o 231
 (.fa 0 (.t 16)),o 232 (.ld 1 false (.t 231)),o 233 (.fa 1 (.t 17)),o 234 (.ld 1 false (.t 233)),o 235 (.bin .mul .int (.t 232) (.t 234)),o 236 (.fa 1 (.t 16)),o 237 (.ld 1
 false (.t 236)),o 238 (.fa 0 (.t 17)),o 239 (.ld 1 false (.t 238)),o 240 (.bin .mul .int (.t 237) (.t 239)),o 241 (.bin .sub .int (.t 235) (.t 240)),o 242 (.bin .mul .int
 (.t 230) (.t 241)),o 243 (.bin .add .int (.t 228) (.t 242)),o 244 (.bin .neq .int (.t 243) (i 0))]) (.cond (.t 244) (.seq (.reg 35 [o 4 (.mv tt)]) .ret) .nop)))))) (.reg 30 [m
 186 14,o 187 (.bin .add .int (.t 186) (i 1)),m 14 187]))))))) (.reg 27 [m 181 13,o 182 (.bin .add .int (.t 181) (i 1)),m 13 182]))))))) (.reg 24 [m 176 12,o 177 (.bin .add
 .int (.t 176) (i 1)),m 12 177])))))) (.seq (.reg 36 [o 4 (.mv ff)]) .ret))))))
def Y9:List RV:=[(.t 4)]
theorem iH:Bl Tryz.prog Tryz.f53=some (Y8,Y9):=by kernel_rfl
theorem iI:Tryz.f53.ntmps=245:=by kernel_rfl
theorem iJ:okF Tryz.prog 53:=⟨Tryz.f53,Tryz.func53,by kernel_rfl,by kernel_rfl⟩
def Za:AC:= .seq (.reg 0 [o 6 (.mv (.k (.sl 0 true [] []))),o 7 (.mv (i 0))]) (.seq (.seq (.reg 1 [m 10 0,c 11 40 [.t 10],o 12 (.un .not (.t 11)),m 13 12,v 14 13 (.mv (.t 1)),v 15 13
 (.mv (.t 2)),v 16 13 (.mm true [.t 14,.t 15]),v 17 13 (.bin .gtr .int (.t 16) (i 40)),o 18 (.pick (.t 13) tt (.t 17)),m 19 18,v 20 19 (.mv (.t 1)),v 21 19 (.mv (.t 2)),v
 22 19 (.mm false [.t 20,.t 21]),v 23 19 (.bin .lss .int (.t 22) (i (-40))),o 24 (.pick (.t 19) tt (.t 23))]) (.cond (.t 24) (.seq (.reg 2 [o 6 (.mv (.k (.sl 0 true [] []))),o
 7 (.mv (i 70))]) .ret) .nop)) (.seq (.reg 3 [m 25 0,c 26 77 [.t 25],m 8 26]) (.seq (.seq (.reg 4 [m 27 8,o 28 (.len (.t 27)),o 29 (.mv (i 0))]) (.block 0 (.loop (.seq (.reg 5
 [o 30 (.bin .lss .int (.t 29) (.t 28))]) (.seq (.cond (.t 30) .nop (.exit 0)) (.seq (.block 1 (.seq (.reg 6 [m 31 29,m 9 31]) (.seq (.reg 7 [m 32 8,m 33 9,o 34 (.ia 2 (.t 32)
 (.t 33)),o 35 (.fa 0 (.t 34)),o 36 (.ld 1 false (.t 35)),m 37 1,o 38 (.bin .add .int (.t 36) (.t 37)),o 39 (.ia 2 (.t 32) (.t 33)),o 40 (.fa 0 (.t 39)),u (.st 1 (.t 40)
 (.t 38))]) (.reg 8 [m 41 8,m 42 9,o 43 (.ia 2 (.t 41) (.t 42)),o 44 (.fa 1 (.t 43)),o 45 (.ld 1 false (.t 44)),m 46 2,o 47 (.bin .add .int (.t 45) (.t 46)),o 48 (.ia 2 (.t
 41) (.t 42)),o 49 (.fa 1 (.t 48)),u (.st 1 (.t 49) (.t 47))])))) (.reg 9 [o 50 (.bin .add .int (.t 29) (i 1)),m 29 50]))))))) (.seq (.seq (.reg 10 [m 51 8,c 52 65 [.t 51,.k
 (.clo (.func 66) [] [])]]) (.cond (.t 52) (.seq (.reg 11 [o 6 (.mv (.k (.sl 0 true [] []))),o 7 (.mv (i 70))]) .ret) .nop)) (.seq (.reg 12 [m 53 8,m 6 53,o 7 (.mv (i 0))])
 .ret)))))
def Zb:List RV:=[(.t 6),(.t 7)]
theorem iK:Bl Tryz.prog Tryz.f54=some (Za,Zb):=by kernel_rfl
theorem iL:Tryz.f54.ntmps=54:=by kernel_rfl
theorem iM:okF Tryz.prog 54:=⟨Tryz.f54,Tryz.func54,by kernel_rfl,by kernel_rfl⟩
def Zc:AC:= .seq (.reg 0 [o 6 (.mv (.k (.sl 0 true [] []))),o 7 (.mv (i 0))]) (.seq (.seq (.reg 1 [m 10 0,c 11 41 [.t 10],o 12 (.un .not (.t 11)),m 13 12,v 14 13 (.mv (.t 1)),v 15 13
 (.bin .lss .int (.t 14) (i (-40))),o 16 (.pick (.t 13) tt (.t 15)),m 17 16,v 18 17 (.mv (.t 1)),v 19 17 (.bin .gtr .int (.t 18) (i 40)),o 20 (.pick (.t 17) tt (.t 19)),m 21
 20,v 22 21 (.mv (.t 2)),v 23 21 (.bin .lss .int (.t 22) (i (-40))),o 24 (.pick (.t 21) tt (.t 23)),m 25 24,v 26 25 (.mv (.t 2)),v 27 25 (.bin .gtr .int (.t 26) (i 40)),o
 28 (.pick (.t 25) tt (.t 27))]) (.cond (.t 28) (.seq (.reg 2 [o 6 (.mv (.k (.sl 0 true [] []))),o 7 (.mv (i 70))]) .ret) .nop)) (.seq (.reg 3 [o 8 (.mv (.k (.sl 0 true []
 [])))]) (.seq (.seq (.reg 4 [o 9 (.mv (i 0))]) (.block 0 (.loop (.seq (.seq (.reg 5 [m 29 9,m 30 0,o 31 (.len (.t 30)),o 32 (.bin .lss .int (.t 29) (.t 31))]) (.cond (.t 32)
 .nop (.exit 0))) (.seq (.block 1 (.drw 7 [m 35 8,m 36 0,m 37 9,o 38 (.ia 2 (.t 36) (.t 37)),o 39 (.fa 0 (.t 38)),o 40 (.ld 1 false (.t 39)),m 41 1,o 42 (.bin .add .int (.t
 40) (.t 41)),m 43 0,m 44 9,o 45 (.ia 2 (.t 43) (.t 44)),o 46 (.fa 1 (.t 45)),o 47 (.ld 1 false (.t 46)),m 48 2,o 49 (.bin .add .int (.t 47) (.t 48)),o 50 (.build [z,z]
 [(0,1,.t 42),(1,1,.t 49)]),o 51 (.bsl 2 1 [z,z] [(0,.t 50)]),o 52 (.app 2 16 [z,z] (.t 35) (.t 51)),m 8 52] [])) (.reg 6 [m 33 9,o 34 (.bin .add .int (.t 33) (i 1)),
 m 9 34])))))) (.seq (.seq (.reg 8 [m 53 8,c 54 41 [.t 53],o 55 (.un .not (.t 54))]) (.cond (.t 55) (.seq (.reg 9 [o 6 (.mv (.k (.sl 0 true [] []))),o 7 (.mv (i 70))]) .ret)
 .nop)) (.seq (.reg 10 [m 56 8,m 6 56,o 7 (.mv (i 0))]) .ret)))))
def Zd:List RV:=[(.t 6),(.t 7)]
theorem iN:Bl Tryz.prog Tryz.f55=some (Zc,Zd):=by kernel_rfl
theorem iO:Tryz.f55.ntmps=57:=by kernel_rfl
theorem iP:okF Tryz.prog 55:=⟨Tryz.f55,Tryz.func55,by kernel_rfl,by kernel_rfl⟩
def Ze:AC:= .seq (.reg 0 [o 4 (.mv (i 0))]) (.seq (.seq (.reg 1 [m 5 0,o 6 (.bin .lss .int (.t 5) (i 0))]) (.cond (.t 6) (.reg 2 [m 7 0,o 8 (.bin .add .int (.t 7) (i 1)),o 9 (.un .neg (.t
 8)),m 0 9]) .nop)) (.seq (.reg 3 [m 10 0,m 11 1,o 12 (.bin .rem .int (.t 10) (.t 11)),m 4 12]) .ret))
def Zf:List RV:=[(.t 4)]
theorem iQ:Bl Tryz.prog Tryz.f62=some (Ze,Zf):=by kernel_rfl
theorem iR:Tryz.f62.ntmps=13:=by kernel_rfl
theorem iS:okF Tryz.prog 62:=⟨Tryz.f62,Tryz.func62,by kernel_rfl,by kernel_rfl⟩
def Zg:AC:= .seq (.reg 0 [o 6 (.mv (.k (.sl 0 true [] [])))]) (.seq (.reg 1 [m 12 1,o 13 (.build [z,z] [(0,1,.t 12),(1,1,i 10)]),m 14 2,o 15 (.build [z,z] [(0,1,.t 14),(1,1,i
 10)]),m 16 1,o 17 (.build [z,z] [(0,1,.t 16),(1,1,i 20)]),o 18 (.bsl 2 3 [z,z] [(0,.t 13),(1,.t 15),(2,.t 17)]),m 7 18]) (.seq (.reg 2 [o 8 (.mv (.k (.sl 0 true
 [] [])))]) (.seq (.seq (.reg 3 [o 9 (.mv (i 0))]) (.block 0 (.loop (.seq (.seq (.reg 4 [m 19 9,m 20 0,o 21 (.len (.t 20)),o 22 (.bin .lss .int (.t 19) (.t 21)),m 23 22,w 24
 23 (.mv (.t 9)),w 25 23 (.bin .lss .int (.t 24) (i 8)),o 26 (.pick (.t 23) (.t 25) ff)]) (.cond (.t 26) .nop (.exit 0))) (.seq (.block 1 (.drw 6 [m 29 8,m 30 1,m 31 0,m 32
 9,o 33 (.ia 2 (.t 31) (.t 32)),o 34 (.iaA 2 1 (.t 33) (i 0)),o 35 (.ld 1 false (.t 34)),m 36 2,m 37 1,o 38 (.bin .sub .int (.t 36) (.t 37)),o 39 (.bin .add .int (.t 38) (i
 1)),c 40 62 [.t 35,.t 39],o 41 (.bin .add .int (.t 30) (.t 40)),m 42 0,m 43 9,o 44 (.ia 2 (.t 42) (.t 43)),o 45 (.iaA 2 1 (.t 44) (i 1)),o 46 (.ld 1 false (.t 45)),c 47
 62 [.t 46,i 41],o 48 (.build [z,z] [(0,1,.t 41),(1,1,.t 47)]),o 49 (.bsl 2 1 [z,z] [(0,.t 48)]),o 50 (.app 2 16 [z,z] (.t 29) (.t 49)),m 8 50] [(11,15),(11,
 17)])) (.reg 5 [m 27 9,o 28 (.bin .add .int (.t 27) (i 1)),m 9 28])))))) (.seq (.seq (.reg 7 [m 51 8,o 52 (.len (.t 51)),o 53 (.bin .gtr .int (.t 52) (i 0))]) (.cond (.t 53)
 (.seq (.reg 8 [m 54 8,c 55 82 [.t 54],m 10 55]) (.seq (.reg 9 [m 56 10,o 57 (.len (.t 56)),o 58 (.bin .geq .int (.t 57) (i 3))]) (.cond (.t 58) (.reg 10 [m 59 10,m 7 59])
 .nop))) .nop)) (.seq (.reg 11 [o 11 (.mv (i 0))]) (.seq (.seq (.reg 12 [m 60 0,o 61 (.len (.t 60)),o 62 (.bin .gtr .int (.t 61) (i 0))]) (.cond (.t 62) (.reg 13 [m 63 0,o 64
 (.ia 2 (.t 63) (i 0)),o 65 (.iaA 2 1 (.t 64) (i 0)),o 66 (.ld 1 false (.t 65)),o 67 (.bin .quo .int (.t 66) (i 41)),m 68 7,o 69 (.len (.t 68)),c 70 62 [.t 67,.t 69],m 11
 70]) .nop)) (.seq (.drw 14 [o 71 (.bsl 2 0 [z,z] []),m 72 7,m 73 11,o 74 (.slc 2 (.t 72) (some (.t 73)) none none),o 75 (.app 2 16 [z,z] (.t 71) (.t 74)),m 76 7,m 77 11,
 o 78 (.slc 2 (.t 76) none (some (.t 77)) none),o 79 (.app 2 16 [z,z] (.t 75) (.t 78)),m 6 79] [(0,3),(0,7),(3,7),(4,7)]) .ret)))))))
def Zh:List RV:=[(.t 6)]
theorem iT:Bl Tryz.prog Tryz.f63=some (Zg,Zh):=by kernel_rfl
theorem iU:Tryz.f63.ntmps=80:=by kernel_rfl
theorem iV:okF Tryz.prog 63:=⟨Tryz.f63,Tryz.func63,by kernel_rfl,by kernel_rfl⟩
def Zi:AC:= .seq (.reg 0 [o 6 (.mv (.k (.sl 0 true [] []))),o 7 (.mv (.k (.sl 0 true [] []))),o 8 (.mv (i 0))]) (.seq (.seq (.reg 1 [m 11 0,c 12 41 [.t 11],o 13 (.un .not (.t 12)),m 14
 13,v 15 14 (.mv (.t 1)),v 16 14 (.bin .lss .int (.t 15) (i 0)),o 17 (.pick (.t 14) tt (.t 16)),m 18 17,v 19 18 (.mv (.t 1)),v 20 18 (.mv (.t 0)),v 21 18 (.len (.t 20)),v
 22 18 (.bin .geq .int (.t 19) (.t 21)),o 23 (.pick (.t 18) tt (.t 22)),m 24 23,v 25 24 (.mv (.t 2)),v 26 24 (.bin .lss .int (.t 25) (i 0)),o 27 (.pick (.t 24) tt (.t 26)),m
 28 27,v 29 28 (.mv (.t 2)),v 30 28 (.mv (.t 0)),v 31 28 (.len (.t 30)),v 32 28 (.bin .geq .int (.t 29) (.t 31)),o 33 (.pick (.t 28) tt (.t 32))]) (.cond (.t 33) (.seq (.reg
 2 [o 6 (.mv (.k (.sl 0 true [] []))),o 7 (.mv (.k (.sl 0 true [] []))),o 8 (.mv (i 70))]) .ret) .nop)) (.seq (.reg 3 [m 34 0,m 35 1,m 36 2,c 37 83 [.t 34,.t 35,.t 36],m 9
 37]) (.seq (.reg 4 [m 38 0,m 39 2,m 40 1,c 41 83 [.t 38,.t 39,.t 40],m 10 41]) (.seq (.seq (.reg 5 [m 42 9,o 43 (.len (.t 42)),o 44 (.bin .lss .int (.t 43) (i 3)),m 45
 44,v 46 45 (.mv (.t 10)),v 47 45 (.len (.t 46)),v 48 45 (.bin .lss .int (.t 47) (i 3)),o 49 (.pick (.t 45) tt (.t 48))]) (.cond (.t 49) (.seq (.reg 6 [o 6 (.mv (.k (.sl 0
 true [] []))),o 7 (.mv (.k (.sl 0 true [] []))),o 8 (.mv (i 70))]) .ret) .nop)) (.seq (.reg 7 [m 50 9,m 51 10,m 6 50,m 7 51,o 8 (.mv (i 0))]) .ret)))))
def Zj:List RV:=[(.t 6),(.t 7),(.t 8)]
theorem iW:Bl Tryz.prog Tryz.f64=some (Zi,Zj):=by kernel_rfl
theorem iX:Tryz.f64.ntmps=52:=by kernel_rfl
theorem iY:okF Tryz.prog 64:=⟨Tryz.f64,Tryz.func64,by kernel_rfl,by kernel_rfl⟩
def X4:AC:= .seq (.reg 0 [o 4 (.mv ff)]) (.seq (.reg 1 [m 5 0,m 6 1,c 7 84 [.t 5,.t 6],o 8 (.bin .geq .int (.t 7) (i 0)),m 4 8]) .ret)
def X5:List RV:=[(.t 4)]
theorem Zk:Bl Tryz.prog Tryz.f65=some (X4,X5):=by kernel_rfl
theorem Zl:Tryz.f65.ntmps=9:=by kernel_rfl
theorem Zm:okF Tryz.prog 65:=⟨Tryz.f65,Tryz.func65,by kernel_rfl,by kernel_rfl⟩
def Zn:AC:= .seq (.reg 0 [o 1 (.box 2 (.t 0)),o 2 (.mv ff)]) (.seq (.reg 1 [o 3 (.fa 0 (.t 1)),o 4 (.ld 1 false (.t 3)),o 5 (.fa 1 (.t 1)),o 6 (.ld 1 false (.t 5)),o 7 (.mm false [.t 4,
 .t 6]),o 8 (.bin .lss .int (.t 7) (i 0)),m 9 8,v 10 9 (.fa 0 (.t 1)),v 11 9 (.ld 1 false (.t 10)),v 12 9 (.fa 1 (.t 1)),v 13 9 (.ld 1 false (.t 12)),v 14 9 (.mm true [.t
 11,.t 13]),v 15 9 (.bin .gtr .int (.t 14) (i 40)),o 16 (.pick (.t 9) tt (.t 15)),m 2 16]) .ret)
def Zo:List RV:=[(.t 2)]
theorem iZ:Bl Tryz.prog Tryz.f66=some (Zn,Zo):=by kernel_rfl
theorem jA:Tryz.f66.ntmps=17:=by kernel_rfl
theorem jB:okF Tryz.prog 66:=⟨Tryz.f66,Tryz.func66,by kernel_rfl,by kernel_rfl⟩
def Zp:AC:= .seq (.reg 0 [o 3 (.box 2 (.t 0)),o 4 (.box 2 (.t 1)),o 5 (.box 2 (.t 2)),o 6 (.mv (i 0))]) (.seq (.reg 1 [o 7 (.fa 0 (.t 4)),o 8 (.ld 1 false (.t 7)),o 9 (.fa 0 (.t 3)),o 10
 (.ld 1 false (.t 9)),o 11 (.bin .sub .int (.t 8) (.t 10)),o 12 (.fa 1 (.t 5)),o 13 (.ld 1 false (.t 12)),o 14 (.fa 1 (.t 3)),o 15 (.ld 1 false (.t 14)),o 16 (.bin .sub .int
 (.t 13) (.t 15)),o 17 (.bin .mul .int (.t 11) (.t 16)),o 18 (.fa 1 (.t 4)),o 19 (.ld 1 false (.t 18)),o 20 (.fa 1 (.t 3)),o 21 (.ld 1 false (.t 20)),o 22 (.bin .sub .int
 (.t 19) (.t 21)),o 23 (.fa 0 (.t 5)),o 24 (.ld 1 false (.t 23)),o 25 (.fa 0 (.t 3)),o 26 (.ld 1 false (.t 25)),o 27 (.bin .sub .int (.t 24) (.t 26)),o 28 (.bin .mul .int
 (.t 22) (.t 27)),o 29 (.bin .sub .int (.t 17) (.t 28)),m 6 29]) .ret)
def Zq:List RV:=[(.t 6)]
theorem jC:Bl Tryz.prog Tryz.f67=some (Zp,Zq):=by kernel_rfl
theorem jD:Tryz.f67.ntmps=30:=by kernel_rfl
theorem jE:okF Tryz.prog 67:=⟨Tryz.f67,Tryz.func67,by kernel_rfl,by kernel_rfl⟩
def Zr:AC:= .seq (.reg 0 [o 1 (.box 2 (.t 0)),o 2 (.mv ff)]) (.seq (.reg 1 [o 3 (.fa 0 (.t 1)),o 4 (.ld 1 false (.t 3)),o 5 (.bin .geq .int (.t 4) (i 0)),m 6 5,w 7 6 (.fa 0 (.t 1)),w 8 6
 (.ld 1 false (.t 7)),w 9 6 (.bin .leq .int (.t 8) (i 40)),o 10 (.pick (.t 6) (.t 9) ff),m 11 10,w 12 11 (.fa 1 (.t 1)),w 13 11 (.ld 1 false (.t 12)),w 14 11 (.bin .geq .int
 (.t 13) (i 0)),o 15 (.pick (.t 11) (.t 14) ff),m 16 15,w 17 16 (.fa 1 (.t 1)),w 18 16 (.ld 1 false (.t 17)),w 19 16 (.bin .leq .int (.t 18) (i 40)),o 20 (.pick (.t 16) (.t
 19) ff),m 2 20]) .ret)
def Zs:List RV:=[(.t 2)]
theorem jF:Bl Tryz.prog Tryz.f68=some (Zr,Zs):=by kernel_rfl
theorem jG:Tryz.f68.ntmps=21:=by kernel_rfl
theorem jH:okF Tryz.prog 68:=⟨Tryz.f68,Tryz.func68,by kernel_rfl,by kernel_rfl⟩
def Zt:AC:= .seq (.reg 0 [o 3 (.box 2 (.t 0)),o 4 (.box 2 (.t 1)),o 5 (.box 2 (.t 2)),o 6 (.mv (i 0))]) (.seq (.reg 1 [o 7 (.fa 0 (.t 4)),o 8 (.ld 1 false (.t 7)),o 9 (.fa 0 (.t 3)),o 10
 (.ld 1 false (.t 9)),o 11 (.bin .sub .int (.t 8) (.t 10)),o 12 (.fa 1 (.t 5)),o 13 (.ld 1 false (.t 12)),o 14 (.fa 1 (.t 3)),o 15 (.ld 1 false (.t 14)),o 16 (.bin .sub .int
 (.t 13) (.t 15)),o 17 (.bin .mul .int (.t 11) (.t 16)),o 18 (.fa 1 (.t 4)),o 19 (.ld 1 false (.t 18)),o 20 (.fa 1 (.t 3)),o 21 (.ld 1 false (.t 20)),o 22 (.bin .sub .int
 (.t 19) (.t 21)),o 23 (.fa 0 (.t 5)),o 24 (.ld 1 false (.t 23)),o 25 (.fa 0 (.t 3)),o 26 (.ld 1 false (.t 25)),o 27 (.bin .sub .int (.t 24) (.t 26)),o 28 (.bin .mul .int
 (.t 22) (.t 27)),o 29 (.bin .sub .int (.t 17) (.t 28)),m 6 29]) .ret)
def Zu:List RV:=[(.t 6)]
theorem jI:Bl Tryz.prog Tryz.f69=some (Zt,Zu):=by kernel_rfl
theorem jJ:Tryz.f69.ntmps=30:=by kernel_rfl
theorem jK:okF Tryz.prog 69:=⟨Tryz.f69,Tryz.func69,by kernel_rfl,by kernel_rfl⟩
def Zv:AC:= .seq (.reg 0 [o 4 (.alloc [z,z])]) (.seq (.reg 1 [m 5 0,m 6 1,o 7 (.bin .add .int (.t 6) (i 1)),m 8 0,o 9 (.len (.t 8)),o 10 (.bin .rem .int (.t 7) (.t 9)),o 11 (.ia 2 (.t
 5) (.t 10)),o 12 (.ld 2 true (.t 11)),u (.st 2 (.t 4) (.t 12))]) .ret)
def Zw:List RV:=[(.c 4 2 true)]
theorem jL:Bl Tryz.prog Tryz.f70=some (Zv,Zw):=by kernel_rfl
theorem jM:Tryz.f70.ntmps=13:=by kernel_rfl
theorem jN:okF Tryz.prog 70:=⟨Tryz.f70,Tryz.func70,by kernel_rfl,by kernel_rfl⟩
def Zx:AC:= .seq (.reg 0 [o 1 (.box 1 (.t 0)),o 2 (.mv (.k (.v .nilFunc)))]) (.seq (.reg 1 [o 3 (.mkf (.func 85) [] [.t 1]),m 2 3]) .ret)
def Zy:List RV:=[(.t 2)]
theorem jO:Bl Tryz.prog Tryz.f71=some (Zx,Zy):=by kernel_rfl
theorem jP:Tryz.f71.ntmps=4:=by kernel_rfl
theorem jQ:okF Tryz.prog 71:=⟨Tryz.f71,Tryz.func71,by kernel_rfl,by kernel_rfl⟩
def Zz:AC:= .seq (.reg 0 [o 4 (.box 2 (.t 0)),o 5 (.box 2 (.t 1)),o 6 (.box 2 (.t 2)),o 7 (.box 2 (.t 3)),o 8 (.alloc [z,z]),o 9 (.alloc [z,z])]) (.seq (.drw 1 [o 12 (.ld 2 true (.t
 4)),o 13 (.ld 2 true (.t 5)),o 14 (.bsl 2 2 [z,z] [(0,.t 12),(1,.t 13)]),o 15 (.ld 2 true (.t 6)),o 16 (.ld 2 true (.t 7)),o 17 (.bsl 2 2 [z,z] [(0,.t 15),(1,.t
 16)]),m 10 14,m 11 17] [(2,3),(2,4),(0,5),(1,5),(2,5)]) (.seq (.reg 2 [m 18 10,c 19 86 [.t 18,.k (.clo (.func 73) [] [])]]) (.seq (.reg 3 [m 20 11,c 21 86 [.t 20,
 .k (.clo (.func 73) [] [])]]) (.seq (.drw 4 [m 22 10,o 23 (.ia 2 (.t 22) (i 0)),o 24 (.ld 2 true (.t 23)),m 25 11,o 26 (.ia 2 (.t 25) (i 0)),o 27 (.ld 2 true (.t 26)),o 28
 (.bsl 2 2 [z,z] [(0,.t 24),(1,.t 27)]),c 29 87 [.t 28,.k (.clo (.func 73) [] [])],m 30 10,o 31 (.ia 2 (.t 30) (i 1)),o 32 (.ld 2 true (.t 31)),m 33 11,o 34 (.ia 2 (.t
 33) (i 1)),o 35 (.ld 2 true (.t 34)),o 36 (.bsl 2 2 [z,z] [(0,.t 32),(1,.t 35)]),c 37 88 [.t 36,.k (.clo (.func 73) [] [])],u (.st 2 (.t 8) (.t 29)),u (.st 2 (.t 9) (.t
 37))] [(6,9),(7,9),(6,10),(7,10),(6,12),(7,12),(6,13),(7,13),(1,14),(2,14),(4,14),(5,14),(6,14),(7,14)]) .ret))))
def ZA:List RV:=[(.c 8 2 true),(.c 9 2 true)]
theorem jR:Bl Tryz.prog Tryz.f72=some (Zz,ZA):=by kernel_rfl
theorem jS:Tryz.f72.ntmps=38:=by kernel_rfl
theorem jT:okF Tryz.prog 72:=⟨Tryz.f72,Tryz.func72,by kernel_rfl,by kernel_rfl⟩
def ZB:AC:= .seq (.reg 0 [o 2 (.box 2 (.t 0)),o 3 (.box 2 (.t 1)),o 4 (.mv (i 0))]) (.seq (.drw 1 [o 5 (.fa 0 (.t 2)),o 6 (.ld 1 false (.t 5)),o 7 (.fa 0 (.t 3)),o 8 (.ld 1 false (.t 7)),
 c 9 90 [.t 6,.t 8],o 10 (.fa 1 (.t 2)),o 11 (.ld 1 false (.t 10)),o 12 (.fa 1 (.t 3)),o 13 (.ld 1 false (.t 12)),c 14 90 [.t 11,.t 13],o 15 (.bsl 1 2 [z] [(0,.t 9),(1,
 .t 14)]),c 16 89 [.t 15],m 4 16] [(4,6),(4,8)]) .ret)
def ZC:List RV:=[(.t 4)]
theorem jU:Bl Tryz.prog Tryz.f73=some (ZB,ZC):=by kernel_rfl
theorem jV:Tryz.f73.ntmps=17:=by kernel_rfl
theorem jW:okF Tryz.prog 73:=⟨Tryz.f73,Tryz.func73,by kernel_rfl,by kernel_rfl⟩
def ZD:AC:= .seq (.reg 0 [o 3 (.box 2 (.t 1)),o 4 (.mv (i 0))]) (.seq (.reg 1 [o 5 (.mv (i 1))]) (.seq (.seq (.reg 2 [o 6 (.mv (i 0))]) (.block 0 (.loop (.seq (.seq (.reg 3 [m 8 6,m 9 0,o
 10 (.len (.t 9)),o 11 (.bin .lss .int (.t 8) (.t 10))]) (.cond (.t 11) .nop (.exit 0))) (.seq (.block 1 (.seq (.drw 5 [m 14 0,m 15 6,o 16 (.ia 2 (.t 14) (.t 15)),o 17 (.ld 2
 true (.t 16)),m 18 0,m 19 6,c 20 70 [.t 18,.t 19],o 21 (.ld 2 true (.t 3)),c 22 69 [.t 17,.t 20,.t 21],m 7 22] [(2,6),(3,6),(6,7)]) (.seq (.seq (.reg 6 [m 23 7,o
 24 (.bin .lss .int (.t 23) (i 0))]) (.cond (.t 24) (.seq (.reg 7 [o 4 (.mv (i (-1)))]) .ret) .nop)) (.seq (.reg 8 [m 25 7,o 26 (.bin .eql .int (.t 25) (i 0))]) (.cond (.t 26)
 (.reg 9 [o 5 (.mv (i 0))]) .nop))))) (.reg 4 [m 12 6,o 13 (.bin .add .int (.t 12) (i 1)),m 6 13])))))) (.seq (.reg 10 [m 27 5,m 4 27]) .ret)))
def ZE:List RV:=[(.t 4)]
theorem jX:Bl Tryz.prog Tryz.f74=some (ZD,ZE):=by kernel_rfl
theorem jY:Tryz.f74.ntmps=28:=by kernel_rfl
theorem jZ:okF Tryz.prog 74:=⟨Tryz.f74,Tryz.func74,by kernel_rfl,by kernel_rfl⟩
def ZF:AC:= .seq (.reg 0 [o 4 (.mv (i 0)),o 5 (.mv (i 0)),o 6 (.mv ff)]) (.seq (.seq (.reg 1 [m 9 0,c 10 40 [.t 9],o 11 (.un .not (.t 10)),m 12 11,v 13 12 (.mv (.t 1)),v 14 12 (.call 40
 [.t 13]),v 15 12 (.un .not (.t 14)),o 16 (.pick (.t 12) tt (.t 15))]) (.cond (.t 16) (.seq (.reg 2 [o 4 (.mv (i 0)),o 5 (.mv (i 0)),o 6 (.mv ff)]) .ret) .nop)) (.seq (.seq
 (.reg 3 [m 17 0,m 18 1,c 19 91 [.t 17,.t 18],m 7 19]) (.seq (.reg 4 [m 20 7,o 21 (.bin .geq .int (.t 20) (i 0))]) (.cond (.t 21) (.seq (.reg 5 [m 22 7,o 4 (.mv (i 0)),m 5
 22,o 6 (.mv tt)]) .ret) .nop))) (.seq (.seq (.reg 6 [m 23 1,m 24 0,c 25 91 [.t 23,.t 24],m 8 25]) (.seq (.reg 7 [m 26 8,o 27 (.bin .geq .int (.t 26) (i 0))]) (.cond (.t 27)
 (.seq (.reg 8 [m 28 8,o 4 (.mv (i 1)),m 5 28,o 6 (.mv tt)]) .ret) .nop))) (.seq (.reg 9 [o 4 (.mv (i 0)),o 5 (.mv (i 0)),o 6 (.mv ff)]) .ret))))
def ZG:List RV:=[(.t 4),(.t 5),(.t 6)]
theorem kA:Bl Tryz.prog Tryz.f75=some (ZF,ZG):=by kernel_rfl
theorem kB:Tryz.f75.ntmps=29:=by kernel_rfl
theorem kC:okF Tryz.prog 75:=⟨Tryz.f75,Tryz.func75,by kernel_rfl,by kernel_rfl⟩
def X6:AC:= .seq (.reg 0 [o 2 (.mv (.k (.sl 0 true [] [])))]) (.seq (.reg 1 [o 3 (.mv (.k (.sl 0 true [] [])))]) (.seq (.seq (.reg 2 [o 4 (.mv (i 0))]) (.block 0 (.loop (.seq (.seq (.reg 3 [m
 7 4,m 8 0,o 9 (.len (.t 8)),o 10 (.bin .lss .int (.t 7) (.t 9))]) (.cond (.t 10) .nop (.exit 0))) (.seq (.block 1 (.seq (.reg 5 [m 13 0,m 14 4,o 15 (.ia 2 (.t 13) (.t 14)),
 o 16 (.ld 2 true (.t 15)),o 5 (.alloc [z,z]),u (.st 2 (.t 5) (.t 16))]) (.seq (.reg 6 [m 17 0,m 18 4,c 19 70 [.t 17,.t 18],o 6 (.alloc [z,z]),u (.st 2 (.t 6) (.t 19))])
 (.reg 7 [m 20 3,o 21 (.fa 1 (.t 5)),o 22 (.ld 1 false (.t 21)),o 23 (.fa 1 (.t 6)),o 24 (.ld 1 false (.t 23)),o 25 (.bin .sub .int (.t 22) (.t 24)),o 26 (.fa 0 (.t 6)),o
 27 (.ld 1 false (.t 26)),o 28 (.fa 0 (.t 5)),o 29 (.ld 1 false (.t 28)),o 30 (.bin .sub .int (.t 27) (.t 29)),o 31 (.fa 1 (.t 6)),o 32 (.ld 1 false (.t 31)),o 33 (.fa 1 (.t
 5)),o 34 (.ld 1 false (.t 33)),o 35 (.bin .sub .int (.t 32) (.t 34)),o 36 (.fa 0 (.t 5)),o 37 (.ld 1 false (.t 36)),o 38 (.bin .mul .int (.t 35) (.t 37)),o 39 (.fa 0 (.t
 6)),o 40 (.ld 1 false (.t 39)),o 41 (.fa 0 (.t 5)),o 42 (.ld 1 false (.t 41)),o 43 (.bin .sub .int (.t 40) (.t 42)),o 44 (.fa 1 (.t 5)),o 45 (.ld 1 false (.t 44)),o 46
 (.bin .mul .int (.t 43) (.t 45)),o 47 (.bin .sub .int (.t 38) (.t 46)),o 48 (.build [z,z,z] [(0,1,.t 25),(1,1,.t 30),(2,1,.t 47)]),o 49 (.bsl 3 1 [z,z,z] [(0,.t
 48)]),o 50 (.app 3 24 [z,z,z] (.t 20) (.t 49)),m 3 50])))) (.reg 4 [m 11 4,o 12 (.bin .add .int (.t 11) (i 1)),m 4 12])))))) (.seq (.reg 8 [m 51 3,m 2 51]) .ret)))
def X7:List RV:=[(.t 2)]
theorem ZH:Bl Tryz.prog Tryz.f76=some (X6,X7):=by kernel_rfl
theorem ZI:Tryz.f76.ntmps=52:=by kernel_rfl
theorem ZJ:okF Tryz.prog 76:=⟨Tryz.f76,Tryz.func76,by kernel_rfl,by kernel_rfl⟩
def ZK:AC:= .seq (.reg 0 [o 2 (.mv (.k (.sl 0 true [] [])))]) (.seq (.seq (.reg 1 [m 3 0,o 4 (.nils false (.t 3))]) (.cond (.t 4) (.seq (.reg 2 [o 2 (.mv (.k (.sl 0 true [] [])))]) .ret)
 .nop)) (.seq (.reg 3 [o 5 (.bsl 2 0 [z,z] []),m 6 0,o 7 (.app 2 16 [z,z] (.t 5) (.t 6)),m 2 7]) .ret))
def ZL:List RV:=[(.t 2)]
theorem kD:Bl Tryz.prog Tryz.f77=some (ZK,ZL):=by kernel_rfl
theorem kE:Tryz.f77.ntmps=8:=by kernel_rfl
theorem kF:okF Tryz.prog 77:=⟨Tryz.f77,Tryz.func77,by kernel_rfl,by kernel_rfl⟩
def ZM:AC:= .seq (.reg 0 [o 2 (.mv (.k (.sl 0 true [] [])))]) (.seq (.reg 1 [m 10 0,o 11 (.ia 2 (.t 10) (i 0)),o 12 (.ld 2 true (.t 11)),o 3 (.alloc [z,z]),u (.st 2 (.t 3) (.t 12))])
 (.seq (.seq (.reg 2 [o 4 (.mv (i 0))]) (.block 0 (.loop (.seq (.seq (.reg 3 [m 13 4,m 14 0,o 15 (.len (.t 14)),o 16 (.bin .lss .int (.t 13) (.t 15))]) (.cond (.t 16) .nop
 (.exit 0))) (.seq (.block 1 (.seq (.drw 5 [m 19 0,m 20 4,o 21 (.ia 2 (.t 19) (.t 20)),o 22 (.fa 1 (.t 21)),o 23 (.ld 1 false (.t 22)),o 24 (.fa 1 (.t 3)),o 25 (.ld 1 false
 (.t 24)),o 26 (.bin .lss .int (.t 23) (.t 25)),m 27 26,v 28 27 (.mv (.t 0)),v 29 27 (.mv (.t 4)),v 30 27 (.ia 2 (.t 28) (.t 29)),v 31 27 (.fa 1 (.t 30)),v 32 27 (.ld 1
 false (.t 31)),v 33 27 (.fa 1 (.t 3)),v 34 27 (.ld 1 false (.t 33)),v 35 27 (.bin .eql .int (.t 32) (.t 34)),v 36 27 (.mv (.t 35)),w 37 36 (.mv (.t 0)),w 38 36 (.mv (.t
 4)),w 39 36 (.ia 2 (.t 37) (.t 38)),w 40 36 (.fa 0 (.t 39)),w 41 36 (.ld 1 false (.t 40)),w 42 36 (.fa 0 (.t 3)),w 43 36 (.ld 1 false (.t 42)),w 44 36 (.bin .lss .int (.t
 41) (.t 43)),v 45 27 (.pick (.t 36) (.t 44) ff),o 46 (.pick (.t 27) tt (.t 45))] []) (.cond (.t 46) (.reg 6 [m 47 0,m 48 4,o 49 (.ia 2 (.t 47) (.t 48)),o 50 (.ld 2 true (.t
 49)),u (.st 2 (.t 3) (.t 50))]) .nop))) (.reg 4 [m 17 4,o 18 (.bin .add .int (.t 17) (i 1)),m 4 18])))))) (.seq (.reg 7 [o 51 (.ld 2 true (.t 3)),o 52 (.bsl 2 1 [z,z] [(0,
 .t 51)]),m 5 52]) (.seq (.reg 8 [o 53 (.ld 2 true (.t 3)),o 6 (.alloc [z,z]),u (.st 2 (.t 6) (.t 53))]) (.block 2 (.loop (.seq (.block 3 (.seq (.reg 9 [o 54 (.ld 2 true (.t
 6)),o 7 (.alloc [z,z]),u (.st 2 (.t 7) (.t 54))]) (.seq (.seq (.reg 10 [o 8 (.mv (i 0))]) (.block 4 (.loop (.seq (.seq (.reg 11 [m 55 8,m 56 0,o 57 (.len (.t 56)),o 58
 (.bin .lss .int (.t 55) (.t 57))]) (.cond (.t 58) .nop (.exit 4))) (.seq (.block 5 (.seq (.seq (.drw 13 [m 61 0,m 62 8,o 63 (.ia 2 (.t 61) (.t 62)),o 64 (.ld 2 true (.t 63)),
 o 65 (.ld 2 true (.t 6)),o 66 (.bin .eql (.cells [true,true]) (.t 64) (.t 65))] []) (.cond (.t 66) (.exit 5) .nop)) (.seq (.drw 14 [o 67 (.ld 2 true (.t 6)),o 68 (.ld 2 true
 (.t 7)),m 69 0,m 70 8,o 71 (.ia 2 (.t 69) (.t 70)),o 72 (.ld 2 true (.t 71)),c 73 69 [.t 67,.t 68,.t 72],m 9 73] []) (.seq (.drw 15 [o 74 (.ld 2 true (.t 7)),o 75 (.ld 2
 true (.t 6)),o 76 (.bin .eql (.cells [true,true]) (.t 74) (.t 75)),m 77 76,v 78 77 (.mv (.t 9)),v 79 77 (.bin .lss .int (.t 78) (i 0)),o 80 (.pick (.t 77) tt (.t 79)),m 81
 80,v 82 81 (.mv (.t 9)),v 83 81 (.bin .eql .int (.t 82) (i 0)),v 84 81 (.mv (.t 83)),w 85 84 (.ld 2 true (.t 6)),w 86 84 (.mv (.t 0)),w 87 84 (.mv (.t 8)),w 88 84 (.ia 2
 (.t 86) (.t 87)),w 89 84 (.ld 2 true (.t 88)),w 90 84 (.call 94 [.t 85,.t 89]),w 91 84 (.ld 2 true (.t 6)),w 92 84 (.ld 2 true (.t 7)),w 93 84 (.call 94 [.t 91,.t 92]),w
 94 84 (.bin .gtr .int (.t 90) (.t 93)),v 95 81 (.pick (.t 84) (.t 94) ff),o 96 (.pick (.t 81) tt (.t 95))] [(16,17),(16,18)]) (.cond (.t 96) (.reg 16 [m 97 0,m 98 8,o 99
 (.ia 2 (.t 97) (.t 98)),o 100 (.ld 2 true (.t 99)),u (.st 2 (.t 7) (.t 100))]) .nop))))) (.reg 12 [m 59 8,o 60 (.bin .add .int (.t 59) (i 1)),m 8 60])))))) (.seq (.seq (.reg
 17 [o 101 (.ld 2 true (.t 7)),o 102 (.ld 2 true (.t 6)),o 103 (.bin .eql (.cells [true,true]) (.t 101) (.t 102)),m 104 103,v 105 104 (.ld 2 true (.t 7)),v 106 104 (.ld 2
 true (.t 3)),v 107 104 (.bin .eql (.cells [true,true]) (.t 105) (.t 106)),o 108 (.pick (.t 104) tt (.t 107))]) (.cond (.t 108) (.seq (.reg 18 [m 109 5,m 2 109]) .ret) .nop))
 (.seq (.reg 19 [m 110 5,o 111 (.ld 2 true (.t 7)),o 112 (.bsl 2 1 [z,z] [(0,.t 111)]),o 113 (.app 2 16 [z,z] (.t 110) (.t 112)),m 5 113]) (.reg 20 [o 114 (.ld 2 true (.t
 7)),u (.st 2 (.t 6) (.t 114))])))))) (.seq (.reg 21 [o 115 (.ld 2 true (.t 6))]) (.reg 22 [o 6 (.alloc [z,z]),u (.st 2 (.t 6) (.t 115))])))))))))
def ZN:List RV:=[(.t 2)]
theorem kG:Bl Tryz.prog Tryz.f82=some (ZM,ZN):=by kernel_rfl
theorem kH:Tryz.f82.ntmps=116:=by kernel_rfl
theorem kI:okF Tryz.prog 82:=⟨Tryz.f82,Tryz.func82,by kernel_rfl,by kernel_rfl⟩
def ZO:AC:= .seq (.reg 0 [o 6 (.mv (.k (.sl 0 true [] [])))]) (.seq (.reg 1 [m 8 0,m 9 1,o 10 (.ia 2 (.t 8) (.t 9)),o 11 (.ld 2 true (.t 10)),o 12 (.bsl 2 1 [z,z] [(0,.t 11)]),m 7 12])
 (.seq (.block 0 (.loop (.seq (.seq (.reg 2 [m 13 1,m 14 2,o 15 (.bin .neq .int (.t 13) (.t 14))]) (.cond (.t 15) .nop (.exit 0))) (.block 1 (.seq (.reg 3 [m 16 1,o 17 (.bin
 .add .int (.t 16) (i 1)),m 18 0,o 19 (.len (.t 18)),o 20 (.bin .rem .int (.t 17) (.t 19)),m 1 20]) (.reg 4 [m 21 7,m 22 0,m 23 1,o 24 (.ia 2 (.t 22) (.t 23)),o 25 (.ld 2
 true (.t 24)),o 26 (.bsl 2 1 [z,z] [(0,.t 25)]),o 27 (.app 2 16 [z,z] (.t 21) (.t 26)),m 7 27])))))) (.seq (.reg 5 [m 28 7,m 6 28]) .ret)))
def ZP:List RV:=[(.t 6)]
theorem kJ:Bl Tryz.prog Tryz.f83=some (ZO,ZP):=by kernel_rfl
theorem kK:Tryz.f83.ntmps=29:=by kernel_rfl
theorem kL:okF Tryz.prog 83:=⟨Tryz.f83,Tryz.func83,by kernel_rfl,by kernel_rfl⟩
def X8:AC:= .seq (.reg 0 [o 4 (.mv (i 0))]) (.seq (.seq (.reg 1 [m 6 0,o 7 (.len (.t 6)),o 8 (.mv (i 0))]) (.block 0 (.loop (.seq (.reg 2 [o 9 (.bin .lss .int (.t 8) (.t 7))]) (.seq (.cond
 (.t 9) .nop (.exit 0)) (.seq (.block 1 (.seq (.reg 3 [m 10 8,m 5 10]) (.seq (.reg 4 [m 11 1,m 12 0,m 13 5,o 14 (.ia 2 (.t 12) (.t 13)),o 15 (.ld 2 true (.t 14)),o 16 (.cv
 (.t 11) [.t 15])]) (.cond (.t 16) (.seq (.reg 5 [m 17 5,m 4 17]) .ret) .nop)))) (.reg 6 [o 18 (.bin .add .int (.t 8) (i 1)),m 8 18]))))))) (.seq (.reg 7 [o 4 (.mv (i (-1)))])
 .ret))
def X9:List RV:=[(.t 4)]
theorem ZQ:Bl Tryz.prog Tryz.f84=some (X8,X9):=by kernel_rfl
theorem ZR:Tryz.f84.ntmps=19:=by kernel_rfl
theorem ZS:okF Tryz.prog 84:=⟨Tryz.f84,Tryz.func84,by kernel_rfl,by kernel_rfl⟩
def ZT:AC:= .seq (.reg 0 [o 5 (.ld 1 false (.t 1)),o 6 (.len (.t 5)),o 7 (.mv (i 0))]) (.block 0 (.loop (.seq (.reg 1 [o 8 (.bin .lss .int (.t 7) (.t 6))]) (.seq (.cond (.t 8) .nop (.exit
 0)) (.seq (.block 1 (.seq (.reg 2 [m 9 7,o 10 (.ia 2 (.t 5) (.t 7)),o 11 (.ld 2 true (.t 10)),o 4 (.alloc [z,z]),m 3 9,u (.st 2 (.t 4) (.t 11))]) (.seq (.drw 3 [m 12 0,o
 13 (.ld 2 true (.t 4)),o 14 (.ld 1 false (.t 1)),m 15 3,o 16 (.bin .add .int (.t 15) (i 1)),o 17 (.ld 1 false (.t 1)),o 18 (.len (.t 17)),o 19 (.bin .rem .int (.t 16) (.t
 18)),o 20 (.ia 2 (.t 14) (.t 19)),o 21 (.ld 2 true (.t 20)),o 22 (.cv (.t 12) [.t 13,.t 21]),o 23 (.un .not (.t 22))] []) (.cond (.t 23) .ret .nop)))) (.reg 4 [o 24 (.bin
 .add .int (.t 7) (i 1)),m 7 24]))))))
def kM:List RV:=[]
theorem kN:Bl Tryz.prog Tryz.f85=some (ZT,kM):=by kernel_rfl
theorem kP:Tryz.f85.ntmps=25:=by kernel_rfl
theorem Wo:okF Tryz.prog 85:=⟨Tryz.f85,Tryz.func85,by kernel_rfl,by kernel_rfl⟩
def Wz:AC:= .seq (.reg 0 [m 5 0,o 6 (.len (.t 5)),m 4 6]) (.reg 1 [m 7 0,m 8 4,m 9 4,o 10 (.pr (.cvw .u64) [.t 9]),c 11 96 [.t 10],m 12 1,c 13 95 [.t 7,i 0,.t 8,.t 11,.t 12]])
def WA:List RV:=[]
theorem Ya:Bl Tryz.prog Tryz.f86=some (Wz,WA):=by kernel_rfl
theorem Yb:Tryz.f86.ntmps=14:=by kernel_rfl
theorem Yc:okF Tryz.prog 86:=⟨Tryz.f86,Tryz.func86,by kernel_rfl,by kernel_rfl⟩
def ZU:AC:= .seq (.reg 0 [o 4 (.alloc [z,z])]) (.seq (.seq (.reg 1 [m 7 0,o 8 (.len (.t 7)),o 9 (.bin .lss .int (.t 8) (i 1))]) (.cond (.t 9) (.reg 2 [o 10 .bad,u (.pan (.t 10))]) .nop))
 (.seq (.reg 3 [m 11 0,o 12 (.ia 2 (.t 11) (i 0)),o 13 (.ld 2 true (.t 12)),o 5 (.alloc [z,z]),u (.st 2 (.t 5) (.t 13))]) (.seq (.seq (.reg 4 [o 6 (.mv (i 1))]) (.block 0
 (.loop (.seq (.seq (.reg 5 [m 14 6,m 15 0,o 16 (.len (.t 15)),o 17 (.bin .lss .int (.t 14) (.t 16))]) (.cond (.t 17) .nop (.exit 0))) (.seq (.block 1 (.seq (.drw 7 [m 20 1,m
 21 0,m 22 6,o 23 (.ia 2 (.t 21) (.t 22)),o 24 (.ld 2 true (.t 23)),o 25 (.ld 2 true (.t 5)),o 26 (.cv (.t 20) [.t 24,.t 25]),o 27 (.bin .gtr .int (.t 26) (i 0))] [])
 (.cond (.t 27) (.reg 8 [m 28 0,m 29 6,o 30 (.ia 2 (.t 28) (.t 29)),o 31 (.ld 2 true (.t 30)),u (.st 2 (.t 5) (.t 31))]) .nop))) (.reg 6 [m 18 6,o 19 (.bin .add .int (.t 18)
 (i 1)),m 6 19])))))) (.seq (.reg 9 [o 32 (.ld 2 true (.t 5)),u (.st 2 (.t 4) (.t 32))]) .ret))))
def ZV:List RV:=[(.c 4 2 true)]
theorem kQ:Bl Tryz.prog Tryz.f87=some (ZU,ZV):=by kernel_rfl
theorem kR:Tryz.f87.ntmps=33:=by kernel_rfl
theorem kS:okF Tryz.prog 87:=⟨Tryz.f87,Tryz.func87,by kernel_rfl,by kernel_rfl⟩
def ZW:AC:= .seq (.reg 0 [o 4 (.alloc [z,z])]) (.seq (.seq (.reg 1 [m 7 0,o 8 (.len (.t 7)),o 9 (.bin .lss .int (.t 8) (i 1))]) (.cond (.t 9) (.reg 2 [o 10 .bad,u (.pan (.t 10))]) .nop))
 (.seq (.reg 3 [m 11 0,o 12 (.ia 2 (.t 11) (i 0)),o 13 (.ld 2 true (.t 12)),o 5 (.alloc [z,z]),u (.st 2 (.t 5) (.t 13))]) (.seq (.seq (.reg 4 [o 6 (.mv (i 1))]) (.block 0
 (.loop (.seq (.seq (.reg 5 [m 14 6,m 15 0,o 16 (.len (.t 15)),o 17 (.bin .lss .int (.t 14) (.t 16))]) (.cond (.t 17) .nop (.exit 0))) (.seq (.block 1 (.seq (.drw 7 [m 20 1,m
 21 0,m 22 6,o 23 (.ia 2 (.t 21) (.t 22)),o 24 (.ld 2 true (.t 23)),o 25 (.ld 2 true (.t 5)),o 26 (.cv (.t 20) [.t 24,.t 25]),o 27 (.bin .lss .int (.t 26) (i 0))] [])
 (.cond (.t 27) (.reg 8 [m 28 0,m 29 6,o 30 (.ia 2 (.t 28) (.t 29)),o 31 (.ld 2 true (.t 30)),u (.st 2 (.t 5) (.t 31))]) .nop))) (.reg 6 [m 18 6,o 19 (.bin .add .int (.t 18)
 (i 1)),m 6 19])))))) (.seq (.reg 9 [o 32 (.ld 2 true (.t 5)),u (.st 2 (.t 4) (.t 32))]) .ret))))
def ZX:List RV:=[(.c 4 2 true)]
theorem kT:Bl Tryz.prog Tryz.f88=some (ZW,ZX):=by kernel_rfl
theorem kU:Tryz.f88.ntmps=33:=by kernel_rfl
theorem kV:okF Tryz.prog 88:=⟨Tryz.f88,Tryz.func88,by kernel_rfl,by kernel_rfl⟩
def ZY:AC:= .seq (.reg 0 [o 2 (.mv (i 0))]) (.seq (.reg 1 [o 3 (.mv (i 0))]) (.seq (.seq (.reg 2 [m 6 0,o 7 (.len (.t 6)),o 8 (.mv (i 0))]) (.block 0 (.loop (.seq (.reg 3 [o 9 (.bin .lss
 .int (.t 8) (.t 7))]) (.seq (.cond (.t 9) .nop (.exit 0)) (.seq (.block 1 (.seq (.reg 4 [o 10 (.ia 1 (.t 6) (.t 8)),o 11 (.ld 1 false (.t 10)),m 5 11]) (.seq (.reg 5 [m 12 5,m
 13 3,o 14 (.bin .neq .int (.t 12) (.t 13))]) (.cond (.t 14) (.seq (.reg 6 [m 15 5,m 2 15]) .ret) .nop)))) (.reg 7 [o 16 (.bin .add .int (.t 8) (i 1)),m 8 16]))))))) (.seq
 (.reg 8 [m 17 3,m 2 17]) .ret)))
def ZZ:List RV:=[(.t 2)]
theorem kW:Bl Tryz.prog Tryz.f89=some (ZY,ZZ):=by kernel_rfl
theorem kX:Tryz.f89.ntmps=18:=by kernel_rfl
theorem kY:okF Tryz.prog 89:=⟨Tryz.f89,Tryz.func89,by kernel_rfl,by kernel_rfl⟩
def Z0:AC:= .seq (.reg 0 [o 4 (.mv (i 0))]) (.seq (.reg 1 [m 7 0,c 8 97 [.t 7],m 5 8]) (.seq (.reg 2 [m 9 1,c 10 97 [.t 9],m 6 10]) (.seq (.seq (.reg 3 [m 11 5]) (.cond (.t 11) (.seq (.seq
 (.reg 4 [m 12 6]) (.cond (.t 12) (.seq (.reg 5 [o 4 (.mv (i 0))]) .ret) .nop)) (.seq (.reg 6 [o 4 (.mv (i (-1)))]) .ret)) .nop)) (.seq (.seq (.reg 7 [m 13 6]) (.cond (.t 13)
 (.seq (.reg 8 [o 4 (.mv (i 1))]) .ret) .nop)) (.seq (.seq (.reg 9 [m 14 0,m 15 1,o 16 (.bin .lss .int (.t 14) (.t 15))]) (.cond (.t 16) (.seq (.reg 10 [o 4 (.mv (i (-1)))])
 .ret) .nop)) (.seq (.seq (.reg 11 [m 17 0,m 18 1,o 19 (.bin .gtr .int (.t 17) (.t 18))]) (.cond (.t 19) (.seq (.reg 12 [o 4 (.mv (i 1))]) .ret) .nop)) (.seq (.reg 13 [o 4 (.mv
 (i 0))]) .ret)))))))
def Z1:List RV:=[(.t 4)]
theorem kZ:Bl Tryz.prog Tryz.f90=some (Z0,Z1):=by kernel_rfl
theorem lA:Tryz.f90.ntmps=20:=by kernel_rfl
theorem lB:okF Tryz.prog 90:=⟨Tryz.f90,Tryz.func90,by kernel_rfl,by kernel_rfl⟩
def Z2:AC:= .seq (.reg 0 [o 3 (.box 1 (.t 1)),o 4 (.alloc [z])]) (.seq (.reg 1 [o 5 (.alloc [z]),u (.st 1 (.t 5) (i 0))]) (.seq (.seq (.reg 2 [m 9 0,c 10 71 [.t 9]]) (.block 0 (.rfun (.t
 10) [11,12] (.seq (.reg 3 [o 6 (.alloc [z,z]),u (.st 2 (.t 6) (.t 11))]) (.reg 4 [o 7 (.alloc [z,z]),u (.st 2 (.t 7) (.t 12))])) (.block 1 (.seq (.reg 5 [o 13 (.mkf (.func
 98) [] [.t 6,.t 7]),m 8 13]) (.seq (.seq (.reg 6 [o 14 (.ld 1 false (.t 3)),m 15 8,c 16 65 [.t 14,.t 15],o 17 (.un .not (.t 16))]) (.cond (.t 17) (.seq (.reg 7 [o 18 (.ld 1
 false (.t 5)),u (.st 1 (.t 4) (.t 18))]) .ret) .nop)) (.reg 8 [o 19 (.ld 1 false (.t 5)),o 20 (.bin .add .int (.t 19) (i 1)),u (.st 1 (.t 5) (.t 20))]))))))) (.seq (.reg 9 [u
 (.st 1 (.t 4) (i (-1)))]) .ret)))
def Z3:List RV:=[(.c 4 1 false)]
theorem lC:Bl Tryz.prog Tryz.f91=some (Z2,Z3):=by kernel_rfl
theorem lD:Tryz.f91.ntmps=21:=by kernel_rfl
theorem lE:okF Tryz.prog 91:=⟨Tryz.f91,Tryz.func91,by kernel_rfl,by kernel_rfl⟩
def Z4:AC:= .seq (.reg 0 [o 2 (.box 2 (.t 0)),o 3 (.box 2 (.t 1)),o 4 (.mv (i 0))]) (.seq (.reg 1 [o 5 (.fa 0 (.t 2)),o 6 (.ld 1 false (.t 5)),o 7 (.fa 0 (.t 3)),o 8 (.ld 1 false (.t 7)),
 o 9 (.bin .sub .int (.t 6) (.t 8)),o 10 (.fa 0 (.t 2)),o 11 (.ld 1 false (.t 10)),o 12 (.fa 0 (.t 3)),o 13 (.ld 1 false (.t 12)),o 14 (.bin .sub .int (.t 11) (.t 13)),o 15
 (.bin .mul .int (.t 9) (.t 14)),o 16 (.fa 1 (.t 2)),o 17 (.ld 1 false (.t 16)),o 18 (.fa 1 (.t 3)),o 19 (.ld 1 false (.t 18)),o 20 (.bin .sub .int (.t 17) (.t 19)),o 21
 (.fa 1 (.t 2)),o 22 (.ld 1 false (.t 21)),o 23 (.fa 1 (.t 3)),o 24 (.ld 1 false (.t 23)),o 25 (.bin .sub .int (.t 22) (.t 24)),o 26 (.bin .mul .int (.t 20) (.t 25)),o 27
 (.bin .add .int (.t 15) (.t 26)),m 4 27]) .ret)
def Z5:List RV:=[(.t 4)]
theorem lF:Bl Tryz.prog Tryz.f94=some (Z4,Z5):=by kernel_rfl
theorem lG:Tryz.f94.ntmps=28:=by kernel_rfl
theorem lH:okF Tryz.prog 94:=⟨Tryz.f94,Tryz.func94,by kernel_rfl,by kernel_rfl⟩
def WB:AC:= .seq (.reg 0 [o 10 (.mv tt)]) (.seq (.reg 1 [o 11 (.mv tt)]) (.block 0 (.loop (.block 1 (.seq (.reg 2 [m 21 2,m 22 1,o 23 (.bin .sub .int (.t 21) (.t 22)),m 12 23]) (.seq (.seq
 (.reg 3 [m 24 12,o 25 (.bin .leq .int (.t 24) (i 12))]) (.cond (.t 25) (.seq (.reg 4 [m 26 0,m 27 1,m 28 2,m 29 4,c 30 101 [.t 26,.t 27,.t 28,.t 29]]) .ret) .nop)) (.seq
 (.seq (.reg 5 [m 31 3,o 32 (.bin .eql .int (.t 31) (i 0))]) (.cond (.t 32) (.seq (.reg 6 [m 33 0,m 34 1,m 35 2,m 36 4,c 37 102 [.t 33,.t 34,.t 35,.t 36]]) .ret) .nop))
 (.seq (.seq (.reg 7 [m 38 10,o 39 (.un .not (.t 38))]) (.cond (.t 39) (.seq (.reg 8 [m 40 0,m 41 1,m 42 2,m 43 4,c 44 103 [.t 40,.t 41,.t 42,.t 43]]) (.reg 9 [m 45 3,o
 46 (.bin .sub .int (.t 45) (i 1)),m 3 46])) .nop)) (.seq (.reg 10 [m 48 0,m 49 1,m 50 2,m 51 4,c 52 104 [.t 48,.t 49,.t 50,.t 51],m 47 52,o 53 (.ext (.t 47) 0),o 54
 (.ext (.t 47) 1),m 13 53,m 14 54]) (.seq (.seq (.reg 11 [m 55 14,o 56 (.bin .eql .int (.t 55) (i 2))]) (.cond (.t 56) (.seq (.reg 12 [m 57 0,m 58 1,m 59 2,m 60 4,c 61 105
 [.t 57,.t 58,.t 59,.t 60]]) (.seq (.reg 13 [m 62 2,o 63 (.bin .sub .int (.t 62) (i 1)),m 64 13,m 65 1,o 66 (.bin .sub .int (.t 64) (.t 65)),o 67 (.bin .sub .int (.t 63)
 (.t 66)),m 13 67]) (.reg 14 [o 14 (.mv (i 1))]))) .nop)) (.seq (.seq (.reg 15 [m 68 10,m 69 68,w 70 69 (.mv (.t 11)),o 71 (.pick (.t 69) (.t 70) ff),m 72 71,w 73 72 (.mv
 (.t 14)),w 74 72 (.bin .eql .int (.t 73) (i 1)),o 75 (.pick (.t 72) (.t 74) ff)]) (.cond (.t 75) (.seq (.reg 16 [m 76 0,m 77 1,m 78 2,m 79 4,c 80 106 [.t 76,.t 77,.t 78,
 .t 79]]) (.cond (.t 80) .ret .nop)) .nop)) (.seq (.seq (.drw 17 [m 81 1,o 82 (.bin .gtr .int (.t 81) (i 0)),m 83 82,w 84 83 (.mv (.t 4)),w 85 83 (.mv (.t 0)),w 86 83 (.mv
 (.t 1)),w 87 83 (.bin .sub .int (.t 86) (i 1)),w 88 83 (.ia 2 (.t 85) (.t 87)),w 89 83 (.ld 2 true (.t 88)),w 90 83 (.mv (.t 0)),w 91 83 (.mv (.t 13)),w 92 83 (.ia 2 (.t
 90) (.t 91)),w 93 83 (.ld 2 true (.t 92)),w 94 83 (.cv (.t 84) [.t 89,.t 93]),w 95 83 (.bin .lss .int (.t 94) (i 0)),w 96 83 (.un .not (.t 95)),o 97 (.pick (.t 83) (.t 96)
 ff)] []) (.cond (.t 97) (.seq (.reg 18 [m 98 0,m 99 1,m 100 2,m 101 13,m 102 4,c 103 107 [.t 98,.t 99,.t 100,.t 101,.t 102],m 15 103]) (.seq (.reg 19 [m 104 15,m 1
 104]) (.exit 1))) .nop)) (.seq (.reg 20 [m 106 0,m 107 1,m 108 2,m 109 13,m 110 4,c 111 108 [.t 106,.t 107,.t 108,.t 109,.t 110],m 105 111,o 112 (.ext (.t 105) 0),o
 113 (.ext (.t 105) 1),m 16 112,m 17 113]) (.seq (.reg 21 [m 114 17,m 11 114]) (.seq (.reg 22 [m 115 16,m 116 1,o 117 (.bin .sub .int (.t 115) (.t 116)),m 118 2,m 119 16,o
 120 (.bin .sub .int (.t 118) (.t 119)),m 18 117,m 19 120]) (.seq (.reg 23 [m 121 12,o 122 (.bin .quo .int (.t 121) (i 8)),m 20 122]) (.seq (.reg 24 [m 123 18,m 124 19,o 125
 (.bin .lss .int (.t 123) (.t 124))]) (.cond (.t 125) (.seq (.reg 25 [m 126 18,m 127 20,o 128 (.bin .geq .int (.t 126) (.t 127)),m 10 128]) (.seq (.reg 26 [m 129 0,m 130 1,m
 131 16,m 132 3,m 133 4,c 134 95 [.t 129,.t 130,.t 131,.t 132,.t 133]]) (.reg 27 [m 135 16,o 136 (.bin .add .int (.t 135) (i 1)),m 1 136]))) (.seq (.reg 28 [m 137 19,m
 138 20,o 139 (.bin .geq .int (.t 137) (.t 138)),m 10 139]) (.seq (.reg 29 [m 140 0,m 141 16,o 142 (.bin .add .int (.t 141) (i 1)),m 143 2,m 144 3,m 145 4,c 146 95 [.t
 140,.t 142,.t 143,.t 144,.t 145]]) (.reg 30 [m 147 16,m 2 147])))))))))))))))))))))
def WC:List RV:=[]
theorem Yd:Bl Tryz.prog Tryz.f95=some (WB,WC):=by kernel_rfl
theorem Ye:Tryz.f95.ntmps=148:=by kernel_rfl
theorem Yf:okF Tryz.prog 95:=⟨Tryz.f95,Tryz.func95,by kernel_rfl,by kernel_rfl⟩
def Z6:AC:= .seq (.reg 0 [o 2 (.mv ff)]) (.seq (.reg 1 [m 3 0,m 4 0,o 5 (.bin .neq .int (.t 3) (.t 4)),m 2 5]) .ret)
def Z7:List RV:=[(.t 2)]
theorem lK:Bl Tryz.prog Tryz.f97=some (Z6,Z7):=by kernel_rfl
theorem lL:Tryz.f97.ntmps=6:=by kernel_rfl
theorem lM:okF Tryz.prog 97:=⟨Tryz.f97,Tryz.func97,by kernel_rfl,by kernel_rfl⟩
def Z8:AC:= .seq (.reg 0 [o 3 (.box 2 (.t 0)),o 4 (.mv ff)]) (.seq (.reg 1 [o 5 (.ld 2 true (.t 1)),o 6 (.ld 2 true (.t 2)),o 7 (.ld 2 true (.t 3)),c 8 67 [.t 5,.t 6,.t 7],o 9 (.bin
 .gtr .int (.t 8) (i 0)),m 4 9]) .ret)
def Z9:List RV:=[(.t 4)]
theorem lN:Bl Tryz.prog Tryz.f98=some (Z8,Z9):=by kernel_rfl
theorem lO:Tryz.f98.ntmps=10:=by kernel_rfl
theorem lR:okF Tryz.prog 98:=⟨Tryz.f98,Tryz.func98,by kernel_rfl,by kernel_rfl⟩
def Wk:AC:= .seq (.reg 0 [m 10 1,o 11 (.bin .add .int (.t 10) (i 1)),m 8 11]) (.block 0 (.loop (.seq (.seq (.reg 1 [m 12 8,m 13 2,o 14 (.bin .lss .int (.t 12) (.t 13))]) (.cond (.t 14)
 .nop (.exit 0))) (.seq (.block 1 (.seq (.reg 3 [m 17 8,m 9 17]) (.block 2 (.loop (.seq (.seq (.drw 4 [m 18 9,m 19 1,o 20 (.bin .gtr .int (.t 18) (.t 19)),m 21 20,w 22 21
 (.mv (.t 3)),w 23 21 (.mv (.t 0)),w 24 21 (.mv (.t 9)),w 25 21 (.ia 2 (.t 23) (.t 24)),w 26 21 (.ld 2 true (.t 25)),w 27 21 (.mv (.t 0)),w 28 21 (.mv (.t 9)),w 29 21 (.bin
 .sub .int (.t 28) (i 1)),w 30 21 (.ia 2 (.t 27) (.t 29)),w 31 21 (.ld 2 true (.t 30)),w 32 21 (.cv (.t 22) [.t 26,.t 31]),w 33 21 (.bin .lss .int (.t 32) (i 0)),o 34 (.pick
 (.t 21) (.t 33) ff)] []) (.cond (.t 34) .nop (.exit 2))) (.seq (.block 3 (.drw 6 [m 37 0,m 38 9,m 39 0,m 40 9,o 41 (.bin .sub .int (.t 40) (i 1)),m 42 0,m 43 9,o 44 (.bin
 .sub .int (.t 43) (i 1)),o 45 (.ia 2 (.t 42) (.t 44)),o 46 (.ld 2 true (.t 45)),m 47 0,m 48 9,o 49 (.ia 2 (.t 47) (.t 48)),o 50 (.ld 2 true (.t 49)),o 51 (.ia 2 (.t 37)
 (.t 38)),u (.st 2 (.t 51) (.t 46)),o 52 (.ia 2 (.t 39) (.t 41)),u (.st 2 (.t 52) (.t 50))] [])) (.reg 5 [m 35 9,o 36 (.bin .sub .int (.t 35) (i 1)),m 9 36]))))))) (.reg 2 [m
 15 8,o 16 (.bin .add .int (.t 15) (i 1)),m 8 16])))))
def Wl:List RV:=[]
theorem WD:Bl Tryz.prog Tryz.f101=some (Wk,Wl):=by kernel_rfl
theorem WE:Tryz.f101.ntmps=53:=by kernel_rfl
theorem WF:okF Tryz.prog 101:=⟨Tryz.f101,Tryz.func101,by kernel_rfl,by kernel_rfl⟩
end Go.Proofs.YtdabfcbelkjmgaaGreatDoor.Am
