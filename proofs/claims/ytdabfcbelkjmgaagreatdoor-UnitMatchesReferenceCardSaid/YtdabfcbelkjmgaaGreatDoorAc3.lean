import Derived.Test.YtdabfcbelkjmgaaGreatDoorA5
import Derived.Test.YtdabfcbelkjmgaaGreatDoorProg
namespace Go.Proofs.YtdabfcbelkjmgaaGreatDoor.Am
set_option linter.unusedSimpArgs false
set_option linter.unusedVariables false
open Go C
set_option maxRecDepth 100000
def cM:AC:= .seq (.reg 0 [o 1 (.box 6 (.t 0)),o 2 (.mv (.k (.v (.string (sB []))))),o 3 (.mv (i 0))]) (.seq (.seq (.reg 1 [o 7 (.ld 6 true (.t 1)),c 8 11 [.t 7],o 9 (.un .not (.t 8))])
 (.cond (.t 9) (.seq (.reg 2 [o 2 (.mv (.k (.v (.string (sB []))))),o 3 (.mv (i 80))]) .ret) .nop)) (.seq (.reg 3 [o 4 (.allocB 87)]) (.seq (.reg 4 [o 10 (.fa 0 (.t 1)),o 11
 (.ld 1 false (.t 10)),o 12 (.fa 1 (.t 1)),o 13 (.ld 1 false (.t 12)),o 14 (.fa 2 (.t 1)),o 15 (.ld 1 false (.t 14)),o 16 (.fa 4 (.t 1)),o 17 (.ld 1 false (.t 16)),o 18
 (.fa 5 (.t 1)),o 19 (.ld 1 false (.t 18)),o 20 (.fa 3 (.t 1)),o 21 (.ld 1 false (.t 20)),o 22 (.len (.t 21)),o 23 (.bsl 1 6 [z] [(0,.t 11),(1,.t 13),(2,.t 15),(3,.t
 17),(4,.t 19),(5,.t 22)]),c 24 56 [.t 4,.t 23]]) (.seq (.seq (.reg 5 [o 25 (.fa 3 (.t 1)),o 26 (.ld 1 false (.t 25)),o 27 (.len (.t 26)),o 28 (.mv (i 0))]) (.block 0
 (.loop (.seq (.reg 6 [o 29 (.bin .lss .int (.t 28) (.t 27))]) (.seq (.cond (.t 29) .nop (.exit 0)) (.seq (.block 1 (.seq (.reg 7 [o 30 (.ia 2 (.t 26) (.t 28)),o 31 (.ld 2 true
 (.t 30)),o 6 (.alloc [z,z]),u (.st 2 (.t 6) (.t 31))]) (.reg 8 [o 32 (.fa 0 (.t 6)),o 33 (.ld 1 false (.t 32)),o 34 (.fa 1 (.t 6)),o 35 (.ld 1 false (.t 34)),o 36 (.bsl 1
 2 [z] [(0,.t 33),(1,.t 35)]),c 37 56 [.t 4,.t 36]]))) (.reg 9 [o 38 (.bin .add .int (.t 28) (i 1)),m 28 38]))))))) (.seq (.reg 10 [o 39 (.fa 0 (.t 4)),c 40 57 [.t 39],m 2
 40,o 3 (.mv (i 0))]) .ret)))))
def cN:List RV:=[(.t 2),(.t 3)]
theorem oX:Bl Tryz.prog Tryz.f27=some (cM,cN):=by kernel_rfl
theorem oY:Tryz.f27.ntmps=41:=by kernel_rfl
theorem oZ:okF Tryz.prog 27:=⟨Tryz.f27,Tryz.func27,by kernel_rfl,by kernel_rfl⟩
def cO:AC:= .seq (.reg 0 [o 1 (.box 6 (.t 0)),o 2 (.mv (.k (.v (.string (sB []))))),o 3 (.mv (i 0))]) (.seq (.seq (.reg 1 [o 10 (.ld 6 true (.t 1)),c 11 12 [.t 10],o 12 (.un .not (.t
 11))]) (.cond (.t 12) (.seq (.reg 2 [o 2 (.mv (.k (.v (.string (sB []))))),o 3 (.mv (i 80))]) .ret) .nop)) (.seq (.reg 3 [o 13 (.fa 0 (.t 1)),o 14 (.ld 1 false (.t 13)),o 15
 (.fa 1 (.t 1)),o 16 (.ld 1 false (.t 15)),o 17 (.fa 2 (.t 1)),o 18 (.ld 1 false (.t 17)),o 19 (.fa 4 (.t 1)),o 20 (.ld 1 false (.t 19)),o 21 (.fa 5 (.t 1)),o 22 (.ld 1
 false (.t 21)),o 23 (.fa 3 (.t 1)),o 24 (.ld 1 false (.t 23)),o 25 (.len (.t 24)),o 26 (.bsl 1 6 [z] [(0,.t 14),(1,.t 16),(2,.t 18),(3,.t 20),(4,.t 22),(5,.t
 25)]),m 4 26]) (.seq (.seq (.reg 4 [o 5 (.mv (i 0))]) (.block 0 (.loop (.seq (.seq (.reg 5 [m 27 5,o 28 (.fa 3 (.t 1)),o 29 (.ld 1 false (.t 28)),o 30 (.len (.t 29)),o 31
 (.bin .lss .int (.t 27) (.t 30))]) (.cond (.t 31) .nop (.exit 0))) (.seq (.block 1 (.drw 7 [m 34 4,o 35 (.fa 3 (.t 1)),o 36 (.ld 1 false (.t 35)),m 37 5,o 38 (.ia 2 (.t 36)
 (.t 37)),o 39 (.fa 0 (.t 38)),o 40 (.ld 1 false (.t 39)),o 41 (.fa 3 (.t 1)),o 42 (.ld 1 false (.t 41)),m 43 5,o 44 (.ia 2 (.t 42) (.t 43)),o 45 (.fa 1 (.t 44)),o 46 (.ld
 1 false (.t 45)),o 47 (.bsl 1 2 [z] [(0,.t 40),(1,.t 46)]),o 48 (.app 1 8 [z] (.t 34) (.t 47)),m 4 48] [])) (.reg 6 [m 32 5,o 33 (.bin .add .int (.t 32) (i 1)),m 5
 33])))))) (.seq (.reg 8 [o 6 (.mv (.k (.v (.string (sB [])))))]) (.seq (.seq (.reg 9 [o 7 (.mv (i 0))]) (.block 2 (.loop (.seq (.seq (.reg 10 [m 49 7,m 50 4,o 51 (.len (.t
 50)),o 52 (.bin .lss .int (.t 49) (.t 51))]) (.cond (.t 52) .nop (.exit 2))) (.seq (.block 3 (.seq (.reg 12 [m 56 4,m 57 7,o 58 (.ia 1 (.t 56) (.t 57)),o 59 (.ld 1 false (.t
 58)),c 60 58 [.t 59],m 55 60,o 61 (.ext (.t 55) 0),o 62 (.ext (.t 55) 1),m 8 61,m 9 62]) (.reg 13 [m 63 6,m 64 8,o 65 (.pr .scat [.t 63,.t 64]),m 6 65]))) (.reg 11 [m
 53 7,o 54 (.bin .add .int (.t 53) (i 1)),m 7 54])))))) (.seq (.reg 14 [m 66 6,m 2 66,o 3 (.mv (i 0))]) .ret))))))
def cP:List RV:=[(.t 2),(.t 3)]
theorem pA:Bl Tryz.prog Tryz.f28=some (cO,cP):=by kernel_rfl
theorem pB:Tryz.f28.ntmps=67:=by kernel_rfl
theorem pC:okF Tryz.prog 28:=⟨Tryz.f28,Tryz.func28,by kernel_rfl,by kernel_rfl⟩
def cQ:AC:= .seq (.reg 0 [o 2 (.alloc [z,z,z,.sl 0 true [] [],z,z]),o 3 (.alloc [z])]) (.seq (.reg 1 [o 9 (.mkf (.func 59) [] [.t 2,.t 3]),u (.dfr (.t 9))]) (.seq (.reg 2 [m 10 0,o 11
 (.build [.v (.string (sB [])),z] [(0,1,.t 10)]),o 12 (.box 2 (.t 11)),m 4 12]) (.seq (.seq (.reg 3 [o 13 (.fa 0 (.t 2)),o 14 (.fa 1 (.t 2)),o 15 (.fa 2 (.t 2)),o 16 (.fa
 4 (.t 2)),o 17 (.fa 5 (.t 2)),o 18 (.build [.v (.pointer none),.v (.pointer none),.v (.pointer none),.v (.pointer none),.v (.pointer none)] [(0,1,.t 13),(1,1,.t 14),
 (2,1,.t 15),(3,1,.t 16),(4,1,.t 17)]),o 19 (.mv (i 0))]) (.block 0 (.loop (.seq (.reg 4 [o 20 (.bin .lss .int (.t 19) (i 5))]) (.seq (.cond (.t 20) .nop (.exit 0)) (.seq
 (.block 1 (.seq (.reg 5 [o 21 (.idxA 5 1 false (.t 18) (.t 19)),m 6 21]) (.reg 6 [m 22 6,m 23 4,c 24 60 [.t 23],o 25 (.nilc (.t 22)),u (.st 1 (.t 25) (.t 24))]))) (.reg 7 [o
 26 (.bin .add .int (.t 19) (i 1)),m 19 26]))))))) (.seq (.reg 8 [m 27 4,c 28 60 [.t 27],m 7 28]) (.seq (.seq (.reg 9 [m 29 7,c 30 39 [.t 29,i 3,i 8],o 31 (.un .not (.t
 30))]) (.cond (.t 31) (.reg 10 [o 32 (.build [] []),o 33 (.pr (.mkI 93) [.t 32]),u (.pan (.t 33))]) .nop)) (.seq (.seq (.reg 11 [m 34 7,o 35 (.mv (i 0))]) (.block 2 (.loop
 (.seq (.reg 12 [o 36 (.bin .lss .int (.t 35) (.t 34))]) (.seq (.cond (.t 36) .nop (.exit 2)) (.seq (.block 3 (.seq (.reg 13 [m 37 4,c 38 60 [.t 37],m 8 38]) (.drw 14 [o 39 (.fa
 3 (.t 2)),o 40 (.ld 1 false (.t 39)),m 41 8,m 42 4,c 43 60 [.t 42],o 44 (.build [z,z] [(0,1,.t 41),(1,1,.t 43)]),o 45 (.bsl 2 1 [z,z] [(0,.t 44)]),o 46 (.app 2 16
 [z,z] (.t 40) (.t 45)),o 47 (.fa 3 (.t 2)),u (.st 1 (.t 47) (.t 46))] [(1,4),(1,6)]))) (.reg 15 [o 48 (.bin .add .int (.t 35) (i 1)),m 35 48]))))))) (.seq (.seq (.reg 16
 [m 49 4,o 50 (.nilc (.t 49)),o 51 (.fa 1 (.t 50)),o 52 (.ld 1 false (.t 51)),m 53 0,o 54 (.pr .slen [.t 53]),o 55 (.bin .lss .int (.t 52) (.t 54)),m 56 55,v 57 56 (.ld 6
 true (.t 2)),v 58 56 (.call 11 [.t 57]),v 59 56 (.un .not (.t 58)),o 60 (.pick (.t 56) tt (.t 59))]) (.cond (.t 60) (.reg 17 [o 61 (.build [] []),o 62 (.pr (.mkI 93) [.t
 61]),u (.pan (.t 62))]) .nop)) (.seq (.reg 18 [o 63 (.ld 6 true (.t 2)),u (.st 6 (.t 2) (.t 63)),u (.st 1 (.t 3) (i 0))]) .ret))))))))
def WG:List RV:=[(.c 2 6 true),(.c 3 1 false)]
theorem pD:Bl Tryz.prog Tryz.f31=some (cQ,WG):=by kernel_rfl
theorem pE:Tryz.f31.ntmps=64:=by kernel_rfl
theorem pF:okF Tryz.prog 31:=⟨Tryz.f31,Tryz.func31,by kernel_rfl,by kernel_rfl⟩
def cR:AC:= .seq (.reg 0 [o 2 (.alloc [z,z,z,.sl 0 true [] [],z,z]),o 3 (.mv (i 0))]) (.seq (.reg 1 [o 4 (.mv (.k (.sl 0 true [] [])))]) (.seq (.reg 2 [o 5 (.mv (i 0))]) (.seq (.seq
 (.reg 3 [o 6 (.mv (i 0))]) (.block 0 (.loop (.seq (.seq (.reg 4 [m 12 6,o 13 (.bin .lss .int (.t 12) (i 6)),m 14 13,v 15 14 (.mv (.t 6)),v 16 14 (.mv (.t 4)),v 17 14 (.ia 1
 (.t 16) (i 5)),v 18 14 (.ld 1 false (.t 17)),v 19 14 (.bin .mul .int (i 2) (.t 18)),v 20 14 (.bin .add .int (i 6) (.t 19)),v 21 14 (.bin .lss .int (.t 15) (.t 20)),o 22
 (.pick (.t 14) tt (.t 21))]) (.cond (.t 22) .nop (.exit 0))) (.seq (.block 1 (.seq (.reg 6 [m 26 0,m 27 5,c 28 61 [.t 26,.t 27],m 25 28,o 29 (.ext (.t 25) 0),o 30 (.ext (.t
 25) 1),o 31 (.ext (.t 25) 2),m 7 29,m 8 30,m 9 31]) (.seq (.seq (.reg 7 [m 32 9,o 33 (.bin .neq .int (.t 32) (i 0)),m 34 33,v 35 34 (.mv (.t 6)),v 36 34 (.bin .eql .int
 (.t 35) (i 5)),v 37 34 (.mv (.t 36)),w 38 37 (.mv (.t 7)),w 39 37 (.bin .lss .int (.t 38) (i 3)),w 40 37 (.mv (.t 39)),v 41 40 (.mv (.t 7)),v 42 40 (.bin .gtr .int (.t 41)
 (i 8)),w 43 37 (.pick (.t 40) tt (.t 42)),v 44 34 (.pick (.t 37) (.t 43) ff),o 45 (.pick (.t 34) tt (.t 44))]) (.cond (.t 45) (.seq (.reg 8 [o 46 (.build [z,z,z,.sl 0 true
 [] [],z,z] []),u (.st 6 (.t 2) (.t 46)),o 3 (.mv (i 80))]) .ret) .nop)) (.seq (.reg 9 [m 47 4,m 48 7,o 49 (.bsl 1 1 [z] [(0,.t 48)]),o 50 (.app 1 8 [z] (.t 47) (.t 49)),
 m 4 50]) (.reg 10 [m 51 8,m 5 51]))))) (.reg 5 [m 23 6,o 24 (.bin .add .int (.t 23) (i 1)),m 6 24])))))) (.seq (.drw 11 [m 52 4,o 53 (.ia 1 (.t 52) (i 0)),o 54 (.ld 1 false
 (.t 53)),m 55 4,o 56 (.ia 1 (.t 55) (i 1)),o 57 (.ld 1 false (.t 56)),m 58 4,o 59 (.ia 1 (.t 58) (i 2)),o 60 (.ld 1 false (.t 59)),m 61 4,o 62 (.ia 1 (.t 61) (i 3)),o 63
 (.ld 1 false (.t 62)),m 64 4,o 65 (.ia 1 (.t 64) (i 4)),o 66 (.ld 1 false (.t 65)),o 67 (.build [z,z,z,.sl 0 true [] [],z,z] [(0,1,.t 54),(1,1,.t 57),(2,1,.t
 60),(4,1,.t 63),(5,1,.t 66)]),o 10 (.alloc [z,z,z,.sl 0 true [] [],z,z]),u (.st 6 (.t 10) (.t 67))] [(1,16),(2,16),(4,16),(5,16),(7,16),(8,16),(10,16),
 (11,16),(13,16),(14,16)]) (.seq (.seq (.reg 12 [o 11 (.mv (i 6))]) (.block 2 (.loop (.seq (.seq (.reg 13 [m 68 11,m 69 4,o 70 (.len (.t 69)),o 71 (.bin .lss .int (.t 68)
 (.t 70))]) (.cond (.t 71) .nop (.exit 2))) (.seq (.block 3 (.drw 15 [o 74 (.fa 3 (.t 10)),o 75 (.ld 1 false (.t 74)),m 76 4,m 77 11,o 78 (.ia 1 (.t 76) (.t 77)),o 79 (.ld 1
 false (.t 78)),m 80 4,m 81 11,o 82 (.bin .add .int (.t 81) (i 1)),o 83 (.ia 1 (.t 80) (.t 82)),o 84 (.ld 1 false (.t 83)),o 85 (.build [z,z] [(0,1,.t 79),(1,1,.t
 84)]),o 86 (.bsl 2 1 [z,z] [(0,.t 85)]),o 87 (.app 2 16 [z,z] (.t 75) (.t 86)),o 88 (.fa 3 (.t 10)),u (.st 1 (.t 88) (.t 87))] [(1,12)])) (.reg 14 [m 72 11,o 73 (.bin
 .add .int (.t 72) (i 2)),m 11 73])))))) (.seq (.seq (.reg 16 [m 89 5,m 90 0,o 91 (.pr .slen [.t 90]),o 92 (.bin .neq .int (.t 89) (.t 91)),m 93 92,v 94 93 (.ld 6 true (.t
 10)),v 95 93 (.call 12 [.t 94]),v 96 93 (.un .not (.t 95)),o 97 (.pick (.t 93) tt (.t 96))]) (.cond (.t 97) (.seq (.reg 17 [o 98 (.build [z,z,z,.sl 0 true [] [],z,z] []),
 u (.st 6 (.t 2) (.t 98)),o 3 (.mv (i 80))]) .ret) .nop)) (.seq (.reg 18 [o 99 (.ld 6 true (.t 10)),u (.st 6 (.t 2) (.t 99)),o 3 (.mv (i 0))]) .ret)))))))
def cS:List RV:=[(.c 2 6 true),(.t 3)]
theorem pG:Bl Tryz.prog Tryz.f32=some (cR,cS):=by kernel_rfl
theorem pH:Tryz.f32.ntmps=100:=by kernel_rfl
theorem pI:okF Tryz.prog 32:=⟨Tryz.f32,Tryz.func32,by kernel_rfl,by kernel_rfl⟩
def cU:AC:= .seq (.reg 0 [m 8 1,o 9 (.len (.t 8)),o 10 (.mv (i 0))]) (.block 0 (.loop (.seq (.reg 1 [o 11 (.bin .lss .int (.t 10) (.t 9))]) (.seq (.cond (.t 11) .nop (.exit 0)) (.seq (.block
 1 (.seq (.reg 2 [o 12 (.ia 1 (.t 8) (.t 10)),o 13 (.ld 1 false (.t 12)),m 5 13]) (.seq (.reg 3 [m 15 5,c 16 78 [.t 15],m 14 16,o 17 (.ext (.t 14) 0),o 18 (.ext (.t 14) 1),
 m 6 17,m 7 18]) (.reg 4 [m 19 0,o 20 (.nilc (.t 19)),o 21 (.fa 0 (.t 20)),m 22 6,c 23 79 [.t 21,.t 22]])))) (.reg 5 [o 24 (.bin .add .int (.t 10) (i 1)),m 10 24]))))))
def cV:List RV:=[]
theorem pJ:Bl Tryz.prog Tryz.f56=some (cU,cV):=by kernel_rfl
theorem pK:Tryz.f56.ntmps=25:=by kernel_rfl
theorem cW:okF Tryz.prog 56:=⟨Tryz.f56,Tryz.func56,by kernel_rfl,by kernel_rfl⟩
def cX:AC:= .seq (.reg 0 [o 2 (.mv (.k (.v (.string (sB []))))),o 3 (.mv (i 0))]) (.seq (.seq (.reg 1 [m 6 0,o 7 (.bin .lss .int (.t 6) (i (-4611686018427387903))),m 8 7,v 9 8 (.mv (.t
 0)),v 10 8 (.bin .gtr .int (.t 9) (i 4611686018427387903)),o 11 (.pick (.t 8) tt (.t 10))]) (.cond (.t 11) (.seq (.reg 2 [o 2 (.mv (.k (.v (.string (sB []))))),o 3 (.mv (i
 10))]) .ret) .nop)) (.seq (.reg 3 [m 12 0,c 13 80 [.t 12],m 4 13]) (.seq (.reg 4 [o 5 (.mv (.k (.sl 0 true [] [])))]) (.seq (.block 0 (.loop (.seq (.seq (.reg 5 [m 14 4,o 15
 (.bin .geq .int (.t 14) (.k (.v (.int .u64 128))))]) (.cond (.t 15) .nop (.exit 0))) (.block 1 (.seq (.reg 6 [m 16 5,m 17 4,o 18 (.bin .rem .int (.t 17) (.k (.v (.int .u64
 128)))),o 19 (.bin .add .int (.t 18) (.k (.v (.int .u64 128)))),o 20 (.pr (.cvw .u8) [.t 19]),o 21 (.bsl 1 1 [.v (.int .u8 0)] [(0,.t 20)]),o 22 (.app 1 1 [.v (.int .u8 0)]
 (.t 16) (.t 21)),m 5 22]) (.reg 7 [m 23 4,o 24 (.bin .quo .int (.t 23) (.k (.v (.int .u64 128)))),m 4 24])))))) (.seq (.reg 8 [m 25 5,m 26 4,o 27 (.pr (.cvw .u8) [.t 26]),o
 28 (.bsl 1 1 [.v (.int .u8 0)] [(0,.t 27)]),o 29 (.app 1 1 [.v (.int .u8 0)] (.t 25) (.t 28)),o 30 (.b2s (.t 29)),m 2 30,o 3 (.mv (i 0))]) .ret)))))
def cY:List RV:=[(.t 2),(.t 3)]
theorem pL:Bl Tryz.prog Tryz.f58=some (cX,cY):=by kernel_rfl
theorem pM:Tryz.f58.ntmps=31:=by kernel_rfl
theorem pN:okF Tryz.prog 58:=⟨Tryz.f58,Tryz.func58,by kernel_rfl,by kernel_rfl⟩
def pO:AC:= .seq (.reg 0 [o 5 .rcv]) (.block 0 (.seq (.reg 3 [o 7 (.pr (.inil false) [.t 5])]) (.cond (.t 7) (.reg 4 [m 2 5]) (.seq (.reg 5 [o 8 (.pr (.tas 93) [.t 5]),o 9 (.ext (.t 8) 1),o
 10 (.ext (.t 8) 0)]) (.cond (.t 9) (.seq (.reg 6 [o 3 (.alloc []),u (.st 0 (.t 3) (.t 10))]) (.reg 7 [o 11 (.build [z,z,z,.sl 0 true [] [],z,z] []),u (.st 6 (.t 0) (.t
 11)),u (.st 1 (.t 1) (i 80))])) (.seq (.reg 1 [m 4 5]) (.reg 2 [m 6 4,u (.pan (.t 6))])))))))
def pP:List RV:=[]
theorem cZ:Bl Tryz.prog Tryz.f59=some (pO,pP):=by kernel_rfl
theorem dA:Tryz.f59.ntmps=12:=by kernel_rfl
theorem dB:okF Tryz.prog 59:=⟨Tryz.f59,Tryz.func59,by kernel_rfl,by kernel_rfl⟩
def Yi:AC:= .seq (.reg 0 [o 2 (.mv (i 0))]) (.seq (.drw 1 [m 7 0,o 8 (.nilc (.t 7)),o 9 (.fa 0 (.t 8)),o 10 (.ld 1 false (.t 9)),m 11 0,o 12 (.nilc (.t 11)),o 13 (.fa 1 (.t 12)),o 14
 (.ld 1 false (.t 13)),c 15 81 [.t 10,.t 14],m 6 15,o 16 (.ext (.t 6) 0),o 17 (.ext (.t 6) 1),o 18 (.ext (.t 6) 2),m 3 16,m 4 17,m 5 18] []) (.seq (.seq (.reg 2 [m 19 5,
 o 20 (.bin .neq .int (.t 19) (i 0))]) (.cond (.t 20) (.reg 3 [o 21 (.build [] []),o 22 (.pr (.mkI 93) [.t 21]),u (.pan (.t 22))]) .nop)) (.seq (.reg 4 [m 23 0,m 24 4,o 25
 (.nilc (.t 23)),o 26 (.fa 1 (.t 25)),u (.st 1 (.t 26) (.t 24))]) (.seq (.reg 5 [m 27 3,m 2 27]) .ret))))
def dC:List RV:=[(.t 2)]
theorem dD:Bl Tryz.prog Tryz.f60=some (Yi,dC):=by kernel_rfl
theorem dE:Tryz.f60.ntmps=28:=by kernel_rfl
theorem dF:okF Tryz.prog 60:=⟨Tryz.f60,Tryz.func60,by kernel_rfl,by kernel_rfl⟩
def dG:AC:= .seq (.reg 0 [o 4 (.mv (i 0)),o 5 (.mv (i 0)),o 6 (.mv (i 0))]) (.seq (.seq (.reg 1 [m 13 1,o 14 (.bin .lss .int (.t 13) (i 0)),m 15 14,v 16 15 (.mv (.t 1)),v 17 15 (.mv (.t
 0)),v 18 15 (.pr .slen [.t 17]),v 19 15 (.bin .gtr .int (.t 16) (.t 18)),o 20 (.pick (.t 15) tt (.t 19))]) (.cond (.t 20) (.seq (.reg 2 [o 4 (.mv (i 0)),o 5 (.mv (i 0)),o 6
 (.mv (i 2))]) .ret) .nop)) (.seq (.reg 3 [o 7 (.mv (.k (.v (.int .u64 0))))]) (.seq (.seq (.reg 4 [o 8 (.mv (i 0))]) (.block 0 (.loop (.seq (.seq (.reg 5 [m 21 8,o 22 (.bin .lss
 .int (.t 21) (i 9)),m 23 22,w 24 23 (.mv (.t 1)),w 25 23 (.mv (.t 8)),w 26 23 (.bin .add .int (.t 24) (.t 25)),w 27 23 (.mv (.t 0)),w 28 23 (.pr .slen [.t 27]),w 29 23
 (.bin .lss .int (.t 26) (.t 28)),o 30 (.pick (.t 23) (.t 29) ff)]) (.cond (.t 30) .nop (.exit 0))) (.seq (.block 1 (.seq (.reg 7 [m 33 0,m 34 1,m 35 8,o 36 (.bin .add .int
 (.t 34) (.t 35)),o 37 (.pr .sidx [.t 33,.t 36]),o 38 (.pr (.cvw .u64) [.t 37]),m 9 38]) (.seq (.reg 8 [m 39 7,m 40 9,o 41 (.bin .rem .int (.t 40) (.k (.v (.int .u64
 128)))),m 42 8,o 43 (.bin .mul .int (i 7) (.t 42)),o 44 (.pr (.shf .shl) [.t 41,.t 43]),o 45 (.bin .add .int (.t 39) (.t 44)),m 7 45]) (.seq (.seq (.reg 9 [m 46 9,o 47
 (.bin .geq .int (.t 46) (.k (.v (.int .u64 128))))]) (.cond (.t 47) (.exit 1) .nop)) (.seq (.reg 10 [m 48 7,o 49 (.bin .quo .int (.t 48) (.k (.v (.int .u64 2)))),o 50 (.pr
 (.cvw .i64) [.t 49]),m 10 50]) (.seq (.seq (.reg 11 [m 51 7,o 52 (.bin .rem .int (.t 51) (.k (.v (.int .u64 2)))),o 53 (.bin .eql .int (.t 52) (.k (.v (.int .u64 1))))])
 (.cond (.t 53) (.reg 12 [m 54 10,o 55 (.un .neg (.t 54)),o 56 (.bin .sub .int (.t 55) (i 1)),m 10 56]) .nop)) (.seq (.reg 13 [m 58 10,c 59 58 [.t 58],m 57 59,o 60 (.ext (.t
 57) 0),o 61 (.ext (.t 57) 1),m 11 60,m 12 61]) (.seq (.seq (.reg 14 [m 62 12,o 63 (.bin .neq .int (.t 62) (i 0)),m 64 63,v 65 64 (.mv (.t 11)),v 66 64 (.mv (.t 0)),v 67
 64 (.mv (.t 1)),v 68 64 (.mv (.t 1)),v 69 64 (.mv (.t 8)),v 70 64 (.bin .add .int (.t 68) (.t 69)),v 71 64 (.bin .add .int (.t 70) (i 1)),v 72 64 (.pr (.ssl true true) [.t
 66,.t 67,.t 71]),v 73 64 (.pr (.seq true) [.t 65,.t 72]),o 74 (.pick (.t 64) tt (.t 73))]) (.cond (.t 74) (.seq (.reg 15 [o 4 (.mv (i 0)),o 5 (.mv (i 0)),o 6 (.mv (i
 10))]) .ret) .nop)) (.seq (.reg 16 [m 75 10,m 76 1,m 77 8,o 78 (.bin .add .int (.t 76) (.t 77)),o 79 (.bin .add .int (.t 78) (i 1)),m 4 75,m 5 79,o 6 (.mv (i 0))])
 .ret))))))))) (.reg 6 [m 31 8,o 32 (.bin .add .int (.t 31) (i 1)),m 8 32])))))) (.seq (.reg 17 [o 4 (.mv (i 0)),o 5 (.mv (i 0)),o 6 (.mv (i 10))]) .ret))))
def dH:List RV:=[(.t 4),(.t 5),(.t 6)]
theorem pQ:Bl Tryz.prog Tryz.f61=some (dG,dH):=by kernel_rfl
theorem pR:Tryz.f61.ntmps=80:=by kernel_rfl
theorem pS:okF Tryz.prog 61:=⟨Tryz.f61,Tryz.func61,by kernel_rfl,by kernel_rfl⟩
def dI:AC:= .seq (.reg 0 [o 2 (.mv (.k (.v (.string (sB []))))),o 3 (.mv (i 0))]) (.seq (.seq (.reg 1 [m 7 0,o 8 (.bin .lss .int (.t 7) (i (-4611686018427387903))),m 9 8,v 10 9 (.mv (.t
 0)),v 11 9 (.bin .gtr .int (.t 10) (i 4611686018427387903)),o 12 (.pick (.t 9) tt (.t 11))]) (.cond (.t 12) (.seq (.reg 2 [o 2 (.mv (.k (.v (.string (sB []))))),o 3 (.mv (i
 10))]) .ret) .nop)) (.seq (.reg 3 [o 4 (.alloc [.sl 0 true [] []])]) (.seq (.seq (.reg 4 [m 13 0,o 14 (.pr (.cvw .u64) [.t 13]),o 15 (.pr (.shf .shl) [.t 14,.k (.v (.int .u64
 1))]),m 16 0,o 17 (.pr (.shf .shr) [.t 16,.k (.v (.int .u64 63))]),o 18 (.pr (.cvw .u64) [.t 17]),o 19 (.pr (.bits .xor) [.t 15,.t 18]),c 20 92 [.t 19]]) (.block 0 (.rfun
 (.t 20) [21,22] (.seq (.reg 5 [m 5 21]) (.reg 6 [m 6 22])) (.block 1 (.seq (.seq (.reg 7 [m 23 6,o 24 (.un .not (.t 23))]) (.cond (.t 24) (.reg 8 [m 25 5,o 26 (.pr (.bits .or)
 [.t 25,.k (.v (.int .u8 128))]),m 5 26]) .nop)) (.reg 9 [o 27 (.ld 1 false (.t 4)),m 28 5,o 29 (.bsl 1 1 [.v (.int .u8 0)] [(0,.t 28)]),o 30 (.app 1 1 [.v (.int .u8 0)] (.t
 27) (.t 29)),u (.st 1 (.t 4) (.t 30))])))))) (.seq (.reg 10 [o 31 (.ld 1 false (.t 4)),o 32 (.b2s (.t 31)),m 2 32,o 3 (.mv (i 0))]) .ret))))
def dJ:List RV:=[(.t 2),(.t 3)]
theorem pT:Bl Tryz.prog Tryz.f78=some (dI,dJ):=by kernel_rfl
theorem pU:Tryz.f78.ntmps=33:=by kernel_rfl
theorem pV:okF Tryz.prog 78:=⟨Tryz.f78,Tryz.func78,by kernel_rfl,by kernel_rfl⟩
def dK:AC:= .seq (.reg 0 [o 2 (.mv (.k (.v (.int .u64 0))))]) (.seq (.seq (.reg 1 [m 3 0,o 4 (.bin .lss .int (.t 3) (i 0))]) (.cond (.t 4) (.seq (.reg 2 [m 5 0,o 6 (.un .neg (.t 5)),o 7
 (.pr (.cvw .u64) [.t 6]),o 8 (.bin .mul .int (.t 7) (.k (.v (.int .u64 2)))),o 9 (.bin .sub .int (.t 8) (.k (.v (.int .u64 1)))),m 2 9]) .ret) .nop)) (.seq (.reg 3 [m 10 0,o
 11 (.pr (.cvw .u64) [.t 10]),o 12 (.bin .mul .int (.t 11) (.k (.v (.int .u64 2)))),m 2 12]) .ret))
def dL:List RV:=[(.t 2)]
theorem pW:Bl Tryz.prog Tryz.f80=some (dK,dL):=by kernel_rfl
theorem pX:Tryz.f80.ntmps=13:=by kernel_rfl
theorem pY:okF Tryz.prog 80:=⟨Tryz.f80,Tryz.func80,by kernel_rfl,by kernel_rfl⟩
def dM:AC:= .seq (.reg 0 [o 4 (.mv (i 0)),o 5 (.mv (i 0)),o 6 (.mv (i 0))]) (.seq (.seq (.reg 1 [m 11 1,o 12 (.bin .lss .int (.t 11) (i 0)),m 13 12,v 14 13 (.mv (.t 1)),v 15 13 (.mv (.t
 0)),v 16 13 (.pr .slen [.t 15]),v 17 13 (.bin .gtr .int (.t 14) (.t 16)),o 18 (.pick (.t 13) tt (.t 17))]) (.cond (.t 18) (.seq (.reg 2 [o 4 (.mv (i 0)),o 5 (.mv (i 0)),o 6
 (.mv (i 2))]) .ret) .nop)) (.seq (.reg 3 [o 7 (.mv (.k (.v (.int .u64 0))))]) (.seq (.seq (.reg 4 [o 19 (.mv (i 0))]) (.block 0 (.loop (.seq (.reg 5 [o 20 (.bin .lss .int (.t 19)
 (i 9))]) (.seq (.cond (.t 20) .nop (.exit 0)) (.seq (.block 1 (.seq (.reg 6 [m 21 19,m 8 21]) (.seq (.seq (.reg 7 [m 22 1,m 23 8,o 24 (.bin .add .int (.t 22) (.t 23)),m 25 0,
 o 26 (.pr .slen [.t 25]),o 27 (.bin .geq .int (.t 24) (.t 26))]) (.cond (.t 27) (.exit 0) .nop)) (.seq (.reg 8 [m 28 0,m 29 1,m 30 8,o 31 (.bin .add .int (.t 29) (.t 30)),o
 32 (.pr .sidx [.t 28,.t 31]),m 9 32]) (.seq (.reg 9 [m 33 7,m 34 9,o 35 (.pr (.bits .and) [.t 34,.k (.v (.int .u8 127))]),o 36 (.pr (.cvw .u64) [.t 35]),m 37 8,o 38 (.bin
 .mul .int (i 7) (.t 37)),o 39 (.pr (.shf .shl) [.t 36,.t 38]),o 40 (.pr (.bits .or) [.t 33,.t 39]),m 7 40]) (.seq (.seq (.reg 10 [m 41 9,o 42 (.bin .geq .int (.t 41) (.k
 (.v (.int .u8 128))))]) (.cond (.t 42) (.exit 1) .nop)) (.seq (.reg 11 [m 43 7,o 44 (.pr (.shf .shr) [.t 43,.k (.v (.int .u64 1))]),o 45 (.pr (.cvw .i64) [.t 44]),m 46 7,o
 47 (.pr (.bits .and) [.t 46,.k (.v (.int .u64 1))]),o 48 (.pr (.cvw .i64) [.t 47]),o 49 (.un .neg (.t 48)),o 50 (.pr (.bits .xor) [.t 45,.t 49]),m 10 50]) (.seq (.seq (.reg
 12 [m 51 9,o 52 (.bin .eql .int (.t 51) (.k (.v (.int .u8 0)))),m 53 52,w 54 53 (.mv (.t 8)),w 55 53 (.bin .gtr .int (.t 54) (i 0)),o 56 (.pick (.t 53) (.t 55) ff),m 57 56,
 v 58 57 (.mv (.t 10)),v 59 57 (.bin .lss .int (.t 58) (i (-4611686018427387903))),o 60 (.pick (.t 57) tt (.t 59))]) (.cond (.t 60) (.exit 0) .nop)) (.seq (.reg 13 [m 61 10,m
 62 1,m 63 8,o 64 (.bin .add .int (.t 62) (.t 63)),o 65 (.bin .add .int (.t 64) (i 1)),m 4 61,m 5 65,o 6 (.mv (i 0))]) .ret))))))))) (.reg 14 [o 66 (.bin .add .int (.t 19)
 (i 1)),m 19 66]))))))) (.seq (.reg 15 [o 4 (.mv (i 0)),o 5 (.mv (i 0)),o 6 (.mv (i 10))]) .ret))))
def dO:List RV:=[(.t 4),(.t 5),(.t 6)]
theorem pZ:Bl Tryz.prog Tryz.f81=some (dM,dO):=by kernel_rfl
theorem qA:Tryz.f81.ntmps=67:=by kernel_rfl
theorem qB:okF Tryz.prog 81:=⟨Tryz.f81,Tryz.func81,by kernel_rfl,by kernel_rfl⟩
def dQ:AC:= .seq (.reg 0 [o 1 (.box 1 (.t 0)),o 2 (.mv (.k (.v .nilFunc)))]) (.seq (.reg 1 [o 3 (.mkf (.func 99) [] [.t 1]),m 2 3]) .ret)
def dR:List RV:=[(.t 2)]
theorem qC:Bl Tryz.prog Tryz.f92=some (dQ,dR):=by kernel_rfl
theorem qD:Tryz.f92.ntmps=4:=by kernel_rfl
theorem qE:okF Tryz.prog 92:=⟨Tryz.f92,Tryz.func92,by kernel_rfl,by kernel_rfl⟩
def dS:AC:= .block 0 (.loop (.block 1 (.seq (.reg 0 [o 4 (.ld 1 false (.t 1)),o 5 (.bin .lss .int (.t 4) (.k (.v (.int .u64 128)))),m 3 5]) (.seq (.seq (.reg 1 [m 6 0,o 7 (.ld 1 false (.t
 1)),o 8 (.pr (.bits .and) [.t 7,.k (.v (.int .u64 127))]),o 9 (.pr (.cvw .u8) [.t 8]),m 10 3,o 11 (.cv (.t 6) [.t 9,.t 10]),o 12 (.un .not (.t 11)),m 13 12,v 14 13 (.mv
 (.t 3)),o 15 (.pick (.t 13) tt (.t 14))]) (.cond (.t 15) .ret .nop)) (.reg 2 [o 16 (.ld 1 false (.t 1)),o 17 (.pr (.shf .shr) [.t 16,.k (.v (.int .u64 7))]),u (.st 1 (.t 1)
 (.t 17))])))))
def qF:List RV:=[]
theorem qG:Bl Tryz.prog Tryz.f99=some (dS,qF):=by kernel_rfl
theorem qH:Tryz.f99.ntmps=18:=by kernel_rfl
theorem qI:okF Tryz.prog 99:=⟨Tryz.f99,Tryz.func99,by kernel_rfl,by kernel_rfl⟩
end Go.Proofs.YtdabfcbelkjmgaaGreatDoor.Am
