import Derived.Test.YtdabfcbelkjmgaaGreatDoorA5
import Derived.Test.YtdabfcbelkjmgaaGreatDoorProg
namespace Go.Proofs.YtdabfcbelkjmgaaGreatDoor.Am
set_option linter.unusedSimpArgs false
set_option linter.unusedVariables false
open Go C
set_option maxRecDepth 100000
def ac4:AC:= .seq (.reg 0 [o 0 (.mv ff)]) (.seq (.reg 1 [c 25 33 [],m 24 25,o 26 (.ext (.t 24) 0),o 27 (.ext (.t 24) 1),o 1 (.alloc [z,z,z,.sl 0 true [] [],z,z]),o 2 (.alloc [z,z,z,
 .sl 0 true [] [],z,z]),u (.st 6 (.t 1) (.t 26)),u (.st 6 (.t 2) (.t 27))]) (.seq (.reg 2 [o 29 (.ld 6 true (.t 1)),o 30 (.ld 6 true (.t 2)),c 31 19 [.t 29,.t 30],m 28 31,
 o 32 (.ext (.t 28) 0),o 33 (.ext (.t 28) 1),o 3 (.alloc [z,z,z,z,z,z,z,z]),u (.st 8 (.t 3) (.t 32)),m 4 33]) (.seq (.reg 3 [o 35 (.ld 6 true (.t 1)),c 36 9 [.t 35],m
 34 36,o 37 (.ext (.t 34) 0),o 38 (.ext (.t 34) 1),o 5 (.alloc [z,z,z,z,z,z,z,z]),u (.st 8 (.t 5) (.t 37)),m 6 38]) (.seq (.reg 4 [o 40 (.ld 6 true (.t 2)),c 41 9 [.t
 40],m 39 41,o 42 (.ext (.t 39) 0),o 43 (.ext (.t 39) 1),o 7 (.alloc [z,z,z,z,z,z,z,z]),u (.st 8 (.t 7) (.t 42)),m 8 43]) (.seq (.reg 5 [c 45 29 [i 3],m 44 45,o 46
 (.ext (.t 44) 0),o 47 (.ext (.t 44) 1),o 9 (.alloc [z,z,z,z,z]),u (.st 5 (.t 9) (.t 46)),m 10 47]) (.seq (.reg 6 [c 49 29 [i 8],m 48 49,o 50 (.ext (.t 48) 0),o 51
 (.ext (.t 48) 1),o 11 (.alloc [z,z,z,z,z]),u (.st 5 (.t 11) (.t 50)),m 12 51]) (.seq (.reg 7 [o 53 (.ld 6 true (.t 1)),c 54 27 [.t 53],m 52 54,o 55 (.ext (.t 52) 0),o
 56 (.ext (.t 52) 1),m 13 55,m 14 56]) (.seq (.reg 8 [m 58 13,c 59 31 [.t 58],m 57 59,o 60 (.ext (.t 57) 0),o 61 (.ext (.t 57) 1),o 15 (.alloc [z,z,z,.sl 0 true [] [],
 z,z]),u (.st 6 (.t 15) (.t 60)),m 16 61]) (.seq (.reg 9 [o 63 (.ld 6 true (.t 2)),c 64 24 [.t 63,i (-4),i (-2)],m 62 64,o 65 (.ext (.t 62) 0),o 66 (.ext (.t 62) 1),o 17
 (.alloc [z,z,z,.sl 0 true [] [],z,z]),u (.st 6 (.t 17) (.t 65)),m 18 66]) (.seq (.reg 10 [o 67 (.fa 4 (.t 2)),u (.st 1 (.t 67) (i 2))]) (.seq (.reg 11 [o 69 (.ld 6 true
 (.t 1)),o 70 (.ld 6 true (.t 2)),c 71 19 [.t 69,.t 70],m 68 71,o 72 (.ext (.t 68) 0),o 73 (.ext (.t 68) 1),o 19 (.alloc [z,z,z,z,z,z,z,z]),u (.st 8 (.t 19) (.t
 72)),m 20 73]) (.seq (.reg 12 [o 74 (.ld 6 true (.t 1)),c 75 7 [.t 74],m 21 75]) (.seq (.seq (.reg 13 [m 76 10,o 77 (.bin .neq .int (.t 76) (i 0)),m 78 77,v 79 78 (.mv (.t
 12)),v 80 78 (.bin .neq .int (.t 79) (i 80)),o 81 (.pick (.t 78) tt (.t 80)),m 82 81,v 83 82 (.mv (.t 14)),v 84 82 (.bin .neq .int (.t 83) (i 0)),o 85 (.pick (.t 82) tt (.t
 84)),m 86 85,v 87 86 (.mv (.t 16)),v 88 86 (.bin .neq .int (.t 87) (i 0)),o 89 (.pick (.t 86) tt (.t 88)),m 90 89,v 91 90 (.mv (.t 18)),v 92 90 (.bin .neq .int (.t 91) (i
 0)),o 93 (.pick (.t 90) tt (.t 92)),m 94 93,v 95 94 (.mv (.t 21)),v 96 94 (.len (.t 95)),v 97 94 (.bin .neq .int (.t 96) (i 6)),o 98 (.pick (.t 94) tt (.t 97)),m 99 98,v
 100 99 (.ld 6 true (.t 15)),v 101 99 (.ld 6 true (.t 1)),v 102 99 (.call 26 [.t 100,.t 101]),v 103 99 (.un .not (.t 102)),o 104 (.pick (.t 99) tt (.t 103))]) (.cond (.t 104)
 (.seq (.reg 14 [o 0 (.mv ff)]) .ret) .nop)) (.seq (.reg 15 [m 105 4,m 106 105,w 107 106 (.ld 8 true (.t 3)),w 108 106 (.build [z,z] [(0,1,i 4),(1,1,i 2)]),w 109 106
 (.build [z,z] [(0,1,i 4),(1,1,i 4)]),w 110 106 (.build [z,z,z,z] [(0,2,.t 108),(2,2,.t 109)]),w 111 106 (.build [z,z,z,z,z,z,z,z] [(0,1,i 3),(1,1,i
 5),(2,4,.t 110),(6,1,i 1),(7,1,i 2)]),w 112 106 (.bin .eql (.cells [true,true,true,true,true,true,true,true]) (.t 107) (.t 111)),o 113 (.pick (.t 106) (.t 112)
 ff),m 114 113,w 115 114 (.mv (.t 6)),o 116 (.pick (.t 114) (.t 115) ff),m 117 116,w 118 117 (.ld 8 true (.t 5)),w 119 117 (.build [z,z] []),w 120 117 (.build [z,z] [(0,
 1,i 4)]),w 121 117 (.build [z,z,z,z] [(0,2,.t 119),(2,2,.t 120)]),w 122 117 (.build [z,z,z,z,z,z,z,z] [(0,1,i 3),(1,1,i (-1)),(2,4,.t 121),(7,1,i
 2)]),w 123 117 (.bin .eql (.cells [true,true,true,true,true,true,true,true]) (.t 118) (.t 122)),o 124 (.pick (.t 117) (.t 123) ff),m 125 124,w 126 125 (.mv (.t 8)),w
 127 125 (.un .not (.t 126)),o 128 (.pick (.t 125) (.t 127) ff),m 129 128,w 130 129 (.mv (.t 20)),w 131 129 (.un .not (.t 130)),o 132 (.pick (.t 129) (.t 131) ff),m 22 132])
 (.seq (.reg 16 [o 133 (.ld 6 true (.t 1)),c 134 13 [.t 133],o 135 (.bin .eql .int (.t 134) (i 64)),m 136 135,w 137 136 (.ld 6 true (.t 1)),w 138 136 (.call 15 [.t 137]),w
 139 136 (.bin .eql .int (.t 138) (i 1728)),o 140 (.pick (.t 136) (.t 139) ff),m 141 140,w 142 141 (.ld 6 true (.t 1)),w 143 141 (.call 17 [.t 142]),w 144 141 (.bin .eql .int
 (.t 143) (i 3456)),o 145 (.pick (.t 141) (.t 144) ff),m 146 145,w 147 146 (.ld 5 true (.t 9)),w 148 146 (.build [z,z,z,z,z] [(0,1,i 6),(1,1,i 3),(2,1,i 4),(3,1,
 i 6),(4,1,i 3)]),w 149 146 (.bin .eql (.cells [true,true,true,true,true]) (.t 147) (.t 148)),o 150 (.pick (.t 146) (.t 149) ff),m 23 150]) (.seq (.reg 17 [m 151 22,m
 152 151,w 153 152 (.mv (.t 23)),o 154 (.pick (.t 152) (.t 153) ff),m 155 154,w 156 155 (.mv (.t 21)),w 157 155 (.ia 2 (.t 156) (i 3)),w 158 155 (.ld 2 true (.t 157)),w 159
 155 (.build [z,z] [(0,1,i 3),(1,1,i 3)]),w 160 155 (.bin .eql (.cells [true,true]) (.t 158) (.t 159)),o 161 (.pick (.t 155) (.t 160) ff),m 162 161,w 163 162 (.mv (.t
 21)),w 164 162 (.ia 2 (.t 163) (i 5)),w 165 162 (.ld 2 true (.t 164)),w 166 162 (.build [z,z] [(0,1,i 3),(1,1,i (-2))]),w 167 162 (.bin .eql (.cells [true,true]) (.t
 165) (.t 166)),o 168 (.pick (.t 162) (.t 167) ff),m 169 168,w 170 169 (.ld 6 true (.t 1)),w 171 169 (.ld 6 true (.t 17)),w 172 169 (.call 21 [.t 170,.t 171]),o 173 (.pick
 (.t 169) (.t 172) ff),m 174 173,w 175 174 (.ld 6 true (.t 1)),w 176 174 (.ld 6 true (.t 2)),w 177 174 (.call 21 [.t 175,.t 176]),w 178 174 (.un .not (.t 177)),o 179 (.pick
 (.t 174) (.t 178) ff),m 180 179,w 181 180 (.ld 6 true (.t 1)),w 182 180 (.call 11 [.t 181]),o 183 (.pick (.t 180) (.t 182) ff),m 184 183,w 185 184 (.build [z,z,z,.sl 0
 true [] [],z,z] []),w 186 184 (.call 11 [.t 185]),w 187 184 (.un .not (.t 186)),o 188 (.pick (.t 184) (.t 187) ff),m 0 188]) .ret))))))))))))))))
def rv4:List RV:=[(.t 0)]
theorem ok4:Bl Tryz.prog Tryz.f4=some (ac4,rv4):=by kernel_rfl
theorem nt4:Tryz.f4.ntmps=189:=by kernel_rfl
theorem of4:okF Tryz.prog 4:=⟨Tryz.f4,Tryz.func4,by kernel_rfl,by kernel_rfl⟩
def ac5:AC:= .seq (.reg 0 [o 8 (.box 4 (.t 3)),o 9 (.box 4 (.t 4)),o 10 (.alloc [z,z,z,.sl 0 true [] [],z,z]),o 11 (.alloc [z,z,z,.sl 0 true [] [],z,z])]) (.seq (.reg 1 [m 15 0,m
 16 1,m 17 2,c 18 34 [.t 15,.t 16,.t 17],m 14 18,o 19 (.ext (.t 14) 0),o 20 (.ext (.t 14) 1),m 12 19,m 13 20]) (.seq (.drw 2 [o 21 (.iaA 4 1 (.t 8) (i 0)),o 22 (.ld 1
 false (.t 21)),o 23 (.bin .quo .int (.t 22) (i 8)),m 24 12,o 25 (.ld 4 true (.t 8)),c 26 35 [.t 23,.t 24,.t 25],o 27 (.iaA 4 1 (.t 9) (i 0)),o 28 (.ld 1 false (.t 27)),o
 29 (.bin .quo .int (.t 28) (i 8)),m 30 13,o 31 (.ld 4 true (.t 9)),c 32 35 [.t 29,.t 30,.t 31],u (.st 6 (.t 10) (.t 26)),u (.st 6 (.t 11) (.t 32))] [(5,7),(5,10)])
 .ret))
def rv5:List RV:=[(.c 10 6 true),(.c 11 6 true)]
theorem ok5:Bl Tryz.prog Tryz.f5=some (ac5,rv5):=by kernel_rfl
theorem nt5:Tryz.f5.ntmps=33:=by kernel_rfl
theorem of5:okF Tryz.prog 5:=⟨Tryz.f5,Tryz.func5,by kernel_rfl,by kernel_rfl⟩
def ac6:AC:= .seq (.reg 0 [o 4 (.box 6 (.t 0)),o 8 (.alloc [z,z,z,.sl 0 true [] [],z,z])]) (.seq (.reg 1 [o 9 (.bsl 2 0 [z,z] []),o 10 (.fa 3 (.t 4)),o 11 (.ld 1 false (.t 10)),o 12
 (.app 2 16 [z,z] (.t 9) (.t 11)),o 13 (.fa 3 (.t 4)),u (.st 1 (.t 13) (.t 12))]) (.seq (.seq (.reg 2 [m 14 1,c 15 36 [.t 14,i 6]]) (.block 0 (.seq (.reg 4 [o 25 (.bin .eql
 .int (.t 15) (i 0)),m 24 25]) (.cond (.t 24) (.reg 5 [m 26 2,o 27 (.fa 0 (.t 4)),u (.st 1 (.t 27) (.t 26))]) (.seq (.reg 6 [o 29 (.bin .eql .int (.t 15) (i 1)),m 28 29])
 (.cond (.t 28) (.reg 7 [m 30 2,o 31 (.fa 1 (.t 4)),u (.st 1 (.t 31) (.t 30))]) (.seq (.reg 8 [o 33 (.bin .eql .int (.t 15) (i 2)),m 32 33]) (.cond (.t 32) (.reg 9 [m 34 2,o
 35 (.fa 2 (.t 4)),u (.st 1 (.t 35) (.t 34))]) (.seq (.reg 10 [o 37 (.bin .eql .int (.t 15) (i 3)),m 36 37]) (.cond (.t 36) (.reg 11 [m 38 2,o 39 (.fa 4 (.t 4)),u (.st 1 (.t
 39) (.t 38))]) (.seq (.reg 12 [o 41 (.bin .eql .int (.t 15) (i 4)),m 40 41]) (.cond (.t 40) (.reg 13 [m 42 2,o 43 (.fa 5 (.t 4)),u (.st 1 (.t 43) (.t 42))]) (.reg 3 [o 16 (.fa
 3 (.t 4)),o 17 (.ld 1 false (.t 16)),m 18 3,m 19 2,m 20 1,o 21 (.bin .quo .int (.t 20) (i 6)),c 22 37 [.t 17,.t 18,.t 19,.t 21],o 23 (.fa 3 (.t 4)),u (.st 1 (.t 23)
 (.t 22))]))))))))))))) (.seq (.reg 14 [o 44 (.ld 6 true (.t 4)),u (.st 6 (.t 8) (.t 44))]) .ret)))
def rv6:List RV:=[(.c 8 6 true)]
theorem ok6:Bl Tryz.prog Tryz.f6=some (ac6,rv6):=by kernel_rfl
theorem nt6:Tryz.f6.ntmps=45:=by kernel_rfl
theorem of6:okF Tryz.prog 6:=⟨Tryz.f6,Tryz.func6,by kernel_rfl,by kernel_rfl⟩
def ac7:AC:= .seq (.reg 0 [o 1 (.box 6 (.t 0)),o 2 (.mv (.k (.sl 0 true [] [])))]) (.seq (.seq (.reg 1 [o 6 (.ld 6 true (.t 1)),c 7 11 [.t 6],o 8 (.un .not (.t 7))]) (.cond (.t 8) (.seq
 (.reg 2 [o 2 (.mv (.k (.sl 0 true [] [])))]) .ret) .nop)) (.seq (.reg 3 [o 3 (.alloc [.sl 0 true [] []])]) (.seq (.reg 4 [o 9 (.mkf (.func 38) [] [.t 3,.t 1]),m 4 9]) (.seq
 (.seq (.reg 5 [o 10 (.fa 3 (.t 1)),o 11 (.ld 1 false (.t 10)),o 12 (.len (.t 11)),o 13 (.mv (i 0))]) (.block 0 (.loop (.seq (.reg 6 [o 14 (.bin .lss .int (.t 13) (.t 12))])
 (.seq (.cond (.t 14) .nop (.exit 0)) (.seq (.block 1 (.seq (.reg 7 [m 15 13,m 5 15]) (.reg 8 [m 16 4,m 17 5,o 18 (.bsl 1 1 [z] [(0,.t 17)]),o 19 (.cv (.t 16) [.t 18])])))
 (.reg 9 [o 20 (.bin .add .int (.t 13) (i 1)),m 13 20]))))))) (.seq (.reg 10 [m 21 4,o 22 (.bsl 1 2 [z] [(0,i (-1)),(1,i (-2))]),o 23 (.cv (.t 21) [.t 22])]) (.seq (.reg 11
 [o 24 (.ld 1 false (.t 3)),m 2 24]) .ret))))))
def rv7:List RV:=[(.t 2)]
theorem ok7:Bl Tryz.prog Tryz.f7=some (ac7,rv7):=by kernel_rfl
theorem nt7:Tryz.f7.ntmps=25:=by kernel_rfl
theorem of7:okF Tryz.prog 7:=⟨Tryz.f7,Tryz.func7,by kernel_rfl,by kernel_rfl⟩
def ac8:AC:= .seq (.reg 0 [o 1 (.box 6 (.t 0)),o 2 (.mv (.k (.sl 0 true [] [])))]) (.seq (.seq (.reg 1 [o 5 (.ld 6 true (.t 1)),c 6 12 [.t 5],o 7 (.un .not (.t 6))]) (.cond (.t 7) (.seq
 (.reg 2 [o 2 (.mv (.k (.sl 0 true [] [])))]) .ret) .nop)) (.seq (.reg 3 [o 3 (.mv (.k (.sl 0 true [] [])))]) (.seq (.seq (.reg 4 [o 4 (.mv (i 0))]) (.block 0 (.loop (.seq (.seq
 (.reg 5 [m 8 4,o 9 (.fa 3 (.t 1)),o 10 (.ld 1 false (.t 9)),o 11 (.len (.t 10)),o 12 (.bin .lss .int (.t 8) (.t 11))]) (.cond (.t 12) .nop (.exit 0))) (.seq (.block 1 (.reg 7
 [m 15 3,o 16 (.fa 0 (.t 1)),o 17 (.ld 1 false (.t 16)),m 18 4,o 19 (.build [z,z] [(0,1,.t 17),(1,1,.t 18)]),o 20 (.bsl 2 1 [z,z] [(0,.t 19)]),o 21 (.app 2 16 [z,z]
 (.t 15) (.t 20)),m 3 21])) (.reg 6 [m 13 4,o 14 (.bin .add .int (.t 13) (i 1)),m 4 14])))))) (.seq (.reg 8 [m 22 3,o 23 (.fa 0 (.t 1)),o 24 (.ld 1 false (.t 23)),o 25
 (.build [z,z] [(0,1,.t 24),(1,1,i (-1))]),o 26 (.fa 0 (.t 1)),o 27 (.ld 1 false (.t 26)),o 28 (.build [z,z] [(0,1,.t 27),(1,1,i (-2))]),o 29 (.bsl 2 2 [z,z] [(0,
 .t 25),(1,.t 28)]),o 30 (.app 2 16 [z,z] (.t 22) (.t 29)),m 2 30]) .ret))))
def rv8:List RV:=[(.t 2)]
theorem ok8:Bl Tryz.prog Tryz.f8=some (ac8,rv8):=by kernel_rfl
theorem nt8:Tryz.f8.ntmps=31:=by kernel_rfl
theorem of8:okF Tryz.prog 8:=⟨Tryz.f8,Tryz.func8,by kernel_rfl,by kernel_rfl⟩
def ac9:AC:= .seq (.reg 0 [o 1 (.box 6 (.t 0)),o 2 (.alloc [z,z,z,z,z,z,z,z]),o 3 (.mv ff)]) (.seq (.seq (.reg 1 [o 7 (.ld 6 true (.t 1)),c 8 11 [.t 7],o 9 (.un .not (.t 8))]) (.cond
 (.t 9) (.seq (.reg 2 [o 10 (.build [z,z,z,z,z,z,z,z] []),u (.st 8 (.t 2) (.t 10)),o 3 (.mv ff)]) .ret) .nop)) (.seq (.seq (.reg 3 [o 11 (.fa 3 (.t 1)),o 12 (.ld 1 false
 (.t 11)),o 13 (.len (.t 12)),o 14 (.mv (i 0))]) (.block 0 (.loop (.seq (.reg 4 [o 15 (.bin .lss .int (.t 14) (.t 13))]) (.seq (.cond (.t 15) .nop (.exit 0)) (.seq (.block 1
 (.seq (.reg 5 [m 16 14,o 17 (.ia 2 (.t 12) (.t 14)),o 18 (.ld 2 true (.t 17)),o 5 (.alloc [z,z]),m 4 16,u (.st 2 (.t 5) (.t 18))]) (.seq (.drw 6 [o 19 (.fa 3 (.t 1)),o 20
 (.ld 1 false (.t 19)),m 21 4,o 22 (.bin .add .int (.t 21) (i 1)),o 23 (.fa 3 (.t 1)),o 24 (.ld 1 false (.t 23)),o 25 (.len (.t 24)),o 26 (.bin .rem .int (.t 22) (.t 25)),o
 27 (.ia 2 (.t 20) (.t 26)),o 28 (.ld 2 true (.t 27)),o 6 (.alloc [z,z]),u (.st 2 (.t 6) (.t 28))] [(1,10),(5,10),(6,10),(8,10),(9,10)]) (.seq (.reg 7 [o 29 (.fa 1
 (.t 5)),o 30 (.ld 1 false (.t 29)),o 31 (.bin .eql .int (.t 30) (i 0)),m 32 31,w 33 32 (.fa 1 (.t 6)),w 34 32 (.ld 1 false (.t 33)),w 35 32 (.bin .eql .int (.t 34) (i 0)),
 o 36 (.pick (.t 32) (.t 35) ff)]) (.cond (.t 36) (.seq (.reg 8 [o 37 (.fa 0 (.t 1)),o 38 (.ld 1 false (.t 37)),o 39 (.ld 2 true (.t 5)),o 40 (.ld 2 true (.t 6)),o 41 (.build
 [z,z,z,z] [(0,2,.t 39),(2,2,.t 40)]),o 42 (.fa 4 (.t 1)),o 43 (.ld 1 false (.t 42)),o 44 (.fa 5 (.t 1)),o 45 (.ld 1 false (.t 44)),o 46 (.build [z,z,z,z,z,z,z,
 z] [(0,1,.t 38),(1,1,i (-1)),(2,4,.t 41),(6,1,.t 43),(7,1,.t 45)]),u (.st 8 (.t 2) (.t 46)),o 3 (.mv tt)]) .ret) .nop))))) (.reg 9 [o 47 (.bin .add .int (.t 14)
 (i 1)),m 14 47]))))))) (.seq (.reg 10 [o 48 (.build [z,z,z,z,z,z,z,z] []),u (.st 8 (.t 2) (.t 48)),o 3 (.mv ff)]) .ret)))
def rv9:List RV:=[(.c 2 8 true),(.t 3)]
theorem ok9:Bl Tryz.prog Tryz.f9=some (ac9,rv9):=by kernel_rfl
theorem nt9:Tryz.f9.ntmps=49:=by kernel_rfl
theorem of9:okF Tryz.prog 9:=⟨Tryz.f9,Tryz.func9,by kernel_rfl,by kernel_rfl⟩
def aA:AC:= .seq (.reg 0 [o 1 (.box 6 (.t 0)),o 2 (.alloc [z,z,z,z,z,z,z,z]),o 3 (.mv ff)]) (.seq (.seq (.reg 1 [o 7 (.ld 6 true (.t 1)),c 8 12 [.t 7],o 9 (.un .not (.t 8))]) (.cond
 (.t 9) (.seq (.reg 2 [o 10 (.build [z,z,z,z,z,z,z,z] []),u (.st 8 (.t 2) (.t 10)),o 3 (.mv ff)]) .ret) .nop)) (.seq (.reg 3 [o 4 (.mv (.k (.sl 0 true [] [])))]) (.seq
 (.seq (.reg 4 [o 5 (.mv (i 0))]) (.block 0 (.loop (.seq (.seq (.reg 5 [m 11 5,o 12 (.fa 3 (.t 1)),o 13 (.ld 1 false (.t 12)),o 14 (.len (.t 13)),o 15 (.bin .lss .int (.t 11)
 (.t 14))]) (.cond (.t 15) .nop (.exit 0))) (.seq (.block 1 (.seq (.reg 7 [o 18 (.fa 3 (.t 1)),o 19 (.ld 1 false (.t 18)),m 20 5,o 21 (.ia 2 (.t 19) (.t 20)),o 22 (.fa 1 (.t
 21)),o 23 (.ld 1 false (.t 22)),o 24 (.bin .eql .int (.t 23) (i 0))]) (.cond (.t 24) (.reg 8 [m 25 4,o 26 (.fa 3 (.t 1)),o 27 (.ld 1 false (.t 26)),m 28 5,o 29 (.ia 2 (.t
 27) (.t 28)),o 30 (.ld 2 true (.t 29)),o 31 (.bsl 2 1 [z,z] [(0,.t 30)]),o 32 (.app 2 16 [z,z] (.t 25) (.t 31)),m 4 32]) .nop))) (.reg 6 [m 16 5,o 17 (.bin .add .int (.t
 16) (i 1)),m 5 17])))))) (.seq (.seq (.reg 9 [m 33 4,o 34 (.len (.t 33)),o 35 (.bin .neq .int (.t 34) (i 2))]) (.cond (.t 35) (.seq (.reg 10 [o 36 (.build [z,z,z,z,z,z,
 z,z] []),u (.st 8 (.t 2) (.t 36)),o 3 (.mv ff)]) .ret) .nop)) (.seq (.drw 11 [m 37 4,o 38 (.ia 2 (.t 37) (i 0)),o 39 (.ld 2 true (.t 38)),m 40 4,o 41 (.ia 2 (.t 40) (i
 1)),o 42 (.ld 2 true (.t 41)),o 43 (.build [z,z,z,z] [(0,2,.t 39),(2,2,.t 42)]),o 6 (.alloc [z,z,z,z]),u (.st 4 (.t 6) (.t 43))] [(1,7),(2,7),(4,7),(5,7)])
 (.seq (.seq (.drw 12 [m 44 4,o 45 (.ia 2 (.t 44) (i 0)),o 46 (.fa 0 (.t 45)),o 47 (.ld 1 false (.t 46)),m 48 4,o 49 (.ia 2 (.t 48) (i 1)),o 50 (.fa 0 (.t 49)),o 51 (.ld 1
 false (.t 50)),o 52 (.bin .gtr .int (.t 47) (.t 51))] []) (.cond (.t 52) (.drw 13 [m 53 4,o 54 (.ia 2 (.t 53) (i 1)),o 55 (.ld 2 true (.t 54)),m 56 4,o 57 (.ia 2 (.t 56) (i
 0)),o 58 (.ld 2 true (.t 57)),o 59 (.build [z,z,z,z] [(0,2,.t 55),(2,2,.t 58)]),u (.st 4 (.t 6) (.t 59))] []) .nop)) (.seq (.reg 14 [o 60 (.fa 0 (.t 1)),o 61 (.ld 1
 false (.t 60)),o 62 (.ld 4 true (.t 6)),o 63 (.fa 4 (.t 1)),o 64 (.ld 1 false (.t 63)),o 65 (.fa 5 (.t 1)),o 66 (.ld 1 false (.t 65)),o 67 (.build [z,z,z,z,z,z,z,z]
 [(0,1,.t 61),(1,1,i (-1)),(2,4,.t 62),(6,1,.t 64),(7,1,.t 66)]),u (.st 8 (.t 2) (.t 67)),o 3 (.mv tt)]) .ret)))))))
def aB:List RV:=[(.c 2 8 true),(.t 3)]
theorem lS:Bl Tryz.prog Tryz.f10=some (aA,aB):=by kernel_rfl
theorem lT:Tryz.f10.ntmps=68:=by kernel_rfl
theorem lU:okF Tryz.prog 10:=⟨Tryz.f10,Tryz.func10,by kernel_rfl,by kernel_rfl⟩
def aC:AC:= .seq (.reg 0 [o 1 (.box 6 (.t 0)),o 2 (.mv ff)]) (.seq (.reg 1 [o 4 (.fa 0 (.t 1)),o 5 (.ld 1 false (.t 4)),c 6 39 [.t 5,i 0,i 99],m 7 6,w 8 7 (.fa 1 (.t 1)),w 9 7 (.ld 1
 false (.t 8)),w 10 7 (.call 39 [.t 9,i 1,i 8]),o 11 (.pick (.t 7) (.t 10) ff),m 12 11,w 13 12 (.fa 2 (.t 1)),w 14 12 (.ld 1 false (.t 13)),w 15 12 (.call 39 [.t 14,i 0,
 i 7]),o 16 (.pick (.t 12) (.t 15) ff),m 3 16]) (.seq (.reg 2 [m 17 3,m 18 17,w 19 18 (.fa 4 (.t 1)),w 20 18 (.ld 1 false (.t 19)),w 21 18 (.bin .leq .int (i 0) (.t 20)),o
 22 (.pick (.t 18) (.t 21) ff),m 23 22,w 24 23 (.fa 4 (.t 1)),w 25 23 (.ld 1 false (.t 24)),w 26 23 (.fa 5 (.t 1)),w 27 23 (.ld 1 false (.t 26)),w 28 23 (.bin .lss .int (.t
 25) (.t 27)),o 29 (.pick (.t 23) (.t 28) ff),m 30 29,w 31 30 (.fa 5 (.t 1)),w 32 30 (.ld 1 false (.t 31)),w 33 30 (.bin .leq .int (.t 32) (i 8)),o 34 (.pick (.t 30) (.t 33)
 ff),m 35 34,w 36 35 (.fa 3 (.t 1)),w 37 35 (.ld 1 false (.t 36)),w 38 35 (.call 40 [.t 37]),o 39 (.pick (.t 35) (.t 38) ff),m 2 39]) .ret))
def aD:List RV:=[(.t 2)]
theorem lV:Bl Tryz.prog Tryz.f11=some (aC,aD):=by kernel_rfl
theorem lW:Tryz.f11.ntmps=40:=by kernel_rfl
theorem lX:okF Tryz.prog 11:=⟨Tryz.f11,Tryz.func11,by kernel_rfl,by kernel_rfl⟩
def aE:AC:= .seq (.reg 0 [o 1 (.box 6 (.t 0)),o 2 (.mv ff)]) (.seq (.seq (.reg 1 [o 3 (.fa 0 (.t 1)),o 4 (.ld 1 false (.t 3)),o 5 (.bin .lss .int (.t 4) (i 0)),m 6 5,v 7 6 (.fa 0 (.t 1)),
 v 8 6 (.ld 1 false (.t 7)),v 9 6 (.bin .gtr .int (.t 8) (i 99)),o 10 (.pick (.t 6) tt (.t 9)),m 11 10,v 12 11 (.fa 1 (.t 1)),v 13 11 (.ld 1 false (.t 12)),v 14 11 (.bin
 .lss .int (.t 13) (i 1)),o 15 (.pick (.t 11) tt (.t 14)),m 16 15,v 17 16 (.fa 1 (.t 1)),v 18 16 (.ld 1 false (.t 17)),v 19 16 (.bin .gtr .int (.t 18) (i 8)),o 20 (.pick (.t
 16) tt (.t 19)),m 21 20,v 22 21 (.fa 2 (.t 1)),v 23 21 (.ld 1 false (.t 22)),v 24 21 (.bin .lss .int (.t 23) (i 0)),o 25 (.pick (.t 21) tt (.t 24)),m 26 25,v 27 26 (.fa 2
 (.t 1)),v 28 26 (.ld 1 false (.t 27)),v 29 26 (.bin .gtr .int (.t 28) (i 7)),o 30 (.pick (.t 26) tt (.t 29))]) (.cond (.t 30) (.seq (.reg 2 [o 2 (.mv ff)]) .ret) .nop)) (.seq
 (.reg 3 [o 31 (.fa 4 (.t 1)),o 32 (.ld 1 false (.t 31)),o 33 (.bin .geq .int (.t 32) (i 0)),m 34 33,w 35 34 (.fa 4 (.t 1)),w 36 34 (.ld 1 false (.t 35)),w 37 34 (.fa 5 (.t
 1)),w 38 34 (.ld 1 false (.t 37)),w 39 34 (.bin .lss .int (.t 36) (.t 38)),o 40 (.pick (.t 34) (.t 39) ff),m 41 40,w 42 41 (.fa 5 (.t 1)),w 43 41 (.ld 1 false (.t 42)),w
 44 41 (.bin .leq .int (.t 43) (i 8)),o 45 (.pick (.t 41) (.t 44) ff),m 46 45,w 47 46 (.fa 3 (.t 1)),w 48 46 (.ld 1 false (.t 47)),w 49 46 (.call 41 [.t 48]),o 50 (.pick (.t
 46) (.t 49) ff),m 2 50]) .ret))
def aF:List RV:=[(.t 2)]
theorem lY:Bl Tryz.prog Tryz.f12=some (aE,aF):=by kernel_rfl
theorem lZ:Tryz.f12.ntmps=51:=by kernel_rfl
theorem mA:okF Tryz.prog 12:=⟨Tryz.f12,Tryz.func12,by kernel_rfl,by kernel_rfl⟩
def aG:AC:= .seq (.reg 0 [o 1 (.box 6 (.t 0)),o 2 (.mv (i 0))]) (.seq (.drw 1 [o 3 (.fa 3 (.t 1)),o 4 (.ld 1 false (.t 3)),c 5 42 [.t 4],o 6 (.ld 6 true (.t 1)),c 7 43 [.t 6],o 8 (.bin
 .mul .int (.t 5) (.t 7)),m 2 8] [(2,3)]) .ret)
def aH:List RV:=[(.t 2)]
theorem mB:Bl Tryz.prog Tryz.f13=some (aG,aH):=by kernel_rfl
theorem mC:Tryz.f13.ntmps=9:=by kernel_rfl
theorem mD:okF Tryz.prog 13:=⟨Tryz.f13,Tryz.func13,by kernel_rfl,by kernel_rfl⟩
def aI:AC:= .seq (.reg 0 [o 1 (.box 6 (.t 0)),o 2 (.mv (i 0))]) (.seq (.seq (.reg 1 [o 3 (.ld 6 true (.t 1)),c 4 12 [.t 3],o 5 (.un .not (.t 4))]) (.cond (.t 5) (.seq (.reg 2 [o 2 (.mv (i
 0))]) .ret) .nop)) (.seq (.drw 3 [o 6 (.fa 3 (.t 1)),o 7 (.ld 1 false (.t 6)),c 8 44 [.t 7],o 9 (.fa 5 (.t 1)),o 10 (.ld 1 false (.t 9)),o 11 (.fa 4 (.t 1)),o 12 (.ld 1
 false (.t 11)),o 13 (.bin .sub .int (.t 10) (.t 12)),o 14 (.bin .mul .int (.t 8) (.t 13)),m 2 14] [(2,4),(2,6)]) .ret))
def aJ:List RV:=[(.t 2)]
theorem mE:Bl Tryz.prog Tryz.f14=some (aI,aJ):=by kernel_rfl
theorem mF:Tryz.f14.ntmps=15:=by kernel_rfl
theorem mG:okF Tryz.prog 14:=⟨Tryz.f14,Tryz.func14,by kernel_rfl,by kernel_rfl⟩
def aK:AC:= .seq (.reg 0 [o 1 (.box 6 (.t 0)),o 2 (.mv (i 0))]) (.seq (.drw 1 [o 3 (.ld 6 true (.t 1)),c 4 13 [.t 3],o 5 (.bin .mul .int (i 3) (.t 4)),o 6 (.ld 6 true (.t 1)),c 7 45 [.t
 6],o 8 (.bin .mul .int (.t 5) (.t 7)),m 2 8] [(1,3)]) .ret)
def aL:List RV:=[(.t 2)]
theorem mH:Bl Tryz.prog Tryz.f15=some (aK,aL):=by kernel_rfl
theorem mI:Tryz.f15.ntmps=9:=by kernel_rfl
theorem mJ:okF Tryz.prog 15:=⟨Tryz.f15,Tryz.func15,by kernel_rfl,by kernel_rfl⟩
def aM:AC:= .seq (.reg 0 [o 1 (.box 6 (.t 0)),o 2 (.mv (i 0))]) (.seq (.reg 1 [o 6 (.fa 2 (.t 1)),o 7 (.ld 1 false (.t 6)),c 8 30 [.t 7],m 5 8,o 9 (.ext (.t 5) 0),o 10 (.ext (.t 5) 1),o
 3 (.alloc [z,z,z,z,z]),u (.st 5 (.t 3) (.t 9)),m 4 10]) (.seq (.drw 2 [o 11 (.ld 6 true (.t 1)),c 12 14 [.t 11],o 13 (.bin .mul .int (i 3) (.t 12)),o 14 (.fa 0 (.t 3)),
 o 15 (.ld 1 false (.t 14)),o 16 (.bin .mul .int (.t 13) (.t 15)),m 2 16] [(1,4)]) .ret))
def aN:List RV:=[(.t 2)]
theorem mK:Bl Tryz.prog Tryz.f16=some (aM,aN):=by kernel_rfl
theorem mL:Tryz.f16.ntmps=17:=by kernel_rfl
theorem mM:okF Tryz.prog 16:=⟨Tryz.f16,Tryz.func16,by kernel_rfl,by kernel_rfl⟩
def aO:AC:= .seq (.reg 0 [o 1 (.box 6 (.t 0)),o 2 (.mv (i 0))]) (.seq (.reg 1 [o 6 (.fa 3 (.t 1)),o 7 (.ld 1 false (.t 6)),c 8 46 [.t 7],m 5 8,o 9 (.ext (.t 5) 0),o 10 (.ext (.t 5) 1),m
 3 9,m 4 10]) (.seq (.drw 2 [m 11 3,o 12 (.ld 6 true (.t 1)),c 13 43 [.t 12],o 14 (.bin .mul .int (.t 11) (.t 13)),o 15 (.ld 6 true (.t 1)),c 16 45 [.t 15],o 17 (.bin .mul
 .int (.t 14) (.t 16)),m 2 17] [(2,4)]) .ret))
def aP:List RV:=[(.t 2)]
theorem mN:Bl Tryz.prog Tryz.f17=some (aO,aP):=by kernel_rfl
theorem mO:Tryz.f17.ntmps=18:=by kernel_rfl
theorem mP:okF Tryz.prog 17:=⟨Tryz.f17,Tryz.func17,by kernel_rfl,by kernel_rfl⟩
def aQ:AC:= .seq (.reg 0 [o 1 (.box 6 (.t 0)),o 2 (.mv (i 0))]) (.seq (.seq (.reg 1 [o 7 (.ld 6 true (.t 1)),c 8 12 [.t 7],o 9 (.un .not (.t 8))]) (.cond (.t 9) (.seq (.reg 2 [o 2 (.mv (i
 0))]) .ret) .nop)) (.seq (.reg 3 [o 11 (.fa 2 (.t 1)),o 12 (.ld 1 false (.t 11)),c 13 30 [.t 12],m 10 13,o 14 (.ext (.t 10) 0),o 15 (.ext (.t 10) 1),o 3 (.alloc [z,z,z,
 z,z]),u (.st 5 (.t 3) (.t 14)),m 4 15]) (.seq (.reg 4 [o 17 (.fa 3 (.t 1)),o 18 (.ld 1 false (.t 17)),c 19 47 [.t 18],m 16 19,o 20 (.ext (.t 16) 0),o 21 (.ext (.t 16) 1),
 m 5 20,m 6 21]) (.seq (.reg 5 [m 22 5,o 23 (.fa 5 (.t 1)),o 24 (.ld 1 false (.t 23)),o 25 (.fa 4 (.t 1)),o 26 (.ld 1 false (.t 25)),o 27 (.bin .sub .int (.t 24) (.t 26)),o
 28 (.bin .mul .int (.t 22) (.t 27)),o 29 (.fa 0 (.t 3)),o 30 (.ld 1 false (.t 29)),o 31 (.bin .mul .int (.t 28) (.t 30)),m 2 31]) .ret))))
def aR:List RV:=[(.t 2)]
theorem mQ:Bl Tryz.prog Tryz.f18=some (aQ,aR):=by kernel_rfl
theorem mR:Tryz.f18.ntmps=32:=by kernel_rfl
theorem mS:okF Tryz.prog 18:=⟨Tryz.f18,Tryz.func18,by kernel_rfl,by kernel_rfl⟩
def aS:AC:= .seq (.reg 0 [o 2 (.box 6 (.t 0)),o 3 (.box 6 (.t 1)),o 4 (.alloc [z,z,z,z,z,z,z,z]),o 5 (.mv ff)]) (.seq (.reg 1 [o 12 (.ld 6 true (.t 2)),o 13 (.ld 6 true (.t 3)),c
 14 48 [.t 12,.t 13],m 11 14,o 15 (.ext (.t 11) 0),o 16 (.ext (.t 11) 1),o 17 (.ext (.t 11) 2),m 6 15,m 7 16,m 8 17]) (.seq (.seq (.reg 2 [m 18 8,o 19 (.un .not (.t
 18))]) (.cond (.t 19) (.seq (.reg 3 [o 20 (.build [z,z,z,z,z,z,z,z] []),u (.st 8 (.t 4) (.t 20)),o 5 (.mv ff)]) .ret) .nop)) (.seq (.reg 4 [o 22 (.fa 3 (.t 2)),o 23
 (.ld 1 false (.t 22)),o 24 (.fa 3 (.t 3)),o 25 (.ld 1 false (.t 24)),c 26 49 [.t 23,.t 25],m 21 26,o 27 (.ext (.t 21) 0),o 28 (.ext (.t 21) 1),o 9 (.alloc [z,z,z,z]),
 u (.st 4 (.t 9) (.t 27)),m 10 28]) (.seq (.seq (.reg 5 [m 29 10,o 30 (.un .not (.t 29))]) (.cond (.t 30) (.seq (.reg 6 [o 31 (.build [z,z,z,z,z,z,z,z] []),u (.st 8 (.t
 4) (.t 31)),o 5 (.mv ff)]) .ret) .nop)) (.seq (.reg 7 [o 32 (.fa 0 (.t 2)),o 33 (.ld 1 false (.t 32)),o 34 (.fa 0 (.t 3)),o 35 (.ld 1 false (.t 34)),o 36 (.ld 4 true (.t
 9)),m 37 6,m 38 7,o 39 (.build [z,z,z,z,z,z,z,z] [(0,1,.t 33),(1,1,.t 35),(2,4,.t 36),(6,1,.t 37),(7,1,.t 38)]),u (.st 8 (.t 4) (.t 39)),o 5 (.mv tt)])
 .ret)))))
def aT:List RV:=[(.c 4 8 true),(.t 5)]
theorem mT:Bl Tryz.prog Tryz.f19=some (aS,aT):=by kernel_rfl
theorem mU:Tryz.f19.ntmps=40:=by kernel_rfl
theorem mV:okF Tryz.prog 19:=⟨Tryz.f19,Tryz.func19,by kernel_rfl,by kernel_rfl⟩
def aU:AC:= .seq (.reg 0 [o 2 (.box 6 (.t 0)),o 3 (.box 6 (.t 1)),o 4 (.alloc [z,z,z,z,z,z,z,z]),o 5 (.mv ff)]) (.seq (.seq (.reg 1 [o 8 (.ld 6 true (.t 2)),o 9 (.ld 6 true (.t 3)),
 c 10 50 [.t 8,.t 9],o 11 (.un .not (.t 10))]) (.cond (.t 11) (.seq (.reg 2 [o 12 (.build [z,z,z,z,z,z,z,z] []),u (.st 8 (.t 4) (.t 12)),o 5 (.mv ff)]) .ret) .nop))
 (.seq (.reg 3 [o 14 (.fa 3 (.t 2)),o 15 (.ld 1 false (.t 14)),o 16 (.fa 3 (.t 3)),o 17 (.ld 1 false (.t 16)),c 18 51 [.t 15,.t 17],m 13 18,o 19 (.ext (.t 13) 0),o 20
 (.ext (.t 13) 1),o 6 (.alloc [z,z,z,z]),u (.st 4 (.t 6) (.t 19)),m 7 20]) (.seq (.seq (.reg 4 [m 21 7,o 22 (.un .not (.t 21))]) (.cond (.t 22) (.seq (.reg 5 [o 23 (.build
 [z,z,z,z,z,z,z,z] []),u (.st 8 (.t 4) (.t 23)),o 5 (.mv ff)]) .ret) .nop)) (.seq (.reg 6 [o 24 (.fa 0 (.t 2)),o 25 (.ld 1 false (.t 24)),o 26 (.fa 0 (.t 3)),o 27 (.ld
 1 false (.t 26)),o 28 (.ld 4 true (.t 6)),o 29 (.fa 4 (.t 2)),o 30 (.ld 1 false (.t 29)),o 31 (.fa 4 (.t 3)),o 32 (.ld 1 false (.t 31)),o 33 (.mm true [.t 30,.t 32]),o 34
 (.fa 5 (.t 2)),o 35 (.ld 1 false (.t 34)),o 36 (.fa 5 (.t 3)),o 37 (.ld 1 false (.t 36)),o 38 (.mm false [.t 35,.t 37]),o 39 (.build [z,z,z,z,z,z,z,z] [(0,1,.t
 25),(1,1,.t 27),(2,4,.t 28),(6,1,.t 33),(7,1,.t 38)]),u (.st 8 (.t 4) (.t 39)),o 5 (.mv tt)]) .ret))))
def aV:List RV:=[(.c 4 8 true),(.t 5)]
theorem mW:Bl Tryz.prog Tryz.f20=some (aU,aV):=by kernel_rfl
theorem mX:Tryz.f20.ntmps=40:=by kernel_rfl
theorem mY:okF Tryz.prog 20:=⟨Tryz.f20,Tryz.func20,by kernel_rfl,by kernel_rfl⟩
def aW:AC:= .seq (.reg 0 [o 2 (.box 6 (.t 0)),o 3 (.box 6 (.t 1)),o 4 (.mv ff)]) (.seq (.reg 1 [o 9 (.ld 6 true (.t 2)),o 10 (.ld 6 true (.t 3)),c 11 48 [.t 9,.t 10],m 8 11,o 12 (.ext
 (.t 8) 0),o 13 (.ext (.t 8) 1),o 14 (.ext (.t 8) 2),m 5 12,m 6 13,m 7 14]) (.seq (.reg 2 [m 15 7,m 16 15,w 17 16 (.fa 3 (.t 2)),w 18 16 (.ld 1 false (.t 17)),w 19 16
 (.fa 3 (.t 3)),w 20 16 (.ld 1 false (.t 19)),w 21 16 (.call 52 [.t 18,.t 20]),o 22 (.pick (.t 16) (.t 21) ff),m 4 22]) .ret))
def aX:List RV:=[(.t 4)]
theorem mZ:Bl Tryz.prog Tryz.f21=some (aW,aX):=by kernel_rfl
theorem nA:Tryz.f21.ntmps=23:=by kernel_rfl
theorem nB:okF Tryz.prog 21:=⟨Tryz.f21,Tryz.func21,by kernel_rfl,by kernel_rfl⟩
def aY:AC:= .seq (.reg 0 [o 2 (.box 6 (.t 0)),o 3 (.box 6 (.t 1)),o 4 (.mv ff)]) (.seq (.reg 1 [o 5 (.ld 6 true (.t 2)),o 6 (.ld 6 true (.t 3)),c 7 50 [.t 5,.t 6],m 8 7,w 9 8 (.fa 3 (.t
 2)),w 10 8 (.ld 1 false (.t 9)),w 11 8 (.fa 3 (.t 3)),w 12 8 (.ld 1 false (.t 11)),w 13 8 (.call 53 [.t 10,.t 12]),o 14 (.pick (.t 8) (.t 13) ff),m 4 14]) .ret)
def aZ:List RV:=[(.t 4)]
theorem nC:Bl Tryz.prog Tryz.f22=some (aY,aZ):=by kernel_rfl
theorem nD:Tryz.f22.ntmps=15:=by kernel_rfl
theorem nE:okF Tryz.prog 22:=⟨Tryz.f22,Tryz.func22,by kernel_rfl,by kernel_rfl⟩
def bA:AC:= .seq (.reg 0 [o 4 (.mv (i 0))]) (.seq (.seq (.reg 1 [m 5 0,o 6 (.bin .lss .int (.t 5) (i 0))]) (.cond (.t 6) (.reg 2 [m 7 0,o 8 (.bin .add .int (.t 7) (i 1)),o 9 (.un .neg (.t
 8)),m 0 9]) .nop)) (.seq (.reg 3 [m 10 0,m 11 1,o 12 (.bin .rem .int (.t 10) (.t 11)),m 4 12]) .ret))
def bB:List RV:=[(.t 4)]
theorem nF:Bl Tryz.prog Tryz.f23=some (bA,bB):=by kernel_rfl
theorem nG:Tryz.f23.ntmps=13:=by kernel_rfl
theorem nH:okF Tryz.prog 23:=⟨Tryz.f23,Tryz.func23,by kernel_rfl,by kernel_rfl⟩
def bC:AC:= .seq (.reg 0 [o 3 (.box 6 (.t 0)),o 6 (.alloc [z,z,z,.sl 0 true [] [],z,z]),o 7 (.mv (i 0))]) (.seq (.reg 1 [o 11 (.fa 3 (.t 3)),o 12 (.ld 1 false (.t 11)),m 13 1,m 14 2,
 c 15 54 [.t 12,.t 13,.t 14],m 10 15,o 16 (.ext (.t 10) 0),o 17 (.ext (.t 10) 1),m 8 16,m 9 17]) (.seq (.seq (.reg 2 [m 18 9,o 19 (.bin .neq .int (.t 18) (i 0)),m 20 19,
 v 21 20 (.ld 6 true (.t 3)),v 22 20 (.call 11 [.t 21]),v 23 20 (.un .not (.t 22)),o 24 (.pick (.t 20) tt (.t 23))]) (.cond (.t 24) (.seq (.reg 3 [o 25 (.build [z,z,z,.sl 0
 true [] [],z,z] []),u (.st 6 (.t 6) (.t 25)),o 7 (.mv (i 80))]) .ret) .nop)) (.seq (.reg 4 [m 26 8,o 27 (.fa 3 (.t 3)),u (.st 1 (.t 27) (.t 26))]) (.seq (.reg 5 [o 28 (.ld
 6 true (.t 3)),u (.st 6 (.t 6) (.t 28)),o 7 (.mv (i 0))]) .ret))))
def bD:List RV:=[(.c 6 6 true),(.t 7)]
theorem nI:Bl Tryz.prog Tryz.f24=some (bC,bD):=by kernel_rfl
theorem nJ:Tryz.f24.ntmps=29:=by kernel_rfl
theorem nK:okF Tryz.prog 24:=⟨Tryz.f24,Tryz.func24,by kernel_rfl,by kernel_rfl⟩
def bE:AC:= .seq (.reg 0 [o 3 (.box 6 (.t 0)),o 6 (.alloc [z,z,z,.sl 0 true [] [],z,z]),o 7 (.mv (i 0))]) (.seq (.seq (.reg 1 [o 10 (.ld 6 true (.t 3)),c 11 12 [.t 10],o 12 (.un .not
 (.t 11))]) (.cond (.t 12) (.seq (.reg 2 [o 13 (.build [z,z,z,.sl 0 true [] [],z,z] []),u (.st 6 (.t 6) (.t 13)),o 7 (.mv (i 80))]) .ret) .nop)) (.seq (.reg 3 [o 15 (.fa 3
 (.t 3)),o 16 (.ld 1 false (.t 15)),m 17 1,m 18 2,c 19 55 [.t 16,.t 17,.t 18],m 14 19,o 20 (.ext (.t 14) 0),o 21 (.ext (.t 14) 1),m 8 20,m 9 21]) (.seq (.seq (.reg 4 [m
 22 9,o 23 (.bin .neq .int (.t 22) (i 0))]) (.cond (.t 23) (.seq (.reg 5 [o 24 (.build [z,z,z,.sl 0 true [] [],z,z] []),u (.st 6 (.t 6) (.t 24)),o 7 (.mv (i 80))]) .ret)
 .nop)) (.seq (.reg 6 [m 25 8,o 26 (.fa 3 (.t 3)),u (.st 1 (.t 26) (.t 25))]) (.seq (.reg 7 [o 27 (.ld 6 true (.t 3)),u (.st 6 (.t 6) (.t 27)),o 7 (.mv (i 0))]) .ret)))))
def bF:List RV:=[(.c 6 6 true),(.t 7)]
theorem nL:Bl Tryz.prog Tryz.f25=some (bE,bF):=by kernel_rfl
theorem nN:Tryz.f25.ntmps=28:=by kernel_rfl
theorem nP:okF Tryz.prog 25:=⟨Tryz.f25,Tryz.func25,by kernel_rfl,by kernel_rfl⟩
def bG:AC:= .seq (.reg 0 [o 2 (.box 6 (.t 0)),o 3 (.box 6 (.t 1)),o 4 (.mv ff)]) (.seq (.seq (.reg 1 [o 6 (.fa 0 (.t 2)),o 7 (.ld 1 false (.t 6)),o 8 (.fa 0 (.t 3)),o 9 (.ld 1 false (.t
 8)),o 10 (.bin .neq .int (.t 7) (.t 9)),m 11 10,v 12 11 (.fa 1 (.t 2)),v 13 11 (.ld 1 false (.t 12)),v 14 11 (.fa 1 (.t 3)),v 15 11 (.ld 1 false (.t 14)),v 16 11 (.bin
 .neq .int (.t 13) (.t 15)),o 17 (.pick (.t 11) tt (.t 16)),m 18 17,v 19 18 (.fa 2 (.t 2)),v 20 18 (.ld 1 false (.t 19)),v 21 18 (.fa 2 (.t 3)),v 22 18 (.ld 1 false (.t
 21)),v 23 18 (.bin .neq .int (.t 20) (.t 22)),o 24 (.pick (.t 18) tt (.t 23)),m 25 24,v 26 25 (.fa 4 (.t 2)),v 27 25 (.ld 1 false (.t 26)),v 28 25 (.fa 4 (.t 3)),v 29 25
 (.ld 1 false (.t 28)),v 30 25 (.bin .neq .int (.t 27) (.t 29)),o 31 (.pick (.t 25) tt (.t 30)),m 32 31,v 33 32 (.fa 5 (.t 2)),v 34 32 (.ld 1 false (.t 33)),v 35 32 (.fa 5
 (.t 3)),v 36 32 (.ld 1 false (.t 35)),v 37 32 (.bin .neq .int (.t 34) (.t 36)),o 38 (.pick (.t 32) tt (.t 37)),m 39 38,v 40 39 (.fa 3 (.t 2)),v 41 39 (.ld 1 false (.t 40)),
 v 42 39 (.len (.t 41)),v 43 39 (.fa 3 (.t 3)),v 44 39 (.ld 1 false (.t 43)),v 45 39 (.len (.t 44)),v 46 39 (.bin .neq .int (.t 42) (.t 45)),o 47 (.pick (.t 39) tt (.t 46))])
 (.cond (.t 47) (.seq (.reg 2 [o 4 (.mv ff)]) .ret) .nop)) (.seq (.seq (.reg 3 [o 5 (.mv (i 0))]) (.block 0 (.loop (.seq (.seq (.reg 4 [m 48 5,o 49 (.fa 3 (.t 2)),o 50 (.ld 1
 false (.t 49)),o 51 (.len (.t 50)),o 52 (.bin .lss .int (.t 48) (.t 51))]) (.cond (.t 52) .nop (.exit 0))) (.seq (.block 1 (.seq (.drw 6 [o 55 (.fa 3 (.t 2)),o 56 (.ld 1 false
 (.t 55)),m 57 5,o 58 (.ia 2 (.t 56) (.t 57)),o 59 (.ld 2 true (.t 58)),o 60 (.fa 3 (.t 3)),o 61 (.ld 1 false (.t 60)),m 62 5,o 63 (.ia 2 (.t 61) (.t 62)),o 64 (.ld 2 true
 (.t 63)),o 65 (.bin .neq (.cells [true,true]) (.t 59) (.t 64))] []) (.cond (.t 65) (.seq (.reg 7 [o 4 (.mv ff)]) .ret) .nop))) (.reg 5 [m 53 5,o 54 (.bin .add .int (.t 53) (i
 1)),m 5 54])))))) (.seq (.reg 8 [o 4 (.mv tt)]) .ret)))
def bH:List RV:=[(.t 4)]
theorem nQ:Bl Tryz.prog Tryz.f26=some (bG,bH):=by kernel_rfl
theorem nR:Tryz.f26.ntmps=66:=by kernel_rfl
theorem nS:okF Tryz.prog 26:=⟨Tryz.f26,Tryz.func26,by kernel_rfl,by kernel_rfl⟩
def bI:AC:= .seq (.reg 0 [o 2 (.alloc [z,z,z,z,z]),o 3 (.mv (i 0))]) (.seq (.seq (.reg 1 [m 4 0,c 5 39 [.t 4,i 0,i 7],o 6 (.un .not (.t 5))]) (.cond (.t 6) (.seq (.reg 2 [o 7 (.build
 [z,z,z,z,z] []),u (.st 5 (.t 2) (.t 7)),o 3 (.mv (i 80))]) .ret) .nop)) (.seq (.reg 3 [m 8 0,o 9 (.iaA 8 5 (.k (.v (.pointer (some ⟨0,0,none⟩)))) (.t 8)),o 10 (.ld 5
 true (.t 9)),u (.st 5 (.t 2) (.t 10)),o 3 (.mv (i 0))]) .ret))
def bJ:List RV:=[(.c 2 5 true),(.t 3)]
theorem nT:Bl Tryz.prog Tryz.f29=some (bI,bJ):=by kernel_rfl
theorem nU:Tryz.f29.ntmps=11:=by kernel_rfl
theorem nV:okF Tryz.prog 29:=⟨Tryz.f29,Tryz.func29,by kernel_rfl,by kernel_rfl⟩
def bK:AC:= .seq (.reg 0 [o 2 (.alloc [z,z,z,z,z]),o 3 (.mv (i 0))]) (.seq (.reg 1 [o 5 (.build [z,z,z,z,z] [(0,1,i 9),(1,1,i 3),(2,1,i 9),(3,1,i 1)]),o 6 (.build [z,z,
 z,z,z] [(0,1,i 8),(1,1,i 3),(2,1,i 6),(3,1,i 4),(4,1,i 1)]),o 7 (.build [z,z,z,z,z] [(0,1,i 7),(1,1,i 3),(2,1,i 5),(3,1,i 5),(4,1,i 1)]),o 8
 (.build [z,z,z,z,z] [(0,1,i 6),(1,1,i 3),(2,1,i 4),(3,1,i 6),(4,1,i 3)]),o 9 (.build [z,z,z,z,z] [(0,1,i 3),(1,1,i 2),(2,1,i 5),(3,1,i 3)]),o
 10 (.build [z,z,z,z,z] [(0,1,i 5),(1,1,i 2),(2,1,i 2),(3,1,i 7),(4,1,i 1)]),o 11 (.build [z,z,z,z,z] [(0,1,i 8),(1,1,i 3),(2,1,i 8),(3,1,i 1),
 (4,1,i 4)]),o 12 (.build [z,z,z,z,z] [(0,1,i 10),(1,1,i 1),(2,1,i 9)]),o 13 (.bsl 5 8 [z,z,z,z,z] [(0,.t 5),(1,.t 6),(2,.t 7),(3,.t 8),(4,.t 9),(5,
 .t 10),(6,.t 11),(7,.t 12)]),m 4 13]) (.seq (.seq (.reg 2 [m 14 0,o 15 (.bin .lss .int (.t 14) (i 0)),m 16 15,v 17 16 (.mv (.t 0)),v 18 16 (.bin .gtr .int (.t 17) (i
 7)),o 19 (.pick (.t 16) tt (.t 18))]) (.cond (.t 19) (.seq (.reg 3 [o 20 (.build [z,z,z,z,z] []),u (.st 5 (.t 2) (.t 20)),o 3 (.mv (i 80))]) .ret) .nop)) (.seq (.reg 4 [m
 21 4,m 22 0,o 23 (.ia 5 (.t 21) (.t 22)),o 24 (.ld 5 true (.t 23)),u (.st 5 (.t 2) (.t 24)),o 3 (.mv (i 0))]) .ret)))
def bM:List RV:=[(.c 2 5 true),(.t 3)]
theorem nW:Bl Tryz.prog Tryz.f30=some (bK,bM):=by kernel_rfl
theorem nX:Tryz.f30.ntmps=25:=by kernel_rfl
theorem nY:okF Tryz.prog 30:=⟨Tryz.f30,Tryz.func30,by kernel_rfl,by kernel_rfl⟩
def bN:AC:= .seq (.reg 0 [o 0 (.alloc [z,z,z,.sl 0 true [] [],z,z]),o 1 (.alloc [z,z,z,.sl 0 true [] [],z,z])]) (.seq (.reg 1 [o 4 (.build [z,z] [(0,1,i 0),(1,1,i 0)]),o 5
 (.build [z,z] [(0,1,i 4),(1,1,i 0)]),o 6 (.build [z,z] [(0,1,i 4),(1,1,i 4)]),o 7 (.build [z,z] [(0,1,i 0),(1,1,i 4)]),o 8 (.bsl 2 4 [z,z] [(0,.t 4),(1,
 .t 5),(2,.t 6),(3,.t 7)]),o 9 (.build [z,z,z,.sl 0 true [] [],z,z] [(0,1,i 3),(1,1,i 2),(3,1,.t 8),(4,1,i 0),(5,1,i 2)]),o 2 (.alloc [z,z,z,.sl 0 true
 [] [],z,z]),u (.st 6 (.t 2) (.t 9))]) (.seq (.reg 2 [o 10 (.build [z,z] [(0,1,i 4),(1,1,i 2)]),o 11 (.build [z,z] [(0,1,i 8),(1,1,i 2)]),o 12 (.build [z,z] [(0,
 1,i 8),(1,1,i 6)]),o 13 (.build [z,z] [(0,1,i 4),(1,1,i 6)]),o 14 (.bsl 2 4 [z,z] [(0,.t 10),(1,.t 11),(2,.t 12),(3,.t 13)]),o 15 (.build [z,z,z,.sl 0
 true [] [],z,z] [(0,1,i 5),(1,1,i 3),(2,1,i 3),(3,1,.t 14),(4,1,i 1),(5,1,i 4)]),o 3 (.alloc [z,z,z,.sl 0 true [] [],z,z]),u (.st 6 (.t 3) (.t 15))])
 (.seq (.drw 3 [o 16 (.ld 6 true (.t 2)),o 17 (.ld 6 true (.t 3)),u (.st 6 (.t 0) (.t 16)),u (.st 6 (.t 1) (.t 17))] [(1,2)]) .ret)))
def bO:List RV:=[(.c 0 6 true),(.c 1 6 true)]
theorem nZ:Bl Tryz.prog Tryz.f33=some (bN,bO):=by kernel_rfl
theorem oA:Tryz.f33.ntmps=18:=by kernel_rfl
theorem oB:okF Tryz.prog 33:=⟨Tryz.f33,Tryz.func33,by kernel_rfl,by kernel_rfl⟩
def bP:AC:= .seq (.reg 0 [o 5 (.box 4 (.t 2)),o 6 (.alloc [z,z,z,.sl 0 true [] [],z,z])]) (.seq (.drw 1 [m 8 0,c 9 36 [.t 8,i 100],o 10 (.iaA 4 1 (.t 5) (i 0)),o 11 (.ld 1 false (.t
 10)),c 12 36 [.t 11,i 8],o 13 (.bin .add .int (i 1) (.t 12)),o 14 (.iaA 4 1 (.t 5) (i 1)),o 15 (.ld 1 false (.t 14)),c 16 36 [.t 15,i 8],o 17 (.bsl 2 0 [z,z] []),m 18
 1,o 19 (.app 2 16 [z,z] (.t 17) (.t 18)),o 20 (.iaA 4 1 (.t 5) (i 2)),o 21 (.ld 1 false (.t 20)),c 22 36 [.t 21,i 8],o 23 (.build [z,z,z,.sl 0 true [] [],z,z] [(0,1,
 .t 9),(1,1,.t 13),(2,1,.t 16),(3,1,.t 19),(4,1,.t 22)]),o 7 (.alloc [z,z,z,.sl 0 true [] [],z,z]),u (.st 6 (.t 7) (.t 23))] [(1,3),(1,7),(4,7),(1,9),
 (3,9),(4,9),(7,9),(8,9),(1,13),(4,13),(8,13),(9,13),(11,13),(1,16),(3,16),(4,16),(7,16),(8,16),(9,16),(11,16),(13,16),(14,16)]) (.seq (.drw 2
 [o 24 (.fa 4 (.t 7)),o 25 (.ld 1 false (.t 24)),o 26 (.bin .add .int (.t 25) (i 1)),o 27 (.iaA 4 1 (.t 5) (i 3)),o 28 (.ld 1 false (.t 27)),o 29 (.fa 4 (.t 7)),o 30 (.ld 1
 false (.t 29)),o 31 (.bin .sub .int (i 8) (.t 30)),c 32 36 [.t 28,.t 31],o 33 (.bin .add .int (.t 26) (.t 32)),o 34 (.fa 5 (.t 7)),u (.st 1 (.t 34) (.t 33))] [(1,8)])
 (.seq (.reg 3 [o 35 (.ld 6 true (.t 7)),u (.st 6 (.t 6) (.t 35))]) .ret)))
def bQ:List RV:=[(.c 6 6 true)]
theorem oC:Bl Tryz.prog Tryz.f35=some (bP,bQ):=by kernel_rfl
theorem oD:Tryz.f35.ntmps=36:=by kernel_rfl
theorem oE:okF Tryz.prog 35:=⟨Tryz.f35,Tryz.func35,by kernel_rfl,by kernel_rfl⟩
def bR:AC:= .seq (.reg 0 [o 4 (.mv (i 0))]) (.seq (.seq (.reg 1 [m 5 0,o 6 (.bin .lss .int (.t 5) (i 0))]) (.cond (.t 6) (.reg 2 [m 7 0,o 8 (.bin .add .int (.t 7) (i 1)),o 9 (.un .neg (.t
 8)),m 0 9]) .nop)) (.seq (.reg 3 [m 10 0,m 11 1,o 12 (.bin .rem .int (.t 10) (.t 11)),m 4 12]) .ret))
def bT:List RV:=[(.t 4)]
theorem oF:Bl Tryz.prog Tryz.f36=some (bR,bT):=by kernel_rfl
theorem oG:Tryz.f36.ntmps=13:=by kernel_rfl
theorem oH:okF Tryz.prog 36:=⟨Tryz.f36,Tryz.func36,by kernel_rfl,by kernel_rfl⟩
def Yg:AC:= .seq (.reg 0 [m 6 0,o 7 (.len (.t 6)),o 8 (.mv (i 0))]) (.block 0 (.loop (.seq (.reg 1 [o 9 (.bin .lss .int (.t 8) (.t 7))]) (.seq (.cond (.t 9) .nop (.exit 0)) (.seq (.block 1
 (.seq (.reg 2 [o 10 (.ia 1 (.t 6) (.t 8)),o 11 (.ld 1 false (.t 10)),m 5 11]) (.reg 3 [o 12 (.ld 1 false (.t 1)),o 13 (.fa 0 (.t 2)),o 14 (.ld 1 false (.t 13)),m 15 5,o 16
 (.build [z,z] [(0,1,.t 14),(1,1,.t 15)]),o 17 (.bsl 2 1 [z,z] [(0,.t 16)]),o 18 (.app 2 16 [z,z] (.t 12) (.t 17)),u (.st 1 (.t 1) (.t 18))]))) (.reg 4 [o 19 (.bin
 .add .int (.t 8) (i 1)),m 8 19]))))))
def Yh:List RV:=[]
theorem bU:Bl Tryz.prog Tryz.f38=some (Yg,Yh):=by kernel_rfl
theorem bV:Tryz.f38.ntmps=20:=by kernel_rfl
theorem bW:okF Tryz.prog 38:=⟨Tryz.f38,Tryz.func38,by kernel_rfl,by kernel_rfl⟩
def bX:AC:= .seq (.reg 0 [o 6 (.mv ff)]) (.seq (.reg 1 [m 7 1,m 8 0,o 9 (.bin .leq .int (.t 7) (.t 8)),m 10 9,w 11 10 (.mv (.t 0)),w 12 10 (.mv (.t 2)),w 13 10 (.bin .leq .int (.t 11)
 (.t 12)),o 14 (.pick (.t 10) (.t 13) ff),m 6 14]) .ret)
def bY:List RV:=[(.t 6)]
theorem oI:Bl Tryz.prog Tryz.f39=some (bX,bY):=by kernel_rfl
theorem oJ:Tryz.f39.ntmps=15:=by kernel_rfl
theorem oK:okF Tryz.prog 39:=⟨Tryz.f39,Tryz.func39,by kernel_rfl,by kernel_rfl⟩
def bZ:AC:= .seq (.reg 0 [o 1 (.box 6 (.t 0)),o 2 (.mv (i 0))]) (.seq (.seq (.reg 1 [o 3 (.ld 6 true (.t 1)),c 4 11 [.t 3],o 5 (.un .not (.t 4))]) (.cond (.t 5) (.seq (.reg 2 [o 2 (.mv (i
 0))]) .ret) .nop)) (.seq (.reg 3 [o 6 (.fa 5 (.t 1)),o 7 (.ld 1 false (.t 6)),o 8 (.fa 4 (.t 1)),o 9 (.ld 1 false (.t 8)),o 10 (.bin .sub .int (.t 7) (.t 9)),m 2 10]) .ret))
def cC:List RV:=[(.t 2)]
theorem oL:Bl Tryz.prog Tryz.f43=some (bZ,cC):=by kernel_rfl
theorem oM:Tryz.f43.ntmps=11:=by kernel_rfl
theorem oN:okF Tryz.prog 43:=⟨Tryz.f43,Tryz.func43,by kernel_rfl,by kernel_rfl⟩
def cD:AC:= .seq (.reg 0 [o 1 (.box 6 (.t 0)),o 2 (.mv (i 0))]) (.seq (.reg 1 [o 6 (.fa 2 (.t 1)),o 7 (.ld 1 false (.t 6)),c 8 29 [.t 7],m 5 8,o 9 (.ext (.t 5) 0),o 10 (.ext (.t 5) 1),o
 3 (.alloc [z,z,z,z,z]),u (.st 5 (.t 3) (.t 9)),m 4 10]) (.seq (.reg 2 [o 11 (.fa 0 (.t 3)),o 12 (.ld 1 false (.t 11)),m 2 12]) .ret))
def cE:List RV:=[(.t 2)]
theorem oO:Bl Tryz.prog Tryz.f45=some (cD,cE):=by kernel_rfl
theorem oP:Tryz.f45.ntmps=13:=by kernel_rfl
theorem oQ:okF Tryz.prog 45:=⟨Tryz.f45,Tryz.func45,by kernel_rfl,by kernel_rfl⟩
def cH:AC:= .seq (.reg 0 [o 2 (.box 6 (.t 0)),o 3 (.box 6 (.t 1)),o 4 (.mv (i 0)),o 5 (.mv (i 0)),o 6 (.mv ff)]) (.seq (.drw 1 [o 9 (.fa 4 (.t 2)),o 10 (.ld 1 false (.t 9)),o 11 (.fa 4
 (.t 3)),o 12 (.ld 1 false (.t 11)),o 13 (.mm true [.t 10,.t 12]),o 14 (.fa 5 (.t 2)),o 15 (.ld 1 false (.t 14)),o 16 (.fa 5 (.t 3)),o 17 (.ld 1 false (.t 16)),o 18 (.mm
 false [.t 15,.t 17]),m 7 13,m 8 18] []) (.seq (.reg 2 [m 19 7,m 20 8,m 21 7,m 22 8,o 23 (.bin .lss .int (.t 21) (.t 22)),m 24 23,w 25 24 (.ld 6 true (.t 2)),w 26 24
 (.call 11 [.t 25]),o 27 (.pick (.t 24) (.t 26) ff),m 28 27,w 29 28 (.ld 6 true (.t 3)),w 30 28 (.call 11 [.t 29]),o 31 (.pick (.t 28) (.t 30) ff),m 4 19,m 5 20,m 6 31])
 .ret))
def cI:List RV:=[(.t 4),(.t 5),(.t 6)]
theorem oR:Bl Tryz.prog Tryz.f48=some (cH,cI):=by kernel_rfl
theorem oS:Tryz.f48.ntmps=32:=by kernel_rfl
theorem oT:okF Tryz.prog 48:=⟨Tryz.f48,Tryz.func48,by kernel_rfl,by kernel_rfl⟩
def cJ:AC:= .seq (.reg 0 [o 2 (.box 6 (.t 0)),o 3 (.box 6 (.t 1)),o 4 (.mv ff)]) (.seq (.reg 1 [o 5 (.ld 6 true (.t 2)),c 6 12 [.t 5],m 7 6,w 8 7 (.ld 6 true (.t 3)),w 9 7 (.call 12 [.t
 8]),o 10 (.pick (.t 7) (.t 9) ff),m 11 10,w 12 11 (.fa 4 (.t 2)),w 13 11 (.ld 1 false (.t 12)),w 14 11 (.fa 4 (.t 3)),w 15 11 (.ld 1 false (.t 14)),w 16 11 (.mm true [.t
 13,.t 15]),w 17 11 (.fa 5 (.t 2)),w 18 11 (.ld 1 false (.t 17)),w 19 11 (.fa 5 (.t 3)),w 20 11 (.ld 1 false (.t 19)),w 21 11 (.mm false [.t 18,.t 20]),w 22 11 (.bin .lss
 .int (.t 16) (.t 21)),o 23 (.pick (.t 11) (.t 22) ff),m 4 23]) .ret)
def cL:List RV:=[(.t 4)]
theorem oU:Bl Tryz.prog Tryz.f50=some (cJ,cL):=by kernel_rfl
theorem oV:Tryz.f50.ntmps=24:=by kernel_rfl
theorem oW:okF Tryz.prog 50:=⟨Tryz.f50,Tryz.func50,by kernel_rfl,by kernel_rfl⟩
end Go.Proofs.YtdabfcbelkjmgaaGreatDoor.Am
