import Derived.Test.YtciphecegkfaiaaGreatA21
import Derived.Test.YtciphecegkfaiaaGreatProg
namespace Go.Proofs.YtciphecegkfaiaaGreat.Am
open Go C
set_option maxRecDepth 100000
set_option maxHeartbeats 8000000
def tyT (t:Nat):TyI:=match t with
 |3|37|186=>⟨(.i .i64),false,1,8,[z],[]⟩
 |4=>⟨.b,false,1,1,[(.v (.bool false))],[]⟩
 |5=>⟨(.i .u8),false,1,1,[(.v (.int .u8 0))],[]⟩
 |9=>⟨.s,false,1,16,[(.v (.string (sB [])))],[]⟩
 |20=>⟨.fc,false,1,16,[(.v .nilIface)],[]⟩
 |22=>⟨(.sl 28),false,1,24,[(.sl 0 true [] [])],[]⟩
 |23=>⟨(.ar 3 3),true,3,24,[z,z,z],[true,true,true]⟩
 |24=>⟨(.sl 27),false,1,24,[(.sl 0 true [] [])],[]⟩
 |25=>⟨(.sl 62),false,1,24,[(.sl 0 true [] [])],[]⟩
 |27=>⟨(.st [(0,3),(1,3),(2,3),(3,25),(4,3),(5,3)]),true,6,64,[z,z,z,(.sl 0 true [] []),z,z],[]⟩
 |28=>⟨(.ar 6 3),true,6,48,[z,z,z,z,z,z],[true,true,true,true,true,true]⟩
 |31=>⟨(.st [(0,24)]),true,1,24,[(.sl 0 true [] [])],[]⟩
 |40=>⟨(.sl 5),false,1,24,[(.sl 0 true [] [])],[]⟩
 |41=>⟨(.sl 9),false,1,24,[(.sl 0 true [] [])],[]⟩
 |56=>⟨(.sl 60),false,1,24,[(.sl 0 true [] [])],[]⟩
 |58=>⟨(.sl 66),false,1,24,[(.sl 0 true [] [])],[]⟩
 |60=>⟨(.ar 2 3),true,2,16,[z,z],[true,true]⟩
 |62=>⟨(.st [(0,3),(1,3)]),true,2,16,[z,z],[true,true]⟩
 |64=>⟨(.st [(0,62),(2,62)]),true,4,32,[z,z,z,z],[true,true,true,true]⟩
 |66=>⟨(.st [(0,3),(1,3),(2,64),(6,3),(7,3)]),true,8,64,[z,z,z,z,z,z,z,z],[true,true,true,true,true,true,true,true]⟩
 |71=>⟨(.sl 73),false,1,24,[(.sl 0 true [] [])],[]⟩
 |73=>⟨(.sl 3),false,1,24,[(.sl 0 true [] [])],[]⟩
 |84|107|121|131|159|165=>⟨.x,false,1,8,[(.v .nilFunc)],[]⟩
 |137|139=>⟨(.i .u64),false,1,8,[(.v (.int .u64 0))],[]⟩
 |141=>⟨(.st []),true,0,0,[],[]⟩
 |142|145|170=>⟨.pt,false,1,8,[(.v (.pointer none))],[]⟩
 |144=>⟨(.st [(0,9),(1,3)]),true,2,24,[(.v (.string (sB []))),z],[]⟩
 |146=>⟨(.ar 5 145),true,5,40,[(.v (.pointer none)),(.v (.pointer none)),(.v (.pointer none)),(.v (.pointer none)),(.v (.pointer none))],[]⟩
 |172=>⟨(.st [(0,170),(1,40)]),true,2,32,[(.v (.pointer none)),(.sl 0 true [] [])],[]⟩
 |174=>⟨(.st [(0,172)]),true,2,32,[(.v (.pointer none)),(.sl 0 true [] [])],[]⟩
 |178=>⟨(.sl 25),false,1,24,[(.sl 0 true [] [])],[]⟩
 |193=>⟨(.i .u32),false,1,4,[(.v (.int .u32 0))],[]⟩
 |205=>⟨(.sl 209),false,1,24,[(.sl 0 true [] [])],[]⟩
 |207=>⟨(.sl 211),false,1,24,[(.sl 0 true [] [])],[]⟩
 |209|211=>⟨(.st [(0,3),(1,3),(2,3)]),true,3,24,[z,z,z],[true,true,true]⟩
 |_=>⟨.x,false,0,0,[],[]⟩
noncomputable def x3:=mkX (f:=3) tyT Tryz.func3 [[(0,4),(1,4),(0,7),(1,7)],[]]
noncomputable def x7:=mkX (f:=7) tyT Tryz.func7 [[(12,16),(12,22)],[(7,8),(15,16)],[(1,2),(7,8)],[(1,4),(1,5)]]
noncomputable def x11:=mkX (f:=11) tyT Tryz.func11 [[(0,9),(2,9),(3,9),(4,9),(5,9)],[(0,9),(2,9),(3,9),(4,9),(5,9)],[]]
noncomputable def x15:=mkX (f:=15) tyT Tryz.func15 []
noncomputable def x19:=mkX (f:=19) tyT Tryz.func19 []
noncomputable def x23:=mkX (f:=23) tyT Tryz.func23 []
noncomputable def x27:=mkX (f:=27) tyT Tryz.func27 [[]]
noncomputable def x31:=mkX (f:=31) tyT Tryz.func31 [[(1,10),(5,10),(6,10),(8,10),(9,10)]]
noncomputable def x37:=mkX (f:=37) tyT Tryz.func37 []
noncomputable def x41:=mkX (f:=41) tyT Tryz.func41 [[]]
noncomputable def x45:=mkX (f:=45) tyT Tryz.func45 []
noncomputable def x49:=mkX (f:=49) tyT Tryz.func49 [[],[(1,3),(1,4)],[(1,7),(1,8)],[(1,3),(1,4)]]
noncomputable def x53:=mkX (f:=53) tyT Tryz.func53 []
noncomputable def x65:=mkX (f:=65) tyT Tryz.func65 [[]]
noncomputable def x69:=mkX (f:=69) tyT Tryz.func69 [[(1,4),(1,6)]]
noncomputable def x73:=mkX (f:=73) tyT Tryz.func73 []
noncomputable def x77:=mkX (f:=77) tyT Tryz.func77 [[(1,9)]]
noncomputable def x83:=mkX (f:=83) tyT Tryz.func83 [[(0,6)]]
noncomputable def x87:=mkX (f:=87) tyT Tryz.func87 []
noncomputable def x93:=mkX (f:=93) tyT Tryz.func93 []
noncomputable def x97:=mkX (f:=97) tyT Tryz.func97 []
noncomputable def x101:=mkX (f:=101) tyT Tryz.func101 [[(2,3),(0,6),(2,6)]]
noncomputable def x118:=mkX (f:=118) tyT Tryz.func118 []
noncomputable def x124:=mkX (f:=124) tyT Tryz.func124 []
noncomputable def x128:=mkX (f:=128) tyT Tryz.func128 []
noncomputable def x132:=mkX (f:=132) tyT Tryz.func132 [[(4,6),(4,8)]]
noncomputable def x138:=mkX (f:=138) tyT Tryz.func138 []
noncomputable def x142:=mkX (f:=142) tyT Tryz.func142 []
noncomputable def x146:=mkX (f:=146) tyT Tryz.func146 []
noncomputable def x164:=mkX (f:=164) tyT Tryz.func164 [[]]
noncomputable def x169:=mkX (f:=169) tyT Tryz.func169 [[(2,6),(3,6),(6,7)]]
noncomputable def x191:=mkX (f:=191) tyT Tryz.func191 [[],[]]
noncomputable def x4:=mkX (f:=4) tyT Tryz.func4 [[],[(10,11),(10,13),(12,13)],[(1,6),(1,9),(4,9),(5,9),(6,9),(7,9),(8,9)],[(1,6),(1,9),(4,9),(5,9),(6,9),(7,9),(8,9)]]
noncomputable def x8:=mkX (f:=8) tyT Tryz.func8 [[]]
noncomputable def x12:=mkX (f:=12) tyT Tryz.func12 [[(0,8),(8,12),(8,13),(0,14),(0,19),(5,19),(7,19),(8,19),(12,19),(13,19),(14,19),(15,19)]]
noncomputable def x16:=mkX (f:=16) tyT Tryz.func16 [[(1,2),(7,8),(14,15),(22,23),(30,31),(38,39)]]
noncomputable def x20:=mkX (f:=20) tyT Tryz.func20 [[]]
noncomputable def x24:=mkX (f:=24) tyT Tryz.func24 []
noncomputable def x28:=mkX (f:=28) tyT Tryz.func28 [[(0,10),(2,10),(4,10),(5,10),(6,10)]]
noncomputable def x32:=mkX (f:=32) tyT Tryz.func32 []
noncomputable def x38:=mkX (f:=38) tyT Tryz.func38 [[]]
noncomputable def x42:=mkX (f:=42) tyT Tryz.func42 []
noncomputable def x46:=mkX (f:=46) tyT Tryz.func46 []
noncomputable def x50:=mkX (f:=50) tyT Tryz.func50 []
noncomputable def x54:=mkX (f:=54) tyT Tryz.func54 [[]]
noncomputable def x74:=mkX (f:=74) tyT Tryz.func74 []
noncomputable def x78:=mkX (f:=78) tyT Tryz.func78 []
noncomputable def x84:=mkX (f:=84) tyT Tryz.func84 []
noncomputable def x88:=mkX (f:=88) tyT Tryz.func88 []
noncomputable def x94:=mkX (f:=94) tyT Tryz.func94 []
noncomputable def x98:=mkX (f:=98) tyT Tryz.func98 [[]]
noncomputable def x102:=mkX (f:=102) tyT Tryz.func102 []
noncomputable def x106:=mkX (f:=106) tyT Tryz.func106 [[(15,19),(16,19),(19,22),(19,23)]]
noncomputable def x115:=mkX (f:=115) tyT Tryz.func115 []
noncomputable def x121:=mkX (f:=121) tyT Tryz.func121 []
noncomputable def Ut:=mkX (f:=125) tyT Tryz.func125 []
noncomputable def x134:=mkX (f:=134) tyT Tryz.func134 []
noncomputable def x139:=mkX (f:=139) tyT Tryz.func139 []
noncomputable def x143:=mkX (f:=143) tyT Tryz.func143 []
noncomputable def x147:=mkX (f:=147) tyT Tryz.func147 [[]]
noncomputable def x165:=mkX (f:=165) tyT Tryz.func165 []
noncomputable def x171:=mkX (f:=171) tyT Tryz.func171 []
noncomputable def x5:=mkX (f:=5) tyT Tryz.func5 [[(1,6),(1,9),(4,9),(5,9),(6,9),(7,9),(8,9)],[(1,6),(1,9),(4,9),(5,9),(6,9),(7,9),(8,9)],[],[],[],[]]
noncomputable def x9:=mkX (f:=9) tyT Tryz.func9 []
noncomputable def x13:=mkX (f:=13) tyT Tryz.func13 [[(1,13)],[(1,7),(1,8)],[(1,10),(4,10),(6,10),(8,10),(1,14),(4,14),(6,14),(8,14),(1,16)],[(3,15)]]
noncomputable def x17:=mkX (f:=17) tyT Tryz.func17 []
noncomputable def x21:=mkX (f:=21) tyT Tryz.func21 []
noncomputable def x25:=mkX (f:=25) tyT Tryz.func25 []
noncomputable def x29:=mkX (f:=29) tyT Tryz.func29 []
noncomputable def x35:=mkX (f:=35) tyT Tryz.func35 []
noncomputable def x39:=mkX (f:=39) tyT Tryz.func39 [[]]
noncomputable def x43:=mkX (f:=43) tyT Tryz.func43 []
noncomputable def x47:=mkX (f:=47) tyT Tryz.func47 []
noncomputable def x55:=mkX (f:=55) tyT Tryz.func55 [[],[]]
noncomputable def x67:=mkX (f:=67) tyT Tryz.func67 []
noncomputable def x71:=mkX (f:=71) tyT Tryz.func71 []
noncomputable def x75:=mkX (f:=75) tyT Tryz.func75 []
noncomputable def x80:=mkX (f:=80) tyT Tryz.func80 [[]]
noncomputable def x85:=mkX (f:=85) tyT Tryz.func85 []
noncomputable def x95:=mkX (f:=95) tyT Tryz.func95 []
noncomputable def x99:=mkX (f:=99) tyT Tryz.func99 []
noncomputable def x103:=mkX (f:=103) tyT Tryz.func103 []
noncomputable def x107:=mkX (f:=107) tyT Tryz.func107 []
noncomputable def x116:=mkX (f:=116) tyT Tryz.func116 [[]]
noncomputable def x122:=mkX (f:=122) tyT Tryz.func122 []
noncomputable def NJ:=mkX (f:=126) tyT Tryz.func126 [[(4,6),(4,8)]]
noncomputable def Ij:=mkX (f:=130) tyT Tryz.func130 []
noncomputable def x135:=mkX (f:=135) tyT Tryz.func135 []
noncomputable def x144:=mkX (f:=144) tyT Tryz.func144 []
noncomputable def x149:=mkX (f:=149) tyT Tryz.func149 []
noncomputable def x162:=mkX (f:=162) tyT Tryz.func162 []
noncomputable def x167:=mkX (f:=167) tyT Tryz.func167 []
noncomputable def Yc:=mkX (f:=172) tyT Tryz.func172 [[],[]]
noncomputable def x6:=mkX (f:=6) tyT Tryz.func6 [[(0,9),(3,9),(4,9),(5,9)],[],[(0,10),(2,10),(4,10),(5,10),(6,10)],[],[(0,3),(0,8),(2,8),(3,8),(4,8)],[(10,14),(11,14)],[(1,6)]]
noncomputable def x10:=mkX (f:=10) tyT Tryz.func10 [[(1,6),(1,9),(4,9),(5,9),(6,9),(7,9),(8,9)],[(16,17)],[]]
noncomputable def x14:=mkX (f:=14) tyT Tryz.func14 [[],[],[(1,3),(1,8),(5,8)]]
noncomputable def x18:=mkX (f:=18) tyT Tryz.func18 []
noncomputable def x22:=mkX (f:=22) tyT Tryz.func22 []
noncomputable def x26:=mkX (f:=26) tyT Tryz.func26 [[(2,3)]]
noncomputable def x30:=mkX (f:=30) tyT Tryz.func30 []
noncomputable def x36:=mkX (f:=36) tyT Tryz.func36 []
noncomputable def x40:=mkX (f:=40) tyT Tryz.func40 [[]]
noncomputable def x44:=mkX (f:=44) tyT Tryz.func44 []
noncomputable def x48:=mkX (f:=48) tyT Tryz.func48 [[]]
noncomputable def x52:=mkX (f:=52) tyT Tryz.func52 []
noncomputable def x56:=mkX (f:=56) tyT Tryz.func56 []
noncomputable def x64:=mkX (f:=64) tyT Tryz.func64 []
noncomputable def x68:=mkX (f:=68) tyT Tryz.func68 []
noncomputable def x72:=mkX (f:=72) tyT Tryz.func72 [[(1,16),(2,16),(4,16),(5,16),(7,16),(8,16),(10,16),(11,16),(13,16),(14,16)],[(1,12)]]
noncomputable def x76:=mkX (f:=76) tyT Tryz.func76 []
noncomputable def x81:=mkX (f:=81) tyT Tryz.func81 []
noncomputable def x86:=mkX (f:=86) tyT Tryz.func86 []
noncomputable def x91:=mkX (f:=91) tyT Tryz.func91 []
noncomputable def x96:=mkX (f:=96) tyT Tryz.func96 []
noncomputable def x100:=mkX (f:=100) tyT Tryz.func100 [[(0,4)]]
noncomputable def x108:=mkX (f:=108) tyT Tryz.func108 []
noncomputable def x117:=mkX (f:=117) tyT Tryz.func117 []
noncomputable def x123:=mkX (f:=123) tyT Tryz.func123 []
noncomputable def x127:=mkX (f:=127) tyT Tryz.func127 []
noncomputable def x131:=mkX (f:=131) tyT Tryz.func131 [[(2,3),(2,4),(0,5),(1,5),(2,5)],[(6,9),(7,9),(6,10),(7,10),(6,12),(7,12),(6,13),(7,13),(1,14),(2,14),(4,14),(5,14),(6,14),(7,14)]]
noncomputable def x136:=mkX (f:=136) tyT Tryz.func136 []
noncomputable def x141:=mkX (f:=141) tyT Tryz.func141 []
noncomputable def x145:=mkX (f:=145) tyT Tryz.func145 [[(2,70),(4,70),(7,70),(9,70),(13,70),(15,70),(18,70),(20,70),(25,70),(27,70),(30,70),(32,70),(36,70),(38,70),(41,70),(43,70),(48,70),(50,70),(53,70),(55,70),(59,70),(61,70),(64,70),(66,70)],[]]
noncomputable def x150:=mkX (f:=150) tyT Tryz.func150 [[]]
noncomputable def x163:=mkX (f:=163) tyT Tryz.func163 [[]]
noncomputable def x168:=mkX (f:=168) tyT Tryz.func168 []
noncomputable def x185:=mkX (f:=185) tyT Tryz.func185 [[]]
def RU (t:Nat):TyI:=match t with
 |3=>⟨(.i .i64),false,1,8,[z],[]⟩
 |4=>⟨.b,false,1,1,[(.v (.bool false))],[]⟩
 |24=>⟨(.sl 27),false,1,24,[(.sl 0 true [] [])],[]⟩
 |25=>⟨(.sl 62),false,1,24,[(.sl 0 true [] [])],[]⟩
 |27=>⟨(.st [(0,3),(1,3),(2,3),(3,25),(4,3),(5,3)]),true,6,64,[z,z,z,(.sl 0 true [] []),z,z],[]⟩
 |31=>⟨(.st [(0,24)]),true,1,24,[(.sl 0 true [] [])],[]⟩
 |58=>⟨(.sl 66),false,1,24,[(.sl 0 true [] [])],[]⟩
 |62=>⟨(.st [(0,3),(1,3)]),true,2,16,[z,z],[true,true]⟩
 |64=>⟨(.st [(0,62),(2,62)]),true,4,32,[z,z,z,z],[true,true,true,true]⟩
 |66=>⟨(.st [(0,3),(1,3),(2,64),(6,3),(7,3)]),true,8,64,[z,z,z,z,z,z,z,z],[true,true,true,true,true,true,true,true]⟩
 |71=>⟨(.sl 73),false,1,24,[(.sl 0 true [] [])],[]⟩
 |73=>⟨(.sl 3),false,1,24,[(.sl 0 true [] [])],[]⟩
 |124=>⟨(.mp 3 3),false,1,8,[(.v (.map none))],[]⟩
 |125=>⟨(.mp 3 4),false,1,8,[(.v (.map none))],[]⟩
 |166=>⟨.x,false,1,8,[(.v .nilFunc)],[]⟩
 |181=>⟨(.sl 4),false,1,24,[(.sl 0 true [] [])],[]⟩
 |_=>⟨.x,false,0,0,[],[]⟩
noncomputable def x133:=mkX (f:=133) RU Tryz.func133 []
noncomputable def x92:=mkX (f:=92) RU Tryz.func92 [[(3,4),(3,6)],[(0,4)]]
noncomputable def x33:=mkX (f:=33) RU Tryz.func33 [[(3,12),(7,12),(8,12),(9,12),(3,13)]]
noncomputable def x34:=mkX (f:=34) RU Tryz.func34 []
end Go.Proofs.YtciphecegkfaiaaGreat.Am
