import Derived.Test.YtjdchfljifacoaaGreatDoorT4
import Derived.Test.YtjdchfljifacoaaGreatDoorDe
set_option linter.all false
set_option maxRecDepth 100000
set_option maxHeartbeats 8000000
noncomputable section
namespace Go.Proofs.YtjdchfljifacoaaGreatDoor.Am
section
open Go
attribute [local irreducible] Aq BD Bv A8 Bq Ba AQ Bw By Ck
def GA(N:Nat):Option Bool:=(B7 N 0).bind λ(r1,r2)=>(Ct N r1 r2 3 8 0 0 [] 0 0 3 0 2 0 0 0 0 false).bind λ((r4,r5),r6)=>(Ct N r1 r2 4 0 0 0 [] 0 0 3 5 0 0 0 0 0 false).bind λ((r8,r9),d7)=>(Li N r1 r2 4 0 0 0 [] 0 0 3 5 0 0 0 0 0 false).bind λ(d6,d5)=>(Ct N r1 r2 4 0 0 0 [] 0 0 3 (-1) 0 0 0 0 0 false).bind λ((ez,eu),dz)=>(Ct N r1 r2 6 0 0 0 [] 0 0 1 0 0 0 0 0 0 false).bind λ((dy,r20),dx)=>(Ct N dy r20 6 0 0 0 [] 0 0 1 0 0 0 0 0 0 false).bind λ((ep,el),dw)=>(Ct N r1 r2 2 0 0 0 [] 0 0 3 0 0 0 0 0 0 false).bind λ((r27,r28),du)=>(Li N r1 r2 2 0 0 0 [] 0 0 3 0 0 0 0 0 0 false).bind λ(ej,dt)=>(Ct N r1 r2 5 0 0 0 [] 0 0 0 0 0 2 3 4 1 false).bind λ((eh,ee),dq)=>(LT N 4 0 0 0 [] 0 0 3 5 0 0 0 0 0 false).bind λ(ae,dm)=>(Lz N ae).bind λ((bh,(bg,bf,be,bb,ba,az),ay,aw,av,(au,aq,an,am,ak)),dl)=>(OO N r1 r2 [(4,(0,0,0,[],0,0),3,5,0,(0,0,0,0,false)),(6,(0,0,0,[],0,0),1,0,0,(0,0,0,0,false))]).bind λ((d9,r59),dh,dg)=>(Mw N 5 0 0 0 [] 0 0 0 0 0 2 3 0 1 false).bind λ(de,db)=>bif ((((((((((decide (r6≠0))||(decide (d7≠0)))||(decide (dz≠170)))||(decide (dx≠0)))||(decide (dw≠170)))||(decide (du≠0)))||(decide (dq≠170)))||(decide (dm≠0)))||(decide (dl≠0)))||(decide (dg≠0)))||(decide ((r4.length:Int)≠2))then(some false)else((Gc N 0).bind λ(da,aj,ai,d8,ah,af)=>(Bz r4 0).bind λ(x73,x74,x75,cq,co,x78)=>(Eb N x73 x74 x75 cq co x78 da aj ai [(0,0),(4,0),(4,4)] ah af).bind λcy=>gd (cy=true)<|(Bz r4 1).bind λ(Su,x83,Sv,Y2,Ub,Y3)=>(Eb N Su x83 Sv Y2 Ub Y3 8 aj ai [(4,4),(0,4),(0,0)] ah af).bind λab=>gd ((ab&&(decide ((r5.length:Int)=0)))=true->((B7 N 5).isSome=true))<|gd ((ab&&(decide ((r5.length:Int)=0)))=true->((Fo N r8 r9 (((B7 N 5).getD ([],[])).1) (((B7 N 5).getD ([],[])).2)).isSome=true))<|gd (((ab&&(decide ((r5.length:Int)=0)))&&((Fo N r8 r9 (((B7 N 5).getD ([],[])).1) (((B7 N 5).getD ([],[])).2)).getD false))=true->(0<=0/\0<(r20.length:Int)))<|gd (d5=true)<|(GK N d6 [(4,(0,0,0,[],0,0),3,(-5),0,(0,0,0,0,false))]).bind λcu=>gd ((decide (ae=[8,6,10,0]))=true->((EL N bh bg bf be bb ba az ay aw av au aq an am ak 4 0 0 0 [] 0 0 3 5 0 0 0 0 0 false).isSome=true))<|gd ((((((((((ab&&(decide ((r5.length:Int)=0)))&&((Fo N r8 r9 (((B7 N 5).getD ([],[])).1) (((B7 N 5).getD ([],[])).2)).getD false))&&(!((r20.getD 0 (0,0,0,0,false)).2.2.2.2)))&&(decide ((r27.length:Int)=0)))&&(decide ((r28.length:Int)=0)))&&(cu&&(!dt)))&&((decide (ae=[8,6,10,0]))&&((EL N bh bg bf be bb ba az ay aw av au aq an am ak 4 0 0 0 [] 0 0 3 5 0 0 0 0 0 false).getD false)))&&(decide (dh=2)))&&(decide ((r59.length:Int)=1)))=true)<|(Gx N de [3]).bind λcr=>gd (cr=true)<|(Gx N db [2]).bind λaa=>gd (aa=true->((CP N r1 r2).isSome=true))<|gd ((aa&&((CP N r1 r2).getD false))=true->((CP N [] r2).isSome=true))<|gd (((aa&&((CP N r1 r2).getD false))&&(!((CP N [] r2).getD false)))=true->((BB N 4 0 0 0 [] 0 0 3 5 0 0 0 0 0 false).isSome=true))<|gd ((((aa&&((CP N r1 r2).getD false))&&(!((CP N [] r2).getD false)))&&((BB N 4 0 0 0 [] 0 0 3 5 0 0 0 0 0 false).getD false))=true->((BB N 0 0 0 0 [] 0 0 0 0 0 0 0 0 0 false).isSome=true))<|some ((((aa&&((CP N r1 r2).getD false))&&(!((CP N [] r2).getD false)))&&((BB N 4 0 0 0 [] 0 0 3 5 0 0 0 0 0 false).getD false))&&(!((BB N 0 0 0 0 [] 0 0 0 0 0 0 0 0 0 false).getD false))))
@[go_sem] def s10(N:Nat):Spec:=p0<|pE<|pF (GA N) false λr=>.b r
theorem AaX(N:Nat):Au Tryz.prog 4 (s10 N):=by
 refine L6 x4.ok<|He<|L8 λr h=>wx x4 (Aa (AaT N)<|Aa (Kl N)<|Aa (Aa7 N)<|Aa (Aa8 N)<|Aa (Aau N)<|Aa (Aa5 N)<|Aa (Aa6 N)<|Aa (jI N)<|Aa (XD N)<|Aa (AaR N)<|Aa (AaV N)<|Aa (jJ N)<|Aa (AaF N)<|Aa (S6 N)<|Aa (kL N)<|Ae) λ_ hS F=>?_
 dsimp only[x4,Ad,B3];unfold GA at h;obtain⟨⟨r1,r2⟩,fq,h⟩:=un h;obtain⟨⟨⟨r4,r5⟩,r6⟩,fp,h⟩:=un h;obtain⟨⟨⟨r8,r9⟩,d7⟩,cj,h⟩:=un h;obtain⟨⟨d6,d5⟩,ci,h⟩:=un h;obtain⟨⟨⟨ez,eu⟩,dz⟩,ce,h⟩:=un h;obtain⟨⟨⟨dy,r20⟩,dx⟩,b9,h⟩:=un h;obtain⟨⟨⟨ep,el⟩,dw⟩,b7,h⟩:=un h;obtain⟨⟨⟨r27,r28⟩,du⟩,bz,h⟩:=un h;obtain⟨⟨ej,dt⟩,bw,h⟩:=un h;obtain⟨⟨⟨eh,ee⟩,dq⟩,bv,h⟩:=un h;obtain⟨⟨ae,dm⟩,bu,h⟩:=un h;obtain⟨⟨⟨bh,⟨bg,bf,be,bb,ba,az⟩,ay,aw,av,⟨au,aq,an,am,ak⟩⟩,dl⟩,br,h⟩:=un h;obtain⟨⟨⟨d9,r59⟩,dh,dg⟩,bq,h⟩:=un h;obtain⟨⟨de,db⟩,bp,h⟩:=un h;replace F:=fc bp (fc bq (fc br (fc bu (fc bv (fc bw (fc bz (fc b7 (fc b9 (fc ce (fc ci (fc cj (fc fp (fc fq F)))))))))))));refine An hS F h (λ_ h=>?_) (λ_ h=>?_)
 ·exact Ah hS F h
 ·obtain⟨⟨da,aj,ai,d8,ah,af⟩,bo,h⟩:=un h;obtain⟨⟨x73,x74,x75,cq,co,x78⟩,cn,h⟩:=un h;obtain⟨fx,F⟩:=V4 0 Ap cn (fc bo F);obtain⟨cy,bn,fo,⟨Su,x83,Sv,Y2,Ub,Y3⟩,ck,h⟩:=un h;obtain⟨fr,F⟩:=V4 1 Ap ck (fc fo (fc bn F));obtain⟨ab,bm,gh,gg,ge,fg,cu,bl,gc,e9,cr,bj,e8,aa,bi,fy,fm,fj,fh,h⟩:=un h;exact Ah hS (fc bi (fc e8 (fc bj (fc e9 (fc bl (fc fg (fc bm F))))))) h
end
theorem zL:GA 2000=some true:=by decide+kernel
theorem Rn{N:Nat}(hN:100<=N){a b c:Int}{l:List Pt}{p q:Int}(h:UP a b c l p q){a' b' c':Int}{l':List Pt}{p' q':Int}(h':UP a' b' c' l' p' q'):E1 N a b c l p q a' b' c' l' p' q'=some (max p p',min q q',decide (max p p'<min q q')):=by unfold E1;rw[NI hN h,NI hN h',BY (λ_=>w8),BY (λ_=>w8),A00,A53,A53]
theorem VF{N:Nat}(hN:1001<=N){a b c:Int}{l:List Pt}{p q:Int}(h:UP a b c l p q){a' b' c':Int}{l':List Pt}{p' q':Int}(h':UP a' b' c' l' p' q'):CW N a b c l p q a' b' c' l' p' q'=some (decide (max p p'<min q q')&& !(Hg l l').2.2):=by unfold CW;rw[Rn (by omega) h h',bS];simp only;rw[Lg hN h.l h'.l,BY (λ_=>w8),A00]
abbrev Con:=Int×Int×(Pt×Pt)×Int×Int
def yS:Con:=(0,0,((0,0),(0,0)),0,0)
def Ro(a a':Int)(l l':List Pt)(p q p' q':Int):Con×Bool:=if max p p'<min q q' then(bif (Im l l').2 then((a,a',(Im l l').1,max p p',min q q'),true)else(yS,false))else(yS,false)
theorem aJ{N:Nat}(hN:1001<=N){a b c:Int}{l:List Pt}{p q:Int}(h:UP a b c l p q){a' b' c':Int}{l':List Pt}{p' q':Int}(h':UP a' b' c' l' p' q'):HU N a b c l p q a' b' c' l' p' q'=some (Ro a a' l l' p q p' q'):=by
 unfold HU Ro;rw[Rn (by omega) h h',bS];simp only;by_cases hc:max p p'<min q q'
 ·rw[q9 hc,BL _ (by rfl),t8 hc,nT hN h.l h'.l,show Im l l'=((((Im l l').1.1.1,(Im l l').1.1.2),((Im l l').1.2.1,(Im l l').1.2.2)),(Im l l').2)from rfl,bS];simp only;cases(Im l l').2 with
  |true=>rfl
  |false=>rfl
 ·rw[s6 hc,Ca _ (by rfl),t7 hc];rfl
section
open Go
attribute [local irreducible] Aq BD Bv A8 Bq Ba AQ Bw By Ck
def Fy(N:Nat)(x1097:List (Int×Int×Int×Int×Int×Int))(x1098:List (Int×Int×Int×Int))(x1099:List (Int×Int×Int×Int×Int×Int))(which1100:Int)(i1101:Int)(k1102:Int)(number1103:Int):Option Bool:=(GA N).bind λr1104=>bif !r1104 then(some false)else((Fp N x1097 x1098 x1099).bind λ(r1106,r1107)=>bif decide ((r1106.length:Int)=0)then((CP N r1106 r1107).bind λr1111=>some r1111)else((Dw N which1100 (r1106.length:Int)).bind λr1113=>(Bz r1106 r1113).bind λ(x1115,x1116,x1117,x1118,x1119,x1120)=>(Dw N i1101 (x1118.length:Int)).bind λr1122=>(Dw N k1102 (x1118.length:Int)).bind λr1124=>gd (Ai (x1115+1))<|(Dw N number1103 90).bind λr1126=>gd (Ai ((x1115+1)+r1126))<|(BV N r1106 (((x1115+1)+r1126).tmod 100)).bind λ((r1128,r1129,r1130,r1131,r1132,r1133),r1134)=>gd (Ai (r1124-r1122))<|gd (Ai ((r1124-r1122)+(x1118.length:Int)))<|gd ((x1118.length:Int)≠0)<|(Ct N r1106 r1107 3 (((x1115+1)+r1126).tmod 100) 0 0 [] 0 0 x1115 r1122 r1124 0 0 0 0 false).bind λ((r1136,r1137),r1138)=>gd ((decide (1<((r1124-r1122)+(x1118.length:Int)).tmod (x1118.length:Int)))=true->(Ai ((x1118.length:Int)-1)))<|bif ((decide (r1138=0)) !=((((decide (1<((r1124-r1122)+(x1118.length:Int)).tmod (x1118.length:Int)))&&(decide (((r1124-r1122)+(x1118.length:Int)).tmod (x1118.length:Int)<(x1118.length:Int)-1)))&&(!r1134))&&(decide ((r1106.length:Int)<12))))then(some false)else(bif decide (r1138≠0)then(some true)else((BV N r1136 x1115).bind λ((r1140,r1141,r1142,r1143,r1144,r1145),r1146)=>(BV N r1136 (((x1115+1)+r1126).tmod 100)).bind λ((r1148,r1149,r1150,r1151,r1152,r1153),r1154)=>(HU N r1140 r1141 r1142 r1143 r1144 r1145 r1148 r1149 r1150 r1151 r1152 r1153).bind λ((r1156,r1157,((r1158,r1159),(r1160,r1161)),r1162,r1163),r1164)=>gd ((!(((!r1146)||(!r1154))||(!r1164)))=true->((CW N r1140 r1141 r1142 r1143 r1144 r1145 r1148 r1149 r1150 r1151 r1152 r1153).isSome=true))<|bif (((!r1146)||(!r1154))||(!r1164))||((CW N r1140 r1141 r1142 r1143 r1144 r1145 r1148 r1149 r1150 r1151 r1152 r1153).getD false)then(some false)else((Bz x1118 r1124).bind λ(x1166,x1167)=>(Bz x1118 r1122).bind λ(x1169,x1170)=>gd ((decide (r1158=x1166)&&(decide (r1159=x1167)&&(decide (r1160=x1169)&&decide (r1161=x1170))))=true->((AR N r1136).isSome=true))<|gd ((decide (r1158=x1166)&&(decide (r1159=x1167)&&(decide (r1160=x1169)&&decide (r1161=x1170))))=true->((AR N r1106).isSome=true))<|gd (((decide (r1158=x1166)&&(decide (r1159=x1167)&&(decide (r1160=x1169)&&decide (r1161=x1170))))&&(decide ((AR N r1136).getD 0=(AR N r1106).getD 0)))=true->((A9 N r1140 r1141 r1142 r1143 r1144 r1145).isSome=true))<|gd (((decide (r1158=x1166)&&(decide (r1159=x1167)&&(decide (r1160=x1169)&&decide (r1161=x1170))))&&(decide ((AR N r1136).getD 0=(AR N r1106).getD 0)))=true->((A9 N r1148 r1149 r1150 r1151 r1152 r1153).isSome=true))<|gd (((decide (r1158=x1166)&&(decide (r1159=x1167)&&(decide (r1160=x1169)&&decide (r1161=x1170))))&&(decide ((AR N r1136).getD 0=(AR N r1106).getD 0)))=true->(Ai (((A9 N r1140 r1141 r1142 r1143 r1144 r1145).getD 0)+((A9 N r1148 r1149 r1150 r1151 r1152 r1153).getD 0))))<|gd (((decide (r1158=x1166)&&(decide (r1159=x1167)&&(decide (r1160=x1169)&&decide (r1161=x1170))))&&(decide ((AR N r1136).getD 0=(AR N r1106).getD 0)))=true->((A9 N x1115 x1116 x1117 x1118 x1119 x1120).isSome=true))<|gd ((((decide (r1158=x1166)&&(decide (r1159=x1167)&&(decide (r1160=x1169)&&decide (r1161=x1170))))&&(decide ((AR N r1136).getD 0=(AR N r1106).getD 0)))&&(decide (((A9 N r1140 r1141 r1142 r1143 r1144 r1145).getD 0)+((A9 N r1148 r1149 r1150 r1151 r1152 r1153).getD 0)=(A9 N x1115 x1116 x1117 x1118 x1119 x1120).getD 0)))=true->((CV N r1140 r1141 r1142 r1143 r1144 r1145).isSome=true))<|gd ((((decide (r1158=x1166)&&(decide (r1159=x1167)&&(decide (r1160=x1169)&&decide (r1161=x1170))))&&(decide ((AR N r1136).getD 0=(AR N r1106).getD 0)))&&(decide (((A9 N r1140 r1141 r1142 r1143 r1144 r1145).getD 0)+((A9 N r1148 r1149 r1150 r1151 r1152 r1153).getD 0)=(A9 N x1115 x1116 x1117 x1118 x1119 x1120).getD 0)))=true->((CV N r1148 r1149 r1150 r1151 r1152 r1153).isSome=true))<|gd ((((decide (r1158=x1166)&&(decide (r1159=x1167)&&(decide (r1160=x1169)&&decide (r1161=x1170))))&&(decide ((AR N r1136).getD 0=(AR N r1106).getD 0)))&&(decide (((A9 N r1140 r1141 r1142 r1143 r1144 r1145).getD 0)+((A9 N r1148 r1149 r1150 r1151 r1152 r1153).getD 0)=(A9 N x1115 x1116 x1117 x1118 x1119 x1120).getD 0)))=true->(Ai (((CV N r1140 r1141 r1142 r1143 r1144 r1145).getD 0)+((CV N r1148 r1149 r1150 r1151 r1152 r1153).getD 0))))<|gd ((((decide (r1158=x1166)&&(decide (r1159=x1167)&&(decide (r1160=x1169)&&decide (r1161=x1170))))&&(decide ((AR N r1136).getD 0=(AR N r1106).getD 0)))&&(decide (((A9 N r1140 r1141 r1142 r1143 r1144 r1145).getD 0)+((A9 N r1148 r1149 r1150 r1151 r1152 r1153).getD 0)=(A9 N x1115 x1116 x1117 x1118 x1119 x1120).getD 0)))=true->((CV N x1115 x1116 x1117 x1118 x1119 x1120).isSome=true))<|some ((((decide (r1158=x1166)&&(decide (r1159=x1167)&&(decide (r1160=x1169)&&decide (r1161=x1170))))&&(decide ((AR N r1136).getD 0=(AR N r1106).getD 0)))&&(decide (((A9 N r1140 r1141 r1142 r1143 r1144 r1145).getD 0)+((A9 N r1148 r1149 r1150 r1151 r1152 r1153).getD 0)=(A9 N x1115 x1116 x1117 x1118 x1119 x1120).getD 0)))&&(decide (((CV N r1140 r1141 r1142 r1143 r1144 r1145).getD 0)+((CV N r1148 r1149 r1150 r1151 r1152 r1153).getD 0)=(CV N x1115 x1116 x1117 x1118 x1119 x1120).getD 0))))))))
theorem LL(N:Nat)(x1097:List (Int×Int×Int×Int×Int×Int))(x1098:List (Int×Int×Int×Int))(x1099:List (Int×Int×Int×Int×Int×Int))(which1100:Int)(i1101:Int)(k1102:Int)(number1103:Int)(r:Bool)(h:Fy N x1097 x1098 x1099 which1100 i1101 k1102 number1103=some r):PCall Tryz.prog 3 [.agg [HX x1097,Q0 x1098,HX x1099],.i which1100,.i i1101,.i k1102,.i number1103] (.b r):=by
 refine wx x3 (Aa (AaX N)<|Aa (AaU N)<|Aa (S6 N)<|Aa (AaS N)<|Aa (S4 N)<|Aa (Kl N)<|Aa (mX N)<|Aa (Uk N)<|Aa (nA N)<|Aa (mV N)<|Aa (mW N)<|Ae) λ_ hS F=>?_
 dsimp only[x3,Ad];unfold Fy at h;obtain⟨r1104,hr1104,h⟩:=un h;replace F:=fc hr1104 F;refine An hS F h (λ_ h=>?_) (λ_ h=>?_)
 ·exact Ah hS F h
 ·obtain⟨⟨r1106,r1107⟩,hr1107,h⟩:=un h;replace F:=fc hr1107 F;refine An hS F h (λ_ h=>?_) (λ_ h=>?_)
  ·obtain⟨r1111,hr1111,h⟩:=un h;exact Ah hS (fc hr1111 F) h
  ·obtain⟨r1113,hr1113,⟨x1115,x1116,x1117,x1118,x1119,x1120⟩,hn1120,h⟩:=un h;obtain⟨hb1120,F⟩:=CH Ap hn1120 (fc hr1113 F);obtain⟨r1122,hr1122,r1124,hr1124,hv1,r1126,hr1126,hv2,⟨⟨r1128,r1129,r1130,r1131,r1132,r1133⟩,r1134⟩,hr1134,h⟩:=un h;obtain⟨hv3,hv4,hv5,⟨⟨r1136,r1137⟩,r1138⟩,hr1138,h⟩:=un h;obtain⟨hv6,h⟩:=un h;replace F:=fc hr1138 (fc hr1134 (fc hr1126 (fc hr1124 (fc hr1122 F))));refine An hS F h (λ_ h=>?_) (λ_ h=>?_)
   ·exact Ah hS F h
   ·refine An hS F h (λ_ h=>?_) (λ_ h=>?_)
    ·exact Ah hS F h
    ·obtain⟨⟨⟨r1140,r1141,r1142,r1143,r1144,r1145⟩,r1146⟩,hr1146,h⟩:=un h;obtain⟨⟨⟨r1148,r1149,r1150,r1151,r1152,r1153⟩,r1154⟩,hr1154,h⟩:=un h;obtain⟨⟨⟨r1156,r1157,⟨⟨r1158,r1159⟩,⟨r1160,r1161⟩⟩,r1162,r1163⟩,r1164⟩,hr1164,h⟩:=un h;obtain⟨hv7,h⟩:=un h;replace F:=fc hr1164 (fc hr1154 (fc hr1146 F));refine An hS F h (λ_ h=>?_) (λ_ h=>?_)
     ·exact Ah hS F h
     ·obtain⟨⟨x1166,x1167⟩,hn1167,h⟩:=un h;obtain⟨hb1167,F⟩:=CH Ce hn1167 F;obtain⟨⟨x1169,x1170⟩,hn1170,h⟩:=un h;obtain⟨hb1170,F⟩:=CH Ce hn1170 F;obtain⟨hv8,hv9,hv10,hv11,hv12,hv13,hv14,hv15,hv16,hv17,h⟩:=un h;exact Ah hS F h
end
theorem WZ{f:List Un}(h:FV f){u:Un}(hu:u∈f):C6 (CZ f u.1) u=f:=by
 obtain⟨i,hi,rfl⟩:=Ix hu;obtain⟨r,p⟩:=h.pos (A6 f i).1;have hr:r=i:=by
  have h1:r<=i:=by
   by_cases c:r<=i
   ·exact c
   ·have:=p.lo i (by omega);omega
  by_cases c:r=i
  ·exact c
  ·have:=p.hi r (w6 _) (by omega);have:=Hr.1 h.srt r i (by omega) hi;omega
 subst hr;have e1:Ju (CZ f (A6 f r).1) (A6 f r).1=Ju f (A6 f r).1:=by unfold Ju CZ;rw[List.filter_filter];grind
 have e2:K4 f (A6 f r).1=A6 f r::K4 (CZ f (A6 f r).1) (A6 f r).1:=by
  have hd:K4 f (A6 f r).1=A6 f r::f.drop (r+1):=by rw[<-p.split.2,z7 hi,FB hi]
  rw[hd];congr 1;have hg:K4 (CZ f (A6 f r).1) (A6 f r).1=(K4 f (A6 f r).1).filter λv=>decide (v.1≠(A6 f r).1):=by grind[K4,CZ,List.filter_filter]
  rw[hg,hd,List.filter_cons,t7 (by simp)];refine(A58.2 λv hv=>?_).symm;obtain⟨k,hk,rfl⟩:=List.mem_drop_iff_getElem.1 hv;have:=Hr.1 h.srt r (k+(r+1)) (by omega) (by omega);rw[FB (show k+(r+1)<f.length by omega)]at this;grind
 unfold C6;rw[e1];exact(congrArg (Ju f (A6 f r).1++·) e2.symm).trans (h.cut _)
theorem W0{f:List Un}(h:FV f){u:Un}(hu:u∈f):Fit (CZ f u.1) u:=by
 refine⟨h.sub List.filter_sublist,h.val u hu,?_,λv hv=>by have:=(A18.1 hv).2;simpa using this,λv hv=>?_⟩
 ·have hl:=h.len;have:(CZ f u.1).length<f.length:=by refine List.length_filter_lt_length_iff_exists.2 ⟨u,hu,by simp⟩
  omega
 ·obtain⟨hv1,hv2⟩:=A18.1 hv;obtain⟨i,hi,rfl⟩:=Ix hu;obtain⟨k,hk,rfl⟩:=Ix hv1;all_goals grind[Hr,h.dis,LO]
def Kd(u:Un):Int:=E8 u.2.2.2.1*(u.2.2.2.2.2-u.2.2.2.2.1)
theorem zN{u:Un}(h:UV u): -128000000<=Kd u/\Kd u<=128000000:=by have:=GF (x:=E8 u.2.2.2.1) (y:=u.2.2.2.2.2-u.2.2.2.2.1) (A:=16000000) (B:=8) (OA h.l) (by have:=h.d;omega) (by omega);unfold Kd;omega
def NL(f:List Un):Int:=(f.map Kd).sum
theorem Vf{N:Nat}(hN:1001<=N){f:List Un}(h:FV f):∀n i (o:Int),i<=f.length->f.length<n+i->(-128000000*i<=o/\o<=128000000*i)->Em N f n o (i:Nat)=some (o+NL (f.drop i))
 |0,i,o,h1,h2,_=>by omega
 |n+1,i,o,h1,h2,h3=>by
  have hl:=h.len;rw[Em];by_cases e:i=f.length
  ·subst e;rw[K3,cF,List.drop_length];unfold NL;simp
  ·have hi:i<f.length:=by omega
   have u:=h.val _ (FY hi);have vb:=zN u;rw[Fe hi,cT,GE hi,bS];simp only;rw[aK (by omega) u,bS,show E8 (A6 f i).2.2.2.1*((A6 f i).2.2.2.2.2-(A6 f i).2.2.2.2.1)=Kd (A6 f i)from rfl,Ab (by unfold Ai;omega),Ab (by unfold Ai;omega),<-ns,Vf hN h n (i+1) _ (by omega) (by omega) (by omega),z7 hi,<-FB hi];unfold NL;rw[w5,List.sum_cons,Int.add_assoc]
theorem zO{N:Nat}(hN:1001<=N){f:List Un}(h:FV f):AR N f=some (NL f):=by have hl:=h.len;have L:=Vf hN h N 0 0 (by omega) (by omega) (by omega);rw[y9,List.drop_zero,Int.zero_add]at L;unfold AR;rw[UM hN,bS,q9 h,BL _ (by rfl),L,bS]
theorem R1{f:List Un}{u:Un}(h:Fit f u):NL (C6 f u)=NL f+Kd u:=by
 unfold NL;have e:(f.map Kd).sum=((Ju f u.1).map Kd).sum+((K4 f u.1).map Kd).sum:=by rw[<-List.sum_append,<-A24,h.hf.cut]
 rw[e];unfold C6;rw[A24,List.sum_append,w5,List.sum_cons];omega
theorem kR(f P:B5):Bo (SE f) P= -Bo f P:=by unfold Bo SE;simp only;grind
theorem W3(f:B5->Int):∀Ls:List B5,∃k,0<k/\∀L∈Ls,-f L<=k
 |[]=>⟨1,by omega,by simp⟩
 |L::Ls=>by
  obtain⟨k,k0,hk⟩:=W3 f Ls;refine⟨max k (-f L),by omega,λM hM=>?_⟩;rcases y6.1 hM with rfl|hM
  ·omega
  ·have:=hk M hM;omega
theorem aU{l b A:List Pt}(hl:VP l)(hb:VP b)(hA:VP A)(hs:∀p∈A,p∈l)(h:apart l b):apart A b:=by
 rcases h with⟨j,hj,hsep⟩|⟨j,hj,hsep⟩
 ·refine Classical.byContradiction λhn=>?_
  obtain⟨P,hw,hP⟩:=XN hA hb hn;have hf:=Rc hl hj;have pA:0<=Bo (DE l j) P:=by
   have:=Rb hA (f:=SE (DE l j)) (P:=P) (by unfold SE;simp only;omega) (λq hq=>by rw[kR,Jr];have:=OF hl hj (hs q hq);omega) ⟨hw,λL hL=>A29 (hP L (List.mem_append_left _ hL))⟩;rw[kR]at this;omega
  obtain⟨k,k0,hk⟩:=W3 (λL=>dv L ((DE l j).1,(DE l j).2.1)) (A3 b);have up:Bo (DE l j) (OG k P 1 ((DE l j).1,(DE l j).2.1))<=0:=Rb hb hf (λq hq=>by rw[Jr];exact hsep q hq) ⟨A35 k0 hw,λL hL=>by rw[LN];have h1:=hP L (List.mem_append_right _ hL);have h2: -dv L ((DE l j).1,(DE l j).2.1)<=k:=hk L hL;have h3:k*1<=k*Bo L P:=Int.mul_le_mul_of_nonneg_left (by omega) (by omega);omega⟩;rw[LN]at up;have h3:0<=k*Bo (DE l j) P:=z8 (by omega) pA;have h4:0<dv (DE l j) ((DE l j).1,(DE l j).2.1):=by
   unfold dv;simp only;rcases hf with hf|hf
   ·have h1:0<(DE l j).1*(DE l j).1:=by
     rcases Int.lt_or_gt_of_ne hf with g|g
     ·exact Int.mul_pos_of_neg_of_neg g g
     ·exact A35 g g
    have h2:0<=(DE l j).2.1*(DE l j).2.1:=by
     by_cases g:0<=(DE l j).2.1
     ·exact z8 g g
     ·exact A29 (Int.mul_pos_of_neg_of_neg (by omega) (by omega))
    omega
   ·have h1:0<(DE l j).2.1*(DE l j).2.1:=by
     rcases Int.lt_or_gt_of_ne hf with g|g
     ·exact Int.mul_pos_of_neg_of_neg g g
     ·exact A35 g g
    have h2:0<=(DE l j).1*(DE l j).1:=by
     by_cases g:0<=(DE l j).1
     ·exact z8 g g
     ·exact A29 (Int.mul_pos_of_neg_of_neg (by omega) (by omega))
    omega
  omega
 ·exact .inr ⟨j,hj,λp hp=>hsep p (hs p hp)⟩
theorem Vg{n:Nat}(h:0<n)(c:Int):∃i:Nat,pk c n=i/\i<n:=by have:=@GO c n (by omega);exact⟨(pk c n).toNat,by omega,by omega⟩
theorem Po{f:List Un}(h:FV f){u:Un}(hu:u∈f):FD f u.1=(u,true):=by obtain⟨i,hi,rfl⟩:=Ix hu;unfold FD;rw[t8 h,RP h hi]
open Classical in
theorem oV{f:List Un}(h:FV f)(t:Int):(FD f t).2=decide (∃v∈f,v.1=t):=by
 by_cases c:∃v∈f,v.1=t
 ·obtain⟨v,hv,rfl⟩:=c;rw[Po h hv,q9 ⟨v,hv,rfl⟩]
 ·unfold FD;rw[t8 h,WK c,s6 c]
structure Parts(f:List Un)(u:Un)(t:Int)(A B:List Pt):Prop where
 v1:UV (Cw u A)
 v2:UV (FQ (Cw u B) t)
 f1:Fit (CZ f u.1) (Cw u A)
 f2:Fit (C6 (CZ f u.1) (Cw u A)) (FQ (Cw u B) t)
 vol:NL (C6 (C6 (CZ f u.1) (Cw u A)) (FQ (Cw u B) t))=NL f
theorem iH{f:List Un}(fv:FV f){u:Un}(mu:u∈f){A B:List Pt}(va:VP A)(vb:VP B)(sa:∀p∈A,p∈u.2.2.2.1)(sb:∀p∈B,p∈u.2.2.2.1)(hap:apart A B)(su:E8 A+E8 B=E8 u.2.2.2.1){t:Int}(ht:0<=t/\t<=99)(hn:¬∃v∈f,v.1=t)(hl:f.length<12):Parts f u t A B:=by
 have uv:=fv.val _ mu;have fr1:=W0 fv mu;have ir:=WZ fv mu;have v1:UV (Cw u A):=⟨uv.a,uv.b,uv.c,uv.d,va⟩
 have v2:UV (FQ (Cw u B) t):=⟨ht,uv.b,uv.c,uv.d,vb⟩
 have part:∀{C:List Pt}{w:Un},VP C->(∀p∈C,p∈u.2.2.2.1)->w.2.2.2=(C,u.2.2.2.2)->UV w->∀v,GD u v=false->GD w v=false:=λ{C w} hC hs ew hw v ho=>by rw[A21]at ho⊢;intro q;obtain⟨⟨q1,q2,q3⟩,q4⟩:=Rh.1 q;rw[ew]at q1 q4;exact ho (Rh.2 ⟨⟨q1,uv,q3⟩,λa=>q4 (aU uv.l q3.l hC hs a)⟩)
 have ll:(CZ f u.1).length+1=f.length:=by have:=LQ fr1;rw[ir]at this;omega
 have ft1:Fit (CZ f u.1) (Cw u A):=⟨fr1.hf,v1,fr1.hl,fr1.hi,λv hv=>part va sa rfl v1 v (fr1.ho v hv)⟩
 have l1:=LQ ft1;have ft2:Fit (C6 (CZ f u.1) (Cw u A)) (FQ (Cw u B) t):=⟨ft1.fv,v2,by omega,λv hv=>by
  rcases Hi.1 hv with q|q
  ·exact λe=>hn ⟨v,(A18.1 q).1,e⟩
  ·rw[q];exact λe=>hn ⟨u,mu,e⟩,λv hv=>by
  rcases Hi.1 hv with q|q
  ·exact part vb sb rfl v2 v (fr1.ho v q)
  ·rw[q,A21];exact λr=>(Rh.1 r).2 hap.symm⟩
 refine⟨v1,v2,ft1,ft2,?_⟩;rw[R1 ft2,R1 ft1,<-ir,R1 fr1,ir];have:Kd (Cw u A)+Kd (FQ (Cw u B) t)=Kd u:=by unfold Kd Cw FQ;simp only;rw[<-su,<-Int.add_mul]
 omega
open Classical in
theorem zP{f:List Un}{ms:List Mk}(sv:SV f ms){u:Un}(mu:u∈f){i k:Nat}(hi:i<u.2.2.2.1.length)(hk:k<u.2.2.2.1.length){t:Int}(ht:0<=t/\t<=99)(htu:t≠u.1):(¬(¬(CA u.2.2.2.1.length i k<2\/CA u.2.2.2.1.length k i<2)/\(¬∃v∈f,v.1=t)/\f.length<12)/\Mm (f,ms) (3,(t,0,0,[],0,0),u.1,i,k,(0,0,0,0,false))=none)\/((¬(CA u.2.2.2.1.length i k<2\/CA u.2.2.2.1.length k i<2)/\(¬∃v∈f,v.1=t)/\f.length<12)/\Parts f u t (CQ u.2.2.2.1 i (CA u.2.2.2.1.length i k)) (CQ u.2.2.2.1 k (CA u.2.2.2.1.length k i))/\Mm (f,ms) (3,(t,0,0,[],0,0),u.1,i,k,(0,0,0,0,false))=some (C6 (C6 (CZ f u.1) (Cw u (CQ u.2.2.2.1 i (CA u.2.2.2.1.length i k)))) (FQ (Cw u (CQ u.2.2.2.1 k (CA u.2.2.2.1.length k i))) t),ms.filter (Iy u.1))):=by
 have fv:=sv.1;have uv:=fv.val _ mu;have hv:=uv.l;have l3:=hv.l3;have l8:=hv.l8;have ua:=uv.a;have ef:=Po fv mu;unfold FD at ef;rw[t8 fv]at ef;have ef:f.find? (λv=>decide (v.1=u.1))=some u:=by
  cases e:f.find? (λv=>decide (v.1=u.1))with
  |none=>rw[e]at ef;cases ef
  |some v=>rw[e]at ef;cases ef;rfl
 have cz:KZ u.2.2.2.1 i k=RK u.2.2.2.1 i k:=by unfold KZ;rw[t8 (by omega),A19,A19]
 by_cases hc:CA u.2.2.2.1.length i k<2\/CA u.2.2.2.1.length k i<2
 ·refine .inl ⟨λq=>q.1 hc,?_⟩;by_cases fa:FA (3,(t,0,0,[],0,0),u.1,i,k,(0,0,0,0,false))
  ·rw[Iz sv fa,XY,ef];simp only;rw[cz,show RK u.2.2.2.1 i k=([],[],70)from t8 hc,t7 λq=>absurd q.1 (by decide)]
  ·exact JH fa
 have hne:i≠k:=λq=>hc ((eL hi hk l3).1 (.inl q))
 have fa:FA (3,(t,0,0,[],0,0),u.1,i,k,(0,0,0,0,false)):=zE.2 ⟨ua,ht,λe=>htu e.symm,by omega,by omega,by omega,rfl,rfl,rfl,rfl,rfl,rfl,rfl,rfl,rfl,rfl⟩;have ec:RK u.2.2.2.1 i k=(CQ u.2.2.2.1 i (CA u.2.2.2.1.length i k),CQ u.2.2.2.1 k (CA u.2.2.2.1.length k i),0):=t7 hc;by_cases hr:(¬∃v∈f,v.1=t)/\f.length<12
 ·have C:=ZJ hv hi hk (by omega) (by omega);have su:=(UF u.2.2.2.1 hi hk hne).1;have hsum:=RM hi hk hne;have P:=iH fv mu (ZA hv (i:=i) C.hm (by omega)) (ZA hv (i:=k) C.hm' (by omega)) (λp hp=>RH (by omega) hp) (λp hp=>RH (by omega) hp) (OE C) su ht hr.1 hr.2;refine .inr ⟨⟨hc,hr⟩,P,?_⟩;rw[Iz sv fa,XY,ef];simp only;rw[cz,ec];simp only;rw[t8 ⟨trivial,P.f1,P.f2⟩];refine t8 ?_;refine⟨?_,λm hm=>sv.2.ok m (A18.1 hm).1,λm hm=>?_,sv.2.srt.filter _⟩
  ·have:=sv.2.len;have:=List.length_filter_le (Iy u.1) ms;simp only;omega
  ·obtain⟨h1,h2⟩:=A18.1 hm;obtain⟨v,hv,e1,e2⟩:=sv.2.on m h1;unfold Iy at h2;rw[s7]at h2;exact⟨v,Hi.2 (.inl (Hi.2 (.inl (A18.2 ⟨hv,by rw[s7,e1];exact h2⟩)))),e1,e2⟩
 ·refine .inl ⟨λq=>hr q.2,?_⟩;rw[Iz sv fa,XY,ef];simp only;rw[cz,ec];simp only;rw[t7];rintro⟨-,q1,q2⟩;have fr1:=W0 fv mu;have ir:=WZ fv mu;have ll:(CZ f u.1).length+1=f.length:=by have:=LQ fr1;rw[ir]at this;omega
  have l1:=LQ q1;refine hr ⟨λ⟨v,hv,e⟩=>?_,by have:=q2.hl;omega⟩;by_cases c:v.1=u.1
  ·exact htu (e.symm.trans c)
  ·exact q2.hi v (Hi.2 (.inl (A18.2 ⟨hv,q9 c⟩))) e
theorem oW{n i k:Nat}(hi:i<n)(hk:k<n)(hn:3<=n):(1<((k:Int)-i+n).tmod n/\((k:Int)-i+n).tmod n<(n:Int)-1)↔¬(CA n i k<2\/CA n k i<2):=by
 rw[<-eL hi hk hn,Int.tmod_eq_emod_of_nonneg (by omega),Int.add_emod_right];have a1:(i+1)%n=if i+1=n then 0 else i+1:=by
  split
  ·rename_i h;rw[h,Nat.mod_self]
  ·exact A13 (by omega)
 have a2:(k+1)%n=if k+1=n then 0 else k+1:=by
  split
  ·rename_i h;rw[h,Nat.mod_self]
  ·exact A13 (by omega)
 have a3:((k:Int)-i)%n=if i<=k then(k:Int)-i else(k:Int)-i+n:=by
  split
  ·exact Int.emod_eq_of_lt (by omega) (by omega)
  ·rw[<-Int.add_emod_right];exact Int.emod_eq_of_lt (by omega) (by omega)
 rw[a1,a2,a3];split<;>split<;>split<;>omega
theorem VG{l:List Pt}(hv:VP l){i k m m':Nat}(hk:k<l.length)(hi:i<l.length)(C:CutAt l i k m m'):Im (CQ l i m) (CQ l k m')=((pa l k,pa l i),true):=by have q1:qa l k=pa l k:=Il hk;have q2:qa l i=pa l i:=Il hi;unfold Im;rw[t8 (OE C),eK C,q1,q2]
theorem VH(x1:List (Int×Int×Int×Int×Int×Int))(x2:List (Int×Int×Int×Int))(x3:List (Int×Int×Int×Int×Int×Int))(which i k number:Int)(h1:I6 x1)(h2:I4 x2)(h3:I6 x3)(g1:Ai which)(g2:Ai i)(g3:Ai k)(g4:Ai number):Fy 2000 x1 x2 x3 which i k number=some true:=by
 unfold Fy;obtain⟨f,ms,hm,sv⟩:=zK (N:=2000) (by omega) x3 h1 h2;have fv:=sv.1;have fl:=fv.len;have ml:=sv.2.len;rw[zL,bS,BL _ (by rfl),hm,bS];simp only;by_cases h0:f.length=0
 ·rw[Ca _ (q9 (by omega)),aQ (by omega) f (by omega),bS,q9 sv]
 obtain⟨w,ew,hw⟩:=Vg (show 0<f.length by omega) which;have mu:=FY hw;rw[BL _ (s6 (by omega)),kN g1 (by omega),bS,ew,GE hw,bS];simp only;generalize A6 f w=u at mu⊢;have uv:=fv.val _ mu;have hv:=uv.l;have l3:=hv.l3;have l8:=hv.l8;have ua:=uv.a;obtain⟨i',ei,hi⟩:=Vg (show 0<u.2.2.2.1.length by omega) i;obtain⟨k',ek,hk⟩:=Vg (show 0<u.2.2.2.1.length by omega) k;have pn:=@GO number 90 (by omega);rw[kN g2 (by omega),bS,ei,kN g3 (by omega),bS,ek,Ab (by unfold Ai;omega),kN g4 (by omega),bS,Ab (by unfold Ai;omega)];obtain⟨t,et⟩:∃t,t=(u.1+1+pk number 90).tmod 100:=⟨_,rfl⟩
 have ht:0<=t/\t<=99/\t≠u.1:=by rw[et,Int.tmod_eq_emod_of_nonneg (by omega)];omega
 rw[<-et,LU (by omega),bS];simp only;rw[Ab (by unfold Ai;omega),Ab (by unfold Ai;omega),Ab (by omega),Abs (by omega) (by omega) _ _ _ _ _ _ _ _ _ _ _ _ _ _ (by omega),oV fv];have gp:=oW hi hk l3;rcases zP sv mu hi hk ⟨ht.1,ht.2.1⟩ ht.2.2 with⟨hc,hs⟩|⟨hc,P,hs⟩
 ·rw[hs,show K0 none=(([],[]),170)from rfl,bS];simp only;rw[Ab (λ_=>by unfold Ai;omega),BL,Ca _ (by rfl)];rw[bne_eq_false_iff_eq,A49];simp only[y8,s7,A28,s8,gp];constructor
  ·intro h;exact absurd h (by decide)
  ·rintro⟨⟨q1,q2⟩,q3⟩;exact absurd ⟨q1,q2,by omega⟩ hc
 have hne:i'≠k':=λq=>hc.1 ((eL hi hk l3).1 (.inl q))
 have C:=ZJ hv hi hk (by have:=hc.1;omega) (by have:=hc.1;omega);have su:=UF u.2.2.2.1 hi hk hne;have hseam:=VG hv hk hi C;have hap:=OE C;have gv:=P.f2.fv;have vo:=P.vol;have p1:=P.v1;have p2:=P.v2;clear P;have m1:Cw u (CQ u.2.2.2.1 i' (CA u.2.2.2.1.length i' k'))∈C6 (C6 (CZ f u.1) (Cw u (CQ u.2.2.2.1 i' (CA u.2.2.2.1.length i' k')))) (FQ (Cw u (CQ u.2.2.2.1 k' (CA u.2.2.2.1.length k' i'))) t):=Hi.2 (.inl (Hi.2 (.inr rfl)));have m2:FQ (Cw u (CQ u.2.2.2.1 k' (CA u.2.2.2.1.length k' i'))) t∈C6 (C6 (CZ f u.1) (Cw u (CQ u.2.2.2.1 i' (CA u.2.2.2.1.length i' k')))) (FQ (Cw u (CQ u.2.2.2.1 k' (CA u.2.2.2.1.length k' i'))) t):=Hi.2 (.inr rfl);rw[hs];have gl:(C6 (C6 (CZ f u.1) (Cw u (CQ u.2.2.2.1 i' (CA u.2.2.2.1.length i' k')))) (FQ (Cw u (CQ u.2.2.2.1 k' (CA u.2.2.2.1.length k' i'))) t)).length<=12:=gv.len;generalize C6 (C6 (CZ f u.1) (Cw u (CQ u.2.2.2.1 i' (CA u.2.2.2.1.length i' k')))) (FQ (Cw u (CQ u.2.2.2.1 k' (CA u.2.2.2.1.length k' i'))) t)=g at*;rw[show K0 (some (g,ms.filter (Iy u.1)))=((g,ms.filter (Iy u.1)),0)from rfl,bS];simp only;rw[Ab (λ_=>by unfold Ai;omega),BL,BL _ (by rfl)]
 rotate_left
 ·rw[bne_eq_false_iff_eq,A49];simp only[y8,s7,A28,s8,gp];exact⟨λ_=>⟨⟨hc.1,hc.2.1⟩,by have:=hc.2.2;omega⟩,λ_=>trivial⟩
 have e1:=Po gv m1;have e2:=Po gv m2;have fvo:=zO (N:=2000) (by omega) gv;generalize CA u.2.2.2.1.length i' k'=m at*;generalize CA u.2.2.2.1.length k' i'=m' at*;generalize CQ u.2.2.2.1 i' m=A at*;generalize CQ u.2.2.2.1 k' m'=B at*;simp only[Cw,FQ]at e1 e2;have k1:BV 2000 g u.1=some ((u.1,u.2.1,u.2.2.1,A,u.2.2.2.2.1,u.2.2.2.2.2),true):=by rw[LU (by omega) g u.1,e1]
 have k2:BV 2000 g t=some ((t,u.2.1,u.2.2.1,B,u.2.2.2.2.1,u.2.2.2.2.2),true):=by rw[LU (by omega) g t,e2]
 rw[k1,bS];simp only;rw[k2,bS];simp only;have uA:UP u.1 u.2.1 u.2.2.1 A u.2.2.2.2.1 u.2.2.2.2.2:=p1;have uB:UP t u.2.1 u.2.2.1 B u.2.2.2.2.1 u.2.2.2.2.2:=p2;have uu:UP u.1 u.2.1 u.2.2.1 u.2.2.2.1 u.2.2.2.2.1 u.2.2.2.2.2:=uv;have w1:=uv.d;have w2:=U1 uv.c;have ht':Ro u.1 t A B u.2.2.2.2.1 u.2.2.2.2.2 u.2.2.2.2.1 u.2.2.2.2.2=((u.1,t,(pa u.2.2.2.1 k',pa u.2.2.2.1 i'),u.2.2.2.2.1,u.2.2.2.2.2),true):=by unfold Ro;rw[Int.max_self,Int.min_self,t8 w1.2.1,hseam];rfl
 have s0:(Hg A B).2.2=true:=MM.2 hap;have aA:=OA uA.l;have aB:=OA uB.l;have mA:=(XJ uA.l).1;have mB:=(XJ uB.l).1;obtain⟨u1,u2,_⟩:=su;have x1:=GF aA (y:=u.2.2.2.2.2-u.2.2.2.2.1) (B:=8) (by omega) (by omega);have x2:=GF aB (y:=u.2.2.2.2.2-u.2.2.2.2.1) (B:=8) (by omega) (by omega);have x3:=GF (x:=3*(E8 A*(u.2.2.2.2.2-u.2.2.2.2.1))) (A:=400000000) (y:=JL u.2.2.1) (B:=10) (by omega) (by omega) (by omega);have x4:=GF (x:=3*(E8 B*(u.2.2.2.2.2-u.2.2.2.2.1))) (A:=400000000) (y:=JL u.2.2.1) (B:=10) (by omega) (by omega) (by omega);have x5:=GF mA (y:=u.2.2.2.2.2-u.2.2.2.2.1) (B:=8) (by omega) (by omega);have x6:=GF mB (y:=u.2.2.2.2.2-u.2.2.2.2.1) (B:=8) (by omega) (by omega);have x7:=GF (x:=IR A*(u.2.2.2.2.2-u.2.2.2.2.1)) (A:=170000000000) (y:=JL u.2.2.1) (B:=10) (by omega) (by omega) (by omega);have x8:=GF (x:=IR B*(u.2.2.2.2.2-u.2.2.2.2.1)) (A:=170000000000) (y:=JL u.2.2.1) (B:=10) (by omega) (by omega) (by omega);have y2:3*(E8 A*(u.2.2.2.2.2-u.2.2.2.2.1))*JL u.2.2.1+3*(E8 B*(u.2.2.2.2.2-u.2.2.2.2.1))*JL u.2.2.1=3*(E8 u.2.2.2.1*(u.2.2.2.2.2-u.2.2.2.2.1))*JL u.2.2.1:=by rw[<-u1];grind
 have y3:IR A*(u.2.2.2.2.2-u.2.2.2.2.1)*JL u.2.2.1+IR B*(u.2.2.2.2.2-u.2.2.2.2.1)*JL u.2.2.1=IR u.2.2.2.1*(u.2.2.2.2.2-u.2.2.2.2.1)*JL u.2.2.1:=by rw[<-u2];grind
 rw[fvo,zO (by omega) fv,vo,OP (by omega) uA,OP (by omega) uB,OP (by omega) uu,OQ (by omega) uA,OQ (by omega) uB,OQ (by omega) uu];rw[aJ (by omega) uA uB,ht',bS];simp only;rw[VF (by omega) uA uB,s0,BY (λ_=>w8),A00,BL _ (by simp),GB hk,bS];simp only;rw[GB hi,bS];simp only;rw[BY (λ_=>w8),BY (λ_=>w8),BY (λ_=>w8),BY (λ_=>w8),BY (λ_=>by rw[A00,A00];unfold Ai;omega),BY (λ_=>w8),BY (λ_=>w8),BY (λ_=>w8),BY (λ_=>by rw[A00,A00];unfold Ai;omega),BY (λ_=>w8)];simp only[A00,y2,y3,decide_true,A53,A60]
