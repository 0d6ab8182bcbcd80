import Derived.Test.YtciphecegkfaiaaGreatP3
set_option linter.unusedSimpArgs false
set_option linter.unusedVariables false
namespace Go.Proofs.YtciphecegkfaiaaGreat.Am
open Go
section
attribute [local irreducible] As Cn B6 BK CA BJ Bv Cl Cv Dx
set_option maxRecDepth 100000
set_option maxHeartbeats 8000000
def Gi(N:Nat)(c570:Int)(ae:Int):Option Int:=bif decide (c570<0)then(gd (Ab (c570+1))<|gd (Ab (-(c570+1)))<|gd (ae≠0)<|some ((-(c570+1)).tmod ae))else(gd (ae≠0)<|some (c570.tmod ae))
@[go_sem] def Adb(N:Nat):Spec:=p0<|pI λc570=>pI λae=>pE<|pF (Gi N c570 ae) 0 λr=>.i r
theorem yS(N:Nat):AZ Tryz.prog 104 (Adb N):=by
 refine Ax x104.ok<|Ad λc570=>Ad λae=>Ai<|Ay λr h=>wx x104 (An) λ_ hS F=>?_
 dsimp only[x104,Al];unfold Gi at h;refine Ap hS F h (λ_ h=>?_) (λ_ h=>?_)
 ·obtain⟨bz,bw,bq,h⟩:=un h;exact Af hS F h
 ·obtain⟨bv,h⟩:=un h;exact Af hS F h
def CN(N:Nat)(a575:List (Int×Int))(b581:List (Int×Int)):Nat->Int->Option (Sum Unit Bool)|0,_=>none|n+1,af=>bif decide (af<(a575.length:Int))then((AA a575 af).bind λ(bg,be)=>(AA b581 af).bind λ(bb,az)=>bif !(decide (bg=bb)&&decide (be=az))then(some (.inr false))else(gd (Ab (af+1))<|CN N a575 b581 n (af+1)))else(some (.inl ()))
def BZ(N:Nat)(aw:Int)(av:Int)(au:Int)(a575:List (Int×Int))(aq:Int)(an:Int)(am:Int)(ak:Int)(aj:Int)(b581:List (Int×Int))(ai:Int)(ah:Int):Option Bool:=bif (((((decide (aw≠am))||(decide (av≠ak)))||(decide (au≠aj)))||(decide (aq≠ai)))||(decide (an≠ah)))||(decide ((a575.length:Int)≠(b581.length:Int)))then(some false)else((CN N a575 b581 N 0).bind λay=>match ay with|.inl ()=>(some true)|.inr bm=>(some bm))
@[go_sem] def s48(N:Nat):Spec:=p0<|pG<|pI λaw=>pI λav=>pI λau=>pS AF λa575=>pI λaq=>pI λan=>pE<|pG<|pI λam=>pI λak=>pI λaj=>pS AF λb581=>pI λai=>pI λah=>pE<|pE<|pF (BZ N aw av au a575 aq an am ak aj b581 ai ah) false λr=>.b r
theorem Zn(N:Nat):AZ Tryz.prog 48 (s48 N):=by
 refine Ax x48.ok<|A2<|Ad λaw=>Ad λav=>Ad λau=>Bf λa575=>Ad λaq=>Ad λan=>Ai<|A2<|Ad λam=>Ad λak=>Ad λaj=>Bf λb581=>Ad λai=>Ad λah=>Ai<|Ai<|Ay λr h=>wx x48 (An) λ_ hS F=>?_
 dsimp only[x48,Al,AF];unfold BZ at h;refine Ap hS F h (λ_ h=>?_) (λ_ h=>?_)
 ·exact Af hS F h
 ·obtain⟨ay,br,h⟩:=un h;refine go hS F ?_;refine AM ay (λz:Nat=>⟨[],[],z⟩) (λz=>(.inl ():Sum Unit Bool)) (.x 0) ?_ ?_
  ·refine AH (λn (y:Int×Nat)=>CN N a575 b581 n y.1) (λy=>⟨[(2,.box (0,1) 0),(3,.box (1,1) 0),(5,.i y.1)],[(.c (1,1) 0,.i am),(.c (1,1) 1,.i ak),(.c (1,1) 2,.i aj),(.c (1,1) 3,A3 b581),(.c (1,1) 4,.i ai),(.c (1,1) 5,.i ah),(.c (0,1) 0,.i aw),(.c (0,1) 1,.i av),(.c (0,1) 2,.i au),(.c (0,1) 3,A3 a575),(.c (0,1) 4,.i aq),(.c (0,1) 5,.i an)],y.2⟩) (0,3) br (Bn F) ?_;rintro n ⟨af,bj⟩ aa;simp only[CN]at aa;refine Ap hS F aa (λ_ aa=>?_) (λ_ aa=>?_)
   ·obtain⟨⟨bg,be⟩,bi,aa⟩:=un aa;obtain⟨bp,F⟩:=Bt By bi F;obtain⟨⟨bb,az⟩,bh,aa⟩:=un aa;obtain⟨bo,F⟩:=Bt By bh F;refine Ap hS F aa (λ_ aa=>?_) (λ_ aa=>?_)
    ·obtain rfl:=yJ aa;exact Af hS F h
    ·obtain⟨bq,aa⟩:=un aa;exact Bk hS F (n,af+1,bj+1+1+1) aa
   ·exact A9 hS F (bj+1) aa
  ·rintro bu rfl;exact Af hS F h
end
section
attribute [local irreducible] As Cn B6 BK CA BJ Bv Cl Cv Dx
set_option maxRecDepth 100000
set_option maxHeartbeats 8000000
def HZ(x:Int×Int×Int):List AV:=[.i x.1,.i x.2.1,.i x.2.2]
def UB:List AV->Int×Int×Int|[.v (.int _ a1),.v (.int _ a2),.v (.int _ a3)]=>(a1,a2,a3)|_=>(0,0,0)
theorem xZ(x:Int×Int×Int):UB (HZ x)=x:=by rfl
theorem yA(R:List (Int×Int×Int)):(R.map HZ).map UB=R:=by
 induction R with
 |nil=>rfl
 |cons r R ih=>rw[eZ,eZ,ih,xZ]
theorem cC(R:List (Int×Int×Int))(i:Nat):BG (R.map HZ) [.i 0,.i 0,.i 0] i=HZ (R.getD i (0,0,0)):=by unfold BG;rw[eT,eT,qX];cases R[i]? <;>rfl
theorem sU(A B:List (Int×Int×Int))(i:Nat):BG (A.map HZ++B.map HZ) [.i 0,.i 0,.i 0] i=HZ ((A++B).getD i (0,0,0)):=by rw[<-w9];exact cC _ _
def Abi:Rw (Int×Int×Int):=⟨3,HZ,UB,[.i 0,.i 0,.i 0]⟩
def Abj(l:List (Int×Int×Int)):AV:=.sl 3 false (l.map HZ) [.i 0,.i 0,.i 0]
def Fh(l:List (Int×Int×Int)):AV:=.sl 3 true (l.map HZ) [.i 0,.i 0,.i 0]
attribute [go_sem] Abi Abj Fh HZ UB yA cC sU
def DP(N:Nat)(a805:List (Int×Int)):Nat->Int->(List (Int×Int×Int))->Option ((List (Int×Int×Int)))|0,_,_=>none|n+1,d8,l826=>bif decide (d8<(a805.length:Int))then((AA a805 d8).bind λ(cy,cu)=>(Ci N a805 d8).bind λ(dq,dp)=>gd (Ab (cu-dp))<|gd (Ab (dq-cy))<|gd (Ab (dp-cu))<|gd (Ab ((dp-cu)*cy))<|gd (Ab (dq-cy))<|gd (Ab ((dq-cy)*cu))<|gd (Ab (((dp-cu)*cy)-((dq-cy)*cu)))<|gd ((l826.length+1)*24<=140737488355328)<|gd (Ab (d8+1))<|DP N a805 n (d8+1) (l826++[(cu-dp,dq-cy,((dp-cu)*cy)-((dq-cy)*cu))]))else(some l826)
def DQ(N:Nat)(b806:List (Int×Int)):Nat->Int->(List (Int×Int×Int))->Option ((List (Int×Int×Int)))|0,_,_=>none|n+1,d7,l856=>bif decide (d7<(b806.length:Int))then((AA b806 d7).bind λ(cr,cq)=>(Ci N b806 d7).bind λ(dm,dl)=>gd (Ab (cq-dl))<|gd (Ab (dm-cr))<|gd (Ab (dl-cq))<|gd (Ab ((dl-cq)*cr))<|gd (Ab (dm-cr))<|gd (Ab ((dm-cr)*cq))<|gd (Ab (((dl-cq)*cr)-((dm-cr)*cq)))<|gd ((l856.length+1)*24<=140737488355328)<|gd (Ab (d7+1))<|DQ N b806 n (d7+1) (l856++[(cq-dl,dm-cr,((dl-cq)*cr)-((dm-cr)*cq))]))else(some l856)
def DF(N:Nat)(l837:List (Int×Int×Int))(l867:List (Int×Int×Int))(bg:Int)(be:Int)(bm:Int):Nat->Bool->Int->Option Bool|0,_,_=>none|n+1,ae,n1141=>bif decide (n1141<((l837++l867).length:Int))then(gd (ae=true->(0<=n1141/\n1141<((l837++l867).length:Int)))<|gd (ae=true->(0<=n1141/\n1141<((l837++l867).length:Int)))<|gd (ae=true->(Ab ((((l837++l867).getD n1141.toNat (0,0,0)).1)*bg)))<|gd (ae=true->(0<=n1141/\n1141<((l837++l867).length:Int)))<|gd (ae=true->(0<=n1141/\n1141<((l837++l867).length:Int)))<|gd (ae=true->(Ab ((((l837++l867).getD n1141.toNat (0,0,0)).2.1)*be)))<|gd (ae=true->(Ab (((((l837++l867).getD n1141.toNat (0,0,0)).1)*bg)+((((l837++l867).getD n1141.toNat (0,0,0)).2.1)*be))))<|gd (ae=true->(0<=n1141/\n1141<((l837++l867).length:Int)))<|gd (ae=true->(0<=n1141/\n1141<((l837++l867).length:Int)))<|gd (ae=true->(Ab ((((l837++l867).getD n1141.toNat (0,0,0)).2.2)*bm)))<|gd (ae=true->(Ab ((((((l837++l867).getD n1141.toNat (0,0,0)).1)*bg)+((((l837++l867).getD n1141.toNat (0,0,0)).2.1)*be))+((((l837++l867).getD n1141.toNat (0,0,0)).2.2)*bm))))<|gd (Ab (n1141+1))<|DF N l837 l867 bg be bm n (ae&&(decide (0<=(((((l837++l867).getD n1141.toNat (0,0,0)).1)*bg)+((((l837++l867).getD n1141.toNat (0,0,0)).2.1)*be))+((((l837++l867).getD n1141.toNat (0,0,0)).2.2)*bm)))) (n1141+1))else(some ae)
def Cx(N:Nat)(l837:List (Int×Int×Int))(l867:List (Int×Int×Int))(af:Int):Nat->Int->(List (Int×Int×Int))->Option ((List (Int×Int×Int)))|0,_,_=>none|n+1,bb,l1106=>bif decide (bb<((l837++l867).length:Int))then((AA (l837++l867) af).bind λ(au,aq,az)=>(AA (l837++l867) bb).bind λ(an,am,ay)=>gd (Ab (aq*ay))<|gd (Ab (am*az))<|gd (Ab ((aq*ay)-(am*az)))<|gd (Ab (az*an))<|gd (Ab (ay*au))<|gd (Ab ((az*an)-(ay*au)))<|gd (Ab (au*am))<|gd (Ab (an*aq))<|gd (Ab ((au*am)-(an*aq)))<|bif decide ((au*am)-(an*aq)=0)then(gd (Ab (bb+1))<|Cx N l837 l867 af n (bb+1) l1106)else((bif decide ((au*am)-(an*aq)<0)then(gd (Ab (-((aq*ay)-(am*az))))<|gd (Ab (-((az*an)-(ay*au))))<|gd (Ab (-((au*am)-(an*aq))))<|some (-((aq*ay)-(am*az)),-((az*an)-(ay*au)),-((au*am)-(an*aq))))else(some ((aq*ay)-(am*az),(az*an)-(ay*au),(au*am)-(an*aq))):Option (Int×Int×Int)).bind λ(bg,be,bm)=>(DF N l837 l867 bg be bm N true 0).bind λgf=>bif gf then(gd ((l1106.length+1)*24<=140737488355328)<|gd (Ab (bb+1))<|Cx N l837 l867 af n (bb+1) (l1106++[(bg,be,bm)]))else(gd (Ab (bb+1))<|Cx N l837 l867 af n (bb+1) l1106)))else(some l1106)
def DG(N:Nat)(l837:List (Int×Int×Int))(l867:List (Int×Int×Int)):Nat->Int->(List (Int×Int×Int))->Option ((List (Int×Int×Int)))|0,_,_=>none|n+1,af,dz=>bif decide (af<((l837++l867).length:Int))then(gd (Ab (af+1))<|(Cx N l837 l867 af N (af+1) dz).bind λgc=>gd (Ab (af+1))<|DG N l837 l867 n (af+1) gc)else(some dz)
def Bz(N:Nat)(bo:Int)(l1158:List (Int×Int×Int))(ai:Int):Nat->Int->Option (Sum Unit Bool)|0,_=>none|n+1,dg=>bif decide (dg<bo)then((AA l1158 ai).bind λ(du,dt,eh)=>(AA l1158 bo).bind λ(bw,bv,bj)=>(AA l1158 dg).bind λ(bu,br,bi)=>gd (Ab (bv*bi))<|gd (Ab (bj*br))<|gd (Ab ((bv*bi)-(bj*br)))<|gd (Ab (du*((bv*bi)-(bj*br))))<|gd (Ab (bw*bi))<|gd (Ab (bj*bu))<|gd (Ab ((bw*bi)-(bj*bu)))<|gd (Ab (dt*((bw*bi)-(bj*bu))))<|gd (Ab ((du*((bv*bi)-(bj*br)))-(dt*((bw*bi)-(bj*bu)))))<|gd (Ab (bw*br))<|gd (Ab (bv*bu))<|gd (Ab ((bw*br)-(bv*bu)))<|gd (Ab (eh*((bw*br)-(bv*bu))))<|gd (Ab (((du*((bv*bi)-(bj*br)))-(dt*((bw*bi)-(bj*bu))))+(eh*((bw*br)-(bv*bu)))))<|bif decide (((du*((bv*bi)-(bj*br)))-(dt*((bw*bi)-(bj*bu))))+(eh*((bw*br)-(bv*bu)))≠0)then(some (.inr true))else(gd (Ab (dg+1))<|Bz N bo l1158 ai n (dg+1)))else(some (.inl ()))
def B2(N:Nat)(ai:Int)(l1158:List (Int×Int×Int)):Nat->Int->Option (Sum Unit Bool)|0,_=>none|n+1,bo=>bif decide (bo<ai)then((Bz N bo l1158 ai N 0).bind λfp=>match fp with|.inl ()=>(gd (Ab (bo+1))<|B2 N ai l1158 n (bo+1))|.inr je=>(some (.inr je)))else(some (.inl ()))
def B3(N:Nat)(l1158:List (Int×Int×Int)):Nat->Int->Option (Sum Unit Bool)|0,_=>none|n+1,ai=>bif decide (ai<(l1158.length:Int))then((B2 N ai l1158 N 0).bind λfo=>match fo with|.inl ()=>(gd (Ab (ai+1))<|B3 N l1158 n (ai+1))|.inr jd=>(some (.inr jd)))else(some (.inl ()))
def BY(N:Nat)(a805:List (Int×Int))(b806:List (Int×Int)):Option Bool:=(Bo N a805).bind λij=>gd ((!(!ij))=true->((Bo N b806).isSome=true))<|bif (!ij)||(!((Bo N b806).getD false))then(some false)else((DP N a805 N 0 []).bind λl837=>(DQ N b806 N 0 []).bind λl867=>gd ((l837.length+l867.length)*24<=140737488355328)<|(DG N l837 l867 N 0 []).bind λl1158=>(B3 N l1158 N 0).bind λfj=>match fj with|.inl ()=>(some false)|.inr jc=>(some jc))
@[go_sem] def AcU(N:Nat):Spec:=p0<|pS AF λa805=>pS AF λb806=>pE<|pF (BY N a805 b806) false λr=>.b r
theorem cD(N:Nat):AZ Tryz.prog 145 (AcU N):=by
 refine Ax x145.ok<|Bf λa805=>Bf λb806=>Ai<|Ay λr h=>wx x145 (Ac (Pk N)<|Ac (R7 N)<|An) λ_ hS F=>?_
 dsimp only[x145,Al,AF];unfold BY at h;obtain⟨ij,jo,pc,h⟩:=un h;replace F:=fc jo F;refine Ap hS F h (λ_ h=>?_) (λ_ h=>?_)
 ·exact Af hS F h
 ·refine go hS F ?_;refine aE hS 1 3 (by decide) x168.hf x168.hc x168.hn x168.ok x168.hf x168.hc x168.hn x168.ok rfl rfl (ev F) (ev F) (ev F) ?_ rfl (ev F) (mO rfl) λhb=>?_
  ·exact Hk hS F
  dsimp only[x168,Al];refine go hS F ?_;refine Df 1000001 3 3 [.i 0,.i 0,.i 0] (by show(3:Nat)<52;omega) (by omega) (ev F) ?_;obtain⟨j5,pj,h⟩:=un h;refine go hS F ?_;refine AM j5 (λz:(List (Int×Int×Int))×Nat=>⟨[(3,.own (1000001,7) z.1.length)],[(.a (1000001,7),Fh z.1)],z.2⟩) (λz=>(z.1:(List (Int×Int×Int)))) (.x 0) ?_ ?_
  ·refine AH (λn (y:Int×(List (Int×Int×Int))×Nat)=>DP N a805 n y.1 y.2.1) (λy=>⟨[(0,A3 a805),(3,.own (1000001,7) y.2.1.length),(4,.i y.1)],[(.a (1000001,7),Fh y.2.1)],y.2.2⟩) (0,[],7) pj (Bn F) ?_;rintro n ⟨d8,l826,js⟩ fb;simp only[DP]at fb;refine Ap hS F fb (λ_ fb=>?_) (λ_ fb=>?_)
   ·obtain⟨⟨cy,cu⟩,jq,fb⟩:=un fb;obtain⟨lh,F⟩:=Bt By jq F;obtain⟨⟨dq,dp⟩,jn,fb⟩:=un fb;obtain⟨pp,po,pn,mq,l6,lm,j9,j8,j7,fb⟩:=un fb;exact Bk hS (fc jn F) (n,d8+1,l826++[(cu-dp,dq-cy,((dp-cu)*cy)-((dq-cy)*cu))],js+1+1+1+1+1) fb
   ·exact A9 hS F (l826,js+1) fb
  ·rintro⟨l837,gh⟩ rfl;refine go hS F ?_
   first|refine vU (ev F) (ev F) ?_ ?_ rfl (ev F) (by simp) λhb=>?_|refine vT (ev F) (ev F) ?_ ?_ rfl (ev F) (by simp) λhb=>?_
   ·exact Hk hS F
   ·exact Hk hS F
   try dsimp only[x168,Al]
   refine go hS F ?_;refine Df 1000002 3 3 [.i 0,.i 0,.i 0] (by show(3:Nat)<52;omega) (by omega) (ev F) ?_;obtain⟨jz,ja,h⟩:=un h;refine go hS F ?_;refine AM jz (λz:(List (Int×Int×Int))×Nat=>⟨[(3,.own (1000002,gh+1+1+1+1+1+1) z.1.length)],[(.a (1000001,7),Fh l837),(.a (1000002,gh+1+1+1+1+1+1),Fh z.1)],z.2⟩) (λz=>(z.1:(List (Int×Int×Int)))) (.x 0) ?_ ?_
   ·refine AH (λn (y:Int×(List (Int×Int×Int))×Nat)=>DQ N b806 n y.1 y.2.1) (λy=>⟨[(0,A3 b806),(3,.own (1000002,gh+1+1+1+1+1+1) y.2.1.length),(4,.i y.1)],[(.a (1000001,7),Fh l837),(.a (1000002,gh+1+1+1+1+1+1),Fh y.2.1)],y.2.2⟩) (0,[],gh+1+1+1+1+1+1) ja (Bn F) ?_;rintro n ⟨d7,l856,jr⟩ aj;simp only[DQ]at aj;refine Ap hS F aj (λ_ aj=>?_) (λ_ aj=>?_)
    ·obtain⟨⟨cr,cq⟩,jp,aj⟩:=un aj;obtain⟨lg,F⟩:=Bt By jp F;obtain⟨⟨dm,dl⟩,jm,aj⟩:=un aj;obtain⟨j6,o9,o8,o7,oz,oy,ox,ov,ot,aj⟩:=un aj;exact Bk hS (fc jm F) (n,d7+1,l856++[(cq-dl,dm-cr,((dl-cq)*cr)-((dm-cr)*cq))],jr+1+1+1+1+1) aj
    ·exact A9 hS F (l856,jr+1) aj
   ·rintro⟨l867,av⟩ rfl;obtain⟨om,h⟩:=un h;refine go hS F ?_;refine Df 1000004 6 3 [.i 0,.i 0,.i 0] (by show(6:Nat)<245;omega) (by omega) (ev F) ?_;obtain⟨jh,lf,h⟩:=un h;refine go hS F ?_;refine AM jh (λz:(List (Int×Int×Int))×Nat=>⟨[(6,.own (1000004,av+1+1+1+1+1) z.1.length)],[(.a (1000004,av+1+1+1+1+1),Fh z.1)],z.2⟩) (λz=>(z.1:(List (Int×Int×Int)))) (.x 0) ?_ ?_
    ·refine AH (λn (y:Int×(List (Int×Int×Int))×Nat)=>DG N l837 l867 n y.1 y.2.1) (λy=>⟨[(5,.own (1000001,7) (l837++l867).length),(6,.own (1000004,av+1+1+1+1+1) y.2.1.length),(7,.i y.1)],[(.a (1000004,av+1+1+1+1+1),Fh y.2.1),(.a (1000001,7),Fh (l837++l867))],y.2.2⟩) (0,[],av+1+1+1+1+1) lf (Bn F) ?_;rintro n ⟨af,dz,ig⟩ cz;simp only[DG]at cz;refine Ap hS F cz (λ_ cz=>?_) (λ_ cz=>?_)
     ·obtain⟨oj,cz⟩:=un cz;obtain⟨ji,k9,cz⟩:=un cz;refine go hS F ?_;refine AM ji (λz:(List (Int×Int×Int))×Nat=>⟨[(5,.own (1000001,7) (l837++l867).length),(6,.own (1000004,av+1+1+1+1+1) z.1.length),(7,.i af)],[(.a (1000004,av+1+1+1+1+1),Fh z.1),(.a (1000001,7),Fh (l837++l867))],z.2⟩) (λz=>(z.1:(List (Int×Int×Int)))) (.x 2) ?_ ?_
      ·refine AH (λn (y:Int×(List (Int×Int×Int))×Nat)=>Cx N l837 l867 af n y.1 y.2.1) (λy=>⟨[(5,.own (1000001,7) (l837++l867).length),(6,.own (1000004,av+1+1+1+1+1) y.2.1.length),(7,.i af),(8,.i y.1)],[(.a (1000004,av+1+1+1+1+1),Fh y.2.1),(.a (1000001,7),Fh (l837++l867))],y.2.2⟩) (af+1,dz,ig+1+1) k9 (Bn F) ?_;rintro n ⟨bb,l1106,aw⟩ ah;simp only[Cx]at ah;refine Ap hS F ah (λ_ ah=>?_) (λ_ ah=>?_)
       ·obtain⟨⟨au,aq,az⟩,i9,ah⟩:=un ah;obtain⟨km,F⟩:=Bt HZ i9 F;obtain⟨⟨an,am,ay⟩,i8,ah⟩:=un ah;obtain⟨kl,F⟩:=Bt HZ i8 F;obtain⟨oh,og,oe,od,oc,oa,n9,n8,n7,ah⟩:=un ah;refine Ap hS F ah (λ_ ah=>?_) (λ_ ah=>?_)
        ·obtain⟨n5,ah⟩:=un ah;exact Bk hS F (n,bb+1,l1106,aw+1+1+1+1) ah
        ·obtain⟨jk,d9,ah⟩:=un ah;refine go hS F ?_;refine AM jk (λz:Int×Int×Int×Nat=>⟨[(5,.own (1000001,7) (l837++l867).length),(6,.own (1000004,av+1+1+1+1+1) l1106.length),(7,.i af),(8,.i bb),(9,.box (1170,aw+1+1) 0)],[(.c (1170,aw+1+1) 0,.i z.1),(.c (1170,aw+1+1) 1,.i z.2.1),(.c (1170,aw+1+1) 2,.i z.2.2.1),(.a (1000004,av+1+1+1+1+1),Fh l1106),(.a (1000001,7),Fh (l837++l867))],z.2.2.2⟩) (λz=>((z.1,z.2.1,z.2.2.1):Int×Int×Int)) .n ?_ ?_
         ·refine Ap hS F d9 (λ_ d9=>?_) (λ_ d9=>?_)
          ·obtain⟨n4,nz,ny,d9⟩:=un d9;exact A9 hS F (-((aq*ay)-(am*az)),-((az*an)-(ay*au)),-((au*am)-(an*aq)),aw+1+1+1+1+1) d9
          ·exact A9 hS F ((aq*ay)-(am*az),(az*an)-(ay*au),(au*am)-(an*aq),aw+1+1+1+1) d9
         ·rintro⟨bg,be,bm,jy⟩ rfl;obtain⟨jj,kw,ah⟩:=un ah;refine go hS F ?_;refine AM jj (λz:Bool×Nat=>⟨[(5,.own (1000001,7) (l837++l867).length),(6,.own (1000004,av+1+1+1+1+1) l1106.length),(7,.i af),(8,.i bb),(9,.box (1170,aw+1+1) 0),(10,.b z.1)],[(.c (1170,aw+1+1) 0,.i bg),(.c (1170,aw+1+1) 1,.i be),(.c (1170,aw+1+1) 2,.i bm),(.a (1000004,av+1+1+1+1+1),Fh l1106),(.a (1000001,7),Fh (l837++l867))],z.2⟩) (λz=>(z.1:Bool)) (.x 4) ?_ ?_
          ·refine AH (λn (y:Bool×Int×Nat)=>DF N l837 l867 bg be bm n y.1 y.2.1) (λy=>⟨[(5,.own (1000001,7) (l837++l867).length),(6,.own (1000004,av+1+1+1+1+1) l1106.length),(7,.i af),(8,.i bb),(9,.box (1170,aw+1+1) 0),(10,.b y.1),(11,.i y.2.1)],[(.c (1170,aw+1+1) 0,.i bg),(.c (1170,aw+1+1) 1,.i be),(.c (1170,aw+1+1) 2,.i bm),(.a (1000004,av+1+1+1+1+1),Fh l1106),(.a (1000001,7),Fh (l837++l867))],y.2.2⟩) (true,0,jy+1+1) kw (Bn F) ?_;rintro n ⟨ae,n1141,ie⟩ d5;simp only[DF]at d5;refine Ap hS F d5 (λ_ d5=>?_) (λ_ d5=>?_)
           ·obtain⟨nw,nv,nu,nr,nq,no,nk,nj,nh,ng,nb,m9,d5⟩:=un d5;exact Bk hS F (n,ae&&(decide (0<=(((((l837++l867).getD n1141.toNat (0,0,0)).1)*bg)+((((l837++l867).getD n1141.toNat (0,0,0)).2.1)*be))+((((l837++l867).getD n1141.toNat (0,0,0)).2.2)*bm))),n1141+1,ie+1+1+1) d5
           ·exact A9 hS F (ae,ie+1) d5
          ·rintro⟨gf,ic⟩ rfl;refine Ap hS F ah (λ_ ah=>?_) (λ_ ah=>?_)
           ·obtain⟨m8,m7,ah⟩:=un ah;exact Bk hS F (n,bb+1,l1106++[(bg,be,bm)],ic+1+1+1) ah
           ·obtain⟨mz,ah⟩:=un ah;exact Bk hS F (n,bb+1,l1106,ic+1+1) ah
       ·exact A9 hS F (l1106,aw+1) ah
      ·rintro⟨gc,jx⟩ rfl;obtain⟨my,cz⟩:=un cz;exact Bk hS F (n,af+1,gc,jx+1) cz
     ·exact A9 hS F (dz,ig+1) cz
    ·rintro⟨l1158,jw⟩ rfl;obtain⟨fj,kv,h⟩:=un h;refine go hS F ?_;refine AM fj (λz:Nat=>⟨[],[],z⟩) (λz=>(.inl ():Sum Unit Bool)) (.x 6) ?_ ?_
     ·refine AH (λn (y:Int×Nat)=>B3 N l1158 n y.1) (λy=>⟨[(6,.own (1000004,av+1+1+1+1+1) l1158.length),(12,.i y.1)],[(.a (1000004,av+1+1+1+1+1),Fh l1158)],y.2⟩) (0,jw+1) kv (Bn F) ?_;rintro n ⟨ai,g9⟩ de;simp only[B3]at de;refine Ap hS F de (λ_ de=>?_) (λ_ de=>?_)
      ·obtain⟨fo,kr,de⟩:=un de;refine go hS F ?_;refine AM fo (λz:Nat=>⟨[(6,.own (1000004,av+1+1+1+1+1) l1158.length),(12,.i ai)],[(.a (1000004,av+1+1+1+1+1),Fh l1158)],z⟩) (λz=>(.inl ():Sum Unit Bool)) (.x 8) ?_ ?_
       ·refine AH (λn (y:Int×Nat)=>B2 N ai l1158 n y.1) (λy=>⟨[(6,.own (1000004,av+1+1+1+1+1) l1158.length),(12,.i ai),(13,.i y.1)],[(.a (1000004,av+1+1+1+1+1),Fh l1158)],y.2⟩) (0,g9+1+1) kr (Bn F) ?_;rintro n ⟨bo,g8⟩ db;simp only[B2]at db;refine Ap hS F db (λ_ db=>?_) (λ_ db=>?_)
        ·obtain⟨fp,kq,db⟩:=un db;refine go hS F ?_;refine AM fp (λz:Nat=>⟨[(6,.own (1000004,av+1+1+1+1+1) l1158.length),(12,.i ai),(13,.i bo)],[(.a (1000004,av+1+1+1+1+1),Fh l1158)],z⟩) (λz=>(.inl ():Sum Unit Bool)) (.x 10) ?_ ?_
         ·refine AH (λn (y:Int×Nat)=>Bz N bo l1158 ai n y.1) (λy=>⟨[(6,.own (1000004,av+1+1+1+1+1) l1158.length),(12,.i ai),(13,.i bo),(14,.i y.1)],[(.a (1000004,av+1+1+1+1+1),Fh l1158)],y.2⟩) (0,g8+1+1) kq (Bn F) ?_;rintro n ⟨dg,gz⟩ bp;simp only[Bz]at bp;refine Ap hS F bp (λ_ bp=>?_) (λ_ bp=>?_)
          ·obtain⟨⟨du,dt,eh⟩,i7,bp⟩:=un bp;obtain⟨kj,F⟩:=Bt HZ i7 F;obtain⟨⟨bw,bv,bj⟩,i6,bp⟩:=un bp;obtain⟨ki,F⟩:=Bt HZ i6 F;obtain⟨⟨bu,br,bi⟩,iz,bp⟩:=un bp;obtain⟨kh,F⟩:=Bt HZ iz F;obtain⟨mu,mr,mo,mn,mj,mh,mg,me,md,mb,ma,l7,l5,lz,bp⟩:=un bp;refine Ap hS F bp (λ_ bp=>?_) (λ_ bp=>?_)
           ·obtain rfl:=yJ bp;obtain rfl:=yJ db;obtain rfl:=yJ de;exact Af hS F h
           ·obtain⟨lw,bp⟩:=un bp;exact Bk hS F (n,dg+1,gz+1+1+1+1+1+1) bp
          ·exact A9 hS F (gz+1) bp
         ·rintro jv rfl;obtain⟨lr,db⟩:=un db;exact Bk hS F (n,bo+1,jv+1) db
        ·exact A9 hS F (g8+1) db
       ·rintro ju rfl;obtain⟨lq,de⟩:=un de;exact Bk hS F (n,ai+1,ju+1) de
      ·exact A9 hS F (g9+1) de
     ·rintro lj rfl;exact Af hS F h
def DR(N:Nat)(a1216:List (Int×Int))(ak:Int)(aa:List (Int×Int)):Nat->Int->(List (Int×Int))->Option ((List (Int×Int)))|0,_,_=>none|n+1,bh,l1263=>bif decide (bh<=40)then((DJ N a1216 ak bh).bind λfg=>gd ((decide (fg=0))=true->((DJ N aa ak bh).isSome=true))<|bif (decide (fg=0))&&(decide ((DJ N aa ak bh).getD 0=0))then(gd ((l1263.length+1)*16<=140737488355328)<|gd (Ab (bh+1))<|DR N a1216 ak aa n (bh+1) (l1263++[(ak,bh)]))else(gd (Ab (bh+1))<|DR N a1216 ak aa n (bh+1) l1263))else(some l1263)
def EA(N:Nat)(a1216:List (Int×Int))(aa:List (Int×Int)):Nat->Int->(List (Int×Int))->Option ((List (Int×Int)))|0,_,_=>none|n+1,ak,dw=>bif decide (ak<=40)then((DR N a1216 ak aa N 0 dw).bind λfq=>gd (Ab (ak+1))<|EA N a1216 aa n (ak+1) fq)else(some dw)
def Cp(N:Nat)(a1216:List (Int×Int))(co:Int)(ce:Int)(b9:Int)(bz:Int):Nat->Int->Option (Sum Unit ((((Int×Int)×(Int×Int))×Bool)))|0,_=>none|n+1,dh=>bif decide (dh<(a1216.length:Int))then((AA a1216 dh).bind λ(gu,gt)=>(DV N co ce b9 bz gu gt).bind λgw=>bif decide (gw<0)then(some (.inr (((b9,bz),(co,ce)),true)))else(gd (Ab (dh+1))<|Cp N a1216 co ce b9 bz n (dh+1)))else(some (.inl ()))
def DW(N:Nat)(a1216:List (Int×Int))(aa:List (Int×Int)):Option (((Int×Int)×(Int×Int))×Bool):=(Bo N a1216).bind λez=>gd ((!(!ez))=true->((Bo N aa).isSome=true))<|gd ((!((!ez)||(!((Bo N aa).getD false))))=true->((BY N a1216 aa).isSome=true))<|bif ((!ez)||(!((Bo N aa).getD false)))||((BY N a1216 aa).getD false)then(some (((0,0),(0,0)),false))else((EA N a1216 aa N 0 []).bind λl1276=>bif decide ((l1276.length:Int)<2)then(some (((0,0),(0,0)),false))else((AA l1276 0).bind λ(co,ce)=>gd (Ab ((l1276.length:Int)-1))<|(AA l1276 ((l1276.length:Int)-1)).bind λ(b9,bz)=>(Cp N a1216 co ce b9 bz N 0).bind λfh=>match fh with|.inl ()=>(some (((co,ce),(b9,bz)),true))|.inr jb=>(some jb)))
@[go_sem] def AcV(N:Nat):Spec:=p0<|pS AF λa1216=>pS AF λaa=>pE<|pF (DW N a1216 aa) (((0,0),(0,0)),false) λr=>.tup [.agg [.i r.1.1.1,.i r.1.1.2,.i r.1.2.1,.i r.1.2.2],.b r.2]
theorem yC(N:Nat):AZ Tryz.prog 147 (AcV N):=by
 refine Ax x147.ok<|Bf λa1216=>Bf λaa=>Ai<|Ay λr h=>wx x147 (Ac (Pk N)<|Ac (cD N)<|Ac (yP N)<|Ac (VF N)<|An) λ_ hS F=>?_
 dsimp only[x147,Al,AF];unfold DW at h;obtain⟨ez,ir,pc,pq,h⟩:=un h;replace F:=fc ir F;refine Ap hS F h (λ_ h=>?_) (λ_ h=>?_)
 ·exact Af hS F h
 ·refine go hS F ?_;refine Df 1000002 6 2 [.i 0,.i 0] (by show(6:Nat)<85;omega) (by omega) (ev F) ?_;obtain⟨jf,ph,h⟩:=un h;refine go hS F ?_;refine AM jf (λz:(List (Int×Int))×Nat=>⟨[(0,A3 a1216),(4,.box (0,1) 0),(6,.own (1000002,5) z.1.length)],[(.a (1000002,5),JS z.1),(.c (0,1) 0,.i 0),(.c (0,1) 1,.i 0),(.c (0,1) 2,.i 0),(.c (0,1) 3,.i 0)],z.2⟩) (λz=>(z.1:(List (Int×Int)))) (.x 0) ?_ ?_
  ·refine AH (λn (y:Int×(List (Int×Int))×Nat)=>EA N a1216 aa n y.1 y.2.1) (λy=>⟨[(0,A3 a1216),(1,A3 aa),(4,.box (0,1) 0),(6,.own (1000002,5) y.2.1.length),(7,.i y.1)],[(.a (1000002,5),JS y.2.1),(.c (0,1) 0,.i 0),(.c (0,1) 1,.i 0),(.c (0,1) 2,.i 0),(.c (0,1) 3,.i 0)],y.2.2⟩) (0,[],5) ph (Bn F) ?_;rintro n ⟨ak,dw,gy⟩ gj;simp only[EA]at gj;refine Ap hS F gj (λ_ gj=>?_) (λ_ gj=>?_)
   ·obtain⟨jg,pd,gj⟩:=un gj;refine go hS F ?_;refine AM jg (λz:(List (Int×Int))×Nat=>⟨[(0,A3 a1216),(1,A3 aa),(4,.box (0,1) 0),(6,.own (1000002,5) z.1.length),(7,.i ak)],[(.a (1000002,5),JS z.1),(.c (0,1) 0,.i 0),(.c (0,1) 1,.i 0),(.c (0,1) 2,.i 0),(.c (0,1) 3,.i 0)],z.2⟩) (λz=>(z.1:(List (Int×Int)))) (.x 2) ?_ ?_
    ·refine AH (λn (y:Int×(List (Int×Int))×Nat)=>DR N a1216 ak aa n y.1 y.2.1) (λy=>⟨[(0,A3 a1216),(1,A3 aa),(4,.box (0,1) 0),(6,.own (1000002,5) y.2.1.length),(7,.i ak),(8,.i y.1)],[(.a (1000002,5),JS y.2.1),(.c (0,1) 0,.i 0),(.c (0,1) 1,.i 0),(.c (0,1) 2,.i 0),(.c (0,1) 3,.i 0)],y.2.2⟩) (0,dw,gy+1+1) pd (Bn F) ?_;rintro n ⟨bh,l1263,gi⟩ d6;simp only[DR]at d6;refine Ap hS F d6 (λ_ d6=>?_) (λ_ d6=>?_)
     ·obtain⟨fg,iq,mq,d6⟩:=un d6;replace F:=fc iq F;refine Ap hS F d6 (λ_ d6=>?_) (λ_ d6=>?_)
      ·obtain⟨l6,lm,d6⟩:=un d6;exact Bk hS F (n,bh+1,l1263++[(ak,bh)],gi+1+1+1+1+1) d6
      ·obtain⟨j9,d6⟩:=un d6;exact Bk hS F (n,bh+1,l1263,gi+1+1+1+1) d6
     ·exact A9 hS F (l1263,gi+1) d6
    ·rintro⟨fq,jt⟩ rfl;obtain⟨j8,gj⟩:=un gj;exact Bk hS F (n,ak+1,fq,jt+1) gj
   ·exact A9 hS F (dw,gy+1) gj
  ·rintro⟨l1276,bq⟩ rfl;refine Ap hS F h (λ_ h=>?_) (λ_ h=>?_)
   ·exact Af hS F h
   ·obtain⟨⟨co,ce⟩,iy,h⟩:=un h;obtain⟨kg,F⟩:=Ma 0 By iy F;obtain⟨j7,⟨b9,bz⟩,iw,h⟩:=un h;obtain⟨kf,F⟩:=Bt By iw F;obtain⟨fh,ja,h⟩:=un h;refine go hS F ?_;refine AM fh (λz:Nat=>⟨[(4,.box (0,1) 0),(10,.box (1503,bq+1+1) 0),(11,.box (1606,bq+1+1+1) 0)],[(.c (1606,bq+1+1+1) 0,.i b9),(.c (1606,bq+1+1+1) 1,.i bz),(.c (1503,bq+1+1) 0,.i co),(.c (1503,bq+1+1) 1,.i ce),(.c (0,1) 0,.i 0),(.c (0,1) 1,.i 0),(.c (0,1) 2,.i 0),(.c (0,1) 3,.i 0)],z⟩) (λz=>(.inl ():Sum Unit ((((Int×Int)×(Int×Int))×Bool)))) (.x 4) ?_ ?_
    ·refine AH (λn (y:Int×Nat)=>Cp N a1216 co ce b9 bz n y.1) (λy=>⟨[(0,A3 a1216),(4,.box (0,1) 0),(10,.box (1503,bq+1+1) 0),(11,.box (1606,bq+1+1+1) 0),(12,.i y.1)],[(.c (1606,bq+1+1+1) 0,.i b9),(.c (1606,bq+1+1+1) 1,.i bz),(.c (1503,bq+1+1) 0,.i co),(.c (1503,bq+1+1) 1,.i ce),(.c (0,1) 0,.i 0),(.c (0,1) 1,.i 0),(.c (0,1) 2,.i 0),(.c (0,1) 3,.i 0)],y.2⟩) (0,bq+1+1+1+1) ja (Bn F) ?_;rintro n ⟨dh,gx⟩ aj;simp only[Cp]at aj;refine Ap hS F aj (λ_ aj=>?_) (λ_ aj=>?_)
     ·obtain⟨⟨gu,gt⟩,iv,aj⟩:=un aj;obtain⟨ke,F⟩:=Bt By iv F;obtain⟨gw,ip,aj⟩:=un aj;replace F:=fc ip F;refine Ap hS F aj (λ_ aj=>?_) (λ_ aj=>?_)
      ·obtain rfl:=yJ aj;exact Af hS F h
      ·obtain⟨j6,aj⟩:=un aj;exact Bk hS F (n,dh+1,gx+1+1+1) aj
     ·exact A9 hS F (gx+1) aj
    ·rintro li rfl;exact Af hS F h
end
section
attribute [local irreducible] As Cn B6 BK CA BJ Bv Cl Cv Dx
set_option maxRecDepth 100000
set_option maxHeartbeats 8000000
attribute [local go_sem] OL M7
def Bw(N:Nat)(cr:Int)(cq:Int)(co:Int)(ce:List (Int×Int))(ay:Int)(aw:Int):Option Bool:=bif (((((decide (cr<0))||(decide (99<cr)))||(decide (cq<1)))||(decide (8<cq)))||(decide (co<0)))||(decide (7<co))then(some false)else(gd ((((decide (0<=ay))&&(decide (ay<aw)))&&(decide (aw<=8)))=true->((Bo N ce).isSome=true))<|some ((((decide (0<=ay))&&(decide (ay<aw)))&&(decide (aw<=8)))&&((Bo N ce).getD false)))
@[go_sem] def Adc(N:Nat):Spec:=p0<|pG<|pI λcr=>pI λcq=>pI λco=>pS AF λce=>pI λay=>pI λaw=>pE<|pE<|pF (Bw N cr cq co ce ay aw) false λr=>.b r
theorem Mm(N:Nat):AZ Tryz.prog 107 (Adc N):=by
 refine Ax x107.ok<|A2<|Ad λcr=>Ad λcq=>Ad λco=>Bf λce=>Ad λay=>Ad λaw=>Ai<|Ai<|Ay λr h=>wx x107 (Ac (Pk N)<|An) λ_ hS F=>?_
 dsimp only[x107,Al,AF];unfold Bw at h;refine Ap hS F h (λ_ h=>?_) (λ_ h=>?_)
 ·exact Af hS F h
 ·obtain⟨jr,h⟩:=un h;exact Af hS F h
def EC(N:Nat)(eh:Int)(d9:Int)(d8:Int)(b9:List (Int×Int))(av:Int)(au:Int):Option Int:=(Bw N eh d9 d8 b9 av au).bind λja=>bif !ja then(some 0)else((Es N b9).bind λig=>gd (Ab (au-av))<|gd (Ab (ig*(au-av)))<|some (ig*(au-av)))
@[go_sem] def Add(N:Nat):Spec:=p0<|pG<|pI λeh=>pI λd9=>pI λd8=>pS AF λb9=>pI λav=>pI λau=>pE<|pE<|pF (EC N eh d9 d8 b9 av au) 0 λr=>.i r
theorem yV(N:Nat):AZ Tryz.prog 109 (Add N):=by
 refine Ax x109.ok<|A2<|Ad λeh=>Ad λd9=>Ad λd8=>Bf λb9=>Ad λav=>Ad λau=>Ai<|Ai<|Ay λr h=>wx x109 (Ac (Mm N)<|Ac (yQ N)<|An) λ_ hS F=>?_
 dsimp only[x109,Al,AF];unfold EC at h;obtain⟨ja,jm,h⟩:=un h;replace F:=fc jm F;refine Ap hS F h (λ_ h=>?_) (λ_ h=>?_)
 ·exact Af hS F h
 ·obtain⟨ig,jk,jr,jw,h⟩:=un h;exact Af hS (fc jk F) h
def EQ(N:Nat)(gy:Int)(gx:Int)(gw:Int)(gu:List (Int×Int))(dw:Int)(du:Int)(dl:Int)(dh:Int)(dg:Int)(de:List (Int×Int))(bi:Int)(bh:Int):Option Bool:=(Bw N gy gx gw gu dw du).bind λie=>gd (ie=true->((Bw N dl dh dg de bi bh).isSome=true))<|some ((ie&&((Bw N dl dh dg de bi bh).getD false))&&(decide (max dw bi<min du bh)))
@[go_sem] def Ade(N:Nat):Spec:=p0<|pG<|pI λgy=>pI λgx=>pI λgw=>pS AF λgu=>pI λdw=>pI λdu=>pE<|pG<|pI λdl=>pI λdh=>pI λdg=>pS AF λde=>pI λbi=>pI λbh=>pE<|pE<|pF (EQ N gy gx gw gu dw du dl dh dg de bi bh) false λr=>.b r
theorem cR(N:Nat):AZ Tryz.prog 144 (Ade N):=by
 refine Ax x144.ok<|A2<|Ad λgy=>Ad λgx=>Ad λgw=>Bf λgu=>Ad λdw=>Ad λdu=>Ai<|A2<|Ad λdl=>Ad λdh=>Ad λdg=>Bf λde=>Ad λbi=>Ad λbh=>Ai<|Ai<|Ay λr h=>wx x144 (Ac (Mm N)<|An) λ_ hS F=>?_
 dsimp only[x144,Al,AF];unfold EQ at h;obtain⟨ie,jj,jr,h⟩:=un h;exact Af hS (fc jj F) h
def ED(N:Nat)(gt:Int)(gj:Int)(gi:Int)(bj:List (Int×Int))(gh:Int)(gf:Int)(fp:Int)(fo:Int)(fj:Int)(bg:List (Int×Int))(fh:Int)(fg:Int):Option Bool:=(EQ N gt gj gi bj gh gf fp fo fj bg fh fg).bind λic=>gd (ic=true->((BY N bj bg).isSome=true))<|some (ic&&((BY N bj bg).getD false))
@[go_sem] def Adf(N:Nat):Spec:=p0<|pG<|pI λgt=>pI λgj=>pI λgi=>pS AF λbj=>pI λgh=>pI λgf=>pE<|pG<|pI λfp=>pI λfo=>pI λfj=>pS AF λbg=>pI λfh=>pI λfg=>pE<|pE<|pF (ED N gt gj gi bj gh gf fp fo fj bg fh fg) false λr=>.b r
theorem yW(N:Nat):AZ Tryz.prog 108 (Adf N):=by
 refine Ax x108.ok<|A2<|Ad λgt=>Ad λgj=>Ad λgi=>Bf λbj=>Ad λgh=>Ad λgf=>Ai<|A2<|Ad λfp=>Ad λfo=>Ad λfj=>Bf λbg=>Ad λfh=>Ad λfg=>Ai<|Ai<|Ay λr h=>wx x108 (Ac (cR N)<|Ac (cD N)<|An) λ_ hS F=>?_
 dsimp only[x108,Al,AF];unfold ED at h;obtain⟨ic,ji,jr,h⟩:=un h;exact Af hS (fc ji F) h
def E8(N:Nat)(dt:Int)(gc:Int)(fq:Int)(dq:List (Int×Int))(dp:Int)(dm:Int)(db:Int)(fb:Int)(ez:Int)(cz:List (Int×Int))(cy:Int)(cu:Int):Option ((Int×Int×((Int×Int)×(Int×Int))×Int×Int)×Bool):=(EQ N dt gc fq dq dp dm db fb ez cz cy cu).bind λi9=>bif !i9 then(some ((0,0,((0,0),(0,0)),0,0),false))else((DW N dq cz).bind λ(((i8,i7),(i6,iz)),iy)=>bif !iy then(some ((0,0,((0,0),(0,0)),0,0),false))else(some ((dt,db,((i8,i7),(i6,iz)),max dp cy,min dm cu),true)))
@[go_sem] def Adg(N:Nat):Spec:=p0<|pG<|pI λdt=>pI λgc=>pI λfq=>pS AF λdq=>pI λdp=>pI λdm=>pE<|pG<|pI λdb=>pI λfb=>pI λez=>pS AF λcz=>pI λcy=>pI λcu=>pE<|pE<|pF (E8 N dt gc fq dq dp dm db fb ez cz cy cu) ((0,0,((0,0),(0,0)),0,0),false) λr=>.tup [.agg [.i r.1.1,.i r.1.2.1,.i r.1.2.2.1.1.1,.i r.1.2.2.1.1.2,.i r.1.2.2.1.2.1,.i r.1.2.2.1.2.2,.i r.1.2.2.2.1,.i r.1.2.2.2.2],.b r.2]
theorem yY(N:Nat):AZ Tryz.prog 111 (Adg N):=by
 refine Ax x111.ok<|A2<|Ad λdt=>Ad λgc=>Ad λfq=>Bf λdq=>Ad λdp=>Ad λdm=>Ai<|A2<|Ad λdb=>Ad λfb=>Ad λez=>Bf λcz=>Ad λcy=>Ad λcu=>Ai<|Ai<|Ay λr h=>wx x111 (Ac (cR N)<|Ac (yC N)<|An) λ_ hS F=>?_
 dsimp only[x111,Al,AF];unfold E8 at h;obtain⟨i9,jh,h⟩:=un h;replace F:=fc jh F;refine Ap hS F h (λ_ h=>?_) (λ_ h=>?_)
 ·exact Af hS F h
 ·obtain⟨⟨⟨⟨i8,i7⟩,⟨i6,iz⟩⟩,iy⟩,jg,h⟩:=un h;replace F:=fc jg F;refine Ap hS F h (λ_ h=>?_) (λ_ h=>?_)
  ·exact Af hS F h
  ·exact Af hS F h
def Dl(N:Nat)(u1369:List (Int×Int)):Nat->Int->(List (Int×Int))->Option ((List (Int×Int)))|0,_,_=>none|n+1,ae,l1385=>bif decide (ae<(u1369.length:Int))then((AA u1369 ae).bind λ(g9,d7)=>bif decide (d7=0)then(gd ((l1385.length+1)*16<=140737488355328)<|gd (Ab (ae+1))<|Dl N u1369 n (ae+1) (l1385++[(g9,d7)]))else(gd (Ab (ae+1))<|Dl N u1369 n (ae+1) l1385))else(some l1385)
def Eb(N:Nat)(aq:Int)(bb:Int)(az:Int)(u1369:List (Int×Int))(an:Int)(am:Int):Option ((Int×Int×((Int×Int)×(Int×Int))×Int×Int)×Bool):=(Bw N aq bb az u1369 an am).bind λiw=>bif !iw then(some ((0,0,((0,0),(0,0)),0,0),false))else((Dl N u1369 N 0 []).bind λl1393=>bif decide ((l1393.length:Int)≠2)then(some ((0,0,((0,0),(0,0)),0,0),false))else((AA l1393 0).bind λ(d6,g8)=>(AA l1393 1).bind λ(d5,gz)=>bif decide (d5<d6)then(some ((aq,(-1),((d5,gz),(d6,g8)),an,am),true))else(some ((aq,(-1),((d6,g8),(d5,gz)),an,am),true))))
@[go_sem] def Adh(N:Nat):Spec:=p0<|pG<|pI λaq=>pI λbb=>pI λaz=>pS AF λu1369=>pI λan=>pI λam=>pE<|pE<|pF (Eb N aq bb az u1369 an am) ((0,0,((0,0),(0,0)),0,0),false) λr=>.tup [.agg [.i r.1.1,.i r.1.2.1,.i r.1.2.2.1.1.1,.i r.1.2.2.1.1.2,.i r.1.2.2.1.2.1,.i r.1.2.2.1.2.2,.i r.1.2.2.2.1,.i r.1.2.2.2.2],.b r.2]
theorem yZ(N:Nat):AZ Tryz.prog 110 (Adh N):=by
 refine Ax x110.ok<|A2<|Ad λaq=>Ad λbb=>Ad λaz=>Bf λu1369=>Ad λan=>Ad λam=>Ai<|Ai<|Ay λr h=>wx x110 (Ac (Mm N)<|An) λ_ hS F=>?_
 dsimp only[x110,Al,AF];unfold Eb at h;obtain⟨iw,jf,h⟩:=un h;replace F:=fc jf F;refine Ap hS F h (λ_ h=>?_) (λ_ h=>?_)
 ·exact Af hS F h
 ·refine go hS F ?_;refine Df 1000001 4 2 [.i 0,.i 0] (by show(4:Nat)<68;omega) (by omega) (ev F) ?_;obtain⟨jq,jx,h⟩:=un h;refine go hS F ?_;refine AM jq (λz:(List (Int×Int))×Nat=>⟨[(1,.box (0,1) 0),(2,.box (1,1) 0),(4,.own (1000001,5) z.1.length)],[(.a (1000001,5),JS z.1),(.c (1,1) 0,.i 0),(.c (1,1) 1,.i 0),(.c (1,1) 2,.i 0),(.c (1,1) 3,.i 0),(.c (1,1) 4,.i 0),(.c (1,1) 5,.i 0),(.c (1,1) 6,.i 0),(.c (1,1) 7,.i 0),(.c (0,1) 0,.i aq),(.c (0,1) 1,.i bb),(.c (0,1) 2,.i az),(.c (0,1) 3,A3 u1369),(.c (0,1) 4,.i an),(.c (0,1) 5,.i am)],z.2⟩) (λz=>(z.1:(List (Int×Int)))) (.x 0) ?_ ?_
  ·refine AH (λn (y:Int×(List (Int×Int))×Nat)=>Dl N u1369 n y.1 y.2.1) (λy=>⟨[(1,.box (0,1) 0),(2,.box (1,1) 0),(4,.own (1000001,5) y.2.1.length),(5,.i y.1)],[(.a (1000001,5),JS y.2.1),(.c (1,1) 0,.i 0),(.c (1,1) 1,.i 0),(.c (1,1) 2,.i 0),(.c (1,1) 3,.i 0),(.c (1,1) 4,.i 0),(.c (1,1) 5,.i 0),(.c (1,1) 6,.i 0),(.c (1,1) 7,.i 0),(.c (0,1) 0,.i aq),(.c (0,1) 1,.i bb),(.c (0,1) 2,.i az),(.c (0,1) 3,A3 u1369),(.c (0,1) 4,.i an),(.c (0,1) 5,.i am)],y.2.2⟩) (0,[],5) jx (Bn F) ?_;rintro n ⟨ae,l1385,ij⟩ dz;simp only[Dl]at dz;refine Ap hS F dz (λ_ dz=>?_) (λ_ dz=>?_)
   ·obtain⟨⟨g9,d7⟩,jp,dz⟩:=un dz;obtain⟨ju,F⟩:=Bt By jp F;refine Ap hS F dz (λ_ dz=>?_) (λ_ dz=>?_)
    ·obtain⟨j5,jz,dz⟩:=un dz;exact Bk hS F (n,ae+1,l1385++[(g9,d7)],ij+1+1+1+1) dz
    ·obtain⟨jy,dz⟩:=un dz;exact Bk hS F (n,ae+1,l1385,ij+1+1+1) dz
   ·exact A9 hS F (l1385,ij+1) dz
  ·rintro⟨l1393,jv⟩ rfl;refine Ap hS F h (λ_ h=>?_) (λ_ h=>?_)
   ·exact Af hS F h
   ·obtain⟨⟨d6,g8⟩,jo,h⟩:=un h;obtain⟨jt,F⟩:=Ma 0 By jo F;obtain⟨⟨d5,gz⟩,jn,h⟩:=un h;obtain⟨js,F⟩:=Ma 1 By jn F;refine Ap hS F h (λ_ h=>?_) (λ_ h=>?_)
    ·exact Af hS F h
    ·exact Af hS F h
def Gj(N:Nat)(bz:Int)(bw:Int)(bv:Int)(bu:List (Int×Int))(br:Int)(bq:Int)(bo:Int)(bm:Int):Option ((Int×Int×Int×(List (Int×Int))×Int×Int)×Int):=(Bw N bz bw bv bu br bq).bind λiv=>bif !iv then(some ((0,0,0,[],0,0),80))else((DX N bu bo bm).bind λ(ir,iq)=>bif decide (iq≠0)then(some ((0,0,0,[],0,0),80))else(some ((bz,bw,bv,ir,br,bq),0)))
@[go_sem] def Adi(N:Nat):Spec:=p0<|pG<|pI λbz=>pI λbw=>pI λbv=>pS AF λbu=>pI λbr=>pI λbq=>pE<|pI λbo=>pI λbm=>pE<|pF (Gj N bz bw bv bu br bq bo bm) ((0,0,0,[],0,0),0) λr=>.tup [.agg [.i r.1.1,.i r.1.2.1,.i r.1.2.2.1,A3 r.1.2.2.2.1,.i r.1.2.2.2.2.1,.i r.1.2.2.2.2.2],.i r.2]
theorem zC(N:Nat):AZ Tryz.prog 113 (Adi N):=by
 refine Ax x113.ok<|A2<|Ad λbz=>Ad λbw=>Ad λbv=>Bf λbu=>Ad λbr=>Ad λbq=>Ai<|Ad λbo=>Ad λbm=>Ai<|Ay λr h=>wx x113 (Ac (Mm N)<|Ac (Zk N)<|An) λ_ hS F=>?_
 dsimp only[x113,Al,AF];unfold Gj at h;obtain⟨iv,je,h⟩:=un h;replace F:=fc je F;refine Ap hS F h (λ_ h=>?_) (λ_ h=>?_)
 ·exact Af hS F h
 ·obtain⟨⟨ir,iq⟩,jd,h⟩:=un h;replace F:=fc jd F;refine Ap hS F h (λ_ h=>?_) (λ_ h=>?_)
  ·exact Af hS F h
  ·exact Af hS F h
def Fo(N:Nat)(ak:Int)(aj:Int)(ai:Int)(u1417:List (Int×Int))(ah:Int)(af:Int)(how1420:Int)(aa:Int)(bp:Int):Option (Int×Int×Int×(List (Int×Int))×Int×Int):=gd ((u1417.length)*16<=140737488355328)<|(Gi N how1420 6).bind λbe=>bif decide (be=0)then(some (aa,aj,ai,u1417,ah,af))else(bif decide (be=1)then(some (ak,aa,ai,u1417,ah,af))else(bif decide (be=2)then(some (ak,aj,aa,u1417,ah,af))else(bif decide (be=3)then(some (ak,aj,ai,u1417,aa,af))else(bif decide (be=4)then(some (ak,aj,ai,u1417,ah,aa))else(gd (Ab (how1420.tdiv 6))<|(Gh N u1417 bp aa (how1420.tdiv 6)).bind λip=>some (ak,aj,ai,ip,ah,af))))))
@[go_sem] def s52(N:Nat):Spec:=p0<|pG<|pI λak=>pI λaj=>pI λai=>pS AF λu1417=>pI λah=>pI λaf=>pE<|pI λhow1420=>pI λaa=>pI λbp=>pE<|pF (Fo N ak aj ai u1417 ah af how1420 aa bp) (0,0,0,[],0,0) λr=>.agg [.i r.1,.i r.2.1,.i r.2.2.1,A3 r.2.2.2.1,.i r.2.2.2.2.1,.i r.2.2.2.2.2]
theorem oH(N:Nat):AZ Tryz.prog 52 (s52 N):=by
 refine Ax x52.ok<|A2<|Ad λak=>Ad λaj=>Ad λai=>Bf λu1417=>Ad λah=>Ad λaf=>Ai<|Ad λhow1420=>Ad λaa=>Ad λbp=>Ai<|Ay λr h=>wx x52 (Ac (yS N)<|Ac (yR N)<|An) λ_ hS F=>?_
 dsimp only[x52,Al,AF];unfold Fo at h;obtain⟨jr,be,jc,h⟩:=un h;replace F:=fc jc F;refine Ap hS F h (λ_ h=>?_) (λ_ h=>?_)
 ·exact Af hS F h
 ·refine Ap hS F h (λ_ h=>?_) (λ_ h=>?_)
  ·exact Af hS F h
  ·refine Ap hS F h (λ_ h=>?_) (λ_ h=>?_)
   ·exact Af hS F h
   ·refine Ap hS F h (λ_ h=>?_) (λ_ h=>?_)
    ·exact Af hS F h
    ·refine Ap hS F h (λ_ h=>?_) (λ_ h=>?_)
     ·exact Af hS F h
     ·obtain⟨jw,ip,jb,h⟩:=un h;exact Af hS (fc jb F) h
end
attribute [local irreducible] As Cn B6 BK CA BJ Bv Cl Cv Dx
set_option maxRecDepth 100000
set_option maxHeartbeats 8000000
def Mn(x:Int):List AV:=[.v (.int .u8 x)]
def Zp:List AV->Int|[.v (.int _ a1)]=>a1|_=>0
theorem Abp(x:Int):Zp (Mn x)=x:=by rfl
theorem Abq(R:List Int):(R.map Mn).map Zp=R:=by
 induction R with
 |nil=>rfl
 |cons r R ih=>rw[eZ,eZ,ih,Abp]
theorem Abr(R:List Int)(i:Nat):BG (R.map Mn) [.v (.int .u8 0)] i=Mn (R.getD i 0):=by unfold BG;rw[eT,eT,qX];cases R[i]? <;>rfl
def Adj:Rw Int:=⟨1,Mn,Zp,[.v (.int .u8 0)]⟩
def Adk(l:List Int):AV:=.sl 1 false (l.map Mn) [.v (.int .u8 0)]
def kY(l:List Int):AV:=.sl 1 true (l.map Mn) [.v (.int .u8 0)]
attribute [go_sem] Adj Adk kY Mn Zp Abq Abr
theorem Adl(l:List Int):(l.map Mn).map M7=l.map λx=>UInt8.ofNat x.toNat:=by rw[LB];rfl
theorem Adm(l:List Int):(l.map Mn).all OL=true:=by induction l with|nil=>rfl|cons x l ih=>simp[Mn,OL]
attribute [local go_sem] List.all_append OL M7 Adl Adm
def FE(N:Nat)(n1:Int):Option Int:=bif decide (n1<0)then(gd (Ab (-n1))<|gd (IntKind.wrap .u64 ((IntKind.wrap .u64 (-n1))*2)=((IntKind.wrap .u64 (-n1))*2))<|gd (IntKind.wrap .u64 (((IntKind.wrap .u64 (-n1))*2)-1)=(((IntKind.wrap .u64 (-n1))*2)-1))<|some (((IntKind.wrap .u64 (-n1))*2)-1))else(gd (IntKind.wrap .u64 ((IntKind.wrap .u64 n1)*2)=((IntKind.wrap .u64 n1)*2))<|some ((IntKind.wrap .u64 n1)*2))
@[go_sem] def Adn(N:Nat):Spec:=p0<|pI λn1=>pE<|pF (FE N n1) 0 λr=>.v (.int .u64 r)
theorem zD(N:Nat):AZ Tryz.prog 114 (Adn N):=by
 refine Ax x114.ok<|Ad λn1=>Ai<|Ay λr h=>wx x114 (An) λ_ hS F=>?_
 dsimp only[x114,Al];unfold FE at h;refine Ap hS F h (λ_ h=>?_) (λ_ h=>?_)
 ·obtain⟨i6,iz,cz,h⟩:=un h;exact Af hS F h
 ·obtain⟨cy,h⟩:=un h;exact Af hS F h
def D5(N:Nat):Nat->Int->(List Int)->Option (Int×(List Int))|0,_,_=>none|n+1,z10,l11=>bif decide (128<=z10)then(gd (IntKind.wrap .u64 ((z10.tmod 128)+128)=((z10.tmod 128)+128))<|gd ((l11.length+1)*1<=140737488355328)<|gd (IntKind.wrap .u64 (z10.tdiv 128)=(z10.tdiv 128))<|D5 N n (z10.tdiv 128) (l11++[IntKind.wrap .u8 ((z10.tmod 128)+128)]))else(some (z10,l11))
def Dr(N:Nat)(n2:Int):Option ((List UInt8)×Int):=bif (decide (n2<(-4611686018427387903)))||(decide (4611686018427387903<n2))then(some ([],10))else((FE N n2).bind λr3=>(D5 N N r3 []).bind λ(d6,l17)=>gd ((l17.length+1)*1<=140737488355328)<|some ((l17++[IntKind.wrap .u8 d6]).map λx=>UInt8.ofNat x.toNat,0))
@[go_sem] def s64(N:Nat):Spec:=p0<|pI λn2=>pE<|pF (Dr N n2) ([],0) λr=>.tup [.v (.string (sB r.1)),.i r.2]
theorem UD(N:Nat):AZ Tryz.prog 64 (s64 N):=by
 refine Ax x64.ok<|Ad λn2=>Ai<|Ay λr h=>wx x64 (Ac (zD N)<|An) λ_ hS F=>?_
 dsimp only[x64,Al,DE];unfold Dr at h;refine Ap hS F h (λ_ h=>?_) (λ_ h=>?_)
 ·exact Af hS F h
 ·obtain⟨r3,ig,h⟩:=un h;replace F:=fc ig F;refine go hS F ?_;refine Df 1000001 5 1 [.v (.int .u8 0)] (by show(5:Nat)<31;omega) (by omega) (ev F) ?_;obtain⟨gx,bj,h⟩:=un h;refine go hS F ?_;refine AM gx (λz:Int×(List Int)×Nat=>⟨[(4,.v (.int .u64 z.1)),(5,.own (1000001,5) z.2.1.length)],[(.a (1000001,5),kY z.2.1)],z.2.2⟩) (λz=>((z.1,z.2.1):Int×(List Int))) (.x 0) ?_ ?_
  ·refine AH (λn (y:Int×(List Int)×Nat)=>D5 N n y.1 y.2.1) (λy=>⟨[(4,.v (.int .u64 y.1)),(5,.own (1000001,5) y.2.1.length)],[(.a (1000001,5),kY y.2.1)],y.2.2⟩) (r3,[],5) bj (Bn F) ?_;rintro n ⟨z10,l11,c9⟩ aa;simp only[D5]at aa;refine Ap hS F aa (λ_ aa=>?_) (λ_ aa=>?_)
   ·obtain⟨cz,cy,fg,aa⟩:=un aa;exact Bk hS F (n,z10.tdiv 128,l11++[IntKind.wrap .u8 ((z10.tmod 128)+128)],c9+1+1+1) aa
   ·exact A9 hS F (z10,l11,c9+1) aa
  ·rintro⟨d6,l17,ja⟩ rfl;obtain⟨fb,h⟩:=un h;exact Af hS F h
def ER(N:Nat)(at20:Int)(s19:List UInt8):Nat->Int->Int->Option (Sum Unit ((Int×Int×Int)))|0,_,_=>none|n+1,an,ae=>gd ((decide (ae<9))=true->(Ab (at20+ae)))<|bif (decide (ae<9))&&(decide (at20+ae<(s19.length:Int)))then(gd (Ab (at20+ae))<|gd (0<=at20+ae/\at20+ae<(s19.length:Int))<|gd (Ab (7*ae))<|gd (0<=7*ae)<|gd (IntKind.wrap .u64 (an+(CQ .shl .u64 ((IntKind.wrap .u64 ((s19.getD (at20+ae).toNat 0).toNat:Int)).tmod 128) (7*ae)))=(an+(CQ .shl .u64 ((IntKind.wrap .u64 ((s19.getD (at20+ae).toNat 0).toNat:Int)).tmod 128) (7*ae))))<|bif decide (128<=IntKind.wrap .u64 ((s19.getD (at20+ae).toNat 0).toNat:Int))then(gd (Ab (ae+1))<|ER N at20 s19 n (an+(CQ .shl .u64 ((IntKind.wrap .u64 ((s19.getD (at20+ae).toNat 0).toNat:Int)).tmod 128) (7*ae))) (ae+1))else(gd (IntKind.wrap .u64 ((an+(CQ .shl .u64 ((IntKind.wrap .u64 ((s19.getD (at20+ae).toNat 0).toNat:Int)).tmod 128) (7*ae))).tdiv 2)=((an+(CQ .shl .u64 ((IntKind.wrap .u64 ((s19.getD (at20+ae).toNat 0).toNat:Int)).tmod 128) (7*ae))).tdiv 2))<|(bif decide ((an+(CQ .shl .u64 ((IntKind.wrap .u64 ((s19.getD (at20+ae).toNat 0).toNat:Int)).tmod 128) (7*ae))).tmod 2=1)then(gd (Ab (-(IntKind.wrap .i64 ((an+(CQ .shl .u64 ((IntKind.wrap .u64 ((s19.getD (at20+ae).toNat 0).toNat:Int)).tmod 128) (7*ae))).tdiv 2))))<|gd (Ab ((-(IntKind.wrap .i64 ((an+(CQ .shl .u64 ((IntKind.wrap .u64 ((s19.getD (at20+ae).toNat 0).toNat:Int)).tmod 128) (7*ae))).tdiv 2)))-1))<|some ((-(IntKind.wrap .i64 ((an+(CQ .shl .u64 ((IntKind.wrap .u64 ((s19.getD (at20+ae).toNat 0).toNat:Int)).tmod 128) (7*ae))).tdiv 2)))-1))else(some (IntKind.wrap .i64 ((an+(CQ .shl .u64 ((IntKind.wrap .u64 ((s19.getD (at20+ae).toNat 0).toNat:Int)).tmod 128) (7*ae))).tdiv 2))):Option (Int)).bind λdl=>(Dr N dl).bind λ(d9,bp)=>gd ((!(decide (bp≠0)))=true->(Ab (at20+ae)))<|gd ((!(decide (bp≠0)))=true->(Ab ((at20+ae)+1)))<|gd ((!(decide (bp≠0)))=true->(0<=at20/\at20<=(at20+ae)+1/\(at20+ae)+1<=(s19.length:Int)))<|bif (decide (bp≠0))||(!decide (d9=(s19.drop at20.toNat).take (((at20+ae)+1).toNat-at20.toNat)))then(some (.inr (0,0,10)))else(gd (Ab (at20+ae))<|gd (Ab ((at20+ae)+1))<|some (.inr (dl,(at20+ae)+1,0)))))else(some (.inl ()))
def E1(N:Nat)(s19:List UInt8)(at20:Int):Option (Int×Int×Int):=bif (decide (at20<0))||(decide ((s19.length:Int)<at20))then(some (0,0,2))else((ER N at20 s19 N 0 0).bind λdg=>match dg with|.inl ()=>(some (0,0,10))|.inr r47=>(some r47))
@[go_sem] def s70(N:Nat):Spec:=p0<|pT λs19=>pI λat20=>pE<|pF (E1 N s19 at20) (0,0,0) λr=>.tup [.i r.1,.i r.2.1,.i r.2.2]
theorem Zq(N:Nat):AZ Tryz.prog 70 (s70 N):=by
 refine Ax x70.ok<|LH λs19=>Ad λat20=>Ai<|Ay λr h=>wx x70 (Ac (UD N)<|An) λ_ hS F=>?_
 dsimp only[x70,Al];unfold E1 at h;refine Ap hS F h (λ_ h=>?_) (λ_ h=>?_)
 ·exact Af hS F h
 ·obtain⟨dg,bj,h⟩:=un h;refine go hS F ?_;refine AM dg (λz:Nat=>⟨[],[],z⟩) (λz=>(.inl ():Sum Unit ((Int×Int×Int)))) (.x 0) ?_ ?_
  ·refine AH (λn (y:Int×Int×Nat)=>ER N at20 s19 n y.1 y.2.1) (λy=>⟨[(0,.v (.string (sB s19))),(1,.i at20),(7,.v (.int .u64 y.1)),(8,.i y.2.1)],[],y.2.2⟩) (0,0,4) bj (Bn F) ?_;rintro n ⟨an,ae,db⟩ aa;simp only[ER]at aa;obtain⟨cz,aa⟩:=un aa;refine Ap hS F aa (λ_ aa=>?_) (λ_ aa=>?_)
   ·obtain⟨cy,fg,fb,ez,eh,aa⟩:=un aa;refine Ap hS F aa (λ_ aa=>?_) (λ_ aa=>?_)
    ·obtain⟨iy,aa⟩:=un aa;exact Bk hS F (n,an+(CQ .shl .u64 ((IntKind.wrap .u64 ((s19.getD (at20+ae).toNat 0).toNat:Int)).tmod 128) (7*ae)),ae+1,db+1+1+1+1+1) aa
    ·obtain⟨ie,aa⟩:=un aa;obtain⟨gw,am,aa⟩:=un aa;refine go hS F ?_;refine AM gw (λz:Int×Nat=>⟨[(0,.v (.string (sB s19))),(1,.i at20),(8,.i ae),(10,.i z.1)],[],z.2⟩) (λz=>(z.1:Int)) .n ?_ ?_
     ·refine Ap hS F am (λ_ am=>?_) (λ_ am=>?_)
      ·obtain⟨dq,dp,am⟩:=un am;exact A9 hS F ((-(IntKind.wrap .i64 ((an+(CQ .shl .u64 ((IntKind.wrap .u64 ((s19.getD (at20+ae).toNat 0).toNat:Int)).tmod 128) (7*ae))).tdiv 2)))-1,db+1+1+1+1+1+1+1) am
      ·exact A9 hS F (IntKind.wrap .i64 ((an+(CQ .shl .u64 ((IntKind.wrap .u64 ((s19.getD (at20+ae).toNat 0).toNat:Int)).tmod 128) (7*ae))).tdiv 2),db+1+1+1+1+1+1) am
     ·rintro⟨dl,i9⟩ rfl;obtain⟨⟨d9,bp⟩,dw,aa⟩:=un aa;obtain⟨dm,g9,g8,aa⟩:=un aa;replace F:=fc dw F;refine Ap hS F aa (λ_ aa=>?_) (λ_ aa=>?_)
      ·obtain rfl:=yJ aa;exact Af hS F h
      ·obtain⟨gz,gy,aa⟩:=un aa;obtain rfl:=yJ aa;exact Af hS F h
   ·exact A9 hS F (db+1) aa
  ·rintro i8 rfl;exact Af hS F h
def D6(N:Nat)(u52:List (Int×Int)):Nat->Int->(List Int)->Option ((List Int))|0,_,_=>none|n+1,bo,l63=>bif decide (bo<(u52.length:Int))then((AA u52 bo).bind λ(x64,x65)=>gd ((l63.length+2)*8<=140737488355328)<|gd (Ab (bo+1))<|D6 N u52 n (bo+1) (l63++[x64,x65]))else(some l63)
def D7(N:Nat)(l71:List Int):Nat->(List UInt8)->Int->Option ((List UInt8))|0,_,_=>none|n+1,TM,bm=>bif decide (bm<(l71.length:Int))then((AA l71 bm).bind λd7=>(Dr N d7).bind λ(cu,gj)=>gd ((TM++cu).length<=140737488355328)<|gd (Ab (bm+1))<|D7 N l71 n (TM++cu) (bm+1))else(some TM)
def Ec(N:Nat)(bg:Int)(be:Int)(bb:Int)(u52:List (Int×Int))(az:Int)(ay:Int):Option ((List UInt8)×Int):=(Bw N bg be bb u52 az ay).bind λd8=>bif !d8 then(some ([],80))else((D6 N u52 N 0 [bg,be,bb,az,ay,(u52.length:Int)]).bind λl71=>(D7 N l71 N [] 0).bind λoC=>some (oC,0))
@[go_sem] def s65(N:Nat):Spec:=p0<|pG<|pI λbg=>pI λbe=>pI λbb=>pS AF λu52=>pI λaz=>pI λay=>pE<|pE<|pF (Ec N bg be bb u52 az ay) ([],0) λr=>.tup [.v (.string (sB r.1)),.i r.2]
theorem Abs(N:Nat):AZ Tryz.prog 65 (s65 N):=by
 refine Ax x65.ok<|A2<|Ad λbg=>Ad λbe=>Ad λbb=>Bf λu52=>Ad λaz=>Ad λay=>Ai<|Ai<|Ay λr h=>wx x65 (Ac (Mm N)<|Ac (UD N)<|An) λ_ hS F=>?_
 dsimp only[x65,Al,AF,DE];unfold Ec at h;obtain⟨d8,du,h⟩:=un h;replace F:=fc du F;refine Ap hS F h (λ_ h=>?_) (λ_ h=>?_)
 ·exact Af hS F h
 ·obtain⟨gu,bj,h⟩:=un h;refine go hS F ?_;refine AM gu (λz:(List Int)×Nat=>⟨[(4,.own (313,3) z.1.length)],[(.a (313,3),Mj z.1)],z.2⟩) (λz=>(z.1:(List Int))) (.x 0) ?_ ?_
  ·refine AH (λn (y:Int×(List Int)×Nat)=>D6 N u52 n y.1 y.2.1) (λy=>⟨[(1,.box (0,1) 0),(4,.own (313,3) y.2.1.length),(5,.i y.1)],[(.a (313,3),Mj y.2.1),(.c (0,1) 0,.i bg),(.c (0,1) 1,.i be),(.c (0,1) 2,.i bb),(.c (0,1) 3,A3 u52),(.c (0,1) 4,.i az),(.c (0,1) 5,.i ay)],y.2.2⟩) (0,[bg,be,bb,az,ay,(u52.length:Int)],4) bj (Bn F) ?_;rintro n ⟨bo,l63,gi⟩ aa;simp only[D6]at aa;refine Ap hS F aa (λ_ aa=>?_) (λ_ aa=>?_)
   ·obtain⟨⟨x64,x65⟩,d5,aa⟩:=un aa;obtain⟨ip,F⟩:=Bt By d5 F;obtain⟨cz,cy,aa⟩:=un aa;exact Bk hS F (n,bo+1,l63++[x64,x65],gi+1+1+1) aa
   ·exact A9 hS F (l63,gi+1) aa
  ·rintro⟨l71,iv⟩ rfl;obtain⟨gt,ir,h⟩:=un h;refine go hS F ?_;refine AM gt (λz:(List UInt8)×Nat=>⟨[(6,.v (.string (sB z.1)))],[],z.2⟩) (λz=>(z.1:(List UInt8))) (.x 2) ?_ ?_
   ·refine AH (λn (y:(List UInt8)×Int×Nat)=>D7 N l71 n y.1 y.2.1) (λy=>⟨[(4,.own (313,3) l71.length),(6,.v (.string (sB y.1))),(7,.i y.2.1)],[(.a (313,3),Mj l71)],y.2.2⟩) ([],0,iv+1+1) ir (Bn F) ?_;rintro n ⟨TM,bm,gh⟩ av;simp only[D7]at av;refine Ap hS F av (λ_ av=>?_) (λ_ av=>?_)
    ·obtain⟨d7,dz,⟨cu,gj⟩,dt,av⟩:=un av;obtain⟨ij,F⟩:=Bt IB dz F;obtain⟨ez,eh,av⟩:=un av;exact Bk hS (fc dt F) (n,TM++cu,bm+1,gh+1+1+1+1) av
    ·exact A9 hS F (TM,gh+1) av
   ·rintro⟨oC,i7⟩ rfl;exact Af hS F h
def Bh(N:Nat)(s93:List UInt8):Nat->Int->Int->(List Int)->Option (Sum (Int×(List Int)) (((Int×Int×Int×(List (Int×Int))×Int×Int)×Int)))|0,_,_,_=>none|n+1,aq,ah,l108=>gd ((!(decide (ah<6)))=true->(0<=5/\5<(l108.length:Int)))<|gd ((!(decide (ah<6)))=true->(0<=5/\5<(l108.length:Int)))<|gd ((!(decide (ah<6)))=true->(Ab (2*(l108.getD 5 0))))<|gd ((!(decide (ah<6)))=true->(Ab (6+(2*(l108.getD 5 0)))))<|bif (decide (ah<6))||(decide (ah<6+(2*(l108.getD 5 0))))then((E1 N s93 aq).bind λ(au,bh,bq)=>bif (decide (bq≠0))||((decide (ah=5))&&((decide (au<3))||(decide (8<au))))then(some (.inr ((0,0,0,[],0,0),80)))else(gd ((l108.length+1)*8<=140737488355328)<|gd (Ab (ah+1))<|Bh N s93 n bh (ah+1) (l108++[au])))else(some (.inl (aq,l108)))
def Dm(N:Nat)(l119:List Int):Nat->Int->(List (Int×Int))->Option ((List (Int×Int)))|0,_,_=>none|n+1,ai,l146=>bif decide (ai<(l119.length:Int))then((AA l119 ai).bind λx147=>gd (Ab (ai+1))<|(AA l119 (ai+1)).bind λx149=>gd ((l146.length+1)*16<=140737488355328)<|gd (Ab (ai+2))<|Dm N l119 n (ai+2) (l146++[(x147,x149)]))else(some l146)
def FF(N:Nat)(s93:List UInt8):Option ((Int×Int×Int×(List (Int×Int))×Int×Int)×Int):=(Bh N s93 N 0 0 []).bind λbi=>match bi with|.inl (ak,l119)=>((AA l119 0).bind λx122=>(AA l119 1).bind λx124=>(AA l119 2).bind λQU=>(AA l119 3).bind λx128=>(AA l119 4).bind λJR=>(Dm N l119 N 6 []).bind λaw=>gd ((!(decide (ak≠(s93.length:Int))))=true->((Bw N x122 x124 QU aw x128 JR).isSome=true))<|bif (decide (ak≠(s93.length:Int)))||(!((Bw N x122 x124 QU aw x128 JR).getD false))then(some ((0,0,0,[],0,0),80))else(some ((x122,x124,QU,aw,x128,JR),0)))|.inr de=>(some de)
@[go_sem] def s72(N:Nat):Spec:=p0<|pT λs93=>pE<|pF (FF N s93) ((0,0,0,[],0,0),0) λr=>.tup [.agg [.i r.1.1,.i r.1.2.1,.i r.1.2.2.1,A3 r.1.2.2.2.1,.i r.1.2.2.2.2.1,.i r.1.2.2.2.2.2],.i r.2]
theorem Abt(N:Nat):AZ Tryz.prog 72 (s72 N):=by
 refine Ax x72.ok<|LH λs93=>Ai<|Ay λr h=>wx x72 (Ac (Zq N)<|Ac (Mm N)<|An) λ_ hS F=>?_
 dsimp only[x72,Al];unfold FF at h;refine go hS F ?_;refine Df 1000001 4 1 [.i 0] (by show(4:Nat)<100;omega) (by omega) (ev F) ?_;obtain⟨bi,bj,h⟩:=un h;refine go hS F ?_;refine AM bi (λz:Int×(List Int)×Nat=>⟨[(0,.v (.string (sB s93))),(2,.box (0,1) 0),(4,.own (1000001,5) z.2.1.length),(5,.i z.1)],[(.a (1000001,5),Mj z.2.1),(.c (0,1) 0,.i 0),(.c (0,1) 1,.i 0),(.c (0,1) 2,.i 0),(.c (0,1) 3,.sl 0 true [] []),(.c (0,1) 4,.i 0),(.c (0,1) 5,.i 0)],z.2.2⟩) (λz=>(.inl (z.1,z.2.1):Sum (Int×(List Int)) (((Int×Int×Int×(List (Int×Int))×Int×Int)×Int)))) (.x 0) ?_ ?_
 ·refine AH (λn (y:Int×Int×(List Int)×Nat)=>Bh N s93 n y.1 y.2.1 y.2.2.1) (λy=>⟨[(0,.v (.string (sB s93))),(2,.box (0,1) 0),(4,.own (1000001,5) y.2.2.1.length),(5,.i y.1),(6,.i y.2.1)],[(.a (1000001,5),Mj y.2.2.1),(.c (0,1) 0,.i 0),(.c (0,1) 1,.i 0),(.c (0,1) 2,.i 0),(.c (0,1) 3,.sl 0 true [] []),(.c (0,1) 4,.i 0),(.c (0,1) 5,.i 0)],y.2.2.2⟩) (0,0,[],5) bj (Bn F) ?_;rintro n ⟨aq,ah,l108,cr⟩ aa;simp only[Bh]at aa;obtain⟨cz,cy,fg,fb,aa⟩:=un aa;refine Ap hS F aa (λ_ aa=>?_) (λ_ aa=>?_)
  ·obtain⟨⟨au,bh,bq⟩,br,aa⟩:=un aa;replace F:=fc br F;refine Ap hS F aa (λ_ aa=>?_) (λ_ aa=>?_)
   ·obtain rfl:=yJ aa;exact Af hS F h
   ·obtain⟨ez,eh,aa⟩:=un aa;exact Bk hS F (n,bh,ah+1,l108++[au],cr+1+1+1+1+1+1) aa
  ·exact A9 hS F (aq,l108,cr+1) aa
 ·rintro⟨ak,l119,af⟩ rfl;obtain⟨x122,co,x124,ce,QU,b9,x128,bz,JR,bw,h⟩:=un h;obtain⟨gf,F⟩:=Ma 0 IB co F;obtain⟨gc,F⟩:=Ma 1 IB ce F;obtain⟨fq,F⟩:=Ma 2 IB b9 F;obtain⟨fp,F⟩:=Ma 3 IB bz F;obtain⟨fo,F⟩:=Ma 4 IB bw F;refine go hS F ?_;refine Dy 1000002 (1116,af+1) 3 2 [.i 0,.i 0] (by omega) (ev F) ?_;obtain⟨dh,iq,h⟩:=un h;refine go hS F ?_;refine AM dh (λz:(List (Int×Int))×Nat=>⟨[(0,.v (.string (sB s93))),(2,.box (0,1) 0),(5,.i ak),(10,.box (1116,af+1) 0)],[(.c (1116,af+1) 0,.i x122),(.c (1116,af+1) 1,.i x124),(.c (1116,af+1) 2,.i QU),(.c (1116,af+1) 3,.own (1000002,af+1+1+1) z.1.length),(.c (1116,af+1) 4,.i x128),(.c (1116,af+1) 5,.i JR),(.a (1000002,af+1+1+1),JS z.1),(.c (0,1) 0,.i 0),(.c (0,1) 1,.i 0),(.c (0,1) 2,.i 0),(.c (0,1) 3,.sl 0 true [] []),(.c (0,1) 4,.i 0),(.c (0,1) 5,.i 0)],z.2⟩) (λz=>(z.1:(List (Int×Int)))) (.x 2) ?_ ?_
  ·refine AH (λn (y:Int×(List (Int×Int))×Nat)=>Dm N l119 n y.1 y.2.1) (λy=>⟨[(0,.v (.string (sB s93))),(2,.box (0,1) 0),(4,.own (1000001,5) l119.length),(5,.i ak),(10,.box (1116,af+1) 0),(11,.i y.1)],[(.c (1116,af+1) 0,.i x122),(.c (1116,af+1) 1,.i x124),(.c (1116,af+1) 2,.i QU),(.c (1116,af+1) 3,.own (1000002,af+1+1+1) y.2.1.length),(.c (1116,af+1) 4,.i x128),(.c (1116,af+1) 5,.i JR),(.a (1000002,af+1+1+1),JS y.2.1),(.a (1000001,5),Mj l119),(.c (0,1) 0,.i 0),(.c (0,1) 1,.i 0),(.c (0,1) 2,.i 0),(.c (0,1) 3,.sl 0 true [] []),(.c (0,1) 4,.i 0),(.c (0,1) 5,.i 0)],y.2.2⟩) (6,[],af+1+1+1) iq (Bn F) ?_;rintro n ⟨ai,l146,cq⟩ aj;simp only[Dm]at aj;refine Ap hS F aj (λ_ aj=>?_) (λ_ aj=>?_)
   ·obtain⟨x147,bv,ic,x149,bu,dq,dp,aj⟩:=un aj;obtain⟨fj,F⟩:=Bt IB bv F;obtain⟨fh,F⟩:=Bt IB bu F;exact Bk hS F (n,ai+2,l146++[(x147,x149)],cq+1+1+1) aj
   ·exact A9 hS F (l146,cq+1) aj
  ·rintro⟨aw,iw⟩ rfl;obtain⟨dm,h⟩:=un h;refine Ap hS F h (λ_ h=>?_) (λ_ h=>?_)
   ·exact Af hS F h
   ·exact Af hS F h
