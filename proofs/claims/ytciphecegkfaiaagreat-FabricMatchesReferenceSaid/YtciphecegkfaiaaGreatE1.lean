import Derived.Test.YtciphecegkfaiaaGreatD8
set_option linter.unusedSimpArgs false
set_option linter.unusedVariables false
namespace Go.Proofs.YtciphecegkfaiaaGreat.Am
open Go
attribute [local irreducible] As Cn B6 BK CA BJ Bv Cl Cv Dx
set_option maxRecDepth 100000
set_option maxHeartbeats 8000000
def Eh(N:Nat)(cy:Int)(ak:Int)(aa:Int):Option Bool:=some ((decide (ak<=cy))&&(decide (cy<=aa)))
@[go_sem] def oD(N:Nat):Spec:=p0<|pI λcy=>pI λak=>pI λaa=>pE<|pF (Eh N cy ak aa) false λr=>.b r
theorem oE(N:Nat):AZ Tryz.prog 97 (oD N):=by
 refine Ax x97.ok<|Ad λcy=>Ad λak=>Ad λaa=>Ai<|Ay λr h=>wx x97 (An) λ_ hS F=>?_
 dsimp only[x97,Al];unfold Eh at h;exact Af hS F h
def BN(N:Nat)(d9:Int)(ay:Int)(bq:Int)(cr:List (Int×Int))(aw:Int)(av:Int):Option Bool:=(Eh N d9 0 99).bind λcu=>gd (cu=true->((Eh N ay 1 8).isSome=true))<|gd ((cu&&((Eh N ay 1 8).getD false))=true->((Eh N bq 0 7).isSome=true))<|gd ((((((cu&&((Eh N ay 1 8).getD false))&&((Eh N bq 0 7).getD false))&&(decide (0<=aw)))&&(decide (aw<av)))&&(decide (av<=8)))=true->((BO N cr).isSome=true))<|some ((((((cu&&((Eh N ay 1 8).getD false))&&((Eh N bq 0 7).getD false))&&(decide (0<=aw)))&&(decide (aw<av)))&&(decide (av<=8)))&&((BO N cr).getD false))
@[go_sem] def XS(N:Nat):Spec:=p0<|pG<|pI λd9=>pI λay=>pI λbq=>pS AF λcr=>pI λaw=>pI λav=>pE<|pE<|pF (BN N d9 ay bq cr aw av) false λr=>.b r
theorem MV(N:Nat):AZ Tryz.prog 43 (XS N):=by
 refine Ax x43.ok<|A2<|Ad λd9=>Ad λay=>Ad λbq=>Bf λcr=>Ad λaw=>Ad λav=>Ai<|Ai<|Ay λr h=>wx x43 (Ac (oE N)<|Ac (Oi N)<|An) λ_ hS F=>?_
 dsimp only[x43,Al,AF];unfold BN at h;obtain⟨cu,jk,jb,jv,ju,h⟩:=un h;exact Af hS (fc jk F) h
def Ha(N:Nat)(d8:Int)(d7:Int)(d6:Int)(d5:List (Int×Int))(bp:Int)(bo:Int):Option Int:=(BN N d8 d7 d6 d5 bp bo).bind λja=>bif !ja then(some 0)else(gd (Ab (bo-bp))<|some (bo-bp))
@[go_sem] def s84(N:Nat):Spec:=p0<|pG<|pI λd8=>pI λd7=>pI λd6=>pS AF λd5=>pI λbp=>pI λbo=>pE<|pE<|pF (Ha N d8 d7 d6 d5 bp bo) 0 λr=>.i r
theorem Abm(N:Nat):AZ Tryz.prog 84 (s84 N):=by
 refine Ax x84.ok<|A2<|Ad λd8=>Ad λd7=>Ad λd6=>Bf λd5=>Ad λbp=>Ad λbo=>Ai<|Ai<|Ay λr h=>wx x84 (Ac (MV N)<|An) λ_ hS F=>?_
 dsimp only[x84,Al,AF];unfold Ha at h;obtain⟨ja,jj,h⟩:=un h;replace F:=fc jj F;refine Ap hS F h (λ_ h=>?_) (λ_ h=>?_)
 ·exact Af hS F h
 ·obtain⟨jb,h⟩:=un h;exact Af hS F h
def F4(N:Nat)(dz:Int)(dw:Int)(du:Int)(cq:List (Int×Int))(dt:Int)(dq:Int):Option Int:=(GA N cq).bind λie=>(Ha N dz dw du cq dt dq).bind λic=>gd (Ab (ie*ic))<|some (ie*ic)
@[go_sem] def s26(N:Nat):Spec:=p0<|pG<|pI λdz=>pI λdw=>pI λdu=>pS AF λcq=>pI λdt=>pI λdq=>pE<|pE<|pF (F4 N dz dw du cq dt dq) 0 λr=>.i r
theorem Abn(N:Nat):AZ Tryz.prog 26 (s26 N):=by
 refine Ax x26.ok<|A2<|Ad λdz=>Ad λdw=>Ad λdu=>Bf λcq=>Ad λdt=>Ad λdq=>Ai<|Ai<|Ay λr h=>wx x26 (Ac (Abk N)<|Ac (Abm N)<|An) λ_ hS F=>?_
 dsimp only[x26,Al,AF];unfold F4 at h;obtain⟨ie,ji,ic,jh,jb,h⟩:=un h;exact Af hS (fc jh (fc ji F)) h
def FX(N:Nat)(b9:Int)(bz:Int)(bw:Int)(bv:List (Int×Int))(aj:Int)(ai:Int)(dl:Int)(dh:Int)(dg:Int)(de:List (Int×Int))(an:Int)(am:Int):Option (Int×Int×Bool):=gd ((decide (max aj an<min ai am))=true->((BN N b9 bz bw bv aj ai).isSome=true))<|gd (((decide (max aj an<min ai am))&&((BN N b9 bz bw bv aj ai).getD false))=true->((BN N dl dh dg de an am).isSome=true))<|some (max aj an,min ai am,((decide (max aj an<min ai am))&&((BN N b9 bz bw bv aj ai).getD false))&&((BN N dl dh dg de an am).getD false))
@[go_sem] def TM(N:Nat):Spec:=p0<|pG<|pI λb9=>pI λbz=>pI λbw=>pS AF λbv=>pI λaj=>pI λai=>pE<|pG<|pI λdl=>pI λdh=>pI λdg=>pS AF λde=>pI λan=>pI λam=>pE<|pE<|pF (FX N b9 bz bw bv aj ai dl dh dg de an am) (0,0,false) λr=>.tup [.i r.1,.i r.2.1,.b r.2.2]
theorem oF(N:Nat):AZ Tryz.prog 80 (TM N):=by
 refine Ax x80.ok<|A2<|Ad λb9=>Ad λbz=>Ad λbw=>Bf λbv=>Ad λaj=>Ad λai=>Ai<|A2<|Ad λdl=>Ad λdh=>Ad λdg=>Bf λde=>Ad λan=>Ad λam=>Ai<|Ai<|Ay λr h=>wx x80 (Ac (MV N)<|An) λ_ hS F=>?_
 dsimp only[x80,Al,AF];unfold FX at h;obtain⟨jb,jv,h⟩:=un h;exact Af hS F h
def Ei(N:Nat)(gx:Int)(gw:Int)(gu:Int)(bu:List (Int×Int))(gt:Int)(gj:Int)(fq:Int)(fp:Int)(fo:Int)(br:List (Int×Int))(fj:Int)(fh:Int):Option Bool:=(FX N gx gw gu bu gt gj fq fp fo br fj fh).bind λ(jr,jq,g9)=>gd (g9=true->((Dq N bu br).isSome=true))<|some (g9&&((Dq N bu br).getD false))
@[go_sem] def s23(N:Nat):Spec:=p0<|pG<|pI λgx=>pI λgw=>pI λgu=>pS AF λbu=>pI λgt=>pI λgj=>pE<|pG<|pI λfq=>pI λfp=>pI λfo=>pS AF λbr=>pI λfj=>pI λfh=>pE<|pE<|pF (Ei N gx gw gu bu gt gj fq fp fo br fj fh) false λr=>.b r
theorem oG(N:Nat):AZ Tryz.prog 23 (s23 N):=by
 refine Ax x23.ok<|A2<|Ad λgx=>Ad λgw=>Ad λgu=>Bf λbu=>Ad λgt=>Ad λgj=>Ai<|A2<|Ad λfq=>Ad λfp=>Ad λfo=>Bf λbr=>Ad λfj=>Ad λfh=>Ai<|Ai<|Ay λr h=>wx x23 (Ac (oF N)<|Ac (oB N)<|An) λ_ hS F=>?_
 dsimp only[x23,Al,AF];unfold Ei at h;obtain⟨⟨jr,jq,g9⟩,jg,h⟩:=un h;obtain⟨jb,h⟩:=un h;exact Af hS (fc jg F) h
def Ff(N:Nat)(dp:Int)(gi:Int)(gh:Int)(dm:List (Int×Int))(gf:Int)(gc:Int)(db:Int)(fg:Int)(fb:Int)(cz:List (Int×Int))(ez:Int)(eh:Int):Option ((Int×Int×((Int×Int)×(Int×Int))×Int×Int)×Bool):=(FX N dp gi gh dm gf gc db fg fb cz ez eh).bind λ(i9,i8,i7)=>bif !i7 then(some ((0,0,((0,0),(0,0)),0,0),false))else((Gg N dm cz).bind λ(((i6,iz),(iy,iw)),iv)=>bif !iv then(some ((0,0,((0,0),(0,0)),0,0),false))else(some ((dp,db,((i6,iz),(iy,iw)),i9,i8),true)))
@[go_sem] def s32(N:Nat):Spec:=p0<|pG<|pI λdp=>pI λgi=>pI λgh=>pS AF λdm=>pI λgf=>pI λgc=>pE<|pG<|pI λdb=>pI λfg=>pI λfb=>pS AF λcz=>pI λez=>pI λeh=>pE<|pE<|pF (Ff N dp gi gh dm gf gc db fg fb cz ez eh) ((0,0,((0,0),(0,0)),0,0),false) λr=>.tup [.agg [.i r.1.1,.i r.1.2.1,.i r.1.2.2.1.1.1,.i r.1.2.2.1.1.2,.i r.1.2.2.1.2.1,.i r.1.2.2.1.2.2,.i r.1.2.2.2.1,.i r.1.2.2.2.2],.b r.2]
theorem Zl(N:Nat):AZ Tryz.prog 32 (s32 N):=by
 refine Ax x32.ok<|A2<|Ad λdp=>Ad λgi=>Ad λgh=>Bf λdm=>Ad λgf=>Ad λgc=>Ai<|A2<|Ad λdb=>Ad λfg=>Ad λfb=>Bf λcz=>Ad λez=>Ad λeh=>Ai<|Ai<|Ay λr h=>wx x32 (Ac (oF N)<|Ac (Abl N)<|An) λ_ hS F=>?_
 dsimp only[x32,Al,AF];unfold Ff at h;obtain⟨⟨i9,i8,i7⟩,jf,h⟩:=un h;replace F:=fc jf F;refine Ap hS F h (λ_ h=>?_) (λ_ h=>?_)
 ·exact Af hS F h
 ·obtain⟨⟨⟨⟨i6,iz⟩,⟨iy,iw⟩⟩,iv⟩,je,h⟩:=un h;replace F:=fc je F;refine Ap hS F h (λ_ h=>?_) (λ_ h=>?_)
  ·exact Af hS F h
  ·exact Af hS F h
def Ea(N:Nat)(u534:List (Int×Int))(ah:Int)(af:Int)(ae:Int):Nat->Int->Option (Sum Unit (((Int×Int×((Int×Int)×(Int×Int))×Int×Int)×Bool)))|0,_=>none|n+1,aq=>bif decide (aq<(u534.length:Int))then((AA u534 aq).bind λ(ip,gz)=>gd (Ab (aq+1))<|gd ((u534.length:Int)≠0)<|(AA u534 ((aq+1).tmod (u534.length:Int))).bind λ(ij,gy)=>bif (decide (gz=0))&&(decide (gy=0))then(some (.inr ((ah,(-1),((ip,gz),(ij,gy)),af,ae),true)))else(gd (Ab (aq+1))<|Ea N u534 ah af ae n (aq+1)))else(some (.inl ()))
def Ef(N:Nat)(ah:Int)(co:Int)(ce:Int)(u534:List (Int×Int))(af:Int)(ae:Int):Option ((Int×Int×((Int×Int)×(Int×Int))×Int×Int)×Bool):=(BN N ah co ce u534 af ae).bind λir=>bif !ir then(some ((0,0,((0,0),(0,0)),0,0),false))else((Ea N u534 ah af ae N 0).bind λig=>match ig with|.inl ()=>(some ((0,0,((0,0),(0,0)),0,0),false))|.inr jp=>(some jp))
@[go_sem] def s31(N:Nat):Spec:=p0<|pG<|pI λah=>pI λco=>pI λce=>pS AF λu534=>pI λaf=>pI λae=>pE<|pE<|pF (Ef N ah co ce u534 af ae) ((0,0,((0,0),(0,0)),0,0),false) λr=>.tup [.agg [.i r.1.1,.i r.1.2.1,.i r.1.2.2.1.1.1,.i r.1.2.2.1.1.2,.i r.1.2.2.1.2.1,.i r.1.2.2.1.2.2,.i r.1.2.2.2.1,.i r.1.2.2.2.2],.b r.2]
theorem Zm(N:Nat):AZ Tryz.prog 31 (s31 N):=by
 refine Ax x31.ok<|A2<|Ad λah=>Ad λco=>Ad λce=>Bf λu534=>Ad λaf=>Ad λae=>Ai<|Ai<|Ay λr h=>wx x31 (Ac (MV N)<|An) λ_ hS F=>?_
 dsimp only[x31,Al,AF];unfold Ef at h;obtain⟨ir,jd,h⟩:=un h;replace F:=fc jd F;refine Ap hS F h (λ_ h=>?_) (λ_ h=>?_)
 ·exact Af hS F h
 ·obtain⟨ig,jw,h⟩:=un h;refine go hS F ?_;refine AM ig (λz:Nat=>⟨[(2,.box (1,1) 0)],[(.c (1,1) 0,.i 0),(.c (1,1) 1,.i 0),(.c (1,1) 2,.i 0),(.c (1,1) 3,.i 0),(.c (1,1) 4,.i 0),(.c (1,1) 5,.i 0),(.c (1,1) 6,.i 0),(.c (1,1) 7,.i 0)],z⟩) (λz=>(.inl ():Sum Unit (((Int×Int×((Int×Int)×(Int×Int))×Int×Int)×Bool)))) (.x 0) ?_ ?_
  ·refine AH (λn (y:Int×Nat)=>Ea N u534 ah af ae n y.1) (λy=>⟨[(1,.box (0,1) 0),(2,.box (1,1) 0),(12,A3 u534),(13,.i (u534.length:Int)),(14,.i y.1)],[(.c (1,1) 0,.i 0),(.c (1,1) 1,.i 0),(.c (1,1) 2,.i 0),(.c (1,1) 3,.i 0),(.c (1,1) 4,.i 0),(.c (1,1) 5,.i 0),(.c (1,1) 6,.i 0),(.c (1,1) 7,.i 0),(.c (0,1) 0,.i ah),(.c (0,1) 1,.i co),(.c (0,1) 2,.i ce),(.c (0,1) 3,A3 u534),(.c (0,1) 4,.i af),(.c (0,1) 5,.i ae)],y.2⟩) (0,3) jw (Bn F) ?_;rintro n ⟨aq,jo⟩ au;simp only[Ea]at au;refine Ap hS F au (λ_ au=>?_) (λ_ au=>?_)
   ·obtain⟨⟨ip,gz⟩,jn,au⟩:=un au;obtain⟨jt,F⟩:=Bt By jn F;obtain⟨ju,jz,⟨ij,gy⟩,jm,au⟩:=un au;obtain⟨js,F⟩:=Bt By jm F;refine Ap hS F au (λ_ au=>?_) (λ_ au=>?_)
    ·obtain rfl:=yJ au;exact Af hS F h
    ·obtain⟨jy,au⟩:=un au;exact Bk hS F (n,aq+1,jo+1+1+1+1+1) au
   ·exact A9 hS F (jo+1) au
  ·rintro jx rfl;exact Af hS F h
def HR(N:Nat)(bm:Int)(bj:Int)(bi:Int)(bh:List (Int×Int))(bg:Int)(be:Int)(bb:Int)(az:Int):Option ((Int×Int×Int×(List (Int×Int))×Int×Int)×Int):=(Gf N bh bb az).bind λ(iq,g8)=>gd ((!(decide (g8≠0)))=true->((BN N bm bj bi bh bg be).isSome=true))<|bif (decide (g8≠0))||(!((BN N bm bj bi bh bg be).getD false))then(some ((0,0,0,[],0,0),80))else(some ((bm,bj,bi,iq,bg,be),0))
@[go_sem] def s93(N:Nat):Spec:=p0<|pG<|pI λbm=>pI λbj=>pI λbi=>pS AF λbh=>pI λbg=>pI λbe=>pE<|pI λbb=>pI λaz=>pE<|pF (HR N bm bj bi bh bg be bb az) ((0,0,0,[],0,0),0) λr=>.tup [.agg [.i r.1.1,.i r.1.2.1,.i r.1.2.2.1,A3 r.1.2.2.2.1,.i r.1.2.2.2.2.1,.i r.1.2.2.2.2.2],.i r.2]
theorem Abo(N:Nat):AZ Tryz.prog 93 (s93 N):=by
 refine Ax x93.ok<|A2<|Ad λbm=>Ad λbj=>Ad λbi=>Bf λbh=>Ad λbg=>Ad λbe=>Ai<|Ad λbb=>Ad λaz=>Ai<|Ay λr h=>wx x93 (Ac (yN N)<|Ac (MV N)<|An) λ_ hS F=>?_
 dsimp only[x93,Al,AF];unfold HR at h;obtain⟨⟨iq,g8⟩,jc,h⟩:=un h;obtain⟨jb,h⟩:=un h;replace F:=fc jc F;refine Ap hS F h (λ_ h=>?_) (λ_ h=>?_)
 ·exact Af hS F h
 ·exact Af hS F h
