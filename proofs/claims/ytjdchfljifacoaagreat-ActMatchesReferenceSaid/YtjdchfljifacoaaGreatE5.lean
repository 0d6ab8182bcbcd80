import Derived.Test.YtjdchfljifacoaaGreatMT
set_option linter.all false
set_option maxRecDepth 100000
set_option maxHeartbeats 8000000
namespace Go.Proofs.YtjdchfljifacoaaGreat.Am
section
open Go
attribute [local irreducible] Ax BO BB Bj BC Bk AY BD BK Cq
def Ij(x:Int×Int×Int):List AV:=[.i x.1,.i x.2.1,.i x.2.2]
def UW:List AV->Int×Int×Int|[.v (.int _ a1),.v (.int _ a2),.v (.int _ a3)]=>(a1,a2,a3)|_=>(0,0,0)
theorem cD(R:List (Int×Int×Int))(i:Nat):A6 (R.map Ij) [.i 0,.i 0,.i 0] i=Ij (R.getD i (0,0,0)):=by unfold A6;rw[dM,dM,rA];cases R[i]? <;>rfl
theorem sD(A B:List (Int×Int×Int))(i:Nat):A6 (A.map Ij++B.map Ij) [.i 0,.i 0,.i 0] i=Ij ((A++B).getD i (0,0,0)):=by rw[<-uI];exact cD _ _
def AbT:Rw (Int×Int×Int):=⟨3,Ij,UW,[.i 0,.i 0,.i 0]⟩
def AbU(l:List (Int×Int×Int)):AV:=.sl 3 false (l.map Ij) [.i 0,.i 0,.i 0]
def Fi(l:List (Int×Int×Int)):AV:=.sl 3 true (l.map Ij) [.i 0,.i 0,.i 0]
attribute [go_sem] AbT AbU Fi Ij UW cD sD
def DM(N:Nat)(a502:List (Int×Int)):Nat->Int->(List (Int×Int×Int))->Option ((List (Int×Int×Int)))|0,_,_=>none|n+1,cj,l523=>bif decide (cj<(a502.length:Int))then((A7 a502 cj).bind λ(bi,bh)=>(CU N a502 cj).bind λ(b9,b7)=>gd (Af (bh-b7))<|gd (Af (b9-bi))<|gd (Af (b7-bh))<|gd (Af ((b7-bh)*bi))<|gd (Af (b9-bi))<|gd (Af ((b9-bi)*bh))<|gd (Af (((b7-bh)*bi)-((b9-bi)*bh)))<|gd ((l523.length+1)*24<=140737488355328)<|gd (Af (cj+1))<|DM N a502 n (cj+1) (l523++[(bh-b7,b9-bi,((b7-bh)*bi)-((b9-bi)*bh))]))else(some l523)
def DN(N:Nat)(b503:List (Int×Int)):Nat->Int->(List (Int×Int×Int))->Option ((List (Int×Int×Int)))|0,_,_=>none|n+1,ci,l553=>bif decide (ci<(b503.length:Int))then((A7 b503 ci).bind λ(bg,bf)=>(CU N b503 ci).bind λ(bz,bw)=>gd (Af (bf-bw))<|gd (Af (bz-bg))<|gd (Af (bw-bf))<|gd (Af ((bw-bf)*bg))<|gd (Af (bz-bg))<|gd (Af ((bz-bg)*bf))<|gd (Af (((bw-bf)*bg)-((bz-bg)*bf)))<|gd ((l553.length+1)*24<=140737488355328)<|gd (Af (ci+1))<|DN N b503 n (ci+1) (l553++[(bf-bw,bz-bg,((bw-bf)*bg)-((bz-bg)*bf))]))else(some l553)
def DG(N:Nat)(l534:List (Int×Int×Int))(l564:List (Int×Int×Int))(ba:Int)(az:Int)(bj:Int):Nat->Bool->Int->Option Bool|0,_,_=>none|n+1,ae,n838=>bif decide (n838<((l534++l564).length:Int))then(gd (ae=true->(0<=n838/\n838<((l534++l564).length:Int)))<|gd (ae=true->(0<=n838/\n838<((l534++l564).length:Int)))<|gd (ae=true->(Af ((((l534++l564).getD n838.toNat (0,0,0)).1)*ba)))<|gd (ae=true->(0<=n838/\n838<((l534++l564).length:Int)))<|gd (ae=true->(0<=n838/\n838<((l534++l564).length:Int)))<|gd (ae=true->(Af ((((l534++l564).getD n838.toNat (0,0,0)).2.1)*az)))<|gd (ae=true->(Af (((((l534++l564).getD n838.toNat (0,0,0)).1)*ba)+((((l534++l564).getD n838.toNat (0,0,0)).2.1)*az))))<|gd (ae=true->(0<=n838/\n838<((l534++l564).length:Int)))<|gd (ae=true->(0<=n838/\n838<((l534++l564).length:Int)))<|gd (ae=true->(Af ((((l534++l564).getD n838.toNat (0,0,0)).2.2)*bj)))<|gd (ae=true->(Af ((((((l534++l564).getD n838.toNat (0,0,0)).1)*ba)+((((l534++l564).getD n838.toNat (0,0,0)).2.1)*az))+((((l534++l564).getD n838.toNat (0,0,0)).2.2)*bj))))<|gd (Af (n838+1))<|DG N l534 l564 ba az bj n (ae&&(decide (0<=(((((l534++l564).getD n838.toNat (0,0,0)).1)*ba)+((((l534++l564).getD n838.toNat (0,0,0)).2.1)*az))+((((l534++l564).getD n838.toNat (0,0,0)).2.2)*bj)))) (n838+1))else(some ae)
def Cx(N:Nat)(l534:List (Int×Int×Int))(l564:List (Int×Int×Int))(af:Int):Nat->Int->(List (Int×Int×Int))->Option ((List (Int×Int×Int)))|0,_,_=>none|n+1,ay,l803=>bif decide (ay<((l534++l564).length:Int))then((A7 (l534++l564) af).bind λ(an,am,av)=>(A7 (l534++l564) ay).bind λ(ak,aj,au)=>gd (Af (am*au))<|gd (Af (aj*av))<|gd (Af ((am*au)-(aj*av)))<|gd (Af (av*ak))<|gd (Af (au*an))<|gd (Af ((av*ak)-(au*an)))<|gd (Af (an*aj))<|gd (Af (ak*am))<|gd (Af ((an*aj)-(ak*am)))<|bif decide ((an*aj)-(ak*am)=0)then(gd (Af (ay+1))<|Cx N l534 l564 af n (ay+1) l803)else((bif decide ((an*aj)-(ak*am)<0)then(gd (Af (-((am*au)-(aj*av))))<|gd (Af (-((av*ak)-(au*an))))<|gd (Af (-((an*aj)-(ak*am))))<|some (-((am*au)-(aj*av)),-((av*ak)-(au*an)),-((an*aj)-(ak*am))))else(some ((am*au)-(aj*av),(av*ak)-(au*an),(an*aj)-(ak*am))):Option (Int×Int×Int)).bind λ(ba,az,bj)=>(DG N l534 l564 ba az bj N true 0).bind λdb=>bif db then(gd ((l803.length+1)*24<=140737488355328)<|gd (Af (ay+1))<|Cx N l534 l564 af n (ay+1) (l803++[(ba,az,bj)]))else(gd (Af (ay+1))<|Cx N l534 l564 af n (ay+1) l803)))else(some l803)
def DH(N:Nat)(l534:List (Int×Int×Int))(l564:List (Int×Int×Int)):Nat->Int->(List (Int×Int×Int))->Option ((List (Int×Int×Int)))|0,_,_=>none|n+1,af,cy=>bif decide (af<((l534++l564).length:Int))then(gd (Af (af+1))<|(Cx N l534 l564 af N (af+1) cy).bind λdm=>gd (Af (af+1))<|DH N l534 l564 n (af+1) dm)else(some cy)
def BL(N:Nat)(bl:Int)(l855:List (Int×Int×Int))(ai:Int):Nat->Int->Option (Sum Unit Bool)|0,_=>none|n+1,co=>bif decide (co<bl)then((A7 l855 ai).bind λ(cu,cr,da)=>(A7 l855 bl).bind λ(bp,bo,be)=>(A7 l855 co).bind λ(bn,bm,bb)=>gd (Af (bo*bb))<|gd (Af (be*bm))<|gd (Af ((bo*bb)-(be*bm)))<|gd (Af (cu*((bo*bb)-(be*bm))))<|gd (Af (bp*bb))<|gd (Af (be*bn))<|gd (Af ((bp*bb)-(be*bn)))<|gd (Af (cr*((bp*bb)-(be*bn))))<|gd (Af ((cu*((bo*bb)-(be*bm)))-(cr*((bp*bb)-(be*bn)))))<|gd (Af (bp*bm))<|gd (Af (bo*bn))<|gd (Af ((bp*bm)-(bo*bn)))<|gd (Af (da*((bp*bm)-(bo*bn))))<|gd (Af (((cu*((bo*bb)-(be*bm)))-(cr*((bp*bb)-(be*bn))))+(da*((bp*bm)-(bo*bn)))))<|bif decide (((cu*((bo*bb)-(be*bm)))-(cr*((bp*bb)-(be*bn))))+(da*((bp*bm)-(bo*bn)))≠0)then(some (.inr true))else(gd (Af (co+1))<|BL N bl l855 ai n (co+1)))else(some (.inl ()))
def Ce(N:Nat)(ai:Int)(l855:List (Int×Int×Int)):Nat->Int->Option (Sum Unit Bool)|0,_=>none|n+1,bl=>bif decide (bl<ai)then((BL N bl l855 ai N 0).bind λdl=>match dl with|.inl ()=>(gd (Af (bl+1))<|Ce N ai l855 n (bl+1))|.inr fo=>(some (.inr fo)))else(some (.inl ()))
def Cg(N:Nat)(l855:List (Int×Int×Int)):Nat->Int->Option (Sum Unit Bool)|0,_=>none|n+1,ai=>bif decide (ai<(l855.length:Int))then((Ce N ai l855 N 0).bind λdh=>match dh with|.inl ()=>(gd (Af (ai+1))<|Cg N l855 n (ai+1))|.inr fm=>(some (.inr fm)))else(some (.inl ()))
def CM(N:Nat)(a502:List (Int×Int))(b503:List (Int×Int)):Option Bool:=(Cj N a502).bind λde=>gd ((!(!de))=true->((Cj N b503).isSome=true))<|bif (!de)||(!((Cj N b503).getD false))then(some false)else((DM N a502 N 0 []).bind λl534=>(DN N b503 N 0 []).bind λl564=>gd ((l534.length+l564.length)*24<=140737488355328)<|(DH N l534 l564 N 0 []).bind λl855=>(Cg N l855 N 0).bind λdg=>match dg with|.inl ()=>(some false)|.inr fj=>(some fj))
@[go_sem] def RG(N:Nat):Spec:=p0<|(Aon Aq<|Aon Aq<|Aof<|Aog false .b) (CM N)
theorem xX(N:Nat):AG Tryz.prog 128 (RG N):=by
 refine fk (Aoq AlI (Ab (SB N)<|Ab (cC N)<|Aj)) ?_;intro a502 b503 r h _ hS F;dsimp only[AlI,Ah,Aq];unfold CM at h;obtain⟨de,du,l7,h⟩:=un h;replace F:=fc du F;refine An hS F h (λ_ h=>?_) (λ_ h=>?_)
 ·exact Ai hS F h
 ·refine go hS F ?_;refine TR hS 1 3 (by decide) x185.hf x185.hc x185.hn x185.ok x185.hf x185.hc x185.hn x185.ok rfl rfl (ev F) (ev F) (ev F) ?_ rfl (ev F) (oL rfl) λhb=>?_
  ·exact Bl hS F
  dsimp only[x185,Ah];refine go hS F ?_;refine DT 1000001 3 3 [.i 0,.i 0,.i 0] (by show(3:Nat)<52;omega) (by omega) (ev F) ?_;obtain⟨ge,lg,h⟩:=un h;refine go hS F ?_;refine Bz ge (λz:(List (Int×Int×Int))×Nat=>⟨[(3,.own (1000001,7) z.1.length)],[(.a (1000001,7),Fi z.1)],z.2⟩) (λz=>(z.1:(List (Int×Int×Int)))) (.x 0) ?_ ?_
  ·refine Bp (λn (y:Int×(List (Int×Int×Int))×Nat)=>DM N a502 n y.1 y.2.1) (λy=>⟨[(0,BP a502),(3,.own (1000001,7) y.2.1.length),(4,.i y.1)],[(.a (1000001,7),Fi y.2.1)],y.2.2⟩) (0,[],7) lg (Ch F) ?_;rintro n ⟨cj,l523,fh⟩ cq;simp only[DM]at cq;refine An hS F cq (λ_ cq=>?_) (λ_ cq=>?_)
   ·obtain⟨⟨bi,bh⟩,eh,cq⟩:=un cq;obtain⟨ii,F⟩:=Cb Cz eh F;obtain⟨⟨b9,b7⟩,dt,cq⟩:=un cq;obtain⟨lz,lr,lq,lm,lj,li,lf,kz,kv,cq⟩:=un cq;exact Cd hS (fc dt F) (n,cj+1,l523++[(bh-b7,b9-bi,((b7-bh)*bi)-((b9-bi)*bh))],fh+1+1+1+1+1) cq
   ·exact B4 hS F (l523,fh+1) cq
  ·rintro⟨l534,cz⟩ rfl;refine go hS F ?_
   first|refine Vt (ev F) (ev F) ?_ ?_ rfl (ev F) (by simp) λhb=>?_|refine Vs (ev F) (ev F) ?_ ?_ rfl (ev F) (by simp) λhb=>?_
   ·exact Bl hS F
   ·exact Bl hS F
   try dsimp only[x185,Ah]
   refine go hS F ?_;refine DT 1000002 3 3 [.i 0,.i 0,.i 0] (by show(3:Nat)<52;omega) (by omega) (ev F) ?_;obtain⟨gc,gt,h⟩:=un h;refine go hS F ?_;refine Bz gc (λz:(List (Int×Int×Int))×Nat=>⟨[(3,.own (1000002,cz+1+1+1+1+1+1) z.1.length)],[(.a (1000001,7),Fi l534),(.a (1000002,cz+1+1+1+1+1+1),Fi z.1)],z.2⟩) (λz=>(z.1:(List (Int×Int×Int)))) (.x 0) ?_ ?_
   ·refine Bp (λn (y:Int×(List (Int×Int×Int))×Nat)=>DN N b503 n y.1 y.2.1) (λy=>⟨[(0,BP b503),(3,.own (1000002,cz+1+1+1+1+1+1) y.2.1.length),(4,.i y.1)],[(.a (1000001,7),Fi l534),(.a (1000002,cz+1+1+1+1+1+1),Fi y.2.1)],y.2.2⟩) (0,[],cz+1+1+1+1+1+1) gt (Ch F) ?_;rintro n ⟨ci,l553,fg⟩ br;simp only[DN]at br;refine An hS F br (λ_ br=>?_) (λ_ br=>?_)
    ·obtain⟨⟨bg,bf⟩,ee,br⟩:=un br;obtain⟨ig,F⟩:=Cb Cz ee F;obtain⟨⟨bz,bw⟩,dq,br⟩:=un br;obtain⟨kr,kq,km,kl,kj,ki,kh,kg,kf,br⟩:=un br;exact Cd hS (fc dq F) (n,ci+1,l553++[(bf-bw,bz-bg,((bw-bf)*bg)-((bz-bg)*bf))],fg+1+1+1+1+1) br
    ·exact B4 hS F (l553,fg+1) br
   ·rintro⟨l564,ab⟩ rfl;obtain⟨ke,h⟩:=un h;refine go hS F ?_;refine DT 1000004 6 3 [.i 0,.i 0,.i 0] (by show(6:Nat)<245;omega) (by omega) (ev F) ?_;obtain⟨fp,gr,h⟩:=un h;refine go hS F ?_;refine Bz fp (λz:(List (Int×Int×Int))×Nat=>⟨[(6,.own (1000004,ab+1+1+1+1+1) z.1.length)],[(.a (1000004,ab+1+1+1+1+1),Fi z.1)],z.2⟩) (λz=>(z.1:(List (Int×Int×Int)))) (.x 0) ?_ ?_
    ·refine Bp (λn (y:Int×(List (Int×Int×Int))×Nat)=>DH N l534 l564 n y.1 y.2.1) (λy=>⟨[(5,.own (1000001,7) (l534++l564).length),(6,.own (1000004,ab+1+1+1+1+1) y.2.1.length),(7,.i y.1)],[(.a (1000004,ab+1+1+1+1+1),Fi y.2.1),(.a (1000001,7),Fi (l534++l564))],y.2.2⟩) (0,[],ab+1+1+1+1+1) gr (Ch F) ?_;rintro n ⟨af,cy,e9⟩ bq;simp only[DH]at bq;refine An hS F bq (λ_ bq=>?_) (λ_ bq=>?_)
     ·obtain⟨ka,bq⟩:=un bq;obtain⟨fq,gm,bq⟩:=un bq;refine go hS F ?_;refine Bz fq (λz:(List (Int×Int×Int))×Nat=>⟨[(5,.own (1000001,7) (l534++l564).length),(6,.own (1000004,ab+1+1+1+1+1) z.1.length),(7,.i af)],[(.a (1000004,ab+1+1+1+1+1),Fi z.1),(.a (1000001,7),Fi (l534++l564))],z.2⟩) (λz=>(z.1:(List (Int×Int×Int)))) (.x 2) ?_ ?_
      ·refine Bp (λn (y:Int×(List (Int×Int×Int))×Nat)=>Cx N l534 l564 af n y.1 y.2.1) (λy=>⟨[(5,.own (1000001,7) (l534++l564).length),(6,.own (1000004,ab+1+1+1+1+1) y.2.1.length),(7,.i af),(8,.i y.1)],[(.a (1000004,ab+1+1+1+1+1),Fi y.2.1),(.a (1000001,7),Fi (l534++l564))],y.2.2⟩) (af+1,cy,e9+1+1) gm (Ch F) ?_;rintro n ⟨ay,l803,aq⟩ aa;simp only[Cx]at aa;refine An hS F aa (λ_ aa=>?_) (λ_ aa=>?_)
       ·obtain⟨⟨an,am,av⟩,d9,aa⟩:=un aa;obtain⟨ic,F⟩:=Cb Ij d9 F;obtain⟨⟨ak,aj,au⟩,d8,aa⟩:=un aa;obtain⟨ib,F⟩:=Cb Ij d8 F;obtain⟨j9,j8,j7,j6,j5,j4,jz,jy,jx,aa⟩:=un aa;refine An hS F aa (λ_ aa=>?_) (λ_ aa=>?_)
        ·obtain⟨jw,aa⟩:=un aa;exact Cd hS F (n,ay+1,l803,aq+1+1+1+1) aa
        ·obtain⟨fx,cn,aa⟩:=un aa;refine go hS F ?_;refine Bz fx (λz:Int×Int×Int×Nat=>⟨[(5,.own (1000001,7) (l534++l564).length),(6,.own (1000004,ab+1+1+1+1+1) l803.length),(7,.i af),(8,.i ay),(9,.box (1170,aq+1+1) 0)],[(.c (1170,aq+1+1) 0,.i z.1),(.c (1170,aq+1+1) 1,.i z.2.1),(.c (1170,aq+1+1) 2,.i z.2.2.1),(.a (1000004,ab+1+1+1+1+1),Fi l803),(.a (1000001,7),Fi (l534++l564))],z.2.2.2⟩) (λz=>((z.1,z.2.1,z.2.2.1):Int×Int×Int)) .n ?_ ?_
         ·refine An hS F cn (λ_ cn=>?_) (λ_ cn=>?_)
          ·obtain⟨jv,ju,jt,cn⟩:=un cn;exact B4 hS F (-((am*au)-(aj*av)),-((av*ak)-(au*an)),-((an*aj)-(ak*am)),aq+1+1+1+1+1) cn
          ·exact B4 hS F ((am*au)-(aj*av),(av*ak)-(au*an),(an*aj)-(ak*am),aq+1+1+1+1) cn
         ·rintro⟨ba,az,bj,gy⟩ rfl;obtain⟨fr,gj,aa⟩:=un aa;refine go hS F ?_;refine Bz fr (λz:Bool×Nat=>⟨[(5,.own (1000001,7) (l534++l564).length),(6,.own (1000004,ab+1+1+1+1+1) l803.length),(7,.i af),(8,.i ay),(9,.box (1170,aq+1+1) 0),(10,.b z.1)],[(.c (1170,aq+1+1) 0,.i ba),(.c (1170,aq+1+1) 1,.i az),(.c (1170,aq+1+1) 2,.i bj),(.a (1000004,ab+1+1+1+1+1),Fi l803),(.a (1000001,7),Fi (l534++l564))],z.2⟩) (λz=>(z.1:Bool)) (.x 4) ?_ ?_
          ·refine Bp (λn (y:Bool×Int×Nat)=>DG N l534 l564 ba az bj n y.1 y.2.1) (λy=>⟨[(5,.own (1000001,7) (l534++l564).length),(6,.own (1000004,ab+1+1+1+1+1) l803.length),(7,.i af),(8,.i ay),(9,.box (1170,aq+1+1) 0),(10,.b y.1),(11,.i y.2.1)],[(.c (1170,aq+1+1) 0,.i ba),(.c (1170,aq+1+1) 1,.i az),(.c (1170,aq+1+1) 2,.i bj),(.a (1000004,ab+1+1+1+1+1),Fi l803),(.a (1000001,7),Fi (l534++l564))],y.2.2⟩) (true,0,gy+1+1) gj (Ch F) ?_;rintro n ⟨ae,n838,e8⟩ ce;simp only[DG]at ce;refine An hS F ce (λ_ ce=>?_) (λ_ ce=>?_)
           ·obtain⟨js,jr,jq,jp,jo,jn,jm,jl,jk,jj,ji,jh,ce⟩:=un ce;exact Cd hS F (n,ae&&(decide (0<=(((((l534++l564).getD n838.toNat (0,0,0)).1)*ba)+((((l534++l564).getD n838.toNat (0,0,0)).2.1)*az))+((((l534++l564).getD n838.toNat (0,0,0)).2.2)*bj))),n838+1,e8+1+1+1) ce
           ·exact B4 hS F (ae,e8+1) ce
          ·rintro⟨db,ez⟩ rfl;refine An hS F aa (λ_ aa=>?_) (λ_ aa=>?_)
           ·obtain⟨jg,jf,aa⟩:=un aa;exact Cd hS F (n,ay+1,l803++[(ba,az,bj)],ez+1+1+1) aa
           ·obtain⟨je,aa⟩:=un aa;exact Cd hS F (n,ay+1,l803,ez+1+1) aa
       ·exact B4 hS F (l803,aq+1) aa
      ·rintro⟨dm,gx⟩ rfl;obtain⟨jd,bq⟩:=un bq;exact Cd hS F (n,af+1,dm,gx+1) bq
     ·exact B4 hS F (cy,e9+1) bq
    ·rintro⟨l855,gw⟩ rfl;obtain⟨dg,gi,h⟩:=un h;refine go hS F ?_;refine Bz dg (λz:Nat=>⟨[],[],z⟩) (λz=>(.inl ():Sum Unit Bool)) (.x 6) ?_ ?_
     ·refine Bp (λn (y:Int×Nat)=>Cg N l855 n y.1) (λy=>⟨[(6,.own (1000004,ab+1+1+1+1+1) l855.length),(12,.i y.1)],[(.a (1000004,ab+1+1+1+1+1),Fi l855)],y.2⟩) (0,gw+1) gi (Ch F) ?_;rintro n ⟨ai,ep⟩ bv;simp only[Cg]at bv;refine An hS F bv (λ_ bv=>?_) (λ_ bv=>?_)
      ·obtain⟨dh,gh,bv⟩:=un bv;refine go hS F ?_;refine Bz dh (λz:Nat=>⟨[(6,.own (1000004,ab+1+1+1+1+1) l855.length),(12,.i ai)],[(.a (1000004,ab+1+1+1+1+1),Fi l855)],z⟩) (λz=>(.inl ():Sum Unit Bool)) (.x 8) ?_ ?_
       ·refine Bp (λn (y:Int×Nat)=>Ce N ai l855 n y.1) (λy=>⟨[(6,.own (1000004,ab+1+1+1+1+1) l855.length),(12,.i ai),(13,.i y.1)],[(.a (1000004,ab+1+1+1+1+1),Fi l855)],y.2⟩) (0,ep+1+1) gh (Ch F) ?_;rintro n ⟨bl,ej⟩ bu;simp only[Ce]at bu;refine An hS F bu (λ_ bu=>?_) (λ_ bu=>?_)
        ·obtain⟨dl,gg,bu⟩:=un bu;refine go hS F ?_;refine Bz dl (λz:Nat=>⟨[(6,.own (1000004,ab+1+1+1+1+1) l855.length),(12,.i ai),(13,.i bl)],[(.a (1000004,ab+1+1+1+1+1),Fi l855)],z⟩) (λz=>(.inl ():Sum Unit Bool)) (.x 10) ?_ ?_
         ·refine Bp (λn (y:Int×Nat)=>BL N bl l855 ai n y.1) (λy=>⟨[(6,.own (1000004,ab+1+1+1+1+1) l855.length),(12,.i ai),(13,.i bl),(14,.i y.1)],[(.a (1000004,ab+1+1+1+1+1),Fi l855)],y.2⟩) (0,ej+1+1) gg (Ch F) ?_;rintro n ⟨co,ei⟩ ah;simp only[BL]at ah;refine An hS F ah (λ_ ah=>?_) (λ_ ah=>?_)
          ·obtain⟨⟨cu,cr,da⟩,d7,ah⟩:=un ah;obtain⟨g9,F⟩:=Cb Ij d7 F;obtain⟨⟨bp,bo,be⟩,dz,ah⟩:=un ah;obtain⟨g8,F⟩:=Cb Ij dz F;obtain⟨⟨bn,bm,bb⟩,dw,ah⟩:=un ah;obtain⟨gz,F⟩:=Cb Ij dw F;obtain⟨jc,jb,ja,i9,i8,i7,i6,i5,iz,iy,iw,iv,ir,iq,ah⟩:=un ah;refine An hS F ah (λ_ ah=>?_) (λ_ ah=>?_)
           ·obtain rfl:=yJ ah;obtain rfl:=yJ bu;obtain rfl:=yJ bv;exact Ai hS F h
           ·obtain⟨ip,ah⟩:=un ah;exact Cd hS F (n,co+1,ei+1+1+1+1+1+1) ah
          ·exact B4 hS F (ei+1) ah
         ·rintro gv rfl;obtain⟨im,bu⟩:=un bu;exact Cd hS F (n,bl+1,gv+1) bu
        ·exact B4 hS F (ej+1) bu
       ·rintro gu rfl;obtain⟨ij,bv⟩:=un bv;exact Cd hS F (n,ai+1,gu+1) bv
      ·exact B4 hS F (ep+1) bv
     ·rintro lh rfl;exact Ai hS F h
end
section
theorem JC(l:List Pt):(Be l).length=l.length:=by unfold Be;simp
theorem SX{l:List Pt}{i:Nat}(h:i<l.length):(Be l).drop i=Hu l i::(Be l).drop (i+1):=by rw[oH (by rw[JC];exact h)];unfold Be;simp
theorem ZT{p q:Pt}(hp:On p)(hq:On q):(-40<=(IR p q).1/\(IR p q).1<=40)/\(-40<=(IR p q).2.1/\(IR p q).2.1<=40)/\(-1600<=(q.2-p.2)*p.1/\(q.2-p.2)*p.1<=1600)/\(-1600<=(q.1-p.1)*p.2/\(q.1-p.1)*p.2<=1600):=by
 unfold On at hp hq;have m:∀u v,-40<=u->u<=40->0<=v->v<=40->-1600<=u*v/\u*v<=1600:=λu v a b c d=>by have k1:=oJ (show 0<=u+40 by omega) c;have k2:=oJ (show 0<=40-u by omega) c;rw[Int.add_mul]at k1;rw[Int.sub_mul]at k2;omega
 have m1:=m (q.2-p.2) p.1 (by omega) (by omega) (by omega) (by omega);have m2:=m (q.1-p.1) p.2 (by omega) (by omega) (by omega) (by omega);unfold IR;simp;omega
theorem oP(N:Nat){l:List Pt}(h:VP l):∀(n i:Nat)(out:List Ci),i<=l.length->l.length<n+i->out.length<=100+i->DM N l n i out=some (out++(Be l).drop i)
 |0,i,out,h1,h2,_=>by omega
 |n+1,i,out,h1,h2,ho=>by
  have l8:=h.l8;rw[DM];by_cases he:i=l.length
  ·subst he;rw[F2,cF,List.drop_of_length_le (by rw[JC];omega),qO]
  have hi:i<l.length:=by omega
  have hm:(i+1)%l.length<l.length:=tH _ (by omega);have op:=h.on _ (Bo hi);have oq:=h.on _ (Bo hm);have k:=ZT op oq;have oq':=oq;have op':=op;unfold On at op' oq';rw[Dq hi,cT,F1 hi,bS];simp;rw[Tp N (by omega) hi,show pa l ((i+1)%l.length)=((pa l ((i+1)%l.length)).1,(pa l ((i+1)%l.length)).2)from rfl,bS];simp;rw[Ae (by omega),Ae (by omega),Ae (by omega),Ae (by omega),Ae (by omega),Ae (by omega),Ae (by omega),Ae (by omega),Ae (by omega),<-ns];rw[oP N h n (i+1) _ (by omega) (by omega) (by simp;omega),SX hi,qZ];rfl
theorem oQ(N:Nat){l:List Pt}(h:VP l):∀(n i:Nat)(out:List Ci),i<=l.length->l.length<n+i->out.length<=100+i->DN N l n i out=some (out++(Be l).drop i)
 |0,i,out,h1,h2,_=>by omega
 |n+1,i,out,h1,h2,ho=>by
  have l8:=h.l8;rw[DN];by_cases he:i=l.length
  ·subst he;rw[F2,cF,List.drop_of_length_le (by rw[JC];omega),qO]
  have hi:i<l.length:=by omega
  have hm:(i+1)%l.length<l.length:=tH _ (by omega);have op:=h.on _ (Bo hi);have oq:=h.on _ (Bo hm);have k:=ZT op oq;have oq':=oq;have op':=op;unfold On at op' oq';rw[Dq hi,cT,F1 hi,bS];simp;rw[Tp N (by omega) hi,show pa l ((i+1)%l.length)=((pa l ((i+1)%l.length)).1,(pa l ((i+1)%l.length)).2)from rfl,bS];simp;rw[Ae (by omega),Ae (by omega),Ae (by omega),Ae (by omega),Ae (by omega),Ae (by omega),Ae (by omega),Ae (by omega),Ae (by omega),<-ns];rw[oQ N h n (i+1) _ (by omega) (by omega) (by simp;omega),SX hi,qZ];rfl
def Ln(L:Ci):Prop:=(-40<=L.1/\L.1<=40)/\(-40<=L.2.1/\L.2.1<=40)/\(-3200<=L.2.2/\L.2.2<=3200)
def Pl(P:Ci):Prop:=(-256000<=P.1/\P.1<=256000)/\(-256000<=P.2.1/\P.2.1<=256000)/\(-3200<=P.2.2/\P.2.2<=3200)
theorem Jc{a b:Int}(p q:Int)(hp:0<=p)(hq:0<=q)(h1: -p<=a/\a<=p)(h2: -q<=b/\b<=q): -(p*q)<=a*b/\a*b<=p*q:=by have k1:=oJ (show 0<=p-a by omega) (show 0<=q+b by omega);have k2:=oJ (show 0<=p+a by omega) (show 0<=q-b by omega);have k3:=oJ (show 0<=p-a by omega) (show 0<=q-b by omega);have k4:=oJ (show 0<=p+a by omega) (show 0<=q+b by omega);constructor<;>grind
theorem oR{l:List Pt}(h:VP l){i:Nat}(hi:i<l.length):Ln (Hu l i):=by have k:=ZT (h.on _ (Bo hi)) (h.on _ (Bo (tH (i+1) (show 0<l.length by omega))));grind[Ln,Hu,IR]
theorem Aax{a b:List Pt}(ha:VP a)(hb:VP b):∀L∈Be a++Be b,Ln L:=by grind[Ha,oR]
theorem AeG{L P:Ci}(hL:Ln L)(hP:Pl P):(-10240000<=L.1*P.1/\L.1*P.1<=10240000)/\(-10240000<=L.2.1*P.2.1/\L.2.1*P.2.1<=10240000)/\(-10240000<=L.2.2*P.2.2/\L.2.2*P.2.2<=10240000):=⟨Jc 40 256000 (by omega) (by omega) hL.1 hP.1,Jc 40 256000 (by omega) (by omega) hL.2.1 hP.2.1,Jc 3200 3200 (by omega) (by omega) hL.2.2 hP.2.2⟩
section
variable{A B Ls:List Ci}
open Classical in
theorem eJ(N:Nat)(hLs:A++B=Ls)(hA:∀L∈Ls,Ln L)(hl:Ls.length<=1000){P:Ci}(hP:Pl P):∀(n i:Nat)(c:Bool),i<=Ls.length->Ls.length<n+i->DG N A B P.1 P.2.1 P.2.2 n c i=some (c&&decide (∀k,i<=k->k<Ls.length->0<=BS (ga Ls k) P))
 |0,i,c,h1,h2=>by omega
 |n+1,i,c,h1,h2=>by
  rw[DG,hLs];by_cases he:i=Ls.length
  ·subst he;rw[F2,cF,aB (by omega),Kh]
  have hi:i<Ls.length:=by omega
  have e:=AeG (hA _ (IS hi)) hP;have eg:Ls.getD (i:Int).toNat (0,0,0)=ga Ls i:=by rfl
  rw[Dq hi,cT,eg];rw[Ae (by omega),Ae (by omega),Ae (by omega),Ae (by omega),Ae (by omega),Ae (by omega),Ae (by omega),Ae (by omega),Ae (by omega),Ae (by omega),Ae (by omega),Ae (by omega),<-ns];rw[eJ N hLs hA hl hP n (i+1) _ (by omega) (by omega),Bool.and_assoc];congr 2;rw[IF,nK,bK,bK,bK];constructor
  ·rintro⟨h1,h2⟩ k a b;by_cases q:k=i
   ·rw[q];exact h1
   ·exact h2 k (by omega) b
  ·intro h;exact⟨h i (by omega) hi,by grind⟩
def oS(Ls:List Ci)(i k:Nat)(P:Ci):Prop:=(KU (ga Ls i) (ga Ls k)).2.2≠0/\P=KV (KU (ga Ls i) (ga Ls k))/\∀L∈Ls,0<=BS L P
theorem Aay{L M:Ci}(hL:Ln L)(hM:Ln M):((-128000<=L.2.1*M.2.2/\L.2.1*M.2.2<=128000)/\(-128000<=M.2.1*L.2.2/\M.2.1*L.2.2<=128000))/\((-128000<=L.2.2*M.1/\L.2.2*M.1<=128000)/\(-128000<=M.2.2*L.1/\M.2.2*L.1<=128000))/\(-1600<=L.1*M.2.1/\L.1*M.2.1<=1600)/\(-1600<=M.1*L.2.1/\M.1*L.2.1<=1600):=⟨⟨Jc 40 3200 (by omega) (by omega) hL.2.1 hM.2.2,Jc 40 3200 (by omega) (by omega) hM.2.1 hL.2.2⟩,⟨Jc 3200 40 (by omega) (by omega) hL.2.2 hM.1,Jc 3200 40 (by omega) (by omega) hM.2.2 hL.1⟩,Jc 40 40 (by omega) (by omega) hL.1 hM.2.1,Jc 40 40 (by omega) (by omega) hM.1 hL.2.1⟩
theorem oT{L M:Ci}(hL:Ln L)(hM:Ln M):Pl (KV (KU L M)):=by have b:=Aay hL hM;unfold Pl KV oN KU;split<;>simp<;>omega
theorem Qn{i:Nat}(h:i<Ls.length):A7 Ls (i:Int)=some ((ga Ls i).1,(ga Ls i).2.1,(ga Ls i).2.2):=by rw[Ou (0,0,0) (by omega) (by omega),tK];rfl
open Classical in
theorem SY{N:Nat}(hN:1001<=N)(hLs:A++B=Ls)(hA:∀L∈Ls,Ln L)(hl:Ls.length<=1000){i:Nat}(hi:i<Ls.length):∀(n k:Nat)(out:List Ci),k<=Ls.length->Ls.length<n+k->out.length<=1000000+k->∃r,Cx N A B i n k out=some r/\r.length<=out.length+(Ls.length-k)/\∀P,P∈r↔P∈out\/∃j,k<=j/\j<Ls.length/\oS Ls i j P
 |0,k,out,h1,h2,_=>by omega
 |n+1,k,out,h1,h2,ho=>by
  rw[Cx,hLs];by_cases he:k=Ls.length
  ·grind
  have hk:k<Ls.length:=by omega
  have lL:=hA _ (IS hi);have lM:=hA _ (IS hk);have b:=Aay lL lM;have w_:(KU (ga Ls i) (ga Ls k)).2.2=(ga Ls i).1*(ga Ls k).2.1-(ga Ls k).1*(ga Ls i).2.1:=rfl;rw[Dq hk,cT,Qn hi,bS];simp only;rw[Qn hk,bS];simp only;rw[Ae (by omega),Ae (by omega),Ae (by omega),Ae (by omega),Ae (by omega),Ae (by omega),Ae (by omega),Ae (by omega),Ae (by omega)];by_cases hw:(ga Ls i).1*(ga Ls k).2.1-(ga Ls k).1*(ga Ls i).2.1=0
  ·rw[aB hw,cT,Ae (by omega),<-ns];obtain⟨r,er,hr,h⟩:=SY hN hLs hA hl hi n (k+1) out (by omega) (by omega) (by omega);refine⟨r,er,by omega,λP=>?_⟩;rw[h P];constructor
   ·grind
   ·rintro(q|⟨j,a,b,c⟩)
    ·exact .inl q
    ·by_cases q:j=k
     ·subst q;exact absurd (w_.trans hw) c.1
     grind
  have eP:(bif decide ((ga Ls i).1*(ga Ls k).2.1-(ga Ls k).1*(ga Ls i).2.1<0)then(
      gd (Af (-((ga Ls i).2.1*(ga Ls k).2.2-(ga Ls k).2.1*(ga Ls i).2.2)))<|gd (Af (-((ga Ls i).2.2*(ga Ls k).1-(ga Ls k).2.2*(ga Ls i).1)))<|gd (Af (-((ga Ls i).1*(ga Ls k).2.1-(ga Ls k).1*(ga Ls i).2.1)))<|some (-((ga Ls i).2.1*(ga Ls k).2.2-(ga Ls k).2.1*(ga Ls i).2.2),-((ga Ls i).2.2*(ga Ls k).1-(ga Ls k).2.2*(ga Ls i).1),-((ga Ls i).1*(ga Ls k).2.1-(ga Ls k).1*(ga Ls i).2.1)))
     else(
      some ((ga Ls i).2.1*(ga Ls k).2.2-(ga Ls k).2.1*(ga Ls i).2.2,(ga Ls i).2.2*(ga Ls k).1-(ga Ls k).2.2*(ga Ls i).1,(ga Ls i).1*(ga Ls k).2.1-(ga Ls k).1*(ga Ls i).2.1)))=some (KV (KU (ga Ls i) (ga Ls k))):=by
   by_cases hn:(ga Ls i).1*(ga Ls k).2.1-(ga Ls k).1*(ga Ls i).2.1<0
   ·rw[aB hn,cT,Ae (by omega),Ae (by omega),Ae (by omega)];unfold KV;rw[dW (by exact hn)];rfl
   ·rw[bJ hn,cF];unfold KV;rw[dQ (by exact hn)];rfl
  rw[bJ hw,cF,eP];have pl:=oT lL lM;generalize eQ:KV (KU (ga Ls i) (ga Ls k))=Q at*;rw[show(some Q)=some (Q.1,Q.2.1,Q.2.2)from rfl,bS];have q24:=eJ N hLs hA hl pl N 0 true (by omega) (by omega);rw[nL]at q24;rw[q24,bS];have mem:(∀j,0<=j->j<Ls.length->0<=BS (ga Ls j) Q)↔∀L∈Ls,0<=BS L Q:=by grind[QY,IS]
  by_cases hin:∀L∈Ls,0<=BS L Q
  ·rw[aB (mem.2 hin),AU _ (by rfl),Ae (by omega),Ae (by omega),<-ns];obtain⟨r,er,hr,h⟩:=SY hN hLs hA hl hi n (k+1) (out++[(Q.1,Q.2.1,Q.2.2)]) (by omega) (by omega) (by simp;omega);refine⟨r,er,by simp at hr;omega,λP=>?_⟩;rw[h P,mU,vF];constructor
   ·rintro((q|q)|⟨j,a,b,c⟩)
    ·exact .inl q
    ·exact .inr ⟨k,by omega,hk,by exact hw,by rw[eQ];exact q,by rw[q];exact hin⟩
    grind
   ·rintro(q|⟨j,a,b,c⟩)
    ·exact .inl (.inl q)
    ·by_cases q:j=k
     ·subst q;exact .inl (.inr (by rw[<-eQ];exact c.2.1))
     grind
  ·rw[bJ (by grind),A1 _ (by rfl),Ae (by omega),<-ns];obtain⟨r,er,hr,h⟩:=SY hN hLs hA hl hi n (k+1) out (by omega) (by omega) (by omega);refine⟨r,er,by omega,λP=>?_⟩;rw[h P];constructor
   ·grind
   ·rintro(q|⟨j,a,b,c⟩)
    ·exact .inl q
    ·by_cases q:j=k
     ·subst q;exact absurd (by rw[<-eQ,<-c.2.1];exact c.2.2) hin
     grind
theorem eK{N:Nat}(hN:1001<=N)(hLs:A++B=Ls)(hA:∀L∈Ls,Ln L)(hl:Ls.length<=30):∀(n i:Nat)(out:List Ci),i<=Ls.length->Ls.length<n+i->out.length<=30*i->∃r,DH N A B n i out=some r/\r.length<=900/\∀P,P∈r↔P∈out\/∃g j,i<=g/\g<j/\j<Ls.length/\oS Ls g j P
 |0,i,out,h1,h2,_=>by omega
 |n+1,i,out,h1,h2,ho=>by
  rw[DH,hLs];by_cases he:i=Ls.length
  ·grind
  have hi:i<Ls.length:=by omega
  rw[Dq hi,cT,Ae (by omega),<-ns];obtain⟨r,er,hr,h⟩:=SY hN hLs hA (by omega) hi N (i+1) out (by omega) (by omega) (by omega);rw[er,bS,Ae (by omega)];obtain⟨r2,er2,hr2,h2⟩:=eK hN hLs hA hl n (i+1) r (by omega) (by omega) (by omega);grind
end
theorem AeH{Q R:Ci}(hQ:Pl Q)(hR:Pl R):(((-819200000<=Q.2.1*R.2.2/\Q.2.1*R.2.2<=819200000)/\(-819200000<=Q.2.2*R.2.1/\Q.2.2*R.2.1<=819200000))/\((-819200000<=Q.1*R.2.2/\Q.1*R.2.2<=819200000)/\(-819200000<=Q.2.2*R.1/\Q.2.2*R.1<=819200000))/\(-65536000000<=Q.1*R.2.1/\Q.1*R.2.1<=65536000000)/\(-65536000000<=Q.2.1*R.1/\Q.2.1*R.1<=65536000000)):=⟨⟨Jc 256000 3200 (by omega) (by omega) hQ.2.1 hR.2.2,Jc 3200 256000 (by omega) (by omega) hQ.2.2 hR.2.1⟩,⟨Jc 256000 3200 (by omega) (by omega) hQ.1 hR.2.2,Jc 3200 256000 (by omega) (by omega) hQ.2.2 hR.1⟩,Jc 256000 256000 (by omega) (by omega) hQ.1 hR.2.1,Jc 256000 256000 (by omega) (by omega) hQ.2.1 hR.1⟩
section
variable{l:List Ci}
theorem Aaz{N:Nat}(hN:1001<=N)(hl:l.length<=1000)(hP:∀P∈l,Pl P){i k:Nat}(hi:i<l.length)(hk:k<l.length):(BL N k l i N 0=some (.inl ())/\∀n,n<k->GX (ga l i) (ga l k) (ga l n)=0)\/(BL N k l i N 0=some (.inr true)/\∃n,n<k/\GX (ga l i) (ga l k) (ga l n)≠0):=by
 have step:∀m (n:Nat),n<k->BL N k l i (m+1) n=if GX (ga l i) (ga l k) (ga l n)≠0 then some (.inr true)else BL N k l i m ((n+1:Nat)):=λm n hn=>by
  have p1:=hP _ (IS hi);have b:=AeH (hP _ (IS hk)) (hP _ (IS (show n<l.length by omega)));rw[BL,aB (show(n:Int)<k by omega),cT,Qn hi,bS];simp only;rw[Qn hk,bS];rw[Qn (show n<l.length by omega),bS];simp only;generalize ga l i=P at*;generalize ga l k=Q at*;generalize ga l n=R at*;have m1:=Jc (b:=Q.2.1*R.2.2-Q.2.2*R.2.1) 256000 1638400000 (by omega) (by omega) p1.1 (by omega);have m2:=Jc (b:=Q.1*R.2.2-Q.2.2*R.1) 256000 1638400000 (by omega) (by omega) p1.2.1 (by omega);have m3:=Jc (b:=Q.1*R.2.1-Q.2.1*R.1) 3200 131072000000 (by omega) (by omega) p1.2.2 (by omega);rw[Ae (by omega),Ae (by omega),Ae (by omega),Ae (by omega),Ae (by omega),Ae (by omega),Ae (by omega),Ae (by omega),Ae (by omega),Ae (by omega),Ae (by omega),Ae (by omega),Ae (by omega),Ae (by omega)];have e:P.1*(Q.2.1*R.2.2-Q.2.2*R.2.1)-P.2.1*(Q.1*R.2.2-Q.2.2*R.1)+P.2.2*(Q.1*R.2.1-Q.2.1*R.1)=GX P Q R:=rfl;rw[e];by_cases h:GX P Q R≠0
  ·rw[aB h,cT,dW h]
  ·rw[bJ h,cF,dQ h,Ae (by omega),ns]
 have key:=GK (L:=BL N k l i) (len:=k) (λn=>if GX (ga l i) (ga l k) (ga l n)≠0 then some true else none)
  (by grind) (by grind) (by simp_all[BL]) N (by omega)
 grind
theorem AaA{N:Nat}(hN:1001<=N)(hl:l.length<=1000)(hP:∀P∈l,Pl P){i:Nat}(hi:i<l.length):(Ce N i l N 0=some (.inl ())/\∀k,k<i->∀n,n<k->GX (ga l i) (ga l k) (ga l n)=0)\/(Ce N i l N 0=some (.inr true)/\∃k n,k<i/\n<k/\GX (ga l i) (ga l k) (ga l n)≠0):=by
 have:∀m (k:Nat),k<=i->i<m+k->(Ce N i l m k=some (.inl ())/\∀j,k<=j->j<i->∀n,n<j->GX (ga l i) (ga l j) (ga l n)=0)\/(Ce N i l m k=some (.inr true)/\∃j n,j<i/\n<j/\GX (ga l i) (ga l j) (ga l n)≠0):=by
  intro m;induction m with
  |zero=>omega
  |succ m ih=>
   intro k a b;rw[Ce];by_cases he:k=i
   ·grind
   rcases Aaz hN hl hP hi (show k<l.length by omega)with⟨e,h⟩|⟨e,n,hn,h⟩
   ·rw[Ae (by omega),<-ns];rcases ih (k+1) (by omega) (by omega)with⟨e2,h2⟩|h2
    all_goals grind
   grind
 rcases this N 0 (by omega) (by omega)with⟨e,h⟩|h
 all_goals grind
theorem AaB{N:Nat}(hN:1001<=N)(hl:l.length<=1000)(hP:∀P∈l,Pl P):(Cg N l N 0=some (.inl ())/\∀i,i<l.length->∀k,k<i->∀n,n<k->GX (ga l i) (ga l k) (ga l n)=0)\/(Cg N l N 0=some (.inr true)/\∃i k n,i<l.length/\k<i/\n<k/\GX (ga l i) (ga l k) (ga l n)≠0):=by
 have:∀m (k:Nat),k<=l.length->l.length<m+k->(Cg N l m k=some (.inl ())/\∀i,k<=i->i<l.length->∀j,j<i->∀n,n<j->GX (ga l i) (ga l j) (ga l n)=0)\/(Cg N l m k=some (.inr true)/\∃i j n,i<l.length/\j<i/\n<j/\GX (ga l i) (ga l j) (ga l n)≠0):=by
  intro m;induction m with
  |zero=>omega
  |succ m ih=>
   intro k a b;rw[Cg];by_cases he:k=l.length
   ·grind
   have hk:k<l.length:=by omega
   rcases AaA hN hl hP hk with⟨e,h⟩|⟨e,j,n,hj,hn,h⟩
   ·rw[Ae (by omega),<-ns];all_goals grind
   grind
 rcases this N 0 (by omega) (by omega)with⟨e,h⟩|h
 all_goals grind
theorem WT(P Q R:Ci):GX Q P R= -GX P Q R:=by unfold GX;grind
theorem WU(P Q R:Ci):GX P R Q= -GX P Q R:=by unfold GX;grind
theorem kH{i k n:Nat}(hi:i<l.length)(hk:k<l.length)(hn:n<l.length)(h:GX (ga l i) (ga l k) (ga l n)≠0):∃x y z,x<l.length/\y<x/\z<y/\GX (ga l x) (ga l y) (ga l z)≠0:=by have s1:=WT (ga l i) (ga l k) (ga l n);have s2:=WU (ga l i) (ga l k) (ga l n);have s3:=WU (ga l k) (ga l i) (ga l n);have s4:=WT (ga l i) (ga l n) (ga l k);have s5:=WU (ga l n) (ga l i) (ga l k);all_goals grind
end
open Classical in
theorem kJ{N:Nat}(hN:1001<=N){a b:List Pt}(ha:VP a)(hb:VP b):CM N a b=some (decide (¬apart a b)):=by
 have a8:=ha.l8;have b8:=hb.l8;unfold CM;rw[F7 (by omega),F7 (by omega),Li.2 ha,Li.2 hb,bS,Ae (by grind),oK,A1 _ (by rfl)];have e2:=oP N ha N 0 [] (by omega) (by omega) (by simp);have e4:=oQ N hb N 0 [] (by omega) (by omega) (by simp);rw[nL,pA,tJ]at e2 e4;rw[e2,bS,e4,bS,Ae (by rw[JC,JC];omega)];have len:(Be a++Be b).length=a.length+b.length:=by rw[jT,JC,JC]
 have lnA:=Aax ha hb;obtain⟨r,er,hr,hm⟩:=eK hN rfl lnA (by omega) N 0 [] (by omega) (by omega) (by simp);rw[nL]at er;rw[er,bS];have mem:∀P,P∈r↔Cmn (Be a++Be b) P:=λP=>by
  rw[hm P];constructor
  ·rintro(q|⟨g,j,_,x,y,z⟩)
   ·simp at q
   ·exact⟨g,j,x,y,z⟩
  ·rintro⟨g,j,x,y,z⟩;exact .inr ⟨g,j,by omega,x,y,z⟩
 have pl:∀P∈r,Pl P:=λP hP=>by obtain⟨i,k,x,y,z,e,_⟩:=(mem P).1 hP;grind[oT,IS]
 rcases AaB hN (by omega) pl with⟨e,h⟩|⟨e,i,k,n,hi,hk,hn,h⟩
 ·rw[e,bS];rw[bJ];grind[eD,QY,kH]
 ·rw[e,bS];rw[aB];intro hap;exact h (kG ha hb hap ((mem _).1 (IS hi)).inK ((mem _).1 (IS (show k<r.length by omega))).inK ((mem _).1 (IS (show n<r.length by omega))).inK)
theorem eL{N:Nat}(hN:1001<=N){a b:List Pt}(h:¬(VP a/\VP b)):Hs N a b=some (0,0,false):=by
 unfold Hs;by_cases ha:VP a
 ·have hb:¬VP b:=by grind
  rw[IJ (by omega),IJ (by omega),Li.2 ha,KK.2 hb,bS,Ae (by grind),AU _ (by rfl)]
 ·rw[IJ (by omega),KK.2 ha,bS,Ae (by grind),AU _ (by rfl)]
open Classical in
theorem Uq{N:Nat}(hN:1001<=N)(a b:List Pt):∃r,EB N a b=some r/\CM N a b=some r:=by
 by_cases ha:VP a
 ·by_cases hb:VP b
  ·refine⟨_,SQ hN ha hb,?_⟩;rw[kJ hN ha hb];congr 1;rw[IF,bK,w6,<-Bool.not_eq_true,QU]
  ·refine⟨false,?_,?_⟩
   ·unfold EB;rw[eL hN (λq=>hb q.2),bS];grind[IJ,KK,Ae]
   ·unfold CM;rw[F7 (by omega),F7 (by omega),Li.2 ha,KK.2 hb,bS,Ae (by grind),AU _ (by rfl)]
 ·refine⟨false,?_,?_⟩
  ·unfold EB;rw[eL hN (λq=>ha q.1),bS];grind[IJ,KK,Ae]
  ·unfold CM;rw[F7 (by omega),KK.2 ha,bS,Ae (by grind),AU _ (by rfl)]
def lxl(p q:Pt):Prop:=p.1<q.1\/(p.1=q.1/\p.2<q.2)
def ZZ(a b:List Pt)(p:Pt):Prop:=sd a p=0/\sd b p=0
structure InvQ(a b:List Pt)(i k:Nat)(l:List Pt):Prop where
 len:l.length<=41*i+k
 pw:l.Pairwise lxl
 mem:∀p,p∈l↔∃x y:Nat,(x<i\/(x=i/\y<k))/\y<=40/\p=((x:Int),(y:Int))/\ZZ a b p
section
variable{a b:List Pt}
end
theorem Ae9{N:Nat}{l:List Pt}(l1:0<l.length)(l8:l.length<=8){how n at_:Int}(h1:Af how)(h2:Af at_):∃r,Gv N l how n at_=some r/\r.length<=9:=by
 unfold Gv;rw[Ae (by omega),bJ (by omega),cF,RK h2 (by omega),bS,RK h1 (by omega),bS];have b:=@DI at_ (l.length:Int) (by omega);obtain⟨u,hu⟩:∃u:Nat,pk at_ (l.length:Int)=u:=⟨(pk at_ (l.length:Int)).toNat,by omega⟩
 rw[hu]at b⊢;have hul:u<l.length:=by omega
 generalize pk how 5=k;by_cases k0:k=0
 ·rw[aB k0,cT,F1 hul,bS];simp only;exact⟨_,rfl,by rw[vG];omega⟩
 rw[bJ k0,cF];by_cases k1:k=1
 ·rw[aB k1,cT,F1 hul,bS];simp only;exact⟨_,rfl,by rw[vG];omega⟩
 rw[bJ k1,cF];by_cases k2:k=2
 ·rw[aB k2,cT,Ae (by unfold Af;omega),Ae (by omega),Nw,F1 (tH _ l1),bS];simp only;rw[F1 hul,bS];exact⟨_,rfl,by rw[vG];omega⟩
 rw[bJ k2,cF];by_cases k3:k=3
 ·rw[aB k3,cT,Ae (by omega),Ae (by unfold Af;omega),Ae (by omega),Ae (by simp only[tW,sG];omega)];exact⟨_,rfl,by simp only[jT,tW,sG];omega⟩
 have p:=@DI at_ 50 (by omega);rw[bJ k3,cF,Ae (by omega),RK h2 (by omega),bS,Ae (by unfold Af;omega),Ae (by omega),Ae (by simp only[sG];omega),Ae (by simp only[jT,tW,sG,z7];omega)];exact⟨_,rfl,by simp only[jT,tW,sG,z7];omega⟩
end
open Go
attribute [local irreducible] Ax BO BB Bj BC Bk AY BD BK Cq
attribute [local go_sem] PF OL
def BU(N:Nat)(bo:Int)(bn:Int)(bm:Int)(bl:List (Int×Int))(am:Int)(ak:Int):Option Bool:=bif (((((decide (bo<0))||(decide (99<bo)))||(decide (bn<1)))||(decide (8<bn)))||(decide (bm<0)))||(decide (7<bm))then(some false)else(gd ((((decide (0<=am))&&(decide (am<ak)))&&(decide (ak<=8)))=true->((Cj N bl).isSome=true))<|some ((((decide (0<=am))&&(decide (am<ak)))&&(decide (ak<=8)))&&((Cj N bl).getD false)))
@[go_sem] def s72(N:Nat):Spec:=p0<|(Aoh<|Aoi<|Aoi<|Aoi<|Aon Aq<|Aoi<|Aoi<|Aof<|Aof<|Aog false .b) (BU N)
theorem QQ(N:Nat):AG Tryz.prog 72 (s72 N):=by
 refine fk (Aoq x72 (Ab (SB N)<|Aj)) ?_;intro bo bn bm bl am ak r h _ hS F;dsimp only[x72,Ah,Aq];unfold BU at h;refine An hS F h (λ_ h=>?_) (λ_ h=>?_)
 ·exact Ai hS F h
 ·obtain⟨d7,h⟩:=un h;exact Ai hS F h
def FU(N:Nat)(dz:Int)(dw:Int)(du:Int)(dt:List (Int×Int))(b9:Int)(b7:Int)(bz:Int)(bw:Int)(bv:Int)(bu:List (Int×Int))(au:Int)(aq:Int):Option Bool:=(BU N dz dw du dt b9 b7).bind λbq=>gd (bq=true->((BU N bz bw bv bu au aq).isSome=true))<|some ((bq&&((BU N bz bw bv bu au aq).getD false))&&(decide (max b9 au<min b7 aq)))
@[go_sem] def RI(N:Nat):Spec:=p0<|(Aoh<|Aoi<|Aoi<|Aoi<|Aon Aq<|Aoi<|Aoi<|Aof<|Aoh<|Aoi<|Aoi<|Aoi<|Aon Aq<|Aoi<|Aoi<|Aof<|Aof<|Aog false .b) (FU N)
theorem yO(N:Nat):AG Tryz.prog 127 (RI N):=by refine fk (Aoq AlH (Ab (QQ N)<|Aj)) ?_;intro dz dw du dt b9 b7 bz bw bv bu au aq r h _ hS F;dsimp only[AlH,Ah,Aq];unfold FU at h;obtain⟨bq,cu,d7,h⟩:=un h;exact Ai hS (fc cu F) h
def EF(N:Nat)(dq:Int)(dm:Int)(dl:Int)(av:List (Int×Int))(dh:Int)(dg:Int)(de:Int)(db:Int)(da:Int)(an:List (Int×Int))(cz:Int)(cy:Int):Option Bool:=(FU N dq dm dl av dh dg de db da an cz cy).bind λbp=>gd (bp=true->((CM N av an).isSome=true))<|some (bp&&((CM N av an).getD false))
@[go_sem] def Tk(N:Nat):Spec:=p0<|(Aoh<|Aoi<|Aoi<|Aoi<|Aon Aq<|Aoi<|Aoi<|Aof<|Aoh<|Aoi<|Aoi<|Aoi<|Aon Aq<|Aoi<|Aoi<|Aof<|Aof<|Aog false .b) (EF N)
theorem yP(N:Nat):AG Tryz.prog 104 (Tk N):=by refine fk (Aoq Alz (Ab (yO N)<|Ab (xX N)<|Aj)) ?_;intro dq dm dl av dh dg de db da an cz cy r h _ hS F;dsimp only[Alz,Ah,Aq];unfold EF at h;obtain⟨bp,cr,d7,h⟩:=un h;exact Ai hS (fc cr F) h
def Gx(N:Nat)(bj:Int)(bi:Int)(bh:Int)(bg:List (Int×Int))(bf:Int)(be:Int)(ba:Int)(az:Int):Option ((Int×Int×Int×(List (Int×Int))×Int×Int)×Int):=(BU N bj bi bh bg bf be).bind λcj=>bif !cj then(some ((0,0,0,[],0,0),80))else((EL N bg ba az).bind λ(ci,ce)=>bif decide (ce≠0)then(some ((0,0,0,[],0,0),80))else(some ((bj,bi,bh,ci,bf,be),0)))
@[go_sem] def AdX(N:Nat):Spec:=p0<|(Aoh<|Aoi<|Aoi<|Aoi<|Aon Aq<|Aoi<|Aoi<|Aof<|Aoi<|Aoi<|Aof<|Aog ((0,0,0,[],0,0),0) λr=>.tup [.agg [.i r.1.1,.i r.1.2.1,.i r.1.2.2.1,BP r.1.2.2.2.1,.i r.1.2.2.2.2.1,.i r.1.2.2.2.2.2],.i r.2]) (Gx N)
theorem yQ(N:Nat):AG Tryz.prog 106 (AdX N):=by
 refine fk (Aoq AlB (Ab (QQ N)<|Ab (AbX N)<|Aj)) ?_;intro bj bi bh bg bf be ba az r h _ hS F;dsimp only[AlB,Ah,Aq];unfold Gx at h;obtain⟨cj,cq,h⟩:=un h;replace F:=fc cq F;refine An hS F h (λ_ h=>?_) (λ_ h=>?_)
 ·exact Ai hS F h
 ·obtain⟨⟨ci,ce⟩,co,h⟩:=un h;replace F:=fc co F;refine An hS F h (λ_ h=>?_) (λ_ h=>?_)
  ·exact Ai hS F h
  ·exact Ai hS F h
def Jy(N:Nat)(ai:Int)(ah:Int)(af:Int)(u963:List (Int×Int))(ae:Int)(ab:Int)(how966:Int)(aa:Int)(bb:Int):Option (Int×Int×Int×(List (Int×Int))×Int×Int):=gd ((u963.length)*16<=140737488355328)<|(Gw N how966 6).bind λaj=>bif decide (aj=0)then(some (aa,ah,af,u963,ae,ab))else(bif decide (aj=1)then(some (ai,aa,af,u963,ae,ab))else(bif decide (aj=2)then(some (ai,ah,aa,u963,ae,ab))else(bif decide (aj=3)then(some (ai,ah,af,u963,aa,ab))else(bif decide (aj=4)then(some (ai,ah,af,u963,ae,aa))else(gd (Af (how966.tdiv 6))<|(Gv N u963 bb aa (how966.tdiv 6)).bind λay=>some (ai,ah,af,ay,ae,ab))))))
@[go_sem] def s53(N:Nat):Spec:=p0<|(Aoh<|Aoi<|Aoi<|Aoi<|Aon Aq<|Aoi<|Aoi<|Aof<|Aoi<|Aoi<|Aoi<|Aof<|Aog (0,0,0,[],0,0) λr=>.agg [.i r.1,.i r.2.1,.i r.2.2.1,BP r.2.2.2.1,.i r.2.2.2.2.1,.i r.2.2.2.2.2]) (Jy N)
theorem Ab1(N:Nat):AG Tryz.prog 53 (s53 N):=by
 refine fk (Aoq x53 (Ab (Ab0 N)<|Ab (AbY N)<|Aj)) ?_;intro ai ah af u963 ae ab how966 aa bb r h _ hS F;dsimp only[x53,Ah,Aq];unfold Jy at h;obtain⟨d7,aj,cn,h⟩:=un h;replace F:=fc cn F;refine An hS F h (λ_ h=>?_) (λ_ h=>?_)
 ·exact Ai hS F h
 ·refine An hS F h (λ_ h=>?_) (λ_ h=>?_)
  ·exact Ai hS F h
  ·refine An hS F h (λ_ h=>?_) (λ_ h=>?_)
   ·exact Ai hS F h
   ·refine An hS F h (λ_ h=>?_) (λ_ h=>?_)
    ·exact Ai hS F h
    ·refine An hS F h (λ_ h=>?_) (λ_ h=>?_)
     ·exact Ai hS F h
     ·obtain⟨d8,ay,br,h⟩:=un h;exact Ai hS (fc br F) h
