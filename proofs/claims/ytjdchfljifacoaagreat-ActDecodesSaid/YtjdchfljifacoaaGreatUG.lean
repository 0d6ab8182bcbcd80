import Derived.Test.YtjdchfljifacoaaGreatMT
set_option linter.all false
set_option maxRecDepth 100000
set_option maxHeartbeats 8000000
namespace Go.Proofs.YtjdchfljifacoaaGreat.Am
section
open Go
attribute [local irreducible] Ax BO BB Bj BC Bk AY BD BK Cq
def Ij(x:Int×Int×Int):List AV:=[.i x.1,.i x.2.1,.i x.2.2]
def UW:List AV->Int×Int×Int|[.v (.int _ a1),.v (.int _ a2),.v (.int _ a3)]=>(a1,a2,a3)|_=>(0,0,0)
theorem cD(R:List (Int×Int×Int))(i:Nat):A6 (R.map Ij) [.i 0,.i 0,.i 0] i=Ij (R.getD i (0,0,0)):=by unfold A6;rw[cY,cY,nL];cases R[i]? <;>rfl
theorem sD(A B:List (Int×Int×Int))(i:Nat):A6 (A.map Ij++B.map Ij) [.i 0,.i 0,.i 0] i=Ij ((A++B).getD i (0,0,0)):=by rw[<-tI];exact cD _ _
def AbT:Rw (Int×Int×Int):=⟨3,Ij,UW,[.i 0,.i 0,.i 0]⟩
def AbU(l:List (Int×Int×Int)):AV:=.sl 3 false (l.map Ij) [.i 0,.i 0,.i 0]
def Fi(l:List (Int×Int×Int)):AV:=.sl 3 true (l.map Ij) [.i 0,.i 0,.i 0]
attribute [go_sem] AbT AbU Fi Ij UW cD sD
def DM(N:Nat)(a502:List (Int×Int)):Nat->Int->(List (Int×Int×Int))->Option ((List (Int×Int×Int)))|0,_,_=>none|n+1,ci,l523=>bif decide (ci<(a502.length:Int))then((A7 a502 ci).bind λ(bh,bg)=>(CU N a502 ci).bind λ(b7,bz)=>gd (Af (bg-bz))<|gd (Af (b7-bh))<|gd (Af (bz-bg))<|gd (Af ((bz-bg)*bh))<|gd (Af (b7-bh))<|gd (Af ((b7-bh)*bg))<|gd (Af (((bz-bg)*bh)-((b7-bh)*bg)))<|gd ((l523.length+1)*24<=140737488355328)<|gd (Af (ci+1))<|DM N a502 n (ci+1) (l523++[(bg-bz,b7-bh,((bz-bg)*bh)-((b7-bh)*bg))]))else(some l523)
def DN(N:Nat)(b503:List (Int×Int)):Nat->Int->(List (Int×Int×Int))->Option ((List (Int×Int×Int)))|0,_,_=>none|n+1,ce,l553=>bif decide (ce<(b503.length:Int))then((A7 b503 ce).bind λ(bf,be)=>(CU N b503 ce).bind λ(bw,bv)=>gd (Af (be-bv))<|gd (Af (bw-bf))<|gd (Af (bv-be))<|gd (Af ((bv-be)*bf))<|gd (Af (bw-bf))<|gd (Af ((bw-bf)*be))<|gd (Af (((bv-be)*bf)-((bw-bf)*be)))<|gd ((l553.length+1)*24<=140737488355328)<|gd (Af (ce+1))<|DN N b503 n (ce+1) (l553++[(be-bv,bw-bf,((bv-be)*bf)-((bw-bf)*be))]))else(some l553)
def DG(N:Nat)(l534:List (Int×Int×Int))(l564:List (Int×Int×Int))(az:Int)(ay:Int)(bi:Int):Nat->Bool->Int->Option Bool|0,_,_=>none|n+1,ae,n838=>bif decide (n838<((l534++l564).length:Int))then(gd (ae=true->(0<=n838/\n838<((l534++l564).length:Int)))<|gd (ae=true->(0<=n838/\n838<((l534++l564).length:Int)))<|gd (ae=true->(Af ((((l534++l564).getD n838.toNat (0,0,0)).1)*az)))<|gd (ae=true->(0<=n838/\n838<((l534++l564).length:Int)))<|gd (ae=true->(0<=n838/\n838<((l534++l564).length:Int)))<|gd (ae=true->(Af ((((l534++l564).getD n838.toNat (0,0,0)).2.1)*ay)))<|gd (ae=true->(Af (((((l534++l564).getD n838.toNat (0,0,0)).1)*az)+((((l534++l564).getD n838.toNat (0,0,0)).2.1)*ay))))<|gd (ae=true->(0<=n838/\n838<((l534++l564).length:Int)))<|gd (ae=true->(0<=n838/\n838<((l534++l564).length:Int)))<|gd (ae=true->(Af ((((l534++l564).getD n838.toNat (0,0,0)).2.2)*bi)))<|gd (ae=true->(Af ((((((l534++l564).getD n838.toNat (0,0,0)).1)*az)+((((l534++l564).getD n838.toNat (0,0,0)).2.1)*ay))+((((l534++l564).getD n838.toNat (0,0,0)).2.2)*bi))))<|gd (Af (n838+1))<|DG N l534 l564 az ay bi n (ae&&(decide (0<=(((((l534++l564).getD n838.toNat (0,0,0)).1)*az)+((((l534++l564).getD n838.toNat (0,0,0)).2.1)*ay))+((((l534++l564).getD n838.toNat (0,0,0)).2.2)*bi)))) (n838+1))else(some ae)
def Cx(N:Nat)(l534:List (Int×Int×Int))(l564:List (Int×Int×Int))(af:Int):Nat->Int->(List (Int×Int×Int))->Option ((List (Int×Int×Int)))|0,_,_=>none|n+1,aw,l803=>bif decide (aw<((l534++l564).length:Int))then((A7 (l534++l564) af).bind λ(an,am,av)=>(A7 (l534++l564) aw).bind λ(ak,aj,au)=>gd (Af (am*au))<|gd (Af (aj*av))<|gd (Af ((am*au)-(aj*av)))<|gd (Af (av*ak))<|gd (Af (au*an))<|gd (Af ((av*ak)-(au*an)))<|gd (Af (an*aj))<|gd (Af (ak*am))<|gd (Af ((an*aj)-(ak*am)))<|bif decide ((an*aj)-(ak*am)=0)then(gd (Af (aw+1))<|Cx N l534 l564 af n (aw+1) l803)else((bif decide ((an*aj)-(ak*am)<0)then(gd (Af (-((am*au)-(aj*av))))<|gd (Af (-((av*ak)-(au*an))))<|gd (Af (-((an*aj)-(ak*am))))<|some (-((am*au)-(aj*av)),-((av*ak)-(au*an)),-((an*aj)-(ak*am))))else(some ((am*au)-(aj*av),(av*ak)-(au*an),(an*aj)-(ak*am))):Option (Int×Int×Int)).bind λ(az,ay,bi)=>(DG N l534 l564 az ay bi N true 0).bind λcy=>bif cy then(gd ((l803.length+1)*24<=140737488355328)<|gd (Af (aw+1))<|Cx N l534 l564 af n (aw+1) (l803++[(az,ay,bi)]))else(gd (Af (aw+1))<|Cx N l534 l564 af n (aw+1) l803)))else(some l803)
def DH(N:Nat)(l534:List (Int×Int×Int))(l564:List (Int×Int×Int)):Nat->Int->(List (Int×Int×Int))->Option ((List (Int×Int×Int)))|0,_,_=>none|n+1,af,cq=>bif decide (af<((l534++l564).length:Int))then(gd (Af (af+1))<|(Cx N l534 l564 af N (af+1) cq).bind λdh=>gd (Af (af+1))<|DH N l534 l564 n (af+1) dh)else(some cq)
def BL(N:Nat)(bj:Int)(l855:List (Int×Int×Int))(ai:Int):Nat->Int->Option (Sum Unit Bool)|0,_=>none|n+1,ck=>bif decide (ck<bj)then((A7 l855 ai).bind λ(co,cn,cu)=>(A7 l855 bj).bind λ(bo,bn,bb)=>(A7 l855 ck).bind λ(bm,bl,ba)=>gd (Af (bn*ba))<|gd (Af (bb*bl))<|gd (Af ((bn*ba)-(bb*bl)))<|gd (Af (co*((bn*ba)-(bb*bl))))<|gd (Af (bo*ba))<|gd (Af (bb*bm))<|gd (Af ((bo*ba)-(bb*bm)))<|gd (Af (cn*((bo*ba)-(bb*bm))))<|gd (Af ((co*((bn*ba)-(bb*bl)))-(cn*((bo*ba)-(bb*bm)))))<|gd (Af (bo*bl))<|gd (Af (bn*bm))<|gd (Af ((bo*bl)-(bn*bm)))<|gd (Af (cu*((bo*bl)-(bn*bm))))<|gd (Af (((co*((bn*ba)-(bb*bl)))-(cn*((bo*ba)-(bb*bm))))+(cu*((bo*bl)-(bn*bm)))))<|bif decide (((co*((bn*ba)-(bb*bl)))-(cn*((bo*ba)-(bb*bm))))+(cu*((bo*bl)-(bn*bm)))≠0)then(some (.inr true))else(gd (Af (ck+1))<|BL N bj l855 ai n (ck+1)))else(some (.inl ()))
def Ce(N:Nat)(ai:Int)(l855:List (Int×Int×Int)):Nat->Int->Option (Sum Unit Bool)|0,_=>none|n+1,bj=>bif decide (bj<ai)then((BL N bj l855 ai N 0).bind λdg=>match dg with|.inl ()=>(gd (Af (bj+1))<|Ce N ai l855 n (bj+1))|.inr fj=>(some (.inr fj)))else(some (.inl ()))
def Cg(N:Nat)(l855:List (Int×Int×Int)):Nat->Int->Option (Sum Unit Bool)|0,_=>none|n+1,ai=>bif decide (ai<(l855.length:Int))then((Ce N ai l855 N 0).bind λdb=>match db with|.inl ()=>(gd (Af (ai+1))<|Cg N l855 n (ai+1))|.inr fh=>(some (.inr fh)))else(some (.inl ()))
def CM(N:Nat)(a502:List (Int×Int))(b503:List (Int×Int)):Option Bool:=(Cj N a502).bind λcz=>gd ((!(!cz))=true->((Cj N b503).isSome=true))<|bif (!cz)||(!((Cj N b503).getD false))then(some false)else((DM N a502 N 0 []).bind λl534=>(DN N b503 N 0 []).bind λl564=>gd ((l534.length+l564.length)*24<=140737488355328)<|(DH N l534 l564 N 0 []).bind λl855=>(Cg N l855 N 0).bind λda=>match da with|.inl ()=>(some false)|.inr fg=>(some fg))
@[go_sem] def RG(N:Nat):Spec:=p0<|pS Aq λa502=>pS Aq λb503=>pE<|pF (CM N a502 b503) false λr=>.b r
theorem xX(N:Nat):AG Tryz.prog 128 (RG N):=by
 refine Ar x128.ok<|AF λa502=>AF λb503=>Ad<|As λr h=>wx x128 (Ab (SB N)<|Ab (cC N)<|Aj) λ_ hS F=>?_
 dsimp only[x128,Ah,Aq];unfold CM at h;obtain⟨cz,dp,lq,h⟩:=un h;replace F:=fc dp F;refine An hS F h (λ_ h=>?_) (λ_ h=>?_)
 ·exact Ai hS F h
 ·refine go hS F ?_;refine TR hS 1 3 (by decide) x185.hf x185.hc x185.hn x185.ok x185.hf x185.hc x185.hn x185.ok rfl rfl (ev F) (ev F) (ev F) ?_ rfl (ev F) (kM rfl) λhb=>?_
  ·exact Bl hS F
  dsimp only[x185,Ah];refine go hS F ?_;refine DT 1000001 3 3 [.i 0,.i 0,.i 0] (by show(3:Nat)<52;omega) (by omega) (ev F) ?_;obtain⟨gc,kw,h⟩:=un h;refine go hS F ?_;refine Bz gc (λz:(List (Int×Int×Int))×Nat=>⟨[(3,.own (1000001,7) z.1.length)],[(.a (1000001,7),Fi z.1)],z.2⟩) (λz=>(z.1:(List (Int×Int×Int)))) (.x 0) ?_ ?_
  ·refine Bp (λn (y:Int×(List (Int×Int×Int))×Nat)=>DM N a502 n y.1 y.2.1) (λy=>⟨[(0,BP a502),(3,.own (1000001,7) y.2.1.length),(4,.i y.1)],[(.a (1000001,7),Fi y.2.1)],y.2.2⟩) (0,[],7) kw (Ch F) ?_;rintro n ⟨ci,l523,e9⟩ cm;simp only[DM]at cm;refine An hS F cm (λ_ cm=>?_) (λ_ cm=>?_)
   ·obtain⟨⟨bh,bg⟩,d8,cm⟩:=un cm;obtain⟨ig,F⟩:=Cb Cz d8 F;obtain⟨⟨b7,bz⟩,dm,cm⟩:=un cm;obtain⟨lm,lj,li,lh,lg,lf,kv,kr,kq,cm⟩:=un cm;exact Cd hS (fc dm F) (n,ci+1,l523++[(bg-bz,b7-bh,((bz-bg)*bh)-((b7-bh)*bg))],e9+1+1+1+1+1) cm
   ·exact B4 hS F (l523,e9+1) cm
  ·rintro⟨l534,cr⟩ rfl;refine go hS F ?_
   first|refine Vt (ev F) (ev F) ?_ ?_ rfl (ev F) (by simp) λhb=>?_|refine Vs (ev F) (ev F) ?_ ?_ rfl (ev F) (by simp) λhb=>?_
   ·exact Bl hS F
   ·exact Bl hS F
   try dsimp only[x185,Ah]
   refine go hS F ?_;refine DT 1000002 3 3 [.i 0,.i 0,.i 0] (by show(3:Nat)<52;omega) (by omega) (ev F) ?_;obtain⟨fr,gt,h⟩:=un h;refine go hS F ?_;refine Bz fr (λz:(List (Int×Int×Int))×Nat=>⟨[(3,.own (1000002,cr+1+1+1+1+1+1) z.1.length)],[(.a (1000001,7),Fi l534),(.a (1000002,cr+1+1+1+1+1+1),Fi z.1)],z.2⟩) (λz=>(z.1:(List (Int×Int×Int)))) (.x 0) ?_ ?_
   ·refine Bp (λn (y:Int×(List (Int×Int×Int))×Nat)=>DN N b503 n y.1 y.2.1) (λy=>⟨[(0,BP b503),(3,.own (1000002,cr+1+1+1+1+1+1) y.2.1.length),(4,.i y.1)],[(.a (1000001,7),Fi l534),(.a (1000002,cr+1+1+1+1+1+1),Fi y.2.1)],y.2.2⟩) (0,[],cr+1+1+1+1+1+1) gt (Ch F) ?_;rintro n ⟨ce,l553,e8⟩ bq;simp only[DN]at bq;refine An hS F bq (λ_ bq=>?_) (λ_ bq=>?_)
    ·obtain⟨⟨bf,be⟩,d7,bq⟩:=un bq;obtain⟨ie,F⟩:=Cb Cz d7 F;obtain⟨⟨bw,bv⟩,dl,bq⟩:=un bq;obtain⟨km,kl,kj,ki,kh,kg,kf,ke,ka,bq⟩:=un bq;exact Cd hS (fc dl F) (n,ce+1,l553++[(be-bv,bw-bf,((bv-be)*bf)-((bw-bf)*be))],e8+1+1+1+1+1) bq
    ·exact B4 hS F (l553,e8+1) bq
   ·rintro⟨l564,ab⟩ rfl;obtain⟨j9,h⟩:=un h;refine go hS F ?_;refine DT 1000004 6 3 [.i 0,.i 0,.i 0] (by show(6:Nat)<245;omega) (by omega) (ev F) ?_;obtain⟨fm,gr,h⟩:=un h;refine go hS F ?_;refine Bz fm (λz:(List (Int×Int×Int))×Nat=>⟨[(6,.own (1000004,ab+1+1+1+1+1) z.1.length)],[(.a (1000004,ab+1+1+1+1+1),Fi z.1)],z.2⟩) (λz=>(z.1:(List (Int×Int×Int)))) (.x 0) ?_ ?_
    ·refine Bp (λn (y:Int×(List (Int×Int×Int))×Nat)=>DH N l534 l564 n y.1 y.2.1) (λy=>⟨[(5,.own (1000001,7) (l534++l564).length),(6,.own (1000004,ab+1+1+1+1+1) y.2.1.length),(7,.i y.1)],[(.a (1000004,ab+1+1+1+1+1),Fi y.2.1),(.a (1000001,7),Fi (l534++l564))],y.2.2⟩) (0,[],ab+1+1+1+1+1) gr (Ch F) ?_;rintro n ⟨af,cq,eu⟩ bp;simp only[DH]at bp;refine An hS F bp (λ_ bp=>?_) (λ_ bp=>?_)
     ·obtain⟨j8,bp⟩:=un bp;obtain⟨fo,gm,bp⟩:=un bp;refine go hS F ?_;refine Bz fo (λz:(List (Int×Int×Int))×Nat=>⟨[(5,.own (1000001,7) (l534++l564).length),(6,.own (1000004,ab+1+1+1+1+1) z.1.length),(7,.i af)],[(.a (1000004,ab+1+1+1+1+1),Fi z.1),(.a (1000001,7),Fi (l534++l564))],z.2⟩) (λz=>(z.1:(List (Int×Int×Int)))) (.x 2) ?_ ?_
      ·refine Bp (λn (y:Int×(List (Int×Int×Int))×Nat)=>Cx N l534 l564 af n y.1 y.2.1) (λy=>⟨[(5,.own (1000001,7) (l534++l564).length),(6,.own (1000004,ab+1+1+1+1+1) y.2.1.length),(7,.i af),(8,.i y.1)],[(.a (1000004,ab+1+1+1+1+1),Fi y.2.1),(.a (1000001,7),Fi (l534++l564))],y.2.2⟩) (af+1,cq,eu+1+1) gm (Ch F) ?_;rintro n ⟨aw,l803,aq⟩ aa;simp only[Cx]at aa;refine An hS F aa (λ_ aa=>?_) (λ_ aa=>?_)
       ·obtain⟨⟨an,am,av⟩,dz,aa⟩:=un aa;obtain⟨ic,F⟩:=Cb Ij dz F;obtain⟨⟨ak,aj,au⟩,dw,aa⟩:=un aa;obtain⟨ib,F⟩:=Cb Ij dw F;obtain⟨j7,j6,j5,j4,jz,jy,jx,jw,jv,aa⟩:=un aa;refine An hS F aa (λ_ aa=>?_) (λ_ aa=>?_)
        ·obtain⟨ju,aa⟩:=un aa;exact Cd hS F (n,aw+1,l803,aq+1+1+1+1) aa
        ·obtain⟨fq,cj,aa⟩:=un aa;refine go hS F ?_;refine Bz fq (λz:Int×Int×Int×Nat=>⟨[(5,.own (1000001,7) (l534++l564).length),(6,.own (1000004,ab+1+1+1+1+1) l803.length),(7,.i af),(8,.i aw),(9,.box (1170,aq+1+1) 0)],[(.c (1170,aq+1+1) 0,.i z.1),(.c (1170,aq+1+1) 1,.i z.2.1),(.c (1170,aq+1+1) 2,.i z.2.2.1),(.a (1000004,ab+1+1+1+1+1),Fi l803),(.a (1000001,7),Fi (l534++l564))],z.2.2.2⟩) (λz=>((z.1,z.2.1,z.2.2.1):Int×Int×Int)) .n ?_ ?_
         ·refine An hS F cj (λ_ cj=>?_) (λ_ cj=>?_)
          ·obtain⟨jt,js,jr,cj⟩:=un cj;exact B4 hS F (-((am*au)-(aj*av)),-((av*ak)-(au*an)),-((an*aj)-(ak*am)),aq+1+1+1+1+1) cj
          ·exact B4 hS F ((am*au)-(aj*av),(av*ak)-(au*an),(an*aj)-(ak*am),aq+1+1+1+1) cj
         ·rintro⟨az,ay,bi,gy⟩ rfl;obtain⟨fp,gj,aa⟩:=un aa;refine go hS F ?_;refine Bz fp (λz:Bool×Nat=>⟨[(5,.own (1000001,7) (l534++l564).length),(6,.own (1000004,ab+1+1+1+1+1) l803.length),(7,.i af),(8,.i aw),(9,.box (1170,aq+1+1) 0),(10,.b z.1)],[(.c (1170,aq+1+1) 0,.i az),(.c (1170,aq+1+1) 1,.i ay),(.c (1170,aq+1+1) 2,.i bi),(.a (1000004,ab+1+1+1+1+1),Fi l803),(.a (1000001,7),Fi (l534++l564))],z.2⟩) (λz=>(z.1:Bool)) (.x 4) ?_ ?_
          ·refine Bp (λn (y:Bool×Int×Nat)=>DG N l534 l564 az ay bi n y.1 y.2.1) (λy=>⟨[(5,.own (1000001,7) (l534++l564).length),(6,.own (1000004,ab+1+1+1+1+1) l803.length),(7,.i af),(8,.i aw),(9,.box (1170,aq+1+1) 0),(10,.b y.1),(11,.i y.2.1)],[(.c (1170,aq+1+1) 0,.i az),(.c (1170,aq+1+1) 1,.i ay),(.c (1170,aq+1+1) 2,.i bi),(.a (1000004,ab+1+1+1+1+1),Fi l803),(.a (1000001,7),Fi (l534++l564))],y.2.2⟩) (true,0,gy+1+1) gj (Ch F) ?_;rintro n ⟨ae,n838,ej⟩ b9;simp only[DG]at b9;refine An hS F b9 (λ_ b9=>?_) (λ_ b9=>?_)
           ·obtain⟨jq,jp,jo,jn,jm,jl,jk,jj,ji,jh,jg,jf,b9⟩:=un b9;exact Cd hS F (n,ae&&(decide (0<=(((((l534++l564).getD n838.toNat (0,0,0)).1)*az)+((((l534++l564).getD n838.toNat (0,0,0)).2.1)*ay))+((((l534++l564).getD n838.toNat (0,0,0)).2.2)*bi))),n838+1,ej+1+1+1) b9
           ·exact B4 hS F (ae,ej+1) b9
          ·rintro⟨cy,ei⟩ rfl;refine An hS F aa (λ_ aa=>?_) (λ_ aa=>?_)
           ·obtain⟨je,jd,aa⟩:=un aa;exact Cd hS F (n,aw+1,l803++[(az,ay,bi)],ei+1+1+1) aa
           ·obtain⟨jc,aa⟩:=un aa;exact Cd hS F (n,aw+1,l803,ei+1+1) aa
       ·exact B4 hS F (l803,aq+1) aa
      ·rintro⟨dh,gx⟩ rfl;obtain⟨jb,bp⟩:=un bp;exact Cd hS F (n,af+1,dh,gx+1) bp
     ·exact B4 hS F (cq,eu+1) bp
    ·rintro⟨l855,gw⟩ rfl;obtain⟨da,gi,h⟩:=un h;refine go hS F ?_;refine Bz da (λz:Nat=>⟨[],[],z⟩) (λz=>(.inl ():Sum Unit Bool)) (.x 6) ?_ ?_
     ·refine Bp (λn (y:Int×Nat)=>Cg N l855 n y.1) (λy=>⟨[(6,.own (1000004,ab+1+1+1+1+1) l855.length),(12,.i y.1)],[(.a (1000004,ab+1+1+1+1+1),Fi l855)],y.2⟩) (0,gw+1) gi (Ch F) ?_;rintro n ⟨ai,eh⟩ bu;simp only[Cg]at bu;refine An hS F bu (λ_ bu=>?_) (λ_ bu=>?_)
      ·obtain⟨db,gh,bu⟩:=un bu;refine go hS F ?_;refine Bz db (λz:Nat=>⟨[(6,.own (1000004,ab+1+1+1+1+1) l855.length),(12,.i ai)],[(.a (1000004,ab+1+1+1+1+1),Fi l855)],z⟩) (λz=>(.inl ():Sum Unit Bool)) (.x 8) ?_ ?_
       ·refine Bp (λn (y:Int×Nat)=>Ce N ai l855 n y.1) (λy=>⟨[(6,.own (1000004,ab+1+1+1+1+1) l855.length),(12,.i ai),(13,.i y.1)],[(.a (1000004,ab+1+1+1+1+1),Fi l855)],y.2⟩) (0,eh+1+1) gh (Ch F) ?_;rintro n ⟨bj,ee⟩ br;simp only[Ce]at br;refine An hS F br (λ_ br=>?_) (λ_ br=>?_)
        ·obtain⟨dg,gg,br⟩:=un br;refine go hS F ?_;refine Bz dg (λz:Nat=>⟨[(6,.own (1000004,ab+1+1+1+1+1) l855.length),(12,.i ai),(13,.i bj)],[(.a (1000004,ab+1+1+1+1+1),Fi l855)],z⟩) (λz=>(.inl ():Sum Unit Bool)) (.x 10) ?_ ?_
         ·refine Bp (λn (y:Int×Nat)=>BL N bj l855 ai n y.1) (λy=>⟨[(6,.own (1000004,ab+1+1+1+1+1) l855.length),(12,.i ai),(13,.i bj),(14,.i y.1)],[(.a (1000004,ab+1+1+1+1+1),Fi l855)],y.2⟩) (0,ee+1+1) gg (Ch F) ?_;rintro n ⟨ck,d9⟩ ah;simp only[BL]at ah;refine An hS F ah (λ_ ah=>?_) (λ_ ah=>?_)
          ·obtain⟨⟨co,cn,cu⟩,du,ah⟩:=un ah;obtain⟨g9,F⟩:=Cb Ij du F;obtain⟨⟨bo,bn,bb⟩,dt,ah⟩:=un ah;obtain⟨g8,F⟩:=Cb Ij dt F;obtain⟨⟨bm,bl,ba⟩,dq,ah⟩:=un ah;obtain⟨gz,F⟩:=Cb Ij dq F;obtain⟨ja,i9,i8,i7,i6,i5,iz,iy,iw,iv,ir,iq,ip,im,ah⟩:=un ah;refine An hS F ah (λ_ ah=>?_) (λ_ ah=>?_)
           ·obtain rfl:=yJ ah;obtain rfl:=yJ br;obtain rfl:=yJ bu;exact Ai hS F h
           ·obtain⟨il,ah⟩:=un ah;exact Cd hS F (n,ck+1,d9+1+1+1+1+1+1) ah
          ·exact B4 hS F (d9+1) ah
         ·rintro gv rfl;obtain⟨ij,br⟩:=un br;exact Cd hS F (n,bj+1,gv+1) br
        ·exact B4 hS F (ee+1) br
       ·rintro gu rfl;obtain⟨ii,bu⟩:=un bu;exact Cd hS F (n,ai+1,gu+1) bu
      ·exact B4 hS F (eh+1) bu
     ·rintro kz rfl;exact Ai hS F h
end
theorem JC(l:List Pt):(Be l).length=l.length:=by unfold Be;simp
theorem SX{l:List Pt}{i:Nat}(h:i<l.length):(Be l).drop i=Hu l i::(Be l).drop (i+1):=by rw[jW (by rw[JC];exact h)];congr 1;unfold Be;simp
theorem ZT{p q:Pt}(hp:On p)(hq:On q):(-40<=(IR p q).1/\(IR p q).1<=40)/\(-40<=(IR p q).2.1/\(IR p q).2.1<=40)/\(-1600<=(q.2-p.2)*p.1/\(q.2-p.2)*p.1<=1600)/\(-1600<=(q.1-p.1)*p.2/\(q.1-p.1)*p.2<=1600):=by
 unfold On at hp hq;have m:∀u v:Int,-40<=u->u<=40->0<=v->v<=40->-1600<=u*v/\u*v<=1600:=λu v a b c d=>by have k1:=kC (show 0<=u+40 by omega) c;have k2:=kC (show 0<=40-u by omega) c;rw[Int.add_mul]at k1;rw[Int.sub_mul]at k2;omega
 have m1:=m (q.2-p.2) p.1 (by omega) (by omega) (by omega) (by omega);have m2:=m (q.1-p.1) p.2 (by omega) (by omega) (by omega) (by omega);unfold IR;simp only;omega
theorem oP(N:Nat){l:List Pt}(h:VP l):∀(n i:Nat)(out:List Ci),i<=l.length->l.length<n+i->out.length<=100+i->DM N l n i out=some (out++(Be l).drop i)
 |0,i,out,h1,h2,_=>by omega
 |n+1,i,out,h1,h2,ho=>by
  have l8:=h.l8;rw[DM];by_cases he:i=l.length
  ·subst he;rw[F2,cF,List.drop_of_length_le (by rw[JC];omega),nA]
  have hi:i<l.length:=by omega
  have hm:(i+1)%l.length<l.length:=sF _ (by omega);have op:=h.on _ (Bo hi);have oq:=h.on _ (Bo hm);have k:=ZT op oq;have oq':=oq;have op':=op;unfold On at op' oq';rw[Dq hi,cT,F1 hi,bS];simp only;rw[Tp N (by omega) hi,show pa l ((i+1)%l.length)=((pa l ((i+1)%l.length)).1,(pa l ((i+1)%l.length)).2)from rfl,bS];simp only;rw[Ae (by unfold Af;omega),Ae (by unfold Af;omega),Ae (by unfold Af;omega),Ae (by unfold Af;omega),Ae (by unfold Af;omega),Ae (by unfold Af;omega),Ae (by unfold Af;omega),Ae (by omega),Ae (by unfold Af;omega),<-ns];rw[oP N h n (i+1) _ (by omega) (by omega) (by simp;omega),SX hi,nK];rfl
theorem oQ(N:Nat){l:List Pt}(h:VP l):∀(n i:Nat)(out:List Ci),i<=l.length->l.length<n+i->out.length<=100+i->DN N l n i out=some (out++(Be l).drop i)
 |0,i,out,h1,h2,_=>by omega
 |n+1,i,out,h1,h2,ho=>by
  have l8:=h.l8;rw[DN];by_cases he:i=l.length
  ·subst he;rw[F2,cF,List.drop_of_length_le (by rw[JC];omega),nA]
  have hi:i<l.length:=by omega
  have hm:(i+1)%l.length<l.length:=sF _ (by omega);have op:=h.on _ (Bo hi);have oq:=h.on _ (Bo hm);have k:=ZT op oq;have oq':=oq;have op':=op;unfold On at op' oq';rw[Dq hi,cT,F1 hi,bS];simp only;rw[Tp N (by omega) hi,show pa l ((i+1)%l.length)=((pa l ((i+1)%l.length)).1,(pa l ((i+1)%l.length)).2)from rfl,bS];simp only;rw[Ae (by unfold Af;omega),Ae (by unfold Af;omega),Ae (by unfold Af;omega),Ae (by unfold Af;omega),Ae (by unfold Af;omega),Ae (by unfold Af;omega),Ae (by unfold Af;omega),Ae (by omega),Ae (by unfold Af;omega),<-ns];rw[oQ N h n (i+1) _ (by omega) (by omega) (by simp;omega),SX hi,nK];rfl
def Ln(L:Ci):Prop:=(-40<=L.1/\L.1<=40)/\(-40<=L.2.1/\L.2.1<=40)/\(-3200<=L.2.2/\L.2.2<=3200)
def Pl(P:Ci):Prop:=(-256000<=P.1/\P.1<=256000)/\(-256000<=P.2.1/\P.2.1<=256000)/\(-3200<=P.2.2/\P.2.2<=3200)
theorem Jc{a b:Int}(p q:Int)(hp:0<=p)(hq:0<=q)(h1: -p<=a/\a<=p)(h2: -q<=b/\b<=q): -(p*q)<=a*b/\a*b<=p*q:=by have k1:=kC (show 0<=p-a by omega) (show 0<=q+b by omega);have k2:=kC (show 0<=p+a by omega) (show 0<=q-b by omega);have k3:=kC (show 0<=p-a by omega) (show 0<=q-b by omega);have k4:=kC (show 0<=p+a by omega) (show 0<=q+b by omega);constructor<;>grind
theorem oR{l:List Pt}(h:VP l){i:Nat}(hi:i<l.length):Ln (Hu l i):=by have k:=ZT (h.on _ (Bo hi)) (h.on _ (Bo (sF (i+1) (show 0<l.length by omega))));unfold Ln Hu;unfold IR at k⊢;simp only at k⊢;omega
theorem Aax{a b:List Pt}(ha:VP a)(hb:VP b):∀L∈Be a++Be b,Ln L:=λL hL=>by
 rcases fU.1 hL with h|h
 ·obtain⟨i,hi,rfl⟩:=Ha.1 h;exact oR ha hi
 ·obtain⟨i,hi,rfl⟩:=Ha.1 h;exact oR hb hi
theorem AeG{L P:Ci}(hL:Ln L)(hP:Pl P):(-10240000<=L.1*P.1/\L.1*P.1<=10240000)/\(-10240000<=L.2.1*P.2.1/\L.2.1*P.2.1<=10240000)/\(-10240000<=L.2.2*P.2.2/\L.2.2*P.2.2<=10240000):=⟨Jc 40 256000 (by omega) (by omega) hL.1 hP.1,Jc 40 256000 (by omega) (by omega) hL.2.1 hP.2.1,Jc 3200 3200 (by omega) (by omega) hL.2.2 hP.2.2⟩
section
variable{A B Ls:List Ci}
open Classical in
theorem eJ(N:Nat)(hLs:A++B=Ls)(hA:∀L∈Ls,Ln L)(hl:Ls.length<=1000){P:Ci}(hP:Pl P):∀(n i:Nat)(c:Bool),i<=Ls.length->Ls.length<n+i->DG N A B P.1 P.2.1 P.2.2 n c i=some (c&&decide (∀k,i<=k->k<Ls.length->0<=BS (ga Ls k) P))
 |0,i,c,h1,h2=>by omega
 |n+1,i,c,h1,h2=>by
  rw[DG,hLs];by_cases he:i=Ls.length
  ·subst he;rw[F2,cF,aA (show∀k,Ls.length<=k->k<Ls.length->0<=BS (ga Ls k) P from λk a b=>by omega),DV]
  have hi:i<Ls.length:=by omega
  have e:=AeG (hA _ (IS hi)) hP;have eg:Ls.getD (i:Int).toNat (0,0,0)=ga Ls i:=by rw[sI];rfl
  rw[Dq hi,cT,eg];rw[Ae (λ_=>⟨by omega,by omega⟩),Ae (λ_=>⟨by omega,by omega⟩),Ae (λ_=>by unfold Af;omega),Ae (λ_=>⟨by omega,by omega⟩),Ae (λ_=>⟨by omega,by omega⟩),Ae (λ_=>by unfold Af;omega),Ae (λ_=>by unfold Af;omega),Ae (λ_=>⟨by omega,by omega⟩),Ae (λ_=>⟨by omega,by omega⟩),Ae (λ_=>by unfold Af;omega),Ae (λ_=>by unfold Af;omega),Ae (by unfold Af;omega),<-ns];rw[eJ N hLs hA hl hP n (i+1) _ (by omega) (by omega),Bool.and_assoc];congr 2;rw[y8,fW,bJ,bJ,bJ];constructor
  ·rintro⟨h1,h2⟩ k a b;by_cases q:k=i
   ·rw[q];exact h1
   ·exact h2 k (by omega) b
  ·intro h;exact⟨h i (by omega) hi,λk a b=>h k (by omega) b⟩
def oS(Ls:List Ci)(i k:Nat)(P:Ci):Prop:=(KU (ga Ls i) (ga Ls k)).2.2≠0/\P=KV (KU (ga Ls i) (ga Ls k))/\∀L∈Ls,0<=BS L P
theorem Aay{L M:Ci}(hL:Ln L)(hM:Ln M):((-128000<=L.2.1*M.2.2/\L.2.1*M.2.2<=128000)/\(-128000<=M.2.1*L.2.2/\M.2.1*L.2.2<=128000))/\((-128000<=L.2.2*M.1/\L.2.2*M.1<=128000)/\(-128000<=M.2.2*L.1/\M.2.2*L.1<=128000))/\(-1600<=L.1*M.2.1/\L.1*M.2.1<=1600)/\(-1600<=M.1*L.2.1/\M.1*L.2.1<=1600):=⟨⟨Jc 40 3200 (by omega) (by omega) hL.2.1 hM.2.2,Jc 40 3200 (by omega) (by omega) hM.2.1 hL.2.2⟩,⟨Jc 3200 40 (by omega) (by omega) hL.2.2 hM.1,Jc 3200 40 (by omega) (by omega) hM.2.2 hL.1⟩,Jc 40 40 (by omega) (by omega) hL.1 hM.2.1,Jc 40 40 (by omega) (by omega) hM.1 hL.2.1⟩
theorem oT{L M:Ci}(hL:Ln L)(hM:Ln M):Pl (KV (KU L M)):=by have b:=Aay hL hM;unfold Pl KV oN KU;split<;>simp only<;>omega
theorem Qn{i:Nat}(h:i<Ls.length):A7 Ls (i:Int)=some ((ga Ls i).1,(ga Ls i).2.1,(ga Ls i).2.2):=by rw[Ou (0,0,0) (by omega) (by omega),sI];rfl
open Classical in
theorem SY{N:Nat}(hN:1001<=N)(hLs:A++B=Ls)(hA:∀L∈Ls,Ln L)(hl:Ls.length<=1000){i:Nat}(hi:i<Ls.length):∀(n k:Nat)(out:List Ci),k<=Ls.length->Ls.length<n+k->out.length<=1000000+k->∃r,Cx N A B i n k out=some r/\r.length<=out.length+(Ls.length-k)/\∀P,P∈r↔P∈out\/∃j,k<=j/\j<Ls.length/\oS Ls i j P
 |0,k,out,h1,h2,_=>by omega
 |n+1,k,out,h1,h2,ho=>by
  rw[Cx,hLs];by_cases he:k=Ls.length
  ·subst he;refine⟨out,by rw[F2,cF],by omega,λP=>⟨.inl,?_⟩⟩;rintro(h|⟨j,a,b,_⟩)
   ·exact h
   ·omega
  have hk:k<Ls.length:=by omega
  have lL:=hA _ (IS hi);have lM:=hA _ (IS hk);have b:=Aay lL lM;have w_:(KU (ga Ls i) (ga Ls k)).2.2=(ga Ls i).1*(ga Ls k).2.1-(ga Ls k).1*(ga Ls i).2.1:=rfl;rw[Dq hk,cT,Qn hi,bS];simp only;rw[Qn hk,bS];simp only;rw[Ae (by unfold Af;omega),Ae (by unfold Af;omega),Ae (by unfold Af;omega),Ae (by unfold Af;omega),Ae (by unfold Af;omega),Ae (by unfold Af;omega),Ae (by unfold Af;omega),Ae (by unfold Af;omega),Ae (by unfold Af;omega)];by_cases hw:(ga Ls i).1*(ga Ls k).2.1-(ga Ls k).1*(ga Ls i).2.1=0
  ·rw[aA hw,cT,Ae (by unfold Af;omega),<-ns];obtain⟨r,er,hr,h⟩:=SY hN hLs hA hl hi n (k+1) out (by omega) (by omega) (by omega);refine⟨r,er,by omega,λP=>?_⟩;rw[h P];constructor
   ·rintro(q|⟨j,a,b,c⟩)
    ·exact .inl q
    ·exact .inr ⟨j,by omega,b,c⟩
   ·rintro(q|⟨j,a,b,c⟩)
    ·exact .inl q
    ·by_cases q:j=k
     ·subst q;exact absurd (w_.trans hw) c.1
     ·exact .inr ⟨j,by omega,b,c⟩
  have eP:(bif decide ((ga Ls i).1*(ga Ls k).2.1-(ga Ls k).1*(ga Ls i).2.1<0)then(
      gd (Af (-((ga Ls i).2.1*(ga Ls k).2.2-(ga Ls k).2.1*(ga Ls i).2.2)))<|gd (Af (-((ga Ls i).2.2*(ga Ls k).1-(ga Ls k).2.2*(ga Ls i).1)))<|gd (Af (-((ga Ls i).1*(ga Ls k).2.1-(ga Ls k).1*(ga Ls i).2.1)))<|some (-((ga Ls i).2.1*(ga Ls k).2.2-(ga Ls k).2.1*(ga Ls i).2.2),-((ga Ls i).2.2*(ga Ls k).1-(ga Ls k).2.2*(ga Ls i).1),-((ga Ls i).1*(ga Ls k).2.1-(ga Ls k).1*(ga Ls i).2.1)))
     else(
      some ((ga Ls i).2.1*(ga Ls k).2.2-(ga Ls k).2.1*(ga Ls i).2.2,(ga Ls i).2.2*(ga Ls k).1-(ga Ls k).2.2*(ga Ls i).1,(ga Ls i).1*(ga Ls k).2.1-(ga Ls k).1*(ga Ls i).2.1)):Option Ci)=some (KV (KU (ga Ls i) (ga Ls k))):=by
   by_cases hn:(ga Ls i).1*(ga Ls k).2.1-(ga Ls k).1*(ga Ls i).2.1<0
   ·rw[aA hn,cT,Ae (by unfold Af;omega),Ae (by unfold Af;omega),Ae (by unfold Af;omega)];unfold KV;rw[dX (by rw[w_];exact hn)];rfl
   ·rw[aB hn,cF];unfold KV;rw[dW (by rw[w_];exact hn)];rfl
  rw[aB hw,cF,eP];have pl:=oT lL lM;generalize eQ:KV (KU (ga Ls i) (ga Ls k))=Q at*;rw[show(some Q:Option Ci)=some (Q.1,Q.2.1,Q.2.2)from rfl,bS];simp only;have q24:=eJ N hLs hA hl pl N 0 true (by omega) (by omega);rw[iW]at q24;rw[q24,bS];have mem:(∀j,0<=j->j<Ls.length->0<=BS (ga Ls j) Q)↔∀L∈Ls,0<=BS L Q:=by
   constructor
   ·intro h L hL;obtain⟨j,hj,rfl⟩:=QY hL;exact h j (by omega) hj
   ·intro h j _ hj;exact h _ (IS hj)
  by_cases hin:∀L∈Ls,0<=BS L Q
  ·rw[aA (mem.2 hin),AU _ (by rfl),Ae (by omega),Ae (by unfold Af;omega),<-ns];obtain⟨r,er,hr,h⟩:=SY hN hLs hA hl hi n (k+1) (out++[(Q.1,Q.2.1,Q.2.2)]) (by omega) (by omega) (by simp;omega);refine⟨r,er,by simp at hr;omega,λP=>?_⟩;rw[h P,fU,tJ];constructor
   ·rintro((q|q)|⟨j,a,b,c⟩)
    ·exact .inl q
    ·exact .inr ⟨k,by omega,hk,by rw[w_];exact hw,by rw[eQ];exact q,by rw[q];exact hin⟩
    ·exact .inr ⟨j,by omega,b,c⟩
   ·rintro(q|⟨j,a,b,c⟩)
    ·exact .inl (.inl q)
    ·by_cases q:j=k
     ·subst q;exact .inl (.inr (by rw[<-eQ];exact c.2.1))
     ·exact .inr ⟨j,by omega,b,c⟩
  ·rw[aB (λq=>hin (mem.1 q)),A1 _ (by rfl),Ae (by unfold Af;omega),<-ns];obtain⟨r,er,hr,h⟩:=SY hN hLs hA hl hi n (k+1) out (by omega) (by omega) (by omega);refine⟨r,er,by omega,λP=>?_⟩;rw[h P];constructor
   ·rintro(q|⟨j,a,b,c⟩)
    ·exact .inl q
    ·exact .inr ⟨j,by omega,b,c⟩
   ·rintro(q|⟨j,a,b,c⟩)
    ·exact .inl q
    ·by_cases q:j=k
     ·subst q;exact absurd (by rw[<-eQ,<-c.2.1];exact c.2.2) hin
     ·exact .inr ⟨j,by omega,b,c⟩
theorem eK{N:Nat}(hN:1001<=N)(hLs:A++B=Ls)(hA:∀L∈Ls,Ln L)(hl:Ls.length<=30):∀(n i:Nat)(out:List Ci),i<=Ls.length->Ls.length<n+i->out.length<=30*i->∃r,DH N A B n i out=some r/\r.length<=900/\∀P,P∈r↔P∈out\/∃g j,i<=g/\g<j/\j<Ls.length/\oS Ls g j P
 |0,i,out,h1,h2,_=>by omega
 |n+1,i,out,h1,h2,ho=>by
  rw[DH,hLs];by_cases he:i=Ls.length
  ·subst he;refine⟨out,by rw[F2,cF],by omega,λP=>⟨.inl,?_⟩⟩;rintro(h|⟨g,j,a,b,c,_⟩)
   ·exact h
   ·omega
  have hi:i<Ls.length:=by omega
  rw[Dq hi,cT,Ae (by unfold Af;omega),<-ns];obtain⟨r,er,hr,h⟩:=SY hN hLs hA (by omega) hi N (i+1) out (by omega) (by omega) (by omega);rw[er,bS,Ae (by unfold Af;omega)];obtain⟨r2,er2,hr2,h2⟩:=eK hN hLs hA hl n (i+1) r (by omega) (by omega) (by omega);refine⟨r2,er2,hr2,λP=>?_⟩;rw[h2 P,h P];constructor
  ·rintro((q|⟨j,a,b,c⟩)|⟨g,j,a,b,c,d⟩)
   ·exact .inl q
   ·exact .inr ⟨i,j,by omega,by omega,b,c⟩
   ·exact .inr ⟨g,j,by omega,b,c,d⟩
  ·rintro(q|⟨g,j,a,b,c,d⟩)
   ·exact .inl (.inl q)
   ·by_cases q:g=i
    ·subst q;exact .inl (.inr ⟨j,by omega,c,d⟩)
    ·exact .inr ⟨g,j,by omega,b,c,d⟩
end
theorem AeH{Q R:Ci}(hQ:Pl Q)(hR:Pl R):(((-819200000<=Q.2.1*R.2.2/\Q.2.1*R.2.2<=819200000)/\(-819200000<=Q.2.2*R.2.1/\Q.2.2*R.2.1<=819200000))/\((-819200000<=Q.1*R.2.2/\Q.1*R.2.2<=819200000)/\(-819200000<=Q.2.2*R.1/\Q.2.2*R.1<=819200000))/\(-65536000000<=Q.1*R.2.1/\Q.1*R.2.1<=65536000000)/\(-65536000000<=Q.2.1*R.1/\Q.2.1*R.1<=65536000000)):=⟨⟨Jc 256000 3200 (by omega) (by omega) hQ.2.1 hR.2.2,Jc 3200 256000 (by omega) (by omega) hQ.2.2 hR.2.1⟩,⟨Jc 256000 3200 (by omega) (by omega) hQ.1 hR.2.2,Jc 3200 256000 (by omega) (by omega) hQ.2.2 hR.1⟩,Jc 256000 256000 (by omega) (by omega) hQ.1 hR.2.1,Jc 256000 256000 (by omega) (by omega) hQ.2.1 hR.1⟩
section
variable{l:List Ci}
theorem Aaz{N:Nat}(hN:1001<=N)(hl:l.length<=1000)(hP:∀P∈l,Pl P){i k:Nat}(hi:i<l.length)(hk:k<l.length):(BL N k l i N 0=some (.inl ())/\∀n,n<k->GX (ga l i) (ga l k) (ga l n)=0)\/(BL N k l i N 0=some (.inr true)/\∃n,n<k/\GX (ga l i) (ga l k) (ga l n)≠0):=by
 have step:∀m (n:Nat),n<k->BL N k l i (m+1) n=if GX (ga l i) (ga l k) (ga l n)≠0 then some (.inr true)else BL N k l i m ((n+1:Nat):Int):=λm n hn=>by
  have p1:=hP _ (IS hi);have b:=AeH (hP _ (IS hk)) (hP _ (IS (show n<l.length by omega)));rw[BL,aA (show(n:Int)<k by omega),cT,Qn hi,bS];simp only;rw[Qn hk,bS];simp only;rw[Qn (show n<l.length by omega),bS];simp only;generalize ga l i=P at*;generalize ga l k=Q at*;generalize ga l n=R at*;have m1:=Jc (a:=P.1) (b:=Q.2.1*R.2.2-Q.2.2*R.2.1) 256000 1638400000 (by omega) (by omega) p1.1 (by omega);have m2:=Jc (a:=P.2.1) (b:=Q.1*R.2.2-Q.2.2*R.1) 256000 1638400000 (by omega) (by omega) p1.2.1 (by omega);have m3:=Jc (a:=P.2.2) (b:=Q.1*R.2.1-Q.2.1*R.1) 3200 131072000000 (by omega) (by omega) p1.2.2 (by omega);rw[Ae (by unfold Af;omega),Ae (by unfold Af;omega),Ae (by unfold Af;omega),Ae (by unfold Af;omega),Ae (by unfold Af;omega),Ae (by unfold Af;omega),Ae (by unfold Af;omega),Ae (by unfold Af;omega),Ae (by unfold Af;omega),Ae (by unfold Af;omega),Ae (by unfold Af;omega),Ae (by unfold Af;omega),Ae (by unfold Af;omega),Ae (by unfold Af;omega)];have e:P.1*(Q.2.1*R.2.2-Q.2.2*R.2.1)-P.2.1*(Q.1*R.2.2-Q.2.2*R.1)+P.2.2*(Q.1*R.2.1-Q.2.1*R.1)=GX P Q R:=rfl;rw[e];by_cases h:GX P Q R≠0
  ·rw[aA h,cT,dX h]
  ·rw[aB h,cF,dW h,Ae (by unfold Af;omega),ns]
 have key:=GK (L:=BL N k l i) (len:=k) (λn=>if GX (ga l i) (ga l k) (ga l n)≠0 then some true else none)
  (λm n hn hf=>by
   rw[step m n hn,dW];intro h;rw[dX h]at hf;cases hf) (λm n r hn hf=>by
   by_cases h:GX (ga l i) (ga l k) (ga l n)≠0
   ·rw[dX h]at hf;rw[step m n hn,dX h,<-yJ hf]
   ·rw[dW h]at hf;cases hf) (λm=>by
   rw[BL,aB (by omega),cF]) N (by omega)
 rcases key with⟨e,h⟩|⟨j,r,a2,a3,a4,e⟩
 ·refine .inl ⟨e,λn hn=>?_⟩;have:=h n hn;by_cases q:GX (ga l i) (ga l k) (ga l n)≠0
  ·rw[dX q]at this;cases this
  ·omega
 ·by_cases q:GX (ga l i) (ga l k) (ga l j)≠0
  ·rw[dX q]at a3;rw[<-yJ a3]at e;exact .inr ⟨e,j,a2,q⟩
  ·rw[dW q]at a3;cases a3
theorem AaA{N:Nat}(hN:1001<=N)(hl:l.length<=1000)(hP:∀P∈l,Pl P){i:Nat}(hi:i<l.length):(Ce N i l N 0=some (.inl ())/\∀k,k<i->∀n,n<k->GX (ga l i) (ga l k) (ga l n)=0)\/(Ce N i l N 0=some (.inr true)/\∃k n,k<i/\n<k/\GX (ga l i) (ga l k) (ga l n)≠0):=by
 have:∀m (k:Nat),k<=i->i<m+k->(Ce N i l m k=some (.inl ())/\∀j,k<=j->j<i->∀n,n<j->GX (ga l i) (ga l j) (ga l n)=0)\/(Ce N i l m k=some (.inr true)/\∃j n,j<i/\n<j/\GX (ga l i) (ga l j) (ga l n)≠0):=by
  intro m;induction m with
  |zero=>intro k a b;omega
  |succ m ih=>
   intro k a b;rw[Ce];by_cases he:k=i
   ·subst he;exact .inl ⟨by rw[aB (by omega),cF],λj a b=>by omega⟩
   rw[aA (show(k:Int)<i by omega),cT];rcases Aaz hN hl hP hi (show k<l.length by omega)with⟨e,h⟩|⟨e,n,hn,h⟩
   ·rw[e,bS];simp only;rw[Ae (by unfold Af;omega),<-ns];rcases ih (k+1) (by omega) (by omega)with⟨e2,h2⟩|h2
    ·refine .inl ⟨e2,λj a b=>?_⟩;by_cases q:j=k
     ·rw[q];exact h
     ·exact h2 j (by omega) b
    ·exact .inr h2
   ·rw[e,bS];simp only;exact .inr ⟨yT,k,n,by omega,hn,h⟩
 rcases this N 0 (by omega) (by omega)with⟨e,h⟩|h
 ·exact .inl ⟨e,λk hk=>h k (by omega) hk⟩
 ·exact .inr h
theorem AaB{N:Nat}(hN:1001<=N)(hl:l.length<=1000)(hP:∀P∈l,Pl P):(Cg N l N 0=some (.inl ())/\∀i,i<l.length->∀k,k<i->∀n,n<k->GX (ga l i) (ga l k) (ga l n)=0)\/(Cg N l N 0=some (.inr true)/\∃i k n,i<l.length/\k<i/\n<k/\GX (ga l i) (ga l k) (ga l n)≠0):=by
 have:∀m (k:Nat),k<=l.length->l.length<m+k->(Cg N l m k=some (.inl ())/\∀i,k<=i->i<l.length->∀j,j<i->∀n,n<j->GX (ga l i) (ga l j) (ga l n)=0)\/(Cg N l m k=some (.inr true)/\∃i j n,i<l.length/\j<i/\n<j/\GX (ga l i) (ga l j) (ga l n)≠0):=by
  intro m;induction m with
  |zero=>intro k a b;omega
  |succ m ih=>
   intro k a b;rw[Cg];by_cases he:k=l.length
   ·subst he;exact .inl ⟨by rw[F2,cF],λj a b=>by omega⟩
   have hk:k<l.length:=by omega
   rw[Dq hk,cT];rcases AaA hN hl hP hk with⟨e,h⟩|⟨e,j,n,hj,hn,h⟩
   ·rw[e,bS];simp only;rw[Ae (by unfold Af;omega),<-ns];rcases ih (k+1) (by omega) (by omega)with⟨e2,h2⟩|h2
    ·refine .inl ⟨e2,λj a b=>?_⟩;by_cases q:j=k
     ·rw[q];exact h
     ·exact h2 j (by omega) b
    ·exact .inr h2
   ·rw[e,bS];simp only;exact .inr ⟨yT,k,j,n,hk,hj,hn,h⟩
 rcases this N 0 (by omega) (by omega)with⟨e,h⟩|h
 ·exact .inl ⟨e,λk hk=>h k (by omega) hk⟩
 ·exact .inr h
theorem WT(P Q R:Ci):GX Q P R= -GX P Q R:=by unfold GX;grind
theorem WU(P Q R:Ci):GX P R Q= -GX P Q R:=by unfold GX;grind
theorem kH{i k n:Nat}(hi:i<l.length)(hk:k<l.length)(hn:n<l.length)(h:GX (ga l i) (ga l k) (ga l n)≠0):∃x y z,x<l.length/\y<x/\z<y/\GX (ga l x) (ga l y) (ga l z)≠0:=by
 have s1:=WT (ga l i) (ga l k) (ga l n);have s2:=WU (ga l i) (ga l k) (ga l n);have s3:=WU (ga l k) (ga l i) (ga l n);have s4:=WT (ga l i) (ga l n) (ga l k);have s5:=WU (ga l n) (ga l i) (ga l k);have n1:i≠k:=λq=>by subst q;omega
 have n2:k≠n:=λq=>by subst q;omega
 have n3:i≠n:=λq=>by subst q;have:=WT (ga l i) (ga l k) (ga l i);omega
 by_cases a:k<i<;>by_cases b:n<k<;>by_cases c:n<i
 ·exact⟨i,k,n,hi,a,b,h⟩
 ·omega
 ·exact⟨i,n,k,hi,c,by omega,by omega⟩
 ·exact⟨n,i,k,hn,by omega,a,by omega⟩
 ·exact⟨k,i,n,hk,by omega,c,by omega⟩
 ·exact⟨k,n,i,hk,b,by omega,by omega⟩
 ·omega
 ·exact⟨n,k,i,hn,by omega,by omega,by omega⟩
end
open Classical in
theorem kJ{N:Nat}(hN:1001<=N){a b:List Pt}(ha:VP a)(hb:VP b):CM N a b=some (decide (¬apart a b)):=by
 have a8:=ha.l8;have b8:=hb.l8;unfold CM;rw[F7 (by omega),F7 (by omega),Li.2 ha,Li.2 hb,bS,Ae (λ_=>fL),kK,A1 _ (by rfl)];have e2:=oP N ha N 0 [] (by omega) (by omega) (by simp);have e4:=oQ N hb N 0 [] (by omega) (by omega) (by simp);rw[iW,kN,sG]at e2 e4;rw[e2,bS,e4,bS,Ae (by rw[JC,JC];omega)];have len:(Be a++Be b).length=a.length+b.length:=by rw[fN,JC,JC]
 have lnA:=Aax ha hb;obtain⟨r,er,hr,hm⟩:=eK (N:=N) hN (A:=Be a) (B:=Be b) rfl lnA (by omega) N 0 [] (by omega) (by omega) (by simp);rw[iW]at er;rw[er,bS];have mem:∀P,P∈r↔Cmn (Be a++Be b) P:=λP=>by
  rw[hm P];constructor
  ·rintro(q|⟨g,j,_,x,y,z⟩)
   ·simp at q
   ·exact⟨g,j,x,y,z⟩
  ·rintro⟨g,j,x,y,z⟩;exact .inr ⟨g,j,by omega,x,y,z⟩
 have pl:∀P∈r,Pl P:=λP hP=>by obtain⟨i,k,x,y,z,e,_⟩:=(mem P).1 hP;rw[e];exact oT (lnA _ (IS (by omega))) (lnA _ (IS y))
 rcases AaB hN (by omega) pl with⟨e,h⟩|⟨e,i,k,n,hi,hk,hn,h⟩
 ·rw[e,bS];simp only;rw[aB];intro hap;obtain⟨P,Q,R,hP,hQ,hR,hd⟩:=eD ha hb hap;obtain⟨i,hi,rfl⟩:=QY ((mem P).2 hP);obtain⟨k,hk,rfl⟩:=QY ((mem Q).2 hQ);obtain⟨n,hn,rfl⟩:=QY ((mem R).2 hR);obtain⟨x,y,z,h1,h2,h3,h4⟩:=kH hi hk hn hd;exact h4 (h x h1 y h2 z h3)
 ·rw[e,bS];simp only;rw[aA];intro hap;exact h (kG ha hb hap ((mem _).1 (IS hi)).inK ((mem _).1 (IS (show k<r.length by omega))).inK ((mem _).1 (IS (show n<r.length by omega))).inK)
theorem eL{N:Nat}(hN:1001<=N){a b:List Pt}(h:¬(VP a/\VP b)):Hs N a b=some (0,0,false):=by
 unfold Hs;by_cases ha:VP a
 ·have hb:¬VP b:=λq=>h ⟨ha,q⟩
  rw[IJ (by omega),IJ (by omega),Li.2 ha,KK.2 hb,bS,Ae (λ_=>fL),AU _ (by rfl)]
 ·rw[IJ (by omega),KK.2 ha,bS,Ae (λq=>by simp at q),AU _ (by rfl)]
open Classical in
theorem Uq{N:Nat}(hN:1001<=N)(a b:List Pt):∃r,EB N a b=some r/\CM N a b=some r:=by
 by_cases ha:VP a
 ·by_cases hb:VP b
  ·refine⟨_,SQ hN ha hb,?_⟩;rw[kJ hN ha hb];congr 1;rw[y8,bJ,tL,<-Bool.not_eq_true,QU]
  ·refine⟨false,?_,?_⟩
   ·unfold EB;rw[eL hN (λq=>hb q.2),bS];simp only;rw[IJ (by omega),IJ (by omega),Li.2 ha,KK.2 hb,bS,Ae (λ_=>fL)];rfl
   ·unfold CM;rw[F7 (by omega),F7 (by omega),Li.2 ha,KK.2 hb,bS,Ae (λ_=>fL),AU _ (by rfl)]
 ·refine⟨false,?_,?_⟩
  ·unfold EB;rw[eL hN (λq=>ha q.1),bS];simp only;rw[IJ (by omega),KK.2 ha,bS,Ae (λq=>by cases q)];rfl
  ·unfold CM;rw[F7 (by omega),KK.2 ha,bS,Ae (λq=>by simp at q),AU _ (by rfl)]
def lxl(p q:Pt):Prop:=p.1<q.1\/(p.1=q.1/\p.2<q.2)
def ZZ(a b:List Pt)(p:Pt):Prop:=sd a p=0/\sd b p=0
structure InvQ(a b:List Pt)(i k:Nat)(l:List Pt):Prop where
 len:l.length<=41*i+k
 pw:l.Pairwise lxl
 mem:∀p,p∈l↔∃x y:Nat,(x<i\/(x=i/\y<k))/\y<=40/\p=((x:Int),(y:Int))/\ZZ a b p
section
variable{a b:List Pt}
end
