import Derived.Test.YtjdchfljifacoaaGreatDoorMT
set_option linter.all false
set_option maxRecDepth 100000
set_option maxHeartbeats 8000000
namespace Go.Proofs.YtjdchfljifacoaaGreatDoor.Am
section
open Go
attribute [local irreducible] Aq BD Bv A8 Bq Ba AQ Bw By Ck
def HI(x:Int×Int×Int):List AV:=[.i x.1,.i x.2.1,.i x.2.2]
def iZ:List AV->Int×Int×Int|[.v (.int _ a1),.v (.int _ a2),.v (.int _ a3)]=>(a1,a2,a3)|_=>(0,0,0)
theorem Y6(R:List (Int×Int×Int))(i:Nat):DJ (R.map HI) [.i 0,.i 0,.i 0] i=HI (R.getD i (0,0,0)):=by unfold DJ;rw[s9,s9,A07];cases R[i]? <;>rfl
theorem mN(A B:List (Int×Int×Int))(i:Nat):DJ (A.map HI++B.map HI) [.i 0,.i 0,.i 0] i=HI ((A++B).getD i (0,0,0)):=by rw[<-A24];exact Y6 _ _
def Aak:Rw (Int×Int×Int):=⟨3,HI,iZ,[.i 0,.i 0,.i 0]⟩
def Aal(l:List (Int×Int×Int)):AV:=.sl 3 false (l.map HI) [.i 0,.i 0,.i 0]
def Et(l:List (Int×Int×Int)):AV:=.sl 3 true (l.map HI) [.i 0,.i 0,.i 0]
attribute [go_sem] Aak Aal Et HI iZ Y6 mN
def Dk(N:Nat)(a502:List (Int×Int)):Nat->Int->(List (Int×Int×Int))->Option ((List (Int×Int×Int)))|0,_,_=>none|n+1,ce,l523=>bif decide (ce<(a502.length:Int))then((Bz a502 ce).bind λ(bg,bf)=>(Cy N a502 ce).bind λ(bz,bw)=>gd (Ai (bf-bw))<|gd (Ai (bz-bg))<|gd (Ai (bw-bf))<|gd (Ai ((bw-bf)*bg))<|gd (Ai (bz-bg))<|gd (Ai ((bz-bg)*bf))<|gd (Ai (((bw-bf)*bg)-((bz-bg)*bf)))<|gd ((l523.length+1)*24<=140737488355328)<|gd (Ai (ce+1))<|Dk N a502 n (ce+1) (l523++[(bf-bw,bz-bg,((bw-bf)*bg)-((bz-bg)*bf))]))else(some l523)
def Dl(N:Nat)(b503:List (Int×Int)):Nat->Int->(List (Int×Int×Int))->Option ((List (Int×Int×Int)))|0,_,_=>none|n+1,b9,l553=>bif decide (b9<(b503.length:Int))then((Bz b503 b9).bind λ(be,bb)=>(Cy N b503 b9).bind λ(bv,bu)=>gd (Ai (bb-bu))<|gd (Ai (bv-be))<|gd (Ai (bu-bb))<|gd (Ai ((bu-bb)*be))<|gd (Ai (bv-be))<|gd (Ai ((bv-be)*bb))<|gd (Ai (((bu-bb)*be)-((bv-be)*bb)))<|gd ((l553.length+1)*24<=140737488355328)<|gd (Ai (b9+1))<|Dl N b503 n (b9+1) (l553++[(bb-bu,bv-be,((bu-bb)*be)-((bv-be)*bb))]))else(some l553)
def Df(N:Nat)(l534:List (Int×Int×Int))(l564:List (Int×Int×Int))(ay:Int)(aw:Int)(bh:Int):Nat->Bool->Int->Option Bool|0,_,_=>none|n+1,ae,n838=>bif decide (n838<((l534++l564).length:Int))then(gd (ae=true->(0<=n838/\n838<((l534++l564).length:Int)))<|gd (ae=true->(0<=n838/\n838<((l534++l564).length:Int)))<|gd (ae=true->(Ai ((((l534++l564).getD n838.toNat (0,0,0)).1)*ay)))<|gd (ae=true->(0<=n838/\n838<((l534++l564).length:Int)))<|gd (ae=true->(0<=n838/\n838<((l534++l564).length:Int)))<|gd (ae=true->(Ai ((((l534++l564).getD n838.toNat (0,0,0)).2.1)*aw)))<|gd (ae=true->(Ai (((((l534++l564).getD n838.toNat (0,0,0)).1)*ay)+((((l534++l564).getD n838.toNat (0,0,0)).2.1)*aw))))<|gd (ae=true->(0<=n838/\n838<((l534++l564).length:Int)))<|gd (ae=true->(0<=n838/\n838<((l534++l564).length:Int)))<|gd (ae=true->(Ai ((((l534++l564).getD n838.toNat (0,0,0)).2.2)*bh)))<|gd (ae=true->(Ai ((((((l534++l564).getD n838.toNat (0,0,0)).1)*ay)+((((l534++l564).getD n838.toNat (0,0,0)).2.1)*aw))+((((l534++l564).getD n838.toNat (0,0,0)).2.2)*bh))))<|gd (Ai (n838+1))<|Df N l534 l564 ay aw bh n (ae&&(decide (0<=(((((l534++l564).getD n838.toNat (0,0,0)).1)*ay)+((((l534++l564).getD n838.toNat (0,0,0)).2.1)*aw))+((((l534++l564).getD n838.toNat (0,0,0)).2.2)*bh)))) (n838+1))else(some ae)
def Cc(N:Nat)(l534:List (Int×Int×Int))(l564:List (Int×Int×Int))(af:Int):Nat->Int->(List (Int×Int×Int))->Option ((List (Int×Int×Int)))|0,_,_=>none|n+1,av,l803=>bif decide (av<((l534++l564).length:Int))then((Bz (l534++l564) af).bind λ(am,ak,au)=>(Bz (l534++l564) av).bind λ(x808,aj,aq)=>gd (Ai (ak*aq))<|gd (Ai (aj*au))<|gd (Ai ((ak*aq)-(aj*au)))<|gd (Ai (au*x808))<|gd (Ai (aq*am))<|gd (Ai ((au*x808)-(aq*am)))<|gd (Ai (am*aj))<|gd (Ai (x808*ak))<|gd (Ai ((am*aj)-(x808*ak)))<|bif decide ((am*aj)-(x808*ak)=0)then(gd (Ai (av+1))<|Cc N l534 l564 af n (av+1) l803)else((bif decide ((am*aj)-(x808*ak)<0)then(gd (Ai (-((ak*aq)-(aj*au))))<|gd (Ai (-((au*x808)-(aq*am))))<|gd (Ai (-((am*aj)-(x808*ak))))<|some (-((ak*aq)-(aj*au)),-((au*x808)-(aq*am)),-((am*aj)-(x808*ak))))else(some ((ak*aq)-(aj*au),(au*x808)-(aq*am),(am*aj)-(x808*ak))):Option (Int×Int×Int)).bind λ(ay,aw,bh)=>(Df N l534 l564 ay aw bh N true 0).bind λcy=>bif cy then(gd ((l803.length+1)*24<=140737488355328)<|gd (Ai (av+1))<|Cc N l534 l564 af n (av+1) (l803++[(ay,aw,bh)]))else(gd (Ai (av+1))<|Cc N l534 l564 af n (av+1) l803)))else(some l803)
def Dg(N:Nat)(l534:List (Int×Int×Int))(l564:List (Int×Int×Int)):Nat->Int->(List (Int×Int×Int))->Option ((List (Int×Int×Int)))|0,_,_=>none|n+1,af,cq=>bif decide (af<((l534++l564).length:Int))then(gd (Ai (af+1))<|(Cc N l534 l564 af N (af+1) cq).bind λdh=>gd (Ai (af+1))<|Dg N l534 l564 n (af+1) dh)else(some cq)
def Br(N:Nat)(bi:Int)(l855:List (Int×Int×Int))(ai:Int):Nat->Int->Option (Sum Unit Bool)|0,_=>none|n+1,cj=>bif decide (cj<bi)then((Bz l855 ai).bind λ(co,cn,cu)=>(Bz l855 bi).bind λ(bn,bm,ba)=>(Bz l855 cj).bind λ(bl,bj,az)=>gd (Ai (bm*az))<|gd (Ai (ba*bj))<|gd (Ai ((bm*az)-(ba*bj)))<|gd (Ai (co*((bm*az)-(ba*bj))))<|gd (Ai (bn*az))<|gd (Ai (ba*bl))<|gd (Ai ((bn*az)-(ba*bl)))<|gd (Ai (cn*((bn*az)-(ba*bl))))<|gd (Ai ((co*((bm*az)-(ba*bj)))-(cn*((bn*az)-(ba*bl)))))<|gd (Ai (bn*bj))<|gd (Ai (bm*bl))<|gd (Ai ((bn*bj)-(bm*bl)))<|gd (Ai (cu*((bn*bj)-(bm*bl))))<|gd (Ai (((co*((bm*az)-(ba*bj)))-(cn*((bn*az)-(ba*bl))))+(cu*((bn*bj)-(bm*bl)))))<|bif decide (((co*((bm*az)-(ba*bj)))-(cn*((bn*az)-(ba*bl))))+(cu*((bn*bj)-(bm*bl)))≠0)then(some (.inr true))else(gd (Ai (cj+1))<|Br N bi l855 ai n (cj+1)))else(some (.inl ()))
def BR(N:Nat)(ai:Int)(l855:List (Int×Int×Int)):Nat->Int->Option (Sum Unit Bool)|0,_=>none|n+1,bi=>bif decide (bi<ai)then((Br N bi l855 ai N 0).bind λdg=>match dg with|.inl ()=>(gd (Ai (bi+1))<|BR N ai l855 n (bi+1))|.inr ez=>(some (.inr ez)))else(some (.inl ()))
def BS(N:Nat)(l855:List (Int×Int×Int)):Nat->Int->Option (Sum Unit Bool)|0,_=>none|n+1,ai=>bif decide (ai<(l855.length:Int))then((BR N ai l855 N 0).bind λde=>match de with|.inl ()=>(gd (Ai (ai+1))<|BS N l855 n (ai+1))|.inr eu=>(some (.inr eu)))else(some (.inl ()))
def Cp(N:Nat)(a502:List (Int×Int))(b503:List (Int×Int)):Option Bool:=(CJ N a502).bind λda=>gd ((!(!da))=true->((CJ N b503).isSome=true))<|bif (!da)||(!((CJ N b503).getD false))then(some false)else((Dk N a502 N 0 []).bind λl534=>(Dl N b503 N 0 []).bind λl564=>gd ((l534.length+l564.length)*24<=140737488355328)<|(Dg N l534 l564 N 0 []).bind λl855=>(BS N l855 N 0).bind λdb=>match db with|.inl ()=>(some false)|.inr ep=>(some ep))
@[go_sem] def Uf(N:Nat):Spec:=p0<|(qS Aj<|qS Aj<|qE<|qF false .b) (Cp N)
theorem uN(N:Nat):Au Tryz.prog 164 (Uf N):=by
 refine fk (wX P7 (Aa (Y5 N)<|Aa (Y4 N)<|Ae)) ?_;intro a502 b503 r h _ hS F;dsimp only[P7,Ad,Aj];unfold Cp at h;obtain⟨da,dq,lg,h⟩:=un h;replace F:=fc dq F;refine An hS F h (λ_ h=>?_) (λ_ h=>?_)
 ·exact Ah hS F h
 ·refine go hS F ?_;refine R8 hS 1 3 (by decide) x185.hf x185.hc x185.hn x185.ok x185.hf x185.hc x185.hn x185.ok rfl rfl (ev F) (ev F) (ev F) ?_ rfl (ev F) (A01 rfl) λhb=>?_
  ·exact AS hS F
  dsimp only[x185,Ad];refine go hS F ?_;refine HG 1000001 3 3 [.i 0,.i 0,.i 0] (by show(3:Nat)<52;omega) (by omega) (ev F) ?_;obtain⟨fm,kl,h⟩:=un h;refine go hS F ?_;refine BU fm (λz:(List (Int×Int×Int))×Nat=>⟨[(3,.own (1000001,7) z.1.length)],[(.a (1000001,7),Et z.1)],z.2⟩) (λz=>(z.1:(List (Int×Int×Int)))) (.x 0) ?_ ?_
  ·refine BO (λn (y:Int×(List (Int×Int×Int))×Nat)=>Dk N a502 n y.1 y.2.1) (λy=>⟨[(0,BK a502),(3,.own (1000001,7) y.2.1.length),(4,.i y.1)],[(.a (1000001,7),Et y.2.1)],y.2.2⟩) (0,[],7) kl (CB F) ?_;rintro n ⟨ce,l523,el⟩ ck;simp only[Dk]at ck;refine An hS F ck (λ_ ck=>?_) (λ_ ck=>?_)
   ·obtain⟨⟨bg,bf⟩,d5,ck⟩:=un ck;obtain⟨gy,F⟩:=CH Ce d5 F;obtain⟨⟨bz,bw⟩,dm,ck⟩:=un ck;obtain⟨lf,kz,kw,kv,kr,kq,kj,ki,kh,ck⟩:=un ck;exact CS hS (fc dm F) (n,ce+1,l523++[(bf-bw,bz-bg,((bw-bf)*bg)-((bz-bg)*bf))],el+1+1+1+1+1) ck
   ·exact Cu hS F (l523,el+1) ck
  ·rintro⟨l534,cr⟩ rfl;refine go hS F ?_
   first|refine To (ev F) (ev F) ?_ ?_ rfl (ev F) (by simp) λhb=>?_|refine Tn (ev F) (ev F) ?_ ?_ rfl (ev F) (by simp) λhb=>?_
   ·exact AS hS F
   ·exact AS hS F
   try dsimp only[x185,Ad]
   refine go hS F ?_;refine HG 1000002 3 3 [.i 0,.i 0,.i 0] (by show(3:Nat)<52;omega) (by omega) (ev F) ?_;obtain⟨fj,gc,h⟩:=un h;refine go hS F ?_;refine BU fj (λz:(List (Int×Int×Int))×Nat=>⟨[(3,.own (1000002,cr+1+1+1+1+1+1) z.1.length)],[(.a (1000001,7),Et l534),(.a (1000002,cr+1+1+1+1+1+1),Et z.1)],z.2⟩) (λz=>(z.1:(List (Int×Int×Int)))) (.x 0) ?_ ?_
   ·refine BO (λn (y:Int×(List (Int×Int×Int))×Nat)=>Dl N b503 n y.1 y.2.1) (λy=>⟨[(0,BK b503),(3,.own (1000002,cr+1+1+1+1+1+1) y.2.1.length),(4,.i y.1)],[(.a (1000001,7),Et l534),(.a (1000002,cr+1+1+1+1+1+1),Et y.2.1)],y.2.2⟩) (0,[],cr+1+1+1+1+1+1) gc (CB F) ?_;rintro n ⟨b9,l553,ej⟩ bp;simp only[Dl]at bp;refine An hS F bp (λ_ bp=>?_) (λ_ bp=>?_)
    ·obtain⟨⟨be,bb⟩,dz,bp⟩:=un bp;obtain⟨gx,F⟩:=CH Ce dz F;obtain⟨⟨bv,bu⟩,dl,bp⟩:=un bp;obtain⟨kg,kf,ke,ka,j9,j8,j7,j6,j5,bp⟩:=un bp;exact CS hS (fc dl F) (n,b9+1,l553++[(bb-bu,bv-be,((bu-bb)*be)-((bv-be)*bb))],ej+1+1+1+1+1) bp
    ·exact Cu hS F (l553,ej+1) bp
   ·rintro⟨l564,ab⟩ rfl;obtain⟨j4,h⟩:=un h;refine go hS F ?_;refine HG 1000004 6 3 [.i 0,.i 0,.i 0] (by show(6:Nat)<245;omega) (by omega) (ev F) ?_;obtain⟨e8,fy,h⟩:=un h;refine go hS F ?_;refine BU e8 (λz:(List (Int×Int×Int))×Nat=>⟨[(6,.own (1000004,ab+1+1+1+1+1) z.1.length)],[(.a (1000004,ab+1+1+1+1+1),Et z.1)],z.2⟩) (λz=>(z.1:(List (Int×Int×Int)))) (.x 0) ?_ ?_
    ·refine BO (λn (y:Int×(List (Int×Int×Int))×Nat)=>Dg N l534 l564 n y.1 y.2.1) (λy=>⟨[(5,.own (1000001,7) (l534++l564).length),(6,.own (1000004,ab+1+1+1+1+1) y.2.1.length),(7,.i y.1)],[(.a (1000004,ab+1+1+1+1+1),Et y.2.1),(.a (1000001,7),Et (l534++l564))],y.2.2⟩) (0,[],ab+1+1+1+1+1) fy (CB F) ?_;rintro n ⟨af,cq,eh⟩ bo;simp only[Dg]at bo;refine An hS F bo (λ_ bo=>?_) (λ_ bo=>?_)
     ·obtain⟨jz,bo⟩:=un bo;obtain⟨e9,fx,bo⟩:=un bo;refine go hS F ?_;refine BU e9 (λz:(List (Int×Int×Int))×Nat=>⟨[(5,.own (1000001,7) (l534++l564).length),(6,.own (1000004,ab+1+1+1+1+1) z.1.length),(7,.i af)],[(.a (1000004,ab+1+1+1+1+1),Et z.1),(.a (1000001,7),Et (l534++l564))],z.2⟩) (λz=>(z.1:(List (Int×Int×Int)))) (.x 2) ?_ ?_
      ·refine BO (λn (y:Int×(List (Int×Int×Int))×Nat)=>Cc N l534 l564 af n y.1 y.2.1) (λy=>⟨[(5,.own (1000001,7) (l534++l564).length),(6,.own (1000004,ab+1+1+1+1+1) y.2.1.length),(7,.i af),(8,.i y.1)],[(.a (1000004,ab+1+1+1+1+1),Et y.2.1),(.a (1000001,7),Et (l534++l564))],y.2.2⟩) (af+1,cq,eh+1+1) fx (CB F) ?_;rintro n ⟨av,l803,an⟩ aa;simp only[Cc]at aa;refine An hS F aa (λ_ aa=>?_) (λ_ aa=>?_)
       ·obtain⟨⟨am,ak,au⟩,dy,aa⟩:=un aa;obtain⟨gw,F⟩:=CH HI dy F;obtain⟨⟨x808,aj,aq⟩,dx,aa⟩:=un aa;obtain⟨gu,F⟩:=CH HI dx F;obtain⟨jy,jx,jw,jv,ju,jt,js,jr,jq,aa⟩:=un aa;refine An hS F aa (λ_ aa=>?_) (λ_ aa=>?_)
        ·obtain⟨jp,aa⟩:=un aa;exact CS hS F (n,av+1,l803,an+1+1+1+1) aa
        ·obtain⟨fh,ci,aa⟩:=un aa;refine go hS F ?_;refine BU fh (λz:Int×Int×Int×Nat=>⟨[(5,.own (1000001,7) (l534++l564).length),(6,.own (1000004,ab+1+1+1+1+1) l803.length),(7,.i af),(8,.i av),(9,.box (1170,an+1+1) 0)],[(.c (1170,an+1+1) 0,.i z.1),(.c (1170,an+1+1) 1,.i z.2.1),(.c (1170,an+1+1) 2,.i z.2.2.1),(.a (1000004,ab+1+1+1+1+1),Et l803),(.a (1000001,7),Et (l534++l564))],z.2.2.2⟩) (λz=>((z.1,z.2.1,z.2.2.1):Int×Int×Int)) .n ?_ ?_
         ·refine An hS F ci (λ_ ci=>?_) (λ_ ci=>?_)
          ·obtain⟨jo,jn,jm,ci⟩:=un ci;exact Cu hS F (-((ak*aq)-(aj*au)),-((au*x808)-(aq*am)),-((am*aj)-(x808*ak)),an+1+1+1+1+1) ci
          ·exact Cu hS F ((ak*aq)-(aj*au),(au*x808)-(aq*am),(am*aj)-(x808*ak),an+1+1+1+1) ci
         ·rintro⟨ay,aw,bh,gj⟩ rfl;obtain⟨fg,fr,aa⟩:=un aa;refine go hS F ?_;refine BU fg (λz:Bool×Nat=>⟨[(5,.own (1000001,7) (l534++l564).length),(6,.own (1000004,ab+1+1+1+1+1) l803.length),(7,.i af),(8,.i av),(9,.box (1170,an+1+1) 0),(10,.b z.1)],[(.c (1170,an+1+1) 0,.i ay),(.c (1170,an+1+1) 1,.i aw),(.c (1170,an+1+1) 2,.i bh),(.a (1000004,ab+1+1+1+1+1),Et l803),(.a (1000001,7),Et (l534++l564))],z.2⟩) (λz=>(z.1:Bool)) (.x 4) ?_ ?_
          ·refine BO (λn (y:Bool×Int×Nat)=>Df N l534 l564 ay aw bh n y.1 y.2.1) (λy=>⟨[(5,.own (1000001,7) (l534++l564).length),(6,.own (1000004,ab+1+1+1+1+1) l803.length),(7,.i af),(8,.i av),(9,.box (1170,an+1+1) 0),(10,.b y.1),(11,.i y.2.1)],[(.c (1170,an+1+1) 0,.i ay),(.c (1170,an+1+1) 1,.i aw),(.c (1170,an+1+1) 2,.i bh),(.a (1000004,ab+1+1+1+1+1),Et l803),(.a (1000001,7),Et (l534++l564))],y.2.2⟩) (true,0,gj+1+1) fr (CB F) ?_;rintro n ⟨ae,n838,ee⟩ b7;simp only[Df]at b7;refine An hS F b7 (λ_ b7=>?_) (λ_ b7=>?_)
           ·obtain⟨jl,jk,jj,ji,jh,jg,jf,je,jd,jc,jb,ja,b7⟩:=un b7;exact CS hS F (n,ae&&(decide (0<=(((((l534++l564).getD n838.toNat (0,0,0)).1)*ay)+((((l534++l564).getD n838.toNat (0,0,0)).2.1)*aw))+((((l534++l564).getD n838.toNat (0,0,0)).2.2)*bh))),n838+1,ee+1+1+1) b7
           ·exact Cu hS F (ae,ee+1) b7
          ·rintro⟨cy,d9⟩ rfl;refine An hS F aa (λ_ aa=>?_) (λ_ aa=>?_)
           ·obtain⟨i9,i8,aa⟩:=un aa;exact CS hS F (n,av+1,l803++[(ay,aw,bh)],d9+1+1+1) aa
           ·obtain⟨i7,aa⟩:=un aa;exact CS hS F (n,av+1,l803,d9+1+1) aa
       ·exact Cu hS F (l803,an+1) aa
      ·rintro⟨dh,gi⟩ rfl;obtain⟨i6,bo⟩:=un bo;exact CS hS F (n,af+1,dh,gi+1) bo
     ·exact Cu hS F (cq,eh+1) bo
    ·rintro⟨l855,gh⟩ rfl;obtain⟨db,fq,h⟩:=un h;refine go hS F ?_;refine BU db (λz:Nat=>⟨[],[],z⟩) (λz=>(.inl ():Sum Unit Bool)) (.x 6) ?_ ?_
     ·refine BO (λn (y:Int×Nat)=>BS N l855 n y.1) (λy=>⟨[(6,.own (1000004,ab+1+1+1+1+1) l855.length),(12,.i y.1)],[(.a (1000004,ab+1+1+1+1+1),Et l855)],y.2⟩) (0,gh+1) fq (CB F) ?_;rintro n ⟨ai,d8⟩ br;simp only[BS]at br;refine An hS F br (λ_ br=>?_) (λ_ br=>?_)
      ·obtain⟨de,fp,br⟩:=un br;refine go hS F ?_;refine BU de (λz:Nat=>⟨[(6,.own (1000004,ab+1+1+1+1+1) l855.length),(12,.i ai)],[(.a (1000004,ab+1+1+1+1+1),Et l855)],z⟩) (λz=>(.inl ():Sum Unit Bool)) (.x 8) ?_ ?_
       ·refine BO (λn (y:Int×Nat)=>BR N ai l855 n y.1) (λy=>⟨[(6,.own (1000004,ab+1+1+1+1+1) l855.length),(12,.i ai),(13,.i y.1)],[(.a (1000004,ab+1+1+1+1+1),Et l855)],y.2⟩) (0,d8+1+1) fp (CB F) ?_;rintro n ⟨bi,d7⟩ bq;simp only[BR]at bq;refine An hS F bq (λ_ bq=>?_) (λ_ bq=>?_)
        ·obtain⟨dg,fo,bq⟩:=un bq;refine go hS F ?_;refine BU dg (λz:Nat=>⟨[(6,.own (1000004,ab+1+1+1+1+1) l855.length),(12,.i ai),(13,.i bi)],[(.a (1000004,ab+1+1+1+1+1),Et l855)],z⟩) (λz=>(.inl ():Sum Unit Bool)) (.x 10) ?_ ?_
         ·refine BO (λn (y:Int×Nat)=>Br N bi l855 ai n y.1) (λy=>⟨[(6,.own (1000004,ab+1+1+1+1+1) l855.length),(12,.i ai),(13,.i bi),(14,.i y.1)],[(.a (1000004,ab+1+1+1+1+1),Et l855)],y.2⟩) (0,d7+1+1) fo (CB F) ?_;rintro n ⟨cj,d6⟩ ah;simp only[Br]at ah;refine An hS F ah (λ_ ah=>?_) (λ_ ah=>?_)
          ·obtain⟨⟨co,cn,cu⟩,dw,ah⟩:=un ah;obtain⟨gt,F⟩:=CH HI dw F;obtain⟨⟨bn,bm,ba⟩,du,ah⟩:=un ah;obtain⟨gr,F⟩:=CH HI du F;obtain⟨⟨bl,bj,az⟩,dt,ah⟩:=un ah;obtain⟨gm,F⟩:=CH HI dt F;obtain⟨i5,i4,iz,iy,iw,iv,iq,ip,im,ij,ii,ig,ic,ib,ah⟩:=un ah;refine An hS F ah (λ_ ah=>?_) (λ_ ah=>?_)
           ·obtain rfl:=yJ ah;obtain rfl:=yJ bq;obtain rfl:=yJ br;exact Ah hS F h
           ·obtain⟨g9,ah⟩:=un ah;exact CS hS F (n,cj+1,d6+1+1+1+1+1+1) ah
          ·exact Cu hS F (d6+1) ah
         ·rintro gg rfl;obtain⟨g8,bq⟩:=un bq;exact CS hS F (n,bi+1,gg+1) bq
        ·exact Cu hS F (d7+1) bq
       ·rintro ge rfl;obtain⟨gz,br⟩:=un br;exact CS hS F (n,ai+1,ge+1) br
      ·exact Cu hS F (d8+1) br
     ·rintro km rfl;exact Ah hS F h
end
section
theorem H3(l:List Pt):(A3 l).length=l.length:=by unfold A3;simp
theorem Rf{l:List Pt}{i:Nat}(h:i<l.length):(A3 l).drop i=DE l i::(A3 l).drop (i+1):=by rw[z7 (by rw[H3];exact h)];unfold A3;simp
theorem XP{p q:Pt}(hp:On p)(hq:On q):(-40<=(Hq p q).1/\(Hq p q).1<=40)/\(-40<=(Hq p q).2.1/\(Hq p q).2.1<=40)/\(-1600<=(q.2-p.2)*p.1/\(q.2-p.2)*p.1<=1600)/\(-1600<=(q.1-p.1)*p.2/\(q.1-p.1)*p.2<=1600):=by
 unfold On at hp hq;have m:∀u v,-40<=u->u<=40->0<=v->v<=40->-1600<=u*v/\u*v<=1600:=λu v a b c d=>by have k1:=z8 (show 0<=u+40 by omega) c;have k2:=z8 (show 0<=40-u by omega) c;rw[Int.add_mul]at k1;rw[Int.sub_mul]at k2;omega
 have m1:=m (q.2-p.2) p.1 (by omega) (by omega) (by omega) (by omega);have m2:=m (q.1-p.1) p.2 (by omega) (by omega) (by omega) (by omega);unfold Hq;simp;omega
theorem jP(N:Nat){l:List Pt}(h:VP l):∀(n i:Nat)(out:List B5),i<=l.length->l.length<n+i->out.length<=100+i->Dk N l n i out=some (out++(A3 l).drop i)
 |0,i,out,h1,h2,_=>by omega
 |n+1,i,out,h1,h2,ho=>by
  have l8:=h.l8;rw[Dk];by_cases he:i=l.length
  ·subst he;rw[K3,cF,List.drop_of_length_le (by rw[H3];omega),A05]
  have hi:i<l.length:=by omega
  have hm:(i+1)%l.length<l.length:=A17 _ (by omega);have op:=h.on _ (B4 hi);have oq:=h.on _ (B4 hm);have k:=XP op oq;have oq':=oq;have op':=op;unfold On at op' oq';rw[Fe hi,cT,GB hi,bS];simp;rw[RI N (by omega) hi,show pa l ((i+1)%l.length)=((pa l ((i+1)%l.length)).1,(pa l ((i+1)%l.length)).2)from rfl,bS];simp;rw[Ab (by omega),Ab (by omega),Ab (by omega),Ab (by omega),Ab (by omega),Ab (by omega),Ab (by omega),Ab (by omega),Ab (by omega),<-ns];rw[jP N h n (i+1) _ (by omega) (by omega) (by simp;omega),Rf hi,A06];rfl
theorem jQ(N:Nat){l:List Pt}(h:VP l):∀(n i:Nat)(out:List B5),i<=l.length->l.length<n+i->out.length<=100+i->Dl N l n i out=some (out++(A3 l).drop i)
 |0,i,out,h1,h2,_=>by omega
 |n+1,i,out,h1,h2,ho=>by
  have l8:=h.l8;rw[Dl];by_cases he:i=l.length
  ·subst he;rw[K3,cF,List.drop_of_length_le (by rw[H3];omega),A05]
  have hi:i<l.length:=by omega
  have hm:(i+1)%l.length<l.length:=A17 _ (by omega);have op:=h.on _ (B4 hi);have oq:=h.on _ (B4 hm);have k:=XP op oq;have oq':=oq;have op':=op;unfold On at op' oq';rw[Fe hi,cT,GB hi,bS];simp;rw[RI N (by omega) hi,show pa l ((i+1)%l.length)=((pa l ((i+1)%l.length)).1,(pa l ((i+1)%l.length)).2)from rfl,bS];simp;rw[Ab (by omega),Ab (by omega),Ab (by omega),Ab (by omega),Ab (by omega),Ab (by omega),Ab (by omega),Ab (by omega),Ab (by omega),<-ns];rw[jQ N h n (i+1) _ (by omega) (by omega) (by simp;omega),Rf hi,A06];rfl
def Ln(L:B5):Prop:=(-40<=L.1/\L.1<=40)/\(-40<=L.2.1/\L.2.1<=40)/\(-3200<=L.2.2/\L.2.2<=3200)
def Pl(P:B5):Prop:=(-256000<=P.1/\P.1<=256000)/\(-256000<=P.2.1/\P.2.1<=256000)/\(-3200<=P.2.2/\P.2.2<=3200)
theorem HH{a b:Int}(p q:Int)(hp:0<=p)(hq:0<=q)(h1: -p<=a/\a<=p)(h2: -q<=b/\b<=q): -(p*q)<=a*b/\a*b<=p*q:=by have k1:=z8 (show 0<=p-a by omega) (show 0<=q+b by omega);have k2:=z8 (show 0<=p+a by omega) (show 0<=q-b by omega);have k3:=z8 (show 0<=p-a by omega) (show 0<=q-b by omega);have k4:=z8 (show 0<=p+a by omega) (show 0<=q+b by omega);constructor<;>grind
theorem AaZ{l:List Pt}(h:VP l){i:Nat}(hi:i<l.length):Ln (DE l i):=by have k:=XP (h.on _ (B4 hi)) (h.on _ (B4 (A17 (i+1) (show 0<l.length by omega))));grind[Ln,DE,Hq]
theorem wP{a b:List Pt}(ha:VP a)(hb:VP b):∀L∈A3 a++A3 b,Ln L:=by grind[G7,AaZ]
theorem AcP{L P:B5}(hL:Ln L)(hP:Pl P):(-10240000<=L.1*P.1/\L.1*P.1<=10240000)/\(-10240000<=L.2.1*P.2.1/\L.2.1*P.2.1<=10240000)/\(-10240000<=L.2.2*P.2.2/\L.2.2*P.2.2<=10240000):=⟨HH 40 256000 (by omega) (by omega) hL.1 hP.1,HH 40 256000 (by omega) (by omega) hL.2.1 hP.2.1,HH 3200 3200 (by omega) (by omega) hL.2.2 hP.2.2⟩
section
variable{A B Ls:List B5}
open Classical in
theorem ZR(N:Nat)(hLs:A++B=Ls)(hA:∀L∈Ls,Ln L)(hl:Ls.length<=1000){P:B5}(hP:Pl P):∀(n i:Nat)(c:Bool),i<=Ls.length->Ls.length<n+i->Df N A B P.1 P.2.1 P.2.2 n c i=some (c&&decide (∀k,i<=k->k<Ls.length->0<=Bo (ga Ls k) P))
 |0,i,c,h1,h2=>by omega
 |n+1,i,c,h1,h2=>by
  rw[Df,hLs];by_cases he:i=Ls.length
  ·subst he;rw[K3,cF,q9 (by omega),A53]
  have hi:i<Ls.length:=by omega
  have e:=AcP (hA _ (H2 hi)) hP;have eg:Ls.getD (i:Int).toNat (0,0,0)=ga Ls i:=by rfl
  rw[Fe hi,cT,eg];rw[Ab (by omega),Ab (by omega),Ab (by omega),Ab (by omega),Ab (by omega),Ab (by omega),Ab (by omega),Ab (by omega),Ab (by omega),Ab (by omega),Ab (by omega),Ab (by omega),<-ns];rw[ZR N hLs hA hl hP n (i+1) _ (by omega) (by omega),Bool.and_assoc];congr 2;rw[A49,y8,s7,s7,s7];constructor
  ·rintro⟨h1,h2⟩ k a b;by_cases q:k=i
   ·rw[q];exact h1
   ·exact h2 k (by omega) b
  ·intro h;exact⟨h i (by omega) hi,by grind⟩
def jR(Ls:List B5)(i k:Nat)(P:B5):Prop:=(Js (ga Ls i) (ga Ls k)).2.2≠0/\P=Jt (Js (ga Ls i) (ga Ls k))/\∀L∈Ls,0<=Bo L P
theorem wQ{L M:B5}(hL:Ln L)(hM:Ln M):((-128000<=L.2.1*M.2.2/\L.2.1*M.2.2<=128000)/\(-128000<=M.2.1*L.2.2/\M.2.1*L.2.2<=128000))/\((-128000<=L.2.2*M.1/\L.2.2*M.1<=128000)/\(-128000<=M.2.2*L.1/\M.2.2*L.1<=128000))/\(-1600<=L.1*M.2.1/\L.1*M.2.1<=1600)/\(-1600<=M.1*L.2.1/\M.1*L.2.1<=1600):=⟨⟨HH 40 3200 (by omega) (by omega) hL.2.1 hM.2.2,HH 40 3200 (by omega) (by omega) hM.2.1 hL.2.2⟩,⟨HH 3200 40 (by omega) (by omega) hL.2.2 hM.1,HH 3200 40 (by omega) (by omega) hM.2.2 hL.1⟩,HH 40 40 (by omega) (by omega) hL.1 hM.2.1,HH 40 40 (by omega) (by omega) hM.1 hL.2.1⟩
theorem jS{L M:B5}(hL:Ln L)(hM:Ln M):Pl (Jt (Js L M)):=by have b:=wQ hL hM;unfold Pl Jt SE Js;split<;>simp<;>omega
theorem OI{i:Nat}(h:i<Ls.length):Bz Ls (i:Int)=some ((ga Ls i).1,(ga Ls i).2.1,(ga Ls i).2.2):=by rw[MJ (0,0,0) (by omega) (by omega),A19];rfl
open Classical in
theorem Rg{N:Nat}(hN:1001<=N)(hLs:A++B=Ls)(hA:∀L∈Ls,Ln L)(hl:Ls.length<=1000){i:Nat}(hi:i<Ls.length):∀(n k:Nat)(out:List B5),k<=Ls.length->Ls.length<n+k->out.length<=1000000+k->∃r,Cc N A B i n k out=some r/\r.length<=out.length+(Ls.length-k)/\∀P,P∈r↔P∈out\/∃j,k<=j/\j<Ls.length/\jR Ls i j P
 |0,k,out,h1,h2,_=>by omega
 |n+1,k,out,h1,h2,ho=>by
  rw[Cc,hLs];by_cases he:k=Ls.length
  ·grind
  have hk:k<Ls.length:=by omega
  have lL:=hA _ (H2 hi);have lM:=hA _ (H2 hk);have b:=wQ lL lM;have w_:(Js (ga Ls i) (ga Ls k)).2.2=(ga Ls i).1*(ga Ls k).2.1-(ga Ls k).1*(ga Ls i).2.1:=rfl;rw[Fe hk,cT,OI hi,bS];simp only;rw[OI hk,bS];simp only;rw[Ab (by omega),Ab (by omega),Ab (by omega),Ab (by omega),Ab (by omega),Ab (by omega),Ab (by omega),Ab (by omega),Ab (by omega)];by_cases hw:(ga Ls i).1*(ga Ls k).2.1-(ga Ls k).1*(ga Ls i).2.1=0
  ·rw[q9 hw,cT,Ab (by omega),<-ns];obtain⟨r,er,hr,h⟩:=Rg hN hLs hA hl hi n (k+1) out (by omega) (by omega) (by omega);refine⟨r,er,by omega,λP=>?_⟩;rw[h P];constructor
   ·grind
   ·rintro(q|⟨j,a,b,c⟩)
    ·exact .inl q
    ·by_cases q:j=k
     ·subst q;exact absurd (w_.trans hw) c.1
     grind
  have eP:(bif decide ((ga Ls i).1*(ga Ls k).2.1-(ga Ls k).1*(ga Ls i).2.1<0)then(
      gd (Ai (-((ga Ls i).2.1*(ga Ls k).2.2-(ga Ls k).2.1*(ga Ls i).2.2)))<|gd (Ai (-((ga Ls i).2.2*(ga Ls k).1-(ga Ls k).2.2*(ga Ls i).1)))<|gd (Ai (-((ga Ls i).1*(ga Ls k).2.1-(ga Ls k).1*(ga Ls i).2.1)))<|some (-((ga Ls i).2.1*(ga Ls k).2.2-(ga Ls k).2.1*(ga Ls i).2.2),-((ga Ls i).2.2*(ga Ls k).1-(ga Ls k).2.2*(ga Ls i).1),-((ga Ls i).1*(ga Ls k).2.1-(ga Ls k).1*(ga Ls i).2.1)))
     else(
      some ((ga Ls i).2.1*(ga Ls k).2.2-(ga Ls k).2.1*(ga Ls i).2.2,(ga Ls i).2.2*(ga Ls k).1-(ga Ls k).2.2*(ga Ls i).1,(ga Ls i).1*(ga Ls k).2.1-(ga Ls k).1*(ga Ls i).2.1)))=some (Jt (Js (ga Ls i) (ga Ls k))):=by
   by_cases hn:(ga Ls i).1*(ga Ls k).2.1-(ga Ls k).1*(ga Ls i).2.1<0
   ·rw[q9 hn,cT,Ab (by omega),Ab (by omega),Ab (by omega)];unfold Jt;rw[t8 (by exact hn)];rfl
   ·rw[s6 hn,cF];unfold Jt;rw[t7 (by exact hn)];rfl
  rw[s6 hw,cF,eP];have pl:=jS lL lM;generalize eQ:Jt (Js (ga Ls i) (ga Ls k))=Q at*;rw[show(some Q)=some (Q.1,Q.2.1,Q.2.2)from rfl,bS];have q24:=ZR N hLs hA hl pl N 0 true (by omega) (by omega);rw[y9]at q24;rw[q24,bS];have mem:(∀j,0<=j->j<Ls.length->0<=Bo (ga Ls j) Q)↔∀L∈Ls,0<=Bo L Q:=by grind[Ta,H2]
  by_cases hin:∀L∈Ls,0<=Bo L Q
  ·rw[q9 (mem.2 hin),Ca _ (by rfl),Ab (by omega),Ab (by omega),<-ns];obtain⟨r,er,hr,h⟩:=Rg hN hLs hA hl hi n (k+1) (out++[(Q.1,Q.2.1,Q.2.2)]) (by omega) (by omega) (by simp;omega);refine⟨r,er,by simp at hr;omega,λP=>?_⟩;rw[h P,y7,A26];constructor
   ·rintro((q|q)|⟨j,a,b,c⟩)
    ·exact .inl q
    ·exact .inr ⟨k,by omega,hk,by exact hw,by rw[eQ];exact q,by rw[q];exact hin⟩
    grind
   ·rintro(q|⟨j,a,b,c⟩)
    ·exact .inl (.inl q)
    ·by_cases q:j=k
     ·subst q;exact .inl (.inr (by rw[<-eQ];exact c.2.1))
     grind
  ·rw[s6 (by grind),BL _ (by rfl),Ab (by omega),<-ns];obtain⟨r,er,hr,h⟩:=Rg hN hLs hA hl hi n (k+1) out (by omega) (by omega) (by omega);refine⟨r,er,by omega,λP=>?_⟩;rw[h P];constructor
   ·grind
   ·rintro(q|⟨j,a,b,c⟩)
    ·exact .inl q
    ·by_cases q:j=k
     ·subst q;exact absurd (by rw[<-eQ,<-c.2.1];exact c.2.2) hin
     grind
theorem ZS{N:Nat}(hN:1001<=N)(hLs:A++B=Ls)(hA:∀L∈Ls,Ln L)(hl:Ls.length<=30):∀(n i:Nat)(out:List B5),i<=Ls.length->Ls.length<n+i->out.length<=30*i->∃r,Dg N A B n i out=some r/\r.length<=900/\∀P,P∈r↔P∈out\/∃g j,i<=g/\g<j/\j<Ls.length/\jR Ls g j P
 |0,i,out,h1,h2,_=>by omega
 |n+1,i,out,h1,h2,ho=>by
  rw[Dg,hLs];by_cases he:i=Ls.length
  ·grind
  have hi:i<Ls.length:=by omega
  rw[Fe hi,cT,Ab (by omega),<-ns];obtain⟨r,er,hr,h⟩:=Rg hN hLs hA (by omega) hi N (i+1) out (by omega) (by omega) (by omega);rw[er,bS,Ab (by omega)];obtain⟨r2,er2,hr2,h2⟩:=ZS hN hLs hA hl n (i+1) r (by omega) (by omega) (by omega);grind
end
theorem AcQ{Q R:B5}(hQ:Pl Q)(hR:Pl R):(((-819200000<=Q.2.1*R.2.2/\Q.2.1*R.2.2<=819200000)/\(-819200000<=Q.2.2*R.2.1/\Q.2.2*R.2.1<=819200000))/\((-819200000<=Q.1*R.2.2/\Q.1*R.2.2<=819200000)/\(-819200000<=Q.2.2*R.1/\Q.2.2*R.1<=819200000))/\(-65536000000<=Q.1*R.2.1/\Q.1*R.2.1<=65536000000)/\(-65536000000<=Q.2.1*R.1/\Q.2.1*R.1<=65536000000)):=⟨⟨HH 256000 3200 (by omega) (by omega) hQ.2.1 hR.2.2,HH 3200 256000 (by omega) (by omega) hQ.2.2 hR.2.1⟩,⟨HH 256000 3200 (by omega) (by omega) hQ.1 hR.2.2,HH 3200 256000 (by omega) (by omega) hQ.2.2 hR.1⟩,HH 256000 256000 (by omega) (by omega) hQ.1 hR.2.1,HH 256000 256000 (by omega) (by omega) hQ.2.1 hR.1⟩
section
variable{l:List B5}
theorem wR{N:Nat}(hN:1001<=N)(hl:l.length<=1000)(hP:∀P∈l,Pl P){i k:Nat}(hi:i<l.length)(hk:k<l.length):(Br N k l i N 0=some (.inl ())/\∀n,n<k->Ge (ga l i) (ga l k) (ga l n)=0)\/(Br N k l i N 0=some (.inr true)/\∃n,n<k/\Ge (ga l i) (ga l k) (ga l n)≠0):=by
 have step:∀m (n:Nat),n<k->Br N k l i (m+1) n=if Ge (ga l i) (ga l k) (ga l n)≠0 then some (.inr true)else Br N k l i m ((n+1:Nat)):=λm n hn=>by
  have p1:=hP _ (H2 hi);have b:=AcQ (hP _ (H2 hk)) (hP _ (H2 (show n<l.length by omega)));rw[Br,q9 (show(n:Int)<k by omega),cT,OI hi,bS];simp only;rw[OI hk,bS];rw[OI (show n<l.length by omega),bS];simp only;generalize ga l i=P at*;generalize ga l k=Q at*;generalize ga l n=R at*;have m1:=HH (b:=Q.2.1*R.2.2-Q.2.2*R.2.1) 256000 1638400000 (by omega) (by omega) p1.1 (by omega);have m2:=HH (b:=Q.1*R.2.2-Q.2.2*R.1) 256000 1638400000 (by omega) (by omega) p1.2.1 (by omega);have m3:=HH (b:=Q.1*R.2.1-Q.2.1*R.1) 3200 131072000000 (by omega) (by omega) p1.2.2 (by omega);rw[Ab (by omega),Ab (by omega),Ab (by omega),Ab (by omega),Ab (by omega),Ab (by omega),Ab (by omega),Ab (by omega),Ab (by omega),Ab (by omega),Ab (by omega),Ab (by omega),Ab (by omega),Ab (by omega)];have e:P.1*(Q.2.1*R.2.2-Q.2.2*R.2.1)-P.2.1*(Q.1*R.2.2-Q.2.2*R.1)+P.2.2*(Q.1*R.2.1-Q.2.1*R.1)=Ge P Q R:=rfl;rw[e];by_cases h:Ge P Q R≠0
  ·rw[q9 h,cT,t8 h]
  ·rw[s6 h,cF,t7 h,Ab (by omega),ns]
 have key:=HK (L:=Br N k l i) (len:=k) (λn=>if Ge (ga l i) (ga l k) (ga l n)≠0 then some true else none)
  (by grind) (by grind) (by simp_all[Br]) N (by omega)
 grind
theorem wS{N:Nat}(hN:1001<=N)(hl:l.length<=1000)(hP:∀P∈l,Pl P){i:Nat}(hi:i<l.length):(BR N i l N 0=some (.inl ())/\∀k,k<i->∀n,n<k->Ge (ga l i) (ga l k) (ga l n)=0)\/(BR N i l N 0=some (.inr true)/\∃k n,k<i/\n<k/\Ge (ga l i) (ga l k) (ga l n)≠0):=by
 have:∀m (k:Nat),k<=i->i<m+k->(BR N i l m k=some (.inl ())/\∀j,k<=j->j<i->∀n,n<j->Ge (ga l i) (ga l j) (ga l n)=0)\/(BR N i l m k=some (.inr true)/\∃j n,j<i/\n<j/\Ge (ga l i) (ga l j) (ga l n)≠0):=by
  intro m;induction m with
  |zero=>omega
  |succ m ih=>
   intro k a b;rw[BR];by_cases he:k=i
   ·grind
   rcases wR hN hl hP hi (show k<l.length by omega)with⟨e,h⟩|⟨e,n,hn,h⟩
   ·rw[Ab (by omega),<-ns];rcases ih (k+1) (by omega) (by omega)with⟨e2,h2⟩|h2
    all_goals grind
   grind
 rcases this N 0 (by omega) (by omega)with⟨e,h⟩|h
 all_goals grind
theorem wT{N:Nat}(hN:1001<=N)(hl:l.length<=1000)(hP:∀P∈l,Pl P):(BS N l N 0=some (.inl ())/\∀i,i<l.length->∀k,k<i->∀n,n<k->Ge (ga l i) (ga l k) (ga l n)=0)\/(BS N l N 0=some (.inr true)/\∃i k n,i<l.length/\k<i/\n<k/\Ge (ga l i) (ga l k) (ga l n)≠0):=by
 have:∀m (k:Nat),k<=l.length->l.length<m+k->(BS N l m k=some (.inl ())/\∀i,k<=i->i<l.length->∀j,j<i->∀n,n<j->Ge (ga l i) (ga l j) (ga l n)=0)\/(BS N l m k=some (.inr true)/\∃i j n,i<l.length/\j<i/\n<j/\Ge (ga l i) (ga l j) (ga l n)≠0):=by
  intro m;induction m with
  |zero=>omega
  |succ m ih=>
   intro k a b;rw[BS];by_cases he:k=l.length
   ·grind
   have hk:k<l.length:=by omega
   rcases wS hN hl hP hk with⟨e,h⟩|⟨e,j,n,hj,hn,h⟩
   ·rw[Ab (by omega),<-ns];all_goals grind
   grind
 rcases this N 0 (by omega) (by omega)with⟨e,h⟩|h
 all_goals grind
theorem ZT(P Q R:B5):Ge Q P R= -Ge P Q R:=by unfold Ge;grind
theorem UK(P Q R:B5):Ge P R Q= -Ge P Q R:=by unfold Ge;grind
theorem eU{i k n:Nat}(hi:i<l.length)(hk:k<l.length)(hn:n<l.length)(h:Ge (ga l i) (ga l k) (ga l n)≠0):∃x y z,x<l.length/\y<x/\z<y/\Ge (ga l x) (ga l y) (ga l z)≠0:=by have s1:=ZT (ga l i) (ga l k) (ga l n);have s2:=UK (ga l i) (ga l k) (ga l n);have s3:=UK (ga l k) (ga l i) (ga l n);have s4:=ZT (ga l i) (ga l n) (ga l k);have s5:=UK (ga l n) (ga l i) (ga l k);all_goals grind
end
open Classical in
theorem eV{N:Nat}(hN:1001<=N){a b:List Pt}(ha:VP a)(hb:VP b):Cp N a b=some (decide (¬apart a b)):=by
 have a8:=ha.l8;have b8:=hb.l8;unfold Cp;rw[IZ (by omega),IZ (by omega),Ox.2 ha,Ox.2 hb,bS,Ab (by grind),A00,BL _ (by rfl)];have e2:=jP N ha N 0 [] (by omega) (by omega) (by simp);have e4:=jQ N hb N 0 [] (by omega) (by omega) (by simp);rw[y9,A02,List.drop_zero]at e2 e4;rw[e2,bS,e4,bS,Ab (by rw[H3,H3];omega)];have len:(A3 a++A3 b).length=a.length+b.length:=by rw[w9,H3,H3]
 have lnA:=wP ha hb;obtain⟨r,er,hr,hm⟩:=ZS hN rfl lnA (by omega) N 0 [] (by omega) (by omega) (by simp);rw[y9]at er;rw[er,bS];have mem:∀P,P∈r↔Cmn (A3 a++A3 b) P:=λP=>by
  rw[hm P];constructor
  ·rintro(q|⟨g,j,_,x,y,z⟩)
   ·simp at q
   ·exact⟨g,j,x,y,z⟩
  ·rintro⟨g,j,x,y,z⟩;exact .inr ⟨g,j,by omega,x,y,z⟩
 have pl:∀P∈r,Pl P:=λP hP=>by obtain⟨i,k,x,y,z,e,_⟩:=(mem P).1 hP;grind[jS,H2]
 rcases wT hN (by omega) pl with⟨e,h⟩|⟨e,i,k,n,hi,hk,hn,h⟩
 ·rw[e,bS];rw[s6];grind[ZO,Ta,eU]
 ·rw[e,bS];rw[q9];intro hap;exact h (eT ha hb hap ((mem _).1 (H2 hi)).inK ((mem _).1 (H2 (show k<r.length by omega))).inK ((mem _).1 (H2 (show n<r.length by omega))).inK)
theorem ZU{N:Nat}(hN:1001<=N){a b:List Pt}(h:¬(VP a/\VP b)):F7 N a b=some (0,0,false):=by
 unfold F7;by_cases ha:VP a
 ·have hb:¬VP b:=by grind
  rw[IQ (by omega),IQ (by omega),Ox.2 ha,KN.2 hb,bS,Ab (by grind),Ca _ (by rfl)]
 ·rw[IQ (by omega),KN.2 ha,bS,Ab (by grind),Ca _ (by rfl)]
open Classical in
theorem SF{N:Nat}(hN:1001<=N)(a b:List Pt):∃r,CX N a b=some r/\Cp N a b=some r:=by
 by_cases ha:VP a
 ·by_cases hb:VP b
  ·refine⟨_,Lg hN ha hb,?_⟩;rw[eV hN ha hb];congr 1;rw[A49,s7,A28,<-Bool.not_eq_true,MM]
  ·refine⟨false,?_,?_⟩
   ·unfold CX;rw[ZU hN (λq=>hb q.2),bS];grind[IQ,KN,Ab]
   ·unfold Cp;rw[IZ (by omega),IZ (by omega),Ox.2 ha,KN.2 hb,bS,Ab (by grind),Ca _ (by rfl)]
 ·refine⟨false,?_,?_⟩
  ·unfold CX;rw[ZU hN (λq=>ha q.1),bS];grind[IQ,KN,Ab]
  ·unfold Cp;rw[IZ (by omega),KN.2 ha,bS,Ab (by grind),Ca _ (by rfl)]
def lxl(p q:Pt):Prop:=p.1<q.1\/(p.1=q.1/\p.2<q.2)
def ZZ(a b:List Pt)(p:Pt):Prop:=sd a p=0/\sd b p=0
structure InvQ(a b:List Pt)(i k:Nat)(l:List Pt):Prop where
 len:l.length<=41*i+k
 pw:l.Pairwise lxl
 mem:∀p,p∈l↔∃x y:Nat,(x<i\/(x=i/\y<k))/\y<=40/\p=((x:Int),(y:Int))/\ZZ a b p
section
variable{a b:List Pt}
end
end
section
open Go
attribute [local irreducible] Aq BD Bv A8 Bq Ba AQ Bw By Ck
attribute [local go_sem] R3 PQ
def CL(N:Nat)(an:Int)(am:Int)(ak:Int)(aj:List (Int×Int))(ab:Int)(aa:Int):Option Bool:=bif (((((decide (an<0))||(decide (99<an)))||(decide (am<1)))||(decide (8<am)))||(decide (ak<0)))||(decide (7<ak))then(some false)else(gd ((((decide (0<=ab))&&(decide (ab<aa)))&&(decide (aa<=8)))=true->((CJ N aj).isSome=true))<|some ((((decide (0<=ab))&&(decide (ab<aa)))&&(decide (aa<=8)))&&((CJ N aj).getD false)))
@[go_sem] def s72(N:Nat):Spec:=p0<|(qG<|qI<|qI<|qI<|qS Aj<|qI<|qI<|qE<|qE<|qF false .b) (CL N)
theorem jC(N:Nat):Au Tryz.prog 142 (s72 N):=by
 refine fk (wX tY (Aa (Y5 N)<|Ae)) ?_;intro an am ak aj ab aa r h _ hS F;dsimp only[tY,Ad,Aj];unfold CL at h;refine An hS F h (λ_ h=>?_) (λ_ h=>?_)
 ·exact Ah hS F h
 ·obtain⟨bz,h⟩:=un h;exact Ah hS F h
def EV(N:Nat)(bw:Int)(bv:Int)(bu:Int)(br:List (Int×Int))(bb:Int)(ba:Int)(az:Int)(ay:Int)(aw:Int)(av:List (Int×Int))(ah:Int)(af:Int):Option Bool:=(CL N bw bv bu br bb ba).bind λau=>gd (au=true->((CL N az ay aw av ah af).isSome=true))<|some ((au&&((CL N az ay aw av ah af).getD false))&&(decide (max bb ah<min ba af)))
@[go_sem] def Ul(N:Nat):Spec:=p0<|(qG<|qI<|qI<|qI<|qS Aj<|qI<|qI<|qE<|qG<|qI<|qI<|qI<|qS Aj<|qI<|qI<|qE<|qE<|qF false .b) (EV N)
theorem uW(N:Nat):Au Tryz.prog 163 (Ul N):=by refine fk (wX P6 (Aa (jC N)<|Ae)) ?_;intro bw bv bu br bb ba az ay aw av ah af r h _ hS F;dsimp only[P6,Ad,Aj];unfold EV at h;obtain⟨au,bf,bz,h⟩:=un h;exact Ah hS (fc bf F) h
def D7(N:Nat)(bq:Int)(bp:Int)(bo:Int)(ai:List (Int×Int))(bn:Int)(bm:Int)(bl:Int)(bj:Int)(bi:Int)(ae:List (Int×Int))(bh:Int)(bg:Int):Option Bool:=(EV N bq bp bo ai bn bm bl bj bi ae bh bg).bind λaq=>gd (aq=true->((Cp N ai ae).isSome=true))<|some (aq&&((Cp N ai ae).getD false))
@[go_sem] def XF(N:Nat):Spec:=p0<|(qG<|qI<|qI<|qI<|qS Aj<|qI<|qI<|qE<|qG<|qI<|qI<|qI<|qS Aj<|qI<|qI<|qE<|qE<|qF false .b) (D7 N)
theorem uX(N:Nat):Au Tryz.prog 143 (XF N):=by refine fk (wX tZ (Aa (uW N)<|Aa (uN N)<|Ae)) ?_;intro bq bp bo ai bn bm bl bj bi ae bh bg r h _ hS F;dsimp only[tZ,Ad,Aj];unfold D7 at h;obtain⟨aq,be,bz,h⟩:=un h;exact Ah hS (fc be F) h
end
section
variable{N:Nat}(hN:1001<=N)
include hN
theorem RW(a b c:Int)(l:List Pt)(p q:Int):CL N a b c l p q=some (IJ a b c p q&&vB l):=by
 unfold CL IJ;rw[IZ (by omega)];by_cases h:(0<=a/\a<=99)/\(1<=b/\b<=8)/\0<=c/\c<=7
 ·rw[BL _ (by simp;omega),BY (λ_=>w8),A00];rw[q9 h.1.1,q9 h.1.2,q9 h.2.1.1,q9 h.2.1.2,q9 h.2.2.1,q9 h.2.2.2];rfl
 ·rw[Ca _ (by simp;omega)];congr 1;symm;rw[A21];intro hc;simp only[y8,s7]at hc;exact h ⟨hc.1.1.1.1.1.1,hc.1.1.1.1.1.2,hc.1.1.1.1.2⟩
noncomputable def RX(a b c:Int)(l:List Pt)(p q a' b' c':Int)(l':List Pt)(p' q':Int):Bool:=decide (max p p'<min q q')&&(IJ a b c p q&&vB l)&&(IJ a' b' c' p' q'&&vB l')
theorem WS(a b c:Int)(l:List Pt)(p q a' b' c':Int)(l':List Pt)(p' q':Int):E1 N a b c l p q a' b' c' l' p' q'=some (max p p',min q q',RX a b c l p q a' b' c' l' p' q')/\EV N a b c l p q a' b' c' l' p' q'=some (RX a b c l p q a' b' c' l' p' q'):=by unfold E1 EV RX;rw[KE (by omega),KE (by omega),RW hN,RW hN,BY (λ_=>w8),BY (λ_=>w8),bS,BY (λ_=>w8),A00,A00];refine⟨rfl,?_⟩;congr 1;cases(IJ a b c p q&&vB l)<;>cases(IJ a' b' c' p' q'&&vB l')<;>cases decide (max p p'<min q q')<;>rfl
theorem Aba(a b c:Int)(l:List Pt)(p q a' b' c':Int)(l':List Pt)(p' q':Int):∃r,CW N a b c l p q a' b' c' l' p' q'=some r/\D7 N a b c l p q a' b' c' l' p' q'=some r:=by obtain⟨h1,h2⟩:=WS hN a b c l p q a' b' c' l' p' q';obtain⟨r,g1,g2⟩:=SF hN l l';unfold CW D7;rw[h1,h2,g1,g2,bS,bS];simp only;rw[BY (λ_=>w8)];exact⟨_,rfl,rfl⟩
end
