import Derived.Test.YtjdchfljifacoaaGreatJ6
set_option linter.all false
set_option maxRecDepth 100000
set_option maxHeartbeats 8000000
namespace Go.Proofs.YtjdchfljifacoaaGreat.Am
section
open Go
attribute [local irreducible] Ax BO BB Bj BC Bk AY BD BK Cq
def Kf(x:Int×Int×Int×Int):List AV:=[.i x.1,.i x.2.1,.i x.2.2.1,.i x.2.2.2]
def SK:List AV->Int×Int×Int×Int|[.v (.int _ a1),.v (.int _ a2),.v (.int _ a3),.v (.int _ a4)]=>(a1,a2,a3,a4)|_=>(0,0,0,0)
theorem sU(x:Int×Int×Int×Int):SK (Kf x)=x:=by rfl
theorem sV(R:List (Int×Int×Int×Int)):(R.map Kf).map SK=R:=by
 induction R with
 |nil=>rfl
 |cons r R ih=>rw[iW,iW,ih,sU]
def Nt:Rw (Int×Int×Int×Int):=⟨4,Kf,SK,[.i 0,.i 0,.i 0,.i 0]⟩
def Ov(l:List (Int×Int×Int×Int)):AV:=.sl 4 false (l.map Kf) [.i 0,.i 0,.i 0,.i 0]
def Aae(l:List (Int×Int×Int×Int)):AV:=.sl 4 true (l.map Kf) [.i 0,.i 0,.i 0,.i 0]
attribute [go_sem] Nt Ov Aae Kf SK sV
def G4(N:Nat)(ce:List (Int×Int×Int×(List (Int×Int))×Int×Int))(s3911:List (Int×Int×Int×Int×Bool))(db:Int)(d7:Int)(gj:Int)(gi:Int)(gh:List (Int×Int))(gg:Int)(gc:Int)(b7:Int)(d6:Int)(d5:Int)(i7:Int)(i6:Int)(i5:Int)(i4:Int)(iz:Bool):Option (((List (Int×Int×Int×(List (Int×Int))×Int×Int))×(List (Int×Int×Int×Int×Bool)))×Bool):=gd ((s3911.length)*40<=140737488355328)<|bif decide (db=1)then((DK N ce d7 gj gi gh gg gc).bind λ(md,mc)=>some ((md,s3911),decide (mc=0)))else((Dm N ce b7).bind λ((iw,fo,fj,iv,fh,fg),mb)=>bif !mb then(some (([],s3911),false))else((FZ N ce b7).bind λ(e9,ry)=>bif decide (db=2)then((DQ N s3911 b7).bind λma=>some ((e9,ma),true))else(bif decide (db=4)then((Gx N iw fo fj iv fh fg d6 d5).bind λ((l7,l6,l5,lz,lr,lq),lm)=>bif decide (lm≠0)then(some (([],s3911),false))else((DK N e9 l7 l6 l5 lz lr lq).bind λ(lj,li)=>some ((lj,s3911),decide (li=0))))else((EX N iv d6 d5).bind λ(lh,lg,lf)=>bif decide (lf≠0)then(some (([],s3911),false))else((DQ N s3911 b7).bind λir=>(DK N e9 iw fo fj lh fh fg).bind λ(kz,kw)=>bif decide (kw≠0)then(some (([],ir),false))else((DK N kz d7 fo fj lg fh fg).bind λ(kv,kr)=>some ((kv,ir),decide (kr=0))))))))
@[go_sem] def s63(N:Nat):Spec:=p0<|pG<|pD Ak λce=>pD AA λs3911=>pE<|pG<|pI λdb=>pI λd7=>pI λgj=>pI λgi=>pD Aq λgh=>pI λgg=>pI λgc=>pI λb7=>pI λd6=>pI λd5=>pI λi7=>pI λi6=>pI λi5=>pI λi4=>pB λiz=>pE<|pE<|pF (G4 N ce s3911 db d7 gj gi gh gg gc b7 d6 d5 i7 i6 i5 i4 iz) (([],[]),false) λr=>.tup [.agg [Ap r.1.1,AS r.1.2],.b r.2]
theorem Acm(N:Nat):AG Tryz.prog 63 (s63 N):=by
 refine Ar x63.ok<|Aw<|AM λce=>AM λs3911=>Ad<|Aw<|Aa λdb=>Aa λd7=>Aa λgj=>Aa λgi=>AM λgh=>Aa λgg=>Aa λgc=>Aa λb7=>Aa λd6=>Aa λd5=>Aa λi7=>Aa λi6=>Aa λi5=>Aa λi4=>AX λiz=>Ad<|Ad<|As λr h=>wx x63 (Ab (nU N)<|Ab (ZC N)<|Ab (yY N)<|Ab (oA N)<|Ab (yQ N)<|Ab (xU N)<|Aj) λ_ hS F=>?_
 dsimp only[x63,Ah,Aq,AA,Ak];unfold G4 at h;obtain⟨s9,h⟩:=un h;refine An hS F h (λ_ h=>?_) (λ_ h=>?_)
 ·obtain⟨⟨md,mc⟩,pn,h⟩:=un h;exact Ai hS (fc pn F) h
 ·obtain⟨⟨⟨iw,fo,fj,iv,fh,fg⟩,mb⟩,pm,h⟩:=un h;replace F:=fc pm F;refine An hS F h (λ_ h=>?_) (λ_ h=>?_)
  ·exact Ai hS F h
  ·obtain⟨⟨e9,ry⟩,pj,h⟩:=un h;replace F:=fc pj F;refine An hS F h (λ_ h=>?_) (λ_ h=>?_)
   ·obtain⟨ma,pi,h⟩:=un h;exact Ai hS (fc pi F) h
   ·refine An hS F h (λ_ h=>?_) (λ_ h=>?_)
    ·obtain⟨⟨⟨l7,l6,l5,lz,lr,lq⟩,lm⟩,ph,h⟩:=un h;replace F:=fc ph F;refine An hS F h (λ_ h=>?_) (λ_ h=>?_)
     ·exact Ai hS F h
     ·obtain⟨⟨lj,li⟩,pg,h⟩:=un h;exact Ai hS (fc pg F) h
    ·obtain⟨⟨lh,lg,lf⟩,pd,h⟩:=un h;replace F:=fc pd F;refine An hS F h (λ_ h=>?_) (λ_ h=>?_)
     ·exact Ai hS F h
     ·obtain⟨ir,o9,⟨kz,kw⟩,o0,h⟩:=un h;replace F:=fc o0 (fc o9 F);refine An hS F h (λ_ h=>?_) (λ_ h=>?_)
      ·exact Ai hS F h
      ·obtain⟨⟨kv,kr⟩,oz,h⟩:=un h;exact Ai hS (fc oz F) h
def D0(N:Nat)(ae:List (Int×Int×Int×(List (Int×Int))×Int×Int))(av:List (Int×Int×Int×Int×Bool))(an:Int)(da:Int)(cy:Int)(cu:Int)(cr:List (Int×Int))(cq:Int)(co:Int)(bp:Int)(cn:Int)(ck:Int)(bz:Int)(bw:Int)(bv:Int)(bu:Int)(br:Bool):Option (((List (Int×Int×Int×(List (Int×Int))×Int×Int))×(List (Int×Int×Int×Int×Bool)))×Int):=(Bn N ae av).bind λiq=>gd ((!(!iq))=true->((Ca N an da cy cu cr cq co bp cn ck bz bw bv bu br).isSome=true))<|bif (!iq)||(!((Ca N an da cy cu cr cq co bp cn ck bz bw bv bu br).getD false))then(some (([],[]),170))else(bif decide (an=5)then((E9 N av bz bw bv bu br).bind λ(e8,ip)=>gd ((!(!ip))=true->((Bn N ae e8).isSome=true))<|bif (!ip)||(!((Bn N ae e8).getD false))then(some (([],[]),170))else((CH N ae e8).bind λ(kq,km)=>some ((kq,km),0)))else(bif decide (an=6)then((ET N av bp false).bind λ(ez,im)=>gd ((!(!im))=true->((Bn N ae ez).isSome=true))<|bif (!im)||(!((Bn N ae ez).getD false))then(some (([],[]),170))else((CH N ae ez).bind λ(kl,kj)=>some ((kl,kj),0)))else(bif decide (an=7)then((ET N av bp true).bind λ(eu,ij)=>gd ((!(!ij))=true->((Bn N ae eu).isSome=true))<|bif (!ij)||(!((Bn N ae eu).getD false))then(some (([],[]),170))else((CH N ae eu).bind λ(ki,kh)=>some ((ki,kh),0)))else((G4 N ae av an da cy cu cr cq co bp cn ck bz bw bv bu br).bind λ((ej,ei),ii)=>gd ((!(!ii))=true->((Bn N ej ei).isSome=true))<|bif (!ii)||(!((Bn N ej ei).getD false))then(some (([],[]),170))else((CH N ej ei).bind λ(kg,kf)=>some ((kg,kf),0))))))
@[go_sem] def s23(N:Nat):Spec:=p0<|pG<|pD Ak λae=>pD AA λav=>pE<|pG<|pI λan=>pI λda=>pI λcy=>pI λcu=>pD Aq λcr=>pI λcq=>pI λco=>pI λbp=>pI λcn=>pI λck=>pI λbz=>pI λbw=>pI λbv=>pI λbu=>pB λbr=>pE<|pE<|pF (D0 N ae av an da cy cu cr cq co bp cn ck bz bw bv bu br) (([],[]),0) λr=>.tup [.agg [Ap r.1.1,AS r.1.2],.i r.2]
theorem U1(N:Nat):AG Tryz.prog 23 (s23 N):=by
 refine Ar x23.ok<|Aw<|AM λae=>AM λav=>Ad<|Aw<|Aa λan=>Aa λda=>Aa λcy=>Aa λcu=>AM λcr=>Aa λcq=>Aa λco=>Aa λbp=>Aa λcn=>Aa λck=>Aa λbz=>Aa λbw=>Aa λbv=>Aa λbu=>AX λbr=>Ad<|Ad<|As λr h=>wx x23 (Ab (nZ N)<|Ab (U2 N)<|Ab (oB N)<|Ab (Ach N)<|Ab (Acm N)<|Ab (oD N)<|Aj) λ_ hS F=>?_
 dsimp only[x23,Ah,Aq,AA,Ak];unfold D0 at h;obtain⟨iq,oy,s9,h⟩:=un h;replace F:=fc oy F;refine An hS F h (λ_ h=>?_) (λ_ h=>?_)
 ·exact Ai hS F h
 ·refine An hS F h (λ_ h=>?_) (λ_ h=>?_)
  ·obtain⟨⟨e8,ip⟩,ox,h⟩:=un h;obtain⟨s8,h⟩:=un h;replace F:=fc ox F;refine An hS F h (λ_ h=>?_) (λ_ h=>?_)
   ·exact Ai hS F h
   ·obtain⟨⟨kq,km⟩,ow,h⟩:=un h;exact Ai hS (fc ow F) h
  ·refine An hS F h (λ_ h=>?_) (λ_ h=>?_)
   ·obtain⟨⟨ez,im⟩,ot,h⟩:=un h;obtain⟨sk,h⟩:=un h;replace F:=fc ot F;refine An hS F h (λ_ h=>?_) (λ_ h=>?_)
    ·exact Ai hS F h
    ·obtain⟨⟨kl,kj⟩,om,h⟩:=un h;exact Ai hS (fc om F) h
   ·refine An hS F h (λ_ h=>?_) (λ_ h=>?_)
    ·obtain⟨⟨eu,ij⟩,oj,h⟩:=un h;obtain⟨sj,h⟩:=un h;replace F:=fc oj F;refine An hS F h (λ_ h=>?_) (λ_ h=>?_)
     ·exact Ai hS F h
     ·obtain⟨⟨ki,kh⟩,oh,h⟩:=un h;exact Ai hS (fc oh F) h
    ·obtain⟨⟨⟨ej,ei⟩,ii⟩,og,h⟩:=un h;obtain⟨sg,h⟩:=un h;replace F:=fc og F;refine An hS F h (λ_ h=>?_) (λ_ h=>?_)
     ·exact Ai hS F h
     ·obtain⟨⟨kg,kf⟩,oe,h⟩:=un h;exact Ai hS (fc oe F) h
def G5(N:Nat)(l4120:List (Int×(Int×Int×Int×(List (Int×Int))×Int×Int)×Int×Int×Int×(Int×Int×Int×Int×Bool))):Nat->Int->(List (Int×Int×Int×(List (Int×Int))×Int×Int))->(List (Int×Int×Int×Int×Bool))->Option (Sum ((List (Int×Int×Int×(List (Int×Int))×Int×Int))×(List (Int×Int×Int×Int×Bool))) ((((List (Int×Int×Int×(List (Int×Int))×Int×Int))×(List (Int×Int×Int×Int×Bool)))×Int×Int)))|0,_,_,_=>none|n+1,bq,fq,fp=>bif decide (bq<(l4120.length:Int))then(bif decide (40<=bq)then(some (.inr (([],[]),bq,170)))else((A7 l4120 bq).bind λ(ri,(rh,rg,rf,re,rc,q9),q0,qz,qy,(qx,qw,qu,qt,qr))=>(D0 N fq fp ri rh rg rf re rc q9 q0 qz qy qx qw qu qt qr).bind λ((rn,rm),rk)=>bif decide (rk≠0)then(some (.inr (([],[]),bq,170)))else(gd (Af (bq+1))<|G5 N l4120 n (bq+1) rn rm)))else(some (.inl (fq,fp)))
def MH(N:Nat)(ee:List (Int×Int×Int×(List (Int×Int))×Int×Int))(d9:List (Int×Int×Int×Int×Bool))(l4120:List (Int×(Int×Int×Int×(List (Int×Int))×Int×Int)×Int×Int×Int×(Int×Int×Int×Int×Bool))):Option (((List (Int×Int×Int×(List (Int×Int))×Int×Int))×(List (Int×Int×Int×Int×Bool)))×Int×Int):=(Bn N ee d9).bind λru=>bif !ru then(some (([],[]),0,170))else((CH N ee d9).bind λ(rt,rq)=>(G5 N l4120 N 0 rt rq).bind λsf=>match sf with|.inl (i9,i8)=>(some ((i9,i8),(l4120.length:Int),0))|.inr rj=>(some rj))
@[go_sem] def Ww(N:Nat):Spec:=p0<|pG<|pD Ak λee=>pD AA λd9=>pE<|pD CR λl4120=>pE<|pF (MH N ee d9 l4120) (([],[]),0,0) λr=>.tup [.agg [Ap r.1.1,AS r.1.2],.i r.2.1,.i r.2.2]
def D1(N:Nat)(s4241:List (Int×Int×Int×(List (Int×Int))×Int×Int))(gr:List (Int×Int×Int×Int×Bool))(c4243:Int):Option Int:=gd ((!(decide ((s4241.length:Int)=0)))=true->((AN N c4243 16).isSome=true))<|bif (decide ((s4241.length:Int)=0))||(decide ((AN N c4243 16).getD 0=15))then((AN N c4243 100).bind λke=>some ke)else(gd (Af (c4243.tdiv 16))<|(AN N (c4243.tdiv 16) (s4241.length:Int)).bind λka=>(A7 s4241 ka).bind λ(jn,qq,qo,qn,qm,ql)=>some jn)
@[go_sem] def s89(N:Nat):Spec:=p0<|pG<|pD Ak λs4241=>pD AA λgr=>pE<|pI λc4243=>pE<|pF (D1 N s4241 gr c4243) 0 λr=>.i r
theorem Acn(N:Nat):AG Tryz.prog 89 (s89 N):=by
 refine Ar x89.ok<|Aw<|AM λs4241=>AM λgr=>Ad<|Aa λc4243=>Ad<|As λr h=>wx x89 (Ab (U0 N)<|Aj) λ_ hS F=>?_
 dsimp only[x89,Ah,AA,Ak];unfold D1 at h;obtain⟨s9,h⟩:=un h;refine An hS F h (λ_ h=>?_) (λ_ h=>?_)
 ·obtain⟨ke,od,h⟩:=un h;exact Ai hS (fc od F) h
 ·obtain⟨s8,ka,n9,⟨jn,qq,qo,qn,qm,ql⟩,pz,h⟩:=un h;obtain⟨sv,F⟩:=Cb Au pz (fc n9 F);exact Ai hS F h
def F5(N:Nat)(au:List (Int×Int×Int×(List (Int×Int))×Int×Int))(s4258:List (Int×Int×Int×Int×Bool))(dl:Int)(ah:Int)(ak:Int)(aq:Int)(x4263:Int)(x4264:Int):Option (Int×(Int×Int×Int×(List (Int×Int))×Int×Int)×Int×Int×Int×(Int×Int×Int×Int×Bool)):=(AN N dl 8).bind λai=>(bif decide (ai=0)then(some (decide (ai=0)))else(some (decide (ai=1))):Option (Bool)).bind λjm=>bif jm then(gd (Af (x4263.tdiv 4))<|gd (Af (x4264.tdiv 8))<|(El N ah ak aq x4263 (x4263.tdiv 4) x4264 (x4264.tdiv 8)).bind λ(j9,j8,j7,j6,j5,j4)=>some (1,(j9,j8,j7,j6,j5,j4),0,0,0,(0,0,0,0,false)))else(bif decide (ai=2)then((D1 N au s4258 ah).bind λjz=>some (2,(0,0,0,[],0,0),jz,0,0,(0,0,0,0,false)))else(bif decide (ai=3)then((D1 N au s4258 ah).bind λam=>(AN N ak 4).bind λcj=>(AN N aq 4).bind λig=>bif decide (cj=ig)then(gd (Af (cj+2))<|gd (Af (am+40))<|(AN N x4263 20).bind λic=>gd (Af ((am+40)+ic))<|some (3,(((am+40)+ic).tmod 100,0,0,[],0,0),am,cj,(cj+2).tmod 4,(0,0,0,0,false)))else(gd (Af (am+40))<|(AN N x4263 20).bind λib=>gd (Af ((am+40)+ib))<|some (3,(((am+40)+ib).tmod 100,0,0,[],0,0),am,cj,ig,(0,0,0,0,false))))else(bif decide (ai=4)then((D1 N au s4258 ah).bind λg9=>(AN N ak 7).bind λdw=>gd (Af (dw-3))<|gd (Af (4*(dw-3)))<|(AN N aq 5).bind λci=>gd (Af (ci-2))<|gd (Af (4*(ci-2)))<|bif (decide (4*(dw-3)=0))&&(decide (4*(ci-2)=0))then((AN N x4263 3).bind λg8=>gd (Af (1+g8))<|some (4,(0,0,0,[],0,0),g9,1+g8,4*(ci-2),(0,0,0,0,false)))else(some (4,(0,0,0,[],0,0),g9,4*(dw-3),4*(ci-2),(0,0,0,0,false))))else(bif decide (ai=5)then((AN N ah 20).bind λjy=>(D1 N au s4258 ak).bind λjx=>(AN N aq 6).bind λgz=>gd (Af (gz-2))<|(AN N x4263 5).bind λgy=>gd (Af (1+gy))<|(AN N x4263 2).bind λjw=>some (5,(0,0,0,[],0,0),0,0,0,(jy,jx,gz-2,1+gy,decide (jw=0))))else((AN N ak 2).bind λeh=>gd (Af (6+eh))<|(AN N ah 12).bind λjv=>bif decide (0<(s4258.length:Int))then((AN N ah (s4258.length:Int)).bind λju=>(A7 s4258 ju).bind λ(jl,qk,qj,qh,qg)=>some (6+eh,(0,0,0,[],0,0),jl,0,0,(0,0,0,0,false)))else(some (6+eh,(0,0,0,[],0,0),jv,0,0,(0,0,0,0,false))))))))
@[go_sem] def s43(N:Nat):Spec:=p0<|pG<|pD Ak λau=>pD AA λs4258=>pE<|pG<|pI λdl=>pI λah=>pI λak=>pI λaq=>pI λx4263=>pI λx4264=>pE<|pE<|pF (F5 N au s4258 dl ah ak aq x4263 x4264) (0,(0,0,0,[],0,0),0,0,0,(0,0,0,0,false)) λr=>.agg [.i r.1,.i r.2.1.1,.i r.2.1.2.1,.i r.2.1.2.2.1,BP r.2.1.2.2.2.1,.i r.2.1.2.2.2.2.1,.i r.2.1.2.2.2.2.2,.i r.2.2.1,.i r.2.2.2.1,.i r.2.2.2.2.1,.i r.2.2.2.2.2.1,.i r.2.2.2.2.2.2.1,.i r.2.2.2.2.2.2.2.1,.i r.2.2.2.2.2.2.2.2.1,.b r.2.2.2.2.2.2.2.2.2]
theorem oF(N:Nat):AG Tryz.prog 43 (s43 N):=by
 refine Ar x43.ok<|Aw<|AM λau=>AM λs4258=>Ad<|Aw<|Aa λdl=>Aa λah=>Aa λak=>Aa λaq=>Aa λx4263=>Aa λx4264=>Ad<|Ad<|As λr h=>wx x43 (Ab (U0 N)<|Ab (nV N)<|Ab (Acn N)<|Aj) λ_ hS F=>?_
 dsimp only[x43,Ah,AA,Ak];unfold F5 at h;obtain⟨ai,n8,h⟩:=un h;replace F:=fc n8 F;obtain⟨se,ja,h⟩:=un h;refine go hS F ?_;refine Bz se (λz:Bool×Nat=>⟨[(2,.box (0,1) 0),(3,.box (1,1) 0),(4,.box (2,1) 0),(10,.i ai),(11,.b z.1)],[(.c (2,1) 0,.i 0),(.c (2,1) 1,.i 0),(.c (2,1) 2,.i 0),(.c (2,1) 3,.i 0),(.c (2,1) 4,.sl 0 true [] []),(.c (2,1) 5,.i 0),(.c (2,1) 6,.i 0),(.c (2,1) 7,.i 0),(.c (2,1) 8,.i 0),(.c (2,1) 9,.i 0),(.c (2,1) 10,.i 0),(.c (2,1) 11,.i 0),(.c (2,1) 12,.i 0),(.c (2,1) 13,.i 0),(.c (2,1) 14,.b false),(.c (1,1) 0,.i dl),(.c (1,1) 1,.i ah),(.c (1,1) 2,.i ak),(.c (1,1) 3,.i aq),(.c (1,1) 4,.i x4263),(.c (1,1) 5,.i x4264),(.c (0,1) 0,Ap au),(.c (0,1) 1,AS s4258)],z.2⟩) (λz=>(z.1:Bool)) .n ?_ ?_
 ·refine An hS F ja (λ_ ja=>?_) (λ_ ja=>?_)
  ·exact B4 hS F (decide (ai=0),3) ja
  ·exact B4 hS F (decide (ai=1),4) ja
 ·rintro⟨jm,te⟩ rfl;refine An hS F h (λ_ h=>?_) (λ_ h=>?_)
  ·obtain⟨s8,sk,⟨j9,j8,j7,j6,j5,j4⟩,n7,h⟩:=un h;exact Ai hS (fc n7 F) h
  ·refine An hS F h (λ_ h=>?_) (λ_ h=>?_)
   ·obtain⟨jz,n6,h⟩:=un h;exact Ai hS (fc n6 F) h
   ·refine An hS F h (λ_ h=>?_) (λ_ h=>?_)
    ·obtain⟨am,n5,cj,n4,ig,n0,h⟩:=un h;replace F:=fc n0 (fc n4 (fc n5 F));refine An hS F h (λ_ h=>?_) (λ_ h=>?_)
     ·obtain⟨sj,sg,ic,nz,sy,h⟩:=un h;exact Ai hS (fc nz F) h
     ·obtain⟨sx,ib,ny,tz,h⟩:=un h;exact Ai hS (fc ny F) h
    ·refine An hS F h (λ_ h=>?_) (λ_ h=>?_)
     ·obtain⟨g9,nw,dw,nv,tv,tq,ci,nu,tp,tn,h⟩:=un h;replace F:=fc nu (fc nv (fc nw F));refine An hS F h (λ_ h=>?_) (λ_ h=>?_)
      ·obtain⟨g8,nr,tj,h⟩:=un h;exact Ai hS (fc nr F) h
      ·exact Ai hS F h
     ·refine An hS F h (λ_ h=>?_) (λ_ h=>?_)
      ·obtain⟨jy,nq,jx,nj,gz,nh,th,gy,nf,tg,jw,nc,h⟩:=un h;exact Ai hS (fc nc (fc nf (fc nh (fc nj (fc nq F))))) h
      ·obtain⟨eh,nb,tf,jv,mz,h⟩:=un h;replace F:=fc mz (fc nb F);refine An hS F h (λ_ h=>?_) (λ_ h=>?_)
       ·obtain⟨ju,my,⟨jl,qk,qj,qh,qg⟩,pv,h⟩:=un h;obtain⟨su,F⟩:=Cb BZ pv (fc my F);exact Ai hS F h
       ·exact Ai hS F h
def DR(N:Nat)(x5507:List (Int×Int×Int×Int))(r5509:List (Int×Int×Int×(List (Int×Int))×Int×Int)):Nat->Int->(List (Int×Int×Int×Int×Bool))->Option ((List (Int×Int×Int×Int×Bool)))|0,_,_=>none|n+1,aj,b9=>bif ((decide (aj<(x5507.length:Int)))&&(decide (aj<8)))&&(decide (0<(r5509.length:Int)))then((A7 x5507 aj).bind λ(jk,jj,ji,gm)=>(AN N jj (r5509.length:Int)).bind λjt=>(A7 r5509 jt).bind λ(jh,qe,qd,x5578,qc,qb)=>(AN N jk 12).bind λjs=>gd (Af ((x5578.length:Int)+2))<|(AN N ji ((x5578.length:Int)+2)).bind λgx=>gd (Af (gx-2))<|(AN N gm 5).bind λgw=>gd (Af (1+gw))<|(AN N gm 2).bind λjr=>(E9 N b9 js jh (gx-2) (1+gw) (decide (jr=0))).bind λ(gv,jq)=>bif jq then(gd (Af (aj+1))<|DR N x5507 r5509 n (aj+1) gv)else(gd (Af (aj+1))<|DR N x5507 r5509 n (aj+1) b9))else(some b9)
def Dp(N:Nat)(dh:List (Int×Int×Int×Int×Int×Int))(x5507:List (Int×Int×Int×Int))(d8:List (Int×Int×Int×Int×Int×Int)):Option ((List (Int×Int×Int×(List (Int×Int))×Int×Int))×(List (Int×Int×Int×Int×Bool))):=(FD N dh).bind λr5509=>(DR N x5507 r5509 N 0 []).bind λjo=>some (r5509,jo)
@[go_sem] def s12(N:Nat):Spec:=p0<|pG<|pS GR λdh=>pS Nt λx5507=>pS GR λd8=>pE<|pE<|pF (Dp N dh x5507 d8) ([],[]) λr=>.agg [Ap r.1,AS r.2]
theorem ZI(N:Nat):AG Tryz.prog 12 (s12 N):=by
 refine Ar x12.ok<|Aw<|AF λdh=>AF λx5507=>AF λd8=>Ad<|Ad<|As λr h=>wx x12 (Ab (Ace N)<|Ab (U0 N)<|Ab (oB N)<|Aj) λ_ hS F=>?_
 dsimp only[x12,Ah,Nt,GR];unfold Dp at h;obtain⟨r5509,mu,h⟩:=un h;replace F:=fc mu F;refine go hS F ?_;refine Yd (104,2) 1 5 [.i 0,.i 0,.i 0,.i 0,.b false] (ev F) ?_;obtain⟨sa,ja,h⟩:=un h;refine go hS F ?_;refine Bz sa (λz:(List (Int×Int×Int×Int×Bool))×Nat=>⟨[(2,.box (1,1) 0),(3,.box (104,2) 0)],[(.c (104,2) 0,Ap r5509),(.c (104,2) 1,AS z.1),(.c (1,1) 0,.sl 0 true [] []),(.c (1,1) 1,.sl 0 true [] [])],z.2⟩) (λz=>(z.1:(List (Int×Int×Int×Int×Bool)))) (.x 0) ?_ ?_
 ·refine Bp (λn (y:Int×(List (Int×Int×Int×Int×Bool))×Nat)=>DR N x5507 r5509 n y.1 y.2.1) (λy=>⟨[(1,.box (0,1) 0),(2,.box (1,1) 0),(3,.box (104,2) 0),(4,.i y.1)],[(.c (104,2) 0,Ap r5509),(.c (104,2) 1,AS y.2.1),(.c (1,1) 0,.sl 0 true [] []),(.c (1,1) 1,.sl 0 true [] []),(.c (0,1) 0,GS dh),(.c (0,1) 1,Ov x5507),(.c (0,1) 2,GS d8)],y.2.2⟩) (0,[],3) ja (Ch F) ?_;rintro n ⟨aj,b9,iy⟩ ab;simp only[DR]at ab;refine An hS F ab (λ_ ab=>?_) (λ_ ab=>?_)
  ·obtain⟨⟨jk,jj,ji,gm⟩,pq,ab⟩:=un ab;obtain⟨sr,F⟩:=Cb Kf pq F;obtain⟨jt,mt,⟨jh,qe,qd,x5578,qc,qb⟩,pp,ab⟩:=un ab;obtain⟨sq,F⟩:=Cb Au pp (fc mt F);obtain⟨js,mr,sk,gx,mq,sj,gw,mo,sg,jr,mn,⟨gv,jq⟩,mj,ab⟩:=un ab;replace F:=fc mj (fc mn (fc mo (fc mq (fc mr F))));refine An hS F ab (λ_ ab=>?_) (λ_ ab=>?_)
   ·obtain⟨sy,ab⟩:=un ab;exact Cd hS F (n,aj+1,gv,iy+1+1+1+1+1+1+1+1) ab
   ·obtain⟨sx,ab⟩:=un ab;exact Cd hS F (n,aj+1,b9,iy+1+1+1+1+1+1+1) ab
  ·exact B4 hS F (b9,iy+1) ab
 ·rintro⟨jo,tc⟩ rfl;exact Ai hS F h
def Db(N:Nat)(x5601:List (Int×Int×Int×Int×Int×Int)):Nat->Int->Int->(List (Int×(Int×Int×Int×(List (Int×Int))×Int×Int)×Int×Int×Int×(Int×Int×Int×Int×Bool)))->(List (Int×Int×Int×(List (Int×Int))×Int×Int))->(List (Int×Int×Int×Int×Bool))->Option (Int×(List (Int×(Int×Int×Int×(List (Int×Int))×Int×Int)×Int×Int×Int×(Int×Int×Int×Int×Bool))))|0,_,_,_,_,_=>none|n+1,aa,af,l5665,dq,dm=>bif (decide (af<(x5601.length:Int)))&&(decide (af<8))then((A7 x5601 af).bind λ(jg,jf,je,jd,jc,jb)=>(F5 N dq dm jg jf je jd jc jb).bind λ(bo,(bn,bm,bl,bj,bi,bh),bg,bf,be,(bb,ba,az,ay,aw))=>gd ((l5665.length+1)*136<=140737488355328)<|(D0 N dq dm bo bn bm bl bj bi bh bg bf be bb ba az ay aw).bind λ((du,dt),jp)=>bif decide (jp=0)then(bif decide (aa=af)then(gd (Af (aa+1))<|gd (Af (af+1))<|Db N x5601 n (aa+1) (af+1) (l5665++[(bo,(bn,bm,bl,bj,bi,bh),bg,bf,be,(bb,ba,az,ay,aw))]) du dt)else(gd (Af (af+1))<|Db N x5601 n aa (af+1) (l5665++[(bo,(bn,bm,bl,bj,bi,bh),bg,bf,be,(bb,ba,az,ay,aw))]) du dt))else(gd (Af (af+1))<|Db N x5601 n aa (af+1) (l5665++[(bo,(bn,bm,bl,bj,bi,bh),bg,bf,be,(bb,ba,az,ay,aw))]) dq dm))else(some (aa,l5665))
def GA(N:Nat)(dg:List (Int×Int×Int×Int×Int×Int))(de:List (Int×Int×Int×Int))(x5601:List (Int×Int×Int×Int×Int×Int)):Option ((List (Int×(Int×Int×Int×(List (Int×Int))×Int×Int)×Int×Int×Int×(Int×Int×Int×Int×Bool)))×Int):=(Dp N dg de x5601).bind λ(gu,gt)=>(Db N x5601 N 0 0 [] gu gt).bind λ(dz,me)=>some (me,dz)
@[go_sem] def s13(N:Nat):Spec:=p0<|pG<|pS GR λdg=>pS Nt λde=>pS GR λx5601=>pE<|pE<|pF (GA N dg de x5601) ([],0) λr=>.tup [Ay r.1,.i r.2]
theorem Aco(N:Nat):AG Tryz.prog 13 (s13 N):=by
 refine Ar x13.ok<|Aw<|AF λdg=>AF λde=>AF λx5601=>Ad<|Ad<|As λr h=>wx x13 (Ab (ZI N)<|Ab (oF N)<|Ab (U1 N)<|Aj) λ_ hS F=>?_
 dsimp only[x13,Ah,Nt,GR];unfold GA at h;obtain⟨⟨gu,gt⟩,mh,h⟩:=un h;replace F:=fc mh F;refine go hS F ?_;refine DT 1000001 5 15 [.i 0,.i 0,.i 0,.i 0,.sl 0 true [] [],.i 0,.i 0,.i 0,.i 0,.i 0,.i 0,.i 0,.i 0,.i 0,.b false] (by show(5:Nat)<51;omega) (by omega) (ev F) ?_;obtain⟨rz,ja,h⟩:=un h;refine go hS F ?_;refine Bz rz (λz:Int×(List (Int×(Int×Int×Int×(List (Int×Int))×Int×Int)×Int×Int×Int×(Int×Int×Int×Int×Bool)))×Nat=>⟨[(5,.own (1000001,6) z.2.1.length),(6,.i z.1)],[(.a (1000001,6),EW z.2.1)],z.2.2⟩) (λz=>((z.1,z.2.1):Int×(List (Int×(Int×Int×Int×(List (Int×Int))×Int×Int)×Int×Int×Int×(Int×Int×Int×Int×Bool))))) (.x 0) ?_ ?_
 ·refine Bp (λn (y:Int×Int×(List (Int×(Int×Int×Int×(List (Int×Int))×Int×Int)×Int×Int×Int×(Int×Int×Int×Int×Bool)))×(List (Int×Int×Int×(List (Int×Int))×Int×Int))×(List (Int×Int×Int×Int×Bool))×Nat)=>Db N x5601 n y.1 y.2.1 y.2.2.1 y.2.2.2.1 y.2.2.2.2.1) (λy=>⟨[(1,.box (0,1) 0),(4,.box (102,2) 0),(5,.own (1000001,6) y.2.2.1.length),(6,.i y.1),(7,.i y.2.1)],[(.a (1000001,6),EW y.2.2.1),(.c (102,2) 0,Ap y.2.2.2.1),(.c (102,2) 1,AS y.2.2.2.2.1),(.c (0,1) 0,GS dg),(.c (0,1) 1,Ov de),(.c (0,1) 2,GS x5601)],y.2.2.2.2.2⟩) (0,0,[],gu,gt,6) ja (Ch F) ?_;rintro n ⟨aa,af,l5665,dq,dm,fr⟩ ab;simp only[Db]at ab;refine An hS F ab (λ_ ab=>?_) (λ_ ab=>?_)
  ·obtain⟨⟨jg,jf,je,jd,jc,jb⟩,po,ab⟩:=un ab;obtain⟨sn,F⟩:=Cb GQ po F;obtain⟨⟨bo,⟨bn,bm,bl,bj,bi,bh⟩,bg,bf,be,⟨bb,ba,az,ay,aw⟩⟩,mg,ab⟩:=un ab;obtain⟨sk,⟨⟨du,dt⟩,jp⟩,mf,ab⟩:=un ab;replace F:=fc mf (fc mg F);refine An hS F ab (λ_ ab=>?_) (λ_ ab=>?_)
   ·refine An hS F ab (λ_ ab=>?_) (λ_ ab=>?_)
    ·obtain⟨sj,sg,ab⟩:=un ab;exact Cd hS F (n,aa+1,af+1,l5665++[(bo,(bn,bm,bl,bj,bi,bh),bg,bf,be,(bb,ba,az,ay,aw))],du,dt,fr+1+1+1+1+1+1+1+1+1) ab
    ·obtain⟨sy,ab⟩:=un ab;exact Cd hS F (n,aa,af+1,l5665++[(bo,(bn,bm,bl,bj,bi,bh),bg,bf,be,(bb,ba,az,ay,aw))],du,dt,fr+1+1+1+1+1+1+1+1) ab
   ·obtain⟨sx,ab⟩:=un ab;exact Cd hS F (n,aa,af+1,l5665++[(bo,(bn,bm,bl,bj,bi,bh),bg,bf,be,(bb,ba,az,ay,aw))],dq,dm,fr+1+1+1+1+1+1) ab
  ·exact B4 hS F (aa,l5665,fr+1) ab
 ·rintro⟨dz,me,ta⟩ rfl;exact E2 hS F h
end
section
variable{N:Nat}(hN:1001<=N)
include hN
omit hN in
theorem TI{f:List Un}(h:FV f)(t:Int):∀n i (l:List Un),i<=f.length->f.length<n+i->l.length<=i->Dg N f t n (i:Nat) l=some (l++(f.drop i).filter λv=>decide (v.1≠t))
 |0,i,l,h1,h2,_=>by omega
 |n+1,i,l,h1,h2,h3=>by
  have hl:=h.len;rw[Dg];by_cases e:i=f.length
  ·subst e;rw[F2,cF,uO];simp
  ·have hi:i<f.length:=by omega
   have v8:=(h.val _ (FH hi)).l.l8;rw[Dq hi,cT,Fs hi,bS];simp only;rw[pA hi,List.filter_cons,<-Fb hi];by_cases c:(A2 f i).1≠t
   ·have hcp:BY N (A2 f i).1 (A2 f i).2.1 (A2 f i).2.2.1 (A2 f i).2.2.2.1 (A2 f i).2.2.2.2.1 (A2 f i).2.2.2.2.2=some ((A2 f i).1,(A2 f i).2.1,(A2 f i).2.2.1,(A2 f i).2.2.2.1,(A2 f i).2.2.2.2.1,(A2 f i).2.2.2.2.2):=KX N (by omega);rw[AU _ (aB c),hcp,bS];simp only;rw[Ae (by omega),Ae (by unfold Af;omega),<-ns,TI h t n (i+1) _ (by omega) (by omega) (by simp;omega),fU (aB c),sG];rfl
   ·rw[A1 _ (bJ c),Ae (by unfold Af;omega),<-ns,TI h t n (i+1) _ (by omega) (by omega) (by omega),eG (by rw[bK];exact c)]
open Classical in
theorem mX{f:List Un}(hl:f.length<=1000)(t:Int):FZ N f t=some (if FV f/\∃u∈f,u.1=t then(EZ f t,0)else([],120)):=by
 have hf:Dm N f t=some (((Df f t).1.1,(Df f t).1.2.1,(Df f t).1.2.2.1,(Df f t).1.2.2.2.1,(Df f t).1.2.2.2.2.1,(Df f t).1.2.2.2.2.2),(Df f t).2):=oW hN hl t;unfold FZ;rw[hf,bS]
 (try simp only)
 by_cases h:FV f
 ·have h2:(Df f t).2=decide (∃u∈f,u.1=t):=by
   unfold Df;rw[fU h];by_cases c:∃v∈f,v.1=t
   ·rw[aB c];obtain⟨v,hv,rfl⟩:=c;obtain⟨k,hk,rfl⟩:=Lm hv;rw[OE h hk]
   ·rw[bJ c,OF c]
  have hl:=h.len;have L:=TI (N:=N) h t N 0 [] (by omega) (by omega) (by simp);rw[oL,t7,rA]at L;rw[h2];by_cases c:∃u∈f,u.1=t
  ·rw[aB c,A1 _ (by rfl),L,bS,fU ⟨h,c⟩];rfl
  ·rw[bJ c,AU _ (by rfl),eG λq=>c q.2]
 ·have h2:(Df f t).2=false:=by unfold Df;rw[eG h]
  rw[h2,AU _ (by rfl),eG λq=>h q.1]
omit hN in
theorem Pu{ms:List Mk}(hl:ms.length<=1000)(id:Int):∀n k (l:List Mk),k<=ms.length->ms.length<n+k->l.length<=k->C6 N ms id n (k:Nat) l=some (l++(ms.drop k).filter (I2 id))
 |0,k,l,h1,h2,_=>by omega
 |n+1,k,l,h1,h2,h3=>by
  rw[C6];by_cases e:k<ms.length
  ·rw[Dq e,cT,E7 e,bS];simp only;rw[pA e,List.filter_cons,<-FJ e];by_cases c:(Bi ms k).2.1≠id
   ·rw[aB c,AU _ (by rfl),Ae (by omega),Ae (by unfold Af;omega),<-ns,Pu hl id n (k+1) _ (by omega) (by omega) (by simp;omega),fU (show I2 id (Bi ms k)=true from aB c),sG];rfl
   ·rw[bJ c,A1 _ (by rfl),Ae (by unfold Af;omega),<-ns,Pu hl id n (k+1) _ (by omega) (by omega) (by omega),eG (show¬I2 id (Bi ms k)=true by unfold I2;rw[bK];exact c)]
  ·have e3:k=ms.length:=by omega
   subst e3;rw[F2,cF,uO];simp
theorem Xm{ms:List Mk}(hl:ms.length<=1000)(id:Int):DQ N ms id=some (ms.filter (I2 id)):=by unfold DQ;have:=Pu (N:=N) hl id N 0 [] (by omega) (by omega) (by simp);rw[oL,t7,rA]at this;rw[this,bS]
omit hN in
theorem Xn{ms:List Mk}{m:Mk}(h:∀x∈ms,x.1<m.1):Hx ms m=ms++[m]:=by unfold Hx;rw[Jb.2 λx hx=>aB (h x hx),Jh.2 λx hx=>by rw[bK];have:=h x hx;omega]
omit hN in
theorem UA{ms:List Mk}{m x:Mk}(h:m.1<=x.1):Hx (ms++[x]) m=Hx ms m++[x]:=by unfold Hx;rw[yR,yR,Jh.2 (show∀y∈[x],¬(decide (y.1<m.1)=true)from λy hy=>by rw[vG.1 hy,bK];omega),sF,Jb.2 (show∀y∈[x],decide (m.1<=y.1)=true from λy hy=>by rw[vG.1 hy];exact aB h),sG];rfl
omit hN in
theorem RY(ms:List Mk)(m:Mk):(Hx ms m).length<=2*ms.length+1:=by unfold Hx;have h1:=List.length_filter_le (λx:Mk=>decide (x.1<m.1)) ms;have h2:=List.length_filter_le (λx:Mk=>decide (m.1<=x.1)) ms;simp only[nK,rB];omega
omit hN in
theorem RZ{ms:List Mk}(hl:ms.length<=1000)(hs:ms.Pairwise λa b=>a.1<b.1)(m:Mk):∀n k (l:List Mk) (pt:Bool),k<=ms.length->ms.length<n+k->(∀x∈ms.take k,x.1≠m.1)->((pt=false/\l=ms.take k/\∀x∈ms.take k,x.1<m.1)\/(pt=true/\l=Hx (ms.take k) m/\∃x∈ms.take k,m.1<x.1))->((∃x∈ms,x.1=m.1)/\Dx N ms m.1 m.2.1 m.2.2.1 m.2.2.2.1 m.2.2.2.2 n pt (k:Nat) l=some (.inr ([],false)))\/((∀x∈ms,x.1≠m.1)/\∃p' l',Dx N ms m.1 m.2.1 m.2.2.1 m.2.2.2.1 m.2.2.2.2 n pt (k:Nat) l=some (.inl (p',l'))/\l'.length<=2*ms.length+1/\(bif !p' then l'++[m]else l')=Hx ms m)
 |0,k,l,pt,h1,h2,_,_=>by omega
 |n+1,k,l,pt,h1,h2,h3,h4=>by
  rw[Dx];by_cases e:k<ms.length
  ·have tk:=Vi e;rw[Dq e,cT,E7 e,bS];simp only;by_cases c:(Bi ms k).1=m.1
   ·rw[aB c,cT];exact .inl ⟨⟨_,J5 e,c⟩,rfl⟩
   ·have h3':∀x∈ms.take (k+1),x.1≠m.1:=λx hx=>by
     rw[tk,oJ,vG]at hx;rcases hx with hx|rfl
     ·exact h3 x hx
     ·exact c
    rw[bJ c,cF];have ll:l.length<=2*k+1:=by
     rcases h4 with⟨_,rfl,_⟩|⟨_,rfl,_⟩
     ·rw[u9];omega
     ·have:=RY (ms.take k) m;rw[u9]at this;omega
    by_cases c2:((!pt)&&decide (m.1<(Bi ms k).1))=true
    ·rw[c2,cT,Ae (by omega),bS];rw[oK,bK,w5]at c2;rcases h4 with⟨_,rfl,g⟩|⟨g,_⟩
     ·simp only;rw[Ae (by simp only[nK,rB,yH];omega),Ae (by unfold Af;omega),<-ns];refine RZ hl hs m n (k+1) _ true (by omega) (by omega) h3' (.inr ⟨rfl,?_,Bi ms k,by rw[tk];simp,c2.2⟩);rw[tk,UA (by omega),Xn g]
     ·rw[g]at c2;cases c2.1
    ·rw[u0.2 c2,cF,bS];simp only;rw[Ae (by omega),Ae (by unfold Af;omega),<-ns];rw[oK,bK,w5]at c2;refine RZ hl hs m n (k+1) _ pt (by omega) (by omega) h3' ?_;rcases h4 with⟨p1,rfl,g⟩|⟨p1,rfl,y,hy,g⟩
     ·refine .inl ⟨p1,by rw[tk],λx hx=>?_⟩;rw[tk,oJ,vG]at hx;rcases hx with hx|rfl
      ·exact g x hx
      ·have:¬m.1<(Bi ms k).1:=λw=>c2 ⟨p1,w⟩
       omega
     ·refine .inr ⟨p1,?_,y,by rw[tk];exact List.mem_append_left _ hy,g⟩;have:y.1<(Bi ms k).1:=by obtain⟨j,hj,rfl⟩:=List.mem_iff_getElem.1 hy;rw[u9]at hj;rw[List.getElem_take,<-FJ (by omega)];exact I1.1 hs j k (by omega) e
      rw[tk,UA (by omega)]
  ·have e3:k=ms.length:=by omega
   subst e3;rw[ID]at h3 h4;rw[F2,cF];refine .inr ⟨h3,pt,l,rfl,?_,?_⟩
   ·rcases h4 with⟨_,rfl,_⟩|⟨_,rfl,_⟩
    ·omega
    ·exact RY _ _
   ·rcases h4 with⟨rfl,rfl,g⟩|⟨rfl,rfl,_⟩
    ·rw[Xn g];rfl
    ·rfl
open Classical in
theorem fR{ms:List Mk}(hl:ms.length<=1000)(hs:ms.Pairwise λa b=>a.1<b.1)(m:Mk):E9 N ms m.1 m.2.1 m.2.2.1 m.2.2.2.1 m.2.2.2.2=some (if∃x∈ms,x.1=m.1 then([],false)else(Hx ms m,true)):=by
 unfold E9;have F:=RZ (N:=N) hl hs m N 0 [] false (by omega) (by omega) (by simp) (.inl ⟨rfl,by simp,by simp⟩);rw[oL]at F;rcases F with⟨h,e⟩|⟨h,p',l',e,ll,e2⟩
 ·rw[e,bS,fU h]
 ·rw[e,bS,eG λ⟨x,hx,e⟩=>h x hx e];simp only;cases p' with
  |false=>rw[Gc,cT,Ae (by omega),bS];rw[Gc,cT]at e2;exact congrArg (λl=>some (l,true)) e2
  |true=>rw[H7,cF,bS];rw[H7,cF]at e2;rw[e2]
open Classical in
theorem Y0{f:List Un}{ms:List Mk}(hm:MV f ms)(id:Int)(b:Bool):∃r,ET N ms id b=some r/\(∀g:List Un,(if r.2=true then some (g,r.1)else none)=(if∃x∈ms,x.1=id/\x.2.2.2.2≠b then some (g,ms.map (TF id b))else none))/\r.1.length<=20:=by
 have hl:=hm.len;unfold ET;rw[Ae (by omega)];have F:=GK (L:=CQ N ms id b) (len:=ms.length) (λk=>if(Bi ms k).1=id then some (ms.set k ((Bi ms k).1,(Bi ms k).2.1,(Bi ms k).2.2.1,(Bi ms k).2.2.2.1,b),((Bi ms k).2.2.2.2 !=b))else none) (λn k hk e=>?_) (λn k r hk e=>?_) (λn=>?_) N (by omega)
 ·rcases F with⟨e,h⟩|⟨j,r,hj,h,_,e⟩
  ·rw[e,bS];refine⟨_,rfl,λg=>?_,by simp⟩;rw[eG (by simp),eG];rintro⟨x,hx,e,_⟩;obtain⟨k,hk,rfl⟩:=Ml hx;have:=h k hk;rw[fU e]at this;cases this
  ·by_cases c:(Bi ms j).1=id
   ·rw[fU c]at h;cases h
    rw[e,bS];refine⟨_,rfl,λg=>?_,by rw[List.length_set];omega⟩;simp only;rw[TH hm hj,c];by_cases t:(Bi ms j).2.2.2.2=b
    ·rw[eG (by rw[t];simp),eG];rintro⟨x,hx,e,e2⟩;obtain⟨k,hk,rfl⟩:=Ml hx;have:j=k:=by
      apply IG;intro hne;by_cases c:k<j
      ·have:=I1.1 hm.srt k j c hj;omega
      ·have:=I1.1 hm.srt j k (by omega) hk;omega
     subst this;exact e2 t
    ·rw[fU (by rw[bne_iff_ne];exact t),fU ⟨_,J5 hj,c,t⟩]
   ·rw[eG c]at h;cases h
 ·have c:¬(Bi ms k).1=id:=λc=>by rw[fU c]at e;cases e
  rw[CQ,Dq hk,cT,E7 hk,bS];simp only;rw[bJ c,cF,Ae (by unfold Af;omega),ns]
 ·by_cases c:(Bi ms k).1=id
  ·rw[fU c]at e;cases e
   rw[CQ,Dq hk,cT,E7 hk,bS];simp only;rw[aB c,cT,t9]
  ·rw[eG c]at e;cases e
 ·rw[CQ,F2,cF]
omit hN in
theorem mY{l:List Pt}(h:VP l)(i k:Int):(Ka l i k).1.length<=20/\(Ka l i k).2.1.length<=20:=by
 have l8:=h.l8;have l3:=h.l3;unfold Ka Tq;split
 ·split
  ·exact⟨by simp,by simp⟩
  ·simp only[By];unfold Eb;have h1:=t6 (k.toNat+l.length-i.toNat) (show 0<l.length by omega);have h2:=t6 (i.toNat+l.length-k.toNat) (show 0<l.length by omega);omega
 ·exact⟨by simp,by simp⟩
omit hN in
theorem Xo{f:List Un}(h1:f.length<=1000)(h8:∀u∈f,u.2.2.2.1.length<=1000):∀n k,k<=f.length->f.length<n+k->EG N f n (k:Nat) (f.take k)=some f
 |0,k,_,_=>by omega
 |n+1,k,h2,h3=>by
  rw[EG];by_cases e:k<f.length
  ·rw[Dq e,cT,Fs e,bS];simp only;rw[KX N (h8 _ (FH e)),bS];rw[Ae (by rw[u9];omega),Ae (by unfold Af;omega),<-ns];have:=Xo h1 h8 n (k+1) (by omega) (by omega);rw[KZ e]at this;exact this
  ·have e3:k=f.length:=by omega
   subst e3;rw[F2,cF,ID]
theorem Ac3{f:List Un}(h1:f.length<N)(h9:f.length<=1000)(h8:∀u∈f,u.2.2.2.1.length<=1000){ms:List Mk}(hl:ms.length<=1000):CH N f ms=some (f,ms):=by have:=Xo (N:=N) h9 h8 N 0 (by omega) (by omega);rw[List.take_zero,oL]at this;unfold CH HZ;rw[this,bS,bS,Ae (by omega)]
theorem Pv{f:List Un}(hf:FV f){ms:List Mk}(hl:ms.length<=1000)(ok:Bool):(gd ((!(!ok))=true->((Bn N f ms).isSome=true))<|bif (!ok)||(!((Bn N f ms).getD false))then some ((([]:List Un),([]:List Mk)),(170:Int))else((CH N f ms).bind λ(r1,r2)=>some ((r1,r2),0)))=some (IM (if ok=true/\MV f ms then some (f,ms)else none)):=by
 rw[Xi hN f hl,BR (λ_=>mU),qO];have fl:=hf.len;have f8:=hf.lens;cases ok with
 |false=>rw[AU _ (by rfl),eG (by simp)];rfl
 |true=>
  by_cases c:MV f ms
  ·rw[aB (p:=SV f ms) ⟨hf,c⟩,A1 _ (by rfl),fU ⟨rfl,c⟩,Ac3 hN (by omega) (by omega) (λu hu=>by have:=f8 u hu;omega) hl,bS];rfl
  ·rw[bJ (p:=SV f ms) λw=>c w.2,AU _ (by rfl),eG λw=>c w.2];rfl
theorem Kl{f:List Un}{ms:List Mk}:(gd ((!(!false))=true->((Bn N f ms).isSome=true))<|bif (!false)||(!((Bn N f ms).getD false))then some ((([]:List Un),([]:List Mk)),(170:Int))else((CH N f ms).bind λ(r1,r2)=>some ((r1,r2),0)))=some (IM none):=by rw[BR (λh=>by cases h),AU _ (by rfl)];rfl
variable(a b c p q id i k m1 m2 m3 m4:Int)(l:List Pt)(o:Bool)
theorem Abz{f:List Un}(h:FV f)(t:Int):Dm N f t=some (((Df f t).1.1,(Df f t).1.2.1,(Df f t).1.2.2.1,(Df f t).1.2.2.2.1,(Df f t).1.2.2.2.2.1,(Df f t).1.2.2.2.2.2),(Df f t).2):=oW hN (by have:=h.len;omega) t
theorem qG(h9:N<=100000){f:List Un}{ms:List Mk}(hl:ms.length<=1000)(n:Int):D0 N f ms n a b c l p q id i k m1 m2 m3 m4 o=some (IM (Ig (f,ms) (n,(a,b,c,l,p,q),id,i,k,(m1,m2,m3,m4,o)))):=by
 unfold D0;rw[Xi hN f hl,bS,YX hN,BR (λ_=>mU),qO];by_cases h:SV f ms/\FA (n,(a,b,c,l,p,q),id,i,k,(m1,m2,m3,m4,o))
 ·obtain⟨h,fa⟩:=h;have ml:=h.2.len;rw[aB h,aB fa,A1 _ (by rfl),LB h fa];by_cases e5:n=5
  ·subst e5;have ra:=fR hN (ms:=ms) (by omega) h.2.srt (m1,m2,m3,m4,o);simp only at ra;rw[AU _ (by rfl),ra,bS,Abu];by_cases t:∃x∈ms,x.1=m1
   ·rw[fU t,fU t];exact Kl hN
   ·rw[eG t,eG t];have:=RY ms (m1,m2,m3,m4,o);have:=Pv hN h.1 (ms:=Hx ms (m1,m2,m3,m4,o)) (by omega) true;simp only[true_and]at this;exact this
  rw[A1 _ (bJ e5)];by_cases e6:n=6
  ·subst e6;obtain⟨r,r1,r2,r3⟩:=Y0 hN h.2 id false;rw[AU _ (by rfl),r1,bS,Abv,<-r2 f];have:=Pv hN h.1 (ms:=r.1) (by omega) r.2;refine this.trans ?_;by_cases t:r.2=true
   ·rw[fU t];simp only[t,true_and]
   ·rw[eG t,eG λw=>t w.1]
  rw[A1 _ (bJ e6)];by_cases e7:n=7
  ·subst e7;obtain⟨r,r1,r2,r3⟩:=Y0 hN h.2 id true;rw[AU _ (by rfl),r1,bS,Abw,<-r2 f];have:=Pv hN h.1 (ms:=r.1) (by omega) r.2;refine this.trans ?_;by_cases t:r.2=true
   ·rw[fU t];simp only[t,true_and]
   ·rw[eG t,eG λw=>t w.1]
  rw[A1 _ (bJ e7)];unfold G4;rw[Ae (by omega)];have rv:FV (EZ f id):=h.1.sub List.filter_sublist;have fl:=RW ms (I2 id);by_cases e1:n=1
  ·subst e1;have uv:=(fa1.1 fa).1;have l8:l.length<=8:=uv.l.l8;have ra:=W3 hN f (u:=(a,b,c,l,p,q)) (by show l.length<=1000;omega);simp only at ra;rw[AU _ (by rfl),ra,bS,Abq];by_cases t:Fit f (a,b,c,l,p,q)
   ·rw[fU t,fU t];have:=Pv hN t.fv (ms:=ms) (by omega) true;simp only[true_and]at this;exact this
   ·rw[eG t,eG t];exact Kl hN
  rw[A1 _ (bJ e1),Abz hN h.1,bS];by_cases e2:n=2
  ·subst e2;rw[Abr];rcases OJ h.1 id with⟨_,g2,t⟩|⟨u,hu,t,_,g2⟩
   ·rw[g2,eG t];simp only;rw[AU _ (by rfl),bS];exact Kl hN
   ·rw[g2,fU ⟨u,hu,t⟩];simp only;rw[A1 _ (by rfl),mX hN (by have:=h.1.len;omega) id,bS,fU ⟨h.1,u,hu,t⟩];simp only;rw[AU _ (by rfl),Xm hN (by omega),bS,bS];have:=Pv hN rv (ms:=ms.filter (I2 id)) (by omega) true;simp only[true_and]at this;exact this
  by_cases e4:n=4
  ·subst e4;have fb:=qC.1 fa;rw[Abt];rcases OJ h.1 id with⟨g1,g2,t⟩|⟨u,hu,t,g1,g2⟩
   ·rw[g1,g2];simp only;rw[AU _ (by rfl),bS];exact Kl hN
   ·rw[g1,g2];simp only;have um:=qE (N:=N) (by omega) (h.1.val u hu) (d:=(i,k)) (by unfold Qg;omega);obtain⟨r,q1,q2,q3⟩:=AcS (N:=N) hN u.1 u.2.1 u.2.2.1 u.2.2.2.1 u.2.2.2.2.1 u.2.2.2.2.2 i k;simp only at um;rw[um]at q1;rw[<-yJ q1]at q2;rw[A1 _ (by rfl),mX hN (by have:=h.1.len;omega) id,bS,fU ⟨h.1,u,hu,t⟩];simp only;rw[A1 _ (by rfl),AU _ (by rfl),q2,bS];by_cases t3:Xk (i,k) u
    ·rw[fU t3];simp only;have ra:=W3 hN (EZ f id) (u:=S5 (i,k) u) (by have:=h.1.lens u hu;show(u.2.2.2.1.map _).length<=1000;rw[rC];omega);rw[A1 _ (by rfl),ra,bS];by_cases t1:Fit (EZ f id) (S5 (i,k) u)
     ·rw[fU t1,fU ⟨t3,t1⟩];have:=Pv hN t1.fv (ms:=ms) (by omega) true;simp only[true_and]at this;exact this
     ·rw[eG t1,eG λw=>t1 w.2];exact Kl hN
    ·rw[eG t3,eG λw=>t3 w.1];simp only[PE];rw[AU _ (by rfl),bS];exact Kl hN
  have e3:n=3:=by apply IG;intro e3;exact fM (by omega) fa
  ·subst e3;have fb:=qB.1 fa;rw[Abs];rcases OJ h.1 id with⟨g1,g2,t⟩|⟨u,hu,t,g1,g2⟩
   ·rw[g1,g2];simp only;rw[AU _ (by rfl),bS];exact Kl hN
   ·rw[g1,g2];simp only;have vp:=(h.1.val u hu).l;rw[A1 _ (by rfl),mX hN (by have:=h.1.len;omega) id,bS,fU ⟨h.1,u,hu,t⟩];simp only;have zl:=mY vp i k;rw[A1 _ (by rfl),A1 _ (by rfl),fQ vp fb.2.2.2.1.1 fb.2.2.2.2.1.1 (by omega),bS];generalize Ka u.2.2.2.1 i k=z at zl⊢;obtain⟨z1,z2,z3⟩:=z;simp only at zl⊢;by_cases t3:z3=0
    ·subst t3;have a1:=W3 hN (EZ f id) (u:=Ia u z1) (by show z1.length<=1000;omega);have a2:=W3 hN (Gm (EZ f id) (Ia u z1)) (u:=Ps (Ia u z2) a) (by show z2.length<=1000;omega);unfold Ia at a1;unfold Ia Ps at a2⊢;simp only at a1 a2⊢;rw[A1 _ (by rfl),Xm hN (by omega),bS,a1,bS];by_cases t1:Fit (EZ f id) (u.1,u.2.1,u.2.2.1,z1,u.2.2.2.2.1,u.2.2.2.2.2)
     ·rw[fU t1];simp only;rw[A1 _ (by rfl),a2,bS];by_cases t2:Fit (Gm (EZ f id) (u.1,u.2.1,u.2.2.1,z1,u.2.2.2.2.1,u.2.2.2.2.2)) (a,u.2.1,u.2.2.1,z2,u.2.2.2.2.1,u.2.2.2.2.2)
      ·rw[fU t2,fU ⟨trivial,t1,t2⟩];have:=Pv hN t2.fv (ms:=ms.filter (I2 id)) (by omega) true;simp only[true_and]at this;exact this
      ·rw[eG t2,eG λw=>t2 w.2.2];exact Kl hN
     ·rw[eG t1,eG λw=>t1 w.2.1];simp only;rw[AU _ (by rfl),bS];exact Kl hN
    ·rw[AU _ (aB t3),eG λw=>t3 w.1,bS];exact Kl hN
 ·rw[show Ig (f,ms) (n,(a,b,c,l,p,q),id,i,k,(m1,m2,m3,m4,o))=none from eG h,AU]
  ·rfl
  ·by_cases h1:SV f ms
   ·rw[bJ (p:=FA (n,(a,b,c,l,p,q),id,i,k,(m1,m2,m3,m4,o))) λw=>h ⟨h1,w⟩];simp
   ·rw[bJ h1];simp
end
