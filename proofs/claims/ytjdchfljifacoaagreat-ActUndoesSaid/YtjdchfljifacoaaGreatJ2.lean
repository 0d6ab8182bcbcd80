import Derived.Test.YtjdchfljifacoaaGreatJ6
set_option linter.all false
set_option maxRecDepth 100000
set_option maxHeartbeats 8000000
namespace Go.Proofs.YtjdchfljifacoaaGreat.Am
open Go
attribute [local irreducible] Ax BO BB Bj BC Bk AY BD BK Cq
def Kf(x:Int×Int×Int×Int):List AV:=[.i x.1,.i x.2.1,.i x.2.2.1,.i x.2.2.2]
def SK:List AV->Int×Int×Int×Int|[.v (.int _ a1),.v (.int _ a2),.v (.int _ a3),.v (.int _ a4)]=>(a1,a2,a3,a4)|_=>(0,0,0,0)
theorem sU(x:Int×Int×Int×Int):SK (Kf x)=x:=by rfl
theorem sV(R:List (Int×Int×Int×Int)):(R.map Kf).map SK=R:=by
 induction R with
 |nil=>rfl
 |cons r R ih=>rw[jW,jW,ih,sU]
def Nt:Rw (Int×Int×Int×Int):=⟨4,Kf,SK,[.i 0,.i 0,.i 0,.i 0]⟩
def Ov(l:List (Int×Int×Int×Int)):AV:=.sl 4 false (l.map Kf) [.i 0,.i 0,.i 0,.i 0]
def Aae(l:List (Int×Int×Int×Int)):AV:=.sl 4 true (l.map Kf) [.i 0,.i 0,.i 0,.i 0]
attribute [go_sem] Nt Ov Aae Kf SK sV
def G4(N:Nat)(ci:List (Int×Int×Int×(List (Int×Int))×Int×Int))(s3911:List (Int×Int×Int×Int×Bool))(db:Int)(ei:Int)(iq:Int)(ip:Int)(im:List (Int×Int))(ij:Int)(ii:Int)(b9:Int)(eh:Int)(ee:Int)(jw:Int)(jv:Int)(ju:Int)(jt:Int)(js:Bool):Option (((List (Int×Int×Int×(List (Int×Int))×Int×Int))×(List (Int×Int×Int×Int×Bool)))×Bool):=gd ((s3911.length)*40<=140737488355328)<|bif decide (db=1)then((DK N ci ei iq ip im ij ii).bind λ(n7,n6)=>some ((n7,s3911),decide (n6=0)))else((Dm N ci b9).bind λ((jo,g9,g8,jn,gz,gy),n5)=>bif !n5 then(some (([],s3911),false))else((FZ N ci b9).bind λ(gx,t6)=>bif decide (db=2)then((DQ N s3911 b9).bind λn4=>some ((gx,n4),true))else(bif decide (db=4)then((Gx N jo g9 g8 jn gz gy eh ee).bind λ((n0,nz,nw,nv,nu,nr),nq)=>bif decide (nq≠0)then(some (([],s3911),false))else((DK N gx n0 nz nw nv nu nr).bind λ(nl,nk)=>some ((nl,s3911),decide (nk=0))))else((EX N jn eh ee).bind λ(nj,nh,ng)=>bif decide (ng≠0)then(some (([],s3911),false))else((DQ N s3911 b9).bind λjm=>(DK N gx jo g9 g8 nj gz gy).bind λ(nf,nc)=>bif decide (nc≠0)then(some (([],jm),false))else((DK N nf ei g9 g8 nh gz gy).bind λ(mz,my)=>some ((mz,jm),decide (my=0))))))))
@[go_sem] def s63(N:Nat):Spec:=p0<|pG<|pD Ak λci=>pD AA λs3911=>pE<|pG<|pI λdb=>pI λei=>pI λiq=>pI λip=>pD Aq λim=>pI λij=>pI λii=>pI λb9=>pI λeh=>pI λee=>pI λjw=>pI λjv=>pI λju=>pI λjt=>pB λjs=>pE<|pE<|pF (G4 N ci s3911 db ei iq ip im ij ii b9 eh ee jw jv ju jt js) (([],[]),false) λr=>.tup [.agg [Ap r.1.1,AS r.1.2],.b r.2]
theorem Acm(N:Nat):AG Tryz.prog 63 (s63 N):=by
 refine Ar x63.ok<|Aw<|AM λci=>AM λs3911=>Ad<|Aw<|Aa λdb=>Aa λei=>Aa λiq=>Aa λip=>AM λim=>Aa λij=>Aa λii=>Aa λb9=>Aa λeh=>Aa λee=>Aa λjw=>Aa λjv=>Aa λju=>Aa λjt=>AX λjs=>Ad<|Ad<|As λr h=>wx x63 (Ab (nU N)<|Ab (ZC N)<|Ab (yY N)<|Ab (oA N)<|Ab (yQ N)<|Ab (xU N)<|Aj) λ_ hS F=>?_
 dsimp only[x63,Ah,Aq,AA,Ak];unfold G4 at h;obtain⟨ut,h⟩:=un h;refine An hS F h (λ_ h=>?_) (λ_ h=>?_)
 ·obtain⟨⟨n7,n6⟩,rg,h⟩:=un h;exact Ai hS (fc rg F) h
 ·obtain⟨⟨⟨jo,g9,g8,jn,gz,gy⟩,n5⟩,rf,h⟩:=un h;replace F:=fc rf F;refine An hS F h (λ_ h=>?_) (λ_ h=>?_)
  ·exact Ai hS F h
  ·obtain⟨⟨gx,t6⟩,re,h⟩:=un h;replace F:=fc re F;refine An hS F h (λ_ h=>?_) (λ_ h=>?_)
   ·obtain⟨n4,rc,h⟩:=un h;exact Ai hS (fc rc F) h
   ·refine An hS F h (λ_ h=>?_) (λ_ h=>?_)
    ·obtain⟨⟨⟨n0,nz,nw,nv,nu,nr⟩,nq⟩,q9,h⟩:=un h;replace F:=fc q9 F;refine An hS F h (λ_ h=>?_) (λ_ h=>?_)
     ·exact Ai hS F h
     ·obtain⟨⟨nl,nk⟩,q0,h⟩:=un h;exact Ai hS (fc q0 F) h
    ·obtain⟨⟨nj,nh,ng⟩,qz,h⟩:=un h;replace F:=fc qz F;refine An hS F h (λ_ h=>?_) (λ_ h=>?_)
     ·exact Ai hS F h
     ·obtain⟨jm,qy,⟨nf,nc⟩,qx,h⟩:=un h;replace F:=fc qx (fc qy F);refine An hS F h (λ_ h=>?_) (λ_ h=>?_)
      ·exact Ai hS F h
      ·obtain⟨⟨mz,my⟩,qw,h⟩:=un h;exact Ai hS (fc qw F) h
def D0(N:Nat)(ae:List (Int×Int×Int×(List (Int×Int))×Int×Int))(aw:List (Int×Int×Int×Int×Bool))(aq:Int)(da:Int)(cz:Int)(cy:Int)(cu:List (Int×Int))(cr:Int)(cq:Int)(bq:Int)(co:Int)(cn:Int)(b7:Int)(bz:Int)(bw:Int)(bv:Int)(bu:Bool):Option (((List (Int×Int×Int×(List (Int×Int))×Int×Int))×(List (Int×Int×Int×Int×Bool)))×Int):=(Bn N ae aw).bind λjl=>gd ((!(!jl))=true->((Ca N aq da cz cy cu cr cq bq co cn b7 bz bw bv bu).isSome=true))<|bif (!jl)||(!((Ca N aq da cz cy cu cr cq bq co cn b7 bz bw bv bu).getD false))then(some (([],[]),170))else(bif decide (aq=5)then((E9 N aw b7 bz bw bv bu).bind λ(gw,jk)=>gd ((!(!jk))=true->((Bn N ae gw).isSome=true))<|bif (!jk)||(!((Bn N ae gw).getD false))then(some (([],[]),170))else((CH N ae gw).bind λ(mu,mt)=>some ((mu,mt),0)))else(bif decide (aq=6)then((ET N aw bq false).bind λ(gv,jj)=>gd ((!(!jj))=true->((Bn N ae gv).isSome=true))<|bif (!jj)||(!((Bn N ae gv).getD false))then(some (([],[]),170))else((CH N ae gv).bind λ(mr,mq)=>some ((mr,mq),0)))else(bif decide (aq=7)then((ET N aw bq true).bind λ(gu,ji)=>gd ((!(!ji))=true->((Bn N ae gu).isSome=true))<|bif (!ji)||(!((Bn N ae gu).getD false))then(some (([],[]),170))else((CH N ae gu).bind λ(mo,mn)=>some ((mo,mn),0)))else((G4 N ae aw aq da cz cy cu cr cq bq co cn b7 bz bw bv bu).bind λ((gt,gr),jh)=>gd ((!(!jh))=true->((Bn N gt gr).isSome=true))<|bif (!jh)||(!((Bn N gt gr).getD false))then(some (([],[]),170))else((CH N gt gr).bind λ(mj,mh)=>some ((mj,mh),0))))))
@[go_sem] def s23(N:Nat):Spec:=p0<|pG<|pD Ak λae=>pD AA λaw=>pE<|pG<|pI λaq=>pI λda=>pI λcz=>pI λcy=>pD Aq λcu=>pI λcr=>pI λcq=>pI λbq=>pI λco=>pI λcn=>pI λb7=>pI λbz=>pI λbw=>pI λbv=>pB λbu=>pE<|pE<|pF (D0 N ae aw aq da cz cy cu cr cq bq co cn b7 bz bw bv bu) (([],[]),0) λr=>.tup [.agg [Ap r.1.1,AS r.1.2],.i r.2]
theorem U1(N:Nat):AG Tryz.prog 23 (s23 N):=by
 refine Ar x23.ok<|Aw<|AM λae=>AM λaw=>Ad<|Aw<|Aa λaq=>Aa λda=>Aa λcz=>Aa λcy=>AM λcu=>Aa λcr=>Aa λcq=>Aa λbq=>Aa λco=>Aa λcn=>Aa λb7=>Aa λbz=>Aa λbw=>Aa λbv=>AX λbu=>Ad<|Ad<|As λr h=>wx x23 (Ab (nZ N)<|Ab (U2 N)<|Ab (oB N)<|Ab (Ach N)<|Ab (Acm N)<|Ab (oD N)<|Aj) λ_ hS F=>?_
 dsimp only[x23,Ah,Aq,AA,Ak];unfold D0 at h;obtain⟨jl,qu,ut,h⟩:=un h;replace F:=fc qu F;refine An hS F h (λ_ h=>?_) (λ_ h=>?_)
 ·exact Ai hS F h
 ·refine An hS F h (λ_ h=>?_) (λ_ h=>?_)
  ·obtain⟨⟨gw,jk⟩,qt,h⟩:=un h;obtain⟨ur,h⟩:=un h;replace F:=fc qt F;refine An hS F h (λ_ h=>?_) (λ_ h=>?_)
   ·exact Ai hS F h
   ·obtain⟨⟨mu,mt⟩,qr,h⟩:=un h;exact Ai hS (fc qr F) h
  ·refine An hS F h (λ_ h=>?_) (λ_ h=>?_)
   ·obtain⟨⟨gv,jj⟩,qq,h⟩:=un h;obtain⟨uf,h⟩:=un h;replace F:=fc qq F;refine An hS F h (λ_ h=>?_) (λ_ h=>?_)
    ·exact Ai hS F h
    ·obtain⟨⟨mr,mq⟩,qo,h⟩:=un h;exact Ai hS (fc qo F) h
   ·refine An hS F h (λ_ h=>?_) (λ_ h=>?_)
    ·obtain⟨⟨gu,ji⟩,qn,h⟩:=un h;obtain⟨ue,h⟩:=un h;replace F:=fc qn F;refine An hS F h (λ_ h=>?_) (λ_ h=>?_)
     ·exact Ai hS F h
     ·obtain⟨⟨mo,mn⟩,qm,h⟩:=un h;exact Ai hS (fc qm F) h
    ·obtain⟨⟨⟨gt,gr⟩,jh⟩,ql,h⟩:=un h;obtain⟨ud,h⟩:=un h;replace F:=fc ql F;refine An hS F h (λ_ h=>?_) (λ_ h=>?_)
     ·exact Ai hS F h
     ·obtain⟨⟨mj,mh⟩,qk,h⟩:=un h;exact Ai hS (fc qk F) h
def G5(N:Nat)(l4120:List (Int×(Int×Int×Int×(List (Int×Int))×Int×Int)×Int×Int×Int×(Int×Int×Int×Int×Bool))):Nat->Int->(List (Int×Int×Int×(List (Int×Int))×Int×Int))->(List (Int×Int×Int×Int×Bool))->Option (Sum ((List (Int×Int×Int×(List (Int×Int))×Int×Int))×(List (Int×Int×Int×Int×Bool))) ((((List (Int×Int×Int×(List (Int×Int))×Int×Int))×(List (Int×Int×Int×Int×Bool)))×Int×Int)))|0,_,_,_=>none|n+1,br,ic,ib=>bif decide (br<(l4120.length:Int))then(bif decide (40<=br)then(some (.inr (([],[]),br,170)))else((A7 l4120 br).bind λ(th,(tg,tf,te,tc,ta,s9),s8,s7,s6,(sy,sx,sv,su,sr))=>(D0 N ic ib th tg tf te tc ta s9 s8 s7 s6 sy sx sv su sr).bind λ((tq,tp),tn)=>bif decide (tn≠0)then(some (.inr (([],[]),br,170)))else(gd (Af (br+1))<|G5 N l4120 n (br+1) tq tp)))else(some (.inl (ic,ib)))
def MH(N:Nat)(ez:List (Int×Int×Int×(List (Int×Int))×Int×Int))(eu:List (Int×Int×Int×Int×Bool))(l4120:List (Int×(Int×Int×Int×(List (Int×Int))×Int×Int)×Int×Int×Int×(Int×Int×Int×Int×Bool))):Option (((List (Int×Int×Int×(List (Int×Int))×Int×Int))×(List (Int×Int×Int×Int×Bool)))×Int×Int):=(Bn N ez eu).bind λt5=>bif !t5 then(some (([],[]),0,170))else((CH N ez eu).bind λ(tz,tv)=>(G5 N l4120 N 0 tz tv).bind λuc=>match uc with|.inl (jy,jx)=>(some ((jy,jx),(l4120.length:Int),0))|.inr tj=>(some tj))
@[go_sem] def Ww(N:Nat):Spec:=p0<|pG<|pD Ak λez=>pD AA λeu=>pE<|pD CR λl4120=>pE<|pF (MH N ez eu l4120) (([],[]),0,0) λr=>.tup [.agg [Ap r.1.1,AS r.1.2],.i r.2.1,.i r.2.2]
def D1(N:Nat)(s4241:List (Int×Int×Int×(List (Int×Int))×Int×Int))(iv:List (Int×Int×Int×Int×Bool))(c4243:Int):Option Int:=gd ((!(decide ((s4241.length:Int)=0)))=true->((AN N c4243 16).isSome=true))<|bif (decide ((s4241.length:Int)=0))||(decide ((AN N c4243 16).getD 0=15))then((AN N c4243 100).bind λmg=>some mg)else(gd (Af (c4243.tdiv 16))<|(AN N (c4243.tdiv 16) (s4241.length:Int)).bind λmf=>(A7 s4241 mf).bind λ(kv,sq,sn,sk,sj,sg)=>some kv)
@[go_sem] def s89(N:Nat):Spec:=p0<|pG<|pD Ak λs4241=>pD AA λiv=>pE<|pI λc4243=>pE<|pF (D1 N s4241 iv c4243) 0 λr=>.i r
theorem Acn(N:Nat):AG Tryz.prog 89 (s89 N):=by
 refine Ar x89.ok<|Aw<|AM λs4241=>AM λiv=>Ad<|Aa λc4243=>Ad<|As λr h=>wx x89 (Ab (U0 N)<|Aj) λ_ hS F=>?_
 dsimp only[x89,Ah,AA,Ak];unfold D1 at h;obtain⟨ut,h⟩:=un h;refine An hS F h (λ_ h=>?_) (λ_ h=>?_)
 ·obtain⟨mg,qj,h⟩:=un h;exact Ai hS (fc qj F) h
 ·obtain⟨ur,mf,qh,⟨kv,sq,sn,sk,sj,sg⟩,rn,h⟩:=un h;obtain⟨ul,F⟩:=Cb Au rn (fc qh F);exact Ai hS F h
def F5(N:Nat)(av:List (Int×Int×Int×(List (Int×Int))×Int×Int))(s4258:List (Int×Int×Int×Int×Bool))(dt:Int)(ah:Int)(am:Int)(au:Int)(x4263:Int)(x4264:Int):Option (Int×(Int×Int×Int×(List (Int×Int))×Int×Int)×Int×Int×Int×(Int×Int×Int×Int×Bool)):=(AN N dt 8).bind λai=>(bif decide (ai=0)then(some (decide (ai=0)))else(some (decide (ai=1))):Option (Bool)).bind λkr=>bif kr then(gd (Af (x4263.tdiv 4))<|gd (Af (x4264.tdiv 8))<|(El N ah am au x4263 (x4263.tdiv 4) x4264 (x4264.tdiv 8)).bind λ(me,md,mc,mb,ma,l7)=>some (1,(me,md,mc,mb,ma,l7),0,0,0,(0,0,0,0,false)))else(bif decide (ai=2)then((D1 N av s4258 ah).bind λl6=>some (2,(0,0,0,[],0,0),l6,0,0,(0,0,0,0,false)))else(bif decide (ai=3)then((D1 N av s4258 ah).bind λan=>(AN N am 4).bind λck=>(AN N au 4).bind λjg=>bif decide (ck=jg)then(gd (Af (ck+2))<|gd (Af (an+40))<|(AN N x4263 20).bind λjf=>gd (Af ((an+40)+jf))<|some (3,(((an+40)+jf).tmod 100,0,0,[],0,0),an,ck,(ck+2).tmod 4,(0,0,0,0,false)))else(gd (Af (an+40))<|(AN N x4263 20).bind λje=>gd (Af ((an+40)+je))<|some (3,(((an+40)+je).tmod 100,0,0,[],0,0),an,ck,jg,(0,0,0,0,false))))else(bif decide (ai=4)then((D1 N av s4258 ah).bind λjd=>(AN N am 7).bind λd8=>gd (Af (d8-3))<|gd (Af (4*(d8-3)))<|(AN N au 5).bind λcj=>gd (Af (cj-2))<|gd (Af (4*(cj-2)))<|bif (decide (4*(d8-3)=0))&&(decide (4*(cj-2)=0))then((AN N x4263 3).bind λjc=>gd (Af (1+jc))<|some (4,(0,0,0,[],0,0),jd,1+jc,4*(cj-2),(0,0,0,0,false)))else(some (4,(0,0,0,[],0,0),jd,4*(d8-3),4*(cj-2),(0,0,0,0,false))))else(bif decide (ai=5)then((AN N ah 20).bind λl5=>(D1 N av s4258 am).bind λlz=>(AN N au 6).bind λjb=>gd (Af (jb-2))<|(AN N x4263 5).bind λja=>gd (Af (1+ja))<|(AN N x4263 2).bind λlr=>some (5,(0,0,0,[],0,0),0,0,0,(l5,lz,jb-2,1+ja,decide (lr=0))))else((AN N am 2).bind λgm=>gd (Af (6+gm))<|(AN N ah 12).bind λlq=>bif decide (0<(s4258.length:Int))then((AN N ah (s4258.length:Int)).bind λlm=>(A7 s4258 lm).bind λ(kq,sf,se,sa,rz)=>some (6+gm,(0,0,0,[],0,0),kq,0,0,(0,0,0,0,false)))else(some (6+gm,(0,0,0,[],0,0),lq,0,0,(0,0,0,0,false))))))))
@[go_sem] def s43(N:Nat):Spec:=p0<|pG<|pD Ak λav=>pD AA λs4258=>pE<|pG<|pI λdt=>pI λah=>pI λam=>pI λau=>pI λx4263=>pI λx4264=>pE<|pE<|pF (F5 N av s4258 dt ah am au x4263 x4264) (0,(0,0,0,[],0,0),0,0,0,(0,0,0,0,false)) λr=>.agg [.i r.1,.i r.2.1.1,.i r.2.1.2.1,.i r.2.1.2.2.1,BP r.2.1.2.2.2.1,.i r.2.1.2.2.2.2.1,.i r.2.1.2.2.2.2.2,.i r.2.2.1,.i r.2.2.2.1,.i r.2.2.2.2.1,.i r.2.2.2.2.2.1,.i r.2.2.2.2.2.2.1,.i r.2.2.2.2.2.2.2.1,.i r.2.2.2.2.2.2.2.2.1,.b r.2.2.2.2.2.2.2.2.2]
theorem oF(N:Nat):AG Tryz.prog 43 (s43 N):=by
 refine Ar x43.ok<|Aw<|AM λav=>AM λs4258=>Ad<|Aw<|Aa λdt=>Aa λah=>Aa λam=>Aa λau=>Aa λx4263=>Aa λx4264=>Ad<|Ad<|As λr h=>wx x43 (Ab (U0 N)<|Ab (nV N)<|Ab (Acn N)<|Aj) λ_ hS F=>?_
 dsimp only[x43,Ah,AA,Ak];unfold F5 at h;obtain⟨ai,qg,h⟩:=un h;replace F:=fc qg F;obtain⟨ub,jp,h⟩:=un h;refine go hS F ?_;refine Bz ub (λz:Bool×Nat=>⟨[(2,.box (0,1) 0),(3,.box (1,1) 0),(4,.box (2,1) 0),(10,.i ai),(11,.b z.1)],[(.c (2,1) 0,.i 0),(.c (2,1) 1,.i 0),(.c (2,1) 2,.i 0),(.c (2,1) 3,.i 0),(.c (2,1) 4,.sl 0 true [] []),(.c (2,1) 5,.i 0),(.c (2,1) 6,.i 0),(.c (2,1) 7,.i 0),(.c (2,1) 8,.i 0),(.c (2,1) 9,.i 0),(.c (2,1) 10,.i 0),(.c (2,1) 11,.i 0),(.c (2,1) 12,.i 0),(.c (2,1) 13,.i 0),(.c (2,1) 14,.b false),(.c (1,1) 0,.i dt),(.c (1,1) 1,.i ah),(.c (1,1) 2,.i am),(.c (1,1) 3,.i au),(.c (1,1) 4,.i x4263),(.c (1,1) 5,.i x4264),(.c (0,1) 0,Ap av),(.c (0,1) 1,AS s4258)],z.2⟩) (λz=>(z.1:Bool)) .n ?_ ?_
 ·refine An hS F jp (λ_ jp=>?_) (λ_ jp=>?_)
  ·exact B4 hS F (decide (ai=0),3) jp
  ·exact B4 hS F (decide (ai=1),4) jp
 ·rintro⟨kr,uy⟩ rfl;refine An hS F h (λ_ h=>?_) (λ_ h=>?_)
  ·obtain⟨ur,uf,⟨me,md,mc,mb,ma,l7⟩,qe,h⟩:=un h;exact Ai hS (fc qe F) h
  ·refine An hS F h (λ_ h=>?_) (λ_ h=>?_)
   ·obtain⟨l6,qd,h⟩:=un h;exact Ai hS (fc qd F) h
   ·refine An hS F h (λ_ h=>?_) (λ_ h=>?_)
    ·obtain⟨an,qc,ck,qb,jg,pz,h⟩:=un h;replace F:=fc pz (fc qb (fc qc F));refine An hS F h (λ_ h=>?_) (λ_ h=>?_)
     ·obtain⟨ue,ud,jf,pv,uq,h⟩:=un h;exact Ai hS (fc pv F) h
     ·obtain⟨uo,je,pq,vi,h⟩:=un h;exact Ai hS (fc pq F) h
    ·refine An hS F h (λ_ h=>?_) (λ_ h=>?_)
     ·obtain⟨jd,pp,d8,po,vh,vg,cj,pn,ve,vd,h⟩:=un h;replace F:=fc pn (fc po (fc pp F));refine An hS F h (λ_ h=>?_) (λ_ h=>?_)
      ·obtain⟨jc,pm,u9,h⟩:=un h;exact Ai hS (fc pm F) h
      ·exact Ai hS F h
     ·refine An hS F h (λ_ h=>?_) (λ_ h=>?_)
      ·obtain⟨l5,pj,lz,pi,jb,ph,u7,ja,pg,u0,lr,pd,h⟩:=un h;exact Ai hS (fc pd (fc pg (fc ph (fc pi (fc pj F))))) h
      ·obtain⟨gm,o9,uz,lq,o0,h⟩:=un h;replace F:=fc o0 (fc o9 F);refine An hS F h (λ_ h=>?_) (λ_ h=>?_)
       ·obtain⟨lm,oz,⟨kq,sf,se,sa,rz⟩,rm,h⟩:=un h;obtain⟨uk,F⟩:=Cb BZ rm (fc oz F);exact Ai hS F h
       ·exact Ai hS F h
def DR(N:Nat)(x5507:List (Int×Int×Int×Int))(r5509:List (Int×Int×Int×(List (Int×Int))×Int×Int)):Nat->Int->(List (Int×Int×Int×Int×Bool))->Option ((List (Int×Int×Int×Int×Bool)))|0,_,_=>none|n+1,ak,ce=>bif ((decide (ak<(x5507.length:Int)))&&(decide (ak<8)))&&(decide (0<(r5509.length:Int)))then((A7 x5507 ak).bind λ(km,kl,kj,ir)=>(AN N kl (r5509.length:Int)).bind λlj=>(A7 r5509 lj).bind λ(ki,ry,ru,x5578,rt,rq)=>(AN N km 12).bind λli=>gd (Af ((x5578.length:Int)+2))<|(AN N kj ((x5578.length:Int)+2)).bind λi9=>gd (Af (i9-2))<|(AN N ir 5).bind λi8=>gd (Af (1+i8))<|(AN N ir 2).bind λlh=>(E9 N ce li ki (i9-2) (1+i8) (decide (lh=0))).bind λ(i7,lg)=>bif lg then(gd (Af (ak+1))<|DR N x5507 r5509 n (ak+1) i7)else(gd (Af (ak+1))<|DR N x5507 r5509 n (ak+1) ce))else(some ce)
def Dp(N:Nat)(dq:List (Int×Int×Int×Int×Int×Int))(x5507:List (Int×Int×Int×Int))(ej:List (Int×Int×Int×Int×Int×Int)):Option ((List (Int×Int×Int×(List (Int×Int))×Int×Int))×(List (Int×Int×Int×Int×Bool))):=(FD N dq).bind λr5509=>(DR N x5507 r5509 N 0 []).bind λkw=>some (r5509,kw)
@[go_sem] def s12(N:Nat):Spec:=p0<|pG<|pS GR λdq=>pS Nt λx5507=>pS GR λej=>pE<|pE<|pF (Dp N dq x5507 ej) ([],[]) λr=>.agg [Ap r.1,AS r.2]
theorem ZI(N:Nat):AG Tryz.prog 12 (s12 N):=by
 refine Ar x12.ok<|Aw<|AF λdq=>AF λx5507=>AF λej=>Ad<|Ad<|As λr h=>wx x12 (Ab (Ace N)<|Ab (U0 N)<|Ab (oB N)<|Aj) λ_ hS F=>?_
 dsimp only[x12,Ah,Nt,GR];unfold Dp at h;obtain⟨r5509,oy,h⟩:=un h;replace F:=fc oy F;refine go hS F ?_;refine Yd (104,2) 1 5 [.i 0,.i 0,.i 0,.i 0,.b false] (ev F) ?_;obtain⟨t9,jp,h⟩:=un h;refine go hS F ?_;refine Bz t9 (λz:(List (Int×Int×Int×Int×Bool))×Nat=>⟨[(2,.box (1,1) 0),(3,.box (104,2) 0)],[(.c (104,2) 0,Ap r5509),(.c (104,2) 1,AS z.1),(.c (1,1) 0,.sl 0 true [] []),(.c (1,1) 1,.sl 0 true [] [])],z.2⟩) (λz=>(z.1:(List (Int×Int×Int×Int×Bool)))) (.x 0) ?_ ?_
 ·refine Bp (λn (y:Int×(List (Int×Int×Int×Int×Bool))×Nat)=>DR N x5507 r5509 n y.1 y.2.1) (λy=>⟨[(1,.box (0,1) 0),(2,.box (1,1) 0),(3,.box (104,2) 0),(4,.i y.1)],[(.c (104,2) 0,Ap r5509),(.c (104,2) 1,AS y.2.1),(.c (1,1) 0,.sl 0 true [] []),(.c (1,1) 1,.sl 0 true [] []),(.c (0,1) 0,GS dq),(.c (0,1) 1,Ov x5507),(.c (0,1) 2,GS ej)],y.2.2⟩) (0,[],3) jp (Ch F) ?_;rintro n ⟨ak,ce,jr⟩ ab;simp only[DR]at ab;refine An hS F ab (λ_ ab=>?_) (λ_ ab=>?_)
  ·obtain⟨⟨km,kl,kj,ir⟩,rk,ab⟩:=un ab;obtain⟨uj,F⟩:=Cb Kf rk F;obtain⟨lj,ox,⟨ki,ry,ru,x5578,rt,rq⟩,rj,ab⟩:=un ab;obtain⟨ui,F⟩:=Cb Au rj (fc ox F);obtain⟨li,ow,uf,i9,ov,ue,i8,ot,ud,lh,om,⟨i7,lg⟩,oj,ab⟩:=un ab;replace F:=fc oj (fc om (fc ot (fc ov (fc ow F))));refine An hS F ab (λ_ ab=>?_) (λ_ ab=>?_)
   ·obtain⟨uq,ab⟩:=un ab;exact Cd hS F (n,ak+1,i7,jr+1+1+1+1+1+1+1+1) ab
   ·obtain⟨uo,ab⟩:=un ab;exact Cd hS F (n,ak+1,ce,jr+1+1+1+1+1+1+1) ab
  ·exact B4 hS F (ce,jr+1) ab
 ·rintro⟨kw,ux⟩ rfl;exact Ai hS F h
def Db(N:Nat)(x5601:List (Int×Int×Int×Int×Int×Int)):Nat->Int->Int->(List (Int×(Int×Int×Int×(List (Int×Int))×Int×Int)×Int×Int×Int×(Int×Int×Int×Int×Bool)))->(List (Int×Int×Int×(List (Int×Int))×Int×Int))->(List (Int×Int×Int×Int×Bool))->Option (Int×(List (Int×(Int×Int×Int×(List (Int×Int))×Int×Int)×Int×Int×Int×(Int×Int×Int×Int×Bool))))|0,_,_,_,_,_=>none|n+1,aa,af,l5665,d5,dz=>bif (decide (af<(x5601.length:Int)))&&(decide (af<8))then((A7 x5601 af).bind λ(kh,kg,kf,ke,ka,j9)=>(F5 N d5 dz kh kg kf ke ka j9).bind λ(bp,(bo,bn,bm,bl,bj,bi),bh,bg,bf,(be,bb,ba,az,ay))=>gd ((l5665.length+1)*136<=140737488355328)<|(D0 N d5 dz bp bo bn bm bl bj bi bh bg bf be bb ba az ay).bind λ((d7,d6),lf)=>bif decide (lf=0)then(bif decide (aa=af)then(gd (Af (aa+1))<|gd (Af (af+1))<|Db N x5601 n (aa+1) (af+1) (l5665++[(bp,(bo,bn,bm,bl,bj,bi),bh,bg,bf,(be,bb,ba,az,ay))]) d7 d6)else(gd (Af (af+1))<|Db N x5601 n aa (af+1) (l5665++[(bp,(bo,bn,bm,bl,bj,bi),bh,bg,bf,(be,bb,ba,az,ay))]) d7 d6))else(gd (Af (af+1))<|Db N x5601 n aa (af+1) (l5665++[(bp,(bo,bn,bm,bl,bj,bi),bh,bg,bf,(be,bb,ba,az,ay))]) d5 dz))else(some (aa,l5665))
def GA(N:Nat)(dm:List (Int×Int×Int×Int×Int×Int))(dh:List (Int×Int×Int×Int))(x5601:List (Int×Int×Int×Int×Int×Int)):Option ((List (Int×(Int×Int×Int×(List (Int×Int))×Int×Int)×Int×Int×Int×(Int×Int×Int×Int×Bool)))×Int):=(Dp N dm dh x5601).bind λ(i6,i5)=>(Db N x5601 N 0 0 [] i6 i5).bind λ(d9,n9)=>some (n9,d9)
@[go_sem] def s13(N:Nat):Spec:=p0<|pG<|pS GR λdm=>pS Nt λdh=>pS GR λx5601=>pE<|pE<|pF (GA N dm dh x5601) ([],0) λr=>.tup [Ay r.1,.i r.2]
theorem Aco(N:Nat):AG Tryz.prog 13 (s13 N):=by
 refine Ar x13.ok<|Aw<|AF λdm=>AF λdh=>AF λx5601=>Ad<|Ad<|As λr h=>wx x13 (Ab (ZI N)<|Ab (oF N)<|Ab (U1 N)<|Aj) λ_ hS F=>?_
 dsimp only[x13,Ah,Nt,GR];unfold GA at h;obtain⟨⟨i6,i5⟩,oh,h⟩:=un h;replace F:=fc oh F;refine go hS F ?_;refine DT 1000001 5 15 [.i 0,.i 0,.i 0,.i 0,.sl 0 true [] [],.i 0,.i 0,.i 0,.i 0,.i 0,.i 0,.i 0,.i 0,.i 0,.b false] (by show(5:Nat)<51;omega) (by omega) (ev F) ?_;obtain⟨t8,jp,h⟩:=un h;refine go hS F ?_;refine Bz t8 (λz:Int×(List (Int×(Int×Int×Int×(List (Int×Int))×Int×Int)×Int×Int×Int×(Int×Int×Int×Int×Bool)))×Nat=>⟨[(5,.own (1000001,6) z.2.1.length),(6,.i z.1)],[(.a (1000001,6),EW z.2.1)],z.2.2⟩) (λz=>((z.1,z.2.1):Int×(List (Int×(Int×Int×Int×(List (Int×Int))×Int×Int)×Int×Int×Int×(Int×Int×Int×Int×Bool))))) (.x 0) ?_ ?_
 ·refine Bp (λn (y:Int×Int×(List (Int×(Int×Int×Int×(List (Int×Int))×Int×Int)×Int×Int×Int×(Int×Int×Int×Int×Bool)))×(List (Int×Int×Int×(List (Int×Int))×Int×Int))×(List (Int×Int×Int×Int×Bool))×Nat)=>Db N x5601 n y.1 y.2.1 y.2.2.1 y.2.2.2.1 y.2.2.2.2.1) (λy=>⟨[(1,.box (0,1) 0),(4,.box (102,2) 0),(5,.own (1000001,6) y.2.2.1.length),(6,.i y.1),(7,.i y.2.1)],[(.a (1000001,6),EW y.2.2.1),(.c (102,2) 0,Ap y.2.2.2.1),(.c (102,2) 1,AS y.2.2.2.2.1),(.c (0,1) 0,GS dm),(.c (0,1) 1,Ov dh),(.c (0,1) 2,GS x5601)],y.2.2.2.2.2⟩) (0,0,[],i6,i5,6) jp (Ch F) ?_;rintro n ⟨aa,af,l5665,d5,dz,ig⟩ ab;simp only[Db]at ab;refine An hS F ab (λ_ ab=>?_) (λ_ ab=>?_)
  ·obtain⟨⟨kh,kg,kf,ke,ka,j9⟩,ri,ab⟩:=un ab;obtain⟨uh,F⟩:=Cb GQ ri F;obtain⟨⟨bp,⟨bo,bn,bm,bl,bj,bi⟩,bh,bg,bf,⟨be,bb,ba,az,ay⟩⟩,og,ab⟩:=un ab;obtain⟨uf,⟨⟨d7,d6⟩,lf⟩,oe,ab⟩:=un ab;replace F:=fc oe (fc og F);refine An hS F ab (λ_ ab=>?_) (λ_ ab=>?_)
   ·refine An hS F ab (λ_ ab=>?_) (λ_ ab=>?_)
    ·obtain⟨ue,ud,ab⟩:=un ab;exact Cd hS F (n,aa+1,af+1,l5665++[(bp,(bo,bn,bm,bl,bj,bi),bh,bg,bf,(be,bb,ba,az,ay))],d7,d6,ig+1+1+1+1+1+1+1+1+1) ab
    ·obtain⟨uq,ab⟩:=un ab;exact Cd hS F (n,aa,af+1,l5665++[(bp,(bo,bn,bm,bl,bj,bi),bh,bg,bf,(be,bb,ba,az,ay))],d7,d6,ig+1+1+1+1+1+1+1+1) ab
   ·obtain⟨uo,ab⟩:=un ab;exact Cd hS F (n,aa,af+1,l5665++[(bp,(bo,bn,bm,bl,bj,bi),bh,bg,bf,(be,bb,ba,az,ay))],d5,dz,ig+1+1+1+1+1+1) ab
  ·exact B4 hS F (aa,l5665,ig+1) ab
 ·rintro⟨d9,n9,uw⟩ rfl;exact E2 hS F h
def CY(N:Nat)(x5707:List (Int×Int×Int×Int×Int×Int)):Nat->Int->(List (Int×(Int×Int×Int×(List (Int×Int))×Int×Int)×Int×Int×Int×(Int×Int×Int×Int×Bool)))->(List (Int×Int×Int×(List (Int×Int))×Int×Int))->(List (Int×Int×Int×Int×Bool))->Option ((List (Int×(Int×Int×Int×(List (Int×Int))×Int×Int)×Int×Int×Int×(Int×Int×Int×Int×Bool))))|0,_,_,_,_=>none|n+1,aj,l5770,dw,du=>bif (decide (aj<(x5707.length:Int)))&&(decide (aj<8))then((A7 x5707 aj).bind λ(j8,j7,j6,j5,j4,jz)=>(F5 N dw du j8 j7 j6 j5 j4 jz).bind λ(gj,(gi,gh,gg,gc,fx,fr),fq,fp,fo,(fj,fh,fg,e9,e8))=>(D0 N dw du gj gi gh gg gc fx fr fq fp fo fj fh fg e9 e8).bind λ((iy,iw),kz)=>bif decide (kz=0)then(gd ((l5770.length+1)*136<=140737488355328)<|gd (Af (aj+1))<|CY N x5707 n (aj+1) (l5770++[(gj,(gi,gh,gg,gc,fx,fr),fq,fp,fo,(fj,fh,fg,e9,e8))]) iy iw)else(gd (Af (aj+1))<|CY N x5707 n (aj+1) l5770 dw du))else(some l5770)
def Gt(N:Nat)(dg:List (Int×Int×Int×Int×Int×Int))(de:List (Int×Int×Int×Int))(x5707:List (Int×Int×Int×Int×Int×Int)):Option (List (Int×(Int×Int×Int×(List (Int×Int))×Int×Int)×Int×Int×Int×(Int×Int×Int×Int×Bool))):=(Dp N dg de x5707).bind λ(i4,iz)=>(CY N x5707 N 0 [] i4 iz).bind λn8=>some n8
@[go_sem] def s42(N:Nat):Spec:=p0<|pG<|pS GR λdg=>pS Nt λde=>pS GR λx5707=>pE<|pE<|pF (Gt N dg de x5707) [] λr=>Ay r
theorem AgL(N:Nat):AG Tryz.prog 42 (s42 N):=by
 refine Ar x42.ok<|Aw<|AF λdg=>AF λde=>AF λx5707=>Ad<|Ad<|As λr h=>wx x42 (Ab (ZI N)<|Ab (oF N)<|Ab (U1 N)<|Aj) λ_ hS F=>?_
 dsimp only[x42,Ah,Nt,GR];unfold Gt at h;obtain⟨⟨i4,iz⟩,od,h⟩:=un h;replace F:=fc od F;refine go hS F ?_;refine DT 1000001 4 15 [.i 0,.i 0,.i 0,.i 0,.sl 0 true [] [],.i 0,.i 0,.i 0,.i 0,.i 0,.i 0,.i 0,.i 0,.i 0,.b false] (by show(4:Nat)<43;omega) (by omega) (ev F) ?_;obtain⟨t7,jp,h⟩:=un h;refine go hS F ?_;refine Bz t7 (λz:(List (Int×(Int×Int×Int×(List (Int×Int))×Int×Int)×Int×Int×Int×(Int×Int×Int×Int×Bool)))×Nat=>⟨[(4,.own (1000001,5) z.1.length)],[(.a (1000001,5),EW z.1)],z.2⟩) (λz=>(z.1:(List (Int×(Int×Int×Int×(List (Int×Int))×Int×Int)×Int×Int×Int×(Int×Int×Int×Int×Bool))))) (.x 0) ?_ ?_
 ·refine Bp (λn (y:Int×(List (Int×(Int×Int×Int×(List (Int×Int))×Int×Int)×Int×Int×Int×(Int×Int×Int×Int×Bool)))×(List (Int×Int×Int×(List (Int×Int))×Int×Int))×(List (Int×Int×Int×Int×Bool))×Nat)=>CY N x5707 n y.1 y.2.1 y.2.2.1 y.2.2.2.1) (λy=>⟨[(1,.box (0,1) 0),(3,.box (102,2) 0),(4,.own (1000001,5) y.2.1.length),(5,.i y.1)],[(.a (1000001,5),EW y.2.1),(.c (102,2) 0,Ap y.2.2.1),(.c (102,2) 1,AS y.2.2.2.1),(.c (0,1) 0,GS dg),(.c (0,1) 1,Ov de),(.c (0,1) 2,GS x5707)],y.2.2.2.2⟩) (0,[],i4,iz,5) jp (Ch F) ?_;rintro n ⟨aj,l5770,dw,du,jq⟩ ab;simp only[CY]at ab;refine An hS F ab (λ_ ab=>?_) (λ_ ab=>?_)
  ·obtain⟨⟨j8,j7,j6,j5,j4,jz⟩,rh,ab⟩:=un ab;obtain⟨ug,F⟩:=Cb GQ rh F;obtain⟨⟨gj,⟨gi,gh,gg,gc,fx,fr⟩,fq,fp,fo,⟨fj,fh,fg,e9,e8⟩⟩,oc,ab⟩:=un ab;obtain⟨⟨⟨iy,iw⟩,kz⟩,oa,ab⟩:=un ab;replace F:=fc oa (fc oc F);refine An hS F ab (λ_ ab=>?_) (λ_ ab=>?_)
   ·obtain⟨uf,ue,ab⟩:=un ab;exact Cd hS F (n,aj+1,l5770++[(gj,(gi,gh,gg,gc,fx,fr),fq,fp,fo,(fj,fh,fg,e9,e8))],iy,iw,jq+1+1+1+1+1+1+1) ab
   ·obtain⟨ud,ab⟩:=un ab;exact Cd hS F (n,aj+1,l5770,dw,du,jq+1+1+1+1+1) ab
  ·exact B4 hS F (l5770,jq+1) ab
 ·rintro⟨n8,uu⟩ rfl;exact E2 hS F h
