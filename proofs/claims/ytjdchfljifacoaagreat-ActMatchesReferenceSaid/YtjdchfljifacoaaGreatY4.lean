import Derived.Test.YtjdchfljifacoaaGreatJ6
set_option linter.all false
set_option maxRecDepth 100000
set_option maxHeartbeats 8000000
namespace Go.Proofs.YtjdchfljifacoaaGreat.Am
section
open Go
attribute [local irreducible] Ax BO BB Bj BC Bk AY BD BK Cq
def Kf(x:Int×Int×Int×Int):List AV:=[.i x.1,.i x.2.1,.i x.2.2.1,.i x.2.2.2]
def SK:List AV->Int×Int×Int×Int|[.v (.int _ a1),.v (.int _ a2),.v (.int _ a3),.v (.int _ a4)]=>(a1,a2,a3,a4)|_=>(0,0,0,0)
theorem sU(x:Int×Int×Int×Int):SK (Kf x)=x:=by rfl
theorem sV(R:List (Int×Int×Int×Int)):(R.map Kf).map SK=R:=by
 induction R with
 |nil=>rfl
 |cons r R ih=>rw[eG,eG,ih,sU]
def Nt:Rw (Int×Int×Int×Int):=⟨4,Kf,SK,[.i 0,.i 0,.i 0,.i 0]⟩
def Ov(l:List (Int×Int×Int×Int)):AV:=.sl 4 false (l.map Kf) [.i 0,.i 0,.i 0,.i 0]
def Aae(l:List (Int×Int×Int×Int)):AV:=.sl 4 true (l.map Kf) [.i 0,.i 0,.i 0,.i 0]
attribute [go_sem] Nt Ov Aae Kf SK sV
def G4(N:Nat)(dg:List (Int×Int×Int×(List (Int×Int))×Int×Int))(s3911:List (Int×Int×Int×Int×Bool))(fp:Int)(ja:Int)(oz:Int)(oy:Int)(ox:List (Int×Int))(ow:Int)(ov:Int)(de:Int)(i9:Int)(i8:Int)(uo:Int)(ul:Int)(uj:Int)(ui:Int)(uh:Bool):Option (((List (Int×Int×Int×(List (Int×Int))×Int×Int))×(List (Int×Int×Int×Int×Bool)))×Bool):=gd ((s3911.length)*40<=140737488355328)<|bif decide (fp=1)then((DK N dg ja oz oy ox ow ov).bind λ(n5,nz)=>some ((n5,s3911),decide (nz=0)))else((Dm N dg de).bind λ((iy,d9,d8,iw,d7,dz),ny)=>bif !ny then(some (([],s3911),false))else((FZ N dg de).bind λ(dw,ud)=>bif decide (fp=2)then((DQ N s3911 de).bind λnw=>some ((dw,nw),true))else(bif decide (fp=4)then((Gx N iy d9 d8 iw d7 dz i9 i8).bind λ((nv,nu,nr,nq,nk,nj),nh)=>bif decide (nh≠0)then(some (([],s3911),false))else((DK N dw nv nu nr nq nk nj).bind λ(ng,nf)=>some ((ng,s3911),decide (nf=0))))else((EX N iw i9 i8).bind λ(nc,nb,mz)=>bif decide (mz≠0)then(some (([],s3911),false))else((DQ N s3911 de).bind λiv=>(DK N dw iy d9 d8 nc d7 dz).bind λ(my,mu)=>bif decide (mu≠0)then(some (([],iv),false))else((DK N my ja d9 d8 nb d7 dz).bind λ(mt,mr)=>some ((mt,iv),decide (mr=0))))))))
@[go_sem] def s63(N:Nat):Spec:=p0<|(Aoh<|qD Ak<|qD AA<|Aof<|Aoh<|Aoi<|Aoi<|Aoi<|Aoi<|qD Aq<|Aoi<|Aoi<|Aoi<|Aoi<|Aoi<|Aoi<|Aoi<|Aoi<|Aoi<|Aod<|Aof<|Aof<|Aog (([],[]),false) λr=>.tup [.agg [Ap r.1.1,AS r.1.2],.b r.2]) (G4 N)
theorem Acm(N:Nat):AG Tryz.prog 63 (s63 N):=by
 refine fk (Aoq x63 (Ab (nU N)<|Ab (ZC N)<|Ab (yY N)<|Ab (oA N)<|Ab (yQ N)<|Ab (xU N)<|Aj)) ?_;intro dg s3911 fp ja oz oy ox ow ov de i9 i8 uo ul uj ui uh r h _ hS F;dsimp only[x63,Ah,Aq,AA,Ak];unfold G4 at h;obtain⟨uw,h⟩:=un h;refine An hS F h (λ_ h=>?_) (λ_ h=>?_)
 ·obtain⟨⟨n5,nz⟩,sx,h⟩:=un h;exact Ai hS (fc sx F) h
 ·obtain⟨⟨⟨iy,d9,d8,iw,d7,dz⟩,ny⟩,sv,h⟩:=un h;replace F:=fc sv F;refine An hS F h (λ_ h=>?_) (λ_ h=>?_)
  ·exact Ai hS F h
  ·obtain⟨⟨dw,ud⟩,su,h⟩:=un h;replace F:=fc su F;refine An hS F h (λ_ h=>?_) (λ_ h=>?_)
   ·obtain⟨nw,sr,h⟩:=un h;exact Ai hS (fc sr F) h
   ·refine An hS F h (λ_ h=>?_) (λ_ h=>?_)
    ·obtain⟨⟨⟨nv,nu,nr,nq,nk,nj⟩,nh⟩,sq,h⟩:=un h;replace F:=fc sq F;refine An hS F h (λ_ h=>?_) (λ_ h=>?_)
     ·exact Ai hS F h
     ·obtain⟨⟨ng,nf⟩,sn,h⟩:=un h;exact Ai hS (fc sn F) h
    ·obtain⟨⟨nc,nb,mz⟩,sk,h⟩:=un h;replace F:=fc sk F;refine An hS F h (λ_ h=>?_) (λ_ h=>?_)
     ·exact Ai hS F h
     ·obtain⟨iv,sj,⟨my,mu⟩,sg,h⟩:=un h;replace F:=fc sg (fc sj F);refine An hS F h (λ_ h=>?_) (λ_ h=>?_)
      ·exact Ai hS F h
      ·obtain⟨⟨mt,mr⟩,sf,h⟩:=un h;exact Ai hS (fc sf F) h
def D0(N:Nat)(af:List (Int×Int×Int×(List (Int×Int))×Int×Int))(bz:List (Int×Int×Int×Int×Bool))(br:Int)(fo:Int)(fm:Int)(fj:Int)(fh:List (Int×Int))(fg:Int)(e9:Int)(ce:Int)(e8:Int)(ez:Int)(db:Int)(da:Int)(cz:Int)(cy:Int)(cu:Bool):Option (((List (Int×Int×Int×(List (Int×Int))×Int×Int))×(List (Int×Int×Int×Int×Bool)))×Int):=(Bn N af bz).bind λir=>gd ((!(!ir))=true->((Ca N br fo fm fj fh fg e9 ce e8 ez db da cz cy cu).isSome=true))<|bif (!ir)||(!((Ca N br fo fm fj fh fg e9 ce e8 ez db da cz cy cu).getD false))then(some (([],[]),170))else(bif decide (br=5)then((E9 N bz db da cz cy cu).bind λ(du,iq)=>gd ((!(!iq))=true->((Bn N af du).isSome=true))<|bif (!iq)||(!((Bn N af du).getD false))then(some (([],[]),170))else((CH N af du).bind λ(mq,mo)=>some ((mq,mo),0)))else(bif decide (br=6)then((ET N bz ce false).bind λ(dt,ip)=>gd ((!(!ip))=true->((Bn N af dt).isSome=true))<|bif (!ip)||(!((Bn N af dt).getD false))then(some (([],[]),170))else((CH N af dt).bind λ(mn,mj)=>some ((mn,mj),0)))else(bif decide (br=7)then((ET N bz ce true).bind λ(dq,im)=>gd ((!(!im))=true->((Bn N af dq).isSome=true))<|bif (!im)||(!((Bn N af dq).getD false))then(some (([],[]),170))else((CH N af dq).bind λ(mh,mg)=>some ((mh,mg),0)))else((G4 N af bz br fo fm fj fh fg e9 ce e8 ez db da cz cy cu).bind λ((dm,dl),ij)=>gd ((!(!ij))=true->((Bn N dm dl).isSome=true))<|bif (!ij)||(!((Bn N dm dl).getD false))then(some (([],[]),170))else((CH N dm dl).bind λ(mf,me)=>some ((mf,me),0))))))
@[go_sem] def s23(N:Nat):Spec:=p0<|(Aoh<|qD Ak<|qD AA<|Aof<|Aoh<|Aoi<|Aoi<|Aoi<|Aoi<|qD Aq<|Aoi<|Aoi<|Aoi<|Aoi<|Aoi<|Aoi<|Aoi<|Aoi<|Aoi<|Aod<|Aof<|Aof<|Aog (([],[]),0) λr=>.tup [.agg [Ap r.1.1,AS r.1.2],.i r.2]) (D0 N)
theorem U1(N:Nat):AG Tryz.prog 23 (s23 N):=by
 refine fk (Aoq x23 (Ab (nZ N)<|Ab (U2 N)<|Ab (oB N)<|Ab (Ach N)<|Ab (Acm N)<|Ab (oD N)<|Aj)) ?_;intro af bz br fo fm fj fh fg e9 ce e8 ez db da cz cy cu r h _ hS F;dsimp only[x23,Ah,Aq,AA,Ak];unfold D0 at h;obtain⟨ir,se,uw,h⟩:=un h;replace F:=fc se F;refine An hS F h (λ_ h=>?_) (λ_ h=>?_)
 ·exact Ai hS F h
 ·refine An hS F h (λ_ h=>?_) (λ_ h=>?_)
  ·obtain⟨⟨du,iq⟩,rz,h⟩:=un h;obtain⟨uu,h⟩:=un h;replace F:=fc rz F;refine An hS F h (λ_ h=>?_) (λ_ h=>?_)
   ·exact Ai hS F h
   ·obtain⟨⟨mq,mo⟩,ry,h⟩:=un h;exact Ai hS (fc ry F) h
  ·refine An hS F h (λ_ h=>?_) (λ_ h=>?_)
   ·obtain⟨⟨dt,ip⟩,ru,h⟩:=un h;obtain⟨uq,h⟩:=un h;replace F:=fc ru F;refine An hS F h (λ_ h=>?_) (λ_ h=>?_)
    ·exact Ai hS F h
    ·obtain⟨⟨mn,mj⟩,rt,h⟩:=un h;exact Ai hS (fc rt F) h
   ·refine An hS F h (λ_ h=>?_) (λ_ h=>?_)
    ·obtain⟨⟨dq,im⟩,rq,h⟩:=un h;obtain⟨ut,h⟩:=un h;replace F:=fc rq F;refine An hS F h (λ_ h=>?_) (λ_ h=>?_)
     ·exact Ai hS F h
     ·obtain⟨⟨mh,mg⟩,rn,h⟩:=un h;exact Ai hS (fc rn F) h
    ·obtain⟨⟨⟨dm,dl⟩,ij⟩,rm,h⟩:=un h;obtain⟨ur,h⟩:=un h;replace F:=fc rm F;refine An hS F h (λ_ h=>?_) (λ_ h=>?_)
     ·exact Ai hS F h
     ·obtain⟨⟨mf,me⟩,rk,h⟩:=un h;exact Ai hS (fc rk F) h
def G5(N:Nat)(l4120:List (Int×(Int×Int×Int×(List (Int×Int))×Int×Int)×Int×Int×Int×(Int×Int×Int×Int×Bool))):Nat->Int->(List (Int×Int×Int×(List (Int×Int))×Int×Int))->(List (Int×Int×Int×Int×Bool))->Option (Sum ((List (Int×Int×Int×(List (Int×Int))×Int×Int))×(List (Int×Int×Int×Int×Bool))) ((((List (Int×Int×Int×(List (Int×Int))×Int×Int))×(List (Int×Int×Int×Int×Bool)))×Int×Int)))|0,_,_,_=>none|n+1,am,bn,bm=>bif decide (am<(l4120.length:Int))then(bif decide (40<=am)then(some (.inr (([],[]),am,170)))else((A7 l4120 am).bind λ(j7,(j6,j5,j4,jz,jy,jx),jw,jv,ju,(jt,js,jr,jq,jp))=>(D0 N bn bm j7 j6 j5 j4 jz jy jx jw jv ju jt js jr jq jp).bind λ((ic,ib),mc)=>bif decide (mc≠0)then(some (.inr (([],[]),am,170)))else(gd (Af (am+1))<|G5 N l4120 n (am+1) ic ib)))else(some (.inl (bn,bm)))
def MH(N:Nat)(gi:List (Int×Int×Int×(List (Int×Int))×Int×Int))(gh:List (Int×Int×Int×Int×Bool))(l4120:List (Int×(Int×Int×Int×(List (Int×Int))×Int×Int)×Int×Int×Int×(Int×Int×Int×Int×Bool))):Option (((List (Int×Int×Int×(List (Int×Int))×Int×Int))×(List (Int×Int×Int×Int×Bool)))×Int×Int):=(Bn N gi gh).bind λmd=>bif !md then(some (([],[]),0,170))else((CH N gi gh).bind λ(ii,ig)=>(G5 N l4120 N 0 ii ig).bind λiz=>match iz with|.inl (eh,ee)=>(some ((eh,ee),(l4120.length:Int),0))|.inr uc=>(some uc))
@[go_sem] def Ww(N:Nat):Spec:=p0<|(Aoh<|qD Ak<|qD AA<|Aof<|qD CR<|Aof<|Aog (([],[]),0,0) λr=>.tup [.agg [Ap r.1.1,AS r.1.2],.i r.2.1,.i r.2.2]) (MH N)
theorem AgJ(N:Nat):AG Tryz.prog 18 (Ww N):=by
 refine fk (Aoq x18 (Ab (nZ N)<|Ab (oD N)<|Ab (U1 N)<|Aj)) ?_;intro gi gh l4120 r h _ hS F;dsimp only[x18,Ah,AA,Ak,CR];unfold MH at h;obtain⟨md,rj,h⟩:=un h;replace F:=fc rj F;refine An hS F h (λ_ h=>?_) (λ_ h=>?_)
 ·exact Ai hS F h
 ·obtain⟨⟨ii,ig⟩,rh,h⟩:=un h;replace F:=fc rh F;obtain⟨iz,i5,h⟩:=un h;refine go hS F ?_;refine Bz iz (λz:(List (Int×Int×Int×(List (Int×Int))×Int×Int))×(List (Int×Int×Int×Int×Bool))×Nat=>⟨[(1,Ay l4120),(4,.box (1,1) 0),(7,.box (302,3) 0)],[(.c (302,3) 0,Ap z.1),(.c (302,3) 1,AS z.2.1),(.c (1,1) 0,.sl 0 true [] []),(.c (1,1) 1,.sl 0 true [] [])],z.2.2⟩) (λz=>(.inl (z.1,z.2.1):Sum ((List (Int×Int×Int×(List (Int×Int))×Int×Int))×(List (Int×Int×Int×Int×Bool))) ((((List (Int×Int×Int×(List (Int×Int))×Int×Int))×(List (Int×Int×Int×Int×Bool)))×Int×Int)))) (.x 0) ?_ ?_
  ·refine Bp (λn (y:Int×(List (Int×Int×Int×(List (Int×Int))×Int×Int))×(List (Int×Int×Int×Int×Bool))×Nat)=>G5 N l4120 n y.1 y.2.1 y.2.2.1) (λy=>⟨[(1,Ay l4120),(4,.box (1,1) 0),(7,.box (302,3) 0),(8,.i y.1)],[(.c (302,3) 0,Ap y.2.1),(.c (302,3) 1,AS y.2.2.1),(.c (1,1) 0,.sl 0 true [] []),(.c (1,1) 1,.sl 0 true [] [])],y.2.2.2⟩) (0,ii,ig,4) i5 (Ch F) ?_;rintro n ⟨am,bn,bm,n7⟩ ab;simp only[G5]at ab;refine An hS F ab (λ_ ab=>?_) (λ_ ab=>?_)
   ·refine An hS F ab (λ_ ab=>?_) (λ_ ab=>?_)
    ·obtain rfl:=yJ ab;exact Ai hS F h
    ·obtain⟨⟨j7,⟨j6,j5,j4,jz,jy,jx⟩,jw,jv,ju,⟨jt,js,jr,jq,jp⟩⟩,ta,ab⟩:=un ab;obtain⟨vd,F⟩:=Cb AB ta F;obtain⟨⟨⟨ic,ib⟩,mc⟩,rg,ab⟩:=un ab;replace F:=fc rg F;refine An hS F ab (λ_ ab=>?_) (λ_ ab=>?_)
     ·obtain rfl:=yJ ab;exact Ai hS F h
     ·obtain⟨uq,ab⟩:=un ab;exact Cd hS F (n,am+1,ic,ib,n7+1+1+1+1+1+1) ab
   ·exact B4 hS F (bn,bm,n7+1) ab
  ·rintro⟨eh,ee,vk⟩ rfl;exact Ai hS F h
def Mg(N:Nat)(gg:List (Int×Int×Int×(List (Int×Int))×Int×Int))(s4181:List (Int×Int×Int×Int×Bool))(bq:Int)(i7:Int)(ot:Int)(oj:Int)(oh:List (Int×Int))(og:Int)(oe:Int)(bp:Int)(ep:Int)(ej:Int)(od:Int)(oc:Int)(oa:Int)(n9:Int)(n8:Bool):Option ((List (Int×(Int×Int×Int×(List (Int×Int))×Int×Int)×Int×Int×Int×(Int×Int×Int×Int×Bool)))×Bool):=(D0 N gg s4181 bq i7 ot oj oh og oe bp ep ej od oc oa n9 n8).bind λ((ub,t9),mb)=>bif decide (mb≠0)then(some ([],false))else(bif decide (bq=1)then(some ([(2,(0,0,0,[],0,0),i7,0,0,(0,0,0,0,false))],true))else(bif decide (bq=2)then((Dm N gg bp).bind λ((ma,l7,lz,lr,lq,lm),t8)=>(DQ N s4181 bp).bind λr4239=>bif decide ((r4239.length:Int)=(s4181.length:Int))then(some ([(1,(ma,l7,lz,lr,lq,lm),0,0,0,(0,0,0,0,false))],true))else(some ([],false)))else(bif decide (bq=4)then(gd (Af (-ep))<|gd (Af (-ej))<|some ([(4,(0,0,0,[],0,0),bp,-ep,-ej,(0,0,0,0,false))],true))else(bif decide (bq=6)then(some ([(7,(0,0,0,[],0,0),bp,0,0,(0,0,0,0,false))],true))else(bif decide (bq=7)then(some ([(6,(0,0,0,[],0,0),bp,0,0,(0,0,0,0,false))],true))else(some ([],false)))))))
@[go_sem] def s25(N:Nat):Spec:=p0<|(Aoh<|qD Ak<|qD AA<|Aof<|Aoh<|Aoi<|Aoi<|Aoi<|Aoi<|qD Aq<|Aoi<|Aoi<|Aoi<|Aoi<|Aoi<|Aoi<|Aoi<|Aoi<|Aoi<|Aod<|Aof<|Aof<|Aog ([],false) λr=>.tup [Ay r.1,.b r.2]) (Mg N)
theorem AgK(N:Nat):AG Tryz.prog 25 (s25 N):=by
 refine fk (Aoq x25 (Ab (U1 N)<|Ab (ZC N)<|Ab (oA N)<|Aj)) ?_;intro gg s4181 bq i7 ot oj oh og oe bp ep ej od oc oa n9 n8 r h _ hS F;dsimp only[x25,Ah,Aq,AA,Ak];unfold Mg at h;obtain⟨⟨⟨ub,t9⟩,mb⟩,rf,h⟩:=un h;replace F:=fc rf F;refine An hS F h (λ_ h=>?_) (λ_ h=>?_)
 ·exact E2 hS F h
 ·refine An hS F h (λ_ h=>?_) (λ_ h=>?_)
  ·exact E2 hS F h
  ·refine An hS F h (λ_ h=>?_) (λ_ h=>?_)
   ·obtain⟨⟨⟨ma,l7,lz,lr,lq,lm⟩,t8⟩,re,h⟩:=un h;obtain⟨r4239,q9,h⟩:=un h;replace F:=fc q9 (fc re F);refine An hS F h (λ_ h=>?_) (λ_ h=>?_)
    ·exact E2 hS F h
    ·exact E2 hS F h
   ·refine An hS F h (λ_ h=>?_) (λ_ h=>?_)
    ·obtain⟨uw,uu,h⟩:=un h;exact E2 hS F h
    ·refine An hS F h (λ_ h=>?_) (λ_ h=>?_)
     ·exact E2 hS F h
     ·refine An hS F h (λ_ h=>?_) (λ_ h=>?_)
      ·exact E2 hS F h
      ·exact E2 hS F h
def D1(N:Nat)(s4241:List (Int×Int×Int×(List (Int×Int))×Int×Int))(t7:List (Int×Int×Int×Int×Bool))(c4243:Int):Option Int:=gd ((!(decide ((s4241.length:Int)=0)))=true->((AN N c4243 16).isSome=true))<|bif (decide ((s4241.length:Int)=0))||(decide ((AN N c4243 16).getD 0=15))then((AN N c4243 100).bind λlj=>some lj)else(gd (Af (c4243.tdiv 16))<|(AN N (c4243.tdiv 16) (s4241.length:Int)).bind λli=>(A7 s4241 li).bind λ(jo,t6,t5,tz,tv,tq)=>some jo)
@[go_sem] def s89(N:Nat):Spec:=p0<|(Aoh<|qD Ak<|qD AA<|Aof<|Aoi<|Aof<|Aog 0 .i) (D1 N)
theorem Acn(N:Nat):AG Tryz.prog 89 (s89 N):=by
 refine fk (Aoq x89 (Ab (U0 N)<|Aj)) ?_;intro s4241 t7 c4243 r h _ hS F;dsimp only[x89,Ah,AA,Ak];unfold D1 at h;obtain⟨uw,h⟩:=un h;refine An hS F h (λ_ h=>?_) (λ_ h=>?_)
 ·obtain⟨lj,qz,h⟩:=un h;exact Ai hS (fc qz F) h
 ·obtain⟨uu,li,qy,⟨jo,t6,t5,tz,tv,tq⟩,s9,h⟩:=un h;obtain⟨u9,F⟩:=Cb Au s9 (fc qy F);exact Ai hS F h
def F5(N:Nat)(bw:List (Int×Int×Int×(List (Int×Int))×Int×Int))(s4258:List (Int×Int×Int×Int×Bool))(ge:Int)(aj:Int)(bo:Int)(bu:Int)(x4263:Int)(x4264:Int):Option (Int×(Int×Int×Int×(List (Int×Int))×Int×Int)×Int×Int×Int×(Int×Int×Int×Int×Bool)):=(AN N ge 8).bind λah=>(bif decide (ah=0)then(some (decide (ah=0)))else(some (decide (ah=1))):Option (Bool)).bind λjn=>bif jn then(gd (Af (x4263.tdiv 4))<|gd (Af (x4264.tdiv 8))<|(El N aj bo bu x4263 (x4263.tdiv 4) x4264 (x4264.tdiv 8)).bind λ(lh,lg,lf,kz,kv,kr)=>some (1,(lh,lg,lf,kz,kv,kr),0,0,0,(0,0,0,0,false)))else(bif decide (ah=2)then((D1 N bw s4258 aj).bind λkq=>some (2,(0,0,0,[],0,0),kq,0,0,(0,0,0,0,false)))else(bif decide (ah=3)then((D1 N bw s4258 aj).bind λak=>(AN N bo 4).bind λb9=>(AN N bu 4).bind λg9=>bif decide (b9=g9)then(gd (Af (b9+2))<|gd (Af (ak+40))<|(AN N x4263 20).bind λg8=>gd (Af ((ak+40)+g8))<|some (3,(((ak+40)+g8).tmod 100,0,0,[],0,0),ak,b9,(b9+2).tmod 4,(0,0,0,0,false)))else(gd (Af (ak+40))<|(AN N x4263 20).bind λgz=>gd (Af ((ak+40)+gz))<|some (3,(((ak+40)+gz).tmod 100,0,0,[],0,0),ak,b9,g9,(0,0,0,0,false))))else(bif decide (ah=4)then((D1 N bw s4258 aj).bind λgy=>(AN N bo 7).bind λcq=>gd (Af (cq-3))<|gd (Af (4*(cq-3)))<|(AN N bu 5).bind λb7=>gd (Af (b7-2))<|gd (Af (4*(b7-2)))<|bif (decide (4*(cq-3)=0))&&(decide (4*(b7-2)=0))then((AN N x4263 3).bind λgx=>gd (Af (1+gx))<|some (4,(0,0,0,[],0,0),gy,1+gx,4*(b7-2),(0,0,0,0,false)))else(some (4,(0,0,0,[],0,0),gy,4*(cq-3),4*(b7-2),(0,0,0,0,false))))else(bif decide (ah=5)then((AN N aj 20).bind λkm=>(D1 N bw s4258 bo).bind λkl=>(AN N bu 6).bind λgw=>gd (Af (gw-2))<|(AN N x4263 5).bind λgv=>gd (Af (1+gv))<|(AN N x4263 2).bind λkj=>some (5,(0,0,0,[],0,0),0,0,0,(km,kl,gw-2,1+gv,decide (kj=0))))else((AN N bo 2).bind λdh=>gd (Af (6+dh))<|(AN N aj 12).bind λki=>bif decide (0<(s4258.length:Int))then((AN N aj (s4258.length:Int)).bind λkh=>(A7 s4258 kh).bind λ(jm,tp,tn,tj,th)=>some (6+dh,(0,0,0,[],0,0),jm,0,0,(0,0,0,0,false)))else(some (6+dh,(0,0,0,[],0,0),ki,0,0,(0,0,0,0,false))))))))
@[go_sem] def s43(N:Nat):Spec:=p0<|(Aoh<|qD Ak<|qD AA<|Aof<|Aoh<|Aoi<|Aoi<|Aoi<|Aoi<|Aoi<|Aoi<|Aof<|Aof<|Aog (0,(0,0,0,[],0,0),0,0,0,(0,0,0,0,false)) λr=>.agg [.i r.1,.i r.2.1.1,.i r.2.1.2.1,.i r.2.1.2.2.1,BP r.2.1.2.2.2.1,.i r.2.1.2.2.2.2.1,.i r.2.1.2.2.2.2.2,.i r.2.2.1,.i r.2.2.2.1,.i r.2.2.2.2.1,.i r.2.2.2.2.2.1,.i r.2.2.2.2.2.2.1,.i r.2.2.2.2.2.2.2.1,.i r.2.2.2.2.2.2.2.2.1,.b r.2.2.2.2.2.2.2.2.2]) (F5 N)
theorem oF(N:Nat):AG Tryz.prog 43 (s43 N):=by
 refine fk (Aoq x43 (Ab (U0 N)<|Ab (nV N)<|Ab (Acn N)<|Aj)) ?_;intro bw s4258 ge aj bo bu x4263 x4264 r h _ hS F;dsimp only[x43,Ah,AA,Ak];unfold F5 at h;obtain⟨ah,qx,h⟩:=un h;replace F:=fc qx F;obtain⟨ug,i5,h⟩:=un h;refine go hS F ?_;refine Bz ug (λz:Bool×Nat=>⟨[(2,.box (0,1) 0),(3,.box (1,1) 0),(4,.box (2,1) 0),(10,.i ah),(11,.b z.1)],[(.c (2,1) 0,.i 0),(.c (2,1) 1,.i 0),(.c (2,1) 2,.i 0),(.c (2,1) 3,.i 0),(.c (2,1) 4,.sl 0 true [] []),(.c (2,1) 5,.i 0),(.c (2,1) 6,.i 0),(.c (2,1) 7,.i 0),(.c (2,1) 8,.i 0),(.c (2,1) 9,.i 0),(.c (2,1) 10,.i 0),(.c (2,1) 11,.i 0),(.c (2,1) 12,.i 0),(.c (2,1) 13,.i 0),(.c (2,1) 14,.b false),(.c (1,1) 0,.i ge),(.c (1,1) 1,.i aj),(.c (1,1) 2,.i bo),(.c (1,1) 3,.i bu),(.c (1,1) 4,.i x4263),(.c (1,1) 5,.i x4264),(.c (0,1) 0,Ap bw),(.c (0,1) 1,AS s4258)],z.2⟩) (λz=>(z.1:Bool)) .n ?_ ?_
 ·refine An hS F i5 (λ_ i5=>?_) (λ_ i5=>?_)
  ·exact B4 hS F (decide (ah=0),3) i5
  ·exact B4 hS F (decide (ah=1),4) i5
 ·rintro⟨jn,vj⟩ rfl;refine An hS F h (λ_ h=>?_) (λ_ h=>?_)
  ·obtain⟨uu,uq,⟨lh,lg,lf,kz,kv,kr⟩,qw,h⟩:=un h;exact Ai hS (fc qw F) h
  ·refine An hS F h (λ_ h=>?_) (λ_ h=>?_)
   ·obtain⟨kq,qu,h⟩:=un h;exact Ai hS (fc qu F) h
   ·refine An hS F h (λ_ h=>?_) (λ_ h=>?_)
    ·obtain⟨ak,qt,b9,qr,g9,qq,h⟩:=un h;replace F:=fc qq (fc qr (fc qt F));refine An hS F h (λ_ h=>?_) (λ_ h=>?_)
     ·obtain⟨ut,ur,g8,qo,vg,h⟩:=un h;exact Ai hS (fc qo F) h
     ·obtain⟨ve,gz,qn,wa,h⟩:=un h;exact Ai hS (fc qn F) h
    ·refine An hS F h (λ_ h=>?_) (λ_ h=>?_)
     ·obtain⟨gy,qm,cq,ql,v9,vz,b7,qk,vy,vw,h⟩:=un h;replace F:=fc qk (fc ql (fc qm F));refine An hS F h (λ_ h=>?_) (λ_ h=>?_)
      ·obtain⟨gx,qj,vq,h⟩:=un h;exact Ai hS (fc qj F) h
      ·exact Ai hS F h
     ·refine An hS F h (λ_ h=>?_) (λ_ h=>?_)
      ·obtain⟨km,qh,kl,qg,gw,qe,vo,gv,qd,vn,kj,qc,h⟩:=un h;exact Ai hS (fc qc (fc qd (fc qe (fc qg (fc qh F))))) h
      ·obtain⟨dh,qb,vm,ki,pz,h⟩:=un h;replace F:=fc pz (fc qb F);refine An hS F h (λ_ h=>?_) (λ_ h=>?_)
       ·obtain⟨kh,pv,⟨jm,tp,tn,tj,th⟩,s8,h⟩:=un h;obtain⟨u7,F⟩:=Cb BZ s8 (fc pv F);exact Ai hS F h
       ·exact Ai hS F h
def DR(N:Nat)(x5507:List (Int×Int×Int×Int))(r5509:List (Int×Int×Int×(List (Int×Int))×Int×Int)):Nat->Int->(List (Int×Int×Int×Int×Bool))->Option ((List (Int×Int×Int×Int×Bool)))|0,_,_=>none|n+1,ai,bv=>bif ((decide (ai<(x5507.length:Int)))&&(decide (ai<8)))&&(decide (0<(r5509.length:Int)))then((A7 x5507 ai).bind λ(jk,jj,ji,fx)=>(AN N jj (r5509.length:Int)).bind λkg=>(A7 r5509 kg).bind λ(jh,tg,tf,x5578,te,tc)=>(AN N jk 12).bind λkf=>gd (Af ((x5578.length:Int)+2))<|(AN N ji ((x5578.length:Int)+2)).bind λgu=>gd (Af (gu-2))<|(AN N fx 5).bind λgt=>gd (Af (1+gt))<|(AN N fx 2).bind λke=>(E9 N bv kf jh (gu-2) (1+gt) (decide (ke=0))).bind λ(gr,ka)=>bif ka then(gd (Af (ai+1))<|DR N x5507 r5509 n (ai+1) gr)else(gd (Af (ai+1))<|DR N x5507 r5509 n (ai+1) bv))else(some bv)
def Dp(N:Nat)(gc:List (Int×Int×Int×Int×Int×Int))(x5507:List (Int×Int×Int×Int))(jl:List (Int×Int×Int×Int×Int×Int)):Option ((List (Int×Int×Int×(List (Int×Int))×Int×Int))×(List (Int×Int×Int×Int×Bool))):=(FD N gc).bind λr5509=>(DR N x5507 r5509 N 0 []).bind λj8=>some (r5509,j8)
@[go_sem] def s12(N:Nat):Spec:=p0<|(Aoh<|Aon GR<|Aon Nt<|Aon GR<|Aof<|Aof<|Aog ([],[]) λr=>.agg [Ap r.1,AS r.2]) (Dp N)
theorem ZI(N:Nat):AG Tryz.prog 12 (s12 N):=by
 refine fk (Aoq x12 (Ab (Ace N)<|Ab (U0 N)<|Ab (oB N)<|Aj)) ?_;intro gc x5507 jl r h _ hS F;dsimp only[x12,Ah,Nt,GR];unfold Dp at h;obtain⟨r5509,pq,h⟩:=un h;replace F:=fc pq F;refine go hS F ?_;refine Yd (104,2) 1 5 [.i 0,.i 0,.i 0,.i 0,.b false] (ev F) ?_;obtain⟨uf,i5,h⟩:=un h;refine go hS F ?_;refine Bz uf (λz:(List (Int×Int×Int×Int×Bool))×Nat=>⟨[(2,.box (1,1) 0),(3,.box (104,2) 0)],[(.c (104,2) 0,Ap r5509),(.c (104,2) 1,AS z.1),(.c (1,1) 0,.sl 0 true [] []),(.c (1,1) 1,.sl 0 true [] [])],z.2⟩) (λz=>(z.1:(List (Int×Int×Int×Int×Bool)))) (.x 0) ?_ ?_
 ·refine Bp (λn (y:Int×(List (Int×Int×Int×Int×Bool))×Nat)=>DR N x5507 r5509 n y.1 y.2.1) (λy=>⟨[(1,.box (0,1) 0),(2,.box (1,1) 0),(3,.box (104,2) 0),(4,.i y.1)],[(.c (104,2) 0,Ap r5509),(.c (104,2) 1,AS y.2.1),(.c (1,1) 0,.sl 0 true [] []),(.c (1,1) 1,.sl 0 true [] []),(.c (0,1) 0,GS gc),(.c (0,1) 1,Ov x5507),(.c (0,1) 2,GS jl)],y.2.2⟩) (0,[],3) i5 (Ch F) ?_;rintro n ⟨ai,bv,i6⟩ ab;simp only[DR]at ab;refine An hS F ab (λ_ ab=>?_) (λ_ ab=>?_)
  ·obtain⟨⟨jk,jj,ji,fx⟩,s7,ab⟩:=un ab;obtain⟨uz,F⟩:=Cb Kf s7 F;obtain⟨kg,pp,⟨jh,tg,tf,x5578,te,tc⟩,s6,ab⟩:=un ab;obtain⟨uy,F⟩:=Cb Au s6 (fc pp F);obtain⟨kf,po,uq,gu,pm,ut,gt,pj,ur,ke,pi,⟨gr,ka⟩,ph,ab⟩:=un ab;replace F:=fc ph (fc pi (fc pj (fc pm (fc po F))));refine An hS F ab (λ_ ab=>?_) (λ_ ab=>?_)
   ·obtain⟨vg,ab⟩:=un ab;exact Cd hS F (n,ai+1,gr,i6+1+1+1+1+1+1+1+1) ab
   ·obtain⟨ve,ab⟩:=un ab;exact Cd hS F (n,ai+1,bv,i6+1+1+1+1+1+1+1) ab
  ·exact B4 hS F (bv,i6+1) ab
 ·rintro⟨j8,vi⟩ rfl;exact Ai hS F h
def Db(N:Nat)(x5601:List (Int×Int×Int×Int×Int×Int)):Nat->Int->Int->(List (Int×(Int×Int×Int×(List (Int×Int))×Int×Int)×Int×Int×Int×(Int×Int×Int×Int×Bool)))->(List (Int×Int×Int×(List (Int×Int))×Int×Int))->(List (Int×Int×Int×Int×Bool))->Option (Int×(List (Int×(Int×Int×Int×(List (Int×Int))×Int×Int)×Int×Int×Int×(Int×Int×Int×Int×Bool))))|0,_,_,_,_,_=>none|n+1,aa,ae,l5665,cj,ci=>bif (decide (ae<(x5601.length:Int)))&&(decide (ae<8))then((A7 x5601 ae).bind λ(jg,jf,je,jd,jc,jb)=>(F5 N cj ci jg jf je jd jc jb).bind λ(bl,(bj,bi,bh,bg,bf,be),bb,ba,az,(ay,av,au,aq,an))=>gd ((l5665.length+1)*136<=140737488355328)<|(D0 N cj ci bl bj bi bh bg bf be bb ba az ay av au aq an).bind λ((co,cn),j9)=>bif decide (j9=0)then(bif decide (aa=ae)then(gd (Af (aa+1))<|gd (Af (ae+1))<|Db N x5601 n (aa+1) (ae+1) (l5665++[(bl,(bj,bi,bh,bg,bf,be),bb,ba,az,(ay,av,au,aq,an))]) co cn)else(gd (Af (ae+1))<|Db N x5601 n aa (ae+1) (l5665++[(bl,(bj,bi,bh,bg,bf,be),bb,ba,az,(ay,av,au,aq,an))]) co cn))else(gd (Af (ae+1))<|Db N x5601 n aa (ae+1) (l5665++[(bl,(bj,bi,bh,bg,bf,be),bb,ba,az,(ay,av,au,aq,an))]) cj ci))else(some (aa,l5665))
def GA(N:Nat)(fr:List (Int×Int×Int×Int×Int×Int))(fq:List (Int×Int×Int×Int))(x5601:List (Int×Int×Int×Int×Int×Int)):Option ((List (Int×(Int×Int×Int×(List (Int×Int))×Int×Int)×Int×Int×Int×(Int×Int×Int×Int×Bool)))×Int):=(Dp N fr fq x5601).bind λ(gm,gj)=>(Db N x5601 N 0 0 [] gm gj).bind λ(cr,n6)=>some (n6,cr)
@[go_sem] def s13(N:Nat):Spec:=p0<|(Aoh<|Aon GR<|Aon Nt<|Aon GR<|Aof<|Aof<|Aog ([],0) λr=>.tup [Ay r.1,.i r.2]) (GA N)
theorem Aco(N:Nat):AG Tryz.prog 13 (s13 N):=by
 refine fk (Aoq x13 (Ab (ZI N)<|Ab (oF N)<|Ab (U1 N)<|Aj)) ?_;intro fr fq x5601 r h _ hS F;dsimp only[x13,Ah,Nt,GR];unfold GA at h;obtain⟨⟨gm,gj⟩,pg,h⟩:=un h;replace F:=fc pg F;refine go hS F ?_;refine DT 1000001 5 15 [.i 0,.i 0,.i 0,.i 0,.sl 0 true [] [],.i 0,.i 0,.i 0,.i 0,.i 0,.i 0,.i 0,.i 0,.i 0,.b false] (by show(5:Nat)<51;omega) (by omega) (ev F) ?_;obtain⟨ue,i5,h⟩:=un h;refine go hS F ?_;refine Bz ue (λz:Int×(List (Int×(Int×Int×Int×(List (Int×Int))×Int×Int)×Int×Int×Int×(Int×Int×Int×Int×Bool)))×Nat=>⟨[(5,.own (1000001,6) z.2.1.length),(6,.i z.1)],[(.a (1000001,6),EW z.2.1)],z.2.2⟩) (λz=>((z.1,z.2.1):Int×(List (Int×(Int×Int×Int×(List (Int×Int))×Int×Int)×Int×Int×Int×(Int×Int×Int×Int×Bool))))) (.x 0) ?_ ?_
 ·refine Bp (λn (y:Int×Int×(List (Int×(Int×Int×Int×(List (Int×Int))×Int×Int)×Int×Int×Int×(Int×Int×Int×Int×Bool)))×(List (Int×Int×Int×(List (Int×Int))×Int×Int))×(List (Int×Int×Int×Int×Bool))×Nat)=>Db N x5601 n y.1 y.2.1 y.2.2.1 y.2.2.2.1 y.2.2.2.2.1) (λy=>⟨[(1,.box (0,1) 0),(4,.box (102,2) 0),(5,.own (1000001,6) y.2.2.1.length),(6,.i y.1),(7,.i y.2.1)],[(.a (1000001,6),EW y.2.2.1),(.c (102,2) 0,Ap y.2.2.2.1),(.c (102,2) 1,AS y.2.2.2.2.1),(.c (0,1) 0,GS fr),(.c (0,1) 1,Ov fq),(.c (0,1) 2,GS x5601)],y.2.2.2.2.2⟩) (0,0,[],gm,gj,6) i5 (Ch F) ?_;rintro n ⟨aa,ae,l5665,cj,ci,ei⟩ ab;simp only[Db]at ab;refine An hS F ab (λ_ ab=>?_) (λ_ ab=>?_)
  ·obtain⟨⟨jg,jf,je,jd,jc,jb⟩,sy,ab⟩:=un ab;obtain⟨ux,F⟩:=Cb GQ sy F;obtain⟨⟨bl,⟨bj,bi,bh,bg,bf,be⟩,bb,ba,az,⟨ay,av,au,aq,an⟩⟩,pd,ab⟩:=un ab;obtain⟨uq,⟨⟨co,cn⟩,j9⟩,o0,ab⟩:=un ab;replace F:=fc o0 (fc pd F);refine An hS F ab (λ_ ab=>?_) (λ_ ab=>?_)
   ·refine An hS F ab (λ_ ab=>?_) (λ_ ab=>?_)
    ·obtain⟨ut,ur,ab⟩:=un ab;exact Cd hS F (n,aa+1,ae+1,l5665++[(bl,(bj,bi,bh,bg,bf,be),bb,ba,az,(ay,av,au,aq,an))],co,cn,ei+1+1+1+1+1+1+1+1+1) ab
    ·obtain⟨vg,ab⟩:=un ab;exact Cd hS F (n,aa,ae+1,l5665++[(bl,(bj,bi,bh,bg,bf,be),bb,ba,az,(ay,av,au,aq,an))],co,cn,ei+1+1+1+1+1+1+1+1) ab
   ·obtain⟨ve,ab⟩:=un ab;exact Cd hS F (n,aa,ae+1,l5665++[(bl,(bj,bi,bh,bg,bf,be),bb,ba,az,(ay,av,au,aq,an))],cj,ci,ei+1+1+1+1+1+1) ab
  ·exact B4 hS F (aa,l5665,ei+1) ab
 ·rintro⟨cr,n6,vh⟩ rfl;exact E2 hS F h
end
section
variable{N:Nat}(hN:1001<=N)
include hN
omit hN in
theorem TI{f:List Un}(h:FV f)(t:Int):∀n i (l:List Un),i<=f.length->f.length<n+i->l.length<=i->Dg N f t n (i:Nat) l=some (l++(f.drop i).filter λv=>decide (v.1≠t))
 |0,i,l,h1,h2,_=>by omega
 |n+1,i,l,h1,h2,h3=>by
  have hl:=h.len;rw[Dg];by_cases e:i=f.length
  ·grind
  ·have hi:i<f.length:=by omega
   have v8:=(h.val _ (FH hi)).l.l8;rw[Dq hi,cT,Fs hi,bS];simp only;rw[oH hi,List.filter_cons,<-Fb hi];by_cases c:(A2 f i).1≠t
   ·have hcp:BY N (A2 f i).1 (A2 f i).2.1 (A2 f i).2.2.1 (A2 f i).2.2.2.1 (A2 f i).2.2.2.2.1 (A2 f i).2.2.2.2.2=some ((A2 f i).1,(A2 f i).2.1,(A2 f i).2.2.1,(A2 f i).2.2.2.1,(A2 f i).2.2.2.2.1,(A2 f i).2.2.2.2.2):=KX N (by omega);rw[AU _ (aB c),hcp,bS];rw[Ae (by omega),Ae (by omega),<-ns,TI h t n (i+1) _ (by omega) (by omega) (by simp;omega),dW (aB c),qZ];rfl
   ·rw[A1 _ (bJ c),Ae (by omega),<-ns,TI h t n (i+1) _ (by omega) (by omega) (by omega),dQ (by rw[bK];exact c)]
open Classical in
theorem mX{f:List Un}(hl:f.length<=1000)(t:Int):FZ N f t=some (if FV f/\∃u∈f,u.1=t then(EZ f t,0)else([],120)):=by
 have hf:=oW hN hl t;unfold FZ;rw[hf,bS]
 (try simp only)
 by_cases h:FV f
 ·have h2:(Df f t).2=decide (∃u∈f,u.1=t):=by unfold Df;grind
  have L:=TI (N:=N) h t N 0 [] (by omega) (by omega) (by simp);rw[nL,tJ,pA]at L;rw[h2];by_cases c:∃u∈f,u.1=t
  ·rw[aB c,A1 _ (by rfl),L,bS,dW ⟨h,c⟩];rfl
  grind
 simp_all[Df]
omit hN in
theorem Pu{ms:List Mk}(hl:ms.length<=1000)(id:Int):∀n k (l:List Mk),k<=ms.length->ms.length<n+k->l.length<=k->C6 N ms id n (k:Nat) l=some (l++(ms.drop k).filter (I2 id))
 |0,k,l,h1,h2,_=>by omega
 |n+1,k,l,h1,h2,h3=>by
  rw[C6];by_cases e:k<ms.length
  ·rw[Dq e,cT,E7 e,bS];simp only;rw[oH e,List.filter_cons,<-FJ e];by_cases c:(Bi ms k).2.1≠id
   ·rw[aB c,AU _ (by rfl),Ae (by omega),Ae (by omega),<-ns,Pu hl id n (k+1) _ (by omega) (by omega) (by simp;omega),dW (show I2 id (Bi ms k)=true from aB c),qZ];rfl
   ·rw[bJ c,A1 _ (by rfl),Ae (by omega),<-ns,Pu hl id n (k+1) _ (by omega) (by omega) (by omega),dQ (show¬I2 id (Bi ms k)=true by simp_all[I2])]
  grind
theorem Xm{ms:List Mk}(hl:ms.length<=1000)(id:Int):DQ N ms id=some (ms.filter (I2 id)):=by unfold DQ;have:=Pu (N:=N) hl id N 0 [] (by omega) (by omega) (by simp);rw[nL,tJ,pA]at this;rw[this,bS]
omit hN in
theorem Xn{ms:List Mk}{m:Mk}(h:∀x∈ms,x.1<m.1):Hx ms m=ms++[m]:=by unfold Hx;rw[L2.2 λx hx=>by grind,L5.2 λx hx=>by rw[bK];have:=h x hx;omega]
omit hN in
theorem UA{ms:List Mk}{m x:Mk}(h:m.1<=x.1):Hx (ms++[x]) m=Hx ms m++[x]:=by unfold Hx;rw[yI,yI,L5.2 (show∀y∈[x],¬(decide (y.1<m.1)=true)from by grind),qO,L2.2 (show∀y∈[x],decide (m.1<=y.1)=true from by grind),qZ];rfl
omit hN in
theorem RY(ms:List Mk)(m:Mk):(Hx ms m).length<=2*ms.length+1:=by unfold Hx;grind
omit hN in
theorem RZ{ms:List Mk}(hl:ms.length<=1000)(hs:ms.Pairwise λa b=>a.1<b.1)(m:Mk):∀n k (l:List Mk) (pt:Bool),k<=ms.length->ms.length<n+k->(∀x∈ms.take k,x.1≠m.1)->((pt=false/\l=ms.take k/\∀x∈ms.take k,x.1<m.1)\/(pt=true/\l=Hx (ms.take k) m/\∃x∈ms.take k,m.1<x.1))->((∃x∈ms,x.1=m.1)/\Dx N ms m.1 m.2.1 m.2.2.1 m.2.2.2.1 m.2.2.2.2 n pt (k:Nat) l=some (.inr ([],false)))\/((∀x∈ms,x.1≠m.1)/\∃p' l',Dx N ms m.1 m.2.1 m.2.2.1 m.2.2.2.1 m.2.2.2.2 n pt (k:Nat) l=some (.inl (p',l'))/\l'.length<=2*ms.length+1/\(bif !p' then l'++[m]else l')=Hx ms m)
 |0,k,l,pt,h1,h2,_,_=>by omega
 |n+1,k,l,pt,h1,h2,h3,h4=>by
  rw[Dx];by_cases e:k<ms.length
  ·have tk:=Vi e;rw[Dq e,cT,E7 e,bS];simp only;by_cases c:(Bi ms k).1=m.1
   ·rw[aB c,cT];exact .inl ⟨⟨_,J5 e,c⟩,rfl⟩
   ·have h3':∀x∈ms.take (k+1),x.1≠m.1:=λx hx=>by
     rw[tk,mU,vF]at hx;rcases hx with hx|rfl
     ·exact h3 x hx
     ·exact c
    rw[bJ c,cF];have ll:l.length<=2*k+1:=by
     rcases h4 with⟨_,rfl,_⟩|⟨_,rfl,_⟩
     ·rw[tW];omega
     ·have:=RY (ms.take k) m;rw[tW]at this;omega
    by_cases c2:((!pt)&&decide (m.1<(Bi ms k).1))=true
    ·rw[c2,cT,Ae (by omega),bS];rw[nK,bK,w6]at c2;rcases h4 with⟨_,rfl,g⟩|⟨g,_⟩
     ·simp only;rw[Ae (by simp only[jT,pV,yH];omega),Ae (by unfold Af;omega),<-ns];refine RZ hl hs m n (k+1) _ true (by omega) (by omega) h3' (.inr ⟨rfl,?_,Bi ms k,by rw[tk];simp,c2.2⟩);rw[tk,UA (by omega),Xn g]
     ·rw[g]at c2;cases c2.1
    ·rw[tU.2 c2,cF,bS];simp only;rw[Ae (by omega),Ae (by unfold Af;omega),<-ns];refine RZ hl hs m n (k+1) _ pt (by omega) (by omega) h3' ?_;rcases h4 with⟨p1,rfl,g⟩|⟨p1,rfl,y,hy,g⟩
     ·grind
     ·refine .inr ⟨p1,?_,y,by rw[tk];exact List.mem_append_left _ hy,g⟩;have:y.1<(Bi ms k).1:=by obtain⟨j,hj,rfl⟩:=List.mem_iff_getElem.1 hy;rw[tW]at hj;rw[List.getElem_take,<-FJ (by omega)];exact I1.1 hs j k (by omega) e
      rw[tk,UA (by omega)]
  ·all_goals grind[RY,Xn]
open Classical in
theorem fR{ms:List Mk}(hl:ms.length<=1000)(hs:ms.Pairwise λa b=>a.1<b.1)(m:Mk):E9 N ms m.1 m.2.1 m.2.2.1 m.2.2.2.1 m.2.2.2.2=some (if∃x∈ms,x.1=m.1 then([],false)else(Hx ms m,true)):=by
 unfold E9;have F:=RZ (N:=N) hl hs m N 0 [] false (by omega) (by omega) (by simp) (by grind);rw[nL]at F;rcases F with⟨h,e⟩|⟨h,p',l',e,ll,e2⟩
 ·rw[e,bS,dW h]
 ·rw[e,bS,dQ λ⟨x,hx,e⟩=>h x hx e];simp only;cases p' with
  |false=>rw[Iv,cT,Ae (by omega),bS];grind
  |true=>rw[Jh,cF,bS];rw[Jh,cF]at e2;rw[e2]
open Classical in
theorem Y0{f:List Un}{ms:List Mk}(hm:MV f ms)(id:Int)(b:Bool):∃r,ET N ms id b=some r/\(∀g:List Un,(if r.2=true then some (g,r.1)else none)=(if∃x∈ms,x.1=id/\x.2.2.2.2≠b then some (g,ms.map (TF id b))else none))/\r.1.length<=20:=by
 have hl:=hm.len;unfold ET;rw[Ae (by omega)];have F:=GK (L:=CQ N ms id b) (len:=ms.length) (λk=>if(Bi ms k).1=id then some (ms.set k ((Bi ms k).1,(Bi ms k).2.1,(Bi ms k).2.2.1,(Bi ms k).2.2.2.1,b),((Bi ms k).2.2.2.2 !=b))else none) (λn k hk e=>?_) (λn k r hk e=>?_) (λn=>?_) N (by omega)
 ·rcases F with⟨e,h⟩|⟨j,r,hj,h,_,e⟩
  ·rw[e,bS];refine⟨_,rfl,λg=>?_,by simp⟩;rw[dQ (by simp),dQ];rintro⟨x,hx,e,_⟩;obtain⟨k,hk,rfl⟩:=Ml hx;have:=h k hk;rw[dW e]at this;cases this
  ·by_cases c:(Bi ms j).1=id
   ·rw[dW c]at h;cases h
    rw[e,bS];refine⟨_,rfl,λg=>?_,by rw[vG];omega⟩;simp only;rw[TH hm hj,c];by_cases t:(Bi ms j).2.2.2.2=b
    ·rw[dQ (by rw[t];simp),dQ];rintro⟨x,hx,e,e2⟩;obtain⟨k,hk,rfl⟩:=Ml hx;have:j=k:=by apply Classical.byContradiction;intro hne;by_cases c:k<j;all_goals grind[I1,hm.srt]
     grind
    ·rw[dW (by rw[bne_iff_ne];exact t),dW ⟨_,J5 hj,c,t⟩]
   grind
 ·have c:¬(Bi ms k).1=id:=by grind
  rw[CQ,Dq hk,cT,E7 hk,bS];simp only;rw[bJ c,cF,Ae (by omega),ns]
 ·by_cases c:(Bi ms k).1=id
  ·rw[dW c]at e;cases e
   rw[CQ,Dq hk,cT,E7 hk,bS];simp only;rw[aB c,cT,tK]
  grind
 simp[CQ]
omit hN in
theorem mY{l:List Pt}(h:VP l)(i k:Int):(Ka l i k).1.length<=20/\(Ka l i k).2.1.length<=20:=by
 have l8:=h.l8;have l3:=h.l3;unfold Ka Tq;split
 ·split
  ·grind
  ·simp only[By];unfold Eb;have h1:=tH (k.toNat+l.length-i.toNat) (show 0<l.length by omega);have h2:=tH (i.toNat+l.length-k.toNat) (show 0<l.length by omega);omega
 grind
omit hN in
theorem Xo{f:List Un}(h1:f.length<=1000)(h8:∀u∈f,u.2.2.2.1.length<=1000):∀n k,k<=f.length->f.length<n+k->EG N f n (k:Nat) (f.take k)=some f
 |0,k,_,_=>by omega
 |n+1,k,h2,h3=>by
  rw[EG];by_cases e:k<f.length
  ·rw[Dq e,cT,Fs e,bS];simp only;rw[KX N (h8 _ (FH e)),bS];rw[Ae (by rw[tW];omega),Ae (by omega),<-ns];have:=Xo h1 h8 n (k+1) (by omega) (by omega);rw[KZ e]at this;exact this
  grind
theorem Ac3{f:List Un}(h1:f.length<N)(h9:f.length<=1000)(h8:∀u∈f,u.2.2.2.1.length<=1000){ms:List Mk}(hl:ms.length<=1000):CH N f ms=some (f,ms):=by have:=Xo (N:=N) h9 h8 N 0 (by omega) (by omega);rw[List.take_zero,nL]at this;unfold CH HZ;rw[this,bS,bS,Ae (by omega)]
theorem Pv{f:List Un}(hf:FV f){ms:List Mk}(hl:ms.length<=1000)(ok:Bool):(gd ((!(!ok))=true->((Bn N f ms).isSome=true))<|bif (!ok)||(!((Bn N f ms).getD false))then some ((([]:List Un),([]:List Mk)),(170:Int))else((CH N f ms).bind λ(r1,r2)=>some ((r1,r2),0)))=some (IM (if ok=true/\MV f ms then some (f,ms)else none)):=by
 rw[Xi hN f hl,BR (by grind),oK];have fl:=hf.len;have f8:=hf.lens;cases ok with
 |false=>rfl
 |true=>
  by_cases c:MV f ms
  ·rw[aB ⟨hf,c⟩,A1 _ (by rfl),dW ⟨rfl,c⟩,Ac3 hN (by omega) (by omega) (by grind) hl,bS];rfl
  ·rw[bJ λw=>c w.2,AU _ (by rfl),dQ λw=>c w.2];rfl
theorem Kl{f:List Un}{ms:List Mk}:(gd ((!(!false))=true->((Bn N f ms).isSome=true))<|bif (!false)||(!((Bn N f ms).getD false))then some ((([]:List Un),([]:List Mk)),(170:Int))else((CH N f ms).bind λ(r1,r2)=>some ((r1,r2),0)))=some (IM none):=by rfl
variable(a b c p q id i k m1 m2 m3 m4:Int)(l:List Pt)(o:Bool)
theorem Abz{f:List Un}(h:FV f)(t:Int):Dm N f t=some (((Df f t).1.1,(Df f t).1.2.1,(Df f t).1.2.2.1,(Df f t).1.2.2.2.1,(Df f t).1.2.2.2.2.1,(Df f t).1.2.2.2.2.2),(Df f t).2):=oW hN (by have:=h.len;omega) t
theorem qG(h9:N<=100000){f:List Un}{ms:List Mk}(hl:ms.length<=1000)(n:Int):D0 N f ms n a b c l p q id i k m1 m2 m3 m4 o=some (IM (Ig (f,ms) (n,(a,b,c,l,p,q),id,i,k,(m1,m2,m3,m4,o)))):=by
 unfold D0;rw[Xi hN f hl,bS,YX hN,BR (λ_=>jS),oK];by_cases h:SV f ms/\FA (n,(a,b,c,l,p,q),id,i,k,(m1,m2,m3,m4,o))
 ·obtain⟨h,fa⟩:=h;have ml:=h.2.len;rw[aB h,aB fa,A1 _ (by rfl),LB h fa];by_cases e5:n=5
  ·subst e5;have ra:=fR hN (ms:=ms) (by omega) h.2.srt (m1,m2,m3,m4,o);simp only at ra;rw[AU _ (by rfl),ra,bS,Abu];by_cases t:∃x∈ms,x.1=m1
   ·rw[dW t,dW t];exact Kl hN
   ·rw[dQ t,dQ t];have:=RY ms (m1,m2,m3,m4,o);have:=Pv hN h.1 (ms:=Hx ms (m1,m2,m3,m4,o)) (by omega) true;simp only[true_and]at this;exact this
  rw[A1 _ (bJ e5)];by_cases e6:n=6
  ·subst e6;obtain⟨r,r1,r2,r3⟩:=Y0 hN h.2 id false;rw[AU _ (by rfl),r1,bS,Abv,<-r2 f];have:=Pv hN h.1 (ms:=r.1) (by omega) r.2;grind
  rw[A1 _ (bJ e6)];by_cases e7:n=7
  ·subst e7;obtain⟨r,r1,r2,r3⟩:=Y0 hN h.2 id true;rw[AU _ (by rfl),r1,bS,Abw,<-r2 f];have:=Pv hN h.1 (ms:=r.1) (by omega) r.2;grind
  rw[A1 _ (bJ e7)];unfold G4;rw[Ae (by omega)];have rv:FV (EZ f id):=h.1.sub List.filter_sublist;have fl:=RW ms (I2 id);by_cases e1:n=1
  ·subst e1;have uv:=(fa1.1 fa).1;have l8:l.length<=8:=uv.l.l8;have ra:=W3 hN f (u:=(a,b,c,l,p,q)) (by show l.length<=1000;omega);simp only at ra;rw[AU _ (by rfl),ra,bS,Abq];by_cases t:Fit f (a,b,c,l,p,q)
   ·rw[dW t,dW t];have:=Pv hN t.fv (ms:=ms) (by omega) true;simp only[true_and]at this;exact this
   ·rw[dQ t,dQ t];exact Kl hN
  rw[A1 _ (bJ e1),Abz hN h.1,bS];by_cases e2:n=2
  ·subst e2;rw[Abr];rcases OJ h.1 id with⟨_,g2,t⟩|⟨u,hu,t,_,g2⟩
   ·rw[g2,dQ t];simp only;rw[AU _ (by rfl),bS];exact Kl hN
   ·rw[g2,dW ⟨u,hu,t⟩];simp only;rw[A1 _ (by rfl),mX hN (by have:=h.1.len;omega) id,bS,dW ⟨h.1,u,hu,t⟩];simp only;rw[AU _ (by rfl),Xm hN (by omega),bS,bS];have:=Pv hN rv (ms:=ms.filter (I2 id)) (by omega) true;simp only[true_and]at this;exact this
  by_cases e4:n=4
  ·subst e4;have fb:=qC.1 fa;rw[Abt];rcases OJ h.1 id with⟨g1,g2,t⟩|⟨u,hu,t,g1,g2⟩
   ·rw[g1,g2];simp only;rw[AU _ (by rfl),bS];exact Kl hN
   ·rw[g1,g2];simp only;have um:=qE (N:=N) (by omega) (h.1.val u hu) (d:=(i,k)) (by unfold Qg;omega);obtain⟨r,q1,q2,q3⟩:=AcS (N:=N) hN u.1 u.2.1 u.2.2.1 u.2.2.2.1 u.2.2.2.2.1 u.2.2.2.2.2 i k;simp only at um;rw[um]at q1;rw[<-yJ q1]at q2;rw[A1 _ (by rfl),mX hN (by have:=h.1.len;omega) id,bS,dW ⟨h.1,u,hu,t⟩];simp only;rw[A1 _ (by rfl),AU _ (by rfl),q2,bS];by_cases t3:Xk (i,k) u
    ·rw[dW t3];simp only;have ra:=W3 hN (EZ f id) (u:=S5 (i,k) u) (by have:=h.1.lens u hu;grind);rw[A1 _ (by rfl),ra,bS];by_cases t1:Fit (EZ f id) (S5 (i,k) u)
     ·rw[dW t1,dW ⟨t3,t1⟩];have:=Pv hN t1.fv (ms:=ms) (by omega) true;simp only[true_and]at this;exact this
     ·rw[dQ t1,dQ λw=>t1 w.2];exact Kl hN
    ·rw[dQ t3,dQ λw=>t3 w.1];simp only[PE];rw[AU _ (by rfl),bS];exact Kl hN
  have e3:n=3:=by apply Classical.byContradiction;intro e3;exact fM (by omega) fa
  ·subst e3;have fb:=qB.1 fa;rw[Abs];rcases OJ h.1 id with⟨g1,g2,t⟩|⟨u,hu,t,g1,g2⟩
   ·rw[g1,g2];simp only;rw[AU _ (by rfl),bS];exact Kl hN
   ·rw[g1,g2];simp only;have vp:=(h.1.val u hu).l;rw[A1 _ (by rfl),mX hN (by have:=h.1.len;omega) id,bS,dW ⟨h.1,u,hu,t⟩];simp only;have zl:=mY vp i k;rw[A1 _ (by rfl),A1 _ (by rfl),fQ vp fb.2.2.2.1.1 fb.2.2.2.2.1.1 (by omega),bS];generalize Ka u.2.2.2.1 i k=z at zl⊢;obtain⟨z1,z2,z3⟩:=z;simp only at zl⊢;by_cases t3:z3=0
    ·subst t3;have a1:=W3 hN (EZ f id) (u:=Ia u z1) (by show z1.length<=1000;omega);have a2:=W3 hN (Gm (EZ f id) (Ia u z1)) (u:=Ps (Ia u z2) a) (by show z2.length<=1000;omega);unfold Ia at a1;unfold Ia Ps at a2⊢;simp only at a1 a2⊢;rw[A1 _ (by rfl),Xm hN (by omega),bS,a1,bS];by_cases t1:Fit (EZ f id) (u.1,u.2.1,u.2.2.1,z1,u.2.2.2.2.1,u.2.2.2.2.2)
     ·rw[dW t1];rw[A1 _ (by rfl),a2,bS];by_cases t2:Fit (Gm (EZ f id) (u.1,u.2.1,u.2.2.1,z1,u.2.2.2.2.1,u.2.2.2.2.2)) (a,u.2.1,u.2.2.1,z2,u.2.2.2.2.1,u.2.2.2.2.2)
      ·rw[dW t2,dW ⟨trivial,t1,t2⟩];have:=Pv hN t2.fv (ms:=ms.filter (I2 id)) (by omega) true;simp only[true_and]at this;exact this
      ·rw[dQ t2,dQ λw=>t2 w.2.2];exact Kl hN
     ·rw[dQ t1,dQ λw=>t1 w.2.1];exact Kl hN
    ·rw[AU _ (aB t3),dQ λw=>t3 w.1,bS];exact Kl hN
 ·rw[show Ig (f,ms) (n,(a,b,c,l,p,q),id,i,k,(m1,m2,m3,m4,o))=none from dQ h,AU]
  ·rfl
  grind
end
