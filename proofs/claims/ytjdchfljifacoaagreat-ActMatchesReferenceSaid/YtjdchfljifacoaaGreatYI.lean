import Derived.Test.YtjdchfljifacoaaGreatFB
set_option linter.all false
set_option maxRecDepth 100000
set_option maxHeartbeats 8000000
namespace Go.Proofs.YtjdchfljifacoaaGreat.Am
theorem Aj3{f:List Un}(h:0<f.length)(c:Int):∃i:Nat,pk c f.length=i/\i<f.length:=by have:=@DI c f.length (by omega);exact⟨(pk c f.length).toNat,by omega,by omega⟩
theorem Aj4{N:Nat}{u:Un}(h:UV u){how n at_:Int}(h1:Af how)(h2:Af at_):∃v:Un,Jy N u.1 u.2.1 u.2.2.1 u.2.2.2.1 u.2.2.2.2.1 u.2.2.2.2.2 how n at_=some v/\v.2.2.2.1.length<=9:=by
 have l8:=h.l.l8;have l3:=h.l.l3;have hd:Af (how.tdiv 6):=by grind
 obtain⟨r,e,hr⟩:=Ae9 (N:=N) (l:=u.2.2.2.1) (by omega) (by omega) h2 hd;unfold Jy;rw[Ae (by omega),AeL h1 (by omega),bS];generalize pk how 6=k;cases decide (k=0)with
 |true=>grind
 |false=>
 cases decide (k=1)with
 |true=>grind
 |false=>
 cases decide (k=2)with
 |true=>grind
 |false=>
 cases decide (k=3)with
 |true=>grind
 |false=>
 cases decide (k=4)with
 |true=>grind
 |false=>
 rw[cF,Ae hd,e,bS];exact⟨_,rfl,hr⟩
theorem Ajc(N:Nat){f:List Un}(h:FV f):∀n i (l:List Un),i<=f.length->f.length<n+i->l.length<=i->gD N f n (i:Nat) l=some (l++f.drop i)
 |0,i,l,h1,h2,_=>by omega
 |n+1,i,l,h1,h2,h3=>by
  have hl:=h.len;rw[gD];by_cases e:i=f.length
  ·grind
  ·have hi:i<f.length:=by omega
   have v8:=(h.val _ (FH hi)).l.l8;have hcp:BY N (A2 f i).1 (A2 f i).2.1 (A2 f i).2.2.1 (A2 f i).2.2.2.1 (A2 f i).2.2.2.2.1 (A2 f i).2.2.2.2.2=some ((A2 f i).1,(A2 f i).2.1,(A2 f i).2.2.1,(A2 f i).2.2.2.1,(A2 f i).2.2.2.2.1,(A2 f i).2.2.2.2.2):=KX N (by omega);rw[Dq hi,cT,Fs hi,bS];simp;rw[hcp,bS];rw[Ae (by omega),Ae (by omega),<-ns,Ajc N h n (i+1) _ (by omega) (by omega) (by simp;omega),qZ,oH hi,<-Fb hi];rfl
theorem AjO{N:Nat}(hN:1001<=N){f:List Un}(h:FV f){how n at_:Int}(h1:Af how)(h2:Af n)(h3:Af at_):∃g,Agp N f how n at_=some g/\g.length<=13/\∀u∈g,u.2.2.2.1.length<=9:=by
 have hl:=h.len;have sh:∀u∈f,u.2.2.2.1.length<=9:=λu hu=>by have:=(h.val u hu).l.l8;omega
 have L:=Ajc N h N 0 [] (by omega) (by omega) (by simp);rw[nL,tJ,pA]at L;unfold Agp;rw[L,bS];by_cases h0:f.length=0
 ·rw[AU _ (aB (by omega))];exact⟨_,rfl,by simp,by simp⟩
 obtain⟨k,ek,hk⟩:=Aj3 (show 0<f.length by omega) at_;have uk:=h.val _ (FH hk);have v8:=uk.l.l8;rw[A1 _ (bJ (by omega)),IL h3 (by omega),bS,ek,IL h1 (by omega),bS];have set_ok:∀{l:List Un}(i:Nat){v:Un},(∀u∈l,u.2.2.2.1.length<=9)->v.2.2.2.1.length<=9->∀u∈l.set i v,u.2.2.2.1.length<=9:=by grind
 by_cases c0:pk how 4=0
 ·obtain⟨v,hv,vl⟩:=Aj4 (N:=N) uk (how:=how.tdiv 4) (n:=n) (at_:=at_.tdiv 12) (Pp h1 (by omega) (by omega)) (Pp h3 (by omega) (by omega));have hv':Jy N (A2 f k).1 (A2 f k).2.1 (A2 f k).2.2.1 (A2 f k).2.2.2.1 (A2 f k).2.2.2.2.1 (A2 f k).2.2.2.2.2 (how.tdiv 4) n (at_.tdiv 12)=some (v.1,v.2.1,v.2.2.1,v.2.2.2.1,v.2.2.2.2.1,v.2.2.2.2.2):=hv;rw[AU _ (aB c0),Fs hk,bS];simp only;rw[Ae (Pp h1 (by omega) (by omega)),Ae (Pp h3 (by omega) (by omega)),hv',bS];grind
 rw[A1 _ (bJ c0)];by_cases c1:pk how 4=1
 ·have hcp:BY N (A2 f k).1 (A2 f k).2.1 (A2 f k).2.2.1 (A2 f k).2.2.2.1 (A2 f k).2.2.2.2.1 (A2 f k).2.2.2.2.2=some ((A2 f k).1,(A2 f k).2.1,(A2 f k).2.2.1,(A2 f k).2.2.2.1,(A2 f k).2.2.2.2.1,(A2 f k).2.2.2.2.2):=KX N (by omega);rw[AU _ (aB c1),Fs hk,bS];simp only;rw[hcp,bS];simp only;rw[Ae (by omega)];grind
 rw[A1 _ (bJ c1)];by_cases c2:pk how 4=2
 ·have k1:=@DI n 9 (by omega);have k2:=@DI (n.tdiv 9) 9 (by omega);obtain⟨⟨r1,r2⟩,_,e2,e3⟩:=eH (N:=N) (by omega) (A2 f k).2.2.2.1 (pk n 9-4) (pk (n.tdiv 9) 9-4);rw[AU _ (aB c2),Fs hk,bS];simp only;rw[IL h2 (by omega),bS,Ae (by omega),Ae (Pp h2 (by omega) (by omega)),IL (Pp h2 (by omega) (by omega)) (by omega),bS,Ae (by omega),e2,bS];grind
 ·have u0:=FH (f:=f) (k:=0) (by omega);have n0:A7 f 0=some ((A2 f 0).1,(A2 f 0).2.1,(A2 f 0).2.2.1,(A2 f 0).2.2.2.1,(A2 f 0).2.2.2.2.1,(A2 f 0).2.2.2.2.2):=Fs (f:=f) (k:=0) (by omega);obtain⟨w,hw⟩:∃w,A7 (f.set 0 ((A2 f k).1,(A2 f k).2.1,(A2 f k).2.2.1,(A2 f k).2.2.2.1,(A2 f k).2.2.2.2.1,(A2 f k).2.2.2.2.2)) (k:Int)=some w:=⟨_,Ou PE (by omega) (by rw[vG];omega)⟩
  rw[A1 _ (bJ c2),Fs hk,bS];grind
section
open Go
attribute [local irreducible] Ax BO BB Bj BC Bk AY BD BK Cq
def zR(N:Nat)(s1:List (Int×Int×Int×(List (Int×Int))×Int×Int))(s2:List (Int×Int×Int×Int×Bool))(how3:Int)(n4:Int)(br:Int):Option ((List (Int×Int×Int×(List (Int×Int))×Int×Int))×(List (Int×Int×Int×Int×Bool))):=(HZ N s1).bind λr6=>gd ((s2.length)*40<=140737488355328)<|gd ((!(decide ((s2.length:Int)=0)))=true->((AN N how3 6).isSome=true))<|bif (decide ((s2.length:Int)=0))||(decide ((AN N how3 6).getD 0=5))then(gd (Af (how3.tdiv 6))<|(Agp N r6 (how3.tdiv 6) n4 br).bind λbu=>some (bu,s2))else((AN N br (s2.length:Int)).bind λr12=>(AN N how3 6).bind λbe=>bif decide (be=0)then((A7 s2 r12).bind λ(Ak1,AkR,AkS,x157,x158)=>some (r6,s2.set r12.toNat (n4,AkR,AkS,x157,x158)))else(bif decide (be=1)then((A7 s2 r12).bind λ(bb,bn,ba,az,ay)=>some (r6,s2.set r12.toNat (bb,n4,ba,az,ay)))else(bif decide (be=2)then((A7 s2 r12).bind λ(av,au,bm,aq,an)=>some (r6,s2.set r12.toNat (av,au,n4,aq,an)))else(bif decide (be=3)then((A7 s2 r12).bind λ(am,ak,aj,bl,ai)=>some (r6,s2.set r12.toNat (am,ak,aj,n4,ai)))else((A7 s2 r12).bind λ(ah,af,ae,ab,aa)=>gd ((s2.length+1)*40<=140737488355328)<|some (r6,s2++[(ah,af,ae,ab,aa)]))))))
@[go_sem] def s15(N:Nat):Spec:=p0<|(Aoh<|qD Ak<|qD AA<|Aof<|Aoi<|Aoi<|Aoi<|Aof<|Aog ([],[]) λr=>.agg [Ap r.1,AS r.2]) (zR N)
theorem Aj2(N:Nat):AG Tryz.prog 15 (s15 N):=by
 refine fk (Aoq x15 (Ab (Ab7 N)<|Ab (U0 N)<|Ab (Aj1 N)<|Aj)) ?_;intro s1 s2 how3 n4 br r h _ hS F;dsimp only[x15,Ah,AA,Ak];unfold zR at h;refine go hS F ?_;refine GO hS 1 x54.hf x54.hc x54.hn x54.ok rfl (ev F) (ev F) ?_ rfl (ev F) (oL rfl) λhb=>?_
 ·exact Bl hS F
 dsimp only[x54,Ah];obtain⟨r6,ce,co,cn,h⟩:=un h;replace F:=fc ce F;refine An hS F h (λ_ h=>?_) (λ_ h=>?_)
 ·obtain⟨cj,bu,bq,h⟩:=un h;exact Ai hS (fc bq F) h
 ·obtain⟨r12,bp,be,bo,h⟩:=un h;replace F:=fc bo (fc bp F);refine An hS F h (λ_ h=>?_) (λ_ h=>?_)
  ·obtain⟨⟨Ak1,AkR,AkS,x157,x158⟩,bj,h⟩:=un h;obtain⟨b9,F⟩:=Cb BZ bj F;exact Ai hS F h
  ·refine An hS F h (λ_ h=>?_) (λ_ h=>?_)
   ·obtain⟨⟨bb,bn,ba,az,ay⟩,bi,h⟩:=un h;obtain⟨b7,F⟩:=Cb BZ bi F;exact Ai hS F h
   ·refine An hS F h (λ_ h=>?_) (λ_ h=>?_)
    ·obtain⟨⟨av,au,bm,aq,an⟩,bh,h⟩:=un h;obtain⟨bz,F⟩:=Cb BZ bh F;exact Ai hS F h
    ·refine An hS F h (λ_ h=>?_) (λ_ h=>?_)
     ·obtain⟨⟨am,ak,aj,bl,ai⟩,bg,h⟩:=un h;obtain⟨bw,F⟩:=Cb BZ bg F;exact Ai hS F h
     ·obtain⟨⟨ah,af,ae,ab,aa⟩,bf,h⟩:=un h;obtain⟨bv,F⟩:=Cb BZ bf F;obtain⟨ci,h⟩:=un h;exact Ai hS F h
end
section
open Go
attribute [local irreducible] Ax BO BB Bj BC Bk AY BD BK Cq
def rI(x:(List (Int×Int×Int×(List (Int×Int))×Int×Int))×(List (Int×Int×Int×Int×Bool))):List AV:=[Ap x.1,AS x.2]
def Ahq:List AV->(List (Int×Int×Int×(List (Int×Int))×Int×Int))×(List (Int×Int×Int×Int×Bool))|[.sl _ _ a1 _,.sl _ _ a2 _]=>((a1.map B1),(a2.map E8))|_=>([],[])
theorem Ah4{R:List ((List (Int×Int×Int×(List (Int×Int))×Int×Int))×(List (Int×Int×Int×Int×Bool)))}{i:Int}{x:((List (Int×Int×Int×(List (Int×Int))×Int×Int))×(List (Int×Int×Int×Int×Bool)))}(h:A7 R i=some x)(d:List AV):A6 (R.map rI) d i.toNat=rI x:=by
 unfold A7 at h;split at h
 ·unfold A6;rw[dM,rA,h];rfl
 ·cases h
def Ah5:Rw ((List (Int×Int×Int×(List (Int×Int))×Int×Int))×(List (Int×Int×Int×Int×Bool))):=⟨2,rI,Ahq,[.sl 0 true [] [],.sl 0 true [] []]⟩
def Aib(l:List ((List (Int×Int×Int×(List (Int×Int))×Int×Int))×(List (Int×Int×Int×Int×Bool)))):AV:=.sl 2 false (l.map rI) [.sl 0 true [] [],.sl 0 true [] []]
def Ada(l:List ((List (Int×Int×Int×(List (Int×Int))×Int×Int))×(List (Int×Int×Int×Int×Bool)))):AV:=.sl 2 true (l.map rI) [.sl 0 true [] [],.sl 0 true [] []]
attribute [go_sem] Ah5 Aib Ada rI Ahq
def eI(N:Nat)(l685:List (Int×(Int×Int×Int×(List (Int×Int))×Int×Int)×Int×Int×Int×(Int×Int×Int×Int×Bool)))(aj:List (Int×Int×Int×(List (Int×Int))×Int×Int))(ai:List (Int×Int×Int×Int×Bool)):Nat->Int->Option (Sum Unit Bool)|0,_=>none|n+1,dq=>bif decide (dq<(l685.length:Int))then((A7 l685 dq).bind λ(fg,(e9,e8,ez,ep,ej,ei),eh,ee,d9,(d8,d7,dz,dw,du))=>(CZ N aj ai fg e9 e8 ez ep ej ei eh ee d9 d8 d7 dz dw du).bind λ((ji,jh),jg)=>(D0 N aj ai fg e9 e8 ez ep ej ei eh ee d9 d8 d7 dz dw du).bind λ((jf,je),jd)=>(MX N aj ai fg e9 e8 ez ep ej ei eh ee d9 d8 d7 dz dw du).bind λ(jq,jc)=>(Mg N aj ai fg e9 e8 ez ep ej ei eh ee d9 d8 d7 dz dw du).bind λ(jp,jb)=>gd ((!((decide (jg≠jd))||(jc !=jb)))=true->((CG N ji jh jf je).isSome=true))<|gd ((!(((decide (jg≠jd))||(jc !=jb))||(!((CG N ji jh jf je).getD false))))=true->((Ie N jq jp).isSome=true))<|bif (((decide (jg≠jd))||(jc !=jb))||(!((CG N ji jh jf je).getD false)))||(!((Ie N jq jp).getD false))then(some (.inr false))else(gd (Af (dq+1))<|eI N l685 aj ai n (dq+1)))else(some (.inl ()))
def T1(N:Nat)(cn:List (Int×Int×Int×(List (Int×Int))×Int×Int))(cj:List (Int×Int×Int×Int×Bool))(au:List (Int×Int×Int×(List (Int×Int))×Int×Int))(aq:List (Int×Int×Int×Int×Bool))(an:List (Int×Int×Int×(List (Int×Int))×Int×Int))(am:List (Int×Int×Int×Int×Bool))(r38:List (Int×(Int×Int×Int×(List (Int×Int))×Int×Int)×Int×Int×Int×(Int×Int×Int×Int×Bool)))(l685:List (Int×(Int×Int×Int×(List (Int×Int))×Int×Int)×Int×Int×Int×(Int×Int×Int×Int×Bool))):Nat->Int->Option (Sum Unit Bool)|0,_=>none|n+1,x777=>bif decide (x777<3)then((A7 [(cn,cj),(au,aq),(an,am)] x777).bind λ(aj,ai)=>(Hb N aj ai r38).bind λ((j4,jz),jy,jx)=>(MH N aj ai r38).bind λ((jw,jv),ju,jt)=>(Dw N aj ai).bind λjs=>(Bn N aj ai).bind λjr=>gd ((!(((js !=jr)||(decide (jy≠ju)))||(decide (jx≠jt))))=true->((CG N j4 jz jw jv).isSome=true))<|bif (((js !=jr)||(decide (jy≠ju)))||(decide (jx≠jt)))||(!((CG N j4 jz jw jv).getD false))then(some (.inr false))else((eI N l685 aj ai N 0).bind λkv=>match kv with|.inl ()=>(gd (Af (x777+1))<|T1 N cn cj au aq an am r38 l685 n (x777+1))|.inr ow=>(some (.inr ow))))else(some (.inl ()))
def Ud(N:Nat)(r1091:List UInt8)(ah:List UInt8)(text24:List UInt8):Nat->Int->Option (Sum Unit Bool)|0,_=>none|n+1,x1219=>bif decide (x1219<4)then((A7 [r1091,ah,text24.take (min (text24.length:Int) 40).toNat,r1091++(text24.take (min (text24.length:Int) 40).toNat)] x1219).bind λci=>(Nh N ci).bind λ((ir,(iq,ip,im,ij,ii,ig),ic,ib,g9,(g8,gz,gy,gx,gw)),gv)=>(Lh N ci).bind λ((gu,(gt,gr,gm,gj,gi,gh),gg,ge,gc,(fx,fr,fq,fp,fo)),fm)=>gd ((!(decide (gv≠fm)))=true->((FG N ir iq ip im ij ii ig ic ib g9 g8 gz gy gx gw gu gt gr gm gj gi gh gg ge gc fx fr fq fp fo).isSome=true))<|bif (decide (gv≠fm))||(!((FG N ir iq ip im ij ii ig ic ib g9 g8 gz gy gx gw gu gt gr gm gj gi gh gg ge gc fx fr fq fp fo).getD false))then(some (.inr false))else(gd (Af (x1219+1))<|Ud N r1091 ah text24 n (x1219+1)))else(some (.inl ()))
def eB(N:Nat)(l685:List (Int×(Int×Int×Int×(List (Int×Int))×Int×Int)×Int×Int×Int×(Int×Int×Int×Int×Bool)))(af:Int)(c25:Int)(text24:List UInt8):Nat->Int->Option (Sum Unit Bool)|0,_=>none|n+1,ak=>bif decide (ak<(l685.length:Int))then((A7 l685 ak).bind λ(bo,(bn,bm,bl,bj,bi,bh),bg,bf,be,(bb,ba,az,ay,av))=>(Kk N bo bn bm bl bj bi bh bg bf be bb ba az ay av).bind λ(dg,iw)=>(HC N bo bn bm bl bj bi bh bg bf be bb ba az ay av).bind λ(de,iv)=>(ND N bo bn bm bl bj bi bh bg bf be bb ba az ay av).bind λ(db,da)=>(Lg N bo bn bm bl bj bi bh bg bf be bb ba az ay av).bind λ(r1091,cz)=>(BF N bo bn bm bl bj bi bh bg bf be bb ba az ay av).bind λcy=>(Ca N bo bn bm bl bj bi bh bg bf be bb ba az ay av).bind λcu=>gd ((!(((cy !=cu)||(decide (da≠cz)))||(!decide (db=r1091))))=true->((H0 N dg de).isSome=true))<|gd ((!((((cy !=cu)||(decide (da≠cz)))||(!decide (db=r1091)))||(!((H0 N dg de).getD false))))=true->((H0 N iw iv).isSome=true))<|bif ((((cy !=cu)||(decide (da≠cz)))||(!decide (db=r1091)))||(!((H0 N dg de).getD false)))||(!((H0 N iw iv).getD false))then(some (.inr false))else((bif decide (0<(r1091.length:Int))then((Gz N af (r1091.length:Int)).bind λr1178=>gd (0<=r1178/\r1178<=(r1091.length:Int))<|gd (((r1091.take r1178.toNat)++[UInt8.ofNat c25.toNat]).length<=140737488355328)<|gd (Af (r1178+1))<|gd (0<=r1178+1/\r1178+1<=(r1091.length:Int))<|gd ((((r1091.take r1178.toNat)++[UInt8.ofNat c25.toNat])++(r1091.drop (r1178+1).toNat)).length<=140737488355328)<|some (((r1091.take r1178.toNat)++[UInt8.ofNat c25.toNat])++(r1091.drop (r1178+1).toNat)))else(some r1091):Option ((List UInt8))).bind λah=>gd ((r1091++(text24.take (min (text24.length:Int) 40).toNat)).length<=140737488355328)<|(Ud N r1091 ah text24 N 0).bind λiz=>match iz with|.inl ()=>(gd (Af (ak+1))<|eB N l685 af c25 text24 n (ak+1))|.inr nu=>(some (.inr nu))))else(some (.inl ()))
def gM(N:Nat)(me:List (Int×Int×Int×Int×Int×Int))(md:List (Int×Int×Int×Int))(mc:List (Int×Int×Int×Int×Int×Int))(fj:List (Int×Int×Int×(List (Int×Int))×Int×Int))(fh:List (Int×Int×Int×Int×Bool))(co:Int)(jl:Int)(jk:Int)(jj:Int)(dm:List (Int×Int))(dl:Int)(dh:Int)(b7:Int)(bz:Int)(bw:Int)(bv:Int)(bu:Int)(br:Int)(bq:Int)(bp:Bool)(ce:Int)(mb:Int)(af:Int)(text24:List UInt8)(c25:Int):Option Bool:=(H5 N).bind λdt=>(Jz N jl jk jj dm dl dh).bind λ(r28,nq,nk,nj,nh,ng)=>(Dp N me md mc).bind λ(cn,cj)=>(GA N me md mc).bind λ(r38,qc)=>gd ((r38.length)*136<=140737488355328)<|gd ((r38.length+1)*136<=140737488355328)<|(bif decide (0<(r38.length:Int))then(gd (Af ((r38.length:Int)-1))<|(A7 r38 ((r38.length:Int)-1)).bind λ(nf,(nc,nb,mz,my,mu,mt),mr,mq,mo,(mn,mj,mh,mg,mf))=>(Mh N nf nc nb mz my mu mt mr mq mo mn mj mh mg mf ce mb).bind λ(kq,(km,kl,kj,ki,kh,kg),kf,ke,ka,(j9,j8,j7,j6,j5))=>gd ((r38.length+1+1)*136<=140737488355328)<|some (r38++[(co,(r28,nq,nk,nj,nh,ng),b7,bz,bw,(bv,bu,br,bq,bp))]++[(kq,(km,kl,kj,ki,kh,kg),kf,ke,ka,(j9,j8,j7,j6,j5))]))else(some (r38++[(co,(r28,nq,nk,nj,nh,ng),b7,bz,bw,(bv,bu,br,bq,bp))])):Option ((List (Int×(Int×Int×Int×(List (Int×Int))×Int×Int)×Int×Int×Int×(Int×Int×Int×Int×Bool))))).bind λl685=>(zR N cn cj ce mb af).bind λ(au,aq)=>(MG N fj fh).bind λ(an,am)=>(T1 N cn cj au aq an am r38 l685 N 0).bind λkr=>match kr with|.inl ()=>(gd (0<=min (text24.length:Int) 40/\min (text24.length:Int) 40<=(text24.length:Int))<|(eB N l685 af c25 text24 N 0).bind λiy=>match iy with|.inl ()=>(some dt)|.inr nr=>(some nr))|.inr ov=>(some ov)
theorem Ahn(N:Nat)(me:List (Int×Int×Int×Int×Int×Int))(md:List (Int×Int×Int×Int))(mc:List (Int×Int×Int×Int×Int×Int))(fj:List (Int×Int×Int×(List (Int×Int))×Int×Int))(fh:List (Int×Int×Int×Int×Bool))(co:Int)(jl:Int)(jk:Int)(jj:Int)(dm:List (Int×Int))(dl:Int)(dh:Int)(b7:Int)(bz:Int)(bw:Int)(bv:Int)(bu:Int)(br:Int)(bq:Int)(bp:Bool)(ce:Int)(mb:Int)(af:Int)(text24:List UInt8)(c25:Int)(r:Bool)(h:gM N me md mc fj fh co jl jk jj dm dl dh b7 bz bw bv bu br bq bp ce mb af text24 c25=some r):PCall Tryz.prog 3 [.agg [GS me,Ov md,GS mc],.agg [Ap fj,AS fh],.agg [.i co,.i jl,.i jk,.i jj,BP dm,.i dl,.i dh,.i b7,.i bz,.i bw,.i bv,.i bu,.i br,.i bq,.b bp],.i ce,.i mb,.i af,.v (.string (sB text24)),.v (.int .u8 c25)] (.b r):=by
 refine wx x3 (Ab (Acu N)<|Ab (Ack N)<|Ab (ZI N)<|Ab (Aco N)<|Ab (AgP N)<|Ab (Aj2 N)<|Ab (AgI N)<|Ab (pY N)<|Ab (AgJ N)<|Ab (ZG N)<|Ab (nZ N)<|Ab (oC N)<|Ab (MW N)<|Ab (U1 N)<|Ab (AcO N)<|Ab (AgK N)<|Ab (Acr N)<|Ab (AcN N)<|Ab (AgO N)<|Ab (AcP N)<|Ab (AgM N)<|Ab (pX N)<|Ab (U2 N)<|Ab (Ab9 N)<|Ab (Acj N)<|Ab (AbZ N)<|Ab (AgN N)<|Ab (oG N)<|Aj) λ_ hS F=>?_
 dsimp only[x3,Ah,BW];unfold gM at h;obtain⟨dt,pi,⟨r28,nq,nk,nj,nh,ng⟩,ph,h⟩:=un h;obtain⟨⟨cn,cj⟩,pg,h⟩:=un h;obtain⟨⟨r38,qc⟩,pd,h⟩:=un h;obtain⟨rf,re,h⟩:=un h;replace F:=fc pd (fc pg (fc ph (fc pi F)));obtain⟨ox,i7,h⟩:=un h;refine go hS F ?_;refine Bz ox (λz:(List (Int×(Int×Int×Int×(List (Int×Int))×Int×Int)×Int×Int×Int×(Int×Int×Int×Int×Bool)))×Nat=>⟨[(3,.i ce),(4,.i mb),(5,.i af),(6,.v (.string (sB text24))),(7,.v (.int .u8 c25)),(9,.box (1,1) 0),(17,.b dt),(18,.box (302,4) 0),(19,Ay r38),(21,.own (500,6) z.1.length)],[(.a (500,6),EW z.1),(.c (302,4) 0,Ap cn),(.c (302,4) 1,AS cj),(.c (1,1) 0,Ap fj),(.c (1,1) 1,AS fh)],z.2⟩) (λz=>(z.1:(List (Int×(Int×Int×Int×(List (Int×Int))×Int×Int)×Int×Int×Int×(Int×Int×Int×Int×Bool))))) .n ?_ ?_
 ·refine An hS F i7 (λ_ i7=>?_) (λ_ i7=>?_)
  ·obtain⟨q9,⟨nf,⟨nc,nb,mz,my,mu,mt⟩,mr,mq,mo,⟨mn,mj,mh,mg,mf⟩⟩,og,i7⟩:=un i7;obtain⟨pz,F⟩:=Cb AB og F;obtain⟨⟨kq,⟨km,kl,kj,ki,kh,kg⟩,kf,ke,ka,⟨j9,j8,j7,j6,j5⟩⟩,od,i7⟩:=un i7;obtain⟨qz,i7⟩:=un i7;exact B4 hS (fc od F) (r38++[(co,(r28,nq,nk,nj,nh,ng),b7,bz,bw,(bv,bu,br,bq,bp))]++[(kq,(km,kl,kj,ki,kh,kg),kf,ke,ka,(j9,j8,j7,j6,j5))],8) i7
  ·exact B4 hS F (r38++[(co,(r28,nq,nk,nj,nh,ng),b7,bz,bw,(bv,bu,br,bq,bp))],7) i7
 ·rintro⟨l685,cr⟩ rfl;obtain⟨⟨au,aq⟩,oc,h⟩:=un h;obtain⟨⟨an,am⟩,oa,h⟩:=un h;replace F:=fc oa (fc oc F);obtain⟨kr,qw,h⟩:=un h;refine go hS F ?_;refine Bz kr (λz:Nat=>⟨[(5,.i af),(6,.v (.string (sB text24))),(7,.v (.int .u8 c25)),(17,.b dt),(21,.own (500,6) l685.length)],[(.a (500,6),EW l685)],z⟩) (λz=>(.inl ():Sum Unit Bool)) (.x 0) ?_ ?_
  ·refine Bp (λn (y:Int×Nat)=>T1 N cn cj au aq an am r38 l685 n y.1) (λy=>⟨[(5,.i af),(6,.v (.string (sB text24))),(7,.v (.int .u8 c25)),(17,.b dt),(19,Ay r38),(21,.own (500,6) l685.length),(97,.own (808,cr+1) [(cn,cj),(au,aq),(an,am)].length),(98,.i 3),(99,.i y.1)],[(.a (808,cr+1),Ada [(cn,cj),(au,aq),(an,am)]),(.a (500,6),EW l685)],y.2⟩) (0,cr+1) qw (Ch F) ?_;rintro n ⟨x777,i8⟩ b9;simp only[T1]at b9;refine An hS F b9 (λ_ b9=>?_) (λ_ b9=>?_)
   ·obtain⟨⟨aj,ai⟩,jn,b9⟩:=un b9;have jm:∀d,A6 [[Ap cn,AS cj],[Ap au,AS aq],[Ap an,AS am]] d x777.toNat=[Ap aj,AS ai]:=Ah4 jn;simp only[Ap,AS]at jm;have oh:=(Ng jn).1;try simp only[pV,yH]at oh
    obtain⟨⟨⟨j4,jz⟩,jy,jx⟩,n9,b9⟩:=un b9;obtain⟨⟨⟨jw,jv⟩,ju,jt⟩,n8,b9⟩:=un b9;obtain⟨js,n7,jr,n6,qy,b9⟩:=un b9;replace F:=fc n6 (fc n7 (fc n8 (fc n9 (fc jm F))));refine An hS F b9 (λ_ b9=>?_) (λ_ b9=>?_)
    ·obtain rfl:=yJ b9;exact Ai hS F h
    ·obtain⟨kv,qu,b9⟩:=un b9;refine go hS F ?_;refine Bz kv (λz:Nat=>⟨[(5,.i af),(6,.v (.string (sB text24))),(7,.v (.int .u8 c25)),(17,.b dt),(19,Ay r38),(21,.own (500,6) l685.length),(97,.own (808,cr+1) [(cn,cj),(au,aq),(an,am)].length),(98,.i 3),(99,.i x777)],[(.a (808,cr+1),Ada [(cn,cj),(au,aq),(an,am)]),(.a (500,6),EW l685)],z⟩) (λz=>(.inl ():Sum Unit Bool)) (.x 2) ?_ ?_
     ·refine Bp (λn (y:Int×Nat)=>eI N l685 aj ai n y.1) (λy=>⟨[(5,.i af),(6,.v (.string (sB text24))),(7,.v (.int .u8 c25)),(17,.b dt),(19,Ay r38),(21,.own (500,6) l685.length),(23,.box (1002,i8+1+1) 0),(30,.i y.1),(97,.own (808,cr+1) [(cn,cj),(au,aq),(an,am)].length),(98,.i 3),(99,.i x777)],[(.a (808,cr+1),Ada [(cn,cj),(au,aq),(an,am)]),(.c (1002,i8+1+1) 0,Ap aj),(.c (1002,i8+1+1) 1,AS ai),(.a (500,6),EW l685)],y.2⟩) (0,i8+1+1+1+1+1+1) qu (Ch F) ?_;rintro n ⟨dq,oj⟩ ab;simp only[eI]at ab;refine An hS F ab (λ_ ab=>?_) (λ_ ab=>?_)
      ·obtain⟨⟨fg,⟨e9,e8,ez,ep,ej,ei⟩,eh,ee,d9,⟨d8,d7,dz,dw,du⟩⟩,oe,ab⟩:=un ab;obtain⟨pv,F⟩:=Cb AB oe F;obtain⟨⟨⟨ji,jh⟩,jg⟩,n5,ab⟩:=un ab;obtain⟨⟨⟨jf,je⟩,jd⟩,nz,ab⟩:=un ab;obtain⟨⟨jq,jc⟩,ny,ab⟩:=un ab;obtain⟨⟨jp,jb⟩,nw,ab⟩:=un ab;obtain⟨qt,qr,ab⟩:=un ab;replace F:=fc nw (fc ny (fc nz (fc n5 F)));refine An hS F ab (λ_ ab=>?_) (λ_ ab=>?_)
       ·obtain rfl:=yJ ab;obtain rfl:=yJ b9;exact Ai hS F h
       ·obtain⟨qq,ab⟩:=un ab;exact Cd hS F (n,dq+1,oj+1+1+1+1+1+1+1) ab
      ·exact B4 hS F (oj+1) ab
     ·rintro pq rfl;obtain⟨qo,b9⟩:=un b9;exact Cd hS F (n,x777+1,pq+1) b9
   ·exact B4 hS F (i8+1) b9
  ·rintro pp rfl;obtain⟨qn,h⟩:=un h;obtain⟨iy,po,h⟩:=un h;refine go hS F ?_;refine Bz iy (λz:Nat=>⟨[(17,.b dt)],[],z⟩) (λz=>(.inl ():Sum Unit Bool)) (.x 4) ?_ ?_
   ·refine Bp (λn (y:Int×Nat)=>eB N l685 af c25 text24 n y.1) (λy=>⟨[(5,.i af),(6,.v (.string (sB (text24.take (min (text24.length:Int) 40).toNat)))),(7,.v (.int .u8 c25)),(17,.b dt),(21,.own (500,6) l685.length),(39,.i y.1)],[(.a (500,6),EW l685)],y.2⟩) (0,pp+1+1) po (Ch F) ?_;rintro n ⟨ak,ja⟩ aa;simp only[eB]at aa;refine An hS F aa (λ_ aa=>?_) (λ_ aa=>?_)
    ·obtain⟨⟨bo,⟨bn,bm,bl,bj,bi,bh⟩,bg,bf,be,⟨bb,ba,az,ay,av⟩⟩,l7,aa⟩:=un aa;obtain⟨pj,F⟩:=Cb AB l7 F;obtain⟨⟨dg,iw⟩,lr,aa⟩:=un aa;obtain⟨⟨de,iv⟩,lq,aa⟩:=un aa;obtain⟨⟨db,da⟩,lm,aa⟩:=un aa;obtain⟨⟨r1091,cz⟩,lj,aa⟩:=un aa;obtain⟨cy,li,cu,lh,qm,ql,aa⟩:=un aa;replace F:=fc lh (fc li (fc lj (fc lm (fc lq (fc lr F)))));refine An hS F aa (λ_ aa=>?_) (λ_ aa=>?_)
     ·obtain rfl:=yJ aa;exact Ai hS F h
     ·obtain⟨nv,cq,aa⟩:=un aa;refine go hS F ?_;refine Bz nv (λz:(List UInt8)×Nat=>⟨[(5,.i af),(6,.v (.string (sB (text24.take (min (text24.length:Int) 40).toNat)))),(7,.v (.int .u8 c25)),(17,.b dt),(21,.own (500,6) l685.length),(39,.i ak),(46,.v (.string (sB r1091))),(48,.v (.string (sB z.1)))],[(.a (500,6),EW l685)],z.2⟩) (λz=>(z.1:(List UInt8))) .n ?_ ?_
      ·refine An hS F cq (λ_ cq=>?_) (λ_ cq=>?_)
       ·obtain⟨r1178,lg,qk,o0,oz,qj,oy,cq⟩:=un cq;have kB:PF [AV.v (Value.int IntKind.u8 c25)]=true:=rfl;have k7:(List.take r1178.toNat r1091).length<=140737488355327:=by have:=o0;rw[jT]at this;simp only[pV,yH]at this;omega
        have qx:(List.take r1178.toNat r1091).length+1+(List.drop (r1178+1).toNat r1091).length<=140737488355328:=by have:=oy;simp only[jT,pV,yH]at this;omega
        obtain⟨k8,k8'⟩:=oz;have hrow:OL [AV.v (Value.int IntKind.u8 c25)]=UInt8.ofNat c25.toNat:=rfl;exact B4 hS (fc hrow (fc lg F)) (((r1091.take r1178.toNat)++[UInt8.ofNat c25.toNat])++(r1091.drop (r1178+1).toNat),ja+1+1+1+1+1+1+1+1+1+1) cq
       ·exact B4 hS F (r1091,ja+1+1+1+1+1+1+1+1) cq
      ·rintro⟨ah,i9⟩ rfl;obtain⟨qh,aa⟩:=un aa;obtain⟨iz,pm,aa⟩:=un aa;refine go hS F ?_;refine Bz iz (λz:Nat=>⟨[(5,.i af),(6,.v (.string (sB (text24.take (min (text24.length:Int) 40).toNat)))),(7,.v (.int .u8 c25)),(17,.b dt),(21,.own (500,6) l685.length),(39,.i ak)],[(.a (500,6),EW l685)],z⟩) (λz=>(.inl ():Sum Unit Bool)) (.x 6) ?_ ?_
       ·refine Bp (λn (y:Int×Nat)=>Ud N r1091 ah text24 n y.1) (λy=>⟨[(5,.i af),(6,.v (.string (sB (text24.take (min (text24.length:Int) 40).toNat)))),(7,.v (.int .u8 c25)),(17,.b dt),(21,.own (500,6) l685.length),(39,.i ak),(303,.own (3906,i9+1) [r1091,ah,text24.take (min (text24.length:Int) 40).toNat,r1091++(text24.take (min (text24.length:Int) 40).toNat)].length),(304,.i 4),(305,.i y.1)],[(.a (3906,i9+1),A_s [r1091,ah,text24.take (min (text24.length:Int) 40).toNat,r1091++(text24.take (min (text24.length:Int) 40).toNat)]),(.a (500,6),EW l685)],y.2⟩) (0,i9+1) pm (Ch F) ?_;rintro n ⟨x1219,jo⟩ ae;simp only[Ud]at ae;refine An hS F ae (λ_ ae=>?_) (λ_ ae=>?_)
        ·obtain⟨ci,i6,⟨⟨ir,⟨iq,ip,im,ij,ii,ig⟩,ic,ib,g9,⟨g8,gz,gy,gx,gw⟩⟩,gv⟩,lf,ae⟩:=un ae;have i5:[r1091,ah,text24.take (min (text24.length:Int) 40).toNat,r1091++(text24.take (min (text24.length:Int) 40).toNat)].getD x1219.toNat []=ci:=ixs i6 _;have lz:A6 [[.v (.string (sB r1091))],[.v (.string (sB ah))],[.v (.string (sB (text24.take (min (text24.length:Int) 40).toNat)))],[.v (.string (sB (r1091++(text24.take (min (text24.length:Int) 40).toNat))))]] [.v (.string (sB []))] x1219.toNat=[.v (.string (sB ci))]:=by have hq:=AiC [r1091,ah,text24.take (min (text24.length:Int) 40).toNat,r1091++(text24.take (min (text24.length:Int) 40).toNat)] x1219.toNat;rw[i5]at hq;exact hq
         have ma:=(Ng i6).1;try simp only[pV,yH]at ma
         obtain⟨⟨⟨gu,⟨gt,gr,gm,gj,gi,gh⟩,gg,ge,gc,⟨fx,fr,fq,fp,fo⟩⟩,fm⟩,kz,ae⟩:=un ae;obtain⟨qg,ae⟩:=un ae;replace F:=fc kz (fc lf (fc lz (fc i5 F)));refine An hS F ae (λ_ ae=>?_) (λ_ ae=>?_)
         ·obtain rfl:=yJ ae;obtain rfl:=yJ aa;exact Ai hS F h
         ·obtain⟨qe,ae⟩:=un ae;exact Cd hS F (n,x1219+1,jo+1+1+1+1+1+1) ae
        ·exact B4 hS F (jo+1) ae
       ·rintro ot rfl;obtain⟨qd,aa⟩:=un aa;exact Cd hS F (n,ak+1,ot+1) aa
    ·exact B4 hS F (ja+1) aa
   ·rintro qb rfl;exact Ai hS F h
end
theorem AiF:SV [] []:=⟨eS,fS []⟩
theorem Ajy(a:Ac):(Qu a).1.length<=2/\(Qu a).2.length<=2:=by grind[Qu]
theorem Aho{s:F8}{a:Ac}(h:¬SV s.1 s.2):Ig s a=none:=dQ λw=>h w.1
noncomputable def Aiq(s:F8)(l:List Ac):F8×Int×Int:=if SV s.1 s.2 then If (C4 s l)else(([],[]),0,170)
section
variable{N:Nat}(hN:1001<=N)(h9:N<=100000)
include hN h9
variable(a b c p q id i k m1 m2 m3 m4:Int)(l:List Pt)(o:Bool)
theorem AjY{f:List Un}{ms:List Mk}(hl:ms.length<=1000)(n:Int):MX N f ms n a b c l p q id i k m1 m2 m3 m4 o=some (Adn (f,ms) (n,(a,b,c,l,p,q),id,i,k,(m1,m2,m3,m4,o))):=by
 by_cases h:SV f ms
 ·grind[Ahd]
 have S:=AgW hN h9 (f:=f) (ms:=ms);rw[Af5 (Aho (s:=(f,ms)) h)];unfold MX;split
 ·unfold Mu;rw[S _ _ _ _ _ _ _ _ _ _ _ _ _ _ hl,bS,Aho (s:=(f,ms)) h];simp only[IM];rw[AU _ (by simp)]
 split
 ·unfold Mv;rw[S _ _ _ _ _ _ _ _ _ _ _ _ _ _ hl,bS,Aho (s:=(f,ms)) h];simp only[IM];rw[AU _ (by simp)]
 split
 ·unfold Mw;rw[S _ _ _ _ _ _ _ _ _ _ _ _ _ _ hl,bS,Aho (s:=(f,ms)) h];simp only[IM];rw[AU _ (by simp)]
 split
 ·unfold Mx;rw[S _ _ _ _ _ _ _ _ _ _ _ _ _ _ hl,bS,Aho h];simp only[IM];rw[AU _ (by simp)]
 split
 ·unfold My;rw[S _ _ _ _ _ _ _ _ _ _ _ _ _ _ hl,bS,Aho h];simp only[IM];rw[AU _ (by simp)]
 split
 ·unfold Mz;rw[S _ _ _ _ _ _ _ _ _ _ _ _ _ _ hl,bS,Aho h];simp only[IM];rw[AU _ (by simp)]
 split
 ·unfold MA;rw[S _ _ _ _ _ _ _ _ _ _ _ _ _ _ hl,bS,Aho h];simp only[IM];rw[AU _ (by simp)]
 unfold MB;rw[S _ _ _ _ _ _ _ _ _ _ _ _ _ _ hl,bS,Aho h];simp only[IM];rw[AU _ (by simp)]
theorem Aj6{f:List Un}{ms:List Mk}(hl:ms.length<=1000)(n:Int):Mg N f ms n a b c l p q id i k m1 m2 m3 m4 o=some (Adn (f,ms) (n,(a,b,c,l,p,q),id,i,k,(m1,m2,m3,m4,o))):=by
 unfold Mg;rw[qG hN _ _ _ _ _ _ _ _ _ _ _ _ _ _ h9 hl,bS];cases e:Ig (f,ms) (n,(a,b,c,l,p,q),id,i,k,(m1,m2,m3,m4,o))with
 |none=>rw[Af5 e];simp only[IM];rw[AU _ (by simp)]
 |some t=>
  obtain⟨h,fa,e2,ht⟩:=Vj e;have ml:ms.length<=20:=h.2.len;unfold Adn;rw[e];simp only[IM];rw[A1 _ (by simp)];by_cases e1:n=1
  ·subst e1;rfl
  rw[A1 _ (by grind),dQ e1];by_cases e2':n=2
  ·subst e2';rw[AU _ (by rfl),dW rfl];rw[Abr]at e2;split at e2
   ·rename_i g;rcases OJ h.1 id with⟨_,_,t⟩|⟨u,hu,t,q1,q2⟩
    ·exact(t g).elim
    ·have q1':f.find? (λu'=>decide (u'.1=id))=some u:=q1;rw[Abz hN h.1,q2,bS,Xm hN (by omega),bS,q1'];simp only;by_cases hm:∃m∈ms,m.2.1=id
     ·rw[dW hm,A1];rw[cY];intro w;have w:(ms.filter (I2 id)).length=ms.length:=by omega
      rw[List.length_filter_eq_length_iff]at w;obtain⟨m,hm,e⟩:=hm;have:=w m hm
      simp_all[I2]
     ·rw[dQ hm,AU]
      ·rfl
      ·rw[RX id λm h1 h2=>by grind,bK]
   ·cases e2
  rw[A1 _ (by grind),dQ e2'];by_cases e4:n=4
  ·subst e4;have fb:=qC.1 fa;rw[AU _ (by rfl),dW rfl,Ae (by omega),Ae (by omega)];rfl
  rw[A1 _ (by grind),dQ e4];by_cases e6:n=6
  ·subst e6;rfl
  rw[A1 _ (by grind),dQ e6];by_cases e7:n=7
  ·subst e7;rfl
  rw[A1 _ (by grind),dQ e7]
theorem Ajn{l:List Ac}(hl:l.length<=40):∀n k (s:F8),k<=l.length->l.length<n+k->SV s.1 s.2->G5 N l n (k:Nat) s.1 s.2=some (match C4 s (l.drop k)with|(_,some t)=>.inl t|(j,none)=>.inr (([],[]),(((k+j:Nat)):Int),170))
 |0,k,s,h1,h2,_=>by omega
 |n+1,k,s,h1,h2,h=>by
  rw[G5];by_cases e:k<l.length
  ·rw[Dq e,cT,A1 _ (by grind),Ac4 e,bS,oH e,C4];generalize l[k]=x;obtain⟨x1,⟨x2,x3,x4,x5,x6,x7⟩,x8,x9,x10,⟨x11,x12,x13,x14,x15⟩⟩:=x;obtain⟨f,ms⟩:=s;have ml:ms.length<=20:=h.2.len;simp only;rw[qG hN _ _ _ _ _ _ _ _ _ _ _ _ _ _ h9 (by omega),bS];cases c:Ig (f,ms) (x1,(x2,x3,x4,x5,x6,x7),x8,x9,x10,x11,x12,x13,x14,x15)with
   |none=>simp only[IM];rw[AU _ (by simp),Gt]
   |some t=>simp only[IM];rw[A1 _ (by simp),Ae (by omega),<-ns,Ajn hl n (k+1) t (by omega) (by omega) (Vj c).2.2.2];grind
  ·have e3:k=l.length:=by omega
   subst e3;rw[F2,cF,tM,C4]
theorem Aj7{s:F8}(hs:s.2.length<=1000){l:List Ac}(hl:l.length<=40):MH N s.1 s.2 l=some (Aiq s l):=by
 unfold MH Aiq;rw[Xi hN _ hs,bS];by_cases h:SV s.1 s.2
 ·have fl:=h.1.len;have f8:=h.1.lens;rw[aB h,A1 _ (by rfl),dW h,Ac3 hN (by omega) (by omega) (by grind) hs,bS];have:=Ajn hN h9 hl N 0 s (by omega) (by omega) h;rw[nL,tJ]at this;simp;rw[this,bS];have rl:=NF l s;generalize C4 s l=r at rl⊢;obtain⟨n,_|t⟩:=r
  ·simp only[If];rw[rB]
  ·have:=rl.2.1 rfl;subst this;rfl
 grind
theorem Aj8{s:F8}(hs:s.2.length<=1000){l:List Ac}(hl:l.length<=40):Hb N s.1 s.2 l=some (Aiq s l):=by
 unfold Aiq;by_cases h:SV s.1 s.2
 ·rw[dW h];exact AbB hN h9 h hl
 simp_all[Hb,fL]
theorem Ai9(t:F8)(h:SV t.1 t.2):CG N t.1 t.2 t.1 t.2=some true:=by rw[fU hN h9 h t,aB rfl]
theorem AjZ(s:F8)(a:Ac):SV (IM (Ig s a)).1.1 (IM (Ig s a)).1.2:=by
 cases e:Ig s a with
 |none=>exact AiF
 |some t=>exact(Vj e).2.2.2
theorem AjI(s:F8)(l:List Ac):SV (Aiq s l).1.1 (Aiq s l).1.2:=by
 unfold Aiq;by_cases h:SV s.1 s.2
 ·rw[dW h];rcases e:C4 s l with⟨n,_|t⟩
  ·exact AiF
  ·exact TJ l h e
 ·rw[dQ h];exact AiF
theorem Aj9{l:List Ac}(hl:l.length<=1000)(h8:∀a∈l,a.2.1.2.2.2.1.length<N):Ie N l l=some true:=by
 unfold Ie;have F:=GK (L:=FN N l l) (len:=l.length) (λ_=>none) (λn k hk e=>by have s:=Ail hN h9 (a:=l[k]) (by grind);rw[FN,Dq hk,cT,Ac4 hk,bS];simp only at s⊢;rw[bS];rw[s,bS,A1 _ (by rfl),Ae (by omega),ns]) (by grind) (by simp_all[FN]) N (by omega);grind
theorem AjE{l:List Int}(hl:l.length<=1000):H0 N l l=some true:=by
 unfold H0;have F:=GK (L:=GG N l l) (λ_=>none) (λn k hk e=>by rw[GG,Dq hk,cT,Ain l hk,bS,bS,A1 _ (by simp),Ae (by omega),ns]) (by grind) (by simp_all[GG]) N (by omega);grind
theorem AjJ(s:F8)(a:Ac):(Adn s a).1.length<=1/\∀x∈(Adn s a).1,x.2.1.2.2.2.1.length<N:=by
 unfold Adn;cases e:Ig s a with
 |none=>simp
 |some t=>
  have h:=(Vj e).1;simp only;split
  ·grind[PE]
  split
  ·split
   ·rename_i u hu;split
    ·simp
    ·refine⟨by simp,λx hx=>?_⟩;simp at hx;rw[hx];have:=h.1.lens u ((Adk h.1).1 hu).1;simp;omega
   ·simp
  grind[PE]
theorem Aka(f:List Un){ms:List Mk}(hm:ms.length<=1000){l:List Ac}(hl:l.length<=1000):eI N l f ms N 0=some (.inl ()):=by
 have F:=GK (L:=eI N l f ms) (len:=l.length) (λ_=>none) (λn k hk e=>by rw[eI,Dq hk,cT,Ac4 hk,bS];generalize l[k]=x;have o1:=AjZ hN h9 (f,ms) x;obtain⟨u1,u2⟩:=AjJ hN h9 (f,ms) x;obtain⟨x1,⟨x2,x3,x4,x5,x6,x7⟩,x8,x9,x10,⟨x11,x12,x13,x14,x15⟩⟩:=x;simp only;rw[AgW hN h9 _ _ _ _ _ _ _ _ _ _ _ _ _ _ hm,qG hN _ _ _ _ _ _ _ _ _ _ _ _ _ _ h9 hm,AjY hN h9 _ _ _ _ _ _ _ _ _ _ _ _ _ _ hm,Aj6 hN h9 _ _ _ _ _ _ _ _ _ _ _ _ _ _ hm];generalize IM (Ig (f,ms) (x1,(x2,x3,x4,x5,x6,x7),x8,x9,x10,x11,x12,x13,x14,x15))=y at o1⊢;obtain⟨⟨y1,y2⟩,y3⟩:=y;simp only[pK];have s1:=Ai9 hN h9 (y1,y2) o1;rw[s1,Aj9 hN h9 (by omega) u2,BR (by grind),BR (by grind),oK,A1 _ (by simp),Ae (by omega),ns]) (by grind) (by simp_all[eI]) N (by omega);grind
theorem Akr{s t u:F8}(hs:s.2.length<=1000)(ht:t.2.length<=1000)(hu:u.2.length<=1000){l r:List Ac}(hl:l.length<=1000)(hr:r.length<=40):T1 N s.1 s.2 t.1 t.2 u.1 u.2 r l N 0=some (.inl ()):=by
 obtain⟨n,hn⟩:∃n,N=n+1+1+1+1:=⟨N-4,by omega⟩
 have go:∀m (x:Int) (z:F8),A7 [(s.1,s.2),(t.1,t.2),(u.1,u.2)] x=some (z.1,z.2)->z.2.length<=1000->(0<=x/\x<3)->T1 N s.1 s.2 t.1 t.2 u.1 u.2 r l (m+1) x=T1 N s.1 s.2 t.1 t.2 u.1 u.2 r l m (x+1):=λm x z h1 h2 h3=>by have rs:=AjI hN h9 z r;rw[T1,aB h3.2,cT,h1,bS];simp;rw[Aj8 hN h9 h2 hr,Aj7 hN h9 h2 hr,fL hN _ h2,Xi hN _ h2];generalize Aiq z r=y at rs⊢;obtain⟨⟨y1,y2⟩,y3,y4⟩:=y;simp only[pK];have s1:=Ai9 hN h9 (y1,y2) rs;rw[s1,BR (by grind),oK,A1 _ (by simp),Aka hN h9 z.1 h2 hl,bS];rw[Ae (by omega)]
 have e0:=go (n+1+1+1) 0 s rfl hs (by omega);have e1:=go (n+1+1) 1 t rfl ht (by omega);have e2:=go (n+1) 2 u rfl hu (by omega);have e3:T1 N s.1 s.2 t.1 t.2 u.1 u.2 r l (n+1) 3=some (.inl ()):=by rw[T1,bJ (p:=(3)<3) (by omega),cF]
 grind
theorem Ajz(o:Option Ac)(h:∀a,o=some a->FA a):(AhN o).1.2.1.2.2.2.1.length<N:=by
 cases o with
 |none=>simp[AhN,PE];omega
 |some a=>have:=AiU hN h9 (h a rfl);show a.2.1.2.2.2.1.length<N;omega
theorem AjF(e z text:List UInt8)(he:e.length<=3000)(hz:z.length<=3000):Ud N e z text N 0=some (.inl ()):=by
 obtain⟨n,hn⟩:∃n,N=n+1+1+1+1+1:=⟨N-5,by omega⟩
 have go:∀m (x:Int) (w:List UInt8),A7 [e,z,text.take (min (text.length:Int) 40).toNat,e++(text.take (min (text.length:Int) 40).toNat)] x=some w->w.length<=1000000->(0<=x/\x<4)->Ud N e z text (m+1) x=Ud N e z text m (x+1):=λm x w h1 h2 h3=>by
  rw[Ud,aB h3.2,cT,h1,bS,AiT hN (by omega),Akq hN (by omega)];have sl:=Ajz hN h9 (AhA w) λa h=>(AhV h).1
  have sa:=Ail hN h9 sl;simp only[pK];rw[sa,BR (by grind),oK,A1 _ (by simp),Ae (by omega)]
 have e0:=go (n+1+1+1+1) 0 _ rfl (by omega) (by omega);have e1:=go (n+1+1+1) 1 _ rfl (by omega) (by omega);have e2:=go (n+1+1) 2 _ rfl (by rw[tW];omega) (by omega);have e3:=go (n+1) 3 _ rfl (by rw[jT,tW];omega) (by omega);have e4:Ud N e z text (n+1) 4=some (.inl ()):=by rw[Ud,bJ (p:=(4)<4) (by omega),cF]
 grind
open Classical in
theorem Akb{l:List Ac}(hl:l.length<=1000)(w c:Int)(hw:Af w)(text:List UInt8):eB N l w c text N 0=some (.inl ()):=by
 have F:=GK (L:=eB N l w c text) (len:=l.length) (λ_=>none) (λn k hk e=>by
   rw[eB,Dq hk,cT,Ac4 hk,bS];generalize l[k]=x;have nl:=Ajy x;have el:((if FA x then(Agq x,(0:Int))else([],170)).1:List UInt8).length<=2000:=by grind[Ah2]
   obtain⟨x1,⟨x2,x3,x4,x5,x6,x7⟩,x8,x9,x10,⟨x11,x12,x13,x14,x15⟩⟩:=x;simp only;rw[Agy hN,Agz hN,AiS hN,Akp hN,Afa hN,YX hN];generalize (if FA (x1,(x2,x3,x4,x5,x6,x7),x8,x9,x10,x11,x12,x13,x14,x15)then(Agq (x1,(x2,x3,x4,x5,x6,x7),x8,x9,x10,x11,x12,x13,x14,x15),(0:Int))else([],170))=z at el⊢;obtain⟨z1,z2⟩:=z;simp only at nl el;simp only[pK];rw[AjE hN h9 (by omega),AjE hN h9 (by omega),BR (by grind),BR (by grind),oK,A1 _ (by simp)];by_cases z0:0<z1.length
   ·have pb:=DI (c:=w) (n:=(z1.length:Int)) (by omega);obtain⟨k',hk'⟩:∃k:Nat,pk w (z1.length:Int)=k:=⟨(pk w (z1.length:Int)).toNat,by omega⟩
    rw[AU _ (by grind),lpk hw (by omega),bS,hk',Ae (by omega),Ae (by grind),Ae (by omega),Ae (by omega),Ae (by grind),bS,Ae (by rw[jT,tW];omega),AjF hN h9 z1 _ text (by omega) (by grind),bS];rw[Ae (by omega),ns]
   ·rw[A1 _ (by grind),bS,Ae (by rw[jT,tW];omega),AjF hN h9 z1 z1 text (by omega) (by omega),bS];rw[Ae (by omega),ns]) (by grind) (by simp_all[eB]) N (by omega)
 grind
theorem Ajs(f:List Un):∀n k (l:List Un),k<=2->2<n+k->l.length<=k->∃g,G3 N f n (k:Nat) l=some g
 |0,k,l,h1,h2,_=>by omega
 |n+1,k,l,h1,h2,h3=>by
  rw[G3];by_cases c:k<f.length/\k<2
  ·rw[Dq c.1,Ld,aB (by omega),cT,Fs c.1,bS];simp;unfold Jz;rw[Ae (by omega),bS];rw[Ae (by omega),Ae (by omega),<-ns];exact Ajs f n (k+1) _ (by omega) (by omega) (by simp;omega)
  ·rw[A1 _ (by rw[z8,cY,cY];omega)];exact⟨l,rfl⟩
theorem Aj0(f:List Un)(ms:List Mk):∃t:F8,MG N f ms=some (t.1,t.2)/\t.2.length<=1000:=by obtain⟨g,e⟩:=Ajs hN h9 f N 0 [] (by omega) (by omega) (by simp);rw[nL]at e;unfold MG;rw[e,bS,Ae (by omega)];exact⟨(g,_),rfl,by grind⟩
theorem AjA{f:List Un}{ms:List Mk}(h:SV f ms){how n w:Int}(h1:Af how)(h2:Af n)(h3:Af w):∃t:F8,zR N f ms how n w=some (t.1,t.2)/\t.2.length<=1000:=by
 have ml:=h.2.len;have fl:=h.1.len;have f8:=h.1.lens;have rc:=Xo (N:=N) (f:=f) (by omega) (by grind) N 0 (by omega) (by omega);rw[List.take_zero,nL]at rc;unfold zR HZ;rw[rc,bS,bS,Ae (by omega),JE h1 (by omega),BR (by grind),oK];by_cases c:ms.length=0\/pk how 6=5
 ·have t:=Pp h1 (d:=6) (by omega) (by omega);obtain⟨g,e,_⟩:=AjO (N:=N) hN h.1 t h2 h3;rw[AU _ (by rw[sW,bK,bK];omega),Ae t,e,bS];exact⟨(g,ms),rfl,by simp only;omega⟩
 ·have pb:=DI (c:=w) (n:=(ms.length:Int)) (by omega);obtain⟨j,hj⟩:∃j:Nat,pk w (ms.length:Int)=j:=⟨(pk w (ms.length:Int)).toNat,by omega⟩
  have hj2:j<ms.length:=by omega
  rw[A1 _ (by rw[y8,cY,cY];omega),JE h3 (by omega),bS,bS,hj,E7 hj2];generalize pk how 6=r;cases decide (r=0)with
  |true=>exact⟨(f,_),rfl,by grind⟩
  |false=>
  rw[cF];cases decide (r=1)with
  |true=>exact⟨(f,_),rfl,by grind⟩
  |false=>
  rw[cF];cases decide (r=2)with
  |true=>exact⟨(f,_),rfl,by grind⟩
  |false=>
  rw[cF];cases decide (r=3)with
  |true=>exact⟨(f,_),rfl,by grind⟩
  |false=>
  rw[cF,bS];simp only;rw[Ae (by omega)];exact⟨(f,_),rfl,by grind⟩
theorem AjB{a:Ac}(fa:FA a){how:Int}(n:Int)(h1:Af how):∃b:Ac,Mh N a.1 a.2.1.1 a.2.1.2.1 a.2.1.2.2.1 a.2.1.2.2.2.1 a.2.1.2.2.2.2.1 a.2.1.2.2.2.2.2 a.2.2.1 a.2.2.2.1 a.2.2.2.2.1 a.2.2.2.2.2.1 a.2.2.2.2.2.2.1 a.2.2.2.2.2.2.2.1 a.2.2.2.2.2.2.2.2.1 a.2.2.2.2.2.2.2.2.2 how n=some b:=by
 have l8:=AiU hN h9 fa;unfold Mh;rw[JE h1 (by omega),bS];generalize pk how 8=r;cases decide (r=0)with
 |true=>exact⟨_,rfl⟩
 |false=>
 rw[cF];cases decide (r=1)with
 |true=>exact⟨_,rfl⟩
 |false=>
 rw[cF];cases decide (r=2)with
 |true=>exact⟨_,rfl⟩
 |false=>
 rw[cF];cases decide (r=3)with
 |true=>exact⟨_,rfl⟩
 |false=>
 rw[cF];cases decide (r=4)with
 |true=>rw[cT];unfold Jy;rw[Ae (by omega),AeL (by omega) (by omega),bS,show pk 0 6=0 from rfl,AU _ (by rfl),bS];exact⟨_,rfl⟩
 |false=>
 cases decide (r=5)with
 |true=>exact⟨_,rfl⟩
 |false=>
 cases decide (r=6)<;>grind
end
theorem AiN(x1:List (Int×Int×Int×Int×Int×Int))(x2:List (Int×Int×Int×Int))(x3:List (Int×Int×Int×Int×Int×Int))(f:List Un)(ms:List Mk)(o6 o7 o8 o9:Int)(o10:List Pt)(o11 o12 o13 o14 o15 o16 o17 o18 o19:Int)(o20:Bool)(how n w:Int)(text:List UInt8)(c:Int)(h1:I6 x1)(h2:I4 x2)(h3:I6 x3){r1 r2 r3 r4 r5 r6 r7 r8 r9 r10 r11 r12 r13 r14 r15 r16 r17:Prop}(_:r1)(_:r2)(_:r3)(_:r4)(_:r5)(_:r6)(_:r7)(_:r8)(_:r9)(_:r10)(_:r11)(_:r12)(_:r13)(_:r14)(_:r15)(_:r16)(_:r17)(hh:Af how)(hn:Af n)(hw:Af w){r18 r19:Prop}(_:r18)(_:r19):gM 2000 x1 x2 x3 f ms o6 o7 o8 o9 o10 o11 o12 o13 o14 o15 o16 o17 o18 o19 o20 how n w text c=some true:=by
 have hN:1001<=2000:=by omega
 have h9:2000<=100000:=by omega
 obtain⟨g,gs,em,hs⟩:=AbA (N:=2000) hN x3 h1 h2;obtain⟨l,el,l8,fl⟩:=AbC (N:=2000) hN h9 h3 em hs;obtain⟨t,et,ht⟩:=AjA (N:=2000) hN h9 hs hh hn hw;obtain⟨u,eu,hu⟩:=Aj0 (N:=2000) hN h9 f ms;have gl:gs.length<=20:=hs.2.len;have fin:∀all:List Ac,all.length<=1000->((zR 2000 g gs how n w).bind λ(r687,r688)=>
   (MG 2000 f ms).bind λ(r690,r691)=>
   (T1 2000 g gs r687 r688 r690 r691 l all 2000 0).bind λo867=>match o867 with
    |.inl ()=>(
     gd (0<=min (text.length:Int) 40/\min (text.length:Int) 40<=(text.length:Int))<|(eB 2000 all w c text 2000 0).bind λo1265=>match o1265 with
      |.inl ()=>(
       some true)
      |.inr r1264=>(
       some r1264))
    |.inr r866=>(
     some r866))=some true:=λall ha=>by
  rw[et,bS];simp only;rw[eu,bS];rw[Akr (N:=2000) hN h9 (s:=(g,gs)) (by simp only;omega) ht hu ha (by omega),bS];rw[Ae (by omega),Akb (N:=2000) hN h9 ha w c hw text,bS]
 unfold gM Jz;rw[AbD,bS,Ae (by omega),bS];simp only;rw[em,bS];rw[el,bS];simp only;rw[Ae (by omega),Ae (by omega)];by_cases l0:0<l.length
 ·have hk:l.length-1<l.length:=by omega
  obtain⟨b,eb⟩:=AjB (N:=2000) hN h9 (fl _ (List.getElem_mem hk)) n hh;have na:=Ac4 (l:=l) hk;rw[show((l.length-1:Nat):Int)=(l.length)-1 by omega]at na;rw[AU _ (aB (by omega)),Ae (by omega),na,bS];rw[eb,bS];rw[Ae (by omega),bS];exact fin _ (by simp only[jT,pV,yH];omega)
 ·rw[A1 _ (bJ (by omega)),bS];exact fin _ (by simp only[jT,pV,yH];omega)
