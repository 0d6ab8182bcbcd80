import Derived.Test.YtjdchfljifacoaaGreatT3
set_option linter.all false
set_option maxRecDepth 100000
set_option maxHeartbeats 8000000
namespace Go.Proofs.YtjdchfljifacoaaGreat.Am
open Go
structure LkF(hp hp':Hp):Prop where
 c:∀n j x,hl hp (.c n j)=some x->hl hp' (.c n j)=some x
 a:∀n sz live rows d,hl hp (.a n)=some (.sl sz live rows d)->hl hp' (.a n)=some (.sl sz live rows d)
structure LkG(hp:Hp)(cnt:Nat)(args:List AV):Prop where
 a:∀n o,AV.box n o∈args->n.2<=cnt
 h:∀n j x,hl hp (.c n j)=some x->n.2<=cnt
 r:∀n sz live rows d,hl hp (.a n)=some (.sl sz live rows d)->n.2<=cnt
theorem LkF.refl{hp:Hp}:LkF hp hp:=⟨λ_ _ _ h=>h,λ_ _ _ _ _ h=>h⟩
theorem LkF.pc{hp hp':Hp}{cnt:Nat}{args:List AV}(hL:LkG hp cnt args){n:Nm}{j:Nat}{x:AV}(hn:cnt<n.2)(h:LkF hp hp'):LkF hp ((.c n j,x)::hp'):=by
 refine⟨λm i y hy=>?_,λm sz live rows d hy=>?_⟩
 ·rw[hl,dW λe=>?_]
  ·exact h.c m i y hy
  ·cases e
   have:=hL.h n j y hy;omega
 ·rw[hl,dW λe=>by cases e];exact h.a m sz live rows d hy
theorem LkF.pa{hp hp':Hp}{cnt:Nat}{args:List AV}(hL:LkG hp cnt args){n:Nm}{x:AV}(hn:cnt<n.2)(h:LkF hp hp'):LkF hp ((.a n,x)::hp'):=by
 refine⟨λm i y hy=>?_,λm sz live rows d hy=>?_⟩
 ·rw[hl,dW λe=>by cases e];exact h.c m i y hy
 ·rw[hl,dW λe=>?_]
  ·exact h.a m sz live rows d hy
  ·cases e
   have:=hL.r n sz live rows d hy;omega
theorem HInv.subF{U:Cf}{hp hp':Hp}(h1:HInv U hp)(hs:LkF hp' hp):Evo U {U with ln:=lenOf hp'}/\HInv {U with ln:=lenOf hp'} hp':=by
 let Z:Cf:={U with ln:=lenOf hp'}
 have e:Evo U Z:=by
  refine⟨λ_ h=>⟨h,rfl⟩,λn _ l' hl'=>?_,λ_ _ h h'=>⟨h,h'⟩,rfl,eN _,SameO.refl _⟩;have hl2:lenOf hp' n=some l':=hl';refine⟨l',?_,eN _,λ_=>rfl⟩;rw[h1.ln n];unfold lenOf at hl2⊢;split at hl2
  ·rename_i sz live rows d hn;rw[hs.a _ _ _ _ _ hn];exact hl2
  ·simp at hl2
 have hown:∀p b,Owns Z hp' p b->Owns U hp p b:=by
  rintro p b (⟨g1,g2,j,c,g3⟩|⟨g1,⟨sz,rows,d,g2⟩,o,cap,g3,g4⟩)
  ·exact .inl ⟨g1,g2,j,c,hs.c _ _ _ g3⟩
  ·exact .inr ⟨g1,⟨sz,rows,d,hs.a _ _ _ _ _ g2⟩,o,cap,g3,g4⟩
 refine⟨e,λ_=>rfl,λn j c hc=>?_,λn sz live rows d hc=>?_,λp q b hp hq=>h1.inj p q b (hown p b hp) (hown q b hq),h1.lt,h1.ou,h1.dis⟩
 ·have kk:=h1.cel n j c (hs.c _ _ _ hc);exact kk.keep e kk.2.1 rfl
 ·exact(h1.arr n sz live rows d (hs.a _ _ _ _ _ hc)).keep e rfl λ_ _ _ _ _ _ hM=>⟨hM,rfl⟩
theorem lkg{U:Cf}{hp:Hp}{cnt:Nat}{args:List AV}{xs:List Value}(hI:HInv U hp)(hal:∀m,U.al m->m.2<=cnt)(hx:RepL U args xs):LkG hp cnt args:=by refine⟨λn o hm=>?_,λn j x h=>hal _ (hI.cel n j x h).1,λn sz live rows d h=>hal _ (hI.arr n sz live rows d h).1⟩;obtain⟨i,hi⟩:=List.getElem?_of_mem hm;obtain⟨y,_,hy⟩:=Dr hx i _ hi;exact hal _ hy.1
theorem Mj{P:Program}{S:Tab}(hS:TabOK P S){f:Nat}(x:FnX P f){args vs:List AV}{r:AV}(hfl:B2 r=true)(hn:args.length<=x.nt)(h:∀hb hp cnt,LkG hp cnt args->args.map (qv hp)=vs->Ax (Ctx.fn P S x.nt hb) x.c (Bk x.rv λr' s=>Gn s.hp r'/\LD r'=true/\HD (res s.hp r') r/\LkF hp (frz s.hp (Fu r')++s.hp)) ⟨BQ 0 args,hp,cnt⟩):IA P f args vs r:=by intro U hp xs gl hI hal hx hv;obtain⟨cnt,hal⟩:=hal;refine callsIn_wide.1 ((Jw hS x.hf x.hc x.hn hn gl hI hal hx (h _ hp cnt (lkg hI hal hx) hv)).mono ?_);rintro en w' ⟨v,Z,s,r',rfl,rfl,e,g1,g2,g3,k1,k2,k3,k4⟩;obtain⟨σ1,f1,f2,f3,f4,f5,f6,f7,f8⟩:=g1.frz (Fu r');have hr:=M1 g1 f1 f3 (Fu r') f7 r' v k1 k2 (λ_ h=>h) g3;obtain⟨e2,g4⟩:=f2.subF k4;have e:=(e.trans f1).trans e2;exact⟨v,{σ1 with ln:=lenOf hp,al:=U.al},rfl,f3,⟨λn hn=>⟨hn,(e.box n hn).2⟩,e.arr,e.fro,e.out,e.sz,e.io⟩,hI.fgt g4,λm hm=>hm,Rep.ofPure (U:=σ1) (σ':={σ1 with ln:=lenOf hp,al:=U.al}) (λ_ h=>h) (λ_ _=>rfl) r v hfl ((NP _ _ _ k3).2 hr)⟩
theorem uG{V:Ctx}(hΓ:V.OK){rid t:Nat}{Q:AE->St->Prop}{e:Az}{h:Hp}{c:Nat}(hQ:Q .n ⟨(t,.v (.slice none 0 0))::e,h,c+1⟩):Ax V (.reg rid [⟨some t,none,.mv (.k (.sl 0 true [] []))⟩]) Q ⟨e,h,c⟩:=by
 intro code hc U a hA;cases code with
 |region id ops' d'=>
  simp only[cCode]at hc;obtain⟨l0,hx0,⟨rfl,e0⟩|⟨_,_,_,_,e0⟩⟩:=Cc hc
  ·cases e0
   have ht:t<V.nt:=by
    obtain⟨c1,c2⟩:=C9 hx0;have hsz:ops'.size=1:=by simpa using c1.symm
    obtain⟨yo',g1,g2⟩:=c2 0 ops'[0] (by simp);simp at g1;subst g1;exact DA g2 t rfl
   refine wpIn_region (OS hΓ (i:=0) (rid:=0) hx0 rfl rfl rfl rfl trivial hA λo a1 σ1 ho hk hd hw ev hI hal hfar=>?_);obtain⟨y,hop,hy⟩:=nF hk;have hv:=X6 (a:=a1) hy.symm;unfold wpOpIn;simp only[ho,hw,if_true];refine⟨λf _=>hΓ.F.fn f,?_⟩;rw[Oper.semAt_eq _ a1.eval _ (λc e=>by rcases hop with hop|hop<;>rw[hop]at e<;>cases e)];have hr:(execOp a1.eval o).run V.P σ1.w=.ok (.value (.slice none 0 0)) σ1.w:=by rcases hop with hop|hop<;>simp[execOp,hop,hv]
   rw[hr,Oper.uponIn_value];show wpOpsIn _ _ _ _ _ [] _ _;simp only[wpOpsIn];have hdst:o.dst=some t:=hd;rw[hdst];refine⟨σ1,⟨(t,.v (.slice none 0 0))::e,h,c+1⟩,_,Eq.refl _,V.ofE ev,⟨⟨hI.h,TInv.put (d:=some t) (r:=.v (.slice none 0 0)) hI.t (λk hk=>by cases hk;rw[hI.sz];exact ht) (by simp[Rep]),by rw[Act.size_put];exact hI.sz,?_⟩,hal,V.g hA.2.2 ev λt' ht'=>.inr ?_⟩,rfl,hQ⟩
   ·rw[Act.defers_put,MK ht];exact hI.df
   ·show lk ((t,_)::e) t'=lk e t';rw[lk,dW (by omega)]
  ·cases e0
 |seq x y=>simp only[cCode]at hc;split at hc<;>simp at hc
 |cond c x y=>simp only[cCode]at hc;split at hc<;>simp at hc
 |rangeFunc f ps x y=>simp only[cCode]at hc;split at hc<;>simp at hc
 |_=>simp[cCode]at hc
theorem uH{rvs:List RV}{e:Az}{h:Hp}{c:Nat}{vc:Prop}{xs:List AV}{x y:AV}{sz:Nat}{d:List AV}(h1:DS e h rvs=some (vc,xs))(h2:vc)(h3:Gn h (one xs))(h4:res h (one xs)=.tup [.v (.slice none 0 0),y])(h5:x=.sl sz false [] d)(h6:B2 y=true):BC rvs (.tup [x,y]) .r ⟨e,h,c⟩:=by
 show Hy _ _ _;refine⟨vc,xs,h1,h2,h3,?_,?_⟩
 ·rw[h4,h5];intro U v hv;simp only[Rep,RepL]at hv⊢;obtain⟨zs,e1,z,zs',e2,e3,e4⟩:=hv;subst e3;exact⟨zs,e1,_,zs',e2,⟨none,0,rfl,eN _,λh=>(by cases h),by simp,.inl trivial⟩,e4⟩
 ·rw[h5];simp[B2,AP,h6]
section
attribute [local irreducible] Ax BO BB Bj BC Bk AY BD BK Cq
def AB(x:Int×(Int×Int×Int×(List (Int×Int))×Int×Int)×Int×Int×Int×(Int×Int×Int×Int×Bool)):List AV:=[.i x.1,.i x.2.1.1,.i x.2.1.2.1,.i x.2.1.2.2.1,BP x.2.1.2.2.2.1,.i x.2.1.2.2.2.2.1,.i x.2.1.2.2.2.2.2,.i x.2.2.1,.i x.2.2.2.1,.i x.2.2.2.2.1,.i x.2.2.2.2.2.1,.i x.2.2.2.2.2.2.1,.i x.2.2.2.2.2.2.2.1,.i x.2.2.2.2.2.2.2.2.1,.b x.2.2.2.2.2.2.2.2.2]
def EV:List AV->Int×(Int×Int×Int×(List (Int×Int))×Int×Int)×Int×Int×Int×(Int×Int×Int×Int×Bool)|[.v (.int _ a1),.v (.int _ a2),.v (.int _ a3),.v (.int _ a4),.sl _ _ a5 _,.v (.int _ a6),.v (.int _ a7),.v (.int _ a8),.v (.int _ a9),.v (.int _ fr),.v (.int _ fq),.v (.int _ fp),.v (.int _ fo),.v (.int _ fm),.v (.bool fj)]=>(a1,(a2,a3,a4,(a5.map Jx),a6,a7),a8,a9,fr,(fq,fp,fo,fm,fj))|_=>(0,(0,0,0,[],0,0),0,0,0,(0,0,0,0,false))
theorem Nu(x:Int×(Int×Int×Int×(List (Int×Int))×Int×Int)×Int×Int×Int×(Int×Int×Int×Int×Bool)):EV (AB x)=x:=by simp only[AB,EV,BP,MR]
theorem Nv(R:List (Int×(Int×Int×Int×(List (Int×Int))×Int×Int)×Int×Int×Int×(Int×Int×Int×Int×Bool))):(R.map AB).map EV=R:=by
 induction R with
 |nil=>rfl
 |cons r R ih=>rw[eG,eG,ih,Nu]
def CR:Rw (Int×(Int×Int×Int×(List (Int×Int))×Int×Int)×Int×Int×Int×(Int×Int×Int×Int×Bool)):=⟨15,AB,EV,[.i 0,.i 0,.i 0,.i 0,.sl 0 true [] [],.i 0,.i 0,.i 0,.i 0,.i 0,.i 0,.i 0,.i 0,.i 0,.b false]⟩
def Ay(l:List (Int×(Int×Int×Int×(List (Int×Int))×Int×Int)×Int×Int×Int×(Int×Int×Int×Int×Bool))):AV:=.sl 15 false (l.map AB) [.i 0,.i 0,.i 0,.i 0,.sl 0 true [] [],.i 0,.i 0,.i 0,.i 0,.i 0,.i 0,.i 0,.i 0,.i 0,.b false]
def EW(l:List (Int×(Int×Int×Int×(List (Int×Int))×Int×Int)×Int×Int×Int×(Int×Int×Int×Int×Bool))):AV:=.sl 15 true (l.map AB) [.i 0,.i 0,.i 0,.i 0,.sl 0 true [] [],.i 0,.i 0,.i 0,.i 0,.i 0,.i 0,.i 0,.i 0,.i 0,.b false]
attribute [go_sem] CR Ay EW AB EV Nv
def FG(N:Nat)(az:Int)(ay:Int)(aw:Int)(av:Int)(au:List (Int×Int))(aq:Int)(an:Int)(bu:Int)(br:Int)(bq:Int)(bp:Int)(bo:Int)(bn:Int)(bm:Int)(bl:Bool)(am:Int)(ak:Int)(aj:Int)(ai:Int)(ah:List (Int×Int))(af:Int)(ae:Int)(bj:Int)(bi:Int)(bh:Int)(bg:Int)(bf:Int)(be:Int)(bb:Int)(ba:Bool):Option Bool:=gd ((decide (az=am))=true->((C2 N ay aw av au aq an ak aj ai ah af ae).isSome=true))<|some ((((((decide (az=am))&&((C2 N ay aw av au aq an ak aj ai ah af ae).getD false))&&(decide (bu=bj)))&&(decide (br=bi)))&&(decide (bq=bh)))&&(decide (bp=bg)&&(decide (bo=bf)&&(decide (bn=be)&&(decide (bm=bb)&&(bl==ba))))))
@[go_sem] def s37(N:Nat):Spec:=p0<|pG<|pI λaz=>pI λay=>pI λaw=>pI λav=>pS Aq λau=>pI λaq=>pI λan=>pI λbu=>pI λbr=>pI λbq=>pI λbp=>pI λbo=>pI λbn=>pI λbm=>pB λbl=>pE<|pG<|pI λam=>pI λak=>pI λaj=>pI λai=>pS Aq λah=>pI λaf=>pI λae=>pI λbj=>pI λbi=>pI λbh=>pI λbg=>pI λbf=>pI λbe=>pI λbb=>pB λba=>pE<|pE<|pF (FG N az ay aw av au aq an bu br bq bp bo bn bm bl am ak aj ai ah af ae bj bi bh bg bf be bb ba) false λr=>.b r
theorem oG(N:Nat):AG Tryz.prog 37 (s37 N):=by
 refine Ar x37.ok<|Aw<|Aa λaz=>Aa λay=>Aa λaw=>Aa λav=>AF λau=>Aa λaq=>Aa λan=>Aa λbu=>Aa λbr=>Aa λbq=>Aa λbp=>Aa λbo=>Aa λbn=>Aa λbm=>AX λbl=>Ad<|Aw<|Aa λam=>Aa λak=>Aa λaj=>Aa λai=>AF λah=>Aa λaf=>Aa λae=>Aa λbj=>Aa λbi=>Aa λbh=>Aa λbg=>Aa λbf=>Aa λbe=>Aa λbb=>AX λba=>Ad<|Ad<|As λr h=>wx x37 (Ab (Zw N)<|Aj) λ_ hS F=>?_
 dsimp only[x37,Ah,Aq];unfold FG at h;obtain⟨gg,h⟩:=un h;exact Ai hS F h
def FN(N:Nat)(a3589:List (Int×(Int×Int×Int×(List (Int×Int))×Int×Int)×Int×Int×Int×(Int×Int×Int×Int×Bool)))(b3590:List (Int×(Int×Int×Int×(List (Int×Int))×Int×Int)×Int×Int×Int×(Int×Int×Int×Int×Bool))):Nat->Int->Option (Sum Unit Bool)|0,_=>none|n+1,aa=>bif decide (aa<(a3589.length:Int))then((A7 a3589 aa).bind λ(d8,(d7,dz,dw,du,dt,dq),dp,dm,dl,(dh,dg,db,da,cz))=>(A7 b3590 aa).bind λ(cy,(cu,cr,cq,co,cn,cm),ck,cj,ci,(ce,b9,b7,bz,bw))=>(FG N d8 d7 dz dw du dt dq dp dm dl dh dg db da cz cy cu cr cq co cn cm ck cj ci ce b9 b7 bz bw).bind λd9=>bif !d9 then(some (.inr false))else(gd (Af (aa+1))<|FN N a3589 b3590 n (aa+1)))else(some (.inl ()))
def Ie(N:Nat)(a3589:List (Int×(Int×Int×Int×(List (Int×Int))×Int×Int)×Int×Int×Int×(Int×Int×Int×Int×Bool)))(b3590:List (Int×(Int×Int×Int×(List (Int×Int))×Int×Int)×Int×Int×Int×(Int×Int×Int×Int×Bool))):Option Bool:=bif decide ((a3589.length:Int)≠(b3590.length:Int))then(some false)else((FN N a3589 b3590 N 0).bind λbv=>match bv with|.inl ()=>(some true)|.inr eu=>(some eu))
@[go_sem] def s26(N:Nat):Spec:=p0<|pD CR λa3589=>pD CR λb3590=>pE<|pF (Ie N a3589 b3590) false λr=>.b r
theorem Acr(N:Nat):AG Tryz.prog 26 (s26 N):=by
 refine Ar x26.ok<|AM λa3589=>AM λb3590=>Ad<|As λr h=>wx x26 (Ab (oG N)<|Aj) λ_ hS F=>?_
 dsimp only[x26,Ah,CR];unfold Ie at h;refine An hS F h (λ_ h=>?_) (λ_ h=>?_)
 ·exact Ai hS F h
 ·obtain⟨bv,fh,h⟩:=un h;refine go hS F ?_;refine Bz bv (λz:Nat=>⟨[],[],z⟩) (λz=>(.inl ():Sum Unit Bool)) (.x 0) ?_ ?_
  ·refine Bp (λn (y:Int×Nat)=>FN N a3589 b3590 n y.1) (λy=>⟨[(0,Ay a3589),(1,Ay b3590),(5,.i y.1)],[],y.2⟩) (0,3) fh (Ch F) ?_;rintro n ⟨aa,ee⟩ ab;simp only[FN]at ab;refine An hS F ab (λ_ ab=>?_) (λ_ ab=>?_)
   ·obtain⟨⟨d8,⟨d7,dz,dw,du,dt,dq⟩,dp,dm,dl,⟨dh,dg,db,da,cz⟩⟩,ej,ab⟩:=un ab;obtain⟨e9,F⟩:=Cb AB ej F;obtain⟨⟨cy,⟨cu,cr,cq,co,cn,cm⟩,ck,cj,ci,⟨ce,b9,b7,bz,bw⟩⟩,ei,ab⟩:=un ab;obtain⟨e8,F⟩:=Cb AB ei F;obtain⟨d9,eh,ab⟩:=un ab;replace F:=fc eh F;refine An hS F ab (λ_ ab=>?_) (λ_ ab=>?_)
    ·obtain rfl:=yJ ab;exact Ai hS F h
    ·obtain⟨gc,ab⟩:=un ab;exact Cd hS F (n,aa+1,ee+1+1+1) ab
   ·exact B4 hS F (ee+1) ab
  ·rintro fg rfl;exact Ai hS F h
end
section
attribute [local irreducible] Ax BO BB Bj BC Bk AY BD BK Cq
section
variable{n:Nm}{vs:List AV}{a0 a1 a2 a3 a5 a6 a7 a8 a9 a10 a11 a12 a13:Int}{y4:Nat}{f4:Bool}{s4:List (List AV)}{d4:List AV}{a14:Bool}
theorem mQ:IA Tryz.prog 135 [.box n 0,.agg [.v (.int .i64 a0),.v (.int .i64 a1),.v (.int .i64 a2),.v (.int .i64 a3),.sl y4 f4 s4 d4,.v (.int .i64 a5),.v (.int .i64 a6),.v (.int .i64 a7),.v (.int .i64 a8),.v (.int .i64 a9),.v (.int .i64 a10),.v (.int .i64 a11),.v (.int .i64 a12),.v (.int .i64 a13),.v (.bool a14)]] vs (Ay [(2,(0,0,0,[],0,0),a1,0,0,(0,0,0,0,false))]):=by
 have hS:=Aj (P:=Tryz.prog);refine Mj hS x135 rfl (kM rfl) λhb hp cnt hL hv=>?_
 have F:=f0;dsimp only[x135,Ah];refine go hS F ?_;refine HU (ev F) (ev F) ⟨by simp only[go_sem,seval],rfl,by simp only[go_sem,seval],?_⟩;simp only[go_sem,seval]
 repeat' first|exact LkF.refl|refine LkF.pc hL (by simp only;omega) ?_|refine LkF.pa hL (by simp only;omega) ?_
theorem fH(h1:Af (-a8))(h2:Af (-a9)):IA Tryz.prog 158 [.box n 0,.agg [.v (.int .i64 a0),.v (.int .i64 a1),.v (.int .i64 a2),.v (.int .i64 a3),.sl y4 f4 s4 d4,.v (.int .i64 a5),.v (.int .i64 a6),.v (.int .i64 a7),.v (.int .i64 a8),.v (.int .i64 a9),.v (.int .i64 a10),.v (.int .i64 a11),.v (.int .i64 a12),.v (.int .i64 a13),.v (.bool a14)]] vs (Ay [(4,(0,0,0,[],0,0),a7,-a8,-a9,(0,0,0,0,false))]):=by
 have hS:=Aj (P:=Tryz.prog);refine Mj hS x158 rfl (kM rfl) λhb hp cnt hL hv=>?_
 have F:=fc h1 (fc h2 f0);dsimp only[x158,Ah];refine go hS F ?_;refine HU (ev F) (ev F) ⟨by simp only[go_sem,seval],rfl,by simp only[go_sem,seval],?_⟩;simp only[go_sem,seval]
 repeat' first|exact LkF.refl|refine LkF.pc hL (by simp only;omega) ?_|refine LkF.pa hL (by simp only;omega) ?_
theorem mR:IA Tryz.prog 172 [.box n 0,.agg [.v (.int .i64 a0),.v (.int .i64 a1),.v (.int .i64 a2),.v (.int .i64 a3),.sl y4 f4 s4 d4,.v (.int .i64 a5),.v (.int .i64 a6),.v (.int .i64 a7),.v (.int .i64 a8),.v (.int .i64 a9),.v (.int .i64 a10),.v (.int .i64 a11),.v (.int .i64 a12),.v (.int .i64 a13),.v (.bool a14)]] vs (Ay [(7,(0,0,0,[],0,0),a7,0,0,(0,0,0,0,false))]):=by
 have hS:=Aj (P:=Tryz.prog);refine Mj hS x172 rfl (kM rfl) λhb hp cnt hL hv=>?_
 have F:=f0;dsimp only[x172,Ah];refine go hS F ?_;refine HU (ev F) (ev F) ⟨by simp only[go_sem,seval],rfl,by simp only[go_sem,seval],?_⟩;simp only[go_sem,seval]
 repeat' first|exact LkF.refl|refine LkF.pc hL (by simp only;omega) ?_|refine LkF.pa hL (by simp only;omega) ?_
theorem fI:IA Tryz.prog 174 [.box n 0,.agg [.v (.int .i64 a0),.v (.int .i64 a1),.v (.int .i64 a2),.v (.int .i64 a3),.sl y4 f4 s4 d4,.v (.int .i64 a5),.v (.int .i64 a6),.v (.int .i64 a7),.v (.int .i64 a8),.v (.int .i64 a9),.v (.int .i64 a10),.v (.int .i64 a11),.v (.int .i64 a12),.v (.int .i64 a13),.v (.bool a14)]] vs (Ay [(6,(0,0,0,[],0,0),a7,0,0,(0,0,0,0,false))]):=by
 have hS:=Aj (P:=Tryz.prog);refine Mj hS x174 rfl (kM rfl) λhb hp cnt hL hv=>?_
 have F:=f0;dsimp only[x174,Ah];refine go hS F ?_;refine HU (ev F) (ev F) ⟨by simp only[go_sem,seval],rfl,by simp only[go_sem,seval],?_⟩;simp only[go_sem,seval]
 repeat' first|exact LkF.refl|refine LkF.pc hL (by simp only;omega) ?_|refine LkF.pa hL (by simp only;omega) ?_
end
theorem Abh{hp:Hp}{n:Nm}{c c2:AV}(hc:∃z f r d,c=.sl z f r d)(hc2:∃z f r d,c2=.sl z f r d)(h:qv hp (.box n 0)=.agg [c,c2]):hl hp (.c n 0)=some c/\hl hp (.c n 1)=some c2:=by
 obtain⟨z,f,r,d,rfl⟩:=hc;obtain⟨z2,f2,r2,d2,rfl⟩:=hc2;simp only[qv,AV.agg.injEq]at h;cases hb:C0 hp n 0 40 with
 |nil=>rw[hb]at h;cases h
 |cons x xs=>
  cases xs with
  |nil=>rw[hb]at h;simp at h
  |cons x2 xs=>
   rw[hb]at h;simp only[eG,List.cons.injEq]at h;have hx:=I5 40 0 0 x (by rw[hb];rfl);have hx2:=I5 40 0 1 x2 (by rw[hb];rfl);have aux:∀{x z f r d},K2 hp x=.sl z f r d->x=.sl z f r d:=by
    intro x z f r d h1;cases x with
    |mp m=>simp only[K2]at h1;split at h1<;>cases h1
    |_=>simp only[K2]at h1;first|exact h1|cases h1
   have e1:=aux h.1;have e2:=aux h.2.1;subst e1 e2;exact⟨by have:=hx.1;rw[xS]at this;exact this,by have:=hx2.1;exact this⟩
abbrev AcT:=Int×Un×Int×Int×Int×Mk
def N2(N:Nat)(us:List Un)(ms:List Mk)(a0 a1 a2 a3:Int)(a4:List (Int×Int))(a5 a6 a7 a8 a9 a10 a11 a12 a13:Int)(a14:Bool):Option (List AcT):=(CC N ms a0 a1 a2 a3 a4 a5 a6 a7 a8 a9 a10 a11 a12 a13 a14).bind λb=>bif b then some []else match Dk N us a7 with|some (u,true)=>some [(1,u,0,0,0,(0,0,0,0,false))]|_=>none
def pZ:List AcT->AV|[]=>.v (.slice none 0 0)|x::l=>Ay (x::l)
attribute [local go_sem] pZ
section
variable(N:Nat){n:Nm}{a0 a1 a2 a3 a5 a6 a7 a8 a9 a10 a11 a12 a13:Int}{y4:Nat}{s4:List (List AV)}{d4:List AV}{a14:Bool}{y y2:Nat}{fl fl2:Bool}{s s2:List (List AV)}{d d2:List AV}
attribute [local go_sem] qU qv K2
theorem mS{rr:List AcT}(hy:y=6\/s=[])(hw:Hk s ((s.map B1).map Au))(hy2:y2=5\/s2=[])(hw2:s2=(s2.map E8).map BZ)(h4:((y4=2/\False=False)/\d4=[.i 0,.i 0])/\s4=(s4.map Jx).map Cz)(hu:N2 N (s.map B1) (s2.map E8) a0 a1 a2 a3 (s4.map Jx) a5 a6 a7 a8 a9 a10 a11 a12 a13 a14=some rr):IA Tryz.prog 145 [.box n 0,.agg [.v (.int .i64 a0),.v (.int .i64 a1),.v (.int .i64 a2),.v (.int .i64 a3),.sl y4 false s4 d4,.v (.int .i64 a5),.v (.int .i64 a6),.v (.int .i64 a7),.v (.int .i64 a8),.v (.int .i64 a9),.v (.int .i64 a10),.v (.int .i64 a11),.v (.int .i64 a12),.v (.int .i64 a13),.v (.bool a14)]] [.agg [.sl y fl s d,.sl y2 fl2 s2 d2],.agg [.v (.int .i64 a0),.v (.int .i64 a1),.v (.int .i64 a2),.v (.int .i64 a3),.sl y4 false s4 d4,.v (.int .i64 a5),.v (.int .i64 a6),.v (.int .i64 a7),.v (.int .i64 a8),.v (.int .i64 a9),.v (.int .i64 a10),.v (.int .i64 a11),.v (.int .i64 a12),.v (.int .i64 a13),.v (.bool a14)]] (pZ rr):=by
 have hS:=BG (Ab (XI N)<|Aj) (L3 N) (CP N) H3 (H2 N);refine Mj hS x145 (by cases rr<;>rfl) (kM rfl) λhb hp cnt hL hv=>?_
 obtain⟨n1,n2⟩:=n;simp only[eG,tG,List.cons.injEq,and_true]at hv;obtain⟨h0,h1⟩:=Abh ⟨_,_,_,_,rfl⟩ ⟨_,_,_,_,rfl⟩ hv.1;have hn:=hL.a (n1,n2) 0 (by simp);obtain⟨⟨⟨rfl,_⟩,rfl⟩,h4⟩:=h4;generalize hl4:s4.map Jx=l4 at h4 hu;generalize hl2:s2.map E8=l2 at hw2 hu;subst h4 hw2;have F:=fc (show(y=6\/s=[])=True from eq_true hy) (fc (show Hk s ((s.map B1).map Au)=True from eq_true hw) (fc (show(y2=5\/l2=[])=True from eq_true (by simpa using hy2)) (fc (show∀k j,hl hp (.c (k,cnt+1) j)=none from λk j=>by
  cases e:hl hp (.c (k,cnt+1) j)with
  |none=>rfl
  |some x=>exact absurd (hL.h _ _ _ e) (by simp))<|fc h0 (fc h1 (fc (show(cnt+1=n2)=False by simp at hn⊢;omega) (fc (show(cnt+1+1=n2)=False by simp at hn⊢;omega) (fc (show(cnt+1+1+1=n2)=False by simp at hn⊢;omega) (fc (show(cnt+1+1+1+1=n2)=False by simp at hn⊢;omega) f0))))))))
 unfold N2 at hu;dsimp only[x145,Ah];cases hc:CC N l2 a0 a1 a2 a3 l4 a5 a6 a7 a8 a9 a10 a11 a12 a13 a14 with
 |none=>rw[hc]at hu;cases hu
 |some b=>
  rw[hc]at hu;replace F:=fc hc F;cases b with
  |true=>
   cases hu
   refine go hS F ?_;refine ct F ?_;refine CK (uG (Ctx.fn_ok hS) (DW ?_));refine go hS F ?_;refine HU (ev F) (ev F) ⟨by simp only[go_sem,seval],rfl,by simp only[go_sem,seval],?_⟩;simp only[go_sem,seval]
   repeat' first|exact LkF.refl|refine LkF.pc hL (by simp only;omega) ?_|refine LkF.pa hL (by simp only;omega) ?_
  |false=>
   dsimp only[Option.bind,cond]at hu;split at hu
   ·rename_i u hu3;cases hu
    replace F:=fc hu3 F;refine go hS F ?_;refine cf F ?_;refine go hS F ?_;refine HU (ev F) (ev F) ⟨by simp only[go_sem,seval],rfl,by simp only[go_sem,seval],?_⟩;simp only[go_sem,seval]
    repeat' first|exact LkF.refl|refine LkF.pc hL (by simp only;omega) ?_|refine LkF.pa hL (by simp only;omega) ?_
   ·cases hu
end
end
section
attribute [local irreducible] Ax BO BB Bj BC Bk AY BD BK Cq
theorem AcQ{S F G:Prop}{E:Type}{a r:E}(hS:S)(f:F)(h:some a=some r)(t:S->(r=a/\F)->G:=by
 intro hS f
 repeat' (first
  |(with_reducible (first|apply DD|apply EA|apply Eu|apply FL|apply DE|apply DF|apply GD|apply GE);(·(first|exact Ctx.fn_ok hS|exact Ctx.rd_ok hS|assumption|exact yT|exact Ctx.rdG_ok hS));iterate 2 (·(simp only[go_sem,seval,f]<;>eq_refl)))
  |with_reducible (first|apply Dz|apply En|apply Di|apply Dj|apply CX|apply Cw|apply CK|apply DW|apply Ec|apply Eo|apply Ep|apply Er|apply Es)
  |(with_reducible apply Et;(·first|rfl|decide))
  |(with_reducible apply A4;(·simp))
  |with_reducible (first|apply HV|apply HW|apply HX|apply DB|apply DC|apply Ex|apply Ey|apply Ez|apply yT|apply And.intro yT yT)
  |(fail_if_success with_reducible apply G1);(fail_if_success with_reducible apply Ew);first|with_reducible apply And.intro|omega|(simp only[go_sem,seval,f];done)|with_reducible assumption|(refine And.intro ?_ ?_)|(intro hg;simp_all;done)|decide|grind)
 refine uH (by simp only[go_sem,seval,f]<;>eq_refl) (by simp only[go_sem,seval,f]) (by simp only[go_sem,seval,f]) (by first|(simp only[go_sem,seval,f];done)|(simp only[go_sem,seval,f];rfl)) (by simp only[go_sem,seval,f]<;>rfl) rfl):G:=t hS ⟨(yJ h).symm,f⟩
def qD(N:Nat):Nat->List AV->List AV->Option (Prop×AV):=λf args vs=>if f=135 then(match args with|[.box _ 0,.agg [.v (.int .i64 a0),.v (.int .i64 a1),.v (.int .i64 a2),.v (.int .i64 a3),.sl _ _ _ _,.v (.int .i64 a5),.v (.int .i64 a6),.v (.int .i64 a7),.v (.int .i64 a8),.v (.int .i64 a9),.v (.int .i64 a10),.v (.int .i64 a11),.v (.int .i64 a12),.v (.int .i64 a13),.v (.bool a14)]]=>some (True,Ay [(2,(0,0,0,[],0,0),a1,0,0,(0,0,0,0,false))])|_=>none)else if f=158 then(match args with|[.box _ 0,.agg [.v (.int .i64 a0),.v (.int .i64 a1),.v (.int .i64 a2),.v (.int .i64 a3),.sl _ _ _ _,.v (.int .i64 a5),.v (.int .i64 a6),.v (.int .i64 a7),.v (.int .i64 a8),.v (.int .i64 a9),.v (.int .i64 a10),.v (.int .i64 a11),.v (.int .i64 a12),.v (.int .i64 a13),.v (.bool a14)]]=>some (Af (-a8)/\Af (-a9),Ay [(4,(0,0,0,[],0,0),a7,-a8,-a9,(0,0,0,0,false))])|_=>none)else if f=172 then(match args with|[.box _ 0,.agg [.v (.int .i64 a0),.v (.int .i64 a1),.v (.int .i64 a2),.v (.int .i64 a3),.sl _ _ _ _,.v (.int .i64 a5),.v (.int .i64 a6),.v (.int .i64 a7),.v (.int .i64 a8),.v (.int .i64 a9),.v (.int .i64 a10),.v (.int .i64 a11),.v (.int .i64 a12),.v (.int .i64 a13),.v (.bool a14)]]=>some (True,Ay [(7,(0,0,0,[],0,0),a7,0,0,(0,0,0,0,false))])|_=>none)else if f=174 then(match args with|[.box _ 0,.agg [.v (.int .i64 a0),.v (.int .i64 a1),.v (.int .i64 a2),.v (.int .i64 a3),.sl _ _ _ _,.v (.int .i64 a5),.v (.int .i64 a6),.v (.int .i64 a7),.v (.int .i64 a8),.v (.int .i64 a9),.v (.int .i64 a10),.v (.int .i64 a11),.v (.int .i64 a12),.v (.int .i64 a13),.v (.bool a14)]]=>some (True,Ay [(6,(0,0,0,[],0,0),a7,0,0,(0,0,0,0,false))])|_=>none)else
 if f=145 then(match args,vs with
  |[.box _ 0,.agg [.v (.int .i64 a0),.v (.int .i64 a1),.v (.int .i64 a2),.v (.int .i64 a3),.sl y4 false s4 d4,.v (.int .i64 a5),.v (.int .i64 a6),.v (.int .i64 a7),.v (.int .i64 a8),.v (.int .i64 a9),.v (.int .i64 a10),.v (.int .i64 a11),.v (.int .i64 a12),.v (.int .i64 a13),.v (.bool a14)]],[.agg [.sl y _ s _,.sl y2 _ s2 _],_]=>match N2 N (s.map B1) (s2.map E8) a0 a1 a2 a3 (s4.map Jx) a5 a6 a7 a8 a9 a10 a11 a12 a13 a14 with|some rr=>some (((y=6\/s=[])/\Hk s ((s.map B1).map Au))/\((y2=5\/s2=[])/\s2=(s2.map E8).map BZ)/\((y4=2/\d4=[.i 0,.i 0])/\s4=(s4.map Jx).map Cz),pZ rr)|none=>none
  |_,_=>none)else qU N f args vs
theorem N3(N:Nat):∀f args vs vc r,qD N f args vs=some (vc,r)->vc->Dh Tryz.prog f/\IA Tryz.prog f args vs r:=by
 intro f args vs vc r h hv;unfold qD at h;split at h
 ·rename_i hf;subst hf;split at h
  ·cases h
   exact⟨x135.ok,mQ⟩
  ·cases h
 split at h
 ·rename_i hf;subst hf;split at h
  ·cases h
   exact⟨x158.ok,fH hv.1 hv.2⟩
  ·cases h
 split at h
 ·rename_i hf;subst hf;split at h
  ·cases h
   exact⟨x172.ok,mR⟩
  ·cases h
 split at h
 ·rename_i hf;subst hf;split at h
  ·cases h
   exact⟨x174.ok,fI⟩
  ·cases h
 split at h
 ·rename_i hf;subst hf;split at h
  ·rename_i v2;split at h
   ·rename_i rr hu;cases h
    obtain⟨⟨h1,h2⟩,⟨h3,h4⟩,⟨h5,h6⟩,h7⟩:=hv;refine⟨x145.ok,λU hp xs gl hI hal hx hvs=>?_⟩;have hii:=hvs;simp only[eG,tG,List.cons.injEq,and_true]at hii;have e:=hii.2;rw[show∀l,qv hp (.agg l)=.agg l from λ_=>rfl]at e;subst e;exact mS N h1 h2 h3 h4 ⟨⟨⟨h5,rfl⟩,h6⟩,h7⟩ hu U hp xs gl hI hal hx hvs
   ·cases h
  ·cases h
 ·exact L3 N f args vs vc r h hv
end
attribute [local irreducible] Ax BO BB Bj BC Bk AY BD BK Cq
attribute [local go_sem] kF Nj JT JU qU qD pZ qv K2
def Mu(N:Nat)(s1:List (Int×Int×Int×(List (Int×Int))×Int×Int))(s2:List (Int×Int×Int×Int×Bool))(a4:Int)(a5:Int)(a6:Int)(a7:List (Int×Int))(a8:Int)(a9:Int)(jj:Int)(ji:Int)(jh:Int)(jg:Int)(jf:Int)(je:Int)(jd:Int)(jc:Bool):Option ((List (Int×(Int×Int×Int×(List (Int×Int))×Int×Int)×Int×Int×Int×(Int×Int×Int×Int×Bool)))×Bool):=(CZ N s1 s2 1 a4 a5 a6 a7 a8 a9 jj ji jh jg jf je jd jc).bind λ((lq,lm),r20)=>bif decide (r20≠0)then(some ([],false))else((Fj N a4 a5 a6 a7 a8 a9 jj ji jh jg jf je jd jc).bind λma=>(Fh N s1 s2).bind λ(lj,li)=>some ([(2,(0,0,0,[],0,0),a4,0,0,(0,0,0,0,false))],true))
@[go_sem] def Aa9(N:Nat):Spec:=p0<|pG<|pD Ak λs1=>pD AA λs2=>pE<|pG<|pC 1<|pI λa4=>pI λa5=>pI λa6=>pD Aq λa7=>pI λa8=>pI λa9=>pI λjj=>pI λji=>pI λjh=>pI λjg=>pI λjf=>pI λje=>pI λjd=>pB λjc=>pE<|pE<|pF (Mu N s1 s2 a4 a5 a6 a7 a8 a9 jj ji jh jg jf je jd jc) ([],false) λr=>.tup [Ay r.1,.b r.2]
theorem mH(N:Nat):AG Tryz.prog 24 (Aa9 N):=by
 refine Ar x24.ok<|Aw<|AM λs1=>AM λs2=>Ad<|Aw<|Dn<|Aa λa4=>Aa λa5=>Aa λa6=>AM λa7=>Aa λa8=>Aa λa9=>Aa λjj=>Aa λji=>Aa λjh=>Aa λjg=>Aa λjf=>Aa λje=>Aa λjd=>AX λjc=>Ad<|Ad<|As λr h=>wx x24 (BG (Ab (MW N)<|Ab (Nk N)<|Ab (QZ N)<|Aj) (N3 N) (CP N) H3 (H2 N)) λ_ hS F=>?_
 dsimp only[x24,Ah,Aq,AA,Ak];unfold Mu at h;obtain⟨⟨⟨lq,lm⟩,r20⟩,kh,h⟩:=un h;replace F:=fc kh F;refine An hS F h (λ_ h=>?_) (λ_ h=>?_)
 ·exact E2 hS F h
 ·obtain⟨ma,kg,h⟩:=un h;replace F:=fc kg F;refine KR hS F ?_;obtain⟨⟨lj,li⟩,kf,h⟩:=un h;exact E2 hS (fc kf F) h
def Mv(N:Nat)(Xd:List (Int×Int×Int×(List (Int×Int))×Int×Int))(Wx:List (Int×Int×Int×Int×Bool))(fj:Int)(fh:Int)(fg:Int)(e9:List (Int×Int))(e8:Int)(eu:Int)(ej:Int)(ei:Int)(eh:Int)(ee:Int)(d9:Int)(d8:Int)(d7:Int)(dz:Bool):Option ((List (Int×(Int×Int×Int×(List (Int×Int))×Int×Int)×Int×Int×Int×(Int×Int×Int×Int×Bool)))×Bool):=(CZ N Xd Wx 2 fj fh fg e9 e8 eu ej ei eh ee d9 d8 d7 dz).bind λ((lh,lg),kq)=>bif decide (kq≠0)then(some ([],false))else((Fk N fj fh fg e9 e8 eu ej ei eh ee d9 d8 d7 dz).bind λl7=>(Fh N Xd Wx).bind λ(km,kl)=>(N2 N km kl 2 fj fh fg e9 e8 eu ej ei eh ee d9 d8 d7 dz).bind λl53=>some (l53, !l53.isEmpty))
@[go_sem] def Aba(N:Nat):Spec:=p0<|pG<|pD Ak λXd=>pD AA λWx=>pE<|pG<|pC 2<|pI λfj=>pI λfh=>pI λfg=>pD Aq λe9=>pI λe8=>pI λeu=>pI λej=>pI λei=>pI λeh=>pI λee=>pI λd9=>pI λd8=>pI λd7=>pB λdz=>pE<|pE<|pF (Mv N Xd Wx fj fh fg e9 e8 eu ej ei eh ee d9 d8 d7 dz) ([],false) λr=>.tup [Ay r.1,.b r.2]
theorem mI(N:Nat):AG Tryz.prog 24 (Aba N):=by
 refine Ar x24.ok<|Aw<|AM λXd=>AM λWx=>Ad<|Aw<|Dn<|Aa λfj=>Aa λfh=>Aa λfg=>AM λe9=>Aa λe8=>Aa λeu=>Aa λej=>Aa λei=>Aa λeh=>Aa λee=>Aa λd9=>Aa λd8=>Aa λd7=>AX λdz=>Ad<|Ad<|As λr h=>wx x24 (BG (Ab (MW N)<|Ab (Nl N)<|Ab (QZ N)<|Aj) (N3 N) (CP N) H3 (H2 N)) λ_ hS F=>?_
 dsimp only[x24,Ah,Aq,AA,Ak];unfold Mv at h;obtain⟨⟨⟨lh,lg⟩,kq⟩,ke,h⟩:=un h;replace F:=fc ke F;refine An hS F h (λ_ h=>?_) (λ_ h=>?_)
 ·exact E2 hS F h
 ·obtain⟨l7,ka,h⟩:=un h;replace F:=fc ka F;refine KR hS F ?_;obtain⟨⟨km,kl⟩,gg,h⟩:=un h;obtain⟨l53,gc,h⟩:=un h;cases l53 with
  |nil=>exact AcQ hS (fc gc (fc gg F)) h
  |cons x xs=>exact E2 hS (fc gc (fc gg F)) h
def Mw(N:Nat)(jk:List (Int×Int×Int×(List (Int×Int))×Int×Int))(YV:List (Int×Int×Int×Int×Bool))(jb:Int)(ja:Int)(i9:Int)(i8:List (Int×Int))(i7:Int)(i6:Int)(i5:Int)(iz:Int)(iy:Int)(iw:Int)(iv:Int)(ir:Int)(iq:Int)(ip:Bool):Option ((List (Int×(Int×Int×Int×(List (Int×Int))×Int×Int)×Int×Int×Int×(Int×Int×Int×Int×Bool)))×Bool):=(CZ N jk YV 3 jb ja i9 i8 i7 i6 i5 iz iy iw iv ir iq ip).bind λ((lf,kz),kj)=>bif decide (kj≠0)then(some ([],false))else((Fl N jb ja i9 i8 i7 i6 i5 iz iy iw iv ir iq ip).bind λlz=>some ([],false))
@[go_sem] def Abb(N:Nat):Spec:=p0<|pG<|pD Ak λjk=>pD AA λYV=>pE<|pG<|pC 3<|pI λjb=>pI λja=>pI λi9=>pD Aq λi8=>pI λi7=>pI λi6=>pI λi5=>pI λiz=>pI λiy=>pI λiw=>pI λiv=>pI λir=>pI λiq=>pB λip=>pE<|pE<|pF (Mw N jk YV jb ja i9 i8 i7 i6 i5 iz iy iw iv ir iq ip) ([],false) λr=>.tup [Ay r.1,.b r.2]
theorem mJ(N:Nat):AG Tryz.prog 24 (Abb N):=by
 refine Ar x24.ok<|Aw<|AM λjk=>AM λYV=>Ad<|Aw<|Dn<|Aa λjb=>Aa λja=>Aa λi9=>AM λi8=>Aa λi7=>Aa λi6=>Aa λi5=>Aa λiz=>Aa λiy=>Aa λiw=>Aa λiv=>Aa λir=>Aa λiq=>AX λip=>Ad<|Ad<|As λr h=>wx x24 (BG (Ab (MW N)<|Ab (Nn N)<|Aj) (N3 N) (CP N) H3 (H2 N)) λ_ hS F=>?_
 dsimp only[x24,Ah,Aq,AA,Ak];unfold Mw at h;obtain⟨⟨⟨lf,kz⟩,kj⟩,j9,h⟩:=un h;replace F:=fc j9 F;refine An hS F h (λ_ h=>?_) (λ_ h=>?_)
 ·exact E2 hS F h
 ·obtain⟨lz,j8,h⟩:=un h;replace F:=fc j8 F;refine Om hS F ?_;exact E2 hS F h
def Mx(N:Nat)(Wo:List (Int×Int×Int×(List (Int×Int))×Int×Int))(S2:List (Int×Int×Int×Int×Bool))(im:Int)(il:Int)(ij:Int)(ii:List (Int×Int))(ig:Int)(ie:Int)(dw:Int)(du:Int)(dt:Int)(ic:Int)(ib:Int)(g9:Int)(g8:Int)(gz:Bool):Option ((List (Int×(Int×Int×Int×(List (Int×Int))×Int×Int)×Int×Int×Int×(Int×Int×Int×Int×Bool)))×Bool):=(CZ N Wo S2 4 im il ij ii ig ie dw du dt ic ib g9 g8 gz).bind λ((kw,kv),ki)=>bif decide (ki≠0)then(some ([],false))else((Fm N im il ij ii ig ie dw du dt ic ib g9 g8 gz).bind λlr=>(Fh N Wo S2).bind λ(jy,jx)=>gd (Af (-du))<|gd (Af (-dt))<|some ([(4,(0,0,0,[],0,0),dw,-du,-dt,(0,0,0,0,false))],true))
@[go_sem] def Abc(N:Nat):Spec:=p0<|pG<|pD Ak λWo=>pD AA λS2=>pE<|pG<|pC 4<|pI λim=>pI λil=>pI λij=>pD Aq λii=>pI λig=>pI λie=>pI λdw=>pI λdu=>pI λdt=>pI λic=>pI λib=>pI λg9=>pI λg8=>pB λgz=>pE<|pE<|pF (Mx N Wo S2 im il ij ii ig ie dw du dt ic ib g9 g8 gz) ([],false) λr=>.tup [Ay r.1,.b r.2]
theorem mK(N:Nat):AG Tryz.prog 24 (Abc N):=by
 refine Ar x24.ok<|Aw<|AM λWo=>AM λS2=>Ad<|Aw<|Dn<|Aa λim=>Aa λil=>Aa λij=>AM λii=>Aa λig=>Aa λie=>Aa λdw=>Aa λdu=>Aa λdt=>Aa λic=>Aa λib=>Aa λg9=>Aa λg8=>AX λgz=>Ad<|Ad<|As λr h=>wx x24 (BG (Ab (MW N)<|Ab (No N)<|Ab (QZ N)<|Aj) (N3 N) (CP N) H3 (H2 N)) λ_ hS F=>?_
 dsimp only[x24,Ah,Aq,AA,Ak];unfold Mx at h;obtain⟨⟨⟨kw,kv⟩,ki⟩,j7,h⟩:=un h;replace F:=fc j7 F;refine An hS F h (λ_ h=>?_) (λ_ h=>?_)
 ·exact E2 hS F h
 ·obtain⟨lr,j6,h⟩:=un h;replace F:=fc j6 F;refine KR hS F ?_;obtain⟨⟨jy,jx⟩,gy,h⟩:=un h;obtain⟨kr,mb,h⟩:=un h;exact E2 hS (fc gy F) h
def My(N:Nat)(Tk:List (Int×Int×Int×(List (Int×Int))×Int×Int))(s105:List (Int×Int×Int×Int×Bool))(dq:Int)(dp:Int)(dm:Int)(dl:List (Int×Int))(dh:Int)(dg:Int)(db:Int)(da:Int)(cz:Int)(cy:Int)(cu:Int)(cr:Int)(cq:Int)(co:Bool):Option ((List (Int×(Int×Int×Int×(List (Int×Int))×Int×Int)×Int×Int×Int×(Int×Int×Int×Int×Bool)))×Bool):=(CZ N Tk s105 5 dq dp dm dl dh dg db da cz cy cu cr cq co).bind λ((jw,jv),fq)=>bif decide (fq≠0)then(some ([],false))else((Fo N dq dp dm dl dh dg db da cz cy cu cr cq co).bind λj5=>some ([],false))
@[go_sem] def Abd(N:Nat):Spec:=p0<|pG<|pD Ak λTk=>pD AA λs105=>pE<|pG<|pC 5<|pI λdq=>pI λdp=>pI λdm=>pD Aq λdl=>pI λdh=>pI λdg=>pI λdb=>pI λda=>pI λcz=>pI λcy=>pI λcu=>pI λcr=>pI λcq=>pB λco=>pE<|pE<|pF (My N Tk s105 dq dp dm dl dh dg db da cz cy cu cr cq co) ([],false) λr=>.tup [Ay r.1,.b r.2]
theorem mL(N:Nat):AG Tryz.prog 24 (Abd N):=by
 refine Ar x24.ok<|Aw<|AM λTk=>AM λs105=>Ad<|Aw<|Dn<|Aa λdq=>Aa λdp=>Aa λdm=>AM λdl=>Aa λdh=>Aa λdg=>Aa λdb=>Aa λda=>Aa λcz=>Aa λcy=>Aa λcu=>Aa λcr=>Aa λcq=>AX λco=>Ad<|Ad<|As λr h=>wx x24 (BG (Ab (MW N)<|Ab (Np N)<|Aj) (N3 N) (CP N) H3 (H2 N)) λ_ hS F=>?_
 dsimp only[x24,Ah,Aq,AA,Ak];unfold My at h;obtain⟨⟨⟨jw,jv⟩,fq⟩,gx,h⟩:=un h;replace F:=fc gx F;refine An hS F h (λ_ h=>?_) (λ_ h=>?_)
 ·exact E2 hS F h
 ·obtain⟨j5,gw,h⟩:=un h;replace F:=fc gw F;refine Om hS F ?_;exact E2 hS F h
def Mz(N:Nat)(RI:List (Int×Int×Int×(List (Int×Int))×Int×Int))(RG:List (Int×Int×Int×Int×Bool))(cn:Int)(cm:Int)(ck:Int)(cj:List (Int×Int))(ci:Int)(ce:Int)(ab:Int)(b9:Int)(b7:Int)(bz:Int)(bw:Int)(bv:Int)(bu:Int)(br:Bool):Option ((List (Int×(Int×Int×Int×(List (Int×Int))×Int×Int)×Int×Int×Int×(Int×Int×Int×Int×Bool)))×Bool):=(CZ N RI RG 6 cn cm ck cj ci ce ab b9 b7 bz bw bv bu br).bind λ((ju,jt),fp)=>bif decide (fp≠0)then(some ([],false))else((Fp N cn cm ck cj ci ce ab b9 b7 bz bw bv bu br).bind λj4=>(Fh N RI RG).bind λ(js,jr)=>some ([(7,(0,0,0,[],0,0),ab,0,0,(0,0,0,0,false))],true))
@[go_sem] def Abe(N:Nat):Spec:=p0<|pG<|pD Ak λRI=>pD AA λRG=>pE<|pG<|pC 6<|pI λcn=>pI λcm=>pI λck=>pD Aq λcj=>pI λci=>pI λce=>pI λab=>pI λb9=>pI λb7=>pI λbz=>pI λbw=>pI λbv=>pI λbu=>pB λbr=>pE<|pE<|pF (Mz N RI RG cn cm ck cj ci ce ab b9 b7 bz bw bv bu br) ([],false) λr=>.tup [Ay r.1,.b r.2]
theorem mM(N:Nat):AG Tryz.prog 24 (Abe N):=by
 refine Ar x24.ok<|Aw<|AM λRI=>AM λRG=>Ad<|Aw<|Dn<|Aa λcn=>Aa λcm=>Aa λck=>AM λcj=>Aa λci=>Aa λce=>Aa λab=>Aa λb9=>Aa λb7=>Aa λbz=>Aa λbw=>Aa λbv=>Aa λbu=>AX λbr=>Ad<|Ad<|As λr h=>wx x24 (BG (Ab (MW N)<|Ab (Nq N)<|Ab (QZ N)<|Aj) (N3 N) (CP N) H3 (H2 N)) λ_ hS F=>?_
 dsimp only[x24,Ah,Aq,AA,Ak];unfold Mz at h;obtain⟨⟨⟨ju,jt⟩,fp⟩,gv,h⟩:=un h;replace F:=fc gv F;refine An hS F h (λ_ h=>?_) (λ_ h=>?_)
 ·exact E2 hS F h
 ·obtain⟨j4,gu,h⟩:=un h;replace F:=fc gu F;refine KR hS F ?_;obtain⟨⟨js,jr⟩,gt,h⟩:=un h;exact E2 hS (fc gt F) h
def MA(N:Nat)(RH:List (Int×Int×Int×(List (Int×Int))×Int×Int))(RS:List (Int×Int×Int×Int×Bool))(bq:Int)(bp:Int)(bo:Int)(bn:List (Int×Int))(bm:Int)(bl:Int)(aa:Int)(bj:Int)(bi:Int)(bh:Int)(bg:Int)(bf:Int)(be:Int)(bb:Bool):Option ((List (Int×(Int×Int×Int×(List (Int×Int))×Int×Int)×Int×Int×Int×(Int×Int×Int×Int×Bool)))×Bool):=(CZ N RH RS 7 bq bp bo bn bm bl aa bj bi bh bg bf be bb).bind λ((jq,jp),fo)=>bif decide (fo≠0)then(some ([],false))else((Fq N bq bp bo bn bm bl aa bj bi bh bg bf be bb).bind λjz=>(Fh N RH RS).bind λ(jo,jn)=>some ([(6,(0,0,0,[],0,0),aa,0,0,(0,0,0,0,false))],true))
@[go_sem] def Abf(N:Nat):Spec:=p0<|pG<|pD Ak λRH=>pD AA λRS=>pE<|pG<|pC 7<|pI λbq=>pI λbp=>pI λbo=>pD Aq λbn=>pI λbm=>pI λbl=>pI λaa=>pI λbj=>pI λbi=>pI λbh=>pI λbg=>pI λbf=>pI λbe=>pB λbb=>pE<|pE<|pF (MA N RH RS bq bp bo bn bm bl aa bj bi bh bg bf be bb) ([],false) λr=>.tup [Ay r.1,.b r.2]
theorem mN(N:Nat):AG Tryz.prog 24 (Abf N):=by
 refine Ar x24.ok<|Aw<|AM λRH=>AM λRS=>Ad<|Aw<|Dn<|Aa λbq=>Aa λbp=>Aa λbo=>AM λbn=>Aa λbm=>Aa λbl=>Aa λaa=>Aa λbj=>Aa λbi=>Aa λbh=>Aa λbg=>Aa λbf=>Aa λbe=>AX λbb=>Ad<|Ad<|As λr h=>wx x24 (BG (Ab (MW N)<|Ab (Nr N)<|Ab (QZ N)<|Aj) (N3 N) (CP N) H3 (H2 N)) λ_ hS F=>?_
 dsimp only[x24,Ah,Aq,AA,Ak];unfold MA at h;obtain⟨⟨⟨jq,jp⟩,fo⟩,gr,h⟩:=un h;replace F:=fc gr F;refine An hS F h (λ_ h=>?_) (λ_ h=>?_)
 ·exact E2 hS F h
 ·obtain⟨jz,gm,h⟩:=un h;replace F:=fc gm F;refine KR hS F ?_;obtain⟨⟨jo,jn⟩,gj,h⟩:=un h;exact E2 hS (fc gj F) h
def MB(N:Nat)(I9:List (Int×Int×Int×(List (Int×Int))×Int×Int))(Ja:List (Int×Int×Int×Int×Bool))(ba:Int)(az:Int)(ay:Int)(aw:Int)(av:List (Int×Int))(au:Int)(aq:Int)(an:Int)(am:Int)(ak:Int)(aj:Int)(ai:Int)(ah:Int)(af:Int)(ae:Bool):Option ((List (Int×(Int×Int×Int×(List (Int×Int))×Int×Int)×Int×Int×Int×(Int×Int×Int×Int×Bool)))×Bool):=(CZ N I9 Ja ba az ay aw av au aq an am ak aj ai ah af ae).bind λ((jm,jl),fm)=>bif decide (fm≠0)then(some ([],false))else((Fr N ba az ay aw av au aq an am ak aj ai ah af ae).bind λfr=>gd (fr=false)<|some ([],false))
@[go_sem] def Abg(N:Nat):Spec:=p0<|pG<|pD Ak λI9=>pD AA λJa=>pE<|pG<|pI λba=>pI λaz=>pI λay=>pI λaw=>pD Aq λav=>pI λau=>pI λaq=>pI λan=>pI λam=>pI λak=>pI λaj=>pI λai=>pI λah=>pI λaf=>pB λae=>pE<|pE<|pF (MB N I9 Ja ba az ay aw av au aq an am ak aj ai ah af ae) ([],false) λr=>.tup [Ay r.1,.b r.2]
theorem mO(N:Nat):AG Tryz.prog 24 (Abg N):=by
 refine Ar x24.ok<|Aw<|AM λI9=>AM λJa=>Ad<|Aw<|Aa λba=>Aa λaz=>Aa λay=>Aa λaw=>AM λav=>Aa λau=>Aa λaq=>Aa λan=>Aa λam=>Aa λak=>Aa λaj=>Aa λai=>Aa λah=>Aa λaf=>AX λae=>Ad<|Ad<|As λr h=>wx x24 (BG (Ab (MW N)<|Ab (Ns N)<|Aj) (N3 N) (CP N) H3 (H2 N)) λ_ hS F=>?_
 dsimp only[x24,Ah,Aq,AA,Ak];unfold MB at h;obtain⟨⟨⟨jm,jl⟩,fm⟩,gi,h⟩:=un h;replace F:=fc gi F;refine An hS F h (λ_ h=>?_) (λ_ h=>?_)
 ·exact E2 hS F h
 ·obtain⟨fr,gh,kr,h⟩:=un h;replace F:=fc kr (fc gh F);refine Om hS F ?_;exact E2 hS F h
