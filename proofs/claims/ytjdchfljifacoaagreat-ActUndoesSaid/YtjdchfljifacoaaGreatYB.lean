import Derived.Test.YtjdchfljifacoaaGreatY7
import Derived.Test.YtjdchfljifacoaaGreatY9
set_option linter.all false
set_option maxRecDepth 100000
set_option maxHeartbeats 8000000
namespace Go.Proofs.YtjdchfljifacoaaGreat.Am
section
open Go
attribute [local irreducible] Ax BO BB Bj BC Bk AY BD BK Cq
def AaI(N:Nat)(r330:List (Int×(Int×Int×Int×(List (Int×Int))×Int×Int)×Int×Int×Int×(Int×Int×Int×Int×Bool))):Nat->Int->(List (Int×Int×Int×(List (Int×Int))×Int×Int))->(List (Int×Int×Int×Int×Bool))->Option (Sum Unit Bool)|0,_,_,_=>none|n+1,ab,ae,s370=>bif decide (ab<(r330.length:Int))then((A7 r330 ab).bind λ(af,(bl,bj,bi,bh,bg,bf),be,bb,ba,(az,ay,aw,av,au))=>(CZ N ae s370 af bl bj bi bh bg bf be bb ba az ay aw av au).bind λ((ah,r388),bu)=>(MX N ae s370 af bl bj bi bh bg bf be bb ba az ay aw av au).bind λ(r391,an)=>bif decide (bu≠0)then(bif an then(some (.inr false))else(gd (Af (ab+1))<|AaI N r330 n (ab+1) ae s370))else(bif (an !=(((decide (af≠3))&&(decide (af≠5)))&&((decide (af≠2))||(decide ((r388.length:Int)=(s370.length:Int))))))then(some (.inr false))else(bif an then((Hb N ah r388 r391).bind λ((bo,bn),am,bm)=>gd ((!(((decide (bm≠0))||(decide (am≠(r391.length:Int))))||(decide (am=0))))=true->((CG N bo bn ae s370).isSome=true))<|bif (((decide (bm≠0))||(decide (am≠(r391.length:Int))))||(decide (am=0)))||(!((CG N bo bn ae s370).getD false))then(some (.inr false))else(gd (Af (ab+1))<|AaI N r330 n (ab+1) ah r388))else(gd (Af (ab+1))<|AaI N r330 n (ab+1) ah r388))))else(some (.inl ()))
def Ade(N:Nat)(ak:List (Int×Int×Int×Int×Int×Int))(aj:List (Int×Int×Int×Int))(ai:List (Int×Int×Int×Int×Int×Int)):Option Bool:=(H5 N).bind λbv=>bif !bv then(some false)else((Dp N ak aj ai).bind λ(bq,bp)=>(GA N ak aj ai).bind λ(r330,cn)=>(AaI N r330 N 0 bq bp).bind λbr=>match br with|.inl ()=>(some true)|.inr ck=>(some ck))
theorem Adq(N:Nat)(ak:List (Int×Int×Int×Int×Int×Int))(aj:List (Int×Int×Int×Int))(ai:List (Int×Int×Int×Int×Int×Int))(r:Bool)(h:Ade N ak aj ai=some r):PCall Tryz.prog 5 [.agg [GS ak,Ov aj,GS ai]] (.b r):=by
 refine wx x5 (Ab (Acu N)<|Ab (ZI N)<|Ab (Aco N)<|Ab (MW N)<|Ab (AcO N)<|Ab (pY N)<|Ab (oC N)<|Aj) λ_ hS F=>?_
 dsimp only[x5,Ah];unfold Ade at h;obtain⟨bv,ci,h⟩:=un h;replace F:=fc ci F;refine An hS F h (λ_ h=>?_) (λ_ h=>?_)
 ·exact Ai hS F h
 ·obtain⟨⟨bq,bp⟩,ce,h⟩:=un h;obtain⟨⟨r330,cn⟩,b9,h⟩:=un h;replace F:=fc b9 (fc ce F);obtain⟨br,cq,h⟩:=un h;refine go hS F ?_;refine Bz br (λz:Nat=>⟨[],[],z⟩) (λz=>(.inl ():Sum Unit Bool)) (.x 0) ?_ ?_
  ·refine Bp (λn (y:Int×(List (Int×Int×Int×(List (Int×Int))×Int×Int))×(List (Int×Int×Int×Int×Bool))×Nat)=>AaI N r330 n y.1 y.2.1 y.2.2.1) (λy=>⟨[(3,.box (302,3) 0),(4,Ay r330),(6,.i y.1)],[(.c (302,3) 0,Ap y.2.1),(.c (302,3) 1,AS y.2.2.1)],y.2.2.2⟩) (0,bq,bp,5) cq (Ch F) ?_;rintro n ⟨ab,ae,s370,aq⟩ aa;simp only[AaI]at aa;refine An hS F aa (λ_ aa=>?_) (λ_ aa=>?_)
   ·obtain⟨⟨af,⟨bl,bj,bi,bh,bg,bf⟩,be,bb,ba,⟨az,ay,aw,av,au⟩⟩,cj,aa⟩:=un aa;obtain⟨co,F⟩:=Cb AB cj F;obtain⟨⟨⟨ah,r388⟩,bu⟩,b7,aa⟩:=un aa;obtain⟨⟨r391,an⟩,bz,aa⟩:=un aa;replace F:=fc bz (fc b7 F);refine An hS F aa (λ_ aa=>?_) (λ_ aa=>?_)
    ·refine An hS F aa (λ_ aa=>?_) (λ_ aa=>?_)
     ·obtain rfl:=yJ aa;exact Ai hS F h
     ·obtain⟨da,aa⟩:=un aa;exact Cd hS F (n,ab+1,ae,s370,aq+1+1+1+1+1+1) aa
    ·refine An hS F aa (λ_ aa=>?_) (λ_ aa=>?_)
     ·obtain rfl:=yJ aa;exact Ai hS F h
     ·refine An hS F aa (λ_ aa=>?_) (λ_ aa=>?_)
      ·obtain⟨⟨⟨bo,bn⟩,am,bm⟩,bw,aa⟩:=un aa;obtain⟨cz,aa⟩:=un aa;replace F:=fc bw F;refine An hS F aa (λ_ aa=>?_) (λ_ aa=>?_)
       ·obtain rfl:=yJ aa;exact Ai hS F h
       ·obtain⟨cy,aa⟩:=un aa;exact Cd hS F (n,ab+1,ah,r388,aq+1+1+1+1+1+1+1+1+1+1) aa
      ·obtain⟨cu,aa⟩:=un aa;exact Cd hS F (n,ab+1,ah,r388,aq+1+1+1+1+1+1+1+1) aa
   ·exact B4 hS F (aq+1) aa
  ·rintro cr rfl;exact Ai hS F h
end
theorem AfN{f:List Un}{u:Un}(h:Fit f u):EZ (Gm f u) u.1=f:=by have e:=h.hf.cut u.1;unfold EZ Gm;rw[DV,List.filter_cons,dY (by simp),<-DV,e,Lg];intro v hv;exact aB (h.hi v hv)
theorem AfO{f:List Un}(h:FV f){u:Un}(hu:u∈f):Gm (EZ f u.1) u=f:=by
 obtain⟨i,hi,rfl⟩:=Lm hu;obtain⟨r,p⟩:=h.pos (A2 f i).1;have hr:r=i:=by
  have h1:r<=i:=by
   by_cases c:r<=i
   ·exact c
   ·have:=p.lo i (by omega);omega
  by_cases c:r=i
  ·exact c
  ·have:=p.hi r (kC _) (by omega);have:=Lo.1 h.srt r i (by omega) hi;omega
 subst hr;have e1:Of (EZ f (A2 f r).1) (A2 f r).1=Of f (A2 f r).1:=by unfold Of EZ;rw[List.filter_filter];exact List.filter_congr λv hv=>by rw[Jh,oL,bK,bK];omega
 have e2:Ro f (A2 f r).1=A2 f r::Ro (EZ f (A2 f r).1) (A2 f r).1:=by
  have hd:Ro f (A2 f r).1=A2 f r::f.drop (r+1):=by rw[<-p.split.2,qI hi,Fb hi]
  rw[hd];congr 1;have hg:Ro (EZ f (A2 f r).1) (A2 f r).1=(Ro f (A2 f r).1).filter λv=>decide (v.1≠(A2 f r).1):=by unfold Ro EZ;rw[List.filter_filter,List.filter_filter];exact List.filter_congr λv hv=>Bool.and_comm _ _
  rw[hg,hd,List.filter_cons,dY (by simp)];refine(Lg.2 λv hv=>?_).symm;obtain⟨k,hk,rfl⟩:=List.mem_drop_iff_getElem.1 hv;have:=Lo.1 h.srt r (k+(r+1)) (by omega) (by omega);rw[Fb (show k+(r+1)<f.length by omega)]at this;simp only[HK (r+1) k];rw[bK];omega
 unfold Gm;rw[e1];exact(congrArg (Of f (A2 f r).1++·) e2.symm).trans (h.cut _)
theorem AfP{f:List Un}(h:FV f){u:Un}(hu:u∈f):Fit (EZ f u.1) u:=by
 refine⟨h.sub List.filter_sublist,h.val u hu,?_,λv hv=>by have:=(vE.1 hv).2;simpa using this,λv hv=>?_⟩
 ·have hl:=h.len;have:(EZ f u.1).length<f.length:=by unfold EZ;refine List.length_filter_lt_length_iff_exists.2 ⟨u,hu,by simp⟩
  omega
 ·obtain⟨hv1,hv2⟩:=vE.1 hv;rw[bK]at hv2;obtain⟨i,hi,rfl⟩:=Lm hu;obtain⟨k,hk,rfl⟩:=Lm hv1;by_cases c:i<k
  ·exact Lo.1 h.dis i k c hk
  ·have:k≠i:=λe=>hv2 (by rw[e])
   rw[Pn];exact Lo.1 h.dis k i (by omega) hi
open Classical in
noncomputable def Adn(s:F8)(a:Ac):List Ac×Bool:=match Ig s a with|none=>([],false)|some _=>if a.1=1 then([(2,PE,a.2.1.1,0,0,Xg)],true)else if a.1=2 then(match s.1.find? (λu=>decide (u.1=a.2.2.1))with|some u=>if∃m∈s.2,m.2.1=a.2.2.1 then([],false)else([(1,u,0,0,0,Xg)],true)|none=>([],false))else if a.1=4 then([(4,PE,a.2.2.1,-a.2.2.2.1,-a.2.2.2.2.1,Xg)],true)else if a.1=6 then([(7,PE,a.2.2.1,0,0,Xg)],true)else if a.1=7 then([(6,PE,a.2.2.1,0,0,Xg)],true)else([],false)
section
variable{N:Nat}(hN:1001<=N)(h9:N<=100000)
include hN h9
variable(a b c p q id i k m1 m2 m3 m4:Int)(l:List Pt)(o:Bool)
omit hN in
open Classical in
theorem Agv(hN:1001<=N){ms:List Mk}(hl:ms.length<=1000)(n:Int):CC N ms n a b c l p q id i k m1 m2 m3 m4 o=some (decide (∃m∈ms,m.2.1=id)):=by
 unfold CC DU;have F:=YZ (N:=N) (L:=CB N ms n a b c l p q id i k m1 m2 m3 m4 o) (ms:=ms) (λm=>decide (m.2.1=id)) (by omega) (λn k hk e=>by
   rw[CB,Dq hk,cT,E7 hk,bS];simp only;rw[Lf,bS,e,cF,Ae (by unfold Af;omega),ns]) (λn k hk e=>by
   rw[CB,Dq hk,cT,E7 hk,bS];simp only;rw[Lf,bS,e,cT]) (λn=>by rw[CB,F2,cF])
 rcases F with⟨e,h⟩|⟨k,hk,h1,h2,e⟩
 ·rw[e,bS];simp only;rw[bS,bJ (p:=∃m∈ms,m.2.1=id) (by rintro⟨m,hm,e⟩;have:=h m hm;simp[e]at this)];rfl
 ·rw[e,bS];simp only;rw[bS,aB (p:=∃m∈ms,m.2.1=id) ⟨_,J5 hk,of_decide_eq_true h1⟩,aB (by omega)]
theorem Ahd{f:List Un}{ms:List Mk}(h:SV f ms)(n:Int):MX N f ms n a b c l p q id i k m1 m2 m3 m4 o=some (Adn (f,ms) (n,(a,b,c,l,p,q),id,i,k,(m1,m2,m3,m4,o))):=by
 have ml:ms.length<=20:=h.2.len;have S:=AgW hN h9 (f:=f) (ms:=ms);unfold MX;split
 ·subst n;unfold Mu Adn;rw[S _ _ _ _ _ _ _ _ _ _ _ _ _ _ (by omega),bS];cases e:Ig (f,ms) (1,(a,b,c,l,p,q),id,i,k,(m1,m2,m3,m4,o))with
  |none=>simp only[IM];rw[AU _ (by simp)]
  |some t=>have fa:=(Vj e).2.1;simp only[IM];rw[A1 _ (by simp),Z3 hN,bS];rw[XP hN h.1 (by omega),bS];rfl
 split
 ·subst n;unfold Mv Adn;rw[S _ _ _ _ _ _ _ _ _ _ _ _ _ _ (by omega),bS];cases e:Ig (f,ms) (2,(a,b,c,l,p,q),id,i,k,(m1,m2,m3,m4,o))with
  |none=>simp only[IM];rw[AU _ (by simp)]
  |some t=>
   have fa:=(Vj e).2.1;simp only[IM];rw[A1 _ (by simp),Z4 hN,bS];rw[XP hN h.1 (by omega),bS];simp only;unfold N2;rw[Agv h9 _ _ _ _ _ _ _ _ _ _ _ _ _ _ hN (by omega),bS];have e2:=(Vj e).2.2.1;rw[Abr]at e2;split at e2
   ·rename_i g;rcases OJ h.1 id with⟨_,_,t⟩|⟨u,hu,t,q1,q2⟩
    ·exact(t g).elim
    ·rw[q1];by_cases hm:∃m∈ms,m.2.1=id
     ·rw[aB hm,cT,bS];simp[hm]
     ·rw[bJ hm,cF,AcH hN,q2];simp only;rw[bS];simp[hm,Xg]
   ·cases e2
 split
 ·subst n;unfold Mw Adn;rw[S _ _ _ _ _ _ _ _ _ _ _ _ _ _ (by omega),bS];cases e:Ig (f,ms) (3,(a,b,c,l,p,q),id,i,k,(m1,m2,m3,m4,o))with
  |none=>simp only[IM];rw[AU _ (by simp)]
  |some t=>have fa:=(Vj e).2.1;simp only[IM];rw[A1 _ (by simp),Z5 hN,bS];rfl
 split
 ·subst n;unfold Mx Adn;rw[S _ _ _ _ _ _ _ _ _ _ _ _ _ _ (by omega),bS];cases e:Ig (f,ms) (4,(a,b,c,l,p,q),id,i,k,(m1,m2,m3,m4,o))with
  |none=>simp only[IM];rw[AU _ (by simp)]
  |some t=>
   have fa:=(Vj e).2.1;simp only[IM];rw[A1 _ (by simp),Z6 hN,bS];have fb:=qC.1 fa;rw[XP hN h.1 (by omega),bS]
   (try simp only)
   rw[Ae (by unfold Af;omega),Ae (by unfold Af;omega)];rfl
 split
 ·subst n;unfold My Adn;rw[S _ _ _ _ _ _ _ _ _ _ _ _ _ _ (by omega),bS];cases e:Ig (f,ms) (5,(a,b,c,l,p,q),id,i,k,(m1,m2,m3,m4,o))with
  |none=>simp only[IM];rw[AU _ (by simp)]
  |some t=>have fa:=(Vj e).2.1;simp only[IM];rw[A1 _ (by simp),Z7 hN,bS];rfl
 split
 ·subst n;unfold Mz Adn;rw[S _ _ _ _ _ _ _ _ _ _ _ _ _ _ (by omega),bS];cases e:Ig (f,ms) (6,(a,b,c,l,p,q),id,i,k,(m1,m2,m3,m4,o))with
  |none=>simp only[IM];rw[AU _ (by simp)]
  |some t=>have fa:=(Vj e).2.1;simp only[IM];rw[A1 _ (by simp),Z8 hN,bS];rw[XP hN h.1 (by omega),bS];rfl
 split
 ·subst n;unfold MA Adn;rw[S _ _ _ _ _ _ _ _ _ _ _ _ _ _ (by omega),bS];cases e:Ig (f,ms) (7,(a,b,c,l,p,q),id,i,k,(m1,m2,m3,m4,o))with
  |none=>simp only[IM];rw[AU _ (by simp)]
  |some t=>have fa:=(Vj e).2.1;simp only[IM];rw[A1 _ (by simp),Z9 hN,bS];rw[XP hN h.1 (by omega),bS];rfl
 unfold MB Adn;have hh:¬FA (n,(a,b,c,l,p,q),id,i,k,(m1,m2,m3,m4,o)):=fM (by omega);rw[S _ _ _ _ _ _ _ _ _ _ _ _ _ _ (by omega),bS,Mm hh];simp only[IM];rw[AU _ (by simp)]
end
theorem Afp(d p:Pt):mv (-d.1,-d.2) (mv d p)=p:=by unfold mv;simp only;exact IE (by simp only;omega) (by simp only;omega)
theorem Af3(d:Pt)(u:Un):S5 (-d.1,-d.2) (S5 d u)=u:=by
 unfold S5;simp only[List.map_map];have:(mv (-d.1,-d.2)∘mv d)=id:=funext λp=>Afp d p
 rw[this,List.map_id]
theorem AfA{f:List Un}{ms:List Mk}(h:MV f ms){id:Int}{b:Bool}(g:∃x∈ms,x.1=id/\x.2.2.2.2≠b):(ms.map (TF id b)).map (TF id (!b))=ms:=by
 obtain⟨x,hx,e1,e2⟩:=g;rw[List.map_map];refine(List.map_congr_left λy hy=>?_).trans (List.map_id ms);unfold TF;simp only[Function.comp];by_cases c:y.1=id
 ·have:=Afn h hx hy (e1.trans c.symm);subst this;rw[eG c,eG c];simp only[_root_.id];have:(!b)=x.2.2.2.2:=by cases b<;>cases hq:x.2.2.2.2<;>simp_all
  rw[this]
 ·rw[dY c,dY c];rfl
theorem Af4{s t:F8}{a:Ac}(e:Ig s a=some t):((Adn s a).2=true->C4 t (Adn s a).1=(1,some s)/\(Adn s a).1.length=1)/\((Adn s a).2=true↔a.1≠3/\a.1≠5/\(a.1≠2\/t.2.length=s.2.length)):=by
 obtain⟨hs,fa,e2,ht⟩:=Vj e;have one:∀b,Ig t b=some s->C4 t [b]=(1,some s):=λb h=>by rw[C4,h];rfl
 obtain⟨f,ms⟩:=s;unfold Adn;rw[e];cases fa with
 |build hu=>
  rename_i u;rw[Abq]at e2;split at e2
  ·rename_i ft;cases e2
   refine⟨λ_=>⟨one _ (AgX ht (.remove hu.a) ?_ hs.2),rfl⟩,by simp⟩;rw[Abr,eG ⟨u,kQ.2 (.inr rfl),rfl⟩,AfN ft,RX];intro m hm e;obtain⟨v,hv,e1,_⟩:=hs.2.on m hm;exact ft.hi v hv (e1.trans e)
  ·cases e2
 |remove hi=>
  rename_i id;rw[Abr]at e2;split at e2
  ·rename_i g;cases e2
   rcases OJ hs.1 id with⟨_,_,t⟩|⟨u,hu,rfl,q1,q2⟩
   ·exact(t g).elim
   ·have q1':f.find? (λu'=>decide (u'.1=u.1))=some u:=q1;simp only[q1'];rw[dY (by decide),eG trivial];by_cases hm:∃m∈ms,m.2.1=u.1
    ·rw[eG hm];refine⟨λh=>(by cases h),?_⟩;constructor
     ·intro h;cases h
     ·rintro⟨_,_,h|h⟩
      ·exact absurd rfl h
      ·rw[List.length_filter_eq_length_iff]at h;obtain⟨m,hm,e⟩:=hm;have:=h m hm;unfold I2 at this;rw[bK]at this;exact(this e).elim
    ·rw[dY hm];have fe:ms.filter (I2 u.1)=ms:=RX _ λm h1 h2=>hm ⟨m,h1,h2⟩
     refine⟨λ_=>⟨one _ (AgX ht (.build (hs.1.val u hu)) ?_ hs.2),rfl⟩,by simp[fe]⟩;rw[fe,Abq,eG (AfP hs.1 hu),AfO hs.1 hu]
  ·cases e2
 |cut h1 h2 h3 h4 h5 h6=>simp
 |move hi hx hy hd=>
  rename_i id x y;rw[Abt]at e2;split at e2
  ·cases e2
  ·rename_i u hu0;split at e2
   ·rename_i g;cases e2
    obtain⟨hu,rfl⟩:=(Adk hs.1).1 hu0;have fm:FA (4,PE,u.1,-x,-y,Xg):=.move hi (by omega) (by omega) (by omega);refine⟨λ_=>⟨one _ (AgX ht fm ?_ hs.2),rfl⟩,by simp⟩;have hf:(Gm (EZ f u.1) (S5 (x,y) u)).find? (λv=>decide (v.1=u.1))=some (S5 (x,y) u):=(Adk ht.1).2 ⟨kQ.2 (.inr rfl),rfl⟩;have hr:EZ (Gm (EZ f u.1) (S5 (x,y) u)) u.1=EZ f u.1:=AfN g.2;have hb:=Af3 (x,y) u;simp only at hb;rw[Abt,hf];simp only;rw[hr,hb,eG,AfO hs.1 hu];refine⟨λp hp=>?_,AfP hs.1 hu⟩;unfold S5 at hp;obtain⟨p',hp',rfl⟩:=tH.1 hp;have:=Afp (x,y) p';simp only at this;rw[this];exact(hs.1.val u hu).l.on p' hp'
   ·cases e2
 |mark hm=>simp
 |close hi=>
  rename_i id;rw[Abv]at e2;split at e2
  ·rename_i g;cases e2
   refine⟨λ_=>⟨one _ (AgX ht (.opn hi) ?_ hs.2),rfl⟩,by simp⟩;have sb:=AfA hs.2 g;rw[IF]at sb;rw[Abw,eG,sb];obtain⟨x,hx,e1,_⟩:=g;exact⟨TF id false x,tH.2 ⟨x,hx,rfl⟩,(Afr _ _ _).1.trans e1,by unfold TF;rw[eG e1];simp⟩
  ·cases e2
 |opn hi=>
  rename_i id;rw[Abw]at e2;split at e2
  ·rename_i g;cases e2
   refine⟨λ_=>⟨one _ (AgX ht (.close hi) ?_ hs.2),rfl⟩,by simp⟩;have sb:=AfA hs.2 g;rw[JA]at sb;rw[Abv,eG,sb];obtain⟨x,hx,e1,_⟩:=g;exact⟨TF id true x,tH.2 ⟨x,hx,rfl⟩,(Afr _ _ _).1.trans e1,by unfold TF;rw[eG e1];simp⟩
  ·cases e2
theorem Af5{s:F8}{a:Ac}(e:Ig s a=none):Adn s a=([],false):=by unfold Adn;rw[e]
section
variable{N:Nat}(hN:1001<=N)(h9:N<=100000)
include hN h9
theorem Af6(x1 k:Int)(t s:F8)(u:List Ac×Bool)(R:Option (Sum Unit Bool))(h:SV s.1 s.2)(ht:SV t.1 t.2)(u1:u.2=true->C4 t u.1=(1,some s)/\u.1.length=1)(u2:u.2=true↔x1≠3/\x1≠5/\(x1≠2\/t.2.length=s.2.length)):(bif (u.2 !=(((decide (x1≠3))&&(decide (x1≠5)))&&((decide (x1≠2))||(decide ((t.2.length:Int)=(s.2.length:Int))))))then some (.inr false)else(bif u.2 then((Hb N t.1 t.2 u.1).bind λ((r399,r400),r401,r402)=>gd ((!(((decide (r402≠0))||(decide (r401≠(u.1.length:Int))))||(decide (r401=0))))=true->((CG N r399 r400 s.1 s.2).isSome=true))<|bif (((decide (r402≠0))||(decide (r401≠(u.1.length:Int))))||(decide (r401=0)))||(!((CG N r399 r400 s.1 s.2).getD false))then some (.inr false)else gd (Af (k+1)) R)else gd (Af (k+1)) R))=gd (Af (k+1)) R:=by
 have e3:u.2=(((decide (x1≠3))&&(decide (x1≠5)))&&((decide (x1≠2))||(decide ((t.2.length:Int)=(s.2.length:Int))))):=by rw[Jh,u2];simp only[oL,tU,bK,and_assoc];rw[show((t.2.length:Int)=(s.2.length:Int))↔t.2.length=s.2.length by omega]
 rw[<-e3,A1 _ (by simp)];by_cases c:u.2=true
 ·obtain⟨r1,r2⟩:=u1 c;rw[c,cT,AbB hN h9 ht (by omega),r1,show If (1,some s)=(s,((1:Nat):Int),0)from rfl,bS]
  (try simp only)
  rw[fU hN h9 h s,BR (λ_=>nK),qZ,A1 _ (by simp[r2])]
 ·rw[w5.2 c,cF]
theorem AfB{l:List Ac}:∀n k (s:F8),k<=l.length->l.length<n+k->l.length<=1000->SV s.1 s.2->AaI N l n (k:Nat) s.1 s.2=some (.inl ())
 |0,k,s,h1,h2,_,_=>by omega
 |n+1,k,s,h1,h2,h3,h=>by
  rw[AaI];by_cases e:k<l.length
  ·rw[Dq e,cT,Ac4 e,bS];generalize l[k]=x;obtain⟨x1,⟨x2,x3,x4,x5,x6,x7⟩,x8,x9,x10,⟨eI,x12,x13,rI,Ud⟩⟩:=x;obtain⟨f,ms⟩:=s;have ml:ms.length<=20:=h.2.len;simp only;rw[AgW hN h9 _ _ _ _ _ _ _ _ _ _ _ _ _ _ (by omega),bS]
   (try simp only)
   rw[Ahd hN h9 _ _ _ _ _ _ _ _ _ _ _ _ _ _ h,bS];cases c:Ig (f,ms) (x1,(x2,x3,x4,x5,x6,x7),x8,x9,x10,eI,x12,x13,rI,Ud)with
   |none=>rw[Af5 c];simp only[IM];rw[AU _ (by simp),cF,Ae (by unfold Af;omega),<-ns];exact AfB n (k+1) (f,ms) (by omega) (by omega) h3 h
   |some t=>obtain⟨u1,u2⟩:=Af4 c;have ht:=(Vj c).2.2.2;simp only[IM];rw[A1 _ (by simp)];refine(Af6 hN h9 x1 (k:Int) t (f,ms) (Adn (f,ms) (x1,(x2,x3,x4,x5,x6,x7),x8,x9,x10,eI,x12,x13,rI,Ud)) _ h ht u1 u2).trans ?_;rw[Ae (by unfold Af;omega),<-ns];exact AfB n (k+1) t (by omega) (by omega) h3 ht
  ·have e3:k=l.length:=by omega
   subst e3;rw[F2,cF]
end
theorem AfV(x1:List (Int×Int×Int×Int×Int×Int))(x2:List (Int×Int×Int×Int))(x3:List (Int×Int×Int×Int×Int×Int))(h1:I6 x1)(h2:I4 x2)(h3:I6 x3):Ade 2000 x1 x2 x3=some true:=by
 have hN:1001<=2000:=by omega
 have h9:2000<=100000:=by omega
 obtain⟨f,ms,em,hs⟩:=AbA (N:=2000) hN x3 h1 h2;obtain⟨l,el,l8,fl⟩:=AbC (N:=2000) hN h9 h3 em hs;have u:=AfB (N:=2000) hN h9 (l:=l) 2000 0 (f,ms) (by omega) (by omega) (by omega) hs;rw[pA]at u;simp only at u;unfold Ade;rw[AbD,bS,A1 _ (by rfl),em,bS];simp only;rw[el,bS];simp only;rw[u,bS]
