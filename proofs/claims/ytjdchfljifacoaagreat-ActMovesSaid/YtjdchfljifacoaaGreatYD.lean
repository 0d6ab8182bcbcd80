import Derived.Test.YtjdchfljifacoaaGreatY7
set_option linter.all false
set_option maxRecDepth 100000
set_option maxHeartbeats 8000000
namespace Go.Proofs.YtjdchfljifacoaaGreat.Am
section
open Go
attribute [local irreducible] Ax BO BB Bj BC Bk AY BD BK Cq
end
section
section
variable{N:Nat}(hN:1001<=N)(h9:N<=100000)
include hN h9
variable(a b c p q id i k m1 m2 m3 m4:Int)(l:List Pt)(o:Bool)
end
theorem Afp(d p:Pt):mv (-d.1,-d.2) (mv d p)=p:=by unfold mv;simp only;exact Gb (by simp only;omega) (by simp only;omega)
section
variable{N:Nat}(hN:1001<=N)(h9:N<=100000)
include hN h9
end
end
section
open Go
attribute [local irreducible] Ax BO BB Bj BC Bk AY BD BK Cq
def Adj(N:Nat)(bq:List (Int×Int×Int×Int×Int×Int))(bp:List (Int×Int×Int×Int))(bo:List (Int×Int×Int×Int×Int×Int))(ai:Int)(ah:Int)(af:Int)(ae:Int)(ab:Int)(aa:Int)(ak:Int):Option Bool:=(H5 N).bind λdb=>bif !db then(some false)else((Dp N bq bp bo).bind λ(bb,ba)=>(F5 N bb ba ai ah af ae ab aa).bind λ(aj,(az,ay,aw,av,au,aq),bm,bl,bj,(bi,bh,bg,bf,be))=>(Gz N ak 41).bind λan=>gd (Af (an-20))<|(PD N bb (an-20) 0).bind λ(ck,da)=>bif decide (da≠0)then((Dw N bb ba).bind λcy=>some cy)else((bif decide (aj=1)then((FR N az ay aw av au aq (an-20) 0).bind λ((cj,ci,ce,b9,b7,bz),cu)=>bif decide (cu≠0)then(some (.inr true))else(some (.inl (cj,ci,ce,b9,b7,bz))))else(some (.inl (az,ay,aw,av,au,aq))):Option (Sum (Int×Int×Int×(List (Int×Int))×Int×Int) Bool)).bind λcn=>match cn with|.inl (ee,d9,d8,d7,d6,d5)=>((CZ N bb ba aj az ay aw av au aq bm bl bj bi bh bg bf be).bind λ((cr,bw),cq)=>(CZ N ck ba aj ee d9 d8 d7 d6 d5 bm bl bj bi bh bg bf be).bind λ((bu,bv),am)=>bif decide (cq≠0)then(some ((decide (am≠0))||(decide (aj=4))))else((PD N cr (an-20) 0).bind λ(br,co)=>bif decide (co≠0)then(some (decide (am≠0)))else(gd ((decide (am=0))=true->((Gy N bu br).isSome=true))<|gd (((decide (am=0))&&((Gy N bu br).getD false))=true->((D4 N bw bv).isSome=true))<|some (((decide (am=0))&&((Gy N bu br).getD false))&&((D4 N bw bv).getD false)))))|.inr eh=>(some eh)))
theorem Afd(N:Nat)(bq:List (Int×Int×Int×Int×Int×Int))(bp:List (Int×Int×Int×Int))(bo:List (Int×Int×Int×Int×Int×Int))(ai:Int)(ah:Int)(af:Int)(ae:Int)(ab:Int)(aa:Int)(ak:Int)(r:Bool)(h:Adj N bq bp bo ai ah af ae ab aa ak=some r):PCall Tryz.prog 9 [.agg [GS bq,Ov bp,GS bo],.agg [.i ai,.i ah,.i af,.i ae,.i ab,.i aa],.i ak] (.b r):=by
 refine wx x9 (Ab (Acu N)<|Ab (ZI N)<|Ab (oF N)<|Ab (Acj N)<|Ab (AgD N)<|Ab (ZG N)<|Ab (nQ N)<|Ab (MW N)<|Ab (Ab8 N)<|Ab (Aci N)<|Aj) λ_ hS F=>?_
 dsimp only[x9,Ah];unfold Adj at h;obtain⟨db,dz,h⟩:=un h;replace F:=fc dz F;refine An hS F h (λ_ h=>?_) (λ_ h=>?_)
 ·exact Ai hS F h
 ·obtain⟨⟨bb,ba⟩,dw,h⟩:=un h;obtain⟨⟨aj,⟨az,ay,aw,av,au,aq⟩,bm,bl,bj,⟨bi,bh,bg,bf,be⟩⟩,du,h⟩:=un h;obtain⟨an,dt,ez,⟨ck,da⟩,dq,h⟩:=un h;replace F:=fc dq (fc dt (fc du (fc dw F)));refine An hS F h (λ_ h=>?_) (λ_ h=>?_)
  ·obtain⟨cy,dm,h⟩:=un h;exact Ai hS (fc dm F) h
  ·obtain⟨cn,bn,h⟩:=un h;refine go hS F ?_;refine Bz cn (λz:Int×Int×Int×(List (Int×Int))×Int×Int×Nat=>⟨[(7,.box (302,3) 0),(8,.box (403,4) 0),(9,.i (an-20)),(10,.box (607,6) 0),(12,.box (901,8) 0)],[(.c (901,8) 0,.i aj),(.c (901,8) 1,.i z.1),(.c (901,8) 2,.i z.2.1),(.c (901,8) 3,.i z.2.2.1),(.c (901,8) 4,BP z.2.2.2.1),(.c (901,8) 5,.i z.2.2.2.2.1),(.c (901,8) 6,.i z.2.2.2.2.2.1),(.c (901,8) 7,.i bm),(.c (901,8) 8,.i bl),(.c (901,8) 9,.i bj),(.c (901,8) 10,.i bi),(.c (901,8) 11,.i bh),(.c (901,8) 12,.i bg),(.c (901,8) 13,.i bf),(.c (901,8) 14,.b be),(.c (607,6) 0,Ap ck),(.c (403,4) 0,.i aj),(.c (403,4) 1,.i az),(.c (403,4) 2,.i ay),(.c (403,4) 3,.i aw),(.c (403,4) 4,BP av),(.c (403,4) 5,.i au),(.c (403,4) 6,.i aq),(.c (403,4) 7,.i bm),(.c (403,4) 8,.i bl),(.c (403,4) 9,.i bj),(.c (403,4) 10,.i bi),(.c (403,4) 11,.i bh),(.c (403,4) 12,.i bg),(.c (403,4) 13,.i bf),(.c (403,4) 14,.b be),(.c (302,3) 0,Ap bb),(.c (302,3) 1,AS ba)],z.2.2.2.2.2.2⟩) (λz=>(.inl (z.1,z.2.1,z.2.2.1,z.2.2.2.1,z.2.2.2.2.1,z.2.2.2.2.2.1):Sum (Int×Int×Int×(List (Int×Int))×Int×Int) Bool)) .n ?_ ?_
   ·refine An hS F bn (λ_ bn=>?_) (λ_ bn=>?_)
    ·obtain⟨⟨⟨cj,ci,ce,b9,b7,bz⟩,cu⟩,dl,bn⟩:=un bn;replace F:=fc dl F;refine An hS F bn (λ_ bn=>?_) (λ_ bn=>?_)
     ·obtain rfl:=yJ bn;exact Ai hS F h
     ·exact B4 hS F (cj,ci,ce,b9,b7,bz,12) bn
    ·exact B4 hS F (az,ay,aw,av,au,aq,9) bn
   ·rintro⟨ee,d9,d8,d7,d6,d5,ei⟩ rfl;obtain⟨⟨⟨cr,bw⟩,cq⟩,dh,h⟩:=un h;obtain⟨⟨⟨bu,bv⟩,am⟩,dg,h⟩:=un h;replace F:=fc dg (fc dh F);refine An hS F h (λ_ h=>?_) (λ_ h=>?_)
    ·exact Ai hS F h
    ·obtain⟨⟨br,co⟩,de,h⟩:=un h;replace F:=fc de F;refine An hS F h (λ_ h=>?_) (λ_ h=>?_)
     ·exact Ai hS F h
     ·obtain⟨eu,ej,h⟩:=un h;exact Ai hS F h
end
open Classical in
theorem AfC{N:Nat}(hN:1001<=N){f:List Un}(h:FV f){d:Pt}(hd:Qg d):∀n i (l:List Un),i<=f.length->f.length<n+i->l.length<=i->IF N f d.1 d.2 n (i:Nat) l=some (if∀u∈f.drop i,Xk d u then .inl (l++(f.drop i).map (S5 d))else .inr ([],120))
 |0,i,l,h1,h2,_=>by omega
 |n+1,i,l,h1,h2,h3=>by
  have hl:=h.len;rw[IF];by_cases e:i=f.length
  ·subst e;rw[F2,cF,uO,fU (by simp)];simp
  ·have hi:i<f.length:=by omega
   rw[Dq hi,cT,Fs hi,bS];simp only;rw[qE (by omega) (h.val _ (FH hi)) hd,pA hi,<-Fb hi];by_cases c:Xk d (A2 f i)
   ·rw[fU c,bS];simp only[S5];rw[A1 _ (by rfl),Ae (by omega),Ae (by unfold Af;omega),<-ns,AfC hN h hd n (i+1) _ (by omega) (by omega) (by simp;omega)];congr 1;by_cases g:∀u∈f.drop (i+1),Xk d u
    ·rw[fU g,fU (λu hu=>by rcases oH.1 hu with rfl|hu;exact c;exact g u hu),sG];rfl
    ·rw[eG g,eG λq=>g λu hu=>q u (tK _ hu)]
   ·rw[eG c,bS];simp only[PE];rw[AU _ (by rfl),eG λq=>c (q _ List.mem_cons_self)]
open Classical in
theorem Agf{N:Nat}(hN:1001<=N){f:List Un}(h:FV f){d:Pt}(hd:Qg d):PD N f d.1 d.2=some (if∀u∈f,Xk d u then(f.map (S5 d),0)else([],120)):=by
 have hl:=h.len;have L:=AfC hN h hd N 0 [] (by omega) (by omega) (by simp);rw[oL,t7,rA]at L;unfold PD;rw[ZU hN,bS,aB h,A1 _ (by rfl),L,bS];by_cases g:∀u∈f,Xk d u
 ·rw[fU g,fU g]
 ·rw[eG g,eG g]
theorem Afk{d:Pt}{u:Un}(h:UV u)(ho:Xk d u):UV (S5 d u):=⟨h.a,h.b,h.c,h.d,AcE d h.l ho⟩
theorem AfZ{d:Pt}{f:List Un}(h:FV f)(ho:∀u∈f,Xk d u):FV (f.map (S5 d)):=by
 refine⟨by rw[rC];exact h.len,λu hu=>?_,?_,?_⟩
 ·obtain⟨v,hv,rfl⟩:=tH.1 hu;exact Afk (h.val v hv) (ho v hv)
 ·rw[List.pairwise_map];exact h.srt
 ·rw[List.pairwise_map];refine h.dis.imp_of_mem λ{u v} hu hv e=>?_
  rw[u0]at e⊢;intro q;obtain⟨⟨q1,q2,q3⟩,q4⟩:=oU.1 q;exact e (oU.2 ⟨⟨q1,h.val u hu,h.val v hv⟩,λa=>q4 ((Aez d _ _).2 a)⟩)
theorem Af0(d:Pt){l:List Pt}(hl:0<l.length)(i m:Nat):Dc (l.map (mv d)) i m=(Dc l i m).map (mv d):=by
 unfold Dc;rw[List.map_map];refine List.map_congr_left λt _=>?_
 unfold qa;simp only[Function.comp];rw[rC,H6 (t6 _ hl)]
theorem AfQ{l:List Pt}(hl:0<l.length){i m:Nat}{p:Pt}(h:p∈Dc l i m):p∈l:=by unfold Dc at h;obtain⟨t,_,rfl⟩:=tH.1 h;unfold qa;exact Bo (t6 _ hl)
theorem Agi(d:Pt){l:List Pt}(hl:0<l.length)(i k:Int):Ka (l.map (mv d)) i k=((Ka l i k).1.map (mv d),(Ka l i k).2.1.map (mv d),(Ka l i k).2.2):=by
 unfold Ka;rw[rC];split
 ·unfold Tq;rw[rC];split
  ·rfl
  ·rw[Af0 d hl,Af0 d hl]
 ·rfl
theorem Af7{l:List Pt}(hl:0<l.length){i k:Int}:(∀p∈(Ka l i k).1,p∈l)/\∀p∈(Ka l i k).2.1,p∈l:=by
 unfold Ka;split
 ·unfold Tq;split
  ·simp
  ·exact⟨λp h=>AfQ hl h,λp h=>AfQ hl h⟩
 ·simp
section
variable{d:Pt}
theorem Afv(f:List Un)(t:Int):EZ (f.map (S5 d)) t=(EZ f t).map (S5 d):=by unfold EZ;rw[List.filter_map];rfl
theorem Afo(f:List Un)(u:Un):Gm (f.map (S5 d)) (S5 d u)=(Gm f u).map (S5 d):=by unfold Gm Of Ro;rw[vE,iW,List.filter_map,List.filter_map];rfl
theorem Ahe{u:Un}(ho:∀p∈u.2.2.2.1,On p)(ok:Xk d u):UV (S5 d u)↔UV u:=by
 refine⟨λh=>?_,λh=>Afk h ok⟩;refine⟨h.a,h.b,h.c,h.d,?_⟩;have:=AcE (-d.1,-d.2) h.l λp hp=>by unfold S5 at hp;obtain⟨p',hp',rfl⟩:=tH.1 hp;rw[Afp];exact ho p' hp'
 have e:((S5 d u).2.2.2.1).map (mv (-d.1,-d.2))=u.2.2.2.1:=Ae5 d _;rw[e]at this;exact this
theorem Agg{u v:Un}(hu:UV u)(hv:UV v)(ou:Xk d u)(ov:Xk d v):Hv (S5 d u) (S5 d v)=Hv u v:=by
 rw[Gv,oU,oU];constructor
 ·rintro⟨⟨q1,q2,q3⟩,q4⟩;exact⟨⟨q1,hu,hv⟩,λa=>q4 ((Aez d _ _).2 a)⟩
 ·rintro⟨⟨q1,q2,q3⟩,q4⟩;exact⟨⟨q1,Afk hu ou,Afk hv ov⟩,λa=>q4 ((Aez d _ _).1 a)⟩
theorem Afl{f:List Un}(hf:FV f)(of:∀u∈f,Xk d u){u:Un}(ho:∀p∈u.2.2.2.1,On p)(ok:Xk d u):Fit (f.map (S5 d)) (S5 d u)↔Fit f u:=by
 constructor
 ·intro h;have hu:=(Ahe ho ok).1 h.hu;refine⟨hf,hu,by have:=h.hl;rwa [rC]at this,λv hv=>h.hi (S5 d v) (tH.2 ⟨v,hv,rfl⟩),λv hv=>?_⟩;have:=h.ho _ (tH.2 ⟨v,hv,rfl⟩)
  rwa [Agg hu (hf.val v hv) ok (of v hv)]at this
 ·intro h;refine⟨AfZ hf of,Afk h.hu ok,by rw[rC];exact h.hl,λw hw=>?_,λw hw=>?_⟩
  ·obtain⟨v,hv,rfl⟩:=tH.1 hw;exact h.hi v hv
  ·obtain⟨v,hv,rfl⟩:=tH.1 hw;rw[Agg h.hu (hf.val v hv) ok (of v hv)];exact h.ho v hv
theorem Agh(f:List Un)(m:Mk):(∃u∈f.map (S5 d),u.1=m.2.1/\m.2.2.1<(u.2.2.2.1.length:Int))↔∃u∈f,u.1=m.2.1/\m.2.2.1<(u.2.2.2.1.length:Int):=by
 constructor
 ·rintro⟨w,hw,h1,h2⟩;obtain⟨v,hv,rfl⟩:=tH.1 hw;refine⟨v,hv,h1,?_⟩;have e:(S5 d v).2.2.2.1.length=v.2.2.2.1.length:=rC _
  rwa [e]at h2
 ·rintro⟨v,hv,h1,h2⟩;refine⟨S5 d v,tH.2 ⟨v,hv,rfl⟩,h1,?_⟩;have e:(S5 d v).2.2.2.1.length=v.2.2.2.1.length:=rC _
  rwa [e]
theorem mvm(f:List Un)(ms:List Mk):MV (f.map (S5 d)) ms↔MV f ms:=⟨λh=>⟨h.len,h.ok,λm hm=>(Agh f m).1 (h.on m hm),h.srt⟩,λh=>⟨h.len,h.ok,λm hm=>(Agh f m).2 (h.on m hm),h.srt⟩⟩
theorem AfR(f:List Un)(t:Int):(f.map (S5 d)).find? (λu=>decide (u.1=t))=(f.find? (λu=>decide (u.1=t))).map (S5 d):=by rw[List.find?_map];rfl
theorem AfS(d e:Pt)(u:Un):S5 e (S5 d u)=S5 d (S5 e u):=by
 unfold S5;simp only[List.map_map];have:mv e∘mv d=mv d∘mv e:=funext λp=>by unfold mv;simp only[Function.comp];exact Gb (by simp only;omega) (by simp only;omega)
 rw[this]
def mvA(d:Pt)(a:Ac):Ac:=(a.1,if a.1=1 then S5 d a.2.1 else a.2.1,a.2.2)
theorem Afh{f:List Un}{u:Un}:(∀v∈Gm f u,Xk d v)↔(∀v∈f,Xk d v)/\Xk d u:=by simp only[kQ];exact⟨λh=>⟨λv hv=>h v (.inl hv),h u (.inr rfl)⟩,λh v hv=>by rcases hv with hv|rfl;exact h.1 v hv;exact h.2⟩
theorem Afw{f:List Un}(h:∀v∈f,Xk d v)(t:Int):∀v∈EZ f t,Xk d v:=λv hv=>h v (Afm.1 hv).1
theorem Aha{f:List Un}{ms:List Mk}{a:Ac}(hf:FV f)(of:∀u∈f,Xk d u)(fa:FA a)(oa:a.1=1->Xk d a.2.1):match It (f,ms) a with
  |none=>It (f.map (S5 d),ms) (mvA d a)=none\/a.1=4
  |some p=>if∀u∈p.1,Xk d u then It (f.map (S5 d),ms) (mvA d a)=some (p.1.map (S5 d),p.2)else It (f.map (S5 d),ms) (mvA d a)=none:=by
 unfold mvA;cases fa with
 |build hu=>
  rename_i u;have ou:=oa rfl;simp only;rw[fU trivial,Abq,Abq];by_cases c:Fit f u
  ·rw[fU c];simp only;rw[fU (Afh.2 ⟨of,ou⟩),fU ((Afl hf of hu.l.on ou).2 c),Afo]
  ·rw[eG c];simp only;rw[eG λw=>c ((Afl hf of hu.l.on ou).1 w)];exact .inl rfl
 |remove hi=>
  rename_i id;simp only;rw[eG (by decide),Abr,Abr];have e:(∃u∈f.map (S5 d),u.1=id)↔∃u∈f,u.1=id:=⟨λ⟨w,hw,h⟩=>by obtain⟨v,hv,rfl⟩:=tH.1 hw;exact⟨v,hv,h⟩,λ⟨v,hv,h⟩=>⟨S5 d v,tH.2 ⟨v,hv,rfl⟩,h⟩⟩
  by_cases c:∃u∈f,u.1=id
  ·rw[fU c,fU (e.2 c)];simp only;rw[fU (Afw of id),Afv]
  ·rw[eG c,eG λw=>c (e.1 w)];exact .inl rfl
 |cut h1 h2 h3 h4 h5 h6=>
  rename_i id i k j;simp only;rw[eG (by decide),Abs,Abs,AfR];rcases OJ hf id with⟨q,_,_⟩|⟨u,hu,rfl,q,_⟩
  ·rw[q];exact .inl rfl
  ·have q':f.find? (λv=>decide (v.1=u.1))=some u:=q;rw[q'];simp only[t5];have vp:=(hf.val u hu).l;have l0:0<u.2.2.2.1.length:=by have:=vp.l3;omega
   have cz:Ka (S5 d u).2.2.2.1 i k=_:=Agi d l0 i k;rw[cz];have sb:=Af7 l0 (i:=i) (k:=k);generalize Ka u.2.2.2.1 i k=z at sb⊢;obtain⟨z1,z2,z3⟩:=z;simp only at sb⊢;have e1:Ia (S5 d u) (z1.map (mv d))=S5 d (Ia u z1):=rfl;have e2:Ps (Ia (S5 d u) (z2.map (mv d))) j=S5 d (Ps (Ia u z2) j):=rfl;have o1:Xk d (Ia u z1):=λp hp=>of u hu p (sb.1 p hp)
   have o2:Xk d (Ps (Ia u z2) j):=λp hp=>of u hu p (sb.2 p hp)
   have n1:∀p∈(Ia u z1).2.2.2.1,On p:=λp hp=>vp.on p (sb.1 p hp)
   have n2:∀p∈(Ps (Ia u z2) j).2.2.2.1,On p:=λp hp=>vp.on p (sb.2 p hp)
   have rv:FV (EZ f u.1):=hf.sub List.filter_sublist;have ro:=Afw of u.1;rw[e1,e2,Afv,Afo];have f1:=Afl rv ro n1 o1;by_cases c:z3=0/\Fit (EZ f u.1) (Ia u z1)/\Fit (Gm (EZ f u.1) (Ia u z1)) (Ps (Ia u z2) j)
   ·rw[fU c];simp only;have io:=Afh.2 ⟨ro,o1⟩;rw[fU (Afh.2 ⟨io,o2⟩),fU ⟨c.1,f1.2 c.2.1,(Afl c.2.1.fv io n2 o2).2 c.2.2⟩,Afo]
   ·rw[eG c,eG]
    ·exact .inl rfl
    ·rintro⟨w1,w2,w3⟩;have w2:=f1.1 w2;exact c ⟨w1,w2,(Afl w2.fv (Afh.2 ⟨ro,o1⟩) n2 o2).1 w3⟩
 |move hi hx hy hd=>
  rename_i id x y;simp only;rw[eG (by decide),Abt,Abt,AfR];rcases OJ hf id with⟨q,_,_⟩|⟨u,hu,rfl,q,_⟩
  ·rw[q];exact .inl rfl
  ·have q':f.find? (λv=>decide (v.1=u.1))=some u:=q;rw[q'];simp only[t5];have rv:FV (EZ f u.1):=hf.sub List.filter_sublist;have ro:=Afw of u.1;by_cases c:Xk (x,y) u/\Fit (EZ f u.1) (S5 (x,y) u)
   ·rw[fU c];simp only;rw[AfS,Afv];have oc:Xk (x,y) (S5 d u)↔Xk d (S5 (x,y) u):=by
     unfold Xk;have e:=AfS d (x,y) u;constructor
     ·intro h p hp;have:mv d p∈(S5 d (S5 (x,y) u)).2.2.2.1:=tH.2 ⟨p,hp,rfl⟩;rw[<-e]at this;obtain⟨p',hp',e'⟩:=tH.1 this;rw[<-e'];exact h p' hp'
     ·intro h p hp;have:mv (x,y) p∈(S5 (x,y) (S5 d u)).2.2.2.1:=tH.2 ⟨p,hp,rfl⟩;rw[e]at this;obtain⟨p',hp',e'⟩:=tH.1 this;rw[<-e'];exact h p' hp'
    by_cases t:Xk d (S5 (x,y) u)
    ·rw[fU (Afh.2 ⟨ro,t⟩),fU ⟨oc.2 t,(Afl rv ro c.2.hu.l.on t).2 c.2⟩,Afo]
    ·rw[eG λw=>t (Afh.1 w).2,eG λw=>t (oc.1 w.1)]
   ·rw[eG c];exact .inr trivial
 |mark hm=>
  rename_i m;simp only;rw[eG (by decide),Abu,Abu];by_cases c:∃x∈ms,x.1=m.1
  ·rw[fU c,fU c];exact .inl rfl
  ·rw[eG c,eG c];simp only;rw[fU of];trivial
 |close hi=>
  rename_i id;simp only;rw[eG (by decide),Abv,Abv];by_cases c:∃x∈ms,x.1=id/\x.2.2.2.2≠false
  ·rw[fU c,fU c];simp only;rw[fU of];trivial
  ·rw[eG c,eG c];exact .inl rfl
 |opn hi=>
  rename_i id;simp only;rw[eG (by decide),Abw,Abw];by_cases c:∃x∈ms,x.1=id/\x.2.2.2.2≠true
  ·rw[fU c,fU c];simp only;rw[fU of];trivial
  ·rw[eG c,eG c];exact .inl rfl
theorem Ahf{f:List Un}{ms:List Mk}{a:Ac}(h:SV f ms)(of:∀u∈f,Xk d u)(fa:FA a)(oa:a.1=1->Xk d a.2.1):match Ig (f,ms) a with
  |none=>Ig (f.map (S5 d),ms) (mvA d a)=none\/a.1=4
  |some p=>if∀u∈p.1,Xk d u then Ig (f.map (S5 d),ms) (mvA d a)=some (p.1.map (S5 d),p.2)else Ig (f.map (S5 d),ms) (mvA d a)=none:=by
 have em:=Aha (ms:=ms) h.1 of fa oa;have fb:FA (mvA d a):=by
  cases fa with
  |build hu=>exact .build (Afk hu (oa rfl))
  |remove h=>exact .remove h
  |cut h1 h2 h3 h4 h5 h6=>exact .cut h1 h2 h3 h4 h5 h6
  |move h1 h2 h3 h4=>exact .move h1 h2 h3 h4
  |mark h=>exact .mark h
  |close h=>exact .close h
  |opn h=>exact .opn h
 have hF:SV (f.map (S5 d)) ms:=⟨AfZ h.1 of,(mvm f ms).2 h.2⟩
 rw[LB (s:=(f,ms)) h fa,LB (s:=(f.map (S5 d),ms)) hF fb];cases e:It (f,ms) a with
 |none=>
  rw[e]at em;simp only at em⊢;rcases em with em|em
  ·rw[em];exact .inl rfl
  ·exact .inr em
 |some p=>
  rw[e]at em;simp only at em⊢;by_cases c:∀u∈p.1,Xk d u
  ·rw[fU c]at em;rw[em];simp only;by_cases m:MV p.1 p.2
   ·rw[fU m];simp only;rw[fU c,fU ((mvm _ _).2 m)]
   ·rw[eG m];simp only;rw[eG λw=>m ((mvm _ _).1 w)];exact .inl rfl
  ·rw[eG c]at em;rw[em];simp only;by_cases m:MV p.1 p.2
   ·rw[fU m];simp only;rw[eG c];trivial
   ·rw[eG m];exact .inl trivial
end
theorem AfF(x1:List (Int×Int×Int×Int×Int×Int))(x2:List (Int×Int×Int×Int))(x3:List (Int×Int×Int×Int×Int×Int))(a1 a2 a3 a4 a5 a6 c:Int)(h1:I6 x1)(h2:I4 x2)(h3:I6 x3)(ha1:Af a1)(ha2:Af a2)(ha3:Af a3)(ha4:Af a4)(ha5:Af a5)(ha6:Af a6)(hc:Af c):Adj 2000 x1 x2 x3 a1 a2 a3 a4 a5 a6 c=some true:=by
 have hN:1001<=2000:=by omega
 have h9:2000<=100000:=by omega
 obtain⟨f,ms,em,hs⟩:=AbA (N:=2000) hN x3 h1 h2;obtain⟨a,ea,fa⟩:=fT (N:=2000) hN hs ha1 ha2 ha3 ha4 ha5 ha6;have ml:ms.length<=20:=hs.2.len;have pb:=DI (c:=c) (n:=41) (by omega);have hd:Qg (pk c 41-20,0):=by unfold Qg;omega
 have fm:=Agf (N:=2000) hN hs.1 hd;simp only at fm;unfold Adj;rw[AbD,bS,A1 _ (by rfl),em,bS];simp only;rw[ea,bS];obtain⟨x1,⟨x2,x3,x4,x5,x6,x7⟩,x8,x9,x10,⟨eI,x12,x13,rI,Ud⟩⟩:=a
 (try simp only)
 rw[lpk hc (by omega),bS,Ae (by unfold Af;omega),fm,bS];by_cases of:∀u∈f,Xk (pk c 41-20,0) u
 ·rw[fU of];simp only;rw[A1 _ (by simp)];have key:∀(y:Un),(x1=1->Xk (pk c 41-20,0) (x2,x3,x4,x5,x6,x7))->y=(mvA (pk c 41-20,0) (x1,(x2,x3,x4,x5,x6,x7),x8,x9,x10,(eI,x12,x13,rI,Ud))).2.1->((CZ 2000 f ms x1 x2 x3 x4 x5 x6 x7 x8 x9 x10 eI x12 x13 rI Ud).bind λ((r818,r819),r820)=>
     (CZ 2000 (f.map (S5 (pk c 41-20,0))) ms x1 y.1 y.2.1 y.2.2.1 y.2.2.2.1 y.2.2.2.2.1 y.2.2.2.2.2 x8 x9 x10 eI x12 x13 rI Ud).bind λ((r822,r823),r824)=>
     bif decide (r820≠0)then(
      some ((decide (r824≠0))||(decide (x1=4))))
     else(
      (PD 2000 r818 (pk c 41-20) 0).bind λ(r826,r827)=>
      bif decide (r827≠0)then(
       some (decide (r824≠0)))
      else(
       gd ((decide (r824=0))=true->((Gy 2000 r822 r826).isSome=true))<|gd (((decide (r824=0))&&((Gy 2000 r822 r826).getD false))=true->((D4 2000 r819 r823).isSome=true))<|some (((decide (r824=0))&&((Gy 2000 r822 r826).getD false))&&((D4 2000 r819 r823).getD false)))))=some true:=by
   rintro y oa rfl;have sm:=Ahf hs of fa oa;rw[AgW hN h9 _ _ _ _ _ _ _ _ _ _ _ _ _ _ (by omega),bS];have s2:CZ 2000 (f.map (S5 (pk c 41-20,0))) ms x1 (mvA (pk c 41-20,0) (x1,(x2,x3,x4,x5,x6,x7),x8,x9,x10,(eI,x12,x13,rI,Ud))).2.1.1 (mvA (pk c 41-20,0) (x1,(x2,x3,x4,x5,x6,x7),x8,x9,x10,(eI,x12,x13,rI,Ud))).2.1.2.1 (mvA (pk c 41-20,0) (x1,(x2,x3,x4,x5,x6,x7),x8,x9,x10,(eI,x12,x13,rI,Ud))).2.1.2.2.1 (mvA (pk c 41-20,0) (x1,(x2,x3,x4,x5,x6,x7),x8,x9,x10,(eI,x12,x13,rI,Ud))).2.1.2.2.2.1 (mvA (pk c 41-20,0) (x1,(x2,x3,x4,x5,x6,x7),x8,x9,x10,(eI,x12,x13,rI,Ud))).2.1.2.2.2.2.1 (mvA (pk c 41-20,0) (x1,(x2,x3,x4,x5,x6,x7),x8,x9,x10,(eI,x12,x13,rI,Ud))).2.1.2.2.2.2.2 x8 x9 x10 eI x12 x13 rI Ud=some (IM (Ig (f.map (S5 (pk c 41-20,0)),ms) (mvA (pk c 41-20,0) (x1,(x2,x3,x4,x5,x6,x7),x8,x9,x10,(eI,x12,x13,rI,Ud))))):=AgW hN h9 _ _ _ _ _ _ _ _ _ _ _ _ _ _ (by omega) _;rw[s2];cases e:Ig (f,ms) (x1,(x2,x3,x4,x5,x6,x7),x8,x9,x10,(eI,x12,x13,rI,Ud))with
   |none=>
    rw[e]at sm;rcases sm with sm|sm
    ·rw[sm];simp only[IM];rw[bS];rfl
    ·simp only at sm;subst sm;simp only[IM];rw[bS,AU _ (by simp)];simp
   |some p=>
    rw[e]at sm;have hp:=(Vj e).2.2.2;have fm2:=Agf (N:=2000) hN hp.1 hd;simp only at fm2 sm;simp only[IM];by_cases op:∀u∈p.1,Xk (pk c 41-20,0) u
    ·rw[fU op]at sm fm2;have hq:=(Vj sm).2.2.2;rw[sm];simp only[IM];rw[bS,A1 _ (by simp),fm2,bS];simp only;have s12:=AcI (N:=2000) h9 (f:=p.1.map (S5 (pk c 41-20,0))) (p.1.map (S5 (pk c 41-20,0))) (by have:=hq.1.len;simp only at this;omega) (λu hu=>by have:=hq.1.shp u hu;omega);have pl:=hp.2.len;rw[A1 _ (by simp),s12,Ac5 hN h9 p.2 (by omega),BR (λ_=>mU),BR (λ_=>mU)];simp
    ·rw[eG op]at sm fm2;rw[sm];simp only[IM];rw[bS,A1 _ (by simp),fm2,bS];rfl
  by_cases k1:x1=1
  ·subst k1;have hu:=(fa1.1 fa).1;have um:=qE (N:=2000) (by omega) hu hd;simp only at um;rw[AU _ (by rfl),um,bS];by_cases ok:Xk (pk c 41-20,0) (x2,x3,x4,x5,x6,x7)
   ·rw[fU ok];simp only;rw[A1 _ (by simp),bS];exact key (S5 (pk c 41-20,0) (x2,x3,x4,x5,x6,x7)) (λ_=>ok) (by unfold mvA;simp only;rw[fU trivial])
   ·rw[eG ok];simp only[PE];rw[AU _ (by simp),bS]
  ·rw[A1 _ (bJ k1),bS];exact key (x2,x3,x4,x5,x6,x7) (λh=>absurd h k1) (by unfold mvA;simp only;rw[eG k1])
 ·rw[eG of];simp only;rw[AU _ (by simp),fL hN _ (by omega),bS,aB hs]
