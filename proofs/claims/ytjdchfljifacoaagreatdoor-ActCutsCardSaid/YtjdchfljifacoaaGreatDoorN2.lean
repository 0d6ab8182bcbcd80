import Derived.Test.YtjdchfljifacoaaGreatDoorF2
import Derived.Test.YtjdchfljifacoaaGreatDoorW4
set_option linter.all false
set_option maxRecDepth 100000
set_option maxHeartbeats 8000000
noncomputable section
namespace Go.Proofs.YtjdchfljifacoaaGreatDoor.Am
section
open Go
def ik:Nat:=1600000
@[reducible] def gI(b:Nat)(m:Nm)(fl:List Bool)(la:Nat):AV:=.gd false (.agg [.v (.int .i64 b),.mp m,.sl 0 true (fl.map λx=>[.v (.bool x)]) [],.v (.int .i64 la)])
structure II(U:Cf)(b:Nat)(m:Nm)(fl:List Bool)(la:Nat):Prop where
 o:U.O b/\¬U.M b
 al:U.al m
 it:∃seen:Array Nat,U.w.heap[b]? =some (.mapIter (some (U.rb m)) fl.length seen fl.length)/\(∀i,seen.contains i=fl.getD i false)/\((∃x,x∈fl/\x=true)->∃s2:Array Nat,seen=s2.push la/\la<fl.length)
theorem II.mono{U σ':Cf}{b:Nat}{m:Nm}{fl:List Bool}{la:Nat}(h:II U b m fl la)(e:Evo U σ'):II σ' b m fl la:=by obtain⟨seen,h1,h2,h3⟩:=h.it;obtain⟨g1,g2⟩:=e.fro b _ h1 h.o.2;obtain⟨k1,k2⟩:=e.box m h.al;exact⟨⟨by rw[e.out];exact h.o.1,g2⟩,k1,seen,by rw[k2];exact g1,h2,h3⟩
def Ctx.mi(P:Program)(S:Tab)(nt hb N:Nat)(hnt:nt<=ik):Ctx:={P:=P,F:=Fence.wide,S:=S,nt:=nt,hb:=(hb,false),R:=EvoB N (λ_=>False),G:=λe U=>N<=U.w.heap.size/\∀b m fl la,lk e ik=gI b m fl la->N<=b/\II U b m fl la,ofE:=Evo.evoB,tr:=EvoB.trans,g:=λ{U σ' e e'} h ev hl=>⟨A09 h.1 ev.sz,λb m fl la hb=>by
  rcases hl ik hnt with h1|h1
  ·rw[h1]at hb;cases hb
  ·exact⟨(h.2 b m fl la (h1.symm.trans hb)).1,(h.2 b m fl la (h1.symm.trans hb)).2.mono ev⟩⟩}
theorem Ab2{P:Program}{S:Tab}{nt hb N:Nat}{hnt:nt<=ik}:(Ctx.mi P S nt hb N hnt).S=S:=rfl
attribute [go_sem] Ab2 ik
section
variable{P:Program}{S:Tab}{nt hb N:Nat}{hnt:nt<=ik}{rid:Nat}{ops:List AOp}{Q:AE->St->Prop}{e e1:Ar}{h h1:Hp}{c:Nat}{vc:Prop}{d:Option Nat}{x0:Opd}{m:Nm}{rows:List (List AV)}
end
mutual
theorem QG{U Z:Cf}:∀(x:AV)(v v':Value),Rep U x v->Rep Z x v'->Rep {Z with al:=U.al} x v'
 |.v _,_,_,_,h=>by simpa[Rep]using h
 |.sl a b c d,_,_,_,h=>Rep.ofPure (U:=Z) (σ':={Z with al:=U.al}) (λb hb=>hb) (λ_ _=>rfl) (.sl a b c d) _ rfl h
 |.ro a b,_,_,_,h=>Rep.ofPure (U:=Z) (σ':={Z with al:=U.al}) (λb hb=>hb) (λ_ _=>rfl) (.ro a b) _ rfl h
 |.agg cs,_,_,k,h=>by obtain⟨ys,k1,k2,k3⟩:=k;obtain⟨xs,h1,h2,h3⟩:=h;exact⟨xs,h1,h2,Lm cs ys xs k3 h3⟩
 |.tup cs,_,_,k,h=>by obtain⟨ys,k1,k3⟩:=k;obtain⟨xs,h1,h3⟩:=h;exact⟨xs,h1,Lm cs ys xs k3 h3⟩
 |.clo f cs bs,_,_,k,h=>by obtain⟨ys,zs,k1,k2,k3⟩:=k;obtain⟨xs,us,h1,h2,h3⟩:=h;exact⟨xs,us,h1,Lm cs ys xs k2 h2,Lm bs zs us k3 h3⟩
 |.box n o,_,_,k,h=>by grind[Rep]
 |.own n l,_,_,k,h=>by grind[Rep]
 |.elem _ _ _ _ _,_,_,k,h=>by grind[Rep]
 |.mp _,_,_,k,h=>by grind[Rep]
 |.gd b x,v,v',k,h=>by exact⟨λhb=>QG x v v' (k.1 hb) (h.1 hb),h.2⟩
 |.un,_,_,_,_=>by simp[Rep]
theorem Lm{U Z:Cf}:∀(xs:List AV)(vs vs':List Value),RepL U xs vs->RepL Z xs vs'->RepL {Z with al:=U.al} xs vs'
 |[],_,_,_,h=>by simpa[RepL]using h
 |x::xs,_,_,k,h=>by obtain⟨y,ys,_,k2,k3⟩:=k;obtain⟨z,zs,h1,h2,h3⟩:=h;exact⟨z,zs,h1,QG x y z k2 h2,Lm xs ys zs k3 h3⟩
end
theorem QH{U Z:Cf}{sz b:Nat}:∀{rows:List (List AV)}{o:Nat}{b' o':Nat},RepRows U sz b' o' rows->RepRows Z sz b o rows->RepRows {Z with al:=U.al} sz b o rows
 |[],_,_,_,_,_=>by simp[RepRows]
 |r::rs,o,b',o',k,h=>by simp only[RepRows]at h k⊢;refine⟨h.1,Fi λj c hc=>?_,QH k.2.2 h.2.2⟩;grind[HM,QG]
theorem QI{U Z:Cf}:∀{rows:List (List AV)}{es es':List MapEntry},RepEnts U rows es->RepEnts Z rows es'->RepEnts {Z with al:=U.al} rows es'
 |[],_,_,_,h=>h
 |r::rs,_,_,⟨e,es,k1,k2,k3⟩,⟨e',es',h1,h2,h3⟩=>⟨e',es',h1,Lm _ _ _ k2 h2,QI k3 h3⟩
theorem HInv.fgt{U Z:Cf}{hp:Hp}(h:HInv U hp)(k:HInv Z hp):HInv {Z with al:=U.al} hp where
 ln:=k.ln
 cel n j c hc:=by
  obtain⟨h1,h2,h3⟩:=h.cel n j c hc;obtain⟨k1,k2,k3⟩:=k.cel n j c hc;refine⟨h1,k2,?_⟩;rcases k3 with⟨cs,T,x,g1,g2,g3,g4⟩|⟨rows,es,g1,g2,g3,g4,g5⟩
  ·refine .inl ⟨cs,T,x,g1,g2,g3,?_⟩;rcases h3 with⟨_,_,y,_,_,_,q4⟩|⟨rows,es,q1,_⟩
   ·exact QG c y x q4 g4
   ·rw[q1.1]at g4⊢;simp only[Rep]at g4⊢;refine⟨λe=>?_,g4.2⟩;cases e
  ·refine .inr ⟨rows,es,g1,g2,g3,?_,g5⟩;rcases h3 with⟨_,_,y,_,_,q3,q4⟩|⟨rows',es',q1,_,_,q4,_⟩
   ·rw[g1.1]at q4;simp only[Rep]at q4;have:=q4.2 trivial;subst this;simp[undef,Bp]at q3
   ·have:=q1.1.symm.trans g1.1;simp only[AV.gd.injEq,AV.sl.injEq,true_and,and_true]at this;subst this;exact QI q4 g4
 arr n sz live rows d hn:=by
  obtain⟨h1,h2,h3,h4⟩:=h.arr n sz live rows d hn;obtain⟨k1,k2,k3,k4⟩:=k.arr n sz live rows d hn;refine⟨h1,k2,k3,?_⟩;rcases k4 with⟨a,g1,g2⟩|⟨b,o,cap,g1,g2,g3,g4,g5,g6⟩
  ·exact .inl ⟨a,g1,g2⟩
  ·refine .inr ⟨b,o,cap,g1,g2,g3,?_,g5,λe=>g6 e⟩;rcases h4 with⟨_,_,rfl⟩|⟨b',o',_,_,_,_,q4,_⟩
   ·simp[RepRows]
   ·exact QH q4 g4
 inj p q b hp hq:=k.inj p q b hp hq
 lt:=k.lt
 ou:=k.ou
 dis:=k.dis
def Nd(l:List (Nat×Spec))(q:Nat->List AV->List AV->Option (Prop×AV)):Tab:=⟨Is l,false,false,Of,Si,q,Og,NO,NN⟩
theorem qH(l q):(Nd l q).f=Is l:=rfl
theorem qJ(l q):(Nd l q).w=false:=rfl
theorem qM(l q):(Nd l q).m=false:=rfl
theorem qN(l q):(Nd l q).e=Of:=rfl
theorem qP(l q):(Nd l q).p=Si:=rfl
theorem qQ(l q):(Nd l q).k=Og:=rfl
theorem qV(l q):(Nd l q).o=NO:=rfl
theorem qW(l q):(Nd l q).y=NN:=rfl
theorem qX(l q):(Nd l q).q=q:=rfl
attribute [go_sem] qW qV qQ qH qJ qM qN qP qX
theorem cZ{V:Ctx}(t:Nat)(y:AV){x0:AV}{x:AC}{Q:AE->St->Prop}{e:Ar}{h:Hp}{c:Nat}(ht:t<V.nt)(he:lk e t=x0)(hw:∀U v,Rep U x0 v->Rep U y v)(hQ:Aq V x Q ⟨(t,y)::e,h,c⟩):Aq V x Q ⟨e,h,c⟩:=by
 intro code hcc U a hA;have hr:=hA.1.t t;rw[he]at hr;have ev:=Evo.refl U;refine hQ code hcc U a ⟨⟨hA.1.h,λt'=>?_,hA.1.sz,(hA.1.df.mono ev).un (.inr (O9 ht))⟩,hA.2.1,V.g hA.2.2 ev λt' ht'=>?_⟩
 ·simp only[lk];by_cases e:t=t'
  ·subst e;rw[t8 rfl];exact hw _ _ hr
  ·rw[t7 e];exact hA.1.t t'
 ·right;simp only[lk];rw[t7 (by omega)]
theorem V5{V:Ctx}(t:Nat){z:Nat}{f:Bool}{d:List AV}{x:AC}{Q:AE->St->Prop}{e:Ar}{h:Hp}{c:Nat}(ht:t<V.nt)(he:lk e t=.sl z f [] d)(h1:∀k,Aq V x Q ⟨(t,.v (.slice none 0 k))::e,h,c⟩)(h2:∀b k,Aq V x Q ⟨(t,.v (.slice (some b) 0 k))::e,h,c⟩):Aq V x Q ⟨e,h,c⟩:=by
 intro code hcc U a hA;have hr:=hA.1.t t;rw[he]at hr;obtain⟨base,cap,hv,_⟩:=hr;have ev:=Evo.refl U;have key:∀y,(∀v,v=a.tmps.getD t undef->Rep U y v)->Aq V x Q ⟨(t,y)::e,h,c⟩->code.wpIn V.F 0 V.P (lift V U Q) a U.w:=λy hw hQ=>by
  refine hQ code hcc U a ⟨⟨hA.1.h,λt'=>?_,hA.1.sz,(hA.1.df.mono ev).un (.inr (O9 ht))⟩,hA.2.1,V.g hA.2.2 ev λt' ht'=>?_⟩
  ·simp only[lk];by_cases e:t=t'
   ·subst e;rw[t8 rfl];exact hw _ rfl
   ·rw[t7 e];exact hA.1.t t'
  ·right;simp only[lk];rw[t7 (by omega)]
 cases base with
 |none=>exact key _ (λv e=>by subst e;simp only[Rep];exact hv) (h1 cap)
 |some b=>exact key _ (λv e=>by subst e;simp only[Rep];exact hv) (h2 b cap)
theorem lJ{U:Cf}{z:Nat}{d:List AV}{b:Option Addr}{k:Nat}(v:Value)(h:Rep U (.v (.slice b 0 k)) v):Rep U (.sl z false [] d) v:=by simp only[Rep]at h⊢;exact⟨b,k,h,A16 _,λh=>Bool.noConfusion h,λr hr=>absurd hr List.not_mem_nil,.inl trivial⟩
theorem dA{V:Ctx}(m:Nm)(j:Nat)(y:AV){x0:AV}{x:AC}{Q:AE->St->Prop}{e:Ar}{h:Hp}{c:Nat}(he:hl h (.c m j)=some x0)(hm:isM x0=false)(hw:∀U v,Rep U x0 v->Rep U y v)(hQ:Aq V x Q ⟨e,(.c m j,y)::h,c⟩):Aq V x Q ⟨e,h,c⟩:=by
 intro code hc U a hA;obtain⟨k1,k2,cs,T,v,k3,k4,k5,k6⟩:=(hA.1.h.cel m j _ he).cells hm;have hI:=hA.1.h;have ev:=Evo.refl U;refine hQ code hc U a ⟨⟨⟨λn'=>?_,λn' j' c' hc'=>?_,λn' sz live rows d' hc'=>?_,λp q b hp hq=>?_,hI.lt,hI.ou,hI.dis⟩,hA.1.t,hA.1.sz,hA.1.df⟩,hA.2.1,hA.2.2⟩
 ·have:=hI.ln n';simpa only[lenOf,hl,t7 (show¬Loc.c m j=Loc.a n' by intro e;cases e)]using this
 ·simp only[hl]at hc';by_cases e:Loc.c m j=Loc.c n' j'
  ·rw[t8 e]at hc';cases e
   simp at hc';subst hc';exact⟨k1,k2,.inl ⟨cs,T,_,k3,k4,k5,hw _ _ k6⟩⟩
  ·rw[t7 e]at hc';exact hI.cel n' j' c' hc'
 ·simp only[hl,t7 (show¬Loc.c m j=Loc.a n' by intro e;cases e)]at hc';exact hI.arr n' sz live rows d' hc'
 ·have key:∀p b,Owns U ((.c m j,y)::h) p b->Owns U h p b:=by
   rintro p b (⟨g1,g2,j',c',g3⟩|⟨g1,⟨sz,rows,d',g2⟩,o,cap,g3,g4⟩)
   ·simp only[hl]at g3;by_cases e:Loc.c m j=Loc.c p.2 j'
    ·cases e
     exact .inl ⟨g1,g2,j,x0,he⟩
    ·rw[t7 e]at g3;exact .inl ⟨g1,g2,j',c',g3⟩
   ·simp only[hl]at g2;rw[t7 (by intro e;cases e)]at g2;exact .inr ⟨g1,⟨sz,rows,d',g2⟩,o,cap,g3,g4⟩
  exact hI.inj p q b (key p b hp) (key q b hq)
theorem lK{U:Cf}{z z':Nat}{f:Bool}{d d':List AV}(v:Value)(h:Rep U (.sl z f [] d) v):Rep U (.sl z' false [] d') v:=by simp only[Rep]at h⊢;obtain⟨b,k,h1,h2,_⟩:=h;exact⟨b,k,h1,h2,λh=>Bool.noConfusion h,λr hr=>absurd hr List.not_mem_nil,.inl trivial⟩
theorem V6{V:Ctx}(m:Nm)(j:Nat)(z':Nat)(d':List AV){z:Nat}{f:Bool}{d:List AV}{x:AC}{Q:AE->St->Prop}{e:Ar}{h:Hp}{c:Nat}(he:hl h (.c m j)=some (.sl z f [] d))(hQ:Aq V x Q ⟨e,(.c m j,.sl z' false [] d')::h,c⟩):Aq V x Q ⟨e,h,c⟩:=dA m j _ he rfl (λ_=>lK) hQ
end
section
open Go
attribute [local irreducible] Aq BD Bv A8 Bq Ba AQ Bw By Ck
def Bn(N:Nat)(s1550:List (Int×Int)):Option (List (Int×Int)):=gd (s1550≠[])<|gd ((s1550.length)*16<=140737488355328)<|some s1550
@[go_sem] def s87(N:Nat):Spec:=p0<|(qS Aj<|qE<|qF [] BK) (Bn N)
theorem S5(N:Nat):Au Tryz.prog 35 (s87 N):=by refine fk (wX x35 (Ae)) ?_;intro s1550 r h _ hS F;dsimp only[x35,Ad,Aj];unfold Bn at h;obtain⟨gm,h⟩:=un h;refine Gn hS F ?_;obtain⟨gj,h⟩:=un h;exact Ah hS F h
def G1(N:Nat)(dq:Int)(dm:Int)(dl:Int)(dh:List (Int×Int))(dg:Int)(de:Int)(db:Int)(da:Int)(cy:Int)(cu:List (Int×Int))(cr:Int)(cq:Int):Option Bool:=(CW N db da cy cu cr cq dq dm dl dh dg de).bind λdz=>some dz
@[go_sem] def Acl(N:Nat):Spec:=p0<|(qG<|qI<|qI<|qI<|qS Aj<|qI<|qI<|qE<|qO<|qI<|qI<|qI<|qR Aj<|qI<|qI<|qE<|qE<|qF false .b) (G1 N)
theorem uY(N:Nat):Au Tryz.prog 176 (Acl N):=by refine fk (wX Xx (Aa (Uk N)<|Ae)) ?_;intro dq dm dl dh dg de db da cy cu cr cq r h _ hS F;dsimp only[Xx,Ad,Aj];unfold G1 at h;obtain⟨dz,fm,h⟩:=un h;exact Ah hS (fc fm F) h
def AX(N:Nat)(s1565:List (Int×Int×Int×(List (Int×Int))×Int×Int))(av:Int)(au:Int)(aq:Int)(an:List (Int×Int))(am:Int)(ak:Int):Nat->Int->Option (Sum Unit Int)|0,_=>none|n+1,aj=>bif decide (aj<(s1565.length:Int))then((Bz s1565 aj).bind λ(co,cn,ck,cj,ci,ce)=>(G1 N co cn ck cj ci ce av au aq an am ak).bind λdy=>bif dy then(some (.inr aj))else(gd (Ai (aj+1))<|AX N s1565 av au aq an am ak n (aj+1)))else(some (.inl ()))
def Cv(N:Nat)(s1565:List (Int×Int×Int×(List (Int×Int))×Int×Int))(av:Int)(au:Int)(aq:Int)(an:List (Int×Int))(am:Int)(ak:Int):Option Int:=(AX N s1565 av au aq an am ak N 0).bind λbu=>match bu with|.inl ()=>(some (-1))|.inr fr=>(some fr)
@[go_sem] def Zd(N:Nat):Spec:=p0<|(qD Ak<|qL 176<|qO<|qI<|qI<|qI<|qR Aj<|qI<|qI<|qE<|qE<|qE<|qF 0 .i) (Cv N)
theorem Vv(N:Nat):Au Tryz.prog 191 (Zd N):=by
 refine fk (wX uK (Aa (uY N)<|Ae)) ?_;intro s1565 av au aq an am ak r h _ hS F;dsimp only[uK,Ad,Aj,Ak];unfold Cv at h;obtain⟨bu,g8,h⟩:=un h;refine go hS F ?_;refine BU bu (λz:Nat=>⟨[],[],z⟩) (λz=>(.inl ():Sum Unit Int)) (.x 0) ?_ ?_
 ·refine BO (λn (y:Int×Nat)=>AX N s1565 av au aq an am ak n y.1) (λy=>⟨[(0,Ao s1565),(1,.clo (.func 176) [] [.ro [.i av,.i au,.i aq,BK an,.i am,.i ak] 0]),(7,.i (s1565.length:Int)),(8,.i y.1)],[],y.2⟩) (0,2) g8 (CB F) ?_;rintro n ⟨aj,el⟩ ay;simp only[AX]at ay;refine An hS F ay (λ_ ay=>?_) (λ_ ay=>?_)
  ·obtain⟨⟨co,cn,ck,cj,ci,ce⟩,fq,ay⟩:=un ay;obtain⟨gh,F⟩:=CH Ap fq F;obtain⟨dy,fj,ay⟩:=un ay;replace F:=fc fj F;refine An hS F ay (λ_ ay=>?_) (λ_ ay=>?_)
   ·obtain rfl:=yJ ay;exact Ah hS F h
   ·obtain⟨gi,ay⟩:=un ay;exact CS hS F (n,aj+1,el+1+1+1+1) ay
  ·exact Cu hS F (el+1) ay
 ·rintro gu rfl;exact Ah hS F h
def Bm(N:Nat)(dt:List (Int×Int×Int×(List (Int×Int))×Int×Int))(ee:Int)(d9:Int)(d8:Int)(d7:List (Int×Int))(d6:Int)(d5:Int):Option Bool:=(Cv N dt ee d9 d8 d7 d6 d5).bind λdx=>some (decide (0<=dx))
@[go_sem] def Ze(N:Nat):Spec:=p0<|(qD Ak<|qL 176<|qO<|qI<|qI<|qI<|qR Aj<|qI<|qI<|qE<|qE<|qE<|qF false .b) (Bm N)
theorem Vw(N:Nat):Au Tryz.prog 175 (Ze N):=by refine fk (wX Xw (Aa (Vv N)<|Ae)) ?_;intro dt ee d9 d8 d7 d6 d5 r h _ hS F;dsimp only[Xw,Ad,Aj,Ak];unfold Bm at h;obtain⟨dx,fh,h⟩:=un h;exact Ah hS (fc fh F) h
def XG:Spec|[.sl 0 true [] [],.v (.int .i64 n),.sl 6 _ [u] d]=>some (n=0/\u.length=6,.sl 6 false [u] d)|_=>none
@[go_sem] theorem Acm(n:Int)(f:Bool)(u d:List AV):XG [.sl 0 true [] [],.v (.int .i64 n),.sl 6 f [u] d]=some (n=0/\u.length=6,.sl 6 false [u] d):=rfl
theorem nB:Au Tryz.prog 178 XG:=by
 refine⟨XU,λargs vc r h hv=>?_⟩;unfold XG at h;split at h
 ·rename_i n f u d;simp only[yE,A57]at h;obtain⟨rfl,rfl⟩:=h;obtain⟨rfl,hu⟩:=hv;intro U vs gl hlt hp hr;simp only[RepL]at hr;obtain⟨v0,_,rfl,r0,v1,_,rfl,r1,v2,_,rfl,r2,rfl⟩:=hr;simp only[AA,BN,y8,A53]at hp;simp only[Rep]at r0 r1;obtain⟨base,cap,rfl,_,hc,_⟩:=r0;have hc:=hc trivial;simp only[A33]at hc;subst hc;subst r1;have r2':Rep U (.sl 6 false [u] d) v2:=by simp only[Rep]at r2⊢;obtain⟨b2,c2,h1,h2,h3,h4,h5⟩:=r2;exact⟨b2,c2,h1,h2,λe=>(by cases e),h4,h5⟩
  have pu:AA u=true:=by simp only[Rep]at r2;obtain⟨_,_,_,_,_,h4,_⟩:=r2;exact h4 u (by simp)
  have o:=RG .u (rows:=[]) (u:=u) (d:=d) (i:=0) (w6 _) (by decide) (by simp) U [.int .i64 0,v2] [] base U.w.heap.size 0 0 gl hlt (by simp only[RepL];exact⟨_,_,rfl,by simp only[Rep];rfl,_,_,rfl,r2',rfl⟩) (by simp[RepL]) (by simp) (by simp) (w6 _) (.inr ⟨rfl,w6 _⟩);refine o.mono ?_;rintro e w' ⟨b',o',cap',vals',rfl,q1,q2,q3,q4,q5,q6,q7⟩;have hk:∀x,x<U.w.heap.size->w'.heap[x]? =U.w.heap[x]? :=λx hx=>q2.heap x hx (by omega)
  refine⟨_,rfl,λx ob hx=>?_,q2.io,?_,?_⟩
  ·rw[hk x (u0.1 hx).1];exact hx
  ·simp[BN]
  ·have hf:∀b,Fz U b->Fz (U.at w') b:=λb hb=>⟨hb.1,hb.2.1,A20 hb.2.2 q2.sz⟩
   have q8:=RepL.ofPure (σ':=U.at w') hf (λb hb=>hk b hb.2.2) _ vals' (by simpa using pu) q6;simp only[Rep];refine⟨_,cap',rfl,q1,λe=>(by cases e),λr hr=>?_,.inr ⟨b',o',rfl,⟨λhM=>?_,λhO=>?_,q4⟩,DQ q8 q7 q5 λr hr=>?_⟩⟩
   ·simp only[List.take_nil,List.drop_nil,A02,A05,A26]at hr;rw[hr];exact pu
   ·have:=hlt b' (.inl hM);omega
   ·have:=hlt b' (.inr hO);omega
   ·simp only[List.take_nil,List.drop_nil,A02,A05,A26]at hr;rw[hr];exact hu
 ·cases h
def EW(N:Nat)(f1607:List (Int×Int×Int×(List (Int×Int))×Int×Int)):Nat->Int->(List (Int×Int×Int×(List (Int×Int))×Int×Int))->Option ((List (Int×Int×Int×(List (Int×Int))×Int×Int)))|0,_,_=>none|n+1,x1630,l1631=>bif decide (x1630<(f1607.length:Int))then((Bz l1631 x1630).bind λ(bm,bl,bj,b9,bi,bh)=>(Bn N b9).bind λbo=>gd (Ai (x1630+1))<|EW N f1607 n (x1630+1) (l1631.set x1630.toNat (bm,bl,bj,bo,bi,bh)))else(some l1631)
def Ep(N:Nat)(f1607:List (Int×Int×Int×(List (Int×Int))×Int×Int))(aa:Int)(ah:Int)(af:Int)(ai:List (Int×Int))(ae:Int)(ab:Int):Option ((List (Int×Int×Int×(List (Int×Int))×Int×Int))×Int):=(Ef N f1607).bind λbq=>gd ((!(!bq))=true->((BG N aa ah af ai ae ab).isSome=true))<|bif ((!bq)||(!((BG N aa ah af ai ae ab).getD false)))||(decide ((f1607.length:Int)=12))then(some ([],120))else((AP N f1607 aa).bind λ(r1616,bp)=>gd ((!bp)=true->((Bm N f1607 aa ah af ai ae ab).isSome=true))<|bif bp||((Bm N f1607 aa ah af ai ae ab).getD false)then(some ([],120))else(gd ((f1607.length)*64<=140737488355328)<|(EW N f1607 N 0 f1607).bind λl1645=>(Bn N ai).bind λaw=>gd (0<=r1616/\r1616<=(l1645.length:Int))<|gd ((l1645.length+1)*64<=140737488355328)<|some (l1645.take r1616.toNat++[(aa,ah,af,aw,ae,ab)]++l1645.drop r1616.toNat,0)))
@[go_sem] def Acn(N:Nat):Spec:=p0<|(qG<|qD Ak<|qE<|qG<|qI<|qI<|qI<|qD Aj<|qI<|qI<|qE<|qE<|qF ([],0) λr=>.tup [.agg [Ao r.1],.i r.2]) (Ep N)
theorem Um(N:Nat):Au Tryz.prog 148 (Acn N):=by
 refine fk (wX uD (Aa nB<|Aa (QW N)<|Aa (Md N)<|Aa (Om N)<|Aa (Vw N)<|Aa (S5 N)<|Ae)) ?_;intro f1607 aa ah af ai ae ab r h _ hS F;dsimp only[uD,Ad,Aj,Ak];unfold Ep at h;obtain⟨bq,fg,gm,h⟩:=un h;replace F:=fc fg F;refine An hS F h (λ_ h=>?_) (λ_ h=>?_)
 ·exact Ah hS F h
 ·obtain⟨⟨r1616,bp⟩,e9,h⟩:=un h;obtain⟨gj,h⟩:=un h;replace F:=fc e9 F;refine An hS F h (λ_ h=>?_) (λ_ h=>?_)
  ·exact Ah hS F h
  ·refine go hS F ?_;refine C3 hS 1 x177.hf x177.hc x177.hn x177.ok rfl (ev F) (ev F) ?_ rfl (ev F) (A01 rfl) λhb=>?_
   ·exact AS hS F
   dsimp only[x177,Ad];refine go hS F ?_;refine C3 hS 2 x192.hf x192.hc x192.hn x192.ok rfl (ev F) (ev F) ?_ rfl (ev F) (A01 rfl) λhb=>?_
   ·exact AS hS F
   dsimp only[x192,Ad];by_cases gi:f1607=[]
   ·subst gi;obtain⟨gy,h⟩:=un h;obtain⟨br,fy,h⟩:=un h;obtain rfl:br=[]:=by
     cases N with
     |zero=>cases fy
     |succ n=>rw[EW]at fy;exact(yJ fy).symm
    obtain⟨aw,az,gc,gw,h⟩:=un h;obtain rfl:r1616=0:=by simp only[A33]at gc;omega
    replace F:=fc az F;refine V5 0 (by show(0:Nat)<8;omega) (ev F) (λk=>?_) (λb k=>?_)
    ·refine Jg hS F ?_;refine go hS F ?_;refine Es 30 ?_;refine Gn hS F ?_;exact Ah hS F h
    ·refine Gn hS F ?_;refine cZ 0 (.sl 6 false [] [.i 0,.i 0,.i 0,.sl 0 true [] [],.i 0,.i 0]) (by show(0:Nat)<8;omega) (ev F) (λ_=>lJ) ?_;refine go hS F ?_;refine Es 30 ?_;refine Gn hS F ?_;refine go hS F ?_;refine Rt (Ctx.fn_ok hS) 5 XU rfl (ev F) ?_ (ev F) (ev F) (by simp) (ev F) (ev F) (ev F) (by simp only[go_sem,seval,F]<;>simp) MQ (WP (l:=[]) (i:=0) (u:=(aa,ah,af,aw,ae,ab)) (by omega) (by simp) (by simp)) (ev F) ?_ ?_
     ·exact AS hS F
     ·exact AS hS F
     exact Ah hS F h
   refine Gn hS F ?_;obtain⟨gy,h⟩:=un h;obtain⟨br,fy,h⟩:=un h;refine go hS F ?_;refine BU br (λz:(List (Int×Int×Int×(List (Int×Int))×Int×Int))×Nat=>⟨[(2,.box (1,6) 0),(3,.box (104,11) 0)],[(.c (1,1) 0,.i aa),(.c (1,1) 1,.i ah),(.c (1,1) 2,.i af),(.c (1,1) 3,BK ai),(.c (1,1) 4,.i ae),(.c (1,1) 5,.i ab),(.c (0,1) 0,Ao f1607),(.c (2,1) 0,.sl 0 true [] []),(.c (104,11) 0,.own (300,10) z.1.length),(.a (300,10),Dm z.1),(.c (1,6) 0,.sl 0 true [] [])],z.2⟩) (λz=>(z.1:(List (Int×Int×Int×(List (Int×Int))×Int×Int)))) (.x 0) ?_ ?_
   ·refine BO (λn (y:Int×(List (Int×Int×Int×(List (Int×Int))×Int×Int))×Nat)=>EW N f1607 n y.1 y.2.1) (λy=>⟨[(2,.box (1,6) 0),(3,.box (104,11) 0),(11,.i (f1607.length:Int)),(12,.i y.1)],[(.c (1,1) 0,.i aa),(.c (1,1) 1,.i ah),(.c (1,1) 2,.i af),(.c (1,1) 3,BK ai),(.c (1,1) 4,.i ae),(.c (1,1) 5,.i ab),(.c (0,1) 0,Ao f1607),(.c (2,1) 0,.sl 0 true [] []),(.c (104,11) 0,.own (300,10) y.2.1.length),(.a (300,10),Dm y.2.1),(.c (1,6) 0,.sl 0 true [] [])],y.2.2⟩) (0,f1607,12) fy (CB F) ?_;rintro n ⟨x1630,l1631,ej⟩ bw;simp only[EW]at bw;refine An hS F bw (λ_ bw=>?_) (λ_ bw=>?_)
    ·obtain⟨⟨bm,bl,bj,b9,bi,bh⟩,fp,bw⟩:=un bw;obtain⟨gg,F⟩:=CH Ap fp F;obtain⟨bo,e8,gx,bw⟩:=un bw;exact CS hS (fc e8 F) (n,x1630+1,l1631.set x1630.toNat (bm,bl,bj,bo,bi,bh),ej+1+1+1+1) bw
    ·exact Cu hS F (l1631,ej+1) bw
   ·rintro⟨l1645,gt⟩ rfl;obtain⟨aw,az,gc,gw,h⟩:=un h;replace F:=fc az F;refine go hS F ?_;refine Rt (Ctx.fn_ok hS) 5 XU rfl (ev F) ?_ (ev F) (ev F) (by simp) (ev F) (ev F) (ev F) (by simp only[go_sem,seval,F]<;>simp) MQ (WP (l:=l1645) (i:=r1616) (u:=(aa,ah,af,aw,ae,ab)) (by omega) (by omega) (by omega)) (ev F) ?_ ?_
    ·exact AS hS F
    ·exact AS hS F
    exact Ah hS F h
def EI(N:Nat)(f1649:List (Int×Int×Int×(List (Int×Int))×Int×Int)):Nat->Int->(List (Int×Int×Int×(List (Int×Int))×Int×Int))->Option ((List (Int×Int×Int×(List (Int×Int))×Int×Int)))|0,_,_=>none|n+1,x1667,l1668=>bif decide (x1667<(f1649.length:Int))then((Bz l1668 x1667).bind λ(bg,bf,be,b7,bb,ba)=>(Bn N b7).bind λbn=>gd (Ai (x1667+1))<|EI N f1649 n (x1667+1) (l1668.set x1667.toNat (bg,bf,be,bn,bb,ba)))else(some l1668)
def EX(N:Nat)(f1649:List (Int×Int×Int×(List (Int×Int))×Int×Int))(bv:Int):Option ((List (Int×Int×Int×(List (Int×Int))×Int×Int))×Int):=(Ef N f1649).bind λdw=>bif !dw then(some ([],120))else((AP N f1649 bv).bind λ(r1653,du)=>bif !du then(some ([],120))else(gd (f1649≠[])<|gd ((f1649.length)*64<=140737488355328)<|(EI N f1649 N 0 f1649).bind λl1682=>gd (Ai (r1653+1))<|gd (0<=r1653/\r1653<(l1682.length:Int))<|gd ((l1682.length:Int)<=9223372036854775807)<|some (l1682.take r1653.toNat++l1682.drop (r1653.toNat+1),0)))
@[go_sem] def Aco(N:Nat):Spec:=p0<|(qG<|qD Ak<|qE<|qI<|qE<|qF ([],0) λr=>.tup [.agg [Ao r.1],.i r.2]) (EX N)
theorem Uo(N:Nat):Au Tryz.prog 150 (Aco N):=by
 refine fk (wX uE (Aa (QW N)<|Aa (Om N)<|Aa (S5 N)<|Ae)) ?_;intro f1649 bv r h _ hS F;dsimp only[uE,Ad,Ak];unfold EX at h;obtain⟨dw,ez,h⟩:=un h;replace F:=fc ez F;refine An hS F h (λ_ h=>?_) (λ_ h=>?_)
 ·exact Ah hS F h
 ·obtain⟨⟨r1653,du⟩,eu,h⟩:=un h;replace F:=fc eu F;refine An hS F h (λ_ h=>?_) (λ_ h=>?_)
  ·exact Ah hS F h
  ·refine go hS F ?_;refine C3 hS 1 x177.hf x177.hc x177.hn x177.ok rfl (ev F) (ev F) ?_ rfl (ev F) (A01 rfl) λhb=>?_
   ·exact AS hS F
   dsimp only[x177,Ad];refine go hS F ?_;refine C3 hS 2 x192.hf x192.hc x192.hn x192.ok rfl (ev F) (ev F) ?_ rfl (ev F) (A01 rfl) λhb=>?_
   ·exact AS hS F
   dsimp only[x192,Ad];obtain⟨gm,h⟩:=un h;refine Gn hS F ?_;obtain⟨gj,h⟩:=un h;obtain⟨fx,gz,h⟩:=un h;refine go hS F ?_;refine BU fx (λz:(List (Int×Int×Int×(List (Int×Int))×Int×Int))×Nat=>⟨[(2,.box (1,6) 0),(3,.box (104,11) 0)],[(.c (0,1) 0,Ao f1649),(.c (1,1) 0,.sl 0 true [] []),(.c (104,11) 0,.own (300,10) z.1.length),(.a (300,10),Dm z.1),(.c (1,6) 0,.sl 0 true [] [])],z.2⟩) (λz=>(z.1:(List (Int×Int×Int×(List (Int×Int))×Int×Int)))) (.x 0) ?_ ?_
   ·refine BO (λn (y:Int×(List (Int×Int×Int×(List (Int×Int))×Int×Int))×Nat)=>EI N f1649 n y.1 y.2.1) (λy=>⟨[(2,.box (1,6) 0),(3,.box (104,11) 0),(11,.i (f1649.length:Int)),(12,.i y.1)],[(.c (0,1) 0,Ao f1649),(.c (1,1) 0,.sl 0 true [] []),(.c (104,11) 0,.own (300,10) y.2.1.length),(.a (300,10),Dm y.2.1),(.c (1,6) 0,.sl 0 true [] [])],y.2.2⟩) (0,f1649,12) gz (CB F) ?_;rintro n ⟨x1667,l1668,eh⟩ bz;simp only[EI]at bz;refine An hS F bz (λ_ bz=>?_) (λ_ bz=>?_)
    ·obtain⟨⟨bg,bf,be,b7,bb,ba⟩,fo,bz⟩:=un bz;obtain⟨ge,F⟩:=CH Ap fo F;obtain⟨bn,ep,ib,bz⟩:=un bz;exact CS hS (fc ep F) (n,x1667+1,l1668.set x1667.toNat (bg,bf,be,bn,bb,ba),eh+1+1+1+1) bz
    ·exact Cu hS F (l1668,eh+1) bz
   ·rintro⟨l1682,gr⟩ rfl;obtain⟨g9,gx,gc,h⟩:=un h;refine go hS F ?_;refine Rt (Ctx.fn_ok hS) 5 Aa3 rfl (ev F) ?_ (ev F) (ev F) (by simp) (ev F) (ev F) (ev F) (by simp only[go_sem,seval,F]<;>simp) MQ (oP (l:=l1682) (i:=r1653) (by omega) (by omega) (by omega)) (ev F) ?_ ?_
    ·exact AS hS F
    ·exact AS hS F
    exact Ah hS F h
end
section
open Go
attribute [local irreducible] Aq BD Bv A8 Bq Ba AQ Bw By Ck
def B1(N:Nat)(aa:Int)(f843:List (Int×Int×Int×(List (Int×Int))×Int×Int))(ae:Int)(am:Int)(ak:Int)(aj:List (Int×Int))(ai:Int)(ah:Int):Nat->Int->Option (Sum Unit Bool)|0,_=>none|n+1,an=>bif decide (an<aa)then((Bz f843 an).bind λ(bb,ba,az,ay,aw,av)=>(D7 N ae am ak aj ai ah bb ba az ay aw av).bind λbe=>bif be then(some (.inr false))else(gd (Ai (an+1))<|B1 N aa f843 ae am ak aj ai ah n (an+1)))else(some (.inl ()))
def B2(N:Nat)(f843:List (Int×Int×Int×(List (Int×Int))×Int×Int)):Nat->Int->Option (Sum Unit Bool)|0,_=>none|n+1,aa=>bif decide (aa<(f843.length:Int))then((Bz f843 aa).bind λ(ae,am,ak,aj,ai,ah)=>(CL N ae am ak aj ai ah).bind λbf=>gd ((decide (0<aa))=true->(Ai (aa-1)))<|gd ((decide (0<aa))=true->(0<=aa-1/\aa-1<(f843.length:Int)))<|bif (!bf)||((decide (0<aa))&&(decide (ae<=(f843.getD (aa-1).toNat (0,0,0,[],0,0)).1)))then(some (.inr false))else((B1 N aa f843 ae am ak aj ai ah N 0).bind λau=>match au with|.inl ()=>(gd (Ai (aa+1))<|B2 N f843 n (aa+1))|.inr bo=>(some (.inr bo))))else(some (.inl ()))
def En(N:Nat)(f843:List (Int×Int×Int×(List (Int×Int))×Int×Int)):Option Bool:=bif decide (12<(f843.length:Int))then(some false)else((B2 N f843 N 0).bind λaq=>match aq with|.inl ()=>(some true)|.inr bn=>(some bn))
@[go_sem] def jE(N:Nat):Spec:=p0<|(qG<|qD Ak<|qE<|qE<|qF false .b) (En N)
theorem AaJ(N:Nat):Au Tryz.prog 81 (jE N):=by
 refine fk (wX Y0 (Aa (jC N)<|Aa (uX N)<|Ae)) ?_;intro f843 r h _ hS F;dsimp only[Y0,Ad,Ak];unfold En at h;refine An hS F h (λ_ h=>?_) (λ_ h=>?_)
 ·exact Ah hS F h
 ·obtain⟨aq,bv,h⟩:=un h;refine go hS F ?_;refine BU aq (λz:Nat=>⟨[],[],z⟩) (λz=>(.inl ():Sum Unit Bool)) (.x 0) ?_ ?_
  ·refine BO (λn (y:Int×Nat)=>B2 N f843 n y.1) (λy=>⟨[(1,.box (0,1) 0),(3,.i y.1)],[(.c (0,1) 0,Ao f843)],y.2⟩) (0,3) bv (CB F) ?_;rintro n ⟨aa,bm⟩ ab;simp only[B2]at ab;refine An hS F ab (λ_ ab=>?_) (λ_ ab=>?_)
   ·obtain⟨⟨ae,am,ak,aj,ai,ah⟩,bj,ab⟩:=un ab;obtain⟨br,F⟩:=CH Ap bj F;obtain⟨bf,bh,ce,b9,ab⟩:=un ab;replace F:=fc bh F;refine An hS F ab (λ_ ab=>?_) (λ_ ab=>?_)
    ·obtain rfl:=yJ ab;exact Ah hS F h
    ·obtain⟨au,bu,ab⟩:=un ab;refine go hS F ?_;refine BU au (λz:Nat=>⟨[(1,.box (0,1) 0),(3,.i aa)],[(.c (0,1) 0,Ao f843)],z⟩) (λz=>(.inl ():Sum Unit Bool)) (.x 2) ?_ ?_
     ·refine BO (λn (y:Int×Nat)=>B1 N aa f843 ae am ak aj ai ah n y.1) (λy=>⟨[(1,.box (0,1) 0),(3,.i aa),(4,.i y.1)],[(.c (0,1) 0,Ao f843)],y.2⟩) (0,bm+1+1+1) bu (CB F) ?_;rintro n ⟨an,bl⟩ af;simp only[B1]at af;refine An hS F af (λ_ af=>?_) (λ_ af=>?_)
      ·obtain⟨⟨bb,ba,az,ay,aw,av⟩,bi,af⟩:=un af;obtain⟨bq,F⟩:=CH Ap bi F;obtain⟨be,bg,af⟩:=un af;replace F:=fc bg F;refine An hS F af (λ_ af=>?_) (λ_ af=>?_)
       ·obtain rfl:=yJ af;obtain rfl:=yJ ab;exact Ah hS F h
       ·obtain⟨b7,af⟩:=un af;exact CS hS F (n,an+1,bl+1+1+1) af
      ·exact Cu hS F (bl+1) af
     ·rintro bp rfl;obtain⟨bz,ab⟩:=un ab;exact CS hS F (n,aa+1,bp+1) ab
   ·exact Cu hS F (bm+1) ab
  ·rintro bw rfl;exact Ah hS F h
end
def UV(u:Un):Prop:=UP u.1 u.2.1 u.2.2.1 u.2.2.2.1 u.2.2.2.2.1 u.2.2.2.2.2
def UL(u:Un):Bool:=IJ u.1 u.2.1 u.2.2.1 u.2.2.2.2.1 u.2.2.2.2.2&&vB u.2.2.2.1
theorem Tc{u:Un}:UL u=true↔UV u:=HA
def ZV(u v:Un):Bool:=RX u.1 u.2.1 u.2.2.1 u.2.2.2.1 u.2.2.2.2.1 u.2.2.2.2.2 v.1 v.2.1 v.2.2.1 v.2.2.2.1 v.2.2.2.2.1 v.2.2.2.2.2
open Classical in
def GD(u v:Un):Bool:=ZV u v&&decide (¬apart u.2.2.2.1 v.2.2.2.1)
theorem jT{u v:Un}:ZV u v=true↔(max u.2.2.2.2.1 v.2.2.2.2.1<min u.2.2.2.2.2 v.2.2.2.2.2)/\UV u/\UV v:=by unfold ZV RX UV;rw[y8,y8,s7,HA,HA,and_assoc]
open Classical in
theorem Rh{u v:Un}:GD u v=true↔((max u.2.2.2.2.1 v.2.2.2.2.1<min u.2.2.2.2.2 v.2.2.2.2.2)/\UV u/\UV v)/\¬apart u.2.2.2.1 v.2.2.2.1:=by unfold GD;rw[y8,jT,s7]
theorem LO(u v:Un):GD u v=GD v u:=by rw[A49,Rh,Rh,Int.max_comm,Int.min_comm,and_comm (a:=UV u),show apart u.2.2.2.1 v.2.2.2.1↔apart v.2.2.2.1 u.2.2.2.1 from⟨apart.symm,apart.symm⟩]
structure FV(f:List Un):Prop where
 len:f.length<=12
 val:∀u∈f,UV u
 srt:f.Pairwise λu v=>u.1<v.1
 dis:f.Pairwise λu v=>GD u v=false
noncomputable instance(f:List Un):Decidable (FV f):=Classical.propDecidable _
def A6(f:List Un)(k:Nat):Un:=f.getD k (0,0,0,[],0,0)
theorem GE{f:List Un}{k:Nat}(h:k<f.length):Bz f (k:Int)=some ((A6 f k).1,(A6 f k).2.1,(A6 f k).2.2.1,(A6 f k).2.2.2.1,(A6 f k).2.2.2.2.1,(A6 f k).2.2.2.2.2):=by rw[MJ (0,0,0,[],0,0) (by omega) (by omega),A19];rfl
theorem FB{f:List Un}{k:Nat}(h:k<f.length):A6 f k=f[k]:=by grind[A6]
theorem FY{f:List Un}{k:Nat}(h:k<f.length):A6 f k∈f:=by rw[FB h];exact by grind
theorem Ix{f:List Un}{u:Un}(h:u∈f):∃k,k<f.length/\A6 f k=u:=by obtain⟨k,hk,e⟩:=List.mem_iff_getElem.1 h;exact⟨k,hk,(FB hk).trans e⟩
theorem Hr{f:List Un}{R:Un->Un->Prop}:f.Pairwise R↔∀i k,i<k->k<f.length->R (A6 f i) (A6 f k):=by rw[List.pairwise_iff_getElem];grind[FB]
theorem oG{f:List Un}(h:∀k,0<k->k<f.length->(A6 f (k-1)).1<(A6 f k).1):f.Pairwise λu v=>u.1<v.1:=by rw[Hr];intro i k hik hk;induction k<;>grind
theorem OJ{E:Type}{R:E->E->Prop}:∀{f:List E},(∀e∈EM f,R e.1 e.2)↔f.Pairwise R
 |[]=>by simp[EM]
 |u::r=>by
  rw[A25,EM,<-OJ];constructor
  ·simp_all
  grind
def LP(f:List Un)(k:Nat):Prop:=UL (A6 f k)=true/\(0<k->(A6 f (k-1)).1<(A6 f k).1)
def ZW(f:List Un)(k:Nat):Prop:=LP f k/\∀j,j<k->GD (A6 f k) (A6 f j)=false
theorem MO{f:List Un}{k:Nat}(hk:k<f.length):((!UL (A6 f k))||((decide (0<(k:Int)))&&(decide ((A6 f k).1<=(f.getD ((k:Int)-1).toNat (0,0,0,[],0,0)).1))))=true↔¬LP f k:=by
 have e:((k:Int)-1).toNat=k-1:=by omega
 rw[e,show f.getD (k-1) (0,0,0,[],0,0)=A6 f (k-1)from rfl];unfold LP;cases UL (A6 f k)<;>simp<;>omega
section
variable{N:Nat}(hN:1001<=N)
include hN
theorem eW(u:Un):BG N u.1 u.2.1 u.2.2.1 u.2.2.2.1 u.2.2.2.2.1 u.2.2.2.2.2=some (UL u):=KE (by omega) _ _ _ _ _ _
theorem wU(u:Un):CL N u.1 u.2.1 u.2.2.1 u.2.2.2.1 u.2.2.2.2.1 u.2.2.2.2.2=some (UL u):=RW hN _ _ _ _ _ _
open Classical in
theorem wV(u v:Un):CW N u.1 u.2.1 u.2.2.1 u.2.2.2.1 u.2.2.2.2.1 u.2.2.2.2.2 v.1 v.2.1 v.2.2.1 v.2.2.2.1 v.2.2.2.2.1 v.2.2.2.2.2=some (GD u v):=by
 obtain⟨h1,h2⟩:=WS hN u.1 u.2.1 u.2.2.1 u.2.2.2.1 u.2.2.2.2.1 u.2.2.2.2.2 v.1 v.2.1 v.2.2.1 v.2.2.2.1 v.2.2.2.2.1 v.2.2.2.2.2;obtain⟨r,g1,g2⟩:=SF hN u.2.2.2.1 v.2.2.2.1;unfold CW;rw[h1,g1,bS];simp only;rw[BY (by grind),A00];unfold GD;rw[show RX u.1 u.2.1 u.2.2.1 u.2.2.2.1 u.2.2.2.2.1 u.2.2.2.2.2 v.1 v.2.1 v.2.2.1 v.2.2.2.1 v.2.2.2.2.1 v.2.2.2.2.2=ZV u v from rfl];cases hd:ZV u v with
 |false=>rfl
 |true=>have hv:=jT.1 hd;have e:=Lg hN hv.2.1.l hv.2.2.l;rw[g1]at e;rw[yJ e];congr 2;rw[A49,A28,s7,<-MM,Bool.not_eq_true]
theorem rov(u v:Un):D7 N u.1 u.2.1 u.2.2.1 u.2.2.2.1 u.2.2.2.2.1 u.2.2.2.2.2 v.1 v.2.1 v.2.2.1 v.2.2.2.1 v.2.2.2.2.1 v.2.2.2.2.2=some (GD u v):=by obtain⟨r,h1,h2⟩:=Aba hN u.1 u.2.1 u.2.2.1 u.2.2.2.1 u.2.2.2.2.1 u.2.2.2.2.2 v.1 v.2.1 v.2.2.1 v.2.2.2.1 v.2.2.2.2.1 v.2.2.2.2.2;rw[h2,<-h1,wV hN]
theorem oH{f:List Un}(hf:f.length<=12):(CO N f N 0=some (.inl ())/\∀k,k<f.length->LP f k)\/(CO N f N 0=some (.inr false)/\∃k,k<f.length/\¬LP f k):=by
 classical
 have F:=HK (L:=CO N f) (len:=f.length) (λk=>if LP f k then none else some false) (λn k hk e=>?_) (λn k r hk e=>?_) (λn=>?_) N (by omega)
 ·grind
 ·by_cases c:LP f k
  ·rw[CO,Fe hk,cT,GE hk,bS];simp only;rw[eW hN,bS,BY (by omega),BY (by grind),BL _ (by rw[A21];exact λh=>(MO hk).1 h c),Ab (by omega),ns]
  grind
 ·by_cases c:LP f k
  ·rw[t8 c]at e;cases e
  ·rw[t7 c]at e;cases e
   rw[CO,Fe hk,cT,GE hk,bS];simp only;rw[eW hN,bS,BY (by omega),BY (by grind),Ca _ ((MO hk).2 c)]
 ·rw[CO,K3,cF]
open Classical in
theorem WH:∀ps:List (Un×Un),DN N ps=some (if∀e∈ps,GD e.1 e.2=false then .inl ()else .inr false)
 |[]=>by rw[DN,t8 (by simp)]
 |((y29,y30,y31,y32,y33,y34),(y35,y36,y37,y38,y39,y40))::ys=>by have e:=wV hN (y29,y30,y31,y32,y33,y34) (y35,y36,y37,y38,y39,y40);rw[DN,e,bS,WH ys];cases h:GD (y29,y30,y31,y32,y33,y34) (y35,y36,y37,y38,y39,y40)<;>simp_all
omit hN in
theorem jU{f:List Un}(h1:f.length<=12)(h2:∀k,k<f.length->LP f k)(h3:f.Pairwise λu v=>GD u v=false):FV f:=⟨h1,λu hu=>by obtain⟨k,hk,rfl⟩:=Ix hu;exact Tc.1 (h2 k hk).1,oG λk h0 hk=>(h2 k hk).2 h0,h3⟩
omit hN in
theorem FV.at{f:List Un}(h:FV f){k:Nat}(hk:k<f.length):LP f k:=⟨Tc.2 (h.val _ (FY hk)),λh0=>Hr.1 h.srt (k-1) k (by omega) hk⟩
open Classical in
theorem UM(f:List Un):Ef N f=some (decide (FV f)):=by
 unfold Ef;by_cases hl:f.length<=12
 ·rw[BL _ (by rw[s8];omega)];rcases oH hN hl with⟨e,h⟩|⟨e,k,hk,h⟩
  ·rw[e,bS];rw[Ab (by omega),WH hN,bS];by_cases c:∀e∈EM f,GD e.1 e.2=false
   ·rw[t8 c];rw[q9 (jU hl h (OJ.1 c))]
   ·rw[t7 c];rw[s6 λv=>c (OJ.2 v.dis)]
  ·rw[e,bS];rw[s6 λv=>h (v.at hk)]
 ·rw[Ca _ (by rw[s7];omega),s6 λv=>hl v.len]
theorem WI{f:List Un}{i:Nat}(hi:i<f.length)(hf:f.length<=12):(B1 N i f (A6 f i).1 (A6 f i).2.1 (A6 f i).2.2.1 (A6 f i).2.2.2.1 (A6 f i).2.2.2.2.1 (A6 f i).2.2.2.2.2 N 0=some (.inl ())/\∀k,k<i->GD (A6 f i) (A6 f k)=false)\/(B1 N i f (A6 f i).1 (A6 f i).2.1 (A6 f i).2.2.1 (A6 f i).2.2.2.1 (A6 f i).2.2.2.2.1 (A6 f i).2.2.2.2.2 N 0=some (.inr false)/\∃k,k<i/\GD (A6 f i) (A6 f k)=true):=by
 have F:=HK (L:=B1 N i f (A6 f i).1 (A6 f i).2.1 (A6 f i).2.2.1 (A6 f i).2.2.2.1 (A6 f i).2.2.2.2.1 (A6 f i).2.2.2.2.2) (len:=i) (λk=>bif GD (A6 f i) (A6 f k)then some false else none) (λn k hk e=>?_) (λn k r hk e=>?_) (λn=>?_) N (by omega)
 ·grind
 ·cases c:GD (A6 f i) (A6 f k)with
  |true=>rw[c,cT]at e;cases e
  |false=>rw[B1,Fe hk,cT,GE (by omega),bS];simp only;rw[rov hN,bS,c,cF,Ab (by omega),ns]
 ·cases c:GD (A6 f i) (A6 f k)with
  |false=>rw[c,cF]at e;cases e
  |true=>
   rw[c,cT]at e;cases e
   rw[B1,Fe hk,cT,GE (by omega),bS];simp;rw[rov hN,bS,c,cT]
 ·rw[B1,K3,cF]
theorem eX{f:List Un}(hf:f.length<=12):(B2 N f N 0=some (.inl ())/\∀k,k<f.length->ZW f k)\/(B2 N f N 0=some (.inr false)/\∃k,k<f.length/\¬ZW f k):=by
 classical
 have F:=HK (L:=B2 N f) (len:=f.length) (λk=>if ZW f k then none else some false) (λn k hk e=>?_) (λn k r hk e=>?_) (λn=>?_) N (by omega)
 ·grind
 ·by_cases c:ZW f k
  ·rw[B2,Fe hk,cT,GE hk,bS];simp only;rw[wU hN,bS,BY (by omega),BY (by grind),BL _ (by rw[A21];exact λh=>(MO hk).1 h c.1)];rcases WI hN hk hf with⟨e,h⟩|⟨e,j,hj,h⟩
   ·rw[e,bS];rw[Ab (by omega),ns]
   ·have:=c.2 j hj;rw[h]at this;cases this
  grind
 ·by_cases c:ZW f k
  ·rw[t8 c]at e;cases e
  ·rw[t7 c]at e;cases e
   rw[B2,Fe hk,cT,GE hk,bS];simp only;rw[wU hN,bS,BY (by omega),BY (by grind)];by_cases c1:LP f k
   ·rw[BL _ (by rw[A21];exact λh=>(MO hk).1 h c1)];rcases WI hN hk hf with⟨e,h⟩|⟨e,j,hj,h⟩
    ·exact absurd ⟨c1,h⟩ c
    ·rw[e,bS]
   ·rw[Ca _ ((MO hk).2 c1)]
 ·rw[B2,K3,cF]
open Classical in
theorem jV(f:List Un):En N f=some (decide (FV f)):=by
 unfold En;by_cases hl:f.length<=12
 ·rw[BL _ (by rw[s8];omega)];rcases eX hN hl with⟨e,h⟩|⟨e,k,hk,h⟩
  ·rw[e,bS];rw[q9 (jU hl (λk hk=>(h k hk).1) (Hr.2 λi k hik hk=>by rw[LO];exact(h k hk).2 i hik))]
  ·rw[e,bS];rw[s6 λv=>h ⟨v.at hk,by grind[LO,Hr,v.dis]⟩]
 ·rw[Ca _ (by rw[s7];omega),s6 λv=>hl v.len]
end
structure Pos(f:List Un)(t:Int)(i:Nat):Prop where
 le:i<=f.length
 lo:∀k,k<i->(A6 f k).1<t
 hi:∀k,i<=k->k<f.length->t<=(A6 f k).1
theorem WJ:∀s,s<60->IntKind.wrap .i64 (D5 .shr .u64 (IntKind.wrap .u64 ((s:Nat):Int)) 1)=((s/2:Nat):Int):=by decide+kernel
theorem UN{f:List Un}(h:FV f){i k:Nat}(hik:i<=k)(hk:k<f.length):(A6 f i).1<=(A6 f k).1:=by
 by_cases e:i=k
 ·rw[e];omega
 ·have:=Hr.1 h.srt i k (by omega) hk;omega
theorem XQ(N:Nat)(u:Un)(t:Int):FG N u.1 u.2.1 u.2.2.1 u.2.2.2.1 u.2.2.2.2.1 u.2.2.2.2.2 t=some (if u.1<t then-1 else if t<u.1 then 1 else 0):=by unfold FG;rw[Lf,bS]
theorem RO(N:Nat){f:List Un}(h:FV f)(t:Int):∀(n i j:Nat),i<=j->j<=f.length->j<n+i->(∀k,k<i->(A6 f k).1<t)->(∀k,j<=k->k<f.length->t<=(A6 f k).1)->∃r:Nat,AJ N f t n i j=some (r:Int)/\Pos f t r
 |0,i,j,h1,_,h3,_,_=>by omega
 |n+1,i,j,h1,h2,h3,h4,h5=>by
  have hl:=h.len;rw[AJ];by_cases e:i=j
  ·subst e;rw[K3,cF];exact⟨i,rfl,h2,h4,h5⟩
  ·have hm:(i+j)/2<f.length:=by omega
   rw[Fe (by omega),cT,Ab (by unfold Ai;omega),<-Int.natCast_add,WJ _ (by omega),GE hm,bS];simp only;rw[XQ,bS];by_cases c:(A6 f ((i+j)/2)).1<t
   ·rw[t8 c,Ca _ (by rfl),Ab (by unfold Ai;omega),<-ns];exact RO N h t n _ j (by omega) h2 (by omega) (λk hk=>by have:=UN h (i:=k) (k:=(i+j)/2) (by omega) hm;omega) h5
   ·rw[t7 c,BL _ (by split<;>rfl)];exact RO N h t n i _ (by omega) (by omega) (by omega) h4 (λk h6 h7=>by have:=UN h h6 h7;omega)
theorem Pos.found{f:List Un}(h:FV f){t:Int}{i:Nat}(p:Pos f t i):(i<f.length/\(A6 f i).1=t)↔∃u∈f,u.1=t:=by
 constructor
 ·rintro⟨h1,h2⟩;exact⟨_,FY h1,h2⟩
 ·rintro⟨u,hu,e⟩;obtain⟨k,hk,rfl⟩:=Ix hu;have h1:i<=k:=by
   by_cases c:i<=k
   ·exact c
   ·have:=p.lo k (by omega);omega
  have h2:=p.hi i (w6 _) (by omega);have h3:=UN h h1 hk;exact⟨by omega,by omega⟩
open Classical in
theorem Td{N:Nat}(hN:1001<=N){f:List Un}(h:FV f)(t:Int):∃r:Nat,Pos f t r/\AP N f t=some ((r:Int),decide (∃u∈f,u.1=t)):=by
 have hl:=h.len;obtain⟨r,e,p⟩:=RO N h t N 0 f.length (by omega) (by omega) (by omega) (λk hk=>by omega) (λk h1 h2=>by omega);rw[y9]at e;refine⟨r,p,?_⟩;unfold AP;rw[e,bS,BY (λh=>by simp only[s7]at h;omega),BY (λ_=>?_)]
 ·congr 2;rw[A49,s7,<-p.found h,y8,s7,s7,A19];have:=XQ N (A6 f r) t;unfold A6 at this;rw[this,A00];constructor
  ·rintro⟨h1,h2⟩;refine⟨by omega,?_⟩;show(f.getD r _).1=t;split at h2
   ·omega
   ·split at h2<;>omega
  ·rintro⟨h1,h2⟩;have h2:(f.getD r (0,0,0,[],0,0)).1=t:=h2;exact⟨by omega,by rw[t7 (by omega),t7 (by omega)]⟩
 ·have:=XQ N (A6 f r) t;unfold A6 at this;rw[A19,this,w8]
def Ri:Un:=(0,0,0,[],0,0)
open Classical in
def FD(f:List Un)(t:Int):Un×Bool:=if FV f then(match f.find? (λu=>decide (u.1=t))with|some u=>(u,true)|none=>(Ri,false))else(Ri,false)
theorem FV.uniq{f:List Un}(h:FV f){i k:Nat}(hi:i<f.length)(hk:k<f.length)(e:(A6 f i).1=(A6 f k).1):i=k:=by
 by_cases c:i=k
 ·exact c
 by_cases l:i<k
 ·have:=Hr.1 h.srt i k l hk;omega
 ·have:=Hr.1 h.srt k i (by omega) hi;omega
theorem RP{f:List Un}(h:FV f){i:Nat}(hi:i<f.length):f.find? (λu=>decide (u.1=(A6 f i).1))=some (A6 f i):=by
 cases e:f.find? (λu=>decide (u.1=(A6 f i).1))with
 |none=>have:=List.find?_eq_none.1 e _ (FY hi);simp at this
 |some u=>have h1:=List.find?_some e;obtain⟨k,hk,rfl⟩:=Ix (List.mem_of_find?_eq_some e);rw[s7]at h1;rw[h.uniq hk hi h1]
theorem WK{f:List Un}{t:Int}(h:¬∃u∈f,u.1=t):f.find? (λu=>decide (u.1=t))=none:=List.find?_eq_none.2 λu hu=>by rw[s7];exact λe=>h ⟨u,hu,e⟩
theorem UO{u:Un}(h:UV u):u.2.2.2.1≠[]:=λe=>by have:=h.l.l3;rw[e]at this;simp at this
theorem Aa0{N:Nat}(hN:1001<=N)(f:List Un)(t:Int):BV N f t=some (FD f t):=by
 unfold BV FD;rw[UM hN,bS];by_cases hf:FV f
 ·obtain⟨r,p,e⟩:=Td hN hf t;rw[q9 hf,BL _ (by rfl),t8 hf,e,bS];simp only;by_cases c:∃u∈f,u.1=t
  ·obtain⟨h1,h2⟩:=(p.found hf).2 c;have u:=hf.val _ (FY h1);have l8:=u.l.l8;rw[q9 c,BL _ (by rfl),GE h1,bS];simp only;rw[Ab (UO u),Ab (by omega),<-h2,RP hf h1]
  ·rw[s6 c,Ca _ (by rfl),WK c];rfl
 ·rw[s6 hf,Ca _ (by rfl),t7 hf];rfl
theorem OL(N:Nat){u:Un}(h:u.2.2.2.1.length<=1000):CE N u.1 u.2.1 u.2.2.1 u.2.2.2.1 u.2.2.2.2.1 u.2.2.2.2.2=some u:=by unfold CE;rw[Ab (by omega)]
