import Derived.Test.YtjdchfljifacoaaGreatA24
set_option linter.all false
set_option maxRecDepth 100000
set_option maxHeartbeats 8000000
noncomputable section
namespace Go.Proofs.YtjdchfljifacoaaGreat.Am
section
open Go
theorem V2{V:Ctx}(t:Nat)(y:AV){x0:AV}{x:AC}{Q:AE->St->Prop}{e:Az}{h:Hp}{c:Nat}(ht:t<V.nt)(he:lk e t=x0)(hw:∀U v,Rep U x0 v->Rep U y v)(hQ:Ax V x Q ⟨(t,y)::e,h,c⟩):Ax V x Q ⟨e,h,c⟩:=by
 intro code hcc U a hA;have hr:=hA.1.t t;rw[he]at hr;have ev:=Evo.refl U;refine hQ code hcc U a ⟨⟨hA.1.h,λt'=>?_,hA.1.sz,(hA.1.df.mono ev).un (.inr (MK ht))⟩,hA.2.1,V.g hA.2.2 ev λt' ht'=>?_⟩
 ·simp only[lk];by_cases e:t=t'
  ·subst e;rw[dX rfl];exact hw _ _ hr
  ·rw[dW e];exact hA.1.t t'
 ·right;simp only[lk];rw[dW (by omega)]
theorem Yb{V:Ctx}(t:Nat){z:Nat}{f:Bool}{d:List AV}{x:AC}{Q:AE->St->Prop}{e:Az}{h:Hp}{c:Nat}(ht:t<V.nt)(he:lk e t=.sl z f [] d)(h1:∀k,Ax V x Q ⟨(t,.v (.slice none 0 k))::e,h,c⟩)(h2:∀b k,Ax V x Q ⟨(t,.v (.slice (some b) 0 k))::e,h,c⟩):Ax V x Q ⟨e,h,c⟩:=by
 intro code hcc U a hA;have hr:=hA.1.t t;rw[he]at hr;obtain⟨base,cap,hv,_⟩:=hr;have ev:=Evo.refl U;have key:∀y,(∀v,v=a.tmps.getD t undef->Rep U y v)->Ax V x Q ⟨(t,y)::e,h,c⟩->code.wpIn V.F 0 V.P (lift V U Q) a U.w:=λy hw hQ=>by
  refine hQ code hcc U a ⟨⟨hA.1.h,λt'=>?_,hA.1.sz,(hA.1.df.mono ev).un (.inr (MK ht))⟩,hA.2.1,V.g hA.2.2 ev λt' ht'=>?_⟩
  ·simp only[lk];by_cases e:t=t'
   ·subst e;rw[dX rfl];exact hw _ rfl
   ·rw[dW e];exact hA.1.t t'
  ·right;simp only[lk];rw[dW (by omega)]
 cases base with
 |none=>exact key _ (λv e=>by subst e;simp only[Rep];exact hv) (h1 cap)
 |some b=>exact key _ (λv e=>by subst e;simp only[Rep];exact hv) (h2 b cap)
theorem rD{U:Cf}{z:Nat}{d:List AV}{b:Option Addr}{k:Nat}(v:Value)(h:Rep U (.v (.slice b 0 k)) v):Rep U (.sl z false [] d) v:=by simp only[Rep]at h⊢;exact⟨b,k,h,rB _,λh=>Bool.noConfusion h,λr hr=>absurd hr List.not_mem_nil,.inl trivial⟩
theorem iX{V:Ctx}(m:Nm)(j:Nat)(y:AV){x0:AV}{x:AC}{Q:AE->St->Prop}{e:Az}{h:Hp}{c:Nat}(he:hl h (.c m j)=some x0)(hm:isM x0=false)(hw:∀U v,Rep U x0 v->Rep U y v)(hQ:Ax V x Q ⟨e,(.c m j,y)::h,c⟩):Ax V x Q ⟨e,h,c⟩:=by
 intro code hc U a hA;obtain⟨k1,k2,cs,T,v,k3,k4,k5,k6⟩:=(hA.1.h.cel m j _ he).cells hm;have hI:=hA.1.h;have ev:=Evo.refl U;refine hQ code hc U a ⟨⟨⟨λn'=>?_,λn' j' c' hc'=>?_,λn' sz live rows d' hc'=>?_,λp q b hp hq=>?_,hI.lt,hI.ou,hI.dis⟩,hA.1.t,hA.1.sz,hA.1.df⟩,hA.2.1,hA.2.2⟩
 ·have:=hI.ln n';simpa only[lenOf,hl,dW (show¬Loc.c m j=Loc.a n' by intro e;cases e)]using this
 ·simp only[hl]at hc';by_cases e:Loc.c m j=Loc.c n' j'
  ·rw[dX e]at hc';cases e
   simp at hc';subst hc';exact⟨k1,k2,.inl ⟨cs,T,_,k3,k4,k5,hw _ _ k6⟩⟩
  ·rw[dW e]at hc';exact hI.cel n' j' c' hc'
 ·simp only[hl,dW (show¬Loc.c m j=Loc.a n' by intro e;cases e)]at hc';exact hI.arr n' sz live rows d' hc'
 ·have key:∀p b,Owns U ((.c m j,y)::h) p b->Owns U h p b:=by
   rintro p b (⟨g1,g2,j',c',g3⟩|⟨g1,⟨sz,rows,d',g2⟩,o,cap,g3,g4⟩)
   ·simp only[hl]at g3;by_cases e:Loc.c m j=Loc.c p.2 j'
    ·cases e
     exact .inl ⟨g1,g2,j,x0,he⟩
    ·rw[dW e]at g3;exact .inl ⟨g1,g2,j',c',g3⟩
   ·simp only[hl]at g2;rw[dW (by intro e;cases e)]at g2;exact .inr ⟨g1,⟨sz,rows,d',g2⟩,o,cap,g3,g4⟩
  exact hI.inj p q b (key p b hp) (key q b hq)
theorem Yc{U:Cf}{z z':Nat}{f:Bool}{d d':List AV}(v:Value)(h:Rep U (.sl z f [] d) v):Rep U (.sl z' false [] d') v:=by simp only[Rep]at h⊢;obtain⟨b,k,h1,h2,_⟩:=h;exact⟨b,k,h1,h2,λh=>Bool.noConfusion h,λr hr=>absurd hr List.not_mem_nil,.inl trivial⟩
theorem Yd{V:Ctx}(m:Nm)(j:Nat)(z':Nat)(d':List AV){z:Nat}{f:Bool}{d:List AV}{x:AC}{Q:AE->St->Prop}{e:Az}{h:Hp}{c:Nat}(he:hl h (.c m j)=some (.sl z f [] d))(hQ:Ax V x Q ⟨e,(.c m j,.sl z' false [] d')::h,c⟩):Ax V x Q ⟨e,h,c⟩:=iX m j _ he rfl (λ_=>Yc) hQ
end
section
open Go
attribute [local irreducible] Ax BO BB Bj BC Bk AY BD BK Cq
def BJ(N:Nat)(s1550:List (Int×Int)):Option (List (Int×Int)):=gd (s1550≠[])<|gd ((s1550.length)*16<=140737488355328)<|some s1550
@[go_sem] def s87(N:Nat):Spec:=p0<|pS Aq λs1550=>pE<|pF (BJ N s1550) [] λr=>BP r
theorem UZ(N:Nat):AG Tryz.prog 87 (s87 N):=by
 refine Ar x87.ok<|AF λs1550=>Ad<|As λr h=>wx x87 (Aj) λ_ hS F=>?_
 dsimp only[x87,Ah,Aq];unfold BJ at h;obtain⟨gy,h⟩:=un h;refine KR hS F ?_;obtain⟨gx,h⟩:=un h;exact Ai hS F h
def Iq(N:Nat)(bp:Int)(bo:Int)(bn:Int)(bm:List (Int×Int))(bl:Int)(bj:Int)(bi:Int)(bh:Int)(bg:Int)(bf:List (Int×Int))(be:Int)(bb:Int):Option Bool:=(Fy N bi bh bg bf be bb bp bo bn bm bl bj).bind λei=>some ei
@[go_sem] def Ad6(N:Nat):Spec:=p0<|pG<|pI λbp=>pI λbo=>pI λbn=>pS Aq λbm=>pI λbl=>pI λbj=>pE<|pO<|pI λbi=>pI λbh=>pI λbg=>pR Aq λbf=>pI λbe=>pI λbb=>pE<|pE<|pF (Iq N bp bo bn bm bl bj bi bh bg bf be bb) false λr=>.b r
theorem yV(N:Nat):AG Tryz.prog 201 (Ad6 N):=by
 refine Ar x201.ok<|Aw<|Aa λbp=>Aa λbo=>Aa λbn=>AF λbm=>Aa λbl=>Aa λbj=>Ad<|Ii<|Aa λbi=>Aa λbh=>Aa λbg=>QI λbf=>Aa λbe=>Aa λbb=>Ad<|Ad<|As λr h=>wx x201 (Ab (cS N)<|Aj) λ_ hS F=>?_
 dsimp only[x201,Ah,Aq];unfold Iq at h;obtain⟨ei,fr,h⟩:=un h;exact Ai hS (fc fr F) h
def Bb(N:Nat)(s1565:List (Int×Int×Int×(List (Int×Int))×Int×Int))(au:Int)(aq:Int)(an:Int)(am:List (Int×Int))(ak:Int)(aj:Int):Nat->Int->Option (Sum Unit Int)|0,_=>none|n+1,av=>bif decide (av<(s1565.length:Int))then((A7 s1565 av).bind λ(d7,dz,dw,du,dt,dq)=>(Iq N d7 dz dw du dt dq au aq an am ak aj).bind λeh=>bif eh then(some (.inr av))else(gd (Af (av+1))<|Bb N s1565 au aq an am ak aj n (av+1)))else(some (.inl ()))
def CS(N:Nat)(s1565:List (Int×Int×Int×(List (Int×Int))×Int×Int))(au:Int)(aq:Int)(an:Int)(am:List (Int×Int))(ak:Int)(aj:Int):Option Int:=(Bb N s1565 au aq an am ak aj N 0).bind λdg=>match dg with|.inl ()=>(some (-1))|.inr gi=>(some gi)
@[go_sem] def cU(N:Nat):Spec:=p0<|pD Ak λs1565=>pL 201<|pO<|pI λau=>pI λaq=>pI λan=>pR Aq λam=>pI λak=>pI λaj=>pE<|pE<|pE<|pF (CS N s1565 au aq an am ak aj) 0 λr=>.i r
theorem XE(N:Nat):AG Tryz.prog 209 (cU N):=by
 refine Ar x209.ok<|AM λs1565=>Kn<|Ii<|Aa λau=>Aa λaq=>Aa λan=>QI λam=>Aa λak=>Aa λaj=>Ad<|Ad<|Ad<|As λr h=>wx x209 (Ab (yV N)<|Aj) λ_ hS F=>?_
 dsimp only[x209,Ah,Aq,Ak];unfold CS at h;obtain⟨dg,ii,h⟩:=un h;refine go hS F ?_;refine Bz dg (λz:Nat=>⟨[],[],z⟩) (λz=>(.inl ():Sum Unit Int)) (.x 0) ?_ ?_
 ·refine Bp (λn (y:Int×Nat)=>Bb N s1565 au aq an am ak aj n y.1) (λy=>⟨[(0,Ap s1565),(1,.clo (.func 201) [] [.ro [.i au,.i aq,.i an,BP am,.i ak,.i aj] 0]),(7,.i (s1565.length:Int)),(8,.i y.1)],[],y.2⟩) (0,2) ii (Ch F) ?_;rintro n ⟨av,e8⟩ az;simp only[Bb]at az;refine An hS F az (λ_ az=>?_) (λ_ az=>?_)
  ·obtain⟨⟨d7,dz,dw,du,dt,dq⟩,gh,az⟩:=un az;obtain⟨gv,F⟩:=Cb Au gh F;obtain⟨eh,fq,az⟩:=un az;replace F:=fc fq F;refine An hS F az (λ_ az=>?_) (λ_ az=>?_)
   ·obtain rfl:=yJ az;exact Ai hS F h
   ·obtain⟨gw,az⟩:=un az;exact Cd hS F (n,av+1,e8+1+1+1+1) az
  ·exact B4 hS F (e8+1) az
 ·rintro g9 rfl;exact Ai hS F h
def BH(N:Nat)(bq:List (Int×Int×Int×(List (Int×Int))×Int×Int))(b7:Int)(bz:Int)(bw:Int)(bv:List (Int×Int))(bu:Int)(br:Int):Option Bool:=(CS N bq b7 bz bw bv bu br).bind λee=>some (decide (0<=ee))
@[go_sem] def cV(N:Nat):Spec:=p0<|pD Ak λbq=>pL 201<|pO<|pI λb7=>pI λbz=>pI λbw=>pR Aq λbv=>pI λbu=>pI λbr=>pE<|pE<|pE<|pF (BH N bq b7 bz bw bv bu br) false λr=>.b r
theorem XF(N:Nat):AG Tryz.prog 200 (cV N):=by
 refine Ar x200.ok<|AM λbq=>Kn<|Ii<|Aa λb7=>Aa λbz=>Aa λbw=>QI λbv=>Aa λbu=>Aa λbr=>Ad<|Ad<|Ad<|As λr h=>wx x200 (Ab (XE N)<|Aj) λ_ hS F=>?_
 dsimp only[x200,Ah,Aq,Ak];unfold BH at h;obtain⟨ee,fp,h⟩:=un h;exact Ai hS (fc fp F) h
def ZA:Spec|[.sl 0 true [] [],.v (.int .i64 n),.sl 6 _ [u] d]=>some (n=0/\u.length=6,.sl 6 false [u] d)|_=>none
@[go_sem] theorem Ad7(n:Int)(f:Bool)(u d:List AV):ZA [.sl 0 true [] [],.v (.int .i64 n),.sl 6 f [u] d]=some (n=0/\u.length=6,.sl 6 false [u] d):=rfl
theorem sK:AG Tryz.prog 203 ZA:=by
 refine⟨ZY,λargs vc r h hv=>?_⟩;unfold ZA at h;split at h
 ·rename_i n f u d;simp only[yE,F9]at h;obtain⟨rfl,rfl⟩:=h;obtain⟨rfl,hu⟩:=hv;intro U vs gl hlt hp hr;simp only[RepL]at hr;obtain⟨v0,_,rfl,r0,v1,_,rfl,r1,v2,_,rfl,r2,rfl⟩:=hr;simp only[AP,B2,fW,DV]at hp;simp only[Rep]at r0 r1;obtain⟨base,cap,rfl,_,hc,_⟩:=r0;have hc:=hc trivial;simp only[t8]at hc;subst hc;subst r1;have r2':Rep U (.sl 6 false [u] d) v2:=by simp only[Rep]at r2⊢;obtain⟨b2,c2,h1,h2,h3,h4,h5⟩:=r2;exact⟨b2,c2,h1,h2,λe=>(by cases e),h4,h5⟩
  have pu:AP u=true:=by simp only[Rep]at r2;obtain⟨_,_,_,_,_,h4,_⟩:=r2;exact h4 u (by simp)
  have o:=YA (rows:=[]) (u:=u) (d:=d) (i:=0) (eN _) (by decide) (by simp) U [.int .i64 0,v2] [] base U.w.heap.size 0 0 gl hlt (by simp only[RepL];exact⟨_,_,rfl,by simp only[Rep];rfl,_,_,rfl,r2',rfl⟩) (by simp[RepL]) (by simp) (by simp) (eN _) (.inr ⟨rfl,eN _⟩);refine o.mono ?_;rintro e w' ⟨b',o',cap',vals',rfl,q1,q2,q3,q4,q5,q6,q7⟩;have hk:∀x,x<U.w.heap.size->w'.heap[x]? =U.w.heap[x]? :=λx hx=>q2.heap x hx (by omega)
  refine⟨_,rfl,λx ob hx=>?_,q2.io,?_,?_⟩
  ·rw[hk x (dY.1 hx).1];exact hx
  ·simp[B2]
  ·have hf:∀b,Fz U b->Fz (U.at w') b:=λb hb=>⟨hb.1,hb.2.1,sN hb.2.2 q2.sz⟩
   have q8:=RepL.ofPure (σ':=U.at w') hf (λb hb=>hk b hb.2.2) _ vals' (by simpa using pu) q6;simp only[Rep];refine⟨_,cap',rfl,q1,λe=>(by cases e),λr hr=>?_,.inr ⟨b',o',rfl,⟨λhM=>?_,λhO=>?_,q4⟩,Dl q8 q7 q5 λr hr=>?_⟩⟩
   ·simp only[List.take_nil,List.drop_nil,kN,nA,tJ]at hr;rw[hr];exact pu
   ·have:=hlt b' (.inl hM);omega
   ·have:=hlt b' (.inr hO);omega
   ·simp only[List.take_nil,List.drop_nil,kN,nA,tJ]at hr;rw[hr];exact hu
 ·cases h
def FX(N:Nat)(f1607:List (Int×Int×Int×(List (Int×Int))×Int×Int)):Nat->Int->(List (Int×Int×Int×(List (Int×Int))×Int×Int))->Option ((List (Int×Int×Int×(List (Int×Int))×Int×Int)))|0,_,_=>none|n+1,x1630,l1631=>bif decide (x1630<(f1607.length:Int))then((A7 l1631 x1630).bind λ(cr,cq,co,dp,cn,cm)=>(BJ N dp).bind λcy=>gd (Af (x1630+1))<|FX N f1607 n (x1630+1) (l1631.set x1630.toNat (cr,cq,co,cy,cn,cm)))else(some l1631)
def Fd(N:Nat)(f1607:List (Int×Int×Int×(List (Int×Int))×Int×Int))(aa:Int)(ah:Int)(af:Int)(ai:List (Int×Int))(ae:Int)(ab:Int):Option ((List (Int×Int×Int×(List (Int×Int))×Int×Int))×Int):=(ER N f1607).bind λda=>gd ((!(!da))=true->((B6 N aa ah af ai ae ab).isSome=true))<|bif ((!da)||(!((B6 N aa ah af ai ae ab).getD false)))||(decide ((f1607.length:Int)=12))then(some ([],120))else((A5 N f1607 aa).bind λ(r1616,cz)=>gd ((!cz)=true->((BH N f1607 aa ah af ai ae ab).isSome=true))<|bif cz||((BH N f1607 aa ah af ai ae ab).getD false)then(some ([],120))else(gd ((f1607.length)*64<=140737488355328)<|(FX N f1607 N 0 f1607).bind λl1645=>(BJ N ai).bind λay=>gd (0<=r1616/\r1616<=(l1645.length:Int))<|gd ((l1645.length+1)*64<=140737488355328)<|some (l1645.take r1616.toNat++[(aa,ah,af,ay,ae,ab)]++l1645.drop r1616.toNat,0)))
@[go_sem] def Ad8(N:Nat):Spec:=p0<|pG<|pD Ak λf1607=>pE<|pG<|pI λaa=>pI λah=>pI λaf=>pD Aq λai=>pI λae=>pI λab=>pE<|pE<|pF (Fd N f1607 aa ah af ai ae ab) ([],0) λr=>.tup [.agg [Ap r.1],.i r.2]
theorem Wm(N:Nat):AG Tryz.prog 186 (Ad8 N):=by
 refine Ar x186.ok<|Aw<|AM λf1607=>Ad<|Aw<|Aa λaa=>Aa λah=>Aa λaf=>AM λai=>Aa λae=>Aa λab=>Ad<|Ad<|As λr h=>wx x186 (Ab sK<|Ab (SG N)<|Ab (Pj N)<|Ab (Qa N)<|Ab (XF N)<|Ab (UZ N)<|Aj) λ_ hS F=>?_
 dsimp only[x186,Ah,Aq,Ak];unfold Fd at h;obtain⟨da,fo,gy,h⟩:=un h;replace F:=fc fo F;refine An hS F h (λ_ h=>?_) (λ_ h=>?_)
 ·exact Ai hS F h
 ·obtain⟨⟨r1616,cz⟩,fm,h⟩:=un h;obtain⟨gx,h⟩:=un h;replace F:=fc fm F;refine An hS F h (λ_ h=>?_) (λ_ h=>?_)
  ·exact Ai hS F h
  ·refine go hS F ?_;refine GO hS 1 x202.hf x202.hc x202.hn x202.ok rfl (ev F) (ev F) ?_ rfl (ev F) (kM rfl) λhb=>?_
   ·exact Bl hS F
   dsimp only[x202,Ah];refine go hS F ?_;refine GO hS 2 x210.hf x210.hc x210.hn x210.ok rfl (ev F) (ev F) ?_ rfl (ev F) (kM rfl) λhb=>?_
   ·exact Bl hS F
   dsimp only[x210,Ah];by_cases gw:f1607=[]
   ·subst gw;obtain⟨ie,h⟩:=un h;obtain⟨db,gm,h⟩:=un h;obtain rfl:db=[]:=by
     cases N with
     |zero=>cases gm
     |succ n=>rw[FX]at gm;exact(yJ gm).symm
    obtain⟨ay,ba,gr,ib,h⟩:=un h;obtain rfl:r1616=0:=by simp only[t8]at gr;omega
    replace F:=fc ba F;refine Yb 0 (by show(0:Nat)<8;omega) (ev F) (λk=>?_) (λb k=>?_)
    ·refine Om hS F ?_;refine go hS F ?_;refine Pi 30 ?_;refine KR hS F ?_;exact Ai hS F h
    ·refine KR hS F ?_;refine V2 0 (.sl 6 false [] [.i 0,.i 0,.i 0,.sl 0 true [] [],.i 0,.i 0]) (by show(0:Nat)<8;omega) (ev F) (λ_=>rD) ?_;refine go hS F ?_;refine Pi 30 ?_;refine KR hS F ?_;refine go hS F ?_;refine Ta (Ctx.fn_ok hS) 5 ZY rfl (ev F) ?_ (ev F) (ev F) (by simp) (ev F) (ev F) (ev F) (by simp only[go_sem,seval,F]<;>simp) OH (YU (l:=[]) (i:=0) (u:=(aa,ah,af,ay,ae,ab)) (by omega) (by simp) (by simp)) (ev F) ?_ ?_
     ·exact Bl hS F
     ·exact Bl hS F
     exact Ai hS F h
   refine KR hS F ?_;obtain⟨ie,h⟩:=un h;obtain⟨db,gm,h⟩:=un h;refine go hS F ?_;refine Bz db (λz:(List (Int×Int×Int×(List (Int×Int))×Int×Int))×Nat=>⟨[(2,.box (1,6) 0),(3,.box (104,11) 0)],[(.c (1,1) 0,.i aa),(.c (1,1) 1,.i ah),(.c (1,1) 2,.i af),(.c (1,1) 3,BP ai),(.c (1,1) 4,.i ae),(.c (1,1) 5,.i ab),(.c (0,1) 0,Ap f1607),(.c (2,1) 0,.sl 0 true [] []),(.c (104,11) 0,.own (300,10) z.1.length),(.a (300,10),B7 z.1),(.c (1,6) 0,.sl 0 true [] [])],z.2⟩) (λz=>(z.1:(List (Int×Int×Int×(List (Int×Int))×Int×Int)))) (.x 0) ?_ ?_
   ·refine Bp (λn (y:Int×(List (Int×Int×Int×(List (Int×Int))×Int×Int))×Nat)=>FX N f1607 n y.1 y.2.1) (λy=>⟨[(2,.box (1,6) 0),(3,.box (104,11) 0),(11,.i (f1607.length:Int)),(12,.i y.1)],[(.c (1,1) 0,.i aa),(.c (1,1) 1,.i ah),(.c (1,1) 2,.i af),(.c (1,1) 3,BP ai),(.c (1,1) 4,.i ae),(.c (1,1) 5,.i ab),(.c (0,1) 0,Ap f1607),(.c (2,1) 0,.sl 0 true [] []),(.c (104,11) 0,.own (300,10) y.2.1.length),(.a (300,10),B7 y.2.1),(.c (1,6) 0,.sl 0 true [] [])],y.2.2⟩) (0,f1607,12) gm (Ch F) ?_;rintro n ⟨x1630,l1631,eu⟩ dh;simp only[FX]at dh;refine An hS F dh (λ_ dh=>?_) (λ_ dh=>?_)
    ·obtain⟨⟨cr,cq,co,dp,cn,cm⟩,gg,dh⟩:=un dh;obtain⟨gu,F⟩:=Cb Au gg F;obtain⟨cy,fj,ic,dh⟩:=un dh;exact Cd hS (fc fj F) (n,x1630+1,l1631.set x1630.toNat (cr,cq,co,cy,cn,cm),eu+1+1+1+1) dh
    ·exact B4 hS F (l1631,eu+1) dh
   ·rintro⟨l1645,g8⟩ rfl;obtain⟨ay,ba,gr,ib,h⟩:=un h;replace F:=fc ba F;refine go hS F ?_;refine Ta (Ctx.fn_ok hS) 5 ZY rfl (ev F) ?_ (ev F) (ev F) (by simp) (ev F) (ev F) (ev F) (by simp only[go_sem,seval,F]<;>simp) OH (YU (l:=l1645) (i:=r1616) (u:=(aa,ah,af,ay,ae,ab)) (by omega) (by omega) (by omega)) (ev F) ?_ ?_
    ·exact Bl hS F
    ·exact Bl hS F
    exact Ai hS F h
def FB(N:Nat)(f1649:List (Int×Int×Int×(List (Int×Int))×Int×Int)):Nat->Int->(List (Int×Int×Int×(List (Int×Int))×Int×Int))->Option ((List (Int×Int×Int×(List (Int×Int))×Int×Int)))|0,_,_=>none|n+1,x1667,l1668=>bif decide (x1667<(f1649.length:Int))then((A7 l1668 x1667).bind λ(ck,cj,ci,dm,ce,b9)=>(BJ N dm).bind λcu=>gd (Af (x1667+1))<|FB N f1649 n (x1667+1) (l1668.set x1667.toNat (ck,cj,ci,cu,ce,b9)))else(some l1668)
def FY(N:Nat)(f1649:List (Int×Int×Int×(List (Int×Int))×Int×Int))(aw:Int):Option ((List (Int×Int×Int×(List (Int×Int))×Int×Int))×Int):=(ER N f1649).bind λd9=>bif !d9 then(some ([],120))else((A5 N f1649 aw).bind λ(r1653,d8)=>bif !d8 then(some ([],120))else(gd (f1649≠[])<|gd ((f1649.length)*64<=140737488355328)<|(FB N f1649 N 0 f1649).bind λl1682=>gd (Af (r1653+1))<|gd (0<=r1653/\r1653<(l1682.length:Int))<|gd ((l1682.length:Int)<=9223372036854775807)<|some (l1682.take r1653.toNat++l1682.drop (r1653.toNat+1),0)))
@[go_sem] def Ad9(N:Nat):Spec:=p0<|pG<|pD Ak λf1649=>pE<|pI λaw=>pE<|pF (FY N f1649 aw) ([],0) λr=>.tup [.agg [Ap r.1],.i r.2]
theorem Wn(N:Nat):AG Tryz.prog 188 (Ad9 N):=by
 refine Ar x188.ok<|Aw<|AM λf1649=>Ad<|Aa λaw=>Ad<|As λr h=>wx x188 (Ab (SG N)<|Ab (Qa N)<|Ab (UZ N)<|Aj) λ_ hS F=>?_
 dsimp only[x188,Ah,Ak];unfold FY at h;obtain⟨d9,fh,h⟩:=un h;replace F:=fc fh F;refine An hS F h (λ_ h=>?_) (λ_ h=>?_)
 ·exact Ai hS F h
 ·obtain⟨⟨r1653,d8⟩,fg,h⟩:=un h;replace F:=fc fg F;refine An hS F h (λ_ h=>?_) (λ_ h=>?_)
  ·exact Ai hS F h
  ·refine go hS F ?_;refine GO hS 1 x202.hf x202.hc x202.hn x202.ok rfl (ev F) (ev F) ?_ rfl (ev F) (kM rfl) λhb=>?_
   ·exact Bl hS F
   dsimp only[x202,Ah];refine go hS F ?_;refine GO hS 2 x210.hf x210.hc x210.hn x210.ok rfl (ev F) (ev F) ?_ rfl (ev F) (kM rfl) λhb=>?_
   ·exact Bl hS F
   dsimp only[x210,Ah];obtain⟨gy,h⟩:=un h;refine KR hS F ?_;obtain⟨gx,h⟩:=un h;obtain⟨gj,ig,h⟩:=un h;refine go hS F ?_;refine Bz gj (λz:(List (Int×Int×Int×(List (Int×Int))×Int×Int))×Nat=>⟨[(2,.box (1,6) 0),(3,.box (104,11) 0)],[(.c (0,1) 0,Ap f1649),(.c (1,1) 0,.sl 0 true [] []),(.c (104,11) 0,.own (300,10) z.1.length),(.a (300,10),B7 z.1),(.c (1,6) 0,.sl 0 true [] [])],z.2⟩) (λz=>(z.1:(List (Int×Int×Int×(List (Int×Int))×Int×Int)))) (.x 0) ?_ ?_
   ·refine Bp (λn (y:Int×(List (Int×Int×Int×(List (Int×Int))×Int×Int))×Nat)=>FB N f1649 n y.1 y.2.1) (λy=>⟨[(2,.box (1,6) 0),(3,.box (104,11) 0),(11,.i (f1649.length:Int)),(12,.i y.1)],[(.c (0,1) 0,Ap f1649),(.c (1,1) 0,.sl 0 true [] []),(.c (104,11) 0,.own (300,10) y.2.1.length),(.a (300,10),B7 y.2.1),(.c (1,6) 0,.sl 0 true [] [])],y.2.2⟩) (0,f1649,12) ig (Ch F) ?_;rintro n ⟨x1667,l1668,ej⟩ dl;simp only[FB]at dl;refine An hS F dl (λ_ dl=>?_) (λ_ dl=>?_)
    ·obtain⟨⟨ck,cj,ci,dm,ce,b9⟩,gc,dl⟩:=un dl;obtain⟨gt,F⟩:=Cb Au gc F;obtain⟨cu,e9,il,dl⟩:=un dl;exact Cd hS (fc e9 F) (n,x1667+1,l1668.set x1667.toNat (ck,cj,ci,cu,ce,b9),ej+1+1+1+1) dl
    ·exact B4 hS F (l1668,ej+1) dl
   ·rintro⟨l1682,gz⟩ rfl;obtain⟨ij,ic,gr,h⟩:=un h;refine go hS F ?_;refine Ta (Ctx.fn_ok hS) 5 AcL rfl (ev F) ?_ (ev F) (ev F) (by simp) (ev F) (ev F) (ev F) (by simp only[go_sem,seval,F]<;>simp) OH (uF (l:=l1682) (i:=r1653) (by omega) (by omega) (by omega)) (ev F) ?_ ?_
    ·exact Bl hS F
    ·exact Bl hS F
    exact Ai hS F h
end
section
open Go
attribute [local irreducible] Ax BO BB Bj BC Bk AY BD BK Cq
def Cl(N:Nat)(aa:Int)(f1691:List (Int×Int×Int×(List (Int×Int))×Int×Int))(ai:Int)(aq:Int)(an:Int)(am:List (Int×Int))(ak:Int)(aj:Int):Nat->Int->Option (Sum Unit Bool)|0,_=>none|n+1,au=>bif decide (au<aa)then((A7 f1691 au).bind λ(cm,ck,cj,ci,ce,b9)=>(EF N ai aq an am ak aj cm ck cj ci ce b9).bind λda=>bif da then(some (.inr false))else(gd (Af (au+1))<|Cl N aa f1691 ai aq an am ak aj n (au+1)))else(some (.inl ()))
def Cm(N:Nat)(f1691:List (Int×Int×Int×(List (Int×Int))×Int×Int)):Nat->Int->Option (Sum Unit Bool)|0,_=>none|n+1,aa=>bif decide (aa<(f1691.length:Int))then((A7 f1691 aa).bind λ(ai,aq,an,am,ak,aj)=>(BU N ai aq an am ak aj).bind λdb=>gd ((decide (0<aa))=true->(Af (aa-1)))<|gd ((decide (0<aa))=true->(0<=aa-1/\aa-1<(f1691.length:Int)))<|bif (!db)||((decide (0<aa))&&(decide (ai<=(f1691.getD (aa-1).toNat (0,0,0,[],0,0)).1)))then(some (.inr false))else((Cl N aa f1691 ai aq an am ak aj N 0).bind λbl=>match bl with|.inl ()=>(gd (Af (aa+1))<|Cm N f1691 n (aa+1))|.inr fh=>(some (.inr fh))))else(some (.inl ()))
def C8(N:Nat)(f1691:List (Int×Int×Int×(List (Int×Int))×Int×Int)):Option Bool:=bif decide (12<(f1691.length:Int))then(some false)else((Cm N f1691 N 0).bind λbj=>match bj with|.inl ()=>(some true)|.inr fg=>(some fg))
@[go_sem] def nT(N:Nat):Spec:=p0<|pG<|pD Ak λf1691=>pE<|pE<|pF (C8 N f1691) false λr=>.b r
theorem ZB(N:Nat):AG Tryz.prog 60 (nT N):=by
 refine Ar x60.ok<|Aw<|AM λf1691=>Ad<|Ad<|As λr h=>wx x60 (Ab (QQ N)<|Ab (yP N)<|Aj) λ_ hS F=>?_
 dsimp only[x60,Ah,Ak];unfold C8 at h;refine An hS F h (λ_ h=>?_) (λ_ h=>?_)
 ·exact Ai hS F h
 ·obtain⟨bj,fm,h⟩:=un h;refine go hS F ?_;refine Bz bj (λz:Nat=>⟨[],[],z⟩) (λz=>(.inl ():Sum Unit Bool)) (.x 0) ?_ ?_
  ·refine Bp (λn (y:Int×Nat)=>Cm N f1691 n y.1) (λy=>⟨[(1,.box (0,1) 0),(3,.i y.1)],[(.c (0,1) 0,Ap f1691)],y.2⟩) (0,3) fm (Ch F) ?_;rintro n ⟨aa,dm⟩ ab;simp only[Cm]at ab;refine An hS F ab (λ_ ab=>?_) (λ_ ab=>?_)
   ·obtain⟨⟨ai,aq,an,am,ak,aj⟩,d9,ab⟩:=un ab;obtain⟨gc,F⟩:=Cb Au d9 F;obtain⟨db,dw,gh,gg,ab⟩:=un ab;replace F:=fc dw F;refine An hS F ab (λ_ ab=>?_) (λ_ ab=>?_)
    ·obtain rfl:=yJ ab;exact Ai hS F h
    ·obtain⟨bl,gr,ab⟩:=un ab;refine go hS F ?_;refine Bz bl (λz:Nat=>⟨[(1,.box (0,1) 0),(3,.i aa)],[(.c (0,1) 0,Ap f1691)],z⟩) (λz=>(.inl ():Sum Unit Bool)) (.x 2) ?_ ?_
     ·refine Bp (λn (y:Int×Nat)=>Cl N aa f1691 ai aq an am ak aj n y.1) (λy=>⟨[(1,.box (0,1) 0),(3,.i aa),(4,.i y.1)],[(.c (0,1) 0,Ap f1691)],y.2⟩) (0,dm+1+1+1) gr (Ch F) ?_;rintro n ⟨au,dl⟩ aw;simp only[Cl]at aw;refine An hS F aw (λ_ aw=>?_) (λ_ aw=>?_)
      ·obtain⟨⟨cm,ck,cj,ci,ce,b9⟩,d8,aw⟩:=un aw;obtain⟨fr,F⟩:=Cb Au d8 F;obtain⟨da,du,aw⟩:=un aw;replace F:=fc du F;refine An hS F aw (λ_ aw=>?_) (λ_ aw=>?_)
       ·obtain rfl:=yJ aw;obtain rfl:=yJ ab;exact Ai hS F h
       ·obtain⟨gu,aw⟩:=un aw;exact Cd hS F (n,au+1,dl+1+1+1) aw
      ·exact B4 hS F (dl+1) aw
     ·rintro fo rfl;obtain⟨gt,ab⟩:=un ab;exact Cd hS F (n,aa+1,fo+1) ab
   ·exact B4 hS F (dm+1) ab
  ·rintro gm rfl;exact Ai hS F h
def Da(N:Nat)(f1748:List (Int×Int×Int×(List (Int×Int))×Int×Int))(af:Int):Nat->Int->Option (Sum Unit (((Int×Int×Int×(List (Int×Int))×Int×Int)×Bool)))|0,_=>none|n+1,av=>bif decide (av<(f1748.length:Int))then((A7 f1748 av).bind λ(ay,b7,bz,bw,bv,bu)=>gd ((decide (ay=af))=true->((C8 N f1748).isSome=true))<|bif (decide (ay=af))&&((C8 N f1748).getD false)then((BY N ay b7 bz bw bv bu).bind λ(cz,cy,cu,cr,cq,co)=>some (.inr ((cz,cy,cu,cr,cq,co),true)))else(gd (Af (av+1))<|Da N f1748 af n (av+1)))else(some (.inl ()))
def Dm(N:Nat)(f1748:List (Int×Int×Int×(List (Int×Int))×Int×Int))(af:Int):Option ((Int×Int×Int×(List (Int×Int))×Int×Int)×Bool):=(Da N f1748 af N 0).bind λbi=>match bi with|.inl ()=>(some ((0,0,0,[],0,0),false))|.inr e9=>(some e9)
@[go_sem] def s65(N:Nat):Spec:=p0<|pG<|pD Ak λf1748=>pE<|pI λaf=>pE<|pF (Dm N f1748 af) ((0,0,0,[],0,0),false) λr=>.tup [.agg [.i r.1.1,.i r.1.2.1,.i r.1.2.2.1,BP r.1.2.2.2.1,.i r.1.2.2.2.2.1,.i r.1.2.2.2.2.2],.b r.2]
theorem ZC(N:Nat):AG Tryz.prog 65 (s65 N):=by
 refine Ar x65.ok<|Aw<|AM λf1748=>Ad<|Aa λaf=>Ad<|As λr h=>wx x65 (Ab (ZB N)<|Ab (UY N)<|Aj) λ_ hS F=>?_
 dsimp only[x65,Ah,Ak];unfold Dm at h;obtain⟨bi,fm,h⟩:=un h;refine go hS F ?_;refine Bz bi (λz:Nat=>⟨[(4,.box (1,1) 0)],[(.c (1,1) 0,.i 0),(.c (1,1) 1,.i 0),(.c (1,1) 2,.i 0),(.c (1,1) 3,.sl 0 true [] []),(.c (1,1) 4,.i 0),(.c (1,1) 5,.i 0)],z⟩) (λz=>(.inl ():Sum Unit (((Int×Int×Int×(List (Int×Int))×Int×Int)×Bool)))) (.x 0) ?_ ?_
 ·refine Bp (λn (y:Int×Nat)=>Da N f1748 af n y.1) (λy=>⟨[(1,.i af),(2,.box (0,1) 0),(4,.box (1,1) 0),(6,.i y.1)],[(.c (1,1) 0,.i 0),(.c (1,1) 1,.i 0),(.c (1,1) 2,.i 0),(.c (1,1) 3,.sl 0 true [] []),(.c (1,1) 4,.i 0),(.c (1,1) 5,.i 0),(.c (0,1) 0,Ap f1748)],y.2⟩) (0,2) fm (Ch F) ?_;rintro n ⟨av,dh⟩ ab;simp only[Da]at ab;refine An hS F ab (λ_ ab=>?_) (λ_ ab=>?_)
  ·obtain⟨⟨ay,b7,bz,bw,bv,bu⟩,d7,ab⟩:=un ab;obtain⟨fq,F⟩:=Cb Au d7 F;obtain⟨gh,ab⟩:=un ab;refine An hS F ab (λ_ ab=>?_) (λ_ ab=>?_)
   ·obtain⟨⟨cz,cy,cu,cr,cq,co⟩,dt,ab⟩:=un ab;obtain rfl:=yJ ab;exact Ai hS (fc dt F) h
   ·obtain⟨gg,ab⟩:=un ab;exact Cd hS F (n,av+1,dh+1+1+1) ab
  ·exact B4 hS F (dh+1) ab
 ·rintro gj rfl;exact Ai hS F h
def Dg(N:Nat)(f1800:List (Int×Int×Int×(List (Int×Int))×Int×Int))(ae:Int):Nat->Int->(List (Int×Int×Int×(List (Int×Int))×Int×Int))->Option ((List (Int×Int×Int×(List (Int×Int))×Int×Int)))|0,_,_=>none|n+1,ah,l1858=>bif decide (ah<(f1800.length:Int))then((A7 f1800 ah).bind λ(az,br,bq,bp,bo,bn)=>bif decide (az≠ae)then((BY N az br bq bp bo bn).bind λ(bh,bg,bf,be,bb,ba)=>gd ((l1858.length+1)*64<=140737488355328)<|gd (Af (ah+1))<|Dg N f1800 ae n (ah+1) (l1858++[(bh,bg,bf,be,bb,ba)]))else(gd (Af (ah+1))<|Dg N f1800 ae n (ah+1) l1858))else(some l1858)
def FZ(N:Nat)(f1800:List (Int×Int×Int×(List (Int×Int))×Int×Int))(ae:Int):Option ((List (Int×Int×Int×(List (Int×Int))×Int×Int))×Int):=(Dm N f1800 ae).bind λ((e8,eu,ej,ei,eh,ee),cn)=>bif !cn then(some ([],120))else((Dg N f1800 ae N 0 []).bind λdg=>some (dg,0))
@[go_sem] def s105(N:Nat):Spec:=p0<|pG<|pD Ak λf1800=>pE<|pI λae=>pE<|pF (FZ N f1800 ae) ([],0) λr=>.tup [.agg [Ap r.1],.i r.2]
theorem yY(N:Nat):AG Tryz.prog 105 (s105 N):=by
 refine Ar x105.ok<|Aw<|AM λf1800=>Ad<|Aa λae=>Ad<|As λr h=>wx x105 (Ab (ZC N)<|Ab (UY N)<|Aj) λ_ hS F=>?_
 dsimp only[x105,Ah,Ak];unfold FZ at h;obtain⟨⟨⟨e8,eu,ej,ei,eh,ee⟩,cn⟩,dq,h⟩:=un h;replace F:=fc dq F;refine An hS F h (λ_ h=>?_) (λ_ h=>?_)
 ·exact Ai hS F h
 ·refine go hS F ?_;refine Fc 1000001 (400,4) 0 6 [.i 0,.i 0,.i 0,.sl 0 true [] [],.i 0,.i 0] (by omega) (ev F) ?_;obtain⟨fj,fm,h⟩:=un h;refine go hS F ?_;refine Bz fj (λz:(List (Int×Int×Int×(List (Int×Int))×Int×Int))×Nat=>⟨[(4,.box (1,1) 0),(8,.box (400,4) 0)],[(.c (400,4) 0,.own (1000001,6) z.1.length),(.a (1000001,6),B7 z.1),(.c (1,1) 0,.sl 0 true [] [])],z.2⟩) (λz=>(z.1:(List (Int×Int×Int×(List (Int×Int))×Int×Int)))) (.x 0) ?_ ?_
  ·refine Bp (λn (y:Int×(List (Int×Int×Int×(List (Int×Int))×Int×Int))×Nat)=>Dg N f1800 ae n y.1 y.2.1) (λy=>⟨[(1,.i ae),(2,.box (0,1) 0),(4,.box (1,1) 0),(8,.box (400,4) 0),(9,.i y.1)],[(.c (400,4) 0,.own (1000001,6) y.2.1.length),(.a (1000001,6),B7 y.2.1),(.c (1,1) 0,.sl 0 true [] []),(.c (0,1) 0,Ap f1800)],y.2.2⟩) (0,[],6) fm (Ch F) ?_;rintro n ⟨ah,l1858,bm⟩ ab;simp only[Dg]at ab;refine An hS F ab (λ_ ab=>?_) (λ_ ab=>?_)
   ·obtain⟨⟨az,br,bq,bp,bo,bn⟩,dz,ab⟩:=un ab;obtain⟨fp,F⟩:=Cb Au dz F;refine An hS F ab (λ_ ab=>?_) (λ_ ab=>?_)
    ·obtain⟨⟨bh,bg,bf,be,bb,ba⟩,dp,ab⟩:=un ab;obtain⟨gh,gg,ab⟩:=un ab;exact Cd hS (fc dp F) (n,ah+1,l1858++[(bh,bg,bf,be,bb,ba)],bm+1+1+1+1) ab
    ·obtain⟨gv,ab⟩:=un ab;exact Cd hS F (n,ah+1,l1858,bm+1+1+1) ab
   ·exact B4 hS F (l1858,bm+1) ab
  ·rintro⟨dg,gi⟩ rfl;exact Ai hS F h
end
def UV(u:Un):Prop:=UP u.1 u.2.1 u.2.2.1 u.2.2.2.1 u.2.2.2.2.1 u.2.2.2.2.2
def WV(u:Un):Bool:=Ji u.1 u.2.1 u.2.2.1 u.2.2.2.2.1 u.2.2.2.2.2&&vB u.2.2.2.1
theorem Ve{u:Un}:WV u=true↔UV u:=Is
def WW(u v:Un):Bool:=TE u.1 u.2.1 u.2.2.1 u.2.2.2.1 u.2.2.2.2.1 u.2.2.2.2.2 v.1 v.2.1 v.2.2.1 v.2.2.2.1 v.2.2.2.2.1 v.2.2.2.2.2
open Classical in
def Hv(u v:Un):Bool:=WW u v&&decide (¬apart u.2.2.2.1 v.2.2.2.1)
theorem Vf{u v:Un}:WW u v=true↔(max u.2.2.2.2.1 v.2.2.2.2.1<min u.2.2.2.2.2 v.2.2.2.2.2)/\UV u/\UV v:=by unfold WW TE UV;rw[fW,fW,bJ,Is,Is,and_assoc]
open Classical in
theorem oU{u v:Un}:Hv u v=true↔((max u.2.2.2.2.1 v.2.2.2.2.1<min u.2.2.2.2.2 v.2.2.2.2.2)/\UV u/\UV v)/\¬apart u.2.2.2.1 v.2.2.2.1:=by unfold Hv;rw[fW,Vf,bJ]
theorem Pn(u v:Un):Hv u v=Hv v u:=by rw[y8,oU,oU,Int.max_comm,Int.min_comm,and_comm (a:=UV u),show apart u.2.2.2.1 v.2.2.2.1↔apart v.2.2.2.1 u.2.2.2.1 from⟨apart.symm,apart.symm⟩]
structure FV(f:List Un):Prop where
 len:f.length<=12
 val:∀u∈f,UV u
 srt:f.Pairwise λu v=>u.1<v.1
 dis:f.Pairwise λu v=>Hv u v=false
noncomputable instance(f:List Un):Decidable (FV f):=Classical.propDecidable _
def A2(f:List Un)(k:Nat):Un:=f.getD k (0,0,0,[],0,0)
theorem Fs{f:List Un}{k:Nat}(h:k<f.length):A7 f (k:Int)=some ((A2 f k).1,(A2 f k).2.1,(A2 f k).2.2.1,(A2 f k).2.2.2.1,(A2 f k).2.2.2.2.1,(A2 f k).2.2.2.2.2):=by rw[Ou (0,0,0,[],0,0) (by omega) (by omega),sI];rfl
theorem Fb{f:List Un}{k:Nat}(h:k<f.length):A2 f k=f[k]:=by unfold A2;rw[cY,dQ h];rfl
theorem FH{f:List Un}{k:Nat}(h:k<f.length):A2 f k∈f:=by rw[Fb h];exact y7 h
theorem Lm{f:List Un}{u:Un}(h:u∈f):∃k,k<f.length/\A2 f k=u:=by obtain⟨k,hk,e⟩:=List.mem_iff_getElem.1 h;exact⟨k,hk,(Fb hk).trans e⟩
theorem Lo{f:List Un}{R:Un->Un->Prop}:f.Pairwise R↔∀i k,i<k->k<f.length->R (A2 f i) (A2 f k):=by
 rw[List.pairwise_iff_getElem];constructor
 ·intro h i k hik hk;rw[Fb (by omega),Fb hk];exact h i k (by omega) hk hik
 ·intro h i k hi hk hik;have:=h i k hik hk;rw[Fb hi,Fb hk]at this;exact this
theorem tX{f:List Un}(h:∀k,0<k->k<f.length->(A2 f (k-1)).1<(A2 f k).1):f.Pairwise λu v=>u.1<v.1:=by
 rw[Lo];intro i k hik hk;induction k with
 |zero=>omega
 |succ k ih=>
  have h1:=h (k+1) (by omega) hk;rw[Nat.add_sub_cancel]at h1;by_cases e:i=k
  ·rw[e];exact h1
  ·have:=ih (by omega) (by omega);omega
def LQ(f:List Un)(k:Nat):Prop:=WV (A2 f k)=true/\(0<k->(A2 f (k-1)).1<(A2 f k).1)
def WX(f:List Un)(k:Nat):Prop:=LQ f k/\∀j,j<k->Hv (A2 f k) (A2 f j)=false
theorem OD{f:List Un}{k:Nat}(hk:k<f.length):((!WV (A2 f k))||((decide (0<(k:Int)))&&(decide ((A2 f k).1<=(f.getD ((k:Int)-1).toNat (0,0,0,[],0,0)).1))))=true↔¬LQ f k:=by
 have e:((k:Int)-1).toNat=k-1:=by omega
 rw[e,show f.getD (k-1) (0,0,0,[],0,0)=A2 f (k-1)from rfl];unfold LQ;simp only[qZ,fW,bJ,tL];cases WV (A2 f k)<;>simp<;>omega
section
variable{N:Nat}(hN:1001<=N)
include hN
theorem AaC(u:Un):BU N u.1 u.2.1 u.2.2.1 u.2.2.2.1 u.2.2.2.2.1 u.2.2.2.2.2=some (WV u):=OI hN _ _ _ _ _ _
open Classical in
theorem uov(u v:Un):Fy N u.1 u.2.1 u.2.2.1 u.2.2.2.1 u.2.2.2.2.1 u.2.2.2.2.2 v.1 v.2.1 v.2.2.1 v.2.2.2.1 v.2.2.2.2.1 v.2.2.2.2.2=some (Hv u v):=by
 obtain⟨h1,h2⟩:=YW hN u.1 u.2.1 u.2.2.1 u.2.2.2.1 u.2.2.2.2.1 u.2.2.2.2.2 v.1 v.2.1 v.2.2.1 v.2.2.2.1 v.2.2.2.2.1 v.2.2.2.2.2;obtain⟨r,g1,g2⟩:=Uq hN u.2.2.2.1 v.2.2.2.1;unfold Fy;rw[h1,g1,bS];simp only;rw[BR (λ_=>fL),kK];unfold Hv;rw[show TE u.1 u.2.1 u.2.2.1 u.2.2.2.1 u.2.2.2.2.1 u.2.2.2.2.2 v.1 v.2.1 v.2.2.1 v.2.2.2.1 v.2.2.2.2.1 v.2.2.2.2.2=WW u v from rfl];cases hd:WW u v with
 |false=>rfl
 |true=>have hv:=Vf.1 hd;have e:=SQ hN hv.2.1.l hv.2.2.l;rw[g1]at e;rw[yJ e];congr 2;rw[y8,tL,bJ,<-QU (a:=u.2.2.2.1),Bool.not_eq_true]
theorem rov(u v:Un):EF N u.1 u.2.1 u.2.2.1 u.2.2.2.1 u.2.2.2.2.1 u.2.2.2.2.2 v.1 v.2.1 v.2.2.1 v.2.2.2.1 v.2.2.2.2.1 v.2.2.2.2.2=some (Hv u v):=by obtain⟨r,h1,h2⟩:=AcR hN u.1 u.2.1 u.2.2.1 u.2.2.2.1 u.2.2.2.2.1 u.2.2.2.2.2 v.1 v.2.1 v.2.2.1 v.2.2.2.1 v.2.2.2.2.1 v.2.2.2.2.2;rw[h2,<-h1,uov hN]
omit hN in
theorem oV{f:List Un}(h1:f.length<=12)(h2:∀k,k<f.length->LQ f k)(h3:f.Pairwise λu v=>Hv u v=false):FV f:=⟨h1,λu hu=>by obtain⟨k,hk,rfl⟩:=Lm hu;exact Ve.1 (h2 k hk).1,tX λk h0 hk=>(h2 k hk).2 h0,h3⟩
omit hN in
theorem FV.at{f:List Un}(h:FV f){k:Nat}(hk:k<f.length):LQ f k:=⟨Ve.2 (h.val _ (FH hk)),λh0=>Lo.1 h.srt (k-1) k (by omega) hk⟩
theorem YO{f:List Un}{i:Nat}(hi:i<f.length)(hf:f.length<=12):(Cl N i f (A2 f i).1 (A2 f i).2.1 (A2 f i).2.2.1 (A2 f i).2.2.2.1 (A2 f i).2.2.2.2.1 (A2 f i).2.2.2.2.2 N 0=some (.inl ())/\∀k,k<i->Hv (A2 f i) (A2 f k)=false)\/(Cl N i f (A2 f i).1 (A2 f i).2.1 (A2 f i).2.2.1 (A2 f i).2.2.2.1 (A2 f i).2.2.2.2.1 (A2 f i).2.2.2.2.2 N 0=some (.inr false)/\∃k,k<i/\Hv (A2 f i) (A2 f k)=true):=by
 have F:=GK (L:=Cl N i f (A2 f i).1 (A2 f i).2.1 (A2 f i).2.2.1 (A2 f i).2.2.2.1 (A2 f i).2.2.2.2.1 (A2 f i).2.2.2.2.2) (len:=i) (λk=>bif Hv (A2 f i) (A2 f k)then some false else none) (λn k hk e=>?_) (λn k r hk e=>?_) (λn=>?_) N (by omega)
 ·rcases F with⟨e,h⟩|⟨j,r,hj,h,_,e⟩
  ·refine .inl ⟨e,λk hk=>?_⟩;have:=h k hk;cases c:Hv (A2 f i) (A2 f k)with
   |false=>rfl
   |true=>rw[c,cT]at this;cases this
  ·cases c:Hv (A2 f i) (A2 f j)with
   |false=>rw[c,cF]at h;cases h
   |true=>rw[c,cT]at h;cases h;exact .inr ⟨e,j,hj,c⟩
 ·cases c:Hv (A2 f i) (A2 f k)with
  |true=>rw[c,cT]at e;cases e
  |false=>rw[Cl,Dq hk,cT,Fs (by omega),bS];simp only;rw[rov hN,bS,c,cF,Ae (by unfold Af;omega),ns]
 ·cases c:Hv (A2 f i) (A2 f k)with
  |false=>rw[c,cF]at e;cases e
  |true=>
   rw[c,cT]at e;cases e
   rw[Cl,Dq hk,cT,Fs (by omega),bS];simp only;rw[rov hN,bS,c,cT]
 ·rw[Cl,F2,cF]
theorem kL{f:List Un}(hf:f.length<=12):(Cm N f N 0=some (.inl ())/\∀k,k<f.length->WX f k)\/(Cm N f N 0=some (.inr false)/\∃k,k<f.length/\¬WX f k):=by
 classical
 have F:=GK (L:=Cm N f) (len:=f.length) (λk=>if WX f k then none else some false) (λn k hk e=>?_) (λn k r hk e=>?_) (λn=>?_) N (by omega)
 ·rcases F with⟨e,h⟩|⟨j,r,hj,h,_,e⟩
  ·refine .inl ⟨e,λk hk=>?_⟩;have:=h k hk;by_cases c:WX f k
   ·exact c
   ·rw[dW c]at this;cases this
  ·by_cases c:WX f j
   ·rw[dX c]at h;cases h
   ·rw[dW c]at h;cases h
    exact .inr ⟨e,j,hj,c⟩
 ·by_cases c:WX f k
  ·rw[Cm,Dq hk,cT,Fs hk,bS];simp only;rw[AaC hN,bS,BR (λh=>by simp only[bJ]at h;unfold Af;omega),BR (λh=>by simp only[bJ]at h;omega),A1 _ (by rw[tD];exact λh=>(OD hk).1 h c.1)];rcases YO hN hk hf with⟨e,h⟩|⟨e,j,hj,h⟩
   ·rw[e,bS];simp only;rw[Ae (by unfold Af;omega),ns]
   ·have:=c.2 j hj;rw[h]at this;cases this
  ·rw[dW c]at e;cases e
 ·by_cases c:WX f k
  ·rw[dX c]at e;cases e
  ·rw[dW c]at e;cases e
   rw[Cm,Dq hk,cT,Fs hk,bS];simp only;rw[AaC hN,bS,BR (λh=>by simp only[bJ]at h;unfold Af;omega),BR (λh=>by simp only[bJ]at h;omega)];by_cases c1:LQ f k
   ·rw[A1 _ (by rw[tD];exact λh=>(OD hk).1 h c1)];rcases YO hN hk hf with⟨e,h⟩|⟨e,j,hj,h⟩
    ·exact absurd ⟨c1,h⟩ c
    ·rw[e,bS]
   ·rw[AU _ ((OD hk).2 c1)]
 ·rw[Cm,F2,cF]
open Classical in
theorem SZ(f:List Un):C8 N f=some (decide (FV f)):=by
 unfold C8;by_cases hl:f.length<=12
 ·rw[A1 _ (by rw[bK];omega)];rcases kL hN hl with⟨e,h⟩|⟨e,k,hk,h⟩
  ·rw[e,bS];simp only;rw[aA (oV hl (λk hk=>(h k hk).1) (Lo.2 λi k hik hk=>by rw[Pn];exact(h k hk).2 i hik))]
  ·rw[e,bS];simp only;rw[aB λv=>h ⟨v.at hk,λj hj=>by rw[Pn];exact Lo.1 v.dis j k hj hk⟩]
 ·rw[AU _ (by rw[bJ];omega),aB λv=>hl v.len]
end
