import Derived.Test.YtjdchfljifacoaaGreatJ1
set_option linter.all false
set_option maxRecDepth 100000
set_option maxHeartbeats 8000000
namespace Go.Proofs.YtjdchfljifacoaaGreat.Am
open Go
section
attribute [local irreducible] Ax BO BB Bj BC Bk AY BD BK Cq
def Ca(N:Nat)(ah:Int)(aa:Int)(ay:Int)(aw:Int)(av:List (Int×Int))(au:Int)(aq:Int)(af:Int)(ab:Int)(ae:Int)(an:Int)(am:Int)(ak:Int)(aj:Int)(ai:Bool):Option Bool:=(Do N aa ay aw av au aq).bind λbb=>bif decide (ah=1)then((BU N aa ay aw av au aq).bind λce=>some (((ce&&(decide (af=0)))&&((decide (ab=0))&&(decide (ae=0))))&&(decide (an=0)&&(decide (am=0)&&(decide (ak=0)&&(decide (aj=0)&&(ai==false)))))))else(bif decide (ah=2)then((AH N af 0 99).bind λb9=>some (((b9&&(bb&&(decide (aa=0))))&&((decide (ab=0))&&(decide (ae=0))))&&(decide (an=0)&&(decide (am=0)&&(decide (ak=0)&&(decide (aj=0)&&(ai==false)))))))else(bif decide (ah=3)then((AH N af 0 99).bind λbe=>gd (be=true->((Do N aa ay aw av au aq).isSome=true))<|gd ((be&&((Do N aa ay aw av au aq).getD false))=true->((AH N aa 0 99).isSome=true))<|gd ((((be&&((Do N aa ay aw av au aq).getD false))&&((AH N aa 0 99).getD false))&&(decide (aa≠af)))=true->((AH N ab 0 7).isSome=true))<|gd (((((be&&((Do N aa ay aw av au aq).getD false))&&((AH N aa 0 99).getD false))&&(decide (aa≠af)))&&((AH N ab 0 7).getD false))=true->((AH N ae 0 7).isSome=true))<|some (((((((be&&((Do N aa ay aw av au aq).getD false))&&((AH N aa 0 99).getD false))&&(decide (aa≠af)))&&((AH N ab 0 7).getD false))&&((AH N ae 0 7).getD false))&&(decide (ab≠ae)))&&(decide (an=0)&&(decide (am=0)&&(decide (ak=0)&&(decide (aj=0)&&(ai==false)))))))else(bif decide (ah=4)then((AH N af 0 99).bind λbg=>gd ((bg&&(bb&&(decide (aa=0))))=true->((AH N ab (-40) 40).isSome=true))<|gd (((bg&&(bb&&(decide (aa=0))))&&((AH N ab (-40) 40).getD false))=true->((AH N ae (-40) 40).isSome=true))<|some (((((bg&&(bb&&(decide (aa=0))))&&((AH N ab (-40) 40).getD false))&&((AH N ae (-40) 40).getD false))&&(!((decide (ab=0))&&(decide (ae=0)))))&&(decide (an=0)&&(decide (am=0)&&(decide (ak=0)&&(decide (aj=0)&&(ai==false)))))))else(bif decide (ah=5)then((FF N an am ak aj ai).bind λb7=>some (((b7&&(decide (af=0)))&&(bb&&(decide (aa=0))))&&((decide (ab=0))&&(decide (ae=0)))))else(bif decide (ah=6)then(bif decide (ah=6)then((AH N af 0 99).bind λbz=>some (((bz&&(bb&&(decide (aa=0))))&&((decide (ab=0))&&(decide (ae=0))))&&(decide (an=0)&&(decide (am=0)&&(decide (ak=0)&&(decide (aj=0)&&(ai==false)))))))else(some false))else(bif decide (ah=7)then((AH N af 0 99).bind λbw=>some (((bw&&(bb&&(decide (aa=0))))&&((decide (ab=0))&&(decide (ae=0))))&&(decide (an=0)&&(decide (am=0)&&(decide (ak=0)&&(decide (aj=0)&&(ai==false)))))))else(some false)))))))
@[go_sem] def Yx(N:Nat):Spec:=p0<|pG<|pI λah=>pI λaa=>pI λay=>pI λaw=>pS Aq λav=>pI λau=>pI λaq=>pI λaf=>pI λab=>pI λae=>pI λan=>pI λam=>pI λak=>pI λaj=>pB λai=>pE<|pE<|pF (Ca N ah aa ay aw av au aq af ab ae an am ak aj ai) false λr=>.b r
theorem U2(N:Nat):AG Tryz.prog 32 (Yx N):=by
 refine Ar x32.ok<|Aw<|Aa λah=>Aa λaa=>Aa λay=>Aa λaw=>AF λav=>Aa λau=>Aa λaq=>Aa λaf=>Aa λab=>Aa λae=>Aa λan=>Aa λam=>Aa λak=>Aa λaj=>AX λai=>Ad<|Ad<|As λr h=>wx x32 (Ab (Acg N)<|Ab (QQ N)<|Ab (ZH N)<|Ab (nY N)<|Aj) λ_ hS F=>?_
 dsimp only[x32,Ah,Aq];unfold Ca at h;obtain⟨bb,cr,h⟩:=un h;replace F:=fc cr F;refine An hS F h (λ_ h=>?_) (λ_ h=>?_)
 ·obtain⟨ce,cq,h⟩:=un h;exact Ai hS (fc cq F) h
 ·refine An hS F h (λ_ h=>?_) (λ_ h=>?_)
  ·obtain⟨b9,co,h⟩:=un h;exact Ai hS (fc co F) h
  ·refine An hS F h (λ_ h=>?_) (λ_ h=>?_)
   ·obtain⟨be,cn,dh,dg,db,da,h⟩:=un h;exact Ai hS (fc cn F) h
   ·refine An hS F h (λ_ h=>?_) (λ_ h=>?_)
    ·obtain⟨bg,cm,cz,cy,h⟩:=un h;exact Ai hS (fc cm F) h
    ·refine An hS F h (λ_ h=>?_) (λ_ h=>?_)
     ·obtain⟨b7,ck,h⟩:=un h;exact Ai hS (fc ck F) h
     ·refine An hS F h (λ_ h=>?_) (λ_ h=>?_)
      ·refine An hS F h (λ_ h=>?_) (λ_ h=>?_)
       ·obtain⟨bz,cj,h⟩:=un h;exact Ai hS (fc cj F) h
       ·exact Ai hS F h
      ·refine An hS F h (λ_ h=>?_) (λ_ h=>?_)
       ·obtain⟨bw,ci,h⟩:=un h;exact Ai hS (fc ci F) h
       ·exact Ai hS F h
def HC(N:Nat)(ba:Int)(bf:Int)(bv:Int)(bu:Int)(br:List (Int×Int))(bq:Int)(bp:Int)(az:Int)(bo:Int)(bn:Int)(bi:Int)(bh:Int)(bm:Int)(bl:Int)(bj:Bool):Option ((List Int)×(List Int)):=(Ca N ba bf bv bu br bq bp az bo bn bi bh bm bl bj).bind λcu=>bif !cu then(some ([],[]))else(bif decide (ba=1)then(some ([bf],[]))else(bif decide (ba=3)then(some ([min az bf,max az bf],[]))else(bif decide (ba=5)then(some ([bh],[bi]))else(bif decide (ba=6)then(bif decide (ba=6)then(some ([],[az]))else(some ([az],[])))else(bif decide (ba=7)then(some ([],[az]))else(some ([az],[])))))))
@[go_sem] def Wx(N:Nat):Spec:=p0<|pG<|pI λba=>pI λbf=>pI λbv=>pI λbu=>pS Aq λbr=>pI λbq=>pI λbp=>pI λaz=>pI λbo=>pI λbn=>pI λbi=>pI λbh=>pI λbm=>pI λbl=>pB λbj=>pE<|pE<|pF (HC N ba bf bv bu br bq bp az bo bn bi bh bm bl bj) ([],[]) λr=>.tup [FW r.1,FW r.2]
end
section
theorem Yo{U Z:Cf}(hf:∀b,Fz U b->Fz Z b)(hw:Z.w=U.w):∀{rows:List (List AV)}{es:List MapEntry},(∀r∈rows,AP r=true)->RepEnts U rows es->RepEnts Z rows es
 |[],_,_,h=>h
 |r::rs,_,hp,⟨e,es,h1,h2,h3⟩=>⟨e,es,h1,RepL.ofPure hf (λ_ _=>by rw[hw]) _ _ (hp r (by simp)) h2,Yo hf hw (λr hr=>hp r (by simp[hr])) h3⟩
theorem Ub{P:Program}{S:Tab}(hS:TabOK P S){f:Nat}(x:FnX P f){args:List AV}{rows:List (List AV)}(hn:args.length<=x.nt)(h:∀hb,Ax (Ctx.fn P S x.nt hb) x.c (Bk x.rv λr s=>∃n,r=.mp n/\hl s.hp (.c n 0)=some (ME rows)) ⟨BQ 0 args,[],0⟩):GCall P f args (λn=>[(.c n 0,ME rows)]) .mp:=by
 intro U hp vs nm hgl hI0 hnm hp hx;have hgt:Gl U.fresh:=λb j hj=>⟨⟨λh=>h,by rintro(h|h);exact(hgl b j hj).1.1 h;exact(hgl b j hj).1.2.1 h,(hgl b j hj).1.2.2⟩,(hgl b j hj).2⟩
 have hx':RepL U.fresh args vs:=RepL.ofPure (U:=U) (σ':=U.fresh) (λb hb=>⟨λh=>h,by rintro(h|h);exact hb.1 h;exact hb.2.1 h,hb.2.2⟩) (λ_ _=>rfl) args vs hp hx;have hI:HInv U.fresh []:=by refine⟨λn=>rfl,λn j c h=>by simp[hl]at h,λn sz live rows d h=>by simp[hl]at h,?_,λb h=>h.elim,λb hb=>hb.elim (hI0.lt b) (hI0.ou b),λb h=>h.elim⟩;rintro p q b (⟨_,_,j,c,h⟩|⟨_,⟨_,_,_,h⟩,_⟩) _<;>simp[hl]at h
 refine callsIn_wide.1 ((Jw hS x.hf x.hc x.hn hn hgt hI (cnt:=0) (λm hm=>hm.elim) hx' (h _)).mono ?_);rintro en w' ⟨v,Z,s,r,rfl,rfl,e,g1,g2,g3,n,rfl,k1⟩;obtain⟨m1,m2,es,m3,m4,m5,m6⟩:=MapF.of g1 k1;have hO:Z.O=U.fresh.O:=e.out;have hb:U.w.heap.size<=Z.rb n:=by
  rcases D2 (Z.rb n) U.w.heap.size with hh|hh
  ·exact absurd m2 (e.fro _ _ (eR hh) (λh=>h)).2
  ·exact hh
 obtain⟨_,q1,q2⟩:=hI0.newMap hnm (λb o hb=>(e.fro b o hb (λh=>h)).1) e.io hb m3 m4 (Yo (U:=Z) (Z:=U.plus (Z.rb n) Z.w) (λb hb=>by have h1:=hb.2.1;rw[hO]at h1;exact⟨by rintro(h|rfl);exact h1 (.inl h);exact hb.1 m2,λh=>h1 (.inr h),hb.2.2⟩) rfl m4 m5) m6;refine⟨_,_,rfl,⟨q1,q2,rfl,λm hm=>hm⟩,.inr rfl,?_⟩;rw[g3.2];simp[Cf.named]
def Wj(x:AV):List AV->AV|[]=>x|l=>.agg (l++[x])
theorem Sz:∀xs ys:List AV,AP (xs++ys)=(AP xs&&AP ys)
 |[],_=>rfl
 |x::xs,ys=>by simp only[oK,AP,Sz xs ys,Bool.and_assoc]
theorem SA:∀{rows:List (List AV)},(∀r∈rows,AP r=true)->AP rows.flatten=true
 |[],_=>rfl
 |r::rs,h=>by rw[t9,Sz,h r (by simp),Bool.true_and];exact SA λr hr=>h r (by simp[hr])
theorem Uc{P:Program}{S:Tab}(hS:TabOK P S){f:Nat}(x:FnX P f){args pre d:List AV}{sz:Nat}{rows:List (List AV)}(hn:args.length<=x.nt)(hro:∀r∈rows,AP r=true)(h:∀hb,Ax (Ctx.fn P S x.nt hb) x.c (Bk x.rv λr s=>∃n pr,r=Wj (.own n rows.length) pr/\hl s.hp (.a n)=some (.sl sz true rows d)/\Ej s.hp pr/\Ft pr=true/\XR n (B5 pr)/\Ib (D5 s.hp pr) pre/\AP (D5 s.hp pr)=true) ⟨BQ 0 args,[],0⟩):GCall P f args (λn=>[(.a n,.sl sz true rows d)]) (λn=>Wj (.own n rows.length) pre):=by
 intro U hpc vs nm hgl hI0 hnm hp hx;have hgt:Gl U.fresh:=λb j hj=>⟨⟨λh=>h,by rintro(h|h);exact(hgl b j hj).1.1 h;exact(hgl b j hj).1.2.1 h,(hgl b j hj).1.2.2⟩,(hgl b j hj).2⟩
 have hx':RepL U.fresh args vs:=RepL.ofPure (U:=U) (σ':=U.fresh) (λb hb=>⟨λh=>h,by rintro(h|h);exact hb.1 h;exact hb.2.1 h,hb.2.2⟩) (λ_ _=>rfl) args vs hp hx;have hI:HInv U.fresh []:=by refine⟨λn=>rfl,λn j c h=>by simp[hl]at h,λn sz live rows d h=>by simp[hl]at h,?_,λb h=>h.elim,λb hb=>hb.elim (hI0.lt b) (hI0.ou b),λb h=>h.elim⟩;rintro p q b (⟨_,_,j,c,h⟩|⟨_,⟨_,_,_,h⟩,_⟩) _<;>simp[hl]at h
 refine callsIn_wide.1 ((Jw hS x.hf x.hc x.hn hn hgt hI (cnt:=0) (λm hm=>hm.elim) hx' (h _)).mono ?_);rintro en w' ⟨v,Z,s,r,rfl,rfl,e,g1,g2,g3,n,pr,rfl,k1,k2,k0,k3,k4,k5⟩;have hO:Z.O=U.fresh.O:=e.out;have hold:∀(b:Nat)(o:Obj),U.w.heap[b]? =some o->Z.w.heap[b]? =some o:=λb o hb=>(e.fro b o hb (λh=>h)).1
 have hnew:∀b,Z.M b->U.w.heap.size<=b:=λb hb=>by
  rcases D2 b U.w.heap.size with hh|hh
  ·exact absurd hb (e.fro _ _ (eR hh) (λh=>h)).2
  ·exact hh
 obtain⟨a1,a2,a3,a4⟩:=g1.arr n sz true rows d k1;obtain⟨B,hB⟩:∃B:Nat->Prop,B=λb=>Owns Z s.hp (true,n) b:=⟨_,rfl⟩
 have hBM:∀b,B b->Z.M b:=λb hb=>by rw[hB]at hb;exact(Owns.M g1 hb).1
 let μ:Cf:={Z with M:=B}
 have e2:Evo Z μ:=⟨λ_ h=>⟨h,rfl⟩,λ_ _ l h=>⟨l,h,eN _,λ_=>rfl⟩,λb _ h hM=>⟨h,λhb=>hM (hBM b hb)⟩,rfl,eN _,SameO.refl _⟩
 let σ':Cf:=U.setArr nm (Z.ra n) (λb=>U.M b\/B b) rows.length Z.w
 have ev:Evo U σ':=Evo.setArr (.inl hnm) (λb o hb hM=>⟨hold b o hb,by
  rintro(h|h)
  ·exact hM h
  ·have:=hnew b (hBM b h);have:=(dY.1 hb).1;omega⟩) (M0 hold) e.io
 have hf:∀b,Fz μ b->Fz σ' b:=λb hb=>by have h1:=hb.2.1;rw[show μ.O=_ from hO]at h1;exact⟨by rintro(h|h);exact h1 (.inl h);exact hb.1 h,λh=>h1 (.inr h),hb.2.2⟩
 have hrows:∀b o,RepRows Z sz b o rows->RepRows σ' sz b o rows:=λb o hr=>by obtain⟨vals,v1,v2,v3,v4,v5⟩:=Im hr;exact Dl (RepL.ofPure hf (λ_ _=>rfl) _ _ (SA hro) (RepL.mono e2 _ _ v1)) v2 v3 v4
 have harr:ArrF σ' nm sz true rows:=by
  refine⟨.inr rfl,a2,λ_=>hro,?_⟩;have hra:σ'.ra nm=Z.ra n:=by simp[σ',Cf.setArr]
  rcases a4 with⟨a,a4,a5⟩|⟨b,o,cap,a4,a5,a6,a7,a8,a9⟩
  ·exact .inl ⟨a,by rw[hra];exact a4,a5⟩
  ·refine .inr ⟨b,o,cap,by rw[hra];exact a4,a5,a6,hrows b o a7,λ_=>⟨.inr ?_,(a8 rfl).2⟩,by simp⟩;rw[hB];exact .inr ⟨rfl,⟨sz,rows,d,k1⟩,o,cap,a4,a5⟩
 have hi:HInv σ' ((.a nm,.sl sz true rows d)::hpc):=by
  refine hI0.setArr ev (λx hx _=>⟨.inl hx,?_⟩) harr (λ_ b o cap h1 h2=>.inr (hnew b (hBM b ?_))) (λb hb=>?_) (M0 hold) (λb hb hn=>?_)
  ·have:=hI0.lt x hx;rw[eR this];exact hold x _ (eR this)
  ·rw[hB];exact .inr ⟨rfl,⟨sz,rows,d,k1⟩,o,cap,h1,h2⟩
  ·rcases hb with hb|hb
   ·exact sN (hI0.lt b hb) (M0 hold)
   ·exact g1.lt b (hBM b hb)
  ·rcases hb with hb|hb
   ·exact absurd hb hn
   ·exact hnew b (hBM b hb)
 have hown:∀y,Rep Z (.own n rows.length) y->Rep σ' (.own nm rows.length) y:=λy hy=>by have h1:=Hi g1 k1 hy rfl;refine⟨.inr rfl,hy.2.1,λl hl'=>?_⟩;simp[σ',Cf.setArr]at hl';subst hl';exact⟨eN _,λ_=>by rw[h1];simp[σ',Cf.setArr]⟩
 refine⟨v,σ',rfl,⟨ev,hi,rfl,λm hm=>hm⟩,?_⟩;have key:∀xs,RepL Z pr xs->RepL σ' pre xs:=λxs hxs=>by
  obtain⟨q1,q2⟩:=GY (U:=μ) (D5 s.hp pr) pre xs k4;refine RepL.ofPure (U:=μ) hf (λ_ _=>rfl) _ _ (q1 k5) (q2 (Hj g1 e2 rfl (B5 pr) (λm hm b ho hb=>?_) pr xs k2 k0 (λ_ h=>h) hxs));have hb:B b:=hb;rw[hB]at hb;have:=g1.inj (true,m) (true,n) b ho hb;cases this
  exact RA k3 hm
 cases hpr:pr with
 |nil=>
  subst hpr;have:pre=[]:=by
   simp only[D5]at k4;cases pre with
   |nil=>rfl
   |cons y ys=>exact k4.elim
  subst this;exact hown v g3
 |cons p0 ps=>
  have hpre:∃q qs,pre=q::qs:=by
   rw[hpr]at k4;simp only[D5]at k4;cases pre with
   |nil=>exact k4.elim
   |cons y ys=>exact⟨y,ys,rfl⟩
  obtain⟨q,qs,rfl⟩:=hpre;rw[hpr]at g3;simp only[Wj,Rep]at g3⊢;obtain⟨xs,rfl,o1,r1⟩:=g3;obtain⟨us,zs,rfl,u1,u2⟩:=HP r1;simp only[RepL]at u2;obtain⟨y,_,rfl,hy,rfl⟩:=u2;refine⟨_,rfl,o1,Ds (key us (by rw[hpr];exact u1)) ?_⟩;simp only[RepL];exact⟨y,[],rfl,hown y hy,rfl⟩
structure LkB(hp:Hp)(cnt:Nat)(args:List AV):Prop where
 a:∀n o,AV.box n o∈args->n.2<=cnt
 h:∀n j x,hl hp (.c n j)=some x->n.2<=cnt
def LkE(hp hp':Hp):Prop:=∀l x,hl hp l=some x->hl hp' l=some x
theorem lkb{U:Cf}{hp:Hp}{cnt:Nat}{args:List AV}{xs:List Value}(hI:HInv U hp)(hal:∀m,U.al m->m.2<=cnt)(hx:RepL U args xs):LkB hp cnt args:=by refine⟨λn o hm=>?_,λn j x h=>hal _ (hI.cel n j x h).1⟩;obtain⟨i,hi⟩:=List.getElem?_of_mem hm;obtain⟨y,_,hy⟩:=Dr hx i _ hi;exact hal _ hy.1
theorem bY{P:Program}{S:Tab}(hS:TabOK P S){f:Nat}(x:FnX P f){args vs:List AV}{r:AV}(hfl:B2 r=true)(hn:args.length<=x.nt)(h:∀hb hp cnt,LkB hp cnt args->args.map (qv hp)=vs->Ax (Ctx.fn P S x.nt hb) x.c (Bk x.rv λr' s=>wk r' r/\LkE hp s.hp) ⟨BQ 0 args,hp,cnt⟩):IA P f args vs r:=by intro U hp xs gl hI hal hx hv;obtain⟨cnt,hal⟩:=hal;refine callsIn_wide.1 ((Jw hS x.hf x.hc x.hn hn gl hI hal hx (h _ hp cnt (lkb hI hal hx) hv)).mono ?_);rintro en w' ⟨v,Z,s,r',rfl,rfl,e,g1,g2,g3,g4,g5⟩;obtain⟨e2,g1⟩:=g1.sub g5;have e:=e.trans e2;exact⟨v,{Z with ln:=lenOf hp,al:=U.al},rfl,rfl,⟨λn hn=>⟨hn,(e.box n hn).2⟩,e.arr,e.fro,e.out,e.sz,e.io⟩,hI.fgt g1,λm hm=>hm,Rep.ofPure (U:=Z) (σ':={Z with ln:=lenOf hp,al:=U.al}) (λ_ h=>h) (λ_ _=>rfl) r v hfl (KH r' r v g4 g3)⟩
theorem jH{P:Program}{S:Tab}(hS:TabOK P S){f:Nat}(x:FnX P f){args vs:List AV}{v:Value}(hn:args.length<=x.nt)(h:∀hb hp cnt,LkB hp cnt args->args.map (qv hp)=vs->Ax (Ctx.fn P S x.nt hb) x.c (E3 x.rv (λ_ _=>False) λv' s=>v'=v/\LkE hp s.hp) ⟨BQ 0 args,hp,cnt⟩):QD P f args vs v:=by
 intro U hp xs gl hI hal hx hv;obtain⟨cnt,hal⟩:=hal;refine callsIn_wide.1 ((NV hS x.hf x.hc x.hn hn gl hI hal hx (h _ hp cnt (lkb hI hal hx) hv)).mono ?_);rintro en w' (⟨_,_,_,_,_,_,_,_,_,_,hF⟩|⟨v,Z,s,rfl,rfl,e,g1,g2,rfl,g5⟩)
 ·exact hF.elim
 ·obtain⟨e2,g1⟩:=g1.sub g5;have e:=e.trans e2;exact⟨{Z with ln:=lenOf hp,al:=U.al},rfl,rfl,⟨λn hn=>⟨hn,(e.box n hn).2⟩,e.arr,e.fro,e.out,e.sz,e.io⟩,hI.fgt g1,λm hm=>hm⟩
theorem BN{P:Program}{S:Tab}{nt hb:Nat}(hS:TabOK P S)(i:Nat){rid:Nat}{ops post:List AOp}{d:Option Nat}{g:Option (Nat×Bool)}{k:AK}{Q:AE->St->Prop}{e e1:Az}{h h1:Hp}{c:Nat}{vc:Prop}{f:Nat}{args:List AV}{fn:Func}{ac:AC}{rvs:List RV}{ntf:Nat}(hf:P.funcs[f]? =some fn)(hcf:Du P fn=some (ac,rvs))(hnt:fn.ntmps=ntf)(hok:Dh P f)(hyo:ops[i]? =some ⟨d,g,k⟩)(hpost:ops.drop (i+1)=post)(hex:Bg S (c+1) (100*rid) (ops.take i) e h=some (vc,e1,h1))(hvc:vc)(hg:Ei e1 g=some true)(hca:EU e1 k=some (f,args))(hn:args.length<=ntf)(hbody:∀hb,Ax (Ctx.fn P S ntf hb) ac (E3 rvs (AY S rid i d post e1 Q) λv s=>Q (.p v) ⟨e1,s.hp,s.cnt⟩) ⟨BQ 0 args,h1,c+1⟩):Ax (Ctx.fd P S nt hb) (.reg rid ops) Q ⟨e,h,c⟩:=by subst hpost;exact Wi (Ctx.fd_ok hS) i hf hcf hnt hok hyo hex hvc hg hca hn hbody
def Oa(l:List (Nat×Spec))(q:Nat->List AV->List AV->Option (Prop×AV))(k:Nat->List AV->Option (Prop×(Nm->Hp)×(Nm->AV)))(o:Nat->Nat->List (List AV)->List AV->Option (Prop×List (List AV)))(y:Nat->List AV->List AV->Option (Prop×Value)):Tab:=⟨J9 l,false,false,P6,T9,q,k,o,y⟩
section
variable{l:List (Nat×Spec)}{q:Nat->List AV->List AV->Option (Prop×AV)}{k:Nat->List AV->Option (Prop×(Nm->Hp)×(Nm->AV))}{o:Nat->Nat->List (List AV)->List AV->Option (Prop×List (List AV))}{y:Nat->List AV->List AV->Option (Prop×Value)}
theorem xE:(Oa l q k o y).f=J9 l:=rfl
theorem xF:(Oa l q k o y).w=false:=rfl
theorem xG:(Oa l q k o y).m=false:=rfl
theorem xH:(Oa l q k o y).e=P6:=rfl
theorem xI:(Oa l q k o y).p=T9:=rfl
theorem xJ:(Oa l q k o y).q=q:=rfl
theorem xK:(Oa l q k o y).k=k:=rfl
theorem xL:(Oa l q k o y).o=o:=rfl
theorem xM:(Oa l q k o y).y=y:=rfl
theorem BG{P:Program}(h:TabOK P (Gs l))(hq:∀f args vs vc r,q f args vs=some (vc,r)->vc->Dh P f/\IA P f args vs r)(hk:∀f args vc ws g,k f args=some (vc,ws,g)->vc->Dh P f/\GCall P f args ws g)(ho:∀f sz rows ax vc rows',o f sz rows ax=some (vc,rows')->vc->Dh P f/\K4 P f sz rows ax rows'/\∀r∈rows',r.length=sz/\AP r=true)(hy:∀f args vs vc v,y f args vs=some (vc,v)->vc->Dh P f/\QD P f args vs v):TabOK P (Oa l q k o y):=⟨h.f,h.e,h.p,hq,hk,hy,ho⟩
end
attribute [go_sem] xE xF xG xH xI xJ xK xL xM
theorem xN{P:Program}{op:Op}{sz:Nat}{zs:List AV}{x:Opd}(h:AK.clr sz zs x=cK P op):∃c y t e i,op=.call c/\c.callee=.builtin .clear/\c.args.toList=[y]/\c.argTypes.toList=[t]/\P.underlying t=some (.slice e)/\P.info? e=some i/\HQ P e=some zs/\0<i.size/\sz=i.size/\x=Av y:=by
 cases op with
 |call c=>
  simp only[cK,Ih]at h;split at h
  case h_7 hcal=>
   split at h
   ·rename_i y t e1 e2;split at h
    ·rename_i e e3;split at h
     ·rename_i i zs' e4 e5;split at h
      ·rename_i e6;simp only[AK.clr.injEq]at h;obtain⟨rfl,rfl,rfl⟩:=h;exact⟨c,y,t,e,i,rfl,hcal,e1,e2,e3,e4,e5,e6,rfl,rfl⟩
      ·cases h
     ·cases h
    ·cases h
   ·cases h
  all_goals (repeat' (split at h))<;>cases h
 |_=>
  exfalso;simp only[cK,Hl,EI,Jm,Jn,Jo,Jp,KG,Jq]at h
  (repeat' (split at h))<;>cases h
theorem xO{P:Program}{op:Op}{sz:Nat}{x:Opd}{lo hi mx:Option Opd}(h:AK.slc sz x lo hi mx=cK P op):∃t y l u m e i,op=.slice t y l u m/\P.underlying t=some (.slice e)/\P.info? e=some i/\sz=i.size/\x=Av y/\lo=l.map Av/\hi=u.map Av/\mx=m.map Av:=by
 cases op with
 |slice t y l u m=>
  simp only[cK]at h;split at h
  ·rename_i e e1;split at h
   ·rename_i i e2;simp only[AK.slc.injEq]at h;obtain⟨rfl,rfl,rfl,rfl,rfl⟩:=h;exact⟨t,y,l,u,m,e,i,rfl,e1,e2,rfl,rfl,rfl,rfl,rfl⟩
   ·cases h
  ·(repeat' (split at h))<;>cases h
  ·cases h
 |call c=>
  exfalso;simp only[cK,Ih]at h
  (repeat' (split at h))<;>cases h
 |_=>
  exfalso;simp only[cK,Hl,EI,Jm,Jn,Jo,Jp,KG,Jq]at h
  (repeat' (split at h))<;>cases h
theorem rY{rows:List (List AV)}{sz k:Nat}{zs:List AV}(hr:∀r∈rows,r.length=sz)(hz:zs.length=sz):∀r∈rows.take k++List.replicate (rows.length-k) zs,r.length=sz:=λr h=>by
 rcases fU.1 h with h|h
 ·exact hr r (yI h)
 ·rw[List.eq_of_mem_replicate h];exact hz
theorem HInv.congr{U:Cf}{hp hp':Hp}(h:HInv U hp)(hh:∀l,hl hp' l=hl hp l):HInv U hp':=by
 have ho:∀p b,Owns U hp' p b->Owns U hp p b:=by
  rintro⟨k,m⟩ b (⟨h1,h2,j,c,hc⟩|⟨h1,⟨sz,rows,d,hc⟩,r⟩)
  ·exact .inl ⟨h1,h2,j,c,by rw[<-hh];exact hc⟩
  ·exact .inr ⟨h1,⟨sz,rows,d,by rw[<-hh];exact hc⟩,r⟩
 exact⟨λn=>by rw[h.ln];simp only[lenOf,hh],λn j c hc=>h.cel n j c (by rw[<-hh];exact hc),λn sz live rows d hc=>h.arr n sz live rows d (by rw[<-hh];exact hc),λp q b hp hq=>h.inj p q b (ho p b hp) (ho q b hq),h.lt,h.ou,h.dis⟩
theorem rZ{V:Ctx}(hΓ:V.OK)(i:Nat){rid:Nat}{ops:List AOp}{Q:AE->St->Prop}{e e1:Az}{h h1:Hp}{c:Nat}{vc:Prop}{t sz sz2 l k:Nat}{zs:List AV}{x lo:Opd}{n:Nm}{rows:List (List AV)}{d:List AV}(hlen:ops.length=i+2)(hs:ops[i]? =some ⟨some t,none,.slc sz x (some lo) none none⟩)(hk:ops[i+1]? =some ⟨none,none,.clr sz2 zs (.t t)⟩)(hex:Bg V.S (c+1) (100*rid) (ops.take i) e h=some (vc,e1,h1))(hvc:vc)(hx:AJ true (AI e1 x)=.own n l)(hn:hl h1 (.a n)=some (.sl sz true rows d))(hl':l=rows.length)(hlo:AJ true (AI e1 lo)=.i k)(hkr:k<=rows.length)(hz:sz2=sz)(hsn:HF n=false)(hQ:Q .n ⟨(t,.un)::e1,(.a n,.sl sz true (rows.take k++List.replicate (rows.length-k) zs) d)::h1,c+1⟩):Ax V (.reg rid ops) Q ⟨e,h,c⟩:=by
 subst hz;intro code hc U a hA;cases code with
 |region id ops' d'=>
  simp only[cCode]at hc;obtain⟨l0,hx0,⟨rfl,e0⟩|⟨_,_,_,_,e0⟩⟩:=Cc hc
  ·cases e0
   refine wpIn_region ?_;obtain⟨c1,c2⟩:=C9 hx0;obtain⟨t1,t2⟩:=CE i hx0;have hsz:ops.length=ops'.size:=c1.trans (by simp);have hi:i<ops'.size:=by omega
   have hi2:i+1<ops'.size:=by omega
   obtain⟨yo,g1,g2⟩:=c2 i ops'[i] (by simp);rw[hs]at g1;cases g1
   obtain⟨yo,g1,g3⟩:=c2 (i+1) ops'[i+1] (by simp);rw[hk]at g1;cases g1
   obtain⟨k1,k3,k4⟩:=OR g2;obtain⟨m1,m3,m4⟩:=OR g3;obtain⟨ty,y,lw,u,mx,e0,ti,o1,o2,o3,rfl,rfl,o6,o7,o8⟩:=xO k1;obtain⟨cl,z,ty2,e2,ti2,p1,p2,p3,p4,p5,p6,p7,p8,p9,p10⟩:=xN m1;have hlw:∃lv,lw=some lv/\lo=Av lv:=by
    cases lw with
    |none=>cases o6
    |some lv=>exact⟨lv,rfl,yJ o6⟩
   obtain⟨lv,rfl,rfl⟩:=hlw;have hu:u=none:=by cases u with
    |none=>rfl
    |some _=>cases o7
   have hmx:mx=none:=by cases mx with
    |none=>rfl
    |some _=>cases o8
   subst hu hmx;have hz:z=.tmp t:=by
    cases z with
    |tmp q=>simp only[Av,Opd.t.injEq]at p10;rw[p10]
    |const v=>cases p10
    |global g=>cases p10
    |func g=>cases p10
   subst hz;obtain⟨ti3,zv,q1,q2,q3,q4,q5⟩:=HR p7;rw[p6]at q1;cases q1
   have hr:List.range ops'.size=List.range' 0 (ops'.toList.take i).length++[i,i+1]:=by
    have e1:(ops'.toList.take i).length=i:=by simp;omega
    rw[e1,show ops'.size=i+1+1 by omega,List.range_succ,List.range_succ,uI,nK];rfl
   rw[hr];refine F6 hΓ (cnt:=c) (100*rid) e _ (ops'.toList.take i) 0 (ops.take i) U e e1 h h1 a vc (λ_ _=>rfl) (λj hj=>?_) t1 hex hvc hA.1 (λm hm=>.inl (hA.2.1 m hm)) λa1 σ1 ev1 hI1 hal1 hfar1=>?_
   ·have:j<i:=by simp at hj;omega
    simp[tK,this]
   rw[wpOpsIn_cons];have hw:=D6 (ao:=none) hI1.t k4 rfl;have ho:ops'[i]? =some ops'[i]:=eR hi;have ho2:ops'[i+1]? =some ops'[i+1]:=eR hi2;have hX:=EO (g:=true) rfl hI1.t y;rw[hx]at hX;have hv:=Hi hI1.h hn hX hl';have hL:=EO (g:=true) rfl hI1.t lv;rw[hlo]at hL;obtain⟨a2,a3,a4,a5⟩:=hI1.h.arr n _ true rows d hn;obtain⟨vals,v1,v2,v3,v4,v5,v6⟩:=(hI1.h.arr n _ true rows d hn).vals;have hbd:=KP (P:=V.P) hL (n:=k) rfl rows.length .sliceB (by omega) (by omega) σ1.w;have hrun1:(execOp a1.eval ops'[i]).run V.P σ1.w=.ok (.value (.slice (if(σ1.ra n).2=k then(σ1.ra n).1 else(σ1.ra n).1.map (·.add (k*ti.size))) (rows.length-k) ((σ1.ra n).2-k))) σ1.w:=by simp[execOp,o1,Instr.sliceAt,Instr.slice,run_underlying o2,hv,Instr.sliceBounds,hbd,EP o3]
   obtain⟨vv,hvv⟩:∃vv,vv=Value.slice (if(σ1.ra n).2=k then(σ1.ra n).1 else(σ1.ra n).1.map (·.add (k*ti.size))) (rows.length-k) ((σ1.ra n).2-k):=⟨_,rfl⟩
   rw[<-hvv]at hrun1;have hno:∀c,ops'[i].op≠.defer c:=λc hd=>by rw[o1]at hd;cases hd
   unfold wpOpIn;simp only[ho,hw,if_true];refine⟨λf _=>hΓ.F.fn f,?_⟩;rw[Oper.semAt_eq V.F.round a1.eval ops'[i] hno,hrun1];show wpOpsIn V.F 0 V.P ops' (lift V U Q) [i+1] (a1.put ops'[i].dst vv) σ1.w;have hdt:∀k,ops'[i].dst=some k->k<a1.tmps.size:=by rw[k3];intro d hd;rw[hI1.sz];exact DA g2 d hd
   have hI2:Inv σ1 ((t,.un)::e1) h1 (a1.put ops'[i].dst vv) V.nt V.hb:=by
    have h2:=hI1.t.put (d:=ops'[i].dst) (v:=vv) (r:=.un) hdt (by simp[Rep]);rw[k3]at h2;refine⟨hI1.h,?_,by rw[Act.size_put];exact hI1.sz,?_⟩
    ·rw[k3];exact h2
    ·rw[Act.defers_put,show lk ((t,.un)::e1) (dk V.nt)=lk e1 (dk V.nt)from Ee (d:=some t) (DA g2) (by unfold dk;omega)];exact hI1.df
   have hev:(a1.put ops'[i].dst vv).eval (.tmp t)=vv:=by have htl:t<a1.tmps.size:=hdt t k3;rw[k3];simp[Act.eval,Act.put,htl]
   rw[wpOpsIn_cons];have hw2:=D6 (ao:=none) hI2.t m4 rfl;have hno2:∀c,ops'[i+1].op≠.defer c:=λc hd=>by rw[p1]at hd;cases hd
   have ha:cl.args=#[.tmp t]:=by apply Array.ext';simpa using p3
   have hat:cl.argTypes=#[ty2]:=by apply Array.ext';simpa using p4
   obtain⟨hc1,hc2,hc3⟩:=Rz (U:=σ1) p8 q3 q4 q5 (rows.length-k);have hzl:zs.length=ti2.size:=by rw[q5];simp[q4]
   have hzrun:∀w,(zeroValue e2).run V.P w=.ok zv w:=λw=>by simp[zeroValue,typeInfo,p6,q2]
   have hst:Step V.P ops'[i+1] (a1.put ops'[i].dst vv) σ1 (100*rid+(i+1),c+1) ((.a n,.sl ti.size true (rows.take k++List.replicate (rows.length-k) zs) d)::h1) .un:=by
    have hln:σ1.ln n=some rows.length:=by rw[hI1.h.ln];simp[lenOf,hn]
    have hr2:=rY (k:=k) v4 (show zs.length=ti.size by rw[hzl,p9]);have hlen2:(rows.take k++List.replicate (rows.length-k) zs).length=rows.length:=by simp;omega
    rcases D2 k rows.length with hlt|hge
    ·rcases a5 with⟨a0,a5,a6⟩|⟨b,o,cap,a5,a6,a7,a8,a9,_⟩
     ·rw[a6]at hlt;simp at hlt
     ·obtain⟨hM,ar,T,har,hfit⟩:=a9 rfl;rw[a5]at v3 hvv;have hLies:Lies σ1.w b o vals:=by
       rcases v3 with rfl|⟨b',o',r1,r2⟩
       ·intro j v hj;simp at hj
       ·simp at r1;rw[r1.1,r1.2];exact r2
      have hvv2:vv=.slice (some ⟨b,o+k*ti.size,none⟩) (rows.length-k) (cap-k):=by rw[hvv];simp only[rC];rw[dW (by omega),Jl]
      have hmul:rows.length*ti.size<=cap*ti.size:=yH _ a7;have hks:k*ti.size+(rows.length-k)*ti.size=rows.length*ti.size:=by rw[<-Nat.add_mul];congr 1;omega
      have hzz:(Builtin.zeroCells zv.cells (rows.length-k)).toList.length=(rows.length-k)*ti.size:=by simp[size_zeroCells,q4,p9]
      have hsto:=Il (P:=V.P) (b:=b) (Builtin.zeroCells zv.cells (rows.length-k)).toList (o+k*ti.size) 0 σ1.w ar T har hc2 (by rw[hzz];omega);obtain⟨ds,d1,d2,d3⟩:=HO (Builtin.zeroCells zv.cells (rows.length-k)).toList (o+k*ti.size) σ1.w ar har;have hown:Owns σ1 h1 (true,n) b:=.inr ⟨rfl,⟨_,_,_,hn⟩,o,cap,a5,a6⟩;have evo:Evo σ1 (σ1.setArr n (σ1.ra n) σ1.M (rows.take k++List.replicate (rows.length-k) zs).length (GC σ1.w b (o+k*ti.size) (Builtin.zeroCells zv.cells (rows.length-k)).toList)):=by refine Evo.setArr (.inr ⟨_,hln,by omega,λ_=>rfl⟩) (λc ob hb hMc=>⟨?_,hMc⟩) (by rw[Em];exact eN _) (I3 _ _ _ _);rw[Dt (λ(e:c=b)=>hMc (by rw[e];exact hM))];exact hb
      have hcell:∀j,(GC σ1.w b (o+k*ti.size) (Builtin.zeroCells zv.cells (rows.length-k)).toList).cell? ⟨b,j,none⟩=ds[j]? :=λj=>by simp[World.cell?,d1]
      have hold:∀j,σ1.w.cell? ⟨b,j,none⟩=ar[j]? :=λj=>by simp[World.cell?,har]
      refine .inl ⟨.tuple #[],_,_,.inl ?_,⟨evo,?_,rfl,λm hm=>.inl (hm.elim id λe=>e▸a2)⟩,by simp[Rep]⟩
      ·rw[xS]at hsto;obtain⟨q,hq⟩:∃q,rows.length-k=q+1:=⟨rows.length-k-1,by omega⟩
       rw[hq]at hsto hvv2⊢;rw[hvv2]at hev;simp[execOp,p1,resolve,p2,invoke,builtin,ha,hat,hev,hvv2,Builtin.clear_,run_underlying p5,hzrun,hsto,Cf.setArr]
      ·refine hI1.h.setArr evo (λx hxM hno=>⟨hxM,Dt (λ(e:x=b)=>hno (by rw[e];exact hown)) _ _ _⟩) ⟨.inr rfl,a3,λe r hr=>?_,.inr ⟨b,o,cap,by simp[Cf.setArr,a5],a6,by omega,?_,λ_=>⟨hM,ds,T,d1,by rw[d2];exact hfit⟩,by simp⟩⟩
        (λ_ b' o' cap' g1 g2=>.inl (.inr ⟨rfl,⟨_,_,_,hn⟩,o',cap',g1,g2⟩)) (λc hc=>by rw[Em];exact hI1.h.lt c hc) (by rw[Em];exact eN _)
       ·rcases fU.1 hr with hr|hr
        ·exact a4 e r (yI hr)
        ·rw[List.eq_of_mem_replicate hr];exact hc3
       ·have e1:rows.flatten=(rows.take k).flatten++(rows.drop k).flatten:=by rw[<-List.flatten_append,u9]
        rw[e1]at v1;obtain⟨xs,ys,rfl,w1,w2⟩:=HP v1;have hxl:xs.length=k*ti.size:=by rw[Bs w1,N6 λr hr=>v4 r (yI hr),tH];congr 1;omega
        refine Dl (vs:=xs++(Builtin.zeroCells zv.cells (rows.length-k)).toList) ?_ ?_ ?_ hr2
        ·rw[List.flatten_append];exact Ds (RepL.mono evo _ _ w1) (RepL.mono evo _ _ hc1)
        ·intro x hx;rcases fU.1 hx with hx|hx
         ·exact v2 x (by simp[hx])
         ·exact hc2 x hx
        ·intro j v hj;show(GC σ1.w b (o+k*ti.size) (Builtin.zeroCells zv.cells (rows.length-k)).toList).cell? ⟨b,o+j,none⟩=some v;have hjl:=(fO.1 hj).1;rw[fN,hzz,hxl]at hjl;rw[hcell,d3];rcases D2 j (k*ti.size)with hjk|hjk
         ·rw[dW (by omega),<-hold];rw[tY (by omega)]at hj;exact hLies j v (by rw[tY (by omega)];exact hj)
         ·rw[dX ⟨by omega,by rw[hzz];omega,by omega⟩];rw[u7 (by omega),hxl]at hj;rw[show o+j-(o+k*ti.size)=j-k*ti.size by omega];exact hj
    ·have hkk:k=rows.length:=by omega
     refine .inl ⟨.tuple #[],σ1.w,σ1,.inl ?_,⟨Evo.refl _,?_,rfl,λm hm=>.inl hm⟩,by simp[Rep]⟩
     ·obtain⟨B,C,hB⟩:∃B C,vv=.slice B 0 C:=⟨_,_,by rw[hvv,show rows.length-k=0 by omega]⟩
      rw[hB]at hev;cases B<;>simp[execOp,p1,resolve,p2,invoke,builtin,ha,hat,hev,hB,Builtin.clear_,run_underlying p5]
     ·rw[hkk];simp only[F4,Nat.sub_self,List.replicate_zero,nA];refine hI1.h.congr λq=>?_
      simp only[hl];split
      ·rename_i e;subst e;exact hn.symm
      ·rfl
   refine Js hΓ.F ho2 hno2 hw2 hst λv σ2 hn2 hv2=>?_
   have hI3:Inv σ2 ((t,.un)::e1) ((.a n,.sl ti.size true (rows.take k++List.replicate (rows.length-k) zs) d)::h1) ((a1.put ops'[i].dst vv).put ops'[i+1].dst v) V.nt V.hb:=by rw[m3];exact⟨hn2.inv,hI2.t.mono hn2.evo,hI2.sz,hI2.df.mono hn2.evo⟩
   exact⟨σ2,⟨(t,.un)::e1,_,c+1⟩,_,rfl,V.ofE (ev1.trans hn2.evo),⟨hI3,λm hm=>by
    show m.2<=c+1;rcases hn2.al m hm with hm|rfl
    ·rcases hal1 m hm with h|⟨h,_⟩<;>omega
    ·exact eN _,V.g hA.2.2 (ev1.trans hn2.evo) λq hq=>.inr ((Ee (d:=some t) (DA g2) hq).trans (hfar1 q hq))⟩,rfl,hQ⟩
  ·cases e0
 |seq x y=>simp only[cCode]at hc;split at hc<;>simp at hc
 |cond c x y=>simp only[cCode]at hc;split at hc<;>simp at hc
 |rangeFunc f ps x y=>simp only[cCode]at hc;split at hc<;>simp at hc
 |_=>simp[cCode]at hc
theorem Wl{V:Ctx}(hΓ:V.OK)(i:Nat){rid:Nat}{ops:List AOp}{Q:AE->St->Prop}{e e1:Az}{h h1:Hp}{c:Nat}{vc:Prop}{t sz sz2 l:Nat}{k:Int}{zs:List AV}{x lo:Opd}{n:Nm}{rows:List (List AV)}{d:List AV}(hlen:ops.length=i+2)(hs:ops[i]? =some ⟨some t,none,.slc sz x (some lo) none none⟩)(hk:ops[i+1]? =some ⟨none,none,.clr sz2 zs (.t t)⟩)(hex:Bg V.S (c+1) (100*rid) (ops.take i) e h=some (vc,e1,h1))(hvc:vc)(hx:AJ true (AI e1 x)=.own n l)(hn:hl h1 (.a n)=some (.sl sz true rows d))(hl':l=rows.length)(hlo:AJ true (AI e1 lo)=.i k)(hkr:0<=k/\k<=rows.length)(hz:sz2=sz)(hsn:HF n=false)(hQ:Q .n ⟨(t,.un)::e1,(.a n,.sl sz true (rows.take k.toNat++List.replicate (rows.length-k.toNat) zs) d)::h1,c+1⟩):Ax V (.reg rid ops) Q ⟨e,h,c⟩:=by obtain⟨k,rfl⟩:=Int.eq_ofNat_of_zero_le hkr.1;exact rZ hΓ i hlen hs hk hex hvc hx hn hl' hlo (by omega) hz hsn hQ
end
section
attribute [local irreducible] Ax BO BB Bj BC Bk AY BD BK Cq
def EC(N:Nat)(s6209:List (Int×Int×Int×(List (Int×Int))×Int×Int)):Nat->Int->(List (Int×Int×Int×(List (Int×Int))×Int×Int))->Option ((List (Int×Int×Int×(List (Int×Int))×Int×Int)))|0,_,_=>none|n+1,x6234,l6235=>bif decide (x6234<(s6209.length:Int))then((A7 s6209 x6234).bind λ(x6236,x6237,x6238,x6239,x6240,x6241)=>(BJ N x6239).bind λr6243=>gd ((l6235.length+1)*64<=140737488355328)<|gd (Af (x6234+1))<|EC N s6209 n (x6234+1) (l6235++[(x6236,x6237,x6238,r6243,x6240,x6241)]))else(some l6235)
end
attribute [local irreducible] Ax BO BB Bj BC Bk AY BD BK Cq
theorem DX{P:Program}:∀f args vs vc r,Rc f args vs=some (vc,r)->vc->Dh P f/\IA P f args vs r:=λ_ _ _ _ _ h=>by cases h
theorem DY{P:Program}:∀f sz rows ax vc rows',PB f sz rows ax=some (vc,rows')->vc->Dh P f/\K4 P f sz rows ax rows'/\∀r∈rows',r.length=sz/\AP r=true:=λ_ _ _ _ _ _ h=>by cases h
theorem DZ{P:Program}:∀f args vs vc v,PA f args vs=some (vc,v)->vc->Dh P f/\QD P f args vs v:=λ_ _ _ _ _ h=>by cases h
abbrev Mk:=Int×Int×Int×Int×Bool
theorem Yv{l:List Mk}:∀r∈l.map BZ,AP r=true:=λr hr=>by obtain⟨x,_,rfl⟩:=oY.1 hr;rfl
theorem sP(l:List Mk)(hl:l.length*40<=140737488355328):GCall Tryz.prog 99 [AS l] (λn=>[(.a n,EH l)]) (λn=>.own n l.length):=by
 have hS:=Aj (P:=Tryz.prog);have h:=Uc hS x99 (args:=[AS l]) (pre:=[]) (d:=[.i 0,.i 0,.i 0,.i 0,.b false]) (sz:=5) (rows:=l.map BZ) (kM rfl) Yv λhb=>?_
 ·simp only[mW,Wj]at h;exact h
 have F:=f0;dsimp only[x99,Ah,AS];cases l with
 |nil=>
  refine Yb 0 (by show(0:Nat)<8;omega) (ev F) (λk=>?_) (λb k=>?_)
  ·refine go hS F ?_;refine ct F ?_;refine CK (nN (Ctx.fn_ok hS) (ev F) yT ?_);refine DW ?_;refine DT 1 2 5 [.i 0,.i 0,.i 0,.i 0,.b false] (by show(2:Nat)<8;omega) (by omega) (ev F) ?_;refine Dj (Ec ?_);exact HU (ev F) (ev F) ⟨_,[],rfl,ev F,trivial,rfl,trivial,trivial,rfl⟩
  ·refine go hS F ?_;refine cf F ?_;refine go hS F ?_;exact HU (ev F) (ev F) ⟨_,[],rfl,ev F,trivial,rfl,trivial,trivial,rfl⟩
 |cons x l=>rw[mV]at hl;refine go hS F ?_;refine cf F ?_;refine go hS F ?_;exact HU (ev F) (ev F) ⟨(300,3),[],by simp[one,Wj],ev F,trivial,rfl,trivial,trivial,rfl⟩
theorem GCall.argD{P:Program}{f:Nat}{args args':List AV}{ws:Nm->Hp}{g:Nm->AV}(hw:Ib args args')(h:GCall P f args' ws g):GCall P f args ws g:=λU hp vs nm a b c d e=>h U hp vs nm a b c ((GY (U:=U) args args' vs hw).1 d) ((GY args args' vs hw).2 e)
def Nj:Nat->List AV->Option (Prop×(Nm->Hp)×(Nm->AV)):=λf args=>if f=99 then(match args with|[.sl y _ s _]=>some (((y=5\/s=[])/\s=(s.map E8).map BZ)/\(s.map E8).length*40<=140737488355328,λn=>[(.a n,EH (s.map E8))],λn=>.own n (s.map E8).length)|_=>none)else none
theorem Wt:∀f args vc ws g,Nj f args=some (vc,ws,g)->vc->Dh Tryz.prog f/\GCall Tryz.prog f args ws g:=by
 intro f args vc ws g h hv;unfold Nj at h;split at h
 ·rename_i hf;subst hf;split at h
  ·simp only[yE,F9]at h;obtain⟨rfl,rfl,rfl⟩:=h;obtain⟨⟨h1,h2⟩,h3⟩:=hv;refine⟨x99.ok,GCall.argD (show Ib _ [AS _]from⟨?_,trivial⟩) (sP _ h3)⟩;exact⟨by rw[<-h2];exact LH _,h1,λh=>by cases h⟩
  ·cases h
 ·cases h
def Ge(N:Nat)(us:List Un):Option (List Un):=EC N us N 0 []
attribute [local go_sem] Nj
theorem jP(N:Nat)(us r:List Un)(ms:List Mk)(hr:Ge N us=some r)(hm:ms.length*40<=140737488355328):GCall Tryz.prog 56 [.agg [Ap us,AS ms]] (λn=>[(.a n,EH ms)]) (λn=>.agg [Ap r,.own n ms.length]):=by
 have hS:=BG (Ab (UZ N)<|Aj) DX Wt DY DZ;have h0:=Uc hS x56 (args:=[.agg [Ap us,AS ms]]) (pre:=[Ap r]) (d:=[.i 0,.i 0,.i 0,.i 0,.b false]) (sz:=5) (rows:=ms.map BZ) (kM rfl) Yv λhb=>?_
 ·simp only[mW,Wj,oK,kN]at h0;exact h0
 have F:=f0;have h:=hr;unfold Ge at h;dsimp only[x56,Ah,Ap,AS];refine go hS F ?_;refine Fc 1000001 (104,2) 0 6 [.i 0,.i 0,.i 0,.sl 0 true [] [],.i 0,.i 0] (by omega) (ev F) ?_;refine go hS F ?_;refine Bz r (λz:(List (Int×Int×Int×(List (Int×Int))×Int×Int))×Nat=>⟨[(2,.box (1,1) 0),(3,.box (104,2) 0)],[(.c (104,2) 0,.own (1000001,4) z.1.length),(.c (104,2) 1,.own (102,2) ms.length),(.a (102,2),EH ms),(.a (1000001,4),B7 z.1),(.c (1,1) 0,.sl 0 true [] []),(.c (1,1) 1,.sl 0 true [] [])],z.2⟩) (λz=>(z.1:(List (Int×Int×Int×(List (Int×Int))×Int×Int)))) (.x 0) ?_ ?_
 ·refine Bp (λn (y:Int×(List (Int×Int×Int×(List (Int×Int))×Int×Int))×Nat)=>EC N us n y.1 y.2.1) (λy=>⟨[(2,.box (1,1) 0),(3,.box (104,2) 0),(12,Ap us),(13,.i (us.length:Int)),(14,.i y.1)],[(.c (104,2) 0,.own (1000001,4) y.2.1.length),(.c (104,2) 1,.own (102,2) ms.length),(.a (102,2),EH ms),(.a (1000001,4),B7 y.2.1),(.c (1,1) 0,.sl 0 true [] []),(.c (1,1) 1,.sl 0 true [] [])],y.2.2⟩) (0,[],4) h (Ch F) ?_;rintro n ⟨x26,l27,c25⟩ hB2;simp only[EC]at hB2;refine An hS F hB2 (λ_ hB2=>?_) (λ_ hB2=>?_)
  ·obtain⟨⟨gD,x29,T1,x31,x32,x33⟩,hn33,hB2⟩:=un hB2;obtain⟨hb33,F⟩:=Cb Au hn33 F;obtain⟨r35,hr35,hv3,hv4,hB2⟩:=un hB2;exact Cd hS (fc hr35 F) (n,x26+1,l27++[(gD,x29,T1,r35,x32,x33)],c25+1+1+1+1+1) hB2
  ·exact B4 hS F (l27,c25+1) hB2
 ·rintro⟨l41,c40⟩ rfl;refine go hS F ?_;exact HU (ev F) (ev F) ⟨(102,2),[.own (1000001,4) l41.length],by simp[one,Wj],ev F,by simp only[go_sem,seval],rfl,by simp[XR,B5,Fu],by simp only[go_sem,seval],by simp only[go_sem,seval]⟩
