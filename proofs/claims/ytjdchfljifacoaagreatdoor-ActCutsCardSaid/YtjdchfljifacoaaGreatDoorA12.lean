import Derived.Test.YtjdchfljifacoaaGreatDoorA10
import Derived.RangeFuncNested
set_option linter.all false
namespace Go.Proofs.YtjdchfljifacoaaGreatDoor.Am
open Go
def Ctx.rdG(P:Program)(S:Tab)(nt l:Nat):Ctx:={P:=P,F:=Fence.wide.inRound l,S:=S,nt:=nt,hb:=(0,false),R:=Evo,G:=λ_ U=>∃r:Loop,U.w.heap[l]? =some (.loop r)/\¬U.M l/\U.w.heap[r.defers]? =some (.deferred (some []))/\¬U.M r.defers,ofE:=id,tr:=Evo.trans,g:=λ⟨r,h1,h2,h3,h4⟩ e _=>⟨r,(e.fro _ _ h1 h2).1,(e.fro _ _ h1 h2).2,(e.fro _ _ h3 h4).1,(e.fro _ _ h3 h4).2⟩}
theorem Ctx.rdG_ok{P:Program}{S:Tab}{nt l:Nat}(h:TabOK P S):(Ctx.rdG P S nt l).OK:=⟨h,.inr ⟨l,Eq.refl _⟩⟩
theorem zR{P:Program}{S:Tab}{nt l:Nat}:(Ctx.rdG P S nt l).S=S:=rfl
attribute [go_sem] zR
def TrL(xs:List AV):Prop:=∀(U σ':Cf),(∀b,Fz U b->(∃cs T f,U.w.heap[b]? =some (.cells cs T f))->Fz σ' b)->(∀b,Fz U b->σ'.w.heap[b]? =U.w.heap[b]?)->∀vs,RepL U xs vs->RepL σ' xs vs
theorem TrL.nil:TrL []:=λ_ _ _ _ _ h=>by simpa[RepL]using h
section
variable{P:Program}{S:Tab}{nt hbo:Nat}{H:RFix}{X:Type}{I:X->Hp×Nat}{Pre:X->Prop}{K:X->Nat}{Q:AE->St->Prop}
theorem RJ.rndG{ps:Array Nat}{assign body:Code}{fn:FuncId}{asg bdy:AC}{xs:List (List AV)}(hlp:H.lp=λst pe=>{state:=st,pending:=pe,fn:=fn,tmps:=H.a.tmps,params:=ps,assign:=assign,body:=body,defers:=H.D})(hca:cCode P nt assign=some asg)(hcb:cCode P nt body=some bdy)(hps:∀p∈ps.toList,p<nt)(hpure:∀args∈xs,AA args=true/\args.length=ps.toList.length)(hround:∀x,Pre x->∀args,xs[K x]? =some args->Aq (Ctx.rdG P S nt H.l) asg (By (Ctx.rdG P S nt H.l) bdy (Bw H.e I Pre K (K x+1) Q)) ⟨Gq ps.toList args H.e,(I x).1,(I x).2⟩)(hls:H.ss.w.heap.size<=H.l)(hDd:∀so si hp,Way H.ss so si->Inv so H.e hp H.a nt (hbo,false)->¬so.M H.D){k:Nat}{args:List AV}{si:Cf}{hpi:Hp}{vals:List Value}(h:RJ (Ctx.fn P S nt hbo) H I Pre K Q k si)(hi:HInv si hpi)(hxs:xs[k]? =some args)(hv:RepL si args vals):∃f tmps assign body,(Instr.yield H.l vals.toArray).run P si.w=.ok (.round H.l f tmps assign body) si.w/\RoundIn Fence.wide 0 P H.l f tmps assign body si.w λe w'=>∃(b:Bool)(σ':Cf),e=.returned (.bool b)/\σ'.w=w'/\Oth si σ'/\(∀(b:Nat)(o:Obj),¬si.O b->si.w.heap[b]? =some o->σ'.w.heap[b]? =some o/\¬σ'.O b)/\RJ (Ctx.fn P S nt hbo) H I Pre K Q (if b=true then k+1 else-1) σ':=by
 obtain⟨so,hp,cnt,st,pe,h1,h2,h3,h4,h8,h5,h6,h7⟩:=h;rcases h7 with⟨x,hx,hk,rfl,rfl,rfl,rfl⟩|⟨hk,_⟩
 ·have hk:K x=k:=by omega
  obtain⟨hpu,hlen⟩:=hpure args (A14 hxs);have hvl:=Bx hv;have hDM:¬so.M H.D:=hDd so si _ h2 h3;have hdis:∀b,so.O b->b<so.w.heap.size/\¬so.M b:=λb hb=>⟨h3.h.ou b hb,λhM=>h3.h.dis b hM hb⟩
  have hv':RepL so args vals:=RepL.ofPure (U:=si) (σ':=so) (λb hb=>⟨λhm=>hb.2.1 ((h1.oi b).2 (.inl hm)),λho=>by
   rcases(h1.oo b).1 ho with g|g
   ·exact hb.2.1 ((h1.oi b).2 (.inr (.inl g)))
   ·exact hb.1 g.1,by rw[h1.w];exact hb.2.2⟩) (λ_ _=>by rw[h1.w]) args vals hpu hv
  have hy:=run_yield (P:=P) (args:=vals.toArray) (w:=si.w) (l:=H.l) (by rw[<-h1.w];exact h5) (by rw[hlp];simp at hlen⊢;omega);rw[hlp]at hy;refine⟨_,_,_,_,hy,?_⟩;have hT:=Nq (d':=[]) (U:=so) (ps:=ps.toList) (args:=args) (vals:=vals) (e:=H.e) (tmps:=H.a.tmps) (d:=H.a.defers) h3.t hv' hlen (λp hp=>by rw[h3.sz];exact hps p hp);have hfold:(ps.zip vals.toArray).foldl (λt (p,v)=>t.setIfInBounds p v) H.a.tmps=(ps.toList.zip vals).foldl (λt (p,v)=>t.setIfInBounds p v) H.a.tmps:=by rw[<-Array.foldl_toList];simp
  refine roundIn_of_wpIn (F:=Fence.wide) trivial ?_;rw[hfold,<-h1.w];have ha:=hround x hx args (by rw[hk];exact hxs) assign hca so {tmps:=_,defers:=[]} ⟨⟨h3.h,hT.1,by rw[hT.2];exact h3.sz,DOK.nil (A16 _) h3.df.gl⟩,h4,⟨H.lp .ready none,h5,h8,by rw[hlp];exact h6,by rw[hlp];exact hDM⟩⟩;refine wpIn_mono ha ?_;rintro e a1 w1 ⟨s1,t1,e',rfl,ev1,at1,he,hq⟩;cases e with
  |normal=>
   simp[AE.of]at he;subst he;obtain⟨b1,b2⟩:=ev1.fro _ _ h5 h8;have dis1:∀b,s1.O b->b<s1.w.heap.size/\¬s1.M b:=λb hb=>⟨at1.1.h.ou b hb,λhM=>at1.1.h.dis b hM hb⟩
   obtain⟨s2,hs2,o2,r2,l2,k2⟩:=HR (r':={H.lp .ready none with state:=.busy}) dis1 b2 b1;have m2:¬s2.M H.l:=by rw[o2.M];exact b2
   refine⟨s2.w,?_,?_⟩
   ·rw[hs2];exact run_beginRound b1 (by rw[hlp])
   have hDl:H.D≠H.l:=by intro e;rw[e,h5]at h6;simp at h6
   have hb:=hq body hcb s2 a1 ⟨⟨at1.1.h.oth o2,at1.1.t.ev o2.ev,at1.1.sz,at1.1.df.rd r2 b1 (.inl rfl)⟩,λm hm=>at1.2.1 m (by rw[o2.al]at hm;exact hm),⟨_,l2,m2,by rw[hlp];exact k2 _ _ hDl (ev1.fro _ _ h6 hDM).1,by rw[hlp,o2.M];exact(ev1.fro _ _ h6 hDM).2⟩⟩;refine wpIn_mono hb ?_;rintro e a3 w3 ⟨s3,t3,e',rfl,ev3,at3,he,hq3⟩;obtain⟨c1,c2⟩:=ev3.fro _ _ l2 m2;have fin:∀(jump:Option Code)(k':Int)(Z:Cf)(hp4:Hp)(cnt4:Nat),Evo s3 Z->Z.w=s3.w->HInv Z hp4->(∀m,Z.al m->m.2<=cnt4)->((∃x,Pre x/\(K x:Int)=k'/\(if jump.isNone then LoopState.ready else .done)=.ready/\jump=none/\hp4=(I x).1/\cnt4=(I x).2)\/(k'= -1/\∃c e',(if jump.isNone then LoopState.ready else .done)=.done/\jump=some c/\QN c e'/\Q e' ⟨H.e,hp4,cnt4⟩))->∃v w4,(Instr.endRound H.l jump).run P s3.w=.ok v w4/\v=.bool jump.isNone/\∃σ':Cf,σ'.w=w4/\Oth si σ'/\(∀(b:Nat)(o:Obj),¬si.O b->si.w.heap[b]? =some o->σ'.w.heap[b]? =some o/\¬σ'.O b)/\RJ (Ctx.fn P S nt hbo) H I Pre K Q k' σ':=by
    intro jump k' Z hp4 cnt4 eτ wτ hτ alτ h7';obtain⟨q1,q2⟩:=eτ.fro _ _ c1 c2;have disτ:∀b,Z.O b->b<Z.w.heap.size/\¬Z.M b:=λb hb=>⟨hτ.ou b hb,λhM=>hτ.dis b hM hb⟩
    obtain⟨s4,hs4,o4,r4,l4,_⟩:=HR (r':=H.lp (if jump.isNone then LoopState.ready else .done) jump) disτ q2 q1;refine⟨_,s4.w,?_,rfl,?_⟩
    ·rw[hs4,wτ];have:=run_endRound (P:=P) jump c1;rw[hlp]at this⊢;exact this
    ·obtain⟨si',y1,y2,y3,y4⟩:=YK (V:=Ctx.fn P S nt hbo) (K:=K) (Pre:=Pre) (I:=I) (Q:=Q) h1 h2 h3 h8 h5 h6 hDM hi hls ((ev1.rd.trans r2).trans ((ev3.rd.trans eτ.rd).trans r4)) (hτ.oth o4) (by rw[o4.M];exact q2) l4 (λm hm=>alτ m (by rw[o4.al]at hm;exact hm)) h7';exact⟨si',y1,y2,y3,y4⟩
   cases e with
   |normal=>
    simp[AE.of]at he;subst he;obtain⟨x',p1,p2,p3⟩:=hq3;have hA:At (Ctx.fn P S nt 0) s3 ⟨H.e,t3.hp,t3.cnt⟩ H.a:=⟨⟨at3.1.h,h3.t.ev (((ev1.rd.trans r2).trans ev3.rd).ev c2 h5),h3.sz,DOK.rd (DOK.of rfl (λd hd=>by obtain⟨r,r1,_,r3⟩:=h3.df.all rfl d hd;exact⟨r,r1,A16 _,r3⟩) (h3.df.nd rfl) (A16 _) h3.df.gl) ((ev1.rd.trans r2).trans ev3.rd) h5 (.inl rfl)⟩,at3.2.1,trivial⟩
    obtain⟨Z,w1,e1,a1'⟩:=hA.le p3;obtain⟨v,w4,g1,rfl,σ',g3,g4,g5,g6⟩:=fin none (k+1) Z _ _ e1 w1 a1'.1.h a1'.2.1 (.inl ⟨x',p1,by omega,rfl,rfl,rfl,rfl⟩);exact⟨_,w4,g1,true,σ',rfl,g3,g4,λb o hb ho=>g5 b o hb (by rw[<-h1.w];exact ho),by simpa using g6⟩
   |ret=>simp[AE.of]at he;subst he;obtain⟨v,w4,g1,rfl,σ',g3,g4,g5,g6⟩:=fin (some .ret) (-1) s3 _ _ (Evo.refl s3) rfl at3.1.h at3.2.1 (.inr ⟨rfl,_,.r,rfl,rfl,.inl ⟨rfl,rfl⟩,hq3⟩);exact⟨_,w4,g1,false,σ',rfl,g3,g4,λb o hb ho=>g5 b o hb (by rw[<-h1.w];exact ho),by simpa using g6⟩
   |exit i=>simp[AE.of]at he;subst he;obtain⟨v,w4,g1,rfl,σ',g3,g4,g5,g6⟩:=fin (some (.exit i)) (-1) s3 _ _ (Evo.refl s3) rfl at3.1.h at3.2.1 (.inr ⟨rfl,_,.x i,rfl,rfl,.inr ⟨i,rfl,rfl⟩,hq3⟩);exact⟨_,w4,g1,false,σ',rfl,g3,g4,λb o hb ho=>g5 b o hb (by rw[<-h1.w];exact ho),by simpa using g6⟩
   |goto l=>simp[AE.of]at he
   |panic c=>obtain⟨v,rfl,rfl⟩:=AE.of_panic he;exact hq3.elim
   |outgrown=>simp[AE.of]at he
  |exit i=>simp[AE.of]at he;subst he;exact hq.elim
  |ret=>simp[AE.of]at he;subst he;exact hq.elim
  |goto l=>simp[AE.of]at he
  |panic c=>obtain⟨v,rfl,rfl⟩:=AE.of_panic he;exact hq.elim
  |outgrown=>simp[AE.of]at he
 ·omega
end
section
variable{P:Program}{S:Tab}{nt hbo:Nat}
theorem X6{X:Type}(I:X->Hp×Nat)(Pre:X->Prop)(K:X->Nat)(x0:X){f:Opd}{ps:List Nat}{asg bdy:AC}{Q:AE->St->Prop}{e:Ar}{h:Hp}{c fi:Nat}{fst cps:List AV}{xs:List (List AV)}(hx:Ay true (Ax e f)=.clo (.func fi) fst cps)(hit:TU P fi fst cps xs)(hok:C0 P fi)(hpu:AA fst=true/\AA cps=true)(hps:∀p∈ps,p<nt)(hpure:∀args∈xs,AA args=true/\args.length=ps.length)(h0:Pre x0)(hk0:K x0=0)(hle:Le ⟨e,(I x0).1,(I x0).2⟩ ⟨e,h,c⟩)(round:∀l x,Pre x->∀args,xs[K x]? =some args->Aq (Ctx.rdG P S nt l) asg (By (Ctx.rdG P S nt l) bdy (Bw e I Pre K (K x+1) Q)) ⟨Gq ps args e,(I x).1,(I x).2⟩)(hend:∀x,Pre x->K x=xs.length->Q .n ⟨e,(I x).1,(I x).2⟩):Aq (Ctx.fn P S nt hbo) (.rfun f ps asg bdy) Q ⟨e,h,c⟩:=by
 intro code hc U a hA;cases code with
 |rangeFunc g ps' assign body=>
  simp only[cCode]at hc;split at hc
  ·rename_i x' y' hca hcb;simp at hc;obtain⟨rfl,rfl,rfl,rfl⟩:=hc;obtain⟨ss,w0,ev0,A0⟩:=hA.le hle;rw[<-w0];refine wpIn_mono (Q:=lift (Ctx.fn P S nt hbo) ss Q) ?_ λe a w k=>k.mono (Ctx.ofE _ ev0)
   have hX:=EZ (g:=true) rfl A0.1.t g;rw[hx]at hX;simp only[Rep]at hX;obtain⟨fs,cs,hX,hf1,hc1⟩:=hX;refine wpIn_rangeFunc (F:=Fence.wide) λfn _=>?_
   let lp:LoopState->Option Code->Loop:=λst pe=>{state:=st,pending:=pe,fn:=fn,tmps:=a.tmps,params:=ps',assign:=assign,body:=body,defers:=ss.w.heap.size}
   let W1:World:=(ss.w.alloc (.deferred (some []))).alloc (.loop (lp .ready none))
   have hL1:W1.heap[ss.w.heap.size+1]? =some (.loop (lp .ready none)):=by have:=World.alloc_heap_new (ss.w.alloc (.deferred (some []))) (.loop (lp .ready none));rwa [World.size_alloc]at this
   have hsz1:W1.heap.size=ss.w.heap.size+2:=by simp[W1]
   have hkeep:∀(b:Nat)(o:Obj),ss.w.heap[b]? =some o->W1.heap[b]? =some o:=λb o hb=>by have hlt:=(u0.1 hb).1;rw[Cd (by simp;omega),Cd hlt];exact hb
   have hK1:W1.heap[ss.w.heap.size]? =some (.deferred (some [])):=by rw[Cd (by simp)];exact World.alloc_heap_new ss.w _
   let D:=ss.w.heap.size
   let l:=ss.w.heap.size+1
   let a0:Act:={a with defers:=[{target:=.collected D,args:=#[]}]++a.defers}
   let H:RFix:={O0:=ss.O,l:=l,D:=D,ss:=ss,e:=e,a:=a0,lp:=lp}
   let so:Cf:=ss.at W1
   have evs:Evo ss so:=Evo.at hkeep ⟨rfl,rfl⟩
   let si:Cf:={rb:=λ_=>0,ra:=λ_=>(none,0),M:=λ_=>False,O:=λb=>ss.M b\/ss.O b\/b=l\/b=D,ln:=λ_=>none,al:=λ_=>False,w:=W1}
   have hgsi:Gl si:=λb j hj=>by
    obtain⟨g1,g2⟩:=A0.1.df.gl b j hj;have g3:=(Gl.mono A0.1.df.gl evs b j hj).2;refine⟨⟨λh=>h,?_,?_⟩,g3⟩
    ·have:=g1.2.2;rintro(h|h|h|h)
     ·exact g1.1 h
     ·exact g1.2.1 h
     ·simp only[l]at h;omega
     ·simp only[D]at h;omega
    ·show b<W1.heap.size;have:=g1.2.2;omega
   have hdf:∀d∈H.a.defers,∃r,d={target:=.collected r,args:=#[]}/\(r<H.ss.w.heap.size\/r=H.D):=by
    intro d hd;simp only[H,a0,A10,A02,y6]at hd;rcases hd with rfl|hd
    ·exact⟨D,rfl,.inr rfl⟩
    ·obtain⟨r,r1,_,r3,_⟩:=A0.1.df.all rfl d hd;exact⟨r,r1,.inl (u0.1 r3).1⟩
   have nM:∀b,ss.w.heap.size<=b->¬ss.M b:=λb hb hm=>by have:=A0.1.h.lt b hm;omega
   have nO:∀b,ss.w.heap.size<=b->¬ss.O b:=λb hb hm=>by have:=A0.1.h.ou b hm;omega
   have hso:HInv so (I x0).1:=A0.1.h.at hkeep ⟨rfl,rfl⟩;have hsi:HInv si []:=⟨λ_=>rfl,λn j c h=>by simp[hl]at h,λn sz live rows d h=>by simp[hl]at h,by rintro p q b (⟨_,_,j,c,h⟩|⟨_,⟨_,_,_,h⟩,_⟩) _<;>simp[hl]at h,λb h=>h.elim,by grind,λb h=>h.elim⟩
   have hJ0:RJ (Ctx.fn P S nt hbo) H I Pre K Q 0 si:=by
    refine⟨so,(I x0).1,(I x0).2,.ready,none,⟨rfl,λb=>Iff.rfl,λb=>⟨.inl,λh=>h.elim id λh=>h.1.elim⟩,λb h=>h.elim,hsi.ou⟩,⟨evs.box,evs.arr,evs.fro,λ_ _ _ h=>h.elim,evs.sz,evs.io⟩,⟨hso,A0.1.t.mono evs,A0.1.sz,DOK.of rfl (λd hd=>?_) ?_ (A09 A0.1.df.le evs.sz) (A0.1.df.gl.mono evs)⟩,A0.2.1,nM _ (Nat.le_succ _),hL1,hK1,.inl ⟨x0,h0,by simp[hk0],rfl,rfl,rfl,rfl⟩⟩
    ·simp only[H,a0,A10,A02,y6]at hd;rcases hd with rfl|hd
     ·exact⟨D,rfl,A0.1.df.le,hK1,nM _ (w6 _),nO _ (w6 _)⟩
     ·exact(A0.1.df.mono evs).all rfl d hd
    ·simp only[H,a0,A10,A02];refine A25.2 ⟨λd hd he=>?_,A0.1.df.nd rfl⟩;obtain⟨r,rfl,_,r3,_⟩:=A0.1.df.all rfl d hd;have:D=r:=by simpa using he
     have:=(u0.1 r3).1;omega
   have hDn:∀so si hp,Way H.ss so si->Inv so H.e hp H.a nt (hbo,false)->¬so.M H.D:=λso si hp _ h3=>by
    obtain⟨r,r1,_,_,r4,_⟩:=h3.df.all rfl {target:=.collected D,args:=#[]} (by simp[H,a0]);have:H.D=r:=by simpa using r1
    rw[this];exact r4
   have hR:Rng P Fence.wide l (ss.w.heap.size+2) xs (RJ (Ctx.fn P S nt hbo) H I Pre K Q):=
    {evo:=λhj ev=>hj.evo hdf ev
     oth:=λhj o hO hP=>hj.oth (hb:=ss.w.heap.size+2) (by simp only[H];omega) hdf o hO hP
     rnd:=λhj hi hxs hv=>RJ.rndG (H:=H) (fn:=fn) (ps:=ps') rfl hca hcb hps hpure (round l) (by simp only[H,l];omega) hDn hj hi hxs hv}
   have hvals:RepL si (fst++AV.clo (.yield l) [] []::cps) (fs++ .func (.yield l) #[] #[]::cs):=by
    have pu:∀ys vs,AA ys=true->RepL ss ys vs->RepL si ys vs:=λys vs hp hr=>by
     have h1:RepL so ys vs:=RepL.mono evs ys vs hr;refine RepL.ofPure (U:=ss) (σ':=si) (λb hb=>⟨λh=>h,?_,by show b<W1.heap.size;have:=hb.2.2;omega⟩) (λb hb=>?_) ys vs hp hr
     ·have:=hb.2.2;rintro(g|g|rfl|rfl)
      ·exact hb.1 g
      ·exact hb.2.1 g
      ·simp only[l]at this;omega
      ·simp only[D]at this;omega
     ·have:=w7 hb.2.2;show W1.heap[b]? =_;rw[this];exact hkeep b _ this
    refine Dz (pu _ _ hpu.1 hf1) ?_;simp only[RepL];exact⟨_,_,rfl,by simp[Rep,RepL],pu _ _ hpu.2 hc1⟩
   refine⟨l,[{target:=.collected D,args:=#[]}],W1,{target:=.fn (.func fi) cs.toArray,args:=fs.toArray++#[.func (.yield l) #[] #[]]},W1,fi,(fs.toArray++#[.func (.yield l) #[] #[]])++cs.toArray,W1,run_enterLoop_outer _ _ _ _ _,?_,λ_ _=>trivial,?_,λh=>by simp[Fence.wide]at h,?_⟩
   ·have hy:Array.map a.eval #[.const (.func (.yield l) #[] #[])]=#[.func (.yield l) #[] #[]]:=by simp[Act.eval]
    simp only[resolve,rangeCall,hy,hX,Deferred.ofValue,Sem.run_pure]
   ·simp only[invoke];exact FE hok _ _
   have harr:(fs.toArray++#[.func (.yield l) #[] #[]])++cs.toArray=(fs++ .func (.yield l) #[] #[]::cs).toArray:=by apply Array.ext';simp
   rw[harr];refine(hit l (ss.w.heap.size+2) _ si _ hR hJ0 hsi (λ_ h=>h) hvals (by show _<=W1.heap.size;omega) hgsi).mono ?_;rintro en w' ⟨v,σ',rfl,rfl,hj⟩;have key:∀hp cnt st pe so2,Pair H.O0 H.l H.D so2 σ'->Way H.ss so2 σ'->Inv so2 H.e hp H.a nt (hbo,false)->(∀m,so2.al m->m.2<=cnt)->¬so2.M H.l->so2.w.heap[H.l]? =some (.loop (H.lp st pe))->st≠.busy->∃s5:Cf,(Instr.endLoop l).run P σ'.w=.ok pe s5.w/\Evo ss s5/\At (Ctx.fn P S nt hbo) s5 ⟨e,hp,cnt⟩ a0:=by
    intro hp cnt st pe so2 h1 h2 h3 h4 h8 h5 hb;have dis2:∀b,so2.O b->b<so2.w.heap.size/\¬so2.M b:=λb hb=>⟨h3.h.ou b hb,λhM=>h3.h.dis b hM hb⟩
    obtain⟨s4,hs4,o4,r4,l4,k4⟩:=HR (r':={H.lp st pe with state:=.exhausted}) dis2 h8 h5;have hOs:∀b,ss.O b->s4.O b:=λb hb=>by rw[r4.out];exact(h1.oo b).2 (.inl hb)
    let s5:Cf:={s4 with O:=ss.O}
    have h4i:=h3.h.oth o4;have o5:Oth s4 s5:=⟨rfl,rfl,rfl,rfl,rfl,λb hb=>⟨h4i.ou b (hOs b hb),λhM=>h4i.dis b hM (hOs b hb),λhf=>hf.2.1 (hOs b hb)⟩,w6 _,λ_ _=>rfl,λ_ _ _ _ h=>h,SameO.refl _⟩
    have df4:=h3.df.rd r4 h5 (.inl rfl);refine⟨s5,?_,⟨λn hn=>?_,λn hn l' hl'=>?_,λb o ho hm=>?_,rfl,A09 h2.sz r4.sz,h2.io.trans r4.io⟩,⟨h4i.oth o5,(h3.t.ev o4.ev).ev o5.ev,h3.sz,DOK.of rfl (λd hd=>?_) (df4.nd rfl) df4.le (df4.gl.ev o5.ev)⟩,λm hm=>h4 m ?_,trivial⟩
    ·have:=run_endLoop (P:=P) (w:=so2.w) h5 hb;rw[h1.w]at this;show _=Result.ok pe s4.w;rw[hs4,this,h1.w]
    ·exact⟨(r4.box n (h2.box n hn).1).1,((r4.box n (h2.box n hn).1).2).trans (h2.box n hn).2⟩
    ·obtain⟨l1,g1,g2,g3⟩:=r4.arr n (h2.box n hn).1 l' hl';obtain⟨m,q1,q2,q3⟩:=h2.arr n hn l1 g1;refine⟨m,q1,A09 q2 g2,λe=>?_⟩;have e1:m=l1:=by omega
     have e2:l1=l':=by omega
     exact(g3 e2).trans (q3 e1)
    ·obtain⟨g1,g2⟩:=h2.old b o ho hm;have hlt:=(u0.1 ho).1;exact r4.fro b o (by intro e;subst e;simp only[H,l]at hlt;omega) g1 g2
    ·obtain⟨r,r1,r2,r3,r4',r5⟩:=df4.all rfl d hd;exact⟨r,r1,r2,r3,r4',λh=>r5 (hOs r h)⟩
    ·have hm':s4.al m:=hm;rw[o4.al]at hm';exact hm'
   have inv:∀{k:Int},RJ (Ctx.fn P S nt hbo) H I Pre K Q k σ'->rangePost Fence.wide 0 P l (lift (Ctx.fn P S nt hbo) ss Q) a0 (.returned v) σ'.w\/False\/k≠xs.length/\k≠-1:=by
    intro k hj;obtain⟨so2,hp,cnt,st,pe,h1,h2,h3,h4,h8,h5,h6,h7⟩:=hj;rcases h7 with⟨x,hx,hk,rfl,rfl,rfl,rfl⟩|⟨hk,c',e',rfl,rfl,hjp,hq⟩
    ·by_cases hlen:K x=xs.length
     ·obtain⟨s5,g1,g2,g3⟩:=key _ _ _ _ so2 h1 h2 h3 h4 h8 h5 (by simp);exact .inl ⟨none,s5.w,g1,s5,_,.n,rfl,g2,g3,rfl,hend x hx hlen⟩
     ·exact .inr (.inr ⟨by omega,by omega⟩)
    ·obtain⟨s5,g1,g2,g3⟩:=key _ _ _ _ so2 h1 h2 h3 h4 h8 h5 (by simp);refine .inl ⟨some c',s5.w,g1,?_⟩;rcases hjp with⟨rfl,rfl⟩|⟨i,rfl,rfl⟩
     ·exact wpIn_ret ⟨s5,_,.r,rfl,g2,g3,rfl,hq⟩
     ·exact wpIn_exit ⟨s5,_,.x i,rfl,g2,g3,rfl,hq⟩
   rcases hj with hj|hj
   ·rcases inv hj with h|h|h
    ·exact h
    ·exact h.elim
    ·exact absurd rfl h.1
   ·rcases inv hj with h|h|h
    ·exact h
    ·exact h.elim
    ·exact absurd rfl h.2
  ·simp at hc
 |region id ops d=>obtain⟨_,_,⟨_,e⟩|⟨_,_,_,_,e⟩⟩:=BM hc<;>cases e
 |seq x y=>simp only[cCode]at hc;split at hc<;>simp at hc
 |cond c x y=>simp only[cCode]at hc;split at hc<;>simp at hc
 |_=>simp[cCode]at hc
theorem X7{l0:Nat}{X:Type}(I:X->Hp×Nat)(Pre:X->Prop)(K:X->Nat)(x0:X){f:Opd}{ps:List Nat}{asg bdy:AC}{Q:AE->St->Prop}{e:Ar}{h:Hp}{c fi:Nat}{fst cps:List AV}{xs:List (List AV)}(hx:Ay true (Ax e f)=.clo (.func fi) fst cps)(hit:TU P fi fst cps xs)(hok:C0 P fi)(hpu:AA fst=true/\AA cps=true)(hps:∀p∈ps,p<nt)(hpure:∀args∈xs,AA args=true/\args.length=ps.length)(htr:TrL fst/\TrL cps)(h0:Pre x0)(hk0:K x0=0)(hle:Le ⟨e,(I x0).1,(I x0).2⟩ ⟨e,h,c⟩)(round:∀l x,Pre x->∀args,xs[K x]? =some args->Aq (Ctx.rdG P S nt l) asg (By (Ctx.rdG P S nt l) bdy (Bw e I Pre K (K x+1) Q)) ⟨Gq ps args e,(I x).1,(I x).2⟩)(hend:∀x,Pre x->K x=xs.length->Q .n ⟨e,(I x).1,(I x).2⟩):Aq (Ctx.rdG P S nt l0) (.rfun f ps asg bdy) Q ⟨e,h,c⟩:=by
 intro code hc U a hA;cases code with
 |rangeFunc g ps' assign body=>
  simp only[cCode]at hc;split at hc
  ·rename_i x' y' hca hcb;simp at hc;obtain⟨rfl,rfl,rfl,rfl⟩:=hc;obtain⟨ss,w0,ev0,A0⟩:=hA.le hle;rw[<-w0];refine wpIn_mono (Q:=lift (Ctx.rdG P S nt l0) ss Q) ?_ λe a w k=>k.mono (Ctx.ofE _ ev0)
   have hX:=EZ (g:=true) rfl A0.1.t g;rw[hx]at hX;simp only[Rep]at hX;obtain⟨fs,cs,hX,hf1,hc1⟩:=hX;refine wpIn_rangeFunc (F:=Fence.wide.inRound l0) λfn _=>?_
   obtain⟨r0,gl,gM,gD,gDM⟩:=A0.2.2
   let lp:LoopState->Option Code->Loop:=λst pe=>{state:=st,pending:=pe,fn:=fn,tmps:=a.tmps,params:=ps',assign:=assign,body:=body,defers:=r0.defers}
   let W1:World:=ss.w.alloc (.loop (lp .ready none))
   have hL1:W1.heap[ss.w.heap.size]? =some (.loop (lp .ready none)):=World.alloc_heap_new ss.w (.loop (lp .ready none));have hsz1:W1.heap.size=ss.w.heap.size+1:=by simp[W1]
   have hkeep:∀(b:Nat)(o:Obj),ss.w.heap[b]? =some o->W1.heap[b]? =some o:=λb o hb=>by have hlt:=(u0.1 hb).1;rw[Cd hlt];exact hb
   have hK1:W1.heap[r0.defers]? =some (.deferred (some [])):=hkeep _ _ gD;have hDlt:r0.defers<ss.w.heap.size:=(u0.1 gD).1
   let D:=r0.defers
   let l:=ss.w.heap.size
   let a0:Act:={a with defers:=[]++a.defers}
   let H:RFix:={O0:=ss.O,l:=l,D:=D,ss:=ss,e:=e,a:=a0,lp:=lp}
   let so:Cf:=ss.at W1
   have evs:Evo ss so:=Evo.at hkeep ⟨rfl,rfl⟩
   let si:Cf:={rb:=λ_=>0,ra:=λ_=>(none,0),M:=λ_=>False,O:=λb=>ss.M b\/ss.O b\/b=l\/b=D,ln:=λ_=>none,al:=λ_=>False,w:=W1}
   have hgsi:Gl si:=λb j hj=>by
    obtain⟨g1,g2⟩:=A0.1.df.gl b j hj;have g3:=(Gl.mono A0.1.df.gl evs b j hj).2;refine⟨⟨λh=>h,?_,?_⟩,g3⟩
    ·have:=g1.2.2;rintro(h|h|h|h)
     ·exact g1.1 h
     ·exact g1.2.1 h
     ·simp only[l]at h;omega
     ·simp only[D]at h;subst h;simp[World.cell?,gD]at g2
    ·show b<W1.heap.size;have:=g1.2.2;omega
   have hdf:∀d∈H.a.defers,∃r,d={target:=.collected r,args:=#[]}/\(r<H.ss.w.heap.size\/r=H.D):=by intro d hd;simp only[H,a0,A02]at hd;obtain⟨r,r1,_,r3,_⟩:=A0.1.df.all rfl d hd;exact⟨r,r1,.inl (u0.1 r3).1⟩
   have nM:∀b,ss.w.heap.size<=b->¬ss.M b:=λb hb hm=>by have:=A0.1.h.lt b hm;omega
   have nO:∀b,ss.w.heap.size<=b->¬ss.O b:=λb hb hm=>by have:=A0.1.h.ou b hm;omega
   have hso:HInv so (I x0).1:=A0.1.h.at hkeep ⟨rfl,rfl⟩;have hsi:HInv si []:=⟨λ_=>rfl,λn j c h=>by simp[hl]at h,λn sz live rows d h=>by simp[hl]at h,by
    rintro p q b (⟨_,_,j,c,h⟩|⟨_,⟨_,_,_,h⟩,_⟩) _<;>simp[hl]at h,λb h=>h.elim,λb hb=>by
     show b<W1.heap.size;rw[hsz1];rcases hb with hb|hb|rfl|rfl
     ·have:=A0.1.h.lt b hb;omega
     ·have:=A0.1.h.ou b hb;omega
     ·simp only[l];omega
     ·simp only[D];omega,λb h=>h.elim⟩
   have hJ0:RJ (Ctx.rdG P S nt l0) H I Pre K Q 0 si:=by
    refine⟨so,(I x0).1,(I x0).2,.ready,none,⟨rfl,λb=>Iff.rfl,λb=>⟨.inl,λh=>h.elim id λh=>h.1.elim⟩,λb h=>h.elim,hsi.ou⟩,⟨evs.box,evs.arr,evs.fro,λ_ _ _ h=>h.elim,evs.sz,evs.io⟩,⟨hso,A0.1.t.mono evs,A0.1.sz,DOK.of rfl (λd hd=>?_) ?_ (A09 A0.1.df.le evs.sz) (A0.1.df.gl.mono evs)⟩,A0.2.1,nM _ (w6 _),hL1,hK1,.inl ⟨x0,h0,by simp[hk0],rfl,rfl,rfl,rfl⟩⟩
    ·simp only[H,a0,A02]at hd;exact(A0.1.df.mono evs).all rfl d hd
    ·simp only[H,a0,A02];exact A0.1.df.nd rfl
   have hDn:∀so si hp,Way H.ss so si->Inv so H.e hp H.a nt (0,false)->¬so.M H.D:=λso si hp h2 _=>(h2.old _ _ gD gDM).2
   have hR:Rng P Fence.wide l (ss.w.heap.size+1) xs (RJ (Ctx.rdG P S nt l0) H I Pre K Q):=
    {evo:=λhj ev=>hj.evo hdf ev
     oth:=λhj o hO hP=>hj.oth (hb:=ss.w.heap.size+1) (by simp only[H];omega) hdf o hO hP
     rnd:=λhj hi hxs hv=>RJ.rndG (hbo:=0) (H:=H) (fn:=fn) (ps:=ps') rfl hca hcb hps hpure (round l) (by simp only[H,l];omega) hDn hj hi hxs hv}
   have hvals:RepL si (fst++AV.clo (.yield l) [] []::cps) (fs++ .func (.yield l) #[] #[]::cs):=by
    have hFz:∀b,Fz ss b->(∃cs T f,ss.w.heap[b]? =some (.cells cs T f))->Fz si b:=λb hb ⟨cs,T,f,hc⟩=>⟨λh=>h,by
     have:=hb.2.2;rintro(g|g|rfl|rfl)
     ·exact hb.1 g
     ·exact hb.2.1 g
     ·simp only[l]at this;omega
     ·simp only[D]at hc;rw[gD]at hc;simp at hc,by show b<W1.heap.size;have:=hb.2.2;omega⟩
    have hSm:∀b,Fz ss b->si.w.heap[b]? =ss.w.heap[b]? :=λb hb=>by have:=w7 hb.2.2;show W1.heap[b]? =_;rw[this];exact hkeep b _ this
    refine Dz (htr.1 ss si hFz hSm _ hf1) ?_;simp only[RepL];exact⟨_,_,rfl,by simp[Rep,RepL],htr.2 ss si hFz hSm _ hc1⟩
   refine⟨l,[],W1,{target:=.fn (.func fi) cs.toArray,args:=fs.toArray++#[.func (.yield l) #[] #[]]},W1,fi,(fs.toArray++#[.func (.yield l) #[] #[]])++cs.toArray,W1,run_enterLoop_inner gl _ _ _ _ _,?_,λ_ _=>trivial,?_,λh=>by simp[Fence.wide]at h,?_⟩
   ·have hy:Array.map a.eval #[.const (.func (.yield l) #[] #[])]=#[.func (.yield l) #[] #[]]:=by simp[Act.eval]
    simp only[resolve,rangeCall,hy,hX,Deferred.ofValue,Sem.run_pure]
   ·simp only[invoke];exact FE hok _ _
   have harr:(fs.toArray++#[.func (.yield l) #[] #[]])++cs.toArray=(fs++ .func (.yield l) #[] #[]::cs).toArray:=by apply Array.ext';simp
   rw[harr];refine(hit l (ss.w.heap.size+1) _ si _ hR hJ0 hsi (λ_ h=>h) hvals (by show _<=W1.heap.size;omega) hgsi).mono ?_;rintro en w' ⟨v,σ',rfl,rfl,hj⟩;have key:∀hp cnt st pe so2,Pair H.O0 H.l H.D so2 σ'->Way H.ss so2 σ'->Inv so2 H.e hp H.a nt (0,false)->(∀m,so2.al m->m.2<=cnt)->¬so2.M H.l->so2.w.heap[H.l]? =some (.loop (H.lp st pe))->st≠.busy->∃s5:Cf,(Instr.endLoop l).run P σ'.w=.ok pe s5.w/\Evo ss s5/\At (Ctx.rdG P S nt l0) s5 ⟨e,hp,cnt⟩ a0:=by
    intro hp cnt st pe so2 h1 h2 h3 h4 h8 h5 hb;have dis2:∀b,so2.O b->b<so2.w.heap.size/\¬so2.M b:=λb hb=>⟨h3.h.ou b hb,λhM=>h3.h.dis b hM hb⟩
    obtain⟨s4,hs4,o4,r4,l4,k4⟩:=HR (r':={H.lp st pe with state:=.exhausted}) dis2 h8 h5;have hOs:∀b,ss.O b->s4.O b:=λb hb=>by rw[r4.out];exact(h1.oo b).2 (.inl hb)
    let s5:Cf:={s4 with O:=ss.O}
    have h4i:=h3.h.oth o4;have o5:Oth s4 s5:=⟨rfl,rfl,rfl,rfl,rfl,λb hb=>⟨h4i.ou b (hOs b hb),λhM=>h4i.dis b hM (hOs b hb),λhf=>hf.2.1 (hOs b hb)⟩,w6 _,λ_ _=>rfl,λ_ _ _ _ h=>h,SameO.refl _⟩
    have df4:=h3.df.rd r4 h5 (.inl rfl);have hl0:l0≠H.l:=by have:=(u0.1 gl).1;simp only[H,l];omega
    have hDl:r0.defers≠H.l:=by simp only[H,l];omega
    refine⟨s5,?_,⟨λn hn=>?_,λn hn l' hl'=>?_,λb o ho hm=>?_,rfl,A09 h2.sz r4.sz,h2.io.trans r4.io⟩,⟨h4i.oth o5,(h3.t.ev o4.ev).ev o5.ev,h3.sz,DOK.of rfl (λd hd=>?_) (df4.nd rfl) df4.le (df4.gl.ev o5.ev)⟩,λm hm=>h4 m ?_,⟨r0,(r4.fro _ _ hl0 (h2.old _ _ gl gM).1 (h2.old _ _ gl gM).2).1,(r4.fro _ _ hl0 (h2.old _ _ gl gM).1 (h2.old _ _ gl gM).2).2,(r4.fro _ _ hDl (h2.old _ _ gD gDM).1 (h2.old _ _ gD gDM).2).1,(r4.fro _ _ hDl (h2.old _ _ gD gDM).1 (h2.old _ _ gD gDM).2).2⟩⟩
    ·have:=run_endLoop (P:=P) (w:=so2.w) h5 hb;rw[h1.w]at this;show _=Result.ok pe s4.w;rw[hs4,this,h1.w]
    ·exact⟨(r4.box n (h2.box n hn).1).1,((r4.box n (h2.box n hn).1).2).trans (h2.box n hn).2⟩
    ·obtain⟨l1,g1,g2,g3⟩:=r4.arr n (h2.box n hn).1 l' hl';obtain⟨m,q1,q2,q3⟩:=h2.arr n hn l1 g1;refine⟨m,q1,A09 q2 g2,λe=>?_⟩;have e1:m=l1:=by omega
     have e2:l1=l':=by omega
     exact(g3 e2).trans (q3 e1)
    ·obtain⟨g1,g2⟩:=h2.old b o ho hm;have hlt:=(u0.1 ho).1;exact r4.fro b o (by intro e;subst e;simp only[H,l]at hlt;omega) g1 g2
    ·obtain⟨r,r1,r2,r3,r4',r5⟩:=df4.all rfl d hd;exact⟨r,r1,r2,r3,r4',λh=>r5 (hOs r h)⟩
    ·have hm':s4.al m:=hm;rw[o4.al]at hm';exact hm'
   have inv:∀{k:Int},RJ (Ctx.rdG P S nt l0) H I Pre K Q k σ'->rangePost (Fence.wide.inRound l0) 0 P l (lift (Ctx.rdG P S nt l0) ss Q) a0 (.returned v) σ'.w\/False\/k≠xs.length/\k≠-1:=by
    intro k hj;obtain⟨so2,hp,cnt,st,pe,h1,h2,h3,h4,h8,h5,h6,h7⟩:=hj;rcases h7 with⟨x,hx,hk,rfl,rfl,rfl,rfl⟩|⟨hk,c',e',rfl,rfl,hjp,hq⟩
    ·by_cases hlen:K x=xs.length
     ·obtain⟨s5,g1,g2,g3⟩:=key _ _ _ _ so2 h1 h2 h3 h4 h8 h5 (by simp);exact .inl ⟨none,s5.w,g1,s5,_,.n,rfl,g2,g3,rfl,hend x hx hlen⟩
     ·exact .inr (.inr ⟨by omega,by omega⟩)
    ·obtain⟨s5,g1,g2,g3⟩:=key _ _ _ _ so2 h1 h2 h3 h4 h8 h5 (by simp);refine .inl ⟨some c',s5.w,g1,?_⟩;rcases hjp with⟨rfl,rfl⟩|⟨i,rfl,rfl⟩
     ·exact wpIn_ret ⟨s5,_,.r,rfl,g2,g3,rfl,hq⟩
     ·exact wpIn_exit ⟨s5,_,.x i,rfl,g2,g3,rfl,hq⟩
   rcases hj with hj|hj
   ·rcases inv hj with h|h|h
    ·exact h
    ·exact h.elim
    ·exact absurd rfl h.1
   ·rcases inv hj with h|h|h
    ·exact h
    ·exact h.elim
    ·exact absurd rfl h.2
  ·simp at hc
 |region id ops d=>obtain⟨_,_,⟨_,e⟩|⟨_,_,_,_,e⟩⟩:=BM hc<;>cases e
 |seq x y=>simp only[cCode]at hc;split at hc<;>simp at hc
 |cond c x y=>simp only[cCode]at hc;split at hc<;>simp at hc
 |_=>simp[cCode]at hc
end
section
variable{V:Ctx}
theorem R7(hΓ:V.OK){ops':Array Oper}{ops:List AOp}{WQ:Exit->Act->World->Prop}(bs:Nat)(e0:Ar)(hx0:FM V.P V.nt ops' ops'.toList=some ops)(k i:Nat)(hki:k<=i){yo:AOp}{K:AV->St->Prop}{U:Cf}{a:Act}{e e1:Ar}{h h1:Hp}{c:Nat}{vc:Prop}{f:Nat}{args:List AV}{fn:Func}{ac:AC}{rvs:List RV}{ntf:Nat}(hf:V.P.funcs[f]? =some fn)(hcf:Dj V.P fn=some (ac,rvs))(hnt:fn.ntmps=ntf)(hok:C0 V.P f)(hyo:ops[i]? =some yo)(hex:Bh V.S (c+1) (bs+k) ((ops.drop k).take (i-k)) e h=some (vc,e1,h1))(hvc:vc)(hg:D8 e1 yo.g=some true)(hca:EG e1 yo.k=some (f,args))(hn:args.length<=ntf)(hbody:∀hb,Aq (Ctx.fn V.P V.S ntf hb) ac (Ba rvs K) ⟨BC 0 args,h1,c+1⟩)(hgl:∀t,V.nt<=t->lk e t=lk e0 t)(hI:Inv U e h a V.nt V.hb)(hal:∀m,U.al m->m.2<=c\/(m.2=c+1/\m.1<bs+k))(hrest:∀Z a' r s,Evo U Z->Inv Z (BQ yo.d r e1) s.hp a' V.nt V.hb->(∀m,Z.al m->m.2<=s.cnt)->(∀t,V.nt<=t->lk (BQ yo.d r e1) t=lk e0 t)->K r s->wpOpsIn V.F 0 V.P ops' WQ (List.range' (i+1) (ops'.size-(i+1))) a' Z.w):wpOpsIn V.F 0 V.P ops' WQ (List.range' k (ops'.size-k)) a U.w:=by
 obtain⟨c1,c2⟩:=CM hx0;obtain⟨_,t0⟩:=Cj k hx0;obtain⟨t1,_⟩:=Cj (i-k) t0;have hi:i<ops.length:=(y5.1 hyo).1;have hsz:ops.length=ops'.size:=c1.trans (by simp);have hi':i<ops'.size:=by omega
 have ho:ops'[i]? =some ops'[i]:=w7 hi';obtain⟨yo',g1,g2⟩:=c2 i ops'[i] (by simp);rw[hyo]at g1;cases g1
 have hlen:((ops'.toList.drop k).take (i-k)).length=i-k:=by simp;omega
 have hr:List.range' k (ops'.size-k)=List.range' k ((ops'.toList.drop k).take (i-k)).length++(i::List.range' (i+1) (ops'.size-(i+1))):=by rw[hlen,<-A38];have:=List.range'_append_1 (s:=k) (m:=i-k) (n:=ops'.size-(i+1)+1);rw[show k+(i-k)=i by omega]at this;rw[this];congr 1;omega
 rw[hr];refine E0 hΓ bs e0 _ ((ops'.toList.drop k).take (i-k)) k ((ops.drop k).take (i-k)) U e e1 h h1 a vc hgl (λj hj=>?_) t1 hex hvc hI hal λa1 σ1 ev1 hI1 hal1 hfar1=>?_
 ·have:j<i-k:=by omega
  simp[A27,this]
 rw[wpOpsIn_cons];unfold wpOpIn;simp only[ho];obtain⟨hno,k4,k3,vals,hv,hrun⟩:=Jk hI1 g2 hok hca;have hw:=DA hI1.t k4 hg;simp only[hw,if_true];refine⟨λf _=>hΓ.F.fn f,?_⟩;rw[Oper.semAt_eq _ a1.eval _ hno,hrun];refine⟨λh=>by simp[hΓ.F.depth]at h,hΓ.F.calls ((callsIn_wide.1 (IO hΓ.S hf hcf hnt hn hI1.df.gl hI1.h (λm hm=>by rcases hal1 m hm with h|h<;>omega) hv (hbody _))).mono ?_)⟩;rintro en w' ⟨v,Z,s,r,rfl,rfl,evτ,hτ,alτ,rv,hK⟩;have hd:∀k,ops'[i].dst=some k->k<a1.tmps.size:=by rw[k3];intro d hd;rw[hI1.sz];exact C9 g2 d hd
 have hI2:Inv Z (BQ yo.d r e1) s.hp (a1.put ops'[i].dst v) V.nt V.hb:=by rw[<-k3];exact⟨hτ,(hI1.t.mono evτ).put hd rv,by rw[Act.size_put];exact hI1.sz,by rw[Act.defers_put,DL (λd hd=>C9 g2 d (k3▸hd)) (show V.nt<=dk V.nt from A55 _ _)];exact hI1.df.mono evτ⟩
 exact hrest Z _ r s (ev1.trans evτ) hI2 alτ (λt ht=>(DL (C9 g2) ht).trans (hfar1 t ht)) hK
def S1(P:Program)(S:Tab)(rid i j:Nat)(d:Option Nat)(mid:List AOp)(yo2:AOp)(post:List AOp)(f2 ntf2:Nat)(ac2:AC)(rvs2:List RV)(e1:Ar)(Q:AE->St->Prop)(r:AV)(s:St):Prop:=∃(vc2:Prop)(e2:Ar)(h2:Hp)(args2:List AV),Bh S (s.cnt+1) (100*rid+(i+1)) mid (BQ d r e1) s.hp=some (vc2,e2,h2)/\vc2/\D8 e2 yo2.g=some true/\EG e2 yo2.k=some (f2,args2)/\args2.length<=ntf2/\∀hb,Aq (Ctx.fn P S ntf2 hb) ac2 (Ba rvs2 (AQ S rid j yo2.d post e2 Q)) ⟨BC 0 args2,h2,s.cnt+1⟩
theorem aZ(hΓ:V.OK)(i j:Nat)(hij:i<j){rid:Nat}{ops:List AOp}{yo yo2:AOp}{Q:AE->St->Prop}{e e1:Ar}{h h1:Hp}{c:Nat}{vc:Prop}{f f2:Nat}{args:List AV}{fn fn2:Func}{ac ac2:AC}{rvs rvs2:List RV}{ntf ntf2:Nat}(hf:V.P.funcs[f]? =some fn)(hcf:Dj V.P fn=some (ac,rvs))(hnt:fn.ntmps=ntf)(hok:C0 V.P f)(hf2:V.P.funcs[f2]? =some fn2)(hcf2:Dj V.P fn2=some (ac2,rvs2))(hnt2:fn2.ntmps=ntf2)(hok2:C0 V.P f2)(hyo:ops[i]? =some yo)(hyo2:ops[j]? =some yo2)(hex:Bh V.S (c+1) (100*rid) (ops.take i) e h=some (vc,e1,h1))(hvc:vc)(hg:D8 e1 yo.g=some true)(hca:EG e1 yo.k=some (f,args))(hn:args.length<=ntf)(hbody:∀hb,Aq (Ctx.fn V.P V.S ntf hb) ac (Ba rvs (S1 V.P V.S rid i j yo.d ((ops.drop (i+1)).take (j-(i+1))) yo2 (ops.drop (j+1)) f2 ntf2 ac2 rvs2 e1 Q)) ⟨BC 0 args,h1,c+1⟩):Aq V (.reg rid ops) Q ⟨e,h,c⟩:=by
 intro code hc U a hA;cases code with
 |region id ops' d=>
  simp only[cCode]at hc;obtain⟨l0,hx0,⟨rfl,e0⟩|⟨_,_,_,_,e0⟩⟩:=BM hc
  ·cases e0
   refine wpIn_region ?_;have hr0:List.range ops'.size=List.range' 0 (ops'.size-0):=by rw[A36];simp
   rw[hr0];refine R7 hΓ (100*rid) e hx0 0 i (A16 _) (c:=c) hf hcf hnt hok hyo (by simpa using hex) hvc hg hca hn hbody (λ_ _=>rfl) hA.1 (λm hm=>.inl (hA.2.1 m hm)) ?_;rintro Z a' r s ev1 hI1 al1 gl1 ⟨vc2,e2,h2,args2,q1,q2,q3,q4,q5,q6⟩;refine R7 hΓ (100*rid) e hx0 (i+1) j hij (c:=s.cnt) hf2 hcf2 hnt2 hok2 hyo2 q1 q2 q3 q4 q5 q6 gl1 hI1 (by grind) ?_;rintro τ2 a2 r2 s2 ev2 hI2 al2 gl2 ⟨vc3,e3,h3,p1,p2,p3⟩;obtain⟨c1,_⟩:=CM hx0;obtain⟨_,t3⟩:=Cj (j+1) hx0;have hj:j<ops.length:=by grind
   have hsz:ops.length=ops'.size:=by omega
   have hl:(ops'.toList.drop (j+1)).length=ops'.size-(j+1):=by simp
   have:=FS hΓ (ops:=ops') (Q:=Q) (cnt:=s2.cnt) (100*rid) e U hA.2.2 (ops'.toList.drop (j+1)) (j+1) (ops.drop (j+1)) τ2 _ _ _ _ _ vc3 gl2 (λj=>by simp) (by omega) t3 p1 p2 (ev1.trans ev2) hI2 (by grind) p3;rw[hl]at this;exact this
  ·cases e0
 |seq x y=>simp only[cCode]at hc;split at hc<;>simp at hc
 |cond c x y=>simp only[cCode]at hc;split at hc<;>simp at hc
 |rangeFunc f ps x y=>simp only[cCode]at hc;split at hc<;>simp at hc
 |_=>simp[cCode]at hc
end
theorem R8{P:Program}{S:Tab}{nt hb:Nat}(hS:TabOK P S)(i j:Nat)(hij:i<j){rid:Nat}{ops mid post:List AOp}{d d2:Option Nat}{g g2:Option (Nat×Bool)}{k k2:AK}{Q:AE->St->Prop}{e e1:Ar}{h h1:Hp}{c:Nat}{vc:Prop}{f f2:Nat}{args:List AV}{fn fn2:Func}{ac ac2:AC}{rvs rvs2:List RV}{ntf ntf2:Nat}(hf:P.funcs[f]? =some fn)(hcf:Dj P fn=some (ac,rvs))(hnt:fn.ntmps=ntf)(hok:C0 P f)(hf2:P.funcs[f2]? =some fn2)(hcf2:Dj P fn2=some (ac2,rvs2))(hnt2:fn2.ntmps=ntf2)(hok2:C0 P f2)(hyo:ops[i]? =some ⟨d,g,k⟩)(hyo2:ops[j]? =some ⟨d2,g2,k2⟩)(hmid:(ops.drop (i+1)).take (j-(i+1))=mid)(hpost:ops.drop (j+1)=post)(hex:Bh S (c+1) (100*rid) (ops.take i) e h=some (vc,e1,h1))(hvc:vc)(hg:D8 e1 g=some true)(hca:EG e1 k=some (f,args))(hn:args.length<=ntf)(hbody:∀hb,Aq (Ctx.fn P S ntf hb) ac (Ba rvs (S1 P S rid i j d mid ⟨d2,g2,k2⟩ post f2 ntf2 ac2 rvs2 e1 Q)) ⟨BC 0 args,h1,c+1⟩):Aq (Ctx.fn P S nt hb) (.reg rid ops) Q ⟨e,h,c⟩:=by subst hmid hpost;exact aZ (Ctx.fn_ok hS) i j hij hf hcf hnt hok hf2 hcf2 hnt2 hok2 hyo hyo2 hex hvc hg hca hn hbody
theorem Tn{P:Program}{S:Tab}{rid i j:Nat}{d d2:Option Nat}{g2:Option (Nat×Bool)}{k2:AK}{mid post:List AOp}{f2 ntf2:Nat}{ac2:AC}{rvs rvs2:List RV}{e1 e e2:Ar}{h h2:Hp}{c:Nat}{Q:AE->St->Prop}{vc vc2:Prop}{xs args2:List AV}(h1:DK e h rvs=some (vc,xs))(hx:Bh S (c+1) (100*rid+(i+1)) mid (BQ d (one xs) e1) h=some (vc2,e2,h2))(hv:vc)(hv2:vc2)(hg:D8 e2 g2=some true)(hca:EG e2 k2=some (f2,args2))(hn:args2.length<=ntf2)(hb:∀hb,Aq (Ctx.fn P S ntf2 hb) ac2 (Ba rvs2 (AQ S rid j d2 post e2 Q)) ⟨BC 0 args2,h2,c+1⟩):Ba rvs (S1 P S rid i j d mid ⟨d2,g2,k2⟩ post f2 ntf2 ac2 rvs2 e1 Q) .n ⟨e,h,c⟩:=⟨vc,xs,h1,hv,vc2,e2,h2,args2,hx,hv2,hg,hca,hn,hb⟩
theorem To{P:Program}{S:Tab}{rid i j:Nat}{d d2:Option Nat}{g2:Option (Nat×Bool)}{k2:AK}{mid post:List AOp}{f2 ntf2:Nat}{ac2:AC}{rvs rvs2:List RV}{e1 e e2:Ar}{h h2:Hp}{c:Nat}{Q:AE->St->Prop}{vc vc2:Prop}{xs args2:List AV}(h1:DK e h rvs=some (vc,xs))(hx:Bh S (c+1) (100*rid+(i+1)) mid (BQ d (one xs) e1) h=some (vc2,e2,h2))(hv:vc)(hv2:vc2)(hg:D8 e2 g2=some true)(hca:EG e2 k2=some (f2,args2))(hn:args2.length<=ntf2)(hb:∀hb,Aq (Ctx.fn P S ntf2 hb) ac2 (Ba rvs2 (AQ S rid j d2 post e2 Q)) ⟨BC 0 args2,h2,c+1⟩):Ba rvs (S1 P S rid i j d mid ⟨d2,g2,k2⟩ post f2 ntf2 ac2 rvs2 e1 Q) .r ⟨e,h,c⟩:=⟨vc,xs,h1,hv,vc2,e2,h2,args2,hx,hv2,hg,hca,hn,hb⟩
