import Derived.Test.YtciphecegkfaiaaGreatA10
import Derived.RangeFuncNested
import Derived.RecoverIn
set_option linter.unusedSimpArgs false
set_option linter.unusedVariables false
namespace Go.Proofs.YtciphecegkfaiaaGreat.Am
open Go
section
def Ctx.rdG(P:Program)(S:Tab)(nt l:Nat):Ctx:={P:=P,F:=Fence.wide.inRound l,S:=S,nt:=nt,hb:=(0,false),R:=Evo,G:=λ_ U=>∃r:Loop,U.w.heap[l]? =some (.loop r)/\¬U.M l/\U.w.heap[r.defers]? =some (.deferred (some []))/\¬U.M r.defers,ofE:=id,tr:=Evo.trans,g:=λ⟨r,h1,h2,h3,h4⟩ e _=>⟨r,(e.fro _ _ h1 h2).1,(e.fro _ _ h1 h2).2,(e.fro _ _ h3 h4).1,(e.fro _ _ h3 h4).2⟩}
theorem Ctx.rdG_ok{P:Program}{S:Tab}{nt l:Nat}(h:TabOK P S):(Ctx.rdG P S nt l).OK:=⟨h,.inr ⟨l,Eq.refl _⟩⟩
theorem Aa4{P:Program}{S:Tab}{nt l:Nat}:(Ctx.rdG P S nt l).S=S:=rfl
attribute [go_sem] Aa4
def TrL(xs:List AV):Prop:=∀(U σ':Cf),(∀b,Fz U b->(∃cs T f,U.w.heap[b]? =some (.cells cs T f))->Fz σ' b)->(∀b,Fz U b->σ'.w.heap[b]? =U.w.heap[b]?)->∀vs,RepL U xs vs->RepL σ' xs vs
theorem TrL.nil:TrL []:=λ_ _ _ _ _ h=>by simpa[RepL]using h
section
variable{P:Program}{S:Tab}{nt hbo:Nat}{H:RFix}{X:Type}{I:X->Hp×Nat}{Pre:X->Prop}{K:X->Nat}{Q:AE->St->Prop}
theorem RJ.rndG{ps:Array Nat}{assign body:Code}{fn:FuncId}{asg bdy:AC}{xs:List (List AV)}(hlp:H.lp=λst pe=>{state:=st,pending:=pe,fn:=fn,tmps:=H.a.tmps,params:=ps,assign:=assign,body:=body,defers:=H.D})(hca:cCode P nt assign=some asg)(hcb:cCode P nt body=some bdy)(hps:∀p∈ps.toList,p<nt)(hpure:∀args∈xs,AS args=true/\args.length=ps.toList.length)(hround:∀x,Pre x->∀args,xs[K x]? =some args->As (Ctx.rdG P S nt H.l) asg (Cv (Ctx.rdG P S nt H.l) bdy (Cl H.e I Pre K (K x+1) Q)) ⟨GU ps.toList args H.e,(I x).1,(I x).2⟩)(hls:H.ss.w.heap.size<=H.l)(hDd:∀so si hp,Way H.ss so si->Inv so H.e hp H.a nt (hbo,false)->¬so.M H.D){k:Nat}{args:List AV}{si:Cf}{hpi:Hp}{vals:List Value}(h:RJ (Ctx.fn P S nt hbo) H I Pre K Q k si)(hi:HInv si hpi)(hxs:xs[k]? =some args)(hv:RepL si args vals):∃f tmps assign body,(Instr.yield H.l vals.toArray).run P si.w=.ok (.round H.l f tmps assign body) si.w/\RoundIn Fence.wide 0 P H.l f tmps assign body si.w λe w'=>∃(b:Bool)(σ':Cf),e=.returned (.bool b)/\σ'.w=w'/\Oth si σ'/\(∀(b:Nat)(o:Obj),¬si.O b->si.w.heap[b]? =some o->σ'.w.heap[b]? =some o/\¬σ'.O b)/\RJ (Ctx.fn P S nt hbo) H I Pre K Q (if b=true then k+1 else-1) σ':=by
 obtain⟨so,hp,cnt,st,pe,h1,h2,h3,h4,h8,h5,h6,h7⟩:=h;rcases h7 with⟨x,hx,hk,rfl,rfl,rfl,rfl⟩|⟨hk,_⟩
 ·have hk:K x=k:=by omega
  obtain⟨hpu,hlen⟩:=hpure args (tU hxs);have hvl:=BD hv;have hDM:¬so.M H.D:=hDd so si _ h2 h3;have hdis:∀b,so.O b->b<so.w.heap.size/\¬so.M b:=λb hb=>⟨h3.h.ou b hb,λhM=>h3.h.dis b hM hb⟩
  have hv':RepL so args vals:=RepL.ofPure (U:=si) (σ':=so) (λb hb=>⟨λhm=>hb.2.1 ((h1.oi b).2 (.inl hm)),λho=>by
   rcases(h1.oo b).1 ho with g|g
   ·exact hb.2.1 ((h1.oi b).2 (.inr (.inl g)))
   ·exact hb.1 g.1,by rw[h1.w];exact hb.2.2⟩) (λ_ _=>by rw[h1.w]) args vals hpu hv
  have hy:=run_yield (P:=P) (args:=vals.toArray) (w:=si.w) (l:=H.l) (by rw[<-h1.w];exact h5) (by rw[hlp];simp at hlen⊢;omega);rw[hlp]at hy;refine⟨_,_,_,_,hy,?_⟩;have hT:=Oe (d':=[]) (U:=so) (ps:=ps.toList) (args:=args) (vals:=vals) (e:=H.e) (tmps:=H.a.tmps) (d:=H.a.defers) h3.t hv' hlen (λp hp=>by rw[h3.sz];exact hps p hp);have hfold:(ps.zip vals.toArray).foldl (λt (p,v)=>t.setIfInBounds p v) H.a.tmps=(ps.toList.zip vals).foldl (λt (p,v)=>t.setIfInBounds p v) H.a.tmps:=by rw[<-Array.foldl_toList];simp
  refine roundIn_of_wpIn (F:=Fence.wide) trivial ?_;rw[hfold,<-h1.w];have ha:=hround x hx args (by rw[hk];exact hxs) assign hca so {tmps:=_,defers:=[]} ⟨⟨h3.h,hT.1,by rw[hT.2];exact h3.sz,DOK.nil (t7 _) h3.df.gl⟩,h4,⟨H.lp .ready none,h5,h8,by rw[hlp];exact h6,by rw[hlp];exact hDM⟩⟩;refine wpIn_mono ha ?_;rintro e a1 w1 ⟨s1,t1,e',rfl,ev1,at1,he,hq⟩;have ev1:Evo so s1:=ev1;cases e with
  |normal=>
   simp[AE.of]at he;subst he;obtain⟨b1,b2⟩:=ev1.fro _ _ h5 h8;have dis1:∀b,s1.O b->b<s1.w.heap.size/\¬s1.M b:=λb hb=>⟨at1.1.h.ou b hb,λhM=>at1.1.h.dis b hM hb⟩
   obtain⟨s2,hs2,o2,r2,l2,k2⟩:=I1 (r':={H.lp .ready none with state:=.busy}) dis1 b2 b1;have m2:¬s2.M H.l:=by rw[o2.M];exact b2
   refine⟨s2.w,?_,?_⟩
   ·rw[hs2];exact run_beginRound b1 (by rw[hlp])
   have hDl:H.D≠H.l:=by intro e;rw[e,h5]at h6;simp at h6
   have hb:=hq body hcb s2 a1 ⟨⟨at1.1.h.oth o2,at1.1.t.ev o2.ev,at1.1.sz,at1.1.df.rd r2 b1 (.inl rfl)⟩,λm hm=>at1.2.1 m (by rw[o2.al]at hm;exact hm),⟨_,l2,m2,by rw[hlp];exact k2 _ _ hDl (ev1.fro _ _ h6 hDM).1,by rw[hlp,o2.M];exact(ev1.fro _ _ h6 hDM).2⟩⟩;refine wpIn_mono hb ?_;rintro e a3 w3 ⟨s3,t3,e',rfl,ev3,at3,he,hq3⟩;have ev3:Evo s2 s3:=ev3;obtain⟨c1,c2⟩:=ev3.fro _ _ l2 m2;have dis3:∀b,s3.O b->b<s3.w.heap.size/\¬s3.M b:=λb hb=>⟨at3.1.h.ou b hb,λhM=>at3.1.h.dis b hM hb⟩
   have fin:∀(jump:Option Code)(k':Int)(Z:Cf)(hp4:Hp)(cnt4:Nat),Evo s3 Z->Z.w=s3.w->HInv Z hp4->(∀m,Z.al m->m.2<=cnt4)->((∃x,Pre x/\(K x:Int)=k'/\(if jump.isNone then LoopState.ready else .done)=.ready/\jump=none/\hp4=(I x).1/\cnt4=(I x).2)\/(k'= -1/\∃c e',(if jump.isNone then LoopState.ready else .done)=.done/\jump=some c/\RZ c e'/\Q e' ⟨H.e,hp4,cnt4⟩))->∃v w4,(Instr.endRound H.l jump).run P s3.w=.ok v w4/\v=.bool jump.isNone/\∃σ':Cf,σ'.w=w4/\Oth si σ'/\(∀(b:Nat)(o:Obj),¬si.O b->si.w.heap[b]? =some o->σ'.w.heap[b]? =some o/\¬σ'.O b)/\RJ (Ctx.fn P S nt hbo) H I Pre K Q k' σ':=by
    intro jump k' Z hp4 cnt4 eτ wτ hτ alτ h7';obtain⟨q1,q2⟩:=eτ.fro _ _ c1 c2;have disτ:∀b,Z.O b->b<Z.w.heap.size/\¬Z.M b:=λb hb=>⟨hτ.ou b hb,λhM=>hτ.dis b hM hb⟩
    obtain⟨s4,hs4,o4,r4,l4,_⟩:=I1 (r':=H.lp (if jump.isNone then LoopState.ready else .done) jump) disτ q2 q1;refine⟨_,s4.w,?_,rfl,?_⟩
    ·rw[hs4,wτ];have:=run_endRound (P:=P) jump c1;rw[hlp]at this⊢;exact this
    ·obtain⟨si',y1,y2,y3,y4⟩:=bR (V:=Ctx.fn P S nt hbo) (K:=K) (Pre:=Pre) (I:=I) (Q:=Q) h1 h2 h3 h8 h5 h6 hDM hi hls ((ev1.rd.trans r2).trans ((ev3.rd.trans eτ.rd).trans r4)) (hτ.oth o4) (by rw[o4.M];exact q2) l4 (λm hm=>alτ m (by rw[o4.al]at hm;exact hm)) h7';exact⟨si',y1,y2,y3,y4⟩
   cases e with
   |normal=>
    simp[AE.of]at he;subst he;obtain⟨x',p1,p2,p3⟩:=hq3;have hA:At (Ctx.fn P S nt 0) s3 ⟨H.e,t3.hp,t3.cnt⟩ H.a:=⟨⟨at3.1.h,h3.t.ev (((ev1.rd.trans r2).trans ev3.rd).ev c2 h5),h3.sz,DOK.rd (DOK.of rfl (λd hd=>by obtain⟨r,r1,_,r3⟩:=h3.df.all rfl d hd;exact⟨r,r1,t7 _,r3⟩) (h3.df.nd rfl) (t7 _) h3.df.gl) ((ev1.rd.trans r2).trans ev3.rd) h5 (.inl rfl)⟩,at3.2.1,trivial⟩
    obtain⟨Z,w1,e1,a1'⟩:=hA.le p3;obtain⟨v,w4,g1,rfl,σ',g3,g4,g5,g6⟩:=fin none (k+1) Z _ _ e1 w1 a1'.1.h a1'.2.1 (.inl ⟨x',p1,by omega,rfl,rfl,rfl,rfl⟩);exact⟨_,w4,g1,true,σ',rfl,g3,g4,λb o hb ho=>g5 b o hb (by rw[<-h1.w];exact ho),by simpa using g6⟩
   |ret=>simp[AE.of]at he;subst he;obtain⟨v,w4,g1,rfl,σ',g3,g4,g5,g6⟩:=fin (some .ret) (-1) s3 _ _ (Evo.refl s3) rfl at3.1.h at3.2.1 (.inr ⟨rfl,_,.r,rfl,rfl,.inl ⟨rfl,rfl⟩,hq3⟩);exact⟨_,w4,g1,false,σ',rfl,g3,g4,λb o hb ho=>g5 b o hb (by rw[<-h1.w];exact ho),by simpa using g6⟩
   |exit i=>simp[AE.of]at he;subst he;obtain⟨v,w4,g1,rfl,σ',g3,g4,g5,g6⟩:=fin (some (.exit i)) (-1) s3 _ _ (Evo.refl s3) rfl at3.1.h at3.2.1 (.inr ⟨rfl,_,.x i,rfl,rfl,.inr ⟨i,rfl,rfl⟩,hq3⟩);exact⟨_,w4,g1,false,σ',rfl,g3,g4,λb o hb ho=>g5 b o hb (by rw[<-h1.w];exact ho),by simpa using g6⟩
   |goto l=>simp[AE.of]at he
   |panic c=>obtain⟨v,rfl,rfl⟩:=AE.of_panic he;exact hq3.elim
   |outgrown=>simp[AE.of]at he
  |exit i=>simp[AE.of]at he;subst he;exact hq.elim
  |ret=>simp[AE.of]at he;subst he;exact hq.elim
  |goto l=>simp[AE.of]at he
  |panic c=>obtain⟨v,rfl,rfl⟩:=AE.of_panic he;exact hq.elim
  |outgrown=>simp[AE.of]at he
 ·omega
end
section
variable{P:Program}{S:Tab}{nt hbo:Nat}
theorem aC{X:Type}(I:X->Hp×Nat)(Pre:X->Prop)(K:X->Nat)(x0:X){f:Opd}{ps:List Nat}{asg bdy:AC}{Q:AE->St->Prop}{e:Au}{h:Hp}{c fi:Nat}{fst cps:List AV}{xs:List (List AV)}(hx:Aw true (Av e f)=.clo (.func fi) fst cps)(hit:TI P fi fst cps xs)(hok:FU P fi)(hpu:AS fst=true/\AS cps=true)(hps:∀p∈ps,p<nt)(hpure:∀args∈xs,AS args=true/\args.length=ps.length)(h0:Pre x0)(hk0:K x0=0)(hle:Le ⟨e,(I x0).1,(I x0).2⟩ ⟨e,h,c⟩)(round:∀l x,Pre x->∀args,xs[K x]? =some args->As (Ctx.rdG P S nt l) asg (Cv (Ctx.rdG P S nt l) bdy (Cl e I Pre K (K x+1) Q)) ⟨GU ps args e,(I x).1,(I x).2⟩)(hend:∀x,Pre x->K x=xs.length->Q .n ⟨e,(I x).1,(I x).2⟩):As (Ctx.fn P S nt hbo) (.rfun f ps asg bdy) Q ⟨e,h,c⟩:=by
 intro code hc U a hA;cases code with
 |rangeFunc g ps' assign body=>
  simp only[cCode]at hc;split at hc
  ·rename_i x' y' hca hcb;simp at hc;obtain⟨rfl,rfl,rfl,rfl⟩:=hc;obtain⟨ss,w0,ev0,A0⟩:=hA.le hle;rw[<-w0];refine wpIn_mono (Q:=lift (Ctx.fn P S nt hbo) ss Q) ?_ λe a w k=>k.mono (Ctx.ofE _ ev0)
   have hX:=Fl (g:=true) rfl A0.1.t g;rw[hx]at hX;simp only[Rep]at hX;obtain⟨fs,cs,hX,hf1,hc1⟩:=hX;refine wpIn_rangeFunc (F:=Fence.wide) λfn _=>?_
   let lp:LoopState->Option Code->Loop:=λst pe=>{state:=st,pending:=pe,fn:=fn,tmps:=a.tmps,params:=ps',assign:=assign,body:=body,defers:=ss.w.heap.size}
   let W1:World:=(ss.w.alloc (.deferred (some []))).alloc (.loop (lp .ready none))
   have hL1:W1.heap[ss.w.heap.size+1]? =some (.loop (lp .ready none)):=by have:=World.alloc_heap_new (ss.w.alloc (.deferred (some []))) (.loop (lp .ready none));rwa [World.size_alloc]at this
   have hsz1:W1.heap.size=ss.w.heap.size+2:=by simp[W1]
   have hkeep:∀(b:Nat)(o:Obj),ss.w.heap[b]? =some o->W1.heap[b]? =some o:=λb o hb=>by have hlt:=(eY.1 hb).1;rw[BV (by simp;omega),BV hlt];exact hb
   have hK1:W1.heap[ss.w.heap.size]? =some (.deferred (some [])):=by rw[BV (by simp)];exact World.alloc_heap_new ss.w _
   let D:=ss.w.heap.size
   let l:=ss.w.heap.size+1
   let a0:Act:={a with defers:=[{target:=.collected D,args:=#[]}]++a.defers}
   let H:RFix:={O0:=ss.O,l:=l,D:=D,ss:=ss,e:=e,a:=a0,lp:=lp}
   let so:Cf:=ss.at W1
   have evs:Evo ss so:=Evo.at hkeep ⟨rfl,rfl⟩
   let si:Cf:={rb:=λ_=>0,ra:=λ_=>(none,0),M:=λ_=>False,O:=λb=>ss.M b\/ss.O b\/b=l\/b=D,ln:=λ_=>none,al:=λ_=>False,w:=W1}
   have hgsi:Gl si:=λb j hj=>by
    obtain⟨g1,g2⟩:=A0.1.df.gl b j hj;have g3:=(Gl.mono A0.1.df.gl evs b j hj).2;refine⟨⟨λh=>h,?_,?_⟩,g3⟩
    ·have:=g1.2.2;rintro(h|h|h|h)
     ·exact g1.1 h
     ·exact g1.2.1 h
     ·simp only[l]at h;omega
     ·simp only[D]at h;omega
    ·show b<W1.heap.size;have:=g1.2.2;omega
   have hdf:∀d∈H.a.defers,∃r,d={target:=.collected r,args:=#[]}/\(r<H.ss.w.heap.size\/r=H.D):=by
    intro d hd;simp only[H,a0,s8,nJ,lJ]at hd;rcases hd with rfl|hd
    ·exact⟨D,rfl,.inr rfl⟩
    ·obtain⟨r,r1,_,r3,_⟩:=A0.1.df.all rfl d hd;exact⟨r,r1,.inl (eY.1 r3).1⟩
   have nM:∀b,ss.w.heap.size<=b->¬ss.M b:=λb hb hm=>by have:=A0.1.h.lt b hm;omega
   have nO:∀b,ss.w.heap.size<=b->¬ss.O b:=λb hb hm=>by have:=A0.1.h.ou b hm;omega
   have hso:HInv so (I x0).1:=A0.1.h.at hkeep ⟨rfl,rfl⟩;have hsi:HInv si []:=⟨λ_=>rfl,λn j c h=>by simp[hl]at h,λn sz live rows d h=>by simp[hl]at h,by
    rintro p q b (⟨_,_,j,c,h⟩|⟨_,⟨_,_,_,h⟩,_⟩) _<;>simp[hl]at h,λb h=>h.elim,λb hb=>by
     show b<W1.heap.size;rw[hsz1];rcases hb with hb|hb|rfl|rfl
     ·have:=A0.1.h.lt b hb;omega
     ·have:=A0.1.h.ou b hb;omega
     ·simp only[l];omega
     ·simp only[D];omega,λb h=>h.elim⟩
   have hJ0:RJ (Ctx.fn P S nt hbo) H I Pre K Q 0 si:=by
    refine⟨so,(I x0).1,(I x0).2,.ready,none,⟨rfl,λb=>Iff.rfl,λb=>⟨.inl,λh=>h.elim id λh=>h.1.elim⟩,λb h=>h.elim,hsi.ou⟩,⟨evs.box,evs.arr,evs.fro,λ_ _ _ h=>h.elim,evs.sz,evs.io⟩,⟨hso,A0.1.t.mono evs,A0.1.sz,DOK.of rfl (λd hd=>?_) ?_ (s7 A0.1.df.le evs.sz) (A0.1.df.gl.mono evs)⟩,A0.2.1,nM _ (Nat.le_succ _),hL1,hK1,.inl ⟨x0,h0,by simp[hk0],rfl,rfl,rfl,rfl⟩⟩
    ·simp only[H,a0,s8,nJ,lJ]at hd;rcases hd with rfl|hd
     ·exact⟨D,rfl,A0.1.df.le,hK1,nM _ (fA _),nO _ (fA _)⟩
     ·exact(A0.1.df.mono evs).all rfl d hd
    ·simp only[H,a0,s8,nJ];refine yI.2 ⟨λd hd he=>?_,A0.1.df.nd rfl⟩;obtain⟨r,rfl,_,r3,_⟩:=A0.1.df.all rfl d hd;have:D=r:=by simpa using he
     have:=(eY.1 r3).1;omega
   have hDn:∀so si hp,Way H.ss so si->Inv so H.e hp H.a nt (hbo,false)->¬so.M H.D:=λso si hp _ h3=>by
    obtain⟨r,r1,_,_,r4,_⟩:=h3.df.all rfl {target:=.collected D,args:=#[]} (by simp[H,a0]);have:H.D=r:=by simpa using r1
    rw[this];exact r4
   have hR:Rng P Fence.wide l (ss.w.heap.size+2) xs (RJ (Ctx.fn P S nt hbo) H I Pre K Q):=
    {evo:=λhj ev=>hj.evo hdf ev
     oth:=λhj o hO hP=>hj.oth (hb:=ss.w.heap.size+2) (by simp only[H];omega) hdf o hO hP
     rnd:=λhj hi hxs hv=>RJ.rndG (H:=H) (fn:=fn) (ps:=ps') rfl hca hcb hps hpure (round l) (by simp only[H,l];omega) hDn hj hi hxs hv}
   have hvals:RepL si (fst++AV.clo (.yield l) [] []::cps) (fs++ .func (.yield l) #[] #[]::cs):=by
    have pu:∀ys vs,AS ys=true->RepL ss ys vs->RepL si ys vs:=λys vs hp hr=>by
     have h1:RepL so ys vs:=RepL.mono evs ys vs hr;refine RepL.ofPure (U:=ss) (σ':=si) (λb hb=>⟨λh=>h,?_,by show b<W1.heap.size;have:=hb.2.2;omega⟩) (λb hb=>?_) ys vs hp hr
     ·have:=hb.2.2;rintro(g|g|rfl|rfl)
      ·exact hb.1 g
      ·exact hb.2.1 g
      ·simp only[l]at this;omega
      ·simp only[D]at this;omega
     ·have:=fC hb.2.2;show W1.heap[b]? =_;rw[this];exact hkeep b _ this
    refine EG (pu _ _ hpu.1 hf1) ?_;simp only[RepL];exact⟨_,_,rfl,by simp[Rep,RepL],pu _ _ hpu.2 hc1⟩
   refine⟨l,[{target:=.collected D,args:=#[]}],W1,{target:=.fn (.func fi) cs.toArray,args:=fs.toArray++#[.func (.yield l) #[] #[]]},W1,fi,(fs.toArray++#[.func (.yield l) #[] #[]])++cs.toArray,W1,run_enterLoop_outer _ _ _ _ _,?_,λ_ _=>trivial,?_,λh=>by simp[Fence.wide]at h,?_⟩
   ·have hy:Array.map a.eval #[.const (.func (.yield l) #[] #[])]=#[.func (.yield l) #[] #[]]:=by simp[Act.eval]
    simp only[resolve,rangeCall,hy,hX,Deferred.ofValue,Sem.run_pure]
   ·simp only[invoke];exact FA hok _ _
   have harr:(fs.toArray++#[.func (.yield l) #[] #[]])++cs.toArray=(fs++ .func (.yield l) #[] #[]::cs).toArray:=by apply Array.ext';simp
   rw[harr];refine(hit l (ss.w.heap.size+2) _ si _ hR hJ0 hsi (λ_ h=>h) hvals (by show _<=W1.heap.size;omega) hgsi).mono ?_;rintro en w' ⟨v,σ',rfl,rfl,hj⟩;have key:∀hp cnt st pe so2,Pair H.O0 H.l H.D so2 σ'->Way H.ss so2 σ'->Inv so2 H.e hp H.a nt (hbo,false)->(∀m,so2.al m->m.2<=cnt)->¬so2.M H.l->so2.w.heap[H.l]? =some (.loop (H.lp st pe))->st≠.busy->∃s5:Cf,(Instr.endLoop l).run P σ'.w=.ok pe s5.w/\Evo ss s5/\At (Ctx.fn P S nt hbo) s5 ⟨e,hp,cnt⟩ a0:=by
    intro hp cnt st pe so2 h1 h2 h3 h4 h8 h5 hb;have dis2:∀b,so2.O b->b<so2.w.heap.size/\¬so2.M b:=λb hb=>⟨h3.h.ou b hb,λhM=>h3.h.dis b hM hb⟩
    obtain⟨s4,hs4,o4,r4,l4,k4⟩:=I1 (r':={H.lp st pe with state:=.exhausted}) dis2 h8 h5;have hOs:∀b,ss.O b->s4.O b:=λb hb=>by rw[r4.out];exact(h1.oo b).2 (.inl hb)
    let s5:Cf:={s4 with O:=ss.O}
    have h4i:=h3.h.oth o4;have o5:Oth s4 s5:=⟨rfl,rfl,rfl,rfl,rfl,λb hb=>⟨h4i.ou b (hOs b hb),λhM=>h4i.dis b hM (hOs b hb),λhf=>hf.2.1 (hOs b hb)⟩,fA _,λ_ _=>rfl,λ_ _ _ _ h=>h,SameO.refl _⟩
    have df4:=h3.df.rd r4 h5 (.inl rfl);refine⟨s5,?_,⟨λn hn=>?_,λn hn l' hl'=>?_,λb o ho hm=>?_,rfl,s7 h2.sz r4.sz,h2.io.trans r4.io⟩,⟨h4i.oth o5,(h3.t.ev o4.ev).ev o5.ev,h3.sz,DOK.of rfl (λd hd=>?_) (df4.nd rfl) df4.le (df4.gl.ev o5.ev)⟩,λm hm=>h4 m ?_,trivial⟩
    ·have:=run_endLoop (P:=P) (w:=so2.w) h5 hb;rw[h1.w]at this;show _=Result.ok pe s4.w;rw[hs4,this,h1.w]
    ·exact⟨(r4.box n (h2.box n hn).1).1,((r4.box n (h2.box n hn).1).2).trans (h2.box n hn).2⟩
    ·obtain⟨l1,g1,g2,g3⟩:=r4.arr n (h2.box n hn).1 l' hl';obtain⟨m,q1,q2,q3⟩:=h2.arr n hn l1 g1;refine⟨m,q1,s7 q2 g2,λe=>?_⟩;have e1:m=l1:=by omega
     have e2:l1=l':=by omega
     exact(g3 e2).trans (q3 e1)
    ·obtain⟨g1,g2⟩:=h2.old b o ho hm;have hlt:=(eY.1 ho).1;exact r4.fro b o (by intro e;subst e;simp only[H,l]at hlt;omega) g1 g2
    ·obtain⟨r,r1,r2,r3,r4',r5⟩:=df4.all rfl d hd;exact⟨r,r1,r2,r3,r4',λh=>r5 (hOs r h)⟩
    ·have hm':s4.al m:=hm;rw[o4.al]at hm';exact hm'
   have inv:∀{k:Int},RJ (Ctx.fn P S nt hbo) H I Pre K Q k σ'->rangePost Fence.wide 0 P l (lift (Ctx.fn P S nt hbo) ss Q) a0 (.returned v) σ'.w\/False\/k≠xs.length/\k≠-1:=by
    intro k hj;obtain⟨so2,hp,cnt,st,pe,h1,h2,h3,h4,h8,h5,h6,h7⟩:=hj;rcases h7 with⟨x,hx,hk,rfl,rfl,rfl,rfl⟩|⟨hk,c',e',rfl,rfl,hjp,hq⟩
    ·by_cases hlen:K x=xs.length
     ·obtain⟨s5,g1,g2,g3⟩:=key _ _ _ _ so2 h1 h2 h3 h4 h8 h5 (by simp);exact .inl ⟨none,s5.w,g1,s5,_,.n,rfl,g2,g3,rfl,hend x hx hlen⟩
     ·exact .inr (.inr ⟨by omega,by omega⟩)
    ·obtain⟨s5,g1,g2,g3⟩:=key _ _ _ _ so2 h1 h2 h3 h4 h8 h5 (by simp);refine .inl ⟨some c',s5.w,g1,?_⟩;rcases hjp with⟨rfl,rfl⟩|⟨i,rfl,rfl⟩
     ·exact wpIn_ret ⟨s5,_,.r,rfl,g2,g3,rfl,hq⟩
     ·exact wpIn_exit ⟨s5,_,.x i,rfl,g2,g3,rfl,hq⟩
   rcases hj with hj|hj
   ·rcases inv hj with h|h|h
    ·exact h
    ·exact h.elim
    ·exact absurd rfl h.1
   ·rcases inv hj with h|h|h
    ·exact h
    ·exact h.elim
    ·exact absurd rfl h.2
  ·simp at hc
 |region id ops d=>simp only[cCode]at hc;obtain⟨_,_,⟨_,e⟩|⟨_,_,_,_,e⟩⟩:=Cz hc<;>cases e
 |seq x y=>simp only[cCode]at hc;split at hc<;>simp at hc
 |cond c x y=>simp only[cCode]at hc;split at hc<;>simp at hc
 |_=>simp[cCode]at hc
theorem aD{l0:Nat}{X:Type}(I:X->Hp×Nat)(Pre:X->Prop)(K:X->Nat)(x0:X){f:Opd}{ps:List Nat}{asg bdy:AC}{Q:AE->St->Prop}{e:Au}{h:Hp}{c fi:Nat}{fst cps:List AV}{xs:List (List AV)}(hx:Aw true (Av e f)=.clo (.func fi) fst cps)(hit:TI P fi fst cps xs)(hok:FU P fi)(hpu:AS fst=true/\AS cps=true)(hps:∀p∈ps,p<nt)(hpure:∀args∈xs,AS args=true/\args.length=ps.length)(htr:TrL fst/\TrL cps)(h0:Pre x0)(hk0:K x0=0)(hle:Le ⟨e,(I x0).1,(I x0).2⟩ ⟨e,h,c⟩)(round:∀l x,Pre x->∀args,xs[K x]? =some args->As (Ctx.rdG P S nt l) asg (Cv (Ctx.rdG P S nt l) bdy (Cl e I Pre K (K x+1) Q)) ⟨GU ps args e,(I x).1,(I x).2⟩)(hend:∀x,Pre x->K x=xs.length->Q .n ⟨e,(I x).1,(I x).2⟩):As (Ctx.rdG P S nt l0) (.rfun f ps asg bdy) Q ⟨e,h,c⟩:=by
 intro code hc U a hA;cases code with
 |rangeFunc g ps' assign body=>
  simp only[cCode]at hc;split at hc
  ·rename_i x' y' hca hcb;simp at hc;obtain⟨rfl,rfl,rfl,rfl⟩:=hc;obtain⟨ss,w0,ev0,A0⟩:=hA.le hle;rw[<-w0];refine wpIn_mono (Q:=lift (Ctx.rdG P S nt l0) ss Q) ?_ λe a w k=>k.mono (Ctx.ofE _ ev0)
   have hX:=Fl (g:=true) rfl A0.1.t g;rw[hx]at hX;simp only[Rep]at hX;obtain⟨fs,cs,hX,hf1,hc1⟩:=hX;refine wpIn_rangeFunc (F:=Fence.wide.inRound l0) λfn _=>?_
   obtain⟨r0,gl,gM,gD,gDM⟩:=A0.2.2
   let lp:LoopState->Option Code->Loop:=λst pe=>{state:=st,pending:=pe,fn:=fn,tmps:=a.tmps,params:=ps',assign:=assign,body:=body,defers:=r0.defers}
   let W1:World:=ss.w.alloc (.loop (lp .ready none))
   have hL1:W1.heap[ss.w.heap.size]? =some (.loop (lp .ready none)):=World.alloc_heap_new ss.w (.loop (lp .ready none));have hsz1:W1.heap.size=ss.w.heap.size+1:=by simp[W1]
   have hkeep:∀(b:Nat)(o:Obj),ss.w.heap[b]? =some o->W1.heap[b]? =some o:=λb o hb=>by have hlt:=(eY.1 hb).1;rw[BV hlt];exact hb
   have hK1:W1.heap[r0.defers]? =some (.deferred (some [])):=hkeep _ _ gD;have hDlt:r0.defers<ss.w.heap.size:=(eY.1 gD).1
   let D:=r0.defers
   let l:=ss.w.heap.size
   let a0:Act:={a with defers:=[]++a.defers}
   let H:RFix:={O0:=ss.O,l:=l,D:=D,ss:=ss,e:=e,a:=a0,lp:=lp}
   let so:Cf:=ss.at W1
   have evs:Evo ss so:=Evo.at hkeep ⟨rfl,rfl⟩
   let si:Cf:={rb:=λ_=>0,ra:=λ_=>(none,0),M:=λ_=>False,O:=λb=>ss.M b\/ss.O b\/b=l\/b=D,ln:=λ_=>none,al:=λ_=>False,w:=W1}
   have hgsi:Gl si:=λb j hj=>by
    obtain⟨g1,g2⟩:=A0.1.df.gl b j hj;have g3:=(Gl.mono A0.1.df.gl evs b j hj).2;refine⟨⟨λh=>h,?_,?_⟩,g3⟩
    ·have:=g1.2.2;rintro(h|h|h|h)
     ·exact g1.1 h
     ·exact g1.2.1 h
     ·simp only[l]at h;omega
     ·simp only[D]at h;subst h;simp[World.cell?,gD]at g2
    ·show b<W1.heap.size;have:=g1.2.2;omega
   have hdf:∀d∈H.a.defers,∃r,d={target:=.collected r,args:=#[]}/\(r<H.ss.w.heap.size\/r=H.D):=by intro d hd;simp only[H,a0,nJ]at hd;obtain⟨r,r1,_,r3,_⟩:=A0.1.df.all rfl d hd;exact⟨r,r1,.inl (eY.1 r3).1⟩
   have nM:∀b,ss.w.heap.size<=b->¬ss.M b:=λb hb hm=>by have:=A0.1.h.lt b hm;omega
   have nO:∀b,ss.w.heap.size<=b->¬ss.O b:=λb hb hm=>by have:=A0.1.h.ou b hm;omega
   have hso:HInv so (I x0).1:=A0.1.h.at hkeep ⟨rfl,rfl⟩;have hsi:HInv si []:=⟨λ_=>rfl,λn j c h=>by simp[hl]at h,λn sz live rows d h=>by simp[hl]at h,by
    rintro p q b (⟨_,_,j,c,h⟩|⟨_,⟨_,_,_,h⟩,_⟩) _<;>simp[hl]at h,λb h=>h.elim,λb hb=>by
     show b<W1.heap.size;rw[hsz1];rcases hb with hb|hb|rfl|rfl
     ·have:=A0.1.h.lt b hb;omega
     ·have:=A0.1.h.ou b hb;omega
     ·simp only[l];omega
     ·simp only[D];omega,λb h=>h.elim⟩
   have hJ0:RJ (Ctx.rdG P S nt l0) H I Pre K Q 0 si:=by
    refine⟨so,(I x0).1,(I x0).2,.ready,none,⟨rfl,λb=>Iff.rfl,λb=>⟨.inl,λh=>h.elim id λh=>h.1.elim⟩,λb h=>h.elim,hsi.ou⟩,⟨evs.box,evs.arr,evs.fro,λ_ _ _ h=>h.elim,evs.sz,evs.io⟩,⟨hso,A0.1.t.mono evs,A0.1.sz,DOK.of rfl (λd hd=>?_) ?_ (s7 A0.1.df.le evs.sz) (A0.1.df.gl.mono evs)⟩,A0.2.1,nM _ (fA _),hL1,hK1,.inl ⟨x0,h0,by simp[hk0],rfl,rfl,rfl,rfl⟩⟩
    ·simp only[H,a0,nJ]at hd;exact(A0.1.df.mono evs).all rfl d hd
    ·simp only[H,a0,nJ];exact A0.1.df.nd rfl
   have hDn:∀so si hp,Way H.ss so si->Inv so H.e hp H.a nt (0,false)->¬so.M H.D:=λso si hp h2 _=>(h2.old _ _ gD gDM).2
   have hR:Rng P Fence.wide l (ss.w.heap.size+1) xs (RJ (Ctx.rdG P S nt l0) H I Pre K Q):=
    {evo:=λhj ev=>hj.evo hdf ev
     oth:=λhj o hO hP=>hj.oth (hb:=ss.w.heap.size+1) (by simp only[H];omega) hdf o hO hP
     rnd:=λhj hi hxs hv=>RJ.rndG (hbo:=0) (H:=H) (fn:=fn) (ps:=ps') rfl hca hcb hps hpure (round l) (by simp only[H,l];omega) hDn hj hi hxs hv}
   have hvals:RepL si (fst++AV.clo (.yield l) [] []::cps) (fs++ .func (.yield l) #[] #[]::cs):=by
    have hFz:∀b,Fz ss b->(∃cs T f,ss.w.heap[b]? =some (.cells cs T f))->Fz si b:=λb hb ⟨cs,T,f,hc⟩=>⟨λh=>h,by
     have:=hb.2.2;rintro(g|g|rfl|rfl)
     ·exact hb.1 g
     ·exact hb.2.1 g
     ·simp only[l]at this;omega
     ·simp only[D]at hc;rw[gD]at hc;simp at hc,by show b<W1.heap.size;have:=hb.2.2;omega⟩
    have hSm:∀b,Fz ss b->si.w.heap[b]? =ss.w.heap[b]? :=λb hb=>by have:=fC hb.2.2;show W1.heap[b]? =_;rw[this];exact hkeep b _ this
    refine EG (htr.1 ss si hFz hSm _ hf1) ?_;simp only[RepL];exact⟨_,_,rfl,by simp[Rep,RepL],htr.2 ss si hFz hSm _ hc1⟩
   refine⟨l,[],W1,{target:=.fn (.func fi) cs.toArray,args:=fs.toArray++#[.func (.yield l) #[] #[]]},W1,fi,(fs.toArray++#[.func (.yield l) #[] #[]])++cs.toArray,W1,run_enterLoop_inner gl _ _ _ _ _,?_,λ_ _=>trivial,?_,λh=>by simp[Fence.wide]at h,?_⟩
   ·have hy:Array.map a.eval #[.const (.func (.yield l) #[] #[])]=#[.func (.yield l) #[] #[]]:=by simp[Act.eval]
    simp only[resolve,rangeCall,hy,hX,Deferred.ofValue,Sem.run_pure]
   ·simp only[invoke];exact FA hok _ _
   have harr:(fs.toArray++#[.func (.yield l) #[] #[]])++cs.toArray=(fs++ .func (.yield l) #[] #[]::cs).toArray:=by apply Array.ext';simp
   rw[harr];refine(hit l (ss.w.heap.size+1) _ si _ hR hJ0 hsi (λ_ h=>h) hvals (by show _<=W1.heap.size;omega) hgsi).mono ?_;rintro en w' ⟨v,σ',rfl,rfl,hj⟩;have key:∀hp cnt st pe so2,Pair H.O0 H.l H.D so2 σ'->Way H.ss so2 σ'->Inv so2 H.e hp H.a nt (0,false)->(∀m,so2.al m->m.2<=cnt)->¬so2.M H.l->so2.w.heap[H.l]? =some (.loop (H.lp st pe))->st≠.busy->∃s5:Cf,(Instr.endLoop l).run P σ'.w=.ok pe s5.w/\Evo ss s5/\At (Ctx.rdG P S nt l0) s5 ⟨e,hp,cnt⟩ a0:=by
    intro hp cnt st pe so2 h1 h2 h3 h4 h8 h5 hb;have dis2:∀b,so2.O b->b<so2.w.heap.size/\¬so2.M b:=λb hb=>⟨h3.h.ou b hb,λhM=>h3.h.dis b hM hb⟩
    obtain⟨s4,hs4,o4,r4,l4,k4⟩:=I1 (r':={H.lp st pe with state:=.exhausted}) dis2 h8 h5;have hOs:∀b,ss.O b->s4.O b:=λb hb=>by rw[r4.out];exact(h1.oo b).2 (.inl hb)
    let s5:Cf:={s4 with O:=ss.O}
    have h4i:=h3.h.oth o4;have o5:Oth s4 s5:=⟨rfl,rfl,rfl,rfl,rfl,λb hb=>⟨h4i.ou b (hOs b hb),λhM=>h4i.dis b hM (hOs b hb),λhf=>hf.2.1 (hOs b hb)⟩,fA _,λ_ _=>rfl,λ_ _ _ _ h=>h,SameO.refl _⟩
    have df4:=h3.df.rd r4 h5 (.inl rfl);have hl0:l0≠H.l:=by have:=(eY.1 gl).1;simp only[H,l];omega
    have hDl:r0.defers≠H.l:=by simp only[H,l];omega
    refine⟨s5,?_,⟨λn hn=>?_,λn hn l' hl'=>?_,λb o ho hm=>?_,rfl,s7 h2.sz r4.sz,h2.io.trans r4.io⟩,⟨h4i.oth o5,(h3.t.ev o4.ev).ev o5.ev,h3.sz,DOK.of rfl (λd hd=>?_) (df4.nd rfl) df4.le (df4.gl.ev o5.ev)⟩,λm hm=>h4 m ?_,⟨r0,(r4.fro _ _ hl0 (h2.old _ _ gl gM).1 (h2.old _ _ gl gM).2).1,(r4.fro _ _ hl0 (h2.old _ _ gl gM).1 (h2.old _ _ gl gM).2).2,(r4.fro _ _ hDl (h2.old _ _ gD gDM).1 (h2.old _ _ gD gDM).2).1,(r4.fro _ _ hDl (h2.old _ _ gD gDM).1 (h2.old _ _ gD gDM).2).2⟩⟩
    ·have:=run_endLoop (P:=P) (w:=so2.w) h5 hb;rw[h1.w]at this;show _=Result.ok pe s4.w;rw[hs4,this,h1.w]
    ·exact⟨(r4.box n (h2.box n hn).1).1,((r4.box n (h2.box n hn).1).2).trans (h2.box n hn).2⟩
    ·obtain⟨l1,g1,g2,g3⟩:=r4.arr n (h2.box n hn).1 l' hl';obtain⟨m,q1,q2,q3⟩:=h2.arr n hn l1 g1;refine⟨m,q1,s7 q2 g2,λe=>?_⟩;have e1:m=l1:=by omega
     have e2:l1=l':=by omega
     exact(g3 e2).trans (q3 e1)
    ·obtain⟨g1,g2⟩:=h2.old b o ho hm;have hlt:=(eY.1 ho).1;exact r4.fro b o (by intro e;subst e;simp only[H,l]at hlt;omega) g1 g2
    ·obtain⟨r,r1,r2,r3,r4',r5⟩:=df4.all rfl d hd;exact⟨r,r1,r2,r3,r4',λh=>r5 (hOs r h)⟩
    ·have hm':s4.al m:=hm;rw[o4.al]at hm';exact hm'
   have inv:∀{k:Int},RJ (Ctx.rdG P S nt l0) H I Pre K Q k σ'->rangePost (Fence.wide.inRound l0) 0 P l (lift (Ctx.rdG P S nt l0) ss Q) a0 (.returned v) σ'.w\/False\/k≠xs.length/\k≠-1:=by
    intro k hj;obtain⟨so2,hp,cnt,st,pe,h1,h2,h3,h4,h8,h5,h6,h7⟩:=hj;rcases h7 with⟨x,hx,hk,rfl,rfl,rfl,rfl⟩|⟨hk,c',e',rfl,rfl,hjp,hq⟩
    ·by_cases hlen:K x=xs.length
     ·obtain⟨s5,g1,g2,g3⟩:=key _ _ _ _ so2 h1 h2 h3 h4 h8 h5 (by simp);exact .inl ⟨none,s5.w,g1,s5,_,.n,rfl,g2,g3,rfl,hend x hx hlen⟩
     ·exact .inr (.inr ⟨by omega,by omega⟩)
    ·obtain⟨s5,g1,g2,g3⟩:=key _ _ _ _ so2 h1 h2 h3 h4 h8 h5 (by simp);refine .inl ⟨some c',s5.w,g1,?_⟩;rcases hjp with⟨rfl,rfl⟩|⟨i,rfl,rfl⟩
     ·exact wpIn_ret ⟨s5,_,.r,rfl,g2,g3,rfl,hq⟩
     ·exact wpIn_exit ⟨s5,_,.x i,rfl,g2,g3,rfl,hq⟩
   rcases hj with hj|hj
   ·rcases inv hj with h|h|h
    ·exact h
    ·exact h.elim
    ·exact absurd rfl h.1
   ·rcases inv hj with h|h|h
    ·exact h
    ·exact h.elim
    ·exact absurd rfl h.2
  ·simp at hc
 |region id ops d=>simp only[cCode]at hc;obtain⟨_,_,⟨_,e⟩|⟨_,_,_,_,e⟩⟩:=Cz hc<;>cases e
 |seq x y=>simp only[cCode]at hc;split at hc<;>simp at hc
 |cond c x y=>simp only[cCode]at hc;split at hc<;>simp at hc
 |_=>simp[cCode]at hc
end
section
variable{V:Ctx}
theorem Tv(hΓ:V.OK){ops':Array Oper}{ops:List AOp}{WQ:Exit->Act->World->Prop}(bs:Nat)(e0:Au)(hx0:G8 V.P V.nt ops' ops'.toList=some ops)(k i:Nat)(hki:k<=i){yo:AOp}{K:AV->St->Prop}{U:Cf}{a:Act}{e e1:Au}{h h1:Hp}{c:Nat}{vc:Prop}{f:Nat}{args:List AV}{fn:Func}{ac:AC}{rvs:List RV}{ntf:Nat}(hf:V.P.funcs[f]? =some fn)(hcf:E0 V.P fn=some (ac,rvs))(hnt:fn.ntmps=ntf)(hok:FU V.P f)(hyo:ops[i]? =some yo)(hex:Bm V.S (c+1) (bs+k) ((ops.drop k).take (i-k)) e h=some (vc,e1,h1))(hvc:vc)(hg:Fx e1 yo.g=some true)(hca:Hz e1 yo.k=some (f,args))(hn:args.length<=ntf)(hbody:∀hb,As (Ctx.fn V.P V.S ntf hb) ac (BJ rvs K) ⟨CK 0 args,h1,c+1⟩)(hgl:∀t,V.nt<=t->lk e t=lk e0 t)(hI:Inv U e h a V.nt V.hb)(hal:∀m,U.al m->m.2<=c\/(m.2=c+1/\m.1<bs+k))(hrest:∀Z a' r s,Evo U Z->Inv Z (Ca yo.d r e1) s.hp a' V.nt V.hb->(∀m,Z.al m->m.2<=s.cnt)->(∀t,V.nt<=t->lk (Ca yo.d r e1) t=lk e0 t)->K r s->wpOpsIn V.F 0 V.P ops' WQ (List.range' (i+1) (ops'.size-(i+1))) a' Z.w):wpOpsIn V.F 0 V.P ops' WQ (List.range' k (ops'.size-k)) a U.w:=by
 obtain⟨c1,c2⟩:=E5 hx0;obtain⟨_,t0⟩:=Em k hx0;obtain⟨t1,_⟩:=Em (i-k) t0;have hi:i<ops.length:=(i5.1 hyo).1;have hsz:ops.length=ops'.size:=c1.trans (by simp);have hi':i<ops'.size:=by omega
 have ho:ops'[i]? =some ops'[i]:=fC hi';obtain⟨yo',g1,g2⟩:=c2 i ops'[i] (by simp);rw[hyo]at g1;cases g1
 have hlen:((ops'.toList.drop k).take (i-k)).length=i-k:=by simp;omega
 have hr:List.range' k (ops'.size-k)=List.range' k ((ops'.toList.drop k).take (i-k)).length++(i::List.range' (i+1) (ops'.size-(i+1))):=by rw[hlen,<-L8];have:=List.range'_append_1 (s:=k) (m:=i-k) (n:=ops'.size-(i+1)+1);rw[show k+(i-k)=i by omega]at this;rw[this];congr 1;omega
 rw[hr];refine Ij hΓ (cnt:=c) bs e0 _ ((ops'.toList.drop k).take (i-k)) k ((ops.drop k).take (i-k)) U e e1 h h1 a vc hgl (λj hj=>?_) t1 hex hvc hI hal λa1 σ1 ev1 hI1 hal1 hfar1=>?_
 ·have:j<i-k:=by omega
  simp[zQ,this]
 rw[wpOpsIn_cons];unfold wpOpIn;simp only[ho];obtain⟨hno,k4,k3,vals,hv,hrun⟩:=R1 hI1 g2 hok hca;have hw:=Gb hI1.t k4 hg;simp only[hw,if_true];refine⟨λf _=>hΓ.F.fn f,?_⟩;rw[Oper.semAt_eq _ a1.eval _ hno,hrun];refine⟨λh=>by simp[hΓ.F.depth]at h,hΓ.F.calls ((callsIn_wide.1 (Of hΓ.S hf hcf hnt hn hI1.df.gl hI1.h (cnt:=c+1) (λm hm=>by rcases hal1 m hm with h|h<;>omega) hv (hbody _))).mono ?_)⟩;rintro en w' ⟨v,Z,s,r,rfl,rfl,evτ,hτ,alτ,rv,hK⟩;have hd:∀k,ops'[i].dst=some k->k<a1.tmps.size:=by rw[k3];intro d hd;rw[hI1.sz];exact Gp g2 d hd
 have hI2:Inv Z (Ca yo.d r e1) s.hp (a1.put ops'[i].dst v) V.nt V.hb:=by rw[<-k3];exact⟨hτ,(hI1.t.mono evτ).put hd rv,by rw[Act.size_put];exact hI1.sz,by rw[Act.defers_put,G2 (λd hd=>Gp g2 d (k3▸hd)) (show V.nt<=dk V.nt from Wp _ _)];exact hI1.df.mono evτ⟩
 exact hrest Z _ r s (ev1.trans evτ) hI2 alτ (λt ht=>(G2 (Gp g2) ht).trans (hfar1 t ht)) hK
def Uy(P:Program)(S:Tab)(rid i j:Nat)(d:Option Nat)(mid:List AOp)(yo2:AOp)(post:List AOp)(f2 ntf2:Nat)(ac2:AC)(rvs2:List RV)(e1:Au)(Q:AE->St->Prop)(r:AV)(s:St):Prop:=∃(vc2:Prop)(e2:Au)(h2:Hp)(args2:List AV),Bm S (s.cnt+1) (100*rid+(i+1)) mid (Ca d r e1) s.hp=some (vc2,e2,h2)/\vc2/\Fx e2 yo2.g=some true/\Hz e2 yo2.k=some (f2,args2)/\args2.length<=ntf2/\∀hb,As (Ctx.fn P S ntf2 hb) ac2 (BJ rvs2 (Bv S rid j yo2.d post e2 Q)) ⟨CK 0 args2,h2,s.cnt+1⟩
theorem iN(hΓ:V.OK)(i j:Nat)(hij:i<j){rid:Nat}{ops:List AOp}{yo yo2:AOp}{Q:AE->St->Prop}{e e1:Au}{h h1:Hp}{c:Nat}{vc:Prop}{f f2:Nat}{args:List AV}{fn fn2:Func}{ac ac2:AC}{rvs rvs2:List RV}{ntf ntf2:Nat}(hf:V.P.funcs[f]? =some fn)(hcf:E0 V.P fn=some (ac,rvs))(hnt:fn.ntmps=ntf)(hok:FU V.P f)(hf2:V.P.funcs[f2]? =some fn2)(hcf2:E0 V.P fn2=some (ac2,rvs2))(hnt2:fn2.ntmps=ntf2)(hok2:FU V.P f2)(hyo:ops[i]? =some yo)(hyo2:ops[j]? =some yo2)(hex:Bm V.S (c+1) (100*rid) (ops.take i) e h=some (vc,e1,h1))(hvc:vc)(hg:Fx e1 yo.g=some true)(hca:Hz e1 yo.k=some (f,args))(hn:args.length<=ntf)(hbody:∀hb,As (Ctx.fn V.P V.S ntf hb) ac (BJ rvs (Uy V.P V.S rid i j yo.d ((ops.drop (i+1)).take (j-(i+1))) yo2 (ops.drop (j+1)) f2 ntf2 ac2 rvs2 e1 Q)) ⟨CK 0 args,h1,c+1⟩):As V (.reg rid ops) Q ⟨e,h,c⟩:=by
 intro code hc U a hA;cases code with
 |region id ops' d=>
  simp only[cCode]at hc;obtain⟨l0,hx0,⟨rfl,e0⟩|⟨_,_,_,_,e0⟩⟩:=Cz hc
  ·cases e0
   refine wpIn_region ?_;have hr0:List.range ops'.size=List.range' 0 (ops'.size-0):=by rw[CY];simp
   rw[hr0];refine Tv hΓ (100*rid) e hx0 0 i (t7 _) (c:=c) hf hcf hnt hok hyo (by simpa using hex) hvc hg hca hn hbody (λ_ _=>rfl) hA.1 (λm hm=>.inl (hA.2.1 m hm)) ?_;rintro Z a' r s ev1 hI1 al1 gl1 ⟨vc2,e2,h2,args2,q1,q2,q3,q4,q5,q6⟩;refine Tv hΓ (100*rid) e hx0 (i+1) j hij (c:=s.cnt) hf2 hcf2 hnt2 hok2 hyo2 q1 q2 q3 q4 q5 q6 gl1 hI1 (λm hm=>.inl (al1 m hm)) ?_;rintro τ2 a2 r2 s2 ev2 hI2 al2 gl2 ⟨vc3,e3,h3,p1,p2,p3⟩;obtain⟨c1,_⟩:=E5 hx0;obtain⟨_,t3⟩:=Em (j+1) hx0;have hj:j<ops.length:=(i5.1 hyo2).1;have hsz:ops.length=ops'.size:=c1.trans (by simp);have hl:(ops'.toList.drop (j+1)).length=ops'.size-(j+1):=by simp
   have:=Ig hΓ (ops:=ops') (Q:=Q) (cnt:=s2.cnt) (100*rid) e U hA.2.2 (ops'.toList.drop (j+1)) (j+1) (ops.drop (j+1)) τ2 _ _ _ _ _ vc3 gl2 (λj=>by simp) (by simp;omega) t3 p1 p2 (ev1.trans ev2) hI2 (λm hm=>.inl (al2 m hm)) p3;rw[hl]at this;exact this
  ·cases e0
 |seq x y=>simp only[cCode]at hc;split at hc<;>simp at hc
 |cond c x y=>simp only[cCode]at hc;split at hc<;>simp at hc
 |rangeFunc f ps x y=>simp only[cCode]at hc;split at hc<;>simp at hc
 |_=>simp[cCode]at hc
end
theorem aE{P:Program}{S:Tab}{nt hb:Nat}(hS:TabOK P S)(i j:Nat)(hij:i<j){rid:Nat}{ops mid post:List AOp}{d d2:Option Nat}{g g2:Option (Nat×Bool)}{k k2:AK}{Q:AE->St->Prop}{e e1:Au}{h h1:Hp}{c:Nat}{vc:Prop}{f f2:Nat}{args:List AV}{fn fn2:Func}{ac ac2:AC}{rvs rvs2:List RV}{ntf ntf2:Nat}(hf:P.funcs[f]? =some fn)(hcf:E0 P fn=some (ac,rvs))(hnt:fn.ntmps=ntf)(hok:FU P f)(hf2:P.funcs[f2]? =some fn2)(hcf2:E0 P fn2=some (ac2,rvs2))(hnt2:fn2.ntmps=ntf2)(hok2:FU P f2)(hyo:ops[i]? =some ⟨d,g,k⟩)(hyo2:ops[j]? =some ⟨d2,g2,k2⟩)(hmid:(ops.drop (i+1)).take (j-(i+1))=mid)(hpost:ops.drop (j+1)=post)(hex:Bm S (c+1) (100*rid) (ops.take i) e h=some (vc,e1,h1))(hvc:vc)(hg:Fx e1 g=some true)(hca:Hz e1 k=some (f,args))(hn:args.length<=ntf)(hbody:∀hb,As (Ctx.fn P S ntf hb) ac (BJ rvs (Uy P S rid i j d mid ⟨d2,g2,k2⟩ post f2 ntf2 ac2 rvs2 e1 Q)) ⟨CK 0 args,h1,c+1⟩):As (Ctx.fn P S nt hb) (.reg rid ops) Q ⟨e,h,c⟩:=by subst hmid hpost;exact iN (Ctx.fn_ok hS) i j hij hf hcf hnt hok hf2 hcf2 hnt2 hok2 hyo hyo2 hex hvc hg hca hn hbody
theorem vT{P:Program}{S:Tab}{rid i j:Nat}{d d2:Option Nat}{g2:Option (Nat×Bool)}{k2:AK}{mid post:List AOp}{f2 ntf2:Nat}{ac2:AC}{rvs rvs2:List RV}{e1 e e2:Au}{h h2:Hp}{c:Nat}{Q:AE->St->Prop}{vc vc2:Prop}{xs args2:List AV}(h1:Gq e h rvs=some (vc,xs))(hx:Bm S (c+1) (100*rid+(i+1)) mid (Ca d (one xs) e1) h=some (vc2,e2,h2))(hv:vc)(hv2:vc2)(hg:Fx e2 g2=some true)(hca:Hz e2 k2=some (f2,args2))(hn:args2.length<=ntf2)(hb:∀hb,As (Ctx.fn P S ntf2 hb) ac2 (BJ rvs2 (Bv S rid j d2 post e2 Q)) ⟨CK 0 args2,h2,c+1⟩):BJ rvs (Uy P S rid i j d mid ⟨d2,g2,k2⟩ post f2 ntf2 ac2 rvs2 e1 Q) .n ⟨e,h,c⟩:=⟨vc,xs,h1,hv,vc2,e2,h2,args2,hx,hv2,hg,hca,hn,hb⟩
theorem vU{P:Program}{S:Tab}{rid i j:Nat}{d d2:Option Nat}{g2:Option (Nat×Bool)}{k2:AK}{mid post:List AOp}{f2 ntf2:Nat}{ac2:AC}{rvs rvs2:List RV}{e1 e e2:Au}{h h2:Hp}{c:Nat}{Q:AE->St->Prop}{vc vc2:Prop}{xs args2:List AV}(h1:Gq e h rvs=some (vc,xs))(hx:Bm S (c+1) (100*rid+(i+1)) mid (Ca d (one xs) e1) h=some (vc2,e2,h2))(hv:vc)(hv2:vc2)(hg:Fx e2 g2=some true)(hca:Hz e2 k2=some (f2,args2))(hn:args2.length<=ntf2)(hb:∀hb,As (Ctx.fn P S ntf2 hb) ac2 (BJ rvs2 (Bv S rid j d2 post e2 Q)) ⟨CK 0 args2,h2,c+1⟩):BJ rvs (Uy P S rid i j d mid ⟨d2,g2,k2⟩ post f2 ntf2 ac2 rvs2 e1 Q) .r ⟨e,h,c⟩:=⟨vc,xs,h1,hv,vc2,e2,h2,args2,hx,hv2,hg,hca,hn,hb⟩
attribute [local irreducible] As Cn B6 BK CA BJ Bv Cl Cv Dx
structure Hid(p:Prop):Prop where
 k:p
theorem f0:([]:List Nat).length=0:=rfl
theorem fc{p q:Prop}(x:p)(y:q):p/\q:=⟨x,y⟩
theorem go{S F G G':Prop}(hS:S)(f:F)(k:G')(h:S->F->Hid G'->G:=by
 intro hS f k
 repeat' (first
  |(with_reducible (first|apply FP|apply GN|apply GI|apply HY|apply FQ|apply FR);(·(first|exact Ctx.fn_ok hS|exact Ctx.rd_ok hS|assumption|exact yT|exact Ctx.rdG_ok hS));iterate 2 (·(simp only[go_sem,seval,f]<;>eq_refl)))
  |with_reducible (first|apply FM|apply GD|apply Fm|apply FL|apply EZ|apply El|apply Ez|apply Fe|apply GE|apply GF|apply Gd|apply GG|apply F1)
  |(with_reducible apply GH;(·first|rfl|decide))
  |(with_reducible apply Kn;(·simp))
  |with_reducible (first|apply Ko|apply Kp|apply Kq|apply FN|apply FO|apply GK|apply GL|apply GM|apply yT|apply And.intro yT yT)
  |(fail_if_success with_reducible apply Jx);(fail_if_success with_reducible apply GJ);(try clear k);first|with_reducible apply And.intro|omega|(simp only[go_sem,seval,f];done)|with_reducible assumption|(refine And.intro ?_ ?_)|(intro hg;simp_all;done)|decide|grind)
 exact k.k):G:=h hS f ⟨k⟩
theorem Hk{S F G:Prop}(hS:S)(f:F)(h:S->F->G:=by
 intro hS f
 repeat' (first
  |(with_reducible (first|apply FP|apply GN|apply GI|apply HY|apply FQ|apply FR);(·(first|exact Ctx.fn_ok hS|exact Ctx.rd_ok hS|assumption|exact yT|exact Ctx.rdG_ok hS));iterate 2 (·(simp only[go_sem,seval,f]<;>eq_refl)))
  |with_reducible (first|apply FM|apply GD|apply Fm|apply FL|apply EZ|apply El|apply Ez|apply Fe|apply GE|apply GF|apply Gd|apply GG|apply F1)
  |(with_reducible apply GH;(·first|rfl|decide))
  |(with_reducible apply Kn;(·simp))
  |with_reducible (first|apply Ko|apply Kp|apply Kq|apply FN|apply FO|apply GK|apply GL|apply GM|apply yT|apply And.intro yT yT)
  |(fail_if_success with_reducible apply Jx);(fail_if_success with_reducible apply GJ);first|with_reducible apply And.intro|omega|(simp only[go_sem,seval,f];done)|with_reducible assumption|(refine And.intro ?_ ?_)|(intro hg;simp_all;done)|decide|grind)):G:=h hS f
theorem fin{F G:Prop}(f:F)(h:F->G:=by
 intro f
 first|refine Mc (by simp only[go_sem,seval,f]<;>eq_refl) (by simp only[go_sem,seval,f]) (by simp only[go_sem,seval,f]) ?_ rfl|refine Md (by simp only[go_sem,seval,f]<;>eq_refl) (by simp only[go_sem,seval,f]) (by simp only[go_sem,seval,f]) ?_ rfl
 first|(simp only[go_sem,seval,f];done)|(simp only[go_sem,seval,f,w9,eZ,w7,List.map_set,List.map_take,List.map_drop];done)|(simp[f];done)):G:=h f
theorem Bn{F:Prop}{s' s:St}(f:F)(h:F->Le s' s:=by intro f;refine Le.of ?_ ?_ (by first|exact fA _|(simp;omega)|simp)<;>first|(simp only[go_sem,seval,f];done)|(simp only[go_sem,seval,f,w9,eZ,w7,List.map_set,List.map_take,List.map_drop];done)|(simp[f,w9,List.map_set];done)):Le s' s:=h f
section
variable{V:Ctx}{F:Prop}{cc:Opd}{x y:AC}{Q:AE->St->Prop}{e:Au}{h:Hp}{c:Nat}
theorem cb{B:Bool}(f:F)(B':Bool)(ht:B'=true->As V x Q ⟨e,h,c⟩)(hf:B'=false->As V y Q ⟨e,h,c⟩)(hb:F->Aw true (Av e cc)=.v (.bool B):=by intro f;simp only[go_sem,seval,f]<;>eq_refl)(hB:F->B=B':=by intro f;first|rfl|(simp;done)|grind):As V (.cond cc x y) Q ⟨e,h,c⟩:=xU (hb f) (hB f) ht hf
theorem ct(f:F)(ht:As V x Q ⟨e,h,c⟩)(hb:F->Aw true (Av e cc)=.v (.bool true):=by intro f;simp only[go_sem,seval,f]<;>eq_refl):As V (.cond cc x y) Q ⟨e,h,c⟩:=Lg (hb f) ht
theorem cf(f:F)(hf:As V y Q ⟨e,h,c⟩)(hb:F->Aw true (Av e cc)=.v (.bool false):=by intro f;simp only[go_sem,seval,f]<;>eq_refl):As V (.cond cc x y) Q ⟨e,h,c⟩:=Nr (hb f) hf
end
end
theorem Xq{hp:Hp}{n:Nm}:∀{k o:Nat}{cs:List AV},Gx hp n o k=some cs->∀j c,cs[j]? =some c->hl hp (.c n (o+j))=some c
 |0,o,cs,h,j,c,hj=>by simp[Gx]at h;subst h;simp at hj
 |k+1,o,cs,h,j,c,hj=>by
  simp only[Gx]at h;split at h
  ·rename_i c' hc;cases hm:isM c' with
   |true=>rw[hm]at h;cases h
   |false=>
   rw[hm,tN]at h;cases hr:Gx hp n (o+1) k with
   |none=>simp[hr]at h
   |some ds=>
    simp[hr]at h;subst h;cases j with
    |zero=>simp at hj;subst hj;exact hc
    |succ j=>
     have:=Xq hr j c (by simpa using hj)
     rwa [show o+1+j=o+(j+1) by omega]at this
  ·simp at h
theorem Qs{U Z:Cf}(hf:∀b,Fz U b->Fz Z b)(hw:∀b,Fz U b->Z.w.heap[b]? =U.w.heap[b]?){n:Nm}(ha:Z.al n)(hr:Z.rb n=U.rb n):∀{args:List AV}{vs:List Value},H1 args=true->Fs args=some n->RepL U args vs->RepL Z args vs
 |[],_,h,_,_=>by simp[H1]at h
 |c::cs,vs,h1,h2,hr'=>by
  simp only[RepL]at hr'⊢;obtain⟨y,ys,rfl,g1,g2⟩:=hr';refine⟨y,ys,rfl,?_⟩;cases c with
  |box m o=>simp only[H1]at h1;simp only[Fs,yE]at h2;subst h2;simp only[Rep]at g1;refine⟨?_,RepL.ofPure hf hw _ _ h1 g2⟩;simp only[Rep];exact⟨ha,by rw[hr];exact g1.2⟩
  |_=>simp only[H1,lP,Fs]at h1 h2;exact⟨Rep.ofPure hf hw _ _ h1.1 g1,Qs hf hw ha hr h1.2 h2 g2⟩
def nT(P:Program)(f:Nat)(fst cps:List AV)(m:Nm)(bc:List AV)(xs:List (List AV)):Prop:=∀(l hb:Nat)(β:Int->Cf->Prop)(U:Cf)(vals:List Value),Rng P Fence.wide l hb xs β->β 0 U->HInv U (DM m 0 bc)->(∀n,U.al n->n=m)->RepL U (fst++AV.clo (.yield l) [] []::cps) vals->hb<=U.w.heap.size->Gl U->CallsIn Fence.wide 0 P f vals.toArray U.w λe w'=>∃v σ',e=.returned v/\σ'.w=w'/\(β xs.length σ'\/β (-1) σ')
section
variable{P:Program}{S:Tab}{nt hbo:Nat}
theorem aF{X:Type}(m:Nm)(bc:List AV)(I:X->Hp×Nat)(Pre:X->Prop)(K:X->Nat)(x0:X){f:Opd}{ps:List Nat}{asg bdy:AC}{Q:AE->St->Prop}{e:Au}{h:Hp}{c fi:Nat}{fst cps:List AV}{xs:List (List AV)}(hx:Aw true (Av e f)=.clo (.func fi) fst cps)(hit:nT P fi fst cps m bc xs)(hok:FU P fi)(hpu:AS fst=true/\H1 cps=true/\Fs cps=some m)(hbc:Gx h m 0 bc.length=some bc/\bc.isEmpty=false/\Il bc=true)(hno:∀j,hl (I x0).1 (.c m j)=none)(hps:∀p∈ps,p<nt)(hpure:∀args∈xs,AS args=true/\args.length=ps.length)(h0:Pre x0)(hk0:K x0=0)(hle:Le ⟨e,(I x0).1,(I x0).2⟩ ⟨e,h,c⟩)(round:∀l x,Pre x->∀args,xs[K x]? =some args->As (Ctx.rdG P S nt l) asg (Cv (Ctx.rdG P S nt l) bdy (Cl e I Pre K (K x+1) Q)) ⟨GU ps args e,(I x).1,(I x).2⟩)(hend:∀x,Pre x->K x=xs.length->Q .n ⟨e,(I x).1,(I x).2⟩):As (Ctx.fn P S nt hbo) (.rfun f ps asg bdy) Q ⟨e,h,c⟩:=by
 intro code hc U a hA;cases code with
 |rangeFunc g ps' assign body=>
  simp only[cCode]at hc;split at hc
  ·rename_i x' y' hca hcb;simp at hc;obtain⟨rfl,rfl,rfl,rfl⟩:=hc;obtain⟨ev0,A0⟩:=hA.leM hle;have hcel:∀j c,bc[j]? =some c->hl h (.c m j)=some c:=λj c hj=>by have:=Xq hbc.1 j c hj;simpa using this
   obtain⟨b0,hb0⟩:∃b0,bc[0]? =some b0:=by cases bc with|nil=>simp at hbc|cons b _=>exact⟨b,rfl⟩
   have hcm:=hA.1.h.cel m 0 b0 (hcel 0 b0 hb0);have hexc:∀p b,Owns {U with ln:=lenOf (I x0).1} (I x0).1 p b->b≠U.rb m:=by
    rintro p b hp rfl;have hsub:=Vr hle.h;have h1:Owns U h p (U.rb m):=by
     rcases hp with⟨g1,g2,j,c,g3⟩|⟨g1,⟨sz,rows,d,g2⟩,o,cap,g3,g4⟩
     ·exact .inl ⟨g1,g2,j,c,hsub _ _ g3⟩
     ·exact .inr ⟨g1,⟨sz,rows,d,hsub _ _ g2⟩,o,cap,g3,g4⟩
    have h2:=hA.1.h.inj p (false,m) _ h1 (.inl ⟨rfl,rfl,0,b0,hcel 0 b0 hb0⟩);subst h2;rcases hp with⟨_,_,j,c,g3⟩|⟨g1,_⟩
    ·have:=hno j;simp only at g3;rw[this]at g3;cases g3
    ·cases g1
   obtain⟨hrlt,hrM,hrO,hrc⟩:U.rb m<U.w.heap.size/\U.M (U.rb m)/\¬U.O (U.rb m)/\∃cs T,U.w.heap[U.rb m]? =some (.cells cs T (0,0)):=by obtain⟨_,k2,cs,T,_,k3,_⟩:=hcm.cells (NQ hbc.1 0 b0 hb0);exact⟨hA.1.h.lt _ k2,k2,hA.1.h.dis _ k2,cs,T,k3⟩
   have hbcel:∀j c,bc[j]? =some c->CelF U m j c:=λj c hj=>hA.1.h.cel m j c (hcel j c hj)
   generalize hss:({U with ln:=lenOf (I x0).1}:Cf)=ss at ev0 A0 hexc;have ew:ss.w=U.w:=by rw[<-hss]
   have eM:ss.M=U.M:=by rw[<-hss]
   have eO:ss.O=U.O:=by rw[<-hss]
   have er:ss.rb=U.rb:=by rw[<-hss]
   rw[<-ew]at hrlt hrc;rw[<-eM]at hrM;rw[<-eO]at hrO;rw[<-er]at hrlt hrM hrO hrc hexc;have hbce:∀j c,bc[j]? =some c->∃cs T x,ss.w.heap[ss.rb m]? =some (.cells cs T (0,0))/\cs[j]? =some x/\Bs x=true/\Rep U c x:=λj c hj=>by obtain⟨_,_,cs,T,x,k3,k4,k5,k6⟩:=(hbcel j c hj).cells (NQ hbc.1 j c hj);exact⟨cs,T,x,by rw[ew,er];exact k3,k4,k5,k6⟩
   rw[<-ew];refine wpIn_mono (Q:=lift (Ctx.fn P S nt hbo) ss Q) ?_ λe a w k=>k.mono (Ctx.ofE _ ev0)
   have hX:=Fl (g:=true) rfl A0.1.t g;rw[hx]at hX;simp only[Rep]at hX;obtain⟨fs,cs,hX,hf1,hc1⟩:=hX;refine wpIn_rangeFunc (F:=Fence.wide) λfn _=>?_
   let lp:LoopState->Option Code->Loop:=λst pe=>{state:=st,pending:=pe,fn:=fn,tmps:=a.tmps,params:=ps',assign:=assign,body:=body,defers:=ss.w.heap.size}
   let W1:World:=(ss.w.alloc (.deferred (some []))).alloc (.loop (lp .ready none))
   have hL1:W1.heap[ss.w.heap.size+1]? =some (.loop (lp .ready none)):=by have:=World.alloc_heap_new (ss.w.alloc (.deferred (some []))) (.loop (lp .ready none));rwa [World.size_alloc]at this
   have hsz1:W1.heap.size=ss.w.heap.size+2:=by simp[W1]
   have hkeep:∀(b:Nat)(o:Obj),ss.w.heap[b]? =some o->W1.heap[b]? =some o:=λb o hb=>by have hlt:=(eY.1 hb).1;rw[BV (by simp;omega),BV hlt];exact hb
   have hK1:W1.heap[ss.w.heap.size]? =some (.deferred (some [])):=by rw[BV (by simp)];exact World.alloc_heap_new ss.w _
   let D:=ss.w.heap.size
   let l:=ss.w.heap.size+1
   let a0:Act:={a with defers:=[{target:=.collected D,args:=#[]}]++a.defers}
   let H:RFix:={O0:=ss.O,l:=l,D:=D,ss:=ss,e:=e,a:=a0,lp:=lp}
   let so:Cf:={ss with w:=W1,M:=λb=>ss.M b/\b≠ss.rb m,O:=λb=>ss.O b\/b=ss.rb m}
   have evs0:Evo ss (ss.at W1):=Evo.at hkeep ⟨rfl,rfl⟩;have fzs:∀b,Fz ss b->Fz so b:=λb hb=>⟨λh=>hb.1 h.1,λh=>h.elim hb.2.1 λe=>hb.1 (e▸hrM),by have:=hb.2.2;show b<W1.heap.size;omega⟩
   have evs:Ev ss so:=⟨λ_ h=>⟨h,rfl⟩,λ_ _ l h=>⟨l,h,fA _,λ_=>rfl⟩,fzs,λb o x hb hc=>evs0.cell hb.1 hc⟩
   let si:Cf:={rb:=ss.rb,ra:=λ_=>(none,0),M:=λb=>b=ss.rb m,O:=λb=>(ss.M b/\b≠ss.rb m)\/ss.O b\/b=l\/b=D,ln:=λ_=>none,al:=λn=>n=m,w:=W1}
   have hgsi:Gl si:=λb j hj=>by
    obtain⟨g1,g2⟩:=A0.1.df.gl b j hj;have g3:=(Gl.mono A0.1.df.gl evs0 b j hj).2;refine⟨⟨λh=>g1.1 (show ss.M b from h▸hrM),?_,?_⟩,g3⟩
    ·have:=g1.2.2;rintro(h|h|h|h)
     ·exact g1.1 h.1
     ·exact g1.2.1 h
     ·simp only[l]at h;omega
     ·simp only[D]at h;omega
    ·show b<W1.heap.size;have:=g1.2.2;omega
   have hdf:∀d∈H.a.defers,∃r,d={target:=.collected r,args:=#[]}/\(r<H.ss.w.heap.size\/r=H.D):=by
    intro d hd;simp only[H,a0,s8,nJ,lJ]at hd;rcases hd with rfl|hd
    ·exact⟨D,rfl,.inr rfl⟩
    ·obtain⟨r,r1,_,r3,_⟩:=A0.1.df.all rfl d hd;exact⟨r,r1,.inl (eY.1 r3).1⟩
   have nM:∀b,ss.w.heap.size<=b->¬ss.M b:=λb hb hm=>by have:=A0.1.h.lt b hm;omega
   have nO:∀b,ss.w.heap.size<=b->¬ss.O b:=λb hb hm=>by have:=A0.1.h.ou b hm;omega
   have hso:HInv so (I x0).1:=by
    have h1:HInv (ss.at W1) (I x0).1:=A0.1.h.at hkeep ⟨rfl,rfl⟩;have own:∀p b,Owns so (I x0).1 p b->Owns ss (I x0).1 p b:=λp b hp=>hp
    refine⟨h1.ln,λn j c hc=>?_,λn sz live rows d hc=>?_,h1.inj,λb hb=>h1.lt b hb.1,λb hb=>?_,λb hb ho=>?_⟩
    ·have kc:=h1.cel n j c hc;have hne:=hexc (false,n) (ss.rb n) (.inl ⟨rfl,rfl,j,c,hc⟩);have ev1:Ev (ss.at W1) so:=⟨λ_ h=>⟨h,rfl⟩,λ_ _ l h=>⟨l,h,fA _,λ_=>rfl⟩,λb hb=>⟨λh=>hb.1 h.1,λh=>h.elim hb.2.1 λe=>hb.1 (e▸hrM),hb.2.2⟩,λb o x _ hc=>hc⟩
     exact kc.keepE ev1 ⟨kc.2.1,hne⟩ rfl
    ·have ev1:Ev (ss.at W1) so:=⟨λ_ h=>⟨h,rfl⟩,λ_ _ l h=>⟨l,h,fA _,λ_=>rfl⟩,λb hb=>⟨λh=>hb.1 h.1,λh=>h.elim hb.2.1 λe=>hb.1 (e▸hrM),hb.2.2⟩,λb o x _ hc=>hc⟩
     refine(h1.arr n sz live rows d hc).keepE ev1 rfl λhl b o cap h2 h3 h4=>⟨⟨h4,?_⟩,rfl⟩
     subst hl;exact hexc (true,n) b (.inr ⟨rfl,⟨sz,rows,d,hc⟩,o,cap,h2,h3⟩)
    ·rcases hb with hb|rfl
     ·exact h1.ou b hb
     ·show ss.rb m<W1.heap.size;omega
    ·rcases ho with ho|rfl
     ·exact h1.dis b hb.1 ho
     ·exact hb.2 rfl
   have hsi:HInv si (DM m 0 bc):=by
    have key:∀n j c,hl (DM m 0 bc) (.c n j)=some c->n=m/\bc[j]? =some c:=by
     intro n j c hm;rw[LU]at hm;split at hm
     ·rename_i e;exact⟨e.1,by simpa using hm⟩
     ·cases hm
    have own:∀p b,Owns si (DM m 0 bc) p b->p=(false,m):=by
     rintro⟨k,n⟩ b (⟨h1,_,j,c,h3⟩|⟨_,⟨_,_,_,h3⟩,_⟩)
     ·obtain⟨rfl,_⟩:=key n j c h3;simp only at h1;rw[h1]
     ·simp[Ht]at h3
    refine⟨λn=>by simp[si,lenOf,Ht],λn j c hn=>?_,λn sz live rows d hn=>by simp[Ht]at hn,λp q b hp hq=>by rw[own p b hp,own q b hq],λb hb=>by rw[show b=ss.rb m from hb];show _<W1.heap.size;omega,λb hb=>?_,λb hb ho=>?_⟩
    ·obtain⟨rfl,h1⟩:=key n j c hn;obtain⟨cs,T,x,k3,k4,k5,k6⟩:=hbce j c h1;exact⟨rfl,rfl,.inl ⟨cs,T,x,hkeep _ _ k3,k4,k5,If c x (Lc hbc.2.2 (tU h1)) k6⟩⟩
    ·show b<W1.heap.size;rw[hsz1];rcases hb with hb|hb|rfl|rfl
     ·have:=A0.1.h.lt b hb.1;omega
     ·have:=A0.1.h.ou b hb;omega
     ·simp only[l];omega
     ·simp only[D];omega
    ·have hb:b=ss.rb m:=hb;rcases ho with ho|ho|ho|ho
     ·exact ho.2 hb
     ·exact hrO (hb▸ho)
     ·simp only[l]at ho;omega
     ·simp only[D]at ho;omega
   have hJ0:RJ (Ctx.fn P S nt hbo) H I Pre K Q 0 si:=by
    refine⟨so,(I x0).1,(I x0).2,.ready,none,⟨rfl,λb=>Iff.rfl,λb=>⟨λh=>h.imp id λh=>⟨h,by rw[h];show _<W1.heap.size;omega⟩,λh=>h.imp id λh=>h.1⟩,hsi.dis,hsi.ou⟩,⟨evs.box,evs.arr,λb o hb hM=>⟨hkeep b o hb,λh=>hM h.1⟩,λb _ h1 h2=>h1 (show ss.M b from h2▸hrM),evs0.sz,evs0.io⟩,⟨hso,A0.1.t.ev evs,A0.1.sz,DOK.of rfl (λd hd=>?_) ?_ (s7 A0.1.df.le evs0.sz) (A0.1.df.gl.ev evs)⟩,A0.2.1,λh=>nM _ (Nat.le_succ _) h.1,hL1,hK1,.inl ⟨x0,h0,by simp[hk0],rfl,rfl,rfl,rfl⟩⟩
    ·simp only[H,a0,s8,nJ,lJ]at hd;rcases hd with rfl|hd
     ·exact⟨D,rfl,A0.1.df.le,hK1,λh=>nM _ (fA _) h.1,λh=>h.elim (nO _ (fA _)) λh=>by simp only[D]at h;omega⟩
     ·obtain⟨r,r1,r2,r3,r4,r5⟩:=A0.1.df.all rfl d hd;refine⟨r,r1,r2,hkeep _ _ r3,λh=>r4 h.1,λh=>h.elim r5 λh=>?_⟩;obtain⟨cs,T,hc⟩:=hrc;rw[<-h,r3]at hc;cases hc
    ·simp only[H,a0,s8,nJ];refine yI.2 ⟨λd hd he=>?_,A0.1.df.nd rfl⟩;obtain⟨r,rfl,_,r3,_⟩:=A0.1.df.all rfl d hd;have:D=r:=by simpa using he
     have:=(eY.1 r3).1;omega
   have hDn:∀so si hp,Way H.ss so si->Inv so H.e hp H.a nt (hbo,false)->¬so.M H.D:=λso si hp _ h3=>by
    obtain⟨r,r1,_,_,r4,_⟩:=h3.df.all rfl {target:=.collected D,args:=#[]} (by simp[H,a0]);have:H.D=r:=by simpa using r1
    rw[this];exact r4
   have hR:Rng P Fence.wide l (ss.w.heap.size+2) xs (RJ (Ctx.fn P S nt hbo) H I Pre K Q):=
    {evo:=λhj ev=>hj.evo hdf ev
     oth:=λhj o hO hP=>hj.oth (hb:=ss.w.heap.size+2) (by simp only[H];omega) hdf o hO hP
     rnd:=λhj hi hxs hv=>RJ.rndG (H:=H) (fn:=fn) (ps:=ps') rfl hca hcb hps hpure (round l) (by simp only[H,l];omega) hDn hj hi hxs hv}
   have hvals:RepL si (fst++AV.clo (.yield l) [] []::cps) (fs++ .func (.yield l) #[] #[]::cs):=by
    have ff:∀b,Fz ss b->Fz si b:=λb hb=>⟨λh=>hb.1 (show ss.M b from h▸hrM),by
     have:=hb.2.2;rintro(g|g|g|g)
     ·exact hb.1 g.1
     ·exact hb.2.1 g
     ·simp only[l]at g;omega
     ·simp only[D]at g;omega,by show b<W1.heap.size;have:=hb.2.2;omega⟩
    have fw:∀b,Fz ss b->si.w.heap[b]? =ss.w.heap[b]? :=λb hb=>by have:=fC hb.2.2;show W1.heap[b]? =_;rw[this];exact hkeep b _ this
    refine EG (RepL.ofPure ff fw _ _ hpu.1 hf1) ?_;simp only[RepL];exact⟨_,_,rfl,by simp[Rep,RepL],Qs ff fw rfl rfl hpu.2.1 hpu.2.2 hc1⟩
   refine⟨l,[{target:=.collected D,args:=#[]}],W1,{target:=.fn (.func fi) cs.toArray,args:=fs.toArray++#[.func (.yield l) #[] #[]]},W1,fi,(fs.toArray++#[.func (.yield l) #[] #[]])++cs.toArray,W1,run_enterLoop_outer _ _ _ _ _,?_,λ_ _=>trivial,?_,λh=>by simp[Fence.wide]at h,?_⟩
   ·have hy:Array.map a.eval #[.const (.func (.yield l) #[] #[])]=#[.func (.yield l) #[] #[]]:=by simp[Act.eval]
    simp only[resolve,rangeCall,hy,hX,Deferred.ofValue,Sem.run_pure]
   ·simp only[invoke];exact FA hok _ _
   have harr:(fs.toArray++#[.func (.yield l) #[] #[]])++cs.toArray=(fs++ .func (.yield l) #[] #[]::cs).toArray:=by apply Array.ext';simp
   rw[harr];refine(hit l (ss.w.heap.size+2) _ si _ hR hJ0 hsi (λ_ h=>h) hvals (by show _<=W1.heap.size;omega) hgsi).mono ?_;rintro en w' ⟨v,σ',rfl,rfl,hj⟩;have key:∀hp cnt st pe so2,Pair H.O0 H.l H.D so2 σ'->Way H.ss so2 σ'->Inv so2 H.e hp H.a nt (hbo,false)->(∀m,so2.al m->m.2<=cnt)->¬so2.M H.l->so2.w.heap[H.l]? =some (.loop (H.lp st pe))->st≠.busy->∃s5:Cf,(Instr.endLoop l).run P σ'.w=.ok pe s5.w/\Evo ss s5/\At (Ctx.fn P S nt hbo) s5 ⟨e,hp,cnt⟩ a0:=by
    intro hp cnt st pe so2 h1 h2 h3 h4 h8 h5 hb;have dis2:∀b,so2.O b->b<so2.w.heap.size/\¬so2.M b:=λb hb=>⟨h3.h.ou b hb,λhM=>h3.h.dis b hM hb⟩
    obtain⟨s4,hs4,o4,r4,l4,k4⟩:=I1 (r':={H.lp st pe with state:=.exhausted}) dis2 h8 h5;have hOs:∀b,ss.O b->s4.O b:=λb hb=>by rw[r4.out];exact(h1.oo b).2 (.inl hb)
    let s5:Cf:={s4 with O:=ss.O}
    have h4i:=h3.h.oth o4;have o5:Oth s4 s5:=⟨rfl,rfl,rfl,rfl,rfl,λb hb=>⟨h4i.ou b (hOs b hb),λhM=>h4i.dis b hM (hOs b hb),λhf=>hf.2.1 (hOs b hb)⟩,fA _,λ_ _=>rfl,λ_ _ _ _ h=>h,SameO.refl _⟩
    have df4:=h3.df.rd r4 h5 (.inl rfl);refine⟨s5,?_,⟨λn hn=>?_,λn hn l' hl'=>?_,λb o ho hm=>?_,rfl,s7 h2.sz r4.sz,h2.io.trans r4.io⟩,⟨h4i.oth o5,(h3.t.ev o4.ev).ev o5.ev,h3.sz,DOK.of rfl (λd hd=>?_) (df4.nd rfl) df4.le (df4.gl.ev o5.ev)⟩,λm hm=>h4 m ?_,trivial⟩
    ·have:=run_endLoop (P:=P) (w:=so2.w) h5 hb;rw[h1.w]at this;show _=Result.ok pe s4.w;rw[hs4,this,h1.w]
    ·exact⟨(r4.box n (h2.box n hn).1).1,((r4.box n (h2.box n hn).1).2).trans (h2.box n hn).2⟩
    ·obtain⟨l1,g1,g2,g3⟩:=r4.arr n (h2.box n hn).1 l' hl';obtain⟨m,q1,q2,q3⟩:=h2.arr n hn l1 g1;refine⟨m,q1,s7 q2 g2,λe=>?_⟩;have e1:m=l1:=by omega
     have e2:l1=l':=by omega
     exact(g3 e2).trans (q3 e1)
    ·obtain⟨g1,g2⟩:=h2.old b o ho hm;have hlt:=(eY.1 ho).1;exact r4.fro b o (by intro e;subst e;simp only[H,l]at hlt;omega) g1 g2
    ·obtain⟨r,r1,r2,r3,r4',r5⟩:=df4.all rfl d hd;exact⟨r,r1,r2,r3,r4',λh=>r5 (hOs r h)⟩
    ·have hm':s4.al m:=hm;rw[o4.al]at hm';exact hm'
   have inv:∀{k:Int},RJ (Ctx.fn P S nt hbo) H I Pre K Q k σ'->rangePost Fence.wide 0 P l (lift (Ctx.fn P S nt hbo) ss Q) a0 (.returned v) σ'.w\/False\/k≠xs.length/\k≠-1:=by
    intro k hj;obtain⟨so2,hp,cnt,st,pe,h1,h2,h3,h4,h8,h5,h6,h7⟩:=hj;rcases h7 with⟨x,hx,hk,rfl,rfl,rfl,rfl⟩|⟨hk,c',e',rfl,rfl,hjp,hq⟩
    ·by_cases hlen:K x=xs.length
     ·obtain⟨s5,g1,g2,g3⟩:=key _ _ _ _ so2 h1 h2 h3 h4 h8 h5 (by simp);exact .inl ⟨none,s5.w,g1,s5,_,.n,rfl,g2,g3,rfl,hend x hx hlen⟩
     ·exact .inr (.inr ⟨by omega,by omega⟩)
    ·obtain⟨s5,g1,g2,g3⟩:=key _ _ _ _ so2 h1 h2 h3 h4 h8 h5 (by simp);refine .inl ⟨some c',s5.w,g1,?_⟩;rcases hjp with⟨rfl,rfl⟩|⟨i,rfl,rfl⟩
     ·exact wpIn_ret ⟨s5,_,.r,rfl,g2,g3,rfl,hq⟩
     ·exact wpIn_exit ⟨s5,_,.x i,rfl,g2,g3,rfl,hq⟩
   rcases hj with hj|hj
   ·rcases inv hj with h|h|h
    ·exact h
    ·exact h.elim
    ·exact absurd rfl h.1
   ·rcases inv hj with h|h|h
    ·exact h
    ·exact h.elim
    ·exact absurd rfl h.2
  ·simp at hc
 |region id ops d=>simp only[cCode]at hc;obtain⟨_,_,⟨_,e⟩|⟨_,_,_,_,e⟩⟩:=Cz hc<;>cases e
 |seq x y=>simp only[cCode]at hc;split at hc<;>simp at hc
 |cond c x y=>simp only[cCode]at hc;split at hc<;>simp at hc
 |_=>simp[cCode]at hc
end
theorem vV{P:Program}{S:Tab}{m:Nm}{bc:List AV}(hS:TabOK P S){f:Nat}{fn:Func}{c:AC}{fst cps:List AV}{xs:List (List AV)}(nt:Nat)(hf:P.funcs[f]? =some fn)(hc:E0 P fn=some (c,[]))(hnt:fn.ntmps=nt)(hgs:nt<=gs)(hn:(fst++cps).length<nt)(h:∀(l hb:Nat) (β:Int->Cf->Prop) (evo:∀{k:Int} {U σ':Cf},β k U->Evo U σ'->β k σ'),Rng P Fence.wide l hb xs β->As (Ctx.it P Fence.wide S nt hb β hgs evo) c (Dx xs.length) ⟨(gs,CL 0)::CK 0 (fst++AV.clo (.yield l) [] []::cps),DM m 0 bc,m.2⟩):nT P f fst cps m bc xs:=by
 subst hnt;intro l hb β U vals hR hJ hI hal hx hsz hgl;unfold E0 at hc;split at hc
 ·rename_i b hbd;split at hc
  ·rename_i c' r' h1 h2;simp at hc;obtain⟨rfl,rfl⟩:=hc;have hw:=h l hb β hR.evo hR b h1 U {tmps:=vals.toArray++Array.replicate (fn.ntmps-vals.toArray.size) undef,defers:=[]} ?_
   ·refine callsIn_of_wp_marks (n:=0) hf hbd trivial (wpIn_mono hw ?_);rintro e a' w' ⟨σ',s',e',rfl,_,h3,h4,h5⟩;have key:(lk s'.env gs=CL xs.length\/lk s'.env gs=CL (-1))->LeavesInM Fence.wide 0 P fn a'.tmps (λe w'=>∃v σ',e=.returned v/\σ'.w=w'/\(β xs.length σ'\/β (-1) σ')) a'.defers .returning σ'.w:=by
     intro hk;refine H5 a'.defers σ' (λb hb=>⟨h3.1.h.ou b hb,λhM=>h3.1.h.dis b hM hb⟩) (DOK.of' h3.1.df) λW ko kO kb=>?_
     obtain⟨ρ',hρ,hn'⟩:=(h3.1.h.oth ko).nil;obtain⟨us,k1,k2⟩:=HO (P:=P) (s:=⟨[],[],0⟩) (rs:=fn.results.toList) (rvs:=[]) (vc:=True) (xs:=[]) (U:=ρ') (a:={a' with defers:=[]}) (nt:=fn.ntmps) (hb:=(hb,false))
      ⟨hn',λt=>by simp[lk,Rep],h3.1.sz,DOK.nil (by rw[hρ];exact s7 h3.1.df.le ko.sz) (by rw[hρ];exact λb j hj=>⟨((h3.1.df.gl.ev ko.ev) b j hj).1,((h3.1.df.gl.ev ko.ev) b j hj).2⟩)⟩ h2 rfl trivial
     rw[hρ]at k1;refine⟨_,HP k1,_,W,rfl,rfl,?_⟩;have hj:∀k,β k σ'->β k W:=λk hk=>hR.oth hk ko kO kb
     rcases hk with hk|hk
     ·exact .inl (hj _ (h3.2.2 _ hk))
     ·exact .inr (hj _ (h3.2.2 _ hk))
    cases e with
    |normal=>simp[AE.of]at h4;subst h4;exact key h5
    |ret=>simp[AE.of]at h4;subst h4;exact key h5
    |exit i=>simp[AE.of]at h4;subst h4;exact h5.elim
    |goto l=>simp[AE.of]at h4
    |panic c=>obtain⟨v,rfl,rfl⟩:=AE.of_panic h4;exact h5.elim
    |outgrown=>simp[AE.of]at h4
   ·have hlen:=BD hx;refine⟨⟨hI,λt=>?_,by show _=fn.ntmps;simp at hn hlen⊢;omega,DOK.nil hsz hgl⟩,λn hn=>by rw[hal n hn];exact fA _,?_⟩
    ·simp only[lk];by_cases ht:gs=t
     ·rw[eX ht];subst ht;have h1:vals.length<=fn.ntmps:=by simp at hn hlen;omega
      have:¬gs<vals.length+(fn.ntmps-vals.length):=by omega
      simp[Rep,Array.getD,this]
     ·rw[eW ht,HQ];split
      ·rename_i ht;simp only[t7,s6,true_and]at ht;have hg:(fst++AV.clo (.yield l) [] []::cps)[t]? =some (fst++AV.clo (.yield l) [] []::cps)[t]:=eV ht;obtain⟨x,g1,g2⟩:=Ep hx t _ hg;have e1:(fst++AV.clo (.yield l) [] []::cps).getD (t-0) .un=(fst++AV.clo (.yield l) [] []::cps)[t]:=by simp[eT,hg]
       have hlt':t<vals.length:=by omega
       have e2:(vals.toArray++Array.replicate (fn.ntmps-vals.toArray.size) undef).getD t undef=x:=by rw[eV hlt']at g1;simp at g1;simp[C9,z7,hlt',g1]
       rw[e1,e2];exact g2
      ·simp[Rep]
    ·intro k hk;simp only[lk,if_true]at hk;have:(0:Int)=k:=by simpa using hk
     rw[<-this];exact hJ
  ·simp at hc
 ·simp at hc
theorem qZ{P:Program}{S:Tab}{m:Nm}{bc:List AV}(hS:TabOK P S){f:Nat}{fn:Func}{c:AC}{fst cps:List AV}{xs:List (List AV)}(nt:Nat)(hf:P.funcs[f]? =some fn)(hc:E0 P fn=some (c,[]))(hnt:fn.ntmps=nt)(hgs:nt<=gs)(hn:(fst++cps).length<nt)(h:∀(l:Nat) (V:Ctx),V.OK->V.S=S->Pi V l xs->As V c (Dx xs.length) ⟨(gs,CL 0)::CK 0 (fst++AV.clo (.yield l) [] []::cps),DM m 0 bc,m.2⟩):nT P f fst cps m bc xs:=vV hS nt hf hc hnt hgs hn λl hb β evo hR=>h l _ (Ctx.it_ok hS) (Eq.refl _) λi=>Og hS hR i
def AcD(n:Nm)(cells:List AV)(r:AV)(us:List (Nat×AV))(r':AV)(s:St):Prop:=wk r' r/\∀j c,hl (JL n us++DM n 0 cells) (.c n j)=some c->hl s.hp (.c n j)=some c
theorem iO{P:Program}{S:Tab}(hS:TabOK P S){f:Nat}{fn:Func}{c:AC}{rvs:List RV}{n:Nm}{args cells:List AV}{r:AV}{us:List (Nat×AV)}(nt:Nat)(hf:P.funcs[f]? =some fn)(hc:E0 P fn=some (c,rvs))(hnt:fn.ntmps=nt)(hn:args.length<=nt)(h:∀hb,As (Ctx.fn P S nt hb) c (BJ rvs (AcD n cells r us)) ⟨CK 0 args,DM n 0 cells,n.2⟩):Ux P f n args cells r us:=by intro U vs hg hI hal hr;refine callsIn_wide.1 ((Of hS hf hc hnt hn hg hI (cnt:=n.2) (λm hm=>by rw[hal m hm];exact fA _) hr (h _)).mono ?_);rintro en w' ⟨v,Z,s,r',rfl,rfl,ev,hτ,_,hv,hk1,hk2⟩;exact⟨v,Z,rfl,rfl,ev,λj c hj=>hτ.cel n j c (hk2 j c hj),IY _ _ _ hk1 hv⟩
def Ctx.fd(P:Program)(S:Tab)(nt hb:Nat):Ctx:={P:=P,F:=Fence.wide,S:=S,nt:=nt,hb:=(hb,true),R:=Evo,G:=λ_ _=>True,ofE:=id,tr:=Evo.trans,g:=λ_ _ _=>trivial}
theorem Ctx.fd_ok{P:Program}{S:Tab}{nt hb:Nat}(h:TabOK P S):(Ctx.fd P S nt hb).OK:=⟨h,.inl (Eq.refl _)⟩
theorem AcE{P:Program}{S:Tab}{nt hb:Nat}:(Ctx.fd P S nt hb).S=S:=rfl
theorem Uz{P:Program}{nt:Nat}{ops:Array Oper}{o:Oper}{yo:AOp}(h:KA P nt ops o=some yo):yo.k=cK P o.op/\o.dst=yo.d/\cG ops o.guard=some yo.g:=by
 unfold KA at h;split at h
 ·simp at h
 rename_i g hg;split at h
 ·simp at h;subst h;exact⟨rfl,rfl,hg⟩
 ·simp at h
theorem vW{P:Program}{op:Op}{x:Opd}(h:cK P op=.pan x):∃y,op=.panic y/\x=Aq y:=by
 cases op with
 |panic y=>simp only[cK,AK.pan.injEq]at h;exact⟨y,rfl,h.symm⟩
 |_=>
  exfalso;simp only[cK,Iy,Fk,Kb,Kc,Kd,Ly,Ke,Jg]at h
  (repeat' (split at h))<;>cases h
theorem vX{P:Program}{op:Op}{x:Opd}(h:cK P op=.dfr x):∃c y,op=.defer c/\c.callee=.value y/\c.args.toList=[]/\x=Aq y:=by
 cases op with
 |defer c=>
  simp only[cK]at h;split at h
  ·rename_i y e1 e2;simp only[AK.dfr.injEq]at h;exact⟨c,y,rfl,e1,e2,h.symm⟩
  ·cases h
 |_=>
  exfalso;simp only[cK,Iy,Fk,Kb,Kc,Kd,Ly,Ke,Jg]at h
  (repeat' (split at h))<;>cases h
theorem vY{P:Program}{op:Op}(h:cK P op=.rcv):∃c,op=.call c/\c.callee=.builtin .recover:=by
 cases op with
 |call c=>simp only[cK,Jg]at h;split at h;all_goals first|exact⟨c,rfl,‹_›⟩|((repeat' (split at h))<;>cases h)
 |_=>
  exfalso;simp only[cK,Iy,Fk,Kb,Kc,Kd,Ly,Ke]at h
  (repeat' (split at h))<;>cases h
variable{V:Ctx}
theorem RA(hΓ:V.OK){ops':Array Oper}{ops:List AOp}{WQ:Exit->Act->World->Prop}{U:Cf}{a:Act}{e e1:Au}{h h1:Hp}{c rid i:Nat}{vc:Prop}{yo:AOp}(hx0:G8 V.P V.nt ops' ops'.toList=some ops)(hlen:ops.length=i+1)(hyo:ops[i]? =some yo)(hgu:yo.g=none)(hex:Bm V.S (c+1) (100*rid) (ops.take i) e h=some (vc,e1,h1))(hvc:vc)(hA:At V U ⟨e,h,c⟩ a)(hlast:∀(o:Oper) (a1:Act) (σ1:Cf),ops'[i]? =some o->yo.k=cK V.P o.op->o.dst=yo.d->Region.wanted o (yielded ops' a1.tmps)=true->Evo U σ1->Inv σ1 e1 h1 a1 V.nt V.hb->(∀m,σ1.al m->m.2<=c+1)->(∀t,V.nt<=t->lk e1 t=lk e t)->wpOpIn V.F 0 V.P ops' WQ i (wpOpsIn V.F 0 V.P ops' WQ []) a1 σ1.w):wpOpsIn V.F 0 V.P ops' WQ (List.range ops'.size) a U.w:=by
 obtain⟨c1,c2⟩:=E5 hx0;obtain⟨t1,t2⟩:=Em i hx0;have hi:i<ops.length:=by omega
 have hsz:ops.length=ops'.size:=c1.trans (by simp);have hi':i<ops'.size:=by omega
 obtain⟨yo',g1,g2⟩:=c2 i ops'[i] (by simp);rw[hyo]at g1;cases g1
 have hr:List.range ops'.size=List.range' 0 (ops'.toList.take i).length++[i]:=by
  have e1:(ops'.toList.take i).length=i:=by simp;omega
  rw[e1,CY,show ops'.size=i+1 by omega,List.range'_1_concat,s6]
 rw[hr];refine Ij hΓ (cnt:=c) (100*rid) e _ (ops'.toList.take i) 0 (ops.take i) U e e1 h h1 a vc (λ_ _=>rfl) (λj hj=>?_) t1 hex hvc hA.1 (λm hm=>.inl (hA.2.1 m hm)) λa1 σ1 ev1 hI1 hal1 hfar1=>?_
 ·have:j<i:=by simp at hj;omega
  simp[zQ,this]
 rw[wpOpsIn_cons];obtain⟨q1,q2,q3⟩:=Uz g2;have hw:=Gb hI1.t q3 (show Fx e1 yo.g=some true by rw[hgu];rfl);exact hlast _ a1 σ1 (fC hi') q1 q2 hw ev1 hI1 (λm hm=>by rcases hal1 m hm with h|⟨h,_⟩<;>omega) hfar1
theorem PT(hΓ:V.OK)(i:Nat){rid:Nat}{ops:List AOp}{Q:AE->St->Prop}{e e1:Au}{h h1:Hp}{c:Nat}{vc:Prop}{d:Option Nat}{x:Opd}{t:TypeId}{v:Value}(hlen:ops.length=i+1)(hyo:ops[i]? =some ⟨d,none,.pan x⟩)(hex:Bm V.S (c+1) (100*rid) (ops.take i) e h=some (vc,e1,h1))(hvc:vc)(hx:Aw true (Av e1 x)=.v (.iface t v))(hQ:Q (.p (.iface t v)) ⟨e1,h1,c+1⟩):As V (.reg rid ops) Q ⟨e,h,c⟩:=by
 intro code hc U a hA;cases code with
 |region id ops' d'=>
  simp only[cCode]at hc;obtain⟨l0,hx0,⟨rfl,e0⟩|⟨_,_,_,_,e0⟩⟩:=Cz hc
  ·cases e0
   refine wpIn_region (RA hΓ hx0 hlen hyo rfl hex hvc hA λo a1 σ1 ho hk hd hw ev hI hal hfar=>?_);obtain⟨y,hop,rfl⟩:=vW hk.symm;have hX:=Fl (g:=true) rfl hI.t y;rw[hx]at hX;have hv:a1.eval y=.iface t v:=by simpa[Rep]using hX
   unfold wpOpIn;simp only[ho,hw,if_true];refine⟨λf _=>hΓ.F.fn f,?_⟩;rw[Oper.semAt_eq _ a1.eval _ (λc e=>by rw[hop]at e;cases e)];have hr:(execOp a1.eval o).run V.P σ1.w=.halt (.panic (.iface t v)) σ1.w:=by simp[execOp,hop,hv,Instr.panic,goPanic]
   rw[hr,Oper.uponIn_panic];exact⟨σ1,⟨e1,h1,c+1⟩,_,rfl,V.ofE ev,⟨hI,hal,V.g hA.2.2 ev λt ht=>.inr (hfar t ht)⟩,rfl,hQ⟩
  ·cases e0
 |seq x y=>simp only[cCode]at hc;split at hc<;>simp at hc
 |cond c x y=>simp only[cCode]at hc;split at hc<;>simp at hc
 |rangeFunc f ps x y=>simp only[cCode]at hc;split at hc<;>simp at hc
 |_=>simp[cCode]at hc
theorem rC{P:Program}{S:Tab}{nt hb:Nat}(hS:TabOK P S)(i:Nat){rid:Nat}{ops:List AOp}{Q:AE->St->Prop}{e e1:Au}{h h1:Hp}{c f:Nat}{vc:Prop}{ys:List AV}{x:Opd}(hlen:ops.length=i+1)(hyo:ops[i]? =some ⟨none,none,.dfr x⟩)(hex:Bm S (c+1) (100*rid) (ops.take i) e h=some (vc,e1,h1))(hvc:vc)(hx:Aw true (Av e1 x)=.clo (.func f) [] ys)(h0:lk e (dk nt)=.gd false (.tup []))(hQ:Q .n ⟨(dk nt,.gd false (.clo (.func f) [] ys))::e1,h1,c+1⟩):As (Ctx.fd P S nt hb) (.reg rid ops) Q ⟨e,h,c⟩:=by
 intro code hc U a hA;cases code with
 |region id ops' d'=>
  simp only[cCode]at hc;obtain⟨l0,hx0,⟨rfl,e0⟩|⟨_,_,_,_,e0⟩⟩:=Cz hc
  ·cases e0
   refine wpIn_region (RA (Ctx.fd_ok hS) hx0 hlen hyo rfl hex hvc hA λo a1 σ1 ho hk hd hw ev hI hal hfar=>?_);obtain⟨cl,y,hop,hcl,har,rfl⟩:=vX hk.symm;have hX:=Fl (g:=true) rfl hI.t y;rw[hx]at hX;simp only[Rep,RepL]at hX;obtain⟨xs0,vs,hv,rfl,hvs⟩:=hX;have har':cl.args=#[]:=SK.1 har;unfold wpOpIn;simp only[ho,hw,if_true];refine⟨λf _=>trivial,?_⟩;have hs:o.semAt (Ctx.fd P S nt hb).F.round a1.eval=execOp a1.eval o:=by have:(Ctx.fd P S nt hb).F.round=none:=rfl;rw[this];rfl
   rw[hs];have hr:(execOp a1.eval o).run (Ctx.fd P S nt hb).P σ1.w=.ok (.defer {target:=.fn (.func f) vs.toArray,args:=#[]}) σ1.w:=by simp[execOp,hop,resolve,hcl,har',hv,Deferred.ofValue]
   rw[hr,Oper.uponIn_defer];show wpOpsIn _ _ _ _ _ [] _ _;simp only[wpOpsIn];have hdst:o.dst=none:=hd;rw[hdst];refine⟨σ1,⟨(dk nt,.gd false (.clo (.func f) [] ys))::e1,h1,c+1⟩,_,Eq.refl _,ev,⟨⟨hI.h,λt=>?_,hI.sz,⟨?_,hI.df.le,hI.df.gl⟩⟩,hal,trivial⟩,rfl,hQ⟩
   ·simp only[lk];by_cases ht:dk nt=t
    ·rw[eX ht];subst ht;have h1:a1.tmps.size=nt:=hI.sz;have h2:¬dk nt<a1.tmps.size:=by rw[h1];exact Nat.not_lt.2 (Wp _ _)
     show Rep _ _ (a1.tmps.getD (dk nt) undef);have:a1.tmps.getD (dk nt) undef=undef:=by simp[Array.getD,h2]
     rw[this];simp[Rep]
    ·rw[eW ht];exact hI.t t
   ·obtain⟨ms,dd,q1,q2,q3,q4⟩:=hI.df.sp;have hms:=q4.2.2.2 rfl;have hdd:=q4.2.1 rfl ((hfar (dk nt) (Wp _ _)).trans h0);subst hms hdd;have ek:lk ((dk nt,AV.gd false (.clo (.func f) [] ys))::e1) (dk nt)=.gd false (.clo (.func f) [] ys):=by simp only[lk,if_true]
    refine⟨[],[{target:=.fn (.func f) vs.toArray,args:=#[]}],?_,by simp,.nil,λh=>(by cases h),λ_ h=>?_,λ_ f' ys' h=>?_,λ_=>rfl⟩
    ·simp only[Act.put];rw[q1];rfl
    ·have h':=ek.symm.trans h;cases h'
    ·have h':=ek.symm.trans h;injection h' with _ h'
     injection h' with h1 _ h2
     injection h1 with h1
     subst h1 h2;exact⟨vs,hvs,rfl⟩
  ·cases e0
 |seq x y=>simp only[cCode]at hc;split at hc<;>simp at hc
 |cond c x y=>simp only[cCode]at hc;split at hc<;>simp at hc
 |rangeFunc f ps x y=>simp only[cCode]at hc;split at hc<;>simp at hc
 |_=>simp[cCode]at hc
theorem iP{P:Program}{nt rid d:Nat}{id:Nat}{ops':Array Oper}{b:Bool}(h:Y4 P nt id ops' b=some (.reg rid [⟨some d,none,.rcv⟩])):∃o cl,ops'=#[o]/\b=false/\o.op=.call cl/\cl.callee=.builtin .recover/\o.dst=some d/\o.guard=none/\d<nt:=by
 obtain⟨l0,hx0,⟨rfl,e0⟩|⟨_,_,_,_,e0⟩⟩:=Cz h
 ·cases e0
  obtain⟨c1,c2⟩:=E5 hx0;have hsz:ops'.size=1:=by simpa using c1.symm
  obtain⟨o,ho⟩:∃o,ops'=#[o]:=⟨ops'[0],by
   apply Array.ext
   ·simp[hsz]
   ·intro i h1 h2;have:i=0:=by simp at h2;exact h2
    subst this;simp⟩
  subst ho;obtain⟨yo',g1,g2⟩:=c2 0 o (by simp);simp at g1;subst g1;obtain⟨q1,q2,q3⟩:=Uz g2;obtain⟨cl,r1,r2⟩:=vY q1.symm;refine⟨o,cl,rfl,rfl,r1,r2,q2,?_,Gp g2 d rfl⟩;cases hg:o.guard with
  |none=>rfl
  |some p=>obtain⟨j,w⟩:=p;rw[hg]at q3;simp only[cG]at q3;split at q3<;>cases q3
 ·cases e0
def nU(u:FrameMode)(rv:Value)(u':FrameMode):Prop:=∀(c₀:Frame)(cs:List Frame),c₀.mode=u->recoverD (c₀::cs)=some (rv,{c₀ with mode:=u'}::cs)\/(recoverD (c₀::cs)=none/\rv=.nilIface/\u'=u)
theorem rD:nU .returning .nilIface .returning:=λc₀ cs h=>.inr ⟨by simp[recoverD,h],rfl,rfl⟩
theorem rF(v:Value):nU (.panicking [⟨v,false,false⟩]) v (.panicking [⟨v,true,false⟩]):=λc₀ cs h=>.inl (by simp[recoverD,h])
def YW(K:St->Prop):AE->St->Prop|.n,s=>K s|.r,s=>K s|_,_=>False
theorem aG{K:St->Prop}{s:St}(h:K s):YW K .n s:=h
theorem rG{P:Program}{S:Tab}(hS:TabOK P S){f:Nat}{fn:Func}{rid d ntf:Nat}{ac:AC}(hf:P.funcs[f]? =some fn)(hcf:E0 P fn=some (.seq (.reg rid [⟨some d,none,.rcv⟩]) ac,[]))(hnt:fn.ntmps=ntf){u u':FrameMode}{rv:Value}(hu:nU u rv u'){U:Cf}{h1:Hp}{vals:List Value}{ys:List AV}{cnt:Nat}{K:St->Prop}(hgl:Gl U)(hI:HInv U h1)(hal:∀m,U.al m->m.2<=cnt)(hv:RepL U ys vals)(hn:ys.length<=ntf)(h:As (Ctx.fd P S ntf U.w.heap.size) ac (YW λs=>lk s.env (dk ntf)=.gd false (.tup [])/\K s) ⟨(d,.v rv)::(dk ntf,.gd false (.tup []))::CK 0 ys,h1,cnt⟩):CallsDIn Fence.wide 0 P f vals.toArray u U.w λe u2 w'=>∃v Z s,e=.returned v/\u2=u'/\Z.w=w'/\Evo U Z/\HInv Z s.hp/\(∀m,Z.al m->m.2<=s.cnt)/\K s:=by
 subst hnt;unfold E0 at hcf;split at hcf
 ·rename_i b hbd;split at hcf
  ·rename_i c' r' g1 g2;simp only[yE,Wt]at hcf;obtain⟨rfl,rfl⟩:=hcf;have hlen:=BD hv;have hres:fn.results.toList=[]:=by
    cases hl:fn.results.toList with
    |nil=>rfl
    |cons x xs=>rw[hl]at g2;simp only[cRes]at g2;split at g2<;>simp at g2
   cases b with
   |seq b1 b2=>
    simp only[cCode]at g1;split at g1
    ·rename_i x' y' hx hy;simp only[yE,AC.seq.injEq]at g1;obtain⟨rfl,rfl⟩:=g1;cases b1 with
     |region id ops' dr=>
      simp only[cCode]at hx;obtain⟨o,cl,rfl,rfl,r1,r2,r3,r4,hd⟩:=iP hx;refine callsDIn_of_wpSIn hf hbd trivial λc₀ cs hc₀=>?_
      refine wpSIn_seq (wpSIn_region ?_);have hrun:(execOp ({tmps:=vals.toArray++Array.replicate (fn.ntmps-vals.toArray.size) undef,defers:=[]}:Act).eval o).run P U.w=.ok .recover U.w:=by simp[execOp,r1,r2,resolve,invoke,builtin]
      have hw:Region.wanted o (yielded #[o] (vals.toArray++Array.replicate (fn.ntmps-vals.toArray.size) undef))=true:=by unfold Region.wanted;rw[r4]
      have key:∀cs',cs'={c₀ with mode:=u'}::cs->(b2.wpSIn Fence.wide 0 P (bodyPostS P fn c₀ cs λe u2 w'=>∃v Z s,e=.returned v/\u2=u'/\Z.w=w'/\Evo U Z/\HInv Z s.hp/\(∀m,Z.al m->m.2<=s.cnt)/\K s))
        (({tmps:=vals.toArray++Array.replicate (fn.ntmps-vals.toArray.size) undef,defers:=[]}:Act).put o.dst rv) cs' U.w:=by
       rintro cs' rfl;refine wpSIn_of_wpIn rfl ?_;have hput:(({tmps:=vals.toArray++Array.replicate (fn.ntmps-vals.toArray.size) undef,defers:=[]}:Act).put o.dst rv).defers=[]:=by rw[Act.defers_put]
       have hb:=h b2 hy U (({tmps:=vals.toArray++Array.replicate (fn.ntmps-vals.toArray.size) undef,defers:=[]}:Act).put o.dst rv) ⟨⟨hI,?_,?_,?_⟩,hal,trivial⟩
       ·refine wpIn_mono hb ?_;rintro e a' w' ⟨Z,s',e',rfl,ev,h3,h4,h5⟩;have fin:(lk s'.env (dk fn.ntmps)=.gd false (.tup [])/\K s')->bodyPostS P fn c₀ cs (λe u2 w'=>∃v Z s,e=.returned v/\u2=u'/\Z.w=w'/\Evo U Z/\HInv Z s.hp/\(∀m,Z.al m->m.2<=s.cnt)/\K s) .ret a' ({c₀ with mode:=u'}::cs) Z.w:=by rintro⟨hk0,hk⟩;obtain⟨ms,dd,q1,_,_,q4⟩:=h3.1.df.sp;have e1:=q4.2.2.2 rfl;have e2:=q4.2.1 rfl hk0;subst e1 e2;have hr:=HP (P:=P) (fn:=fn) (tmps:=a'.tmps) (w:=Z.w) (vs:=[]) (by rw[hres];rfl);exact⟨q1,u',rfl,_,hr,_,Z,s',rfl,rfl,rfl,ev,h3.1.h,h3.2.1,hk⟩
        cases e with
        |normal=>simp[AE.of]at h4;subst h4;exact fin h5
        |ret=>simp[AE.of]at h4;subst h4;exact fin h5
        |exit i=>simp[AE.of]at h4;subst h4;exact h5.elim
        |goto l=>simp[AE.of]at h4
        |panic c=>obtain⟨v,rfl,rfl⟩:=AE.of_panic h4;exact h5.elim
        |outgrown=>simp[AE.of]at h4
       ·rw[r3];refine TInv.put (d:=some d) (env:=(dk fn.ntmps,.gd false (.tup []))::CK 0 ys) (r:=.v rv) (λt=>?_) (λk hk=>by cases hk;simp;omega) (by simp[Rep]);simp only[lk];by_cases ht:dk fn.ntmps=t
        ·rw[eX ht];subst ht;have h2:¬dk fn.ntmps<(vals.toArray++Array.replicate (fn.ntmps-vals.toArray.size) undef).size:=by simp only[Array.size_append,Array.size_replicate,List.size_toArray];unfold dk;omega
         have:(vals.toArray++Array.replicate (fn.ntmps-vals.toArray.size) undef).getD (dk fn.ntmps) undef=undef:=by simp only[Array.getD,h2,dif_neg,not_false_eq_true]
         rw[this];simp[Rep]
        ·rw[eW ht,HQ];split
         ·rename_i ht;simp only[t7,s6,true_and]at ht;have hg:ys[t]? =some ys[t]:=eV ht;obtain⟨x,g1,g2⟩:=Ep hv t _ hg;have e1:ys.getD (t-0) .un=ys[t]:=by simp[ht]
          have hlt':t<vals.length:=by omega
          have e2:(vals.toArray++Array.replicate (fn.ntmps-vals.toArray.size) undef).getD t undef=x:=by rw[eV hlt']at g1;simp at g1;simp[C9,z7,hlt',g1]
          rw[e1,e2];exact g2
         ·simp[Rep]
       ·rw[Act.size_put];show(vals.toArray++Array.replicate (fn.ntmps-vals.toArray.size) undef).size=fn.ntmps;simp;omega
       ·rw[Act.defers_put];exact⟨⟨[],[],rfl,by simp,.nil,λ_=>rfl,λ_ _=>rfl,λ_ f' ys' h=>(by have ek:lk ((d,AV.v rv)::(dk fn.ntmps,AV.gd false (.tup []))::CK 0 ys) (dk fn.ntmps)=.gd false (.tup []):=(N3 hd).trans (by simp only[lk,if_true]);have h':=ek.symm.trans h;cases h'),λ_=>rfl⟩,fA _,hgl⟩
      show wpOpsSIn Fence.wide 0 P #[o] _ [0] _ _ _;have ho:(#[o]:Array Oper)[0]? =some o:=rfl;simp only[wpOpsSIn,ho,hrun];refine⟨λf _=>trivial,?_⟩;rw[eX hw];rcases hu c₀ cs hc₀ with hr|⟨hr,rfl,rfl⟩
      ·simp only[hr];exact key _ rfl
      ·simp only[hr];exact key _ (by rw[<-hc₀])
     |seq x y=>simp only[cCode]at hx;split at hx<;>simp at hx
     |cond c x y=>simp only[cCode]at hx;split at hx<;>simp at hx
     |rangeFunc f ps x y=>simp only[cCode]at hx;split at hx<;>simp at hx
     |_=>simp[cCode]at hx
    ·simp at g1
   |region id ops' d'=>simp only[cCode]at g1;obtain⟨_,_,⟨_,e⟩|⟨_,_,_,_,e⟩⟩:=Cz g1<;>cases e
   |cond c x y=>simp only[cCode]at g1;split at g1<;>simp at g1
   |rangeFunc f ps x y=>simp only[cCode]at g1;split at g1<;>simp at g1
   |_=>simp[cCode]at g1
  ·simp at hcf
 ·simp at hcf
def RB(P:Program)(S:Tab)(fc:Nat)(ys:List AV)(rv:Value)(hp:Hp)(cnt:Nat)(K:St->Prop):Prop:=∃fn rid d ntf ac,P.funcs[fc]? =some fn/\E0 P fn=some (.seq (.reg rid [⟨some d,none,.rcv⟩]) ac,[])/\fn.ntmps=ntf/\ys.length<=ntf/\FU P fc/\∀hb,As (Ctx.fd P S ntf hb) ac (YW λs=>lk s.env (dk ntf)=.gd false (.tup [])/\K s) ⟨(d,.v rv)::(dk ntf,.gd false (.tup []))::CK 0 ys,hp,cnt⟩
def fdK(P:Program)(S:Tab)(nt:Nat)(rvs:List RV)(r:AV):AE->St->Prop|.n,s=>(lk s.env (dk nt)=.gd false (.tup [])/\Hv rvs r s)\/∃fc ys,lk s.env (dk nt)=.gd false (.clo (.func fc) [] ys)/\RB P S fc ys .nilIface s.hp s.cnt λs'=>Hv rvs r ⟨s.env,s'.hp,s'.cnt⟩|.r,s=>(lk s.env (dk nt)=.gd false (.tup [])/\Hv rvs r s)\/∃fc ys,lk s.env (dk nt)=.gd false (.clo (.func fc) [] ys)/\RB P S fc ys .nilIface s.hp s.cnt λs'=>Hv rvs r ⟨s.env,s'.hp,s'.cnt⟩|.p v,s=>∃fc ys,lk s.env (dk nt)=.gd false (.clo (.func fc) [] ys)/\RB P S fc ys v s.hp s.cnt λs'=>Hv rvs r ⟨s.env,s'.hp,s'.cnt⟩|.x _,_=>False
theorem iQ{P:Program}{S:Tab}(hS:TabOK P S){f:Nat}{fn:Func}{c:AC}{rvs:List RV}{args:List AV}{r:AV}(nt:Nat)(hf:P.funcs[f]? =some fn)(hc:E0 P fn=some (c,rvs))(hnt:fn.ntmps=nt)(hn:args.length<=nt)(h:∀hb,As (Ctx.fd P S nt hb) c (fdK P S nt rvs r) ⟨(dk nt,.gd false (.tup []))::CK 0 args,[],0⟩):PCall P f args r:=by
 subst hnt;unfold E0 at hc;split at hc
 rotate_left
 ·simp at hc
 rename_i b hbd;split at hc
 rotate_left
 ·simp at hc
 rename_i c' r' hcc hr;simp only[yE,Wt]at hc;obtain⟨rfl,rfl⟩:=hc;intro U vs hgl hlt hp hx;have hlen:=BD hx
 let Z:=U.fresh
 have hgt:Gl Z:=λb j hj=>⟨⟨λh=>h,by rintro(h|h);exact(hgl b j hj).1.1 h;exact(hgl b j hj).1.2.1 h,(hgl b j hj).1.2.2⟩,(hgl b j hj).2⟩
 have hx':RepL Z args vs:=RepL.ofPure (U:=U) (σ':=Z) (λb hb=>⟨λh=>h,by rintro(h|h);exact hb.1 h;exact hb.2.1 h,hb.2.2⟩) (λ_ _=>rfl) args vs hp hx;have hkey:∀x,lk ((dk fn.ntmps,x)::CK 0 args) (dk fn.ntmps)=x:=λx=>by simp only[lk,if_true]
 have hI:Inv Z ((dk fn.ntmps,.gd false (.tup []))::CK 0 args) [] {tmps:=vs.toArray++Array.replicate (fn.ntmps-vs.toArray.size) undef,defers:=[]} fn.ntmps (U.w.heap.size,true):=by
  refine⟨⟨λn=>rfl,λn j c h=>by simp[hl]at h,λn sz live rows d h=>by simp[hl]at h,?_,λb h=>h.elim,hlt,λb h=>h.elim⟩,λt=>?_,by simp;omega,⟨⟨[],[],rfl,by simp,.nil,λ_=>rfl,λ_ _=>rfl,λ_ f' ys' h=>(by rw[hkey]at h;cases h),λ_=>rfl⟩,fA _,hgt⟩⟩
  ·rintro p q b (⟨_,_,j,c,h⟩|⟨_,⟨_,_,_,h⟩,_⟩) _<;>simp[hl]at h
  ·simp only[lk];by_cases ht:dk fn.ntmps=t
   ·rw[eX ht];subst ht;have h2:¬dk fn.ntmps<(vs.toArray++Array.replicate (fn.ntmps-vs.toArray.size) undef).size:=by simp only[Array.size_append,Array.size_replicate,List.size_toArray];unfold dk;omega
    have:(vs.toArray++Array.replicate (fn.ntmps-vs.toArray.size) undef).getD (dk fn.ntmps) undef=undef:=by simp only[Array.getD,h2,dif_neg,not_false_eq_true]
    rw[this];simp[Rep]
   ·rw[eW ht,HQ];split
    ·rename_i ht;simp only[t7,s6,true_and]at ht;have hg:args[t]? =some args[t]:=eV ht;obtain⟨x,g1,g2⟩:=Ep hx' t _ hg;have e1:args.getD (t-0) .un=args[t]:=by simp[ht]
     have hlt':t<vs.length:=by omega
     have e2:(vs.toArray++Array.replicate (fn.ntmps-vs.toArray.size) undef).getD t undef=x:=by rw[eV hlt']at g1;simp at g1;simp[C9,z7,hlt',g1]
     rw[e1,e2];exact g2
    ·simp[Rep]
 have hw:=h U.w.heap.size b hcc Z _ ⟨hI,λm hm=>hm.elim,trivial⟩;refine callsIn_wide.1 (callsIn_of_wp_marks (n:=0) hf hbd trivial (wpIn_mono hw ?_));rintro e a' w' ⟨σ',s',e',rfl,h2,h3,h4,h5⟩;have h2:Evo Z σ':=h2;have fin:∀(ρ0:Cf)(hp':Hp)(cnt':Nat),Evo Z ρ0->HInv ρ0 hp'->TInv ρ0 s'.env a'->Hv r' r ⟨s'.env,hp',cnt'⟩->LeavesInM Fence.wide 0 P fn a'.tmps (λe w'=>∃v',e=.returned v'/\(∀(b:Nat)(o:Obj),U.w.heap[b]? =some o->w'.heap[b]? =some o)/\SameO U.w w'/\Cw r=true/\Rep (U.at w') r v') [] .returning ρ0.w:=by
  rintro ρ0 hp' cnt' ev hh ht ⟨vc,xs,g1,g2,g3,g4,g5⟩;have hI':Inv ρ0 s'.env hp' {a' with defers:=[]} fn.ntmps (U.w.heap.size,false):=⟨hh,ht,h3.1.sz,DOK.nil ev.sz (hgt.mono ev)⟩
  obtain⟨us,k1,k2⟩:=HO (s:=⟨s'.env,hp',cnt'⟩) hI' hr g1 g2;refine⟨_,HP k1,_,rfl,λb o hb=>(ev.fro b o hb (λh=>h)).1,ev.io,g5,?_⟩;have hone:Rep ρ0 (one xs) (if h:us.toArray.size=1 then us.toArray[0]else .tuple us.toArray):=by
   have hl':=BD k2;unfold one;split
   ·rename_i x;simp only[RepL]at k2;obtain⟨y,ys,rfl,e2,rfl⟩:=k2;simpa using e2
   ·rename_i hno;have hne:us.toArray.size≠1:=by
     intro h1;simp at h1;rw[h1]at hl';cases xs with
     |nil=>simp at hl'
     |cons x xs=>cases xs with
      |nil=>exact hno x rfl
      |cons _ _=>simp at hl'
    rw[dif_neg hne];simp only[Rep];exact⟨us,rfl,k2⟩
  let W:Cf:={ρ0 with M:=λ_=>False}
  have e:Evo ρ0 W:=⟨λ_ h=>⟨h,rfl⟩,λ_ _ l h=>⟨l,h,fA _,λ_=>rfl⟩,λ_ _ h _=>⟨h,λh=>h⟩,rfl,fA _,SameO.refl _⟩
  have h6:=ML (Z:=W) hI'.h e rfl (λ_ h=>h) _ _ g3 hone;have h7:=IY _ _ _ g4 h6;refine Rep.ofPure (U:=W) (σ':=U.at ρ0.w) (λb hb=>?_) (λ_ _=>rfl) r _ g5 h7;have hO:W.O=Z.O:=ev.out;have hb1:=hb.2.1;rw[hO]at hb1;exact⟨λh=>hb1 (.inl h),λh=>hb1 (.inr h),hb.2.2⟩
 obtain⟨ms,dd,q1,_,_,q4⟩:=h3.1.df.sp;have hms:=q4.2.2.2 rfl;subst hms;rw[nJ]at q1;have clo:∀(u:FrameMode)(rv:Value)(u':FrameMode)(fc:Nat)(ys:List AV),u≠.run->nU u rv u'->settle u'=.returning->lk s'.env (dk fn.ntmps)=.gd false (.clo (.func fc) [] ys)->RB P S fc ys rv s'.hp s'.cnt (λt=>Hv r' r ⟨s'.env,t.hp,t.cnt⟩)->LeavesInM Fence.wide 0 P fn a'.tmps (λe w'=>∃v',e=.returned v'/\(∀(b:Nat)(o:Obj),U.w.heap[b]? =some o->w'.heap[b]? =some o)/\SameO U.w w'/\Cw r=true/\Rep (U.at w') r v') a'.defers u σ'.w:=by
  rintro u rv u' fc ys hrun hu hset hk ⟨fnc,rid,d,ntf,ac,z1,z2,z3,z4,z5,z6⟩;obtain⟨vals,y1,y2⟩:=q4.2.2.1 rfl fc ys hk;rw[q1,y2];refine⟨hrun,.inr ⟨λh=>by simp[Fence.wide]at h,.func fc,vals.toArray,fc,vals.toArray,rfl,?_,λ_ _=>trivial,?_⟩⟩
  ·simp only[invoke];have:=FA z5 (#[]++vals.toArray) σ'.w;simpa using this
  ·refine(rG hS z1 z2 z3 hu h3.1.df.gl h3.1.h h3.2.1 y1 z4 (z6 _)).mono ?_;rintro e u2 w2 ⟨v,τ2,t,rfl,rfl,rfl,ev2,hh2,hal2,hk2⟩;show LeavesInM _ _ _ _ _ _ [] (settle u2) _;rw[hset];exact fin τ2 t.hp t.cnt (h2.trans ev2) hh2 (h3.1.t.mono ev2) hk2
 have done:((lk s'.env (dk fn.ntmps)=.gd false (.tup [])/\Hv r' r s')\/∃fc ys,lk s'.env (dk fn.ntmps)=.gd false (.clo (.func fc) [] ys)/\RB P S fc ys .nilIface s'.hp s'.cnt λt=>Hv r' r ⟨s'.env,t.hp,t.cnt⟩)->LeavesInM Fence.wide 0 P fn a'.tmps (λe w'=>∃v',e=.returned v'/\(∀(b:Nat)(o:Obj),U.w.heap[b]? =some o->w'.heap[b]? =some o)/\SameO U.w w'/\Cw r=true/\Rep (U.at w') r v') a'.defers .returning σ'.w:=by
  rintro(⟨k0,k1⟩|⟨fc,ys,k0,k1⟩)
  ·have hdd:=q4.2.1 rfl k0;rw[q1,hdd];exact fin σ' s'.hp s'.cnt h2 h3.1.h h3.1.t k1
  ·exact clo .returning .nilIface .returning fc ys (by simp) rD rfl k0 k1
 cases e with
 |normal=>simp[AE.of]at h4;subst h4;exact done h5
 |ret=>simp[AE.of]at h4;subst h4;exact done h5
 |exit i=>simp[AE.of]at h4;subst h4;exact h5.elim
 |goto l=>simp[AE.of]at h4
 |panic c=>obtain⟨v,rfl,rfl⟩:=AE.of_panic h4;obtain⟨fc,ys,k0,k1⟩:=h5;exact clo (.panicking [⟨v,false,false⟩]) v (.panicking [⟨v,true,false⟩]) fc ys (by simp) (rF v) rfl k0 k1
 |outgrown=>simp[AE.of]at h4
