import Derived.Test.YtciphecegkfaiaaGreatA10
import Derived.RangeFuncNested
import Derived.RecoverIn
namespace Go.Proofs.YtciphecegkfaiaaGreat.Am
set_option linter.unusedSimpArgs false
set_option linter.unusedVariables false
open Go
def Ctx.rdG (P:Program) (S:Tab) (nt l:Nat):Ctx:={P:=P,F:=Fence.wide.inRound l,S:=S,nt:=nt,hb:=(0,false),R:=Evo,G:=fun _ σ=>∃r:Loop,σ.w.heap[l]? =some (.loop r)∧¬σ.M l∧σ.w.heap[r.defers]? =some (.deferred (some []))∧¬σ.M r.defers,ofE:=id,tr:=Evo.trans,g:=fun⟨r,h1,h2,h3,h4⟩ e _=>⟨r,(e.fro _ _ h1 h2).1,(e.fro _ _ h1 h2).2,(e.fro _ _ h3 h4).1,(e.fro _ _ h3 h4).2⟩}
theorem Ctx.rdG_ok {P:Program} {S:Tab} {nt l:Nat} (h:TabOK P S):(Ctx.rdG P S nt l).OK:=⟨h,.inr ⟨l,Eq.refl _⟩⟩
theorem kQ {P:Program} {S:Tab} {nt l:Nat}:(Ctx.rdG P S nt l).S=S:=rfl
attribute [go_sem] kQ
def TrL (xs:List AV):Prop:=∀(σ σ':Cf),(∀b,Fz σ b→(∃cs T f,σ.w.heap[b]? =some (.cells cs T f))→Fz σ' b)→(∀b,Fz σ b→σ'.w.heap[b]? =σ.w.heap[b]?)→∀vs,RepL σ xs vs→RepL σ' xs vs
theorem TrL.nil:TrL []:=fun _ _ _ _ _ h=>by simpa [RepL] using h
section
variable {P:Program} {S:Tab} {nt hbo:Nat} {φ:RFix} {X:Type} {I:X→Hp×Nat} {Pre:X→Prop} {K:X→Nat} {Q:AE→St→Prop}
theorem RJ.rndG {ps:Array Nat} {assign body:Code} {fn:FuncId} {asg bdy:AC} {xs:List (List AV)} (hlp:φ.lp=fun st pe=>{state:=st,pending:=pe,fn:=fn,tmps:=φ.a.tmps,params:=ps,assign:=assign,body:=body,defers:=φ.D})
  (hca:cCode P nt assign=some asg) (hcb:cCode P nt body=some bdy) (hps:∀p∈ps.toList,p<nt) (hpure:∀args∈xs,AB args=true∧args.length=ps.toList.length)
  (hround:∀x,Pre x→∀args,xs[K x]? =some args→awp (Ctx.rdG P S nt φ.l) asg (B1 (Ctx.rdG P S nt φ.l) bdy (BS φ.e I Pre K (K x+1) Q)) ⟨FF ps.toList args φ.e,(I x).1,(I x).2⟩)
  (hls:φ.ss.w.heap.size≤φ.l) (hDd:∀so si hp,Way φ.ss so si→Inv so φ.e hp φ.a nt (hbo,false)→¬so.M φ.D)
  {k:Nat} {args:List AV} {si:Cf} {hpi:Hp} {vals:List Value} (h:RJ (Ctx.fn P S nt hbo) φ I Pre K Q k si) (hi:HInv si hpi) (hxs:xs[k]? =some args) (hv:RepL si args vals):
  ∃f tmps assign body,(Instr.yield φ.l vals.toArray).run P si.w= .ok (.round φ.l f tmps assign body) si.w∧RoundIn Fence.wide 0 P φ.l f tmps assign body si.w fun e w'=>∃(b:Bool) (σ':Cf),e= .returned (.bool b)∧σ'.w=w'∧Oth si σ'∧(∀(b:Nat) (o:Obj),¬si.O b→si.w.heap[b]? =some o→σ'.w.heap[b]? =some o∧¬σ'.O b)∧RJ (Ctx.fn P S nt hbo) φ I Pre K Q (if b=true then k+1 else-1) σ':=by
 obtain⟨so,hp,cnt,st,pe,h1,h2,h3,h4,h8,h5,h6,h7⟩:=h
 rcases h7 with⟨x,hx,hk,rfl,rfl,rfl,rfl⟩|⟨hk,_⟩
 ·have hk:K x=k:=by omega
  obtain⟨hpu,hlen⟩:=hpure args (List.mem_of_getElem? hxs)
  have hvl:=Bz hv
  have hDM:¬so.M φ.D:=hDd so si _ h2 h3
  have hdis:∀b,so.O b→b<so.w.heap.size∧¬so.M b:=fun b hb=>⟨h3.h.ou b hb,fun hM=>h3.h.dis b hM hb⟩
  have hv':RepL so args vals:=RepL.ofPure (σ:=si) (σ':=so) (fun b hb=>⟨fun hm=>hb.2.1 ((h1.oi b).2 (.inl hm)),fun ho=>by
   rcases(h1.oo b).1 ho with g|g
   ·exact hb.2.1 ((h1.oi b).2 (.inr (.inl g)))
   ·exact hb.1 g.1,by rw[h1.w];exact hb.2.2⟩) (fun _ _=>by rw[h1.w]) args vals hpu hv
  have hy:=run_yield (P:=P) (args:=vals.toArray) (w:=si.w) (l:=φ.l) (by rw[←h1.w];exact h5) (by rw[hlp];simp at hlen⊢;omega)
  rw[hlp] at hy
  refine⟨_,_,_,_,hy, ?_⟩
  have hT:=LM (d':=[]) (σ:=so) (ps:=ps.toList) (args:=args) (vals:=vals) (e:=φ.e) (tmps:=φ.a.tmps) (d:=φ.a.defers) h3.t hv' hlen (fun p hp=>by rw[h3.sz];exact hps p hp)
  have hfold:(ps.zip vals.toArray).foldl (fun t (p,v)=>t.setIfInBounds p v) φ.a.tmps=(ps.toList.zip vals).foldl (fun t (p,v)=>t.setIfInBounds p v) φ.a.tmps:=by
   rw[←Array.foldl_toList];simp
  refine roundIn_of_wpIn (F:=Fence.wide) trivial ?_
  rw[hfold,←h1.w]
  have ha:=hround x hx args (by rw[hk];exact hxs) assign hca so {tmps:=_,defers:=[]} ⟨⟨h3.h,hT.1,by rw[hT.2];exact h3.sz,DOK.nil (Nat.zero_le _) h3.df.gl⟩,h4,⟨φ.lp .ready none,h5,h8,by rw[hlp];exact h6,by rw[hlp];exact hDM⟩⟩
  refine wpIn_mono ha ?_
  rintro e a1 w1 ⟨s1,t1,e',rfl,ev1,at1,he,hq⟩
  have ev1:Evo so s1:=ev1
  cases e with
  |normal=>
   simp[AE.of] at he;subst he
   obtain⟨b1,b2⟩:=ev1.fro _ _ h5 h8
   have dis1:∀b,s1.O b→b<s1.w.heap.size∧¬s1.M b:=fun b hb=>⟨at1.1.h.ou b hb,fun hM=>at1.1.h.dis b hM hb⟩
   obtain⟨s2,hs2,o2,r2,l2,k2⟩:=HA (r':={φ.lp .ready none with state:= .busy}) dis1 b2 b1
   have m2:¬s2.M φ.l:=by rw[o2.M];exact b2
   refine⟨s2.w, ?_, ?_⟩
   ·rw[hs2]
    exact run_beginRound b1 (by rw[hlp])
   have hDl:φ.D≠φ.l:=by intro e;rw[e,h5] at h6;simp at h6
   have hb:=hq body hcb s2 a1 ⟨⟨at1.1.h.oth o2,at1.1.t.ev o2.ev,at1.1.sz,at1.1.df.rd r2 b1 (.inl rfl)⟩,fun m hm=>at1.2.1 m (by rw[o2.al] at hm;exact hm),⟨_,l2,m2,by rw[hlp];exact k2 _ _ hDl (ev1.fro _ _ h6 hDM).1,by rw[hlp,o2.M];exact(ev1.fro _ _ h6 hDM).2⟩⟩
   refine wpIn_mono hb ?_
   rintro e a3 w3 ⟨s3,t3,e',rfl,ev3,at3,he,hq3⟩
   have ev3:Evo s2 s3:=ev3
   obtain⟨c1,c2⟩:=ev3.fro _ _ l2 m2
   have dis3:∀b,s3.O b→b<s3.w.heap.size∧¬s3.M b:=fun b hb=>⟨at3.1.h.ou b hb,fun hM=>at3.1.h.dis b hM hb⟩
   have fin:∀(jump:Option Code) (k':Int) (τ:Cf) (hp4:Hp) (cnt4:Nat),Evo s3 τ→τ.w=s3.w→HInv τ hp4→(∀m,τ.al m→m.2≤cnt4)→
     ((∃x,Pre x∧(K x:Int)=k'∧(if jump.isNone then LoopState.ready else .done)= .ready∧jump=none∧hp4=(I x).1∧cnt4=(I x).2)∨(k'= -1∧∃c e',(if jump.isNone then LoopState.ready else .done)= .done∧jump=some c∧OI c e'∧Q e' ⟨φ.e,hp4,cnt4⟩))→
     ∃v w4,(Instr.endRound φ.l jump).run P s3.w= .ok v w4∧v= .bool jump.isNone∧∃σ':Cf,σ'.w=w4∧Oth si σ'∧(∀(b:Nat) (o:Obj),¬si.O b→si.w.heap[b]? =some o→σ'.w.heap[b]? =some o∧¬σ'.O b)∧RJ (Ctx.fn P S nt hbo) φ I Pre K Q k' σ':=by
    intro jump k' τ hp4 cnt4 eτ wτ hτ alτ h7'
    obtain⟨q1,q2⟩:=eτ.fro _ _ c1 c2
    have disτ:∀b,τ.O b→b<τ.w.heap.size∧¬τ.M b:=fun b hb=>⟨hτ.ou b hb,fun hM=>hτ.dis b hM hb⟩
    obtain⟨s4,hs4,o4,r4,l4,_⟩:=HA (r':=φ.lp (if jump.isNone then LoopState.ready else .done) jump) disτ q2 q1
    refine⟨_,s4.w, ?_,rfl, ?_⟩
    ·rw[hs4,wτ]
     have:=run_endRound (P:=P) jump c1
     rw[hlp] at this⊢
     exact this
    ·obtain⟨si',y1,y2,y3,y4⟩:=VR (Γ:=Ctx.fn P S nt hbo) (K:=K) (Pre:=Pre) (I:=I) (Q:=Q) h1 h2 h3 h8 h5 h6 hDM hi hls ((ev1.rd.trans r2).trans ((ev3.rd.trans eτ.rd).trans r4)) (hτ.oth o4) (by rw[o4.M];exact q2) l4 (fun m hm=>alτ m (by rw[o4.al] at hm;exact hm)) h7'
     exact⟨si',y1,y2,y3,y4⟩
   cases e with
   |normal=>
    simp[AE.of] at he;subst he
    obtain⟨x',p1,p2,p3⟩:=hq3
    have hA:At (Ctx.fn P S nt 0) s3 ⟨φ.e,t3.hp,t3.cnt⟩ φ.a:=⟨⟨at3.1.h,h3.t.ev (((ev1.rd.trans r2).trans ev3.rd).ev c2 h5),h3.sz,DOK.rd (DOK.of rfl (fun d hd=>by obtain⟨r,r1,_,r3⟩:=h3.df.all rfl d hd;exact⟨r,r1,Nat.zero_le _,r3⟩) (h3.df.nd rfl) (Nat.zero_le _) h3.df.gl) ((ev1.rd.trans r2).trans ev3.rd) h5 (.inl rfl)⟩,at3.2.1,trivial⟩
    obtain⟨τ,w1,e1,a1'⟩:=hA.le p3
    obtain⟨v,w4,g1,rfl,σ',g3,g4,g5,g6⟩:=fin none (k+1) τ _ _ e1 w1 a1'.1.h a1'.2.1 (.inl ⟨x',p1,by omega,rfl,rfl,rfl,rfl⟩)
    exact⟨_,w4,g1,true,σ',rfl,g3,g4,fun b o hb ho=>g5 b o hb (by rw[←h1.w];exact ho),by simpa using g6⟩
   |ret=>
    simp[AE.of] at he;subst he
    obtain⟨v,w4,g1,rfl,σ',g3,g4,g5,g6⟩:=fin (some .ret) (-1) s3 _ _ (Evo.refl s3) rfl at3.1.h at3.2.1 (.inr ⟨rfl,_,.r,rfl,rfl,.inl ⟨rfl,rfl⟩,hq3⟩)
    exact⟨_,w4,g1,false,σ',rfl,g3,g4,fun b o hb ho=>g5 b o hb (by rw[←h1.w];exact ho),by simpa using g6⟩
   |exit i=>
    simp[AE.of] at he;subst he
    obtain⟨v,w4,g1,rfl,σ',g3,g4,g5,g6⟩:=fin (some (.exit i)) (-1) s3 _ _ (Evo.refl s3) rfl at3.1.h at3.2.1 (.inr ⟨rfl,_,.x i,rfl,rfl,.inr ⟨i,rfl,rfl⟩,hq3⟩)
    exact⟨_,w4,g1,false,σ',rfl,g3,g4,fun b o hb ho=>g5 b o hb (by rw[←h1.w];exact ho),by simpa using g6⟩
   |goto l=>simp[AE.of] at he
   |panic c=>obtain⟨v,rfl,rfl⟩:=AE.of_panic he;exact hq3.elim
   |outgrown=>simp[AE.of] at he
  |exit i=>simp[AE.of] at he;subst he;exact hq.elim
  |ret=>simp[AE.of] at he;subst he;exact hq.elim
  |goto l=>simp[AE.of] at he
  |panic c=>obtain⟨v,rfl,rfl⟩:=AE.of_panic he;exact hq.elim
  |outgrown=>simp[AE.of] at he
 ·omega
end
section
variable {P:Program} {S:Tab} {nt hbo:Nat}
theorem Vf {X:Type} (I:X→Hp×Nat) (Pre:X→Prop) (K:X→Nat) (x0:X) {f:Opd} {ps:List Nat} {asg bdy:AC} {Q:AE→St→Prop} {e:Env} {h:Hp} {c fi:Nat} {fst cps:List AV} {xs:List (List AV)}
  (hx:ung true (opv e f)= .clo (.func fi) fst cps) (hit:ItC P fi fst cps xs) (hok:okF P fi) (hpu:AB fst=true∧AB cps=true) (hps:∀p∈ps,p<nt) (hpure:∀args∈xs,AB args=true∧args.length=ps.length)
  (h0:Pre x0) (hk0:K x0=0) (hle:Le ⟨e,(I x0).1,(I x0).2⟩ ⟨e,h,c⟩)
  (round:∀l x,Pre x→∀args,xs[K x]? =some args→awp (Ctx.rdG P S nt l) asg (B1 (Ctx.rdG P S nt l) bdy (BS e I Pre K (K x+1) Q)) ⟨FF ps args e,(I x).1,(I x).2⟩)
  (hend:∀x,Pre x→K x=xs.length→Q .n ⟨e,(I x).1,(I x).2⟩):awp (Ctx.fn P S nt hbo) (.rfun f ps asg bdy) Q ⟨e,h,c⟩:=by
 intro code hc σ a hA
 cases code with
 |rangeFunc g ps' assign body=>
  simp only[cCode] at hc
  split at hc
  ·rename_i x' y' hca hcb
   simp at hc
   obtain⟨rfl,rfl,rfl,rfl⟩:=hc
   obtain⟨ss,w0,ev0,A0⟩:=hA.le hle
   rw[←w0]
   refine wpIn_mono (Q:=lift (Ctx.fn P S nt hbo) ss Q) ?_ fun e a w k=>k.mono (Ctx.ofE _ ev0)
   have hX:=Eo (g:=true) rfl A0.1.t g
   rw[hx] at hX
   simp only[Rep] at hX
   obtain⟨fs,cs,hX,hf1,hc1⟩:=hX
   refine wpIn_rangeFunc (F:=Fence.wide) fun fn _=> ?_
   let lp:LoopState→Option Code→Loop:=fun st pe=>{state:=st,pending:=pe,fn:=fn,tmps:=a.tmps,params:=ps',assign:=assign,body:=body,defers:=ss.w.heap.size}
   let W1:World:=(ss.w.alloc (.deferred (some []))).alloc (.loop (lp .ready none))
   have hL1:W1.heap[ss.w.heap.size+1]? =some (.loop (lp .ready none)):=by
    have:=World.alloc_heap_new (ss.w.alloc (.deferred (some []))) (.loop (lp .ready none));rwa [World.size_alloc] at this
   have hsz1:W1.heap.size=ss.w.heap.size+2:=by simp[W1]
   have hkeep:∀(b:Nat) (o:Obj),ss.w.heap[b]? =some o→W1.heap[b]? =some o:=fun b o hb=>by
    have hlt:=(Array.getElem?_eq_some_iff.1 hb).1
    rw[BL (by simp;omega),BL hlt];exact hb
   have hK1:W1.heap[ss.w.heap.size]? =some (.deferred (some [])):=by
    rw[BL (by simp)];exact World.alloc_heap_new ss.w _
   let D:=ss.w.heap.size
   let l:=ss.w.heap.size+1
   let a0:Act:={a with defers:=[{target:= .collected D,args:= #[]}]++a.defers}
   let φ:RFix:={O0:=ss.O,l:=l,D:=D,ss:=ss,e:=e,a:=a0,lp:=lp}
   let so:Cf:=ss.at W1
   have evs:Evo ss so:=Evo.at hkeep ⟨rfl,rfl⟩
   let si:Cf:={rb:=fun _=>0,ra:=fun _=>(none,0),M:=fun _=>False,O:=fun b=>ss.M b∨ss.O b∨b=l∨b=D,ln:=fun _=>none,al:=fun _=>False,w:=W1}
   have hgsi:Gl si:=fun b j hj=>by
    obtain⟨g1,g2⟩:=A0.1.df.gl b j hj
    have g3:=(Gl.mono A0.1.df.gl evs b j hj).2
    refine⟨⟨fun h=>h, ?_, ?_⟩,g3⟩
    ·have:=g1.2.2
     rintro(h|h|h|h)
     ·exact g1.1 h
     ·exact g1.2.1 h
     ·simp only[l] at h;omega
     ·simp only[D] at h;omega
    ·show b<W1.heap.size
     have:=g1.2.2;omega
   have hdf:∀d∈φ.a.defers,∃r,d={target:= .collected r,args:= #[]}∧(r<φ.ss.w.heap.size∨r=φ.D):=by
    intro d hd
    simp only[φ,a0,List.cons_append,List.nil_append,List.mem_cons] at hd
    rcases hd with rfl|hd
    ·exact⟨D,rfl,.inr rfl⟩
    ·obtain⟨r,r1,_,r3,_⟩:=A0.1.df.all rfl d hd
     exact⟨r,r1,.inl (Array.getElem?_eq_some_iff.1 r3).1⟩
   have nM:∀b,ss.w.heap.size≤b→¬ss.M b:=fun b hb hm=>by have:=A0.1.h.lt b hm;omega
   have nO:∀b,ss.w.heap.size≤b→¬ss.O b:=fun b hb hm=>by have:=A0.1.h.ou b hm;omega
   have hso:HInv so (I x0).1:=A0.1.h.at hkeep ⟨rfl,rfl⟩
   have hsi:HInv si []:=⟨fun _=>rfl,fun n j c h=>by simp[hl] at h,fun n sz live rows d h=>by simp[hl] at h,by
    rintro p q b (⟨_,_,j,c,h⟩|⟨_,⟨_,_,_,h⟩,_⟩) _<;>simp[hl] at h,fun b h=>h.elim,fun b hb=>by
     show b<W1.heap.size
     rw[hsz1]
     rcases hb with hb|hb|rfl|rfl
     ·have:=A0.1.h.lt b hb;omega
     ·have:=A0.1.h.ou b hb;omega
     ·simp only[l];omega
     ·simp only[D];omega,fun b h=>h.elim⟩
   have hJ0:RJ (Ctx.fn P S nt hbo) φ I Pre K Q 0 si:=by
    refine⟨so,(I x0).1,(I x0).2,.ready,none,⟨rfl,fun b=>Iff.rfl,fun b=>⟨.inl,fun h=>h.elim id fun h=>h.1.elim⟩,fun b h=>h.elim,hsi.ou⟩,⟨evs.box,evs.arr,evs.fro,fun _ _ _ h=>h.elim,evs.sz,evs.io⟩,
     ⟨hso,A0.1.t.mono evs,A0.1.sz,DOK.of rfl (fun d hd=> ?_) ?_ (Nat.le_trans A0.1.df.le evs.sz) (A0.1.df.gl.mono evs)⟩,A0.2.1,nM _ (Nat.le_succ _),hL1,hK1,.inl ⟨x0,h0,by simp[hk0],rfl,rfl,rfl,rfl⟩⟩
    ·simp only[φ,a0,List.cons_append,List.nil_append,List.mem_cons] at hd
     rcases hd with rfl|hd
     ·exact⟨D,rfl,A0.1.df.le,hK1,nM _ (Nat.le_refl _),nO _ (Nat.le_refl _)⟩
     ·exact(A0.1.df.mono evs).all rfl d hd
    ·simp only[φ,a0,List.cons_append,List.nil_append]
     refine List.pairwise_cons.2 ⟨fun d hd he=> ?_,A0.1.df.nd rfl⟩
     obtain⟨r,rfl,_,r3,_⟩:=A0.1.df.all rfl d hd
     have:D=r:=by simpa using he
     have:=(Array.getElem?_eq_some_iff.1 r3).1
     omega
   have hDn:∀so si hp,Way φ.ss so si→Inv so φ.e hp φ.a nt (hbo,false)→¬so.M φ.D:=fun so si hp _ h3=>by
    obtain⟨r,r1,_,_,r4,_⟩:=h3.df.all rfl {target:= .collected D,args:= #[]} (by simp[φ,a0])
    have:φ.D=r:=by simpa using r1
    rw[this];exact r4
   have hR:Rng P Fence.wide l (ss.w.heap.size+2) xs (RJ (Ctx.fn P S nt hbo) φ I Pre K Q):=
    {evo:=fun hj ev=>hj.evo hdf ev
     oth:=fun hj o hO hP=>hj.oth (hb:=ss.w.heap.size+2) (by simp only[φ];omega) hdf o hO hP
     rnd:=fun hj hi hxs hv=>RJ.rndG (φ:=φ) (fn:=fn) (ps:=ps') rfl hca hcb hps hpure (round l) (by simp only[φ,l];omega) hDn hj hi hxs hv}
   have hvals:RepL si (fst++AV.clo (.yield l) [] []::cps) (fs++ .func (.yield l) #[] #[]::cs):=by
    have pu:∀ys vs,AB ys=true→RepL ss ys vs→RepL si ys vs:=fun ys vs hp hr=>by
     have h1:RepL so ys vs:=RepL.mono evs ys vs hr
     refine RepL.ofPure (σ:=ss) (σ':=si) (fun b hb=>⟨fun h=>h, ?_,by show b<W1.heap.size;have:=hb.2.2;omega⟩) (fun b hb=> ?_) ys vs hp hr
     ·have:=hb.2.2
      rintro(g|g|rfl|rfl)
      ·exact hb.1 g
      ·exact hb.2.1 g
      ·simp only[l] at this;omega
      ·simp only[D] at this;omega
     ·have:=Array.getElem?_eq_getElem hb.2.2
      show W1.heap[b]? =_
      rw[this];exact hkeep b _ this
    refine DL (pu _ _ hpu.1 hf1) ?_
    simp only[RepL]
    exact⟨_,_,rfl,by simp[Rep,RepL],pu _ _ hpu.2 hc1⟩
   refine⟨l,[{target:= .collected D,args:= #[]}],W1,{target:= .fn (.func fi) cs.toArray,args:=fs.toArray++ #[.func (.yield l) #[] #[]]},W1,fi,(fs.toArray++ #[.func (.yield l) #[] #[]])++cs.toArray,W1,run_enterLoop_outer _ _ _ _ _, ?_,fun _ _=>trivial, ?_,fun h=>by simp[Fence.wide] at h, ?_⟩
   ·have hy:Array.map a.eval #[.const (.func (.yield l) #[] #[])]= #[.func (.yield l) #[] #[]]:=by simp[Act.eval]
    simp only[resolve,rangeCall,hy,hX,Deferred.ofValue,Sem.run_pure]
   ·simp only[invoke]
    exact EH hok _ _
   have harr:(fs.toArray++ #[.func (.yield l) #[] #[]])++cs.toArray=(fs++ .func (.yield l) #[] #[]::cs).toArray:=by apply Array.ext';simp
   rw[harr]
   refine(hit l (ss.w.heap.size+2) _ si _ hR hJ0 hsi (fun _ h=>h) hvals (by show _≤W1.heap.size;omega) hgsi).mono ?_
   rintro en w' ⟨v,σ',rfl,rfl,hj⟩
   have key:∀hp cnt st pe so2,Pair φ.O0 φ.l φ.D so2 σ'→Way φ.ss so2 σ'→Inv so2 φ.e hp φ.a nt (hbo,false)→(∀m,so2.al m→m.2≤cnt)→¬so2.M φ.l→so2.w.heap[φ.l]? =some (.loop (φ.lp st pe))→st≠.busy→
     ∃s5:Cf,(Instr.endLoop l).run P σ'.w= .ok pe s5.w∧Evo ss s5∧At (Ctx.fn P S nt hbo) s5 ⟨e,hp,cnt⟩ a0:=by
    intro hp cnt st pe so2 h1 h2 h3 h4 h8 h5 hb
    have dis2:∀b,so2.O b→b<so2.w.heap.size∧¬so2.M b:=fun b hb=>⟨h3.h.ou b hb,fun hM=>h3.h.dis b hM hb⟩
    obtain⟨s4,hs4,o4,r4,l4,k4⟩:=HA (r':={φ.lp st pe with state:= .exhausted}) dis2 h8 h5
    have hOs:∀b,ss.O b→s4.O b:=fun b hb=>by rw[r4.out];exact(h1.oo b).2 (.inl hb)
    let s5:Cf:={s4 with O:=ss.O}
    have h4i:=h3.h.oth o4
    have o5:Oth s4 s5:=⟨rfl,rfl,rfl,rfl,rfl,fun b hb=>⟨h4i.ou b (hOs b hb),fun hM=>h4i.dis b hM (hOs b hb),fun hf=>hf.2.1 (hOs b hb)⟩,Nat.le_refl _,fun _ _=>rfl,fun _ _ _ _ h=>h,SameO.refl _⟩
    have df4:=h3.df.rd r4 h5 (.inl rfl)
    refine⟨s5, ?_,⟨fun n hn=> ?_,fun n hn l' hl'=> ?_,fun b o ho hm=> ?_,rfl,Nat.le_trans h2.sz r4.sz,h2.io.trans r4.io⟩,⟨h4i.oth o5,(h3.t.ev o4.ev).ev o5.ev,h3.sz,DOK.of rfl (fun d hd=> ?_) (df4.nd rfl) df4.le (df4.gl.ev o5.ev)⟩,fun m hm=>h4 m ?_,trivial⟩
    ·have:=run_endLoop (P:=P) (w:=so2.w) h5 hb
     rw[h1.w] at this
     show _=Result.ok pe s4.w
     rw[hs4,this,h1.w]
    ·exact⟨(r4.box n (h2.box n hn).1).1,((r4.box n (h2.box n hn).1).2).trans (h2.box n hn).2⟩
    ·obtain⟨l1,g1,g2,g3⟩:=r4.arr n (h2.box n hn).1 l' hl'
     obtain⟨m,q1,q2,q3⟩:=h2.arr n hn l1 g1
     refine⟨m,q1,Nat.le_trans q2 g2,fun e=> ?_⟩
     have e1:m=l1:=by omega
     have e2:l1=l':=by omega
     exact(g3 e2).trans (q3 e1)
    ·obtain⟨g1,g2⟩:=h2.old b o ho hm
     have hlt:=(Array.getElem?_eq_some_iff.1 ho).1
     exact r4.fro b o (by intro e;subst e;simp only[φ,l] at hlt;omega) g1 g2
    ·obtain⟨r,r1,r2,r3,r4',r5⟩:=df4.all rfl d hd
     exact⟨r,r1,r2,r3,r4',fun h=>r5 (hOs r h)⟩
    ·have hm':s4.al m:=hm
     rw[o4.al] at hm';exact hm'
   have inv:∀{k:Int},RJ (Ctx.fn P S nt hbo) φ I Pre K Q k σ'→rangePost Fence.wide 0 P l (lift (Ctx.fn P S nt hbo) ss Q) a0 (.returned v) σ'.w∨False∨k≠xs.length∧k≠-1:=by
    intro k hj
    obtain⟨so2,hp,cnt,st,pe,h1,h2,h3,h4,h8,h5,h6,h7⟩:=hj
    rcases h7 with⟨x,hx,hk,rfl,rfl,rfl,rfl⟩|⟨hk,c',e',rfl,rfl,hjp,hq⟩
    ·by_cases hlen:K x=xs.length
     ·obtain⟨s5,g1,g2,g3⟩:=key _ _ _ _ so2 h1 h2 h3 h4 h8 h5 (by simp)
      exact .inl ⟨none,s5.w,g1,s5,_,.n,rfl,g2,g3,rfl,hend x hx hlen⟩
     ·exact .inr (.inr ⟨by omega,by omega⟩)
    ·obtain⟨s5,g1,g2,g3⟩:=key _ _ _ _ so2 h1 h2 h3 h4 h8 h5 (by simp)
     refine .inl ⟨some c',s5.w,g1, ?_⟩
     rcases hjp with⟨rfl,rfl⟩|⟨i,rfl,rfl⟩
     ·exact wpIn_ret ⟨s5,_,.r,rfl,g2,g3,rfl,hq⟩
     ·exact wpIn_exit ⟨s5,_,.x i,rfl,g2,g3,rfl,hq⟩
   rcases hj with hj|hj
   ·rcases inv hj with h|h|h
    ·exact h
    ·exact h.elim
    ·exact absurd rfl h.1
   ·rcases inv hj with h|h|h
    ·exact h
    ·exact h.elim
    ·exact absurd rfl h.2
  ·simp at hc
 |region id ops d=>
  simp only[cCode] at hc
  obtain⟨_,_,⟨_,e⟩|⟨_,_,_,_,e⟩⟩:=Ca hc<;>cases e
 |seq x y=>simp only[cCode] at hc;split at hc<;>simp at hc
 |cond c x y=>simp only[cCode] at hc;split at hc<;>simp at hc
 |_=>simp[cCode] at hc
theorem Vg {l0:Nat} {X:Type} (I:X→Hp×Nat) (Pre:X→Prop) (K:X→Nat) (x0:X) {f:Opd} {ps:List Nat} {asg bdy:AC} {Q:AE→St→Prop} {e:Env} {h:Hp} {c fi:Nat} {fst cps:List AV} {xs:List (List AV)}
  (hx:ung true (opv e f)= .clo (.func fi) fst cps) (hit:ItC P fi fst cps xs) (hok:okF P fi) (hpu:AB fst=true∧AB cps=true) (hps:∀p∈ps,p<nt) (hpure:∀args∈xs,AB args=true∧args.length=ps.length)
  (htr:TrL fst∧TrL cps) (h0:Pre x0) (hk0:K x0=0) (hle:Le ⟨e,(I x0).1,(I x0).2⟩ ⟨e,h,c⟩)
  (round:∀l x,Pre x→∀args,xs[K x]? =some args→awp (Ctx.rdG P S nt l) asg (B1 (Ctx.rdG P S nt l) bdy (BS e I Pre K (K x+1) Q)) ⟨FF ps args e,(I x).1,(I x).2⟩)
  (hend:∀x,Pre x→K x=xs.length→Q .n ⟨e,(I x).1,(I x).2⟩):awp (Ctx.rdG P S nt l0) (.rfun f ps asg bdy) Q ⟨e,h,c⟩:=by
 intro code hc σ a hA
 cases code with
 |rangeFunc g ps' assign body=>
  simp only[cCode] at hc
  split at hc
  ·rename_i x' y' hca hcb
   simp at hc
   obtain⟨rfl,rfl,rfl,rfl⟩:=hc
   obtain⟨ss,w0,ev0,A0⟩:=hA.le hle
   rw[←w0]
   refine wpIn_mono (Q:=lift (Ctx.rdG P S nt l0) ss Q) ?_ fun e a w k=>k.mono (Ctx.ofE _ ev0)
   have hX:=Eo (g:=true) rfl A0.1.t g
   rw[hx] at hX
   simp only[Rep] at hX
   obtain⟨fs,cs,hX,hf1,hc1⟩:=hX
   refine wpIn_rangeFunc (F:=Fence.wide.inRound l0) fun fn _=> ?_
   obtain⟨r0,gl,gM,gD,gDM⟩:=A0.2.2
   let lp:LoopState→Option Code→Loop:=fun st pe=>{state:=st,pending:=pe,fn:=fn,tmps:=a.tmps,params:=ps',assign:=assign,body:=body,defers:=r0.defers}
   let W1:World:=ss.w.alloc (.loop (lp .ready none))
   have hL1:W1.heap[ss.w.heap.size]? =some (.loop (lp .ready none)):=World.alloc_heap_new ss.w (.loop (lp .ready none))
   have hsz1:W1.heap.size=ss.w.heap.size+1:=by simp[W1]
   have hkeep:∀(b:Nat) (o:Obj),ss.w.heap[b]? =some o→W1.heap[b]? =some o:=fun b o hb=>by
    have hlt:=(Array.getElem?_eq_some_iff.1 hb).1
    rw[BL hlt];exact hb
   have hK1:W1.heap[r0.defers]? =some (.deferred (some [])):=hkeep _ _ gD
   have hDlt:r0.defers<ss.w.heap.size:=(Array.getElem?_eq_some_iff.1 gD).1
   let D:=r0.defers
   let l:=ss.w.heap.size
   let a0:Act:={a with defers:=[]++a.defers}
   let φ:RFix:={O0:=ss.O,l:=l,D:=D,ss:=ss,e:=e,a:=a0,lp:=lp}
   let so:Cf:=ss.at W1
   have evs:Evo ss so:=Evo.at hkeep ⟨rfl,rfl⟩
   let si:Cf:={rb:=fun _=>0,ra:=fun _=>(none,0),M:=fun _=>False,O:=fun b=>ss.M b∨ss.O b∨b=l∨b=D,ln:=fun _=>none,al:=fun _=>False,w:=W1}
   have hgsi:Gl si:=fun b j hj=>by
    obtain⟨g1,g2⟩:=A0.1.df.gl b j hj
    have g3:=(Gl.mono A0.1.df.gl evs b j hj).2
    refine⟨⟨fun h=>h, ?_, ?_⟩,g3⟩
    ·have:=g1.2.2
     rintro(h|h|h|h)
     ·exact g1.1 h
     ·exact g1.2.1 h
     ·simp only[l] at h;omega
     ·simp only[D] at h;subst h;simp[World.cell?,gD] at g2
    ·show b<W1.heap.size
     have:=g1.2.2;omega
   have hdf:∀d∈φ.a.defers,∃r,d={target:= .collected r,args:= #[]}∧(r<φ.ss.w.heap.size∨r=φ.D):=by
    intro d hd
    simp only[φ,a0,List.nil_append] at hd
    obtain⟨r,r1,_,r3,_⟩:=A0.1.df.all rfl d hd
    exact⟨r,r1,.inl (Array.getElem?_eq_some_iff.1 r3).1⟩
   have nM:∀b,ss.w.heap.size≤b→¬ss.M b:=fun b hb hm=>by have:=A0.1.h.lt b hm;omega
   have nO:∀b,ss.w.heap.size≤b→¬ss.O b:=fun b hb hm=>by have:=A0.1.h.ou b hm;omega
   have hso:HInv so (I x0).1:=A0.1.h.at hkeep ⟨rfl,rfl⟩
   have hsi:HInv si []:=⟨fun _=>rfl,fun n j c h=>by simp[hl] at h,fun n sz live rows d h=>by simp[hl] at h,by
    rintro p q b (⟨_,_,j,c,h⟩|⟨_,⟨_,_,_,h⟩,_⟩) _<;>simp[hl] at h,fun b h=>h.elim,fun b hb=>by
     show b<W1.heap.size
     rw[hsz1]
     rcases hb with hb|hb|rfl|rfl
     ·have:=A0.1.h.lt b hb;omega
     ·have:=A0.1.h.ou b hb;omega
     ·simp only[l];omega
     ·simp only[D];omega,fun b h=>h.elim⟩
   have hJ0:RJ (Ctx.rdG P S nt l0) φ I Pre K Q 0 si:=by
    refine⟨so,(I x0).1,(I x0).2,.ready,none,⟨rfl,fun b=>Iff.rfl,fun b=>⟨.inl,fun h=>h.elim id fun h=>h.1.elim⟩,fun b h=>h.elim,hsi.ou⟩,⟨evs.box,evs.arr,evs.fro,fun _ _ _ h=>h.elim,evs.sz,evs.io⟩,
     ⟨hso,A0.1.t.mono evs,A0.1.sz,DOK.of rfl (fun d hd=> ?_) ?_ (Nat.le_trans A0.1.df.le evs.sz) (A0.1.df.gl.mono evs)⟩,A0.2.1,nM _ (Nat.le_refl _),hL1,hK1,.inl ⟨x0,h0,by simp[hk0],rfl,rfl,rfl,rfl⟩⟩
    ·simp only[φ,a0,List.nil_append] at hd
     exact(A0.1.df.mono evs).all rfl d hd
    ·simp only[φ,a0,List.nil_append]
     exact A0.1.df.nd rfl
   have hDn:∀so si hp,Way φ.ss so si→Inv so φ.e hp φ.a nt (0,false)→¬so.M φ.D:=fun so si hp h2 _=>(h2.old _ _ gD gDM).2
   have hR:Rng P Fence.wide l (ss.w.heap.size+1) xs (RJ (Ctx.rdG P S nt l0) φ I Pre K Q):=
    {evo:=fun hj ev=>hj.evo hdf ev
     oth:=fun hj o hO hP=>hj.oth (hb:=ss.w.heap.size+1) (by simp only[φ];omega) hdf o hO hP
     rnd:=fun hj hi hxs hv=>RJ.rndG (hbo:=0) (φ:=φ) (fn:=fn) (ps:=ps') rfl hca hcb hps hpure (round l) (by simp only[φ,l];omega) hDn hj hi hxs hv}
   have hvals:RepL si (fst++AV.clo (.yield l) [] []::cps) (fs++ .func (.yield l) #[] #[]::cs):=by
    have hFz:∀b,Fz ss b→(∃cs T f,ss.w.heap[b]? =some (.cells cs T f))→Fz si b:=fun b hb ⟨cs,T,f,hc⟩=>⟨fun h=>h,by
     have:=hb.2.2
     rintro(g|g|rfl|rfl)
     ·exact hb.1 g
     ·exact hb.2.1 g
     ·simp only[l] at this;omega
     ·simp only[D] at hc;rw[gD] at hc;simp at hc,by show b<W1.heap.size;have:=hb.2.2;omega⟩
    have hSm:∀b,Fz ss b→si.w.heap[b]? =ss.w.heap[b]? :=fun b hb=>by
     have:=Array.getElem?_eq_getElem hb.2.2
     show W1.heap[b]? =_
     rw[this];exact hkeep b _ this
    refine DL (htr.1 ss si hFz hSm _ hf1) ?_
    simp only[RepL]
    exact⟨_,_,rfl,by simp[Rep,RepL],htr.2 ss si hFz hSm _ hc1⟩
   refine⟨l,[],W1,{target:= .fn (.func fi) cs.toArray,args:=fs.toArray++ #[.func (.yield l) #[] #[]]},W1,fi,(fs.toArray++ #[.func (.yield l) #[] #[]])++cs.toArray,W1,run_enterLoop_inner gl _ _ _ _ _, ?_,fun _ _=>trivial, ?_,fun h=>by simp[Fence.wide] at h, ?_⟩
   ·have hy:Array.map a.eval #[.const (.func (.yield l) #[] #[])]= #[.func (.yield l) #[] #[]]:=by simp[Act.eval]
    simp only[resolve,rangeCall,hy,hX,Deferred.ofValue,Sem.run_pure]
   ·simp only[invoke]
    exact EH hok _ _
   have harr:(fs.toArray++ #[.func (.yield l) #[] #[]])++cs.toArray=(fs++ .func (.yield l) #[] #[]::cs).toArray:=by apply Array.ext';simp
   rw[harr]
   refine(hit l (ss.w.heap.size+1) _ si _ hR hJ0 hsi (fun _ h=>h) hvals (by show _≤W1.heap.size;omega) hgsi).mono ?_
   rintro en w' ⟨v,σ',rfl,rfl,hj⟩
   have key:∀hp cnt st pe so2,Pair φ.O0 φ.l φ.D so2 σ'→Way φ.ss so2 σ'→Inv so2 φ.e hp φ.a nt (0,false)→(∀m,so2.al m→m.2≤cnt)→¬so2.M φ.l→so2.w.heap[φ.l]? =some (.loop (φ.lp st pe))→st≠.busy→
     ∃s5:Cf,(Instr.endLoop l).run P σ'.w= .ok pe s5.w∧Evo ss s5∧At (Ctx.rdG P S nt l0) s5 ⟨e,hp,cnt⟩ a0:=by
    intro hp cnt st pe so2 h1 h2 h3 h4 h8 h5 hb
    have dis2:∀b,so2.O b→b<so2.w.heap.size∧¬so2.M b:=fun b hb=>⟨h3.h.ou b hb,fun hM=>h3.h.dis b hM hb⟩
    obtain⟨s4,hs4,o4,r4,l4,k4⟩:=HA (r':={φ.lp st pe with state:= .exhausted}) dis2 h8 h5
    have hOs:∀b,ss.O b→s4.O b:=fun b hb=>by rw[r4.out];exact(h1.oo b).2 (.inl hb)
    let s5:Cf:={s4 with O:=ss.O}
    have h4i:=h3.h.oth o4
    have o5:Oth s4 s5:=⟨rfl,rfl,rfl,rfl,rfl,fun b hb=>⟨h4i.ou b (hOs b hb),fun hM=>h4i.dis b hM (hOs b hb),fun hf=>hf.2.1 (hOs b hb)⟩,Nat.le_refl _,fun _ _=>rfl,fun _ _ _ _ h=>h,SameO.refl _⟩
    have df4:=h3.df.rd r4 h5 (.inl rfl)
    have hl0:l0≠φ.l:=by have:=(Array.getElem?_eq_some_iff.1 gl).1;simp only[φ,l];omega
    have hDl:r0.defers≠φ.l:=by simp only[φ,l];omega
    refine⟨s5, ?_,⟨fun n hn=> ?_,fun n hn l' hl'=> ?_,fun b o ho hm=> ?_,rfl,Nat.le_trans h2.sz r4.sz,h2.io.trans r4.io⟩,⟨h4i.oth o5,(h3.t.ev o4.ev).ev o5.ev,h3.sz,DOK.of rfl (fun d hd=> ?_) (df4.nd rfl) df4.le (df4.gl.ev o5.ev)⟩,fun m hm=>h4 m ?_,⟨r0,(r4.fro _ _ hl0 (h2.old _ _ gl gM).1 (h2.old _ _ gl gM).2).1,(r4.fro _ _ hl0 (h2.old _ _ gl gM).1 (h2.old _ _ gl gM).2).2,(r4.fro _ _ hDl (h2.old _ _ gD gDM).1 (h2.old _ _ gD gDM).2).1,(r4.fro _ _ hDl (h2.old _ _ gD gDM).1 (h2.old _ _ gD gDM).2).2⟩⟩
    ·have:=run_endLoop (P:=P) (w:=so2.w) h5 hb
     rw[h1.w] at this
     show _=Result.ok pe s4.w
     rw[hs4,this,h1.w]
    ·exact⟨(r4.box n (h2.box n hn).1).1,((r4.box n (h2.box n hn).1).2).trans (h2.box n hn).2⟩
    ·obtain⟨l1,g1,g2,g3⟩:=r4.arr n (h2.box n hn).1 l' hl'
     obtain⟨m,q1,q2,q3⟩:=h2.arr n hn l1 g1
     refine⟨m,q1,Nat.le_trans q2 g2,fun e=> ?_⟩
     have e1:m=l1:=by omega
     have e2:l1=l':=by omega
     exact(g3 e2).trans (q3 e1)
    ·obtain⟨g1,g2⟩:=h2.old b o ho hm
     have hlt:=(Array.getElem?_eq_some_iff.1 ho).1
     exact r4.fro b o (by intro e;subst e;simp only[φ,l] at hlt;omega) g1 g2
    ·obtain⟨r,r1,r2,r3,r4',r5⟩:=df4.all rfl d hd
     exact⟨r,r1,r2,r3,r4',fun h=>r5 (hOs r h)⟩
    ·have hm':s4.al m:=hm
     rw[o4.al] at hm';exact hm'
   have inv:∀{k:Int},RJ (Ctx.rdG P S nt l0) φ I Pre K Q k σ'→rangePost (Fence.wide.inRound l0) 0 P l (lift (Ctx.rdG P S nt l0) ss Q) a0 (.returned v) σ'.w∨False∨k≠xs.length∧k≠-1:=by
    intro k hj
    obtain⟨so2,hp,cnt,st,pe,h1,h2,h3,h4,h8,h5,h6,h7⟩:=hj
    rcases h7 with⟨x,hx,hk,rfl,rfl,rfl,rfl⟩|⟨hk,c',e',rfl,rfl,hjp,hq⟩
    ·by_cases hlen:K x=xs.length
     ·obtain⟨s5,g1,g2,g3⟩:=key _ _ _ _ so2 h1 h2 h3 h4 h8 h5 (by simp)
      exact .inl ⟨none,s5.w,g1,s5,_,.n,rfl,g2,g3,rfl,hend x hx hlen⟩
     ·exact .inr (.inr ⟨by omega,by omega⟩)
    ·obtain⟨s5,g1,g2,g3⟩:=key _ _ _ _ so2 h1 h2 h3 h4 h8 h5 (by simp)
     refine .inl ⟨some c',s5.w,g1, ?_⟩
     rcases hjp with⟨rfl,rfl⟩|⟨i,rfl,rfl⟩
     ·exact wpIn_ret ⟨s5,_,.r,rfl,g2,g3,rfl,hq⟩
     ·exact wpIn_exit ⟨s5,_,.x i,rfl,g2,g3,rfl,hq⟩
   rcases hj with hj|hj
   ·rcases inv hj with h|h|h
    ·exact h
    ·exact h.elim
    ·exact absurd rfl h.1
   ·rcases inv hj with h|h|h
    ·exact h
    ·exact h.elim
    ·exact absurd rfl h.2
  ·simp at hc
 |region id ops d=>
  simp only[cCode] at hc
  obtain⟨_,_,⟨_,e⟩|⟨_,_,_,_,e⟩⟩:=Ca hc<;>cases e
 |seq x y=>simp only[cCode] at hc;split at hc<;>simp at hc
 |cond c x y=>simp only[cCode] at hc;split at hc<;>simp at hc
 |_=>simp[cCode] at hc
end
section
variable {Γ:Ctx}
theorem P6 (hΓ:Γ.OK) {ops':Array Oper} {ops:List AOp} {WQ:Exit→Act→World→Prop} (bs:Nat) (e0:Env) (hx0:FS Γ.P Γ.nt ops' ops'.toList=some ops) (k i:Nat) (hki:k≤i) {yo:AOp} {K:AV→St→Prop} {σ:Cf} {a:Act} {e e1:Env} {h h1:Hp} {c:Nat} {vc:Prop}
  {f:Nat} {args:List AV} {fn:Func} {ac:AC} {rvs:List RV} {ntf:Nat}
  (hf:Γ.P.funcs[f]? =some fn) (hcf:D4 Γ.P fn=some (ac,rvs)) (hnt:fn.ntmps=ntf) (hok:okF Γ.P f) (hyo:ops[i]? =some yo) (hex:Bl Γ.S (c+1) (bs+k) ((ops.drop k).take (i-k)) e h=some (vc,e1,h1)) (hvc:vc) (hg:EF e1 yo.g=some true)
  (hca:Ga e1 yo.k=some (f,args)) (hn:args.length≤ntf) (hbody:∀hb,awp (Ctx.fn Γ.P Γ.S ntf hb) ac (Bw rvs K) ⟨Cj 0 args,h1,c+1⟩)
  (hgl:∀t,Γ.nt≤t→lk e t=lk e0 t) (hI:Inv σ e h a Γ.nt Γ.hb) (hal:∀m,σ.al m→m.2≤c∨(m.2=c+1∧m.1<bs+k))
  (hrest:∀τ a' r s,Evo σ τ→Inv τ (BX yo.d r e1) s.hp a' Γ.nt Γ.hb→(∀m,τ.al m→m.2≤s.cnt)→(∀t,Γ.nt≤t→lk (BX yo.d r e1) t=lk e0 t)→K r s→wpOpsIn Γ.F 0 Γ.P ops' WQ (List.range' (i+1) (ops'.size-(i+1))) a' τ.w):
  wpOpsIn Γ.F 0 Γ.P ops' WQ (List.range' k (ops'.size-k)) a σ.w:=by
 obtain⟨c1,c2⟩:=Ea hx0
 obtain⟨_,t0⟩:=Do k hx0
 obtain⟨t1,_⟩:=Do (i-k) t0
 have hi:i<ops.length:=(List.getElem?_eq_some_iff.1 hyo).1
 have hsz:ops.length=ops'.size:=c1.trans (by simp)
 have hi':i<ops'.size:=by omega
 have ho:ops'[i]? =some ops'[i]:=Array.getElem?_eq_getElem hi'
 obtain⟨yo',g1,g2⟩:=c2 i ops'[i] (by simp)
 rw[hyo] at g1
 cases g1
 have hlen:((ops'.toList.drop k).take (i-k)).length=i-k:=by simp;omega
 have hr:List.range' k (ops'.size-k)=List.range' k ((ops'.toList.drop k).take (i-k)).length++(i::List.range' (i+1) (ops'.size-(i+1))):=by
  rw[hlen,←List.range'_succ]
  have:=List.range'_append_1 (s:=k) (m:=i-k) (n:=ops'.size-(i+1)+1)
  rw[show k+(i-k)=i by omega] at this
  rw[this]
  congr 1
  omega
 rw[hr]
 refine GU hΓ (cnt:=c) bs e0 _ ((ops'.toList.drop k).take (i-k)) k ((ops.drop k).take (i-k)) σ e e1 h h1 a vc hgl (fun j hj=> ?_) t1 hex hvc hI hal fun a1 σ1 ev1 hI1 hal1 hfar1=> ?_
 ·have:j<i-k:=by omega
  simp[List.getElem?_take,this]
 rw[wpOpsIn_cons]
 unfold wpOpIn
 simp only[ho]
 obtain⟨hno,k4,k3,vals,hv,hrun⟩:=OL hI1 g2 hok hca
 have hw:=E3 hI1.t k4 hg
 simp only[hw,if_true]
 refine⟨fun f _=>hΓ.F.fn f, ?_⟩
 rw[Oper.semAt_eq _ a1.eval _ hno,hrun]
 refine⟨fun h=>by simp[hΓ.F.depth] at h,hΓ.F.calls ((callsIn_wide.1 (LN hΓ.S hf hcf hnt hn hI1.df.gl hI1.h (cnt:=c+1) (fun m hm=>by rcases hal1 m hm with h|h<;>omega) hv (hbody _))).mono ?_)⟩
 rintro en w' ⟨v,τ,s,r,rfl,rfl,evτ,hτ,alτ,rv,hK⟩
 have hd:∀k,ops'[i].dst=some k→k<a1.tmps.size:=by
  rw[k3];intro d hd
  rw[hI1.sz];exact Fg g2 d hd
 have hI2:Inv τ (BX yo.d r e1) s.hp (a1.put ops'[i].dst v) Γ.nt Γ.hb:=by
  rw[←k3]
  exact⟨hτ,(hI1.t.mono evτ).put hd rv,by rw[Act.size_put];exact hI1.sz,by rw[Act.defers_put,FL (fun d hd=>Fg g2 d (k3▸hd)) (show Γ.nt≤dk Γ.nt from Nat.le_add_right _ _)];exact hI1.df.mono evτ⟩
 exact hrest τ _ r s (ev1.trans evτ) hI2 alτ (fun t ht=>(FL (Fg g2) ht).trans (hfar1 t ht)) hK
def QN (P:Program) (S:Tab) (rid i j:Nat) (d:Option Nat) (mid:List AOp) (yo2:AOp) (post:List AOp) (f2 ntf2:Nat) (ac2:AC) (rvs2:List RV) (e1:Env) (Q:AE→St→Prop) (r:AV) (s:St):Prop:=
 ∃(vc2:Prop) (e2:Env) (h2:Hp) (args2:List AV),Bl S (s.cnt+1) (100*rid+(i+1)) mid (BX d r e1) s.hp=some (vc2,e2,h2)∧vc2∧EF e2 yo2.g=some true∧Ga e2 yo2.k=some (f2,args2)∧args2.length≤ntf2∧
  ∀hb,awp (Ctx.fn P S ntf2 hb) ac2 (Bw rvs2 (Bn S rid j yo2.d post e2 Q)) ⟨Cj 0 args2,h2,s.cnt+1⟩
theorem Xe (hΓ:Γ.OK) (i j:Nat) (hij:i<j) {rid:Nat} {ops:List AOp} {yo yo2:AOp} {Q:AE→St→Prop} {e e1:Env} {h h1:Hp} {c:Nat} {vc:Prop} {f f2:Nat} {args:List AV} {fn fn2:Func} {ac ac2:AC} {rvs rvs2:List RV} {ntf ntf2:Nat}
  (hf:Γ.P.funcs[f]? =some fn) (hcf:D4 Γ.P fn=some (ac,rvs)) (hnt:fn.ntmps=ntf) (hok:okF Γ.P f) (hf2:Γ.P.funcs[f2]? =some fn2) (hcf2:D4 Γ.P fn2=some (ac2,rvs2)) (hnt2:fn2.ntmps=ntf2) (hok2:okF Γ.P f2)
  (hyo:ops[i]? =some yo) (hyo2:ops[j]? =some yo2) (hex:Bl Γ.S (c+1) (100*rid) (ops.take i) e h=some (vc,e1,h1)) (hvc:vc) (hg:EF e1 yo.g=some true)
  (hca:Ga e1 yo.k=some (f,args)) (hn:args.length≤ntf)
  (hbody:∀hb,awp (Ctx.fn Γ.P Γ.S ntf hb) ac (Bw rvs (QN Γ.P Γ.S rid i j yo.d ((ops.drop (i+1)).take (j-(i+1))) yo2 (ops.drop (j+1)) f2 ntf2 ac2 rvs2 e1 Q)) ⟨Cj 0 args,h1,c+1⟩):awp Γ (.reg rid ops) Q ⟨e,h,c⟩:=by
 intro code hc σ a hA
 cases code with
 |region id ops' d=>
  simp only[cCode] at hc
  obtain⟨l0,hx0,⟨rfl,e0⟩|⟨_,_,_,_,e0⟩⟩:=Ca hc
  ·cases e0
   refine wpIn_region ?_
   have hr0:List.range ops'.size=List.range' 0 (ops'.size-0):=by rw[List.range_eq_range'];simp
   rw[hr0]
   refine P6 hΓ (100*rid) e hx0 0 i (Nat.zero_le _) (c:=c) hf hcf hnt hok hyo (by simpa using hex) hvc hg hca hn hbody (fun _ _=>rfl) hA.1 (fun m hm=> .inl (hA.2.1 m hm)) ?_
   rintro τ a' r s ev1 hI1 al1 gl1 ⟨vc2,e2,h2,args2,q1,q2,q3,q4,q5,q6⟩
   refine P6 hΓ (100*rid) e hx0 (i+1) j hij (c:=s.cnt) hf2 hcf2 hnt2 hok2 hyo2 q1 q2 q3 q4 q5 q6 gl1 hI1 (fun m hm=> .inl (al1 m hm)) ?_
   rintro τ2 a2 r2 s2 ev2 hI2 al2 gl2 ⟨vc3,e3,h3,p1,p2,p3⟩
   obtain⟨c1,_⟩:=Ea hx0
   obtain⟨_,t3⟩:=Do (j+1) hx0
   have hj:j<ops.length:=(List.getElem?_eq_some_iff.1 hyo2).1
   have hsz:ops.length=ops'.size:=c1.trans (by simp)
   have hl:(ops'.toList.drop (j+1)).length=ops'.size-(j+1):=by simp
   have:=AbK hΓ (ops:=ops') (Q:=Q) (cnt:=s2.cnt) (100*rid) e σ hA.2.2 (ops'.toList.drop (j+1)) (j+1) (ops.drop (j+1)) τ2 _ _ _ _ _ vc3 gl2 (fun j=>by simp) (by simp;omega) t3 p1 p2 (ev1.trans ev2) hI2 (fun m hm=> .inl (al2 m hm)) p3
   rw[hl] at this
   exact this
  ·cases e0
 |seq x y=>simp only[cCode] at hc;split at hc<;>simp at hc
 |cond c x y=>simp only[cCode] at hc;split at hc<;>simp at hc
 |rangeFunc f ps x y=>simp only[cCode] at hc;split at hc<;>simp at hc
 |_=>simp[cCode] at hc
end
theorem Vh {P:Program} {S:Tab} {nt hb:Nat} (hS:TabOK P S) (i j:Nat) (hij:i<j) {rid:Nat} {ops mid post:List AOp} {d d2:Option Nat} {g g2:Option (Nat×Bool)} {k k2:AK} {Q:AE→St→Prop} {e e1:Env} {h h1:Hp} {c:Nat} {vc:Prop} {f f2:Nat} {args:List AV} {fn fn2:Func} {ac ac2:AC} {rvs rvs2:List RV} {ntf ntf2:Nat}
  (hf:P.funcs[f]? =some fn) (hcf:D4 P fn=some (ac,rvs)) (hnt:fn.ntmps=ntf) (hok:okF P f) (hf2:P.funcs[f2]? =some fn2) (hcf2:D4 P fn2=some (ac2,rvs2)) (hnt2:fn2.ntmps=ntf2) (hok2:okF P f2)
  (hyo:ops[i]? =some ⟨d,g,k⟩) (hyo2:ops[j]? =some ⟨d2,g2,k2⟩) (hmid:(ops.drop (i+1)).take (j-(i+1))=mid) (hpost:ops.drop (j+1)=post) (hex:Bl S (c+1) (100*rid) (ops.take i) e h=some (vc,e1,h1)) (hvc:vc) (hg:EF e1 g=some true)
  (hca:Ga e1 k=some (f,args)) (hn:args.length≤ntf) (hbody:∀hb,awp (Ctx.fn P S ntf hb) ac (Bw rvs (QN P S rid i j d mid ⟨d2,g2,k2⟩ post f2 ntf2 ac2 rvs2 e1 Q)) ⟨Cj 0 args,h1,c+1⟩):awp (Ctx.fn P S nt hb) (.reg rid ops) Q ⟨e,h,c⟩:=by
 subst hmid hpost
 exact Xe (Ctx.fn_ok hS) i j hij hf hcf hnt hok hf2 hcf2 hnt2 hok2 hyo hyo2 hex hvc hg hca hn hbody
theorem dH {P:Program} {S:Tab} {rid i j:Nat} {d d2:Option Nat} {g2:Option (Nat×Bool)} {k2:AK} {mid post:List AOp} {f2 ntf2:Nat} {ac2:AC} {rvs rvs2:List RV} {e1 e e2:Env} {h h2:Hp} {c:Nat} {Q:AE→St→Prop} {vc vc2:Prop} {xs args2:List AV}
  (h1:Fh e h rvs=some (vc,xs)) (hx:Bl S (c+1) (100*rid+(i+1)) mid (BX d (one xs) e1) h=some (vc2,e2,h2)) (hv:vc) (hv2:vc2) (hg:EF e2 g2=some true) (hca:Ga e2 k2=some (f2,args2)) (hn:args2.length≤ntf2)
  (hb:∀hb,awp (Ctx.fn P S ntf2 hb) ac2 (Bw rvs2 (Bn S rid j d2 post e2 Q)) ⟨Cj 0 args2,h2,c+1⟩):Bw rvs (QN P S rid i j d mid ⟨d2,g2,k2⟩ post f2 ntf2 ac2 rvs2 e1 Q) .n ⟨e,h,c⟩:=⟨vc,xs,h1,hv,vc2,e2,h2,args2,hx,hv2,hg,hca,hn,hb⟩
theorem dJ {P:Program} {S:Tab} {rid i j:Nat} {d d2:Option Nat} {g2:Option (Nat×Bool)} {k2:AK} {mid post:List AOp} {f2 ntf2:Nat} {ac2:AC} {rvs rvs2:List RV} {e1 e e2:Env} {h h2:Hp} {c:Nat} {Q:AE→St→Prop} {vc vc2:Prop} {xs args2:List AV}
  (h1:Fh e h rvs=some (vc,xs)) (hx:Bl S (c+1) (100*rid+(i+1)) mid (BX d (one xs) e1) h=some (vc2,e2,h2)) (hv:vc) (hv2:vc2) (hg:EF e2 g2=some true) (hca:Ga e2 k2=some (f2,args2)) (hn:args2.length≤ntf2)
  (hb:∀hb,awp (Ctx.fn P S ntf2 hb) ac2 (Bw rvs2 (Bn S rid j d2 post e2 Q)) ⟨Cj 0 args2,h2,c+1⟩):Bw rvs (QN P S rid i j d mid ⟨d2,g2,k2⟩ post f2 ntf2 ac2 rvs2 e1 Q) .r ⟨e,h,c⟩:=⟨vc,xs,h1,hv,vc2,e2,h2,args2,hx,hv2,hg,hca,hn,hb⟩
attribute [local irreducible] awp B5 BR Bx B3 Bw Bn BS B1 itK
structure Hid (p:Prop):Prop where
 k:p
theorem f0:([]:List Nat).length=0:=rfl
theorem fc {p q:Prop} (x:p) (y:q):p∧q:=⟨x,y⟩
theorem go {S F G G':Prop} (hS:S) (f:F) (k:G') (h:S→F→Hid G'→G:=by
 intro hS f k
 repeat' (first
  |(with_reducible (first|apply AN|apply Bg|apply Bb|apply By|apply AO|apply AP);(·(first|exact Ctx.fn_ok hS|exact Ctx.rd_ok hS|assumption|exact yT|exact Ctx.rdG_ok hS));iterate 2 (·(simp only[go_sem,seval,f]<;>eq_refl)))
  |with_reducible (first|apply AI|apply A5|apply AF|apply AH|apply Ar|apply Ao|apply Ay|apply AZ|apply A6|apply A7|apply A8|apply A9|apply A4)
  |(with_reducible apply Ba;(·first|rfl|decide))
  |(with_reducible apply IL;(·simp))
  |with_reducible (first|apply IM|apply IN|apply IO|apply AJ|apply AM|apply Bd|apply Be|apply Bf|apply yT|apply And.intro yT yT)
  |(fail_if_success with_reducible apply B6);(fail_if_success with_reducible apply Bc);(try clear k);first|with_reducible apply And.intro|omega|(simp only[go_sem,seval,f];done)|with_reducible assumption|(refine And.intro ?_ ?_)|(intro hg;simp_all;done)|decide|grind)
 exact k.k):G:=h hS f ⟨k⟩
theorem goc {S F G:Prop} (hS:S) (f:F) (h:S→F→G:=by
 intro hS f
 repeat' (first
  |(with_reducible (first|apply AN|apply Bg|apply Bb|apply By|apply AO|apply AP);(·(first|exact Ctx.fn_ok hS|exact Ctx.rd_ok hS|assumption|exact yT|exact Ctx.rdG_ok hS));iterate 2 (·(simp only[go_sem,seval,f]<;>eq_refl)))
  |with_reducible (first|apply AI|apply A5|apply AF|apply AH|apply Ar|apply Ao|apply Ay|apply AZ|apply A6|apply A7|apply A8|apply A9|apply A4)
  |(with_reducible apply Ba;(·first|rfl|decide))
  |(with_reducible apply IL;(·simp))
  |with_reducible (first|apply IM|apply IN|apply IO|apply AJ|apply AM|apply Bd|apply Be|apply Bf|apply yT|apply And.intro yT yT)
  |(fail_if_success with_reducible apply B6);(fail_if_success with_reducible apply Bc);first|with_reducible apply And.intro|omega|(simp only[go_sem,seval,f];done)|with_reducible assumption|(refine And.intro ?_ ?_)|(intro hg;simp_all;done)|decide|grind)):G:=h hS f
theorem fin {F G:Prop} (f:F) (h:F→G:=by
 intro f
 first|refine J9 (by simp only[go_sem,seval,f]<;>eq_refl) (by simp only[go_sem,seval,f]) (by simp only[go_sem,seval,f]) ?_ rfl|refine Ka (by simp only[go_sem,seval,f]<;>eq_refl) (by simp only[go_sem,seval,f]) (by simp only[go_sem,seval,f]) ?_ rfl
 first|(simp only[go_sem,seval,f];done)|(simp only[go_sem,seval,f,List.map_append,List.map_cons,List.map_nil,List.map_set,List.map_take,List.map_drop];done)|(simp[f];done)):G:=h f
theorem leF {F:Prop} {s' s:St} (f:F) (h:F→Le s' s:=by
 intro f
 refine Le.of ?_ ?_ (by first|exact Nat.le_refl _|(simp;omega)|simp)<;>first|(simp only[go_sem,seval,f];done)|(simp only[go_sem,seval,f,List.map_append,List.map_cons,List.map_nil,List.map_set,List.map_take,List.map_drop];done)|(simp[f,List.map_append,List.map_set];done)):Le s' s:=h f
section
variable {Γ:Ctx} {F:Prop} {cc:Opd} {x y:AC} {Q:AE→St→Prop} {e:Env} {h:Hp} {c:Nat}
theorem cb {B:Bool} (f:F) (B':Bool) (ht:B'=true→awp Γ x Q ⟨e,h,c⟩) (hf:B'=false→awp Γ y Q ⟨e,h,c⟩) (hb:F→ung true (opv e cc)= .v (.bool B):=by intro f;simp only[go_sem,seval,f]<;>eq_refl) (hB:F→B=B':=by intro f;first|rfl|(simp;done)|grind):awp Γ (.cond cc x y) Q ⟨e,h,c⟩:=
 fQ (hb f) (hB f) ht hf
theorem ct (f:F) (ht:awp Γ x Q ⟨e,h,c⟩) (hb:F→ung true (opv e cc)= .v (.bool true):=by intro f;simp only[go_sem,seval,f]<;>eq_refl):awp Γ (.cond cc x y) Q ⟨e,h,c⟩:=Jq (hb f) ht
theorem cf (f:F) (hf:awp Γ y Q ⟨e,h,c⟩) (hb:F→ung true (opv e cc)= .v (.bool false):=by intro f;simp only[go_sem,seval,f]<;>eq_refl):awp Γ (.cond cc x y) Q ⟨e,h,c⟩:=K4 (hb f) hf
end
end Go.Proofs.YtciphecegkfaiaaGreat.Am
namespace Go.Proofs.YtciphecegkfaiaaGreat.Am
set_option linter.unusedSimpArgs false
set_option linter.unusedVariables false
open Go
theorem S2 {hp:Hp} {n:Nm}:∀{k o:Nat} {cs:List AV},Ft hp n o k=some cs→∀j c,cs[j]? =some c→hl hp (.c n (o+j))=some c
 |0,o,cs,h,j,c,hj=>by simp[Ft] at h;subst h;simp at hj
 |k+1,o,cs,h,j,c,hj=>by
  simp only[Ft] at h
  split at h
  ·rename_i c' hc
   cases hm:isM c' with
   |true=>rw[hm] at h;cases h
   |false=>
   rw[hm,cond_false] at h
   cases hr:Ft hp n (o+1) k with
   |none=>simp[hr] at h
   |some ds=>
    simp[hr] at h
    subst h
    cases j with
    |zero=>simp at hj;subst hj;exact hc
    |succ j=>
     have:=S2 hr j c (by simpa using hj)
     rwa [show o+1+j=o+(j+1) by omega] at this
  ·simp at h
theorem Np {σ τ:Cf} (hf:∀b,Fz σ b→Fz τ b) (hw:∀b,Fz σ b→τ.w.heap[b]? =σ.w.heap[b]?) {n:Nm} (ha:τ.al n) (hr:τ.rb n=σ.rb n):∀{args:List AV} {vs:List Value},GD args=true→EA args=some n→RepL σ args vs→RepL τ args vs
 |[],_,h,_,_=>by simp[GD] at h
 |c::cs,vs,h1,h2,hr'=>by
  simp only[RepL] at hr'⊢
  obtain⟨y,ys,rfl,g1,g2⟩:=hr'
  refine⟨y,ys,rfl, ?_⟩
  cases c with
  |box m o=>
   simp only[GD] at h1
   simp only[EA,yE] at h2
   subst h2
   simp only[Rep] at g1
   refine⟨?_,RepL.ofPure hf hw _ _ h1 g2⟩
   simp only[Rep]
   exact⟨ha,by rw[hr];exact g1.2⟩
  |_=>simp only[GD,Bool.and_eq_true,EA] at h1 h2;exact⟨Rep.ofPure hf hw _ _ h1.1 g1,Np hf hw ha hr h1.2 h2 g2⟩
def ItB (P:Program) (f:Nat) (fst cps:List AV) (m:Nm) (bc:List AV) (xs:List (List AV)):Prop:=
 ∀(l hb:Nat) (J:Int→Cf→Prop) (σ:Cf) (vals:List Value),Rng P Fence.wide l hb xs J→J 0 σ→HInv σ (CX m 0 bc)→(∀n,σ.al n→n=m)→RepL σ (fst++AV.clo (.yield l) [] []::cps) vals→hb≤σ.w.heap.size→Gl σ→
  CallsIn Fence.wide 0 P f vals.toArray σ.w fun e w'=>∃v σ',e= .returned v∧σ'.w=w'∧(J xs.length σ'∨J (-1) σ')
section
variable {P:Program} {S:Tab} {nt hbo:Nat}
theorem Vi {X:Type} (m:Nm) (bc:List AV) (I:X→Hp×Nat) (Pre:X→Prop) (K:X→Nat) (x0:X) {f:Opd} {ps:List Nat} {asg bdy:AC} {Q:AE→St→Prop} {e:Env} {h:Hp} {c fi:Nat} {fst cps:List AV} {xs:List (List AV)}
  (hx:ung true (opv e f)= .clo (.func fi) fst cps) (hit:ItB P fi fst cps m bc xs) (hok:okF P fi) (hpu:AB fst=true∧GD cps=true∧EA cps=some m) (hbc:Ft h m 0 bc.length=some bc∧bc.isEmpty=false∧GX bc=true) (hno:∀j,hl (I x0).1 (.c m j)=none) (hps:∀p∈ps,p<nt) (hpure:∀args∈xs,AB args=true∧args.length=ps.length)
  (h0:Pre x0) (hk0:K x0=0) (hle:Le ⟨e,(I x0).1,(I x0).2⟩ ⟨e,h,c⟩)
  (round:∀l x,Pre x→∀args,xs[K x]? =some args→awp (Ctx.rdG P S nt l) asg (B1 (Ctx.rdG P S nt l) bdy (BS e I Pre K (K x+1) Q)) ⟨FF ps args e,(I x).1,(I x).2⟩)
  (hend:∀x,Pre x→K x=xs.length→Q .n ⟨e,(I x).1,(I x).2⟩):awp (Ctx.fn P S nt hbo) (.rfun f ps asg bdy) Q ⟨e,h,c⟩:=by
 intro code hc σ a hA
 cases code with
 |rangeFunc g ps' assign body=>
  simp only[cCode] at hc
  split at hc
  ·rename_i x' y' hca hcb
   simp at hc
   obtain⟨rfl,rfl,rfl,rfl⟩:=hc
   obtain⟨ev0,A0⟩:=hA.leM hle
   have hcel:∀j c,bc[j]? =some c→hl h (.c m j)=some c:=fun j c hj=>by
    have:=S2 hbc.1 j c hj
    simpa using this
   obtain⟨b0,hb0⟩:∃b0,bc[0]? =some b0:=by cases bc with|nil=>simp at hbc|cons b _=>exact⟨b,rfl⟩
   have hcm:=hA.1.h.cel m 0 b0 (hcel 0 b0 hb0)
   have hexc:∀p b,Owns {σ with ln:=lenOf (I x0).1} (I x0).1 p b→b≠σ.rb m:=by
    rintro p b hp rfl
    have hsub:=RH hle.h
    have h1:Owns σ h p (σ.rb m):=by
     rcases hp with⟨g1,g2,j,c,g3⟩|⟨g1,⟨sz,rows,d,g2⟩,o,cap,g3,g4⟩
     ·exact .inl ⟨g1,g2,j,c,hsub _ _ g3⟩
     ·exact .inr ⟨g1,⟨sz,rows,d,hsub _ _ g2⟩,o,cap,g3,g4⟩
    have h2:=hA.1.h.inj p (false,m) _ h1 (.inl ⟨rfl,rfl,0,b0,hcel 0 b0 hb0⟩)
    subst h2
    rcases hp with⟨_,_,j,c,g3⟩|⟨g1,_⟩
    ·have:=hno j;simp only at g3;rw[this] at g3;cases g3
    ·cases g1
   obtain⟨hrlt,hrM,hrO,hrc⟩:σ.rb m<σ.w.heap.size∧σ.M (σ.rb m)∧¬σ.O (σ.rb m)∧∃cs T,σ.w.heap[σ.rb m]? =some (.cells cs T (0,0)):=by
    obtain⟨_,k2,cs,T,_,k3,_⟩:=hcm.cells (Lm hbc.1 0 b0 hb0)
    exact⟨hA.1.h.lt _ k2,k2,hA.1.h.dis _ k2,cs,T,k3⟩
   have hbcel:∀j c,bc[j]? =some c→CelF σ m j c:=fun j c hj=>hA.1.h.cel m j c (hcel j c hj)
   generalize hss:({σ with ln:=lenOf (I x0).1}:Cf)=ss at ev0 A0 hexc
   have ew:ss.w=σ.w:=by rw[←hss]
   have eM:ss.M=σ.M:=by rw[←hss]
   have eO:ss.O=σ.O:=by rw[←hss]
   have er:ss.rb=σ.rb:=by rw[←hss]
   rw[←ew] at hrlt hrc
   rw[←eM] at hrM
   rw[←eO] at hrO
   rw[←er] at hrlt hrM hrO hrc hexc
   have hbce:∀j c,bc[j]? =some c→∃cs T x,ss.w.heap[ss.rb m]? =some (.cells cs T (0,0))∧cs[j]? =some x∧Bq x=true∧Rep σ c x:=fun j c hj=>by
    obtain⟨_,_,cs,T,x,k3,k4,k5,k6⟩:=(hbcel j c hj).cells (Lm hbc.1 j c hj)
    exact⟨cs,T,x,by rw[ew,er];exact k3,k4,k5,k6⟩
   rw[←ew]
   refine wpIn_mono (Q:=lift (Ctx.fn P S nt hbo) ss Q) ?_ fun e a w k=>k.mono (Ctx.ofE _ ev0)
   have hX:=Eo (g:=true) rfl A0.1.t g
   rw[hx] at hX
   simp only[Rep] at hX
   obtain⟨fs,cs,hX,hf1,hc1⟩:=hX
   refine wpIn_rangeFunc (F:=Fence.wide) fun fn _=> ?_
   let lp:LoopState→Option Code→Loop:=fun st pe=>{state:=st,pending:=pe,fn:=fn,tmps:=a.tmps,params:=ps',assign:=assign,body:=body,defers:=ss.w.heap.size}
   let W1:World:=(ss.w.alloc (.deferred (some []))).alloc (.loop (lp .ready none))
   have hL1:W1.heap[ss.w.heap.size+1]? =some (.loop (lp .ready none)):=by
    have:=World.alloc_heap_new (ss.w.alloc (.deferred (some []))) (.loop (lp .ready none));rwa [World.size_alloc] at this
   have hsz1:W1.heap.size=ss.w.heap.size+2:=by simp[W1]
   have hkeep:∀(b:Nat) (o:Obj),ss.w.heap[b]? =some o→W1.heap[b]? =some o:=fun b o hb=>by
    have hlt:=(Array.getElem?_eq_some_iff.1 hb).1
    rw[BL (by simp;omega),BL hlt];exact hb
   have hK1:W1.heap[ss.w.heap.size]? =some (.deferred (some [])):=by
    rw[BL (by simp)];exact World.alloc_heap_new ss.w _
   let D:=ss.w.heap.size
   let l:=ss.w.heap.size+1
   let a0:Act:={a with defers:=[{target:= .collected D,args:= #[]}]++a.defers}
   let φ:RFix:={O0:=ss.O,l:=l,D:=D,ss:=ss,e:=e,a:=a0,lp:=lp}
   let so:Cf:={ss with w:=W1,M:=fun b=>ss.M b∧b≠ss.rb m,O:=fun b=>ss.O b∨b=ss.rb m}
   have evs0:Evo ss (ss.at W1):=Evo.at hkeep ⟨rfl,rfl⟩
   have fzs:∀b,Fz ss b→Fz so b:=fun b hb=>⟨fun h=>hb.1 h.1,fun h=>h.elim hb.2.1 fun e=>hb.1 (e▸hrM),by have:=hb.2.2;show b<W1.heap.size;omega⟩
   have evs:Ev ss so:=⟨fun _ h=>⟨h,rfl⟩,fun _ _ l h=>⟨l,h,Nat.le_refl _,fun _=>rfl⟩,fzs,fun b o x hb hc=>evs0.cell hb.1 hc⟩
   let si:Cf:={rb:=ss.rb,ra:=fun _=>(none,0),M:=fun b=>b=ss.rb m,O:=fun b=>(ss.M b∧b≠ss.rb m)∨ss.O b∨b=l∨b=D,ln:=fun _=>none,al:=fun n=>n=m,w:=W1}
   have hgsi:Gl si:=fun b j hj=>by
    obtain⟨g1,g2⟩:=A0.1.df.gl b j hj
    have g3:=(Gl.mono A0.1.df.gl evs0 b j hj).2
    refine⟨⟨fun h=>g1.1 (show ss.M b from h▸hrM), ?_, ?_⟩,g3⟩
    ·have:=g1.2.2
     rintro(h|h|h|h)
     ·exact g1.1 h.1
     ·exact g1.2.1 h
     ·simp only[l] at h;omega
     ·simp only[D] at h;omega
    ·show b<W1.heap.size
     have:=g1.2.2;omega
   have hdf:∀d∈φ.a.defers,∃r,d={target:= .collected r,args:= #[]}∧(r<φ.ss.w.heap.size∨r=φ.D):=by
    intro d hd
    simp only[φ,a0,List.cons_append,List.nil_append,List.mem_cons] at hd
    rcases hd with rfl|hd
    ·exact⟨D,rfl,.inr rfl⟩
    ·obtain⟨r,r1,_,r3,_⟩:=A0.1.df.all rfl d hd
     exact⟨r,r1,.inl (Array.getElem?_eq_some_iff.1 r3).1⟩
   have nM:∀b,ss.w.heap.size≤b→¬ss.M b:=fun b hb hm=>by have:=A0.1.h.lt b hm;omega
   have nO:∀b,ss.w.heap.size≤b→¬ss.O b:=fun b hb hm=>by have:=A0.1.h.ou b hm;omega
   have hso:HInv so (I x0).1:=by
    have h1:HInv (ss.at W1) (I x0).1:=A0.1.h.at hkeep ⟨rfl,rfl⟩
    have own:∀p b,Owns so (I x0).1 p b→Owns ss (I x0).1 p b:=fun p b hp=>hp
    refine⟨h1.ln,fun n j c hc=> ?_,fun n sz live rows d hc=> ?_,h1.inj,fun b hb=>h1.lt b hb.1,fun b hb=> ?_,fun b hb ho=> ?_⟩
    ·have kc:=h1.cel n j c hc
     have hne:=hexc (false,n) (ss.rb n) (.inl ⟨rfl,rfl,j,c,hc⟩)
     have ev1:Ev (ss.at W1) so:=⟨fun _ h=>⟨h,rfl⟩,fun _ _ l h=>⟨l,h,Nat.le_refl _,fun _=>rfl⟩,fun b hb=>⟨fun h=>hb.1 h.1,fun h=>h.elim hb.2.1 fun e=>hb.1 (e▸hrM),hb.2.2⟩,fun b o x _ hc=>hc⟩
     exact kc.keepE ev1 ⟨kc.2.1,hne⟩ rfl
    ·have ev1:Ev (ss.at W1) so:=⟨fun _ h=>⟨h,rfl⟩,fun _ _ l h=>⟨l,h,Nat.le_refl _,fun _=>rfl⟩,fun b hb=>⟨fun h=>hb.1 h.1,fun h=>h.elim hb.2.1 fun e=>hb.1 (e▸hrM),hb.2.2⟩,fun b o x _ hc=>hc⟩
     refine(h1.arr n sz live rows d hc).keepE ev1 rfl fun hl b o cap h2 h3 h4=>⟨⟨h4, ?_⟩,rfl⟩
     subst hl
     exact hexc (true,n) b (.inr ⟨rfl,⟨sz,rows,d,hc⟩,o,cap,h2,h3⟩)
    ·rcases hb with hb|rfl
     ·exact h1.ou b hb
     ·show ss.rb m<W1.heap.size;omega
    ·rcases ho with ho|rfl
     ·exact h1.dis b hb.1 ho
     ·exact hb.2 rfl
   have hsi:HInv si (CX m 0 bc):=by
    have key:∀n j c,hl (CX m 0 bc) (.c n j)=some c→n=m∧bc[j]? =some c:=by
     intro n j c hm
     rw[JX] at hm
     split at hm
     ·rename_i e;exact⟨e.1,by simpa using hm⟩
     ·cases hm
    have own:∀p b,Owns si (CX m 0 bc) p b→p=(false,m):=by
     rintro⟨k,n⟩ b (⟨h1,_,j,c,h3⟩|⟨_,⟨_,_,_,h3⟩,_⟩)
     ·obtain⟨rfl,_⟩:=key n j c h3
      simp only at h1;rw[h1]
     ·simp[F5] at h3
    refine⟨fun n=>by simp[si,lenOf,F5],fun n j c hn=> ?_,fun n sz live rows d hn=>by simp[F5] at hn,fun p q b hp hq=>by rw[own p b hp,own q b hq],fun b hb=>by rw[show b=ss.rb m from hb];show _<W1.heap.size;omega,fun b hb=> ?_,fun b hb ho=> ?_⟩
    ·obtain⟨rfl,h1⟩:=key n j c hn
     obtain⟨cs,T,x,k3,k4,k5,k6⟩:=hbce j c h1
     exact⟨rfl,rfl,.inl ⟨cs,T,x,hkeep _ _ k3,k4,k5,GQ c x (Jp hbc.2.2 (List.mem_of_getElem? h1)) k6⟩⟩
    ·show b<W1.heap.size
     rw[hsz1]
     rcases hb with hb|hb|rfl|rfl
     ·have:=A0.1.h.lt b hb.1;omega
     ·have:=A0.1.h.ou b hb;omega
     ·simp only[l];omega
     ·simp only[D];omega
    ·have hb:b=ss.rb m:=hb
     rcases ho with ho|ho|ho|ho
     ·exact ho.2 hb
     ·exact hrO (hb▸ho)
     ·simp only[l] at ho;omega
     ·simp only[D] at ho;omega
   have hJ0:RJ (Ctx.fn P S nt hbo) φ I Pre K Q 0 si:=by
    refine⟨so,(I x0).1,(I x0).2,.ready,none,⟨rfl,fun b=>Iff.rfl,fun b=>⟨fun h=>h.imp id fun h=>⟨h,by rw[h];show _<W1.heap.size;omega⟩,fun h=>h.imp id fun h=>h.1⟩,hsi.dis,hsi.ou⟩,⟨evs.box,evs.arr,fun b o hb hM=>⟨hkeep b o hb,fun h=>hM h.1⟩,fun b _ h1 h2=>h1 (show ss.M b from h2▸hrM),evs0.sz,evs0.io⟩,
     ⟨hso,A0.1.t.ev evs,A0.1.sz,DOK.of rfl (fun d hd=> ?_) ?_ (Nat.le_trans A0.1.df.le evs0.sz) (A0.1.df.gl.ev evs)⟩,A0.2.1,fun h=>nM _ (Nat.le_succ _) h.1,hL1,hK1,.inl ⟨x0,h0,by simp[hk0],rfl,rfl,rfl,rfl⟩⟩
    ·simp only[φ,a0,List.cons_append,List.nil_append,List.mem_cons] at hd
     rcases hd with rfl|hd
     ·exact⟨D,rfl,A0.1.df.le,hK1,fun h=>nM _ (Nat.le_refl _) h.1,fun h=>h.elim (nO _ (Nat.le_refl _)) fun h=>by simp only[D] at h;omega⟩
     ·obtain⟨r,r1,r2,r3,r4,r5⟩:=A0.1.df.all rfl d hd
      refine⟨r,r1,r2,hkeep _ _ r3,fun h=>r4 h.1,fun h=>h.elim r5 fun h=> ?_⟩
      obtain⟨cs,T,hc⟩:=hrc
      rw[←h,r3] at hc
      cases hc
    ·simp only[φ,a0,List.cons_append,List.nil_append]
     refine List.pairwise_cons.2 ⟨fun d hd he=> ?_,A0.1.df.nd rfl⟩
     obtain⟨r,rfl,_,r3,_⟩:=A0.1.df.all rfl d hd
     have:D=r:=by simpa using he
     have:=(Array.getElem?_eq_some_iff.1 r3).1
     omega
   have hDn:∀so si hp,Way φ.ss so si→Inv so φ.e hp φ.a nt (hbo,false)→¬so.M φ.D:=fun so si hp _ h3=>by
    obtain⟨r,r1,_,_,r4,_⟩:=h3.df.all rfl {target:= .collected D,args:= #[]} (by simp[φ,a0])
    have:φ.D=r:=by simpa using r1
    rw[this];exact r4
   have hR:Rng P Fence.wide l (ss.w.heap.size+2) xs (RJ (Ctx.fn P S nt hbo) φ I Pre K Q):=
    {evo:=fun hj ev=>hj.evo hdf ev
     oth:=fun hj o hO hP=>hj.oth (hb:=ss.w.heap.size+2) (by simp only[φ];omega) hdf o hO hP
     rnd:=fun hj hi hxs hv=>RJ.rndG (φ:=φ) (fn:=fn) (ps:=ps') rfl hca hcb hps hpure (round l) (by simp only[φ,l];omega) hDn hj hi hxs hv}
   have hvals:RepL si (fst++AV.clo (.yield l) [] []::cps) (fs++ .func (.yield l) #[] #[]::cs):=by
    have ff:∀b,Fz ss b→Fz si b:=fun b hb=>⟨fun h=>hb.1 (show ss.M b from h▸hrM),by
     have:=hb.2.2
     rintro(g|g|g|g)
     ·exact hb.1 g.1
     ·exact hb.2.1 g
     ·simp only[l] at g;omega
     ·simp only[D] at g;omega,by show b<W1.heap.size;have:=hb.2.2;omega⟩
    have fw:∀b,Fz ss b→si.w.heap[b]? =ss.w.heap[b]? :=fun b hb=>by
     have:=Array.getElem?_eq_getElem hb.2.2
     show W1.heap[b]? =_
     rw[this];exact hkeep b _ this
    refine DL (RepL.ofPure ff fw _ _ hpu.1 hf1) ?_
    simp only[RepL]
    exact⟨_,_,rfl,by simp[Rep,RepL],Np ff fw rfl rfl hpu.2.1 hpu.2.2 hc1⟩
   refine⟨l,[{target:= .collected D,args:= #[]}],W1,{target:= .fn (.func fi) cs.toArray,args:=fs.toArray++ #[.func (.yield l) #[] #[]]},W1,fi,(fs.toArray++ #[.func (.yield l) #[] #[]])++cs.toArray,W1,run_enterLoop_outer _ _ _ _ _, ?_,fun _ _=>trivial, ?_,fun h=>by simp[Fence.wide] at h, ?_⟩
   ·have hy:Array.map a.eval #[.const (.func (.yield l) #[] #[])]= #[.func (.yield l) #[] #[]]:=by simp[Act.eval]
    simp only[resolve,rangeCall,hy,hX,Deferred.ofValue,Sem.run_pure]
   ·simp only[invoke]
    exact EH hok _ _
   have harr:(fs.toArray++ #[.func (.yield l) #[] #[]])++cs.toArray=(fs++ .func (.yield l) #[] #[]::cs).toArray:=by apply Array.ext';simp
   rw[harr]
   refine(hit l (ss.w.heap.size+2) _ si _ hR hJ0 hsi (fun _ h=>h) hvals (by show _≤W1.heap.size;omega) hgsi).mono ?_
   rintro en w' ⟨v,σ',rfl,rfl,hj⟩
   have key:∀hp cnt st pe so2,Pair φ.O0 φ.l φ.D so2 σ'→Way φ.ss so2 σ'→Inv so2 φ.e hp φ.a nt (hbo,false)→(∀m,so2.al m→m.2≤cnt)→¬so2.M φ.l→so2.w.heap[φ.l]? =some (.loop (φ.lp st pe))→st≠.busy→
     ∃s5:Cf,(Instr.endLoop l).run P σ'.w= .ok pe s5.w∧Evo ss s5∧At (Ctx.fn P S nt hbo) s5 ⟨e,hp,cnt⟩ a0:=by
    intro hp cnt st pe so2 h1 h2 h3 h4 h8 h5 hb
    have dis2:∀b,so2.O b→b<so2.w.heap.size∧¬so2.M b:=fun b hb=>⟨h3.h.ou b hb,fun hM=>h3.h.dis b hM hb⟩
    obtain⟨s4,hs4,o4,r4,l4,k4⟩:=HA (r':={φ.lp st pe with state:= .exhausted}) dis2 h8 h5
    have hOs:∀b,ss.O b→s4.O b:=fun b hb=>by rw[r4.out];exact(h1.oo b).2 (.inl hb)
    let s5:Cf:={s4 with O:=ss.O}
    have h4i:=h3.h.oth o4
    have o5:Oth s4 s5:=⟨rfl,rfl,rfl,rfl,rfl,fun b hb=>⟨h4i.ou b (hOs b hb),fun hM=>h4i.dis b hM (hOs b hb),fun hf=>hf.2.1 (hOs b hb)⟩,Nat.le_refl _,fun _ _=>rfl,fun _ _ _ _ h=>h,SameO.refl _⟩
    have df4:=h3.df.rd r4 h5 (.inl rfl)
    refine⟨s5, ?_,⟨fun n hn=> ?_,fun n hn l' hl'=> ?_,fun b o ho hm=> ?_,rfl,Nat.le_trans h2.sz r4.sz,h2.io.trans r4.io⟩,⟨h4i.oth o5,(h3.t.ev o4.ev).ev o5.ev,h3.sz,DOK.of rfl (fun d hd=> ?_) (df4.nd rfl) df4.le (df4.gl.ev o5.ev)⟩,fun m hm=>h4 m ?_,trivial⟩
    ·have:=run_endLoop (P:=P) (w:=so2.w) h5 hb
     rw[h1.w] at this
     show _=Result.ok pe s4.w
     rw[hs4,this,h1.w]
    ·exact⟨(r4.box n (h2.box n hn).1).1,((r4.box n (h2.box n hn).1).2).trans (h2.box n hn).2⟩
    ·obtain⟨l1,g1,g2,g3⟩:=r4.arr n (h2.box n hn).1 l' hl'
     obtain⟨m,q1,q2,q3⟩:=h2.arr n hn l1 g1
     refine⟨m,q1,Nat.le_trans q2 g2,fun e=> ?_⟩
     have e1:m=l1:=by omega
     have e2:l1=l':=by omega
     exact(g3 e2).trans (q3 e1)
    ·obtain⟨g1,g2⟩:=h2.old b o ho hm
     have hlt:=(Array.getElem?_eq_some_iff.1 ho).1
     exact r4.fro b o (by intro e;subst e;simp only[φ,l] at hlt;omega) g1 g2
    ·obtain⟨r,r1,r2,r3,r4',r5⟩:=df4.all rfl d hd
     exact⟨r,r1,r2,r3,r4',fun h=>r5 (hOs r h)⟩
    ·have hm':s4.al m:=hm
     rw[o4.al] at hm';exact hm'
   have inv:∀{k:Int},RJ (Ctx.fn P S nt hbo) φ I Pre K Q k σ'→rangePost Fence.wide 0 P l (lift (Ctx.fn P S nt hbo) ss Q) a0 (.returned v) σ'.w∨False∨k≠xs.length∧k≠-1:=by
    intro k hj
    obtain⟨so2,hp,cnt,st,pe,h1,h2,h3,h4,h8,h5,h6,h7⟩:=hj
    rcases h7 with⟨x,hx,hk,rfl,rfl,rfl,rfl⟩|⟨hk,c',e',rfl,rfl,hjp,hq⟩
    ·by_cases hlen:K x=xs.length
     ·obtain⟨s5,g1,g2,g3⟩:=key _ _ _ _ so2 h1 h2 h3 h4 h8 h5 (by simp)
      exact .inl ⟨none,s5.w,g1,s5,_,.n,rfl,g2,g3,rfl,hend x hx hlen⟩
     ·exact .inr (.inr ⟨by omega,by omega⟩)
    ·obtain⟨s5,g1,g2,g3⟩:=key _ _ _ _ so2 h1 h2 h3 h4 h8 h5 (by simp)
     refine .inl ⟨some c',s5.w,g1, ?_⟩
     rcases hjp with⟨rfl,rfl⟩|⟨i,rfl,rfl⟩
     ·exact wpIn_ret ⟨s5,_,.r,rfl,g2,g3,rfl,hq⟩
     ·exact wpIn_exit ⟨s5,_,.x i,rfl,g2,g3,rfl,hq⟩
   rcases hj with hj|hj
   ·rcases inv hj with h|h|h
    ·exact h
    ·exact h.elim
    ·exact absurd rfl h.1
   ·rcases inv hj with h|h|h
    ·exact h
    ·exact h.elim
    ·exact absurd rfl h.2
  ·simp at hc
 |region id ops d=>
  simp only[cCode] at hc
  obtain⟨_,_,⟨_,e⟩|⟨_,_,_,_,e⟩⟩:=Ca hc<;>cases e
 |seq x y=>simp only[cCode] at hc;split at hc<;>simp at hc
 |cond c x y=>simp only[cCode] at hc;split at hc<;>simp at hc
 |_=>simp[cCode] at hc
end
theorem dK {P:Program} {S:Tab} {m:Nm} {bc:List AV} (hS:TabOK P S) {f:Nat} {fn:Func} {c:AC} {fst cps:List AV} {xs:List (List AV)} (nt:Nat) (hf:P.funcs[f]? =some fn) (hc:D4 P fn=some (c,[])) (hnt:fn.ntmps=nt) (hgs:nt≤gs)
  (hn:(fst++cps).length<nt)
  (h:∀(l hb:Nat) (J:Int→Cf→Prop) (evo:∀{k:Int} {σ σ':Cf},J k σ→Evo σ σ'→J k σ'),Rng P Fence.wide l hb xs J→
   awp (Ctx.it P Fence.wide S nt hb J hgs evo) c (itK xs.length) ⟨(gs,Ck 0)::Cj 0 (fst++AV.clo (.yield l) [] []::cps),CX m 0 bc,m.2⟩):ItB P f fst cps m bc xs:=by
 subst hnt
 intro l hb J σ vals hR hJ hI hal hx hsz hgl
 unfold D4 at hc
 split at hc
 ·rename_i b hbd
  split at hc
  ·rename_i c' r' h1 h2
   simp at hc
   obtain⟨rfl,rfl⟩:=hc
   have hw:=h l hb J hR.evo hR b h1 σ {tmps:=vals.toArray++Array.replicate (fn.ntmps-vals.toArray.size) undef,defers:=[]} ?_
   ·refine callsIn_of_wp_marks (n:=0) hf hbd trivial (wpIn_mono hw ?_)
    rintro e a' w' ⟨σ',s',e',rfl,_,h3,h4,h5⟩
    have key:(lk s'.env gs=Ck xs.length∨lk s'.env gs=Ck (-1))→LeavesInM Fence.wide 0 P fn a'.tmps (fun e w'=>∃v σ',e= .returned v∧σ'.w=w'∧(J xs.length σ'∨J (-1) σ')) a'.defers .returning σ'.w:=by
     intro hk
     refine GH a'.defers σ' (fun b hb=>⟨h3.1.h.ou b hb,fun hM=>h3.1.h.dis b hM hb⟩) (DOK.of' h3.1.df) fun ρ ko kO kb=> ?_
     obtain⟨ρ',hρ,hn'⟩:=(h3.1.h.oth ko).nil
     obtain⟨us,k1,k2⟩:=Gt (P:=P) (s:=⟨[],[],0⟩) (rs:=fn.results.toList) (rvs:=[]) (vc:=True) (xs:=[]) (σ:=ρ') (a:={a' with defers:=[]}) (nt:=fn.ntmps) (hb:=(hb,false))
      ⟨hn',fun t=>by simp[lk,Rep],h3.1.sz,DOK.nil (by rw[hρ];exact Nat.le_trans h3.1.df.le ko.sz) (by rw[hρ];exact fun b j hj=>⟨((h3.1.df.gl.ev ko.ev) b j hj).1,((h3.1.df.gl.ev ko.ev) b j hj).2⟩)⟩ h2 rfl trivial
     rw[hρ] at k1
     refine⟨_,Gu k1,_,ρ,rfl,rfl, ?_⟩
     have hj:∀k,J k σ'→J k ρ:=fun k hk=>hR.oth hk ko kO kb
     rcases hk with hk|hk
     ·exact .inl (hj _ (h3.2.2 _ hk))
     ·exact .inr (hj _ (h3.2.2 _ hk))
    cases e with
    |normal=>simp[AE.of] at h4;subst h4;exact key h5
    |ret=>simp[AE.of] at h4;subst h4;exact key h5
    |exit i=>simp[AE.of] at h4;subst h4;exact h5.elim
    |goto l=>simp[AE.of] at h4
    |panic c=>obtain⟨v,rfl,rfl⟩:=AE.of_panic h4;exact h5.elim
    |outgrown=>simp[AE.of] at h4
   ·have hlen:=Bz hx
    refine⟨⟨hI,fun t=> ?_,by show _=fn.ntmps;simp at hn hlen⊢;omega,DOK.nil hsz hgl⟩,fun n hn=>by rw[hal n hn];exact Nat.le_refl _, ?_⟩
    ·simp only[lk]
     by_cases ht:gs=t
     ·rw[if_pos ht]
      subst ht
      have h1:vals.length≤fn.ntmps:=by simp at hn hlen;omega
      have:¬gs<vals.length+(fn.ntmps-vals.length):=by omega
      simp[Rep,Array.getD,this]
     ·rw[if_neg ht,Gv]
      split
      ·rename_i ht
       simp only[Nat.zero_le,Nat.zero_add,true_and] at ht
       have hg:(fst++AV.clo (.yield l) [] []::cps)[t]? =some (fst++AV.clo (.yield l) [] []::cps)[t]:=List.getElem?_eq_getElem ht
       obtain⟨x,g1,g2⟩:=Ds hx t _ hg
       have e1:(fst++AV.clo (.yield l) [] []::cps).getD (t-0) .un=(fst++AV.clo (.yield l) [] []::cps)[t]:=by simp[List.getD_eq_getElem?_getD,hg]
       have hlt':t<vals.length:=by omega
       have e2:(vals.toArray++Array.replicate (fn.ntmps-vals.toArray.size) undef).getD t undef=x:=by
        rw[List.getElem?_eq_getElem hlt'] at g1
        simp at g1
        simp[Array.getD_eq_getD_getElem?,Array.getElem?_append_left,hlt',g1]
       rw[e1,e2];exact g2
      ·simp[Rep]
    ·intro k hk
     simp only[lk,if_true] at hk
     have:(0:Int)=k:=by simpa using hk
     rw[←this];exact hJ
  ·simp at hc
 ·simp at hc
theorem ZE {P:Program} {S:Tab} {m:Nm} {bc:List AV} (hS:TabOK P S) {f:Nat} {fn:Func} {c:AC} {fst cps:List AV} {xs:List (List AV)} (nt:Nat) (hf:P.funcs[f]? =some fn) (hc:D4 P fn=some (c,[])) (hnt:fn.ntmps=nt) (hgs:nt≤gs)
  (hn:(fst++cps).length<nt)
  (h:∀(l:Nat) (Γ:Ctx),Γ.OK→Γ.S=S→Mw Γ l xs→awp Γ c (itK xs.length) ⟨(gs,Ck 0)::Cj 0 (fst++AV.clo (.yield l) [] []::cps),CX m 0 bc,m.2⟩):ItB P f fst cps m bc xs:=
 dK hS nt hf hc hnt hgs hn fun l hb J evo hR=>h l _ (Ctx.it_ok hS) (Eq.refl _) fun i=>LO hS hR i
def nQ (n:Nm) (cells:List AV) (r:AV) (us:List (Nat×AV)) (r':AV) (s:St):Prop:=wk r' r∧∀j c,hl (If n us++CX n 0 cells) (.c n j)=some c→hl s.hp (.c n j)=some c
theorem Xf {P:Program} {S:Tab} (hS:TabOK P S) {f:Nat} {fn:Func} {c:AC} {rvs:List RV} {n:Nm} {args cells:List AV} {r:AV} {us:List (Nat×AV)} (nt:Nat) (hf:P.funcs[f]? =some fn) (hc:D4 P fn=some (c,rvs)) (hnt:fn.ntmps=nt) (hn:args.length≤nt)
  (h:∀hb,awp (Ctx.fn P S nt hb) c (Bw rvs (nQ n cells r us)) ⟨Cj 0 args,CX n 0 cells,n.2⟩):QM P f n args cells r us:=by
 intro σ vs hg hI hal hr
 refine callsIn_wide.1 ((LN hS hf hc hnt hn hg hI (cnt:=n.2) (fun m hm=>by rw[hal m hm];exact Nat.le_refl _) hr (h _)).mono ?_)
 rintro en w' ⟨v,τ,s,r',rfl,rfl,ev,hτ,_,hv,hk1,hk2⟩
 exact⟨v,τ,rfl,rfl,ev,fun j c hj=>hτ.cel n j c (hk2 j c hj),Hx _ _ _ hk1 hv⟩
def Ctx.fd (P:Program) (S:Tab) (nt hb:Nat):Ctx:={P:=P,F:=Fence.wide,S:=S,nt:=nt,hb:=(hb,true),R:=Evo,G:=fun _ _=>True,ofE:=id,tr:=Evo.trans,g:=fun _ _ _=>trivial}
theorem Ctx.fd_ok {P:Program} {S:Tab} {nt hb:Nat} (h:TabOK P S):(Ctx.fd P S nt hb).OK:=⟨h,.inl (Eq.refl _)⟩
theorem nR {P:Program} {S:Tab} {nt hb:Nat}:(Ctx.fd P S nt hb).S=S:=rfl
theorem QO {P:Program} {nt:Nat} {ops:Array Oper} {o:Oper} {yo:AOp} (h:cOp P nt ops o=some yo):yo.k=cK P o.op∧o.dst=yo.d∧cG ops o.guard=some yo.g:=by
 unfold cOp at h
 split at h
 ·simp at h
 rename_i g hg
 split at h
 ·simp at h;subst h;exact⟨rfl,rfl,hg⟩
 ·simp at h
theorem dL {P:Program} {op:Op} {x:Opd} (h:cK P op= .pan x):∃y,op= .panic y∧x=opd y:=by
 cases op with
 |panic y=>simp only[cK,AK.pan.injEq] at h;exact⟨y,rfl,h.symm⟩
 |_=>
  exfalso
  simp only[cK,Hc,En,IA,IB,IC,JB,ID,HM] at h
  (repeat' (split at h))<;>cases h
theorem dM {P:Program} {op:Op} {x:Opd} (h:cK P op= .dfr x):∃c y,op= .defer c∧c.callee= .value y∧c.args.toList=[]∧x=opd y:=by
 cases op with
 |defer c=>
  simp only[cK] at h
  split at h
  ·rename_i y e1 e2
   simp only[AK.dfr.injEq] at h
   exact⟨c,y,rfl,e1,e2,h.symm⟩
  ·cases h
 |_=>
  exfalso
  simp only[cK,Hc,En,IA,IB,IC,JB,ID,HM] at h
  (repeat' (split at h))<;>cases h
theorem dO {P:Program} {op:Op} (h:cK P op= .rcv):∃c,op= .call c∧c.callee= .builtin .recover:=by
 cases op with
 |call c=>
  simp only[cK,HM] at h
  split at h
  all_goals first|exact⟨c,rfl,‹_›⟩|((repeat' (split at h))<;>cases h)
 |_=>
  exfalso
  simp only[cK,Hc,En,IA,IB,IC,JB,ID] at h
  (repeat' (split at h))<;>cases h
variable {Γ:Ctx}
theorem Ol (hΓ:Γ.OK) {ops':Array Oper} {ops:List AOp} {WQ:Exit→Act→World→Prop} {σ:Cf} {a:Act} {e e1:Env} {h h1:Hp} {c rid i:Nat} {vc:Prop} {yo:AOp} (hx0:FS Γ.P Γ.nt ops' ops'.toList=some ops) (hlen:ops.length=i+1) (hyo:ops[i]? =some yo) (hgu:yo.g=none)
  (hex:Bl Γ.S (c+1) (100*rid) (ops.take i) e h=some (vc,e1,h1)) (hvc:vc) (hA:At Γ σ ⟨e,h,c⟩ a)
  (hlast:∀(o:Oper) (a1:Act) (σ1:Cf),ops'[i]? =some o→yo.k=cK Γ.P o.op→o.dst=yo.d→Region.wanted o (yielded ops' a1.tmps)=true→Evo σ σ1→Inv σ1 e1 h1 a1 Γ.nt Γ.hb→(∀m,σ1.al m→m.2≤c+1)→(∀t,Γ.nt≤t→lk e1 t=lk e t)→
   wpOpIn Γ.F 0 Γ.P ops' WQ i (wpOpsIn Γ.F 0 Γ.P ops' WQ []) a1 σ1.w):
  wpOpsIn Γ.F 0 Γ.P ops' WQ (List.range ops'.size) a σ.w:=by
 obtain⟨c1,c2⟩:=Ea hx0
 obtain⟨t1,t2⟩:=Do i hx0
 have hi:i<ops.length:=by omega
 have hsz:ops.length=ops'.size:=c1.trans (by simp)
 have hi':i<ops'.size:=by omega
 obtain⟨yo',g1,g2⟩:=c2 i ops'[i] (by simp)
 rw[hyo] at g1
 cases g1
 have hr:List.range ops'.size=List.range' 0 (ops'.toList.take i).length++[i]:=by
  have e1:(ops'.toList.take i).length=i:=by simp;omega
  rw[e1,List.range_eq_range',show ops'.size=i+1 by omega,List.range'_1_concat,Nat.zero_add]
 rw[hr]
 refine GU hΓ (cnt:=c) (100*rid) e _ (ops'.toList.take i) 0 (ops.take i) σ e e1 h h1 a vc (fun _ _=>rfl) (fun j hj=> ?_) t1 hex hvc hA.1 (fun m hm=> .inl (hA.2.1 m hm)) fun a1 σ1 ev1 hI1 hal1 hfar1=> ?_
 ·have:j<i:=by simp at hj;omega
  simp[List.getElem?_take,this]
 rw[wpOpsIn_cons]
 obtain⟨q1,q2,q3⟩:=QO g2
 have hw:=E3 hI1.t q3 (show EF e1 yo.g=some true by rw[hgu];rfl)
 exact hlast _ a1 σ1 (Array.getElem?_eq_getElem hi') q1 q2 hw ev1 hI1 (fun m hm=>by rcases hal1 m hm with h|⟨h,_⟩<;>omega) hfar1
theorem MX (hΓ:Γ.OK) (i:Nat) {rid:Nat} {ops:List AOp} {Q:AE→St→Prop} {e e1:Env} {h h1:Hp} {c:Nat} {vc:Prop} {d:Option Nat} {x:Opd} {t:TypeId} {v:Value} (hlen:ops.length=i+1) (hyo:ops[i]? =some ⟨d,none,.pan x⟩)
  (hex:Bl Γ.S (c+1) (100*rid) (ops.take i) e h=some (vc,e1,h1)) (hvc:vc) (hx:ung true (opv e1 x)= .v (.iface t v)) (hQ:Q (.p (.iface t v)) ⟨e1,h1,c+1⟩):awp Γ (.reg rid ops) Q ⟨e,h,c⟩:=by
 intro code hc σ a hA
 cases code with
 |region id ops' d'=>
  simp only[cCode] at hc
  obtain⟨l0,hx0,⟨rfl,e0⟩|⟨_,_,_,_,e0⟩⟩:=Ca hc
  ·cases e0
   refine wpIn_region (Ol hΓ hx0 hlen hyo rfl hex hvc hA fun o a1 σ1 ho hk hd hw ev hI hal hfar=> ?_)
   obtain⟨y,hop,rfl⟩:=dL hk.symm
   have hX:=Eo (g:=true) rfl hI.t y
   rw[hx] at hX
   have hv:a1.eval y= .iface t v:=by simpa [Rep] using hX
   unfold wpOpIn
   simp only[ho,hw,if_true]
   refine⟨fun f _=>hΓ.F.fn f, ?_⟩
   rw[Oper.semAt_eq _ a1.eval _ (fun c e=>by rw[hop] at e;cases e)]
   have hr:(execOp a1.eval o).run Γ.P σ1.w= .halt (.panic (.iface t v)) σ1.w:=by
    simp[execOp,hop,hv,Instr.panic,goPanic]
   rw[hr,Oper.uponIn_panic]
   exact⟨σ1,⟨e1,h1,c+1⟩,_,rfl,Γ.ofE ev,⟨hI,hal,Γ.g hA.2.2 ev fun t ht=> .inr (hfar t ht)⟩,rfl,hQ⟩
  ·cases e0
 |seq x y=>simp only[cCode] at hc;split at hc<;>simp at hc
 |cond c x y=>simp only[cCode] at hc;split at hc<;>simp at hc
 |rangeFunc f ps x y=>simp only[cCode] at hc;split at hc<;>simp at hc
 |_=>simp[cCode] at hc
theorem ZF {P:Program} {S:Tab} {nt hb:Nat} (hS:TabOK P S) (i:Nat) {rid:Nat} {ops:List AOp} {Q:AE→St→Prop} {e e1:Env} {h h1:Hp} {c f:Nat} {vc:Prop} {ys:List AV} {x:Opd} (hlen:ops.length=i+1) (hyo:ops[i]? =some ⟨none,none,.dfr x⟩)
  (hex:Bl S (c+1) (100*rid) (ops.take i) e h=some (vc,e1,h1)) (hvc:vc) (hx:ung true (opv e1 x)= .clo (.func f) [] ys) (h0:lk e (dk nt)= .gd false (.tup [])) (hQ:Q .n ⟨(dk nt,.gd false (.clo (.func f) [] ys))::e1,h1,c+1⟩):awp (Ctx.fd P S nt hb) (.reg rid ops) Q ⟨e,h,c⟩:=by
 intro code hc σ a hA
 cases code with
 |region id ops' d'=>
  simp only[cCode] at hc
  obtain⟨l0,hx0,⟨rfl,e0⟩|⟨_,_,_,_,e0⟩⟩:=Ca hc
  ·cases e0
   refine wpIn_region (Ol (Ctx.fd_ok hS) hx0 hlen hyo rfl hex hvc hA fun o a1 σ1 ho hk hd hw ev hI hal hfar=> ?_)
   obtain⟨cl,y,hop,hcl,har,rfl⟩:=dM hk.symm
   have hX:=Eo (g:=true) rfl hI.t y
   rw[hx] at hX
   simp only[Rep,RepL] at hX
   obtain⟨xs0,vs,hv,rfl,hvs⟩:=hX
   have har':cl.args= #[]:=Array.toList_inj.1 har
   unfold wpOpIn
   simp only[ho,hw,if_true]
   refine⟨fun f _=>trivial, ?_⟩
   have hs:o.semAt (Ctx.fd P S nt hb).F.round a1.eval=execOp a1.eval o:=by
    have:(Ctx.fd P S nt hb).F.round=none:=rfl
    rw[this];rfl
   rw[hs]
   have hr:(execOp a1.eval o).run (Ctx.fd P S nt hb).P σ1.w= .ok (.defer {target:= .fn (.func f) vs.toArray,args:= #[]}) σ1.w:=by
    simp[execOp,hop,resolve,hcl,har',hv,Deferred.ofValue]
   rw[hr,Oper.uponIn_defer]
   show wpOpsIn _ _ _ _ _ [] _ _
   simp only[wpOpsIn]
   have hdst:o.dst=none:=hd
   rw[hdst]
   refine⟨σ1,⟨(dk nt,.gd false (.clo (.func f) [] ys))::e1,h1,c+1⟩,_,Eq.refl _,ev,⟨⟨hI.h,fun t=> ?_,hI.sz,⟨?_,hI.df.le,hI.df.gl⟩⟩,hal,trivial⟩,rfl,hQ⟩
   ·simp only[lk]
    by_cases ht:dk nt=t
    ·rw[if_pos ht]
     subst ht
     have h1:a1.tmps.size=nt:=hI.sz
     have h2:¬dk nt<a1.tmps.size:=by rw[h1];exact Nat.not_lt.2 (Nat.le_add_right _ _)
     show Rep _ _ (a1.tmps.getD (dk nt) undef)
     have:a1.tmps.getD (dk nt) undef=undef:=by simp[Array.getD,h2]
     rw[this]
     simp[Rep]
    ·rw[if_neg ht];exact hI.t t
   ·obtain⟨ms,dd,q1,q2,q3,q4⟩:=hI.df.sp
    have hms:=q4.2.2.2 rfl
    have hdd:=q4.2.1 rfl ((hfar (dk nt) (Nat.le_add_right _ _)).trans h0)
    subst hms hdd
    have ek:lk ((dk nt,AV.gd false (.clo (.func f) [] ys))::e1) (dk nt)= .gd false (.clo (.func f) [] ys):=by simp only[lk,if_true]
    refine⟨[],[{target:= .fn (.func f) vs.toArray,args:= #[]}], ?_,by simp,.nil,fun h=>(by cases h),fun _ h=> ?_,fun _ f' ys' h=> ?_,fun _=>rfl⟩
    ·simp only[Act.put];rw[q1];rfl
    ·have h':=ek.symm.trans h
     cases h'
    ·have h':=ek.symm.trans h
     injection h' with _ h'
     injection h' with h1 _ h2
     injection h1 with h1
     subst h1 h2
     exact⟨vs,hvs,rfl⟩
  ·cases e0
 |seq x y=>simp only[cCode] at hc;split at hc<;>simp at hc
 |cond c x y=>simp only[cCode] at hc;split at hc<;>simp at hc
 |rangeFunc f ps x y=>simp only[cCode] at hc;split at hc<;>simp at hc
 |_=>simp[cCode] at hc
theorem Xg {P:Program} {nt rid d:Nat} {id:Nat} {ops':Array Oper} {b:Bool} (h:Ue P nt id ops' b=some (.reg rid [⟨some d,none,.rcv⟩])):
  ∃o cl,ops'= #[o]∧b=false∧o.op= .call cl∧cl.callee= .builtin .recover∧o.dst=some d∧o.guard=none∧d<nt:=by
 obtain⟨l0,hx0,⟨rfl,e0⟩|⟨_,_,_,_,e0⟩⟩:=Ca h
 ·cases e0
  obtain⟨c1,c2⟩:=Ea hx0
  have hsz:ops'.size=1:=by simpa using c1.symm
  obtain⟨o,ho⟩:∃o,ops'= #[o]:=⟨ops'[0],by
   apply Array.ext
   ·simp[hsz]
   ·intro i h1 h2
    have:i=0:=by simp at h2;exact h2
    subst this;simp⟩
  subst ho
  obtain⟨yo',g1,g2⟩:=c2 0 o (by simp)
  simp at g1
  subst g1
  obtain⟨q1,q2,q3⟩:=QO g2
  obtain⟨cl,r1,r2⟩:=dO q1.symm
  refine⟨o,cl,rfl,rfl,r1,r2,q2, ?_,Fg g2 d rfl⟩
  cases hg:o.guard with
  |none=>rfl
  |some p=>
   obtain⟨j,w⟩:=p
   rw[hg] at q3
   simp only[cG] at q3
   split at q3<;>cases q3
 ·cases e0
def Rcv (u:FrameMode) (rv:Value) (u':FrameMode):Prop:=
 ∀(c₀:Frame) (cs:List Frame),c₀.mode=u→recoverD (c₀::cs)=some (rv,{c₀ with mode:=u'}::cs)∨(recoverD (c₀::cs)=none∧rv= .nilIface∧u'=u)
theorem ZG:Rcv .returning .nilIface .returning:=fun c₀ cs h=> .inr ⟨by simp[recoverD,h],rfl,rfl⟩
theorem ZH (v:Value):Rcv (.panicking [⟨v,false,false⟩]) v (.panicking [⟨v,true,false⟩]):=fun c₀ cs h=> .inl (by simp[recoverD,h])
def T7 (K:St→Prop):AE→St→Prop
 | .n,s=>K s
 | .r,s=>K s
 |_,_=>False
theorem Vj {K:St→Prop} {s:St} (h:K s):T7 K .n s:=h
theorem ZI {P:Program} {S:Tab} (hS:TabOK P S) {f:Nat} {fn:Func} {rid d ntf:Nat} {ac:AC} (hf:P.funcs[f]? =some fn) (hcf:D4 P fn=some (.seq (.reg rid [⟨some d,none,.rcv⟩]) ac,[])) (hnt:fn.ntmps=ntf) {u u':FrameMode} {rv:Value} (hu:Rcv u rv u')
  {σ:Cf} {h1:Hp} {vals:List Value} {ys:List AV} {cnt:Nat} {K:St→Prop} (hgl:Gl σ) (hI:HInv σ h1) (hal:∀m,σ.al m→m.2≤cnt) (hv:RepL σ ys vals) (hn:ys.length≤ntf)
  (h:awp (Ctx.fd P S ntf σ.w.heap.size) ac (T7 fun s=>lk s.env (dk ntf)= .gd false (.tup [])∧K s) ⟨(d,.v rv)::(dk ntf,.gd false (.tup []))::Cj 0 ys,h1,cnt⟩):
  CallsDIn Fence.wide 0 P f vals.toArray u σ.w fun e u2 w'=>∃v τ s,e= .returned v∧u2=u'∧τ.w=w'∧Evo σ τ∧HInv τ s.hp∧(∀m,τ.al m→m.2≤s.cnt)∧K s:=by
 subst hnt
 unfold D4 at hcf
 split at hcf
 ·rename_i b hbd
  split at hcf
  ·rename_i c' r' g1 g2
   simp only[yE,Prod.mk.injEq] at hcf
   obtain⟨rfl,rfl⟩:=hcf
   have hlen:=Bz hv
   have hres:fn.results.toList=[]:=by
    cases hl:fn.results.toList with
    |nil=>rfl
    |cons x xs=>rw[hl] at g2;simp only[cRes] at g2;split at g2<;>simp at g2
   cases b with
   |seq b1 b2=>
    simp only[cCode] at g1
    split at g1
    ·rename_i x' y' hx hy
     simp only[yE,AC.seq.injEq] at g1
     obtain⟨rfl,rfl⟩:=g1
     cases b1 with
     |region id ops' dr=>
      simp only[cCode] at hx
      obtain⟨o,cl,rfl,rfl,r1,r2,r3,r4,hd⟩:=Xg hx
      refine callsDIn_of_wpSIn hf hbd trivial fun c₀ cs hc₀=> ?_
      refine wpSIn_seq (wpSIn_region ?_)
      have hrun:(execOp ({tmps:=vals.toArray++Array.replicate (fn.ntmps-vals.toArray.size) undef,defers:=[]}:Act).eval o).run P σ.w= .ok .recover σ.w:=by
       simp[execOp,r1,r2,resolve,invoke,builtin]
      have hw:Region.wanted o (yielded #[o] (vals.toArray++Array.replicate (fn.ntmps-vals.toArray.size) undef))=true:=by
       unfold Region.wanted;rw[r4]
      have key:∀cs',cs'={c₀ with mode:=u'}::cs→(b2.wpSIn Fence.wide 0 P (bodyPostS P fn c₀ cs fun e u2 w'=>∃v τ s,e= .returned v∧u2=u'∧τ.w=w'∧Evo σ τ∧HInv τ s.hp∧(∀m,τ.al m→m.2≤s.cnt)∧K s))
        (({tmps:=vals.toArray++Array.replicate (fn.ntmps-vals.toArray.size) undef,defers:=[]}:Act).put o.dst rv) cs' σ.w:=by
       rintro cs' rfl
       refine wpSIn_of_wpIn rfl ?_
       have hput:(({tmps:=vals.toArray++Array.replicate (fn.ntmps-vals.toArray.size) undef,defers:=[]}:Act).put o.dst rv).defers=[]:=by rw[Act.defers_put]
       have hb:=h b2 hy σ (({tmps:=vals.toArray++Array.replicate (fn.ntmps-vals.toArray.size) undef,defers:=[]}:Act).put o.dst rv) ⟨⟨hI, ?_, ?_, ?_⟩,hal,trivial⟩
       ·refine wpIn_mono hb ?_
        rintro e a' w' ⟨τ,s',e',rfl,ev,h3,h4,h5⟩
        have fin:(lk s'.env (dk fn.ntmps)= .gd false (.tup [])∧K s')→bodyPostS P fn c₀ cs (fun e u2 w'=>∃v τ s,e= .returned v∧u2=u'∧τ.w=w'∧Evo σ τ∧HInv τ s.hp∧(∀m,τ.al m→m.2≤s.cnt)∧K s) .ret a' ({c₀ with mode:=u'}::cs) τ.w:=by
         rintro⟨hk0,hk⟩
         obtain⟨ms,dd,q1,_,_,q4⟩:=h3.1.df.sp
         have e1:=q4.2.2.2 rfl
         have e2:=q4.2.1 rfl hk0
         subst e1 e2
         have hr:=Gu (P:=P) (fn:=fn) (tmps:=a'.tmps) (w:=τ.w) (vs:=[]) (by rw[hres];rfl)
         exact⟨q1,u',rfl,_,hr,_,τ,s',rfl,rfl,rfl,ev,h3.1.h,h3.2.1,hk⟩
        cases e with
        |normal=>simp[AE.of] at h4;subst h4;exact fin h5
        |ret=>simp[AE.of] at h4;subst h4;exact fin h5
        |exit i=>simp[AE.of] at h4;subst h4;exact h5.elim
        |goto l=>simp[AE.of] at h4
        |panic c=>obtain⟨v,rfl,rfl⟩:=AE.of_panic h4;exact h5.elim
        |outgrown=>simp[AE.of] at h4
       ·rw[r3]
        refine TInv.put (d:=some d) (env:=(dk fn.ntmps,.gd false (.tup []))::Cj 0 ys) (r:= .v rv) (fun t=> ?_) (fun k hk=>by cases hk;simp;omega) (by simp[Rep])
        simp only[lk]
        by_cases ht:dk fn.ntmps=t
        ·rw[if_pos ht]
         subst ht
         have h2:¬dk fn.ntmps<(vals.toArray++Array.replicate (fn.ntmps-vals.toArray.size) undef).size:=by
          simp only[Array.size_append,Array.size_replicate,List.size_toArray]
          unfold dk;omega
         have:(vals.toArray++Array.replicate (fn.ntmps-vals.toArray.size) undef).getD (dk fn.ntmps) undef=undef:=by simp only[Array.getD,h2,dif_neg,not_false_eq_true]
         rw[this]
         simp[Rep]
        ·rw[if_neg ht,Gv]
         split
         ·rename_i ht
          simp only[Nat.zero_le,Nat.zero_add,true_and] at ht
          have hg:ys[t]? =some ys[t]:=List.getElem?_eq_getElem ht
          obtain⟨x,g1,g2⟩:=Ds hv t _ hg
          have e1:ys.getD (t-0) .un=ys[t]:=by simp[ht]
          have hlt':t<vals.length:=by omega
          have e2:(vals.toArray++Array.replicate (fn.ntmps-vals.toArray.size) undef).getD t undef=x:=by
           rw[List.getElem?_eq_getElem hlt'] at g1
           simp at g1
           simp[Array.getD_eq_getD_getElem?,Array.getElem?_append_left,hlt',g1]
          rw[e1,e2];exact g2
         ·simp[Rep]
       ·rw[Act.size_put];show(vals.toArray++Array.replicate (fn.ntmps-vals.toArray.size) undef).size=fn.ntmps
        simp;omega
       ·rw[Act.defers_put]
        exact⟨⟨[],[],rfl,by simp,.nil,fun _=>rfl,fun _ _=>rfl,fun _ f' ys' h=>(by
         have ek:lk ((d,AV.v rv)::(dk fn.ntmps,AV.gd false (.tup []))::Cj 0 ys) (dk fn.ntmps)= .gd false (.tup []):=(LB hd).trans (by simp only[lk,if_true])
         have h':=ek.symm.trans h
         cases h'),fun _=>rfl⟩,Nat.le_refl _,hgl⟩
      show wpOpsSIn Fence.wide 0 P #[o] _ [0] _ _ _
      have ho:(#[o]:Array Oper)[0]? =some o:=rfl
      simp only[wpOpsSIn,ho,hrun]
      refine⟨fun f _=>trivial, ?_⟩
      rw[if_pos hw]
      rcases hu c₀ cs hc₀ with hr|⟨hr,rfl,rfl⟩
      ·simp only[hr]
       exact key _ rfl
      ·simp only[hr]
       exact key _ (by rw[←hc₀])
     |seq x y=>simp only[cCode] at hx;split at hx<;>simp at hx
     |cond c x y=>simp only[cCode] at hx;split at hx<;>simp at hx
     |rangeFunc f ps x y=>simp only[cCode] at hx;split at hx<;>simp at hx
     |_=>simp[cCode] at hx
    ·simp at g1
   |region id ops' d'=>
    simp only[cCode] at g1
    obtain⟨_,_,⟨_,e⟩|⟨_,_,_,_,e⟩⟩:=Ca g1<;>cases e
   |cond c x y=>simp only[cCode] at g1;split at g1<;>simp at g1
   |rangeFunc f ps x y=>simp only[cCode] at g1;split at g1<;>simp at g1
   |_=>simp[cCode] at g1
  ·simp at hcf
 ·simp at hcf
def Om (P:Program) (S:Tab) (fc:Nat) (ys:List AV) (rv:Value) (hp:Hp) (cnt:Nat) (K:St→Prop):Prop:=
 ∃fn rid d ntf ac,P.funcs[fc]? =some fn∧D4 P fn=some (.seq (.reg rid [⟨some d,none,.rcv⟩]) ac,[])∧fn.ntmps=ntf∧ys.length≤ntf∧okF P fc∧
  ∀hb,awp (Ctx.fd P S ntf hb) ac (T7 fun s=>lk s.env (dk ntf)= .gd false (.tup [])∧K s) ⟨(d,.v rv)::(dk ntf,.gd false (.tup []))::Cj 0 ys,hp,cnt⟩
def fdK (P:Program) (S:Tab) (nt:Nat) (rvs:List RV) (r:AV):AE→St→Prop
 | .n,s=>(lk s.env (dk nt)= .gd false (.tup [])∧F7 rvs r s)∨∃fc ys,lk s.env (dk nt)= .gd false (.clo (.func fc) [] ys)∧Om P S fc ys .nilIface s.hp s.cnt fun s'=>F7 rvs r ⟨s.env,s'.hp,s'.cnt⟩
 | .r,s=>(lk s.env (dk nt)= .gd false (.tup [])∧F7 rvs r s)∨∃fc ys,lk s.env (dk nt)= .gd false (.clo (.func fc) [] ys)∧Om P S fc ys .nilIface s.hp s.cnt fun s'=>F7 rvs r ⟨s.env,s'.hp,s'.cnt⟩
 | .p v,s=>∃fc ys,lk s.env (dk nt)= .gd false (.clo (.func fc) [] ys)∧Om P S fc ys v s.hp s.cnt fun s'=>F7 rvs r ⟨s.env,s'.hp,s'.cnt⟩
 | .x _,_=>False
theorem Xh {P:Program} {S:Tab} (hS:TabOK P S) {f:Nat} {fn:Func} {c:AC} {rvs:List RV} {args:List AV} {r:AV} (nt:Nat) (hf:P.funcs[f]? =some fn) (hc:D4 P fn=some (c,rvs)) (hnt:fn.ntmps=nt)
  (hn:args.length≤nt) (h:∀hb,awp (Ctx.fd P S nt hb) c (fdK P S nt rvs r) ⟨(dk nt,.gd false (.tup []))::Cj 0 args,[],0⟩):PCall P f args r:=by
 subst hnt
 unfold D4 at hc
 split at hc
 rotate_left
 ·simp at hc
 rename_i b hbd
 split at hc
 rotate_left
 ·simp at hc
 rename_i c' r' hcc hr
 simp only[yE,Prod.mk.injEq] at hc
 obtain⟨rfl,rfl⟩:=hc
 intro σ vs hgl hlt hp hx
 have hlen:=Bz hx
 let τ:=σ.fresh
 have hgt:Gl τ:=fun b j hj=>⟨⟨fun h=>h,by rintro(h|h);exact(hgl b j hj).1.1 h;exact(hgl b j hj).1.2.1 h,(hgl b j hj).1.2.2⟩,(hgl b j hj).2⟩
 have hx':RepL τ args vs:=RepL.ofPure (σ:=σ) (σ':=τ) (fun b hb=>⟨fun h=>h,by rintro(h|h);exact hb.1 h;exact hb.2.1 h,hb.2.2⟩) (fun _ _=>rfl) args vs hp hx
 have hkey:∀x,lk ((dk fn.ntmps,x)::Cj 0 args) (dk fn.ntmps)=x:=fun x=>by simp only[lk,if_true]
 have hI:Inv τ ((dk fn.ntmps,.gd false (.tup []))::Cj 0 args) [] {tmps:=vs.toArray++Array.replicate (fn.ntmps-vs.toArray.size) undef,defers:=[]} fn.ntmps (σ.w.heap.size,true):=by
  refine⟨⟨fun n=>rfl,fun n j c h=>by simp[hl] at h,fun n sz live rows d h=>by simp[hl] at h, ?_,fun b h=>h.elim,hlt,fun b h=>h.elim⟩,fun t=> ?_,by simp;omega,⟨⟨[],[],rfl,by simp,.nil,fun _=>rfl,fun _ _=>rfl,fun _ f' ys' h=>(by rw[hkey] at h;cases h),fun _=>rfl⟩,Nat.le_refl _,hgt⟩⟩
  ·rintro p q b (⟨_,_,j,c,h⟩|⟨_,⟨_,_,_,h⟩,_⟩) _<;>simp[hl] at h
  ·simp only[lk]
   by_cases ht:dk fn.ntmps=t
   ·rw[if_pos ht]
    subst ht
    have h2:¬dk fn.ntmps<(vs.toArray++Array.replicate (fn.ntmps-vs.toArray.size) undef).size:=by
     simp only[Array.size_append,Array.size_replicate,List.size_toArray]
     unfold dk;omega
    have:(vs.toArray++Array.replicate (fn.ntmps-vs.toArray.size) undef).getD (dk fn.ntmps) undef=undef:=by simp only[Array.getD,h2,dif_neg,not_false_eq_true]
    rw[this]
    simp[Rep]
   ·rw[if_neg ht,Gv]
    split
    ·rename_i ht
     simp only[Nat.zero_le,Nat.zero_add,true_and] at ht
     have hg:args[t]? =some args[t]:=List.getElem?_eq_getElem ht
     obtain⟨x,g1,g2⟩:=Ds hx' t _ hg
     have e1:args.getD (t-0) .un=args[t]:=by simp[ht]
     have hlt':t<vs.length:=by omega
     have e2:(vs.toArray++Array.replicate (fn.ntmps-vs.toArray.size) undef).getD t undef=x:=by
      rw[List.getElem?_eq_getElem hlt'] at g1
      simp at g1
      simp[Array.getD_eq_getD_getElem?,Array.getElem?_append_left,hlt',g1]
     rw[e1,e2];exact g2
    ·simp[Rep]
 have hw:=h σ.w.heap.size b hcc τ _ ⟨hI,fun m hm=>hm.elim,trivial⟩
 refine callsIn_wide.1 (callsIn_of_wp_marks (n:=0) hf hbd trivial (wpIn_mono hw ?_))
 rintro e a' w' ⟨σ',s',e',rfl,h2,h3,h4,h5⟩
 have h2:Evo τ σ':=h2
 have fin:∀(ρ0:Cf) (hp':Hp) (cnt':Nat),Evo τ ρ0→HInv ρ0 hp'→TInv ρ0 s'.env a'→F7 r' r ⟨s'.env,hp',cnt'⟩→LeavesInM Fence.wide 0 P fn a'.tmps (fun e w'=>∃v',e= .returned v'∧(∀(b:Nat) (o:Obj),σ.w.heap[b]? =some o→w'.heap[b]? =some o)∧SameO σ.w w'∧Cg r=true∧Rep (σ.at w') r v') [] .returning ρ0.w:=by
  rintro ρ0 hp' cnt' ev hh ht ⟨vc,xs,g1,g2,g3,g4,g5⟩
  have hI':Inv ρ0 s'.env hp' {a' with defers:=[]} fn.ntmps (σ.w.heap.size,false):=⟨hh,ht,h3.1.sz,DOK.nil ev.sz (hgt.mono ev)⟩
  obtain⟨us,k1,k2⟩:=Gt (s:=⟨s'.env,hp',cnt'⟩) hI' hr g1 g2
  refine⟨_,Gu k1,_,rfl,fun b o hb=>(ev.fro b o hb (fun h=>h)).1,ev.io,g5, ?_⟩
  have hone:Rep ρ0 (one xs) (if h:us.toArray.size=1 then us.toArray[0] else .tuple us.toArray):=by
   have hl':=Bz k2
   unfold one
   split
   ·rename_i x
    simp only[RepL] at k2
    obtain⟨y,ys,rfl,e2,rfl⟩:=k2
    simpa using e2
   ·rename_i hno
    have hne:us.toArray.size≠1:=by
     intro h1
     simp at h1
     rw[h1] at hl'
     cases xs with
     |nil=>simp at hl'
     |cons x xs=>cases xs with
      |nil=>exact hno x rfl
      |cons _ _=>simp at hl'
    rw[dif_neg hne]
    simp only[Rep]
    exact⟨us,rfl,k2⟩
  let ρ:Cf:={ρ0 with M:=fun _=>False}
  have e:Evo ρ0 ρ:=⟨fun _ h=>⟨h,rfl⟩,fun _ _ l h=>⟨l,h,Nat.le_refl _,fun _=>rfl⟩,fun _ _ h _=>⟨h,fun h=>h⟩,rfl,Nat.le_refl _,SameO.refl _⟩
  have h6:=Kw (τ:=ρ) hI'.h e rfl (fun _ h=>h) _ _ g3 hone
  have h7:=Hx _ _ _ g4 h6
  refine Rep.ofPure (σ:=ρ) (σ':=σ.at ρ0.w) (fun b hb=> ?_) (fun _ _=>rfl) r _ g5 h7
  have hO:ρ.O=τ.O:=ev.out
  have hb1:=hb.2.1
  rw[hO] at hb1
  exact⟨fun h=>hb1 (.inl h),fun h=>hb1 (.inr h),hb.2.2⟩
 obtain⟨ms,dd,q1,_,_,q4⟩:=h3.1.df.sp
 have hms:=q4.2.2.2 rfl
 subst hms
 rw[List.nil_append] at q1
 have clo:∀(u:FrameMode) (rv:Value) (u':FrameMode) (fc:Nat) (ys:List AV),u≠.run→Rcv u rv u'→settle u'= .returning→lk s'.env (dk fn.ntmps)= .gd false (.clo (.func fc) [] ys)→
   Om P S fc ys rv s'.hp s'.cnt (fun t=>F7 r' r ⟨s'.env,t.hp,t.cnt⟩)→LeavesInM Fence.wide 0 P fn a'.tmps (fun e w'=>∃v',e= .returned v'∧(∀(b:Nat) (o:Obj),σ.w.heap[b]? =some o→w'.heap[b]? =some o)∧SameO σ.w w'∧Cg r=true∧Rep (σ.at w') r v') a'.defers u σ'.w:=by
  rintro u rv u' fc ys hrun hu hset hk ⟨fnc,rid,d,ntf,ac,z1,z2,z3,z4,z5,z6⟩
  obtain⟨vals,y1,y2⟩:=q4.2.2.1 rfl fc ys hk
  rw[q1,y2]
  refine⟨hrun,.inr ⟨fun h=>by simp[Fence.wide] at h,.func fc,vals.toArray,fc,vals.toArray,rfl, ?_,fun _ _=>trivial, ?_⟩⟩
  ·simp only[invoke]
   have:=EH z5 (#[]++vals.toArray) σ'.w
   simpa using this
  ·refine(ZI hS z1 z2 z3 hu h3.1.df.gl h3.1.h h3.2.1 y1 z4 (z6 _)).mono ?_
   rintro e u2 w2 ⟨v,τ2,t,rfl,rfl,rfl,ev2,hh2,hal2,hk2⟩
   show LeavesInM _ _ _ _ _ _ [] (settle u2) _
   rw[hset]
   exact fin τ2 t.hp t.cnt (h2.trans ev2) hh2 (h3.1.t.mono ev2) hk2
 have done:((lk s'.env (dk fn.ntmps)= .gd false (.tup [])∧F7 r' r s')∨∃fc ys,lk s'.env (dk fn.ntmps)= .gd false (.clo (.func fc) [] ys)∧Om P S fc ys .nilIface s'.hp s'.cnt fun t=>F7 r' r ⟨s'.env,t.hp,t.cnt⟩)→LeavesInM Fence.wide 0 P fn a'.tmps (fun e w'=>∃v',e= .returned v'∧(∀(b:Nat) (o:Obj),σ.w.heap[b]? =some o→w'.heap[b]? =some o)∧SameO σ.w w'∧Cg r=true∧Rep (σ.at w') r v') a'.defers .returning σ'.w:=by
  rintro(⟨k0,k1⟩|⟨fc,ys,k0,k1⟩)
  ·have hdd:=q4.2.1 rfl k0
   rw[q1,hdd]
   exact fin σ' s'.hp s'.cnt h2 h3.1.h h3.1.t k1
  ·exact clo .returning .nilIface .returning fc ys (by simp) ZG rfl k0 k1
 cases e with
 |normal=>simp[AE.of] at h4;subst h4;exact done h5
 |ret=>simp[AE.of] at h4;subst h4;exact done h5
 |exit i=>simp[AE.of] at h4;subst h4;exact h5.elim
 |goto l=>simp[AE.of] at h4
 |panic c=>
  obtain⟨v,rfl,rfl⟩:=AE.of_panic h4
  obtain⟨fc,ys,k0,k1⟩:=h5
  exact clo (.panicking [⟨v,false,false⟩]) v (.panicking [⟨v,true,false⟩]) fc ys (by simp) (ZH v) rfl k0 k1
 |outgrown=>simp[AE.of] at h4
end Go.Proofs.YtciphecegkfaiaaGreat.Am
