import Derived.Test.YtdabfcbelkjmgaaGreatDoorA10
import Derived.RangeFuncNested
namespace Go.Proofs.YtdabfcbelkjmgaaGreatDoor.Am
set_option linter.unusedSimpArgs false
set_option linter.unusedVariables false
open Go
def Ctx.rdG (P:Program) (S:Tab) (nt l:Nat):Ctx:={P:=P,F:=Fence.wide.inRound l,S:=S,nt:=nt,hb:=(0,false),R:=Evo,G:=fun _ σ=>∃r:Loop,σ.w.heap[l]? =some (.loop r)∧¬σ.M l∧σ.w.heap[r.defers]? =some (.deferred (some []))∧¬σ.M r.defers,ofE:=id,tr:=Evo.trans,g:=fun⟨r,h1,h2,h3,h4⟩ e _=>⟨r,(e.fro _ _ h1 h2).1,(e.fro _ _ h1 h2).2,(e.fro _ _ h3 h4).1,(e.fro _ _ h3 h4).2⟩}
theorem Ctx.rdG_ok {P:Program} {S:Tab} {nt l:Nat} (h:TabOK P S):(Ctx.rdG P S nt l).OK:=⟨h,.inr ⟨l,Eq.refl _⟩⟩
theorem Qg {P:Program} {S:Tab} {nt l:Nat}:(Ctx.rdG P S nt l).S=S:=rfl
attribute [go_sem] Qg
def TrL (xs:List AV):Prop:=∀(σ σ':Cf),(∀b,Fz σ b→(∃cs T f,σ.w.heap[b]? =some (.cells cs T f))→Fz σ' b)→(∀b,Fz σ b→σ'.w.heap[b]? =σ.w.heap[b]?)→∀vs,RepL σ xs vs→RepL σ' xs vs
theorem TrL.nil:TrL []:=fun _ _ _ _ _ h=>by simpa [RepL] using h
section
variable {P:Program} {S:Tab} {nt hbo:Nat} {φ:RFix} {X:Type} {I:X→Hp×Nat} {Pre:X→Prop} {K:X→Nat} {Q:AE→St→Prop}
theorem RJ.rndG {ps:Array Nat} {assign body:Code} {fn:FuncId} {asg bdy:AC} {xs:List (List AV)} (hlp:φ.lp=fun st pe=>{state:=st,pending:=pe,fn:=fn,tmps:=φ.a.tmps,params:=ps,assign:=assign,body:=body,defers:=φ.D})
  (hca:cCode P nt assign=some asg) (hcb:cCode P nt body=some bdy) (hps:∀p∈ps.toList,p<nt) (hpure:∀args∈xs,AH args=true∧args.length=ps.toList.length)
  (hround:∀x,Pre x→∀args,xs[K x]? =some args→awp (Ctx.rdG P S nt φ.l) asg (DM (Ctx.rdG P S nt φ.l) bdy (Dg φ.e I Pre K (K x+1) Q)) ⟨Dt ps.toList args φ.e,(I x).1,(I x).2⟩)
  (hls:φ.ss.w.heap.size≤φ.l) (hDd:∀so si hp,Way φ.ss so si→Inv so φ.e hp φ.a nt (hbo,false)→¬so.M φ.D)
  {k:Nat} {args:List AV} {si:Cf} {hpi:Hp} {vals:List Value} (h:RJ (Ctx.fn P S nt hbo) φ I Pre K Q k si) (hi:HInv si hpi) (hxs:xs[k]? =some args) (hv:RepL si args vals):
  ∃f tmps assign body,(Instr.yield φ.l vals.toArray).run P si.w= .ok (.round φ.l f tmps assign body) si.w∧RoundIn Fence.wide 0 P φ.l f tmps assign body si.w fun e w'=>∃(b:Bool) (σ':Cf),e= .returned (.bool b)∧σ'.w=w'∧Oth si σ'∧(∀(b:Nat) (o:Obj),¬si.O b→si.w.heap[b]? =some o→σ'.w.heap[b]? =some o∧¬σ'.O b)∧RJ (Ctx.fn P S nt hbo) φ I Pre K Q (if b=true then k+1 else-1) σ':=by
 obtain⟨so,hp,cnt,st,pe,h1,h2,h3,h4,h8,h5,h6,h7⟩:=h
 rcases h7 with⟨x,hx,hk,rfl,rfl,rfl,rfl⟩|⟨hk,_⟩
 ·have hk:K x=k:=by omega
  obtain⟨hpu,hlen⟩:=hpure args (List.mem_of_getElem? hxs)
  have hvl:=AP hv
  have hDM:¬so.M φ.D:=hDd so si _ h2 h3
  have hdis:∀b,so.O b→b<so.w.heap.size∧¬so.M b:=fun b hb=>⟨h3.h.ou b hb,fun hM=>h3.h.dis b hM hb⟩
  have hv':RepL so args vals:=RepL.ofPure (σ:=si) (σ':=so) (fun b hb=>⟨fun hm=>hb.2.1 ((h1.oi b).2 (.inl hm)),fun ho=>by
   rcases(h1.oo b).1 ho with g|g
   ·exact hb.2.1 ((h1.oi b).2 (.inr (.inl g)))
   ·exact hb.1 g.1,by rw[h1.w];exact hb.2.2⟩) (fun _ _=>by rw[h1.w]) args vals hpu hv
  have hy:=run_yield (P:=P) (args:=vals.toArray) (w:=si.w) (l:=φ.l) (by rw[←h1.w];exact h5) (by rw[hlp];simp at hlen⊢;omega)
  rw[hlp] at hy
  refine⟨_,_,_,_,hy, ?_⟩
  have hT:=FJ (d':=[]) (σ:=so) (ps:=ps.toList) (args:=args) (vals:=vals) (e:=φ.e) (tmps:=φ.a.tmps) (d:=φ.a.defers) h3.t hv' hlen (fun p hp=>by rw[h3.sz];exact hps p hp)
  have hfold:(ps.zip vals.toArray).foldl (fun t (p,v)=>t.setIfInBounds p v) φ.a.tmps=(ps.toList.zip vals).foldl (fun t (p,v)=>t.setIfInBounds p v) φ.a.tmps:=by
   rw[←Array.foldl_toList];simp
  refine roundIn_of_wpIn (F:=Fence.wide) trivial ?_
  rw[hfold,←h1.w]
  have ha:=hround x hx args (by rw[hk];exact hxs) assign hca so {tmps:=_,defers:=[]} ⟨⟨h3.h,hT.1,by rw[hT.2];exact h3.sz,DOK.nil (Nat.zero_le _) h3.df.gl⟩,h4,⟨φ.lp .ready none,h5,h8,by rw[hlp];exact h6,by rw[hlp];exact hDM⟩⟩
  refine wpIn_mono ha ?_
  rintro e a1 w1 ⟨s1,t1,e',rfl,ev1,at1,he,hq⟩
  have ev1:Evo so s1:=ev1
  cases e with
  |normal=>
   simp[AE.of] at he;subst he
   obtain⟨b1,b2⟩:=ev1.fro _ _ h5 h8
   have dis1:∀b,s1.O b→b<s1.w.heap.size∧¬s1.M b:=fun b hb=>⟨at1.1.h.ou b hb,fun hM=>at1.1.h.dis b hM hb⟩
   obtain⟨s2,hs2,o2,r2,l2,k2⟩:=CV (r':={φ.lp .ready none with state:= .busy}) dis1 b2 b1
   have m2:¬s2.M φ.l:=by rw[o2.M];exact b2
   refine⟨s2.w, ?_, ?_⟩
   ·rw[hs2]
    exact run_beginRound b1 (by rw[hlp])
   have hDl:φ.D≠φ.l:=by intro e;rw[e,h5] at h6;simp at h6
   have hb:=hq body hcb s2 a1 ⟨⟨at1.1.h.oth o2,at1.1.t.ev o2.ev,at1.1.sz,at1.1.df.rd r2 b1 (.inl rfl)⟩,fun m hm=>at1.2.1 m (by rw[o2.al] at hm;exact hm),⟨_,l2,m2,by rw[hlp];exact k2 _ _ hDl (ev1.fro _ _ h6 hDM).1,by rw[hlp,o2.M];exact(ev1.fro _ _ h6 hDM).2⟩⟩
   refine wpIn_mono hb ?_
   rintro e a3 w3 ⟨s3,t3,e',rfl,ev3,at3,he,hq3⟩
   have ev3:Evo s2 s3:=ev3
   obtain⟨c1,c2⟩:=ev3.fro _ _ l2 m2
   have dis3:∀b,s3.O b→b<s3.w.heap.size∧¬s3.M b:=fun b hb=>⟨at3.1.h.ou b hb,fun hM=>at3.1.h.dis b hM hb⟩
   have fin:∀(jump:Option Code) (k':Int) (τ:Cf) (hp4:Hp) (cnt4:Nat),Evo s3 τ→τ.w=s3.w→HInv τ hp4→(∀m,τ.al m→m.2≤cnt4)→
     ((∃x,Pre x∧(K x:Int)=k'∧(if jump.isNone then LoopState.ready else .done)= .ready∧jump=none∧hp4=(I x).1∧cnt4=(I x).2)∨(k'= -1∧∃c e',(if jump.isNone then LoopState.ready else .done)= .done∧jump=some c∧HJ c e'∧Q e' ⟨φ.e,hp4,cnt4⟩))→
     ∃v w4,(Instr.endRound φ.l jump).run P s3.w= .ok v w4∧v= .bool jump.isNone∧∃σ':Cf,σ'.w=w4∧Oth si σ'∧(∀(b:Nat) (o:Obj),¬si.O b→si.w.heap[b]? =some o→σ'.w.heap[b]? =some o∧¬σ'.O b)∧RJ (Ctx.fn P S nt hbo) φ I Pre K Q k' σ':=by
    intro jump k' τ hp4 cnt4 eτ wτ hτ alτ h7'
    obtain⟨q1,q2⟩:=eτ.fro _ _ c1 c2
    have disτ:∀b,τ.O b→b<τ.w.heap.size∧¬τ.M b:=fun b hb=>⟨hτ.ou b hb,fun hM=>hτ.dis b hM hb⟩
    obtain⟨s4,hs4,o4,r4,l4,_⟩:=CV (r':=φ.lp (if jump.isNone then LoopState.ready else .done) jump) disτ q2 q1
    refine⟨_,s4.w, ?_,rfl, ?_⟩
    ·rw[hs4,wτ]
     have:=run_endRound (P:=P) jump c1
     rw[hlp] at this⊢
     exact this
    ·obtain⟨si',y1,y2,y3,y4⟩:=LZ (Γ:=Ctx.fn P S nt hbo) (K:=K) (Pre:=Pre) (I:=I) (Q:=Q) h1 h2 h3 h8 h5 h6 hDM hi hls ((ev1.rd.trans r2).trans ((ev3.rd.trans eτ.rd).trans r4)) (hτ.oth o4) (by rw[o4.M];exact q2) l4 (fun m hm=>alτ m (by rw[o4.al] at hm;exact hm)) h7'
     exact⟨si',y1,y2,y3,y4⟩
   cases e with
   |normal=>
    simp[AE.of] at he;subst he
    obtain⟨x',p1,p2,p3⟩:=hq3
    have hA:At (Ctx.fn P S nt 0) s3 ⟨φ.e,t3.hp,t3.cnt⟩ φ.a:=⟨⟨at3.1.h,h3.t.ev (((ev1.rd.trans r2).trans ev3.rd).ev c2 h5),h3.sz,DOK.rd (DOK.of rfl (fun d hd=>by obtain⟨r,r1,_,r3⟩:=h3.df.all rfl d hd;exact⟨r,r1,Nat.zero_le _,r3⟩) (h3.df.nd rfl) (Nat.zero_le _) h3.df.gl) ((ev1.rd.trans r2).trans ev3.rd) h5 (.inl rfl)⟩,at3.2.1,trivial⟩
    obtain⟨τ,w1,e1,a1'⟩:=hA.le p3
    obtain⟨v,w4,g1,rfl,σ',g3,g4,g5,g6⟩:=fin none (k+1) τ _ _ e1 w1 a1'.1.h a1'.2.1 (.inl ⟨x',p1,by omega,rfl,rfl,rfl,rfl⟩)
    exact⟨_,w4,g1,true,σ',rfl,g3,g4,fun b o hb ho=>g5 b o hb (by rw[←h1.w];exact ho),by simpa using g6⟩
   |ret=>
    simp[AE.of] at he;subst he
    obtain⟨v,w4,g1,rfl,σ',g3,g4,g5,g6⟩:=fin (some .ret) (-1) s3 _ _ (Evo.refl s3) rfl at3.1.h at3.2.1 (.inr ⟨rfl,_,.r,rfl,rfl,.inl ⟨rfl,rfl⟩,hq3⟩)
    exact⟨_,w4,g1,false,σ',rfl,g3,g4,fun b o hb ho=>g5 b o hb (by rw[←h1.w];exact ho),by simpa using g6⟩
   |exit i=>
    simp[AE.of] at he;subst he
    obtain⟨v,w4,g1,rfl,σ',g3,g4,g5,g6⟩:=fin (some (.exit i)) (-1) s3 _ _ (Evo.refl s3) rfl at3.1.h at3.2.1 (.inr ⟨rfl,_,.x i,rfl,rfl,.inr ⟨i,rfl,rfl⟩,hq3⟩)
    exact⟨_,w4,g1,false,σ',rfl,g3,g4,fun b o hb ho=>g5 b o hb (by rw[←h1.w];exact ho),by simpa using g6⟩
   |goto l=>simp[AE.of] at he
   |panic c=>obtain⟨v,rfl,rfl⟩:=AE.of_panic he;exact hq3.elim
   |outgrown=>simp[AE.of] at he
  |exit i=>simp[AE.of] at he;subst he;exact hq.elim
  |ret=>simp[AE.of] at he;subst he;exact hq.elim
  |goto l=>simp[AE.of] at he
  |panic c=>obtain⟨v,rfl,rfl⟩:=AE.of_panic he;exact hq.elim
  |outgrown=>simp[AE.of] at he
 ·omega
end
section
variable {P:Program} {S:Tab} {nt hbo:Nat}
theorem QM {X:Type} (I:X→Hp×Nat) (Pre:X→Prop) (K:X→Nat) (x0:X) {f:Opd} {ps:List Nat} {asg bdy:AC} {Q:AE→St→Prop} {e:Env} {h:Hp} {c fi:Nat} {fst cps:List AV} {xs:List (List AV)}
  (hx:ung true (opv e f)= .clo (.func fi) fst cps) (hit:ItC P fi fst cps xs) (hok:okF P fi) (hpu:AH fst=true∧AH cps=true) (hps:∀p∈ps,p<nt) (hpure:∀args∈xs,AH args=true∧args.length=ps.length)
  (h0:Pre x0) (hk0:K x0=0) (hle:Le ⟨e,(I x0).1,(I x0).2⟩ ⟨e,h,c⟩)
  (round:∀l x,Pre x→∀args,xs[K x]? =some args→awp (Ctx.rdG P S nt l) asg (DM (Ctx.rdG P S nt l) bdy (Dg e I Pre K (K x+1) Q)) ⟨Dt ps args e,(I x).1,(I x).2⟩)
  (hend:∀x,Pre x→K x=xs.length→Q .n ⟨e,(I x).1,(I x).2⟩):awp (Ctx.fn P S nt hbo) (.rfun f ps asg bdy) Q ⟨e,h,c⟩:=by
 intro code hc σ a hA
 cases code with
 |rangeFunc g ps' assign body=>
  simp only[cCode] at hc
  split at hc
  ·rename_i x' y' hca hcb
   simp at hc
   obtain⟨rfl,rfl,rfl,rfl⟩:=hc
   obtain⟨ss,w0,ev0,A0⟩:=hA.le hle
   rw[←w0]
   refine wpIn_mono (Q:=lift (Ctx.fn P S nt hbo) ss Q) ?_ fun e a w k=>k.mono (Ctx.ofE _ ev0)
   have hX:=BC (g:=true) rfl A0.1.t g
   rw[hx] at hX
   simp only[Rep] at hX
   obtain⟨fs,cs,hX,hf1,hc1⟩:=hX
   refine wpIn_rangeFunc (F:=Fence.wide) fun fn _=> ?_
   let lp:LoopState→Option Code→Loop:=fun st pe=>{state:=st,pending:=pe,fn:=fn,tmps:=a.tmps,params:=ps',assign:=assign,body:=body,defers:=ss.w.heap.size}
   let W1:World:=(ss.w.alloc (.deferred (some []))).alloc (.loop (lp .ready none))
   have hL1:W1.heap[ss.w.heap.size+1]? =some (.loop (lp .ready none)):=by
    have:=World.alloc_heap_new (ss.w.alloc (.deferred (some []))) (.loop (lp .ready none));rwa [World.size_alloc] at this
   have hsz1:W1.heap.size=ss.w.heap.size+2:=by simp[W1]
   have hkeep:∀(b:Nat) (o:Obj),ss.w.heap[b]? =some o→W1.heap[b]? =some o:=fun b o hb=>by
    have hlt:=(Array.getElem?_eq_some_iff.1 hb).1
    rw[AR (by simp;omega),AR hlt];exact hb
   have hK1:W1.heap[ss.w.heap.size]? =some (.deferred (some [])):=by
    rw[AR (by simp)];exact World.alloc_heap_new ss.w _
   let D:=ss.w.heap.size
   let l:=ss.w.heap.size+1
   let a0:Act:={a with defers:=[{target:= .collected D,args:= #[]}]++a.defers}
   let φ:RFix:={O0:=ss.O,l:=l,D:=D,ss:=ss,e:=e,a:=a0,lp:=lp}
   let so:Cf:=ss.at W1
   have evs:Evo ss so:=Evo.at hkeep ⟨rfl,rfl⟩
   let si:Cf:={rb:=fun _=>0,ra:=fun _=>(none,0),M:=fun _=>False,O:=fun b=>ss.M b∨ss.O b∨b=l∨b=D,ln:=fun _=>none,al:=fun _=>False,w:=W1}
   have hgsi:Gl si:=fun b j hj=>by
    obtain⟨g1,g2⟩:=A0.1.df.gl b j hj
    have g3:=(Gl.mono A0.1.df.gl evs b j hj).2
    refine⟨⟨fun h=>h, ?_, ?_⟩,g3⟩
    ·have:=g1.2.2
     rintro(h|h|h|h)
     ·exact g1.1 h
     ·exact g1.2.1 h
     ·simp only[l] at h;omega
     ·simp only[D] at h;omega
    ·show b<W1.heap.size
     have:=g1.2.2;omega
   have hdf:∀d∈φ.a.defers,∃r,d={target:= .collected r,args:= #[]}∧(r<φ.ss.w.heap.size∨r=φ.D):=by
    intro d hd
    simp only[φ,a0,List.cons_append,List.nil_append,List.mem_cons] at hd
    rcases hd with rfl|hd
    ·exact⟨D,rfl,.inr rfl⟩
    ·obtain⟨r,r1,_,r3,_⟩:=A0.1.df.all rfl d hd
     exact⟨r,r1,.inl (Array.getElem?_eq_some_iff.1 r3).1⟩
   have nM:∀b,ss.w.heap.size≤b→¬ss.M b:=fun b hb hm=>by have:=A0.1.h.lt b hm;omega
   have nO:∀b,ss.w.heap.size≤b→¬ss.O b:=fun b hb hm=>by have:=A0.1.h.ou b hm;omega
   have hso:HInv so (I x0).1:=A0.1.h.at hkeep ⟨rfl,rfl⟩
   have hsi:HInv si []:=⟨fun _=>rfl,fun n j c h=>by simp[hl] at h,fun n sz live rows d h=>by simp[hl] at h,by
    rintro p q b (⟨_,_,j,c,h⟩|⟨_,⟨_,_,_,h⟩,_⟩) _<;>simp[hl] at h,fun b h=>h.elim,fun b hb=>by
     show b<W1.heap.size
     rw[hsz1]
     rcases hb with hb|hb|rfl|rfl
     ·have:=A0.1.h.lt b hb;omega
     ·have:=A0.1.h.ou b hb;omega
     ·simp only[l];omega
     ·simp only[D];omega,fun b h=>h.elim⟩
   have hJ0:RJ (Ctx.fn P S nt hbo) φ I Pre K Q 0 si:=by
    refine⟨so,(I x0).1,(I x0).2,.ready,none,⟨rfl,fun b=>Iff.rfl,fun b=>⟨.inl,fun h=>h.elim id fun h=>h.1.elim⟩,fun b h=>h.elim,hsi.ou⟩,⟨evs.box,evs.arr,evs.fro,fun _ _ _ h=>h.elim,evs.sz,evs.io⟩,
     ⟨hso,A0.1.t.mono evs,A0.1.sz,DOK.of rfl (fun d hd=> ?_) ?_ (Nat.le_trans A0.1.df.le evs.sz) (A0.1.df.gl.mono evs)⟩,A0.2.1,nM _ (Nat.le_succ _),hL1,hK1,.inl ⟨x0,h0,by simp[hk0],rfl,rfl,rfl,rfl⟩⟩
    ·simp only[φ,a0,List.cons_append,List.nil_append,List.mem_cons] at hd
     rcases hd with rfl|hd
     ·exact⟨D,rfl,A0.1.df.le,hK1,nM _ (Nat.le_refl _),nO _ (Nat.le_refl _)⟩
     ·exact(A0.1.df.mono evs).all rfl d hd
    ·simp only[φ,a0,List.cons_append,List.nil_append]
     refine List.pairwise_cons.2 ⟨fun d hd he=> ?_,A0.1.df.nd rfl⟩
     obtain⟨r,rfl,_,r3,_⟩:=A0.1.df.all rfl d hd
     have:D=r:=by simpa using he
     have:=(Array.getElem?_eq_some_iff.1 r3).1
     omega
   have hDn:∀so si hp,Way φ.ss so si→Inv so φ.e hp φ.a nt (hbo,false)→¬so.M φ.D:=fun so si hp _ h3=>by
    obtain⟨r,r1,_,_,r4,_⟩:=h3.df.all rfl {target:= .collected D,args:= #[]} (by simp[φ,a0])
    have:φ.D=r:=by simpa using r1
    rw[this];exact r4
   have hR:Rng P Fence.wide l (ss.w.heap.size+2) xs (RJ (Ctx.fn P S nt hbo) φ I Pre K Q):=
    {evo:=fun hj ev=>hj.evo hdf ev
     oth:=fun hj o hO hP=>hj.oth (hb:=ss.w.heap.size+2) (by simp only[φ];omega) hdf o hO hP
     rnd:=fun hj hi hxs hv=>RJ.rndG (φ:=φ) (fn:=fn) (ps:=ps') rfl hca hcb hps hpure (round l) (by simp only[φ,l];omega) hDn hj hi hxs hv}
   have hvals:RepL si (fst++AV.clo (.yield l) [] []::cps) (fs++ .func (.yield l) #[] #[]::cs):=by
    have pu:∀ys vs,AH ys=true→RepL ss ys vs→RepL si ys vs:=fun ys vs hp hr=>by
     have h1:RepL so ys vs:=RepL.mono evs ys vs hr
     refine RepL.ofPure (σ:=ss) (σ':=si) (fun b hb=>⟨fun h=>h, ?_,by show b<W1.heap.size;have:=hb.2.2;omega⟩) (fun b hb=> ?_) ys vs hp hr
     ·have:=hb.2.2
      rintro(g|g|rfl|rfl)
      ·exact hb.1 g
      ·exact hb.2.1 g
      ·simp only[l] at this;omega
      ·simp only[D] at this;omega
     ·have:=Array.getElem?_eq_getElem hb.2.2
      show W1.heap[b]? =_
      rw[this];exact hkeep b _ this
    refine Bq (pu _ _ hpu.1 hf1) ?_
    simp only[RepL]
    exact⟨_,_,rfl,by simp[Rep,RepL],pu _ _ hpu.2 hc1⟩
   refine⟨l,[{target:= .collected D,args:= #[]}],W1,{target:= .fn (.func fi) cs.toArray,args:=fs.toArray++ #[.func (.yield l) #[] #[]]},W1,fi,(fs.toArray++ #[.func (.yield l) #[] #[]])++cs.toArray,W1,run_enterLoop_outer _ _ _ _ _, ?_,fun _ _=>trivial, ?_,fun h=>by simp[Fence.wide] at h, ?_⟩
   ·have hy:Array.map a.eval #[.const (.func (.yield l) #[] #[])]= #[.func (.yield l) #[] #[]]:=by simp[Act.eval]
    simp only[resolve,rangeCall,hy,hX,Deferred.ofValue,Sem.run_pure]
   ·simp only[invoke]
    exact BN hok _ _
   have harr:(fs.toArray++ #[.func (.yield l) #[] #[]])++cs.toArray=(fs++ .func (.yield l) #[] #[]::cs).toArray:=by apply Array.ext';simp
   rw[harr]
   refine(hit l (ss.w.heap.size+2) _ si _ hR hJ0 hsi (fun _ h=>h) hvals (by show _≤W1.heap.size;omega) hgsi).mono ?_
   rintro en w' ⟨v,σ',rfl,rfl,hj⟩
   have key:∀hp cnt st pe so2,Pair φ.O0 φ.l φ.D so2 σ'→Way φ.ss so2 σ'→Inv so2 φ.e hp φ.a nt (hbo,false)→(∀m,so2.al m→m.2≤cnt)→¬so2.M φ.l→so2.w.heap[φ.l]? =some (.loop (φ.lp st pe))→st≠.busy→
     ∃s5:Cf,(Instr.endLoop l).run P σ'.w= .ok pe s5.w∧Evo ss s5∧At (Ctx.fn P S nt hbo) s5 ⟨e,hp,cnt⟩ a0:=by
    intro hp cnt st pe so2 h1 h2 h3 h4 h8 h5 hb
    have dis2:∀b,so2.O b→b<so2.w.heap.size∧¬so2.M b:=fun b hb=>⟨h3.h.ou b hb,fun hM=>h3.h.dis b hM hb⟩
    obtain⟨s4,hs4,o4,r4,l4,k4⟩:=CV (r':={φ.lp st pe with state:= .exhausted}) dis2 h8 h5
    have hOs:∀b,ss.O b→s4.O b:=fun b hb=>by rw[r4.out];exact(h1.oo b).2 (.inl hb)
    let s5:Cf:={s4 with O:=ss.O}
    have h4i:=h3.h.oth o4
    have o5:Oth s4 s5:=⟨rfl,rfl,rfl,rfl,rfl,fun b hb=>⟨h4i.ou b (hOs b hb),fun hM=>h4i.dis b hM (hOs b hb),fun hf=>hf.2.1 (hOs b hb)⟩,Nat.le_refl _,fun _ _=>rfl,fun _ _ _ _ h=>h,SameO.refl _⟩
    have df4:=h3.df.rd r4 h5 (.inl rfl)
    refine⟨s5, ?_,⟨fun n hn=> ?_,fun n hn l' hl'=> ?_,fun b o ho hm=> ?_,rfl,Nat.le_trans h2.sz r4.sz,h2.io.trans r4.io⟩,⟨h4i.oth o5,(h3.t.ev o4.ev).ev o5.ev,h3.sz,DOK.of rfl (fun d hd=> ?_) (df4.nd rfl) df4.le (df4.gl.ev o5.ev)⟩,fun m hm=>h4 m ?_,trivial⟩
    ·have:=run_endLoop (P:=P) (w:=so2.w) h5 hb
     rw[h1.w] at this
     show _=Result.ok pe s4.w
     rw[hs4,this,h1.w]
    ·exact⟨(r4.box n (h2.box n hn).1).1,((r4.box n (h2.box n hn).1).2).trans (h2.box n hn).2⟩
    ·obtain⟨l1,g1,g2,g3⟩:=r4.arr n (h2.box n hn).1 l' hl'
     obtain⟨m,q1,q2,q3⟩:=h2.arr n hn l1 g1
     refine⟨m,q1,Nat.le_trans q2 g2,fun e=> ?_⟩
     have e1:m=l1:=by omega
     have e2:l1=l':=by omega
     exact(g3 e2).trans (q3 e1)
    ·obtain⟨g1,g2⟩:=h2.old b o ho hm
     have hlt:=(Array.getElem?_eq_some_iff.1 ho).1
     exact r4.fro b o (by intro e;subst e;simp only[φ,l] at hlt;omega) g1 g2
    ·obtain⟨r,r1,r2,r3,r4',r5⟩:=df4.all rfl d hd
     exact⟨r,r1,r2,r3,r4',fun h=>r5 (hOs r h)⟩
    ·have hm':s4.al m:=hm
     rw[o4.al] at hm';exact hm'
   have inv:∀{k:Int},RJ (Ctx.fn P S nt hbo) φ I Pre K Q k σ'→rangePost Fence.wide 0 P l (lift (Ctx.fn P S nt hbo) ss Q) a0 (.returned v) σ'.w∨False∨k≠xs.length∧k≠-1:=by
    intro k hj
    obtain⟨so2,hp,cnt,st,pe,h1,h2,h3,h4,h8,h5,h6,h7⟩:=hj
    rcases h7 with⟨x,hx,hk,rfl,rfl,rfl,rfl⟩|⟨hk,c',e',rfl,rfl,hjp,hq⟩
    ·by_cases hlen:K x=xs.length
     ·obtain⟨s5,g1,g2,g3⟩:=key _ _ _ _ so2 h1 h2 h3 h4 h8 h5 (by simp)
      exact .inl ⟨none,s5.w,g1,s5,_,.n,rfl,g2,g3,rfl,hend x hx hlen⟩
     ·exact .inr (.inr ⟨by omega,by omega⟩)
    ·obtain⟨s5,g1,g2,g3⟩:=key _ _ _ _ so2 h1 h2 h3 h4 h8 h5 (by simp)
     refine .inl ⟨some c',s5.w,g1, ?_⟩
     rcases hjp with⟨rfl,rfl⟩|⟨i,rfl,rfl⟩
     ·exact wpIn_ret ⟨s5,_,.r,rfl,g2,g3,rfl,hq⟩
     ·exact wpIn_exit ⟨s5,_,.x i,rfl,g2,g3,rfl,hq⟩
   rcases hj with hj|hj
   ·rcases inv hj with h|h|h
    ·exact h
    ·exact h.elim
    ·exact absurd rfl h.1
   ·rcases inv hj with h|h|h
    ·exact h
    ·exact h.elim
    ·exact absurd rfl h.2
  ·simp at hc
 |region id ops d=>
  simp only[cCode] at hc
  obtain⟨_,_,⟨_,e⟩|⟨_,_,_,_,e⟩⟩:=AW hc<;>cases e
 |seq x y=>simp only[cCode] at hc;split at hc<;>simp at hc
 |cond c x y=>simp only[cCode] at hc;split at hc<;>simp at hc
 |_=>simp[cCode] at hc
theorem QN {l0:Nat} {X:Type} (I:X→Hp×Nat) (Pre:X→Prop) (K:X→Nat) (x0:X) {f:Opd} {ps:List Nat} {asg bdy:AC} {Q:AE→St→Prop} {e:Env} {h:Hp} {c fi:Nat} {fst cps:List AV} {xs:List (List AV)}
  (hx:ung true (opv e f)= .clo (.func fi) fst cps) (hit:ItC P fi fst cps xs) (hok:okF P fi) (hpu:AH fst=true∧AH cps=true) (hps:∀p∈ps,p<nt) (hpure:∀args∈xs,AH args=true∧args.length=ps.length)
  (htr:TrL fst∧TrL cps) (h0:Pre x0) (hk0:K x0=0) (hle:Le ⟨e,(I x0).1,(I x0).2⟩ ⟨e,h,c⟩)
  (round:∀l x,Pre x→∀args,xs[K x]? =some args→awp (Ctx.rdG P S nt l) asg (DM (Ctx.rdG P S nt l) bdy (Dg e I Pre K (K x+1) Q)) ⟨Dt ps args e,(I x).1,(I x).2⟩)
  (hend:∀x,Pre x→K x=xs.length→Q .n ⟨e,(I x).1,(I x).2⟩):awp (Ctx.rdG P S nt l0) (.rfun f ps asg bdy) Q ⟨e,h,c⟩:=by
 intro code hc σ a hA
 cases code with
 |rangeFunc g ps' assign body=>
  simp only[cCode] at hc
  split at hc
  ·rename_i x' y' hca hcb
   simp at hc
   obtain⟨rfl,rfl,rfl,rfl⟩:=hc
   obtain⟨ss,w0,ev0,A0⟩:=hA.le hle
   rw[←w0]
   refine wpIn_mono (Q:=lift (Ctx.rdG P S nt l0) ss Q) ?_ fun e a w k=>k.mono (Ctx.ofE _ ev0)
   have hX:=BC (g:=true) rfl A0.1.t g
   rw[hx] at hX
   simp only[Rep] at hX
   obtain⟨fs,cs,hX,hf1,hc1⟩:=hX
   refine wpIn_rangeFunc (F:=Fence.wide.inRound l0) fun fn _=> ?_
   obtain⟨r0,gl,gM,gD,gDM⟩:=A0.2.2
   let lp:LoopState→Option Code→Loop:=fun st pe=>{state:=st,pending:=pe,fn:=fn,tmps:=a.tmps,params:=ps',assign:=assign,body:=body,defers:=r0.defers}
   let W1:World:=ss.w.alloc (.loop (lp .ready none))
   have hL1:W1.heap[ss.w.heap.size]? =some (.loop (lp .ready none)):=World.alloc_heap_new ss.w (.loop (lp .ready none))
   have hsz1:W1.heap.size=ss.w.heap.size+1:=by simp[W1]
   have hkeep:∀(b:Nat) (o:Obj),ss.w.heap[b]? =some o→W1.heap[b]? =some o:=fun b o hb=>by
    have hlt:=(Array.getElem?_eq_some_iff.1 hb).1
    rw[AR hlt];exact hb
   have hK1:W1.heap[r0.defers]? =some (.deferred (some [])):=hkeep _ _ gD
   have hDlt:r0.defers<ss.w.heap.size:=(Array.getElem?_eq_some_iff.1 gD).1
   let D:=r0.defers
   let l:=ss.w.heap.size
   let a0:Act:={a with defers:=[]++a.defers}
   let φ:RFix:={O0:=ss.O,l:=l,D:=D,ss:=ss,e:=e,a:=a0,lp:=lp}
   let so:Cf:=ss.at W1
   have evs:Evo ss so:=Evo.at hkeep ⟨rfl,rfl⟩
   let si:Cf:={rb:=fun _=>0,ra:=fun _=>(none,0),M:=fun _=>False,O:=fun b=>ss.M b∨ss.O b∨b=l∨b=D,ln:=fun _=>none,al:=fun _=>False,w:=W1}
   have hgsi:Gl si:=fun b j hj=>by
    obtain⟨g1,g2⟩:=A0.1.df.gl b j hj
    have g3:=(Gl.mono A0.1.df.gl evs b j hj).2
    refine⟨⟨fun h=>h, ?_, ?_⟩,g3⟩
    ·have:=g1.2.2
     rintro(h|h|h|h)
     ·exact g1.1 h
     ·exact g1.2.1 h
     ·simp only[l] at h;omega
     ·simp only[D] at h;subst h;simp[World.cell?,gD] at g2
    ·show b<W1.heap.size
     have:=g1.2.2;omega
   have hdf:∀d∈φ.a.defers,∃r,d={target:= .collected r,args:= #[]}∧(r<φ.ss.w.heap.size∨r=φ.D):=by
    intro d hd
    simp only[φ,a0,List.nil_append] at hd
    obtain⟨r,r1,_,r3,_⟩:=A0.1.df.all rfl d hd
    exact⟨r,r1,.inl (Array.getElem?_eq_some_iff.1 r3).1⟩
   have nM:∀b,ss.w.heap.size≤b→¬ss.M b:=fun b hb hm=>by have:=A0.1.h.lt b hm;omega
   have nO:∀b,ss.w.heap.size≤b→¬ss.O b:=fun b hb hm=>by have:=A0.1.h.ou b hm;omega
   have hso:HInv so (I x0).1:=A0.1.h.at hkeep ⟨rfl,rfl⟩
   have hsi:HInv si []:=⟨fun _=>rfl,fun n j c h=>by simp[hl] at h,fun n sz live rows d h=>by simp[hl] at h,by
    rintro p q b (⟨_,_,j,c,h⟩|⟨_,⟨_,_,_,h⟩,_⟩) _<;>simp[hl] at h,fun b h=>h.elim,fun b hb=>by
     show b<W1.heap.size
     rw[hsz1]
     rcases hb with hb|hb|rfl|rfl
     ·have:=A0.1.h.lt b hb;omega
     ·have:=A0.1.h.ou b hb;omega
     ·simp only[l];omega
     ·simp only[D];omega,fun b h=>h.elim⟩
   have hJ0:RJ (Ctx.rdG P S nt l0) φ I Pre K Q 0 si:=by
    refine⟨so,(I x0).1,(I x0).2,.ready,none,⟨rfl,fun b=>Iff.rfl,fun b=>⟨.inl,fun h=>h.elim id fun h=>h.1.elim⟩,fun b h=>h.elim,hsi.ou⟩,⟨evs.box,evs.arr,evs.fro,fun _ _ _ h=>h.elim,evs.sz,evs.io⟩,
     ⟨hso,A0.1.t.mono evs,A0.1.sz,DOK.of rfl (fun d hd=> ?_) ?_ (Nat.le_trans A0.1.df.le evs.sz) (A0.1.df.gl.mono evs)⟩,A0.2.1,nM _ (Nat.le_refl _),hL1,hK1,.inl ⟨x0,h0,by simp[hk0],rfl,rfl,rfl,rfl⟩⟩
    ·simp only[φ,a0,List.nil_append] at hd
     exact(A0.1.df.mono evs).all rfl d hd
    ·simp only[φ,a0,List.nil_append]
     exact A0.1.df.nd rfl
   have hDn:∀so si hp,Way φ.ss so si→Inv so φ.e hp φ.a nt (0,false)→¬so.M φ.D:=fun so si hp h2 _=>(h2.old _ _ gD gDM).2
   have hR:Rng P Fence.wide l (ss.w.heap.size+1) xs (RJ (Ctx.rdG P S nt l0) φ I Pre K Q):=
    {evo:=fun hj ev=>hj.evo hdf ev
     oth:=fun hj o hO hP=>hj.oth (hb:=ss.w.heap.size+1) (by simp only[φ];omega) hdf o hO hP
     rnd:=fun hj hi hxs hv=>RJ.rndG (hbo:=0) (φ:=φ) (fn:=fn) (ps:=ps') rfl hca hcb hps hpure (round l) (by simp only[φ,l];omega) hDn hj hi hxs hv}
   have hvals:RepL si (fst++AV.clo (.yield l) [] []::cps) (fs++ .func (.yield l) #[] #[]::cs):=by
    have hFz:∀b,Fz ss b→(∃cs T f,ss.w.heap[b]? =some (.cells cs T f))→Fz si b:=fun b hb ⟨cs,T,f,hc⟩=>⟨fun h=>h,by
     have:=hb.2.2
     rintro(g|g|rfl|rfl)
     ·exact hb.1 g
     ·exact hb.2.1 g
     ·simp only[l] at this;omega
     ·simp only[D] at hc;rw[gD] at hc;simp at hc,by show b<W1.heap.size;have:=hb.2.2;omega⟩
    have hSm:∀b,Fz ss b→si.w.heap[b]? =ss.w.heap[b]? :=fun b hb=>by
     have:=Array.getElem?_eq_getElem hb.2.2
     show W1.heap[b]? =_
     rw[this];exact hkeep b _ this
    refine Bq (htr.1 ss si hFz hSm _ hf1) ?_
    simp only[RepL]
    exact⟨_,_,rfl,by simp[Rep,RepL],htr.2 ss si hFz hSm _ hc1⟩
   refine⟨l,[],W1,{target:= .fn (.func fi) cs.toArray,args:=fs.toArray++ #[.func (.yield l) #[] #[]]},W1,fi,(fs.toArray++ #[.func (.yield l) #[] #[]])++cs.toArray,W1,run_enterLoop_inner gl _ _ _ _ _, ?_,fun _ _=>trivial, ?_,fun h=>by simp[Fence.wide] at h, ?_⟩
   ·have hy:Array.map a.eval #[.const (.func (.yield l) #[] #[])]= #[.func (.yield l) #[] #[]]:=by simp[Act.eval]
    simp only[resolve,rangeCall,hy,hX,Deferred.ofValue,Sem.run_pure]
   ·simp only[invoke]
    exact BN hok _ _
   have harr:(fs.toArray++ #[.func (.yield l) #[] #[]])++cs.toArray=(fs++ .func (.yield l) #[] #[]::cs).toArray:=by apply Array.ext';simp
   rw[harr]
   refine(hit l (ss.w.heap.size+1) _ si _ hR hJ0 hsi (fun _ h=>h) hvals (by show _≤W1.heap.size;omega) hgsi).mono ?_
   rintro en w' ⟨v,σ',rfl,rfl,hj⟩
   have key:∀hp cnt st pe so2,Pair φ.O0 φ.l φ.D so2 σ'→Way φ.ss so2 σ'→Inv so2 φ.e hp φ.a nt (0,false)→(∀m,so2.al m→m.2≤cnt)→¬so2.M φ.l→so2.w.heap[φ.l]? =some (.loop (φ.lp st pe))→st≠.busy→
     ∃s5:Cf,(Instr.endLoop l).run P σ'.w= .ok pe s5.w∧Evo ss s5∧At (Ctx.rdG P S nt l0) s5 ⟨e,hp,cnt⟩ a0:=by
    intro hp cnt st pe so2 h1 h2 h3 h4 h8 h5 hb
    have dis2:∀b,so2.O b→b<so2.w.heap.size∧¬so2.M b:=fun b hb=>⟨h3.h.ou b hb,fun hM=>h3.h.dis b hM hb⟩
    obtain⟨s4,hs4,o4,r4,l4,k4⟩:=CV (r':={φ.lp st pe with state:= .exhausted}) dis2 h8 h5
    have hOs:∀b,ss.O b→s4.O b:=fun b hb=>by rw[r4.out];exact(h1.oo b).2 (.inl hb)
    let s5:Cf:={s4 with O:=ss.O}
    have h4i:=h3.h.oth o4
    have o5:Oth s4 s5:=⟨rfl,rfl,rfl,rfl,rfl,fun b hb=>⟨h4i.ou b (hOs b hb),fun hM=>h4i.dis b hM (hOs b hb),fun hf=>hf.2.1 (hOs b hb)⟩,Nat.le_refl _,fun _ _=>rfl,fun _ _ _ _ h=>h,SameO.refl _⟩
    have df4:=h3.df.rd r4 h5 (.inl rfl)
    have hl0:l0≠φ.l:=by have:=(Array.getElem?_eq_some_iff.1 gl).1;simp only[φ,l];omega
    have hDl:r0.defers≠φ.l:=by simp only[φ,l];omega
    refine⟨s5, ?_,⟨fun n hn=> ?_,fun n hn l' hl'=> ?_,fun b o ho hm=> ?_,rfl,Nat.le_trans h2.sz r4.sz,h2.io.trans r4.io⟩,⟨h4i.oth o5,(h3.t.ev o4.ev).ev o5.ev,h3.sz,DOK.of rfl (fun d hd=> ?_) (df4.nd rfl) df4.le (df4.gl.ev o5.ev)⟩,fun m hm=>h4 m ?_,⟨r0,(r4.fro _ _ hl0 (h2.old _ _ gl gM).1 (h2.old _ _ gl gM).2).1,(r4.fro _ _ hl0 (h2.old _ _ gl gM).1 (h2.old _ _ gl gM).2).2,(r4.fro _ _ hDl (h2.old _ _ gD gDM).1 (h2.old _ _ gD gDM).2).1,(r4.fro _ _ hDl (h2.old _ _ gD gDM).1 (h2.old _ _ gD gDM).2).2⟩⟩
    ·have:=run_endLoop (P:=P) (w:=so2.w) h5 hb
     rw[h1.w] at this
     show _=Result.ok pe s4.w
     rw[hs4,this,h1.w]
    ·exact⟨(r4.box n (h2.box n hn).1).1,((r4.box n (h2.box n hn).1).2).trans (h2.box n hn).2⟩
    ·obtain⟨l1,g1,g2,g3⟩:=r4.arr n (h2.box n hn).1 l' hl'
     obtain⟨m,q1,q2,q3⟩:=h2.arr n hn l1 g1
     refine⟨m,q1,Nat.le_trans q2 g2,fun e=> ?_⟩
     have e1:m=l1:=by omega
     have e2:l1=l':=by omega
     exact(g3 e2).trans (q3 e1)
    ·obtain⟨g1,g2⟩:=h2.old b o ho hm
     have hlt:=(Array.getElem?_eq_some_iff.1 ho).1
     exact r4.fro b o (by intro e;subst e;simp only[φ,l] at hlt;omega) g1 g2
    ·obtain⟨r,r1,r2,r3,r4',r5⟩:=df4.all rfl d hd
     exact⟨r,r1,r2,r3,r4',fun h=>r5 (hOs r h)⟩
    ·have hm':s4.al m:=hm
     rw[o4.al] at hm';exact hm'
   have inv:∀{k:Int},RJ (Ctx.rdG P S nt l0) φ I Pre K Q k σ'→rangePost (Fence.wide.inRound l0) 0 P l (lift (Ctx.rdG P S nt l0) ss Q) a0 (.returned v) σ'.w∨False∨k≠xs.length∧k≠-1:=by
    intro k hj
    obtain⟨so2,hp,cnt,st,pe,h1,h2,h3,h4,h8,h5,h6,h7⟩:=hj
    rcases h7 with⟨x,hx,hk,rfl,rfl,rfl,rfl⟩|⟨hk,c',e',rfl,rfl,hjp,hq⟩
    ·by_cases hlen:K x=xs.length
     ·obtain⟨s5,g1,g2,g3⟩:=key _ _ _ _ so2 h1 h2 h3 h4 h8 h5 (by simp)
      exact .inl ⟨none,s5.w,g1,s5,_,.n,rfl,g2,g3,rfl,hend x hx hlen⟩
     ·exact .inr (.inr ⟨by omega,by omega⟩)
    ·obtain⟨s5,g1,g2,g3⟩:=key _ _ _ _ so2 h1 h2 h3 h4 h8 h5 (by simp)
     refine .inl ⟨some c',s5.w,g1, ?_⟩
     rcases hjp with⟨rfl,rfl⟩|⟨i,rfl,rfl⟩
     ·exact wpIn_ret ⟨s5,_,.r,rfl,g2,g3,rfl,hq⟩
     ·exact wpIn_exit ⟨s5,_,.x i,rfl,g2,g3,rfl,hq⟩
   rcases hj with hj|hj
   ·rcases inv hj with h|h|h
    ·exact h
    ·exact h.elim
    ·exact absurd rfl h.1
   ·rcases inv hj with h|h|h
    ·exact h
    ·exact h.elim
    ·exact absurd rfl h.2
  ·simp at hc
 |region id ops d=>
  simp only[cCode] at hc
  obtain⟨_,_,⟨_,e⟩|⟨_,_,_,_,e⟩⟩:=AW hc<;>cases e
 |seq x y=>simp only[cCode] at hc;split at hc<;>simp at hc
 |cond c x y=>simp only[cCode] at hc;split at hc<;>simp at hc
 |_=>simp[cCode] at hc
end
section
variable {Γ:Ctx}
theorem Iz (hΓ:Γ.OK) {ops':Array Oper} {ops:List AOp} {WQ:Exit→Act→World→Prop} (bs:Nat) (e0:Env) (hx0:BO Γ.P Γ.nt ops' ops'.toList=some ops) (k i:Nat) (hki:k≤i) {yo:AOp} {K:AV→St→Prop} {σ:Cf} {a:Act} {e e1:Env} {h h1:Hp} {c:Nat} {vc:Prop}
  {f:Nat} {args:List AV} {fn:Func} {ac:AC} {rvs:List RV} {ntf:Nat}
  (hf:Γ.P.funcs[f]? =some fn) (hcf:Bl Γ.P fn=some (ac,rvs)) (hnt:fn.ntmps=ntf) (hok:okF Γ.P f) (hyo:ops[i]? =some yo) (hex:AM Γ.S (c+1) (bs+k) ((ops.drop k).take (i-k)) e h=some (vc,e1,h1)) (hvc:vc) (hg:Bv e1 yo.g=some true)
  (hca:B7 e1 yo.k=some (f,args)) (hn:args.length≤ntf) (hbody:∀hb,awp (Ctx.fn Γ.P Γ.S ntf hb) ac (Bz rvs K) ⟨A1 0 args,h1,c+1⟩)
  (hgl:∀t,Γ.nt≤t→lk e t=lk e0 t) (hI:Inv σ e h a Γ.nt Γ.hb) (hal:∀m,σ.al m→m.2≤c∨(m.2=c+1∧m.1<bs+k))
  (hrest:∀τ a' r s,Evo σ τ→Inv τ (AX yo.d r e1) s.hp a' Γ.nt Γ.hb→(∀m,τ.al m→m.2≤s.cnt)→(∀t,Γ.nt≤t→lk (AX yo.d r e1) t=lk e0 t)→K r s→wpOpsIn Γ.F 0 Γ.P ops' WQ (List.range' (i+1) (ops'.size-(i+1))) a' τ.w):
  wpOpsIn Γ.F 0 Γ.P ops' WQ (List.range' k (ops'.size-k)) a σ.w:=by
 obtain⟨c1,c2⟩:=Bm hx0
 obtain⟨_,t0⟩:=Bj k hx0
 obtain⟨t1,_⟩:=Bj (i-k) t0
 have hi:i<ops.length:=(List.getElem?_eq_some_iff.1 hyo).1
 have hsz:ops.length=ops'.size:=c1.trans (by simp)
 have hi':i<ops'.size:=by omega
 have ho:ops'[i]? =some ops'[i]:=Array.getElem?_eq_getElem hi'
 obtain⟨yo',g1,g2⟩:=c2 i ops'[i] (by simp)
 rw[hyo] at g1
 cases g1
 have hlen:((ops'.toList.drop k).take (i-k)).length=i-k:=by simp;omega
 have hr:List.range' k (ops'.size-k)=List.range' k ((ops'.toList.drop k).take (i-k)).length++(i::List.range' (i+1) (ops'.size-(i+1))):=by
  rw[hlen,←List.range'_succ]
  have:=List.range'_append_1 (s:=k) (m:=i-k) (n:=ops'.size-(i+1)+1)
  rw[show k+(i-k)=i by omega] at this
  rw[this]
  congr 1
  omega
 rw[hr]
 refine CU hΓ (cnt:=c) bs e0 _ ((ops'.toList.drop k).take (i-k)) k ((ops.drop k).take (i-k)) σ e e1 h h1 a vc hgl (fun j hj=> ?_) t1 hex hvc hI hal fun a1 σ1 ev1 hI1 hal1 hfar1=> ?_
 ·have:j<i-k:=by omega
  simp[List.getElem?_take,this]
 rw[wpOpsIn_cons]
 unfold wpOpIn
 simp only[ho]
 obtain⟨hno,k4,k3,vals,hv,hrun⟩:=HK hI1 g2 hok hca
 have hw:=BH hI1.t k4 hg
 simp only[hw,if_true]
 refine⟨fun f _=>hΓ.F.fn f, ?_⟩
 rw[Oper.semAt_eq _ a1.eval _ hno,hrun]
 refine⟨fun h=>by simp[hΓ.F.depth] at h,hΓ.F.calls ((callsIn_wide.1 (Ha hΓ.S hf hcf hnt hn hI1.df.gl hI1.h (cnt:=c+1) (fun m hm=>by rcases hal1 m hm with h|h<;>omega) hv (hbody _))).mono ?_)⟩
 rintro en w' ⟨v,τ,s,r,rfl,rfl,evτ,hτ,alτ,rv,hK⟩
 have hd:∀k,ops'[i].dst=some k→k<a1.tmps.size:=by
  rw[k3];intro d hd
  rw[hI1.sz];exact B3 g2 d hd
 have hI2:Inv τ (AX yo.d r e1) s.hp (a1.put ops'[i].dst v) Γ.nt Γ.hb:=by
  rw[←k3]
  exact⟨hτ,(hI1.t.mono evτ).put hd rv,by rw[Act.size_put];exact hI1.sz,by rw[Act.defers_put,Cu (fun d hd=>B3 g2 d (k3▸hd)) (show Γ.nt≤dk Γ.nt from Nat.le_add_right _ _)];exact hI1.df.mono evτ⟩
 exact hrest τ _ r s (ev1.trans evτ) hI2 alτ (fun t ht=>(Cu (B3 g2) ht).trans (hfar1 t ht)) hK
def I3 (P:Program) (S:Tab) (rid i j:Nat) (d:Option Nat) (mid:List AOp) (yo2:AOp) (post:List AOp) (f2 ntf2:Nat) (ac2:AC) (rvs2:List RV) (e1:Env) (Q:AE→St→Prop) (r:AV) (s:St):Prop:=
 ∃(vc2:Prop) (e2:Env) (h2:Hp) (args2:List AV),AM S (s.cnt+1) (100*rid+(i+1)) mid (AX d r e1) s.hp=some (vc2,e2,h2)∧vc2∧Bv e2 yo2.g=some true∧B7 e2 yo2.k=some (f2,args2)∧args2.length≤ntf2∧
  ∀hb,awp (Ctx.fn P S ntf2 hb) ac2 (Bz rvs2 (B8 S rid j yo2.d post e2 Q)) ⟨A1 0 args2,h2,s.cnt+1⟩
theorem MI (hΓ:Γ.OK) (i j:Nat) (hij:i<j) {rid:Nat} {ops:List AOp} {yo yo2:AOp} {Q:AE→St→Prop} {e e1:Env} {h h1:Hp} {c:Nat} {vc:Prop} {f f2:Nat} {args:List AV} {fn fn2:Func} {ac ac2:AC} {rvs rvs2:List RV} {ntf ntf2:Nat}
  (hf:Γ.P.funcs[f]? =some fn) (hcf:Bl Γ.P fn=some (ac,rvs)) (hnt:fn.ntmps=ntf) (hok:okF Γ.P f) (hf2:Γ.P.funcs[f2]? =some fn2) (hcf2:Bl Γ.P fn2=some (ac2,rvs2)) (hnt2:fn2.ntmps=ntf2) (hok2:okF Γ.P f2)
  (hyo:ops[i]? =some yo) (hyo2:ops[j]? =some yo2) (hex:AM Γ.S (c+1) (100*rid) (ops.take i) e h=some (vc,e1,h1)) (hvc:vc) (hg:Bv e1 yo.g=some true)
  (hca:B7 e1 yo.k=some (f,args)) (hn:args.length≤ntf)
  (hbody:∀hb,awp (Ctx.fn Γ.P Γ.S ntf hb) ac (Bz rvs (I3 Γ.P Γ.S rid i j yo.d ((ops.drop (i+1)).take (j-(i+1))) yo2 (ops.drop (j+1)) f2 ntf2 ac2 rvs2 e1 Q)) ⟨A1 0 args,h1,c+1⟩):awp Γ (.reg rid ops) Q ⟨e,h,c⟩:=by
 intro code hc σ a hA
 cases code with
 |region id ops' d=>
  simp only[cCode] at hc
  obtain⟨l0,hx0,⟨rfl,e0⟩|⟨_,_,_,_,e0⟩⟩:=AW hc
  ·cases e0
   refine wpIn_region ?_
   have hr0:List.range ops'.size=List.range' 0 (ops'.size-0):=by rw[List.range_eq_range'];simp
   rw[hr0]
   refine Iz hΓ (100*rid) e hx0 0 i (Nat.zero_le _) (c:=c) hf hcf hnt hok hyo (by simpa using hex) hvc hg hca hn hbody (fun _ _=>rfl) hA.1 (fun m hm=> .inl (hA.2.1 m hm)) ?_
   rintro τ a' r s ev1 hI1 al1 gl1 ⟨vc2,e2,h2,args2,q1,q2,q3,q4,q5,q6⟩
   refine Iz hΓ (100*rid) e hx0 (i+1) j hij (c:=s.cnt) hf2 hcf2 hnt2 hok2 hyo2 q1 q2 q3 q4 q5 q6 gl1 hI1 (fun m hm=> .inl (al1 m hm)) ?_
   rintro τ2 a2 r2 s2 ev2 hI2 al2 gl2 ⟨vc3,e3,h3,p1,p2,p3⟩
   obtain⟨c1,_⟩:=Bm hx0
   obtain⟨_,t3⟩:=Bj (j+1) hx0
   have hj:j<ops.length:=(List.getElem?_eq_some_iff.1 hyo2).1
   have hsz:ops.length=ops'.size:=c1.trans (by simp)
   have hl:(ops'.toList.drop (j+1)).length=ops'.size-(j+1):=by simp
   have:=CS hΓ (ops:=ops') (Q:=Q) (cnt:=s2.cnt) (100*rid) e σ hA.2.2 (ops'.toList.drop (j+1)) (j+1) (ops.drop (j+1)) τ2 _ _ _ _ _ vc3 gl2 (fun j=>by simp) (by simp;omega) t3 p1 p2 (ev1.trans ev2) hI2 (fun m hm=> .inl (al2 m hm)) p3
   rw[hl] at this
   exact this
  ·cases e0
 |seq x y=>simp only[cCode] at hc;split at hc<;>simp at hc
 |cond c x y=>simp only[cCode] at hc;split at hc<;>simp at hc
 |rangeFunc f ps x y=>simp only[cCode] at hc;split at hc<;>simp at hc
 |_=>simp[cCode] at hc
end
theorem QO {P:Program} {S:Tab} {nt hb:Nat} (hS:TabOK P S) (i j:Nat) (hij:i<j) {rid:Nat} {ops mid post:List AOp} {d d2:Option Nat} {g g2:Option (Nat×Bool)} {k k2:AK} {Q:AE→St→Prop} {e e1:Env} {h h1:Hp} {c:Nat} {vc:Prop} {f f2:Nat} {args:List AV} {fn fn2:Func} {ac ac2:AC} {rvs rvs2:List RV} {ntf ntf2:Nat}
  (hf:P.funcs[f]? =some fn) (hcf:Bl P fn=some (ac,rvs)) (hnt:fn.ntmps=ntf) (hok:okF P f) (hf2:P.funcs[f2]? =some fn2) (hcf2:Bl P fn2=some (ac2,rvs2)) (hnt2:fn2.ntmps=ntf2) (hok2:okF P f2)
  (hyo:ops[i]? =some ⟨d,g,k⟩) (hyo2:ops[j]? =some ⟨d2,g2,k2⟩) (hmid:(ops.drop (i+1)).take (j-(i+1))=mid) (hpost:ops.drop (j+1)=post) (hex:AM S (c+1) (100*rid) (ops.take i) e h=some (vc,e1,h1)) (hvc:vc) (hg:Bv e1 g=some true)
  (hca:B7 e1 k=some (f,args)) (hn:args.length≤ntf) (hbody:∀hb,awp (Ctx.fn P S ntf hb) ac (Bz rvs (I3 P S rid i j d mid ⟨d2,g2,k2⟩ post f2 ntf2 ac2 rvs2 e1 Q)) ⟨A1 0 args,h1,c+1⟩):awp (Ctx.fn P S nt hb) (.reg rid ops) Q ⟨e,h,c⟩:=by
 subst hmid hpost
 exact MI (Ctx.fn_ok hS) i j hij hf hcf hnt hok hf2 hcf2 hnt2 hok2 hyo hyo2 hex hvc hg hca hn hbody
theorem RN {P:Program} {S:Tab} {rid i j:Nat} {d d2:Option Nat} {g2:Option (Nat×Bool)} {k2:AK} {mid post:List AOp} {f2 ntf2:Nat} {ac2:AC} {rvs rvs2:List RV} {e1 e e2:Env} {h h2:Hp} {c:Nat} {Q:AE→St→Prop} {vc vc2:Prop} {xs args2:List AV}
  (h1:BD e h rvs=some (vc,xs)) (hx:AM S (c+1) (100*rid+(i+1)) mid (AX d (one xs) e1) h=some (vc2,e2,h2)) (hv:vc) (hv2:vc2) (hg:Bv e2 g2=some true) (hca:B7 e2 k2=some (f2,args2)) (hn:args2.length≤ntf2)
  (hb:∀hb,awp (Ctx.fn P S ntf2 hb) ac2 (Bz rvs2 (B8 S rid j d2 post e2 Q)) ⟨A1 0 args2,h2,c+1⟩):Bz rvs (I3 P S rid i j d mid ⟨d2,g2,k2⟩ post f2 ntf2 ac2 rvs2 e1 Q) .n ⟨e,h,c⟩:=⟨vc,xs,h1,hv,vc2,e2,h2,args2,hx,hv2,hg,hca,hn,hb⟩
theorem RO {P:Program} {S:Tab} {rid i j:Nat} {d d2:Option Nat} {g2:Option (Nat×Bool)} {k2:AK} {mid post:List AOp} {f2 ntf2:Nat} {ac2:AC} {rvs rvs2:List RV} {e1 e e2:Env} {h h2:Hp} {c:Nat} {Q:AE→St→Prop} {vc vc2:Prop} {xs args2:List AV}
  (h1:BD e h rvs=some (vc,xs)) (hx:AM S (c+1) (100*rid+(i+1)) mid (AX d (one xs) e1) h=some (vc2,e2,h2)) (hv:vc) (hv2:vc2) (hg:Bv e2 g2=some true) (hca:B7 e2 k2=some (f2,args2)) (hn:args2.length≤ntf2)
  (hb:∀hb,awp (Ctx.fn P S ntf2 hb) ac2 (Bz rvs2 (B8 S rid j d2 post e2 Q)) ⟨A1 0 args2,h2,c+1⟩):Bz rvs (I3 P S rid i j d mid ⟨d2,g2,k2⟩ post f2 ntf2 ac2 rvs2 e1 Q) .r ⟨e,h,c⟩:=⟨vc,xs,h1,hv,vc2,e2,h2,args2,hx,hv2,hg,hca,hn,hb⟩
attribute [local irreducible] awp Ed Df Dr Ee Bz B8 Dg DM itK
structure Hid (p:Prop):Prop where
 k:p
theorem f0:([]:List Nat).length=0:=rfl
theorem fc {p q:Prop} (x:p) (y:q):p∧q:=⟨x,y⟩
theorem go {S F G G':Prop} (hS:S) (f:F) (k:G') (h:S→F→Hid G'→G:=by
 intro hS f k
 repeat' (first
  |(with_reducible (first|apply Ak|apply AF|apply Ay|apply AO|apply Al|apply An);(·(first|exact Ctx.fn_ok hS|exact Ctx.rd_ok hS|assumption|exact yT|exact Ctx.rdG_ok hS));iterate 2 (·(simp only[go_sem,seval,f]<;>eq_refl)))
  |with_reducible (first|apply Ah|apply Ap|apply Ae|apply Af|apply Ac|apply Ab|apply Ad|apply Aq|apply Ar|apply As|apply Au|apply Av|apply Aw)
  |(with_reducible apply Ax;(·first|rfl|decide))
  |(with_reducible apply L2;(·simp))
  |with_reducible (first|apply L3|apply L4|apply L5|apply Ai|apply Aj|apply AA|apply AB|apply AD|apply yT|apply And.intro yT yT)
  |(fail_if_success with_reducible apply AZ);(fail_if_success with_reducible apply Az);(try clear k);first|omega|(simp only[go_sem,seval,f];done)|with_reducible assumption|(refine And.intro ?_ ?_)|(intro hg;simp_all;done)|decide|grind)
 exact k.k):G:=h hS f ⟨k⟩
theorem goc {S F G:Prop} (hS:S) (f:F) (h:S→F→G:=by
 intro hS f
 repeat' (first
  |(with_reducible (first|apply Ak|apply AF|apply Ay|apply AO|apply Al|apply An);(·(first|exact Ctx.fn_ok hS|exact Ctx.rd_ok hS|assumption|exact yT|exact Ctx.rdG_ok hS));iterate 2 (·(simp only[go_sem,seval,f]<;>eq_refl)))
  |with_reducible (first|apply Ah|apply Ap|apply Ae|apply Af|apply Ac|apply Ab|apply Ad|apply Aq|apply Ar|apply As|apply Au|apply Av|apply Aw)
  |(with_reducible apply Ax;(·first|rfl|decide))
  |(with_reducible apply L2;(·simp))
  |with_reducible (first|apply L3|apply L4|apply L5|apply Ai|apply Aj|apply AA|apply AB|apply AD|apply yT|apply And.intro yT yT)
  |(fail_if_success with_reducible apply AZ);(fail_if_success with_reducible apply Az);first|omega|(simp only[go_sem,seval,f];done)|with_reducible assumption|(refine And.intro ?_ ?_)|(intro hg;simp_all;done)|decide|grind)):G:=h hS f
theorem fin {F G:Prop} (f:F) (h:F→G:=by
 intro f
 first|refine Fd (by simp only[go_sem,seval,f]<;>eq_refl) (by simp only[go_sem,seval,f]) (by simp only[go_sem,seval,f]) ?_ rfl|refine Fe (by simp only[go_sem,seval,f]<;>eq_refl) (by simp only[go_sem,seval,f]) (by simp only[go_sem,seval,f]) ?_ rfl
 first|(simp only[go_sem,seval,f];done)|(simp only[go_sem,seval,f,List.map_append,List.map_cons,List.map_nil,List.map_set,List.map_take,List.map_drop];done)|(simp[f];done)):G:=h f
theorem leF {F:Prop} {s' s:St} (f:F) (h:F→Le s' s:=by
 intro f
 refine Le.of ?_ ?_ (by first|exact Nat.le_refl _|(simp;omega)|simp)<;>first|(simp only[go_sem,seval,f];done)|(simp only[go_sem,seval,f,List.map_append,List.map_cons,List.map_nil,List.map_set,List.map_take,List.map_drop];done)|(simp[f,List.map_append,List.map_set];done)):Le s' s:=h f
section
variable {Γ:Ctx} {F:Prop} {cc:Opd} {x y:AC} {Q:AE→St→Prop} {e:Env} {h:Hp} {c:Nat}
theorem cb {B:Bool} (f:F) (B':Bool) (ht:B'=true→awp Γ x Q ⟨e,h,c⟩) (hf:B'=false→awp Γ y Q ⟨e,h,c⟩) (hb:F→ung true (opv e cc)= .v (.bool B):=by intro f;simp only[go_sem,seval,f]<;>eq_refl) (hB:F→B=B':=by intro f;first|rfl|(simp;done)|grind):awp Γ (.cond cc x y) Q ⟨e,h,c⟩:=
 PH (hb f) (hB f) ht hf
theorem ct (f:F) (ht:awp Γ x Q ⟨e,h,c⟩) (hb:F→ung true (opv e cc)= .v (.bool true):=by intro f;simp only[go_sem,seval,f]<;>eq_refl):awp Γ (.cond cc x y) Q ⟨e,h,c⟩:=D9 (hb f) ht
theorem cf (f:F) (hf:awp Γ y Q ⟨e,h,c⟩) (hb:F→ung true (opv e cc)= .v (.bool false):=by intro f;simp only[go_sem,seval,f]<;>eq_refl):awp Γ (.cond cc x y) Q ⟨e,h,c⟩:=Fc (hb f) hf
end
end Go.Proofs.YtdabfcbelkjmgaaGreatDoor.Am
