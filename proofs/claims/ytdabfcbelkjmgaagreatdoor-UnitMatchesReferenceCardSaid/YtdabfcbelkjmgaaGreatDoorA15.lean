import Derived.Test.YtdabfcbelkjmgaaGreatDoorA13
import Derived.RecoverIn
namespace Go.Proofs.YtdabfcbelkjmgaaGreatDoor.Am
set_option linter.unusedSimpArgs false
set_option linter.unusedVariables false
open Go
theorem Kl {hp:Hp} {n:Nm}:∀{k o:Nat} {cs:List AV},Cg hp n o k=some cs→∀j c,cs[j]? =some c→hl hp (.c n (o+j))=some c
 |0,o,cs,h,j,c,hj=>by simp[Cg] at h;subst h;simp at hj
 |k+1,o,cs,h,j,c,hj=>by
  simp only[Cg] at h
  split at h
  ·rename_i c' hc
   cases hr:Cg hp n (o+1) k with
   |none=>simp[hr] at h
   |some ds=>
    simp[hr] at h
    subst h
    cases j with
    |zero=>simp at hj;subst hj;exact hc
    |succ j=>
     have:=Kl hr j c (by simpa using hj)
     rwa [show o+1+j=o+(j+1) by omega] at this
  ·simp at h
theorem GQ {σ τ:Cf} (hf:∀b,Fz σ b→Fz τ b) (hw:∀b,Fz σ b→τ.w.heap[b]? =σ.w.heap[b]?) {n:Nm} (ha:τ.al n) (hr:τ.rb n=σ.rb n):∀{args:List AV} {vs:List Value},Cp args=true→Bo args=some n→RepL σ args vs→RepL τ args vs
 |[],_,h,_,_=>by simp[Cp] at h
 |c::cs,vs,h1,h2,hr'=>by
  simp only[RepL] at hr'⊢
  obtain⟨y,ys,rfl,g1,g2⟩:=hr'
  refine⟨y,ys,rfl, ?_⟩
  cases c with
  |box m o=>
   simp only[Cp] at h1
   simp only[Bo,yE] at h2
   subst h2
   simp only[Rep] at g1
   refine⟨?_,RepL.ofPure hf hw _ _ h1 g2⟩
   simp only[Rep]
   exact⟨ha,by rw[hr];exact g1.2⟩
  |_=>simp only[Cp,Bool.and_eq_true,Bo] at h1 h2;exact⟨Rep.ofPure hf hw _ _ h1.1 g1,GQ hf hw ha hr h1.2 h2 g2⟩
def ItB (P:Program) (f:Nat) (fst cps:List AV) (m:Nm) (bc:List AV) (xs:List (List AV)):Prop:=
 ∀(l hb:Nat) (J:Int→Cf→Prop) (σ:Cf) (vals:List Value),Rng P Fence.wide l hb xs J→J 0 σ→HInv σ (A5 m 0 bc)→(∀n,σ.al n→n=m)→RepL σ (fst++AV.clo (.yield l) [] []::cps) vals→hb≤σ.w.heap.size→Gl σ→
  CallsIn Fence.wide 0 P f vals.toArray σ.w fun e w'=>∃v σ',e= .returned v∧σ'.w=w'∧(J xs.length σ'∨J (-1) σ')
section
variable {P:Program} {S:Tab} {nt hbo:Nat}
theorem Lz {X:Type} (m:Nm) (bc:List AV) (I:X→Hp×Nat) (Pre:X→Prop) (K:X→Nat) (x0:X) {f:Opd} {ps:List Nat} {asg bdy:AC} {Q:AE→St→Prop} {e:Env} {h:Hp} {c fi:Nat} {fst cps:List AV} {xs:List (List AV)}
  (hx:ung true (opv e f)= .clo (.func fi) fst cps) (hit:ItB P fi fst cps m bc xs) (hok:okF P fi) (hpu:AH fst=true∧Cp cps=true∧Bo cps=some m) (hbc:Cg h m 0 bc.length=some bc∧bc.isEmpty=false∧CA bc=true) (hno:∀j,hl (I x0).1 (.c m j)=none) (hps:∀p∈ps,p<nt) (hpure:∀args∈xs,AH args=true∧args.length=ps.length)
  (h0:Pre x0) (hk0:K x0=0) (hle:Le ⟨e,(I x0).1,(I x0).2⟩ ⟨e,h,c⟩)
  (round:∀l x,Pre x→∀args,xs[K x]? =some args→awp (Ctx.rdG P S nt l) asg (DM (Ctx.rdG P S nt l) bdy (Dg e I Pre K (K x+1) Q)) ⟨Dt ps args e,(I x).1,(I x).2⟩)
  (hend:∀x,Pre x→K x=xs.length→Q .n ⟨e,(I x).1,(I x).2⟩):awp (Ctx.fn P S nt hbo) (.rfun f ps asg bdy) Q ⟨e,h,c⟩:=by
 intro code hc σ a hA
 cases code with
 |rangeFunc g ps' assign body=>
  simp only[cCode] at hc
  split at hc
  ·rename_i x' y' hca hcb
   simp at hc
   obtain⟨rfl,rfl,rfl,rfl⟩:=hc
   obtain⟨ev0,A0⟩:=hA.leM hle
   have hcel:∀j c,bc[j]? =some c→hl h (.c m j)=some c:=fun j c hj=>by
    have:=Kl hbc.1 j c hj
    simpa using this
   obtain⟨b0,hb0⟩:∃b0,bc[0]? =some b0:=by cases bc with|nil=>simp at hbc|cons b _=>exact⟨b,rfl⟩
   have hcm:=hA.1.h.cel m 0 b0 (hcel 0 b0 hb0)
   have hexc:∀p b,Owns {σ with ln:=lenOf (I x0).1} (I x0).1 p b→b≠σ.rb m:=by
    rintro p b hp rfl
    have hsub:=Jv hle.h
    have h1:Owns σ h p (σ.rb m):=by
     rcases hp with⟨g1,g2,j,c,g3⟩|⟨g1,⟨sz,rows,d,g2⟩,o,cap,g3,g4⟩
     ·exact .inl ⟨g1,g2,j,c,hsub _ _ g3⟩
     ·exact .inr ⟨g1,⟨sz,rows,d,hsub _ _ g2⟩,o,cap,g3,g4⟩
    have h2:=hA.1.h.inj p (false,m) _ h1 (.inl ⟨rfl,rfl,0,b0,hcel 0 b0 hb0⟩)
    subst h2
    rcases hp with⟨_,_,j,c,g3⟩|⟨g1,_⟩
    ·have:=hno j;simp only at g3;rw[this] at g3;cases g3
    ·cases g1
   obtain⟨hrlt,hrM,hrO,hrc⟩:σ.rb m<σ.w.heap.size∧σ.M (σ.rb m)∧¬σ.O (σ.rb m)∧∃cs T,σ.w.heap[σ.rb m]? =some (.cells cs T (0,0)):=by
    obtain⟨_,k2,cs,T,_,k3,_⟩:=hcm
    exact⟨hA.1.h.lt _ k2,k2,hA.1.h.dis _ k2,cs,T,k3⟩
   have hbcel:∀j c,bc[j]? =some c→CelF σ m j c:=fun j c hj=>hA.1.h.cel m j c (hcel j c hj)
   generalize hss:({σ with ln:=lenOf (I x0).1}:Cf)=ss at ev0 A0 hexc
   have ew:ss.w=σ.w:=by rw[←hss]
   have eM:ss.M=σ.M:=by rw[←hss]
   have eO:ss.O=σ.O:=by rw[←hss]
   have er:ss.rb=σ.rb:=by rw[←hss]
   rw[←ew] at hrlt hrc
   rw[←eM] at hrM
   rw[←eO] at hrO
   rw[←er] at hrlt hrM hrO hrc hexc
   have hbce:∀j c,bc[j]? =some c→∃cs T x,ss.w.heap[ss.rb m]? =some (.cells cs T (0,0))∧cs[j]? =some x∧AN x=true∧Rep σ c x:=fun j c hj=>by
    obtain⟨_,_,cs,T,x,k3,k4,k5,k6⟩:=hbcel j c hj
    exact⟨cs,T,x,by rw[ew,er];exact k3,k4,k5,k6⟩
   rw[←ew]
   refine wpIn_mono (Q:=lift (Ctx.fn P S nt hbo) ss Q) ?_ fun e a w k=>k.mono (Ctx.ofE _ ev0)
   have hX:=BC (g:=true) rfl A0.1.t g
   rw[hx] at hX
   simp only[Rep] at hX
   obtain⟨fs,cs,hX,hf1,hc1⟩:=hX
   refine wpIn_rangeFunc (F:=Fence.wide) fun fn _=> ?_
   let lp:LoopState→Option Code→Loop:=fun st pe=>{state:=st,pending:=pe,fn:=fn,tmps:=a.tmps,params:=ps',assign:=assign,body:=body,defers:=ss.w.heap.size}
   let W1:World:=(ss.w.alloc (.deferred (some []))).alloc (.loop (lp .ready none))
   have hL1:W1.heap[ss.w.heap.size+1]? =some (.loop (lp .ready none)):=by
    have:=World.alloc_heap_new (ss.w.alloc (.deferred (some []))) (.loop (lp .ready none));rwa [World.size_alloc] at this
   have hsz1:W1.heap.size=ss.w.heap.size+2:=by simp[W1]
   have hkeep:∀(b:Nat) (o:Obj),ss.w.heap[b]? =some o→W1.heap[b]? =some o:=fun b o hb=>by
    have hlt:=(Array.getElem?_eq_some_iff.1 hb).1
    rw[AR (by simp;omega),AR hlt];exact hb
   have hK1:W1.heap[ss.w.heap.size]? =some (.deferred (some [])):=by
    rw[AR (by simp)];exact World.alloc_heap_new ss.w _
   let D:=ss.w.heap.size
   let l:=ss.w.heap.size+1
   let a0:Act:={a with defers:=[{target:= .collected D,args:= #[]}]++a.defers}
   let φ:RFix:={O0:=ss.O,l:=l,D:=D,ss:=ss,e:=e,a:=a0,lp:=lp}
   let so:Cf:={ss with w:=W1,M:=fun b=>ss.M b∧b≠ss.rb m,O:=fun b=>ss.O b∨b=ss.rb m}
   have evs0:Evo ss (ss.at W1):=Evo.at hkeep ⟨rfl,rfl⟩
   have fzs:∀b,Fz ss b→Fz so b:=fun b hb=>⟨fun h=>hb.1 h.1,fun h=>h.elim hb.2.1 fun e=>hb.1 (e▸hrM),by have:=hb.2.2;show b<W1.heap.size;omega⟩
   have evs:Ev ss so:=⟨fun _ h=>⟨h,rfl⟩,fun _ _ l h=>⟨l,h,Nat.le_refl _,fun _=>rfl⟩,fzs,fun b o x hb hc=>evs0.cell hb.1 hc⟩
   let si:Cf:={rb:=ss.rb,ra:=fun _=>(none,0),M:=fun b=>b=ss.rb m,O:=fun b=>(ss.M b∧b≠ss.rb m)∨ss.O b∨b=l∨b=D,ln:=fun _=>none,al:=fun n=>n=m,w:=W1}
   have hgsi:Gl si:=fun b j hj=>by
    obtain⟨g1,g2⟩:=A0.1.df.gl b j hj
    have g3:=(Gl.mono A0.1.df.gl evs0 b j hj).2
    refine⟨⟨fun h=>g1.1 (show ss.M b from h▸hrM), ?_, ?_⟩,g3⟩
    ·have:=g1.2.2
     rintro(h|h|h|h)
     ·exact g1.1 h.1
     ·exact g1.2.1 h
     ·simp only[l] at h;omega
     ·simp only[D] at h;omega
    ·show b<W1.heap.size
     have:=g1.2.2;omega
   have hdf:∀d∈φ.a.defers,∃r,d={target:= .collected r,args:= #[]}∧(r<φ.ss.w.heap.size∨r=φ.D):=by
    intro d hd
    simp only[φ,a0,List.cons_append,List.nil_append,List.mem_cons] at hd
    rcases hd with rfl|hd
    ·exact⟨D,rfl,.inr rfl⟩
    ·obtain⟨r,r1,_,r3,_⟩:=A0.1.df.all rfl d hd
     exact⟨r,r1,.inl (Array.getElem?_eq_some_iff.1 r3).1⟩
   have nM:∀b,ss.w.heap.size≤b→¬ss.M b:=fun b hb hm=>by have:=A0.1.h.lt b hm;omega
   have nO:∀b,ss.w.heap.size≤b→¬ss.O b:=fun b hb hm=>by have:=A0.1.h.ou b hm;omega
   have hso:HInv so (I x0).1:=by
    have h1:HInv (ss.at W1) (I x0).1:=A0.1.h.at hkeep ⟨rfl,rfl⟩
    have own:∀p b,Owns so (I x0).1 p b→Owns ss (I x0).1 p b:=fun p b hp=>hp
    refine⟨h1.ln,fun n j c hc=> ?_,fun n sz live rows d hc=> ?_,h1.inj,fun b hb=>h1.lt b hb.1,fun b hb=> ?_,fun b hb ho=> ?_⟩
    ·obtain⟨k1,k2,cs,T,x,k3,k4,k5,k6⟩:=h1.cel n j c hc
     have hne:=hexc (false,n) (ss.rb n) (.inl ⟨rfl,rfl,j,c,hc⟩)
     have ev1:Ev (ss.at W1) so:=⟨fun _ h=>⟨h,rfl⟩,fun _ _ l h=>⟨l,h,Nat.le_refl _,fun _=>rfl⟩,fun b hb=>⟨fun h=>hb.1 h.1,fun h=>h.elim hb.2.1 fun e=>hb.1 (e▸hrM),hb.2.2⟩,fun b o x _ hc=>hc⟩
     exact⟨k1,⟨k2,hne⟩,cs,T,x,k3,k4,k5,k6.monoE ev1⟩
    ·have ev1:Ev (ss.at W1) so:=⟨fun _ h=>⟨h,rfl⟩,fun _ _ l h=>⟨l,h,Nat.le_refl _,fun _=>rfl⟩,fun b hb=>⟨fun h=>hb.1 h.1,fun h=>h.elim hb.2.1 fun e=>hb.1 (e▸hrM),hb.2.2⟩,fun b o x _ hc=>hc⟩
     refine(h1.arr n sz live rows d hc).keepE ev1 rfl fun hl b o cap h2 h3 h4=>⟨⟨h4, ?_⟩,rfl⟩
     subst hl
     exact hexc (true,n) b (.inr ⟨rfl,⟨sz,rows,d,hc⟩,o,cap,h2,h3⟩)
    ·rcases hb with hb|rfl
     ·exact h1.ou b hb
     ·show ss.rb m<W1.heap.size;omega
    ·rcases ho with ho|rfl
     ·exact h1.dis b hb.1 ho
     ·exact hb.2 rfl
   have hsi:HInv si (A5 m 0 bc):=by
    have key:∀n j c,hl (A5 m 0 bc) (.c n j)=some c→n=m∧bc[j]? =some c:=by
     intro n j c hm
     rw[Ep] at hm
     split at hm
     ·rename_i e;exact⟨e.1,by simpa using hm⟩
     ·cases hm
    have own:∀p b,Owns si (A5 m 0 bc) p b→p=(false,m):=by
     rintro⟨k,n⟩ b (⟨h1,_,j,c,h3⟩|⟨_,⟨_,_,_,h3⟩,_⟩)
     ·obtain⟨rfl,_⟩:=key n j c h3
      simp only at h1;rw[h1]
     ·simp[B0] at h3
    refine⟨fun n=>by simp[si,lenOf,B0],fun n j c hn=> ?_,fun n sz live rows d hn=>by simp[B0] at hn,fun p q b hp hq=>by rw[own p b hp,own q b hq],fun b hb=>by rw[show b=ss.rb m from hb];show _<W1.heap.size;omega,fun b hb=> ?_,fun b hb ho=> ?_⟩
    ·obtain⟨rfl,h1⟩:=key n j c hn
     obtain⟨cs,T,x,k3,k4,k5,k6⟩:=hbce j c h1
     exact⟨rfl,rfl,cs,T,x,hkeep _ _ k3,k4,k5,CR c x (D8 hbc.2.2 (List.mem_of_getElem? h1)) k6⟩
    ·show b<W1.heap.size
     rw[hsz1]
     rcases hb with hb|hb|rfl|rfl
     ·have:=A0.1.h.lt b hb.1;omega
     ·have:=A0.1.h.ou b hb;omega
     ·simp only[l];omega
     ·simp only[D];omega
    ·have hb:b=ss.rb m:=hb
     rcases ho with ho|ho|ho|ho
     ·exact ho.2 hb
     ·exact hrO (hb▸ho)
     ·simp only[l] at ho;omega
     ·simp only[D] at ho;omega
   have hJ0:RJ (Ctx.fn P S nt hbo) φ I Pre K Q 0 si:=by
    refine⟨so,(I x0).1,(I x0).2,.ready,none,⟨rfl,fun b=>Iff.rfl,fun b=>⟨fun h=>h.imp id fun h=>⟨h,by rw[h];show _<W1.heap.size;omega⟩,fun h=>h.imp id fun h=>h.1⟩,hsi.dis,hsi.ou⟩,⟨evs.box,evs.arr,fun b o hb hM=>⟨hkeep b o hb,fun h=>hM h.1⟩,fun b _ h1 h2=>h1 (show ss.M b from h2▸hrM),evs0.sz,evs0.io⟩,
     ⟨hso,A0.1.t.ev evs,A0.1.sz,DOK.of rfl (fun d hd=> ?_) ?_ (Nat.le_trans A0.1.df.le evs0.sz) (A0.1.df.gl.ev evs)⟩,A0.2.1,fun h=>nM _ (Nat.le_succ _) h.1,hL1,hK1,.inl ⟨x0,h0,by simp[hk0],rfl,rfl,rfl,rfl⟩⟩
    ·simp only[φ,a0,List.cons_append,List.nil_append,List.mem_cons] at hd
     rcases hd with rfl|hd
     ·exact⟨D,rfl,A0.1.df.le,hK1,fun h=>nM _ (Nat.le_refl _) h.1,fun h=>h.elim (nO _ (Nat.le_refl _)) fun h=>by simp only[D] at h;omega⟩
     ·obtain⟨r,r1,r2,r3,r4,r5⟩:=A0.1.df.all rfl d hd
      refine⟨r,r1,r2,hkeep _ _ r3,fun h=>r4 h.1,fun h=>h.elim r5 fun h=> ?_⟩
      obtain⟨cs,T,hc⟩:=hrc
      rw[←h,r3] at hc
      cases hc
    ·simp only[φ,a0,List.cons_append,List.nil_append]
     refine List.pairwise_cons.2 ⟨fun d hd he=> ?_,A0.1.df.nd rfl⟩
     obtain⟨r,rfl,_,r3,_⟩:=A0.1.df.all rfl d hd
     have:D=r:=by simpa using he
     have:=(Array.getElem?_eq_some_iff.1 r3).1
     omega
   have hDn:∀so si hp,Way φ.ss so si→Inv so φ.e hp φ.a nt (hbo,false)→¬so.M φ.D:=fun so si hp _ h3=>by
    obtain⟨r,r1,_,_,r4,_⟩:=h3.df.all rfl {target:= .collected D,args:= #[]} (by simp[φ,a0])
    have:φ.D=r:=by simpa using r1
    rw[this];exact r4
   have hR:Rng P Fence.wide l (ss.w.heap.size+2) xs (RJ (Ctx.fn P S nt hbo) φ I Pre K Q):=
    {evo:=fun hj ev=>hj.evo hdf ev
     oth:=fun hj o hO hP=>hj.oth (hb:=ss.w.heap.size+2) (by simp only[φ];omega) hdf o hO hP
     rnd:=fun hj hi hxs hv=>RJ.rndG (φ:=φ) (fn:=fn) (ps:=ps') rfl hca hcb hps hpure (round l) (by simp only[φ,l];omega) hDn hj hi hxs hv}
   have hvals:RepL si (fst++AV.clo (.yield l) [] []::cps) (fs++ .func (.yield l) #[] #[]::cs):=by
    have ff:∀b,Fz ss b→Fz si b:=fun b hb=>⟨fun h=>hb.1 (show ss.M b from h▸hrM),by
     have:=hb.2.2
     rintro(g|g|g|g)
     ·exact hb.1 g.1
     ·exact hb.2.1 g
     ·simp only[l] at g;omega
     ·simp only[D] at g;omega,by show b<W1.heap.size;have:=hb.2.2;omega⟩
    have fw:∀b,Fz ss b→si.w.heap[b]? =ss.w.heap[b]? :=fun b hb=>by
     have:=Array.getElem?_eq_getElem hb.2.2
     show W1.heap[b]? =_
     rw[this];exact hkeep b _ this
    refine Bq (RepL.ofPure ff fw _ _ hpu.1 hf1) ?_
    simp only[RepL]
    exact⟨_,_,rfl,by simp[Rep,RepL],GQ ff fw rfl rfl hpu.2.1 hpu.2.2 hc1⟩
   refine⟨l,[{target:= .collected D,args:= #[]}],W1,{target:= .fn (.func fi) cs.toArray,args:=fs.toArray++ #[.func (.yield l) #[] #[]]},W1,fi,(fs.toArray++ #[.func (.yield l) #[] #[]])++cs.toArray,W1,run_enterLoop_outer _ _ _ _ _, ?_,fun _ _=>trivial, ?_,fun h=>by simp[Fence.wide] at h, ?_⟩
   ·have hy:Array.map a.eval #[.const (.func (.yield l) #[] #[])]= #[.func (.yield l) #[] #[]]:=by simp[Act.eval]
    simp only[resolve,rangeCall,hy,hX,Deferred.ofValue,Sem.run_pure]
   ·simp only[invoke]
    exact BN hok _ _
   have harr:(fs.toArray++ #[.func (.yield l) #[] #[]])++cs.toArray=(fs++ .func (.yield l) #[] #[]::cs).toArray:=by apply Array.ext';simp
   rw[harr]
   refine(hit l (ss.w.heap.size+2) _ si _ hR hJ0 hsi (fun _ h=>h) hvals (by show _≤W1.heap.size;omega) hgsi).mono ?_
   rintro en w' ⟨v,σ',rfl,rfl,hj⟩
   have key:∀hp cnt st pe so2,Pair φ.O0 φ.l φ.D so2 σ'→Way φ.ss so2 σ'→Inv so2 φ.e hp φ.a nt (hbo,false)→(∀m,so2.al m→m.2≤cnt)→¬so2.M φ.l→so2.w.heap[φ.l]? =some (.loop (φ.lp st pe))→st≠.busy→
     ∃s5:Cf,(Instr.endLoop l).run P σ'.w= .ok pe s5.w∧Evo ss s5∧At (Ctx.fn P S nt hbo) s5 ⟨e,hp,cnt⟩ a0:=by
    intro hp cnt st pe so2 h1 h2 h3 h4 h8 h5 hb
    have dis2:∀b,so2.O b→b<so2.w.heap.size∧¬so2.M b:=fun b hb=>⟨h3.h.ou b hb,fun hM=>h3.h.dis b hM hb⟩
    obtain⟨s4,hs4,o4,r4,l4,k4⟩:=CV (r':={φ.lp st pe with state:= .exhausted}) dis2 h8 h5
    have hOs:∀b,ss.O b→s4.O b:=fun b hb=>by rw[r4.out];exact(h1.oo b).2 (.inl hb)
    let s5:Cf:={s4 with O:=ss.O}
    have h4i:=h3.h.oth o4
    have o5:Oth s4 s5:=⟨rfl,rfl,rfl,rfl,rfl,fun b hb=>⟨h4i.ou b (hOs b hb),fun hM=>h4i.dis b hM (hOs b hb),fun hf=>hf.2.1 (hOs b hb)⟩,Nat.le_refl _,fun _ _=>rfl,fun _ _ _ _ h=>h,SameO.refl _⟩
    have df4:=h3.df.rd r4 h5 (.inl rfl)
    refine⟨s5, ?_,⟨fun n hn=> ?_,fun n hn l' hl'=> ?_,fun b o ho hm=> ?_,rfl,Nat.le_trans h2.sz r4.sz,h2.io.trans r4.io⟩,⟨h4i.oth o5,(h3.t.ev o4.ev).ev o5.ev,h3.sz,DOK.of rfl (fun d hd=> ?_) (df4.nd rfl) df4.le (df4.gl.ev o5.ev)⟩,fun m hm=>h4 m ?_,trivial⟩
    ·have:=run_endLoop (P:=P) (w:=so2.w) h5 hb
     rw[h1.w] at this
     show _=Result.ok pe s4.w
     rw[hs4,this,h1.w]
    ·exact⟨(r4.box n (h2.box n hn).1).1,((r4.box n (h2.box n hn).1).2).trans (h2.box n hn).2⟩
    ·obtain⟨l1,g1,g2,g3⟩:=r4.arr n (h2.box n hn).1 l' hl'
     obtain⟨m,q1,q2,q3⟩:=h2.arr n hn l1 g1
     refine⟨m,q1,Nat.le_trans q2 g2,fun e=> ?_⟩
     have e1:m=l1:=by omega
     have e2:l1=l':=by omega
     exact(g3 e2).trans (q3 e1)
    ·obtain⟨g1,g2⟩:=h2.old b o ho hm
     have hlt:=(Array.getElem?_eq_some_iff.1 ho).1
     exact r4.fro b o (by intro e;subst e;simp only[φ,l] at hlt;omega) g1 g2
    ·obtain⟨r,r1,r2,r3,r4',r5⟩:=df4.all rfl d hd
     exact⟨r,r1,r2,r3,r4',fun h=>r5 (hOs r h)⟩
    ·have hm':s4.al m:=hm
     rw[o4.al] at hm';exact hm'
   have inv:∀{k:Int},RJ (Ctx.fn P S nt hbo) φ I Pre K Q k σ'→rangePost Fence.wide 0 P l (lift (Ctx.fn P S nt hbo) ss Q) a0 (.returned v) σ'.w∨False∨k≠xs.length∧k≠-1:=by
    intro k hj
    obtain⟨so2,hp,cnt,st,pe,h1,h2,h3,h4,h8,h5,h6,h7⟩:=hj
    rcases h7 with⟨x,hx,hk,rfl,rfl,rfl,rfl⟩|⟨hk,c',e',rfl,rfl,hjp,hq⟩
    ·by_cases hlen:K x=xs.length
     ·obtain⟨s5,g1,g2,g3⟩:=key _ _ _ _ so2 h1 h2 h3 h4 h8 h5 (by simp)
      exact .inl ⟨none,s5.w,g1,s5,_,.n,rfl,g2,g3,rfl,hend x hx hlen⟩
     ·exact .inr (.inr ⟨by omega,by omega⟩)
    ·obtain⟨s5,g1,g2,g3⟩:=key _ _ _ _ so2 h1 h2 h3 h4 h8 h5 (by simp)
     refine .inl ⟨some c',s5.w,g1, ?_⟩
     rcases hjp with⟨rfl,rfl⟩|⟨i,rfl,rfl⟩
     ·exact wpIn_ret ⟨s5,_,.r,rfl,g2,g3,rfl,hq⟩
     ·exact wpIn_exit ⟨s5,_,.x i,rfl,g2,g3,rfl,hq⟩
   rcases hj with hj|hj
   ·rcases inv hj with h|h|h
    ·exact h
    ·exact h.elim
    ·exact absurd rfl h.1
   ·rcases inv hj with h|h|h
    ·exact h
    ·exact h.elim
    ·exact absurd rfl h.2
  ·simp at hc
 |region id ops d=>
  simp only[cCode] at hc
  obtain⟨_,_,⟨_,e⟩|⟨_,_,_,_,e⟩⟩:=AW hc<;>cases e
 |seq x y=>simp only[cCode] at hc;split at hc<;>simp at hc
 |cond c x y=>simp only[cCode] at hc;split at hc<;>simp at hc
 |_=>simp[cCode] at hc
end
theorem Pa {P:Program} {S:Tab} {m:Nm} {bc:List AV} (hS:TabOK P S) {f:Nat} {fn:Func} {c:AC} {fst cps:List AV} {xs:List (List AV)} (nt:Nat) (hf:P.funcs[f]? =some fn) (hc:Bl P fn=some (c,[])) (hnt:fn.ntmps=nt) (hgs:nt≤gs)
  (hn:(fst++cps).length<nt)
  (h:∀(l hb:Nat) (J:Int→Cf→Prop) (evo:∀{k:Int} {σ σ':Cf},J k σ→Evo σ σ'→J k σ'),Rng P Fence.wide l hb xs J→
   awp (Ctx.it P Fence.wide S nt hb J hgs evo) c (itK xs.length) ⟨(gs,AY 0)::A1 0 (fst++AV.clo (.yield l) [] []::cps),A5 m 0 bc,m.2⟩):ItB P f fst cps m bc xs:=by
 subst hnt
 intro l hb J σ vals hR hJ hI hal hx hsz hgl
 unfold Bl at hc
 split at hc
 ·rename_i b hbd
  split at hc
  ·rename_i c' r' h1 h2
   simp at hc
   obtain⟨rfl,rfl⟩:=hc
   have hw:=h l hb J hR.evo hR b h1 σ {tmps:=vals.toArray++Array.replicate (fn.ntmps-vals.toArray.size) undef,defers:=[]} ?_
   ·refine callsIn_of_wp_marks (n:=0) hf hbd trivial (wpIn_mono hw ?_)
    rintro e a' w' ⟨σ',s',e',rfl,_,h3,h4,h5⟩
    have key:(lk s'.env gs=AY xs.length∨lk s'.env gs=AY (-1))→LeavesInM Fence.wide 0 P fn a'.tmps (fun e w'=>∃v σ',e= .returned v∧σ'.w=w'∧(J xs.length σ'∨J (-1) σ')) a'.defers .returning σ'.w:=by
     intro hk
     refine Cv a'.defers σ' (fun b hb=>⟨h3.1.h.ou b hb,fun hM=>h3.1.h.dis b hM hb⟩) (DOK.of' h3.1.df) fun ρ ko kO kb=> ?_
     obtain⟨ρ',hρ,hn'⟩:=(h3.1.h.oth ko).nil
     obtain⟨us,k1,k2⟩:=Cj (P:=P) (s:=⟨[],[],0⟩) (rs:=fn.results.toList) (rvs:=[]) (vc:=True) (xs:=[]) (σ:=ρ') (a:={a' with defers:=[]}) (nt:=fn.ntmps) (hb:=(hb,false))
      ⟨hn',fun t=>by simp[lk,Rep],h3.1.sz,DOK.nil (by rw[hρ];exact Nat.le_trans h3.1.df.le ko.sz) (by rw[hρ];exact fun b j hj=>⟨((h3.1.df.gl.ev ko.ev) b j hj).1,((h3.1.df.gl.ev ko.ev) b j hj).2⟩)⟩ h2 rfl trivial
     rw[hρ] at k1
     refine⟨_,Ck k1,_,ρ,rfl,rfl, ?_⟩
     have hj:∀k,J k σ'→J k ρ:=fun k hk=>hR.oth hk ko kO kb
     rcases hk with hk|hk
     ·exact .inl (hj _ (h3.2.2 _ hk))
     ·exact .inr (hj _ (h3.2.2 _ hk))
    cases e with
    |normal=>simp[AE.of] at h4;subst h4;exact key h5
    |ret=>simp[AE.of] at h4;subst h4;exact key h5
    |exit i=>simp[AE.of] at h4;subst h4;exact h5.elim
    |goto l=>simp[AE.of] at h4
    |panic c=>obtain⟨v,rfl,rfl⟩:=AE.of_panic h4;exact h5.elim
    |outgrown=>simp[AE.of] at h4
   ·have hlen:=AP hx
    refine⟨⟨hI,fun t=> ?_,by show _=fn.ntmps;simp at hn hlen⊢;omega,DOK.nil hsz hgl⟩,fun n hn=>by rw[hal n hn];exact Nat.le_refl _, ?_⟩
    ·simp only[lk]
     by_cases ht:gs=t
     ·rw[if_pos ht]
      subst ht
      have h1:vals.length≤fn.ntmps:=by simp at hn hlen;omega
      have:¬gs<vals.length+(fn.ntmps-vals.length):=by omega
      simp[Rep,Array.getD,this]
     ·rw[if_neg ht,Cl]
      split
      ·rename_i ht
       simp only[Nat.zero_le,Nat.zero_add,true_and] at ht
       have hg:(fst++AV.clo (.yield l) [] []::cps)[t]? =some (fst++AV.clo (.yield l) [] []::cps)[t]:=List.getElem?_eq_getElem ht
       obtain⟨x,g1,g2⟩:=Bc hx t _ hg
       have e1:(fst++AV.clo (.yield l) [] []::cps).getD (t-0) .un=(fst++AV.clo (.yield l) [] []::cps)[t]:=by simp[List.getD_eq_getElem?_getD,hg]
       have hlt':t<vals.length:=by omega
       have e2:(vals.toArray++Array.replicate (fn.ntmps-vals.toArray.size) undef).getD t undef=x:=by
        rw[List.getElem?_eq_getElem hlt'] at g1
        simp at g1
        simp[Array.getD_eq_getD_getElem?,Array.getElem?_append_left,hlt',g1]
       rw[e1,e2];exact g2
      ·simp[Rep]
    ·intro k hk
     simp only[lk,if_true] at hk
     have:(0:Int)=k:=by simpa using hk
     rw[←this];exact hJ
  ·simp at hc
 ·simp at hc
theorem Oa {P:Program} {S:Tab} {m:Nm} {bc:List AV} (hS:TabOK P S) {f:Nat} {fn:Func} {c:AC} {fst cps:List AV} {xs:List (List AV)} (nt:Nat) (hf:P.funcs[f]? =some fn) (hc:Bl P fn=some (c,[])) (hnt:fn.ntmps=nt) (hgs:nt≤gs)
  (hn:(fst++cps).length<nt)
  (h:∀(l:Nat) (Γ:Ctx),Γ.OK→Γ.S=S→Gd Γ l xs→awp Γ c (itK xs.length) ⟨(gs,AY 0)::A1 0 (fst++AV.clo (.yield l) [] []::cps),A5 m 0 bc,m.2⟩):ItB P f fst cps m bc xs:=
 Pa hS nt hf hc hnt hgs hn fun l hb J evo hR=>h l _ (Ctx.it_ok hS) (Eq.refl _) fun i=>FL hS hR i
def QZ (n:Nm) (cells:List AV) (r:AV) (us:List (Nat×AV)) (r':AV) (s:St):Prop:=wk r' r∧∀j c,hl (Dv n us++A5 n 0 cells) (.c n j)=some c→hl s.hp (.c n j)=some c
theorem MJ {P:Program} {S:Tab} (hS:TabOK P S) {f:Nat} {fn:Func} {c:AC} {rvs:List RV} {n:Nm} {args cells:List AV} {r:AV} {us:List (Nat×AV)} (nt:Nat) (hf:P.funcs[f]? =some fn) (hc:Bl P fn=some (c,rvs)) (hnt:fn.ntmps=nt) (hn:args.length≤nt)
  (h:∀hb,awp (Ctx.fn P S nt hb) c (Bz rvs (QZ n cells r us)) ⟨A1 0 args,A5 n 0 cells,n.2⟩):I2 P f n args cells r us:=by
 intro σ vs hg hI hal hr
 refine callsIn_wide.1 ((Ha hS hf hc hnt hn hg hI (cnt:=n.2) (fun m hm=>by rw[hal m hm];exact Nat.le_refl _) hr (h _)).mono ?_)
 rintro en w' ⟨v,τ,s,r',rfl,rfl,ev,hτ,_,hv,hk1,hk2⟩
 exact⟨v,τ,rfl,rfl,ev,fun j c hj=>hτ.cel n j c (hk2 j c hj),DS _ _ _ hk1 hv⟩
def Ctx.fd (P:Program) (S:Tab) (nt hb:Nat):Ctx:={P:=P,F:=Fence.wide,S:=S,nt:=nt,hb:=(hb,true),R:=Evo,G:=fun _ _=>True,ofE:=id,tr:=Evo.trans,g:=fun _ _ _=>trivial}
theorem Ctx.fd_ok {P:Program} {S:Tab} {nt hb:Nat} (h:TabOK P S):(Ctx.fd P S nt hb).OK:=⟨h,.inl (Eq.refl _)⟩
theorem Q0 {P:Program} {S:Tab} {nt hb:Nat}:(Ctx.fd P S nt hb).S=S:=rfl
theorem KZ {P:Program} {nt:Nat} {ops:Array Oper} {o:Oper} {yo:AOp} (h:cOp P nt ops o=some yo):yo.k=cK P o.op∧o.dst=yo.d∧cG ops o.guard=some yo.g:=by
 unfold cOp at h
 split at h
 ·simp at h
 rename_i g hg
 split at h
 ·simp at h;subst h;exact⟨rfl,rfl,hg⟩
 ·simp at h
theorem Pb {P:Program} {op:Op} {x:Opd} (h:cK P op= .pan x):∃y,op= .panic y∧x=opd y:=by
 cases op with
 |panic y=>simp only[cK,AK.pan.injEq] at h;exact⟨y,rfl,h.symm⟩
 |_=>
  exfalso
  simp only[cK,DG,Bw,EY,EZ,E0,D2] at h
  (repeat' (split at h))<;>cases h
theorem Pc {P:Program} {op:Op} {x:Opd} (h:cK P op= .dfr x):∃c y,op= .defer c∧c.callee= .value y∧c.args.toList=[]∧x=opd y:=by
 cases op with
 |defer c=>
  simp only[cK] at h
  split at h
  ·rename_i y e1 e2
   simp only[AK.dfr.injEq] at h
   exact⟨c,y,rfl,e1,e2,h.symm⟩
  ·cases h
 |_=>
  exfalso
  simp only[cK,DG,Bw,EY,EZ,E0,D2] at h
  (repeat' (split at h))<;>cases h
theorem Pd {P:Program} {op:Op} (h:cK P op= .rcv):∃c,op= .call c∧c.callee= .builtin .recover:=by
 cases op with
 |call c=>
  simp only[cK,D2] at h
  split at h
  all_goals first|exact⟨c,rfl,‹_›⟩|((repeat' (split at h))<;>cases h)
 |_=>
  exfalso
  simp only[cK,DG,Bw,EY,EZ,E0] at h
  (repeat' (split at h))<;>cases h
variable {Γ:Ctx}
theorem Hv (hΓ:Γ.OK) {ops':Array Oper} {ops:List AOp} {WQ:Exit→Act→World→Prop} {σ:Cf} {a:Act} {e e1:Env} {h h1:Hp} {c rid i:Nat} {vc:Prop} {yo:AOp} (hx0:BO Γ.P Γ.nt ops' ops'.toList=some ops) (hlen:ops.length=i+1) (hyo:ops[i]? =some yo) (hgu:yo.g=none)
  (hex:AM Γ.S (c+1) (100*rid) (ops.take i) e h=some (vc,e1,h1)) (hvc:vc) (hA:At Γ σ ⟨e,h,c⟩ a)
  (hlast:∀(o:Oper) (a1:Act) (σ1:Cf),ops'[i]? =some o→yo.k=cK Γ.P o.op→o.dst=yo.d→Region.wanted o (yielded ops' a1.tmps)=true→Evo σ σ1→Inv σ1 e1 h1 a1 Γ.nt Γ.hb→(∀m,σ1.al m→m.2≤c+1)→(∀t,Γ.nt≤t→lk e1 t=lk e t)→
   wpOpIn Γ.F 0 Γ.P ops' WQ i (wpOpsIn Γ.F 0 Γ.P ops' WQ []) a1 σ1.w):
  wpOpsIn Γ.F 0 Γ.P ops' WQ (List.range ops'.size) a σ.w:=by
 obtain⟨c1,c2⟩:=Bm hx0
 obtain⟨t1,t2⟩:=Bj i hx0
 have hi:i<ops.length:=by omega
 have hsz:ops.length=ops'.size:=c1.trans (by simp)
 have hi':i<ops'.size:=by omega
 obtain⟨yo',g1,g2⟩:=c2 i ops'[i] (by simp)
 rw[hyo] at g1
 cases g1
 have hr:List.range ops'.size=List.range' 0 (ops'.toList.take i).length++[i]:=by
  have e1:(ops'.toList.take i).length=i:=by simp;omega
  rw[e1,List.range_eq_range',show ops'.size=i+1 by omega,List.range'_1_concat,Nat.zero_add]
 rw[hr]
 refine CU hΓ (cnt:=c) (100*rid) e _ (ops'.toList.take i) 0 (ops.take i) σ e e1 h h1 a vc (fun _ _=>rfl) (fun j hj=> ?_) t1 hex hvc hA.1 (fun m hm=> .inl (hA.2.1 m hm)) fun a1 σ1 ev1 hI1 hal1 hfar1=> ?_
 ·have:j<i:=by simp at hj;omega
  simp[List.getElem?_take,this]
 rw[wpOpsIn_cons]
 obtain⟨q1,q2,q3⟩:=KZ g2
 have hw:=BH hI1.t q3 (show Bv e1 yo.g=some true by rw[hgu];rfl)
 exact hlast _ a1 σ1 (Array.getElem?_eq_getElem hi') q1 q2 hw ev1 hI1 (fun m hm=>by rcases hal1 m hm with h|⟨h,_⟩<;>omega) hfar1
theorem Gx (hΓ:Γ.OK) (i:Nat) {rid:Nat} {ops:List AOp} {Q:AE→St→Prop} {e e1:Env} {h h1:Hp} {c:Nat} {vc:Prop} {d:Option Nat} {x:Opd} {t:TypeId} {v:Value} (hlen:ops.length=i+1) (hyo:ops[i]? =some ⟨d,none,.pan x⟩)
  (hex:AM Γ.S (c+1) (100*rid) (ops.take i) e h=some (vc,e1,h1)) (hvc:vc) (hx:ung true (opv e1 x)= .v (.iface t v)) (hQ:Q (.p (.iface t v)) ⟨e1,h1,c+1⟩):awp Γ (.reg rid ops) Q ⟨e,h,c⟩:=by
 intro code hc σ a hA
 cases code with
 |region id ops' d'=>
  simp only[cCode] at hc
  obtain⟨l0,hx0,⟨rfl,e0⟩|⟨_,_,_,_,e0⟩⟩:=AW hc
  ·cases e0
   refine wpIn_region (Hv hΓ hx0 hlen hyo rfl hex hvc hA fun o a1 σ1 ho hk hd hw ev hI hal hfar=> ?_)
   obtain⟨y,hop,rfl⟩:=Pb hk.symm
   have hX:=BC (g:=true) rfl hI.t y
   rw[hx] at hX
   have hv:a1.eval y= .iface t v:=by simpa [Rep] using hX
   unfold wpOpIn
   simp only[ho,hw,if_true]
   refine⟨fun f _=>hΓ.F.fn f, ?_⟩
   rw[Oper.semAt_eq _ a1.eval _ (fun c e=>by rw[hop] at e;cases e)]
   have hr:(execOp a1.eval o).run Γ.P σ1.w= .halt (.panic (.iface t v)) σ1.w:=by
    simp[execOp,hop,hv,Instr.panic,goPanic]
   rw[hr,Oper.uponIn_panic]
   exact⟨σ1,⟨e1,h1,c+1⟩,_,rfl,Γ.ofE ev,⟨hI,hal,Γ.g hA.2.2 ev fun t ht=> .inr (hfar t ht)⟩,rfl,hQ⟩
  ·cases e0
 |seq x y=>simp only[cCode] at hc;split at hc<;>simp at hc
 |cond c x y=>simp only[cCode] at hc;split at hc<;>simp at hc
 |rangeFunc f ps x y=>simp only[cCode] at hc;split at hc<;>simp at hc
 |_=>simp[cCode] at hc
theorem Ob {P:Program} {S:Tab} {nt hb:Nat} (hS:TabOK P S) (i:Nat) {rid:Nat} {ops:List AOp} {Q:AE→St→Prop} {e e1:Env} {h h1:Hp} {c f:Nat} {vc:Prop} {ys:List AV} {x:Opd} (hlen:ops.length=i+1) (hyo:ops[i]? =some ⟨none,none,.dfr x⟩)
  (hex:AM S (c+1) (100*rid) (ops.take i) e h=some (vc,e1,h1)) (hvc:vc) (hx:ung true (opv e1 x)= .clo (.func f) [] ys) (h0:lk e (dk nt)= .gd false (.tup [])) (hQ:Q .n ⟨(dk nt,.gd false (.clo (.func f) [] ys))::e1,h1,c+1⟩):awp (Ctx.fd P S nt hb) (.reg rid ops) Q ⟨e,h,c⟩:=by
 intro code hc σ a hA
 cases code with
 |region id ops' d'=>
  simp only[cCode] at hc
  obtain⟨l0,hx0,⟨rfl,e0⟩|⟨_,_,_,_,e0⟩⟩:=AW hc
  ·cases e0
   refine wpIn_region (Hv (Ctx.fd_ok hS) hx0 hlen hyo rfl hex hvc hA fun o a1 σ1 ho hk hd hw ev hI hal hfar=> ?_)
   obtain⟨cl,y,hop,hcl,har,rfl⟩:=Pc hk.symm
   have hX:=BC (g:=true) rfl hI.t y
   rw[hx] at hX
   simp only[Rep,RepL] at hX
   obtain⟨xs0,vs,hv,rfl,hvs⟩:=hX
   have har':cl.args= #[]:=Array.toList_inj.1 har
   unfold wpOpIn
   simp only[ho,hw,if_true]
   refine⟨fun f _=>trivial, ?_⟩
   have hs:o.semAt (Ctx.fd P S nt hb).F.round a1.eval=execOp a1.eval o:=by
    have:(Ctx.fd P S nt hb).F.round=none:=rfl
    rw[this];rfl
   rw[hs]
   have hr:(execOp a1.eval o).run (Ctx.fd P S nt hb).P σ1.w= .ok (.defer {target:= .fn (.func f) vs.toArray,args:= #[]}) σ1.w:=by
    simp[execOp,hop,resolve,hcl,har',hv,Deferred.ofValue]
   rw[hr,Oper.uponIn_defer]
   show wpOpsIn _ _ _ _ _ [] _ _
   simp only[wpOpsIn]
   have hdst:o.dst=none:=hd
   rw[hdst]
   refine⟨σ1,⟨(dk nt,.gd false (.clo (.func f) [] ys))::e1,h1,c+1⟩,_,Eq.refl _,ev,⟨⟨hI.h,fun t=> ?_,hI.sz,⟨?_,hI.df.le,hI.df.gl⟩⟩,hal,trivial⟩,rfl,hQ⟩
   ·simp only[lk]
    by_cases ht:dk nt=t
    ·rw[if_pos ht]
     subst ht
     have h1:a1.tmps.size=nt:=hI.sz
     have h2:¬dk nt<a1.tmps.size:=by rw[h1];exact Nat.not_lt.2 (Nat.le_add_right _ _)
     show Rep _ _ (a1.tmps.getD (dk nt) undef)
     have:a1.tmps.getD (dk nt) undef=undef:=by simp[Array.getD,h2]
     rw[this]
     simp[Rep]
    ·rw[if_neg ht];exact hI.t t
   ·obtain⟨ms,dd,q1,q2,q3,q4⟩:=hI.df.sp
    have hms:=q4.2.2.2 rfl
    have hdd:=q4.2.1 rfl ((hfar (dk nt) (Nat.le_add_right _ _)).trans h0)
    subst hms hdd
    have ek:lk ((dk nt,AV.gd false (.clo (.func f) [] ys))::e1) (dk nt)= .gd false (.clo (.func f) [] ys):=by simp only[lk,if_true]
    refine⟨[],[{target:= .fn (.func f) vs.toArray,args:= #[]}], ?_,by simp,.nil,fun h=>(by cases h),fun _ h=> ?_,fun _ f' ys' h=> ?_,fun _=>rfl⟩
    ·simp only[Act.put];rw[q1];rfl
    ·have h':=ek.symm.trans h
     cases h'
    ·have h':=ek.symm.trans h
     injection h' with _ h'
     injection h' with h1 _ h2
     injection h1 with h1
     subst h1 h2
     exact⟨vs,hvs,rfl⟩
  ·cases e0
 |seq x y=>simp only[cCode] at hc;split at hc<;>simp at hc
 |cond c x y=>simp only[cCode] at hc;split at hc<;>simp at hc
 |rangeFunc f ps x y=>simp only[cCode] at hc;split at hc<;>simp at hc
 |_=>simp[cCode] at hc
theorem MK {P:Program} {nt rid d:Nat} {id:Nat} {ops':Array Oper} {b:Bool} (h:K5 P nt id ops' b=some (.reg rid [⟨some d,none,.rcv⟩])):
  ∃o cl,ops'= #[o]∧b=false∧o.op= .call cl∧cl.callee= .builtin .recover∧o.dst=some d∧o.guard=none∧d<nt:=by
 obtain⟨l0,hx0,⟨rfl,e0⟩|⟨_,_,_,_,e0⟩⟩:=AW h
 ·cases e0
  obtain⟨c1,c2⟩:=Bm hx0
  have hsz:ops'.size=1:=by simpa using c1.symm
  obtain⟨o,ho⟩:∃o,ops'= #[o]:=⟨ops'[0],by
   apply Array.ext
   ·simp[hsz]
   ·intro i h1 h2
    have:i=0:=by simp at h2;exact h2
    subst this;simp⟩
  subst ho
  obtain⟨yo',g1,g2⟩:=c2 0 o (by simp)
  simp at g1
  subst g1
  obtain⟨q1,q2,q3⟩:=KZ g2
  obtain⟨cl,r1,r2⟩:=Pd q1.symm
  refine⟨o,cl,rfl,rfl,r1,r2,q2, ?_,B3 g2 d rfl⟩
  cases hg:o.guard with
  |none=>rfl
  |some p=>
   obtain⟨j,w⟩:=p
   rw[hg] at q3
   simp only[cG] at q3
   split at q3<;>cases q3
 ·cases e0
def Rcv (u:FrameMode) (rv:Value) (u':FrameMode):Prop:=
 ∀(c₀:Frame) (cs:List Frame),c₀.mode=u→recoverD (c₀::cs)=some (rv,{c₀ with mode:=u'}::cs)∨(recoverD (c₀::cs)=none∧rv= .nilIface∧u'=u)
theorem Oc:Rcv .returning .nilIface .returning:=fun c₀ cs h=> .inr ⟨by simp[recoverD,h],rfl,rfl⟩
theorem Od (v:Value):Rcv (.panicking [⟨v,false,false⟩]) v (.panicking [⟨v,true,false⟩]):=fun c₀ cs h=> .inl (by simp[recoverD,h])
def K0 (K:St→Prop):AE→St→Prop
 | .n,s=>K s
 | .r,s=>K s
 |_,_=>False
theorem LA {K:St→Prop} {s:St} (h:K s):K0 K .n s:=h
theorem Oe {P:Program} {S:Tab} (hS:TabOK P S) {f:Nat} {fn:Func} {rid d ntf:Nat} {ac:AC} (hf:P.funcs[f]? =some fn) (hcf:Bl P fn=some (.seq (.reg rid [⟨some d,none,.rcv⟩]) ac,[])) (hnt:fn.ntmps=ntf) {u u':FrameMode} {rv:Value} (hu:Rcv u rv u')
  {σ:Cf} {h1:Hp} {vals:List Value} {ys:List AV} {cnt:Nat} {K:St→Prop} (hgl:Gl σ) (hI:HInv σ h1) (hal:∀m,σ.al m→m.2≤cnt) (hv:RepL σ ys vals) (hn:ys.length≤ntf)
  (h:awp (Ctx.fd P S ntf σ.w.heap.size) ac (K0 fun s=>lk s.env (dk ntf)= .gd false (.tup [])∧K s) ⟨(d,.v rv)::(dk ntf,.gd false (.tup []))::A1 0 ys,h1,cnt⟩):
  CallsDIn Fence.wide 0 P f vals.toArray u σ.w fun e u2 w'=>∃v τ s,e= .returned v∧u2=u'∧τ.w=w'∧Evo σ τ∧HInv τ s.hp∧(∀m,τ.al m→m.2≤s.cnt)∧K s:=by
 subst hnt
 unfold Bl at hcf
 split at hcf
 ·rename_i b hbd
  split at hcf
  ·rename_i c' r' g1 g2
   simp only[yE,Prod.mk.injEq] at hcf
   obtain⟨rfl,rfl⟩:=hcf
   have hlen:=AP hv
   have hres:fn.results.toList=[]:=by
    cases hl:fn.results.toList with
    |nil=>rfl
    |cons x xs=>rw[hl] at g2;simp only[cRes] at g2;split at g2<;>simp at g2
   cases b with
   |seq b1 b2=>
    simp only[cCode] at g1
    split at g1
    ·rename_i x' y' hx hy
     simp only[yE,AC.seq.injEq] at g1
     obtain⟨rfl,rfl⟩:=g1
     cases b1 with
     |region id ops' dr=>
      simp only[cCode] at hx
      obtain⟨o,cl,rfl,rfl,r1,r2,r3,r4,hd⟩:=MK hx
      refine callsDIn_of_wpSIn hf hbd trivial fun c₀ cs hc₀=> ?_
      refine wpSIn_seq (wpSIn_region ?_)
      have hrun:(execOp ({tmps:=vals.toArray++Array.replicate (fn.ntmps-vals.toArray.size) undef,defers:=[]}:Act).eval o).run P σ.w= .ok .recover σ.w:=by
       simp[execOp,r1,r2,resolve,invoke,builtin]
      have hw:Region.wanted o (yielded #[o] (vals.toArray++Array.replicate (fn.ntmps-vals.toArray.size) undef))=true:=by
       unfold Region.wanted;rw[r4]
      have key:∀cs',cs'={c₀ with mode:=u'}::cs→(b2.wpSIn Fence.wide 0 P (bodyPostS P fn c₀ cs fun e u2 w'=>∃v τ s,e= .returned v∧u2=u'∧τ.w=w'∧Evo σ τ∧HInv τ s.hp∧(∀m,τ.al m→m.2≤s.cnt)∧K s))
        (({tmps:=vals.toArray++Array.replicate (fn.ntmps-vals.toArray.size) undef,defers:=[]}:Act).put o.dst rv) cs' σ.w:=by
       rintro cs' rfl
       refine wpSIn_of_wpIn rfl ?_
       have hput:(({tmps:=vals.toArray++Array.replicate (fn.ntmps-vals.toArray.size) undef,defers:=[]}:Act).put o.dst rv).defers=[]:=by rw[Act.defers_put]
       have hb:=h b2 hy σ (({tmps:=vals.toArray++Array.replicate (fn.ntmps-vals.toArray.size) undef,defers:=[]}:Act).put o.dst rv) ⟨⟨hI, ?_, ?_, ?_⟩,hal,trivial⟩
       ·refine wpIn_mono hb ?_
        rintro e a' w' ⟨τ,s',e',rfl,ev,h3,h4,h5⟩
        have fin:(lk s'.env (dk fn.ntmps)= .gd false (.tup [])∧K s')→bodyPostS P fn c₀ cs (fun e u2 w'=>∃v τ s,e= .returned v∧u2=u'∧τ.w=w'∧Evo σ τ∧HInv τ s.hp∧(∀m,τ.al m→m.2≤s.cnt)∧K s) .ret a' ({c₀ with mode:=u'}::cs) τ.w:=by
         rintro⟨hk0,hk⟩
         obtain⟨ms,dd,q1,_,_,q4⟩:=h3.1.df.sp
         have e1:=q4.2.2.2 rfl
         have e2:=q4.2.1 rfl hk0
         subst e1 e2
         have hr:=Ck (P:=P) (fn:=fn) (tmps:=a'.tmps) (w:=τ.w) (vs:=[]) (by rw[hres];rfl)
         exact⟨q1,u',rfl,_,hr,_,τ,s',rfl,rfl,rfl,ev,h3.1.h,h3.2.1,hk⟩
        cases e with
        |normal=>simp[AE.of] at h4;subst h4;exact fin h5
        |ret=>simp[AE.of] at h4;subst h4;exact fin h5
        |exit i=>simp[AE.of] at h4;subst h4;exact h5.elim
        |goto l=>simp[AE.of] at h4
        |panic c=>obtain⟨v,rfl,rfl⟩:=AE.of_panic h4;exact h5.elim
        |outgrown=>simp[AE.of] at h4
       ·rw[r3]
        refine TInv.put (d:=some d) (env:=(dk fn.ntmps,.gd false (.tup []))::A1 0 ys) (r:= .v rv) (fun t=> ?_) (fun k hk=>by cases hk;simp;omega) (by simp[Rep])
        simp only[lk]
        by_cases ht:dk fn.ntmps=t
        ·rw[if_pos ht]
         subst ht
         have h2:¬dk fn.ntmps<(vals.toArray++Array.replicate (fn.ntmps-vals.toArray.size) undef).size:=by
          simp only[Array.size_append,Array.size_replicate,List.size_toArray]
          unfold dk;omega
         have:(vals.toArray++Array.replicate (fn.ntmps-vals.toArray.size) undef).getD (dk fn.ntmps) undef=undef:=by simp only[Array.getD,h2,dif_neg,not_false_eq_true]
         rw[this]
         simp[Rep]
        ·rw[if_neg ht,Cl]
         split
         ·rename_i ht
          simp only[Nat.zero_le,Nat.zero_add,true_and] at ht
          have hg:ys[t]? =some ys[t]:=List.getElem?_eq_getElem ht
          obtain⟨x,g1,g2⟩:=Bc hv t _ hg
          have e1:ys.getD (t-0) .un=ys[t]:=by simp[ht]
          have hlt':t<vals.length:=by omega
          have e2:(vals.toArray++Array.replicate (fn.ntmps-vals.toArray.size) undef).getD t undef=x:=by
           rw[List.getElem?_eq_getElem hlt'] at g1
           simp at g1
           simp[Array.getD_eq_getD_getElem?,Array.getElem?_append_left,hlt',g1]
          rw[e1,e2];exact g2
         ·simp[Rep]
       ·rw[Act.size_put];show(vals.toArray++Array.replicate (fn.ntmps-vals.toArray.size) undef).size=fn.ntmps
        simp;omega
       ·rw[Act.defers_put]
        exact⟨⟨[],[],rfl,by simp,.nil,fun _=>rfl,fun _ _=>rfl,fun _ f' ys' h=>(by
         have ek:lk ((d,AV.v rv)::(dk fn.ntmps,AV.gd false (.tup []))::A1 0 ys) (dk fn.ntmps)= .gd false (.tup []):=(I4 hd).trans (by simp only[lk,if_true])
         have h':=ek.symm.trans h
         cases h'),fun _=>rfl⟩,Nat.le_refl _,hgl⟩
      show wpOpsSIn Fence.wide 0 P #[o] _ [0] _ _ _
      have ho:(#[o]:Array Oper)[0]? =some o:=rfl
      simp only[wpOpsSIn,ho,hrun]
      refine⟨fun f _=>trivial, ?_⟩
      rw[if_pos hw]
      rcases hu c₀ cs hc₀ with hr|⟨hr,rfl,rfl⟩
      ·simp only[hr]
       exact key _ rfl
      ·simp only[hr]
       exact key _ (by rw[←hc₀])
     |seq x y=>simp only[cCode] at hx;split at hx<;>simp at hx
     |cond c x y=>simp only[cCode] at hx;split at hx<;>simp at hx
     |rangeFunc f ps x y=>simp only[cCode] at hx;split at hx<;>simp at hx
     |_=>simp[cCode] at hx
    ·simp at g1
   |region id ops' d'=>
    simp only[cCode] at g1
    obtain⟨_,_,⟨_,e⟩|⟨_,_,_,_,e⟩⟩:=AW g1<;>cases e
   |cond c x y=>simp only[cCode] at g1;split at g1<;>simp at g1
   |rangeFunc f ps x y=>simp only[cCode] at g1;split at g1<;>simp at g1
   |_=>simp[cCode] at g1
  ·simp at hcf
 ·simp at hcf
def Hw (P:Program) (S:Tab) (fc:Nat) (ys:List AV) (rv:Value) (hp:Hp) (cnt:Nat) (K:St→Prop):Prop:=
 ∃fn rid d ntf ac,P.funcs[fc]? =some fn∧Bl P fn=some (.seq (.reg rid [⟨some d,none,.rcv⟩]) ac,[])∧fn.ntmps=ntf∧ys.length≤ntf∧okF P fc∧
  ∀hb,awp (Ctx.fd P S ntf hb) ac (K0 fun s=>lk s.env (dk ntf)= .gd false (.tup [])∧K s) ⟨(d,.v rv)::(dk ntf,.gd false (.tup []))::A1 0 ys,hp,cnt⟩
def fdK (P:Program) (S:Tab) (nt:Nat) (rvs:List RV) (r:AV):AE→St→Prop
 | .n,s=>(lk s.env (dk nt)= .gd false (.tup [])∧B4 rvs r s)∨∃fc ys,lk s.env (dk nt)= .gd false (.clo (.func fc) [] ys)∧Hw P S fc ys .nilIface s.hp s.cnt fun s'=>B4 rvs r ⟨s.env,s'.hp,s'.cnt⟩
 | .r,s=>(lk s.env (dk nt)= .gd false (.tup [])∧B4 rvs r s)∨∃fc ys,lk s.env (dk nt)= .gd false (.clo (.func fc) [] ys)∧Hw P S fc ys .nilIface s.hp s.cnt fun s'=>B4 rvs r ⟨s.env,s'.hp,s'.cnt⟩
 | .p v,s=>∃fc ys,lk s.env (dk nt)= .gd false (.clo (.func fc) [] ys)∧Hw P S fc ys v s.hp s.cnt fun s'=>B4 rvs r ⟨s.env,s'.hp,s'.cnt⟩
 | .x _,_=>False
theorem ML {P:Program} {S:Tab} (hS:TabOK P S) {f:Nat} {fn:Func} {c:AC} {rvs:List RV} {args:List AV} {r:AV} (nt:Nat) (hf:P.funcs[f]? =some fn) (hc:Bl P fn=some (c,rvs)) (hnt:fn.ntmps=nt)
  (hn:args.length≤nt) (h:∀hb,awp (Ctx.fd P S nt hb) c (fdK P S nt rvs r) ⟨(dk nt,.gd false (.tup []))::A1 0 args,[],0⟩):PCall P f args r:=by
 subst hnt
 unfold Bl at hc
 split at hc
 rotate_left
 ·simp at hc
 rename_i b hbd
 split at hc
 rotate_left
 ·simp at hc
 rename_i c' r' hcc hr
 simp only[yE,Prod.mk.injEq] at hc
 obtain⟨rfl,rfl⟩:=hc
 intro σ vs hgl hlt hp hx
 have hlen:=AP hx
 let τ:=σ.fresh
 have hgt:Gl τ:=fun b j hj=>⟨⟨fun h=>h,by rintro(h|h);exact(hgl b j hj).1.1 h;exact(hgl b j hj).1.2.1 h,(hgl b j hj).1.2.2⟩,(hgl b j hj).2⟩
 have hx':RepL τ args vs:=RepL.ofPure (σ:=σ) (σ':=τ) (fun b hb=>⟨fun h=>h,by rintro(h|h);exact hb.1 h;exact hb.2.1 h,hb.2.2⟩) (fun _ _=>rfl) args vs hp hx
 have hkey:∀x,lk ((dk fn.ntmps,x)::A1 0 args) (dk fn.ntmps)=x:=fun x=>by simp only[lk,if_true]
 have hI:Inv τ ((dk fn.ntmps,.gd false (.tup []))::A1 0 args) [] {tmps:=vs.toArray++Array.replicate (fn.ntmps-vs.toArray.size) undef,defers:=[]} fn.ntmps (σ.w.heap.size,true):=by
  refine⟨⟨fun n=>rfl,fun n j c h=>by simp[hl] at h,fun n sz live rows d h=>by simp[hl] at h, ?_,fun b h=>h.elim,hlt,fun b h=>h.elim⟩,fun t=> ?_,by simp;omega,⟨⟨[],[],rfl,by simp,.nil,fun _=>rfl,fun _ _=>rfl,fun _ f' ys' h=>(by rw[hkey] at h;cases h),fun _=>rfl⟩,Nat.le_refl _,hgt⟩⟩
  ·rintro p q b (⟨_,_,j,c,h⟩|⟨_,⟨_,_,_,h⟩,_⟩) _<;>simp[hl] at h
  ·simp only[lk]
   by_cases ht:dk fn.ntmps=t
   ·rw[if_pos ht]
    subst ht
    have h2:¬dk fn.ntmps<(vs.toArray++Array.replicate (fn.ntmps-vs.toArray.size) undef).size:=by
     simp only[Array.size_append,Array.size_replicate,List.size_toArray]
     unfold dk;omega
    have:(vs.toArray++Array.replicate (fn.ntmps-vs.toArray.size) undef).getD (dk fn.ntmps) undef=undef:=by simp only[Array.getD,h2,dif_neg,not_false_eq_true]
    rw[this]
    simp[Rep]
   ·rw[if_neg ht,Cl]
    split
    ·rename_i ht
     simp only[Nat.zero_le,Nat.zero_add,true_and] at ht
     have hg:args[t]? =some args[t]:=List.getElem?_eq_getElem ht
     obtain⟨x,g1,g2⟩:=Bc hx' t _ hg
     have e1:args.getD (t-0) .un=args[t]:=by simp[ht]
     have hlt':t<vs.length:=by omega
     have e2:(vs.toArray++Array.replicate (fn.ntmps-vs.toArray.size) undef).getD t undef=x:=by
      rw[List.getElem?_eq_getElem hlt'] at g1
      simp at g1
      simp[Array.getD_eq_getD_getElem?,Array.getElem?_append_left,hlt',g1]
     rw[e1,e2];exact g2
    ·simp[Rep]
 have hw:=h σ.w.heap.size b hcc τ _ ⟨hI,fun m hm=>hm.elim,trivial⟩
 refine callsIn_wide.1 (callsIn_of_wp_marks (n:=0) hf hbd trivial (wpIn_mono hw ?_))
 rintro e a' w' ⟨σ',s',e',rfl,h2,h3,h4,h5⟩
 have h2:Evo τ σ':=h2
 have fin:∀(ρ0:Cf) (hp':Hp) (cnt':Nat),Evo τ ρ0→HInv ρ0 hp'→TInv ρ0 s'.env a'→B4 r' r ⟨s'.env,hp',cnt'⟩→LeavesInM Fence.wide 0 P fn a'.tmps (fun e w'=>∃v',e= .returned v'∧(∀(b:Nat) (o:Obj),σ.w.heap[b]? =some o→w'.heap[b]? =some o)∧SameO σ.w w'∧A4 r=true∧Rep (σ.at w') r v') [] .returning ρ0.w:=by
  rintro ρ0 hp' cnt' ev hh ht ⟨vc,xs,g1,g2,g3,g4,g5⟩
  have hI':Inv ρ0 s'.env hp' {a' with defers:=[]} fn.ntmps (σ.w.heap.size,false):=⟨hh,ht,h3.1.sz,DOK.nil ev.sz (hgt.mono ev)⟩
  obtain⟨us,k1,k2⟩:=Cj (s:=⟨s'.env,hp',cnt'⟩) hI' hr g1 g2
  refine⟨_,Ck k1,_,rfl,fun b o hb=>(ev.fro b o hb (fun h=>h)).1,ev.io,g5, ?_⟩
  have hone:Rep ρ0 (one xs) (if h:us.toArray.size=1 then us.toArray[0] else .tuple us.toArray):=by
   have hl':=AP k2
   unfold one
   split
   ·rename_i x
    simp only[RepL] at k2
    obtain⟨y,ys,rfl,e2,rfl⟩:=k2
    simpa using e2
   ·rename_i hno
    have hne:us.toArray.size≠1:=by
     intro h1
     simp at h1
     rw[h1] at hl'
     cases xs with
     |nil=>simp at hl'
     |cons x xs=>cases xs with
      |nil=>exact hno x rfl
      |cons _ _=>simp at hl'
    rw[dif_neg hne]
    simp only[Rep]
    exact⟨us,rfl,k2⟩
  let ρ:Cf:={ρ0 with M:=fun _=>False}
  have e:Evo ρ0 ρ:=⟨fun _ h=>⟨h,rfl⟩,fun _ _ l h=>⟨l,h,Nat.le_refl _,fun _=>rfl⟩,fun _ _ h _=>⟨h,fun h=>h⟩,rfl,Nat.le_refl _,SameO.refl _⟩
  have h6:=EO (τ:=ρ) hI'.h e rfl (fun _ h=>h) _ _ g3 hone
  have h7:=DS _ _ _ g4 h6
  refine Rep.ofPure (σ:=ρ) (σ':=σ.at ρ0.w) (fun b hb=> ?_) (fun _ _=>rfl) r _ g5 h7
  have hO:ρ.O=τ.O:=ev.out
  have hb1:=hb.2.1
  rw[hO] at hb1
  exact⟨fun h=>hb1 (.inl h),fun h=>hb1 (.inr h),hb.2.2⟩
 obtain⟨ms,dd,q1,_,_,q4⟩:=h3.1.df.sp
 have hms:=q4.2.2.2 rfl
 subst hms
 rw[List.nil_append] at q1
 have clo:∀(u:FrameMode) (rv:Value) (u':FrameMode) (fc:Nat) (ys:List AV),u≠.run→Rcv u rv u'→settle u'= .returning→lk s'.env (dk fn.ntmps)= .gd false (.clo (.func fc) [] ys)→
   Hw P S fc ys rv s'.hp s'.cnt (fun t=>B4 r' r ⟨s'.env,t.hp,t.cnt⟩)→LeavesInM Fence.wide 0 P fn a'.tmps (fun e w'=>∃v',e= .returned v'∧(∀(b:Nat) (o:Obj),σ.w.heap[b]? =some o→w'.heap[b]? =some o)∧SameO σ.w w'∧A4 r=true∧Rep (σ.at w') r v') a'.defers u σ'.w:=by
  rintro u rv u' fc ys hrun hu hset hk ⟨fnc,rid,d,ntf,ac,z1,z2,z3,z4,z5,z6⟩
  obtain⟨vals,y1,y2⟩:=q4.2.2.1 rfl fc ys hk
  rw[q1,y2]
  refine⟨hrun,.inr ⟨fun h=>by simp[Fence.wide] at h,.func fc,vals.toArray,fc,vals.toArray,rfl, ?_,fun _ _=>trivial, ?_⟩⟩
  ·simp only[invoke]
   have:=BN z5 (#[]++vals.toArray) σ'.w
   simpa using this
  ·refine(Oe hS z1 z2 z3 hu h3.1.df.gl h3.1.h h3.2.1 y1 z4 (z6 _)).mono ?_
   rintro e u2 w2 ⟨v,τ2,t,rfl,rfl,rfl,ev2,hh2,hal2,hk2⟩
   show LeavesInM _ _ _ _ _ _ [] (settle u2) _
   rw[hset]
   exact fin τ2 t.hp t.cnt (h2.trans ev2) hh2 (h3.1.t.mono ev2) hk2
 have done:((lk s'.env (dk fn.ntmps)= .gd false (.tup [])∧B4 r' r s')∨∃fc ys,lk s'.env (dk fn.ntmps)= .gd false (.clo (.func fc) [] ys)∧Hw P S fc ys .nilIface s'.hp s'.cnt fun t=>B4 r' r ⟨s'.env,t.hp,t.cnt⟩)→LeavesInM Fence.wide 0 P fn a'.tmps (fun e w'=>∃v',e= .returned v'∧(∀(b:Nat) (o:Obj),σ.w.heap[b]? =some o→w'.heap[b]? =some o)∧SameO σ.w w'∧A4 r=true∧Rep (σ.at w') r v') a'.defers .returning σ'.w:=by
  rintro(⟨k0,k1⟩|⟨fc,ys,k0,k1⟩)
  ·have hdd:=q4.2.1 rfl k0
   rw[q1,hdd]
   exact fin σ' s'.hp s'.cnt h2 h3.1.h h3.1.t k1
  ·exact clo .returning .nilIface .returning fc ys (by simp) Oc rfl k0 k1
 cases e with
 |normal=>simp[AE.of] at h4;subst h4;exact done h5
 |ret=>simp[AE.of] at h4;subst h4;exact done h5
 |exit i=>simp[AE.of] at h4;subst h4;exact h5.elim
 |goto l=>simp[AE.of] at h4
 |panic c=>
  obtain⟨v,rfl,rfl⟩:=AE.of_panic h4
  obtain⟨fc,ys,k0,k1⟩:=h5
  exact clo (.panicking [⟨v,false,false⟩]) v (.panicking [⟨v,true,false⟩]) fc ys (by simp) (Od v) rfl k0 k1
 |outgrown=>simp[AE.of] at h4
end Go.Proofs.YtdabfcbelkjmgaaGreatDoor.Am
