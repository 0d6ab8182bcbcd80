import Derived.Test.YtciphecegkfaiaaGreatA4
import Derived.LoopNIn
namespace Go.Proofs.YtciphecegkfaiaaGreat.Am
set_option linter.unusedSimpArgs false
set_option linter.unusedVariables false
open Go
def gs:Nat:=1000000
@[reducible] def Ck (k:Int):AV:= .gd false (.v (.int .i64 k))
structure Rng (P:Program) (F:Fence) (l hb:Nat) (xs:List (List AV)) (J:Int→Cf→Prop):Prop where
 evo:∀{k:Int} {σ σ':Cf},J k σ→Evo σ σ'→J k σ'
 oth:∀{k:Int} {σ σ':Cf},J k σ→Oth σ σ'→σ'.O=σ.O→(∀(b:Nat) (o:Obj),b<hb∨σ.O b→σ.w.heap[b]? =some o→σ'.w.heap[b]? =some o)→J k σ'
 rnd:∀{k:Nat} {args:List AV} {σ:Cf} {hp:Hp} {vals:List Value},J k σ→HInv σ hp→xs[k]? =some args→RepL σ args vals→
  ∃f tmps assign body,(Instr.yield l vals.toArray).run P σ.w= .ok (.round l f tmps assign body) σ.w∧RoundIn F 0 P l f tmps assign body σ.w fun e w'=>∃(b:Bool) (σ':Cf),e= .returned (.bool b)∧σ'.w=w'∧Oth σ σ'∧(∀(b:Nat) (o:Obj),¬σ.O b→σ.w.heap[b]? =some o→σ'.w.heap[b]? =some o∧¬σ'.O b)∧J (if b=true then k+1 else-1) σ'
def Ctx.it (P:Program) (F:Fence) (S:Tab) (nt hb:Nat) (J:Int→Cf→Prop) (hnt:nt≤gs) (evo:∀{k:Int} {σ σ':Cf},J k σ→Evo σ σ'→J k σ'):Ctx:=
 {P:=P,F:=F,S:=S,nt:=nt,hb:=(hb,false),R:=fun _ _=>True,G:=fun e σ=>∀k,lk e gs=Ck k→J k σ
  ofE:=fun _=>trivial,tr:=fun _ _=>trivial
  g:=fun hG e ht k hk=>by
   rcases ht gs hnt with h|h
   ·rw[h] at hk;cases hk
   ·exact evo (hG k (h▸hk)) e}
variable {Γ:Ctx}
theorem GU (hΓ:Γ.OK) {ops:Array Oper} {Q:Exit→Act→World→Prop} {cnt:Nat} (bs:Nat) (e0:Env) (rest:List Nat):∀(l:List Oper) (k:Nat) (aops:List AOp) (σ:Cf) (env env':Env) (hp hp':Hp) (a:Act) (vc:Prop),
  (∀t,Γ.nt≤t→lk env t=lk e0 t)→(∀j,j<l.length→l[j]? =ops[k+j]?)→FS Γ.P Γ.nt ops l=some aops→Bl Γ.S (cnt+1) (bs+k) aops env hp=some (vc,env',hp')→vc→Inv σ env hp a Γ.nt Γ.hb→(∀m,σ.al m→m.2≤cnt∨(m.2=cnt+1∧m.1<bs+k))→
  (∀a' σ',Evo σ σ'→Inv σ' env' hp' a' Γ.nt Γ.hb→(∀m,σ'.al m→m.2≤cnt∨(m.2=cnt+1∧m.1<bs+(k+l.length)))→(∀t,Γ.nt≤t→lk env' t=lk e0 t)→wpOpsIn Γ.F 0 Γ.P ops Q rest a' σ'.w)→
  wpOpsIn Γ.F 0 Γ.P ops Q (List.range' k l.length++rest) a σ.w
 |[],k,aops,σ,env,env',hp,hp',a,vc,hgl,hl,hc,hex,hvc,hI,hal,hQ=>by
  simp[FS] at hc;subst hc
  simp only[Bl,yE,Prod.mk.injEq] at hex
  obtain⟨_,rfl,rfl⟩:=hex
  simp only[List.length_nil,List.range'_zero,List.nil_append]
  exact hQ a σ (Evo.refl σ) hI (fun m hm=>hal m hm) hgl
 |o::l,k,aops,σ,env,env',hp,hp',a,vc,hgl,hl,hc,hex,hvc,hI,hal,hQ=>by
  simp only[FS] at hc
  split at hc
  ·rename_i x xs hx hxs
   simp at hc;subst hc
   simp only[Bl] at hex
   split at hex
   ·simp at hex
   rename_i v1 r1 ws1 hex1
   split at hex
   ·simp at hex
   rename_i v2 e2 h2 hex2
   simp only[yE,Prod.mk.injEq] at hex
   obtain⟨rfl,rfl,rfl⟩:=hex
   have ho:ops[k]? =some o:=by have:=hl 0 (by simp);simpa using this.symm
   have hnm:¬σ.al (bs+k,cnt+1):=by
    intro h
    rcases hal _ h with h|h
    ·simp at h;omega
    ·simp at h
   simp only[List.length_cons,List.range'_succ,List.cons_append]
   rw[wpOpsIn_cons]
   refine IG hΓ.S hΓ.F (n:=0) ho hx hI ⟨hnm,cnt+1,fun m hm=>by rcases hal m hm with h|h<;>omega⟩ hex1 hvc.1 fun a' σ' e' hI' hal'=> ?_
   refine GU hΓ bs e0 rest l (k+1) xs σ' _ _ _ _ a' v2 (fun t ht=>(FL (Fg hx) ht).trans (hgl t ht)) (fun j hj=> ?_) hxs hex2 hvc.2 hI' (fun m hm=> ?_) fun a'' σ'' e'' hI'' hal'' hg''=>hQ a'' σ'' (e'.trans e'') hI'' (fun m hm=> ?_) hg''
   ·have:=hl (j+1) (by simp;omega)
    simpa [Nat.add_assoc,Nat.add_comm 1 j] using this
   ·rcases hal' m hm with h|rfl
    ·rcases hal m h with h|h<;>omega
    ·right;simp
   ·rcases hal'' m hm with h|h
    ·exact .inl h
    ·right;simp only[List.length_cons];omega
  ·simp at hc
theorem Qf {P:Program} {o:Oper} {a:Act} {w:World} {c:Call} {x:Operand} {l:Nat} {nx:Go.Next} (ho:o.op= .call c) (hc:c.callee= .value x) (hX:a.eval x= .func (.yield l) #[] #[])
  (hy:(Instr.yield l (c.args.toList.map a.eval).toArray).run P w= .ok nx w):(execOp a.eval o).run P w= .ok nx w:=by
 have e:(c.args.toList.map a.eval).toArray=c.args.map a.eval:=by apply Array.ext';simp
 rw[e] at hy
 simp only[execOp,ho,resolve,hc,hX,Sem.run_bind,Deferred.ofValue,Sem.run_pure,Result.andThen,invoke]
 simpa using hy
theorem Do {P:Program} {nt:Nat} {ops:Array Oper}:∀{l:List Oper} {xs:List AOp} (i:Nat),FS P nt ops l=some xs→FS P nt ops (l.take i)=some (xs.take i)∧FS P nt ops (l.drop i)=some (xs.drop i)
 |l,xs,0,h=>by simp[FS,h]
 |[],xs,i+1,h=>by simp[FS] at h;subst h;simp[FS]
 |o::l,xs,i+1,h=>by
  simp only[FS] at h
  split at h
  ·rename_i x ys hx hys
   simp at h;subst h
   obtain⟨h1,h2⟩:=Do i hys
   simp only[List.take_succ_cons,List.drop_succ_cons,FS,hx,h1,h2]
   exact⟨trivial,trivial⟩
  ·simp at h
theorem RL {P:Program} {nt:Nat} {ops:Array Oper} {o:Oper} {yo:AOp} {x:Opd} {as:List Opd} (h:cOp P nt ops o=some yo) (hk:yo.k= .cv x as):∃c y,o.op= .call c∧c.callee= .value y∧x=opd y∧as=c.args.toList.map opd∧o.dst=yo.d∧cG ops o.guard=some yo.g:=by
 unfold cOp at h
 split at h
 ·simp at h
 rename_i g hg
 split at h
 ·simp at h
  subst h
  simp only at hk
  cases ho:o.op with
  |call c=>
   rw[ho] at hk
   simp only[cK,HM] at hk
   split at hk
   ·cases hk
   ·rename_i y hno hy
    injection hk with h1 h2
    exact⟨c,y,rfl,hy,h1.symm,h2.symm,rfl,hg⟩
   all_goals (repeat' (split at hk))<;>cases hk
  |_=>
   exfalso
   rw[ho] at hk
   simp only[cK,Hc,En,IA,IB,IC,JB,ID] at hk
   (repeat' (split at hk))<;>cases hk
 ·simp at h
end Go.Proofs.YtciphecegkfaiaaGreat.Am
namespace Go.Proofs.YtciphecegkfaiaaGreat.Am
set_option linter.unusedSimpArgs false
set_option linter.unusedVariables false
open Go
def itK (n:Nat):AE→St→Prop
 | .x _,_=>False
 | .p _,_=>False
 |_,s=>lk s.env gs=Ck n∨lk s.env gs=Ck (-1)
section
variable {P:Program} {S:Tab} {nt hb:Nat} {J:Int→Cf→Prop} {hnt:nt≤gs} {evo:∀{k:Int} {σ σ':Cf},J k σ→Evo σ σ'→J k σ'} {l:Nat} {xs:List (List AV)}
theorem VN (hS:TabOK P S) (hR:Rng P Fence.wide l hb xs J) (i:Nat) {rid:Nat} {ops:List AOp} {yo:AOp} {Q:AE→St→Prop} {e e1:Env} {h h1:Hp} {c:Nat} {vc:Prop} {x:Opd} {as:List Opd} {k:Nat} {args:List AV}
  (hyo:ops[i]? =some yo) (hk:yo.k= .cv x as) (hex:Bl S (c+1) (100*rid) (ops.take i) e h=some (vc,e1,h1)) (hvc:vc) (hg:EF e1 yo.g=some true) (hx:ung true (opv e1 x)= .clo (.yield l) [] [])
  (hgh:lk e gs=Ck k) (hargs:as.map (fun x=>ung true (opv e1 x))=args) (hxs:xs[k]? =some args)
  (hQ:∀b:Bool,∃(vc2:Prop) (e2:Env) (h2:Hp),Bl S (c+1) (100*rid+(i+1)) (ops.drop (i+1)) (BX yo.d (.v (.bool b)) ((gs,Ck (if b=true then k+1 else-1))::e1)) h1=some (vc2,e2,h2)∧vc2∧Q .n ⟨e2,h2,c+1⟩):
  awp (Ctx.it P Fence.wide S nt hb J hnt evo) (.reg rid ops) Q ⟨e,h,c⟩:=by
 intro code hc σ a hA
 have hΓ:(Ctx.it P Fence.wide S nt hb J hnt evo).OK:=⟨hS,.inl rfl⟩
 cases code with
 |region id ops' d=>
  simp only[cCode] at hc
  obtain⟨l0,hx0,⟨rfl,e0⟩|⟨_,_,_,_,e0⟩⟩:=Ca hc
  ·cases e0
   refine wpIn_region ?_
   obtain⟨c1,c2⟩:=Ea hx0
   obtain⟨t1,t2⟩:=Do i hx0
   obtain⟨_,t3⟩:=Do (i+1) hx0
   have hi:i<ops.length:=(List.getElem?_eq_some_iff.1 hyo).1
   have hsz:ops.length=ops'.size:=c1.trans (by simp)
   have hi':i<ops'.size:=by omega
   have ho:ops'[i]? =some ops'[i]:=Array.getElem?_eq_getElem hi'
   obtain⟨yo',g1,g2⟩:=c2 i ops'[i] (by simp)
   rw[hyo] at g1
   cases g1
   obtain⟨cl,y,k1,k2,rfl,rfl,k3,k4⟩:=RL g2 hk
   have hr:List.range ops'.size=List.range' 0 (ops'.toList.take i).length++(i::List.range' (i+1) (ops'.toList.drop (i+1)).length):=by
    have e1:(ops'.toList.take i).length=i:=by simp;omega
    have e2:(ops'.toList.drop (i+1)).length=ops'.size-(i+1):=by simp
    rw[e1,e2,List.range_eq_range',←List.range'_succ]
    have:=List.range'_append_1 (s:=0) (m:=i) (n:=ops'.size-(i+1)+1)
    rw[Nat.zero_add] at this
    rw[this]
    congr 1
    omega
   rw[hr]
   refine GU hΓ (cnt:=c) (100*rid) e _ (ops'.toList.take i) 0 (ops.take i) σ e e1 h h1 a vc (fun _ _=>rfl) (fun j hj=> ?_) t1 hex hvc hA.1 (fun m hm=> .inl (hA.2.1 m hm)) fun a1 σ1 ev1 hI1 hal1 hfar1=> ?_
   ·have:j<i:=by simp at hj;omega
    simp[List.getElem?_take,this]
   rw[wpOpsIn_cons]
   unfold wpOpIn
   simp only[ho]
   have hw:=E3 hI1.t k4 hg
   simp only[hw,if_true]
   refine⟨fun f _=>trivial, ?_⟩
   have hno:∀c,ops'[i].op≠.defer c:=fun c hd=>by rw[k1] at hd;cases hd
   rw[Oper.semAt_eq _ a1.eval _ hno]
   have hX:=Eo (g:=true) rfl hI1.t y
   rw[hx] at hX
   simp only[Rep,RepL] at hX
   obtain⟨xs0,ys0,hX,rfl,rfl⟩:=hX
   have hV:=EX (g:=true) rfl hI1.t cl.args.toList
   have hJ:J k σ1:=evo (hA.2.2 k hgh) ev1
   have hV':RepL σ1 args (cl.args.toList.map a1.eval):=by
    rw[←hargs]
    exact hV
   obtain⟨f,tmps,assign,body,y1,y2⟩:=hR.rnd hJ hI1.h hxs hV'
   show Oper.uponIn Fence.wide 0 P ops'[i] a1 _ _ (Sem.run P (execOp a1.eval ops'[i]) σ1.w)
   rw[Qf k1 k2 (by simpa using hX) y1]
   rw[Oper.uponIn_round]
   refine⟨fun h=>by simp[Fence.wide] at h,y2.mono ?_⟩
   rintro en w' ⟨b,σ2,rfl,rfl,oth,old,hJ2⟩
   obtain⟨vc2,e2,h2,q1,q2,q3⟩:=hQ b
   have hd:∀k,ops'[i].dst=some k→k<a1.tmps.size:=by
    rw[k3];intro d hd
    rw[hI1.sz];exact Fg g2 d hd
   have hI2:Inv σ2 (BX yo.d (.v (.bool b)) ((gs,Ck (if b=true then k+1 else-1))::e1)) h1 (a1.put ops'[i].dst (.bool b)) nt (hb,false):=by
    refine⟨hI1.h.oth oth, ?_,by rw[Act.size_put];exact hI1.sz, ?_⟩
    ·rw[←k3]
     refine TInv.put (r:= .v (.bool b)) (fun t=> ?_) hd (by simp[Rep])
     simp only[lk]
     by_cases ht:gs=t
     ·rw[if_pos ht]
      subst ht
      have:¬gs<a1.tmps.size:=by rw[hI1.sz];exact Nat.not_lt.2 hnt
      simp[Rep,Array.getD,this]
     ·rw[if_neg ht];exact hI1.t.ev oth.ev t
    ·rw[Act.defers_put]
     refine DOK.of rfl (fun d hd=> ?_) (hI1.df.nd rfl) (Nat.le_trans hI1.df.le oth.sz) (hI1.df.gl.ev oth.ev)
     obtain⟨r,r1,r2,r3,r4,r5⟩:=hI1.df.all rfl d hd
     obtain⟨o1,o2⟩:=old r _ r5 r3
     exact⟨r,r1,r2,o1,by rw[oth.M];exact r4,o2⟩
   have hgh2:lk (BX yo.d (.v (.bool b)) ((gs,Ck (if b=true then k+1 else-1))::e1)) gs=Ck (if b=true then k+1 else-1):=by
    rw[FL (Fg g2) hnt];simp[lk]
   have hG2:(Ctx.it P Fence.wide S nt hb J hnt evo).G (BX yo.d (.v (.bool b)) ((gs,Ck (if b=true then k+1 else-1))::e1)) σ2:=by
    intro k' hk'
    rw[hgh2] at hk'
    have:(if b=true then(k:Int)+1 else-1)=k':=by simpa using hk'
    rw[←this]
    exact hJ2
   have hal2:∀m,σ2.al m→m.2≤c∨(m.2=c+1∧m.1<100*rid+(i+1)):=by
    intro m hm
    rw[oth.al] at hm
    rcases hal1 m hm with h|⟨h3,h4⟩
    ·exact .inl h
    ·right;simp at h4;omega
   have hh:=AbK hΓ (ops:=ops') (Q:=Q) (cnt:=c) (100*rid) _ σ2 hG2 (ops'.toList.drop (i+1)) (i+1) (ops.drop (i+1)) σ2 _ _ _ _ _ vc2 (fun _ _=>rfl) (fun j=>by simp) (by simp;omega) t3 q1 q2 (Evo.refl σ2) hI2 hal2 q3
   have hl:lift (Ctx.it P Fence.wide S nt hb J hnt evo) σ2 Q=lift (Ctx.it P Fence.wide S nt hb J hnt evo) σ Q:=rfl
   rw[hl] at hh
   exact hh
  ·cases e0
 |seq x y=>simp only[cCode] at hc;split at hc<;>simp at hc
 |cond c x y=>simp only[cCode] at hc;split at hc<;>simp at hc
 |rangeFunc f ps x y=>simp only[cCode] at hc;split at hc<;>simp at hc
 |_=>simp[cCode] at hc
end
def ItC (P:Program) (f:Nat) (fst cps:List AV) (xs:List (List AV)):Prop:=
 ∀(l hb:Nat) (J:Int→Cf→Prop) (σ:Cf) (vals:List Value),Rng P Fence.wide l hb xs J→J 0 σ→HInv σ []→(∀m,¬σ.al m)→RepL σ (fst++AV.clo (.yield l) [] []::cps) vals→hb≤σ.w.heap.size→Gl σ→
  CallsIn Fence.wide 0 P f vals.toArray σ.w fun e w'=>∃v σ',e= .returned v∧σ'.w=w'∧(J xs.length σ'∨J (-1) σ')
theorem HInv.nil {σ:Cf} {hp:Hp} (h:HInv σ hp):∃σ',σ'={σ with ln:=fun _=>none}∧HInv σ' []:=
 ⟨_,rfl,fun _=>rfl,fun n j c h=>by simp[hl] at h,fun n sz live rows d h=>by simp[hl] at h,by
  rintro p q b (⟨_,_,j,c,h⟩|⟨_,⟨_,_,_,h⟩,_⟩) _<;>simp[hl] at h,h.lt,h.ou,h.dis⟩
theorem VO {P:Program} {S:Tab} (hS:TabOK P S) {f:Nat} {fn:Func} {c:AC} {fst cps:List AV} {xs:List (List AV)} (nt:Nat) (hf:P.funcs[f]? =some fn) (hc:D4 P fn=some (c,[])) (hnt:fn.ntmps=nt) (hgs:nt≤gs)
  (hn:(fst++cps).length<nt)
  (h:∀(l hb:Nat) (J:Int→Cf→Prop) (evo:∀{k:Int} {σ σ':Cf},J k σ→Evo σ σ'→J k σ'),Rng P Fence.wide l hb xs J→
   awp (Ctx.it P Fence.wide S nt hb J hgs evo) c (itK xs.length) ⟨(gs,Ck 0)::Cj 0 (fst++AV.clo (.yield l) [] []::cps),[],0⟩):ItC P f fst cps xs:=by
 subst hnt
 intro l hb J σ vals hR hJ hI hal hx hsz hgl
 unfold D4 at hc
 split at hc
 ·rename_i b hbd
  split at hc
  ·rename_i c' r' h1 h2
   simp at hc
   obtain⟨rfl,rfl⟩:=hc
   have hw:=h l hb J hR.evo hR b h1 σ {tmps:=vals.toArray++Array.replicate (fn.ntmps-vals.toArray.size) undef,defers:=[]} ?_
   ·refine callsIn_of_wp_marks (n:=0) hf hbd trivial (wpIn_mono hw ?_)
    rintro e a' w' ⟨σ',s',e',rfl,_,h3,h4,h5⟩
    have key:(lk s'.env gs=Ck xs.length∨lk s'.env gs=Ck (-1))→LeavesInM Fence.wide 0 P fn a'.tmps (fun e w'=>∃v σ',e= .returned v∧σ'.w=w'∧(J xs.length σ'∨J (-1) σ')) a'.defers .returning σ'.w:=by
     intro hk
     refine GH a'.defers σ' (fun b hb=>⟨h3.1.h.ou b hb,fun hM=>h3.1.h.dis b hM hb⟩) (DOK.of' h3.1.df) fun ρ ko kO kb=> ?_
     obtain⟨ρ',hρ,hn'⟩:=(h3.1.h.oth ko).nil
     obtain⟨us,k1,k2⟩:=Gt (P:=P) (s:=⟨[],[],0⟩) (rs:=fn.results.toList) (rvs:=[]) (vc:=True) (xs:=[]) (σ:=ρ') (a:={a' with defers:=[]}) (nt:=fn.ntmps) (hb:=(hb,false))
      ⟨hn',fun t=>by simp[lk,Rep],h3.1.sz,DOK.nil (by rw[hρ];exact Nat.le_trans h3.1.df.le ko.sz) (by rw[hρ];exact fun b j hj=>⟨((h3.1.df.gl.ev ko.ev) b j hj).1,((h3.1.df.gl.ev ko.ev) b j hj).2⟩)⟩ h2 rfl trivial
     rw[hρ] at k1
     refine⟨_,Gu k1,_,ρ,rfl,rfl, ?_⟩
     have hj:∀k,J k σ'→J k ρ:=fun k hk=>hR.oth hk ko kO kb
     rcases hk with hk|hk
     ·exact .inl (hj _ (h3.2.2 _ hk))
     ·exact .inr (hj _ (h3.2.2 _ hk))
    cases e with
    |normal=>simp[AE.of] at h4;subst h4;exact key h5
    |ret=>simp[AE.of] at h4;subst h4;exact key h5
    |exit i=>simp[AE.of] at h4;subst h4;exact h5.elim
    |goto l=>simp[AE.of] at h4
    |panic c=>obtain⟨v,rfl,rfl⟩:=AE.of_panic h4;exact h5.elim
    |outgrown=>simp[AE.of] at h4
   ·have hlen:=Bz hx
    refine⟨⟨hI,fun t=> ?_,by show _=fn.ntmps;simp at hn hlen⊢;omega,DOK.nil hsz hgl⟩,fun m hm=>(hal m hm).elim, ?_⟩
    ·simp only[lk]
     by_cases ht:gs=t
     ·rw[if_pos ht]
      subst ht
      have h1:vals.length≤fn.ntmps:=by simp at hn hlen;omega
      have:¬gs<vals.length+(fn.ntmps-vals.length):=by omega
      simp[Rep,Array.getD,this]
     ·rw[if_neg ht,Gv]
      split
      ·rename_i ht
       simp only[Nat.zero_le,Nat.zero_add,true_and] at ht
       have hg:(fst++AV.clo (.yield l) [] []::cps)[t]? =some (fst++AV.clo (.yield l) [] []::cps)[t]:=List.getElem?_eq_getElem ht
       obtain⟨x,g1,g2⟩:=Ds hx t _ hg
       have e1:(fst++AV.clo (.yield l) [] []::cps).getD (t-0) .un=(fst++AV.clo (.yield l) [] []::cps)[t]:=by simp[List.getD_eq_getElem?_getD,hg]
       have hlt':t<vals.length:=by omega
       have e2:(vals.toArray++Array.replicate (fn.ntmps-vals.toArray.size) undef).getD t undef=x:=by
        rw[List.getElem?_eq_getElem hlt'] at g1
        simp at g1
        simp[Array.getD_eq_getD_getElem?,Array.getElem?_append_left,hlt',g1]
       rw[e1,e2];exact g2
      ·simp[Rep]
    ·intro k hk
     simp only[lk,if_true] at hk
     have:(0:Int)=k:=by simpa using hk
     rw[←this];exact hJ
  ·simp at hc
 ·simp at hc
structure Pair (O0:Nat→Prop) (l D:Nat) (so si:Cf):Prop where
 w:so.w=si.w
 oi:∀b,si.O b↔so.M b∨O0 b∨b=l∨b=D
 oo:∀b,so.O b↔O0 b∨(si.M b∧b<si.w.heap.size)
 di:∀b,si.M b→¬si.O b
 ob:∀b,si.O b→b<si.w.heap.size
structure Way (ss so si:Cf):Prop where
 box:∀n,ss.al n→so.al n∧so.rb n=ss.rb n
 arr:∀n,ss.al n→∀l',so.ln n=some l'→∃l,ss.ln n=some l∧l≤l'∧(l=l'→so.ra n=ss.ra n)
 old:∀b o,ss.w.heap[b]? =some o→¬ss.M b→so.w.heap[b]? =some o∧¬so.M b
 ni:∀b,b<ss.w.heap.size→¬ss.M b→¬si.M b
 sz:ss.w.heap.size≤so.w.heap.size
 io:SameO ss.w so.w
theorem Kc {w:World} {b o:Nat} {x:Value} (h:w.cell? ⟨b,o,none⟩=some x):∃cs T f,w.heap[b]? =some (.cells cs T f):=by
 simp only[World.cell?] at h
 split at h
 ·rename_i cs T f hb
  exact⟨cs,T,f,hb⟩
 ·simp at h
theorem VQ {O0:Nat→Prop} {l D:Nat} {ss so si si':Cf} (hp:Pair O0 l D so si) (hw:Way ss so si)
  (hdis:∀b,so.M b→¬so.O b) (hO:si'.O=si.O) (hsz:si.w.heap.size≤si'.w.heap.size) (hio:SameO si.w si'.w) (hM:∀b,b<si.w.heap.size→¬si.M b→¬si'.M b)
  (hP:∀(b:Nat) (o:Obj),(b<ss.w.heap.size∨si.O b)→¬si.M b→si.w.heap[b]? =some o→si'.w.heap[b]? =some o)
  (hF:∀b o x,Fz si b→si.w.cell? ⟨b,o,none⟩=some x→si'.w.cell? ⟨b,o,none⟩=some x)
  (hl:∀cs T f,si.w.heap[l]?≠some (.cells cs T f)) (hD:∀cs T f,si.w.heap[D]?≠some (.cells cs T f)):
  ∃so':Cf,Pair O0 l D so' si'∧Way ss so' si'∧Oth so so'∧so'.M=so.M∧∀b,b<so.w.heap.size→¬so.O b→¬so'.O b:=by
 obtain⟨h1,h2,h3,h4,h5⟩:=hp
 have obM:∀b,so.M b→si.O b:=fun b hb=>(h2 b).2 (.inl hb)
 have noM:∀b,si.O b→¬si.M b:=fun b hO hM=>h4 b hM hO
 have keep:∀b,si.O b→si'.w.heap[b]? =si.w.heap[b]? :=fun b hb=>by
  have:=Array.getElem?_eq_getElem (h5 b hb)
  rw[this];exact hP b _ (.inr hb) (noM b hb) this
 let so':Cf:={so with w:=si'.w,O:=fun b=>O0 b∨(si'.M b∧b<si'.w.heap.size)}
 have dj:∀b,si'.M b→¬si.O b:=fun b hb hO=>hM b (h5 b hO) (noM b hO) hb
 refine⟨so',⟨rfl,fun b=>by rw[hO];exact h2 b,fun b=>Iff.rfl,fun b hb=>by rw[hO];exact dj b hb,fun b hb=>by rw[hO] at hb;exact Nat.lt_of_lt_of_le (h5 b hb) hsz⟩,
  ⟨hw.box,hw.arr,fun b o hb hm=> ?_,fun b hb hm=> ?_, ?_,hw.io.trans (by rw[h1];exact hio)⟩,⟨rfl,rfl,rfl,rfl,rfl,fun b hb=> ?_,by rw[h1];exact hsz,fun b hb=>by rw[h1];exact keep b (obM b hb),fun b o x hf hc=> ?_,by rw[h1];exact hio⟩,rfl,fun b hlt hn=> ?_⟩
 ·obtain⟨g1,g2⟩:=hw.old b o hb hm
  have hlt:=(Array.getElem?_eq_some_iff.1 hb).1
  rw[h1] at g1
  exact⟨hP b o (.inl hlt) (hw.ni b hlt hm) g1,g2⟩
 ·have:b<si.w.heap.size:=by rw[←h1];exact Nat.lt_of_lt_of_le hb hw.sz
  exact hM b this (hw.ni b hb hm)
 ·exact Nat.le_trans hw.sz (by rw[h1];exact hsz)
 ·have hs:so.w.heap.size=si.w.heap.size:=by rw[h1]
  rcases hb with hb|⟨hb,hlt⟩
  ·have hO':si.O b:=(h2 b).2 (.inr (.inl hb))
   have hso:so.O b:=(h3 b).2 (.inl hb)
   exact⟨Nat.lt_of_lt_of_le (h5 b hO') hsz,fun hm=>hdis b hm hso,fun hf=>hf.2.1 hso⟩
  ·refine⟨hlt,fun hm=>dj b hb (obM b hm),fun hf=> ?_⟩
   have hlt':b<si.w.heap.size:=by rw[←hs];exact hf.2.2
   refine hM b hlt' (fun hm=>hf.2.1 ((h3 b).2 (.inr ⟨hm,hlt'⟩))) hb
 ·rw[h1] at hc
  obtain⟨cs,T,f,hcs⟩:=Kc hc
  have hlt':b<si.w.heap.size:=(Array.getElem?_eq_some_iff.1 hcs).1
  refine hF b o x ⟨fun hm=>hf.2.1 ((h3 b).2 (.inr ⟨hm,hlt'⟩)),fun hO'=> ?_,hlt'⟩ hc
  rcases(h2 b).1 hO' with g|g|rfl|rfl
  ·exact hf.1 g
  ·exact hf.2.1 ((h3 b).2 (.inl g))
  ·exact hl _ _ _ hcs
  ·exact hD _ _ _ hcs
 ·rintro(h|⟨h,_⟩)
  ·exact hn ((h3 b).2 (.inl h))
  ·rw[h1] at hlt
   exact hM b hlt (fun hm=>hn ((h3 b).2 (.inr ⟨hm,hlt⟩))) h
def OI (c:Code) (e:AE):Prop:=(c= .ret∧e= .r)∨∃id,c= .exit id∧e= .x id
structure RFix where
 O0:Nat→Prop
 l:Nat
 D:Nat
 ss:Cf
 e:Env
 a:Act
 lp:LoopState→Option Code→Loop
def RJ (Γ:Ctx) (φ:RFix) {X:Type} (I:X→Hp×Nat) (Pre:X→Prop) (K:X→Nat) (Q:AE→St→Prop) (k:Int) (si:Cf):Prop:=
 ∃so hp cnt st pe,Pair φ.O0 φ.l φ.D so si∧Way φ.ss so si∧Inv so φ.e hp φ.a Γ.nt Γ.hb∧(∀m,so.al m→m.2≤cnt)∧¬so.M φ.l∧so.w.heap[φ.l]? =some (.loop (φ.lp st pe))∧so.w.heap[φ.D]? =some (.deferred (some []))∧
  ((∃x,Pre x∧(K x:Int)=k∧st= .ready∧pe=none∧hp=(I x).1∧cnt=(I x).2)∨(k= -1∧∃c e',st= .done∧pe=some c∧OI c e'∧Q e' ⟨φ.e,hp,cnt⟩))
section
variable {Γ:Ctx} {φ:RFix} {X:Type} {I:X→Hp×Nat} {Pre:X→Prop} {K:X→Nat} {Q:AE→St→Prop} {k:Int} {si si':Cf}
theorem RJ.step (h:RJ Γ φ I Pre K Q k si) (hdf:∀d∈φ.a.defers,∃r,d={target:= .collected r,args:= #[]}∧(r<φ.ss.w.heap.size∨r=φ.D))
  (hO:si'.O=si.O) (hsz:si.w.heap.size≤si'.w.heap.size) (hio:SameO si.w si'.w) (hM:∀b,b<si.w.heap.size→¬si.M b→¬si'.M b)
  (hP:∀(b:Nat) (o:Obj),(b<φ.ss.w.heap.size∨si.O b)→¬si.M b→si.w.heap[b]? =some o→si'.w.heap[b]? =some o)
  (hF:∀b o x,Fz si b→si.w.cell? ⟨b,o,none⟩=some x→si'.w.cell? ⟨b,o,none⟩=some x):RJ Γ φ I Pre K Q k si':=by
 obtain⟨so,hp,cnt,st,pe,h1,h2,h3,h4,h8,h5,h6,h7⟩:=h
 have hw:=h1.w
 have hl:∀cs T f,si.w.heap[φ.l]?≠some (.cells cs T f):=fun cs T f=>by rw[←hw,h5];simp
 have hD:∀cs T f,si.w.heap[φ.D]?≠some (.cells cs T f):=fun cs T f=>by rw[←hw,h6];simp
 obtain⟨ms,dd,e0,m1,m2,m3⟩:=h3.df.sp
 obtain⟨so',g1,g2,g3,g4,g5⟩:=VQ h1 h2 h3.h.dis hO hsz hio hM hP hF hl hD
 have hlO:si.O φ.l:=(h1.oi _).2 (.inr (.inr (.inl rfl)))
 have hDO:si.O φ.D:=(h1.oi _).2 (.inr (.inr (.inr rfl)))
 have keep:∀b o,si.O b→so.w.heap[b]? =some o→so'.w.heap[b]? =some o:=fun b o hb ho=>by
  rw[g1.w]
  rw[hw] at ho
  exact hP b o (.inr hb) (fun hm=>h1.di b hm hb) ho
 refine⟨so',hp,cnt,st,pe,g1,g2,⟨h3.h.oth g3,h3.t.ev g3.ev,h3.sz,⟨⟨ms,dd,e0,fun d hd=> ?_,m2,m3.map fun ys vs=>RepL.monoE g3.ev ys vs⟩,Nat.le_trans h3.df.le g3.sz,h3.df.gl.ev g3.ev⟩⟩,fun m hm=>h4 m (by rw[g3.al] at hm;exact hm),by rw[g4];exact h8,keep _ _ hlO h5,keep _ _ hDO h6,h7⟩
 obtain⟨r,r1,r2,r3,r4,r5⟩:=m1 d hd
 obtain⟨r',q1,q2⟩:=hdf d (by rw[e0];exact List.mem_append_left _ hd)
 have e:r=r':=by rw[r1] at q1;simpa using q1
 subst e
 have hlt:=(Array.getElem?_eq_some_iff.1 r3).1
 refine⟨r,r1,r2, ?_,by rw[g4];exact r4,g5 r hlt r5⟩
 rcases q2 with q2|rfl
 ·rw[g1.w]
  rw[hw] at r3
  exact hP r _ (.inl q2) (fun hm=>r5 ((h1.oo r).2 (.inr ⟨hm,by rw[←h1.w];exact hlt⟩))) r3
 ·exact keep _ _ hDO r3
theorem RJ.evo (hdf:∀d∈φ.a.defers,∃r,d={target:= .collected r,args:= #[]}∧(r<φ.ss.w.heap.size∨r=φ.D)) (h:RJ Γ φ I Pre K Q k si) (e:Evo si si'):RJ Γ φ I Pre K Q k si':=
 h.step hdf e.out e.sz e.io (fun b hb hm=>(e.fro b _ (Array.getElem?_eq_getElem hb) hm).2) (fun b o _ hm hb=>(e.fro b o hb hm).1) fun _ _ _ hf hc=>e.cell hf.1 hc
theorem RJ.oth {hb:Nat} (hhb:φ.ss.w.heap.size≤hb) (hdf:∀d∈φ.a.defers,∃r,d={target:= .collected r,args:= #[]}∧(r<φ.ss.w.heap.size∨r=φ.D)) (h:RJ Γ φ I Pre K Q k si) (o:Oth si si') (hO:si'.O=si.O)
  (hP:∀(b:Nat) (o:Obj),b<hb∨si.O b→si.w.heap[b]? =some o→si'.w.heap[b]? =some o):RJ Γ φ I Pre K Q k si':=
 h.step hdf hO o.sz o.io (fun b _ hm=>by rw[o.M];exact hm) (fun b ob hb _ hc=>hP b ob (hb.imp (fun h=>Nat.lt_of_lt_of_le h hhb) id) hc) o.fro
end
structure Rd (l:Nat) (σ σ':Cf):Prop where
 box:∀n,σ.al n→σ'.al n∧σ'.rb n=σ.rb n
 arr:∀n,σ.al n→∀l',σ'.ln n=some l'→∃l,σ.ln n=some l∧l≤l'∧(l=l'→σ'.ra n=σ.ra n)
 fro:∀b o,b≠l→σ.w.heap[b]? =some o→¬σ.M b→σ'.w.heap[b]? =some o∧¬σ'.M b
 out:σ'.O=σ.O
 sz:σ.w.heap.size≤σ'.w.heap.size
 io:SameO σ.w σ'.w
theorem Evo.rd {l:Nat} {σ σ':Cf} (h:Evo σ σ'):Rd l σ σ':=⟨h.box,h.arr,fun b o _=>h.fro b o,h.out,h.sz,h.io⟩
theorem Rd.trans {l:Nat} {a b c:Cf} (h:Rd l a b) (k:Rd l b c):Rd l a c where
 box n hn:=⟨(k.box n (h.box n hn).1).1,((k.box n (h.box n hn).1).2).trans (h.box n hn).2⟩
 arr n hn l' hl':=by
  obtain⟨l,h1,h2,h3⟩:=k.arr n (h.box n hn).1 l' hl'
  obtain⟨m,g1,g2,g3⟩:=h.arr n hn l h1
  refine⟨m,g1,Nat.le_trans g2 h2,fun e=> ?_⟩
  have e1:m=l:=by omega
  have e2:l=l':=by omega
  rw[h3 e2,g3 e1]
 fro b o hb hh hm:=by
  obtain⟨h1,h2⟩:=h.fro b o hb hh hm
  exact k.fro b o hb h1 h2
 out:=k.out.trans h.out
 sz:=Nat.le_trans h.sz k.sz
 io:=h.io.trans k.io
theorem HA {σ:Cf} {l:Nat} {r r':Loop} (hO:∀b,σ.O b→b<σ.w.heap.size∧¬σ.M b) (hM:¬σ.M l) (h:σ.w.heap[l]? =some (.loop r)):
  ∃τ:Cf,τ={σ with w:=σ.w.putObj l (.loop r')}∧Oth σ τ∧Rd l σ τ∧τ.w.heap[l]? =some (.loop r')∧∀b o,b≠l→σ.w.heap[b]? =some o→τ.w.heap[b]? =some o:=by
 have hlt:l<σ.w.heap.size:=(Array.getElem?_eq_some_iff.1 h).1
 have hsz:(σ.w.putObj l (.loop r')).heap.size=σ.w.heap.size:=World.putObj_size
 have ho:∀b,b≠l→(σ.w.putObj l (.loop r')).heap[b]? =σ.w.heap[b]? :=fun b hb=>World.putObj_heap_other hb
 refine⟨_,rfl,⟨rfl,rfl,rfl,rfl,rfl,fun b hb=>⟨by simp only[hsz];exact(hO b hb).1,(hO b hb).2,fun hf=>hf.2.1 hb⟩,by simp only[hsz];exact Nat.le_refl _,fun b hb=>ho b (by rintro rfl;exact hM hb),fun b o x _ hc=> ?_,⟨rfl,rfl⟩⟩,
  ⟨fun _ h=>⟨h,rfl⟩,fun _ _ l h=>⟨l,h,Nat.le_refl _,fun _=>rfl⟩,fun b o hb hh hm=>⟨(ho b hb).trans hh,hm⟩,rfl,by simp only[hsz];exact Nat.le_refl _,⟨rfl,rfl⟩⟩,World.putObj_heap_same hlt,fun b o hb hh=>(ho b hb).trans hh⟩
 have hb:b≠l:=by
  rintro rfl
  obtain⟨_,_,_,hc'⟩:=Kc hc
  rw[h] at hc';simp at hc'
 simp only[World.cell?,ho b hb]
 exact hc
theorem Rd.ev {l:Nat} {σ σ':Cf} {r:Loop} (h:Rd l σ σ') (hM:¬σ'.M l) (hl:σ.w.heap[l]? =some (.loop r)):Ev σ σ' where
 box:=h.box
 arr:=h.arr
 fz b hb:=by
  by_cases e:b=l
  ·subst e;exact⟨hM,by rw[h.out];exact hb.2.1,Nat.lt_of_lt_of_le hb.2.2 h.sz⟩
  ·obtain⟨h1,h2⟩:=h.fro b _ e (Array.getElem?_eq_getElem hb.2.2) hb.1
   exact⟨h2,by rw[h.out];exact hb.2.1,Nat.lt_of_lt_of_le hb.2.2 h.sz⟩
 cell b o x hb hc:=by
  have e:b≠l:=by
   rintro rfl
   obtain⟨_,_,_,hc'⟩:=Kc hc
   rw[hl] at hc';simp at hc'
  obtain⟨h1,_⟩:=h.fro b _ e (Array.getElem?_eq_getElem hb.2.2) hb.1
  have h0:=Array.getElem?_eq_getElem hb.2.2
  simp only[World.cell?,h0] at hc
  simp only[World.cell?,h1]
  exact hc
theorem DOK.rd {l:Nat} {hb:HB} {σ σ':Cf} {r:Loop} {x:AV} {ds:List Deferred} (h:DOK hb σ x ds) (k:Rd l σ σ') (hl:σ.w.heap[l]? =some (.loop r)) (hM:hb.2=false∨¬σ'.M l):DOK hb σ' x ds where
 sp:=by
  obtain⟨ms,dd,e0,m1,m2,m3⟩:=h.sp
  refine⟨ms,dd,e0,fun d hd=> ?_,m2, ?_⟩
  ·obtain⟨r,h1,h2,h3,h4,h5⟩:=m1 d hd
   have e:r≠l:=by rintro rfl;rw[hl] at h3;simp at h3
   obtain⟨g1,g2⟩:=k.fro r _ e h3 h4
   exact⟨r,h1,h2,g1,g2,by rw[k.out];exact h5⟩
  ·rcases hM with hM|hM
   ·exact⟨m3.1,m3.2.1,fun e=>(by rw[hM] at e;cases e),m3.2.2.2⟩
   ·exact m3.map fun ys vs=>RepL.monoE (k.ev hM hl) ys vs
 le:=Nat.le_trans h.le k.sz
 gl b j hj:=by
  obtain⟨h1,h2⟩:=h.gl b j hj
  have e:b≠l:=by rintro rfl;simp[World.cell?,hl] at h2
  obtain⟨g1,g2⟩:=k.fro b _ e (Array.getElem?_eq_getElem h1.2.2) h1.1
  refine⟨⟨g2,by rw[k.out];exact h1.2.1,Nat.lt_of_lt_of_le h1.2.2 k.sz⟩, ?_⟩
  rw[←h2]
  simp only[World.cell?,g1,Array.getElem?_eq_getElem h1.2.2]
section
variable {Γ:Ctx} {φ:RFix} {X:Type} {I:X→Hp×Nat} {Pre:X→Prop} {K:X→Nat} {Q:AE→St→Prop}
theorem VR {so si s4:Cf} {hp hp4 hpi:Hp} {cnt4:Nat} {st st':LoopState} {pe pe':Option Code} {k':Int} (h1:Pair φ.O0 φ.l φ.D so si) (h2:Way φ.ss so si) (h3:Inv so φ.e hp φ.a Γ.nt Γ.hb) (hlM:¬so.M φ.l)
  (hl:so.w.heap[φ.l]? =some (.loop (φ.lp st pe))) (hD:so.w.heap[φ.D]? =some (.deferred (some []))) (hDM:¬so.M φ.D) (hi:HInv si hpi) (hls:φ.ss.w.heap.size≤φ.l)
  (hr:Rd φ.l so s4) (h4:HInv s4 hp4) (hlM4:¬s4.M φ.l) (hl4:s4.w.heap[φ.l]? =some (.loop (φ.lp st' pe'))) (hal:∀m,s4.al m→m.2≤cnt4)
  (h7:(∃x,Pre x∧(K x:Int)=k'∧st'= .ready∧pe'=none∧hp4=(I x).1∧cnt4=(I x).2)∨(k'= -1∧∃c e',st'= .done∧pe'=some c∧OI c e'∧Q e' ⟨φ.e,hp4,cnt4⟩)):
  ∃si':Cf,si'.w=s4.w∧Oth si si'∧(∀(b:Nat) (o:Obj),¬si.O b→si.w.heap[b]? =some o→si'.w.heap[b]? =some o∧¬si'.O b)∧RJ Γ φ I Pre K Q k' si':=by
 have hw:=h1.w
 have hsz:si.w.heap.size≤s4.w.heap.size:=by rw[←hw];exact hr.sz
 have hlO:si.O φ.l:=(h1.oi _).2 (.inr (.inr (.inl rfl)))
 have hDO:si.O φ.D:=(h1.oi _).2 (.inr (.inr (.inr rfl)))
 have hlD:φ.D≠φ.l:=by intro e;rw[e,hl] at hD;simp at hD
 have keep:∀(b:Nat) (o:Obj),¬si.O b→si.w.heap[b]? =some o→s4.w.heap[b]? =some o∧¬s4.M b:=fun b o hb ho=>by
  rw[←hw] at ho
  exact hr.fro b o (by rintro rfl;exact hb hlO) ho fun hm=>hb ((h1.oi b).2 (.inl hm))
 have new:∀b,¬si.O b→b<si.w.heap.size→¬(s4.M b∨φ.O0 b∨b=φ.l∨b=φ.D):=fun b hb hlt=>by
  rintro(g|g)
  ·exact(keep b _ hb (Array.getElem?_eq_getElem hlt)).2 g
  ·exact hb ((h1.oi b).2 (.inr g))
 let si':Cf:={si with w:=s4.w,O:=fun b=>s4.M b∨φ.O0 b∨b=φ.l∨b=φ.D}
 have ob':∀b,si'.O b→b<s4.w.heap.size:=fun b hb=>by
  rcases hb with g|g
  ·exact h4.lt b g
  ·exact Nat.lt_of_lt_of_le (h1.ob b ((h1.oi b).2 (.inr g))) hsz
 have di':∀b,si.M b→¬si'.O b:=fun b hb=>new b (h1.di b hb) (hi.lt b hb)
 refine⟨si',rfl,⟨rfl,rfl,rfl,rfl,rfl,fun b hb=>⟨ob' b hb,fun hm=>di' b hm hb,fun hf=>new b hf.2.1 hf.2.2 hb⟩,hsz,fun b hb=> ?_,fun b o x hf hc=> ?_,by rw[←hw];exact hr.io⟩,fun b o hb ho=>⟨(keep b o hb ho).1,new b hb (Array.getElem?_eq_some_iff.1 ho).1⟩,
  s4,hp4,cnt4,st',pe',⟨rfl,fun b=>Iff.rfl,fun b=> ?_,di',ob'⟩,⟨fun n hn=> ?_,fun n hn l' hl'=> ?_,fun b o ho hm=> ?_,h2.ni,Nat.le_trans h2.sz hr.sz,h2.io.trans hr.io⟩,
  ⟨h4,h3.t.ev (hr.ev hlM4 hl),h3.sz,h3.df.rd hr hl (.inr hlM4)⟩,hal,hlM4,hl4,(hr.fro _ _ hlD hD hDM).1,h7⟩
 ·have h0:=Array.getElem?_eq_getElem (hi.lt b hb)
  rw[h0];exact(keep b _ (h1.di b hb) h0).1
 ·have h0:=Array.getElem?_eq_getElem hf.2.2
  have h0':=(keep b _ hf.2.1 h0).1
  simp only[World.cell?,h0] at hc
  simp only[World.cell?,si',h0']
  exact hc
 ·rw[hr.out,h1.oo b]
  refine or_congr Iff.rfl ⟨fun h=>⟨h.1,Nat.lt_of_lt_of_le h.2 hsz⟩,fun h=>⟨h.1,hi.lt b h.1⟩⟩
 ·exact⟨(hr.box n (h2.box n hn).1).1,((hr.box n (h2.box n hn).1).2).trans (h2.box n hn).2⟩
 ·obtain⟨l1,g1,g2,g3⟩:=hr.arr n (h2.box n hn).1 l' hl'
  obtain⟨m,q1,q2,q3⟩:=h2.arr n hn l1 g1
  refine⟨m,q1,Nat.le_trans q2 g2,fun e=> ?_⟩
  have e1:m=l1:=by omega
  have e2:l1=l':=by omega
  rw[g3 e2,q3 e1]
 ·obtain⟨g1,g2⟩:=h2.old b o ho hm
  have hlt:=(Array.getElem?_eq_some_iff.1 ho).1
  exact hr.fro b o (by omega) g1 g2
end
def Ctx.rd (P:Program) (S:Tab) (nt l:Nat):Ctx:={P:=P,F:=Fence.wide.inRound l,S:=S,nt:=nt,hb:=(0,false),R:=Evo,G:=fun _ _=>True,ofE:=id,tr:=Evo.trans,g:=fun _ _ _=>trivial}
theorem Ctx.rd_ok {P:Program} {S:Tab} {nt l:Nat} (h:TabOK P S):(Ctx.rd P S nt l).OK:=⟨h,.inr ⟨l,Eq.refl _⟩⟩
def FF:List Nat→List AV→Env→Env
 |p::ps,x::xs,e=>FF ps xs ((p,x)::e)
 |_,_,e=>e
def B1 (Γ:Ctx) (b:AC) (Q:AE→St→Prop):AE→St→Prop
 | .n,s=>awp Γ b Q s
 |_,_=>False
def BS {X:Type} (e:Env) (I:X→Hp×Nat) (Pre:X→Prop) (K:X→Nat) (j:Nat) (Q:AE→St→Prop):AE→St→Prop
 | .n,s=>∃x,Pre x∧K x=j∧Le ⟨e,(I x).1,(I x).2⟩ ⟨e,s.hp,s.cnt⟩
 | .x i,s=>Q (.x i) ⟨e,s.hp,s.cnt⟩
 | .r,s=>Q .r ⟨e,s.hp,s.cnt⟩
 | .p _,_=>False
theorem LM {σ:Cf}:∀{ps:List Nat} {args:List AV} {vals:List Value} {e:Env} {tmps:Array Value} {d d':List Deferred},TInv σ e {tmps:=tmps,defers:=d}→RepL σ args vals→args.length=ps.length→(∀p∈ps,p<tmps.size)→
  TInv σ (FF ps args e) {tmps:=(ps.zip vals).foldl (fun t (p,v)=>t.setIfInBounds p v) tmps,defers:=d'}∧((ps.zip vals).foldl (fun t (p,v)=>t.setIfInBounds p v) tmps).size=tmps.size
 |[],args,vals,e,tmps,d,d',h,hr,hl,hp=>by
  cases args with
  |nil=>simp only[FF,List.zip_nil_left,List.foldl_nil];exact⟨h,trivial⟩
  |cons _ _=>simp at hl
 |p::ps,args,vals,e,tmps,d,d',h,hr,hl,hp=>by
  cases args with
  |nil=>simp at hl
  |cons x xs=>
   simp only[RepL] at hr
   obtain⟨v,vs,rfl,h1,h2⟩:=hr
   simp only[FF,List.zip_cons_cons,List.foldl_cons]
   have hk:TInv σ ((p,x)::e) {tmps:=tmps.setIfInBounds p v,defers:=d}:=by
    have:=TInv.put (d:=some p) (v:=v) (r:=x) h (fun k hk=>by cases hk;exact hp p (by simp)) h1
    simpa [BX,Act.put] using this
   have:=LM (d':=d') hk h2 (by simpa using hl) (fun q hq=>by simp;exact hp q (by simp[hq]))
   refine⟨this.1,by rw[this.2];simp⟩
section
variable {P:Program} {S:Tab} {nt hbo:Nat} {φ:RFix} {X:Type} {I:X→Hp×Nat} {Pre:X→Prop} {K:X→Nat} {Q:AE→St→Prop}
theorem RJ.rnd {ps:Array Nat} {assign body:Code} {fn:FuncId} {asg bdy:AC} {xs:List (List AV)} (hlp:φ.lp=fun st pe=>{state:=st,pending:=pe,fn:=fn,tmps:=φ.a.tmps,params:=ps,assign:=assign,body:=body,defers:=φ.D})
  (hca:cCode P nt assign=some asg) (hcb:cCode P nt body=some bdy) (hps:∀p∈ps.toList,p<nt) (hpure:∀args∈xs,AB args=true∧args.length=ps.toList.length)
  (hround:∀x,Pre x→∀args,xs[K x]? =some args→awp (Ctx.rd P S nt φ.l) asg (B1 (Ctx.rd P S nt φ.l) bdy (BS φ.e I Pre K (K x+1) Q)) ⟨FF ps.toList args φ.e,(I x).1,(I x).2⟩)
  (hls:φ.ss.w.heap.size≤φ.l) (hDd:∃d∈φ.a.defers,d={target:= .collected φ.D,args:= #[]})
  {k:Nat} {args:List AV} {si:Cf} {hpi:Hp} {vals:List Value} (h:RJ (Ctx.fn P S nt hbo) φ I Pre K Q k si) (hi:HInv si hpi) (hxs:xs[k]? =some args) (hv:RepL si args vals):
  ∃f tmps assign body,(Instr.yield φ.l vals.toArray).run P si.w= .ok (.round φ.l f tmps assign body) si.w∧RoundIn Fence.wide 0 P φ.l f tmps assign body si.w fun e w'=>∃(b:Bool) (σ':Cf),e= .returned (.bool b)∧σ'.w=w'∧Oth si σ'∧(∀(b:Nat) (o:Obj),¬si.O b→si.w.heap[b]? =some o→σ'.w.heap[b]? =some o∧¬σ'.O b)∧RJ (Ctx.fn P S nt hbo) φ I Pre K Q (if b=true then k+1 else-1) σ':=by
 obtain⟨so,hp,cnt,st,pe,h1,h2,h3,h4,h8,h5,h6,h7⟩:=h
 rcases h7 with⟨x,hx,hk,rfl,rfl,rfl,rfl⟩|⟨hk,_⟩
 ·have hk:K x=k:=by omega
  obtain⟨hpu,hlen⟩:=hpure args (List.mem_of_getElem? hxs)
  have hvl:=Bz hv
  have hDM:¬so.M φ.D:=by
   obtain⟨d,hd,rfl⟩:=hDd
   obtain⟨r,r1,_,_,r4,_⟩:=h3.df.all rfl _ hd
   have:φ.D=r:=by simpa using r1
   rw[this];exact r4
  have hdis:∀b,so.O b→b<so.w.heap.size∧¬so.M b:=fun b hb=>⟨h3.h.ou b hb,fun hM=>h3.h.dis b hM hb⟩
  have hv':RepL so args vals:=RepL.ofPure (σ:=si) (σ':=so) (fun b hb=>⟨fun hm=>hb.2.1 ((h1.oi b).2 (.inl hm)),fun ho=>by
   rcases(h1.oo b).1 ho with g|g
   ·exact hb.2.1 ((h1.oi b).2 (.inr (.inl g)))
   ·exact hb.1 g.1,by rw[h1.w];exact hb.2.2⟩) (fun _ _=>by rw[h1.w]) args vals hpu hv
  have hy:=run_yield (P:=P) (args:=vals.toArray) (w:=si.w) (l:=φ.l) (by rw[←h1.w];exact h5) (by rw[hlp];simp at hlen⊢;omega)
  rw[hlp] at hy
  refine⟨_,_,_,_,hy, ?_⟩
  have hT:=LM (d':=[]) (σ:=so) (ps:=ps.toList) (args:=args) (vals:=vals) (e:=φ.e) (tmps:=φ.a.tmps) (d:=φ.a.defers) h3.t hv' hlen (fun p hp=>by rw[h3.sz];exact hps p hp)
  have hfold:(ps.zip vals.toArray).foldl (fun t (p,v)=>t.setIfInBounds p v) φ.a.tmps=(ps.toList.zip vals).foldl (fun t (p,v)=>t.setIfInBounds p v) φ.a.tmps:=by
   rw[←Array.foldl_toList];simp
  refine roundIn_of_wpIn (F:=Fence.wide) trivial ?_
  rw[hfold,←h1.w]
  have ha:=hround x hx args (by rw[hk];exact hxs) assign hca so {tmps:=_,defers:=[]} ⟨⟨h3.h,hT.1,by rw[hT.2];exact h3.sz,DOK.nil (Nat.zero_le _) h3.df.gl⟩,h4,trivial⟩
  refine wpIn_mono ha ?_
  rintro e a1 w1 ⟨s1,t1,e',rfl,ev1,at1,he,hq⟩
  have ev1:Evo so s1:=ev1
  cases e with
  |normal=>
   simp[AE.of] at he;subst he
   obtain⟨b1,b2⟩:=ev1.fro _ _ h5 h8
   have dis1:∀b,s1.O b→b<s1.w.heap.size∧¬s1.M b:=fun b hb=>⟨at1.1.h.ou b hb,fun hM=>at1.1.h.dis b hM hb⟩
   obtain⟨s2,hs2,o2,r2,l2,_⟩:=HA (r':={φ.lp .ready none with state:= .busy}) dis1 b2 b1
   have m2:¬s2.M φ.l:=by rw[o2.M];exact b2
   refine⟨s2.w, ?_, ?_⟩
   ·rw[hs2]
    exact run_beginRound b1 (by rw[hlp])
   have hb:=hq body hcb s2 a1 ⟨⟨at1.1.h.oth o2,at1.1.t.ev o2.ev,at1.1.sz,at1.1.df.rd r2 b1 (.inl rfl)⟩,fun m hm=>at1.2.1 m (by rw[o2.al] at hm;exact hm),trivial⟩
   refine wpIn_mono hb ?_
   rintro e a3 w3 ⟨s3,t3,e',rfl,ev3,at3,he,hq3⟩
   have ev3:Evo s2 s3:=ev3
   obtain⟨c1,c2⟩:=ev3.fro _ _ l2 m2
   have dis3:∀b,s3.O b→b<s3.w.heap.size∧¬s3.M b:=fun b hb=>⟨at3.1.h.ou b hb,fun hM=>at3.1.h.dis b hM hb⟩
   have fin:∀(jump:Option Code) (k':Int) (τ:Cf) (hp4:Hp) (cnt4:Nat),Evo s3 τ→τ.w=s3.w→HInv τ hp4→(∀m,τ.al m→m.2≤cnt4)→
     ((∃x,Pre x∧(K x:Int)=k'∧(if jump.isNone then LoopState.ready else .done)= .ready∧jump=none∧hp4=(I x).1∧cnt4=(I x).2)∨(k'= -1∧∃c e',(if jump.isNone then LoopState.ready else .done)= .done∧jump=some c∧OI c e'∧Q e' ⟨φ.e,hp4,cnt4⟩))→
     ∃v w4,(Instr.endRound φ.l jump).run P s3.w= .ok v w4∧v= .bool jump.isNone∧∃σ':Cf,σ'.w=w4∧Oth si σ'∧(∀(b:Nat) (o:Obj),¬si.O b→si.w.heap[b]? =some o→σ'.w.heap[b]? =some o∧¬σ'.O b)∧RJ (Ctx.fn P S nt hbo) φ I Pre K Q k' σ':=by
    intro jump k' τ hp4 cnt4 eτ wτ hτ alτ h7'
    obtain⟨q1,q2⟩:=eτ.fro _ _ c1 c2
    have disτ:∀b,τ.O b→b<τ.w.heap.size∧¬τ.M b:=fun b hb=>⟨hτ.ou b hb,fun hM=>hτ.dis b hM hb⟩
    obtain⟨s4,hs4,o4,r4,l4,_⟩:=HA (r':=φ.lp (if jump.isNone then LoopState.ready else .done) jump) disτ q2 q1
    refine⟨_,s4.w, ?_,rfl, ?_⟩
    ·rw[hs4,wτ]
     have:=run_endRound (P:=P) jump c1
     rw[hlp] at this⊢
     exact this
    ·obtain⟨si',y1,y2,y3,y4⟩:=VR (Γ:=Ctx.fn P S nt hbo) (K:=K) (Pre:=Pre) (I:=I) (Q:=Q) h1 h2 h3 h8 h5 h6 hDM hi hls ((ev1.rd.trans r2).trans ((ev3.rd.trans eτ.rd).trans r4)) (hτ.oth o4) (by rw[o4.M];exact q2) l4 (fun m hm=>alτ m (by rw[o4.al] at hm;exact hm)) h7'
     exact⟨si',y1,y2,y3,y4⟩
   cases e with
   |normal=>
    simp[AE.of] at he;subst he
    obtain⟨x',p1,p2,p3⟩:=hq3
    have hA:At (Ctx.fn P S nt 0) s3 ⟨φ.e,t3.hp,t3.cnt⟩ φ.a:=⟨⟨at3.1.h,h3.t.ev (((ev1.rd.trans r2).trans ev3.rd).ev c2 h5),h3.sz,DOK.rd (DOK.of rfl (fun d hd=>by obtain⟨r,r1,_,r3⟩:=h3.df.all rfl d hd;exact⟨r,r1,Nat.zero_le _,r3⟩) (h3.df.nd rfl) (Nat.zero_le _) h3.df.gl) ((ev1.rd.trans r2).trans ev3.rd) h5 (.inl rfl)⟩,at3.2.1,trivial⟩
    obtain⟨τ,w1,e1,a1'⟩:=hA.le p3
    obtain⟨v,w4,g1,rfl,σ',g3,g4,g5,g6⟩:=fin none (k+1) τ _ _ e1 w1 a1'.1.h a1'.2.1 (.inl ⟨x',p1,by omega,rfl,rfl,rfl,rfl⟩)
    exact⟨_,w4,g1,true,σ',rfl,g3,g4,fun b o hb ho=>g5 b o hb (by rw[←h1.w];exact ho),by simpa using g6⟩
   |ret=>
    simp[AE.of] at he;subst he
    obtain⟨v,w4,g1,rfl,σ',g3,g4,g5,g6⟩:=fin (some .ret) (-1) s3 _ _ (Evo.refl s3) rfl at3.1.h at3.2.1 (.inr ⟨rfl,_,.r,rfl,rfl,.inl ⟨rfl,rfl⟩,hq3⟩)
    exact⟨_,w4,g1,false,σ',rfl,g3,g4,fun b o hb ho=>g5 b o hb (by rw[←h1.w];exact ho),by simpa using g6⟩
   |exit i=>
    simp[AE.of] at he;subst he
    obtain⟨v,w4,g1,rfl,σ',g3,g4,g5,g6⟩:=fin (some (.exit i)) (-1) s3 _ _ (Evo.refl s3) rfl at3.1.h at3.2.1 (.inr ⟨rfl,_,.x i,rfl,rfl,.inr ⟨i,rfl,rfl⟩,hq3⟩)
    exact⟨_,w4,g1,false,σ',rfl,g3,g4,fun b o hb ho=>g5 b o hb (by rw[←h1.w];exact ho),by simpa using g6⟩
   |goto l=>simp[AE.of] at he
   |panic c=>obtain⟨v,rfl,rfl⟩:=AE.of_panic he;exact hq3.elim
   |outgrown=>simp[AE.of] at he
  |exit i=>simp[AE.of] at he;subst he;exact hq.elim
  |ret=>simp[AE.of] at he;subst he;exact hq.elim
  |goto l=>simp[AE.of] at he
  |panic c=>obtain⟨v,rfl,rfl⟩:=AE.of_panic he;exact hq.elim
  |outgrown=>simp[AE.of] at he
 ·omega
end
theorem kX (b:Bool):(b==false)= !b:=by cases b<;>rfl
theorem kY (b:Bool):(b==true)=b:=by cases b<;>rfl
section
variable {P:Program} {S:Tab} {nt hbo:Nat}
theorem Kd {X:Type} (I:X→Hp×Nat) (Pre:X→Prop) (K:X→Nat) (x0:X) {f:Opd} {ps:List Nat} {asg bdy:AC} {Q:AE→St→Prop} {e:Env} {h:Hp} {c fi:Nat} {fst cps:List AV} {xs:List (List AV)}
  (hx:ung true (opv e f)= .clo (.func fi) fst cps) (hit:ItC P fi fst cps xs) (hok:okF P fi) (hpu:AB fst=true∧AB cps=true) (hps:∀p∈ps,p<nt) (hpure:∀args∈xs,AB args=true∧args.length=ps.length)
  (h0:Pre x0) (hk0:K x0=0) (hle:Le ⟨e,(I x0).1,(I x0).2⟩ ⟨e,h,c⟩)
  (round:∀l x,Pre x→∀args,xs[K x]? =some args→awp (Ctx.rd P S nt l) asg (B1 (Ctx.rd P S nt l) bdy (BS e I Pre K (K x+1) Q)) ⟨FF ps args e,(I x).1,(I x).2⟩)
  (hend:∀x,Pre x→K x=xs.length→Q .n ⟨e,(I x).1,(I x).2⟩):awp (Ctx.fn P S nt hbo) (.rfun f ps asg bdy) Q ⟨e,h,c⟩:=by
 intro code hc σ a hA
 cases code with
 |rangeFunc g ps' assign body=>
  simp only[cCode] at hc
  split at hc
  ·rename_i x' y' hca hcb
   simp at hc
   obtain⟨rfl,rfl,rfl,rfl⟩:=hc
   obtain⟨ss,w0,ev0,A0⟩:=hA.le hle
   rw[←w0]
   refine wpIn_mono (Q:=lift (Ctx.fn P S nt hbo) ss Q) ?_ fun e a w k=>k.mono (Ctx.ofE _ ev0)
   have hX:=Eo (g:=true) rfl A0.1.t g
   rw[hx] at hX
   simp only[Rep] at hX
   obtain⟨fs,cs,hX,hf1,hc1⟩:=hX
   refine wpIn_rangeFunc (F:=Fence.wide) fun fn _=> ?_
   let lp:LoopState→Option Code→Loop:=fun st pe=>{state:=st,pending:=pe,fn:=fn,tmps:=a.tmps,params:=ps',assign:=assign,body:=body,defers:=ss.w.heap.size}
   let W1:World:=(ss.w.alloc (.deferred (some []))).alloc (.loop (lp .ready none))
   have hL1:W1.heap[ss.w.heap.size+1]? =some (.loop (lp .ready none)):=by
    have:=World.alloc_heap_new (ss.w.alloc (.deferred (some []))) (.loop (lp .ready none));rwa [World.size_alloc] at this
   have hsz1:W1.heap.size=ss.w.heap.size+2:=by simp[W1]
   have hkeep:∀(b:Nat) (o:Obj),ss.w.heap[b]? =some o→W1.heap[b]? =some o:=fun b o hb=>by
    have hlt:=(Array.getElem?_eq_some_iff.1 hb).1
    rw[BL (by simp;omega),BL hlt];exact hb
   have hK1:W1.heap[ss.w.heap.size]? =some (.deferred (some [])):=by
    rw[BL (by simp)];exact World.alloc_heap_new ss.w _
   let D:=ss.w.heap.size
   let l:=ss.w.heap.size+1
   let a0:Act:={a with defers:=[{target:= .collected D,args:= #[]}]++a.defers}
   let φ:RFix:={O0:=ss.O,l:=l,D:=D,ss:=ss,e:=e,a:=a0,lp:=lp}
   let so:Cf:=ss.at W1
   have evs:Evo ss so:=Evo.at hkeep ⟨rfl,rfl⟩
   let si:Cf:={rb:=fun _=>0,ra:=fun _=>(none,0),M:=fun _=>False,O:=fun b=>ss.M b∨ss.O b∨b=l∨b=D,ln:=fun _=>none,al:=fun _=>False,w:=W1}
   have hgsi:Gl si:=fun b j hj=>by
    obtain⟨g1,g2⟩:=A0.1.df.gl b j hj
    have g3:=(Gl.mono A0.1.df.gl evs b j hj).2
    refine⟨⟨fun h=>h, ?_, ?_⟩,g3⟩
    ·have:=g1.2.2
     rintro(h|h|h|h)
     ·exact g1.1 h
     ·exact g1.2.1 h
     ·simp only[l] at h;omega
     ·simp only[D] at h;omega
    ·show b<W1.heap.size
     have:=g1.2.2;omega
   have hdf:∀d∈φ.a.defers,∃r,d={target:= .collected r,args:= #[]}∧(r<φ.ss.w.heap.size∨r=φ.D):=by
    intro d hd
    simp only[φ,a0,List.cons_append,List.nil_append,List.mem_cons] at hd
    rcases hd with rfl|hd
    ·exact⟨D,rfl,.inr rfl⟩
    ·obtain⟨r,r1,_,r3,_⟩:=A0.1.df.all rfl d hd
     exact⟨r,r1,.inl (Array.getElem?_eq_some_iff.1 r3).1⟩
   have nM:∀b,ss.w.heap.size≤b→¬ss.M b:=fun b hb hm=>by have:=A0.1.h.lt b hm;omega
   have nO:∀b,ss.w.heap.size≤b→¬ss.O b:=fun b hb hm=>by have:=A0.1.h.ou b hm;omega
   have hso:HInv so (I x0).1:=A0.1.h.at hkeep ⟨rfl,rfl⟩
   have hsi:HInv si []:=⟨fun _=>rfl,fun n j c h=>by simp[hl] at h,fun n sz live rows d h=>by simp[hl] at h,by
    rintro p q b (⟨_,_,j,c,h⟩|⟨_,⟨_,_,_,h⟩,_⟩) _<;>simp[hl] at h,fun b h=>h.elim,fun b hb=>by
     show b<W1.heap.size
     rw[hsz1]
     rcases hb with hb|hb|rfl|rfl
     ·have:=A0.1.h.lt b hb;omega
     ·have:=A0.1.h.ou b hb;omega
     ·simp only[l];omega
     ·simp only[D];omega,fun b h=>h.elim⟩
   have hJ0:RJ (Ctx.fn P S nt hbo) φ I Pre K Q 0 si:=by
    refine⟨so,(I x0).1,(I x0).2,.ready,none,⟨rfl,fun b=>Iff.rfl,fun b=>⟨.inl,fun h=>h.elim id fun h=>h.1.elim⟩,fun b h=>h.elim,hsi.ou⟩,⟨evs.box,evs.arr,evs.fro,fun _ _ _ h=>h.elim,evs.sz,evs.io⟩,
     ⟨hso,A0.1.t.mono evs,A0.1.sz,DOK.of rfl (fun d hd=> ?_) ?_ (Nat.le_trans A0.1.df.le evs.sz) (A0.1.df.gl.mono evs)⟩,A0.2.1,nM _ (Nat.le_succ _),hL1,hK1,.inl ⟨x0,h0,by simp[hk0],rfl,rfl,rfl,rfl⟩⟩
    ·simp only[φ,a0,List.cons_append,List.nil_append,List.mem_cons] at hd
     rcases hd with rfl|hd
     ·exact⟨D,rfl,A0.1.df.le,hK1,nM _ (Nat.le_refl _),nO _ (Nat.le_refl _)⟩
     ·exact(A0.1.df.mono evs).all rfl d hd
    ·simp only[φ,a0,List.cons_append,List.nil_append]
     refine List.pairwise_cons.2 ⟨fun d hd he=> ?_,A0.1.df.nd rfl⟩
     obtain⟨r,rfl,_,r3,_⟩:=A0.1.df.all rfl d hd
     have:D=r:=by simpa using he
     have:=(Array.getElem?_eq_some_iff.1 r3).1
     omega
   have hR:Rng P Fence.wide l (ss.w.heap.size+2) xs (RJ (Ctx.fn P S nt hbo) φ I Pre K Q):=
    {evo:=fun hj ev=>hj.evo hdf ev
     oth:=fun hj o hO hP=>hj.oth (hb:=ss.w.heap.size+2) (by simp only[φ];omega) hdf o hO hP
     rnd:=fun hj hi hxs hv=>RJ.rnd (φ:=φ) (fn:=fn) (ps:=ps') rfl hca hcb hps hpure (round l) (by simp only[φ,l];omega) ⟨_,by simp[φ,a0],rfl⟩ hj hi hxs hv}
   have hvals:RepL si (fst++AV.clo (.yield l) [] []::cps) (fs++ .func (.yield l) #[] #[]::cs):=by
    have pu:∀ys vs,AB ys=true→RepL ss ys vs→RepL si ys vs:=fun ys vs hp hr=>by
     have h1:RepL so ys vs:=RepL.mono evs ys vs hr
     refine RepL.ofPure (σ:=ss) (σ':=si) (fun b hb=>⟨fun h=>h, ?_,by show b<W1.heap.size;have:=hb.2.2;omega⟩) (fun b hb=> ?_) ys vs hp hr
     ·have:=hb.2.2
      rintro(g|g|rfl|rfl)
      ·exact hb.1 g
      ·exact hb.2.1 g
      ·simp only[l] at this;omega
      ·simp only[D] at this;omega
     ·have:=Array.getElem?_eq_getElem hb.2.2
      show W1.heap[b]? =_
      rw[this];exact hkeep b _ this
    refine DL (pu _ _ hpu.1 hf1) ?_
    simp only[RepL]
    exact⟨_,_,rfl,by simp[Rep,RepL],pu _ _ hpu.2 hc1⟩
   refine⟨l,[{target:= .collected D,args:= #[]}],W1,{target:= .fn (.func fi) cs.toArray,args:=fs.toArray++ #[.func (.yield l) #[] #[]]},W1,fi,(fs.toArray++ #[.func (.yield l) #[] #[]])++cs.toArray,W1,run_enterLoop_outer _ _ _ _ _, ?_,fun _ _=>trivial, ?_,fun h=>by simp[Fence.wide] at h, ?_⟩
   ·have hy:Array.map a.eval #[.const (.func (.yield l) #[] #[])]= #[.func (.yield l) #[] #[]]:=by simp[Act.eval]
    simp only[resolve,rangeCall,hy,hX,Deferred.ofValue,Sem.run_pure]
   ·simp only[invoke]
    exact EH hok _ _
   have harr:(fs.toArray++ #[.func (.yield l) #[] #[]])++cs.toArray=(fs++ .func (.yield l) #[] #[]::cs).toArray:=by apply Array.ext';simp
   rw[harr]
   refine(hit l (ss.w.heap.size+2) _ si _ hR hJ0 hsi (fun _ h=>h) hvals (by show _≤W1.heap.size;omega) hgsi).mono ?_
   rintro en w' ⟨v,σ',rfl,rfl,hj⟩
   have key:∀hp cnt st pe so2,Pair φ.O0 φ.l φ.D so2 σ'→Way φ.ss so2 σ'→Inv so2 φ.e hp φ.a nt (hbo,false)→(∀m,so2.al m→m.2≤cnt)→¬so2.M φ.l→so2.w.heap[φ.l]? =some (.loop (φ.lp st pe))→st≠.busy→
     ∃s5:Cf,(Instr.endLoop l).run P σ'.w= .ok pe s5.w∧Evo ss s5∧At (Ctx.fn P S nt hbo) s5 ⟨e,hp,cnt⟩ a0:=by
    intro hp cnt st pe so2 h1 h2 h3 h4 h8 h5 hb
    have dis2:∀b,so2.O b→b<so2.w.heap.size∧¬so2.M b:=fun b hb=>⟨h3.h.ou b hb,fun hM=>h3.h.dis b hM hb⟩
    obtain⟨s4,hs4,o4,r4,l4,k4⟩:=HA (r':={φ.lp st pe with state:= .exhausted}) dis2 h8 h5
    have hOs:∀b,ss.O b→s4.O b:=fun b hb=>by rw[r4.out];exact(h1.oo b).2 (.inl hb)
    let s5:Cf:={s4 with O:=ss.O}
    have h4i:=h3.h.oth o4
    have o5:Oth s4 s5:=⟨rfl,rfl,rfl,rfl,rfl,fun b hb=>⟨h4i.ou b (hOs b hb),fun hM=>h4i.dis b hM (hOs b hb),fun hf=>hf.2.1 (hOs b hb)⟩,Nat.le_refl _,fun _ _=>rfl,fun _ _ _ _ h=>h,SameO.refl _⟩
    have df4:=h3.df.rd r4 h5 (.inl rfl)
    refine⟨s5, ?_,⟨fun n hn=> ?_,fun n hn l' hl'=> ?_,fun b o ho hm=> ?_,rfl,Nat.le_trans h2.sz r4.sz,h2.io.trans r4.io⟩,⟨h4i.oth o5,(h3.t.ev o4.ev).ev o5.ev,h3.sz,DOK.of rfl (fun d hd=> ?_) (df4.nd rfl) df4.le (df4.gl.ev o5.ev)⟩,fun m hm=>h4 m ?_,trivial⟩
    ·have:=run_endLoop (P:=P) (w:=so2.w) h5 hb
     rw[h1.w] at this
     show _=Result.ok pe s4.w
     rw[hs4,this,h1.w]
    ·exact⟨(r4.box n (h2.box n hn).1).1,((r4.box n (h2.box n hn).1).2).trans (h2.box n hn).2⟩
    ·obtain⟨l1,g1,g2,g3⟩:=r4.arr n (h2.box n hn).1 l' hl'
     obtain⟨m,q1,q2,q3⟩:=h2.arr n hn l1 g1
     refine⟨m,q1,Nat.le_trans q2 g2,fun e=> ?_⟩
     have e1:m=l1:=by omega
     have e2:l1=l':=by omega
     exact(g3 e2).trans (q3 e1)
    ·obtain⟨g1,g2⟩:=h2.old b o ho hm
     have hlt:=(Array.getElem?_eq_some_iff.1 ho).1
     exact r4.fro b o (by intro e;subst e;simp only[φ,l] at hlt;omega) g1 g2
    ·obtain⟨r,r1,r2,r3,r4',r5⟩:=df4.all rfl d hd
     exact⟨r,r1,r2,r3,r4',fun h=>r5 (hOs r h)⟩
    ·have hm':s4.al m:=hm
     rw[o4.al] at hm';exact hm'
   have inv:∀{k:Int},RJ (Ctx.fn P S nt hbo) φ I Pre K Q k σ'→rangePost Fence.wide 0 P l (lift (Ctx.fn P S nt hbo) ss Q) a0 (.returned v) σ'.w∨False∨k≠xs.length∧k≠-1:=by
    intro k hj
    obtain⟨so2,hp,cnt,st,pe,h1,h2,h3,h4,h8,h5,h6,h7⟩:=hj
    rcases h7 with⟨x,hx,hk,rfl,rfl,rfl,rfl⟩|⟨hk,c',e',rfl,rfl,hjp,hq⟩
    ·by_cases hlen:K x=xs.length
     ·obtain⟨s5,g1,g2,g3⟩:=key _ _ _ _ so2 h1 h2 h3 h4 h8 h5 (by simp)
      exact .inl ⟨none,s5.w,g1,s5,_,.n,rfl,g2,g3,rfl,hend x hx hlen⟩
     ·exact .inr (.inr ⟨by omega,by omega⟩)
    ·obtain⟨s5,g1,g2,g3⟩:=key _ _ _ _ so2 h1 h2 h3 h4 h8 h5 (by simp)
     refine .inl ⟨some c',s5.w,g1, ?_⟩
     rcases hjp with⟨rfl,rfl⟩|⟨i,rfl,rfl⟩
     ·exact wpIn_ret ⟨s5,_,.r,rfl,g2,g3,rfl,hq⟩
     ·exact wpIn_exit ⟨s5,_,.x i,rfl,g2,g3,rfl,hq⟩
   rcases hj with hj|hj
   ·rcases inv hj with h|h|h
    ·exact h
    ·exact h.elim
    ·exact absurd rfl h.1
   ·rcases inv hj with h|h|h
    ·exact h
    ·exact h.elim
    ·exact absurd rfl h.2
  ·simp at hc
 |region id ops d=>
  simp only[cCode] at hc
  obtain⟨_,_,⟨_,e⟩|⟨_,_,_,_,e⟩⟩:=Ca hc<;>cases e
 |seq x y=>simp only[cCode] at hc;split at hc<;>simp at hc
 |cond c x y=>simp only[cCode] at hc;split at hc<;>simp at hc
 |_=>simp[cCode] at hc
end
def Bw (rvs:List RV) (K:AV→St→Prop):AE→St→Prop
 | .x _,_=>False
 | .p _,_=>False
 |_,s=>∃vc xs,Fh s.env s.hp rvs=some (vc,xs)∧vc∧K (one xs) s
theorem OJ {rvs:List RV} {K:AV→St→Prop} {e:Env} {h:Hp} {c:Nat} {vc:Prop} {xs:List AV} (h1:Fh e h rvs=some (vc,xs)) (h2:vc) (h3:K (one xs) ⟨e,h,c⟩):Bw rvs K .r ⟨e,h,c⟩:=⟨vc,xs,h1,h2,h3⟩
def Ga (env:Env):AK→Option (Nat×List AV)
 | .call f as=>some (f,as.map fun x=>ung true (opv env x))
 | .cv x as=>match ung true (opv env x) with
  | .clo (.func f) fst cps=>some (f,fst++as.map (fun x=>ung true (opv env x))++cps)
  |_=>none
 |_=>none
def Bn (S:Tab) (rid i:Nat) (d:Option Nat) (post:List AOp) (e1:Env) (Q:AE→St→Prop) (r:AV) (s:St):Prop:=
 ∃(vc2:Prop) (e2:Env) (h2:Hp),Bl S (s.cnt+1) (100*rid+(i+1)) post (BX d r e1) s.hp=some (vc2,e2,h2)∧vc2∧Q .n ⟨e2,h2,s.cnt+1⟩
section
variable {P:Program} {S:Tab}
theorem LN (hS:TabOK P S) {f:Nat} {fn:Func} {c:AC} {rvs:List RV} {args:List AV} {ntf cnt:Nat} {K:AV→St→Prop} (hf:P.funcs[f]? =some fn) (hc:D4 P fn=some (c,rvs)) (hnt:fn.ntmps=ntf) (hn:args.length≤ntf)
  {σ:Cf} {h1:Hp} {vals:List Value} (hgl:Gl σ) (hI:HInv σ h1) (hal:∀m,σ.al m→m.2≤cnt) (hv:RepL σ args vals) (h:awp (Ctx.fn P S ntf σ.w.heap.size) c (Bw rvs K) ⟨Cj 0 args,h1,cnt⟩):
  CallsIn Fence.wide 0 P f vals.toArray σ.w fun en w'=>∃v τ s r,en= .returned v∧τ.w=w'∧Evo σ τ∧HInv τ s.hp∧(∀m,τ.al m→m.2≤s.cnt)∧Rep τ r v∧K r s:=by
 subst hnt
 unfold D4 at hc
 split at hc
 ·rename_i b hbd
  split at hc
  ·rename_i c' r' g1 g2
   simp at hc
   obtain⟨rfl,rfl⟩:=hc
   have hlen:=Bz hv
   have hw:=h b g1 σ {tmps:=vals.toArray++Array.replicate (fn.ntmps-vals.toArray.size) undef,defers:=[]} ?_
   ·refine callsIn_of_wp_marks (n:=0) hf hbd trivial (wpIn_mono hw ?_)
    rintro e a' w' ⟨σ',s',e',rfl,ev,h3,h4,h5⟩
    have ev:Evo σ σ':=ev
    have key:(∃vc xs,Fh s'.env s'.hp r'=some (vc,xs)∧vc∧K (one xs) s')→LeavesInM Fence.wide 0 P fn a'.tmps (fun en w'=>∃v τ s r,en= .returned v∧τ.w=w'∧Evo σ τ∧HInv τ s.hp∧(∀m,τ.al m→m.2≤s.cnt)∧Rep τ r v∧K r s) a'.defers .returning σ'.w:=by
     rintro⟨vc,xs,k1,k2,k3⟩
     refine GH a'.defers σ' (fun b hb=>⟨h3.1.h.ou b hb,fun hM=>h3.1.h.dis b hM hb⟩) (DOK.of' h3.1.df) fun ρ ko kO kb=> ?_
     have hI':Inv ρ s'.env s'.hp {a' with defers:=[]} fn.ntmps (σ.w.heap.size,false):=⟨h3.1.h.oth ko,h3.1.t.ev ko.ev,h3.1.sz,DOK.nil (Nat.le_trans h3.1.df.le ko.sz) (h3.1.df.gl.ev ko.ev)⟩
     obtain⟨us,u1,u2⟩:=Gt hI' g2 k1 k2
     have evρ:Evo σ ρ:=⟨fun n hn=>by rw[ko.al,ko.rb];exact ev.box n hn,fun n hn l' hl'=>by rw[ko.ra];rw[ko.ln] at hl';exact ev.arr n hn l' hl',fun b o hb hm=>by
      obtain⟨q1,q2⟩:=ev.fro b o hb hm
      exact⟨kb b o (.inl (Array.getElem?_eq_some_iff.1 hb).1) q1,by rw[ko.M];exact q2⟩,kO.trans ev.out,Nat.le_trans ev.sz ko.sz,ev.io.trans ko.io⟩
     refine⟨_,Gu u1,_,ρ,s',one xs,rfl,rfl,evρ,hI'.h,fun m hm=>h3.2.1 m (by rw[ko.al] at hm;exact hm), ?_,k3⟩
     have hl':=Bz u2
     unfold one
     split
     ·rename_i x
      simp only[RepL] at u2
      obtain⟨y,ys,rfl,e2,rfl⟩:=u2
      simpa using e2
     ·rename_i hno
      have hne:us.toArray.size≠1:=by
       intro h1
       simp at h1
       rw[h1] at hl'
       cases xs with
       |nil=>simp at hl'
       |cons x xs=>cases xs with
        |nil=>exact hno x rfl
        |cons _ _=>simp at hl'
      rw[dif_neg hne]
      simp only[Rep]
      exact⟨us,rfl,u2⟩
    cases e with
    |normal=>simp[AE.of] at h4;subst h4;exact key h5
    |ret=>simp[AE.of] at h4;subst h4;exact key h5
    |exit i=>simp[AE.of] at h4;subst h4;exact h5.elim
    |goto l=>simp[AE.of] at h4
    |panic c=>obtain⟨v,rfl,rfl⟩:=AE.of_panic h4;exact h5.elim
    |outgrown=>simp[AE.of] at h4
   ·refine⟨⟨hI,fun t=> ?_,by show _=fn.ntmps;simp;omega,DOK.nil (Nat.le_refl _) hgl⟩,hal,trivial⟩
    rw[Gv]
    split
    ·rename_i ht
     simp only[Nat.zero_le,Nat.zero_add,true_and] at ht
     have hg:args[t]? =some args[t]:=List.getElem?_eq_getElem ht
     obtain⟨x,g1,g2⟩:=Ds hv t _ hg
     have e1:args.getD (t-0) .un=args[t]:=by simp[ht]
     have hlt':t<vals.length:=by omega
     have e2:(vals.toArray++Array.replicate (fn.ntmps-vals.toArray.size) undef).getD t undef=x:=by
      rw[List.getElem?_eq_getElem hlt'] at g1
      simp at g1
      simp[Array.getD_eq_getD_getElem?,Array.getElem?_append_left,hlt',g1]
     rw[e1,e2];exact g2
    ·simp[Rep]
  ·simp at hc
 ·simp at hc
end
theorem RM {P:Program} {nt:Nat} {ops:Array Oper} {o:Oper} {yo:AOp} {f:Nat} {as:List Opd} (h:cOp P nt ops o=some yo) (hk:yo.k= .call f as):∃c,o.op= .call c∧c.callee= .value (.func f)∧as=c.args.toList.map opd∧o.dst=yo.d∧cG ops o.guard=some yo.g:=by
 unfold cOp at h
 split at h
 ·simp at h
 rename_i g hg
 split at h
 ·simp at h
  subst h
  simp only at hk
  cases ho:o.op with
  |call c=>
   rw[ho] at hk
   simp only[cK,HM] at hk
   split at hk
   ·rename_i f' hy
    injection hk with h1 h2
    subst h1
    exact⟨c,rfl,hy,h2.symm,rfl,hg⟩
   all_goals (repeat' (split at hk))<;>cases hk
  |_=>
   exfalso
   rw[ho] at hk
   simp only[cK,Hc,En,IA,IB,IC,JB,ID] at hk
   (repeat' (split at hk))<;>cases hk
 ·simp at h
section
variable {Γ:Ctx}
theorem OL {P:Program} {σ:Cf} {env:Env} {hp:Hp} {a:Act} {nt:Nat} {hb:HB} {ops:Array Oper} {o:Oper} {yo:AOp} {f:Nat} {args:List AV} (hI:Inv σ env hp a nt hb) (hc:cOp P nt ops o=some yo) (hok:okF P f) (hca:Ga env yo.k=some (f,args)):
  (∀c,o.op≠.defer c)∧cG ops o.guard=some yo.g∧o.dst=yo.d∧∃vals:List Value,RepL σ args vals∧(execOp a.eval o).run P σ.w= .ok (.enter f vals.toArray) σ.w:=by
 cases hk:yo.k with
 |call f' as=>
  rw[hk] at hca
  simp only[Ga,yE,Prod.mk.injEq] at hca
  obtain⟨rfl,rfl⟩:=hca
  obtain⟨c,k1,k2,rfl,k3,k4⟩:=RM hc hk
  refine⟨fun c hd=>(by rw[k1] at hd;cases hd),k4,k3,c.args.toList.map a.eval,EX (g:=true) rfl hI.t c.args.toList, ?_⟩
  have hr:=fun args=>EH hok args σ.w
  simp only[execOp,k1,resolve,k2,Sem.run_bind,Deferred.ofValue,Sem.run_pure,Result.andThen,invoke,Act.eval,hr]
  congr 2
  apply Array.ext'
  simp[Act.eval]
 |cv x as=>
  rw[hk] at hca
  simp only[Ga] at hca
  split at hca
  ·rename_i fi fst cps hx
   simp only[yE,Prod.mk.injEq] at hca
   obtain⟨rfl,rfl⟩:=hca
   obtain⟨c,y,k1,k2,rfl,rfl,k3,k4⟩:=RL hc hk
   have hX:=Eo (g:=true) rfl hI.t y
   rw[hx] at hX
   simp only[Rep] at hX
   obtain⟨xs,ys,e1,e2,e3⟩:=hX
   refine⟨fun c hd=>(by rw[k1] at hd;cases hd),k4,k3,xs++c.args.toList.map a.eval++ys,DL (DL e2 (EX (g:=true) rfl hI.t c.args.toList)) e3, ?_⟩
   have hr:=fun args=>EH hok args σ.w
   simp only[execOp,k1,resolve,k2,e1,Sem.run_bind,Deferred.ofValue,Sem.run_pure,Result.andThen,invoke,hr]
   congr 1
   congr 1
   apply Array.ext'
   simp
  ·simp at hca
 |_=>rw[hk] at hca;simp[Ga] at hca
theorem Tn (hΓ:Γ.OK) (i:Nat) {rid:Nat} {ops:List AOp} {yo:AOp} {Q:AE→St→Prop} {e e1:Env} {h h1:Hp} {c:Nat} {vc:Prop} {f:Nat} {args:List AV} {fn:Func} {ac:AC} {rvs:List RV} {ntf:Nat}
  (hf:Γ.P.funcs[f]? =some fn) (hcf:D4 Γ.P fn=some (ac,rvs)) (hnt:fn.ntmps=ntf) (hok:okF Γ.P f) (hyo:ops[i]? =some yo) (hex:Bl Γ.S (c+1) (100*rid) (ops.take i) e h=some (vc,e1,h1)) (hvc:vc) (hg:EF e1 yo.g=some true)
  (hca:Ga e1 yo.k=some (f,args)) (hn:args.length≤ntf) (hbody:∀hb,awp (Ctx.fn Γ.P Γ.S ntf hb) ac (Bw rvs (Bn Γ.S rid i yo.d (ops.drop (i+1)) e1 Q)) ⟨Cj 0 args,h1,c+1⟩):awp Γ (.reg rid ops) Q ⟨e,h,c⟩:=by
 intro code hc σ a hA
 cases code with
 |region id ops' d=>
  simp only[cCode] at hc
  obtain⟨l0,hx0,⟨rfl,e0⟩|⟨_,_,_,_,e0⟩⟩:=Ca hc
  ·cases e0
   refine wpIn_region ?_
   obtain⟨c1,c2⟩:=Ea hx0
   obtain⟨t1,t2⟩:=Do i hx0
   obtain⟨_,t3⟩:=Do (i+1) hx0
   have hi:i<ops.length:=(List.getElem?_eq_some_iff.1 hyo).1
   have hsz:ops.length=ops'.size:=c1.trans (by simp)
   have hi':i<ops'.size:=by omega
   have ho:ops'[i]? =some ops'[i]:=Array.getElem?_eq_getElem hi'
   obtain⟨yo',g1,g2⟩:=c2 i ops'[i] (by simp)
   rw[hyo] at g1
   cases g1
   have hr:List.range ops'.size=List.range' 0 (ops'.toList.take i).length++(i::List.range' (i+1) (ops'.toList.drop (i+1)).length):=by
    have e1:(ops'.toList.take i).length=i:=by simp;omega
    have e2:(ops'.toList.drop (i+1)).length=ops'.size-(i+1):=by simp
    rw[e1,e2,List.range_eq_range',←List.range'_succ]
    have:=List.range'_append_1 (s:=0) (m:=i) (n:=ops'.size-(i+1)+1)
    rw[Nat.zero_add] at this
    rw[this]
    congr 1
    omega
   rw[hr]
   refine GU hΓ (cnt:=c) (100*rid) e _ (ops'.toList.take i) 0 (ops.take i) σ e e1 h h1 a vc (fun _ _=>rfl) (fun j hj=> ?_) t1 hex hvc hA.1 (fun m hm=> .inl (hA.2.1 m hm)) fun a1 σ1 ev1 hI1 hal1 hfar1=> ?_
   ·have:j<i:=by simp at hj;omega
    simp[List.getElem?_take,this]
   rw[wpOpsIn_cons]
   unfold wpOpIn
   simp only[ho]
   obtain⟨hno,k4,k3,vals,hv,hrun⟩:=OL hI1 g2 hok hca
   have hw:=E3 hI1.t k4 hg
   simp only[hw,if_true]
   refine⟨fun f _=>hΓ.F.fn f, ?_⟩
   rw[Oper.semAt_eq _ a1.eval _ hno,hrun]
   refine⟨fun h=>by simp[hΓ.F.depth] at h,hΓ.F.calls ((callsIn_wide.1 (LN hΓ.S hf hcf hnt hn hI1.df.gl hI1.h (cnt:=c+1) (fun m hm=>by rcases hal1 m hm with h|h<;>omega) hv (hbody _))).mono ?_)⟩
   rintro en w' ⟨v,τ,s,r,rfl,rfl,evτ,hτ,alτ,rv,vc2,e2,h2,q1,q2,q3⟩
   have hd:∀k,ops'[i].dst=some k→k<a1.tmps.size:=by
    rw[k3];intro d hd
    rw[hI1.sz];exact Fg g2 d hd
   have hI2:Inv τ (BX yo.d r e1) s.hp (a1.put ops'[i].dst v) Γ.nt Γ.hb:=by
    rw[←k3]
    exact⟨hτ,(hI1.t.mono evτ).put hd rv,by rw[Act.size_put];exact hI1.sz,by rw[Act.defers_put,FL (fun d hd=>Fg g2 d (k3▸hd)) (show Γ.nt≤dk Γ.nt from Nat.le_add_right _ _)];exact hI1.df.mono evτ⟩
   exact AbK hΓ (ops:=ops') (Q:=Q) (cnt:=s.cnt) (100*rid) e σ hA.2.2 (ops'.toList.drop (i+1)) (i+1) (ops.drop (i+1)) τ _ _ _ _ _ vc2 (fun t ht=>(FL (Fg g2) ht).trans (hfar1 t ht)) (fun j=>by simp) (by simp;omega) t3 q1 q2 (ev1.trans evτ) hI2 (fun m hm=> .inl (alτ m hm)) q3
  ·cases e0
 |seq x y=>simp only[cCode] at hc;split at hc<;>simp at hc
 |cond c x y=>simp only[cCode] at hc;split at hc<;>simp at hc
 |rangeFunc f ps x y=>simp only[cCode] at hc;split at hc<;>simp at hc
 |_=>simp[cCode] at hc
end
namespace C
abbrev o (d:Nat) (k:AK):AOp:=⟨some d,none,k⟩
abbrev w (d t:Nat) (k:AK):AOp:=⟨some d,some (t,true),k⟩
abbrev v (d t:Nat) (k:AK):AOp:=⟨some d,some (t,false),k⟩
abbrev u (k:AK):AOp:=⟨none,none,k⟩
abbrev i (n:Int):Opd:= .k (.v (.int .i64 n))
abbrev ff:Opd:= .k (.v (.bool false))
abbrev tt:Opd:= .k (.v (.bool true))
abbrev z:AV:= .v (.int .i64 0)
abbrev m (d s:Nat):AOp:=⟨some d,none,.mv (.t s)⟩
abbrev c (d f:Nat) (l:List Opd):AOp:=⟨some d,none,.call f l⟩
end C
attribute [go_sem] C.o C.w C.v C.u C.i C.ff C.tt C.z C.m C.c
abbrev Spec:=List AV→Option (Prop×AV)
def IK:List (Nat×Spec)→Nat→List AV→Option (Prop×AV)
 |[],_,_=>none
 |(k,s)::r,f,args=>if k=f then s args else IK r f args
def noE:Nat→List AV→List AV→Option (Prop×AV×List (Nat×AV)):=fun _ _ _=>none
def noP:Nat→List AV→List AV→Option (Prop×Value):=fun _ _ _=>none
def noQ:Nat→List AV→List AV→Option (Prop×AV):=fun _ _ _=>none
def Gb (l:List (Nat×Spec)):Tab:=⟨IK l,false,false,noE,noP,noQ⟩
theorem Z4 (l:List (Nat×Spec)):(Gb l).f=IK l:=rfl
theorem Z5 (l:List (Nat×Spec)):(Gb l).w=false:=rfl
def PB (l:List (Nat×Spec)):Tab:=⟨IK l,true,false,noE,noP,noQ⟩
theorem eR (l:List (Nat×Spec)):(PB l).f=IK l:=rfl
theorem eS (l:List (Nat×Spec)):(PB l).w=true:=rfl
theorem Z6 (l:List (Nat×Spec)):(Gb l).m=false:=rfl
theorem eT (l:List (Nat×Spec)):(PB l).m=false:=rfl
def PC (l:List (Nat×Spec)):Tab:=⟨IK l,false,true,noE,noP,noQ⟩
theorem eU (l:List (Nat×Spec)):(PC l).f=IK l:=rfl
theorem eV (l:List (Nat×Spec)):(PC l).w=false:=rfl
theorem eW (l:List (Nat×Spec)):(PC l).m=true:=rfl
theorem rN {P:Program} {l:List (Nat×Spec)} (h:TabOK P (Gb l)):TabOK P (PC l):=⟨h.f,h.e,h.p,h.q⟩
def FOK (P:Program) (k:Nat) (s:Spec):Prop:=okF P k∧∀args vc r,s args=some (vc,r)→vc→PCall P k args r
theorem Aj {P:Program}:TabOK P (Gb []):=⟨fun f args vc r h=>(by simp[Gb,IK] at h),fun _ _ _ _ _ _ _ h=>(by cases h),fun _ _ _ _ _ _ h=>(by cases h),fun _ _ _ _ _ h=>(by cases h)⟩
theorem Aa {P:Program} {k:Nat} {s:Spec} {l:List (Nat×Spec)} (h:FOK P k s) (hr:TabOK P (Gb l)):TabOK P (Gb ((k,s)::l)):=by
 refine⟨fun f args vc r hs hv=> ?_,fun _ _ _ _ _ _ _ h=>(by cases h),fun _ _ _ _ _ _ h=>(by cases h),fun _ _ _ _ _ h=>(by cases h)⟩
 simp only[Gb,IK] at hs
 split at hs
 ·rename_i e;subst e;exact⟨h.1,h.2 args vc r hs hv⟩
 ·exact hr.f f args vc r hs hv
abbrev M3:=List AV→List AV→Option (Prop×AV×List (Nat×AV))
abbrev M4:=List AV→List AV→Option (Prop×Value)
def M5:List (Nat×M3)→Nat→List AV→List AV→Option (Prop×AV×List (Nat×AV))
 |[],_,_,_=>none
 |(k,s)::r,f,args,cs=>if k=f then s args cs else M5 r f args cs
def M6:List (Nat×M4)→Nat→List AV→List AV→Option (Prop×Value)
 |[],_,_,_=>none
 |(k,s)::r,f,args,cs=>if k=f then s args cs else M6 r f args cs
def Ke (l:List (Nat×Spec)) (le:List (Nat×M3)) (lp:List (Nat×M4)):Tab:=⟨IK l,false,false,M5 le,M6 lp,noQ⟩
theorem eX (l le lp):(Ke l le lp).f=IK l:=rfl
theorem eY (l le lp):(Ke l le lp).w=false:=rfl
theorem eZ (l le lp):(Ke l le lp).m=false:=rfl
theorem fA (l le lp):(Ke l le lp).e=M5 le:=rfl
theorem fB (l le lp):(Ke l le lp).q=noQ:=rfl
theorem Z7 (l):(Gb l).q=noQ:=rfl
theorem fC (l):(PB l).q=noQ:=rfl
theorem fD (l):(PC l).q=noQ:=rfl
theorem fE (l le lp):(Ke l le lp).p=M6 lp:=rfl
theorem Z8 (l):(Gb l).e=noE:=rfl
theorem fF (l):(PB l).e=noE:=rfl
theorem fG (l):(PC l).e=noE:=rfl
def EOK (P:Program) (k:Nat) (s:M3):Prop:=okF P k∧∀args cells vc r us n,s args cells=some (vc,r,us)→vc→EA args=some n→QM P k n args cells r us
def POK (P:Program) (k:Nat) (s:M4):Prop:=okF P k∧∀args cells vc v n,s args cells=some (vc,v)→vc→EA args=some n→Oj P k n args cells v
theorem Z9 {P:Program} {l:List (Nat×Spec)} {le:List (Nat×M3)} {lp:List (Nat×M4)} (h:TabOK P (Gb l)) (he:∀x∈le,EOK P x.1 x.2) (hp:∀x∈lp,POK P x.1 x.2):TabOK P (Ke l le lp):=by
 refine⟨h.f,fun f args cells vc r us n hs hv hb=> ?_,fun f args cells vc v n hs hv hb=> ?_,fun _ _ _ _ _ h=>(by cases h)⟩
 ·simp only[Ke] at hs
  induction le with
  |nil=>simp[M5] at hs
  |cons x le ih=>
   simp only[M5] at hs
   split at hs
   ·rename_i e;subst e;have:=he x (by simp);exact⟨this.1,this.2 _ _ _ _ _ _ hs hv hb⟩
   ·exact ih (fun y hy=>he y (by simp[hy])) hs
 ·simp only[Ke] at hs
  induction lp with
  |nil=>simp[M6] at hs
  |cons x le ih=>
   simp only[M6] at hs
   split at hs
   ·rename_i e;subst e;have:=hp x (by simp);exact⟨this.1,this.2 _ _ _ _ _ hs hv hb⟩
   ·exact ih (fun y hy=>hp y (by simp[hy])) hs
mutual
theorem To:∀(x y:AV),wk x y→Cg x=true→Cg y=true
 | .sl z f rows d,y,h,hr=>by
  cases y with
  |sl z' f' rows' d'=>simp[Cg]
  |_=>simp only[wk] at h;cases h
 | .agg a,y,h,hr=>by
  cases y with
  |agg b=>simp only[wk] at h;simp only[Cg] at hr⊢;exact Kf a b h hr
  |_=>simp only[wk] at h;cases h
 | .tup a,y,h,hr=>by
  cases y with
  |tup b=>simp only[wk] at h;simp only[Cg] at hr⊢;exact Kf a b h hr
  |_=>simp only[wk] at h;cases h
 | .v x,y,h,hr=>by simp only[wk] at h;rw[←h];exact hr
 | .ro _ _,y,h,hr=>by simp only[wk] at h;rw[←h];exact hr
 | .clo _ _ _,y,h,hr=>by simp only[wk] at h;rw[←h];exact hr
 | .box _ _,y,h,hr=>by simp only[wk] at h;rw[←h];exact hr
 | .own _ _,y,h,hr=>by simp only[wk] at h;rw[←h];exact hr
 | .elem _ _ _ _ _,y,h,hr=>by simp only[wk] at h;rw[←h];exact hr
 | .gd _ _,y,h,hr=>by simp only[wk] at h;rw[←h];exact hr
 | .mp _,y,h,hr=>by simp only[wk] at h;rw[←h];exact hr
 | .un,y,h,hr=>by simp only[wk] at h;rw[←h];exact hr
theorem Kf:∀(xs ys:List AV),wkL xs ys→AB xs=true→AB ys=true
 |[],[],_,_=>rfl
 |x::xs,y::ys,h,hr=>by
  simp only[wkL] at h
  simp only[AB,Bool.and_eq_true] at hr⊢
  exact⟨To x y h.1 hr.1,Kf xs ys h.2 hr.2⟩
 |[],_::_,h,_=>by simp[wkL] at h
 |_::_,[],h,_=>by simp[wkL] at h
end
theorem PCall.arg {P:Program} {f:Nat} {args args':List AV} {r:AV} (hw:wkL args args') (h:PCall P f args' r):PCall P f args r:=
 fun σ vs hg hl hp hr=>h σ vs hg hl (Kf _ _ hw hp) (KC _ _ _ hw hr)
theorem PCall.res {P:Program} {f:Nat} {args:List AV} {r r':AV} (hw:wk r r') (h:PCall P f args r):PCall P f args r':=
 fun σ vs hg hl hp hr=>(h σ vs hg hl hp hr).mono fun e w' ⟨v,h1,h2,h0,h3,h4⟩=>⟨v,h1,h2,h0,To _ _ hw h3,Hx _ _ _ hw h4⟩
theorem B6 {Q:AE→St→Prop} {e:AE} {s:St} (h:Q e s):Q e s:=h
theorem Bc {Γ:Ctx} {c:AC} {Q:AE→St→Prop} {s:St} (h:awp Γ c Q s):awp Γ c Q s:=h
theorem nX {P:Program} {S:Tab} {nt hb:Nat}:(Ctx.fn P S nt hb).S=S:=rfl
theorem nY {P:Program} {S:Tab} {nt l:Nat}:(Ctx.rd P S nt l).S=S:=rfl
theorem nZ {P:Program} {F:Fence} {S:Tab} {nt hb:Nat} {J:Int→Cf→Prop} {hnt:nt≤gs} {evo:∀{k:Int} {σ σ':Cf},J k σ→Evo σ σ'→J k σ'}:(Ctx.it P F S nt hb J hnt evo).S=S:=rfl
theorem fH {S:Tab} {rid i:Nat} {d:Option Nat} {post:List AOp} {e1:Env} {Q:AE→St→Prop} {rvs:List RV} {e:Env} {h:Hp} {c:Nat} {vc:Prop} {xs:List AV} {vc2:Prop} {e2:Env} {h2:Hp} (h1:Fh e h rvs=some (vc,xs)) (hv:vc)
  (hx:Bl S (c+1) (100*rid+(i+1)) post (BX d (one xs) e1) h=some (vc2,e2,h2)) (hv2:vc2) (hQ:Q .n ⟨e2,h2,c+1⟩):Bw rvs (Bn S rid i d post e1 Q) .n ⟨e,h,c⟩:=⟨vc,xs,h1,hv,vc2,e2,h2,hx,hv2,hQ⟩
theorem fI {S:Tab} {rid i:Nat} {d:Option Nat} {post:List AOp} {e1:Env} {Q:AE→St→Prop} {rvs:List RV} {e:Env} {h:Hp} {c:Nat} {vc:Prop} {xs:List AV} {vc2:Prop} {e2:Env} {h2:Hp} (h1:Fh e h rvs=some (vc,xs)) (hv:vc)
  (hx:Bl S (c+1) (100*rid+(i+1)) post (BX d (one xs) e1) h=some (vc2,e2,h2)) (hv2:vc2) (hQ:Q .n ⟨e2,h2,c+1⟩):Bw rvs (Bn S rid i d post e1 Q) .r ⟨e,h,c⟩:=⟨vc,xs,h1,hv,vc2,e2,h2,hx,hv2,hQ⟩
theorem Df {P:Program} {S:Tab} {nt hb:Nat} (hS:TabOK P S) (i:Nat) {rid:Nat} {ops post:List AOp} {d:Option Nat} {g:Option (Nat×Bool)} {k:AK} {Q:AE→St→Prop} {e e1:Env} {h h1:Hp} {c:Nat} {vc:Prop} {f:Nat} {args:List AV} {fn:Func} {ac:AC} {rvs:List RV} {ntf:Nat}
  (hf:P.funcs[f]? =some fn) (hcf:D4 P fn=some (ac,rvs)) (hnt:fn.ntmps=ntf) (hok:okF P f) (hyo:ops[i]? =some ⟨d,g,k⟩) (hpost:ops.drop (i+1)=post) (hex:Bl S (c+1) (100*rid) (ops.take i) e h=some (vc,e1,h1)) (hvc:vc) (hg:EF e1 g=some true)
  (hca:Ga e1 k=some (f,args)) (hn:args.length≤ntf) (hbody:∀hb,awp (Ctx.fn P S ntf hb) ac (Bw rvs (Bn S rid i d post e1 Q)) ⟨Cj 0 args,h1,c+1⟩):awp (Ctx.fn P S nt hb) (.reg rid ops) Q ⟨e,h,c⟩:=by
 subst hpost
 exact Tn (Ctx.fn_ok hS) i hf hcf hnt hok hyo hex hvc hg hca hn hbody
theorem LO {P:Program} {S:Tab} {nt hb:Nat} {J:Int→Cf→Prop} {hnt:nt≤gs} {evo:∀{k:Int} {σ σ':Cf},J k σ→Evo σ σ'→J k σ'} {l:Nat} {xs:List (List AV)}
  (hS:TabOK P S) (hR:Rng P Fence.wide l hb xs J) (i:Nat) {rid:Nat} {ops post:List AOp} {d:Option Nat} {g:Option (Nat×Bool)} {Q:AE→St→Prop} {e e1:Env} {h h1:Hp} {c:Nat} {vc:Prop} {x:Opd} {as:List Opd} {k:Nat} {args:List AV} {vt vf:Prop} {et ef:Env} {ht hf:Hp}
  (hyo:ops[i]? =some ⟨d,g,.cv x as⟩) (hpost:ops.drop (i+1)=post) (hex:Bl S (c+1) (100*rid) (ops.take i) e h=some (vc,e1,h1)) (hvc:vc) (hg:EF e1 g=some true) (hx:ung true (opv e1 x)= .clo (.yield l) [] [])
  (hgh:lk e gs=Ck k) (hargs:as.map (fun x=>ung true (opv e1 x))=args) (hxs:xs[k]? =some args)
  (hxT:Bl S (c+1) (100*rid+(i+1)) post (BX d (.v (.bool true)) ((gs,Ck (k+1))::e1)) h1=some (vt,et,ht)) (hvT:vt) (hQT:Q .n ⟨et,ht,c+1⟩)
  (hxF:Bl S (c+1) (100*rid+(i+1)) post (BX d (.v (.bool false)) ((gs,Ck (-1))::e1)) h1=some (vf,ef,hf)) (hvF:vf) (hQF:Q .n ⟨ef,hf,c+1⟩):
  awp (Ctx.it P Fence.wide S nt hb J hnt evo) (.reg rid ops) Q ⟨e,h,c⟩:=by
 subst hpost
 refine VN hS hR i hyo rfl hex hvc hg hx hgh hargs hxs fun b=> ?_
 cases b with
 |true=>exact⟨vt,et,ht,hxT,hvT,hQT⟩
 |false=>exact⟨vf,ef,hf,hxF,hvF,hQF⟩
theorem RN {Γ:Ctx} (p:Prop) [Decidable p] {b:Bool} {cc:Opd} {x y:AC} {Q:AE→St→Prop} {e:Env} {h:Hp} {c:Nat} (hb:ung true (opv e cc)= .v (.bool b)) (hp:b=decide p) (ht:p→awp Γ x Q ⟨e,h,c⟩) (hf:¬p→awp Γ y Q ⟨e,h,c⟩):awp Γ (.cond cc x y) Q ⟨e,h,c⟩:=by
 subst hp
 exact eL hb ht hf
theorem Ctx.it_ok {P:Program} {S:Tab} {nt hb:Nat} {J:Int→Cf→Prop} {hnt:nt≤gs} {evo:∀{k:Int} {σ σ':Cf},J k σ→Evo σ σ'→J k σ'} (h:TabOK P S):(Ctx.it P Fence.wide S nt hb J hnt evo).OK:=⟨h,.inl (Eq.refl _)⟩
abbrev Mw (Γ:Ctx) (l:Nat) (xs:List (List AV)):Prop:=∀(i:Nat) {rid:Nat} {ops post:List AOp} {d:Option Nat} {g:Option (Nat×Bool)} {Q:AE→St→Prop} {e e1:Env} {h h1:Hp} {c:Nat} {vc:Prop} {x:Opd} {as:List Opd} {k:Nat} {args:List AV} {vt vf:Prop} {et ef:Env} {ht hf:Hp}
  (_:ops[i]? =some ⟨d,g,.cv x as⟩) (_:ops.drop (i+1)=post) (_:Bl Γ.S (c+1) (100*rid) (ops.take i) e h=some (vc,e1,h1)) (_:vc) (_:EF e1 g=some true) (_:ung true (opv e1 x)= .clo (.yield l) [] [])
  (_:lk e gs=Ck k) (_:as.map (fun x=>ung true (opv e1 x))=args) (_:xs[k]? =some args)
  (_:Bl Γ.S (c+1) (100*rid+(i+1)) post (BX d (.v (.bool true)) ((gs,Ck (k+1))::e1)) h1=some (vt,et,ht)) (_:vt) (_:Q .n ⟨et,ht,c+1⟩)
  (_:Bl Γ.S (c+1) (100*rid+(i+1)) post (BX d (.v (.bool false)) ((gs,Ck (-1))::e1)) h1=some (vf,ef,hf)) (_:vf) (_:Q .n ⟨ef,hf,c+1⟩),awp Γ (.reg rid ops) Q ⟨e,h,c⟩
theorem Bd {Γ:Ctx} {b:AC} {Q:AE→St→Prop} {s:St} (h:awp Γ b Q s):B1 Γ b Q .n s:=h
theorem RO {X:Type} {e e':Env} {I:X→Hp×Nat} {Pre:X→Prop} {K:X→Nat} {j:Nat} {Q:AE→St→Prop} {h:Hp} {c:Nat} (x:X) (h1:Pre x) (h2:K x=j) (h3:Le ⟨e,(I x).1,(I x).2⟩ ⟨e,h,c⟩):BS e I Pre K j Q .n ⟨e',h,c⟩:=⟨x,h1,h2,h3⟩
theorem Be {X:Type} {e e':Env} {I:X→Hp×Nat} {Pre:X→Prop} {K:X→Nat} {j i:Nat} {Q:AE→St→Prop} {h:Hp} {c:Nat} (hq:Q (.x i) ⟨e,h,c⟩):BS e I Pre K j Q (.x i) ⟨e',h,c⟩:=hq
theorem Bf {X:Type} {e e':Env} {I:X→Hp×Nat} {Pre:X→Prop} {K:X→Nat} {j:Nat} {Q:AE→St→Prop} {h:Hp} {c:Nat} (hq:Q .r ⟨e,h,c⟩):BS e I Pre K j Q .r ⟨e',h,c⟩:=hq
theorem Le.of {e e':Env} {h h':Hp} {c c':Nat} (h1:leE e' e) (h2:leH h' h) (h3:c≤c'):Le ⟨e',h',c'⟩ ⟨e,h,c⟩:=⟨h1,h2,h3⟩
theorem YX {n:Nat} {s:St} (h:lk s.env gs=Ck n):itK n .n s:= .inl h
theorem kZ {n:Nat} {s:St} (h:lk s.env gs=Ck n):itK n .r s:= .inl h
theorem OM {n:Nat} {s:St} (h:lk s.env gs=Ck (-1)):itK n .r s:= .inr h
section
variable {Γ:Ctx}
def Cf.claim (σ:Cf) (n:Nm) (base:Option Addr):Cf:=
 {σ with ra:=fun m=>if m=n then(base,0) else σ.ra m,ln:=fun m=>if m=n then some 0 else σ.ln m,al:=fun m=>σ.al m∨m=n}
theorem Evo.claim {σ:Cf} {n:Nm} (hn:¬σ.al n) (base:Option Addr):Evo σ (σ.claim n base) where
 box m hm:=⟨.inl hm,rfl⟩
 arr m hm l hl:=by
  have:¬m=n:=by rintro rfl;exact hn hm
  simp only[Cf.claim,if_neg this] at hl⊢
  exact⟨l,hl,Nat.le_refl _,fun _=>trivial⟩
 fro b o h h':=⟨h,h'⟩
 out:=rfl
 sz:=Nat.le_refl _
 io:=SameO.refl _
theorem Rep.claim {σ:Cf} {n:Nm} {base:Option Addr}:Rep (σ.claim n base) (.own n 0) (.slice base 0 0):=by
 simp only[Rep]
 refine⟨.inr rfl,rfl,fun l hl=> ?_⟩
 simp only[Cf.claim,if_true,yE] at hl⊢
 subst hl
 exact⟨Nat.le_refl _,fun _=>trivial⟩
theorem HInv.claim {σ:Cf} {hp:Hp} (h:HInv σ hp) {n:Nm} (hn:¬σ.al n) (base:Option Addr) {z:Nat} (hz:0<z) (d:List AV):HInv (σ.claim n base) ((.a n,.sl z true [] d)::hp) where
 ln m:=by
  simp only[Cf.claim,lenOf,hl]
  by_cases hm:m=n
  ·subst hm;simp
  ·rw[if_neg hm,if_neg (by intro e;cases e;exact hm rfl)];exact h.ln m
 cel m j c hc:=by
  simp only[hl] at hc
  rw[if_neg (by intro e;cases e)] at hc
  have k:=h.cel m j c hc
  exact k.keep (Evo.claim hn base) k.2.1 rfl
 arr m sz live rows d' hc:=by
  simp only[hl] at hc
  by_cases hm:m=n
  ·subst hm
   simp at hc
   obtain⟨rfl,rfl,rfl,rfl⟩:=hc
   exact⟨.inr rfl,hz,by simp,.inl ⟨base,by simp[Cf.claim],rfl⟩⟩
  ·rw[if_neg (by intro e;cases e;exact hm rfl)] at hc
   exact(h.arr m sz live rows d' hc).keep (Evo.claim hn base) (by simp[Cf.claim,hm]) fun _ _ _ _ _ _ hM=>⟨hM,rfl⟩
 inj p q b hp' hq':=by
  have key:∀p b,Owns (σ.claim n base) ((.a n,.sl z true [] d)::hp) p b→Owns σ hp p b:=by
   rintro p b (⟨g1,g2,j,c,g3⟩|⟨g1,⟨sz,rows,d',g2⟩,o,cap,g3,g4⟩)
   ·simp only[hl] at g3
    rw[if_neg (by intro e;cases e)] at g3
    exact .inl ⟨g1,g2,j,c,g3⟩
   ·by_cases hm:p.2=n
    ·simp[Cf.claim,hm] at g3;omega
    ·simp only[hl] at g2
     rw[if_neg (by intro e;cases e;exact hm rfl)] at g2
     simp only[Cf.claim,if_neg hm] at g3
     exact .inr ⟨g1,⟨sz,rows,d',g2⟩,o,cap,g3,g4⟩
  exact h.inj p q b (key p b hp') (key q b hq')
 lt:=h.lt
 ou:=h.ou
 dis:=h.dis
theorem Qg {σ:Cf} {z:Nat} {d:List AV} {v:Value} (h:Rep σ (.sl z true [] d) v):∃base,v= .slice base 0 0:=by
 simp only[Rep] at h
 obtain⟨base,cap,h1,_,h3,_⟩:=h
 have:=h3 trivial
 simp at this
 subst this
 exact⟨base,h1⟩
theorem Cb (kn t z:Nat) (zs:List AV) {x:AC} {Q:AE→St→Prop} {e:Env} {h:Hp} {c z0:Nat} {d:List AV} (ht:t<Γ.nt) (hz:0<z) (he:lk e t= .sl z0 true [] d)
  (hQ:awp Γ x Q ⟨(t,.own (kn,c+1) 0)::e,(.a (kn,c+1),.sl z true [] zs)::h,c+1⟩):awp Γ x Q ⟨e,h,c⟩:=by
 intro code hc σ a hA
 have hr:=hA.1.t t
 rw[he] at hr
 obtain⟨base,hv⟩:=Qg hr
 have hn:¬σ.al (kn,c+1):=fun hm=>by have:=hA.2.1 _ hm;simp at this;omega
 have ev:=Evo.claim hn base
 refine wpIn_mono (hQ code hc (σ.claim (kn,c+1) base) a ⟨⟨hA.1.h.claim hn base hz zs,fun t'=> ?_,hA.1.sz,(hA.1.df.mono ev).un (.inr (LB ht))⟩,fun m hm=> ?_,Γ.g hA.2.2 ev fun t' ht'=> ?_⟩) fun e a w k=>k.mono (Γ.ofE ev)
 ·simp only[lk]
  by_cases e:t=t'
  ·subst e
   rw[if_pos rfl,hv]
   exact Rep.claim
  ·rw[if_neg e];exact(hA.1.t t').mono ev
 ·rcases hm with hm|rfl
  ·have:=hA.2.1 m hm;simp at this⊢;omega
  ·simp
 ·right
  simp only[lk]
  rw[if_neg (by omega)]
theorem DR (kn:Nat) (m:Nm) (j z:Nat) (zs:List AV) {x:AC} {Q:AE→St→Prop} {e:Env} {h:Hp} {c z0:Nat} {d:List AV} (hz:0<z) (he:hl h (.c m j)=some (.sl z0 true [] d))
  (hQ:awp Γ x Q ⟨e,(.c m j,.own (kn,c+1) 0)::(.a (kn,c+1),.sl z true [] zs)::h,c+1⟩):awp Γ x Q ⟨e,h,c⟩:=by
 intro code hc σ a hA
 obtain⟨k1,k2,cs,T,v,k3,k4,k5,k6⟩:=(hA.1.h.cel m j _ he).cells rfl
 obtain⟨base,rfl⟩:=Qg k6
 have hn:¬σ.al (kn,c+1):=fun hm=>by have:=hA.2.1 _ hm;simp at this;omega
 have ev:=Evo.claim hn base
 have hI:=hA.1.h.claim hn base hz zs
 refine wpIn_mono (hQ code hc (σ.claim (kn,c+1) base) a ⟨⟨⟨fun n'=> ?_,fun n' j' c' hc'=> ?_,fun n' sz live rows d' hc'=> ?_,fun p q b hp hq=> ?_,hI.lt,hI.ou,hI.dis⟩,fun t'=>(hA.1.t t').mono ev,hA.1.sz,hA.1.df.mono ev⟩,fun m hm=> ?_,Γ.g hA.2.2 ev fun t' ht'=> .inr rfl⟩) fun e a w k=>k.mono (Γ.ofE ev)
 ·have:=hI.ln n'
  simpa only[lenOf,hl,if_neg (show¬Loc.c m j=Loc.a n' by intro e;cases e)] using this
 ·simp only[hl] at hc'
  by_cases e:Loc.c m j=Loc.c n' j'
  ·rw[if_pos e] at hc'
   cases e
   simp at hc'
   subst hc'
   exact⟨.inl k1,k2,.inl ⟨cs,T,_,k3,k4,k5,Rep.claim⟩⟩
  ·rw[if_neg e] at hc'
   exact hI.cel n' j' c' hc'
 ·simp only[hl,if_neg (show¬Loc.c m j=Loc.a n' by intro e;cases e)] at hc'
  exact hI.arr n' sz live rows d' hc'
 ·have key:∀p b,Owns (σ.claim (kn,c+1) base) ((.c m j,.own (kn,c+1) 0)::(.a (kn,c+1),.sl z true [] zs)::h) p b→Owns (σ.claim (kn,c+1) base) ((.a (kn,c+1),.sl z true [] zs)::h) p b:=by
   rintro p b (⟨g1,g2,j',c',g3⟩|⟨g1,⟨sz,rows,d',g2⟩,o,cap,g3,g4⟩)
   ·simp only[hl] at g3
    by_cases e:Loc.c m j=Loc.c p.2 j'
    ·cases e
     refine .inl ⟨g1,g2,j,.sl z0 true [] d, ?_⟩
     simp only[hl]
     rw[if_neg (by intro e;cases e)]
     exact he
    ·rw[if_neg e] at g3
     exact .inl ⟨g1,g2,j',c',g3⟩
   ·simp only[hl] at g2
    rw[if_neg (by intro e;cases e)] at g2
    exact .inr ⟨g1,⟨sz,rows,d',g2⟩,o,cap,g3,g4⟩
  exact hI.inj p q b (key p b hp) (key q b hq)
 ·rcases hm with hm|rfl
  ·have:=hA.2.1 _ hm;simp at this⊢;omega
  ·simp
end
theorem lC (x:Value):isM (.v x)=false:=rfl
theorem fJ (a:Nat) (b:Bool) (c:List (List AV)) (d:List AV):isM (.sl a b c d)=false:=rfl
theorem fK (a:List AV) (b:Nat):isM (.ro a b)=false:=rfl
theorem aA (a:List AV):isM (.agg a)=false:=rfl
theorem aB (a:List AV):isM (.tup a)=false:=rfl
theorem aC (f:Fn) (a b:List AV):isM (.clo f a b)=false:=rfl
theorem aD (n:Nm) (o:Nat):isM (.box n o)=false:=rfl
theorem aE (n:Nm) (o:Nat):isM (.own n o)=false:=rfl
theorem X6 (n:Nm) (a b c d:Nat):isM (.elem n a b c d)=false:=rfl
theorem fL (n:Nm):isM (.mp n)=false:=rfl
theorem fM:isM .un=false:=rfl
theorem VS (b:Bool) (x:AV):isM (.gd b x)=true:=rfl
theorem X7:J4 []=true:=rfl
theorem VT (k x:AV) (r:List (List AV)):J4 ([k,x]::r)=((kI k).isSome&&J4 r):=rfl
end Go.Proofs.YtciphecegkfaiaaGreat.Am
namespace Go.Proofs.YtciphecegkfaiaaGreat
set_option linter.unusedSimpArgs false
set_option linter.unusedVariables false
attribute [go_sem] Am.Bl Am.LF Am.LG Am.PA Am.GI Am.Pz Am.ht Am.hw Am.rdO Am.rdK Am.rdV Am.rdL Am.Ui Am.Uj Am.Hy Am.NF List.getD_cons_zero List.getD_cons_succ List.any_cons List.any_nil List.flatMap_cons List.flatMap_nil Am.FF Am.kX Am.kY Am.Ig Am.exK Am.Mb Am.TZ Am.JV Am.Jf Am.HZ Am.eX Am.eY Am.eZ Am.fA Am.fE Am.fB Am.Z7 Am.fC Am.fD Am.noQ Am.Z8 Am.fF Am.fG Am.noE Am.noP Am.M5 Am.M6 Am.EA Am.GD Am.Xb Am.dE Am.dF Am.If Am.H1 Am.Bv Am.Kt Am.kP Am.Kq Am.Rb Am.JA Am.MT Am.Pr Am.Od Am.Mc Am.Oe Am.Md Am.J3 Am.MU Am.Ku Am.Ps Am.Of Am.Og Am.Rc Am.Ix Am.MS Am.Ks Am.Ma Am.loB Am.asI Am.MQ Am.TY Am.TV Am.arB Am.CP Am.mmL Am.mm2 Am.JG Am.MR Am.FP Am.cut Am.Ft Am.lC Am.fJ Am.fK Am.aA Am.aB Am.aC Am.aD Am.aE Am.X6 Am.fL Am.fM Am.VS Am.Gq Am.QL Am.kI Am.Iw Am.Kv Am.Lk Am.X7 Am.VT Am.F4 Am.HJ Am.E1 Am.rdM Am.Jz Am.CX Am.mkv Am.vr Am.Lj Am.res Am.Ef Am.Li Am.rvc Am.D3 Am.Nz Am.Kr Am.Cr Am.ons Am.B8 Am.nob Am.E8 Am.FD Am.GX Am.Cg Am.AB Am.frz Am.BX Am.lk Am.hl Am.ung Am.opv Am.EF Am.gb Am.AV.cells Am.Bq Am.inR Am.Cj Am.W9 Am.Xa Am.Va Am.Vb Am.Q9 Am.QD Am.Uh Am.Fh Am.one Am.wk Am.wkL Am.leE Am.leH Go.undef Am.gs Am.nX Am.nY Am.nZ Am.IK Am.Z4 Am.Z5 Am.eR Am.eS Am.Z6 Am.eT Am.eU Am.eV Am.eW Am.H0 Am.Ob Am.Oc Am.Oa Am.Ra Am.TW Am.Ga List.take_succ_cons List.take_zero List.drop_succ_cons List.drop_zero List.length_map Option.map_some Option.map_none Option.getD_some Option.getD_none List.map_cons List.map_nil List.length_cons List.length_nil List.append_nil List.nil_append List.cons_append List.isEmpty_cons List.isEmpty_nil List.replicate_succ List.replicate_zero List.all_cons List.all_nil List.set_cons_zero List.set_cons_succ List.getElem?_cons_zero List.getElem?_cons_succ Array.toList_map true_or or_true or_false false_or Am.Loc.c.injEq Am.Loc.a.injEq Prod.mk.injEq and_true true_and and_false false_and if_true if_false ite_true ite_false cond_true cond_false Bool.and_true Bool.true_and Bool.and_false Bool.false_and Bool.not_true Bool.not_false Bool.or_true Bool.or_false Bool.true_or Bool.false_or Bool.cond_false_right Bool.cond_true_left beq_self_eq_true List.length_append Int.toNat_natCast Int.cast_ofNat_Int Nat.zero_add Nat.add_zero eq_self implies_true true_implies false_implies Bool.false_eq_true Bool.true_eq_false decide_true decide_false not_true_eq_false not_false_eq_true
end Go.Proofs.YtciphecegkfaiaaGreat
namespace Go.Proofs.YtciphecegkfaiaaGreat.Am
open Go
section
variable {Γ:Ctx}
theorem AN (hΓ:Γ.OK) {rid:Nat} {ops:List AOp} {b:AC} {Q:AE→St→Prop} {e e':Env} {h h':Hp} {c:Nat} {vc:Prop} (hex:Bl Γ.S (c+1) (100*rid) ops e h=some (vc,e',h')) (_:True) (hvc:vc)
  (hQ:awp Γ b Q ⟨e',h',c+1⟩):awp Γ (.seq (.reg rid ops) b) Q ⟨e,h,c⟩:=eK hΓ hex hvc hQ
theorem Bg (hΓ:Γ.OK) {rid:Nat} {ops:List AOp} {Q:AE→St→Prop} {e e':Env} {h h':Hp} {c:Nat} {vc:Prop} (hex:Bl Γ.S (c+1) (100*rid) ops e h=some (vc,e',h')) (_:True) (hvc:vc)
  (hQ:Q .n ⟨e',h',c+1⟩):awp Γ (.reg rid ops) Q ⟨e,h,c⟩:=kV hΓ hex hvc hQ
end
theorem AO (_:True) {S:Tab} {rid i:Nat} {d:Option Nat} {post:List AOp} {e1:Env} {Q:AE→St→Prop} {rvs:List RV} {e:Env} {h:Hp} {c:Nat} {vc:Prop} {xs:List AV} {vc2:Prop} {e2:Env} {h2:Hp} (h1:Fh e h rvs=some (vc,xs))
  (hx:Bl S (c+1) (100*rid+(i+1)) post (BX d (one xs) e1) h=some (vc2,e2,h2)) (hv:vc) (hv2:vc2) (hQ:Q .n ⟨e2,h2,c+1⟩):Bw rvs (Bn S rid i d post e1 Q) .n ⟨e,h,c⟩:=fH h1 hv hx hv2 hQ
theorem AP (_:True) {S:Tab} {rid i:Nat} {d:Option Nat} {post:List AOp} {e1:Env} {Q:AE→St→Prop} {rvs:List RV} {e:Env} {h:Hp} {c:Nat} {vc:Prop} {xs:List AV} {vc2:Prop} {e2:Env} {h2:Hp} (h1:Fh e h rvs=some (vc,xs))
  (hx:Bl S (c+1) (100*rid+(i+1)) post (BX d (one xs) e1) h=some (vc2,e2,h2)) (hv:vc) (hv2:vc2) (hQ:Q .n ⟨e2,h2,c+1⟩):Bw rvs (Bn S rid i d post e1 Q) .r ⟨e,h,c⟩:=fI h1 hv hx hv2 hQ
end Go.Proofs.YtciphecegkfaiaaGreat.Am
namespace Go.Proofs.YtciphecegkfaiaaGreat.Am
set_option linter.unusedSimpArgs false
set_option linter.unusedVariables false
open Go
def gd {α:Type} (p:Prop) [Decidable p] (k:Option α):Option α:=if p then k else none
theorem HR {α:Type} {p:Prop} [Decidable p] {k:Option α} {r:α}:gd p k=some r↔p∧k=some r:=by
 unfold gd;by_cases h:p<;>simp[h]
theorem Ab {α:Type} {p:Prop} [Decidable p] {k:Option α} (h:p):gd p k=k:=if_pos h
theorem fO {α:Type} {b:Bool} {x y z:α} (hb:b=true) (h:(bif b then x else y)=z):x=z:=by subst hb;exact h
theorem fP {α:Type} {b:Bool} {x y z:α} (hb:b=false) (h:(bif b then x else y)=z):y=z:=by subst hb;exact h
abbrev I64 (n:Int):Prop:= -9223372036854775808≤n∧n≤9223372036854775807
instance (n:Int):Decidable (I64 n):=inferInstanceAs (Decidable (_∧_))
def nth {α:Type} (l:List α) (i:Int):Option α:=if 0≤i then l[i.toNat]? else none
theorem I5 {α:Type} {l:List α} {i:Int} {x:α} (h:nth l i=some x):(0≤i∧i<l.length)∧∀d,l.getD i.toNat d=x:=by
 unfold nth at h
 split at h
 ·rename_i h0
  obtain⟨h1,h2⟩:=List.getElem?_eq_some_iff.1 h
  refine⟨⟨h0,by omega⟩,fun d=> ?_⟩
  rw[List.getD_eq_getElem?_getD,h];rfl
 ·cases h
theorem ixs {α:Type} {l:List α} {i:Int} {x:α} (h:nth l i=some x) (d:α):l.getD i.toNat d=x:=(I5 h).2 d
theorem ON {α:Type} {l:List α} {i:Int} (d:α) (h0:0≤i) (h1:i<l.length):nth l i=some (l.getD i.toNat d):=by
 unfold nth
 rw[if_pos h0,List.getD_eq_getElem?_getD,List.getElem?_eq_getElem (by omega)];rfl
theorem Tq {α:Type} {l:List α} {k:Nat}:nth l (k:Int)=l[k]? :=by
 unfold nth;rw[if_pos (by omega)];rfl
section
variable {Γ:Ctx}
theorem Ur {c:AC} {Q Q':AE→St→Prop} {s:St} (h:awp Γ c Q s) (k:∀e s,Q e s→Q' e s∨∃s',Le s' s∧Q' e s'):awp Γ c Q' s:=by
 intro code hc σ a hA
 refine wpIn_mono (h code hc σ a hA) ?_
 rintro e a' w' ⟨σ',s',e',h1,h2,h3,h4,h5⟩
 rcases k _ _ h5 with h6|⟨s'',hl,hq⟩
 ·exact⟨σ',s',e',h1,h2,h3,h4,h6⟩
 ·obtain⟨σ'',g1,g2,g3⟩:=h3.le hl
  exact⟨σ'',s'',e',g1.trans h1,Γ.tr h2 (Γ.ofE g2),g3,h4,hq⟩
def Us {X:Type} (e0:AE) (I:X→St) (Pre:X→Prop) (K:AE→St→Prop) (e:AE) (s:St):Prop:=(e=e0∧∃x,Pre x∧Le (I x) s)∨(e≠e0∧K e s)
theorem VV {X:Type} {e0:AE} {I:X→St} {Pre:X→Prop} {K:AE→St→Prop} {s:St} (x:X) (h:Pre x) (hl:Le (I x) s):Us e0 I Pre K e0 s:= .inl ⟨rfl,x,h,hl⟩
theorem IL {X:Type} {e0 e:AE} {I:X→St} {Pre:X→Prop} {K:AE→St→Prop} {s:St} (h:e≠e0) (hK:K e s):Us e0 I Pre K e s:= .inr ⟨h,hK⟩
theorem aF {X:Type} (I:X→St) (Pre:X→Prop) (e0:AE) {K:AE→St→Prop} {c:AC} {s:St} (h1:awp Γ c (Us e0 I Pre K) s) (h2:∀x,Pre x→K e0 (I x)):awp Γ c K s:=by
 refine Ur h1 fun e s h=> ?_
 rcases h with⟨rfl,x,hx,hl⟩|⟨_,h⟩
 ·exact .inr ⟨I x,hl,h2 x hx⟩
 ·exact .inl h
theorem fQ {B B':Bool} {cc:Opd} {x y:AC} {Q:AE→St→Prop} {e:Env} {h:Hp} {c:Nat} (hb:ung true (opv e cc)= .v (.bool B)) (hB:B=B') (ht:B'=true→awp Γ x Q ⟨e,h,c⟩) (hf:B'=false→awp Γ y Q ⟨e,h,c⟩):awp Γ (.cond cc x y) Q ⟨e,h,c⟩:=by
 subst hB
 exact J8 hb ht hf
end
def X9 (Γ:Ctx) (b:AC) (Q:AE→St→Prop):Nat→St→Prop
 |0,_=>False
 |m+1,s=>awp Γ b (fun e s'=>match e with| .n=>X9 Γ b Q m s'| .x i=>Q (.x i) s'| .r=>Q .r s'| .p v=>Q (.p v) s') s
def PD (Γ:Ctx) (b:AC) (Q:AE→St→Prop) (m:Nat):AE→St→Prop:=fun e s'=>match e with| .n=>X9 Γ b Q m s'| .x i=>Q (.x i) s'| .r=>Q .r s'| .p v=>Q (.p v) s'
section
variable {Γ:Ctx}
theorem IM {b:AC} {Q:AE→St→Prop} {m:Nat} {s:St} (h:awp Γ b (PD Γ b Q m) s):PD Γ b Q (m+1) .n s:=h
theorem IN {b:AC} {Q:AE→St→Prop} {m i:Nat} {s:St} (h:Q (.x i) s):PD Γ b Q m (.x i) s:=h
theorem IO {b:AC} {Q:AE→St→Prop} {m:Nat} {s:St} (h:Q .r s):PD Γ b Q m .r s:=h
theorem E4 (m:Nat) {b:AC} {Q:AE→St→Prop} {s:St} (h:awp Γ b (PD Γ b Q m) s):awp Γ (.loop b) Q s:=by
 intro code hc σ a hA
 cases code with
 |loop c=>
  simp only[cCode] at hc
  cases hx:cCode Γ.P Γ.nt c with
  |none=>simp[hx] at hc
  |some x'=>
   simp[hx] at hc
   subst hc
   refine wpIn_loop_rounds (m+1) ?_
   have key:∀(m:Nat) (s:St) (σ':Cf) (a':Act),X9 Γ x' Q m s→At Γ σ' s a'→Γ.R σ σ'→Code.roundsIn Γ.F 0 Γ.P c (lift Γ σ Q) m a' σ'.w:=by
    intro m
    induction m with
    |zero=>intro s σ' a' h;exact h.elim
    |succ m ih=>
     intro s σ' a' h hA' hR
     rw[roundsIn_succ]
     refine wpIn_mono (h c hx σ' a' hA') ?_
     rintro e a1 w1 ⟨τ,s',e',rfl,h2,h3,h4,h5⟩
     cases e with
     |normal=>
      simp[AE.of] at h4;subst h4
      exact ih s' τ a1 h5 h3 (Γ.tr hR h2)
     |exit j=>simp[AE.of] at h4;subst h4;exact⟨τ,s',_,rfl,Γ.tr hR h2,h3,rfl,h5⟩
     |ret=>simp[AE.of] at h4;subst h4;exact⟨τ,s',_,rfl,Γ.tr hR h2,h3,rfl,h5⟩
     |goto l=>simp[AE.of] at h4
     |panic c=>obtain⟨v,rfl,rfl⟩:=AE.of_panic h4;exact⟨τ,s',_,rfl,Γ.tr hR h2,h3,rfl,h5⟩
     |outgrown=>simp[AE.of] at h4
   exact key (m+1) s σ a h hA (Ctx.rfl Γ σ)
 |region id ops d=>
  simp only[cCode] at hc
  obtain⟨_,_,⟨_,e⟩|⟨_,_,_,_,e⟩⟩:=Ca hc<;>cases e
 |seq x y=>simp only[cCode] at hc;split at hc<;>simp at hc
 |cond c x y=>simp only[cCode] at hc;split at hc<;>simp at hc
 |rangeFunc f ps x y=>simp only[cCode] at hc;split at hc<;>simp at hc
 |_=>simp[cCode] at hc
end
def FX (n:Nm):Hp→Hp
 |[]=>[]
 |(.c m j,x)::r=>if m=n then FX n r else(.c m j,x)::FX n r
 |(.a m,x)::r=>(.a m,x)::FX n r
theorem IP {n m:Nm} (hm:m≠n) (j:Nat):∀h:Hp,hl (FX n h) (.c m j)=hl h (.c m j)
 |[]=>rfl
 |(.c k i,x)::r=>by
  simp only[FX]
  split
  ·rename_i e;subst e
   simp only[hl]
   rw[if_neg (by intro e;cases e;exact hm rfl)]
   exact IP hm j r
  ·simp only[hl];rw[IP hm j r]
 |(.a k,x)::r=>by simp only[FX,hl];rw[IP hm j r]
theorem IQ {n:Nm} (j:Nat):∀h:Hp,hl (FX n h) (.c n j)=none
 |[]=>rfl
 |(.c k i,x)::r=>by
  simp only[FX]
  split
  ·exact IQ j r
  ·rename_i hk
   simp only[hl]
   rw[if_neg (by intro e;cases e;exact hk rfl)]
   exact IQ j r
 |(.a k,x)::r=>by simp only[FX,hl];rw[if_neg (by intro e;cases e)];exact IQ j r
theorem JP {n m:Nm}:∀h:Hp,hl (FX n h) (.a m)=hl h (.a m)
 |[]=>rfl
 |(.c k i,x)::r=>by
  simp only[FX]
  split
  ·simp only[hl];rw[if_neg (by intro e;cases e)];exact JP r
  ·simp only[hl];rw[JP r]
 |(.a k,x)::r=>by simp only[FX,hl];rw[JP r]
theorem RS {h:Hp} {n:Nm}:∀{k o:Nat} {cs:List AV},Ft h n o k=some cs→cs.length=k∧∀j,j<k→∃c,cs[j]? =some c∧hl h (.c n (o+j))=some c
 |0,o,cs,hc=>by simp[Ft] at hc;subst hc;exact⟨rfl,fun j hj=>by omega⟩
 |k+1,o,cs,hc=>by
  simp only[Ft] at hc
  split at hc
  ·rename_i c h0
   cases hm:isM c with
   |true=>rw[hm] at hc;cases hc
   |false=>
   rw[hm,cond_false] at hc
   cases hr:Ft h n (o+1) k with
   |none=>simp[hr] at hc
   |some ds=>
    simp[hr] at hc
    subst hc
    obtain⟨g1,g2⟩:=RS hr
    refine⟨by simp[g1],fun j hj=> ?_⟩
    cases j with
    |zero=>exact⟨c,rfl,h0⟩
    |succ j=>
     obtain⟨c',e1,e2⟩:=g2 j (by omega)
     exact⟨c',by simpa using e1,by rw[show o+(j+1)=o+1+j by omega];exact e2⟩
  ·simp at hc
def Cf.rebox (σ:Cf) (n m:Nm):Cf:={σ with rb:=fun k=>if k=m then σ.rb n else σ.rb k,al:=fun k=>σ.al k∨k=m,ln:=fun k=>if k=m then none else σ.ln k}
theorem Evo.rebox {σ:Cf} {n m:Nm} (hm:¬σ.al m):Evo σ (σ.rebox n m) where
 box k hk:=by
  have:¬k=m:=by rintro rfl;exact hm hk
  exact⟨.inl hk,by simp[Cf.rebox,this]⟩
 arr k hk l hl:=by
  have:¬k=m:=by rintro rfl;exact hm hk
  simp only[Cf.rebox,if_neg this] at hl⊢
  exact⟨l,hl,Nat.le_refl _,fun _=>trivial⟩
 fro b o h h':=⟨h,h'⟩
 out:=rfl
 sz:=Nat.le_refl _
 io:=SameO.refl _
theorem HInv.rebox {σ:Cf} {hp:Hp} (h:HInv σ hp) {n m:Nm} (hm:¬σ.al m) {k:Nat} (hk:0<k) {cs:List AV} (hc:Ft hp n 0 k=some cs):HInv (σ.rebox n m) (CX m 0 cs++FX n hp):=by
 obtain⟨g1,g2⟩:=RS hc
 have ev:=Evo.rebox (n:=n) hm
 have hcell:∀(p:Nm) (j:Nat) (c:AV),hl (CX m 0 cs++FX n hp) (.c p j)=some c→(p=m∧hl hp (.c n j)=some c)∨(p≠m∧p≠n∧hl hp (.c p j)=some c):=by
  intro p j c hh
  rw[H2,JX] at hh
  by_cases hp':p=m
  ·subst hp'
   simp only[Nat.zero_le,and_true,if_true,Nat.sub_zero] at hh
   by_cases hj:j<k
   ·obtain⟨c',e1,e2⟩:=g2 j hj
    rw[e1] at hh
    simp at hh
    subst hh
    exact .inl ⟨rfl,by simpa using e2⟩
   ·rw[List.getElem?_eq_none (by omega)] at hh
    simp only[Option.none_or] at hh
    by_cases hpn:p=n
    ·subst hpn;rw[IQ] at hh;cases hh
    ·rw[IP hpn] at hh
     exact absurd (h.cel p j c hh).1 hm
  ·rw[if_neg (by intro e;exact hp' e.1)] at hh
   simp only[Option.none_or] at hh
   by_cases hpn:p=n
   ·subst hpn;rw[IQ] at hh;cases hh
   ·rw[IP hpn] at hh
    exact .inr ⟨hp',hpn,hh⟩
 have harr:∀p,hl (CX m 0 cs++FX n hp) (.a p)=hl hp (.a p):=by
  intro p
  rw[H2,F5,JP];rfl
 have hnm:∀sz live rows d,hl hp (.a m)≠some (.sl sz live rows d):=fun sz live rows d e=>hm (h.arr m sz live rows d e).1
 refine⟨fun p=> ?_,fun p j c hh=> ?_,fun p sz live rows d hh=> ?_,fun p q b hp' hq'=> ?_,h.lt,h.ou,h.dis⟩
 ·have:=h.ln p
  unfold lenOf at this⊢
  rw[harr]
  by_cases e:p=m
  ·subst e
   have:(σ.rebox n p).ln p=none:=by simp[Cf.rebox]
   rw[this]
   cases hh:hl hp (.a p) with
   |none=>rfl
   |some y=>
    cases y with
    |sl sz live rows d=>exact absurd hh (hnm _ _ _ _)
    |_=>rfl
  ·simp only[Cf.rebox,if_neg e];exact this
 ·rcases hcell p j c hh with⟨rfl,e⟩|⟨e1,e2,e⟩
  ·obtain⟨c0,e0,e1⟩:=g2 0 hk
   obtain⟨_,_,_,_,_,r3,_⟩:=(h.cel n 0 c0 (by simpa using e1)).cells (Lm hc 0 c0 e0)
   obtain⟨q1,q2,cs',T,x,q3,q4,q5,q6⟩:=(h.cel n j c e).cells2 r3
   exact⟨.inr rfl,by simpa [Cf.rebox] using q2,.inl ⟨cs',T,x,by simpa [Cf.rebox] using q3,q4,q5,q6.mono ev⟩⟩
  ·have q:=h.cel p j c e
   exact q.keep ev (by simpa [Cf.rebox] using q.2.1) rfl
 ·rw[harr] at hh
  exact(h.arr p sz live rows d hh).keep ev rfl fun _ _ _ _ _ _ hM=>⟨hM,rfl⟩
 ·have key:∀p b,Owns (σ.rebox n m) (CX m 0 cs++FX n hp) p b→(p=(false,m)∧Owns σ hp (false,n) b)∨(p≠(false,m)∧p≠(false,n)∧Owns σ hp p b):=by
   rintro⟨f,p⟩ b (⟨h1,h2,j,c,h3⟩|⟨h1,⟨sz,rows,d,h2⟩,o,cap,h3,h4⟩)
   ·simp only at h1 h2 h3
    subst h1
    rcases hcell p j c h3 with⟨rfl,e⟩|⟨e1,e2,e⟩
    ·exact .inl ⟨rfl,.inl ⟨rfl,by simpa [Cf.rebox] using h2,j,c,e⟩⟩
    ·refine .inr ⟨by simp[e1],by simp[e2],.inl ⟨rfl,by simpa [Cf.rebox,e1] using h2,j,c,e⟩⟩
   ·simp only at h1 h2 h3
    subst h1
    rw[harr] at h2
    exact .inr ⟨by simp,by simp,.inr ⟨rfl,⟨sz,rows,d,h2⟩,o,cap,by simpa [Cf.rebox] using h3,h4⟩⟩
  rcases key p b hp' with⟨rfl,a1⟩|⟨a0,a2,a1⟩<;>rcases key q b hq' with⟨rfl,b1⟩|⟨b0,b2,b1⟩
  ·rfl
  ·exact absurd (h.inj _ _ _ a1 b1).symm b2
  ·exact absurd (h.inj _ _ _ a1 b1) a2
  ·exact h.inj _ _ _ a1 b1
theorem OO (r:List AV) (rs:List (List AV)) (d:List AV):BJ (r::rs) d 0=r:=rfl
theorem OP (r:List AV) (rs:List (List AV)) (d:List AV) (n:Nat):BJ (r::rs) d (n+1)=BJ rs d n:=rfl
attribute [go_sem] FX
section
variable {n:Nat} {ops:Array Oper} {B:List Nat} {rec:Nat→Rec} {env0:Env} {hp0:Hp} {ao:Nat→AOp} {bs cnt:Nat} {Γ:Ctx}
theorem Rf {L:List Nat}:∀{n:Nat},(∀i,i<n→i∈L)→left L n=0
 |0,_=>rfl
 |n+1,h=>by
  simp only[left]
  rw[Rf fun i hi=>h i (by omega),if_pos (h n (by omega))]
theorem ZD (hΓ:Γ.OK) (G:Good Γ.P (fun i e h=>Ig Γ.S (bs+i,cnt+1) e h (ao i)) Γ.nt n ops B rec env0 hp0 ao) (late:∀j o,n≤j→ops[j]? =some o→∀k,k<n→(B.getD j 0).testBit k=true) {R:Nat} {Qx:Exit→Act→World→Prop} {σ0:Cf}
  (hK:∀(listed:Array Bool) (σ:Cf) (a:Act),listed.size=ops.size→(∀i,i<ops.size→(listed.getD i true=true↔i<n)∧(listed.getD i false=true↔i<n))→Evo σ0 σ→Inv σ (ED rec env0 (Dt n)) (hpL rec hp0 (Dt n)) a Γ.nt Γ.hb→
   (∀m,σ.al m→m.2≤cnt∨∃i,i<n∧m=(bs+i,cnt+1))→wpAnyIn Γ.F 0 Γ.P .any ops Qx R listed a σ.w):∀(fuel:Nat) (L:List Nat) (listed:Array Bool) (σ:Cf) (a:Act),
  Done n B L→listed.size=ops.size→(∀i,i<ops.size→(listed.getD i true=true↔i∈L)∧(listed.getD i false=true↔i∈L))→left L n=fuel→Evo σ0 σ→Inv σ (ED rec env0 L) (hpL rec hp0 L) a Γ.nt Γ.hb→
  (∀m,σ.al m→m.2≤cnt∨∃i∈L,m=(bs+i,cnt+1))→wpAnyIn Γ.F 0 Γ.P .any ops Qx (fuel+R) listed a σ.w:=by
 intro fuel
 induction fuel with
 |zero=>
  intro L listed σ a hD h1 h2 hf he hI hal
  have hall:=Mt hf
  obtain⟨e1,e2⟩:=G.fin hD hall
  have hiff:∀i,i∈L↔i<n:=fun i=>⟨hD.lt i,hall i⟩
  rw[Nat.zero_add]
  exact hK listed σ a h1 (fun i hi=>by rw[←hiff i];exact h2 i hi) he (hI.congr e1 e2) fun m hm=>(hal m hm).imp id fun⟨i,hi,e⟩=>⟨i,hD.lt i hi,e⟩
 |succ fuel ih=>
  intro L listed σ a hD h1 h2 hf he hI hal
  rw[show fuel+1+R=(fuel+R)+1 by omega]
  have hmiss:∃j,j<n∧j∉L∧∀i,i<j→i∈L:=by
   rcases Um L n with h|h
   ·rw[Rf h] at hf;omega
   ·exact h
  obtain⟨j0,j1,j2,j3⟩:=hmiss
  refine⟨fun hr=> ?_,fun i hi=> ?_⟩
  ·exfalso
   have hj:j0<ops.size:=Nat.lt_of_lt_of_le j1 G.sz
   have ho:ops[j0]? =some ops[j0]:=Array.getElem?_eq_getElem hj
   have:j0∈Region.ready .any ops listed:=(GS h1 h2 (fun i o ho=>(G.bef i o ho).1) j0).2 ⟨hj,j2,_,ho,fun e he=>j3 e ((G.bef j0 _ ho).1 e he)⟩
   rw[hr] at this
   simp at this
  obtain⟨g1,g2,o,ho,g3⟩:=(GS h1 h2 (fun i o ho=>(G.bef i o ho).1) i).1 hi
  have ha:=G.all hD ho g3
  have hin:i<n:=by
   rcases Nat.lt_or_ge i n with h|h
   ·exact h
   ·exact absurd (ha j0 (late i o h ho j0 j1)) j2
  obtain⟨vc,hvc,hex,hd,_⟩:=G.run i hin
  rw[←G.same hD hin g2 ha] at hex
  refine IG hΓ.S hΓ.F ho (G.op i o ho) hI ⟨?_,cnt+1,fun m hm=>by rcases hal m hm with h|⟨k,_,rfl⟩;exact Nat.le_succ_of_le h;exact Nat.le_refl _⟩ hex hvc fun a' σ' e' hI' hal'=> ?_
  ·intro h
   rcases hal _ h with h|⟨k,hk,e⟩
   ·exact absurd h (Nat.not_succ_le_self cnt)
   ·simp only[Prod.mk.injEq,Nat.add_left_cancel_iff,and_true] at e
    exact g2 (e▸hk)
  ·refine ih (i::L) _ σ' a' (hD.cons hin g2 ha) (by simp[h1]) (fun k hk=> ?_) ?_ (he.trans e') ?_ fun m hm=> ?_
   ·by_cases e:i=k
    ·subst e
     have:i<listed.size:=by omega
     simp[Array.getD,this]
    ·have hk':k<listed.size:=by omega
     have q1:(listed.setIfInBounds i true).getD k true=listed.getD k true:=by simp[Array.getD,hk',Array.getElem_setIfInBounds,e]
     have q2:(listed.setIfInBounds i true).getD k false=listed.getD k false:=by simp[Array.getD,hk',Array.getElem_setIfInBounds,e]
     have q3:k∈i::L↔k∈L:=by
      rw[List.mem_cons]
      exact⟨fun h=>h.resolve_left fun h=>e h.symm,.inr⟩
     rw[q1,q2,q3]
     exact h2 k hk
   ·have:=Mv g2 hin
    omega
   ·simp only[ED,hpL,hd];exact hI'
   ·rcases hal' m hm with h|rfl
    ·rcases hal m h with h|⟨k,hk,e⟩
     ·exact .inl h
     ·exact .inr ⟨k,List.mem_cons_of_mem _ hk,e⟩
    ·exact .inr ⟨i,by simp,rfl⟩
theorem dG (bef:∀i o,ops[i]? =some o→(∀e∈CY o,e<i)∧B.getD i 0=He B (CY o)):∀(i:Nat) (o:Oper),ops[i]? =some o→∀k,(B.getD i 0).testBit k=true→k<i:=by
 intro i
 induction i using Nat.strongRecOn with
 |_ i ih=>
  intro o ho k hk
  rw[(bef i o ho).2,He,Kb] at hk
  simp only[Nat.zero_testBit,yF,false_or] at hk
  obtain⟨e,h1,h2⟩:=hk
  have hlt:=(bef i o ho).1 e h1
  rcases h2 with rfl|h2
  ·exact hlt
  ·have:e<ops.size:=by have:=(Array.getElem?_eq_some_iff.1 ho).1;omega
   have:=ih e hlt _ (Array.getElem?_eq_getElem this) k h2
   omega
theorem Vd (bef:∀i o,ops[i]? =some o→(∀e∈CY o,e<i)∧B.getD i 0=He B (CY o)):∀(j:Nat) (o:Oper),ops[j]? =some o→∀i k,(B.getD j 0).testBit i=true→(B.getD i 0).testBit k=true→(B.getD j 0).testBit k=true:=by
 intro j
 induction j using Nat.strongRecOn with
 |_ j ih=>
  intro o ho i k hi hk
  rw[(bef j o ho).2,He,Kb] at hi⊢
  simp only[Nat.zero_testBit,yF,false_or] at hi⊢
  obtain⟨e,h1,h2⟩:=hi
  refine⟨e,h1,.inr ?_⟩
  rcases h2 with rfl|h2
  ·exact hk
  ·have hlt:=(bef j o ho).1 e h1
   have:e<ops.size:=by have:=(Array.getElem?_eq_some_iff.1 ho).1;omega
   exact ih e hlt _ (Array.getElem?_eq_getElem this) i k h2 hk
theorem T4 (bef:∀i o,ops[i]? =some o→(∀e∈CY o,e<i)∧B.getD i 0=He B (CY o)) {F:Fence} {P:Program} {Q:Exit→Act→World→Prop} (m:Nat) (late:∀j o,m≤j→ops[j]? =some o→∀k,k<j→(B.getD j 0).testBit k=true):
  ∀(r j:Nat) (listed:Array Bool) (a:Act) (w:World),m≤j→j+r=ops.size→listed.size=ops.size→(∀i,i<ops.size→(listed.getD i true=true↔i<j)∧(listed.getD i false=true↔i<j))→wpOpsIn F 0 P ops Q (List.range' j r) a w→wpAnyIn F 0 P .any ops Q r listed a w:=by
 intro r
 induction r with
 |zero=>
  intro j listed a w hm hj h1 h2 h
  refine⟨?_,by simpa [wpOpsIn] using h⟩
  cases hr:Region.ready .any ops listed with
  |nil=>rfl
  |cons x xs=>
   exfalso
   have hx:x∈Region.ready .any ops listed:=by rw[hr];simp
   obtain⟨g1,g2,_⟩:=(GS (L:=Dt j) h1 (fun i hi=>by rw[Fv];exact h2 i hi) (fun i o ho=>(bef i o ho).1) x).1 hx
   rw[Fv] at g2
   omega
 |succ r ih=>
  intro j listed a w hm hj h1 h2 h
  rw[List.range'_succ,wpOpsIn_cons] at h
  have hjs:j<ops.size:=by omega
  have hoj:ops[j]? =some ops[j]:=Array.getElem?_eq_getElem hjs
  refine⟨fun hr=> ?_,fun i hi=> ?_⟩
  ·exfalso
   have:j∈Region.ready .any ops listed:=(GS (L:=Dt j) h1 (fun i hi=>by rw[Fv];exact h2 i hi) (fun i o ho=>(bef i o ho).1) j).2 ⟨hjs,by rw[Fv];omega,_,hoj,fun e he=>by rw[Fv];exact(bef j _ hoj).1 e he⟩
   rw[hr] at this
   simp at this
  ·obtain⟨g1,g2,o,ho,g3⟩:=(GS (L:=Dt j) h1 (fun i hi=>by rw[Fv];exact h2 i hi) (fun i o ho=>(bef i o ho).1) i).1 hi
   rw[Fv] at g2
   have hij:i=j:=by
    rcases Nat.lt_or_ge j i with h|h
    ·exfalso
     have hb:=late i o (by omega) ho j h
     rw[(bef i o ho).2,He,Kb] at hb
     simp only[Nat.zero_testBit,yF,false_or] at hb
     obtain⟨e,q1,q2⟩:=hb
     have q3:=Fv.1 (g3 e q1)
     rcases q2 with rfl|q2
     ·omega
     ·have:=dG bef e _ (Array.getElem?_eq_getElem (show e<ops.size by omega)) j q2
      omega
    ·omega
   subst hij
   refine wpOpIn_mono (fun a w hw=> ?_) h
   refine ih (i+1) _ a w (by omega) (by omega) (by simp[h1]) (fun k hk=> ?_) hw
   by_cases e:i=k
   ·subst e
    have:i<listed.size:=by omega
    simp[Array.getD,this]
   ·have hk':k<listed.size:=by omega
    have q1:(listed.setIfInBounds i true).getD k true=listed.getD k true:=by simp[Array.getD,hk',Array.getElem_setIfInBounds,e]
    have q2:(listed.setIfInBounds i true).getD k false=listed.getD k false:=by simp[Array.getD,hk',Array.getElem_setIfInBounds,e]
    rw[q1,q2,(h2 k hk).1,(h2 k hk).2]
    omega
end
def dep (all:List AOp):Nat→Nat→Nat→Bool
 |0,_,_=>false
 |f+1,k,j=> !HO (all.getD k default) (all.getD j default)||(List.range j).any fun i=>decide (k<i)&& !HO (all.getD i default) (all.getD j default)&&dep all f k i
def YW (all:List AOp) (m:Nat):Bool:=(List.range all.length).all fun j=> !decide (m≤j)||(List.range j).all fun k=>dep all 8 k j
theorem Ve {ops:Array Oper} {B:List Nat} {all:List AOp} (bef:∀i o,ops[i]? =some o→(∀e∈CY o,e<i)∧B.getD i 0=He B (CY o)) (hsz:all.length=ops.size)
  (tm:∀k j,k<j→j<all.length→(B.getD j 0).testBit k=true∨HO (all.getD k default) (all.getD j default)=true):∀(f k j:Nat),k<j→j<all.length→dep all f k j=true→(B.getD j 0).testBit k=true
 |0,k,j,_,_,h=>by simp[dep] at h
 |f+1,k,j,hk,hj,h=>by
  simp only[dep,Bool.or_eq_true,Bool.not_eq_true',List.any_eq_true,List.mem_range,Bool.and_eq_true,decide_eq_true_eq] at h
  rcases h with h|⟨i,hi,⟨h1,h2⟩,h3⟩
  ·rcases tm k j hk hj with g|g
   ·exact g
   ·rw[h] at g;cases g
  ·have h4:=Ve bef hsz tm f k i h1 (by omega) h3
   rcases tm i j hi hj with g|g
   ·exact Vd bef j _ (Array.getElem?_eq_getElem (by omega)) i k g h4
   ·rw[h2] at g;cases g
section
variable {P:Program} {S:Tab} {nt hb:Nat} {J:Int→Cf→Prop} {hnt:nt≤gs} {evo:∀{k:Int} {σ σ':Cf},J k σ→Evo σ σ'→J k σ'} {l:Nat} {xs:List (List AV)}
theorem T5 (hS:TabOK P S) (hR:Rng P Fence.wide l hb xs J) (i:Nat) {rid:Nat} {ops:List AOp} {yo:AOp} {Q:AE→St→Prop} {e e1:Env} {h h1:Hp} {c:Nat} {vc:Prop} {x:Opd} {as:List Opd} {k:Nat} {args:List AV} {recs:List Rec}
  (hyo:ops[i]? =some yo) (hk:yo.k= .cv x as) (hex:LF S (c+1) (100*rid) (ops.take i) e h=some (vc,e1,h1,recs)) (hlate:YW ops i=true) (hvc:vc) (hg:EF e1 yo.g=some true) (hx:ung true (opv e1 x)= .clo (.yield l) [] [])
  (hgh:lk e gs=Ck k) (hargs:as.map (fun x=>ung true (opv e1 x))=args) (hxs:xs[k]? =some args)
  (hQ:∀b:Bool,∃(vc2:Prop) (e2:Env) (h2:Hp),Bl S (c+1) (100*rid+(i+1)) (ops.drop (i+1)) (BX yo.d (.v (.bool b)) ((gs,Ck (if b=true then k+1 else-1))::e1)) h1=some (vc2,e2,h2)∧vc2∧Q .n ⟨e2,h2,c+1⟩):
  awp (Ctx.it P Fence.wide S nt hb J hnt evo) (.drw rid ops []) Q ⟨e,h,c⟩:=by
 intro code hc σ a hA
 have hΓ:(Ctx.it P Fence.wide S nt hb J hnt evo).OK:=⟨hS,.inl rfl⟩
 cases code with
 |region id ops' d=>
  simp only[cCode] at hc
  obtain⟨l0,hx0,⟨_,e0⟩|⟨rfl,hf,un',hu,e0⟩⟩:=Ca hc
  ·cases e0
  ·cases e0
   refine wpIn_region_any hf ?_
   obtain⟨B,b1,b2,hun⟩:=LL hu
   obtain⟨c1,c2⟩:=Ea hx0
   obtain⟨t1,t2⟩:=Do i hx0
   obtain⟨_,t3⟩:=Do (i+1) hx0
   have hi:i<ops.length:=(List.getElem?_eq_some_iff.1 hyo).1
   have hsz:ops.length=ops'.size:=c1.trans (by simp)
   have hi':i<ops'.size:=by omega
   have ho:ops'[i]? =some ops'[i]:=Array.getElem?_eq_getElem hi'
   obtain⟨yo',g1,g2⟩:=c2 i ops'[i] (by simp)
   rw[hyo] at g1
   cases g1
   obtain⟨cl,y,k1,k2,rfl,rfl,k3,k4⟩:=RL g2 hk
   have hop:∀i o,ops'[i]? =some o→∃x,ops[i]? =some x∧cOp P nt ops' o=some x:=fun i o ho=>c2 i o (by simpa using ho)
   have hao:∀i x,ops[i]? =some x→ops.getD i default=x:=fun i x h=>by simp[List.getD_eq_getElem?_getD,h]
   have get:∀i,i<ops.length→ops[i]? =some (ops.getD i default):=fun i hi=>by simp[List.getD_eq_getElem?_getD,hi]
   have hbef:∀i o,ops'[i]? =some o→(∀e∈CY o,e<i)∧B.getD i 0=He B (CY o):=fun i o ho=>by
    have:=JL b1 i o (by simpa using ho)
    simpa using this
   have htm:∀k j,k<j→j<ops.length→(B.getD j 0).testBit k=true∨HO (ops.getD k default) (ops.getD j default)=true:=fun k j hk hj=>by
    have h1:=LI b2 j _ (get j hj)
    rw[Nat.zero_add] at h1
    have h2:=JM h1 k (ops.getD k default) (by rw[List.getElem?_take,if_pos hk];exact get k (by omega))
    rwa [Nat.zero_add] at h2
   have late:∀j o,i≤j→ops'[j]? =some o→∀k,k<j→(B.getD j 0).testBit k=true:=fun j o hj ho k hk=>by
    have hjl:j<ops.length:=by have:=(Array.getElem?_eq_some_iff.1 ho).1;omega
    have h0:=List.all_eq_true.1 hlate j (List.mem_range.2 hjl)
    have h1:decide (i≤j)=true:=by simpa using hj
    rw[h1] at h0
    have h2:=List.all_eq_true.1 (by simpa using h0) k (List.mem_range.2 hk)
    exact Ve hbef hsz htm 8 k j hk hjl h2
   rw[RK] at hex
   have hrl:=IJ hex
   have hlt:(ops.take i).length=i:=by simp;omega
   have hsp:=JO (rec:=fun i=>recs.getD i default) (env0:=e) (hp0:=h) (all:=ops.take i) (bs:=100*rid) (ops.take i) 0 recs vc e1 h1 (fun i=>by simp) hex hvc (fun i hi=>by
    have:i<recs.length:=by omega
    simp[List.getD_eq_getElem?_getD,this])
   simp only[Nat.zero_add,hlt] at hsp
   obtain⟨e1',e2',run⟩:=hsp
   have run':∀k,k<i→_:=fun k hk=>run k (ops.getD k default) (by rw[List.getElem?_take,if_pos hk];exact get k (by omega))
   have hws:∀k,k<i→hw (ops.getD k default).k=false→(recs.getD k default).ws=[]:=fun k hk h=>by
    obtain⟨_,_,g,_⟩:=run' k hk
    exact NH h g
   have hrd:∀k,k<i→ht (ops.getD k default).k=false→(recs.getD k default).rd=[]:=fun k hk h=>by
    obtain⟨_,_,_,_,g⟩:=run' k hk
    rw[g];exact M2 h
   have G:Good P (fun i e h=>Ig S (100*rid+i,c+1) e h (ops.getD i default)) nt i ops' B (fun i=>recs.getD i default) e h fun i=>ops.getD i default:=
    {cg:=fun i e e' h h' ht hh=>LE ht hh
     sz:=by omega
     bef:=hbef
     op:=fun i o ho=>by
      obtain⟨x,h1,h2⟩:=hop i o ho
      simp only[hao i x h1];exact h2
     run:=run'
     tmp:=fun k j hk hj=>htm k j hk (by omega)
     mem:=fun k j hk hj=>by
      have h2:=JN (B:=B.getD j 0) (j:=j) (o:=ops.getD j default) (l:=ops.take j) (k:=0) k (ops.getD k default) (by rw[List.getElem?_take,if_pos hk];exact get k (by omega))
      rw[Nat.zero_add] at h2
      rcases h2 with h|h|h
      ·exact .inl h
      ·right;right
       simp only[Bool.or_eq_false_iff,Bool.and_eq_false_iff] at h
       have hk':k<i:=by omega
       rcases h.1 with g1|g1
       ·rcases h.2 with g2|g2
        ·exact .inr (.inr ⟨hws k hk' g1,hrd k hk' g2⟩)
        ·exact .inl ⟨hws k hk' g1,hws j hj g2⟩
       ·exact .inr (.inl ⟨hws j hj (Uo g1),hrd j hj g1⟩)
      ·exfalso
       have:=LJ (all:=ops) (j:=0) j _ (get j (by omega)) _ (by rw[Nat.zero_add];exact h)
       rw[←hun] at this
       simp at this}
   obtain⟨σd,wd1,wd2,wd3⟩:=hA.drawn (σ.w.drawn+1)
   rw[←wd1]
   rw[show ops'.size=i+(ops'.size-i) by omega]
   refine ZD (cnt:=c) hΓ G (fun j o hj ho k hk=>late j o hj ho k (by omega)) (σ0:=σ) (fun listed σ1 a1 hs1 hl1 ev1 hI1 hal1'=> ?_) i [] _ σd a ⟨by simp,by simp,.nil⟩ (by simp;omega) (fun q hq=> ?_) (LK i) wd2 wd3.1 fun m hm=> .inl (wd3.2.1 m hm)
   ·refine T4 hbef i late (ops'.size-i) i listed a1 σ1.w (Nat.le_refl _) (by omega) hs1 hl1 ?_
    rw[←e1',←e2'] at hI1
    have hal1:∀m,σ1.al m→m.2≤c∨(m.2=c+1∧m.1<100*rid+i):=fun m hm=>(hal1' m hm).imp id fun⟨q,hq,eq⟩=>by subst eq;simp;omega
    rw[show ops'.size-i=(ops'.toList.drop (i+1)).length+1 by simp;omega,List.range'_succ]
    rw[wpOpsIn_cons]
    unfold wpOpIn
    simp only[ho]
    have hw:=E3 hI1.t k4 hg
    simp only[hw,if_true]
    refine⟨fun f _=>trivial, ?_⟩
    have hno:∀c,ops'[i].op≠.defer c:=fun c hd=>by rw[k1] at hd;cases hd
    rw[Oper.semAt_eq _ a1.eval _ hno]
    have hX:=Eo (g:=true) rfl hI1.t y
    rw[hx] at hX
    simp only[Rep,RepL] at hX
    obtain⟨xs0,ys0,hX,rfl,rfl⟩:=hX
    have hV:=EX (g:=true) rfl hI1.t cl.args.toList
    have hJ:J k σ1:=evo (hA.2.2 k hgh) ev1
    have hV':RepL σ1 args (cl.args.toList.map a1.eval):=by
     rw[←hargs]
     exact hV
    obtain⟨f,tmps,assign,body,y1,y2⟩:=hR.rnd hJ hI1.h hxs hV'
    show Oper.uponIn Fence.wide 0 P ops'[i] a1 _ _ (Sem.run P (execOp a1.eval ops'[i]) σ1.w)
    rw[Qf k1 k2 (by simpa using hX) y1]
    rw[Oper.uponIn_round]
    refine⟨fun h=>by simp[Fence.wide] at h,y2.mono ?_⟩
    rintro en w' ⟨b,σ2,rfl,rfl,oth,old,hJ2⟩
    obtain⟨vc2,e2,h2,q1,q2,q3⟩:=hQ b
    have hd:∀k,ops'[i].dst=some k→k<a1.tmps.size:=by
     rw[k3];intro d hd
     rw[hI1.sz];exact Fg g2 d hd
    have hI2:Inv σ2 (BX yo.d (.v (.bool b)) ((gs,Ck (if b=true then k+1 else-1))::e1)) h1 (a1.put ops'[i].dst (.bool b)) nt (hb,false):=by
     refine⟨hI1.h.oth oth, ?_,by rw[Act.size_put];exact hI1.sz, ?_⟩
     ·rw[←k3]
      refine TInv.put (r:= .v (.bool b)) (fun t=> ?_) hd (by simp[Rep])
      simp only[lk]
      by_cases ht:gs=t
      ·rw[if_pos ht]
       subst ht
       have:¬gs<a1.tmps.size:=by rw[hI1.sz];exact Nat.not_lt.2 hnt
       simp[Rep,Array.getD,this]
      ·rw[if_neg ht];exact hI1.t.ev oth.ev t
     ·rw[Act.defers_put]
      refine DOK.of rfl (fun d hd=> ?_) (hI1.df.nd rfl) (Nat.le_trans hI1.df.le oth.sz) (hI1.df.gl.ev oth.ev)
      obtain⟨r,r1,r2,r3,r4,r5⟩:=hI1.df.all rfl d hd
      obtain⟨o1,o2⟩:=old r _ r5 r3
      exact⟨r,r1,r2,o1,by rw[oth.M];exact r4,o2⟩
    have hgh2:lk (BX yo.d (.v (.bool b)) ((gs,Ck (if b=true then k+1 else-1))::e1)) gs=Ck (if b=true then k+1 else-1):=by
     rw[FL (Fg g2) hnt];simp[lk]
    have hG2:(Ctx.it P Fence.wide S nt hb J hnt evo).G (BX yo.d (.v (.bool b)) ((gs,Ck (if b=true then k+1 else-1))::e1)) σ2:=by
     intro k' hk'
     rw[hgh2] at hk'
     have:(if b=true then(k:Int)+1 else-1)=k':=by simpa using hk'
     rw[←this]
     exact hJ2
    have hal2:∀m,σ2.al m→m.2≤c∨(m.2=c+1∧m.1<100*rid+(i+1)):=by
     intro m hm
     rw[oth.al] at hm
     rcases hal1 m hm with h|⟨h3,h4⟩
     ·exact .inl h
     ·right;exact⟨h3,by omega⟩
    have hh:=AbK hΓ (ops:=ops') (Q:=Q) (cnt:=c) (100*rid) _ σ2 hG2 (ops'.toList.drop (i+1)) (i+1) (ops.drop (i+1)) σ2 _ _ _ _ _ vc2 (fun _ _=>rfl) (fun j=>by simp) (by simp;omega) t3 q1 q2 (Evo.refl σ2) hI2 hal2 q3
    have hl:lift (Ctx.it P Fence.wide S nt hb J hnt evo) σ2 Q=lift (Ctx.it P Fence.wide S nt hb J hnt evo) σ Q:=rfl
    rw[hl] at hh
    exact hh
   ·have:q<i+(ops'.size-i):=by omega
    simp[Array.getD,this]
 |seq x y=>simp only[cCode] at hc;split at hc<;>simp at hc
 |cond c x y=>simp only[cCode] at hc;split at hc<;>simp at hc
 |rangeFunc f ps x y=>simp only[cCode] at hc;split at hc<;>simp at hc
 |_=>simp[cCode] at hc
end
abbrev T6 (Γ:Ctx) (l:Nat) (xs:List (List AV)):Prop:=∀(i:Nat) {rid:Nat} {ops post:List AOp} {d:Option Nat} {g:Option (Nat×Bool)} {Q:AE→St→Prop} {e e1:Env} {h h1:Hp} {c:Nat} {vc:Prop} {x:Opd} {as:List Opd} {k:Nat} {args:List AV} {vt vf:Prop} {et ef:Env} {ht hf:Hp} {recs:List Rec}
  (_:ops[i]? =some ⟨d,g,.cv x as⟩) (_:ops.drop (i+1)=post) (_:LF Γ.S (c+1) (100*rid) (ops.take i) e h=some (vc,e1,h1,recs)) (_:YW ops i=true) (_:vc) (_:EF e1 g=some true) (_:ung true (opv e1 x)= .clo (.yield l) [] [])
  (_:lk e gs=Ck k) (_:as.map (fun x=>ung true (opv e1 x))=args) (_:xs[k]? =some args)
  (_:Bl Γ.S (c+1) (100*rid+(i+1)) post (BX d (.v (.bool true)) ((gs,Ck (k+1))::e1)) h1=some (vt,et,ht)) (_:vt) (_:Q .n ⟨et,ht,c+1⟩)
  (_:Bl Γ.S (c+1) (100*rid+(i+1)) post (BX d (.v (.bool false)) ((gs,Ck (-1))::e1)) h1=some (vf,ef,hf)) (_:vf) (_:Q .n ⟨ef,hf,c+1⟩),awp Γ (.drw rid ops []) Q ⟨e,h,c⟩
theorem S1 {P:Program} {S:Tab} (hS:TabOK P S) {f:Nat} {fn:Func} {c:AC} {fst cps:List AV} {xs:List (List AV)} (nt:Nat) (hf:P.funcs[f]? =some fn) (hc:D4 P fn=some (c,[])) (hnt:fn.ntmps=nt) (hgs:nt≤gs)
  (hn:(fst++cps).length<nt)
  (h:∀(l:Nat) (Γ:Ctx),Γ.OK→Γ.S=S→Mw Γ l xs→T6 Γ l xs→awp Γ c (itK xs.length) ⟨(gs,Ck 0)::Cj 0 (fst++AV.clo (.yield l) [] []::cps),[],0⟩):ItC P f fst cps xs:=
 VO hS nt hf hc hnt hgs hn fun l hb J evo hR=>h l _ (Ctx.it_ok hS) (Eq.refl _) (fun i=>LO hS hR i) fun i {rid ops post d g Q e e1 h h1 c vc x as k args vt vf et ef ht hf recs} hyo hpost hex hl hvc hg hx hgh hargs hxs hxT hvT hQT hxF hvF hQF=>by
  subst hpost
  refine T5 hS hR i hyo rfl hex hl hvc hg hx hgh hargs hxs fun b=> ?_
  cases b with
  |true=>exact⟨vt,et,ht,hxT,hvT,hQT⟩
  |false=>exact⟨vf,ef,hf,hxF,hvF,hQF⟩
end Go.Proofs.YtciphecegkfaiaaGreat.Am
