import Derived.Test.YtciphecegkfaiaaGreatA4
import Derived.LoopNIn
set_option linter.unusedSimpArgs false
set_option linter.unusedVariables false
namespace Go.Proofs.YtciphecegkfaiaaGreat.Am
open Go
def gs:Nat:=1000000
@[reducible] def CL(k:Int):AV:=.gd false (.v (.int .i64 k))
structure Rng(P:Program)(F:Fence)(l hb:Nat)(xs:List (List AV))(β:Int->Cf->Prop):Prop where
 evo:∀{k:Int}{U σ':Cf},β k U->Evo U σ'->β k σ'
 oth:∀{k:Int}{U σ':Cf},β k U->Oth U σ'->σ'.O=U.O->(∀(b:Nat)(o:Obj),b<hb\/U.O b->U.w.heap[b]? =some o->σ'.w.heap[b]? =some o)->β k σ'
 rnd:∀{k:Nat}{args:List AV}{U:Cf}{hp:Hp}{vals:List Value},β k U->HInv U hp->xs[k]? =some args->RepL U args vals->∃f tmps assign body,(Instr.yield l vals.toArray).run P U.w=.ok (.round l f tmps assign body) U.w/\RoundIn F 0 P l f tmps assign body U.w λe w'=>∃(b:Bool)(σ':Cf),e=.returned (.bool b)/\σ'.w=w'/\Oth U σ'/\(∀(b:Nat)(o:Obj),¬U.O b->U.w.heap[b]? =some o->σ'.w.heap[b]? =some o/\¬σ'.O b)/\β (if b=true then k+1 else-1) σ'
def Ctx.it(P:Program)(F:Fence)(S:Tab)(nt hb:Nat)(β:Int->Cf->Prop)(hnt:nt<=gs)(evo:∀{k:Int} {U σ':Cf},β k U->Evo U σ'->β k σ'):Ctx:=
 {P:=P,F:=F,S:=S,nt:=nt,hb:=(hb,false),R:=λ_ _=>True,G:=λe U=>∀k,lk e gs=CL k->β k U
  ofE:=λ_=>trivial,tr:=λ_ _=>trivial
  g:=λhG e ht k hk=>by
   rcases ht gs hnt with h|h
   ·rw[h]at hk;cases hk
   ·exact evo (hG k (h▸hk)) e}
variable{V:Ctx}
theorem Ij(hΓ:V.OK){ops:Array Oper}{Q:Exit->Act->World->Prop}{cnt:Nat}(bs:Nat)(e0:Au)(rest:List Nat):∀(l:List Oper)(k:Nat)(aops:List AOp)(U:Cf)(env env':Au)(hp hp':Hp)(a:Act)(vc:Prop),(∀t,V.nt<=t->lk env t=lk e0 t)->(∀j,j<l.length->l[j]? =ops[k+j]?)->G8 V.P V.nt ops l=some aops->Bm V.S (cnt+1) (bs+k) aops env hp=some (vc,env',hp')->vc->Inv U env hp a V.nt V.hb->(∀m,U.al m->m.2<=cnt\/(m.2=cnt+1/\m.1<bs+k))->(∀a' σ',Evo U σ'->Inv σ' env' hp' a' V.nt V.hb->(∀m,σ'.al m->m.2<=cnt\/(m.2=cnt+1/\m.1<bs+(k+l.length)))->(∀t,V.nt<=t->lk env' t=lk e0 t)->wpOpsIn V.F 0 V.P ops Q rest a' σ'.w)->wpOpsIn V.F 0 V.P ops Q (List.range' k l.length++rest) a U.w
 |[],k,aops,U,env,env',hp,hp',a,vc,hgl,hl,hc,hex,hvc,hI,hal,hQ=>by simp[G8]at hc;subst hc;simp only[Bm,yE,Wt]at hex;obtain⟨_,rfl,rfl⟩:=hex;simp only[CP,List.range'_zero,nJ];exact hQ a U (Evo.refl U) hI (λm hm=>hal m hm) hgl
 |o::l,k,aops,U,env,env',hp,hp',a,vc,hgl,hl,hc,hex,hvc,hI,hal,hQ=>by
  simp only[G8]at hc;split at hc
  ·rename_i x xs hx hxs;simp at hc;subst hc;simp only[Bm]at hex;split at hex
   ·simp at hex
   rename_i v1 r1 ws1 hex1;split at hex
   ·simp at hex
   rename_i v2 e2 h2 hex2;simp only[yE,Wt]at hex;obtain⟨rfl,rfl,rfl⟩:=hex;have ho:ops[k]? =some o:=by have:=hl 0 (by simp);simpa using this.symm
   have hnm:¬U.al (bs+k,cnt+1):=by
    intro h;rcases hal _ h with h|h
    ·simp at h;omega
    ·simp at h
   simp only[pC,L8,s8];rw[wpOpsIn_cons];refine Ki hΓ.S hΓ.F (n:=0) ho hx hI ⟨hnm,cnt+1,λm hm=>by rcases hal m hm with h|h<;>omega⟩ hex1 hvc.1 λa' σ' e' hI' hal'=>?_
   refine Ij hΓ bs e0 rest l (k+1) xs σ' _ _ _ _ a' v2 (λt ht=>(G2 (Gp hx) ht).trans (hgl t ht)) (λj hj=>?_) hxs hex2 hvc.2 hI' (λm hm=>?_) λa'' σ'' e'' hI'' hal'' hg''=>hQ a'' σ'' (e'.trans e'') hI'' (λm hm=>?_) hg''
   ·have:=hl (j+1) (by simp;omega);simpa[t6,P9 1 j]using this
   ·rcases hal' m hm with h|rfl
    ·rcases hal m h with h|h<;>omega
    ·right;simp
   ·rcases hal'' m hm with h|h
    ·exact .inl h
    ·right;simp only[pC];omega
  ·simp at hc
theorem TH{P:Program}{o:Oper}{a:Act}{w:World}{c:Call}{x:Operand}{l:Nat}{nx:Go.Next}(ho:o.op=.call c)(hc:c.callee=.value x)(hX:a.eval x=.func (.yield l) #[] #[])(hy:(Instr.yield l (c.args.toList.map a.eval).toArray).run P w=.ok nx w):(execOp a.eval o).run P w=.ok nx w:=by
 have e:(c.args.toList.map a.eval).toArray=c.args.map a.eval:=by apply Array.ext';simp
 rw[e]at hy;simp only[execOp,ho,resolve,hc,hX,Sem.run_bind,Deferred.ofValue,Sem.run_pure,Result.andThen,invoke];simpa using hy
theorem Em{P:Program}{nt:Nat}{ops:Array Oper}:∀{l:List Oper}{xs:List AOp}(i:Nat),G8 P nt ops l=some xs->G8 P nt ops (l.take i)=some (xs.take i)/\G8 P nt ops (l.drop i)=some (xs.drop i)
 |l,xs,0,h=>by simp[G8,h]
 |[],xs,i+1,h=>by simp[G8]at h;subst h;simp[G8]
 |o::l,xs,i+1,h=>by
  simp only[G8]at h;split at h
  ·rename_i x ys hx hys;simp at h;subst h;obtain⟨h1,h2⟩:=Em i hys;simp only[QZ,List.drop_succ_cons,G8,hx,h1,h2];exact⟨trivial,trivial⟩
  ·simp at h
theorem Vu{P:Program}{nt:Nat}{ops:Array Oper}{o:Oper}{yo:AOp}{x:Opd}{as:List Opd}(h:KA P nt ops o=some yo)(hk:yo.k=.cv x as):∃c y,o.op=.call c/\c.callee=.value y/\x=Aq y/\as=c.args.toList.map Aq/\o.dst=yo.d/\cG ops o.guard=some yo.g:=by
 unfold KA at h;split at h
 ·simp at h
 rename_i g hg;split at h
 ·simp at h;subst h;simp only at hk;cases ho:o.op with
  |call c=>
   rw[ho]at hk;simp only[cK,Jg]at hk;split at hk
   ·cases hk
   ·rename_i y hno hy;injection hk with h1 h2
    exact⟨c,y,rfl,hy,h1.symm,h2.symm,rfl,hg⟩
   all_goals (repeat' (split at hk))<;>cases hk
  |_=>
   exfalso;rw[ho]at hk;simp only[cK,Iy,Fk,Kb,Kc,Kd,Ly,Ke]at hk
   (repeat' (split at hk))<;>cases hk
 ·simp at h
end Go.Proofs.YtciphecegkfaiaaGreat.Am
namespace Go.Proofs.YtciphecegkfaiaaGreat.Am
open Go
def Dx(n:Nat):AE->St->Prop|.x _,_=>False|.p _,_=>False|_,s=>lk s.env gs=CL n\/lk s.env gs=CL (-1)
section
variable{P:Program}{S:Tab}{nt hb:Nat}{β:Int->Cf->Prop}{hnt:nt<=gs}{evo:∀{k:Int} {U σ':Cf},β k U->Evo U σ'->β k σ'}{l:Nat}{xs:List (List AV)}
theorem bO(hS:TabOK P S)(hR:Rng P Fence.wide l hb xs β)(i:Nat){rid:Nat}{ops:List AOp}{yo:AOp}{Q:AE->St->Prop}{e e1:Au}{h h1:Hp}{c:Nat}{vc:Prop}{x:Opd}{as:List Opd}{k:Nat}{args:List AV}(hyo:ops[i]? =some yo)(hk:yo.k=.cv x as)(hex:Bm S (c+1) (100*rid) (ops.take i) e h=some (vc,e1,h1))(hvc:vc)(hg:Fx e1 yo.g=some true)(hx:Aw true (Av e1 x)=.clo (.yield l) [] [])(hgh:lk e gs=CL k)(hargs:as.map (λx=>Aw true (Av e1 x))=args)(hxs:xs[k]? =some args)(hQ:∀b:Bool,∃(vc2:Prop) (e2:Au) (h2:Hp),Bm S (c+1) (100*rid+(i+1)) (ops.drop (i+1)) (Ca yo.d (.v (.bool b)) ((gs,CL (if b=true then k+1 else-1))::e1)) h1=some (vc2,e2,h2)/\vc2/\Q .n ⟨e2,h2,c+1⟩):As (Ctx.it P Fence.wide S nt hb β hnt evo) (.reg rid ops) Q ⟨e,h,c⟩:=by
 intro code hc U a hA;have hΓ:(Ctx.it P Fence.wide S nt hb β hnt evo).OK:=⟨hS,.inl rfl⟩
 cases code with
 |region id ops' d=>
  simp only[cCode]at hc;obtain⟨l0,hx0,⟨rfl,e0⟩|⟨_,_,_,_,e0⟩⟩:=Cz hc
  ·cases e0
   refine wpIn_region ?_;obtain⟨c1,c2⟩:=E5 hx0;obtain⟨t1,t2⟩:=Em i hx0;obtain⟨_,t3⟩:=Em (i+1) hx0;have hi:i<ops.length:=(i5.1 hyo).1;have hsz:ops.length=ops'.size:=c1.trans (by simp);have hi':i<ops'.size:=by omega
   have ho:ops'[i]? =some ops'[i]:=fC hi';obtain⟨yo',g1,g2⟩:=c2 i ops'[i] (by simp);rw[hyo]at g1;cases g1
   obtain⟨cl,y,k1,k2,rfl,rfl,k3,k4⟩:=Vu g2 hk;have hr:List.range ops'.size=List.range' 0 (ops'.toList.take i).length++(i::List.range' (i+1) (ops'.toList.drop (i+1)).length):=by
    have e1:(ops'.toList.take i).length=i:=by simp;omega
    have e2:(ops'.toList.drop (i+1)).length=ops'.size-(i+1):=by simp
    rw[e1,e2,CY,<-L8];have:=List.range'_append_1 (s:=0) (m:=i) (n:=ops'.size-(i+1)+1);rw[s6]at this;rw[this];congr 1;omega
   rw[hr];refine Ij hΓ (cnt:=c) (100*rid) e _ (ops'.toList.take i) 0 (ops.take i) U e e1 h h1 a vc (λ_ _=>rfl) (λj hj=>?_) t1 hex hvc hA.1 (λm hm=>.inl (hA.2.1 m hm)) λa1 σ1 ev1 hI1 hal1 hfar1=>?_
   ·have:j<i:=by simp at hj;omega
    simp[zQ,this]
   rw[wpOpsIn_cons];unfold wpOpIn;simp only[ho];have hw:=Gb hI1.t k4 hg;simp only[hw,if_true];refine⟨λf _=>trivial,?_⟩;have hno:∀c,ops'[i].op≠.defer c:=λc hd=>by rw[k1]at hd;cases hd
   rw[Oper.semAt_eq _ a1.eval _ hno];have hX:=Fl (g:=true) rfl hI1.t y;rw[hx]at hX;simp only[Rep,RepL]at hX;obtain⟨xs0,ys0,hX,rfl,rfl⟩:=hX;have hV:=F3 (g:=true) rfl hI1.t cl.args.toList;have hJ:β k σ1:=evo (hA.2.2 k hgh) ev1;have hV':RepL σ1 args (cl.args.toList.map a1.eval):=by rw[<-hargs];exact hV
   obtain⟨f,tmps,assign,body,y1,y2⟩:=hR.rnd hJ hI1.h hxs hV';show Oper.uponIn Fence.wide 0 P ops'[i] a1 _ _ (Sem.run P (execOp a1.eval ops'[i]) σ1.w);rw[TH k1 k2 (by simpa using hX) y1];rw[Oper.uponIn_round];refine⟨λh=>by simp[Fence.wide]at h,y2.mono ?_⟩;rintro en w' ⟨b,σ2,rfl,rfl,oth,old,hJ2⟩;obtain⟨vc2,e2,h2,q1,q2,q3⟩:=hQ b;have hd:∀k,ops'[i].dst=some k->k<a1.tmps.size:=by rw[k3];intro d hd;rw[hI1.sz];exact Gp g2 d hd
   have hI2:Inv σ2 (Ca yo.d (.v (.bool b)) ((gs,CL (if b=true then k+1 else-1))::e1)) h1 (a1.put ops'[i].dst (.bool b)) nt (hb,false):=by
    refine⟨hI1.h.oth oth,?_,by rw[Act.size_put];exact hI1.sz,?_⟩
    ·rw[<-k3];refine TInv.put (r:=.v (.bool b)) (λt=>?_) hd (by simp[Rep]);simp only[lk];by_cases ht:gs=t
     ·rw[eX ht];subst ht;have:¬gs<a1.tmps.size:=by rw[hI1.sz];exact Nat.not_lt.2 hnt
      simp[Rep,Array.getD,this]
     ·rw[eW ht];exact hI1.t.ev oth.ev t
    ·rw[Act.defers_put];refine DOK.of rfl (λd hd=>?_) (hI1.df.nd rfl) (s7 hI1.df.le oth.sz) (hI1.df.gl.ev oth.ev);obtain⟨r,r1,r2,r3,r4,r5⟩:=hI1.df.all rfl d hd;obtain⟨o1,o2⟩:=old r _ r5 r3;exact⟨r,r1,r2,o1,by rw[oth.M];exact r4,o2⟩
   have hgh2:lk (Ca yo.d (.v (.bool b)) ((gs,CL (if b=true then k+1 else-1))::e1)) gs=CL (if b=true then k+1 else-1):=by rw[G2 (Gp g2) hnt];simp[lk]
   have hG2:(Ctx.it P Fence.wide S nt hb β hnt evo).G (Ca yo.d (.v (.bool b)) ((gs,CL (if b=true then k+1 else-1))::e1)) σ2:=by
    intro k' hk';rw[hgh2]at hk';have:(if b=true then(k:Int)+1 else-1)=k':=by simpa using hk'
    rw[<-this];exact hJ2
   have hal2:∀m,σ2.al m->m.2<=c\/(m.2=c+1/\m.1<100*rid+(i+1)):=by
    intro m hm;rw[oth.al]at hm;rcases hal1 m hm with h|⟨h3,h4⟩
    ·exact .inl h
    ·right;simp at h4;omega
   have hh:=Ig hΓ (ops:=ops') (Q:=Q) (cnt:=c) (100*rid) _ σ2 hG2 (ops'.toList.drop (i+1)) (i+1) (ops.drop (i+1)) σ2 _ _ _ _ _ vc2 (λ_ _=>rfl) (λj=>by simp) (by simp;omega) t3 q1 q2 (Evo.refl σ2) hI2 hal2 q3;have hl:lift (Ctx.it P Fence.wide S nt hb β hnt evo) σ2 Q=lift (Ctx.it P Fence.wide S nt hb β hnt evo) U Q:=rfl;rw[hl]at hh;exact hh
  ·cases e0
 |seq x y=>simp only[cCode]at hc;split at hc<;>simp at hc
 |cond c x y=>simp only[cCode]at hc;split at hc<;>simp at hc
 |rangeFunc f ps x y=>simp only[cCode]at hc;split at hc<;>simp at hc
 |_=>simp[cCode]at hc
end
def TI(P:Program)(f:Nat)(fst cps:List AV)(xs:List (List AV)):Prop:=∀(l hb:Nat)(β:Int->Cf->Prop)(U:Cf)(vals:List Value),Rng P Fence.wide l hb xs β->β 0 U->HInv U []->(∀m,¬U.al m)->RepL U (fst++AV.clo (.yield l) [] []::cps) vals->hb<=U.w.heap.size->Gl U->CallsIn Fence.wide 0 P f vals.toArray U.w λe w'=>∃v σ',e=.returned v/\σ'.w=w'/\(β xs.length σ'\/β (-1) σ')
theorem HInv.nil{U:Cf}{hp:Hp}(h:HInv U hp):∃σ',σ'={U with ln:=λ_=>none}/\HInv σ' []:=⟨_,rfl,λ_=>rfl,λn j c h=>by simp[hl]at h,λn sz live rows d h=>by simp[hl]at h,by rintro p q b (⟨_,_,j,c,h⟩|⟨_,⟨_,_,_,h⟩,_⟩) _<;>simp[hl]at h,h.lt,h.ou,h.dis⟩
theorem bP{P:Program}{S:Tab}(hS:TabOK P S){f:Nat}{fn:Func}{c:AC}{fst cps:List AV}{xs:List (List AV)}(nt:Nat)(hf:P.funcs[f]? =some fn)(hc:E0 P fn=some (c,[]))(hnt:fn.ntmps=nt)(hgs:nt<=gs)(hn:(fst++cps).length<nt)(h:∀(l hb:Nat) (β:Int->Cf->Prop) (evo:∀{k:Int} {U σ':Cf},β k U->Evo U σ'->β k σ'),Rng P Fence.wide l hb xs β->As (Ctx.it P Fence.wide S nt hb β hgs evo) c (Dx xs.length) ⟨(gs,CL 0)::CK 0 (fst++AV.clo (.yield l) [] []::cps),[],0⟩):TI P f fst cps xs:=by
 subst hnt;intro l hb β U vals hR hJ hI hal hx hsz hgl;unfold E0 at hc;split at hc
 ·rename_i b hbd;split at hc
  ·rename_i c' r' h1 h2;simp at hc;obtain⟨rfl,rfl⟩:=hc;have hw:=h l hb β hR.evo hR b h1 U {tmps:=vals.toArray++Array.replicate (fn.ntmps-vals.toArray.size) undef,defers:=[]} ?_
   ·refine callsIn_of_wp_marks (n:=0) hf hbd trivial (wpIn_mono hw ?_);rintro e a' w' ⟨σ',s',e',rfl,_,h3,h4,h5⟩;have key:(lk s'.env gs=CL xs.length\/lk s'.env gs=CL (-1))->LeavesInM Fence.wide 0 P fn a'.tmps (λe w'=>∃v σ',e=.returned v/\σ'.w=w'/\(β xs.length σ'\/β (-1) σ')) a'.defers .returning σ'.w:=by
     intro hk;refine H5 a'.defers σ' (λb hb=>⟨h3.1.h.ou b hb,λhM=>h3.1.h.dis b hM hb⟩) (DOK.of' h3.1.df) λW ko kO kb=>?_
     obtain⟨ρ',hρ,hn'⟩:=(h3.1.h.oth ko).nil;obtain⟨us,k1,k2⟩:=HO (P:=P) (s:=⟨[],[],0⟩) (rs:=fn.results.toList) (rvs:=[]) (vc:=True) (xs:=[]) (U:=ρ') (a:={a' with defers:=[]}) (nt:=fn.ntmps) (hb:=(hb,false))
      ⟨hn',λt=>by simp[lk,Rep],h3.1.sz,DOK.nil (by rw[hρ];exact s7 h3.1.df.le ko.sz) (by rw[hρ];exact λb j hj=>⟨((h3.1.df.gl.ev ko.ev) b j hj).1,((h3.1.df.gl.ev ko.ev) b j hj).2⟩)⟩ h2 rfl trivial
     rw[hρ]at k1;refine⟨_,HP k1,_,W,rfl,rfl,?_⟩;have hj:∀k,β k σ'->β k W:=λk hk=>hR.oth hk ko kO kb
     rcases hk with hk|hk
     ·exact .inl (hj _ (h3.2.2 _ hk))
     ·exact .inr (hj _ (h3.2.2 _ hk))
    cases e with
    |normal=>simp[AE.of]at h4;subst h4;exact key h5
    |ret=>simp[AE.of]at h4;subst h4;exact key h5
    |exit i=>simp[AE.of]at h4;subst h4;exact h5.elim
    |goto l=>simp[AE.of]at h4
    |panic c=>obtain⟨v,rfl,rfl⟩:=AE.of_panic h4;exact h5.elim
    |outgrown=>simp[AE.of]at h4
   ·have hlen:=BD hx;refine⟨⟨hI,λt=>?_,by show _=fn.ntmps;simp at hn hlen⊢;omega,DOK.nil hsz hgl⟩,λm hm=>(hal m hm).elim,?_⟩
    ·simp only[lk];by_cases ht:gs=t
     ·rw[eX ht];subst ht;have h1:vals.length<=fn.ntmps:=by simp at hn hlen;omega
      have:¬gs<vals.length+(fn.ntmps-vals.length):=by omega
      simp[Rep,Array.getD,this]
     ·rw[eW ht,HQ];split
      ·rename_i ht;simp only[t7,s6,true_and]at ht;have hg:(fst++AV.clo (.yield l) [] []::cps)[t]? =some (fst++AV.clo (.yield l) [] []::cps)[t]:=eV ht;obtain⟨x,g1,g2⟩:=Ep hx t _ hg;have e1:(fst++AV.clo (.yield l) [] []::cps).getD (t-0) .un=(fst++AV.clo (.yield l) [] []::cps)[t]:=by simp[eT,hg]
       have hlt':t<vals.length:=by omega
       have e2:(vals.toArray++Array.replicate (fn.ntmps-vals.toArray.size) undef).getD t undef=x:=by rw[eV hlt']at g1;simp at g1;simp[C9,z7,hlt',g1]
       rw[e1,e2];exact g2
      ·simp[Rep]
    ·intro k hk;simp only[lk,if_true]at hk;have:(0:Int)=k:=by simpa using hk
     rw[<-this];exact hJ
  ·simp at hc
 ·simp at hc
structure Pair(O0:Nat->Prop)(l D:Nat)(so si:Cf):Prop where
 w:so.w=si.w
 oi:∀b,si.O b↔so.M b\/O0 b\/b=l\/b=D
 oo:∀b,so.O b↔O0 b\/(si.M b/\b<si.w.heap.size)
 di:∀b,si.M b->¬si.O b
 ob:∀b,si.O b->b<si.w.heap.size
structure Way(ss so si:Cf):Prop where
 box:∀n,ss.al n->so.al n/\so.rb n=ss.rb n
 arr:∀n,ss.al n->∀l',so.ln n=some l'->∃l,ss.ln n=some l/\l<=l'/\(l=l'->so.ra n=ss.ra n)
 old:∀b o,ss.w.heap[b]? =some o->¬ss.M b->so.w.heap[b]? =some o/\¬so.M b
 ni:∀b,b<ss.w.heap.size->¬ss.M b->¬si.M b
 sz:ss.w.heap.size<=so.w.heap.size
 io:SameO ss.w so.w
theorem Mf{w:World}{b o:Nat}{x:Value}(h:w.cell? ⟨b,o,none⟩=some x):∃cs T f,w.heap[b]? =some (.cells cs T f):=by
 simp only[World.cell?]at h;split at h
 ·rename_i cs T f hb;exact⟨cs,T,f,hb⟩
 ·simp at h
theorem bQ{O0:Nat->Prop}{l D:Nat}{ss so si si':Cf}(hp:Pair O0 l D so si)(hw:Way ss so si)(hdis:∀b,so.M b->¬so.O b)(hO:si'.O=si.O)(hsz:si.w.heap.size<=si'.w.heap.size)(hio:SameO si.w si'.w)(hM:∀b,b<si.w.heap.size->¬si.M b->¬si'.M b)(hP:∀(b:Nat) (o:Obj),(b<ss.w.heap.size\/si.O b)->¬si.M b->si.w.heap[b]? =some o->si'.w.heap[b]? =some o)(hF:∀b o x,Fz si b->si.w.cell? ⟨b,o,none⟩=some x->si'.w.cell? ⟨b,o,none⟩=some x)(hl:∀cs T f,si.w.heap[l]?≠some (.cells cs T f))(hD:∀cs T f,si.w.heap[D]?≠some (.cells cs T f)):∃so':Cf,Pair O0 l D so' si'/\Way ss so' si'/\Oth so so'/\so'.M=so.M/\∀b,b<so.w.heap.size->¬so.O b->¬so'.O b:=by
 obtain⟨h1,h2,h3,h4,h5⟩:=hp;have obM:∀b,so.M b->si.O b:=λb hb=>(h2 b).2 (.inl hb)
 have noM:∀b,si.O b->¬si.M b:=λb hO hM=>h4 b hM hO
 have keep:∀b,si.O b->si'.w.heap[b]? =si.w.heap[b]? :=λb hb=>by have:=fC (h5 b hb);rw[this];exact hP b _ (.inr hb) (noM b hb) this
 let so':Cf:={so with w:=si'.w,O:=λb=>O0 b\/(si'.M b/\b<si'.w.heap.size)}
 have dj:∀b,si'.M b->¬si.O b:=λb hb hO=>hM b (h5 b hO) (noM b hO) hb
 refine⟨so',⟨rfl,λb=>by rw[hO];exact h2 b,λb=>Iff.rfl,λb hb=>by rw[hO];exact dj b hb,λb hb=>by rw[hO]at hb;exact u9 (h5 b hb) hsz⟩,⟨hw.box,hw.arr,λb o hb hm=>?_,λb hb hm=>?_,?_,hw.io.trans (by rw[h1];exact hio)⟩,⟨rfl,rfl,rfl,rfl,rfl,λb hb=>?_,by rw[h1];exact hsz,λb hb=>by rw[h1];exact keep b (obM b hb),λb o x hf hc=>?_,by rw[h1];exact hio⟩,rfl,λb hlt hn=>?_⟩
 ·obtain⟨g1,g2⟩:=hw.old b o hb hm;have hlt:=(eY.1 hb).1;rw[h1]at g1;exact⟨hP b o (.inl hlt) (hw.ni b hlt hm) g1,g2⟩
 ·have:b<si.w.heap.size:=by rw[<-h1];exact u9 hb hw.sz
  exact hM b this (hw.ni b hb hm)
 ·exact s7 hw.sz (by rw[h1];exact hsz)
 ·have hs:so.w.heap.size=si.w.heap.size:=by rw[h1]
  rcases hb with hb|⟨hb,hlt⟩
  ·have hO':si.O b:=(h2 b).2 (.inr (.inl hb));have hso:so.O b:=(h3 b).2 (.inl hb);exact⟨u9 (h5 b hO') hsz,λhm=>hdis b hm hso,λhf=>hf.2.1 hso⟩
  ·refine⟨hlt,λhm=>dj b hb (obM b hm),λhf=>?_⟩;have hlt':b<si.w.heap.size:=by rw[<-hs];exact hf.2.2
   refine hM b hlt' (λhm=>hf.2.1 ((h3 b).2 (.inr ⟨hm,hlt'⟩))) hb
 ·rw[h1]at hc;obtain⟨cs,T,f,hcs⟩:=Mf hc;have hlt':b<si.w.heap.size:=(eY.1 hcs).1;refine hF b o x ⟨λhm=>hf.2.1 ((h3 b).2 (.inr ⟨hm,hlt'⟩)),λhO'=>?_,hlt'⟩ hc;rcases(h2 b).1 hO' with g|g|rfl|rfl
  ·exact hf.1 g
  ·exact hf.2.1 ((h3 b).2 (.inl g))
  ·exact hl _ _ _ hcs
  ·exact hD _ _ _ hcs
 ·rintro(h|⟨h,_⟩)
  ·exact hn ((h3 b).2 (.inl h))
  ·rw[h1]at hlt;exact hM b hlt (λhm=>hn ((h3 b).2 (.inr ⟨hm,hlt⟩))) h
def RZ(c:Code)(e:AE):Prop:=(c=.ret/\e=.r)\/∃id,c=.exit id/\e=.x id
structure RFix where
 O0:Nat->Prop
 l:Nat
 D:Nat
 ss:Cf
 e:Au
 a:Act
 lp:LoopState->Option Code->Loop
def RJ(V:Ctx)(H:RFix){X:Type}(I:X->Hp×Nat)(Pre:X->Prop)(K:X->Nat)(Q:AE->St->Prop)(k:Int)(si:Cf):Prop:=∃so hp cnt st pe,Pair H.O0 H.l H.D so si/\Way H.ss so si/\Inv so H.e hp H.a V.nt V.hb/\(∀m,so.al m->m.2<=cnt)/\¬so.M H.l/\so.w.heap[H.l]? =some (.loop (H.lp st pe))/\so.w.heap[H.D]? =some (.deferred (some []))/\((∃x,Pre x/\(K x:Int)=k/\st=.ready/\pe=none/\hp=(I x).1/\cnt=(I x).2)\/(k= -1/\∃c e',st=.done/\pe=some c/\RZ c e'/\Q e' ⟨H.e,hp,cnt⟩))
section
variable{V:Ctx}{H:RFix}{X:Type}{I:X->Hp×Nat}{Pre:X->Prop}{K:X->Nat}{Q:AE->St->Prop}{k:Int}{si si':Cf}
theorem RJ.step(h:RJ V H I Pre K Q k si)(hdf:∀d∈H.a.defers,∃r,d={target:=.collected r,args:=#[]}/\(r<H.ss.w.heap.size\/r=H.D))(hO:si'.O=si.O)(hsz:si.w.heap.size<=si'.w.heap.size)(hio:SameO si.w si'.w)(hM:∀b,b<si.w.heap.size->¬si.M b->¬si'.M b)(hP:∀(b:Nat) (o:Obj),(b<H.ss.w.heap.size\/si.O b)->¬si.M b->si.w.heap[b]? =some o->si'.w.heap[b]? =some o)(hF:∀b o x,Fz si b->si.w.cell? ⟨b,o,none⟩=some x->si'.w.cell? ⟨b,o,none⟩=some x):RJ V H I Pre K Q k si':=by
 obtain⟨so,hp,cnt,st,pe,h1,h2,h3,h4,h8,h5,h6,h7⟩:=h;have hw:=h1.w;have hl:∀cs T f,si.w.heap[H.l]?≠some (.cells cs T f):=λcs T f=>by rw[<-hw,h5];simp
 have hD:∀cs T f,si.w.heap[H.D]?≠some (.cells cs T f):=λcs T f=>by rw[<-hw,h6];simp
 obtain⟨ms,dd,e0,m1,m2,m3⟩:=h3.df.sp;obtain⟨so',g1,g2,g3,g4,g5⟩:=bQ h1 h2 h3.h.dis hO hsz hio hM hP hF hl hD;have hlO:si.O H.l:=(h1.oi _).2 (.inr (.inr (.inl rfl)));have hDO:si.O H.D:=(h1.oi _).2 (.inr (.inr (.inr rfl)));have keep:∀b o,si.O b->so.w.heap[b]? =some o->so'.w.heap[b]? =some o:=λb o hb ho=>by rw[g1.w];rw[hw]at ho;exact hP b o (.inr hb) (λhm=>h1.di b hm hb) ho
 refine⟨so',hp,cnt,st,pe,g1,g2,⟨h3.h.oth g3,h3.t.ev g3.ev,h3.sz,⟨⟨ms,dd,e0,λd hd=>?_,m2,m3.map λys vs=>RepL.monoE g3.ev ys vs⟩,s7 h3.df.le g3.sz,h3.df.gl.ev g3.ev⟩⟩,λm hm=>h4 m (by rw[g3.al]at hm;exact hm),by rw[g4];exact h8,keep _ _ hlO h5,keep _ _ hDO h6,h7⟩;obtain⟨r,r1,r2,r3,r4,r5⟩:=m1 d hd;obtain⟨r',q1,q2⟩:=hdf d (by rw[e0];exact List.mem_append_left _ hd);have e:r=r':=by rw[r1]at q1;simpa using q1
 subst e;have hlt:=(eY.1 r3).1;refine⟨r,r1,r2,?_,by rw[g4];exact r4,g5 r hlt r5⟩;rcases q2 with q2|rfl
 ·rw[g1.w];rw[hw]at r3;exact hP r _ (.inl q2) (λhm=>r5 ((h1.oo r).2 (.inr ⟨hm,by rw[<-h1.w];exact hlt⟩))) r3
 ·exact keep _ _ hDO r3
theorem RJ.evo(hdf:∀d∈H.a.defers,∃r,d={target:=.collected r,args:=#[]}/\(r<H.ss.w.heap.size\/r=H.D))(h:RJ V H I Pre K Q k si)(e:Evo si si'):RJ V H I Pre K Q k si':=h.step hdf e.out e.sz e.io (λb hb hm=>(e.fro b _ (fC hb) hm).2) (λb o _ hm hb=>(e.fro b o hb hm).1) λ_ _ _ hf hc=>e.cell hf.1 hc
theorem RJ.oth{hb:Nat}(hhb:H.ss.w.heap.size<=hb)(hdf:∀d∈H.a.defers,∃r,d={target:=.collected r,args:=#[]}/\(r<H.ss.w.heap.size\/r=H.D))(h:RJ V H I Pre K Q k si)(o:Oth si si')(hO:si'.O=si.O)(hP:∀(b:Nat) (o:Obj),b<hb\/si.O b->si.w.heap[b]? =some o->si'.w.heap[b]? =some o):RJ V H I Pre K Q k si':=h.step hdf hO o.sz o.io (λb _ hm=>by rw[o.M];exact hm) (λb ob hb _ hc=>hP b ob (hb.imp (λh=>u9 h hhb) id) hc) o.fro
end
structure Rd(l:Nat)(U σ':Cf):Prop where
 box:∀n,U.al n->σ'.al n/\σ'.rb n=U.rb n
 arr:∀n,U.al n->∀l',σ'.ln n=some l'->∃l,U.ln n=some l/\l<=l'/\(l=l'->σ'.ra n=U.ra n)
 fro:∀b o,b≠l->U.w.heap[b]? =some o->¬U.M b->σ'.w.heap[b]? =some o/\¬σ'.M b
 out:σ'.O=U.O
 sz:U.w.heap.size<=σ'.w.heap.size
 io:SameO U.w σ'.w
theorem Evo.rd{l:Nat}{U σ':Cf}(h:Evo U σ'):Rd l U σ':=⟨h.box,h.arr,λb o _=>h.fro b o,h.out,h.sz,h.io⟩
theorem Rd.trans{l:Nat}{a b c:Cf}(h:Rd l a b)(k:Rd l b c):Rd l a c where
 box n hn:=⟨(k.box n (h.box n hn).1).1,((k.box n (h.box n hn).1).2).trans (h.box n hn).2⟩
 arr n hn l' hl':=by
  obtain⟨l,h1,h2,h3⟩:=k.arr n (h.box n hn).1 l' hl';obtain⟨m,g1,g2,g3⟩:=h.arr n hn l h1;refine⟨m,g1,s7 g2 h2,λe=>?_⟩;have e1:m=l:=by omega
  have e2:l=l':=by omega
  rw[h3 e2,g3 e1]
 fro b o hb hh hm:=by obtain⟨h1,h2⟩:=h.fro b o hb hh hm;exact k.fro b o hb h1 h2
 out:=k.out.trans h.out
 sz:=s7 h.sz k.sz
 io:=h.io.trans k.io
theorem I1{U:Cf}{l:Nat}{r r':Loop}(hO:∀b,U.O b->b<U.w.heap.size/\¬U.M b)(hM:¬U.M l)(h:U.w.heap[l]? =some (.loop r)):∃Z:Cf,Z={U with w:=U.w.putObj l (.loop r')}/\Oth U Z/\Rd l U Z/\Z.w.heap[l]? =some (.loop r')/\∀b o,b≠l->U.w.heap[b]? =some o->Z.w.heap[b]? =some o:=by
 have hlt:l<U.w.heap.size:=(eY.1 h).1;have hsz:(U.w.putObj l (.loop r')).heap.size=U.w.heap.size:=World.putObj_size;have ho:∀b,b≠l->(U.w.putObj l (.loop r')).heap[b]? =U.w.heap[b]? :=λb hb=>World.putObj_heap_other hb
 refine⟨_,rfl,⟨rfl,rfl,rfl,rfl,rfl,λb hb=>⟨by simp only[hsz];exact(hO b hb).1,(hO b hb).2,λhf=>hf.2.1 hb⟩,by simp only[hsz];exact fA _,λb hb=>ho b (by rintro rfl;exact hM hb),λb o x _ hc=>?_,⟨rfl,rfl⟩⟩,⟨λ_ h=>⟨h,rfl⟩,λ_ _ l h=>⟨l,h,fA _,λ_=>rfl⟩,λb o hb hh hm=>⟨(ho b hb).trans hh,hm⟩,rfl,by simp only[hsz];exact fA _,⟨rfl,rfl⟩⟩,World.putObj_heap_same hlt,λb o hb hh=>(ho b hb).trans hh⟩;have hb:b≠l:=by rintro rfl;obtain⟨_,_,_,hc'⟩:=Mf hc;rw[h]at hc';simp at hc'
 simp only[World.cell?,ho b hb];exact hc
theorem Rd.ev{l:Nat}{U σ':Cf}{r:Loop}(h:Rd l U σ')(hM:¬σ'.M l)(hl:U.w.heap[l]? =some (.loop r)):Ev U σ' where
 box:=h.box
 arr:=h.arr
 fz b hb:=by
  by_cases e:b=l
  ·subst e;exact⟨hM,by rw[h.out];exact hb.2.1,u9 hb.2.2 h.sz⟩
  ·obtain⟨h1,h2⟩:=h.fro b _ e (fC hb.2.2) hb.1;exact⟨h2,by rw[h.out];exact hb.2.1,u9 hb.2.2 h.sz⟩
 cell b o x hb hc:=by
  have e:b≠l:=by rintro rfl;obtain⟨_,_,_,hc'⟩:=Mf hc;rw[hl]at hc';simp at hc'
  obtain⟨h1,_⟩:=h.fro b _ e (fC hb.2.2) hb.1;have h0:=fC hb.2.2;simp only[World.cell?,h0]at hc;simp only[World.cell?,h1];exact hc
theorem DOK.rd{l:Nat}{hb:HB}{U σ':Cf}{r:Loop}{x:AV}{ds:List Deferred}(h:DOK hb U x ds)(k:Rd l U σ')(hl:U.w.heap[l]? =some (.loop r))(hM:hb.2=false\/¬σ'.M l):DOK hb σ' x ds where
 sp:=by
  obtain⟨ms,dd,e0,m1,m2,m3⟩:=h.sp;refine⟨ms,dd,e0,λd hd=>?_,m2,?_⟩
  ·obtain⟨r,h1,h2,h3,h4,h5⟩:=m1 d hd;have e:r≠l:=by rintro rfl;rw[hl]at h3;simp at h3
   obtain⟨g1,g2⟩:=k.fro r _ e h3 h4;exact⟨r,h1,h2,g1,g2,by rw[k.out];exact h5⟩
  ·rcases hM with hM|hM
   ·exact⟨m3.1,m3.2.1,λe=>(by rw[hM]at e;cases e),m3.2.2.2⟩
   ·exact m3.map λys vs=>RepL.monoE (k.ev hM hl) ys vs
 le:=s7 h.le k.sz
 gl b j hj:=by
  obtain⟨h1,h2⟩:=h.gl b j hj;have e:b≠l:=by rintro rfl;simp[World.cell?,hl]at h2
  obtain⟨g1,g2⟩:=k.fro b _ e (fC h1.2.2) h1.1;refine⟨⟨g2,by rw[k.out];exact h1.2.1,u9 h1.2.2 k.sz⟩,?_⟩;rw[<-h2];simp only[World.cell?,g1,fC h1.2.2]
section
variable{V:Ctx}{H:RFix}{X:Type}{I:X->Hp×Nat}{Pre:X->Prop}{K:X->Nat}{Q:AE->St->Prop}
theorem bR{so si s4:Cf}{hp hp4 hpi:Hp}{cnt4:Nat}{st st':LoopState}{pe pe':Option Code}{k':Int}(h1:Pair H.O0 H.l H.D so si)(h2:Way H.ss so si)(h3:Inv so H.e hp H.a V.nt V.hb)(hlM:¬so.M H.l)(hl:so.w.heap[H.l]? =some (.loop (H.lp st pe)))(hD:so.w.heap[H.D]? =some (.deferred (some [])))(hDM:¬so.M H.D)(hi:HInv si hpi)(hls:H.ss.w.heap.size<=H.l)(hr:Rd H.l so s4)(h4:HInv s4 hp4)(hlM4:¬s4.M H.l)(hl4:s4.w.heap[H.l]? =some (.loop (H.lp st' pe')))(hal:∀m,s4.al m->m.2<=cnt4)(h7:(∃x,Pre x/\(K x:Int)=k'/\st'=.ready/\pe'=none/\hp4=(I x).1/\cnt4=(I x).2)\/(k'= -1/\∃c e',st'=.done/\pe'=some c/\RZ c e'/\Q e' ⟨H.e,hp4,cnt4⟩)):∃si':Cf,si'.w=s4.w/\Oth si si'/\(∀(b:Nat)(o:Obj),¬si.O b->si.w.heap[b]? =some o->si'.w.heap[b]? =some o/\¬si'.O b)/\RJ V H I Pre K Q k' si':=by
 have hw:=h1.w;have hsz:si.w.heap.size<=s4.w.heap.size:=by rw[<-hw];exact hr.sz
 have hlO:si.O H.l:=(h1.oi _).2 (.inr (.inr (.inl rfl)));have hDO:si.O H.D:=(h1.oi _).2 (.inr (.inr (.inr rfl)));have hlD:H.D≠H.l:=by intro e;rw[e,hl]at hD;simp at hD
 have keep:∀(b:Nat)(o:Obj),¬si.O b->si.w.heap[b]? =some o->s4.w.heap[b]? =some o/\¬s4.M b:=λb o hb ho=>by rw[<-hw]at ho;exact hr.fro b o (by rintro rfl;exact hb hlO) ho λhm=>hb ((h1.oi b).2 (.inl hm))
 have new:∀b,¬si.O b->b<si.w.heap.size->¬(s4.M b\/H.O0 b\/b=H.l\/b=H.D):=λb hb hlt=>by
  rintro(g|g)
  ·exact(keep b _ hb (fC hlt)).2 g
  ·exact hb ((h1.oi b).2 (.inr g))
 let si':Cf:={si with w:=s4.w,O:=λb=>s4.M b\/H.O0 b\/b=H.l\/b=H.D}
 have ob':∀b,si'.O b->b<s4.w.heap.size:=λb hb=>by
  rcases hb with g|g
  ·exact h4.lt b g
  ·exact u9 (h1.ob b ((h1.oi b).2 (.inr g))) hsz
 have di':∀b,si.M b->¬si'.O b:=λb hb=>new b (h1.di b hb) (hi.lt b hb)
 refine⟨si',rfl,⟨rfl,rfl,rfl,rfl,rfl,λb hb=>⟨ob' b hb,λhm=>di' b hm hb,λhf=>new b hf.2.1 hf.2.2 hb⟩,hsz,λb hb=>?_,λb o x hf hc=>?_,by rw[<-hw];exact hr.io⟩,λb o hb ho=>⟨(keep b o hb ho).1,new b hb (eY.1 ho).1⟩,s4,hp4,cnt4,st',pe',⟨rfl,λb=>Iff.rfl,λb=>?_,di',ob'⟩,⟨λn hn=>?_,λn hn l' hl'=>?_,λb o ho hm=>?_,h2.ni,s7 h2.sz hr.sz,h2.io.trans hr.io⟩,⟨h4,h3.t.ev (hr.ev hlM4 hl),h3.sz,h3.df.rd hr hl (.inr hlM4)⟩,hal,hlM4,hl4,(hr.fro _ _ hlD hD hDM).1,h7⟩
 ·have h0:=fC (hi.lt b hb);rw[h0];exact(keep b _ (h1.di b hb) h0).1
 ·have h0:=fC hf.2.2;have h0':=(keep b _ hf.2.1 h0).1;simp only[World.cell?,h0]at hc;simp only[World.cell?,si',h0'];exact hc
 ·rw[hr.out,h1.oo b];refine or_congr Iff.rfl ⟨λh=>⟨h.1,u9 h.2 hsz⟩,λh=>⟨h.1,hi.lt b h.1⟩⟩
 ·exact⟨(hr.box n (h2.box n hn).1).1,((hr.box n (h2.box n hn).1).2).trans (h2.box n hn).2⟩
 ·obtain⟨l1,g1,g2,g3⟩:=hr.arr n (h2.box n hn).1 l' hl';obtain⟨m,q1,q2,q3⟩:=h2.arr n hn l1 g1;refine⟨m,q1,s7 q2 g2,λe=>?_⟩;have e1:m=l1:=by omega
  have e2:l1=l':=by omega
  rw[g3 e2,q3 e1]
 ·obtain⟨g1,g2⟩:=h2.old b o ho hm;have hlt:=(eY.1 ho).1;exact hr.fro b o (by omega) g1 g2
end
def Ctx.rd(P:Program)(S:Tab)(nt l:Nat):Ctx:={P:=P,F:=Fence.wide.inRound l,S:=S,nt:=nt,hb:=(0,false),R:=Evo,G:=λ_ _=>True,ofE:=id,tr:=Evo.trans,g:=λ_ _ _=>trivial}
theorem Ctx.rd_ok{P:Program}{S:Tab}{nt l:Nat}(h:TabOK P S):(Ctx.rd P S nt l).OK:=⟨h,.inr ⟨l,Eq.refl _⟩⟩
def GU:List Nat->List AV->Au->Au|p::ps,x::xs,e=>GU ps xs ((p,x)::e)|_,_,e=>e
def Cv(V:Ctx)(b:AC)(Q:AE->St->Prop):AE->St->Prop|.n,s=>As V b Q s|_,_=>False
def Cl{X:Type}(e:Au)(I:X->Hp×Nat)(Pre:X->Prop)(K:X->Nat)(j:Nat)(Q:AE->St->Prop):AE->St->Prop
 |.n,s=>∃x,Pre x/\K x=j/\Le ⟨e,(I x).1,(I x).2⟩ ⟨e,s.hp,s.cnt⟩
 |.x i,s=>Q (.x i) ⟨e,s.hp,s.cnt⟩
 |.r,s=>Q .r ⟨e,s.hp,s.cnt⟩
 |.p _,_=>False
theorem Oe{U:Cf}:∀{ps:List Nat}{args:List AV}{vals:List Value}{e:Au}{tmps:Array Value}{d d':List Deferred},TInv U e {tmps:=tmps,defers:=d}->RepL U args vals->args.length=ps.length->(∀p∈ps,p<tmps.size)->TInv U (GU ps args e) {tmps:=(ps.zip vals).foldl (λt (p,v)=>t.setIfInBounds p v) tmps,defers:=d'}/\((ps.zip vals).foldl (λt (p,v)=>t.setIfInBounds p v) tmps).size=tmps.size
 |[],args,vals,e,tmps,d,d',h,hr,hl,hp=>by
  cases args with
  |nil=>simp only[GU,List.zip_nil_left,List.foldl_nil];exact⟨h,trivial⟩
  |cons _ _=>simp at hl
 |p::ps,args,vals,e,tmps,d,d',h,hr,hl,hp=>by
  cases args with
  |nil=>simp at hl
  |cons x xs=>
   simp only[RepL]at hr;obtain⟨v,vs,rfl,h1,h2⟩:=hr;simp only[GU,List.zip_cons_cons,List.foldl_cons];have hk:TInv U ((p,x)::e) {tmps:=tmps.setIfInBounds p v,defers:=d}:=by have:=TInv.put (d:=some p) (v:=v) (r:=x) h (λk hk=>by cases hk;exact hp p (by simp)) h1;simpa[Ca,Act.put]using this
   have:=Oe (d':=d') hk h2 (by simpa using hl) (λq hq=>by simp;exact hp q (by simp[hq]));refine⟨this.1,by rw[this.2];simp⟩
section
variable{P:Program}{S:Tab}{nt hbo:Nat}{H:RFix}{X:Type}{I:X->Hp×Nat}{Pre:X->Prop}{K:X->Nat}{Q:AE->St->Prop}
theorem RJ.rnd{ps:Array Nat}{assign body:Code}{fn:FuncId}{asg bdy:AC}{xs:List (List AV)}(hlp:H.lp=λst pe=>{state:=st,pending:=pe,fn:=fn,tmps:=H.a.tmps,params:=ps,assign:=assign,body:=body,defers:=H.D})(hca:cCode P nt assign=some asg)(hcb:cCode P nt body=some bdy)(hps:∀p∈ps.toList,p<nt)(hpure:∀args∈xs,AS args=true/\args.length=ps.toList.length)(hround:∀x,Pre x->∀args,xs[K x]? =some args->As (Ctx.rd P S nt H.l) asg (Cv (Ctx.rd P S nt H.l) bdy (Cl H.e I Pre K (K x+1) Q)) ⟨GU ps.toList args H.e,(I x).1,(I x).2⟩)(hls:H.ss.w.heap.size<=H.l)(hDd:∃d∈H.a.defers,d={target:=.collected H.D,args:=#[]}){k:Nat}{args:List AV}{si:Cf}{hpi:Hp}{vals:List Value}(h:RJ (Ctx.fn P S nt hbo) H I Pre K Q k si)(hi:HInv si hpi)(hxs:xs[k]? =some args)(hv:RepL si args vals):∃f tmps assign body,(Instr.yield H.l vals.toArray).run P si.w=.ok (.round H.l f tmps assign body) si.w/\RoundIn Fence.wide 0 P H.l f tmps assign body si.w λe w'=>∃(b:Bool)(σ':Cf),e=.returned (.bool b)/\σ'.w=w'/\Oth si σ'/\(∀(b:Nat)(o:Obj),¬si.O b->si.w.heap[b]? =some o->σ'.w.heap[b]? =some o/\¬σ'.O b)/\RJ (Ctx.fn P S nt hbo) H I Pre K Q (if b=true then k+1 else-1) σ':=by
 obtain⟨so,hp,cnt,st,pe,h1,h2,h3,h4,h8,h5,h6,h7⟩:=h;rcases h7 with⟨x,hx,hk,rfl,rfl,rfl,rfl⟩|⟨hk,_⟩
 ·have hk:K x=k:=by omega
  obtain⟨hpu,hlen⟩:=hpure args (tU hxs);have hvl:=BD hv;have hDM:¬so.M H.D:=by
   obtain⟨d,hd,rfl⟩:=hDd;obtain⟨r,r1,_,_,r4,_⟩:=h3.df.all rfl _ hd;have:H.D=r:=by simpa using r1
   rw[this];exact r4
  have hdis:∀b,so.O b->b<so.w.heap.size/\¬so.M b:=λb hb=>⟨h3.h.ou b hb,λhM=>h3.h.dis b hM hb⟩
  have hv':RepL so args vals:=RepL.ofPure (U:=si) (σ':=so) (λb hb=>⟨λhm=>hb.2.1 ((h1.oi b).2 (.inl hm)),λho=>by
   rcases(h1.oo b).1 ho with g|g
   ·exact hb.2.1 ((h1.oi b).2 (.inr (.inl g)))
   ·exact hb.1 g.1,by rw[h1.w];exact hb.2.2⟩) (λ_ _=>by rw[h1.w]) args vals hpu hv
  have hy:=run_yield (P:=P) (args:=vals.toArray) (w:=si.w) (l:=H.l) (by rw[<-h1.w];exact h5) (by rw[hlp];simp at hlen⊢;omega);rw[hlp]at hy;refine⟨_,_,_,_,hy,?_⟩;have hT:=Oe (d':=[]) (U:=so) (ps:=ps.toList) (args:=args) (vals:=vals) (e:=H.e) (tmps:=H.a.tmps) (d:=H.a.defers) h3.t hv' hlen (λp hp=>by rw[h3.sz];exact hps p hp);have hfold:(ps.zip vals.toArray).foldl (λt (p,v)=>t.setIfInBounds p v) H.a.tmps=(ps.toList.zip vals).foldl (λt (p,v)=>t.setIfInBounds p v) H.a.tmps:=by rw[<-Array.foldl_toList];simp
  refine roundIn_of_wpIn (F:=Fence.wide) trivial ?_;rw[hfold,<-h1.w];have ha:=hround x hx args (by rw[hk];exact hxs) assign hca so {tmps:=_,defers:=[]} ⟨⟨h3.h,hT.1,by rw[hT.2];exact h3.sz,DOK.nil (t7 _) h3.df.gl⟩,h4,trivial⟩;refine wpIn_mono ha ?_;rintro e a1 w1 ⟨s1,t1,e',rfl,ev1,at1,he,hq⟩;have ev1:Evo so s1:=ev1;cases e with
  |normal=>
   simp[AE.of]at he;subst he;obtain⟨b1,b2⟩:=ev1.fro _ _ h5 h8;have dis1:∀b,s1.O b->b<s1.w.heap.size/\¬s1.M b:=λb hb=>⟨at1.1.h.ou b hb,λhM=>at1.1.h.dis b hM hb⟩
   obtain⟨s2,hs2,o2,r2,l2,_⟩:=I1 (r':={H.lp .ready none with state:=.busy}) dis1 b2 b1;have m2:¬s2.M H.l:=by rw[o2.M];exact b2
   refine⟨s2.w,?_,?_⟩
   ·rw[hs2];exact run_beginRound b1 (by rw[hlp])
   have hb:=hq body hcb s2 a1 ⟨⟨at1.1.h.oth o2,at1.1.t.ev o2.ev,at1.1.sz,at1.1.df.rd r2 b1 (.inl rfl)⟩,λm hm=>at1.2.1 m (by rw[o2.al]at hm;exact hm),trivial⟩;refine wpIn_mono hb ?_;rintro e a3 w3 ⟨s3,t3,e',rfl,ev3,at3,he,hq3⟩;have ev3:Evo s2 s3:=ev3;obtain⟨c1,c2⟩:=ev3.fro _ _ l2 m2;have dis3:∀b,s3.O b->b<s3.w.heap.size/\¬s3.M b:=λb hb=>⟨at3.1.h.ou b hb,λhM=>at3.1.h.dis b hM hb⟩
   have fin:∀(jump:Option Code)(k':Int)(Z:Cf)(hp4:Hp)(cnt4:Nat),Evo s3 Z->Z.w=s3.w->HInv Z hp4->(∀m,Z.al m->m.2<=cnt4)->((∃x,Pre x/\(K x:Int)=k'/\(if jump.isNone then LoopState.ready else .done)=.ready/\jump=none/\hp4=(I x).1/\cnt4=(I x).2)\/(k'= -1/\∃c e',(if jump.isNone then LoopState.ready else .done)=.done/\jump=some c/\RZ c e'/\Q e' ⟨H.e,hp4,cnt4⟩))->∃v w4,(Instr.endRound H.l jump).run P s3.w=.ok v w4/\v=.bool jump.isNone/\∃σ':Cf,σ'.w=w4/\Oth si σ'/\(∀(b:Nat)(o:Obj),¬si.O b->si.w.heap[b]? =some o->σ'.w.heap[b]? =some o/\¬σ'.O b)/\RJ (Ctx.fn P S nt hbo) H I Pre K Q k' σ':=by
    intro jump k' Z hp4 cnt4 eτ wτ hτ alτ h7';obtain⟨q1,q2⟩:=eτ.fro _ _ c1 c2;have disτ:∀b,Z.O b->b<Z.w.heap.size/\¬Z.M b:=λb hb=>⟨hτ.ou b hb,λhM=>hτ.dis b hM hb⟩
    obtain⟨s4,hs4,o4,r4,l4,_⟩:=I1 (r':=H.lp (if jump.isNone then LoopState.ready else .done) jump) disτ q2 q1;refine⟨_,s4.w,?_,rfl,?_⟩
    ·rw[hs4,wτ];have:=run_endRound (P:=P) jump c1;rw[hlp]at this⊢;exact this
    ·obtain⟨si',y1,y2,y3,y4⟩:=bR (V:=Ctx.fn P S nt hbo) (K:=K) (Pre:=Pre) (I:=I) (Q:=Q) h1 h2 h3 h8 h5 h6 hDM hi hls ((ev1.rd.trans r2).trans ((ev3.rd.trans eτ.rd).trans r4)) (hτ.oth o4) (by rw[o4.M];exact q2) l4 (λm hm=>alτ m (by rw[o4.al]at hm;exact hm)) h7';exact⟨si',y1,y2,y3,y4⟩
   cases e with
   |normal=>
    simp[AE.of]at he;subst he;obtain⟨x',p1,p2,p3⟩:=hq3;have hA:At (Ctx.fn P S nt 0) s3 ⟨H.e,t3.hp,t3.cnt⟩ H.a:=⟨⟨at3.1.h,h3.t.ev (((ev1.rd.trans r2).trans ev3.rd).ev c2 h5),h3.sz,DOK.rd (DOK.of rfl (λd hd=>by obtain⟨r,r1,_,r3⟩:=h3.df.all rfl d hd;exact⟨r,r1,t7 _,r3⟩) (h3.df.nd rfl) (t7 _) h3.df.gl) ((ev1.rd.trans r2).trans ev3.rd) h5 (.inl rfl)⟩,at3.2.1,trivial⟩
    obtain⟨Z,w1,e1,a1'⟩:=hA.le p3;obtain⟨v,w4,g1,rfl,σ',g3,g4,g5,g6⟩:=fin none (k+1) Z _ _ e1 w1 a1'.1.h a1'.2.1 (.inl ⟨x',p1,by omega,rfl,rfl,rfl,rfl⟩);exact⟨_,w4,g1,true,σ',rfl,g3,g4,λb o hb ho=>g5 b o hb (by rw[<-h1.w];exact ho),by simpa using g6⟩
   |ret=>simp[AE.of]at he;subst he;obtain⟨v,w4,g1,rfl,σ',g3,g4,g5,g6⟩:=fin (some .ret) (-1) s3 _ _ (Evo.refl s3) rfl at3.1.h at3.2.1 (.inr ⟨rfl,_,.r,rfl,rfl,.inl ⟨rfl,rfl⟩,hq3⟩);exact⟨_,w4,g1,false,σ',rfl,g3,g4,λb o hb ho=>g5 b o hb (by rw[<-h1.w];exact ho),by simpa using g6⟩
   |exit i=>simp[AE.of]at he;subst he;obtain⟨v,w4,g1,rfl,σ',g3,g4,g5,g6⟩:=fin (some (.exit i)) (-1) s3 _ _ (Evo.refl s3) rfl at3.1.h at3.2.1 (.inr ⟨rfl,_,.x i,rfl,rfl,.inr ⟨i,rfl,rfl⟩,hq3⟩);exact⟨_,w4,g1,false,σ',rfl,g3,g4,λb o hb ho=>g5 b o hb (by rw[<-h1.w];exact ho),by simpa using g6⟩
   |goto l=>simp[AE.of]at he
   |panic c=>obtain⟨v,rfl,rfl⟩:=AE.of_panic he;exact hq3.elim
   |outgrown=>simp[AE.of]at he
  |exit i=>simp[AE.of]at he;subst he;exact hq.elim
  |ret=>simp[AE.of]at he;subst he;exact hq.elim
  |goto l=>simp[AE.of]at he
  |panic c=>obtain⟨v,rfl,rfl⟩:=AE.of_panic he;exact hq.elim
  |outgrown=>simp[AE.of]at he
 ·omega
end
theorem Abb(b:Bool):(b==false)= !b:=by cases b<;>rfl
theorem Abc(b:Bool):(b==true)=b:=by cases b<;>rfl
section
variable{P:Program}{S:Tab}{nt hbo:Nat}
theorem Mg{X:Type}(I:X->Hp×Nat)(Pre:X->Prop)(K:X->Nat)(x0:X){f:Opd}{ps:List Nat}{asg bdy:AC}{Q:AE->St->Prop}{e:Au}{h:Hp}{c fi:Nat}{fst cps:List AV}{xs:List (List AV)}(hx:Aw true (Av e f)=.clo (.func fi) fst cps)(hit:TI P fi fst cps xs)(hok:FU P fi)(hpu:AS fst=true/\AS cps=true)(hps:∀p∈ps,p<nt)(hpure:∀args∈xs,AS args=true/\args.length=ps.length)(h0:Pre x0)(hk0:K x0=0)(hle:Le ⟨e,(I x0).1,(I x0).2⟩ ⟨e,h,c⟩)(round:∀l x,Pre x->∀args,xs[K x]? =some args->As (Ctx.rd P S nt l) asg (Cv (Ctx.rd P S nt l) bdy (Cl e I Pre K (K x+1) Q)) ⟨GU ps args e,(I x).1,(I x).2⟩)(hend:∀x,Pre x->K x=xs.length->Q .n ⟨e,(I x).1,(I x).2⟩):As (Ctx.fn P S nt hbo) (.rfun f ps asg bdy) Q ⟨e,h,c⟩:=by
 intro code hc U a hA;cases code with
 |rangeFunc g ps' assign body=>
  simp only[cCode]at hc;split at hc
  ·rename_i x' y' hca hcb;simp at hc;obtain⟨rfl,rfl,rfl,rfl⟩:=hc;obtain⟨ss,w0,ev0,A0⟩:=hA.le hle;rw[<-w0];refine wpIn_mono (Q:=lift (Ctx.fn P S nt hbo) ss Q) ?_ λe a w k=>k.mono (Ctx.ofE _ ev0)
   have hX:=Fl (g:=true) rfl A0.1.t g;rw[hx]at hX;simp only[Rep]at hX;obtain⟨fs,cs,hX,hf1,hc1⟩:=hX;refine wpIn_rangeFunc (F:=Fence.wide) λfn _=>?_
   let lp:LoopState->Option Code->Loop:=λst pe=>{state:=st,pending:=pe,fn:=fn,tmps:=a.tmps,params:=ps',assign:=assign,body:=body,defers:=ss.w.heap.size}
   let W1:World:=(ss.w.alloc (.deferred (some []))).alloc (.loop (lp .ready none))
   have hL1:W1.heap[ss.w.heap.size+1]? =some (.loop (lp .ready none)):=by have:=World.alloc_heap_new (ss.w.alloc (.deferred (some []))) (.loop (lp .ready none));rwa [World.size_alloc]at this
   have hsz1:W1.heap.size=ss.w.heap.size+2:=by simp[W1]
   have hkeep:∀(b:Nat)(o:Obj),ss.w.heap[b]? =some o->W1.heap[b]? =some o:=λb o hb=>by have hlt:=(eY.1 hb).1;rw[BV (by simp;omega),BV hlt];exact hb
   have hK1:W1.heap[ss.w.heap.size]? =some (.deferred (some [])):=by rw[BV (by simp)];exact World.alloc_heap_new ss.w _
   let D:=ss.w.heap.size
   let l:=ss.w.heap.size+1
   let a0:Act:={a with defers:=[{target:=.collected D,args:=#[]}]++a.defers}
   let H:RFix:={O0:=ss.O,l:=l,D:=D,ss:=ss,e:=e,a:=a0,lp:=lp}
   let so:Cf:=ss.at W1
   have evs:Evo ss so:=Evo.at hkeep ⟨rfl,rfl⟩
   let si:Cf:={rb:=λ_=>0,ra:=λ_=>(none,0),M:=λ_=>False,O:=λb=>ss.M b\/ss.O b\/b=l\/b=D,ln:=λ_=>none,al:=λ_=>False,w:=W1}
   have hgsi:Gl si:=λb j hj=>by
    obtain⟨g1,g2⟩:=A0.1.df.gl b j hj;have g3:=(Gl.mono A0.1.df.gl evs b j hj).2;refine⟨⟨λh=>h,?_,?_⟩,g3⟩
    ·have:=g1.2.2;rintro(h|h|h|h)
     ·exact g1.1 h
     ·exact g1.2.1 h
     ·simp only[l]at h;omega
     ·simp only[D]at h;omega
    ·show b<W1.heap.size;have:=g1.2.2;omega
   have hdf:∀d∈H.a.defers,∃r,d={target:=.collected r,args:=#[]}/\(r<H.ss.w.heap.size\/r=H.D):=by
    intro d hd;simp only[H,a0,s8,nJ,lJ]at hd;rcases hd with rfl|hd
    ·exact⟨D,rfl,.inr rfl⟩
    ·obtain⟨r,r1,_,r3,_⟩:=A0.1.df.all rfl d hd;exact⟨r,r1,.inl (eY.1 r3).1⟩
   have nM:∀b,ss.w.heap.size<=b->¬ss.M b:=λb hb hm=>by have:=A0.1.h.lt b hm;omega
   have nO:∀b,ss.w.heap.size<=b->¬ss.O b:=λb hb hm=>by have:=A0.1.h.ou b hm;omega
   have hso:HInv so (I x0).1:=A0.1.h.at hkeep ⟨rfl,rfl⟩;have hsi:HInv si []:=⟨λ_=>rfl,λn j c h=>by simp[hl]at h,λn sz live rows d h=>by simp[hl]at h,by
    rintro p q b (⟨_,_,j,c,h⟩|⟨_,⟨_,_,_,h⟩,_⟩) _<;>simp[hl]at h,λb h=>h.elim,λb hb=>by
     show b<W1.heap.size;rw[hsz1];rcases hb with hb|hb|rfl|rfl
     ·have:=A0.1.h.lt b hb;omega
     ·have:=A0.1.h.ou b hb;omega
     ·simp only[l];omega
     ·simp only[D];omega,λb h=>h.elim⟩
   have hJ0:RJ (Ctx.fn P S nt hbo) H I Pre K Q 0 si:=by
    refine⟨so,(I x0).1,(I x0).2,.ready,none,⟨rfl,λb=>Iff.rfl,λb=>⟨.inl,λh=>h.elim id λh=>h.1.elim⟩,λb h=>h.elim,hsi.ou⟩,⟨evs.box,evs.arr,evs.fro,λ_ _ _ h=>h.elim,evs.sz,evs.io⟩,⟨hso,A0.1.t.mono evs,A0.1.sz,DOK.of rfl (λd hd=>?_) ?_ (s7 A0.1.df.le evs.sz) (A0.1.df.gl.mono evs)⟩,A0.2.1,nM _ (Nat.le_succ _),hL1,hK1,.inl ⟨x0,h0,by simp[hk0],rfl,rfl,rfl,rfl⟩⟩
    ·simp only[H,a0,s8,nJ,lJ]at hd;rcases hd with rfl|hd
     ·exact⟨D,rfl,A0.1.df.le,hK1,nM _ (fA _),nO _ (fA _)⟩
     ·exact(A0.1.df.mono evs).all rfl d hd
    ·simp only[H,a0,s8,nJ];refine yI.2 ⟨λd hd he=>?_,A0.1.df.nd rfl⟩;obtain⟨r,rfl,_,r3,_⟩:=A0.1.df.all rfl d hd;have:D=r:=by simpa using he
     have:=(eY.1 r3).1;omega
   have hR:Rng P Fence.wide l (ss.w.heap.size+2) xs (RJ (Ctx.fn P S nt hbo) H I Pre K Q):=
    {evo:=λhj ev=>hj.evo hdf ev
     oth:=λhj o hO hP=>hj.oth (hb:=ss.w.heap.size+2) (by simp only[H];omega) hdf o hO hP
     rnd:=λhj hi hxs hv=>RJ.rnd (H:=H) (fn:=fn) (ps:=ps') rfl hca hcb hps hpure (round l) (by simp only[H,l];omega) ⟨_,by simp[H,a0],rfl⟩ hj hi hxs hv}
   have hvals:RepL si (fst++AV.clo (.yield l) [] []::cps) (fs++ .func (.yield l) #[] #[]::cs):=by
    have pu:∀ys vs,AS ys=true->RepL ss ys vs->RepL si ys vs:=λys vs hp hr=>by
     have h1:RepL so ys vs:=RepL.mono evs ys vs hr;refine RepL.ofPure (U:=ss) (σ':=si) (λb hb=>⟨λh=>h,?_,by show b<W1.heap.size;have:=hb.2.2;omega⟩) (λb hb=>?_) ys vs hp hr
     ·have:=hb.2.2;rintro(g|g|rfl|rfl)
      ·exact hb.1 g
      ·exact hb.2.1 g
      ·simp only[l]at this;omega
      ·simp only[D]at this;omega
     ·have:=fC hb.2.2;show W1.heap[b]? =_;rw[this];exact hkeep b _ this
    refine EG (pu _ _ hpu.1 hf1) ?_;simp only[RepL];exact⟨_,_,rfl,by simp[Rep,RepL],pu _ _ hpu.2 hc1⟩
   refine⟨l,[{target:=.collected D,args:=#[]}],W1,{target:=.fn (.func fi) cs.toArray,args:=fs.toArray++#[.func (.yield l) #[] #[]]},W1,fi,(fs.toArray++#[.func (.yield l) #[] #[]])++cs.toArray,W1,run_enterLoop_outer _ _ _ _ _,?_,λ_ _=>trivial,?_,λh=>by simp[Fence.wide]at h,?_⟩
   ·have hy:Array.map a.eval #[.const (.func (.yield l) #[] #[])]=#[.func (.yield l) #[] #[]]:=by simp[Act.eval]
    simp only[resolve,rangeCall,hy,hX,Deferred.ofValue,Sem.run_pure]
   ·simp only[invoke];exact FA hok _ _
   have harr:(fs.toArray++#[.func (.yield l) #[] #[]])++cs.toArray=(fs++ .func (.yield l) #[] #[]::cs).toArray:=by apply Array.ext';simp
   rw[harr];refine(hit l (ss.w.heap.size+2) _ si _ hR hJ0 hsi (λ_ h=>h) hvals (by show _<=W1.heap.size;omega) hgsi).mono ?_;rintro en w' ⟨v,σ',rfl,rfl,hj⟩;have key:∀hp cnt st pe so2,Pair H.O0 H.l H.D so2 σ'->Way H.ss so2 σ'->Inv so2 H.e hp H.a nt (hbo,false)->(∀m,so2.al m->m.2<=cnt)->¬so2.M H.l->so2.w.heap[H.l]? =some (.loop (H.lp st pe))->st≠.busy->∃s5:Cf,(Instr.endLoop l).run P σ'.w=.ok pe s5.w/\Evo ss s5/\At (Ctx.fn P S nt hbo) s5 ⟨e,hp,cnt⟩ a0:=by
    intro hp cnt st pe so2 h1 h2 h3 h4 h8 h5 hb;have dis2:∀b,so2.O b->b<so2.w.heap.size/\¬so2.M b:=λb hb=>⟨h3.h.ou b hb,λhM=>h3.h.dis b hM hb⟩
    obtain⟨s4,hs4,o4,r4,l4,k4⟩:=I1 (r':={H.lp st pe with state:=.exhausted}) dis2 h8 h5;have hOs:∀b,ss.O b->s4.O b:=λb hb=>by rw[r4.out];exact(h1.oo b).2 (.inl hb)
    let s5:Cf:={s4 with O:=ss.O}
    have h4i:=h3.h.oth o4;have o5:Oth s4 s5:=⟨rfl,rfl,rfl,rfl,rfl,λb hb=>⟨h4i.ou b (hOs b hb),λhM=>h4i.dis b hM (hOs b hb),λhf=>hf.2.1 (hOs b hb)⟩,fA _,λ_ _=>rfl,λ_ _ _ _ h=>h,SameO.refl _⟩
    have df4:=h3.df.rd r4 h5 (.inl rfl);refine⟨s5,?_,⟨λn hn=>?_,λn hn l' hl'=>?_,λb o ho hm=>?_,rfl,s7 h2.sz r4.sz,h2.io.trans r4.io⟩,⟨h4i.oth o5,(h3.t.ev o4.ev).ev o5.ev,h3.sz,DOK.of rfl (λd hd=>?_) (df4.nd rfl) df4.le (df4.gl.ev o5.ev)⟩,λm hm=>h4 m ?_,trivial⟩
    ·have:=run_endLoop (P:=P) (w:=so2.w) h5 hb;rw[h1.w]at this;show _=Result.ok pe s4.w;rw[hs4,this,h1.w]
    ·exact⟨(r4.box n (h2.box n hn).1).1,((r4.box n (h2.box n hn).1).2).trans (h2.box n hn).2⟩
    ·obtain⟨l1,g1,g2,g3⟩:=r4.arr n (h2.box n hn).1 l' hl';obtain⟨m,q1,q2,q3⟩:=h2.arr n hn l1 g1;refine⟨m,q1,s7 q2 g2,λe=>?_⟩;have e1:m=l1:=by omega
     have e2:l1=l':=by omega
     exact(g3 e2).trans (q3 e1)
    ·obtain⟨g1,g2⟩:=h2.old b o ho hm;have hlt:=(eY.1 ho).1;exact r4.fro b o (by intro e;subst e;simp only[H,l]at hlt;omega) g1 g2
    ·obtain⟨r,r1,r2,r3,r4',r5⟩:=df4.all rfl d hd;exact⟨r,r1,r2,r3,r4',λh=>r5 (hOs r h)⟩
    ·have hm':s4.al m:=hm;rw[o4.al]at hm';exact hm'
   have inv:∀{k:Int},RJ (Ctx.fn P S nt hbo) H I Pre K Q k σ'->rangePost Fence.wide 0 P l (lift (Ctx.fn P S nt hbo) ss Q) a0 (.returned v) σ'.w\/False\/k≠xs.length/\k≠-1:=by
    intro k hj;obtain⟨so2,hp,cnt,st,pe,h1,h2,h3,h4,h8,h5,h6,h7⟩:=hj;rcases h7 with⟨x,hx,hk,rfl,rfl,rfl,rfl⟩|⟨hk,c',e',rfl,rfl,hjp,hq⟩
    ·by_cases hlen:K x=xs.length
     ·obtain⟨s5,g1,g2,g3⟩:=key _ _ _ _ so2 h1 h2 h3 h4 h8 h5 (by simp);exact .inl ⟨none,s5.w,g1,s5,_,.n,rfl,g2,g3,rfl,hend x hx hlen⟩
     ·exact .inr (.inr ⟨by omega,by omega⟩)
    ·obtain⟨s5,g1,g2,g3⟩:=key _ _ _ _ so2 h1 h2 h3 h4 h8 h5 (by simp);refine .inl ⟨some c',s5.w,g1,?_⟩;rcases hjp with⟨rfl,rfl⟩|⟨i,rfl,rfl⟩
     ·exact wpIn_ret ⟨s5,_,.r,rfl,g2,g3,rfl,hq⟩
     ·exact wpIn_exit ⟨s5,_,.x i,rfl,g2,g3,rfl,hq⟩
   rcases hj with hj|hj
   ·rcases inv hj with h|h|h
    ·exact h
    ·exact h.elim
    ·exact absurd rfl h.1
   ·rcases inv hj with h|h|h
    ·exact h
    ·exact h.elim
    ·exact absurd rfl h.2
  ·simp at hc
 |region id ops d=>simp only[cCode]at hc;obtain⟨_,_,⟨_,e⟩|⟨_,_,_,_,e⟩⟩:=Cz hc<;>cases e
 |seq x y=>simp only[cCode]at hc;split at hc<;>simp at hc
 |cond c x y=>simp only[cCode]at hc;split at hc<;>simp at hc
 |_=>simp[cCode]at hc
end
def BJ(rvs:List RV)(K:AV->St->Prop):AE->St->Prop|.x _,_=>False|.p _,_=>False|_,s=>∃vc xs,Gq s.env s.hp rvs=some (vc,xs)/\vc/\K (one xs) s
theorem R0{rvs:List RV}{K:AV->St->Prop}{e:Au}{h:Hp}{c:Nat}{vc:Prop}{xs:List AV}(h1:Gq e h rvs=some (vc,xs))(h2:vc)(h3:K (one xs) ⟨e,h,c⟩):BJ rvs K .r ⟨e,h,c⟩:=⟨vc,xs,h1,h2,h3⟩
def Hz(env:Au):AK->Option (Nat×List AV)
 |.call f as=>some (f,as.map λx=>Aw true (Av env x))
 |.cv x as=>match Aw true (Av env x)with|.clo (.func f) fst cps=>some (f,fst++as.map (λx=>Aw true (Av env x))++cps)|_=>none
 |_=>none
def Bv(S:Tab)(rid i:Nat)(d:Option Nat)(post:List AOp)(e1:Au)(Q:AE->St->Prop)(r:AV)(s:St):Prop:=∃(vc2:Prop)(e2:Au)(h2:Hp),Bm S (s.cnt+1) (100*rid+(i+1)) post (Ca d r e1) s.hp=some (vc2,e2,h2)/\vc2/\Q .n ⟨e2,h2,s.cnt+1⟩
section
variable{P:Program}{S:Tab}
theorem Of(hS:TabOK P S){f:Nat}{fn:Func}{c:AC}{rvs:List RV}{args:List AV}{ntf cnt:Nat}{K:AV->St->Prop}(hf:P.funcs[f]? =some fn)(hc:E0 P fn=some (c,rvs))(hnt:fn.ntmps=ntf)(hn:args.length<=ntf){U:Cf}{h1:Hp}{vals:List Value}(hgl:Gl U)(hI:HInv U h1)(hal:∀m,U.al m->m.2<=cnt)(hv:RepL U args vals)(h:As (Ctx.fn P S ntf U.w.heap.size) c (BJ rvs K) ⟨CK 0 args,h1,cnt⟩):CallsIn Fence.wide 0 P f vals.toArray U.w λen w'=>∃v Z s r,en=.returned v/\Z.w=w'/\Evo U Z/\HInv Z s.hp/\(∀m,Z.al m->m.2<=s.cnt)/\Rep Z r v/\K r s:=by
 subst hnt;unfold E0 at hc;split at hc
 ·rename_i b hbd;split at hc
  ·rename_i c' r' g1 g2;simp at hc;obtain⟨rfl,rfl⟩:=hc;have hlen:=BD hv;have hw:=h b g1 U {tmps:=vals.toArray++Array.replicate (fn.ntmps-vals.toArray.size) undef,defers:=[]} ?_
   ·refine callsIn_of_wp_marks (n:=0) hf hbd trivial (wpIn_mono hw ?_);rintro e a' w' ⟨σ',s',e',rfl,ev,h3,h4,h5⟩;have ev:Evo U σ':=ev;have key:(∃vc xs,Gq s'.env s'.hp r'=some (vc,xs)/\vc/\K (one xs) s')->LeavesInM Fence.wide 0 P fn a'.tmps (λen w'=>∃v Z s r,en=.returned v/\Z.w=w'/\Evo U Z/\HInv Z s.hp/\(∀m,Z.al m->m.2<=s.cnt)/\Rep Z r v/\K r s) a'.defers .returning σ'.w:=by
     rintro⟨vc,xs,k1,k2,k3⟩;refine H5 a'.defers σ' (λb hb=>⟨h3.1.h.ou b hb,λhM=>h3.1.h.dis b hM hb⟩) (DOK.of' h3.1.df) λW ko kO kb=>?_
     have hI':Inv W s'.env s'.hp {a' with defers:=[]} fn.ntmps (U.w.heap.size,false):=⟨h3.1.h.oth ko,h3.1.t.ev ko.ev,h3.1.sz,DOK.nil (s7 h3.1.df.le ko.sz) (h3.1.df.gl.ev ko.ev)⟩
     obtain⟨us,u1,u2⟩:=HO hI' g2 k1 k2;have evρ:Evo U W:=⟨λn hn=>by rw[ko.al,ko.rb];exact ev.box n hn,λn hn l' hl'=>by rw[ko.ra];rw[ko.ln]at hl';exact ev.arr n hn l' hl',λb o hb hm=>by obtain⟨q1,q2⟩:=ev.fro b o hb hm;exact⟨kb b o (.inl (eY.1 hb).1) q1,by rw[ko.M];exact q2⟩,kO.trans ev.out,s7 ev.sz ko.sz,ev.io.trans ko.io⟩
     refine⟨_,HP u1,_,W,s',one xs,rfl,rfl,evρ,hI'.h,λm hm=>h3.2.1 m (by rw[ko.al]at hm;exact hm),?_,k3⟩;have hl':=BD u2;unfold one;split
     ·rename_i x;simp only[RepL]at u2;obtain⟨y,ys,rfl,e2,rfl⟩:=u2;simpa using e2
     ·rename_i hno;have hne:us.toArray.size≠1:=by
       intro h1;simp at h1;rw[h1]at hl';cases xs with
       |nil=>simp at hl'
       |cons x xs=>cases xs with
        |nil=>exact hno x rfl
        |cons _ _=>simp at hl'
      rw[dif_neg hne];simp only[Rep];exact⟨us,rfl,u2⟩
    cases e with
    |normal=>simp[AE.of]at h4;subst h4;exact key h5
    |ret=>simp[AE.of]at h4;subst h4;exact key h5
    |exit i=>simp[AE.of]at h4;subst h4;exact h5.elim
    |goto l=>simp[AE.of]at h4
    |panic c=>obtain⟨v,rfl,rfl⟩:=AE.of_panic h4;exact h5.elim
    |outgrown=>simp[AE.of]at h4
   ·refine⟨⟨hI,λt=>?_,by show _=fn.ntmps;simp;omega,DOK.nil (fA _) hgl⟩,hal,trivial⟩;rw[HQ];split
    ·rename_i ht;simp only[t7,s6,true_and]at ht;have hg:args[t]? =some args[t]:=eV ht;obtain⟨x,g1,g2⟩:=Ep hv t _ hg;have e1:args.getD (t-0) .un=args[t]:=by simp[ht]
     have hlt':t<vals.length:=by omega
     have e2:(vals.toArray++Array.replicate (fn.ntmps-vals.toArray.size) undef).getD t undef=x:=by rw[eV hlt']at g1;simp at g1;simp[C9,z7,hlt',g1]
     rw[e1,e2];exact g2
    ·simp[Rep]
  ·simp at hc
 ·simp at hc
end
theorem Vv{P:Program}{nt:Nat}{ops:Array Oper}{o:Oper}{yo:AOp}{f:Nat}{as:List Opd}(h:KA P nt ops o=some yo)(hk:yo.k=.call f as):∃c,o.op=.call c/\c.callee=.value (.func f)/\as=c.args.toList.map Aq/\o.dst=yo.d/\cG ops o.guard=some yo.g:=by
 unfold KA at h;split at h
 ·simp at h
 rename_i g hg;split at h
 ·simp at h;subst h;simp only at hk;cases ho:o.op with
  |call c=>
   rw[ho]at hk;simp only[cK,Jg]at hk;split at hk
   ·rename_i f' hy;injection hk with h1 h2
    subst h1;exact⟨c,rfl,hy,h2.symm,rfl,hg⟩
   all_goals (repeat' (split at hk))<;>cases hk
  |_=>
   exfalso;rw[ho]at hk;simp only[cK,Iy,Fk,Kb,Kc,Kd,Ly,Ke]at hk
   (repeat' (split at hk))<;>cases hk
 ·simp at h
section
variable{V:Ctx}
theorem R1{P:Program}{U:Cf}{env:Au}{hp:Hp}{a:Act}{nt:Nat}{hb:HB}{ops:Array Oper}{o:Oper}{yo:AOp}{f:Nat}{args:List AV}(hI:Inv U env hp a nt hb)(hc:KA P nt ops o=some yo)(hok:FU P f)(hca:Hz env yo.k=some (f,args)):(∀c,o.op≠.defer c)/\cG ops o.guard=some yo.g/\o.dst=yo.d/\∃vals:List Value,RepL U args vals/\(execOp a.eval o).run P U.w=.ok (.enter f vals.toArray) U.w:=by
 cases hk:yo.k with
 |call f' as=>
  rw[hk]at hca;simp only[Hz,yE,Wt]at hca;obtain⟨rfl,rfl⟩:=hca;obtain⟨c,k1,k2,rfl,k3,k4⟩:=Vv hc hk;refine⟨λc hd=>(by rw[k1]at hd;cases hd),k4,k3,c.args.toList.map a.eval,F3 (g:=true) rfl hI.t c.args.toList,?_⟩;have hr:=λargs=>FA hok args U.w
  simp only[execOp,k1,resolve,k2,Sem.run_bind,Deferred.ofValue,Sem.run_pure,Result.andThen,invoke,Act.eval,hr];congr 2;apply Array.ext';simp[Act.eval]
 |cv x as=>
  rw[hk]at hca;simp only[Hz]at hca;split at hca
  ·rename_i fi fst cps hx;simp only[yE,Wt]at hca;obtain⟨rfl,rfl⟩:=hca;obtain⟨c,y,k1,k2,rfl,rfl,k3,k4⟩:=Vu hc hk;have hX:=Fl (g:=true) rfl hI.t y;rw[hx]at hX;simp only[Rep]at hX;obtain⟨xs,ys,e1,e2,e3⟩:=hX;refine⟨λc hd=>(by rw[k1]at hd;cases hd),k4,k3,xs++c.args.toList.map a.eval++ys,EG (EG e2 (F3 (g:=true) rfl hI.t c.args.toList)) e3,?_⟩;have hr:=λargs=>FA hok args U.w
   simp only[execOp,k1,resolve,k2,e1,Sem.run_bind,Deferred.ofValue,Sem.run_pure,Result.andThen,invoke,hr];congr 1;congr 1;apply Array.ext';simp
  ·simp at hca
 |_=>rw[hk]at hca;simp[Hz]at hca
theorem XN(hΓ:V.OK)(i:Nat){rid:Nat}{ops:List AOp}{yo:AOp}{Q:AE->St->Prop}{e e1:Au}{h h1:Hp}{c:Nat}{vc:Prop}{f:Nat}{args:List AV}{fn:Func}{ac:AC}{rvs:List RV}{ntf:Nat}(hf:V.P.funcs[f]? =some fn)(hcf:E0 V.P fn=some (ac,rvs))(hnt:fn.ntmps=ntf)(hok:FU V.P f)(hyo:ops[i]? =some yo)(hex:Bm V.S (c+1) (100*rid) (ops.take i) e h=some (vc,e1,h1))(hvc:vc)(hg:Fx e1 yo.g=some true)(hca:Hz e1 yo.k=some (f,args))(hn:args.length<=ntf)(hbody:∀hb,As (Ctx.fn V.P V.S ntf hb) ac (BJ rvs (Bv V.S rid i yo.d (ops.drop (i+1)) e1 Q)) ⟨CK 0 args,h1,c+1⟩):As V (.reg rid ops) Q ⟨e,h,c⟩:=by
 intro code hc U a hA;cases code with
 |region id ops' d=>
  simp only[cCode]at hc;obtain⟨l0,hx0,⟨rfl,e0⟩|⟨_,_,_,_,e0⟩⟩:=Cz hc
  ·cases e0
   refine wpIn_region ?_;obtain⟨c1,c2⟩:=E5 hx0;obtain⟨t1,t2⟩:=Em i hx0;obtain⟨_,t3⟩:=Em (i+1) hx0;have hi:i<ops.length:=(i5.1 hyo).1;have hsz:ops.length=ops'.size:=c1.trans (by simp);have hi':i<ops'.size:=by omega
   have ho:ops'[i]? =some ops'[i]:=fC hi';obtain⟨yo',g1,g2⟩:=c2 i ops'[i] (by simp);rw[hyo]at g1;cases g1
   have hr:List.range ops'.size=List.range' 0 (ops'.toList.take i).length++(i::List.range' (i+1) (ops'.toList.drop (i+1)).length):=by
    have e1:(ops'.toList.take i).length=i:=by simp;omega
    have e2:(ops'.toList.drop (i+1)).length=ops'.size-(i+1):=by simp
    rw[e1,e2,CY,<-L8];have:=List.range'_append_1 (s:=0) (m:=i) (n:=ops'.size-(i+1)+1);rw[s6]at this;rw[this];congr 1;omega
   rw[hr];refine Ij hΓ (cnt:=c) (100*rid) e _ (ops'.toList.take i) 0 (ops.take i) U e e1 h h1 a vc (λ_ _=>rfl) (λj hj=>?_) t1 hex hvc hA.1 (λm hm=>.inl (hA.2.1 m hm)) λa1 σ1 ev1 hI1 hal1 hfar1=>?_
   ·have:j<i:=by simp at hj;omega
    simp[zQ,this]
   rw[wpOpsIn_cons];unfold wpOpIn;simp only[ho];obtain⟨hno,k4,k3,vals,hv,hrun⟩:=R1 hI1 g2 hok hca;have hw:=Gb hI1.t k4 hg;simp only[hw,if_true];refine⟨λf _=>hΓ.F.fn f,?_⟩;rw[Oper.semAt_eq _ a1.eval _ hno,hrun];refine⟨λh=>by simp[hΓ.F.depth]at h,hΓ.F.calls ((callsIn_wide.1 (Of hΓ.S hf hcf hnt hn hI1.df.gl hI1.h (cnt:=c+1) (λm hm=>by rcases hal1 m hm with h|h<;>omega) hv (hbody _))).mono ?_)⟩;rintro en w' ⟨v,Z,s,r,rfl,rfl,evτ,hτ,alτ,rv,vc2,e2,h2,q1,q2,q3⟩;have hd:∀k,ops'[i].dst=some k->k<a1.tmps.size:=by rw[k3];intro d hd;rw[hI1.sz];exact Gp g2 d hd
   have hI2:Inv Z (Ca yo.d r e1) s.hp (a1.put ops'[i].dst v) V.nt V.hb:=by rw[<-k3];exact⟨hτ,(hI1.t.mono evτ).put hd rv,by rw[Act.size_put];exact hI1.sz,by rw[Act.defers_put,G2 (λd hd=>Gp g2 d (k3▸hd)) (show V.nt<=dk V.nt from Wp _ _)];exact hI1.df.mono evτ⟩
   exact Ig hΓ (ops:=ops') (Q:=Q) (cnt:=s.cnt) (100*rid) e U hA.2.2 (ops'.toList.drop (i+1)) (i+1) (ops.drop (i+1)) Z _ _ _ _ _ vc2 (λt ht=>(G2 (Gp g2) ht).trans (hfar1 t ht)) (λj=>by simp) (by simp;omega) t3 q1 q2 (ev1.trans evτ) hI2 (λm hm=>.inl (alτ m hm)) q3
  ·cases e0
 |seq x y=>simp only[cCode]at hc;split at hc<;>simp at hc
 |cond c x y=>simp only[cCode]at hc;split at hc<;>simp at hc
 |rangeFunc f ps x y=>simp only[cCode]at hc;split at hc<;>simp at hc
 |_=>simp[cCode]at hc
end
namespace C
abbrev o(d:Nat)(k:AK):AOp:=⟨some d,none,k⟩
abbrev w(d t:Nat)(k:AK):AOp:=⟨some d,some (t,true),k⟩
abbrev v(d t:Nat)(k:AK):AOp:=⟨some d,some (t,false),k⟩
abbrev u(k:AK):AOp:=⟨none,none,k⟩
abbrev i(n:Int):Opd:=.k (.v (.int .i64 n))
abbrev ff:Opd:=.k (.v (.bool false))
abbrev tt:Opd:=.k (.v (.bool true))
abbrev z:AV:=.v (.int .i64 0)
abbrev m(d s:Nat):AOp:=⟨some d,none,.mv (.t s)⟩
abbrev c(d f:Nat)(l:List Opd):AOp:=⟨some d,none,.call f l⟩
end C
attribute [go_sem] C.o C.w C.v C.u C.i C.ff C.tt C.z C.m C.c
abbrev Spec:=List AV->Option (Prop×AV)
def Kl:List (Nat×Spec)->Nat->List AV->Option (Prop×AV)|[],_,_=>none|(k,s)::r,f,args=>if k=f then s args else Kl r f args
def R2:Nat->List AV->List AV->Option (Prop×AV×List (Nat×AV)):=λ_ _ _=>none
def XO:Nat->List AV->List AV->Option (Prop×Value):=λ_ _ _=>none
def R3:Nat->List AV->List AV->Option (Prop×AV):=λ_ _ _=>none
def HA(l:List (Nat×Spec)):Tab:=⟨Kl l,false,false,R2,XO,R3⟩
theorem sH(l:List (Nat×Spec)):(HA l).f=Kl l:=rfl
theorem sI(l:List (Nat×Spec)):(HA l).w=false:=rfl
def SX(l:List (Nat×Spec)):Tab:=⟨Kl l,true,false,R2,XO,R3⟩
theorem wU(l:List (Nat×Spec)):(SX l).f=Kl l:=rfl
theorem wV(l:List (Nat×Spec)):(SX l).w=true:=rfl
theorem sJ(l:List (Nat×Spec)):(HA l).m=false:=rfl
theorem wW(l:List (Nat×Spec)):(SX l).m=false:=rfl
def SY(l:List (Nat×Spec)):Tab:=⟨Kl l,false,true,R2,XO,R3⟩
theorem wX(l:List (Nat×Spec)):(SY l).f=Kl l:=rfl
theorem wY(l:List (Nat×Spec)):(SY l).w=false:=rfl
theorem wZ(l:List (Nat×Spec)):(SY l).m=true:=rfl
def AZ(P:Program)(k:Nat)(s:Spec):Prop:=FU P k/\∀args vc r,s args=some (vc,r)->vc->PCall P k args r
theorem An{P:Program}:TabOK P (HA []):=⟨λf args vc r h=>(by simp[HA,Kl]at h),λ_ _ _ _ _ _ _ h=>(by cases h),λ_ _ _ _ _ _ h=>(by cases h),λ_ _ _ _ _ h=>(by cases h)⟩
theorem Ac{P:Program}{k:Nat}{s:Spec}{l:List (Nat×Spec)}(h:AZ P k s)(hr:TabOK P (HA l)):TabOK P (HA ((k,s)::l)):=by
 refine⟨λf args vc r hs hv=>?_,λ_ _ _ _ _ _ _ h=>(by cases h),λ_ _ _ _ _ _ h=>(by cases h),λ_ _ _ _ _ h=>(by cases h)⟩;simp only[HA,Kl]at hs;split at hs
 ·rename_i e;subst e;exact⟨h.1,h.2 args vc r hs hv⟩
 ·exact hr.f f args vc r hs hv
abbrev PZ:=List AV->List AV->Option (Prop×AV×List (Nat×AV))
abbrev P0:=List AV->List AV->Option (Prop×Value)
def P1:List (Nat×PZ)->Nat->List AV->List AV->Option (Prop×AV×List (Nat×AV))|[],_,_,_=>none|(k,s)::r,f,args,cs=>if k=f then s args cs else P1 r f args cs
def P2:List (Nat×P0)->Nat->List AV->List AV->Option (Prop×Value)|[],_,_,_=>none|(k,s)::r,f,args,cs=>if k=f then s args cs else P2 r f args cs
def Mh(l:List (Nat×Spec))(le:List (Nat×PZ))(lp:List (Nat×P0)):Tab:=⟨Kl l,false,false,P1 le,P2 lp,R3⟩
theorem xA(l le lp):(Mh l le lp).f=Kl l:=rfl
theorem xB(l le lp):(Mh l le lp).w=false:=rfl
theorem xC(l le lp):(Mh l le lp).m=false:=rfl
theorem xD(l le lp):(Mh l le lp).e=P1 le:=rfl
theorem xE(l le lp):(Mh l le lp).q=R3:=rfl
theorem sK(l):(HA l).q=R3:=rfl
theorem xF(l):(SX l).q=R3:=rfl
theorem xG(l):(SY l).q=R3:=rfl
theorem xH(l le lp):(Mh l le lp).p=P2 lp:=rfl
theorem sL(l):(HA l).e=R2:=rfl
theorem xI(l):(SX l).e=R2:=rfl
theorem xJ(l):(SY l).e=R2:=rfl
def EOK(P:Program)(k:Nat)(s:PZ):Prop:=FU P k/\∀args cells vc r us n,s args cells=some (vc,r,us)->vc->Fs args=some n->Ux P k n args cells r us
def POK(P:Program)(k:Nat)(s:P0):Prop:=FU P k/\∀args cells vc v n,s args cells=some (vc,v)->vc->Fs args=some n->Ry P k n args cells v
theorem sM{P:Program}{l:List (Nat×Spec)}{le:List (Nat×PZ)}{lp:List (Nat×P0)}(h:TabOK P (HA l))(he:∀x∈le,EOK P x.1 x.2)(hp:∀x∈lp,POK P x.1 x.2):TabOK P (Mh l le lp):=by
 refine⟨h.f,λf args cells vc r us n hs hv hb=>?_,λf args cells vc v n hs hv hb=>?_,λ_ _ _ _ _ h=>(by cases h)⟩
 ·simp only[Mh]at hs;induction le with
  |nil=>simp[P1]at hs
  |cons x le ih=>
   simp only[P1]at hs;split at hs
   ·rename_i e;subst e;have:=he x (by simp);exact⟨this.1,this.2 _ _ _ _ _ _ hs hv hb⟩
   ·exact ih (λy hy=>he y (by simp[hy])) hs
 ·simp only[Mh]at hs;induction lp with
  |nil=>simp[P2]at hs
  |cons x le ih=>
   simp only[P2]at hs;split at hs
   ·rename_i e;subst e;have:=hp x (by simp);exact⟨this.1,this.2 _ _ _ _ _ hs hv hb⟩
   ·exact ih (λy hy=>hp y (by simp[hy])) hs
mutual
theorem XP:∀(x y:AV),wk x y->Cw x=true->Cw y=true
 |.sl z f rows d,y,h,hr=>by
  cases y with
  |sl z' f' rows' d'=>simp[Cw]
  |_=>simp only[wk]at h;cases h
 |.agg a,y,h,hr=>by
  cases y with
  |agg b=>simp only[wk]at h;simp only[Cw]at hr⊢;exact Mi a b h hr
  |_=>simp only[wk]at h;cases h
 |.tup a,y,h,hr=>by
  cases y with
  |tup b=>simp only[wk]at h;simp only[Cw]at hr⊢;exact Mi a b h hr
  |_=>simp only[wk]at h;cases h
 |.v x,y,h,hr=>by simp only[wk]at h;rw[<-h];exact hr
 |.ro _ _,y,h,hr=>by simp only[wk]at h;rw[<-h];exact hr
 |.clo _ _ _,y,h,hr=>by simp only[wk]at h;rw[<-h];exact hr
 |.box _ _,y,h,hr=>by simp only[wk]at h;rw[<-h];exact hr
 |.own _ _,y,h,hr=>by simp only[wk]at h;rw[<-h];exact hr
 |.elem _ _ _ _ _,y,h,hr=>by simp only[wk]at h;rw[<-h];exact hr
 |.gd _ _,y,h,hr=>by simp only[wk]at h;rw[<-h];exact hr
 |.mp _,y,h,hr=>by simp only[wk]at h;rw[<-h];exact hr
 |.un,y,h,hr=>by simp only[wk]at h;rw[<-h];exact hr
theorem Mi:∀(xs ys:List AV),Ih xs ys->AS xs=true->AS ys=true
 |[],[],_,_=>rfl
 |x::xs,y::ys,h,hr=>by simp only[Ih]at h;simp only[AS,lP]at hr⊢;exact⟨XP x y h.1 hr.1,Mi xs ys h.2 hr.2⟩
 |[],_::_,h,_=>by simp[Ih]at h
 |_::_,[],h,_=>by simp[Ih]at h
end
theorem PCall.arg{P:Program}{f:Nat}{args args':List AV}{r:AV}(hw:Ih args args')(h:PCall P f args' r):PCall P f args r:=λU vs hg hl hp hr=>h U vs hg hl (Mi _ _ hw hp) (MR _ _ _ hw hr)
theorem PCall.res{P:Program}{f:Nat}{args:List AV}{r r':AV}(hw:wk r r')(h:PCall P f args r):PCall P f args r':=λU vs hg hl hp hr=>(h U vs hg hl hp hr).mono λe w' ⟨v,h1,h2,h0,h3,h4⟩=>⟨v,h1,h2,h0,XP _ _ hw h3,IY _ _ _ hw h4⟩
theorem Jx{Q:AE->St->Prop}{e:AE}{s:St}(h:Q e s):Q e s:=h
theorem GJ{V:Ctx}{c:AC}{Q:AE->St->Prop}{s:St}(h:As V c Q s):As V c Q s:=h
theorem AcK{P:Program}{S:Tab}{nt hb:Nat}:(Ctx.fn P S nt hb).S=S:=rfl
theorem AcL{P:Program}{S:Tab}{nt l:Nat}:(Ctx.rd P S nt l).S=S:=rfl
theorem AcM{P:Program}{F:Fence}{S:Tab}{nt hb:Nat}{β:Int->Cf->Prop}{hnt:nt<=gs}{evo:∀{k:Int} {U σ':Cf},β k U->Evo U σ'->β k σ'}:(Ctx.it P F S nt hb β hnt evo).S=S:=rfl
theorem xK{S:Tab}{rid i:Nat}{d:Option Nat}{post:List AOp}{e1:Au}{Q:AE->St->Prop}{rvs:List RV}{e:Au}{h:Hp}{c:Nat}{vc:Prop}{xs:List AV}{vc2:Prop}{e2:Au}{h2:Hp}(h1:Gq e h rvs=some (vc,xs))(hv:vc)(hx:Bm S (c+1) (100*rid+(i+1)) post (Ca d (one xs) e1) h=some (vc2,e2,h2))(hv2:vc2)(hQ:Q .n ⟨e2,h2,c+1⟩):BJ rvs (Bv S rid i d post e1 Q) .n ⟨e,h,c⟩:=⟨vc,xs,h1,hv,vc2,e2,h2,hx,hv2,hQ⟩
theorem xL{S:Tab}{rid i:Nat}{d:Option Nat}{post:List AOp}{e1:Au}{Q:AE->St->Prop}{rvs:List RV}{e:Au}{h:Hp}{c:Nat}{vc:Prop}{xs:List AV}{vc2:Prop}{e2:Au}{h2:Hp}(h1:Gq e h rvs=some (vc,xs))(hv:vc)(hx:Bm S (c+1) (100*rid+(i+1)) post (Ca d (one xs) e1) h=some (vc2,e2,h2))(hv2:vc2)(hQ:Q .n ⟨e2,h2,c+1⟩):BJ rvs (Bv S rid i d post e1 Q) .r ⟨e,h,c⟩:=⟨vc,xs,h1,hv,vc2,e2,h2,hx,hv2,hQ⟩
theorem DO{P:Program}{S:Tab}{nt hb:Nat}(hS:TabOK P S)(i:Nat){rid:Nat}{ops post:List AOp}{d:Option Nat}{g:Option (Nat×Bool)}{k:AK}{Q:AE->St->Prop}{e e1:Au}{h h1:Hp}{c:Nat}{vc:Prop}{f:Nat}{args:List AV}{fn:Func}{ac:AC}{rvs:List RV}{ntf:Nat}(hf:P.funcs[f]? =some fn)(hcf:E0 P fn=some (ac,rvs))(hnt:fn.ntmps=ntf)(hok:FU P f)(hyo:ops[i]? =some ⟨d,g,k⟩)(hpost:ops.drop (i+1)=post)(hex:Bm S (c+1) (100*rid) (ops.take i) e h=some (vc,e1,h1))(hvc:vc)(hg:Fx e1 g=some true)(hca:Hz e1 k=some (f,args))(hn:args.length<=ntf)(hbody:∀hb,As (Ctx.fn P S ntf hb) ac (BJ rvs (Bv S rid i d post e1 Q)) ⟨CK 0 args,h1,c+1⟩):As (Ctx.fn P S nt hb) (.reg rid ops) Q ⟨e,h,c⟩:=by subst hpost;exact XN (Ctx.fn_ok hS) i hf hcf hnt hok hyo hex hvc hg hca hn hbody
theorem Og{P:Program}{S:Tab}{nt hb:Nat}{β:Int->Cf->Prop}{hnt:nt<=gs}{evo:∀{k:Int} {U σ':Cf},β k U->Evo U σ'->β k σ'}{l:Nat}{xs:List (List AV)}(hS:TabOK P S)(hR:Rng P Fence.wide l hb xs β)(i:Nat){rid:Nat}{ops post:List AOp}{d:Option Nat}{g:Option (Nat×Bool)}{Q:AE->St->Prop}{e e1:Au}{h h1:Hp}{c:Nat}{vc:Prop}{x:Opd}{as:List Opd}{k:Nat}{args:List AV}{vt vf:Prop}{et ef:Au}{ht hf:Hp}(hyo:ops[i]? =some ⟨d,g,.cv x as⟩)(hpost:ops.drop (i+1)=post)(hex:Bm S (c+1) (100*rid) (ops.take i) e h=some (vc,e1,h1))(hvc:vc)(hg:Fx e1 g=some true)(hx:Aw true (Av e1 x)=.clo (.yield l) [] [])(hgh:lk e gs=CL k)(hargs:as.map (λx=>Aw true (Av e1 x))=args)(hxs:xs[k]? =some args)(hxT:Bm S (c+1) (100*rid+(i+1)) post (Ca d (.v (.bool true)) ((gs,CL (k+1))::e1)) h1=some (vt,et,ht))(hvT:vt)(hQT:Q .n ⟨et,ht,c+1⟩)(hxF:Bm S (c+1) (100*rid+(i+1)) post (Ca d (.v (.bool false)) ((gs,CL (-1))::e1)) h1=some (vf,ef,hf))(hvF:vf)(hQF:Q .n ⟨ef,hf,c+1⟩):As (Ctx.it P Fence.wide S nt hb β hnt evo) (.reg rid ops) Q ⟨e,h,c⟩:=by
 subst hpost;refine bO hS hR i hyo rfl hex hvc hg hx hgh hargs hxs λb=>?_
 cases b with
 |true=>exact⟨vt,et,ht,hxT,hvT,hQT⟩
 |false=>exact⟨vf,ef,hf,hxF,hvF,hQF⟩
theorem Vw{V:Ctx}(p:Prop)[Decidable p]{b:Bool}{cc:Opd}{x y:AC}{Q:AE->St->Prop}{e:Au}{h:Hp}{c:Nat}(hb:Aw true (Av e cc)=.v (.bool b))(hp:b=decide p)(ht:p->As V x Q ⟨e,h,c⟩)(hf:¬p->As V y Q ⟨e,h,c⟩):As V (.cond cc x y) Q ⟨e,h,c⟩:=by subst hp;exact wR hb ht hf
theorem Ctx.it_ok{P:Program}{S:Tab}{nt hb:Nat}{β:Int->Cf->Prop}{hnt:nt<=gs}{evo:∀{k:Int} {U σ':Cf},β k U->Evo U σ'->β k σ'}(h:TabOK P S):(Ctx.it P Fence.wide S nt hb β hnt evo).OK:=⟨h,.inl (Eq.refl _)⟩
abbrev Pi(V:Ctx)(l:Nat)(xs:List (List AV)):Prop:=∀(i:Nat){rid:Nat}{ops post:List AOp}{d:Option Nat}{g:Option (Nat×Bool)}{Q:AE->St->Prop}{e e1:Au}{h h1:Hp}{c:Nat}{vc:Prop}{x:Opd}{as:List Opd}{k:Nat}{args:List AV}{vt vf:Prop}{et ef:Au}{ht hf:Hp}(_:ops[i]? =some ⟨d,g,.cv x as⟩)(_:ops.drop (i+1)=post)(_:Bm V.S (c+1) (100*rid) (ops.take i) e h=some (vc,e1,h1))(_:vc)(_:Fx e1 g=some true)(_:Aw true (Av e1 x)=.clo (.yield l) [] [])(_:lk e gs=CL k)(_:as.map (λx=>Aw true (Av e1 x))=args)(_:xs[k]? =some args)(_:Bm V.S (c+1) (100*rid+(i+1)) post (Ca d (.v (.bool true)) ((gs,CL (k+1))::e1)) h1=some (vt,et,ht))(_:vt)(_:Q .n ⟨et,ht,c+1⟩)(_:Bm V.S (c+1) (100*rid+(i+1)) post (Ca d (.v (.bool false)) ((gs,CL (-1))::e1)) h1=some (vf,ef,hf))(_:vf)(_:Q .n ⟨ef,hf,c+1⟩),As V (.reg rid ops) Q ⟨e,h,c⟩
theorem GK{V:Ctx}{b:AC}{Q:AE->St->Prop}{s:St}(h:As V b Q s):Cv V b Q .n s:=h
theorem Vx{X:Type}{e e':Au}{I:X->Hp×Nat}{Pre:X->Prop}{K:X->Nat}{j:Nat}{Q:AE->St->Prop}{h:Hp}{c:Nat}(x:X)(h1:Pre x)(h2:K x=j)(h3:Le ⟨e,(I x).1,(I x).2⟩ ⟨e,h,c⟩):Cl e I Pre K j Q .n ⟨e',h,c⟩:=⟨x,h1,h2,h3⟩
theorem GL{X:Type}{e e':Au}{I:X->Hp×Nat}{Pre:X->Prop}{K:X->Nat}{j i:Nat}{Q:AE->St->Prop}{h:Hp}{c:Nat}(hq:Q (.x i) ⟨e,h,c⟩):Cl e I Pre K j Q (.x i) ⟨e',h,c⟩:=hq
theorem GM{X:Type}{e e':Au}{I:X->Hp×Nat}{Pre:X->Prop}{K:X->Nat}{j:Nat}{Q:AE->St->Prop}{h:Hp}{c:Nat}(hq:Q .r ⟨e,h,c⟩):Cl e I Pre K j Q .r ⟨e',h,c⟩:=hq
theorem Le.of{e e':Au}{h h':Hp}{c c':Nat}(h1:TD e' e)(h2:TE h' h)(h3:c<=c'):Le ⟨e',h',c'⟩ ⟨e,h,c⟩:=⟨h1,h2,h3⟩
theorem nY{n:Nat}{s:St}(h:lk s.env gs=CL n):Dx n .n s:=.inl h
theorem Abd{n:Nat}{s:St}(h:lk s.env gs=CL n):Dx n .r s:=.inl h
theorem R4{n:Nat}{s:St}(h:lk s.env gs=CL (-1)):Dx n .r s:=.inr h
section
variable{V:Ctx}
def Cf.claim(U:Cf)(n:Nm)(base:Option Addr):Cf:={U with ra:=λm=>if m=n then(base,0)else U.ra m,ln:=λm=>if m=n then some 0 else U.ln m,al:=λm=>U.al m\/m=n}
theorem Evo.claim{U:Cf}{n:Nm}(hn:¬U.al n)(base:Option Addr):Evo U (U.claim n base) where
 box m hm:=⟨.inl hm,rfl⟩
 arr m hm l hl:=by
  have:¬m=n:=by rintro rfl;exact hn hm
  simp only[Cf.claim,eW this]at hl⊢;exact⟨l,hl,fA _,λ_=>trivial⟩
 fro b o h h':=⟨h,h'⟩
 out:=rfl
 sz:=fA _
 io:=SameO.refl _
theorem Rep.claim{U:Cf}{n:Nm}{base:Option Addr}:Rep (U.claim n base) (.own n 0) (.slice base 0 0):=by simp only[Rep];refine⟨.inr rfl,rfl,λl hl=>?_⟩;simp only[Cf.claim,if_true,yE]at hl⊢;subst hl;exact⟨fA _,λ_=>trivial⟩
theorem HInv.claim{U:Cf}{hp:Hp}(h:HInv U hp){n:Nm}(hn:¬U.al n)(base:Option Addr){z:Nat}(hz:0<z)(d:List AV):HInv (U.claim n base) ((.a n,.sl z true [] d)::hp) where
 ln m:=by
  simp only[Cf.claim,lenOf,hl];by_cases hm:m=n
  ·subst hm;simp
  ·rw[eW hm,eW (by intro e;cases e;exact hm rfl)];exact h.ln m
 cel m j c hc:=by simp only[hl]at hc;rw[eW (by intro e;cases e)]at hc;have k:=h.cel m j c hc;exact k.keep (Evo.claim hn base) k.2.1 rfl
 arr m sz live rows d' hc:=by
  simp only[hl]at hc;by_cases hm:m=n
  ·subst hm;simp at hc;obtain⟨rfl,rfl,rfl,rfl⟩:=hc;exact⟨.inr rfl,hz,by simp,.inl ⟨base,by simp[Cf.claim],rfl⟩⟩
  ·rw[eW (by intro e;cases e;exact hm rfl)]at hc;exact(h.arr m sz live rows d' hc).keep (Evo.claim hn base) (by simp[Cf.claim,hm]) λ_ _ _ _ _ _ hM=>⟨hM,rfl⟩
 inj p q b hp' hq':=by
  have key:∀p b,Owns (U.claim n base) ((.a n,.sl z true [] d)::hp) p b->Owns U hp p b:=by
   rintro p b (⟨g1,g2,j,c,g3⟩|⟨g1,⟨sz,rows,d',g2⟩,o,cap,g3,g4⟩)
   ·simp only[hl]at g3;rw[eW (by intro e;cases e)]at g3;exact .inl ⟨g1,g2,j,c,g3⟩
   ·by_cases hm:p.2=n
    ·simp[Cf.claim,hm]at g3;omega
    ·simp only[hl]at g2;rw[eW (by intro e;cases e;exact hm rfl)]at g2;simp only[Cf.claim,eW hm]at g3;exact .inr ⟨g1,⟨sz,rows,d',g2⟩,o,cap,g3,g4⟩
  exact h.inj p q b (key p b hp') (key q b hq')
 lt:=h.lt
 ou:=h.ou
 dis:=h.dis
theorem TJ{U:Cf}{z:Nat}{d:List AV}{v:Value}(h:Rep U (.sl z true [] d) v):∃base,v=.slice base 0 0:=by simp only[Rep]at h;obtain⟨base,cap,h1,_,h3,_⟩:=h;have:=h3 trivial;simp at this;subst this;exact⟨base,h1⟩
theorem Df(kn t z:Nat)(zs:List AV){x:AC}{Q:AE->St->Prop}{e:Au}{h:Hp}{c z0:Nat}{d:List AV}(ht:t<V.nt)(hz:0<z)(he:lk e t=.sl z0 true [] d)(hQ:As V x Q ⟨(t,.own (kn,c+1) 0)::e,(.a (kn,c+1),.sl z true [] zs)::h,c+1⟩):As V x Q ⟨e,h,c⟩:=by
 intro code hc U a hA;have hr:=hA.1.t t;rw[he]at hr;obtain⟨base,hv⟩:=TJ hr;have hn:¬U.al (kn,c+1):=λhm=>by have:=hA.2.1 _ hm;simp at this;omega
 have ev:=Evo.claim hn base;refine wpIn_mono (hQ code hc (U.claim (kn,c+1) base) a ⟨⟨hA.1.h.claim hn base hz zs,λt'=>?_,hA.1.sz,(hA.1.df.mono ev).un (.inr (N3 ht))⟩,λm hm=>?_,V.g hA.2.2 ev λt' ht'=>?_⟩) λe a w k=>k.mono (V.ofE ev)
 ·simp only[lk];by_cases e:t=t'
  ·subst e;rw[eX rfl,hv];exact Rep.claim
  ·rw[eW e];exact(hA.1.t t').mono ev
 ·rcases hm with hm|rfl
  ·have:=hA.2.1 m hm;simp at this⊢;omega
  ·simp
 ·right;simp only[lk];rw[eW (by omega)]
theorem Dy(kn:Nat)(m:Nm)(j z:Nat)(zs:List AV){x:AC}{Q:AE->St->Prop}{e:Au}{h:Hp}{c z0:Nat}{d:List AV}(hz:0<z)(he:hl h (.c m j)=some (.sl z0 true [] d))(hQ:As V x Q ⟨e,(.c m j,.own (kn,c+1) 0)::(.a (kn,c+1),.sl z true [] zs)::h,c+1⟩):As V x Q ⟨e,h,c⟩:=by
 intro code hc U a hA;obtain⟨k1,k2,cs,T,v,k3,k4,k5,k6⟩:=(hA.1.h.cel m j _ he).cells rfl;obtain⟨base,rfl⟩:=TJ k6;have hn:¬U.al (kn,c+1):=λhm=>by have:=hA.2.1 _ hm;simp at this;omega
 have ev:=Evo.claim hn base;have hI:=hA.1.h.claim hn base hz zs;refine wpIn_mono (hQ code hc (U.claim (kn,c+1) base) a ⟨⟨⟨λn'=>?_,λn' j' c' hc'=>?_,λn' sz live rows d' hc'=>?_,λp q b hp hq=>?_,hI.lt,hI.ou,hI.dis⟩,λt'=>(hA.1.t t').mono ev,hA.1.sz,hA.1.df.mono ev⟩,λm hm=>?_,V.g hA.2.2 ev λt' ht'=>.inr rfl⟩) λe a w k=>k.mono (V.ofE ev)
 ·have:=hI.ln n';simpa only[lenOf,hl,eW (show¬Loc.c m j=Loc.a n' by intro e;cases e)]using this
 ·simp only[hl]at hc';by_cases e:Loc.c m j=Loc.c n' j'
  ·rw[eX e]at hc';cases e
   simp at hc';subst hc';exact⟨.inl k1,k2,.inl ⟨cs,T,_,k3,k4,k5,Rep.claim⟩⟩
  ·rw[eW e]at hc';exact hI.cel n' j' c' hc'
 ·simp only[hl,eW (show¬Loc.c m j=Loc.a n' by intro e;cases e)]at hc';exact hI.arr n' sz live rows d' hc'
 ·have key:∀p b,Owns (U.claim (kn,c+1) base) ((.c m j,.own (kn,c+1) 0)::(.a (kn,c+1),.sl z true [] zs)::h) p b->Owns (U.claim (kn,c+1) base) ((.a (kn,c+1),.sl z true [] zs)::h) p b:=by
   rintro p b (⟨g1,g2,j',c',g3⟩|⟨g1,⟨sz,rows,d',g2⟩,o,cap,g3,g4⟩)
   ·simp only[hl]at g3;by_cases e:Loc.c m j=Loc.c p.2 j'
    ·cases e
     refine .inl ⟨g1,g2,j,.sl z0 true [] d,?_⟩;simp only[hl];rw[eW (by intro e;cases e)];exact he
    ·rw[eW e]at g3;exact .inl ⟨g1,g2,j',c',g3⟩
   ·simp only[hl]at g2;rw[eW (by intro e;cases e)]at g2;exact .inr ⟨g1,⟨sz,rows,d',g2⟩,o,cap,g3,g4⟩
  exact hI.inj p q b (key p b hp) (key q b hq)
 ·rcases hm with hm|rfl
  ·have:=hA.2.1 _ hm;simp at this⊢;omega
  ·simp
end
theorem Abg(x:Value):isM (.v x)=false:=rfl
theorem xM(a:Nat)(b:Bool)(c:List (List AV))(d:List AV):isM (.sl a b c d)=false:=rfl
theorem xN(a:List AV)(b:Nat):isM (.ro a b)=false:=rfl
theorem sN(a:List AV):isM (.agg a)=false:=rfl
theorem sO(a:List AV):isM (.tup a)=false:=rfl
theorem sP(f:Fn)(a b:List AV):isM (.clo f a b)=false:=rfl
theorem sQ(n:Nm)(o:Nat):isM (.box n o)=false:=rfl
theorem sR(n:Nm)(o:Nat):isM (.own n o)=false:=rfl
theorem kQ(n:Nm)(a b c d:Nat):isM (.elem n a b c d)=false:=rfl
theorem xO(n:Nm):isM (.mp n)=false:=rfl
theorem xP:isM .un=false:=rfl
theorem bT(b:Bool)(x:AV):isM (.gd b x)=true:=rfl
theorem kR:L2 []=true:=rfl
theorem bU(k x:AV)(r:List (List AV)):L2 ([k,x]::r)=((kI k).isSome&&L2 r):=rfl
end Go.Proofs.YtciphecegkfaiaaGreat.Am
namespace Go.Proofs.YtciphecegkfaiaaGreat
attribute [go_sem] Am.Bm Am.N7 Am.N8 Am.SW Am.H6 Am.SV Am.ht Am.hw Am.MT Am.Ed Am.Ge Am.HX Am.Y8 Am.Y9 Am.IZ Am.QP List.getD_cons_zero List.getD_cons_succ List.any_cons List.any_nil List.flatMap_cons List.flatMap_nil Am.GU Am.Abb Am.Abc Am.JM Am.AB Am.OW Am.YR Am.LS Am.KZ Am.Jw Am.xA Am.xB Am.xC Am.xD Am.xH Am.xE Am.sK Am.xF Am.xG Am.R3 Am.sL Am.xI Am.xJ Am.R2 Am.XO Am.P1 Am.P2 Am.Fs Am.H1 Am.iK Am.vQ Am.vR Am.JL Am.JA Am.BB Am.MI Am.Aa3 Am.MF Am.UU Am.Lx Am.PP Am.SN Am.Rr Am.OX Am.Rs Am.OY Am.L0 Am.PQ Am.MJ Am.SO Am.Rt Am.Ru Am.UW Am.J8 Am.PO Am.MH Am.OV Am.nR Am.UT Am.PL Am.YQ Am.YO Am.nP Am.DD Am.Xm Am.nQ Am.LD Am.PN Am.G5 Am.cut Am.Gx Am.Abg Am.xM Am.xN Am.sN Am.sO Am.sP Am.sQ Am.sR Am.kQ Am.xO Am.xP Am.bT Am.HM Am.Uw Am.kI Am.J7 Am.MK Am.NO Am.kR Am.bU Am.Hs Am.Jd Am.F9 Am.Vs Am.Lw Am.DM Am.GC Am.vr Am.NN Am.res Am.Fd Am.NM Am.Hj Am.EY Am.QJ Am.MG Am.CU Am.FT Am.Cu Am.K9 Am.Gc Am.GQ Am.Il Am.Cw Am.AS Am.frz Am.Ca Am.lk Am.hl Am.Aw Am.Av Am.Fx Am.gb Am.AV.cells Am.Bs Am.Tr Am.CK Am.iH Am.iI Am.Z6 Am.Z7 Am.UR Am.Ul Am.Y7 Am.Gq Am.one Am.wk Am.Ih Am.TD Am.TE Go.undef Am.gs Am.AcK Am.AcL Am.AcM Am.Kl Am.sH Am.sI Am.wU Am.wV Am.sJ Am.wW Am.wX Am.wY Am.wZ Am.Jz Am.Rp Am.Rq Am.Ro Am.US Am.YP Am.Hz List.take_succ_cons List.take_zero List.drop_succ_cons List.drop_zero List.length_map Option.map_some Option.map_none Option.getD_some Option.getD_none List.map_cons List.map_nil List.length_cons List.length_nil List.append_nil List.nil_append List.cons_append List.isEmpty_cons List.isEmpty_nil List.replicate_succ List.replicate_zero List.all_cons List.all_nil List.set_cons_zero List.set_cons_succ List.getElem?_cons_zero List.getElem?_cons_succ Array.toList_map true_or or_true or_false false_or Am.Loc.c.injEq Am.Loc.a.injEq Prod.mk.injEq and_true true_and and_false false_and if_true if_false ite_true ite_false cond_true cond_false Bool.and_true Bool.true_and Bool.and_false Bool.false_and Bool.not_true Bool.not_false Bool.or_true Bool.or_false Bool.true_or Bool.false_or Bool.cond_false_right Bool.cond_true_left beq_self_eq_true List.length_append Int.toNat_natCast Int.cast_ofNat_Int Nat.zero_add Nat.add_zero eq_self implies_true true_implies false_implies Bool.false_eq_true Bool.true_eq_false decide_true decide_false not_true_eq_false not_false_eq_true
end Go.Proofs.YtciphecegkfaiaaGreat
namespace Go.Proofs.YtciphecegkfaiaaGreat.Am
open Go
section
variable{V:Ctx}
theorem FP(hΓ:V.OK){rid:Nat}{ops:List AOp}{b:AC}{Q:AE->St->Prop}{e e':Au}{h h':Hp}{c:Nat}{vc:Prop}(hex:Bm V.S (c+1) (100*rid) ops e h=some (vc,e',h'))(_:True)(hvc:vc)(hQ:As V b Q ⟨e',h',c+1⟩):As V (.seq (.reg rid ops) b) Q ⟨e,h,c⟩:=wQ hΓ hex hvc hQ
theorem GN(hΓ:V.OK){rid:Nat}{ops:List AOp}{Q:AE->St->Prop}{e e':Au}{h h':Hp}{c:Nat}{vc:Prop}(hex:Bm V.S (c+1) (100*rid) ops e h=some (vc,e',h'))(_:True)(hvc:vc)(hQ:Q .n ⟨e',h',c+1⟩):As V (.reg rid ops) Q ⟨e,h,c⟩:=Aa9 hΓ hex hvc hQ
end
theorem FQ(_:True){S:Tab}{rid i:Nat}{d:Option Nat}{post:List AOp}{e1:Au}{Q:AE->St->Prop}{rvs:List RV}{e:Au}{h:Hp}{c:Nat}{vc:Prop}{xs:List AV}{vc2:Prop}{e2:Au}{h2:Hp}(h1:Gq e h rvs=some (vc,xs))(hx:Bm S (c+1) (100*rid+(i+1)) post (Ca d (one xs) e1) h=some (vc2,e2,h2))(hv:vc)(hv2:vc2)(hQ:Q .n ⟨e2,h2,c+1⟩):BJ rvs (Bv S rid i d post e1 Q) .n ⟨e,h,c⟩:=xK h1 hv hx hv2 hQ
theorem FR(_:True){S:Tab}{rid i:Nat}{d:Option Nat}{post:List AOp}{e1:Au}{Q:AE->St->Prop}{rvs:List RV}{e:Au}{h:Hp}{c:Nat}{vc:Prop}{xs:List AV}{vc2:Prop}{e2:Au}{h2:Hp}(h1:Gq e h rvs=some (vc,xs))(hx:Bm S (c+1) (100*rid+(i+1)) post (Ca d (one xs) e1) h=some (vc2,e2,h2))(hv:vc)(hv2:vc2)(hQ:Q .n ⟨e2,h2,c+1⟩):BJ rvs (Bv S rid i d post e1 Q) .r ⟨e,h,c⟩:=xL h1 hv hx hv2 hQ
end Go.Proofs.YtciphecegkfaiaaGreat.Am
namespace Go.Proofs.YtciphecegkfaiaaGreat.Am
open Go
def gd{E:Type}(p:Prop)[Decidable p](k:Option E):Option E:=if p then k else none
theorem Jl{E:Type}{p:Prop}[Decidable p]{k:Option E}{r:E}:gd p k=some r↔p/\k=some r:=by unfold gd;by_cases h:p<;>simp[h]
theorem Aa{E:Type}{p:Prop}[Decidable p]{k:Option E}(h:p):gd p k=k:=eX h
theorem xR{E:Type}{b:Bool}{x y z:E}(hb:b=true)(h:(bif b then x else y)=z):x=z:=by subst hb;exact h
theorem xS{E:Type}{b:Bool}{x y z:E}(hb:b=false)(h:(bif b then x else y)=z):y=z:=by subst hb;exact h
abbrev Ab(n:Int):Prop:= -9223372036854775808<=n/\n<=9223372036854775807
instance(n:Int):Decidable (Ab n):=inferInstanceAs (Decidable (_/\_))
def AA{E:Type}(l:List E)(i:Int):Option E:=if 0<=i then l[i.toNat]? else none
theorem JQ{E:Type}{l:List E}{i:Int}{x:E}(h:AA l i=some x):(0<=i/\i<l.length)/\∀d,l.getD i.toNat d=x:=by
 unfold AA at h;split at h
 ·rename_i h0;obtain⟨h1,h2⟩:=i5.1 h;refine⟨⟨h0,by omega⟩,λd=>?_⟩;rw[eT,h];rfl
 ·cases h
theorem xT{E:Type}{l:List E}{i:Int}{x:E}(h:AA l i=some x)(d:E):l.getD i.toNat d=x:=(JQ h).2 d
theorem Km{E:Type}{l:List E}{i:Int}(d:E)(h0:0<=i)(h1:i<l.length):AA l i=some (l.getD i.toNat d):=by unfold AA;rw[eX h0,eT,eV (by omega)];rfl
theorem C7{E:Type}{l:List E}{k:Nat}:AA l (k:Int)=l[k]? :=by unfold AA;rw[eX (by omega)];rfl
section
variable{V:Ctx}
theorem Zg{c:AC}{Q Q':AE->St->Prop}{s:St}(h:As V c Q s)(k:∀e s,Q e s->Q' e s\/∃s',Le s' s/\Q' e s'):As V c Q' s:=by
 intro code hc U a hA;refine wpIn_mono (h code hc U a hA) ?_;rintro e a' w' ⟨σ',s',e',h1,h2,h3,h4,h5⟩;rcases k _ _ h5 with h6|⟨s'',hl,hq⟩
 ·exact⟨σ',s',e',h1,h2,h3,h4,h6⟩
 ·obtain⟨σ'',g1,g2,g3⟩:=h3.le hl;exact⟨σ'',s'',e',g1.trans h1,V.tr h2 (V.ofE g2),g3,h4,hq⟩
def Zh{X:Type}(e0:AE)(I:X->St)(Pre:X->Prop)(K:AE->St->Prop)(e:AE)(s:St):Prop:=(e=e0/\∃x,Pre x/\Le (I x) s)\/(e≠e0/\K e s)
theorem bW{X:Type}{e0:AE}{I:X->St}{Pre:X->Prop}{K:AE->St->Prop}{s:St}(x:X)(h:Pre x)(hl:Le (I x) s):Zh e0 I Pre K e0 s:=.inl ⟨rfl,x,h,hl⟩
theorem Kn{X:Type}{e0 e:AE}{I:X->St}{Pre:X->Prop}{K:AE->St->Prop}{s:St}(h:e≠e0)(hK:K e s):Zh e0 I Pre K e s:=.inr ⟨h,hK⟩
theorem sS{X:Type}(I:X->St)(Pre:X->Prop)(e0:AE){K:AE->St->Prop}{c:AC}{s:St}(h1:As V c (Zh e0 I Pre K) s)(h2:∀x,Pre x->K e0 (I x)):As V c K s:=by
 refine Zg h1 λe s h=>?_
 rcases h with⟨rfl,x,hx,hl⟩|⟨_,h⟩
 ·exact .inr ⟨I x,hl,h2 x hx⟩
 ·exact .inl h
theorem xU{B B':Bool}{cc:Opd}{x y:AC}{Q:AE->St->Prop}{e:Au}{h:Hp}{c:Nat}(hb:Aw true (Av e cc)=.v (.bool B))(hB:B=B')(ht:B'=true->As V x Q ⟨e,h,c⟩)(hf:B'=false->As V y Q ⟨e,h,c⟩):As V (.cond cc x y) Q ⟨e,h,c⟩:=by subst hB;exact Mb hb ht hf
end
def kT(V:Ctx)(b:AC)(Q:AE->St->Prop):Nat->St->Prop|0,_=>False|m+1,s=>As V b (λe s'=>match e with|.n=>kT V b Q m s'|.x i=>Q (.x i) s'|.r=>Q .r s'|.p v=>Q (.p v) s') s
def SZ(V:Ctx)(b:AC)(Q:AE->St->Prop)(m:Nat):AE->St->Prop:=λe s'=>match e with|.n=>kT V b Q m s'|.x i=>Q (.x i) s'|.r=>Q .r s'|.p v=>Q (.p v) s'
section
variable{V:Ctx}
theorem Ko{b:AC}{Q:AE->St->Prop}{m:Nat}{s:St}(h:As V b (SZ V b Q m) s):SZ V b Q (m+1) .n s:=h
theorem Kp{b:AC}{Q:AE->St->Prop}{m i:Nat}{s:St}(h:Q (.x i) s):SZ V b Q m (.x i) s:=h
theorem Kq{b:AC}{Q:AE->St->Prop}{m:Nat}{s:St}(h:Q .r s):SZ V b Q m .r s:=h
theorem Fg(m:Nat){b:AC}{Q:AE->St->Prop}{s:St}(h:As V b (SZ V b Q m) s):As V (.loop b) Q s:=by
 intro code hc U a hA;cases code with
 |loop c=>
  simp only[cCode]at hc;cases hx:cCode V.P V.nt c with
  |none=>simp[hx]at hc
  |some x'=>
   simp[hx]at hc;subst hc;refine wpIn_loop_rounds (m+1) ?_;have key:∀(m:Nat)(s:St)(σ':Cf)(a':Act),kT V x' Q m s->At V σ' s a'->V.R U σ'->Code.roundsIn V.F 0 V.P c (lift V U Q) m a' σ'.w:=by
    intro m;induction m with
    |zero=>intro s σ' a' h;exact h.elim
    |succ m ih=>
     intro s σ' a' h hA' hR;rw[roundsIn_succ];refine wpIn_mono (h c hx σ' a' hA') ?_;rintro e a1 w1 ⟨Z,s',e',rfl,h2,h3,h4,h5⟩;cases e with
     |normal=>simp[AE.of]at h4;subst h4;exact ih s' Z a1 h5 h3 (V.tr hR h2)
     |exit j=>simp[AE.of]at h4;subst h4;exact⟨Z,s',_,rfl,V.tr hR h2,h3,rfl,h5⟩
     |ret=>simp[AE.of]at h4;subst h4;exact⟨Z,s',_,rfl,V.tr hR h2,h3,rfl,h5⟩
     |goto l=>simp[AE.of]at h4
     |panic c=>obtain⟨v,rfl,rfl⟩:=AE.of_panic h4;exact⟨Z,s',_,rfl,V.tr hR h2,h3,rfl,h5⟩
     |outgrown=>simp[AE.of]at h4
   exact key (m+1) s U a h hA (Ctx.rfl V U)
 |region id ops d=>simp only[cCode]at hc;obtain⟨_,_,⟨_,e⟩|⟨_,_,_,_,e⟩⟩:=Cz hc<;>cases e
 |seq x y=>simp only[cCode]at hc;split at hc<;>simp at hc
 |cond c x y=>simp only[cCode]at hc;split at hc<;>simp at hc
 |rangeFunc f ps x y=>simp only[cCode]at hc;split at hc<;>simp at hc
 |_=>simp[cCode]at hc
end
def Hg(n:Nm):Hp->Hp|[]=>[]|(.c m j,x)::r=>if m=n then Hg n r else(.c m j,x)::Hg n r|(.a m,x)::r=>(.a m,x)::Hg n r
theorem Kr{n m:Nm}(hm:m≠n)(j:Nat):∀h:Hp,hl (Hg n h) (.c m j)=hl h (.c m j)
 |[]=>rfl
 |(.c k i,x)::r=>by
  simp only[Hg];split
  ·rename_i e;subst e;simp only[hl];rw[eW (by intro e;cases e;exact hm rfl)];exact Kr hm j r
  ·simp only[hl];rw[Kr hm j r]
 |(.a k,x)::r=>by simp only[Hg,hl];rw[Kr hm j r]
theorem Ks{n:Nm}(j:Nat):∀h:Hp,hl (Hg n h) (.c n j)=none
 |[]=>rfl
 |(.c k i,x)::r=>by
  simp only[Hg];split
  ·exact Ks j r
  ·rename_i hk;simp only[hl];rw[eW (by intro e;cases e;exact hk rfl)];exact Ks j r
 |(.a k,x)::r=>by simp only[Hg,hl];rw[eW (by intro e;cases e)];exact Ks j r
theorem LM{n m:Nm}:∀h:Hp,hl (Hg n h) (.a m)=hl h (.a m)
 |[]=>rfl
 |(.c k i,x)::r=>by
  simp only[Hg];split
  ·simp only[hl];rw[eW (by intro e;cases e)];exact LM r
  ·simp only[hl];rw[LM r]
 |(.a k,x)::r=>by simp only[Hg,hl];rw[LM r]
theorem VB{h:Hp}{n:Nm}:∀{k o:Nat}{cs:List AV},Gx h n o k=some cs->cs.length=k/\∀j,j<k->∃c,cs[j]? =some c/\hl h (.c n (o+j))=some c
 |0,o,cs,hc=>by simp[Gx]at hc;subst hc;exact⟨rfl,λj hj=>by omega⟩
 |k+1,o,cs,hc=>by
  simp only[Gx]at hc;split at hc
  ·rename_i c h0;cases hm:isM c with
   |true=>rw[hm]at hc;cases hc
   |false=>
   rw[hm,tN]at hc;cases hr:Gx h n (o+1) k with
   |none=>simp[hr]at hc
   |some ds=>
    simp[hr]at hc;subst hc;obtain⟨g1,g2⟩:=VB hr;refine⟨by simp[g1],λj hj=>?_⟩;cases j with
    |zero=>exact⟨c,rfl,h0⟩
    |succ j=>obtain⟨c',e1,e2⟩:=g2 j (by omega);exact⟨c',by simpa using e1,by rw[show o+(j+1)=o+1+j by omega];exact e2⟩
  ·simp at hc
def Cf.rebox(U:Cf)(n m:Nm):Cf:={U with rb:=λk=>if k=m then U.rb n else U.rb k,al:=λk=>U.al k\/k=m,ln:=λk=>if k=m then none else U.ln k}
theorem Evo.rebox{U:Cf}{n m:Nm}(hm:¬U.al m):Evo U (U.rebox n m) where
 box k hk:=by
  have:¬k=m:=by rintro rfl;exact hm hk
  exact⟨.inl hk,by simp[Cf.rebox,this]⟩
 arr k hk l hl:=by
  have:¬k=m:=by rintro rfl;exact hm hk
  simp only[Cf.rebox,eW this]at hl⊢;exact⟨l,hl,fA _,λ_=>trivial⟩
 fro b o h h':=⟨h,h'⟩
 out:=rfl
 sz:=fA _
 io:=SameO.refl _
theorem HInv.rebox{U:Cf}{hp:Hp}(h:HInv U hp){n m:Nm}(hm:¬U.al m){k:Nat}(hk:0<k){cs:List AV}(hc:Gx hp n 0 k=some cs):HInv (U.rebox n m) (DM m 0 cs++Hg n hp):=by
 obtain⟨g1,g2⟩:=VB hc;have ev:=Evo.rebox (n:=n) hm;have hcell:∀(p:Nm)(j:Nat)(c:AV),hl (DM m 0 cs++Hg n hp) (.c p j)=some c->(p=m/\hl hp (.c n j)=some c)\/(p≠m/\p≠n/\hl hp (.c p j)=some c):=by
  intro p j c hh;rw[JB,LU]at hh;by_cases hp':p=m
  ·subst hp';simp only[t7,and_true,if_true,TU]at hh;by_cases hj:j<k
   ·obtain⟨c',e1,e2⟩:=g2 j hj;rw[e1]at hh;simp at hh;subst hh;exact .inl ⟨rfl,by simpa using e2⟩
   ·rw[List.getElem?_eq_none (by omega)]at hh;simp only[Option.none_or]at hh;by_cases hpn:p=n
    ·subst hpn;rw[Ks]at hh;cases hh
    ·rw[Kr hpn]at hh;exact absurd (h.cel p j c hh).1 hm
  ·rw[eW (by intro e;exact hp' e.1)]at hh;simp only[Option.none_or]at hh;by_cases hpn:p=n
   ·subst hpn;rw[Ks]at hh;cases hh
   ·rw[Kr hpn]at hh;exact .inr ⟨hp',hpn,hh⟩
 have harr:∀p,hl (DM m 0 cs++Hg n hp) (.a p)=hl hp (.a p):=by intro p;rw[JB,Ht,LM];rfl
 have hnm:∀sz live rows d,hl hp (.a m)≠some (.sl sz live rows d):=λsz live rows d e=>hm (h.arr m sz live rows d e).1
 refine⟨λp=>?_,λp j c hh=>?_,λp sz live rows d hh=>?_,λp q b hp' hq'=>?_,h.lt,h.ou,h.dis⟩
 ·have:=h.ln p;unfold lenOf at this⊢;rw[harr];by_cases e:p=m
  ·subst e;have:(U.rebox n p).ln p=none:=by simp[Cf.rebox]
   rw[this];cases hh:hl hp (.a p)with
   |none=>rfl
   |some y=>
    cases y with
    |sl sz live rows d=>exact absurd hh (hnm _ _ _ _)
    |_=>rfl
  ·simp only[Cf.rebox,eW e];exact this
 ·rcases hcell p j c hh with⟨rfl,e⟩|⟨e1,e2,e⟩
  ·obtain⟨c0,e0,e1⟩:=g2 0 hk;obtain⟨_,_,_,_,_,r3,_⟩:=(h.cel n 0 c0 (by simpa using e1)).cells (NQ hc 0 c0 e0);obtain⟨q1,q2,cs',T,x,q3,q4,q5,q6⟩:=(h.cel n j c e).cells2 r3;exact⟨.inr rfl,by simpa[Cf.rebox]using q2,.inl ⟨cs',T,x,by simpa[Cf.rebox]using q3,q4,q5,q6.mono ev⟩⟩
  ·have q:=h.cel p j c e;exact q.keep ev (by simpa[Cf.rebox]using q.2.1) rfl
 ·rw[harr]at hh;exact(h.arr p sz live rows d hh).keep ev rfl λ_ _ _ _ _ _ hM=>⟨hM,rfl⟩
 ·have key:∀p b,Owns (U.rebox n m) (DM m 0 cs++Hg n hp) p b->(p=(false,m)/\Owns U hp (false,n) b)\/(p≠(false,m)/\p≠(false,n)/\Owns U hp p b):=by
   rintro⟨f,p⟩ b (⟨h1,h2,j,c,h3⟩|⟨h1,⟨sz,rows,d,h2⟩,o,cap,h3,h4⟩)
   ·simp only at h1 h2 h3;subst h1;rcases hcell p j c h3 with⟨rfl,e⟩|⟨e1,e2,e⟩
    ·exact .inl ⟨rfl,.inl ⟨rfl,by simpa[Cf.rebox]using h2,j,c,e⟩⟩
    ·refine .inr ⟨by simp[e1],by simp[e2],.inl ⟨rfl,by simpa[Cf.rebox,e1]using h2,j,c,e⟩⟩
   ·simp only at h1 h2 h3;subst h1;rw[harr]at h2;exact .inr ⟨by simp,by simp,.inr ⟨rfl,⟨sz,rows,d,h2⟩,o,cap,by simpa[Cf.rebox]using h3,h4⟩⟩
  rcases key p b hp' with⟨rfl,a1⟩|⟨a0,a2,a1⟩<;>rcases key q b hq' with⟨rfl,b1⟩|⟨b0,b2,b1⟩
  ·rfl
  ·exact absurd (h.inj _ _ _ a1 b1).symm b2
  ·exact absurd (h.inj _ _ _ a1 b1) a2
  ·exact h.inj _ _ _ a1 b1
theorem QT{V:Ctx}(t:Nat){n:Nm}{l z:Nat}{live:Bool}{rows:List (List AV)}{d:List AV}{x:AC}{Q:AE->St->Prop}{e:Au}{h:Hp}{c:Nat}(ht:t<V.nt)(he:lk e t=.own n l)(hn:hl h (.a n)=some (.sl z live rows d))(hl':l=rows.length)(hQ:As V x Q ⟨(t,.sl z false rows d)::e,frz h [n]++h,c⟩)(hsn:HM n=false:=by rfl):As V x Q ⟨e,h,c⟩:=by
 intro code hcc U a hA;obtain⟨Z,ev,hI,hw,hal,hM,_,hown,_⟩:=hA.1.h.frz [n];have hr:=hA.1.t t;rw[he]at hr;have hv:Rep Z (.sl z false rows d) (a.tmps.getD t undef):=by have:=Nn hA.1.h ev hw [n] hown (.own n l) _ (by simp only[Hj,hn];exact hl') rfl (by simp[FT]) hr;simpa only[res,hn,hsn,tN]using this
 rw[<-hw];refine wpIn_mono (hQ code hcc Z a ⟨⟨hI,λt'=>?_,hA.1.sz,(hA.1.df.mono ev).un (.inr (N3 ht))⟩,λm hm=>hA.2.1 m (hal m hm),V.g hA.2.2 ev λt' ht'=>?_⟩) λe a w k=>k.mono (V.ofE ev)
 ·simp only[lk];by_cases e:t=t'
  ·subst e;rw[eX rfl];exact hv
  ·rw[eW e];exact(hA.1.t t').mono ev
 ·right;simp only[lk];rw[eW (by omega)]
theorem R5(r:List AV)(rs:List (List AV))(d:List AV):BG (r::rs) d 0=r:=rfl
theorem R6(r:List AV)(rs:List (List AV))(d:List AV)(n:Nat):BG (r::rs) d (n+1)=BG rs d n:=rfl
attribute [go_sem] Hg
section
variable{n:Nat}{ops:Array Oper}{B:List Nat}{rec:Nat->Rec}{env0:Au}{hp0:Hp}{ao:Nat->AOp}{bs cnt:Nat}{V:Ctx}
theorem UY{L:List Nat}:∀{n:Nat},(∀i,i<n->i∈L)->left L n=0
 |0,_=>rfl
 |n+1,h=>by simp only[left];rw[UY λi hi=>h i (by omega),eX (h n (by omega))]
theorem qY(hΓ:V.OK)(G:Good V.P (λi e h=>JM V.S (bs+i,cnt+1) e h (ao i)) V.nt n ops B rec env0 hp0 ao)(late:∀j o,n<=j->ops[j]? =some o->∀k,k<n->(B.getD j 0).testBit k=true){R:Nat}{Qx:Exit->Act->World->Prop}{σ0:Cf}(hK:∀(listed:Array Bool) (U:Cf) (a:Act),listed.size=ops.size->(∀i,i<ops.size->(listed.getD i true=true↔i<n)/\(listed.getD i false=true↔i<n))->Evo σ0 U->Inv U (Fv rec env0 (Er n)) (Hy rec hp0 (Er n)) a V.nt V.hb->(∀m,U.al m->m.2<=cnt\/∃i,i<n/\m=(bs+i,cnt+1))->wpAnyIn V.F 0 V.P .any ops Qx R listed a U.w):∀(fuel:Nat)(L:List Nat)(listed:Array Bool)(U:Cf)(a:Act),Done n B L->listed.size=ops.size->(∀i,i<ops.size->(listed.getD i true=true↔i∈L)/\(listed.getD i false=true↔i∈L))->left L n=fuel->Evo σ0 U->Inv U (Fv rec env0 L) (Hy rec hp0 L) a V.nt V.hb->(∀m,U.al m->m.2<=cnt\/∃i∈L,m=(bs+i,cnt+1))->wpAnyIn V.F 0 V.P .any ops Qx (fuel+R) listed a U.w:=by
 intro fuel;induction fuel with
 |zero=>
  intro L listed U a hD h1 h2 hf he hI hal;have hall:=Pf hf;obtain⟨e1,e2⟩:=G.fin hD hall;have hiff:∀i,i∈L↔i<n:=λi=>⟨hD.lt i,hall i⟩
  rw[s6];exact hK listed U a h1 (λi hi=>by rw[<-hiff i];exact h2 i hi) he (hI.congr e1 e2) λm hm=>(hal m hm).imp id λ⟨i,hi,e⟩=>⟨i,hD.lt i hi,e⟩
 |succ fuel ih=>
  intro L listed U a hD h1 h2 hf he hI hal;rw[show fuel+1+R=(fuel+R)+1 by omega];have hmiss:∃j,j<n/\j∉L/\∀i,i<j->i∈L:=by
   rcases Zc L n with h|h
   ·rw[UY h]at hf;omega
   ·exact h
  obtain⟨j0,j1,j2,j3⟩:=hmiss;refine⟨λhr=>?_,λi hi=>?_⟩
  ·exfalso;have hj:j0<ops.size:=u9 j1 G.sz;have ho:ops[j0]? =some ops[j0]:=fC hj;have:j0∈Region.ready .any ops listed:=(Ii h1 h2 (λi o ho=>(G.bef i o ho).1) j0).2 ⟨hj,j2,_,ho,λe he=>j3 e ((G.bef j0 _ ho).1 e he)⟩;rw[hr]at this;simp at this
  obtain⟨g1,g2,o,ho,g3⟩:=(Ii h1 h2 (λi o ho=>(G.bef i o ho).1) i).1 hi;have ha:=G.all hD ho g3;have hin:i<n:=by
   rcases VN i n with h|h
   ·exact h
   ·exact absurd (ha j0 (late i o h ho j0 j1)) j2
  obtain⟨vc,hvc,hex,hd,_⟩:=G.run i hin;rw[<-G.same hD hin g2 ha]at hex;refine Ki hΓ.S hΓ.F ho (G.op i o ho) hI ⟨?_,cnt+1,λm hm=>by rcases hal m hm with h|⟨k,_,rfl⟩;exact Nat.le_succ_of_le h;exact fA _⟩ hex hvc λa' σ' e' hI' hal'=>?_
  ·intro h;rcases hal _ h with h|⟨k,hk,e⟩
   ·exact absurd h (Nat.not_succ_le_self cnt)
   ·simp only[Wt,Nat.add_left_cancel_iff,and_true]at e;exact g2 (e▸hk)
  ·refine ih (i::L) _ σ' a' (hD.cons hin g2 ha) (by simp[h1]) (λk hk=>?_) ?_ (he.trans e') ?_ λm hm=>?_
   ·by_cases e:i=k
    ·subst e;have:i<listed.size:=by omega
     simp[Array.getD,this]
    ·have hk':k<listed.size:=by omega
     have q1:(listed.setIfInBounds i true).getD k true=listed.getD k true:=by simp[Array.getD,hk',Array.getElem_setIfInBounds,e]
     have q2:(listed.setIfInBounds i true).getD k false=listed.getD k false:=by simp[Array.getD,hk',Array.getElem_setIfInBounds,e]
     have q3:k∈i::L↔k∈L:=by rw[lJ];exact⟨λh=>h.resolve_left λh=>e h.symm,.inr⟩
     rw[q1,q2,q3];exact h2 k hk
   ·have:=Ph g2 hin;omega
   ·simp only[Fv,Hy,hd];exact hI'
   ·rcases hal' m hm with h|rfl
    ·rcases hal m h with h|⟨k,hk,e⟩
     ·exact .inl h
     ·exact .inr ⟨k,tO _ hk,e⟩
    ·exact .inr ⟨i,by simp,rfl⟩
theorem vS(bef:∀i o,ops[i]? =some o->(∀e∈DN o,e<i)/\B.getD i 0=IA B (DN o)):∀(i:Nat)(o:Oper),ops[i]? =some o->∀k,(B.getD i 0).testBit k=true->k<i:=by
 intro i;induction i using Nat.strongRecOn with
 |_ i ih=>
  intro o ho k hk;rw[(bef i o ho).2,IA,Me]at hk;simp only[Nat.zero_testBit,yF,false_or]at hk;obtain⟨e,h1,h2⟩:=hk;have hlt:=(bef i o ho).1 e h1;rcases h2 with rfl|h2
  ·exact hlt
  ·have:e<ops.size:=by have:=(eY.1 ho).1;omega
   have:=ih e hlt _ (fC this) k h2;omega
theorem Z9(bef:∀i o,ops[i]? =some o->(∀e∈DN o,e<i)/\B.getD i 0=IA B (DN o)):∀(j:Nat)(o:Oper),ops[j]? =some o->∀i k,(B.getD j 0).testBit i=true->(B.getD i 0).testBit k=true->(B.getD j 0).testBit k=true:=by
 intro j;induction j using Nat.strongRecOn with
 |_ j ih=>
  intro o ho i k hi hk;rw[(bef j o ho).2,IA,Me]at hi⊢;simp only[Nat.zero_testBit,yF,false_or]at hi⊢;obtain⟨e,h1,h2⟩:=hi;refine⟨e,h1,.inr ?_⟩;rcases h2 with rfl|h2
  ·exact hk
  ·have hlt:=(bef j o ho).1 e h1;have:e<ops.size:=by have:=(eY.1 ho).1;omega
   exact ih e hlt _ (fC this) i k h2 hk
theorem YT(bef:∀i o,ops[i]? =some o->(∀e∈DN o,e<i)/\B.getD i 0=IA B (DN o)){F:Fence}{P:Program}{Q:Exit->Act->World->Prop}(m:Nat)(late:∀j o,m<=j->ops[j]? =some o->∀k,k<j->(B.getD j 0).testBit k=true):∀(r j:Nat)(listed:Array Bool)(a:Act)(w:World),m<=j->j+r=ops.size->listed.size=ops.size->(∀i,i<ops.size->(listed.getD i true=true↔i<j)/\(listed.getD i false=true↔i<j))->wpOpsIn F 0 P ops Q (List.range' j r) a w->wpAnyIn F 0 P .any ops Q r listed a w:=by
 intro r;induction r with
 |zero=>
  intro j listed a w hm hj h1 h2 h;refine⟨?_,by simpa[wpOpsIn]using h⟩;cases hr:Region.ready .any ops listed with
  |nil=>rfl
  |cons x xs=>
   exfalso;have hx:x∈Region.ready .any ops listed:=by rw[hr];simp
   obtain⟨g1,g2,_⟩:=(Ii (L:=Er j) h1 (λi hi=>by rw[Gy];exact h2 i hi) (λi o ho=>(bef i o ho).1) x).1 hx;rw[Gy]at g2;omega
 |succ r ih=>
  intro j listed a w hm hj h1 h2 h;rw[L8,wpOpsIn_cons]at h;have hjs:j<ops.size:=by omega
  have hoj:ops[j]? =some ops[j]:=fC hjs;refine⟨λhr=>?_,λi hi=>?_⟩
  ·exfalso;have:j∈Region.ready .any ops listed:=(Ii (L:=Er j) h1 (λi hi=>by rw[Gy];exact h2 i hi) (λi o ho=>(bef i o ho).1) j).2 ⟨hjs,by rw[Gy];omega,_,hoj,λe he=>by rw[Gy];exact(bef j _ hoj).1 e he⟩;rw[hr]at this;simp at this
  ·obtain⟨g1,g2,o,ho,g3⟩:=(Ii (L:=Er j) h1 (λi hi=>by rw[Gy];exact h2 i hi) (λi o ho=>(bef i o ho).1) i).1 hi;rw[Gy]at g2;have hij:i=j:=by
    rcases VN j i with h|h
    ·exfalso;have hb:=late i o (by omega) ho j h;rw[(bef i o ho).2,IA,Me]at hb;simp only[Nat.zero_testBit,yF,false_or]at hb;obtain⟨e,q1,q2⟩:=hb;have q3:=Gy.1 (g3 e q1);rcases q2 with rfl|q2
     ·omega
     ·have:=vS bef e _ (fC (show e<ops.size by omega)) j q2;omega
    ·omega
   subst hij;refine wpOpIn_mono (λa w hw=>?_) h;refine ih (i+1) _ a w (by omega) (by omega) (by simp[h1]) (λk hk=>?_) hw;by_cases e:i=k
   ·subst e;have:i<listed.size:=by omega
    simp[Array.getD,this]
   ·have hk':k<listed.size:=by omega
    have q1:(listed.setIfInBounds i true).getD k true=listed.getD k true:=by simp[Array.getD,hk',Array.getElem_setIfInBounds,e]
    have q2:(listed.setIfInBounds i true).getD k false=listed.getD k false:=by simp[Array.getD,hk',Array.getElem_setIfInBounds,e]
    rw[q1,q2,(h2 k hk).1,(h2 k hk).2];omega
end
def aA(all:List AOp):Nat->Nat->Nat->Bool|0,_,_=>false|f+1,k,j=> !Ji (all.getD k default) (all.getD j default)||(List.range j).any λi=>decide (k<i)&& !Ji (all.getD i default) (all.getD j default)&&aA all f k i
def nS(all:List AOp)(m:Nat):Bool:=(List.range all.length).all λj=> !decide (m<=j)||(List.range j).all λk=>aA all 8 k j
theorem aB{ops:Array Oper}{B:List Nat}{all:List AOp}(bef:∀i o,ops[i]? =some o->(∀e∈DN o,e<i)/\B.getD i 0=IA B (DN o))(hsz:all.length=ops.size)(tm:∀k j,k<j->j<all.length->(B.getD j 0).testBit k=true\/Ji (all.getD k default) (all.getD j default)=true):∀(f k j:Nat),k<j->j<all.length->aA all f k j=true->(B.getD j 0).testBit k=true
 |0,k,j,_,_,h=>by simp[aA]at h
 |f+1,k,j,hk,hj,h=>by
  simp only[aA,tV,zT,List.any_eq_true,Sv,lP,eR]at h;rcases h with h|⟨i,hi,⟨h1,h2⟩,h3⟩
  ·rcases tm k j hk hj with g|g
   ·exact g
   ·rw[h]at g;cases g
  ·have h4:=aB bef hsz tm f k i h1 (by omega) h3;rcases tm i j hi hj with g|g
   ·exact Z9 bef j _ (fC (by omega)) i k g h4
   ·rw[h2]at g;cases g
section
variable{P:Program}{S:Tab}{nt hb:Nat}{β:Int->Cf->Prop}{hnt:nt<=gs}{evo:∀{k:Int} {U σ':Cf},β k U->Evo U σ'->β k σ'}{l:Nat}{xs:List (List AV)}
theorem YU(hS:TabOK P S)(hR:Rng P Fence.wide l hb xs β)(i:Nat){rid:Nat}{ops:List AOp}{yo:AOp}{Q:AE->St->Prop}{e e1:Au}{h h1:Hp}{c:Nat}{vc:Prop}{x:Opd}{as:List Opd}{k:Nat}{args:List AV}{recs:List Rec}(hyo:ops[i]? =some yo)(hk:yo.k=.cv x as)(hex:N7 S (c+1) (100*rid) (ops.take i) e h=some (vc,e1,h1,recs))(hlate:nS ops i=true)(hvc:vc)(hg:Fx e1 yo.g=some true)(hx:Aw true (Av e1 x)=.clo (.yield l) [] [])(hgh:lk e gs=CL k)(hargs:as.map (λx=>Aw true (Av e1 x))=args)(hxs:xs[k]? =some args)(hQ:∀b:Bool,∃(vc2:Prop) (e2:Au) (h2:Hp),Bm S (c+1) (100*rid+(i+1)) (ops.drop (i+1)) (Ca yo.d (.v (.bool b)) ((gs,CL (if b=true then k+1 else-1))::e1)) h1=some (vc2,e2,h2)/\vc2/\Q .n ⟨e2,h2,c+1⟩):As (Ctx.it P Fence.wide S nt hb β hnt evo) (.drw rid ops []) Q ⟨e,h,c⟩:=by
 intro code hc U a hA;have hΓ:(Ctx.it P Fence.wide S nt hb β hnt evo).OK:=⟨hS,.inl rfl⟩
 cases code with
 |region id ops' d=>
  simp only[cCode]at hc;obtain⟨l0,hx0,⟨_,e0⟩|⟨rfl,hf,un',hu,e0⟩⟩:=Cz hc
  ·cases e0
  ·cases e0
   refine wpIn_region_any hf ?_;obtain⟨B,b1,b2,hun⟩:=Od hu;obtain⟨c1,c2⟩:=E5 hx0;obtain⟨t1,t2⟩:=Em i hx0;obtain⟨_,t3⟩:=Em (i+1) hx0;have hi:i<ops.length:=(i5.1 hyo).1;have hsz:ops.length=ops'.size:=c1.trans (by simp);have hi':i<ops'.size:=by omega
   have ho:ops'[i]? =some ops'[i]:=fC hi';obtain⟨yo',g1,g2⟩:=c2 i ops'[i] (by simp);rw[hyo]at g1;cases g1
   obtain⟨cl,y,k1,k2,rfl,rfl,k3,k4⟩:=Vu g2 hk;have hop:∀i o,ops'[i]? =some o->∃x,ops[i]? =some x/\KA P nt ops' o=some x:=λi o ho=>c2 i o (by simpa using ho)
   have hao:∀i x,ops[i]? =some x->ops.getD i default=x:=λi x h=>by simp[eT,h]
   have get:∀i,i<ops.length->ops[i]? =some (ops.getD i default):=λi hi=>by simp[eT,hi]
   have hbef:∀i o,ops'[i]? =some o->(∀e∈DN o,e<i)/\B.getD i 0=IA B (DN o):=λi o ho=>by have:=LI b1 i o (by simpa using ho);simpa using this
   have htm:∀k j,k<j->j<ops.length->(B.getD j 0).testBit k=true\/Ji (ops.getD k default) (ops.getD j default)=true:=λk j hk hj=>by
    have h1:=Oa b2 j _ (get j hj);rw[s6]at h1;have h2:=LJ h1 k (ops.getD k default) (by rw[zQ,eX hk];exact get k (by omega))
    rwa [s6]at h2
   have late:∀j o,i<=j->ops'[j]? =some o->∀k,k<j->(B.getD j 0).testBit k=true:=λj o hj ho k hk=>by
    have hjl:j<ops.length:=by have:=(eY.1 ho).1;omega
    have h0:=Ft.1 hlate j (Sv.2 hjl);have h1:decide (i<=j)=true:=by simpa using hj
    rw[h1]at h0;have h2:=Ft.1 (by simpa using h0) k (Sv.2 hk);exact aB hbef hsz htm 8 k j hk hjl h2
   rw[Vt]at hex;have hrl:=Kk hex;have hlt:(ops.take i).length=i:=by simp;omega
   have hsp:=LL (rec:=λi=>recs.getD i default) (env0:=e) (hp0:=h) (all:=ops.take i) (bs:=100*rid) (ops.take i) 0 recs vc e1 h1 (λi=>by simp) hex hvc (λi hi=>by
    have:i<recs.length:=by omega
    simp[eT,this])
   simp only[s6,hlt]at hsp;obtain⟨e1',e2',run⟩:=hsp;have run':∀k,k<i->_:=λk hk=>run k (ops.getD k default) (by rw[zQ,eX hk];exact get k (by omega))
   have hws:∀k,k<i->hw (ops.getD k default).k=false->(recs.getD k default).ws=[]:=λk hk h=>by obtain⟨_,_,g,_⟩:=run' k hk;exact QR h g
   have hrd:∀k,k<i->ht (ops.getD k default).k=false->(recs.getD k default).rd=[]:=λk hk h=>by obtain⟨_,_,_,_,g⟩:=run' k hk;rw[g];exact PY h
   have G:Good P (λi e h=>JM S (100*rid+i,c+1) e h (ops.getD i default)) nt i ops' B (λi=>recs.getD i default) e h λi=>ops.getD i default:=
    {cg:=λi e e' h h' ht hh=>N6 ht hh
     sz:=by omega
     bef:=hbef
     op:=λi o ho=>by obtain⟨x,h1,h2⟩:=hop i o ho;simp only[hao i x h1];exact h2
     run:=run'
     tmp:=λk j hk hj=>htm k j hk (by omega)
     mem:=λk j hk hj=>by
      have h2:=LK (B:=B.getD j 0) (j:=j) (o:=ops.getD j default) (l:=ops.take j) (k:=0) k (ops.getD k default) (by rw[zQ,eX hk];exact get k (by omega));rw[s6]at h2;rcases h2 with h|h|h
      ·exact .inl h
      ·right;right;simp only[Fj,KV]at h;have hk':k<i:=by omega
       rcases h.1 with g1|g1
       ·rcases h.2 with g2|g2
        ·exact .inr (.inr ⟨hws k hk' g1,hrd k hk' g2⟩)
        ·exact .inl ⟨hws k hk' g1,hws j hj g2⟩
       ·exact .inr (.inl ⟨hws j hj (Zd g1),hrd j hj g1⟩)
      ·exfalso;have:=Ob (all:=ops) (j:=0) j _ (get j (by omega)) _ (by rw[s6];exact h);rw[<-hun]at this;simp at this}
   obtain⟨σd,wd1,wd2,wd3⟩:=hA.drawn (U.w.drawn+1);rw[<-wd1];rw[show ops'.size=i+(ops'.size-i) by omega];refine qY (cnt:=c) hΓ G (λj o hj ho k hk=>late j o hj ho k (by omega)) (σ0:=U) (λlisted σ1 a1 hs1 hl1 ev1 hI1 hal1'=>?_) i [] _ σd a ⟨by simp,by simp,.nil⟩ (by simp;omega) (λq hq=>?_) (Oc i) wd2 wd3.1 λm hm=>.inl (wd3.2.1 m hm)
   ·refine YT hbef i late (ops'.size-i) i listed a1 σ1.w (fA _) (by omega) hs1 hl1 ?_;rw[<-e1',<-e2']at hI1;have hal1:∀m,σ1.al m->m.2<=c\/(m.2=c+1/\m.1<100*rid+i):=λm hm=>(hal1' m hm).imp id λ⟨q,hq,eq⟩=>by subst eq;simp;omega
    rw[show ops'.size-i=(ops'.toList.drop (i+1)).length+1 by simp;omega,L8];rw[wpOpsIn_cons];unfold wpOpIn;simp only[ho];have hw:=Gb hI1.t k4 hg;simp only[hw,if_true];refine⟨λf _=>trivial,?_⟩;have hno:∀c,ops'[i].op≠.defer c:=λc hd=>by rw[k1]at hd;cases hd
    rw[Oper.semAt_eq _ a1.eval _ hno];have hX:=Fl (g:=true) rfl hI1.t y;rw[hx]at hX;simp only[Rep,RepL]at hX;obtain⟨xs0,ys0,hX,rfl,rfl⟩:=hX;have hV:=F3 (g:=true) rfl hI1.t cl.args.toList;have hJ:β k σ1:=evo (hA.2.2 k hgh) ev1;have hV':RepL σ1 args (cl.args.toList.map a1.eval):=by rw[<-hargs];exact hV
    obtain⟨f,tmps,assign,body,y1,y2⟩:=hR.rnd hJ hI1.h hxs hV';show Oper.uponIn Fence.wide 0 P ops'[i] a1 _ _ (Sem.run P (execOp a1.eval ops'[i]) σ1.w);rw[TH k1 k2 (by simpa using hX) y1];rw[Oper.uponIn_round];refine⟨λh=>by simp[Fence.wide]at h,y2.mono ?_⟩;rintro en w' ⟨b,σ2,rfl,rfl,oth,old,hJ2⟩;obtain⟨vc2,e2,h2,q1,q2,q3⟩:=hQ b;have hd:∀k,ops'[i].dst=some k->k<a1.tmps.size:=by rw[k3];intro d hd;rw[hI1.sz];exact Gp g2 d hd
    have hI2:Inv σ2 (Ca yo.d (.v (.bool b)) ((gs,CL (if b=true then k+1 else-1))::e1)) h1 (a1.put ops'[i].dst (.bool b)) nt (hb,false):=by
     refine⟨hI1.h.oth oth,?_,by rw[Act.size_put];exact hI1.sz,?_⟩
     ·rw[<-k3];refine TInv.put (r:=.v (.bool b)) (λt=>?_) hd (by simp[Rep]);simp only[lk];by_cases ht:gs=t
      ·rw[eX ht];subst ht;have:¬gs<a1.tmps.size:=by rw[hI1.sz];exact Nat.not_lt.2 hnt
       simp[Rep,Array.getD,this]
      ·rw[eW ht];exact hI1.t.ev oth.ev t
     ·rw[Act.defers_put];refine DOK.of rfl (λd hd=>?_) (hI1.df.nd rfl) (s7 hI1.df.le oth.sz) (hI1.df.gl.ev oth.ev);obtain⟨r,r1,r2,r3,r4,r5⟩:=hI1.df.all rfl d hd;obtain⟨o1,o2⟩:=old r _ r5 r3;exact⟨r,r1,r2,o1,by rw[oth.M];exact r4,o2⟩
    have hgh2:lk (Ca yo.d (.v (.bool b)) ((gs,CL (if b=true then k+1 else-1))::e1)) gs=CL (if b=true then k+1 else-1):=by rw[G2 (Gp g2) hnt];simp[lk]
    have hG2:(Ctx.it P Fence.wide S nt hb β hnt evo).G (Ca yo.d (.v (.bool b)) ((gs,CL (if b=true then k+1 else-1))::e1)) σ2:=by
     intro k' hk';rw[hgh2]at hk';have:(if b=true then(k:Int)+1 else-1)=k':=by simpa using hk'
     rw[<-this];exact hJ2
    have hal2:∀m,σ2.al m->m.2<=c\/(m.2=c+1/\m.1<100*rid+(i+1)):=by
     intro m hm;rw[oth.al]at hm;rcases hal1 m hm with h|⟨h3,h4⟩
     ·exact .inl h
     ·right;exact⟨h3,by omega⟩
    have hh:=Ig hΓ (ops:=ops') (Q:=Q) (cnt:=c) (100*rid) _ σ2 hG2 (ops'.toList.drop (i+1)) (i+1) (ops.drop (i+1)) σ2 _ _ _ _ _ vc2 (λ_ _=>rfl) (λj=>by simp) (by simp;omega) t3 q1 q2 (Evo.refl σ2) hI2 hal2 q3;have hl:lift (Ctx.it P Fence.wide S nt hb β hnt evo) σ2 Q=lift (Ctx.it P Fence.wide S nt hb β hnt evo) U Q:=rfl;rw[hl]at hh;exact hh
   ·have:q<i+(ops'.size-i):=by omega
    simp[Array.getD,this]
 |seq x y=>simp only[cCode]at hc;split at hc<;>simp at hc
 |cond c x y=>simp only[cCode]at hc;split at hc<;>simp at hc
 |rangeFunc f ps x y=>simp only[cCode]at hc;split at hc<;>simp at hc
 |_=>simp[cCode]at hc
end
abbrev YV(V:Ctx)(l:Nat)(xs:List (List AV)):Prop:=∀(i:Nat){rid:Nat}{ops post:List AOp}{d:Option Nat}{g:Option (Nat×Bool)}{Q:AE->St->Prop}{e e1:Au}{h h1:Hp}{c:Nat}{vc:Prop}{x:Opd}{as:List Opd}{k:Nat}{args:List AV}{vt vf:Prop}{et ef:Au}{ht hf:Hp}{recs:List Rec}(_:ops[i]? =some ⟨d,g,.cv x as⟩)(_:ops.drop (i+1)=post)(_:N7 V.S (c+1) (100*rid) (ops.take i) e h=some (vc,e1,h1,recs))(_:nS ops i=true)(_:vc)(_:Fx e1 g=some true)(_:Aw true (Av e1 x)=.clo (.yield l) [] [])(_:lk e gs=CL k)(_:as.map (λx=>Aw true (Av e1 x))=args)(_:xs[k]? =some args)(_:Bm V.S (c+1) (100*rid+(i+1)) post (Ca d (.v (.bool true)) ((gs,CL (k+1))::e1)) h1=some (vt,et,ht))(_:vt)(_:Q .n ⟨et,ht,c+1⟩)(_:Bm V.S (c+1) (100*rid+(i+1)) post (Ca d (.v (.bool false)) ((gs,CL (-1))::e1)) h1=some (vf,ef,hf))(_:vf)(_:Q .n ⟨ef,hf,c+1⟩),As V (.drw rid ops []) Q ⟨e,h,c⟩
theorem Xp{P:Program}{S:Tab}(hS:TabOK P S){f:Nat}{fn:Func}{c:AC}{fst cps:List AV}{xs:List (List AV)}(nt:Nat)(hf:P.funcs[f]? =some fn)(hc:E0 P fn=some (c,[]))(hnt:fn.ntmps=nt)(hgs:nt<=gs)(hn:(fst++cps).length<nt)(h:∀(l:Nat) (V:Ctx),V.OK->V.S=S->Pi V l xs->YV V l xs->As V c (Dx xs.length) ⟨(gs,CL 0)::CK 0 (fst++AV.clo (.yield l) [] []::cps),[],0⟩):TI P f fst cps xs:=
 bP hS nt hf hc hnt hgs hn λl hb β evo hR=>h l _ (Ctx.it_ok hS) (Eq.refl _) (λi=>Og hS hR i) λi {rid ops post d g Q e e1 h h1 c vc x as k args vt vf et ef ht hf recs} hyo hpost hex hl hvc hg hx hgh hargs hxs hxT hvT hQT hxF hvF hQF=>by
  subst hpost;refine YU hS hR i hyo rfl hex hl hvc hg hx hgh hargs hxs λb=>?_
  cases b with
  |true=>exact⟨vt,et,ht,hxT,hvT,hQT⟩
  |false=>exact⟨vf,ef,hf,hxF,hvF,hQF⟩
end Go.Proofs.YtciphecegkfaiaaGreat.Am
