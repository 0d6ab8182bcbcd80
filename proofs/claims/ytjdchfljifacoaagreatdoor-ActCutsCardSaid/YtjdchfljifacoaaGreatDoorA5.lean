import Derived.Test.YtjdchfljifacoaaGreatDoorA4
set_option linter.all false
namespace Go.Proofs.YtjdchfljifacoaaGreatDoor.Am
open Go
def gs:Nat:=1000000
@[reducible] def CD(k:Int):AV:=.gd false (.v (.int .i64 k))
structure Rng(P:Program)(F:Fence)(l hb:Nat)(xs:List (List AV))(β:Int->Cf->Prop):Prop where
 evo:∀{k:Int}{U σ':Cf},β k U->Evo U σ'->β k σ'
 oth:∀{k:Int}{U σ':Cf},β k U->Oth U σ'->σ'.O=U.O->(∀(b:Nat)(o:Obj),b<hb\/U.O b->U.w.heap[b]? =some o->σ'.w.heap[b]? =some o)->β k σ'
 rnd:∀{k:Nat}{args:List AV}{U:Cf}{hp:Hp}{vals:List Value},β k U->HInv U hp->xs[k]? =some args->RepL U args vals->∃f tmps assign body,(Instr.yield l vals.toArray).run P U.w=.ok (.round l f tmps assign body) U.w/\RoundIn F 0 P l f tmps assign body U.w λe w'=>∃(b:Bool)(σ':Cf),e=.returned (.bool b)/\σ'.w=w'/\Oth U σ'/\(∀(b:Nat)(o:Obj),¬U.O b->U.w.heap[b]? =some o->σ'.w.heap[b]? =some o/\¬σ'.O b)/\β (if b=true then k+1 else-1) σ'
def Ctx.it(P:Program)(F:Fence)(S:Tab)(nt hb:Nat)(β:Int->Cf->Prop)(hnt:nt<=gs)(evo:∀{k:Int} {U σ':Cf},β k U->Evo U σ'->β k σ'):Ctx:=
 {P:=P,F:=F,S:=S,nt:=nt,hb:=(hb,false),R:=λ_ _=>True,G:=λe U=>∀k,lk e gs=CD k->β k U
  ofE:=λ_=>trivial,tr:=λ_ _=>trivial
  g:=λhG e ht k hk=>by grind}
variable{V:Ctx}
theorem E0(hΓ:V.OK){ops:Array Oper}{Q:Exit->Act->World->Prop}{cnt:Nat}(bs:Nat)(e0:Ar)(rest:List Nat):∀(l:List Oper)(k:Nat)(aops:List AOp)(U:Cf)(env env':Ar)(hp hp':Hp)(a:Act)(vc:Prop),(∀t,V.nt<=t->lk env t=lk e0 t)->(∀j,j<l.length->l[j]? =ops[k+j]?)->FM V.P V.nt ops l=some aops->Bh V.S (cnt+1) (bs+k) aops env hp=some (vc,env',hp')->vc->Inv U env hp a V.nt V.hb->(∀m,U.al m->m.2<=cnt\/(m.2=cnt+1/\m.1<bs+k))->(∀a' σ',Evo U σ'->Inv σ' env' hp' a' V.nt V.hb->(∀m,σ'.al m->m.2<=cnt\/(m.2=cnt+1/\m.1<bs+(k+l.length)))->(∀t,V.nt<=t->lk env' t=lk e0 t)->wpOpsIn V.F 0 V.P ops Q rest a' σ'.w)->wpOpsIn V.F 0 V.P ops Q (List.range' k l.length++rest) a U.w
 |[],k,aops,U,env,env',hp,hp',a,vc,hgl,hl,hc,hex,hvc,hI,hal,hQ=>by grind[FM,Bh,Evo.refl]
 |o::l,k,aops,U,env,env',hp,hp',a,vc,hgl,hl,hc,hex,hvc,hI,hal,hQ=>by
  simp only[FM]at hc;split at hc
  ·rename_i x xs hx hxs;simp at hc;subst hc;simp only[Bh]at hex;split at hex
   ·simp at hex
   rename_i v1 r1 ws1 hex1;split at hex
   ·simp at hex
   rename_i v2 e2 h2 hex2;obtain⟨rfl,rfl,rfl⟩:=hex;have ho:ops[k]? =some o:=by have:=hl 0 (by simp);simpa using this.symm
   have hnm:¬U.al (bs+k,cnt+1):=by grind
   refine Jh hΓ.S hΓ.F ho hx hI ⟨hnm,cnt+1,by grind⟩ hex1 hvc.1 λa' σ' e' hI' hal'=>?_
   refine E0 hΓ bs e0 rest l (k+1) xs σ' _ _ _ _ a' v2 (by grind[DL,C9]) (λj hj=>?_) hxs hex2 hvc.2 hI' (λm hm=>?_) λa'' σ'' e'' hI'' hal'' hg''=>hQ a'' σ'' (e'.trans e'') hI'' (λm hm=>?_) hg''
   ·have:=hl (j+1) (by simp;omega);grind
   ·grind
   grind
  ·simp at hc
theorem Sh{P:Program}{o:Oper}{a:Act}{w:World}{c:Call}{x:Operand}{l:Nat}{nx:Go.Next}(ho:o.op=.call c)(hc:c.callee=.value x)(hX:a.eval x=.func (.yield l) #[] #[])(hy:(Instr.yield l (c.args.toList.map a.eval).toArray).run P w=.ok nx w):(execOp a.eval o).run P w=.ok nx w:=by
 have e:(c.args.toList.map a.eval).toArray=c.args.map a.eval:=by apply Array.ext';simp
 grind[execOp,resolve,Deferred.ofValue,invoke]
theorem Cj{P:Program}{nt:Nat}{ops:Array Oper}:∀{l:List Oper}{xs:List AOp}(i:Nat),FM P nt ops l=some xs->FM P nt ops (l.take i)=some (xs.take i)/\FM P nt ops (l.drop i)=some (xs.drop i)
 |l,xs,0,h=>by simp[FM,h]
 |[],xs,i+1,h=>by simp[FM]at h;subst h;simp[FM]
 |o::l,xs,i+1,h=>by
  simp only[FM]at h;split at h
  ·rename_i x ys hx hys;simp at h;subst h;obtain⟨h1,h2⟩:=Cj i hys
   simp_all[FM]
  ·simp at h
theorem TT{P:Program}{nt:Nat}{ops:Array Oper}{o:Oper}{yo:AOp}{x:Opd}{as:List Opd}(h:JI P nt ops o=some yo)(hk:yo.k=.cv x as):∃c y,o.op=.call c/\c.callee=.value y/\x=Al y/\as=c.args.toList.map Al/\o.dst=yo.d/\cG ops o.guard=some yo.g:=by
 unfold JI at h;split at h
 ·simp at h
 split at h
 ·simp at h;subst h;cases ho:o.op with
  |call c=>rw[ho]at hk;simp only[cK,H9]at hk;grind
  |_=>
   rw[ho]at hk;simp only[cK,Hk,E3,I9,Ja,Jb,Jc,KI,Jd]at hk
   (repeat' (split at hk))<;>cases hk
 ·simp at h
end Go.Proofs.YtjdchfljifacoaaGreatDoor.Am
namespace Go.Proofs.YtjdchfljifacoaaGreatDoor.Am
open Go
def Ck(n:Nat):AE->St->Prop|.x _,_=>False|.p _,_=>False|_,s=>lk s.env gs=CD n\/lk s.env gs=CD (-1)
section
variable{P:Program}{S:Tab}{nt hb:Nat}{β:Int->Cf->Prop}{hnt:nt<=gs}{evo:∀{k:Int} {U σ':Cf},β k U->Evo U σ'->β k σ'}{l:Nat}{xs:List (List AV)}
theorem YI(hS:TabOK P S)(hR:Rng P Fence.wide l hb xs β)(i:Nat){rid:Nat}{ops:List AOp}{yo:AOp}{Q:AE->St->Prop}{e e1:Ar}{h h1:Hp}{c:Nat}{vc:Prop}{x:Opd}{as:List Opd}{k:Nat}{args:List AV}(hyo:ops[i]? =some yo)(hk:yo.k=.cv x as)(hex:Bh S (c+1) (100*rid) (ops.take i) e h=some (vc,e1,h1))(hvc:vc)(hg:D8 e1 yo.g=some true)(hx:Ay true (Ax e1 x)=.clo (.yield l) [] [])(hgh:lk e gs=CD k)(hargs:as.map (λx=>Ay true (Ax e1 x))=args)(hxs:xs[k]? =some args)(hQ:∀b:Bool,∃(vc2:Prop) (e2:Ar) (h2:Hp),Bh S (c+1) (100*rid+(i+1)) (ops.drop (i+1)) (BQ yo.d (.v (.bool b)) ((gs,CD (if b=true then k+1 else-1))::e1)) h1=some (vc2,e2,h2)/\vc2/\Q .n ⟨e2,h2,c+1⟩):Aq (Ctx.it P Fence.wide S nt hb β hnt evo) (.reg rid ops) Q ⟨e,h,c⟩:=by
 intro code hc U a hA;have hΓ:(Ctx.it P Fence.wide S nt hb β hnt evo).OK:=⟨hS,.inl rfl⟩
 cases code with
 |region id ops' d=>
  simp only[cCode]at hc;obtain⟨l0,hx0,⟨rfl,e0⟩|⟨_,_,_,_,e0⟩⟩:=BM hc
  ·cases e0
   refine wpIn_region ?_;obtain⟨c1,c2⟩:=CM hx0;obtain⟨t1,t2⟩:=Cj i hx0;obtain⟨_,t3⟩:=Cj (i+1) hx0;have hi:i<ops.length:=(y5.1 hyo).1;have hsz:ops.length=ops'.size:=c1.trans (by simp);have hi':i<ops'.size:=by omega
   have ho:ops'[i]? =some ops'[i]:=w7 hi';obtain⟨yo',g1,g2⟩:=c2 i ops'[i] (by simp);rw[hyo]at g1;cases g1
   obtain⟨cl,y,k1,k2,rfl,rfl,k3,k4⟩:=TT g2 hk;have hr:List.range ops'.size=List.range' 0 (ops'.toList.take i).length++(i::List.range' (i+1) (ops'.toList.drop (i+1)).length):=by
    have e1:(ops'.toList.take i).length=i:=by simp;omega
    have e2:(ops'.toList.drop (i+1)).length=ops'.size-(i+1):=by simp
    rw[e1,e2,A36,<-A38];have:=List.range'_append_1 (s:=0) (m:=i) (n:=ops'.size-(i+1)+1);grind
   rw[hr];refine E0 hΓ (cnt:=c) (100*rid) e _ (ops'.toList.take i) 0 (ops.take i) U e e1 h h1 a vc (λ_ _=>rfl) (λj hj=>?_) t1 hex hvc hA.1 (λm hm=>.inl (hA.2.1 m hm)) λa1 σ1 ev1 hI1 hal1 hfar1=>?_
   ·grind
   rw[wpOpsIn_cons];unfold wpOpIn;simp only[ho];have hw:=DA hI1.t k4 hg;simp only[hw,if_true];refine⟨λf _=>trivial,?_⟩;have hno:∀c,ops'[i].op≠.defer c:=λc hd=>by rw[k1]at hd;cases hd
   rw[Oper.semAt_eq _ a1.eval _ hno];have hX:=EZ (g:=true) rfl hI1.t y;rw[hx]at hX;simp only[Rep,RepL]at hX;obtain⟨xs0,ys0,hX,rfl,rfl⟩:=hX;have hV:=F2 (g:=true) rfl hI1.t cl.args.toList;have hJ:β k σ1:=evo (hA.2.2 k hgh) ev1;have hV':RepL σ1 args (cl.args.toList.map a1.eval):=by rw[<-hargs];exact hV
   obtain⟨f,tmps,assign,body,y1,y2⟩:=hR.rnd hJ hI1.h hxs hV';show Oper.uponIn Fence.wide 0 P ops'[i] a1 _ _ (Sem.run P (execOp a1.eval ops'[i]) σ1.w);rw[Sh k1 k2 (by simpa using hX) y1];rw[Oper.uponIn_round];refine⟨λh=>by simp[Fence.wide]at h,y2.mono ?_⟩;rintro en w' ⟨b,σ2,rfl,rfl,oth,old,hJ2⟩;obtain⟨vc2,e2,h2,q1,q2,q3⟩:=hQ b;have hd:∀k,ops'[i].dst=some k->k<a1.tmps.size:=by rw[k3];intro d hd;rw[hI1.sz];exact C9 g2 d hd
   have hI2:Inv σ2 (BQ yo.d (.v (.bool b)) ((gs,CD (if b=true then k+1 else-1))::e1)) h1 (a1.put ops'[i].dst (.bool b)) nt (hb,false):=by
    refine⟨hI1.h.oth oth,?_,by rw[Act.size_put];exact hI1.sz,?_⟩
    ·rw[<-k3];refine TInv.put (r:=.v (.bool b)) (λt=>?_) hd (by simp[Rep]);simp only[lk];by_cases ht:gs=t
     ·rw[t8 ht];subst ht;have:¬gs<a1.tmps.size:=by rw[hI1.sz];exact Nat.not_lt.2 hnt
      simp[Rep,Array.getD,this]
     ·rw[t7 ht];exact hI1.t.ev oth.ev t
    ·rw[Act.defers_put];refine DOK.of rfl (λd hd=>?_) (hI1.df.nd rfl) (A09 hI1.df.le oth.sz) (hI1.df.gl.ev oth.ev);obtain⟨r,r1,r2,r3,r4,r5⟩:=hI1.df.all rfl d hd;obtain⟨o1,o2⟩:=old r _ r5 r3;exact⟨r,r1,r2,o1,by rw[oth.M];exact r4,o2⟩
   have hgh2:lk (BQ yo.d (.v (.bool b)) ((gs,CD (if b=true then k+1 else-1))::e1)) gs=CD (if b=true then k+1 else-1):=by rw[DL (C9 g2) hnt];simp[lk]
   have hG2:(Ctx.it P Fence.wide S nt hb β hnt evo).G (BQ yo.d (.v (.bool b)) ((gs,CD (if b=true then k+1 else-1))::e1)) σ2:=by intro k' hk';grind
   have hal2:∀m,σ2.al m->m.2<=c\/(m.2=c+1/\m.1<100*rid+(i+1)):=by intro m hm;rw[oth.al]at hm;grind
   have hh:=FS hΓ (ops:=ops') (Q:=Q) (cnt:=c) (100*rid) _ σ2 hG2 (ops'.toList.drop (i+1)) (i+1) (ops.drop (i+1)) σ2 _ _ _ _ _ vc2 (λ_ _=>rfl) (λj=>by simp) (by simp;omega) t3 q1 q2 (Evo.refl σ2) hI2 hal2 q3;assumption
  ·cases e0
 |seq x y=>simp only[cCode]at hc;split at hc<;>simp at hc
 |cond c x y=>simp only[cCode]at hc;split at hc<;>simp at hc
 |rangeFunc f ps x y=>simp only[cCode]at hc;split at hc<;>simp at hc
 |_=>simp[cCode]at hc
end
def TU(P:Program)(f:Nat)(fst cps:List AV)(xs:List (List AV)):Prop:=∀(l hb:Nat)(β:Int->Cf->Prop)(U:Cf)(vals:List Value),Rng P Fence.wide l hb xs β->β 0 U->HInv U []->(∀m,¬U.al m)->RepL U (fst++AV.clo (.yield l) [] []::cps) vals->hb<=U.w.heap.size->Gl U->CallsIn Fence.wide 0 P f vals.toArray U.w λe w'=>∃v σ',e=.returned v/\σ'.w=w'/\(β xs.length σ'\/β (-1) σ')
theorem HInv.nil{U:Cf}{hp:Hp}(h:HInv U hp):∃σ',σ'={U with ln:=λ_=>none}/\HInv σ' []:=⟨_,rfl,λ_=>rfl,λn j c h=>by simp[hl]at h,by grind[hl],by rintro p q b (⟨_,_,j,c,h⟩|⟨_,⟨_,_,_,h⟩,_⟩) _<;>simp[hl]at h,h.lt,h.ou,h.dis⟩
theorem rD{P:Program}{S:Tab}(hS:TabOK P S){f:Nat}{fn:Func}{c:AC}{fst cps:List AV}{xs:List (List AV)}(nt:Nat)(hf:P.funcs[f]? =some fn)(hc:Dj P fn=some (c,[]))(hnt:fn.ntmps=nt)(hgs:nt<=gs)(hn:(fst++cps).length<nt)(h:∀(l hb:Nat) (β:Int->Cf->Prop) (evo:∀{k:Int} {U σ':Cf},β k U->Evo U σ'->β k σ'),Rng P Fence.wide l hb xs β->Aq (Ctx.it P Fence.wide S nt hb β hgs evo) c (Ck xs.length) ⟨(gs,CD 0)::BC 0 (fst++AV.clo (.yield l) [] []::cps),[],0⟩):TU P f fst cps xs:=by
 subst hnt;intro l hb β U vals hR hJ hI hal hx hsz hgl;unfold Dj at hc;split at hc
 ·rename_i b hbd;split at hc
  ·rename_i c' r' h1 h2;simp at hc;obtain⟨rfl,rfl⟩:=hc;have hw:=h l hb β hR.evo hR b h1 U {tmps:=vals.toArray++Array.replicate (fn.ntmps-vals.toArray.size) undef,defers:=[]} ?_
   ·refine callsIn_of_wp_marks (n:=0) hf hbd trivial (wpIn_mono hw ?_);rintro e a' w' ⟨σ',s',e',rfl,_,h3,h4,h5⟩;have key:(lk s'.env gs=CD xs.length\/lk s'.env gs=CD (-1))->LeavesInM Fence.wide 0 P fn a'.tmps (λe w'=>∃v σ',e=.returned v/\σ'.w=w'/\(β xs.length σ'\/β (-1) σ')) a'.defers .returning σ'.w:=by
     intro hk;refine F6 a'.defers σ' (λb hb=>⟨h3.1.h.ou b hb,λhM=>h3.1.h.dis b hM hb⟩) (DOK.of' h3.1.df) λW ko kO kb=>?_
     obtain⟨ρ',hρ,hn'⟩:=(h3.1.h.oth ko).nil;obtain⟨us,k1,k2⟩:=FT (P:=P) (s:=⟨[],[],0⟩) (rs:=fn.results.toList) (rvs:=[]) (vc:=True) (xs:=[]) (U:=ρ') (a:={a' with defers:=[]}) (nt:=fn.ntmps) (hb:=(hb,false))
      ⟨hn',λt=>by simp[lk,Rep],h3.1.sz,DOK.nil (by rw[hρ];exact A09 h3.1.df.le ko.sz) (by rw[hρ];exact λb j hj=>⟨((h3.1.df.gl.ev ko.ev) b j hj).1,((h3.1.df.gl.ev ko.ev) b j hj).2⟩)⟩ h2 rfl trivial
     rw[hρ]at k1;refine⟨_,FU k1,_,W,rfl,rfl,?_⟩;have hj:∀k,β k σ'->β k W:=λk hk=>hR.oth hk ko kO kb
     rcases hk with hk|hk
     ·exact .inl (hj _ (h3.2.2 _ hk))
     ·exact .inr (hj _ (h3.2.2 _ hk))
    cases e with
    |normal=>simp[AE.of]at h4;subst h4;exact key h5
    |ret=>simp[AE.of]at h4;subst h4;exact key h5
    |exit i=>simp[AE.of]at h4;subst h4;exact h5.elim
    |goto l=>simp[AE.of]at h4
    |panic c=>obtain⟨v,rfl,rfl⟩:=AE.of_panic h4;exact h5.elim
    |outgrown=>simp[AE.of]at h4
   ·have hlen:=Bx hx;refine⟨⟨hI,λt=>?_,by show _=fn.ntmps;simp at hn hlen⊢;omega,DOK.nil hsz hgl⟩,λm hm=>(hal m hm).elim,?_⟩
    ·simp only[lk];by_cases ht:gs=t
     ·subst ht;have h1:vals.length<=fn.ntmps:=by simp at hn hlen;omega
      have:¬gs<vals.length+(fn.ntmps-vals.length):=by omega
      simp[Rep,Array.getD,this]
     ·rw[t7 ht,F5];split
      ·rename_i ht;simp only[A16,A08,true_and]at ht;have hg:(fst++AV.clo (.yield l) [] []::cps)[t]? =some (fst++AV.clo (.yield l) [] []::cps)[t]:=t6 ht;obtain⟨x,g1,g2⟩:=C1 hx t _ hg;have e1:(fst++AV.clo (.yield l) [] []::cps).getD (t-0) .un=(fst++AV.clo (.yield l) [] []::cps)[t]:=by simp[s9,hg]
       have hlt':t<vals.length:=by omega
       have e2:(vals.toArray++Array.replicate (fn.ntmps-vals.toArray.size) undef).getD t undef=x:=by rw[t6 hlt']at g1;simp[A32,A30,hlt',g1]
       rw[e1,e2];exact g2
      ·simp[Rep]
    ·intro k hk
     simp_all[lk]
  ·simp at hc
 ·simp at hc
structure Pair(O0:Nat->Prop)(l D:Nat)(so si:Cf):Prop where
 w:so.w=si.w
 oi:∀b,si.O b↔so.M b\/O0 b\/b=l\/b=D
 oo:∀b,so.O b↔O0 b\/(si.M b/\b<si.w.heap.size)
 di:∀b,si.M b->¬si.O b
 ob:∀b,si.O b->b<si.w.heap.size
structure Way(ss so si:Cf):Prop where
 box:∀n,ss.al n->so.al n/\so.rb n=ss.rb n
 arr:∀n,ss.al n->∀l',so.ln n=some l'->∃l,ss.ln n=some l/\l<=l'/\(l=l'->so.ra n=ss.ra n)
 old:∀b o,ss.w.heap[b]? =some o->¬ss.M b->so.w.heap[b]? =some o/\¬so.M b
 ni:∀b,b<ss.w.heap.size->¬ss.M b->¬si.M b
 sz:ss.w.heap.size<=so.w.heap.size
 io:SameO ss.w so.w
theorem Np{w:World}{b o:Nat}{x:Value}(h:w.cell? ⟨b,o,none⟩=some x):∃cs T f,w.heap[b]? =some (.cells cs T f):=by simp only[World.cell?]at h;grind
theorem YJ{O0:Nat->Prop}{l D:Nat}{ss so si si':Cf}(hp:Pair O0 l D so si)(hw:Way ss so si)(hdis:∀b,so.M b->¬so.O b)(hO:si'.O=si.O)(hsz:si.w.heap.size<=si'.w.heap.size)(hio:SameO si.w si'.w)(hM:∀b,b<si.w.heap.size->¬si.M b->¬si'.M b)(hP:∀(b:Nat) (o:Obj),(b<ss.w.heap.size\/si.O b)->¬si.M b->si.w.heap[b]? =some o->si'.w.heap[b]? =some o)(hF:∀b o x,Fz si b->si.w.cell? ⟨b,o,none⟩=some x->si'.w.cell? ⟨b,o,none⟩=some x)(hl:∀cs T f,si.w.heap[l]?≠some (.cells cs T f))(hD:∀cs T f,si.w.heap[D]?≠some (.cells cs T f)):∃so':Cf,Pair O0 l D so' si'/\Way ss so' si'/\Oth so so'/\so'.M=so.M/\∀b,b<so.w.heap.size->¬so.O b->¬so'.O b:=by
 obtain⟨h1,h2,h3,h4,h5⟩:=hp;have obM:∀b,so.M b->si.O b:=λb hb=>(h2 b).2 (.inl hb)
 have noM:∀b,si.O b->¬si.M b:=λb hO hM=>h4 b hM hO
 have keep:∀b,si.O b->si'.w.heap[b]? =si.w.heap[b]? :=λb hb=>by grind
 let so':Cf:={so with w:=si'.w,O:=λb=>O0 b\/(si'.M b/\b<si'.w.heap.size)}
 have dj:∀b,si'.M b->¬si.O b:=λb hb hO=>hM b (h5 b hO) (noM b hO) hb
 refine⟨so',⟨rfl,λb=>by rw[hO];exact h2 b,λb=>Iff.rfl,λb hb=>by rw[hO];exact dj b hb,λb hb=>by rw[hO]at hb;exact A20 (h5 b hb) hsz⟩,⟨hw.box,hw.arr,λb o hb hm=>?_,λb hb hm=>?_,?_,hw.io.trans (by rw[h1];exact hio)⟩,⟨rfl,rfl,rfl,rfl,rfl,λb hb=>?_,by rw[h1];exact hsz,λb hb=>by rw[h1];exact keep b (obM b hb),λb o x hf hc=>?_,by rw[h1];exact hio⟩,rfl,λb hlt hn=>?_⟩
 ·obtain⟨g1,g2⟩:=hw.old b o hb hm;have hlt:=(u0.1 hb).1;rw[h1]at g1;exact⟨hP b o (.inl hlt) (hw.ni b hlt hm) g1,g2⟩
 ·have:b<si.w.heap.size:=by rw[<-h1];exact A20 hb hw.sz
  exact hM b this (hw.ni b hb hm)
 ·exact A09 hw.sz (by rw[h1];exact hsz)
 ·have hs:so.w.heap.size=si.w.heap.size:=by rw[h1]
  rcases hb with hb|⟨hb,hlt⟩
  ·have hO':si.O b:=(h2 b).2 (.inr (.inl hb));have hso:so.O b:=(h3 b).2 (.inl hb);exact⟨A20 (h5 b hO') hsz,λhm=>hdis b hm hso,λhf=>hf.2.1 hso⟩
  ·refine⟨hlt,λhm=>dj b hb (obM b hm),λhf=>?_⟩;have hlt':b<si.w.heap.size:=by rw[<-hs];exact hf.2.2
   refine hM b hlt' (λhm=>hf.2.1 ((h3 b).2 (.inr ⟨hm,hlt'⟩))) hb
 ·rw[h1]at hc;obtain⟨cs,T,f,hcs⟩:=Np hc;have hlt':b<si.w.heap.size:=(u0.1 hcs).1;refine hF b o x ⟨λhm=>hf.2.1 ((h3 b).2 (.inr ⟨hm,hlt'⟩)),λhO'=>?_,hlt'⟩ hc;rcases(h2 b).1 hO' with g|g|rfl|rfl
  ·exact hf.1 g
  ·exact hf.2.1 ((h3 b).2 (.inl g))
  ·exact hl _ _ _ hcs
  ·exact hD _ _ _ hcs
 grind
def QN(c:Code)(e:AE):Prop:=(c=.ret/\e=.r)\/∃id,c=.exit id/\e=.x id
structure RFix where
 O0:Nat->Prop
 l:Nat
 D:Nat
 ss:Cf
 e:Ar
 a:Act
 lp:LoopState->Option Code->Loop
def RJ(V:Ctx)(H:RFix){X:Type}(I:X->Hp×Nat)(Pre:X->Prop)(K:X->Nat)(Q:AE->St->Prop)(k:Int)(si:Cf):Prop:=∃so hp cnt st pe,Pair H.O0 H.l H.D so si/\Way H.ss so si/\Inv so H.e hp H.a V.nt V.hb/\(∀m,so.al m->m.2<=cnt)/\¬so.M H.l/\so.w.heap[H.l]? =some (.loop (H.lp st pe))/\so.w.heap[H.D]? =some (.deferred (some []))/\((∃x,Pre x/\(K x:Int)=k/\st=.ready/\pe=none/\hp=(I x).1/\cnt=(I x).2)\/(k= -1/\∃c e',st=.done/\pe=some c/\QN c e'/\Q e' ⟨H.e,hp,cnt⟩))
section
variable{V:Ctx}{H:RFix}{X:Type}{I:X->Hp×Nat}{Pre:X->Prop}{K:X->Nat}{Q:AE->St->Prop}{k:Int}{si si':Cf}
theorem RJ.step(h:RJ V H I Pre K Q k si)(hdf:∀d∈H.a.defers,∃r,d={target:=.collected r,args:=#[]}/\(r<H.ss.w.heap.size\/r=H.D))(hO:si'.O=si.O)(hsz:si.w.heap.size<=si'.w.heap.size)(hio:SameO si.w si'.w)(hM:∀b,b<si.w.heap.size->¬si.M b->¬si'.M b)(hP:∀(b:Nat) (o:Obj),(b<H.ss.w.heap.size\/si.O b)->¬si.M b->si.w.heap[b]? =some o->si'.w.heap[b]? =some o)(hF:∀b o x,Fz si b->si.w.cell? ⟨b,o,none⟩=some x->si'.w.cell? ⟨b,o,none⟩=some x):RJ V H I Pre K Q k si':=by
 obtain⟨so,hp,cnt,st,pe,h1,h2,h3,h4,h8,h5,h6,h7⟩:=h;have hw:=h1.w;have hl:∀cs T f,si.w.heap[H.l]?≠some (.cells cs T f):=λcs T f=>by rw[<-hw,h5];simp
 have hD:∀cs T f,si.w.heap[H.D]?≠some (.cells cs T f):=λcs T f=>by rw[<-hw,h6];simp
 obtain⟨ms,dd,e0,m1,m2,m3⟩:=h3.df.sp;obtain⟨so',g1,g2,g3,g4,g5⟩:=YJ h1 h2 h3.h.dis hO hsz hio hM hP hF hl hD;have hlO:=(h1.oi _).2 (.inr (.inr (.inl rfl)));have hDO:=(h1.oi _).2 (.inr (.inr (.inr rfl)));have keep:∀b o,si.O b->so.w.heap[b]? =some o->so'.w.heap[b]? =some o:=λb o hb ho=>by rw[g1.w];rw[hw]at ho;exact hP b o (.inr hb) (λhm=>h1.di b hm hb) ho
 refine⟨so',hp,cnt,st,pe,g1,g2,⟨h3.h.oth g3,h3.t.ev g3.ev,h3.sz,⟨⟨ms,dd,e0,λd hd=>?_,m2,m3.map λys vs=>RepL.monoE g3.ev ys vs⟩,A09 h3.df.le g3.sz,h3.df.gl.ev g3.ev⟩⟩,λm hm=>h4 m (by rw[g3.al]at hm;exact hm),by rw[g4];exact h8,keep _ _ hlO h5,keep _ _ hDO h6,h7⟩;obtain⟨r,r1,r2,r3,r4,r5⟩:=m1 d hd;obtain⟨r',q1,q2⟩:=hdf d (by rw[e0];exact List.mem_append_left _ hd);have e:=by rw[r1]at q1;simpa using q1
 subst e;have hlt:=(u0.1 r3).1;refine⟨r,r1,r2,?_,by rw[g4];exact r4,g5 r hlt r5⟩;rcases q2 with q2|rfl
 ·rw[g1.w];rw[hw]at r3;exact hP r _ (.inl q2) (λhm=>r5 ((h1.oo r).2 (.inr ⟨hm,by rw[<-h1.w];exact hlt⟩))) r3
 ·exact keep _ _ hDO r3
theorem RJ.evo(hdf:∀d∈H.a.defers,∃r,d={target:=.collected r,args:=#[]}/\(r<H.ss.w.heap.size\/r=H.D))(h:RJ V H I Pre K Q k si)(e:Evo si si'):RJ V H I Pre K Q k si':=h.step hdf e.out e.sz e.io (λb hb hm=>(e.fro b _ (w7 hb) hm).2) (λb o _ hm hb=>(e.fro b o hb hm).1) λ_ _ _ hf hc=>e.cell hf.1 hc
theorem RJ.oth{hb:Nat}(hhb:H.ss.w.heap.size<=hb)(hdf:∀d∈H.a.defers,∃r,d={target:=.collected r,args:=#[]}/\(r<H.ss.w.heap.size\/r=H.D))(h:RJ V H I Pre K Q k si)(o:Oth si si')(hO:si'.O=si.O)(hP:∀(b:Nat) (o:Obj),b<hb\/si.O b->si.w.heap[b]? =some o->si'.w.heap[b]? =some o):RJ V H I Pre K Q k si':=h.step hdf hO o.sz o.io (λb _ hm=>by rw[o.M];exact hm) (by grind) o.fro
end
structure Rd(l:Nat)(U σ':Cf):Prop where
 box:∀n,U.al n->σ'.al n/\σ'.rb n=U.rb n
 arr:∀n,U.al n->∀l',σ'.ln n=some l'->∃l,U.ln n=some l/\l<=l'/\(l=l'->σ'.ra n=U.ra n)
 fro:∀b o,b≠l->U.w.heap[b]? =some o->¬U.M b->σ'.w.heap[b]? =some o/\¬σ'.M b
 out:σ'.O=U.O
 sz:U.w.heap.size<=σ'.w.heap.size
 io:SameO U.w σ'.w
theorem Evo.rd{l:Nat}{U σ':Cf}(h:Evo U σ'):Rd l U σ':=⟨h.box,h.arr,λb o _=>h.fro b o,h.out,h.sz,h.io⟩
theorem Rd.trans{l:Nat}{a b c:Cf}(h:Rd l a b)(k:Rd l b c):Rd l a c where
 box n hn:=⟨(k.box n (h.box n hn).1).1,((k.box n (h.box n hn).1).2).trans (h.box n hn).2⟩
 arr n hn l' hl':=by obtain⟨l,h1,h2,h3⟩:=k.arr n (h.box n hn).1 l' hl';obtain⟨m,g1,g2,g3⟩:=h.arr n hn l h1;grind
 fro b o hb hh hm:=by obtain⟨h1,h2⟩:=h.fro b o hb hh hm;exact k.fro b o hb h1 h2
 out:=k.out.trans h.out
 sz:=A09 h.sz k.sz
 io:=h.io.trans k.io
theorem HR{U:Cf}{l:Nat}{r r':Loop}(hO:∀b,U.O b->b<U.w.heap.size/\¬U.M b)(hM:¬U.M l)(h:U.w.heap[l]? =some (.loop r)):∃Z:Cf,Z={U with w:=U.w.putObj l (.loop r')}/\Oth U Z/\Rd l U Z/\Z.w.heap[l]? =some (.loop r')/\∀b o,b≠l->U.w.heap[b]? =some o->Z.w.heap[b]? =some o:=by
 have hlt:l<U.w.heap.size:=by grind
 have hsz:(U.w.putObj l (.loop r')).heap.size=U.w.heap.size:=World.putObj_size;have ho:∀b,b≠l->(U.w.putObj l (.loop r')).heap[b]? =U.w.heap[b]? :=λb hb=>World.putObj_heap_other hb
 refine⟨_,rfl,⟨rfl,rfl,rfl,rfl,rfl,λb hb=>⟨by grind,(hO b hb).2,λhf=>hf.2.1 hb⟩,by grind,by grind,λb o x _ hc=>?_,⟨rfl,rfl⟩⟩,⟨by grind,by grind,by grind,rfl,by grind,⟨rfl,rfl⟩⟩,World.putObj_heap_same hlt,by grind⟩;grind[World.cell?]
theorem Rd.ev{l:Nat}{U σ':Cf}{r:Loop}(h:Rd l U σ')(hM:¬σ'.M l)(hl:U.w.heap[l]? =some (.loop r)):Ev U σ' where
 box:=h.box
 arr:=h.arr
 fz b hb:=by
  by_cases e:b=l
  ·subst e;exact⟨hM,by rw[h.out];exact hb.2.1,A20 hb.2.2 h.sz⟩
  ·obtain⟨h1,h2⟩:=h.fro b _ e (w7 hb.2.2) hb.1;exact⟨h2,by rw[h.out];exact hb.2.1,A20 hb.2.2 h.sz⟩
 cell b o x hb hc:=by
  have e:b≠l:=by rintro rfl;obtain⟨_,_,_,hc'⟩:=Np hc;rw[hl]at hc';simp at hc'
  obtain⟨h1,_⟩:=h.fro b _ e (w7 hb.2.2) hb.1;have h0:=w7 hb.2.2;simp only[World.cell?,h0]at hc;simp only[World.cell?,h1];exact hc
theorem DOK.rd{l:Nat}{hb:HB}{U σ':Cf}{r:Loop}{x:AV}{ds:List Deferred}(h:DOK hb U x ds)(k:Rd l U σ')(hl:U.w.heap[l]? =some (.loop r))(hM:hb.2=false\/¬σ'.M l):DOK hb σ' x ds where
 sp:=by
  obtain⟨ms,dd,e0,m1,m2,m3⟩:=h.sp;refine⟨ms,dd,e0,λd hd=>?_,m2,?_⟩
  ·obtain⟨r,h1,h2,h3,h4,h5⟩:=m1 d hd;have e:r≠l:=by rintro rfl;rw[hl]at h3;simp at h3
   obtain⟨g1,g2⟩:=k.fro r _ e h3 h4;exact⟨r,h1,h2,g1,g2,by rw[k.out];exact h5⟩
  ·rcases hM with hM|hM
   ·exact⟨m3.1,m3.2.1,λe=>(by rw[hM]at e;cases e),m3.2.2.2⟩
   ·exact m3.map λys vs=>RepL.monoE (k.ev hM hl) ys vs
 le:=A09 h.le k.sz
 gl b j hj:=by
  obtain⟨h1,h2⟩:=h.gl b j hj;have e:b≠l:=by rintro rfl;simp[World.cell?,hl]at h2
  obtain⟨g1,g2⟩:=k.fro b _ e (w7 h1.2.2) h1.1;refine⟨⟨g2,by rw[k.out];exact h1.2.1,A20 h1.2.2 k.sz⟩,?_⟩;rw[<-h2];simp only[World.cell?,g1,w7 h1.2.2]
section
variable{V:Ctx}{H:RFix}{X:Type}{I:X->Hp×Nat}{Pre:X->Prop}{K:X->Nat}{Q:AE->St->Prop}
theorem YK{so si s4:Cf}{hp hp4 hpi:Hp}{cnt4:Nat}{st st':LoopState}{pe pe':Option Code}{k':Int}(h1:Pair H.O0 H.l H.D so si)(h2:Way H.ss so si)(h3:Inv so H.e hp H.a V.nt V.hb)(hlM:¬so.M H.l)(hl:so.w.heap[H.l]? =some (.loop (H.lp st pe)))(hD:so.w.heap[H.D]? =some (.deferred (some [])))(hDM:¬so.M H.D)(hi:HInv si hpi)(hls:H.ss.w.heap.size<=H.l)(hr:Rd H.l so s4)(h4:HInv s4 hp4)(hlM4:¬s4.M H.l)(hl4:s4.w.heap[H.l]? =some (.loop (H.lp st' pe')))(hal:∀m,s4.al m->m.2<=cnt4)(h7:(∃x,Pre x/\(K x:Int)=k'/\st'=.ready/\pe'=none/\hp4=(I x).1/\cnt4=(I x).2)\/(k'= -1/\∃c e',st'=.done/\pe'=some c/\QN c e'/\Q e' ⟨H.e,hp4,cnt4⟩)):∃si':Cf,si'.w=s4.w/\Oth si si'/\(∀(b:Nat)(o:Obj),¬si.O b->si.w.heap[b]? =some o->si'.w.heap[b]? =some o/\¬si'.O b)/\RJ V H I Pre K Q k' si':=by
 have hw:=h1.w;have hsz:si.w.heap.size<=s4.w.heap.size:=by rw[<-hw];exact hr.sz
 have hlO:si.O H.l:=(h1.oi _).2 (.inr (.inr (.inl rfl)));have hDO:si.O H.D:=(h1.oi _).2 (.inr (.inr (.inr rfl)));have hlD:H.D≠H.l:=by intro e;rw[e,hl]at hD;simp at hD
 have keep:∀(b:Nat)(o:Obj),¬si.O b->si.w.heap[b]? =some o->s4.w.heap[b]? =some o/\¬s4.M b:=λb o hb ho=>by rw[<-hw]at ho;exact hr.fro b o (by rintro rfl;exact hb hlO) ho λhm=>hb ((h1.oi b).2 (.inl hm))
 have new:∀b,¬si.O b->b<si.w.heap.size->¬(s4.M b\/H.O0 b\/b=H.l\/b=H.D):=λb hb hlt=>by
  rintro(g|g)
  ·grind
  ·exact hb ((h1.oi b).2 (.inr g))
 let si':Cf:={si with w:=s4.w,O:=λb=>s4.M b\/H.O0 b\/b=H.l\/b=H.D}
 have ob':∀b,si'.O b->b<s4.w.heap.size:=λb hb=>by
  rcases hb with g|g
  ·exact h4.lt b g
  ·exact A20 (h1.ob b ((h1.oi b).2 (.inr g))) hsz
 have di':∀b,si.M b->¬si'.O b:=λb hb=>new b (h1.di b hb) (hi.lt b hb)
 refine⟨si',rfl,⟨rfl,rfl,rfl,rfl,rfl,λb hb=>⟨ob' b hb,λhm=>di' b hm hb,λhf=>new b hf.2.1 hf.2.2 hb⟩,hsz,λb hb=>?_,λb o x hf hc=>?_,by rw[<-hw];exact hr.io⟩,by grind,s4,hp4,cnt4,st',pe',⟨rfl,λb=>Iff.rfl,λb=>?_,di',ob'⟩,⟨λn hn=>?_,λn hn l' hl'=>?_,λb o ho hm=>?_,h2.ni,A09 h2.sz hr.sz,h2.io.trans hr.io⟩,⟨h4,h3.t.ev (hr.ev hlM4 hl),h3.sz,h3.df.rd hr hl (.inr hlM4)⟩,hal,hlM4,hl4,(hr.fro _ _ hlD hD hDM).1,h7⟩
 ·have h0:=w7 (hi.lt b hb);rw[h0];exact(keep b _ (h1.di b hb) h0).1
 ·have h0:=w7 hf.2.2;have h0':=(keep b _ hf.2.1 h0).1;grind[World.cell?]
 ·rw[hr.out,h1.oo b];refine or_congr Iff.rfl ⟨λh=>⟨h.1,A20 h.2 hsz⟩,λh=>⟨h.1,hi.lt b h.1⟩⟩
 ·exact⟨(hr.box n (h2.box n hn).1).1,((hr.box n (h2.box n hn).1).2).trans (h2.box n hn).2⟩
 ·obtain⟨l1,g1,g2,g3⟩:=hr.arr n (h2.box n hn).1 l' hl';obtain⟨m,q1,q2,q3⟩:=h2.arr n hn l1 g1;grind
 ·obtain⟨g1,g2⟩:=h2.old b o ho hm;have hlt:=(u0.1 ho).1;exact hr.fro b o (by omega) g1 g2
end
def Ctx.rd(P:Program)(S:Tab)(nt l:Nat):Ctx:={P:=P,F:=Fence.wide.inRound l,S:=S,nt:=nt,hb:=(0,false),R:=Evo,G:=λ_ _=>True,ofE:=id,tr:=Evo.trans,g:=λ_ _ _=>trivial}
theorem Ctx.rd_ok{P:Program}{S:Tab}{nt l:Nat}(h:TabOK P S):(Ctx.rd P S nt l).OK:=⟨h,.inr ⟨l,Eq.refl _⟩⟩
def Gq:List Nat->List AV->Ar->Ar|p::ps,x::xs,e=>Gq ps xs ((p,x)::e)|_,_,e=>e
def By(V:Ctx)(b:AC)(Q:AE->St->Prop):AE->St->Prop|.n,s=>Aq V b Q s|_,_=>False
def Bw{X:Type}(e:Ar)(I:X->Hp×Nat)(Pre:X->Prop)(K:X->Nat)(j:Nat)(Q:AE->St->Prop):AE->St->Prop
 |.n,s=>∃x,Pre x/\K x=j/\Le ⟨e,(I x).1,(I x).2⟩ ⟨e,s.hp,s.cnt⟩
 |.x i,s=>Q (.x i) ⟨e,s.hp,s.cnt⟩
 |.r,s=>Q .r ⟨e,s.hp,s.cnt⟩
 |.p _,_=>False
theorem Nq{U:Cf}:∀{ps:List Nat}{args:List AV}{vals:List Value}{e:Ar}{tmps:Array Value}{d d':List Deferred},TInv U e {tmps:=tmps,defers:=d}->RepL U args vals->args.length=ps.length->(∀p∈ps,p<tmps.size)->TInv U (Gq ps args e) {tmps:=(ps.zip vals).foldl (λt (p,v)=>t.setIfInBounds p v) tmps,defers:=d'}/\((ps.zip vals).foldl (λt (p,v)=>t.setIfInBounds p v) tmps).size=tmps.size
 |[],args,vals,e,tmps,d,d',h,hr,hl,hp=>by
  cases args with
  |nil=>simp only[List.zip_nil_left,List.foldl_nil];exact⟨h,trivial⟩
  |cons _ _=>simp at hl
 |p::ps,args,vals,e,tmps,d,d',h,hr,hl,hp=>by
  cases args with
  |nil=>simp at hl
  |cons x xs=>
   obtain⟨v,vs,rfl,h1,h2⟩:=hr;simp only[Gq,List.zip_cons_cons];have hk:TInv U ((p,x)::e) {tmps:=tmps.setIfInBounds p v,defers:=d}:=by have:=TInv.put (d:=some p) h (by simp_all) h1;assumption
   have:=Nq (d':=d') hk h2 (by simpa using hl) (by grind);grind
section
variable{P:Program}{S:Tab}{nt hbo:Nat}{H:RFix}{X:Type}{I:X->Hp×Nat}{Pre:X->Prop}{K:X->Nat}{Q:AE->St->Prop}
theorem RJ.rndA{ps:Array Nat}{assign body:Code}{fn:FuncId}{asg bdy:AC}{xs:List (List AV)}(hlp:H.lp=λst pe=>{state:=st,pending:=pe,fn:=fn,tmps:=H.a.tmps,params:=ps,assign:=assign,body:=body,defers:=H.D})(hca:cCode P nt assign=some asg)(hcb:cCode P nt body=some bdy)(hps:∀p∈ps.toList,p<nt)(hpure:∀args∈xs,AA args=true/\args.length=ps.toList.length)(hround:∀x,Pre x->∀args,xs[K x]? =some args->Aq (Ctx.rd P S nt H.l) asg (By (Ctx.rd P S nt H.l) bdy (Bw H.e I Pre K (K x+1) Q)) ⟨Gq ps.toList args H.e,(I x).1,(I x).2⟩)(hls:H.ss.w.heap.size<=H.l)(hDd:∃d∈H.a.defers,d={target:=.collected H.D,args:=#[]}){k:Nat}{args:List AV}{si:Cf}{hpi:Hp}{vals:List Value}(h:RJ (Ctx.fn P S nt hbo) H I Pre K Q k si)(hi:HInv si hpi)(hxs:xs[k]? =some args)(hv:RepL si args vals):∃f tmps assign body,(Instr.yield H.l vals.toArray).run P si.w=.ok (.round H.l f tmps assign body) si.w/\RoundIn Fence.wide 0 P H.l f tmps assign body si.w λe w'=>∃(b:Bool)(σ':Cf),e=.returned (.bool b)/\σ'.w=w'/\Oth si σ'/\(∀(b:Nat)(o:Obj),¬si.O b->si.w.heap[b]? =some o->σ'.w.heap[b]? =some o/\¬σ'.O b)/\RJ (Ctx.fn P S nt hbo) H I Pre K Q (if b=true then k+1 else-1) σ':=by
 obtain⟨so,hp,cnt,st,pe,h1,h2,h3,h4,h8,h5,h6,h7⟩:=h;rcases h7 with⟨x,hx,hk,rfl,rfl,rfl,rfl⟩|⟨hk,_⟩
 ·have hk:K x=k:=by omega
  obtain⟨hpu,hlen⟩:=hpure args (A14 hxs);have hvl:=Bx hv;have hDM:¬so.M H.D:=by obtain⟨d,hd,rfl⟩:=hDd;obtain⟨r,r1,_,_,r4,_⟩:=h3.df.all rfl _ hd;grind
  have hdis:∀b,so.O b->b<so.w.heap.size/\¬so.M b:=λb hb=>⟨h3.h.ou b hb,λhM=>h3.h.dis b hM hb⟩
  have hv':RepL so args vals:=RepL.ofPure (U:=si) (σ':=so) (λb hb=>⟨λhm=>hb.2.1 ((h1.oi b).2 (.inl hm)),λho=>by
   rcases(h1.oo b).1 ho with g|g
   ·exact hb.2.1 ((h1.oi b).2 (.inr (.inl g)))
   ·exact hb.1 g.1,by rw[h1.w];exact hb.2.2⟩) (λ_ _=>by rw[h1.w]) args vals hpu hv
  have hy:=run_yield (P:=P) (args:=vals.toArray) (w:=si.w) (l:=H.l) (by rw[<-h1.w];exact h5) (by rw[hlp];simp at hlen⊢;omega);rw[hlp]at hy;refine⟨_,_,_,_,hy,?_⟩;have hT:=Nq (d':=[]) (U:=so) (ps:=ps.toList) (args:=args) (vals:=vals) (e:=H.e) (tmps:=H.a.tmps) (d:=H.a.defers) h3.t hv' hlen (λp hp=>by rw[h3.sz];exact hps p hp);have hfold:(ps.zip vals.toArray).foldl (λt (p,v)=>t.setIfInBounds p v) H.a.tmps=(ps.toList.zip vals).foldl (λt (p,v)=>t.setIfInBounds p v) H.a.tmps:=by rw[<-Array.foldl_toList];simp
  refine roundIn_of_wpIn (F:=Fence.wide) trivial ?_;rw[hfold,<-h1.w];have ha:=hround x hx args (by rw[hk];exact hxs) assign hca so {tmps:=_,defers:=[]} ⟨⟨h3.h,hT.1,by rw[hT.2];exact h3.sz,DOK.nil (A16 _) h3.df.gl⟩,h4,trivial⟩;refine wpIn_mono ha ?_;rintro e a1 w1 ⟨s1,t1,e',rfl,ev1,at1,he,hq⟩;have ev1:Evo so s1:=ev1;cases e with
  |normal=>
   simp[AE.of]at he;subst he;obtain⟨b1,b2⟩:=ev1.fro _ _ h5 h8;have dis1:∀b,s1.O b->b<s1.w.heap.size/\¬s1.M b:=λb hb=>⟨at1.1.h.ou b hb,λhM=>at1.1.h.dis b hM hb⟩
   obtain⟨s2,hs2,o2,r2,l2,_⟩:=HR (r':={H.lp .ready none with state:=.busy}) dis1 b2 b1;have m2:¬s2.M H.l:=by rw[o2.M];exact b2
   refine⟨s2.w,?_,?_⟩
   ·rw[hs2];exact run_beginRound b1 (by rw[hlp])
   have hb:=hq body hcb s2 a1 ⟨⟨at1.1.h.oth o2,at1.1.t.ev o2.ev,at1.1.sz,at1.1.df.rd r2 b1 (.inl rfl)⟩,λm hm=>at1.2.1 m (by rw[o2.al]at hm;exact hm),trivial⟩;refine wpIn_mono hb ?_;rintro e a3 w3 ⟨s3,t3,e',rfl,ev3,at3,he,hq3⟩;have ev3:Evo s2 s3:=ev3;obtain⟨c1,c2⟩:=ev3.fro _ _ l2 m2;have dis3:∀b,s3.O b->b<s3.w.heap.size/\¬s3.M b:=λb hb=>⟨at3.1.h.ou b hb,λhM=>at3.1.h.dis b hM hb⟩
   have fin:∀(jump:Option Code)(k':Int)(Z:Cf)(hp4:Hp)(cnt4:Nat),Evo s3 Z->Z.w=s3.w->HInv Z hp4->(∀m,Z.al m->m.2<=cnt4)->((∃x,Pre x/\(K x:Int)=k'/\(if jump.isNone then LoopState.ready else .done)=.ready/\jump=none/\hp4=(I x).1/\cnt4=(I x).2)\/(k'= -1/\∃c e',(if jump.isNone then LoopState.ready else .done)=.done/\jump=some c/\QN c e'/\Q e' ⟨H.e,hp4,cnt4⟩))->∃v w4,(Instr.endRound H.l jump).run P s3.w=.ok v w4/\v=.bool jump.isNone/\∃σ':Cf,σ'.w=w4/\Oth si σ'/\(∀(b:Nat)(o:Obj),¬si.O b->si.w.heap[b]? =some o->σ'.w.heap[b]? =some o/\¬σ'.O b)/\RJ (Ctx.fn P S nt hbo) H I Pre K Q k' σ':=by
    intro jump k' Z hp4 cnt4 eτ wτ hτ alτ h7';obtain⟨q1,q2⟩:=eτ.fro _ _ c1 c2;have disτ:∀b,Z.O b->b<Z.w.heap.size/\¬Z.M b:=λb hb=>⟨hτ.ou b hb,λhM=>hτ.dis b hM hb⟩
    obtain⟨s4,hs4,o4,r4,l4,_⟩:=HR (r':=H.lp (if jump.isNone then LoopState.ready else .done) jump) disτ q2 q1;refine⟨_,s4.w,?_,rfl,?_⟩
    ·rw[hs4,wτ];have:=run_endRound (P:=P) jump c1;rw[hlp]at this⊢;exact this
    ·obtain⟨si',y1,y2,y3,y4⟩:=YK (V:=Ctx.fn P S nt hbo) (K:=K) (Pre:=Pre) (I:=I) (Q:=Q) h1 h2 h3 h8 h5 h6 hDM hi hls ((ev1.rd.trans r2).trans ((ev3.rd.trans eτ.rd).trans r4)) (hτ.oth o4) (by rw[o4.M];exact q2) l4 (λm hm=>alτ m (by rw[o4.al]at hm;exact hm)) h7';exact⟨si',y1,y2,y3,y4⟩
   cases e with
   |normal=>
    simp[AE.of]at he;subst he;obtain⟨x',p1,p2,p3⟩:=hq3;have hA:At (Ctx.fn P S nt 0) s3 ⟨H.e,t3.hp,t3.cnt⟩ H.a:=⟨⟨at3.1.h,h3.t.ev (((ev1.rd.trans r2).trans ev3.rd).ev c2 h5),h3.sz,DOK.rd (DOK.of rfl (λd hd=>by obtain⟨r,r1,_,r3⟩:=h3.df.all rfl d hd;exact⟨r,r1,A16 _,r3⟩) (h3.df.nd rfl) (A16 _) h3.df.gl) ((ev1.rd.trans r2).trans ev3.rd) h5 (.inl rfl)⟩,at3.2.1,trivial⟩
    obtain⟨Z,w1,e1,a1'⟩:=hA.le p3;obtain⟨v,w4,g1,rfl,σ',g3,g4,g5,g6⟩:=fin none (k+1) Z _ _ e1 w1 a1'.1.h a1'.2.1 (.inl ⟨x',p1,by omega,rfl,rfl,rfl,rfl⟩);exact⟨_,w4,g1,true,σ',rfl,g3,g4,λb o hb ho=>g5 b o hb (by rw[<-h1.w];exact ho),by simpa using g6⟩
   |ret=>simp[AE.of]at he;subst he;obtain⟨v,w4,g1,rfl,σ',g3,g4,g5,g6⟩:=fin (some .ret) (-1) s3 _ _ (Evo.refl s3) rfl at3.1.h at3.2.1 (.inr ⟨rfl,_,.r,rfl,rfl,.inl ⟨rfl,rfl⟩,hq3⟩);exact⟨_,w4,g1,false,σ',rfl,g3,g4,λb o hb ho=>g5 b o hb (by rw[<-h1.w];exact ho),by simpa using g6⟩
   |exit i=>simp[AE.of]at he;subst he;obtain⟨v,w4,g1,rfl,σ',g3,g4,g5,g6⟩:=fin (some (.exit i)) (-1) s3 _ _ (Evo.refl s3) rfl at3.1.h at3.2.1 (.inr ⟨rfl,_,.x i,rfl,rfl,.inr ⟨i,rfl,rfl⟩,hq3⟩);exact⟨_,w4,g1,false,σ',rfl,g3,g4,λb o hb ho=>g5 b o hb (by rw[<-h1.w];exact ho),by simpa using g6⟩
   |goto l=>simp[AE.of]at he
   |panic c=>obtain⟨v,rfl,rfl⟩:=AE.of_panic he;exact hq3.elim
   |outgrown=>simp[AE.of]at he
  |exit i=>simp[AE.of]at he;subst he;exact hq.elim
  |ret=>simp[AE.of]at he;subst he;exact hq.elim
  |goto l=>simp[AE.of]at he
  |panic c=>obtain⟨v,rfl,rfl⟩:=AE.of_panic he;exact hq.elim
  |outgrown=>simp[AE.of]at he
 ·omega
end
theorem Aaf(b:Bool):(b==false)= !b:=by cases b<;>rfl
theorem Aag(b:Bool):(b==true)=b:=by cases b<;>rfl
section
variable{P:Program}{S:Tab}{nt hbo:Nat}
theorem Nr{X:Type}(I:X->Hp×Nat)(Pre:X->Prop)(K:X->Nat)(x0:X){f:Opd}{ps:List Nat}{asg bdy:AC}{Q:AE->St->Prop}{e:Ar}{h:Hp}{c fi:Nat}{fst cps:List AV}{xs:List (List AV)}(hx:Ay true (Ax e f)=.clo (.func fi) fst cps)(hit:TU P fi fst cps xs)(hok:C0 P fi)(hpu:AA fst=true/\AA cps=true)(hps:∀p∈ps,p<nt)(hpure:∀args∈xs,AA args=true/\args.length=ps.length)(h0:Pre x0)(hk0:K x0=0)(hle:Le ⟨e,(I x0).1,(I x0).2⟩ ⟨e,h,c⟩)(round:∀l x,Pre x->∀args,xs[K x]? =some args->Aq (Ctx.rd P S nt l) asg (By (Ctx.rd P S nt l) bdy (Bw e I Pre K (K x+1) Q)) ⟨Gq ps args e,(I x).1,(I x).2⟩)(hend:∀x,Pre x->K x=xs.length->Q .n ⟨e,(I x).1,(I x).2⟩):Aq (Ctx.fn P S nt hbo) (.rfun f ps asg bdy) Q ⟨e,h,c⟩:=by
 intro code hc U a hA;cases code with
 |rangeFunc g ps' assign body=>
  simp only[cCode]at hc;split at hc
  ·rename_i x' y' hca hcb;simp at hc;obtain⟨rfl,rfl,rfl,rfl⟩:=hc;obtain⟨ss,w0,ev0,A0⟩:=hA.le hle;rw[<-w0];refine wpIn_mono (Q:=lift (Ctx.fn P S nt hbo) ss Q) ?_ λe a w k=>k.mono (Ctx.ofE _ ev0)
   have hX:=EZ (g:=true) rfl A0.1.t g;rw[hx]at hX;simp only[Rep]at hX;obtain⟨fs,cs,hX,hf1,hc1⟩:=hX;refine wpIn_rangeFunc (F:=Fence.wide) λfn _=>?_
   let lp:LoopState->Option Code->Loop:=λst pe=>{state:=st,pending:=pe,fn:=fn,tmps:=a.tmps,params:=ps',assign:=assign,body:=body,defers:=ss.w.heap.size}
   let W1:World:=(ss.w.alloc (.deferred (some []))).alloc (.loop (lp .ready none))
   have hL1:W1.heap[ss.w.heap.size+1]? =some (.loop (lp .ready none)):=by have:=World.alloc_heap_new (ss.w.alloc (.deferred (some []))) (.loop (lp .ready none));rwa [World.size_alloc]at this
   have hsz1:W1.heap.size=ss.w.heap.size+2:=by simp[W1]
   have hkeep:∀(b:Nat)(o:Obj),ss.w.heap[b]? =some o->W1.heap[b]? =some o:=by grind[Cd]
   have hK1:W1.heap[ss.w.heap.size]? =some (.deferred (some [])):=by rw[Cd (by simp)];exact World.alloc_heap_new ss.w _
   let D:=ss.w.heap.size
   let l:=ss.w.heap.size+1
   let a0:Act:={a with defers:=[{target:=.collected D,args:=#[]}]++a.defers}
   let H:RFix:={O0:=ss.O,l:=l,D:=D,ss:=ss,e:=e,a:=a0,lp:=lp}
   let so:Cf:=ss.at W1
   have evs:Evo ss so:=Evo.at hkeep ⟨rfl,rfl⟩
   let si:Cf:={rb:=λ_=>0,ra:=λ_=>(none,0),M:=λ_=>False,O:=λb=>ss.M b\/ss.O b\/b=l\/b=D,ln:=λ_=>none,al:=λ_=>False,w:=W1}
   have hgsi:Gl si:=λb j hj=>by
    obtain⟨g1,g2⟩:=A0.1.df.gl b j hj;have g3:=(Gl.mono A0.1.df.gl evs b j hj).2;refine⟨⟨λh=>h,?_,?_⟩,g3⟩
    ·have:=g1.2.2;rintro(h|h|h|h)
     ·exact g1.1 h
     ·exact g1.2.1 h
     all_goals omega
    ·show b<W1.heap.size;have:=g1.2.2;omega
   have hdf:∀d∈H.a.defers,∃r,d={target:=.collected r,args:=#[]}/\(r<H.ss.w.heap.size\/r=H.D):=by
    intro d hd;simp only[H,a0,A10,A02,y6]at hd;rcases hd with rfl|hd
    ·exact⟨D,rfl,.inr rfl⟩
    ·obtain⟨r,r1,_,r3,_⟩:=A0.1.df.all rfl d hd;grind
   have nM:∀b,ss.w.heap.size<=b->¬ss.M b:=λb hb hm=>by have:=A0.1.h.lt b hm;omega
   have nO:∀b,ss.w.heap.size<=b->¬ss.O b:=λb hb hm=>by have:=A0.1.h.ou b hm;omega
   have hso:HInv so (I x0).1:=A0.1.h.at hkeep ⟨rfl,rfl⟩;have hsi:HInv si []:=⟨λ_=>rfl,λn j c h=>by simp[hl]at h,λn sz live rows d h=>by simp[hl]at h,by rintro p q b (⟨_,_,j,c,h⟩|⟨_,⟨_,_,_,h⟩,_⟩) _<;>simp[hl]at h,λb h=>h.elim,λb hb=>by grind,λb h=>h.elim⟩
   have hJ0:RJ (Ctx.fn P S nt hbo) H I Pre K Q 0 si:=by
    refine⟨so,(I x0).1,(I x0).2,.ready,none,⟨rfl,λb=>Iff.rfl,λb=>⟨.inl,λh=>h.elim id λh=>h.1.elim⟩,λb h=>h.elim,hsi.ou⟩,⟨evs.box,evs.arr,evs.fro,λ_ _ _ h=>h.elim,evs.sz,evs.io⟩,⟨hso,A0.1.t.mono evs,A0.1.sz,DOK.of rfl (λd hd=>?_) ?_ (A09 A0.1.df.le evs.sz) (A0.1.df.gl.mono evs)⟩,A0.2.1,nM _ (Nat.le_succ _),hL1,hK1,.inl ⟨x0,h0,by simp[hk0],rfl,rfl,rfl,rfl⟩⟩
    ·simp only[H,a0,A10,A02,y6]at hd;rcases hd with rfl|hd
     ·exact⟨D,rfl,A0.1.df.le,hK1,nM _ (w6 _),nO _ (w6 _)⟩
     ·exact(A0.1.df.mono evs).all rfl d hd
    ·simp only[H,a0,A10,A02];refine A25.2 ⟨λd hd he=>?_,A0.1.df.nd rfl⟩;obtain⟨r,rfl,_,r3,_⟩:=A0.1.df.all rfl d hd;grind
   have hR:Rng P Fence.wide l (ss.w.heap.size+2) xs (RJ (Ctx.fn P S nt hbo) H I Pre K Q):=
    {evo:=λhj ev=>hj.evo hdf ev
     oth:=λhj o hO hP=>hj.oth (hb:=ss.w.heap.size+2) (by simp only[H];omega) hdf o hO hP
     rnd:=λhj hi hxs hv=>RJ.rndA (H:=H) (fn:=fn) (ps:=ps') rfl hca hcb hps hpure (round l) (by simp only[H,l];omega) ⟨_,by simp[H,a0],rfl⟩ hj hi hxs hv}
   have hvals:RepL si (fst++AV.clo (.yield l) [] []::cps) (fs++ .func (.yield l) #[] #[]::cs):=by
    have pu:∀ys vs,AA ys=true->RepL ss ys vs->RepL si ys vs:=λys vs hp hr=>by
     have h1:RepL so ys vs:=RepL.mono evs ys vs hr;refine RepL.ofPure (U:=ss) (σ':=si) (λb hb=>⟨λh=>h,?_,by show b<W1.heap.size;have:=hb.2.2;omega⟩) (λb hb=>?_) ys vs hp hr
     ·have:=hb.2.2;rintro(g|g|rfl|rfl)
      ·exact hb.1 g
      ·exact hb.2.1 g
      all_goals omega
     ·have:=w7 hb.2.2;grind
    refine Dz (pu _ _ hpu.1 hf1) ?_;simp only[RepL];exact⟨_,_,rfl,by simp[Rep,RepL],pu _ _ hpu.2 hc1⟩
   refine⟨l,[{target:=.collected D,args:=#[]}],W1,{target:=.fn (.func fi) cs.toArray,args:=fs.toArray++#[.func (.yield l) #[] #[]]},W1,fi,(fs.toArray++#[.func (.yield l) #[] #[]])++cs.toArray,W1,run_enterLoop_outer _ _ _ _ _,?_,λ_ _=>trivial,?_,λh=>by simp[Fence.wide]at h,?_⟩
   ·have hy:Array.map a.eval #[.const (.func (.yield l) #[] #[])]=#[.func (.yield l) #[] #[]]:=by simp[Act.eval]
    simp_all[resolve,Deferred.ofValue]
   ·simp only[invoke];exact FE hok _ _
   have harr:(fs.toArray++#[.func (.yield l) #[] #[]])++cs.toArray=(fs++ .func (.yield l) #[] #[]::cs).toArray:=by apply Array.ext';simp
   rw[harr];refine(hit l (ss.w.heap.size+2) _ si _ hR hJ0 hsi (λ_ h=>h) hvals (by show _<=W1.heap.size;omega) hgsi).mono ?_;rintro en w' ⟨v,σ',rfl,rfl,hj⟩;have key:∀hp cnt st pe so2,Pair H.O0 H.l H.D so2 σ'->Way H.ss so2 σ'->Inv so2 H.e hp H.a nt (hbo,false)->(∀m,so2.al m->m.2<=cnt)->¬so2.M H.l->so2.w.heap[H.l]? =some (.loop (H.lp st pe))->st≠.busy->∃s5:Cf,(Instr.endLoop l).run P σ'.w=.ok pe s5.w/\Evo ss s5/\At (Ctx.fn P S nt hbo) s5 ⟨e,hp,cnt⟩ a0:=by
    intro hp cnt st pe so2 h1 h2 h3 h4 h8 h5 hb;have dis2:∀b,so2.O b->b<so2.w.heap.size/\¬so2.M b:=λb hb=>⟨h3.h.ou b hb,λhM=>h3.h.dis b hM hb⟩
    obtain⟨s4,hs4,o4,r4,l4,k4⟩:=HR (r':={H.lp st pe with state:=.exhausted}) dis2 h8 h5;have hOs:∀b,ss.O b->s4.O b:=λb hb=>by rw[r4.out];exact(h1.oo b).2 (.inl hb)
    let s5:Cf:={s4 with O:=ss.O}
    have h4i:=h3.h.oth o4;have o5:Oth s4 s5:=⟨rfl,rfl,rfl,rfl,rfl,λb hb=>⟨h4i.ou b (hOs b hb),λhM=>h4i.dis b hM (hOs b hb),λhf=>hf.2.1 (hOs b hb)⟩,w6 _,λ_ _=>rfl,λ_ _ _ _ h=>h,SameO.refl _⟩
    have df4:=h3.df.rd r4 h5 (.inl rfl);refine⟨s5,?_,⟨λn hn=>?_,λn hn l' hl'=>?_,λb o ho hm=>?_,rfl,A09 h2.sz r4.sz,h2.io.trans r4.io⟩,⟨h4i.oth o5,(h3.t.ev o4.ev).ev o5.ev,h3.sz,DOK.of rfl (λd hd=>?_) (df4.nd rfl) df4.le (df4.gl.ev o5.ev)⟩,λm hm=>h4 m ?_,trivial⟩
    ·have:=run_endLoop (P:=P) (w:=so2.w) h5 hb;rw[h1.w]at this;show _=Result.ok pe s4.w;rw[hs4,this,h1.w]
    ·exact⟨(r4.box n (h2.box n hn).1).1,((r4.box n (h2.box n hn).1).2).trans (h2.box n hn).2⟩
    ·obtain⟨l1,g1,g2,g3⟩:=r4.arr n (h2.box n hn).1 l' hl';obtain⟨m,q1,q2,q3⟩:=h2.arr n hn l1 g1;grind
    ·obtain⟨g1,g2⟩:=h2.old b o ho hm;grind
    ·obtain⟨r,r1,r2,r3,r4',r5⟩:=df4.all rfl d hd;exact⟨r,r1,r2,r3,r4',λh=>r5 (hOs r h)⟩
    grind
   have inv:∀{k:Int},RJ (Ctx.fn P S nt hbo) H I Pre K Q k σ'->rangePost Fence.wide 0 P l (lift (Ctx.fn P S nt hbo) ss Q) a0 (.returned v) σ'.w\/False\/k≠xs.length/\k≠-1:=by
    intro k hj;obtain⟨so2,hp,cnt,st,pe,h1,h2,h3,h4,h8,h5,h6,h7⟩:=hj;rcases h7 with⟨x,hx,hk,rfl,rfl,rfl,rfl⟩|⟨hk,c',e',rfl,rfl,hjp,hq⟩
    ·by_cases hlen:K x=xs.length
     ·obtain⟨s5,g1,g2,g3⟩:=key _ _ _ _ so2 h1 h2 h3 h4 h8 h5 (by simp);exact .inl ⟨none,s5.w,g1,s5,_,.n,rfl,g2,g3,rfl,hend x hx hlen⟩
     grind
    ·obtain⟨s5,g1,g2,g3⟩:=key _ _ _ _ so2 h1 h2 h3 h4 h8 h5 (by simp);refine .inl ⟨some c',s5.w,g1,?_⟩;rcases hjp with⟨rfl,rfl⟩|⟨i,rfl,rfl⟩
     ·exact wpIn_ret ⟨s5,_,.r,rfl,g2,g3,rfl,hq⟩
     ·exact wpIn_exit ⟨s5,_,.x i,rfl,g2,g3,rfl,hq⟩
   rcases hj with hj|hj
   ·rcases inv hj with h|h|h
    ·exact h
    ·exact h.elim
    ·exact absurd rfl h.1
   ·rcases inv hj with h|h|h
    ·exact h
    ·exact h.elim
    ·exact absurd rfl h.2
  ·simp at hc
 |region id ops d=>obtain⟨_,_,⟨_,e⟩|⟨_,_,_,_,e⟩⟩:=BM hc<;>cases e
 |seq x y=>simp only[cCode]at hc;split at hc<;>simp at hc
 |cond c x y=>simp only[cCode]at hc;split at hc<;>simp at hc
 |_=>simp[cCode]at hc
end
def Ba(rvs:List RV)(K:AV->St->Prop):AE->St->Prop|.x _,_=>False|.p _,_=>False|_,s=>∃vc xs,DK s.env s.hp rvs=some (vc,xs)/\vc/\K (one xs) s
theorem Gr{rvs:List RV}{K:AV->St->Prop}{e:Ar}{h:Hp}{c:Nat}{vc:Prop}{xs:List AV}(h1:DK e h rvs=some (vc,xs))(h2:vc)(h3:K (one xs) ⟨e,h,c⟩):Ba rvs K .r ⟨e,h,c⟩:=⟨vc,xs,h1,h2,h3⟩
def EG(env:Ar):AK->Option (Nat×List AV)
 |.call f as=>some (f,as.map λx=>Ay true (Ax env x))
 |.cv x as=>match Ay true (Ax env x)with|.clo (.func f) fst cps=>some (f,fst++as.map (λx=>Ay true (Ax env x))++cps)|_=>none
 |_=>none
def AQ(S:Tab)(rid i:Nat)(d:Option Nat)(post:List AOp)(e1:Ar)(Q:AE->St->Prop)(r:AV)(s:St):Prop:=∃(vc2:Prop)(e2:Ar)(h2:Hp),Bh S (s.cnt+1) (100*rid+(i+1)) post (BQ d r e1) s.hp=some (vc2,e2,h2)/\vc2/\Q .n ⟨e2,h2,s.cnt+1⟩
section
variable{P:Program}{S:Tab}
theorem IO(hS:TabOK P S){f:Nat}{fn:Func}{c:AC}{rvs:List RV}{args:List AV}{ntf cnt:Nat}{K:AV->St->Prop}(hf:P.funcs[f]? =some fn)(hc:Dj P fn=some (c,rvs))(hnt:fn.ntmps=ntf)(hn:args.length<=ntf){U:Cf}{h1:Hp}{vals:List Value}(hgl:Gl U)(hI:HInv U h1)(hal:∀m,U.al m->m.2<=cnt)(hv:RepL U args vals)(h:Aq (Ctx.fn P S ntf U.w.heap.size) c (Ba rvs K) ⟨BC 0 args,h1,cnt⟩):CallsIn Fence.wide 0 P f vals.toArray U.w λen w'=>∃v Z s r,en=.returned v/\Z.w=w'/\Evo U Z/\HInv Z s.hp/\(∀m,Z.al m->m.2<=s.cnt)/\Rep Z r v/\K r s:=by
 subst hnt;unfold Dj at hc;split at hc
 ·rename_i b hbd;split at hc
  ·rename_i c' r' g1 g2;simp at hc;obtain⟨rfl,rfl⟩:=hc;have hlen:=Bx hv;have hw:=h b g1 U {tmps:=vals.toArray++Array.replicate (fn.ntmps-vals.toArray.size) undef,defers:=[]} ?_
   ·refine callsIn_of_wp_marks (n:=0) hf hbd trivial (wpIn_mono hw ?_);rintro e a' w' ⟨σ',s',e',rfl,ev,h3,h4,h5⟩;have ev:Evo U σ':=ev;have key:(∃vc xs,DK s'.env s'.hp r'=some (vc,xs)/\vc/\K (one xs) s')->LeavesInM Fence.wide 0 P fn a'.tmps (λen w'=>∃v Z s r,en=.returned v/\Z.w=w'/\Evo U Z/\HInv Z s.hp/\(∀m,Z.al m->m.2<=s.cnt)/\Rep Z r v/\K r s) a'.defers .returning σ'.w:=by
     rintro⟨vc,xs,k1,k2,k3⟩;refine F6 a'.defers σ' (λb hb=>⟨h3.1.h.ou b hb,λhM=>h3.1.h.dis b hM hb⟩) (DOK.of' h3.1.df) λW ko kO kb=>?_
     have hI':Inv W s'.env s'.hp {a' with defers:=[]} fn.ntmps (U.w.heap.size,false):=⟨h3.1.h.oth ko,h3.1.t.ev ko.ev,h3.1.sz,DOK.nil (A09 h3.1.df.le ko.sz) (h3.1.df.gl.ev ko.ev)⟩
     obtain⟨us,u1,u2⟩:=FT hI' g2 k1 k2;have evρ:Evo U W:=⟨λn hn=>by rw[ko.al,ko.rb];exact ev.box n hn,λn hn l' hl'=>by rw[ko.ra];rw[ko.ln]at hl';exact ev.arr n hn l' hl',λb o hb hm=>by obtain⟨q1,q2⟩:=ev.fro b o hb hm;grind[ko.M],kO.trans ev.out,A09 ev.sz ko.sz,ev.io.trans ko.io⟩
     refine⟨_,FU u1,_,W,s',one xs,rfl,rfl,evρ,hI'.h,λm hm=>h3.2.1 m (by rw[ko.al]at hm;exact hm),?_,k3⟩;have hl':=Bx u2;unfold one;split
     ·grind[RepL]
     ·rename_i hno;have hne:us.toArray.size≠1:=by
       intro h1;simp at h1;rw[h1]at hl';cases xs with
       |nil=>simp at hl'
       |cons x xs=>cases xs<;>grind
      rw[dif_neg hne];simp only[Rep];exact⟨us,rfl,u2⟩
    cases e with
    |normal=>simp[AE.of]at h4;subst h4;exact key h5
    |ret=>simp[AE.of]at h4;subst h4;exact key h5
    |exit i=>simp[AE.of]at h4;subst h4;exact h5.elim
    |goto l=>simp[AE.of]at h4
    |panic c=>obtain⟨v,rfl,rfl⟩:=AE.of_panic h4;exact h5.elim
    |outgrown=>simp[AE.of]at h4
   ·refine⟨⟨hI,λt=>?_,by show _=fn.ntmps;simp;omega,DOK.nil (w6 _) hgl⟩,hal,trivial⟩;rw[F5];split
    ·rename_i ht;simp only[A16,A08,true_and]at ht;have hg:args[t]? =some args[t]:=by grind
     obtain⟨x,g1,g2⟩:=C1 hv t _ hg;have e1:args.getD (t-0) .un=args[t]:=by simp[ht]
     have e2:(vals.toArray++Array.replicate (fn.ntmps-vals.toArray.size) undef).getD t undef=x:=by simp_all[A30]
     rw[e1,e2];exact g2
    ·simp[Rep]
  ·simp at hc
 ·simp at hc
end
theorem TV{P:Program}{nt:Nat}{ops:Array Oper}{o:Oper}{yo:AOp}{f:Nat}{as:List Opd}(h:JI P nt ops o=some yo)(hk:yo.k=.call f as):∃c,o.op=.call c/\c.callee=.value (.func f)/\as=c.args.toList.map Al/\o.dst=yo.d/\cG ops o.guard=some yo.g:=by
 unfold JI at h;split at h
 ·simp at h
 split at h
 ·simp at h;subst h;cases ho:o.op with
  |call c=>rw[ho]at hk;simp only[cK,H9]at hk;grind
  |_=>
   rw[ho]at hk;simp only[cK,Hk,E3,I9,Ja,Jb,Jc,KI,Jd]at hk
   (repeat' (split at hk))<;>cases hk
 ·simp at h
section
variable{V:Ctx}
theorem Jk{P:Program}{U:Cf}{env:Ar}{hp:Hp}{a:Act}{nt:Nat}{hb:HB}{ops:Array Oper}{o:Oper}{yo:AOp}{f:Nat}{args:List AV}(hI:Inv U env hp a nt hb)(hc:JI P nt ops o=some yo)(hok:C0 P f)(hca:EG env yo.k=some (f,args)):(∀c,o.op≠.defer c)/\cG ops o.guard=some yo.g/\o.dst=yo.d/\∃vals:List Value,RepL U args vals/\(execOp a.eval o).run P U.w=.ok (.enter f vals.toArray) U.w:=by
 cases hk:yo.k with
 |call f' as=>
  rw[hk]at hca;obtain⟨rfl,rfl⟩:=hca;obtain⟨c,k1,k2,rfl,k3,k4⟩:=TV hc hk;refine⟨by grind,k4,k3,c.args.toList.map a.eval,F2 rfl hI.t c.args.toList,?_⟩;have hr:=λargs=>FE hok args U.w
  simp only[execOp,k1,resolve,k2,Sem.run_bind,Deferred.ofValue,Sem.run_pure,Result.andThen,invoke,Act.eval,hr];congr 2;grind
 |cv x as=>
  rw[hk]at hca;simp only[EG]at hca;split at hca
  ·rename_i fi fst cps hx;obtain⟨rfl,rfl⟩:=hca;obtain⟨c,y,k1,k2,rfl,rfl,k3,k4⟩:=TT hc hk;have hX:=EZ rfl hI.t y;rw[hx]at hX;obtain⟨xs,ys,e1,e2,e3⟩:=hX;refine⟨by grind,k4,k3,xs++c.args.toList.map a.eval++ys,Dz (Dz e2 (F2 rfl hI.t c.args.toList)) e3,?_⟩;have hr:=λargs=>FE hok args U.w
   simp_all[execOp,resolve,Deferred.ofValue,invoke]
  ·simp at hca
 |_=>rw[hk]at hca;simp[EG]at hca
theorem lP(hΓ:V.OK)(i:Nat){rid:Nat}{ops:List AOp}{yo:AOp}{Q:AE->St->Prop}{e e1:Ar}{h h1:Hp}{c:Nat}{vc:Prop}{f:Nat}{args:List AV}{fn:Func}{ac:AC}{rvs:List RV}{ntf:Nat}(hf:V.P.funcs[f]? =some fn)(hcf:Dj V.P fn=some (ac,rvs))(hnt:fn.ntmps=ntf)(hok:C0 V.P f)(hyo:ops[i]? =some yo)(hex:Bh V.S (c+1) (100*rid) (ops.take i) e h=some (vc,e1,h1))(hvc:vc)(hg:D8 e1 yo.g=some true)(hca:EG e1 yo.k=some (f,args))(hn:args.length<=ntf)(hbody:∀hb,Aq (Ctx.fn V.P V.S ntf hb) ac (Ba rvs (AQ V.S rid i yo.d (ops.drop (i+1)) e1 Q)) ⟨BC 0 args,h1,c+1⟩):Aq V (.reg rid ops) Q ⟨e,h,c⟩:=by
 intro code hc U a hA;cases code with
 |region id ops' d=>
  simp only[cCode]at hc;obtain⟨l0,hx0,⟨rfl,e0⟩|⟨_,_,_,_,e0⟩⟩:=BM hc
  ·cases e0
   refine wpIn_region ?_;obtain⟨c1,c2⟩:=CM hx0;obtain⟨t1,t2⟩:=Cj i hx0;obtain⟨_,t3⟩:=Cj (i+1) hx0;have hi:i<ops.length:=(y5.1 hyo).1;have hsz:ops.length=ops'.size:=c1.trans (by simp);have hi':i<ops'.size:=by omega
   have ho:ops'[i]? =some ops'[i]:=w7 hi';obtain⟨yo',g1,g2⟩:=c2 i ops'[i] (by simp);rw[hyo]at g1;cases g1
   have hr:List.range ops'.size=List.range' 0 (ops'.toList.take i).length++(i::List.range' (i+1) (ops'.toList.drop (i+1)).length):=by
    have e1:(ops'.toList.take i).length=i:=by simp;omega
    have e2:(ops'.toList.drop (i+1)).length=ops'.size-(i+1):=by simp
    rw[e1,e2,A36,<-A38];have:=List.range'_append_1 (s:=0) (m:=i) (n:=ops'.size-(i+1)+1);grind
   rw[hr];refine E0 hΓ (cnt:=c) (100*rid) e _ (ops'.toList.take i) 0 (ops.take i) U e e1 h h1 a vc (λ_ _=>rfl) (λj hj=>?_) t1 hex hvc hA.1 (λm hm=>.inl (hA.2.1 m hm)) λa1 σ1 ev1 hI1 hal1 hfar1=>?_
   ·grind
   rw[wpOpsIn_cons];unfold wpOpIn;simp only[ho];obtain⟨hno,k4,k3,vals,hv,hrun⟩:=Jk hI1 g2 hok hca;have hw:=DA hI1.t k4 hg;simp only[hw,if_true];refine⟨λf _=>hΓ.F.fn f,?_⟩;rw[Oper.semAt_eq _ a1.eval _ hno,hrun];refine⟨λh=>by simp[hΓ.F.depth]at h,hΓ.F.calls ((callsIn_wide.1 (IO hΓ.S hf hcf hnt hn hI1.df.gl hI1.h (cnt:=c+1) (λm hm=>by rcases hal1 m hm with h|h<;>omega) hv (hbody _))).mono ?_)⟩;rintro en w' ⟨v,Z,s,r,rfl,rfl,evτ,hτ,alτ,rv,vc2,e2,h2,q1,q2,q3⟩;have hd:∀k,ops'[i].dst=some k->k<a1.tmps.size:=by rw[k3];intro d hd;rw[hI1.sz];exact C9 g2 d hd
   have hI2:Inv Z (BQ yo.d r e1) s.hp (a1.put ops'[i].dst v) V.nt V.hb:=by rw[<-k3];exact⟨hτ,(hI1.t.mono evτ).put hd rv,by rw[Act.size_put];exact hI1.sz,by rw[Act.defers_put,DL (λd hd=>C9 g2 d (k3▸hd)) (show V.nt<=dk V.nt from A55 _ _)];exact hI1.df.mono evτ⟩
   exact FS hΓ (ops:=ops') (Q:=Q) (cnt:=s.cnt) (100*rid) e U hA.2.2 (ops'.toList.drop (i+1)) (i+1) (ops.drop (i+1)) Z _ _ _ _ _ vc2 (λt ht=>(DL (C9 g2) ht).trans (hfar1 t ht)) (λj=>by simp) (by simp;omega) t3 q1 q2 (ev1.trans evτ) hI2 (λm hm=>.inl (alτ m hm)) q3
  ·cases e0
 |seq x y=>simp only[cCode]at hc;split at hc<;>simp at hc
 |cond c x y=>simp only[cCode]at hc;split at hc<;>simp at hc
 |rangeFunc f ps x y=>simp only[cCode]at hc;split at hc<;>simp at hc
 |_=>simp[cCode]at hc
end
namespace C
abbrev o(d:Nat)(k:AK):AOp:=⟨some d,none,k⟩
abbrev w(d t:Nat)(k:AK):AOp:=⟨some d,some (t,true),k⟩
abbrev v(d t:Nat)(k:AK):AOp:=⟨some d,some (t,false),k⟩
abbrev u(k:AK):AOp:=⟨none,none,k⟩
abbrev i(n:Int):Opd:=.k (.v (.int .i64 n))
abbrev ff:Opd:=.k (.v (.bool false))
abbrev tt:Opd:=.k (.v (.bool true))
abbrev z:AV:=.v (.int .i64 0)
abbrev m(d s:Nat):AOp:=⟨some d,none,.mv (.t s)⟩
abbrev c(d f:Nat)(l:List Opd):AOp:=⟨some d,none,.call f l⟩
end C
attribute [go_sem] C.o C.w C.v C.u C.i C.ff C.tt C.z C.m C.c
end Go.Proofs.YtjdchfljifacoaaGreatDoor.Am
